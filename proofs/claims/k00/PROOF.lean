import PyProof.Rows.All
import Wide.All
import OpenK.AllK
import Wide.FinOn
import KE.KStateDown
import HandS.ForMost
import HandS.ForExc
import HandS.ExcInit
import HandS.ForSpec
import HandS.Defaults
import HandS.Wide
import HandS.Gcd
import HandS.IsInst
import HandS.TupAny
import HandS.Conv
import HandS.Codes
import HandS.Head0
import HandS.Head1
import HandS.Head2
import HandS.Head3
import HandS.HeadEnd
import HandS.HeadHook1
import HandS.HeadHook2
import HandS.HeadHook4
import HandS.Lambda
import HandS.WideBits
import HandS.TryOnly
import HandS.Style
import PyProof.ReprRoads
import PyProof.ReprBulk
import PyProof.CallFns
import HandS.ExcField
import HandS.TryMany
import HandS.EndTab
import HandS.TupLe
import HandS.Small
import HandS.MakeKw
import HandS.OwnEq
import HandS.DeepEq
import HandS.TupMul
import HandS.Exc
import KE.KExcIs
import PySem.Challenge.RW_seenmodels_k00_errors_made_by_hand

set_option Elab.async false
set_option linter.all false
set_option maxRecDepth 100000
set_option maxHeartbeats 4000000
/-! # The pure layer: what an expression or a statement of the text does, told by a plain Lean function on plain data.
D: plain data. Res: an end (a value, an error of the program's own, or nothing is said). S: the slots of a def (each frozen, or a list or dict of its own) and the pen. -/
namespace SM
open PySem PySem.Spec PyProof.Rows L2

/-- a lambda of the text -/
structure LamT where
  q : Str
  ps : Arguments
  body : Expr
  sc : Scope
inductive D where
  | non | bl (b : Bool) | int (i : Int) | str (x : Str)
  | tup (ds : List D) | lst (ds : List D)
  | dK (ks : List Key) (ds : List D) | dT (ks : List (List Key)) (ds : List D)
  | ins (c : Str) (ns : List Str) (ds : List D)
  | pen | glo (x : Str) | ty (n : String)
  | lam (j : Nat) (cs : List (Str × Addr)) | clo (j : Nat) (ds : List D)
  | xo (c : Str) (ns : List Str) (ds : List D)

inductive Res (α : Type) where
  | ok (a : α)
  | exn (c : Str) (ns : List Str) (ds : List D)
  | stuck

def Res.bind {α β : Type} : Res α → (α → Res β) → Res β
  | .ok a, f => f a
  | .exn c ns ds, _ => .exn c ns ds
  | .stuck, _ => .stuck
instance : Monad Res where
  pure := .ok
  bind := Res.bind
theorem Res.ok_bind {α β : Type} (a : α) (f : α → Res β) : (Res.ok a >>= f) = f a := rfl
theorem Res.stuck_bind {α β : Type} (f : α → Res β) : ((Res.stuck : Res α) >>= f) = Res.stuck := rfl
theorem Res.exn_bind {α β : Type} (c : Str) (ns : List Str) (ds : List D) (f : α → Res β) : ((Res.exn c ns ds : Res α) >>= f) = Res.exn c ns ds := rfl
theorem Res.pure_eq {α : Type} (a : α) : (pure a : Res α) = .ok a := rfl

inductive Sl where
  | no | fz (d : D) | ow (d : D)
structure Pn where
  cells : List Int
  at_ : Int
  digits : Int
  count : Int
  fold : Int
/-- the one thing that is changed in place: the pen, or the object whose method runs -/
inductive Mu where
  | p (pn : Pn) | o (d : D)
instance : Coe Pn Mu := ⟨.p⟩
structure S where
  sl : List Sl
  pn : Option Mu
inductive Fl where
  | nx | rt (d : D) | bk | ct

structure Sig where
  K : PySem.W.Frag
  mg : Str → Option Value
  pen : Option Addr
  lam : Nat → LamT
/-- a law's lambdas -/
class Tab where
  tab : Nat → LamT
  /-- whose lambdas' codes stand in a table -/
  nm : Addr → Str
  own : Addr → Prop
variable [Tab]

/-- the function object of a lambda, made with the cells cl -/
def LamO (a : Addr) (L : LamT) (cl : List (Str × Addr)) (c' : Addr) : HO := .ext fun h => ∃ pm ctv, h.get? a = some (PySem.W.kla_obj "<lambda>" L.q L.ps L.body L.sc cl pm c' ctv)
/-- one cell, known to the object -/
def CellO (c : Addr) (o : Obj) : HO := .ext fun h => h.get? c = some o
inductive Cells (H : Hp) : List (Str × Addr) → List V → Prop
  | nil : Cells H [] []
  | cons {n c o u v r vs} : H c = some (CellO c o) → o.data = .cell (some u) → L2.RelV v u → Cells H r vs → Cells H ((n, c) :: r) (v :: vs)
def lamN (sc : Scope) : List Str := (L2.cloFrom [] sc.names []).map (·.1)

mutual
/-- v stands for d; every object on the way lies where ok says -/
inductive Rep (Γ : Sig) (ok : Addr → Prop) (H : Hp) : V → D → Prop
  | non : Rep Γ ok H .non .non
  | bl (b) : Rep Γ ok H (.bl b) (.bl b)
  | int (i) : Rep Γ ok H (.int i) (.int i)
  | str (x) : Rep Γ ok H (.str x) (.str x)
  | tup {a vs ds} : H a = some (.tup vs) → Reps Γ ok H vs ds → Rep Γ ok H (.ref a) (.tup ds)
  | lst {a vs ds} : ok a → H a = some (.lst vs) → Reps Γ ok H vs ds → Rep Γ ok H (.ref a) (.lst ds)
  | dK {a kvs ds} : ok a → Rd H a (.dK kvs) → Reps Γ ok H (kvs.map (·.2)) ds → Rep Γ ok H (.ref a) (.dK (kvs.map (·.1)) ds)
  | dT {a kvs ds} : ok a → Rd H a (.dT kvs) → Reps Γ ok H (kvs.map (·.2)) ds → Rep Γ ok H (.ref a) (.dT (kvs.map (·.1)) ds)
  | ins {a c C dx fs ds} : ok a → Γ.mg c = some (.ref C) → H a = some (.ins C dx fs) → Reps Γ ok H (fs.map (·.2)) ds → Rep Γ ok H (.ref a) (.ins c (fs.map (·.1)) ds)
  | pen {p} : Γ.pen = some p → Rep Γ ok H (.ref p) .pen
  | glo {x a} : Γ.mg x = some (.ref a) → Rep Γ ok H (.ref a) (.glo x)
  | ty (n) : Rep Γ ok H (.ty n) (.ty n)
  | lam {a c'} (j cs) : H a = some (LamO a (Γ.lam j) (L2.cloFrom cs (Γ.lam j).sc.names []) c') → H c' = some (LamX.CodeO c' (Γ.lam j).q) → Rep Γ ok H (.ref a) (.lam j cs)
  | clo {a c' cl vs ds} (j) : H a = some (LamO a (Γ.lam j) cl c') → H c' = some (LamX.CodeO c' (Γ.lam j).q) → cl.map (·.1) = lamN (Γ.lam j).sc → (∀ x y c, cl.lookup x = some c → cl.lookup y = some c → x = y) → Cells H cl vs → Reps Γ ok H vs ds → Rep Γ ok H (.ref a) (.clo j ds)
  | xo {a C dd c fs ds} : Γ.mg c = some (.ref C) → H a = some (exo a C (some dd)) → H dd = some (exd dd fs) → Reps Γ ok H (fs.map (·.2)) ds → Rep Γ ok H (.ref a) (.xo c (fs.map (·.1)) ds)
  | xo0 {a C c} : Γ.mg c = some (.ref C) → H a = some (exo a C none) → Rep Γ ok H (.ref a) (.xo c [] [])
inductive Reps (Γ : Sig) (ok : Addr → Prop) (H : Hp) : List V → List D → Prop
  | nil : Reps Γ ok H [] []
  | cons {v vs d ds} : Rep Γ ok H v d → Reps Γ ok H vs ds → Reps Γ ok H (v :: vs) (d :: ds)
end

/-- what may be read at ok stays readable -/
structure Keeps (ok : Addr → Prop) (H H' : Hp) : Prop where
  t : ∀ a vs, H a = some (.tup vs) → H' a = some (.tup vs)
  l : ∀ a vs, ok a → H a = some (.lst vs) → H' a = some (.lst vs)
  k : ∀ a vs, ok a → Rd H a (.dK vs) → Rd H' a (.dK vs)
  d : ∀ a vs, ok a → Rd H a (.dT vs) → Rd H' a (.dT vs)
  i : ∀ a C dx fs, ok a → H a = some (.ins C dx fs) → H' a = some (.ins C dx fs)
  e : ∀ a φ, H a = some (.ext φ) → H' a = some (.ext φ)
theorem Cells.mono {H H' : Hp} (h : ∀ a φ, H a = some (.ext φ) → H' a = some (.ext φ)) : ∀ {cl : List (Str × Addr)} {vs : List V}, Cells H cl vs → Cells H' cl vs
  | _, _, .nil => .nil
  | _, _, .cons h2 h3 h4 r => .cons (h _ _ h2) h3 h4 (Cells.mono h r)

theorem Rd.ne {H : Hp} {a : Addr} {u : HO} (h : Rd H a u) : H a ≠ none := fun e => by
  rcases h with h | ⟨o, h⟩
  · rw [e] at h; cases h
  · rw [e] at h; cases h

mutual
theorem Rep.mono {Γ : Sig} {ok ok' : Addr → Prop} {H H' : Hp} (h : Keeps ok H H') (w : ∀ a, ok a → H a ≠ none → ok' a) : ∀ (d : D) (v : V), Rep Γ ok H v d → Rep Γ ok' H' v d
  | .non, _, r => by cases r; exact .non
  | .bl _, _, r => by cases r; exact .bl _
  | .int _, _, r => by cases r; exact .int _
  | .str _, _, r => by cases r; exact .str _
  | .tup ds, _, r => by
    cases r with
    | tup h2 h3 => exact .tup (h.t _ _ h2) (Reps.mono h w ds _ h3)
  | .lst ds, _, r => by
    cases r with
    | lst h1 h2 h3 => exact .lst (w _ h1 (by rw [h2]; exact nofun)) (h.l _ _ h1 h2) (Reps.mono h w ds _ h3)
  | .dK ks ds, _, r => by
    cases r with
    | dK h1 h2 h3 => exact .dK (w _ h1 (Rd.ne h2)) (h.k _ _ h1 h2) (Reps.mono h w ds _ h3)
  | .dT ks ds, _, r => by
    cases r with
    | dT h1 h2 h3 => exact .dT (w _ h1 (Rd.ne h2)) (h.d _ _ h1 h2) (Reps.mono h w ds _ h3)
  | .ins c ns ds, _, r => by
    cases r with
    | ins h1 h2 h3 h4 => exact .ins (w _ h1 (by rw [h3]; exact nofun)) h2 (h.i _ _ _ _ h1 h3) (Reps.mono h w ds _ h4)
  | .pen, _, r => by
    cases r with
    | pen h1 => exact .pen h1
  | .glo _, _, r => by
    cases r with
    | glo h1 => exact .glo h1
  | .ty _, _, r => by cases r; exact .ty _
  | .lam j cs, _, r => by
    cases r with
    | lam _ _ h2 h4 => exact .lam j cs (h.e _ _ h2) (h.e _ _ h4)
  | .clo j ds, _, r => by
    cases r with
    | clo _ h2 h4 h5 h8 h6 h7 => exact .clo j (h.e _ _ h2) (h.e _ _ h4) h5 h8 (h6.mono h.e) (Reps.mono h w ds _ h7)
  | .xo c ns ds, _, r => by
    cases r with
    | xo h1 h2 h3 h4 => exact .xo h1 (h.e _ _ h2) (h.e _ _ h3) (Reps.mono h w ds _ h4)
    | xo0 h1 h2 => exact .xo0 h1 (h.e _ _ h2)
theorem Reps.mono {Γ : Sig} {ok ok' : Addr → Prop} {H H' : Hp} (h : Keeps ok H H') (w : ∀ a, ok a → H a ≠ none → ok' a) : ∀ (ds : List D) (vs : List V), Reps Γ ok H vs ds → Reps Γ ok' H' vs ds
  | [], _, r => by cases r; exact .nil
  | d :: ds, _, r => by
    cases r with
    | cons h1 h2 => exact .cons (Rep.mono h w d _ h1) (Reps.mono h w ds _ h2)
end

theorem Reps.length {Γ : Sig} {ok : Addr → Prop} {H : Hp} : ∀ {vs : List V} {ds : List D}, Reps Γ ok H vs ds → vs.length = ds.length
  | [], _, r => by cases r; rfl
  | _ :: vs, _, r => by
    cases r with
    | cons _ h2 => simp [Reps.length h2]
theorem Reps.get {Γ : Sig} {ok : Addr → Prop} {H : Hp} : ∀ {vs : List V} {ds : List D} {i : Nat} {d : D}, Reps Γ ok H vs ds → ds[i]? = some d → ∃ v, vs[i]? = some v ∧ Rep Γ ok H v d
  | [], _, i, d, r, e => by cases r; simp at e
  | v :: vs, _, 0, d, r, e => by
    cases r with
    | cons h1 h2 => simp at e; subst e; exact ⟨v, rfl, h1⟩
  | v :: vs, _, i + 1, d, r, e => by
    cases r with
    | cons h1 h2 =>
      obtain ⟨w, e1, e2⟩ := Reps.get (i := i) h2 (by simpa using e)
      exact ⟨w, by simpa using e1, e2⟩
theorem Reps.getV {Γ : Sig} {ok : Addr → Prop} {H : Hp} : ∀ {vs : List V} {ds : List D} {i : Nat} {v : V}, Reps Γ ok H vs ds → vs[i]? = some v → ∃ d, ds[i]? = some d ∧ Rep Γ ok H v d
  | [], _, i, d, r, e => by simp at e
  | v :: vs, _, 0, d, r, e => by
    cases r with
    | cons h1 h2 => simp at e; subst e; exact ⟨_, rfl, h1⟩
  | v :: vs, _, i + 1, d, r, e => by
    cases r with
    | cons h1 h2 =>
      obtain ⟨w, e1, e2⟩ := Reps.getV (i := i) h2 (by simpa using e)
      exact ⟨w, by simpa using e1, e2⟩
theorem Reps.append {Γ : Sig} {ok : Addr → Prop} {H : Hp} : ∀ {vs ws : List V} {ds es : List D}, Reps Γ ok H vs ds → Reps Γ ok H ws es → Reps Γ ok H (vs ++ ws) (ds ++ es)
  | [], _, _, _, r, q => by cases r; exact q
  | v :: vs, _, _, _, r, q => by
    cases r with
    | cons h1 h2 => exact .cons h1 (Reps.append h2 q)
theorem Reps.take {Γ : Sig} {ok : Addr → Prop} {H : Hp} : ∀ (n : Nat) {vs : List V} {ds : List D}, Reps Γ ok H vs ds → Reps Γ ok H (vs.take n) (ds.take n)
  | 0, _, _, _ => by simp only [List.take_zero]; exact .nil
  | n + 1, [], _, r => by cases r; exact .nil
  | n + 1, v :: vs, _, r => by
    cases r with
    | cons h1 h2 => exact .cons h1 (Reps.take n h2)
theorem Reps.drop {Γ : Sig} {ok : Addr → Prop} {H : Hp} : ∀ (n : Nat) {vs : List V} {ds : List D}, Reps Γ ok H vs ds → Reps Γ ok H (vs.drop n) (ds.drop n)
  | 0, _, _, r => r
  | n + 1, [], _, r => by cases r; exact .nil
  | n + 1, v :: vs, _, r => by
    cases r with
    | cons h1 h2 => exact Reps.drop n h2
theorem Reps.set {Γ : Sig} {ok : Addr → Prop} {H : Hp} {v : V} {d : D} (q : Rep Γ ok H v d) : ∀ (i : Nat) {vs : List V} {ds : List D}, Reps Γ ok H vs ds → Reps Γ ok H (vs.set i v) (ds.set i d)
  | _, [], _, r => by cases r; exact .nil
  | 0, w :: vs, _, r => by
    cases r with
    | cons h1 h2 => exact .cons q h2
  | i + 1, w :: vs, _, r => by
    cases r with
    | cons h1 h2 => exact .cons h1 (Reps.set q i h2)

/-- not a table -/
def Fix (o : HO) : Prop := ∀ ps, o ≠ .tbl ps
/-- all that was tracked stays, but at m, and the tables grow; tuples stay -/
structure Ext (m : Option Addr) (H H' : Hp) : Prop where
  o : ∀ a o, m ≠ some a → Fix o → H a = some o → H' a = some o
  t : ∀ a vs, H a = some (.tup vs) → H' a = some (.tup vs)
  n : ∀ a, H a ≠ none → H' a ≠ none
  tb : ∀ P, LamX.TabS H P (Tab.nm P) → LamX.TabS H' P (Tab.nm P)
  x : ∀ a φ, H a = some (.ext φ) → H' a = some (.ext φ)
theorem Ext.refl (m : Option Addr) (H : Hp) : Ext m H H := ⟨fun _ _ _ _ h => h, fun _ _ h => h, fun _ h => h, fun _ h => h, fun _ _ h => h⟩
theorem Ext.trans {m : Option Addr} {H H1 H2 : Hp} (a : Ext m H H1) (b : Ext m H1 H2) : Ext m H H2 := ⟨fun c o n f h => b.o c o n f (a.o c o n f h), fun c vs h => b.t c vs (a.t c vs h), fun c h => b.n c (a.n c h), fun P h => b.tb P (a.tb P h), fun c φ h => b.x c φ (a.x c φ h)⟩
theorem tab_wrote {H : Hp} {a P : Addr} {q : Str} {o o' : HO} (t : LamX.TabS H P q) (ho : H a = some o) (hf : Fix o) (hx : ∀ φ, o ≠ .ext φ) : LamX.TabS (upd H a o') P q := by
  obtain ⟨ps, h1, h2, h3⟩ := t
  have nP : P ≠ a := fun z => by
    rw [z, ho] at h1
    exact hf ps (Option.some.inj h1)
  refine ⟨ps, by rw [upd_ne nP]; exact h1, h2, fun pos cv hc => ?_⟩
  obtain ⟨c, e1, e2⟩ := h3 pos cv hc
  refine ⟨c, e1, ?_⟩
  rw [upd_ne fun z => ?_]
  · exact e2
  · rw [z, ho] at e2
    exact hx _ (Option.some.inj e2)
/-- a list, dict, instance that the ground does not hold is written -/
theorem Ext.wrote {m : Option Addr} {B H : Hp} {a : Addr} {o o' : HO} (e : Ext m B H) (hB : B a = none) (ho : H a = some o) (hf : Fix o) (hx : ∀ φ, o ≠ .ext φ) : Ext m B (upd H a o') := by
  have ne : ∀ {b}, B b ≠ none → b ≠ a := fun h z => h (z ▸ hB)
  have ne' : ∀ {b u}, B b = some u → b ≠ a := fun h z => by rw [z, hB] at h; cases h
  exact ⟨fun c u n f h => by rw [upd_ne (ne' h)]; exact e.o c u n f h, fun c vs h => by rw [upd_ne (ne' h)]; exact e.t c vs h, fun c h => by rw [upd_ne (ne h)]; exact e.n c h, fun P h => tab_wrote (e.tb P h) ho hf hx, fun c φ h => by rw [upd_ne (ne' h)]; exact e.x c φ h⟩
theorem Ext.low {m : Option Addr} {H H' : Hp} (e : Ext none H H') : Ext m H H' := ⟨fun a o _ f h => e.o a o nofun f h, e.t, e.n, e.tb, e.x⟩
theorem Ext.of_same {m : Option Addr} {H H' : Hp} (h : Same H H') : Ext m H H' := ⟨fun a o _ _ e => h a o e, fun a vs r => h a _ r, fun a n => by
  cases q : H a with
  | none => exact absurd q n
  | some o => rw [h a o q]; exact nofun, fun P t => t.ext h, fun a φ e => h a _ e⟩
theorem Same.new {H : Hp} {p : Addr} {o : HO} (h : H p = none) : Same H (upd H p o) := fun a u e => by
  rw [upd_ne (ne_of_none e h)]; exact e
theorem Ext.new {m : Option Addr} {H : Hp} {p : Addr} {o : HO} (h : H p = none) : Ext m H (upd H p o) := Ext.of_same (Same.new h)
theorem Ext.keeps {m : Option Addr} {ok : Addr → Prop} {H H' : Hp} (h : Ext m H H') (hm : ∀ a, ok a → m ≠ some a) : Keeps ok H H' where
  t := h.t
  l := fun a vs ha r => h.o a _ (hm a ha) (fun _ => nofun) r
  k := fun a vs ha r => r.elim (fun r => .inl (h.o a _ (hm a ha) (fun _ => nofun) r)) fun ⟨o, r⟩ => .inr ⟨o, h.o a _ (hm a ha) (fun _ => nofun) r⟩
  d := fun a vs ha r => r.elim (fun r => .inl (h.o a _ (hm a ha) (fun _ => nofun) r)) fun ⟨o, r⟩ => .inr ⟨o, h.o a _ (hm a ha) (fun _ => nofun) r⟩
  i := fun a C dx fs ha r => h.o a _ (hm a ha) (fun _ => nofun) r
  e := h.x
theorem Keeps.refl (ok : Addr → Prop) (H : Hp) : Keeps ok H H := ⟨fun _ _ h => h, fun _ _ _ h => h, fun _ _ _ h => h, fun _ _ _ h => h, fun _ _ _ _ _ h => h, fun _ _ h => h⟩
/-- an object outside of ok, no tuple, is written -/
theorem Keeps.upd {ok : Addr → Prop} {H : Hp} {a : Addr} {o : HO} (ha : ¬ ok a) (ht : ∀ vs, H a ≠ some (.tup vs)) (hx : ∀ φ, H a ≠ some (.ext φ)) : Keeps ok H (upd H a o) := by
  have e : ∀ b, ok b → L2.upd H a o b = H b := fun b hb => upd_ne fun z => ha (z ▸ hb)
  refine ⟨fun b vs r => ?_, fun b vs hb r => ?_, fun b vs hb r => ?_, fun b vs hb r => ?_, fun b C dx fs hb r => by rw [e b hb]; exact r, fun b φ r => ?_⟩
  · have z : b ≠ a := fun z => ht vs (z ▸ r)
    rw [upd_ne z]
    exact r
  rotate_left 3
  · have z : b ≠ a := fun z => hx φ (z ▸ r)
    rw [upd_ne z]
    exact r
  · rw [e b hb]; exact r
  all_goals
    unfold Rd at r ⊢
    rw [e b hb]
    exact r

/-- a list or dict of the def's own at a -/
inductive RepO (Γ : Sig) (ok : Addr → Prop) (H : Hp) (a : Addr) : D → Prop
  | lst {vs ds} : H a = some (.lst vs) → Reps Γ ok H vs ds → RepO Γ ok H a (.lst ds)
  | dK {kvs ds} : H a = some (.dK kvs) → Reps Γ ok H (kvs.map (·.2)) ds → RepO Γ ok H a (.dK (kvs.map (·.1)) ds)
  | dT {kvs ds} : H a = some (.dT kvs) → Reps Γ ok H (kvs.map (·.2)) ds → RepO Γ ok H a (.dT (kvs.map (·.1)) ds)
  | ins {c C dx fs ds} : Γ.mg c = some (.ref C) → H a = some (.ins C dx fs) → Reps Γ ok H (fs.map (·.2)) ds → RepO Γ ok H a (.ins c (fs.map (·.1)) ds)
theorem RepO.mono {Γ : Sig} {ok ok' : Addr → Prop} {H H' : Hp} {a : Addr} {d : D} (r : RepO Γ ok H a d) (h : Keeps ok H H') (w : ∀ a, ok a → H a ≠ none → ok' a) (e : ∀ o, Fix o → H a = some o → H' a = some o) : RepO Γ ok' H' a d := by
  cases r with
  | lst h1 h2 => exact .lst (e _ (fun _ => nofun) h1) (Reps.mono h w _ _ h2)
  | dK h1 h2 => exact .dK (e _ (fun _ => nofun) h1) (Reps.mono h w _ _ h2)
  | dT h1 h2 => exact .dT (e _ (fun _ => nofun) h1) (Reps.mono h w _ _ h2)
  | ins h0 h1 h2 => exact .ins h0 (e _ (fun _ => nofun) h1) (Reps.mono h w _ _ h2)
/-- it may be handed on, frozen -/
theorem RepO.froze {Γ : Sig} {ok ok' : Addr → Prop} {H : Hp} {a : Addr} {d : D} (r : RepO Γ ok H a d) (w : ∀ a, ok a → H a ≠ none → ok' a) (ha : ok' a) : Rep Γ ok' H (.ref a) d := by
  cases r with
  | lst h1 h2 => exact .lst ha h1 (Reps.mono (Keeps.refl _ _) w _ _ h2)
  | dK h1 h2 => exact .dK ha (.inl h1) (Reps.mono (Keeps.refl _ _) w _ _ h2)
  | dT h1 h2 => exact .dT ha (.inl h1) (Reps.mono (Keeps.refl _ _) w _ _ h2)
  | ins h0 h1 h2 => exact .ins ha h0 h1 (Reps.mono (Keeps.refl _ _) w _ _ h2)
theorem RepO.noTup {Γ : Sig} {ok : Addr → Prop} {H : Hp} {a : Addr} {d : D} (r : RepO Γ ok H a d) : ∀ vs, H a ≠ some (.tup vs) := fun vs q => by
  cases r with
  | lst h1 h2 => rw [h1] at q; cases q
  | dK h1 h2 => rw [h1] at q; cases q
  | dT h1 h2 => rw [h1] at q; cases q
  | ins h0 h1 h2 => rw [h1] at q; cases q
theorem RepO.noX {Γ : Sig} {ok : Addr → Prop} {H : Hp} {a : Addr} {d : D} (r : RepO Γ ok H a d) : ∀ φ, H a ≠ some (.ext φ) := fun φ q => by
  cases r with
  | lst h1 h2 => rw [h1] at q; cases q
  | dK h1 h2 => rw [h1] at q; cases q
  | dT h1 h2 => rw [h1] at q; cases q
  | ins h0 h1 h2 => rw [h1] at q; cases q
theorem RepO.plain {Γ : Sig} {ok : Addr → Prop} {H : Hp} {a : Addr} {d : D} (r : RepO Γ ok H a d) : ∃ o, H a = some o ∧ Fix o ∧ ∀ φ, o ≠ .ext φ := by
  cases r with
  | lst h1 h2 => exact ⟨_, h1, fun _ => nofun, fun _ => nofun⟩
  | dK h1 h2 => exact ⟨_, h1, fun _ => nofun, fun _ => nofun⟩
  | dT h1 h2 => exact ⟨_, h1, fun _ => nofun, fun _ => nofun⟩
  | ins h0 h1 h2 => exact ⟨_, h1, fun _ => nofun, fun _ => nofun⟩
theorem RepO.there {Γ : Sig} {ok : Addr → Prop} {H : Hp} {a : Addr} {d : D} (r : RepO Γ ok H a d) : ∃ o, H a = some o := by
  cases r with
  | lst h1 h2 => exact ⟨_, h1⟩
  | dK h1 h2 => exact ⟨_, h1⟩
  | dT h1 h2 => exact ⟨_, h1⟩
  | ins h0 h1 h2 => exact ⟨_, h1⟩

/-- the slot i holds a list or dict of its own, at a -/
def OwnAt (s : S) (σ : L2.St) (i : Nat) (a : Addr) : Prop := (∃ d, s.sl[i]? = some (.ow d)) ∧ σ[i]? = some (some (.ref a))
def Ok (Γ : Sig) (okA : Addr → Prop) (s : S) (σ : L2.St) : Addr → Prop := fun a => okA a ∧ Γ.pen ≠ some a ∧ ∀ i, ¬ OwnAt s σ i a

def penFs (pn : Pn) (c : Addr) : List (Key × V) := [(.inr "cells", .ref c), (.inr "at", .int pn.at_), (.inr "digits", .int pn.digits), (.inr "count", .int pn.count), (.inr "fold", .int pn.fold)]
/-- the pen, or the object -/
def PenH (Γ : Sig) (ok : Addr → Prop) (H : Hp) : Option Mu → Prop
  | none => True
  | some (.p pn) => ∃ p c, Γ.pen = some p ∧ H p = some (.dK (penFs pn c)) ∧ ok c ∧ H c = some (.lst (pn.cells.map V.int))
  | some (.o d) => ∃ p, Γ.pen = some p ∧ RepO Γ ok H p d

/-- the state of a def, told by plain data. B: what stands throughout; okA: what may be handed out -/
structure Env (Γ : Sig) (m : Option Addr) (B : Hp) (okA : Addr → Prop) (s : S) (σ : L2.St) (H : Hp) : Prop where
  len : s.sl.length = σ.length
  pm : s.pn = none ∨ m = Γ.pen
  kp : Ext m B H
  nB : ∀ (i : Nat) (a : Addr), OwnAt s σ i a → B a = none
  new : ∀ p, H p = none → okA p
  fz : ∀ (i : Nat) (d : D), s.sl[i]? = some (.fz d) → ∃ v, σ[i]? = some (some v) ∧ Rep Γ (Ok Γ okA s σ) H v d
  ow : ∀ (i : Nat) (d : D), s.sl[i]? = some (.ow d) → ∃ a, σ[i]? = some (some (.ref a)) ∧ okA a ∧ Γ.pen ≠ some a ∧ RepO Γ (Ok Γ okA s σ) H a d
  dis : ∀ (i j : Nat) (a : Addr), OwnAt s σ i a → OwnAt s σ j a → i = j
  pen : PenH Γ (Ok Γ okA s σ) H s.pn
  pn : ∀ p, Γ.pen = some p → H p ≠ none
  tb : ∀ P, Tab.own P → LamX.TabS H P (Tab.nm P)

end SM

set_option Elab.async false
set_option linter.all false
set_option maxRecDepth 100000
set_option maxHeartbeats 4000000
namespace SM
variable [Tab]
open PySem PySem.Spec PyProof.Rows L2

/-! ## what the semantics itself asks -/
@[irreducible] def WE (X : Cx) (e : Expr) : TE := fun σ H Q => ∀ pins s, Inv X pins σ H s → wpAny (model X.prog X.w) X.A (eval e X.env) (EP X pins σ Q) X.xe s
@[irreducible] def WT (X : Cx) (e : Expr) : TT := fun σ H Q => ∀ pins s, Inv X pins σ H s → wpAny (model X.prog X.w) X.A (isTrue e X.env (eval e X.env)) (TP X pins σ Q) X.xe s
@[irreducible] def WW (X : Cx) (e : Expr) : TT := fun σ H Q => ∀ whole pins s, Inv X pins σ H s → wpAny (model X.prog X.w) X.A (isTrue e X.env whole) (TP X pins σ Q) X.xe s
@[irreducible] def WA (X : Cx) (es : List Expr) : TA := fun σ H Q => ∀ (pos : Pos) pins s, Inv X pins σ H s → wpAny (model X.prog X.w) X.A (spliced (backTo pos (starEach es X.env))) (AP X pins σ Q) X.xe s
@[irreducible] def WS (X : Cx) (st : Stmt) : TS := fun D σ H => ∀ pins s, Inv X pins σ H s → wpAny (model X.prog X.w) X.A (exec st X.env) (SP X pins D) X.xe s
@[irreducible] def WB (X : Cx) (st : List Stmt) : TS := fun D σ H => ∀ pins s, Inv X pins σ H s → wpAny (model X.prog X.w) X.A (execs st X.env) (SP X pins D) X.xe s
theorem peW (X : Cx) (e : Expr) : PE X e (WE X e) := ⟨fun pins s σ H Q I h => by unfold WE at h; exact h pins s I⟩
theorem ptW (X : Cx) (e : Expr) : PT X e (WT X e) := ⟨fun pins s σ H Q I h => by unfold WT at h; exact h pins s I⟩
theorem pwW (X : Cx) (e : Expr) : PW X e (WW X e) := ⟨fun whole pins s σ H Q I h => by unfold WW at h; exact h whole pins s I⟩
theorem paW (X : Cx) (es : List Expr) : PA X es (WA X es) := ⟨fun pos pins s σ H Q I h => by unfold WA at h; exact h pos pins s I⟩
theorem psW (X : Cx) (st : Stmt) : PS X st (WS X st) := ⟨fun pins s σ H D I h => by unfold WS at h; exact h pins s I⟩
theorem pbW (X : Cx) (st : List Stmt) : PSs X st (WB X st) := ⟨fun pins s σ H D I h => by unfold WB at h; exact h pins s I⟩
theorem we_mk {X : Cx} {e : Expr} {σ : L2.St} {H : Hp} {Q : VK} (h : ∀ pins s, Inv X pins σ H s → wpAny (model X.prog X.w) X.A (eval e X.env) (EP X pins σ Q) X.xe s) : WE X e σ H Q := by unfold WE; exact h
theorem wt_mk {X : Cx} {e : Expr} {σ : L2.St} {H : Hp} {Q : Bool → Hp → Prop} (h : ∀ pins s, Inv X pins σ H s → wpAny (model X.prog X.w) X.A (isTrue e X.env (eval e X.env)) (TP X pins σ Q) X.xe s) : WT X e σ H Q := by unfold WT; exact h
theorem ww_mk {X : Cx} {e : Expr} {σ : L2.St} {H : Hp} {Q : Bool → Hp → Prop} (h : ∀ whole pins s, Inv X pins σ H s → wpAny (model X.prog X.w) X.A (isTrue e X.env whole) (TP X pins σ Q) X.xe s) : WW X e σ H Q := by unfold WW; exact h
theorem wa_mk {X : Cx} {es : List Expr} {σ : L2.St} {H : Hp} {Q : List V → Hp → Prop} (h : ∀ (pos : Pos) pins s, Inv X pins σ H s → wpAny (model X.prog X.w) X.A (spliced (backTo pos (starEach es X.env))) (AP X pins σ Q) X.xe s) : WA X es σ H Q := by unfold WA; exact h
theorem ws_mk {X : Cx} {st : Stmt} {σ : L2.St} {H : Hp} {D : Ends} (h : ∀ pins s, Inv X pins σ H s → wpAny (model X.prog X.w) X.A (exec st X.env) (SP X pins D) X.xe s) : WS X st D σ H := by unfold WS; exact h
theorem wb_mk {X : Cx} {st : List Stmt} {σ : L2.St} {H : Hp} {D : Ends} (h : ∀ pins s, Inv X pins σ H s → wpAny (model X.prog X.w) X.A (execs st X.env) (SP X pins D) X.xe s) : WB X st D σ H := by unfold WB; exact h
theorem we_of {X : Cx} {e : Expr} {t : TE} {σ : L2.St} {H : Hp} {Q : VK} (h : PE X e t) (q : t σ H Q) : WE X e σ H Q := we_mk fun pins s I => h.run pins s σ H Q I q
theorem wt_of {X : Cx} {e : Expr} {t : TT} {σ : L2.St} {H : Hp} {Q : Bool → Hp → Prop} (h : PT X e t) (q : t σ H Q) : WT X e σ H Q := wt_mk fun pins s I => h.run pins s σ H Q I q
theorem ww_of {X : Cx} {e : Expr} {t : TT} {σ : L2.St} {H : Hp} {Q : Bool → Hp → Prop} (h : PW X e t) (q : t σ H Q) : WW X e σ H Q := ww_mk fun whole pins s I => h.run whole pins s σ H Q I q
theorem wa_of {X : Cx} {es : List Expr} {t : TA} {σ : L2.St} {H : Hp} {Q : List V → Hp → Prop} (h : PA X es t) (q : t σ H Q) : WA X es σ H Q := wa_mk fun pos pins s I => h.run pos pins s σ H Q I q
theorem ws_of {X : Cx} {st : Stmt} {t : TS} {σ : L2.St} {H : Hp} {D : Ends} (h : PS X st t) (q : t D σ H) : WS X st D σ H := ws_mk fun pins s I => h.run pins s σ H D I q
theorem wb_of {X : Cx} {st : List Stmt} {t : TS} {σ : L2.St} {H : Hp} {D : Ends} (h : PSs X st t) (q : t D σ H) : WB X st D σ H := wb_mk fun pins s I => h.run pins s σ H D I q

/-! ## the state, as it goes on -/
section
variable {Γ : Sig} {m : Option Addr} {B : Hp} {okA : Addr → Prop} {s s' : S} {σ : L2.St} {H H' : Hp}

theorem Env.notOwn (E : Env Γ m B okA s σ H) {a : Addr} (h : H a = none) : ∀ i, ¬ OwnAt s σ i a := fun i ⟨⟨d, e⟩, q⟩ => by
  obtain ⟨b, e1, _, _, r⟩ := E.ow i d e
  rw [q] at e1
  cases e1
  obtain ⟨o, ho⟩ := r.there
  rw [h] at ho; cases ho
theorem Env.notPen (E : Env Γ m B okA s σ H) {a : Addr} (h : H a = none) : Γ.pen ≠ some a := fun e => E.pn a e h
theorem Env.okNew (E : Env Γ m B okA s σ H) {a : Addr} (h : H a = none) : Ok Γ okA s σ a := ⟨E.new a h, E.notPen h, E.notOwn h⟩
theorem Env.mOk (E : Env Γ m B okA s σ H) {a : Addr} (h : Ok Γ okA s σ a) (hm : m = Γ.pen ∨ m = none) : m ≠ some a := by
  rcases hm with e | e
  · rw [e]; exact h.2.1
  · rw [e]; intro z; cases z

/-- the heap grows, nothing that was there changes but the pen -/
theorem Env.ext (E : Env Γ m B okA s σ H) (e : Ext m H H') (hm : m = Γ.pen ∨ m = none) (hp : PenH Γ (Ok Γ okA s σ) H' s.pn) (hn : ∀ p, Γ.pen = some p → H' p ≠ none) (fr : ∀ p, H' p = none → H p = none) : Env Γ m B okA s σ H' where
  len := E.len
  pm := E.pm
  kp := E.kp.trans e
  nB := E.nB
  new := fun p h => E.new p (fr p h)
  fz := fun i d h => by
    obtain ⟨v, h1, h2⟩ := E.fz i d h
    exact ⟨v, h1, Rep.mono (e.keeps fun a ha => E.mOk ha hm) (fun _ z _ => z) _ _ h2⟩
  ow := fun i d h => by
    obtain ⟨a, h1, h2, h3, h4⟩ := E.ow i d h
    refine ⟨a, h1, h2, h3, h4.mono (e.keeps fun a ha => E.mOk ha hm) (fun _ z _ => z) fun o fo ho => e.o a o ?_ fo ho⟩
    rcases hm with z | z
    · rw [z]; exact h3
    · rw [z]; intro q; cases q
  dis := E.dis
  pen := hp
  pn := hn
  tb := fun P h => e.tb P (E.tb P h)
theorem PenH.keep {ok ok' : Addr → Prop} {pn : Option Mu} (h : PenH Γ ok H pn) (k : Keeps ok H H') (w : ∀ a, ok a → ok' a) (e : ∀ p o, Γ.pen = some p → Fix o → H p = some o → H' p = some o) : PenH Γ ok' H' pn := by
  match pn, h with
  | none, _ => trivial
  | some (.p pn), h =>
    obtain ⟨p, c, h1, h2, h3, h4⟩ := h
    exact ⟨p, c, h1, e p _ h1 (fun _ => nofun) h2, w c h3, k.l c _ h3 h4⟩
  | some (.o d), h =>
    obtain ⟨p, h1, h2⟩ := h
    exact ⟨p, h1, h2.mono k (fun a z _ => w a z) fun o f z => e p o h1 f z⟩
/-- a new object is laid -/
theorem Env.grow (E : Env Γ m B okA s σ H) (hm : m = Γ.pen ∨ m = none) {a : Addr} {o : HO} (h : H a = none) : Env Γ m B okA s σ (upd H a o) := by
  refine E.ext (Ext.new h) hm (E.pen.keep ((Ext.new (m := none) h).keeps fun _ _ => nofun) (fun _ z => z) fun p q h1 _ h2 => ?_) (fun p h1 => ?_) fun p q => ?_
  · rw [upd_ne (ne_of_none h2 h)]; exact h2
  · by_cases e : p = a
    · subst e; rw [upd_same]; exact fun z => nomatch z
    · rw [upd_ne e]; exact E.pn p h1
  · by_cases e : p = a
    · subst e; rw [upd_same] at q; cases q
    · rw [upd_ne e] at q; exact q
theorem Env.hm (E : Env Γ m B okA s σ H) (h : m = none ∨ m = Γ.pen) : m = Γ.pen ∨ m = none := h.elim .inr .inl
end

/-! ## the judgements -/
/-- what s' holds of its own, s held, too -/
def Less (s' s : S) : Prop := ∀ (i : Nat) (d : D), s'.sl[i]? = some (.ow d) → s.sl[i]? = some (.ow d)
theorem Less.refl (s : S) : Less s s := fun _ _ h => h
theorem Less.trans {s1 s2 s3 : S} (a : Less s2 s1) (b : Less s3 s2) : Less s3 s1 := fun i d h => a i d (b i d h)
theorem Less.own {s s' : S} {σ : L2.St} {i : Nat} {a : Addr} (l : Less s' s) (h : OwnAt s' σ i a) : OwnAt s σ i a := ⟨h.1.elim fun d e => ⟨d, l i d e⟩, h.2⟩
theorem Less.ok {Γ : Sig} {okA : Addr → Prop} {s s' : S} {σ : L2.St} (l : Less s' s) {a : Addr} (h : Ok Γ okA s σ a) : Ok Γ okA s' σ a := ⟨h.1, h.2.1, fun i q => h.2.2 i (l.own q)⟩

abbrev PKd (β α : Type) := Sig → (Addr → Prop) → Hp → β → α → Prop
/-- what is asked behind: of a value, or of an error that leaves -/
def Post {β α : Type} (P : PKd β α) (Γ : Sig) (m : Option Addr) (B : Hp) (okA : Addr → Prop) (W : WX) (σ : L2.St) (s : S) (H : Hp) (Q : β → Hp → Prop) : Res (S × α) → Prop
  | .ok (s', d) => ∀ b H', Ext m H H' → Less s' s → Env Γ m B okA s' σ H' → P Γ (Ok Γ okA s' σ) H' b d → Q b H'
  | .exn c ns ds => ∀ C dd fs H', Ext m H H' → H dd = none → Γ.mg c = some (.ref C) → H' dd = some (.xd fs) → fs.map (·.1) = ns → (∀ p, H' p = none → H p = none) → Reps Γ (fun a => okA a ∧ Γ.pen ≠ some a) H' (fs.map (·.2)) ds → W (.ref C) (some dd) σ H'
  | .stuck => False
abbrev sg (X : Cx) (p : Option Addr) : Sig := ⟨X.K, X.mg, p, Tab.tab⟩
/-- T does what f says -/
def Does {β α : Type} (P : PKd β α) (X : Cx) (T : L2.St → Hp → (β → Hp → Prop) → Prop) (f : S → Res (S × α)) : Prop :=
  ∀ (p m : Option Addr) (B : Hp) (okA : Addr → Prop) (s : S) (σ : L2.St) (H : Hp) (W : WX) (Q : β → Hp → Prop), Takes X W → (m = p ∨ m = none) → Env (sg X p) m B okA s σ H → Post P (sg X p) m B okA W σ s H Q (f s) → T σ H Q
abbrev KV' : PKd V D := fun Γ ok H v d => Rep Γ ok H v d
abbrev KB' : PKd Bool Bool := fun _ _ _ b c => b = c
abbrev KL' : PKd (List V) (List D) := fun Γ ok H v d => Reps Γ ok H v d
abbrev EE (X : Cx) (e : Expr) (f : S → Res (S × D)) : Prop := Does KV' X (WE X e) f
abbrev ET (X : Cx) (e : Expr) (f : S → Res (S × Bool)) : Prop := Does KB' X (WT X e) f
abbrev EW (X : Cx) (e : Expr) (f : S → Res (S × Bool)) : Prop := Does KB' X (WW X e) f
abbrev EA (X : Cx) (es : List Expr) (f : S → Res (S × List D)) : Prop := Does KL' X (WA X es) f

section
variable {Γ : Sig} {m : Option Addr} {B : Hp} {okA : Addr → Prop} {W : WX} {s s1 : S} {σ : L2.St} {H H1 : Hp} {α β : Type} {P : PKd β α} {Q : β → Hp → Prop}
theorem Post.at_ {r : Res (S × α)} (h : Post P Γ m B okA W σ s H Q r) (e : Ext m H H1) (l : Less s1 s) (fr : ∀ p, H1 p = none → H p = none) : Post P Γ m B okA W σ s1 H1 Q r := by
  cases r with
  | ok x => exact fun b H' e' l' => h b H' (e.trans e') (l.trans l')
  | exn c ns ds => exact fun C dd fs H' e' hd hc hx hn fr2 => h C dd fs H' (e.trans e') (fr dd hd) hc hx hn fun p z => fr p (fr2 p z)
  | stuck => exact h
theorem Env.fresh (E : Env Γ m B okA s σ H1) (hm : m = Γ.pen ∨ m = none) (e : Ext m H H1) : ∀ p, H1 p = none → H p = none := fun p h => by
  cases q : H p with
  | none => rfl
  | some o => exact absurd h (e.n p (by rw [q]; exact nofun))
end
section
variable {X : Cx} {p m : Option Addr} {B : Hp} {okA : Addr → Prop} {W : WX} {s s1 : S} {σ : L2.St} {H H1 : Hp}
theorem Does.bind {α β α2 β2 : Type} {P : PKd β α} {P2 : PKd β2 α2} {T : L2.St → Hp → (β → Hp → Prop) → Prop} {f : S → Res (S × α)} {k : S × α → Res (S × α2)} {Q : β2 → Hp → Prop} {Q' : β → Hp → Prop}
    (h : Does P X T f) (tk : Takes X W) (hm : m = p ∨ m = none) (E : Env (sg X p) m B okA s σ H) (hp : Post P2 (sg X p) m B okA W σ s H Q (f s >>= k))
    (hq : ∀ s1 a b H1, Ext m H H1 → Less s1 s → Env (sg X p) m B okA s1 σ H1 → P (sg X p) (Ok (sg X p) okA s1 σ) H1 b a → Post P2 (sg X p) m B okA W σ s1 H1 Q (k (s1, a)) → Q' b H1) : T σ H Q' := by
  refine h p m B okA s σ H W Q' tk hm E ?_
  cases hf : f s with
  | ok x =>
    obtain ⟨s1, a⟩ := x
    rw [hf] at hp
    exact fun b H1 e l E1 r => hq s1 a b H1 e l E1 r (Post.at_ (show Post P2 (sg X p) m B okA W σ s H Q (k (s1, a)) from hp) e l (E1.fresh hm e))
  | exn c ns ds => rw [hf] at hp; exact hp
  | stuck => rw [hf] at hp; exact hp
/-- a value at hand -/
theorem Post.done {α β : Type} {P : PKd β α} {Q : β → Hp → Prop} {a : α} {b : β} (h : Post P (sg X p) m B okA W σ s H Q (.ok (s, a))) (E : Env (sg X p) m B okA s σ H) (r : P (sg X p) (Ok (sg X p) okA s σ) H b a) : Q b H := h b H (Ext.refl _ _) (Less.refl _) E r
/-- what was told stays told -/
theorem stay {v : V} {d : D} (r : Rep (sg X p) (Ok (sg X p) okA s σ) H v d) (hm : m = p ∨ m = none) (e : Ext m H H1) (w : Less s1 s) : Rep (sg X p) (Ok (sg X p) okA s1 σ) H1 v d :=
  Rep.mono (e.keeps fun a ha => by rcases hm with z | z <;> rw [z]; exact ha.2.1; exact nofun) (fun _ h _ => w.ok h) _ _ r
theorem stays {vs : List V} {ds : List D} (r : Reps (sg X p) (Ok (sg X p) okA s σ) H vs ds) (hm : m = p ∨ m = none) (e : Ext m H H1) (w : Less s1 s) : Reps (sg X p) (Ok (sg X p) okA s1 σ) H1 vs ds :=
  Reps.mono (e.keeps fun a ha => by rcases hm with z | z <;> rw [z]; exact ha.2.1; exact nofun) (fun _ h _ => w.ok h) _ _ r
end

/-! ## names, constants -/
section
variable {X : Cx}
/-- a slot is frozen -/
def S.froze (s : S) (i : Nat) (d : D) : S := { s with sl := s.sl.set i (.fz d) }
theorem froze_get {s : S} {i j : Nat} {d : D} (hi : i < s.sl.length) : (s.froze i d).sl[j]? = if j = i then some (.fz d) else s.sl[j]? := by
  show (s.sl.set i (.fz d))[j]? = _
  by_cases e : j = i
  · subst e; rw [if_pos rfl, List.getElem?_set_self hi]
  · rw [if_neg e, List.getElem?_set_ne (Ne.symm e)]
theorem froze_less {s : S} {i : Nat} {d : D} (hi : i < s.sl.length) : Less (s.froze i d) s := fun j e h => by
  rw [froze_get hi] at h
  by_cases z : j = i
  · rw [if_pos z] at h; cases h
  · rw [if_neg z] at h; exact h
theorem Env.froze {Γ : Sig} {m : Option Addr} {B : Hp} {okA : Addr → Prop} {s : S} {σ : L2.St} {H : Hp} (E : Env Γ m B okA s σ H) {i : Nat} {d : D} (h : s.sl[i]? = some (.ow d)) :
    Env Γ m B okA (s.froze i d) σ H ∧ ∃ a, σ[i]? = some (some (.ref a)) ∧ Rep Γ (Ok Γ okA (s.froze i d) σ) H (.ref a) d := by
  have hi : i < s.sl.length := (List.getElem?_eq_some_iff.mp h).1
  have l : Less (s.froze i d) s := froze_less hi
  obtain ⟨a, h1, h2, h3, h4⟩ := E.ow i d h
  have oka : Ok Γ okA (s.froze i d) σ a := ⟨h2, h3, fun j q => by
    have z := E.dis j i a (l.own q) ⟨⟨d, h⟩, h1⟩
    obtain ⟨⟨e, q1⟩, _⟩ := q
    rw [froze_get hi, if_pos z] at q1; cases q1⟩
  have r : Rep Γ (Ok Γ okA (s.froze i d) σ) H (.ref a) d := h4.froze (fun _ z _ => l.ok z) oka
  refine ⟨⟨?_, E.pm, E.kp, fun j b q => E.nB j b (l.own q), E.new, fun j e q => ?_, fun j e q => ?_, fun j k b q1 q2 => E.dis j k b (l.own q1) (l.own q2), ?_, E.pn, E.tb⟩, a, h1, r⟩
  · show (s.sl.set i (.fz d)).length = _
    rw [List.length_set]; exact E.len
  · rw [froze_get hi] at q
    by_cases z : j = i
    · rw [if_pos z] at q; cases q; subst z; exact ⟨_, h1, r⟩
    · rw [if_neg z] at q
      obtain ⟨v, q1, q2⟩ := E.fz j e q
      exact ⟨v, q1, Rep.mono (Keeps.refl _ _) (fun _ z _ => l.ok z) _ _ q2⟩
  · obtain ⟨b, q1, q2, q3, q4⟩ := E.ow j e (l j e q)
    exact ⟨b, q1, q2, q3, q4.mono (Keeps.refl _ _) (fun _ z _ => l.ok z) fun _ _ z => z⟩
  · exact E.pen.keep (Keeps.refl _ _) (fun _ z => l.ok z) fun _ _ _ _ z => z

def eVar (i : Nat) (s : S) : Res (S × D) := match s.sl[i]? with
  | some (.fz d) => .ok (s, d)
  | some (.ow d) => .ok (s.froze i d, d)
  | _ => .stuck
theorem ee_var (i : Nat) {x : Str} {pos : Pos} (hN : X.N[i]? = some x := by rfl) (hv : Vis X.env.scope x := by first | exact Or.inl rfl | exact Or.inr (Or.inl rfl) | exact Or.inr (Or.inr rfl)) (hd : (x == ("__debug__" : Str)) = false := by decide)
    (hcd : (x == ("__classdict__" : Str)) = false := by decide) : EE X (.Name x pos) (eVar i) := by
  intro p m B okA s σ H W Q tk hm E h
  refine we_of (pv i hN hv hd hcd) ?_
  unfold eVar at h
  cases hs : s.sl[i]? with
  | none => rw [hs] at h; exact h.elim
  | some x =>
    rw [hs] at h
    cases x with
    | no => exact h.elim
    | fz d =>
      obtain ⟨v, h1, h2⟩ := E.fz i d hs
      exact ⟨v, h1, h.done E h2⟩
    | ow d =>
      obtain ⟨E2, a, h1, h2⟩ := E.froze hs
      exact ⟨_, h1, h _ H (Ext.refl _ _) (froze_less (List.getElem?_eq_some_iff.mp hs).1) E2 h2⟩
def eC (d : D) (s : S) : Res (S × D) := .ok (s, d)
theorem ee_int {i j pos} : EE X (.Constant (.int i) j pos) (eC (.int i)) := fun _ _ _ _ _ _ _ _ _ _ _ E h => we_of pe_int (h.done E (.int i))
theorem ee_bl {b j pos} : EE X (.Constant (.bool b) j pos) (eC (.bl b)) := fun _ _ _ _ _ _ _ _ _ _ _ E h => we_of pe_bl (h.done E (.bl b))
theorem ee_non {j pos} : EE X (.Constant .none j pos) (eC .non) := fun _ _ _ _ _ _ _ _ _ _ _ E h => we_of pe_non (h.done E .non)
theorem ee_str {x j pos} : EE X (.Constant (.str x) j pos) (eC (.str x)) := fun _ _ _ _ _ _ _ _ _ _ _ E h => we_of pe_str (h.done E (.str x))
/-- a def or a class of the module, as a value -/
theorem ee_glo {x : Str} {a : Addr} {pos : Pos} (hg : Gl X x) (hm : X.mg x = some (.ref a)) (hd : (x == ("__debug__" : Str)) = false := by decide) : EE X (.Name x pos) (eC (.glo x)) := fun _ _ _ _ _ _ _ _ _ _ _ E h => we_of (pe_glob (v := .ref a) hg hm rfl hd) (h.done E (.glo hm))
/-- a module's number -/
theorem ee_gint {x : Str} {i : Int} {t : Tok} {pos : Pos} (hg : Gl X x) (hm : X.mg x = some (.int i t)) (hd : (x == ("__debug__" : Str)) = false := by decide) : EE X (.Name x pos) (eC (.int i)) := fun _ _ _ _ _ _ _ _ _ _ _ E h => we_of (pe_glob (v := .int i) hg hm ⟨t, rfl⟩ hd) (h.done E (.int i))

/-! ## numbers -/
variable {a b c : Expr} {f g h : S → Res (S × D)} {pos : Pos}
def asInt : D → Res Int
  | .int i => .ok i
  | _ => .stuck
def eInt2 (C : Int → Int → Bool) (u : Int → Int → D) (f g : S → Res (S × D)) (s : S) : Res (S × D) := do
  let (s1, x) ← f s
  let (s2, y) ← g s1
  let i ← asInt x
  let j ← asInt y
  if C i j then .ok (s2, u i j) else .stuck
theorem asInt_ok {x : D} {α : Type} {k : Int → Res α} {P : Res α → Prop} (hst : ¬ P .stuck) (h : P (asInt x >>= k)) : ∃ i, x = .int i ∧ P (k i) := by
  cases x with
  | int i => exact ⟨i, rfl, h⟩
  | _ => exact (hst h).elim
theorem Rep.int_v {Γ : Sig} {ok : Addr → Prop} {H : Hp} {v : V} {i : Int} (r : Rep Γ ok H v (.int i)) : v = .int i := by cases r; rfl
theorem Rep.bl_v {Γ : Sig} {ok : Addr → Prop} {H : Hp} {v : V} {i : Bool} (r : Rep Γ ok H v (.bl i)) : v = .bl i := by cases r; rfl
theorem Rep.non_v {Γ : Sig} {ok : Addr → Prop} {H : Hp} {v : V} (r : Rep Γ ok H v .non) : v = .non := by cases r; rfl
theorem Rep.str_v {Γ : Sig} {ok : Addr → Prop} {H : Hp} {v : V} {x : Str} (r : Rep Γ ok H v (.str x)) : v = .str x := by cases r; rfl
/-- two operands, one behind the other -/
theorem two {α β2 : Type} {p m : Option Addr} {B : Hp} {okA : Addr → Prop} {W : WX} {s : S} {σ : L2.St} {H : Hp} {P3 : PKd β2 α} {Q : β2 → Hp → Prop} {R : V → V → Hp → Prop} {k : S → D → D → Res (S × α)} (ha : EE X a f) (hb : EE X b g) (tk : Takes X W) (hm : m = p ∨ m = none) (E : Env (sg X p) m B okA s σ H)
    (hp : Post P3 (sg X p) m B okA W σ s H Q (f s >>= fun (s1, x) => g s1 >>= fun (s2, y) => k s2 x y))
    (hq : ∀ s2 x y v u H2, Ext m H H2 → Less s2 s → Env (sg X p) m B okA s2 σ H2 → Rep (sg X p) (Ok (sg X p) okA s2 σ) H2 v x → Rep (sg X p) (Ok (sg X p) okA s2 σ) H2 u y → Post P3 (sg X p) m B okA W σ s2 H2 Q (k s2 x y) → R v u H2) :
    WE X a σ H fun v H1 => WE X b σ H1 fun u H2 => R v u H2 := by
  refine Does.bind ha tk hm E hp fun s1 x v H1 e1 l1 E1 r1 p1 => ?_
  refine Does.bind hb tk hm E1 p1 fun s2 y u H2 e2 l2 E2 r2 p2 => ?_
  exact hq s2 x y v u H2 (e1.trans e2) (l1.trans l2) E2 (stay r1 hm e2 l2) r2 p2
theorem ee_int2 {op : Operator} {C : Int → Int → Bool} {u : Int → Int → Int} {Cp : Int → Int → Prop} (ho : OpR X (binaryOp op) (rI Cp fun i j => .int (u i j))) (hC : ∀ i j, C i j = true → Cp i j) (ha : EE X a f) (hb : EE X b g) : EE X (.BinOp a op b pos) (eInt2 C (fun i j => .int (u i j)) f g) := by
  intro p m B okA s σ H W Q tk hm E hp
  refine we_of (pe_op ho (peW X a) (peW X b)) (two (k := fun s2 x y => asInt x >>= fun i => asInt y >>= fun j => if C i j then .ok (s2, .int (u i j)) else .stuck) (P3 := KV') ha hb tk hm E hp fun s2 x y v w H2 e l E2 r1 r2 p2 => ?_)
  obtain ⟨i, ex, p3⟩ := asInt_ok (P := fun r => Post KV' (sg X p) m B okA W σ s2 H2 Q r) (fun z => z) p2
  obtain ⟨j, ey, p4⟩ := asInt_ok (P := fun r => Post KV' (sg X p) m B okA W σ s2 H2 Q r) (fun z => z) p3
  subst ex ey
  cases hc : C i j with
  | false => rw [hc] at p4; exact (show False from p4).elim
  | true =>
    rw [hc] at p4
    exact ⟨i, j, r1.int_v, r2.int_v, hC i j hc, Post.done (a := D.int (u i j)) p4 E2 (.int _)⟩
end
end SM

set_option Elab.async false
set_option linter.all false
set_option maxRecDepth 100000
set_option maxHeartbeats 4000000
namespace SM
variable [Tab]
open PySem PySem.Spec PyProof.Rows L2

/-! ## what is only read -/
inductive RepR (Γ : Sig) (ok : Addr → Prop) (H : Hp) : V → D → Prop
  | of {v d} : Rep Γ ok H v d → RepR Γ ok H v d
  | own {a d} : Γ.pen ≠ some a → RepO Γ ok H a d → RepR Γ ok H (.ref a) d
section
variable {Γ : Sig} {ok ok' : Addr → Prop} {H H' : Hp} {v : V} {d : D} {ds : List D}
theorem RepR.tup (r : RepR Γ ok H v (.tup ds)) : ∃ a vs, v = .ref a ∧ H a = some (.tup vs) ∧ Reps Γ ok H vs ds := by
  cases r with
  | of r => cases r with | tup h2 h3 => exact ⟨_, _, rfl, h2, h3⟩
  | own _ r => cases r
theorem RepR.lst (r : RepR Γ ok H v (.lst ds)) : ∃ a vs, v = .ref a ∧ Rd H a (.lst vs) ∧ Reps Γ ok H vs ds := by
  cases r with
  | of r => cases r with | lst h1 h2 h3 => exact ⟨_, _, rfl, .inl h2, h3⟩
  | own _ r => cases r with | lst h1 h2 => exact ⟨_, _, rfl, .inl h1, h2⟩
theorem RepR.dK {ks : List Key} (r : RepR Γ ok H v (.dK ks ds)) : ∃ a kvs, v = .ref a ∧ Rd H a (.dK kvs) ∧ kvs.map (·.1) = ks ∧ Reps Γ ok H (kvs.map (·.2)) ds := by
  cases r with
  | of r => cases r with | dK h1 h2 h3 => exact ⟨_, _, rfl, h2, rfl, h3⟩
  | own _ r => cases r with | dK h1 h2 => exact ⟨_, _, rfl, .inl h1, rfl, h2⟩
theorem RepR.dT {ks : List (List Key)} (r : RepR Γ ok H v (.dT ks ds)) : ∃ a kvs, v = .ref a ∧ Rd H a (.dT kvs) ∧ kvs.map (·.1) = ks ∧ Reps Γ ok H (kvs.map (·.2)) ds := by
  cases r with
  | of r => cases r with | dT h1 h2 h3 => exact ⟨_, _, rfl, h2, rfl, h3⟩
  | own _ r => cases r with | dT h1 h2 => exact ⟨_, _, rfl, .inl h1, rfl, h2⟩
theorem RepR.ins {c : Str} {ns : List Str} (r : RepR Γ ok H v (.ins c ns ds)) : ∃ a C dx fs, v = .ref a ∧ Γ.mg c = some (.ref C) ∧ H a = some (.ins C dx fs) ∧ fs.map (·.1) = ns ∧ Reps Γ ok H (fs.map (·.2)) ds := by
  cases r with
  | of r => cases r with | ins h1 h2 h3 h4 => exact ⟨_, _, _, _, rfl, h2, h3, rfl, h4⟩
  | own _ r => cases r with | ins h1 h2 h3 => exact ⟨_, _, _, _, rfl, h1, h2, rfl, h3⟩
theorem RepR.int_v {i : Int} (r : RepR Γ ok H v (.int i)) : v = .int i := by
  cases r with
  | of r => exact r.int_v
  | own _ r => cases r
theorem RepR.bl_v {i : Bool} (r : RepR Γ ok H v (.bl i)) : v = .bl i := by
  cases r with
  | of r => exact r.bl_v
  | own _ r => cases r
theorem RepR.str_v {i : Str} (r : RepR Γ ok H v (.str i)) : v = .str i := by
  cases r with
  | of r => exact r.str_v
  | own _ r => cases r
theorem RepR.non_v (r : RepR Γ ok H v .non) : v = .non := by
  cases r with
  | of r => exact r.non_v
  | own _ r => cases r
theorem RepR.mono (r : RepR Γ ok H v d) {m : Option Addr} (hm : m = Γ.pen ∨ m = none) (e : Ext m H H') (ho : ∀ a, ok a → Γ.pen ≠ some a) (w : ∀ a, ok a → ok' a) : RepR Γ ok' H' v d := by
  have k : Keeps ok H H' := e.keeps fun a ha => by rcases hm with z | z <;> rw [z]; exact ho a ha; exact nofun
  cases r with
  | of r => exact .of (Rep.mono k (fun a h _ => w a h) _ _ r)
  | own hp r => exact .own hp (r.mono k (fun a h _ => w a h) fun o fo h => e.o _ o (by rcases hm with z | z <;> rw [z]; exact hp; exact nofun) fo h)
end
inductive RepRs (Γ : Sig) (ok : Addr → Prop) (H : Hp) : List V → List D → Prop
  | nil : RepRs Γ ok H [] []
  | cons {v vs d ds} : RepR Γ ok H v d → RepRs Γ ok H vs ds → RepRs Γ ok H (v :: vs) (d :: ds)
theorem RepRs.mono {Γ : Sig} {ok ok' : Addr → Prop} {H H' : Hp} {m : Option Addr} (hm : m = Γ.pen ∨ m = none) (e : Ext m H H') (ho : ∀ a, ok a → Γ.pen ≠ some a) (w : ∀ a, ok a → ok' a) : ∀ {vs : List V} {ds : List D}, RepRs Γ ok H vs ds → RepRs Γ ok' H' vs ds
  | _, _, .nil => .nil
  | _, _, .cons a b => .cons (a.mono hm e ho w) (RepRs.mono hm e ho w b)
abbrev KR' : PKd V D := fun Γ ok H v d => RepR Γ ok H v d
abbrev KRs' : PKd (List V) (List D) := fun Γ ok H v d => RepRs Γ ok H v d
abbrev ER (X : Cx) (e : Expr) (f : S → Res (S × D)) : Prop := Does KR' X (WE X e) f
abbrev EB (X : Cx) (es : List Expr) (f : S → Res (S × List D)) : Prop := Does KRs' X (WA X es) f

section
variable {X : Cx} {p m : Option Addr} {B : Hp} {okA : Addr → Prop} {W : WX} {s s1 : S} {σ : L2.St} {H H1 : Hp}
theorem stayR {v : V} {d : D} (r : RepR (sg X p) (Ok (sg X p) okA s σ) H v d) (hm : m = p ∨ m = none) (e : Ext m H H1) (w : Less s1 s) : RepR (sg X p) (Ok (sg X p) okA s1 σ) H1 v d :=
  r.mono (m := m) hm e (fun _ h => h.2.1) fun _ h => w.ok h
theorem staysR {v : List V} {d : List D} (r : RepRs (sg X p) (Ok (sg X p) okA s σ) H v d) (hm : m = p ∨ m = none) (e : Ext m H H1) (w : Less s1 s) : RepRs (sg X p) (Ok (sg X p) okA s1 σ) H1 v d :=
  r.mono (m := m) hm e (fun _ h => h.2.1) fun _ h => w.ok h
end
section
variable {X : Cx} {e : Expr} {es : List Expr} {f g h : S → Res (S × D)} {fs : S → Res (S × List D)} {a b c : Expr} {pos : Pos}
theorem er_of (h : EE X e f) : ER X e f := fun p m B okA s σ H W Q tk hm E hp => h p m B okA s σ H W Q tk hm E (by
  cases hf : f s with
  | ok x => rw [hf] at hp; exact fun b H' e l E' r => hp b H' e l E' (.of r)
  | exn c ns ds => rw [hf] at hp; exact hp
  | stuck => rw [hf] at hp; exact hp)
def ePeek (i : Nat) (s : S) : Res (S × D) := match s.sl[i]? with
  | some (.fz d) => .ok (s, d)
  | some (.ow d) => .ok (s, d)
  | _ => .stuck
theorem er_var (i : Nat) {x : Str} {pos : Pos} (hN : X.N[i]? = some x := by rfl) (hv : Vis X.env.scope x := by first | exact Or.inl rfl | exact Or.inr (Or.inl rfl) | exact Or.inr (Or.inr rfl)) (hd : (x == ("__debug__" : Str)) = false := by decide)
    (hcd : (x == ("__classdict__" : Str)) = false := by decide) : ER X (.Name x pos) (ePeek i) := by
  intro p m B okA s σ H W Q tk hm E h
  refine we_of (pv i hN hv hd hcd) ?_
  unfold ePeek at h
  cases hs : s.sl[i]? with
  | none => rw [hs] at h; exact h.elim
  | some x =>
    rw [hs] at h
    cases x with
    | no => exact h.elim
    | fz d =>
      obtain ⟨v, h1, h2⟩ := E.fz i d hs
      exact ⟨v, h1, h.done E (.of h2)⟩
    | ow d =>
      obtain ⟨a, h1, _, h3, h4⟩ := E.ow i d hs
      exact ⟨_, h1, h.done E (.own h3 h4)⟩

/-! ## rows of arguments -/
def aNil (s : S) : Res (S × List D) := .ok (s, [])
def aCons (f : S → Res (S × D)) (g : S → Res (S × List D)) (s : S) : Res (S × List D) := do
  let (s1, x) ← f s
  let (s2, xs) ← g s1
  .ok (s2, x :: xs)
theorem ea_nil : EA X [] aNil := fun _ _ _ _ _ _ _ _ _ _ _ E h => wa_of pa_nil (h.done E .nil)
theorem eb_nil : EB X [] aNil := fun _ _ _ _ _ _ _ _ _ _ _ E h => wa_of pa_nil (h.done E .nil)
theorem ea_cons (ha : EE X e f) (hr : EA X es fs) (hs : starEach (e :: es) X.env = (false, eval e X.env) :: starEach es X.env := by rfl) : EA X (e :: es) (aCons f fs) := by
  intro p m B okA s σ H W Q tk hm E hp
  refine wa_of (pa_cons (peW X e) (paW X es) hs) ?_
  show WE X e σ H fun x H1 => WA X es σ H1 fun xs H2 => Q (x :: xs) H2
  refine Does.bind ha tk hm E hp fun s1 x v H1 e1 l1 E1 r1 p1 => ?_
  refine Does.bind hr tk hm E1 p1 fun s2 xs vs H2 e2 l2 E2 r2 p2 => ?_
  exact p2.done E2 (.cons (stay r1 hm e2 l2) r2)
theorem eb_cons (ha : ER X e f) (hr : EB X es fs) (hs : starEach (e :: es) X.env = (false, eval e X.env) :: starEach es X.env := by rfl) : EB X (e :: es) (aCons f fs) := by
  intro p m B okA s σ H W Q tk hm E hp
  refine wa_of (pa_cons (peW X e) (paW X es) hs) ?_
  show WE X e σ H fun x H1 => WA X es σ H1 fun xs H2 => Q (x :: xs) H2
  refine Does.bind ha tk hm E hp fun s1 x v H1 e1 l1 E1 r1 p1 => ?_
  refine Does.bind hr tk hm E1 p1 fun s2 xs vs H2 e2 l2 E2 r2 p2 => ?_
  exact p2.done E2 (.cons (stayR r1 hm e2 l2) r2)

/-! ## new objects -/
theorem Ok.sub {Γ : Sig} {okA : Addr → Prop} {s : S} {σ : L2.St} {a b : Addr} (h : Ok Γ (fun b => okA b ∧ b ≠ a) s σ b) : Ok Γ okA s σ b := ⟨h.1.1, h.2⟩
/-- a new list, dict at a: no one else's -/
def PostF (Γ : Sig) (m : Option Addr) (B : Hp) (okA : Addr → Prop) (W : WX) (σ : L2.St) (s : S) (H : Hp) (Q : VK) : Res (S × D) → Prop
  | .ok (s', d) => ∀ a H', Ext m H H' → Less s' s → Env Γ m B (fun b => okA b ∧ b ≠ a) s' σ H' → okA a → B a = none → Γ.pen ≠ some a → (∀ i, ¬ OwnAt s' σ i a) → RepO Γ (Ok Γ (fun b => okA b ∧ b ≠ a) s' σ) H' a d → Q (.ref a) H'
  | .exn c ns ds => Post KV' Γ m B okA W σ s H Q (.exn c ns ds)
  | .stuck => False
def EF (X : Cx) (e : Expr) (f : S → Res (S × D)) : Prop :=
  ∀ (p m : Option Addr) (B : Hp) (okA : Addr → Prop) (s : S) (σ : L2.St) (H : Hp) (W : WX) (Q : VK), Takes X W → (m = p ∨ m = none) → Env (sg X p) m B okA s σ H → PostF (sg X p) m B okA W σ s H Q (f s) → WE X e σ H Q
/-- more may be handed out -/
theorem Env.more {Γ : Sig} {m : Option Addr} {B : Hp} {okA okB : Addr → Prop} {s : S} {σ : L2.St} {H : Hp} (E : Env Γ m B okA s σ H) (w : ∀ a, okA a → okB a) : Env Γ m B okB s σ H where
  len := E.len
  pm := E.pm
  kp := E.kp
  nB := E.nB
  new := fun p h => w p (E.new p h)
  fz := fun i d h => by
    obtain ⟨v, h1, h2⟩ := E.fz i d h
    exact ⟨v, h1, Rep.mono (Keeps.refl _ _) (fun a z _ => ⟨w a z.1, z.2⟩) _ _ h2⟩
  ow := fun i d h => by
    obtain ⟨a, h1, h2, h3, h4⟩ := E.ow i d h
    exact ⟨a, h1, w a h2, h3, h4.mono (Keeps.refl _ _) (fun a z _ => ⟨w a z.1, z.2⟩) fun _ _ z => z⟩
  dis := E.dis
  pen := E.pen.keep (Keeps.refl _ _) (fun a z => ⟨w a z.1, z.2⟩) fun _ _ _ _ z => z
  pn := E.pn
  tb := E.tb
/-- .. frozen at once -/
theorem ee_new (h : EF X e f) : EE X e f := fun p m B okA s σ H W Q tk hm E hp => h p m B okA s σ H W Q tk hm E (by
  cases hf : f s with
  | ok x =>
    obtain ⟨s1, d⟩ := x
    rw [hf] at hp
    exact fun a H' e l E' o1 o2 o3 o4 r => hp _ H' e l (E'.more fun a z => z.1) (r.froze (fun _ z _ => z.sub) ⟨o1, o3, o4⟩)
  | exn c ns ds => rw [hf] at hp; exact hp
  | stuck => rw [hf] at hp; exact hp)
section
variable {p m : Option Addr} {B : Hp} {okA : Addr → Prop} {W : WX} {s s1 : S} {σ : L2.St} {H H1 : Hp} {Q : VK}
theorem Env.bNew (E : Env (sg X p) m B okA s σ H) (hm : m = p ∨ m = none) {a : Addr} (h : H a = none) : B a = none := by
  cases q : B a with
  | none => rfl
  | some o => exact absurd h (E.kp.n a (by rw [q]; exact nofun))
/-- what stood does not lead to the new one -/
theorem Env.alloc (E : Env (sg X p) m B okA s σ H) (hm : m = p ∨ m = none) {a : Addr} {o : HO} (ha : H a = none) : Env (sg X p) m B (fun b => okA b ∧ b ≠ a) s σ (upd H a o) := by
  have E2 := E.grow (hm.imp id id) (o := o) ha
  have k := ((Ext.new (m := none) (o := o) ha).keeps (ok := Ok (sg X p) okA s σ) fun _ _ => nofun)
  have w : ∀ b, Ok (sg X p) okA s σ b → H b ≠ none → Ok (sg X p) (fun b => okA b ∧ b ≠ a) s σ b := fun b z q => ⟨⟨z.1, fun e => q (e ▸ ha)⟩, z.2⟩
  refine ⟨E2.len, E2.pm, E2.kp, E2.nB, fun q h => ⟨E2.new q h, fun e => by subst e; rw [upd_same] at h; cases h⟩, fun i d h => ?_, fun i d h => ?_, E2.dis, ?_, E2.pn, E2.tb⟩
  · obtain ⟨v, h1, h2⟩ := E.fz i d h
    exact ⟨v, h1, Rep.mono k w _ _ h2⟩
  · obtain ⟨b, h1, h2, h3, h4⟩ := E.ow i d h
    obtain ⟨o', ho⟩ := h4.there
    refine ⟨b, h1, ⟨h2, fun e => by rw [e, ha] at ho; cases ho⟩, h3, h4.mono k w fun o' _ z => ?_⟩
    rw [upd_ne (ne_of_none z ha)]; exact z
  · cases hs : s.pn with
    | none => trivial
    | some mu =>
      cases mu with
      | p pn =>
        have z := E.pen
        rw [hs] at z
        obtain ⟨q, c, h1, h2, h3, h4⟩ := z
        exact ⟨q, c, h1, by rw [upd_ne (ne_of_none h2 ha)]; exact h2, w c h3 (by rw [h4]; exact nofun), k.l c _ h3 h4⟩
      | o d =>
        have z := E.pen
        rw [hs] at z
        obtain ⟨q, h1, h2⟩ := z
        exact ⟨q, h1, h2.mono k w fun o' _ z => by rw [upd_ne (ne_of_none z ha)]; exact z⟩
/-- a new object at hand -/
theorem PostF.made {d : D} {a : Addr} {o : HO} (hp : PostF (sg X p) m B okA W σ s H Q (.ok (s, d))) (hm : m = p ∨ m = none) (E : Env (sg X p) m B okA s σ H) (ha : H a = none)
    (r : RepO (sg X p) (Ok (sg X p) (fun b => okA b ∧ b ≠ a) s σ) (upd H a o) a d) : Q (.ref a) (upd H a o) :=
  hp a _ (Ext.new ha) (Less.refl _) (E.alloc hm ha) (E.new a ha) (E.bNew hm ha) (E.notPen ha) (E.notOwn ha) r
/-- what stood, beside the new one -/
theorem beside {vs : List V} {ds : List D} {a : Addr} {o : HO} (r : Reps (sg X p) (Ok (sg X p) okA s σ) H vs ds) (ha : H a = none) : Reps (sg X p) (Ok (sg X p) (fun b => okA b ∧ b ≠ a) s σ) (upd H a o) vs ds :=
  Reps.mono ((Ext.new (m := none) ha).keeps fun _ _ => nofun) (fun b z q => ⟨⟨z.1, fun e => q (e ▸ ha)⟩, z.2⟩) _ _ r
end
end
end SM

set_option Elab.async false
set_option linter.all false
set_option maxRecDepth 100000
set_option maxHeartbeats 4000000
namespace SM
variable [Tab]
open PySem PySem.Spec PyProof.Rows L2

section
variable {X : Cx} {e : Expr} {es : List Expr} {f g h : S → Res (S × D)} {fs : S → Res (S × List D)} {a b c : Expr} {pos : Pos}
theorem small_line {n : Nat} (h : n ≤ 100000) : n ≤ sizeLine := Nat.le_trans h (by decide)
theorem small_lt {n : Nat} (h : n < 100000) : n < sizeLine := Nat.lt_of_lt_of_le h (by decide)

/-! ## displays -/
def eTup (fs : S → Res (S × List D)) (s : S) : Res (S × D) := do
  let (s1, xs) ← fs s
  if xs.length ≤ 100000 then .ok (s1, .tup xs) else .stuck
theorem ee_tup {k} (ha : EA X es fs) : EE X (.Tuple es k pos) (eTup fs) := by
  intro p m B okA s σ H W Q tk hm E hp
  refine we_of (pe_tup (paW X es)) ?_
  show WA X es σ H fun xs H1 => xs.length ≤ sizeLine ∧ ∀ q, H1 q = none → Q (.ref q) (upd H1 q (.tup xs))
  refine Does.bind ha tk hm E hp fun s1 xs vs H1 e1 l1 E1 r1 p1 => ?_
  by_cases hl : xs.length ≤ 100000
  · dsimp only at p1
    rw [if_pos hl] at p1
    refine ⟨by rw [r1.length]; exact small_line hl, fun q hq => ?_⟩
    exact p1 _ _ (Ext.new hq) (Less.refl _) (E1.grow hm hq) (.tup upd_same (Reps.mono ((Ext.new (m := none) hq).keeps fun _ _ => nofun) (fun _ z _ => z) _ _ r1))
  · dsimp only at p1
    rw [if_neg hl] at p1
    exact p1.elim
def eLst (fs : S → Res (S × List D)) (s : S) : Res (S × D) := do
  let (s1, xs) ← fs s
  if xs.length ≤ 100000 then .ok (s1, .lst xs) else .stuck
/-- the same for what makes a new list -/
theorem Does.bindF {α β : Type} {P : PKd β α} {T : L2.St → Hp → (β → Hp → Prop) → Prop} {f : S → Res (S × α)} {k : S × α → Res (S × D)} {Q : VK} {Q' : β → Hp → Prop} {p m : Option Addr} {B : Hp} {okA : Addr → Prop} {W : WX} {s : S} {σ : L2.St} {H : Hp}
    (h : Does P X T f) (tk : Takes X W) (hm : m = p ∨ m = none) (E : Env (sg X p) m B okA s σ H) (hp : PostF (sg X p) m B okA W σ s H Q (f s >>= k))
    (hq : ∀ s1 a b H1, Ext m H H1 → Less s1 s → Env (sg X p) m B okA s1 σ H1 → P (sg X p) (Ok (sg X p) okA s1 σ) H1 b a → PostF (sg X p) m B okA W σ s1 H1 Q (k (s1, a)) → Q' b H1) : T σ H Q' := by
  refine h p m B okA s σ H W Q' tk hm E ?_
  cases hf : f s with
  | ok x =>
    obtain ⟨s1, a⟩ := x
    rw [hf] at hp
    intro b H1 e l E1 r
    refine hq s1 a b H1 e l E1 r ?_
    have hp2 : PostF (sg X p) m B okA W σ s H Q (k (s1, a)) := hp
    revert hp2
    cases k (s1, a) with
    | ok y => exact fun hp a H' e' l' => hp a H' (e.trans e') (l.trans l')
    | exn c ns ds => exact fun hp C dd fs H' e' hd hc hx hn fr2 => hp C dd fs H' (e.trans e') (E1.fresh hm e dd hd) hc hx hn fun p z => E1.fresh hm e p (fr2 p z)
    | stuck => exact fun z => z
  | exn c ns ds => rw [hf] at hp; exact hp
  | stuck => rw [hf] at hp; exact hp.elim
theorem ef_lst (ha : EA X es fs) : EF X (.List es pos) (eLst fs) := by
  intro p m B okA s σ H W Q tk hm E hp
  refine we_of (pe_lst (paW X es)) ?_
  show WA X es σ H fun xs H1 => xs.length ≤ sizeLine ∧ ∀ q, H1 q = none → Q (.ref q) (upd H1 q (.lst xs))
  refine Does.bindF ha tk hm E hp fun s1 xs vs H1 e1 l1 E1 r1 p1 => ?_
  by_cases hl : xs.length ≤ 100000
  · dsimp only at p1
    rw [if_pos hl] at p1
    refine ⟨by rw [r1.length]; exact small_line hl, fun q hq => ?_⟩
    exact p1.made hm E1 hq (.lst upd_same (beside r1 hq))
  · dsimp only at p1
    rw [if_neg hl] at p1
    exact p1.elim
theorem ef_dnewK : EF X (.Dict [] [] pos) (eC (.dK [] [])) := by
  intro p m B okA s σ H W Q tk hm E hp
  refine we_of pe_dnewK ?_
  intro q hq
  exact hp.made hm E hq (RepO.dK (kvs := []) upd_same .nil)
theorem ef_dnewT : EF X (.Dict [] [] pos) (eC (.dT [] [])) := by
  intro p m B okA s σ H W Q tk hm E hp
  refine we_of pe_dnewT ?_
  intro q hq
  exact hp.made hm E hq (RepO.dT (kvs := []) upd_same .nil)

/-! ## items -/
def keyOf : D → Option Key
  | .int i => some (.inl i)
  | .str x => some (.inr x)
  | _ => none
def keysOf : List D → Option (List Key)
  | [] => some []
  | d :: ds => match keyOf d, keysOf ds with
    | some k, some ks => some (k :: ks)
    | _, _ => none
def lkp {κ : Type} [DecidableEq κ] : List κ → List D → κ → Option D
  | k :: ks, d :: ds, q => if k = q then some d else lkp ks ds q
  | _, _, _ => none
def itemD (x y : D) : Option D := match x, y with
  | .tup ds, .int i => atI ds i
  | .lst ds, .int i => atI ds i
  | .dK ks ds, y => (keyOf y).bind (lkp ks ds)
  | .dT ks ds, .tup ys => (keysOf ys).bind (lkp ks ds)
  | _, _ => none
theorem keyOf_v {Γ : Sig} {ok : Addr → Prop} {H : Hp} {v : V} {d : D} {k : Key} (r : Rep Γ ok H v d) (h : keyOf d = some k) : v = kV k := by
  cases d with
  | int i => cases h; exact r.int_v
  | str x => cases h; exact r.str_v
  | _ => cases h
theorem keysOf_v {Γ : Sig} {ok : Addr → Prop} {H : Hp} : ∀ {vs : List V} {ds : List D} {ks : List Key}, Reps Γ ok H vs ds → keysOf ds = some ks → vs = ks.map kV
  | _, [], ks, r, h => by cases r; cases h; rfl
  | _, d :: ds, ks, r, h => by
    cases r with
    | cons r1 r2 =>
      unfold keysOf at h
      cases h1 : keyOf d with
      | none => rw [h1] at h; cases h
      | some k =>
        cases h2 : keysOf ds with
        | none => rw [h1, h2] at h; cases h
        | some ks2 =>
          rw [h1, h2] at h
          cases h
          rw [keyOf_v r1 h1, keysOf_v r2 h2]; rfl
theorem lkp_v {κ : Type} [DecidableEq κ] {Γ : Sig} {ok : Addr → Prop} {H : Hp} {q : κ} : ∀ {kvs : List (κ × V)} {ds : List D}, Reps Γ ok H (kvs.map (·.2)) ds →
    (∀ d : D, lkp (kvs.map (·.1)) ds q = some d → ∃ v, valV kvs q = some v ∧ Rep Γ ok H v d) ∧ (lkp (kvs.map (·.1)) ds q = none → valV kvs q = none)
  | [], _, r => by cases r; exact ⟨fun d h => (nomatch h), fun _ => valV_nil⟩
  | kv :: kvs, _, r => by
    cases r with
    | cons r1 r2 =>
      rename_i d ds
      obtain ⟨i1, i2⟩ := lkp_v (q := q) r2
      show (∀ d', (if kv.1 = q then some d else lkp (kvs.map (·.1)) ds q) = some d' → _) ∧ ((if kv.1 = q then some d else lkp (kvs.map (·.1)) ds q) = none → _)
      by_cases e : kv.1 = q
      · rw [if_pos e]
        refine ⟨fun d' h => ?_, fun h => nomatch h⟩
        cases h
        exact ⟨kv.2, valV_pos e, r1⟩
      · rw [if_neg e, valV_neg e]
        exact ⟨i1, i2⟩
theorem atI_rep {Γ : Sig} {ok : Addr → Prop} {H : Hp} {vs : List V} {ds : List D} {i : Int} {d : D} (r : Reps Γ ok H vs ds) (h : atI ds i = some d) : ∃ v, atI vs i = some v ∧ Rep Γ ok H v d := by
  unfold atI at h ⊢
  rw [r.length]
  cases hj : ixN ds.length i with
  | none => rw [hj] at h; cases h
  | some j =>
    rw [hj] at h
    exact r.get h
def eIx (f g : S → Res (S × D)) (s : S) : Res (S × D) := do
  let (s1, x) ← f s
  let (s2, y) ← g s1
  match itemD x y with
  | some d => .ok (s2, d)
  | none => .stuck
/-- two parts, the first one read alone -/
theorem twoR {α β2 : Type} {p m : Option Addr} {B : Hp} {okA : Addr → Prop} {W : WX} {s : S} {σ : L2.St} {H : Hp} {P3 : PKd β2 α} {Q : β2 → Hp → Prop} {R : V → V → Hp → Prop} {k : S → D → D → Res (S × α)} (ha : ER X a f) (hb : ER X b g) (tk : Takes X W) (hm : m = p ∨ m = none) (E : Env (sg X p) m B okA s σ H)
    (hp : Post P3 (sg X p) m B okA W σ s H Q (f s >>= fun (s1, x) => g s1 >>= fun (s2, y) => k s2 x y))
    (hq : ∀ s2 x y v u H2, Ext m H H2 → Less s2 s → Env (sg X p) m B okA s2 σ H2 → RepR (sg X p) (Ok (sg X p) okA s2 σ) H2 v x → RepR (sg X p) (Ok (sg X p) okA s2 σ) H2 u y → Post P3 (sg X p) m B okA W σ s2 H2 Q (k s2 x y) → R v u H2) :
    WE X a σ H fun v H1 => WE X b σ H1 fun u H2 => R v u H2 := by
  refine Does.bind ha tk hm E hp fun s1 x v H1 e1 l1 E1 r1 p1 => ?_
  refine Does.bind hb tk hm E1 p1 fun s2 y u H2 e2 l2 E2 r2 p2 => ?_
  exact hq s2 x y v u H2 (e1.trans e2) (l1.trans l2) E2 (stayR r1 hm e2 l2) r2 p2
theorem Rd.sqL {K : PySem.W.Frag} {H : Hp} {a : Addr} {vs : List V} (h : Rd H a (.lst vs)) : SqL K H a vs := .inl h
theorem RepR.tupV {Γ : Sig} {ok : Addr → Prop} {H : Hp} {v : V} {ds : List D} (r : RepR Γ ok H v (.tup ds)) : Rep Γ ok H v (.tup ds) := by
  cases r with
  | of r => exact r
  | own _ r => cases r
theorem RepR.key {Γ : Sig} {ok : Addr → Prop} {H : Hp} {v : V} {d : D} {k : Key} (r : RepR Γ ok H v d) (h : keyOf d = some k) : v = kV k := by
  cases r with
  | of r => exact keyOf_v r h
  | own _ r => cases r <;> cases h
/-- a dict's item, by values -/
def rIxD : R2 := fun x y H Q => ∃ a w, x = .ref a ∧ DGet H a y (some w) ∧ Q w H
theorem ix_dict (hu : X.A.units + 1 < cLine) : IxR X rIxD := by
  intro value slice pins s σ H x y v u Q I rx ry q hs
  obtain ⟨d, w, rfl, g, q⟩ := q
  cases rx
  have ty := dict_typeIs I g
  have got : wpAny (model X.prog X.w) X.A (getItem (.ref d) u) (EP X pins σ Q) X.xe s := d_getItem hu I g ry fun w' s' I' r' => ⟨w, H, I', r', q⟩
  have tail : wpAny (model X.prog X.w) X.A (subscripted slice false (.ref d) u) (fun r s' => wpAny (model X.prog X.w) X.A (letTemporaryGo value (.ref d) r >>= fun _ => pure r) (EP X pins σ Q) X.xe s') X.xe s := by
    rw [hs]
    exact wpAny_operating (thn got fun r s' z => wpAny_bind (wpAny_letTemporaryGo (wpAny_pure z)))
  unfold subscriptTail
  refine wpAny_bind ?_
  rw [getitemInPython_of_ne ty.not_modules]
  refine wpAny_bind (wpAny_specialOf ty PySem.F.slot_dict_getitem.lookup ?_)
  first
    | exact wpAny_bind tail
    | exact wpAny_pure (wpAny_bind tail)
    | exact wpAny_bind (wpAny_pure (wpAny_bind tail))
def rIxA (K : PySem.W.Frag) : R2 := fun x y H Q => (rIxL K x y H Q ∨ rIxT K x y H Q) ∨ rIxD x y H Q
theorem ix_any (hu : X.A.units + 1 < cLine) : IxR X (rIxA X.K) := IxR.or (IxR.or ix_list ix_tup) (ix_dict hu)
theorem ee_ix (hu : X.A.units + 1 < cLine) (ha : ER X a f) (hb : ER X b g) (hs : PlainIx b) : EE X (.Subscript a b pos) (eIx f g) := by
  intro p m B okA s σ H W Q tk hm E hp
  refine we_of (pe_ix (ix_any hu) (peW X a) (peW X b) hs) ?_
  · show WE X a σ H (fun v H1 => WE X b σ H1 fun u H2 => rIxA X.K v u H2 Q)
    refine twoR (k := fun s2 x y => match itemD x y with | some d => .ok (s2, d) | none => .stuck) (P3 := KV') ha hb tk hm E hp fun s2 x y v u H2 e2 l2 E2 r1 r2 p2 => ?_
    cases hd : itemD x y with
    | none => rw [hd] at p2; exact (show False from p2).elim
    | some d =>
      rw [hd] at p2
      have fin : ∀ w, Rep (sg X p) (Ok (sg X p) okA s2 σ) H2 w d → Q w H2 := fun w r => Post.done (P := KV') (a := d) p2 E2 r
      cases x with
      | tup ds =>
        cases y with
        | int i =>
          obtain ⟨a, vs, rfl, h1, h2⟩ := r1.tup
          obtain ⟨w, h3, h4⟩ := atI_rep h2 hd
          exact .inl (.inr ⟨a, vs, i, w, rfl, r2.int_v, SqT.of h1, h3, fin w h4⟩)
        | _ => cases hd
      | lst ds =>
        cases y with
        | int i =>
          obtain ⟨a, vs, rfl, h1, h2⟩ := r1.lst
          obtain ⟨w, h3, h4⟩ := atI_rep h2 hd
          exact .inl (.inl ⟨a, vs, i, w, rfl, r2.int_v, Rd.sqL h1, h3, fin w h4⟩)
        | _ => cases hd
      | dK ks ds =>
        obtain ⟨a, kvs, rfl, h1, rfl, h3⟩ := r1.dK
        have hd2 : (keyOf y).bind (lkp (kvs.map (·.1)) ds) = some d := hd
        cases hk : keyOf y with
        | none => rw [hk] at hd2; cases hd2
        | some k =>
          rw [hk] at hd2
          obtain ⟨w, h4, h5⟩ := (lkp_v h3).1 d hd2
          exact .inr ⟨a, w, rfl, .inl ⟨kvs, k, h1, r2.key hk, h4.symm⟩, fin w h5⟩
      | dT ks ds =>
        obtain ⟨a, kvs, rfl, h1, rfl, h3⟩ := r1.dT
        cases y with
        | tup ys =>
          have hd2 : (keysOf ys).bind (lkp (kvs.map (·.1)) ds) = some d := hd
          cases hk : keysOf ys with
          | none => rw [hk] at hd2; cases hd2
          | some k =>
            rw [hk] at hd2
            obtain ⟨w, h4, h5⟩ := (lkp_v h3).1 d hd2
            obtain ⟨b, us, rfl, g1, g2⟩ := r2.tup
            rw [keysOf_v g2 hk] at g1
            exact .inr ⟨a, w, rfl, .inr ⟨kvs, k, b, h1, rfl, g1, h4.symm⟩, fin w h5⟩
        | _ => cases hd
      | _ => cases hd
end
end SM

set_option Elab.async false
set_option linter.all false
set_option maxRecDepth 100000
set_option maxHeartbeats 4000000
namespace SM
variable [Tab]
open PySem PySem.Spec PyProof.Rows L2

section
variable {X : Cx} {e : Expr} {es : List Expr} {f g h : S → Res (S × D)} {fs : S → Res (S × List D)} {a b c : Expr} {pos p' : Pos} {x : Str} {id T : String}

/-! ## comparisons -/
def eCmp (q : D → D → Option Bool) (f g : S → Res (S × D)) (s : S) : Res (S × D) := do
  let (s1, x) ← f s
  let (s2, y) ← g s1
  match q x y with
  | some k => .ok (s2, .bl k)
  | none => .stuck
def tCmp (q : D → D → Option Bool) (f g : S → Res (S × D)) (s : S) : Res (S × Bool) := do
  let (s1, x) ← f s
  let (s2, y) ← g s1
  match q x y with
  | some k => .ok (s2, k)
  | none => .stuck
/-- q is what the operation tells, without a change -/
def CmpD (X : Cx) (r : R2) (q : D → D → Option Bool) : Prop := ∀ (p : Option Addr) (ok : Addr → Prop) (H : Hp) (v u : V) (x y : D) (k : Bool) (Q : VK), RepR (sg X p) ok H v x → RepR (sg X p) ok H u y → q x y = some k → Q (.bl k) H → r v u H Q
theorem ee_cmp {op : CmpOp} {r : R2} {q : D → D → Option Bool} (ho : OpR X (compareOp op) r) (hq : CmpD X r q) (hm' : behindInMarks op b = false) (ha : ER X a f) (hb : ER X b g) : EE X (.Compare a [op] [b] pos) (eCmp q f g) := by
  intro p m B okA s σ H W Q tk hm E hp
  refine we_of (pe_cmpR ho (peW X a) (peW X b) hm') ?_
  show WE X a σ H (fun v H1 => WE X b σ H1 fun u H2 => r v u H2 Q)
  refine twoR (k := fun s2 x y => match q x y with | some k => .ok (s2, .bl k) | none => .stuck) (P3 := KV') ha hb tk hm E hp fun s2 x y v u H2 e2 l2 E2 r1 r2 p2 => ?_
  cases hk : q x y with
  | none => rw [hk] at p2; exact (show False from p2).elim
  | some k =>
    rw [hk] at p2
    exact hq p _ H2 v u x y k Q r1 r2 hk (Post.done (P := KV') (a := D.bl k) p2 E2 (.bl k))
theorem et_cmp {op : CmpOp} {r : R2} {q : D → D → Option Bool} (ho : OpR X (compareOp op) r) (hq : CmpD X r q) (hm' : behindInMarks op b = false) (ha : ER X a f) (hb : ER X b g) : ET X (.Compare a [op] [b] pos) (tCmp q f g) := by
  intro p m B okA s σ H W Q tk hm E hp
  refine wt_of (pt_cmpR ho (peW X a) (peW X b) hm') ?_
  show WE X a σ H (fun v H1 => WE X b σ H1 fun u H2 => r v u H2 fun z H3 => ∃ k, z = .bl k ∧ Q k H3)
  refine twoR (k := fun s2 x y => match q x y with | some k => .ok (s2, k) | none => .stuck) (P3 := KB') ha hb tk hm E hp fun s2 x y v u H2 e2 l2 E2 r1 r2 p2 => ?_
  cases hk : q x y with
  | none => rw [hk] at p2; exact (show False from p2).elim
  | some k =>
    rw [hk] at p2
    exact hq p _ H2 v u x y k _ r1 r2 hk ⟨k, rfl, Post.done (P := KB') (a := k) p2 E2 rfl⟩
def cInt (u : Int → Int → Bool) (x y : D) : Option Bool := match x, y with
  | .int i, .int j => some (u i j)
  | _, _ => none
theorem cmp_int {u : Int → Int → Bool} : CmpD X (rI0 fun i j => .bl (u i j)) (cInt u) := fun p ok H v w x y k Q r1 r2 h q => by
  cases x with
  | int i =>
    cases y with
    | int j => cases h; exact ⟨i, j, r1.int_v, r2.int_v, q⟩
    | _ => cases h
  | _ => cases h
abbrev cLt := cInt fun i j => decide (i < j)
abbrev cLe := cInt fun i j => decide (i ≤ j)
abbrev cGt := cInt fun i j => decide (j < i)
abbrev cGe := cInt fun i j => decide (j ≤ i)
/-- == of flat things -/
def cEq (x y : D) : Option Bool := match x, y with
  | .int i, .int j => some (decide (i = j))
  | .bl i, .bl j => some (decide (i = j))
  | .str i, .str j => some (decide (i = j))
  | .non, .non => some true
  | .int _, .str _ => some false
  | .str _, .int _ => some false
  | .int _, .non => some false
  | .non, .int _ => some false
  | .str _, .non => some false
  | .non, .str _ => some false
  | .bl _, .non => some false
  | .non, .bl _ => some false
  | .bl _, .str _ => some false
  | .str _, .bl _ => some false
  | _, _ => none
def cNe (x y : D) : Option Bool := (cEq x y).map (!·)
theorem cEq_v {Γ : Sig} {ok : Addr → Prop} {H : Hp} {v u : V} {x y : D} {k : Bool} (r1 : RepR Γ ok H v x) (r2 : RepR Γ ok H u y) (h : cEq x y = some k) : scal v u = true ∧ decide (v = u) = k := by
  cases x <;> cases y <;> first
    | (cases h; done)
    | (cases h
       first
         | (rw [r1.int_v, r2.int_v]; exact ⟨rfl, by simp⟩)
         | (rw [r1.bl_v, r2.bl_v]; exact ⟨rfl, by simp⟩)
         | (rw [r1.str_v, r2.str_v]; exact ⟨rfl, by simp⟩)
         | (rw [r1.non_v, r2.non_v]; exact ⟨rfl, by simp⟩)
         | (rw [r1.int_v, r2.str_v]; exact ⟨rfl, by simp⟩)
         | (rw [r1.str_v, r2.int_v]; exact ⟨rfl, by simp⟩)
         | (rw [r1.int_v, r2.non_v]; exact ⟨rfl, by simp⟩)
         | (rw [r1.non_v, r2.int_v]; exact ⟨rfl, by simp⟩)
         | (rw [r1.str_v, r2.non_v]; exact ⟨rfl, by simp⟩)
         | (rw [r1.non_v, r2.str_v]; exact ⟨rfl, by simp⟩)
         | (rw [r1.bl_v, r2.non_v]; exact ⟨rfl, by simp⟩)
         | (rw [r1.non_v, r2.bl_v]; exact ⟨rfl, by simp⟩)
         | (rw [r1.bl_v, r2.str_v]; exact ⟨rfl, by simp⟩)
         | (rw [r1.str_v, r2.bl_v]; exact ⟨rfl, by simp⟩))
theorem cmp_eq : CmpD X rEq cEq := fun p ok H v w x y k Q r1 r2 h q => by
  obtain ⟨h1, h2⟩ := cEq_v r1 r2 h
  exact ⟨h1, by rw [h2]; exact q⟩
theorem cmp_ne : CmpD X rNe cNe := fun p ok H v w x y k Q r1 r2 h q => by
  unfold cNe at h
  cases hc : cEq x y with
  | none => rw [hc] at h; cases h
  | some c =>
    rw [hc] at h
    cases h
    obtain ⟨h1, h2⟩ := cEq_v r1 r2 hc
    exact ⟨h1, by rw [h2]; exact q⟩
def isNon : D → Bool
  | .non => true
  | _ => false
/-- is None -/
def cIsN (x y : D) : Option Bool := match y with
  | .non => some (isNon x)
  | _ => none
def cNotN (x y : D) : Option Bool := match y with
  | .non => some (!isNon x)
  | _ => none
theorem isNon_v {Γ : Sig} {ok : Addr → Prop} {H : Hp} {v : V} {x : D} (r : RepR Γ ok H v x) : decide (v = .non) = isNon x := by
  cases r with
  | of r => cases r <;> simp [isNon]
  | own _ r => cases r <;> simp [isNon]
theorem cmp_isN : CmpD X (fun x y H Q => y = .non ∧ Q (.bl (decide (x = .non))) H) cIsN := fun p ok H v w x y k Q r1 r2 h q => by
  cases y with
  | non => cases h; exact ⟨r2.non_v, by rw [isNon_v r1]; exact q⟩
  | _ => cases h
theorem cmp_notN : CmpD X (fun x y H Q => y = .non ∧ Q (.bl (!decide (x = .non))) H) cNotN := fun p ok H v w x y k Q r1 r2 h q => by
  cases y with
  | non => cases h; exact ⟨r2.non_v, by rw [isNon_v r1]; exact q⟩
  | _ => cases h
/-- is False, is True -/
def cIsB (x y : D) : Option Bool := match x, y with
  | .bl i, .bl j => some (decide (i = j))
  | _, _ => none

/-! ## tests -/
def asBl : D → Res Bool
  | .bl b => .ok b
  | _ => .stuck
def tVal (f : S → Res (S × D)) (s : S) : Res (S × Bool) := do
  let (s1, x) ← f s
  let k ← asBl x
  .ok (s1, k)
/-- a truth value as a test -/
theorem et_val (ha : ER X e f) (he : ∀ whole, isTrue e X.env whole = (do let v ← whole; standAt e.pos; holding [v] (truthy v)) := by intro _; rfl) : ET X e (tVal f) := by
  intro p m B okA s σ H W Q tk hm E hp
  refine wt_of (pt_val (peW X e) he) ?_
  show WE X e σ H fun x H1 => ∃ c, x = .bl c ∧ Q c H1
  refine Does.bind ha tk hm E hp fun s1 x v H1 e1 l1 E1 r1 p1 => ?_
  cases x with
  | bl k => exact ⟨k, r1.bl_v, Post.done (P := KB') (a := k) p1 E1 rfl⟩
  | _ => exact (show False from p1).elim
def tru : D → Option Bool
  | .non => some false
  | .bl b => some b
  | .int i => some (i != 0)
  | .tup ds => some (!ds.isEmpty)
  | .lst ds => some (!ds.isEmpty)
  | _ => none
def tTru (f : S → Res (S × D)) (s : S) : Res (S × Bool) := do
  let (s1, x) ← f s
  match tru x with
  | some k => .ok (s1, k)
  | none => .stuck
theorem empty_len {Γ : Sig} {ok : Addr → Prop} {H : Hp} {vs : List V} {ds : List D} (r : Reps Γ ok H vs ds) : vs.isEmpty = ds.isEmpty := by
  cases r <;> rfl
theorem et_tru (ha : ER X e f) (he : ∀ whole, isTrue e X.env whole = (do let v ← whole; standAt e.pos; holding [v] (truthy v)) := by intro _; rfl) : ET X e (tTru f) := by
  intro p m B okA s σ H W Q tk hm E hp
  refine wt_of (pt_truth (peW X e) he) ?_
  show WE X e σ H fun x H' => ∃ k, TruV X.K x H' k ∧ Q k H'
  refine Does.bind ha tk hm E hp fun s1 x v H1 e1 l1 E1 r1 p1 => ?_
  dsimp only at p1
  cases hk : tru x with
  | none => rw [hk] at p1; exact (show False from p1).elim
  | some k =>
    rw [hk] at p1
    refine ⟨k, ?_, Post.done (P := KB') (a := k) p1 E1 rfl⟩
    cases x with
    | non => cases hk; rw [r1.non_v]; rfl
    | bl i => cases hk; rw [r1.bl_v]; rfl
    | int i => cases hk; rw [r1.int_v]; rfl
    | tup ds =>
      cases hk
      obtain ⟨q, vs, rfl, h1, h2⟩ := r1.tup
      exact .inr (.inl ⟨vs, SqT.of h1, by rw [empty_len h2]⟩)
    | lst ds =>
      cases hk
      obtain ⟨q, vs, rfl, h1, h2⟩ := r1.lst
      exact .inl ⟨vs, Rd.sqL h1, by rw [empty_len h2]⟩
    | _ => cases hk
def tNot (t : S → Res (S × Bool)) (s : S) : Res (S × Bool) := do
  let (s1, k) ← t s
  .ok (s1, !k)
def tAnd (t u : S → Res (S × Bool)) (s : S) : Res (S × Bool) := do
  let (s1, k) ← t s
  if k = true then u s1 else .ok (s1, false)
def tOr (t u : S → Res (S × Bool)) (s : S) : Res (S × Bool) := do
  let (s1, k) ← t s
  if k = true then .ok (s1, true) else u s1
variable {t u : S → Res (S × Bool)} {rest : List Expr}
theorem et_not (ha : ET X a t) : ET X (.UnaryOp .Not a pos) (tNot t) := by
  intro p m B okA s σ H W Q tk hm E hp
  refine wt_of (pt_not (ptW X a)) ?_
  show WT X a σ H fun c H1 => Q (!c) H1
  refine Does.bind ha tk hm E hp fun s1 k b H1 e1 l1 E1 r1 p1 => ?_
  have r2 : b = k := r1
  subst r2
  exact Post.done (P := KB') (a := !b) p1 E1 rfl
theorem ew_and1 (ha : ET X a t) : EW X (.BoolOp .And [a] pos) t := fun p m B okA s σ H W Q tk hm E hp => ww_of (pw_and1 (ptW X a)) (ha p m B okA s σ H W Q tk hm E hp)
theorem ew_or1 (ha : ET X a t) : EW X (.BoolOp .Or [a] pos) t := fun p m B okA s σ H W Q tk hm E hp => ww_of (pw_or1 (ptW X a)) (ha p m B okA s σ H W Q tk hm E hp)
theorem ew_and (ha : ET X a t) (hb : EW X (.BoolOp .And (b :: rest) pos) u) : EW X (.BoolOp .And (a :: b :: rest) pos) (tAnd t u) := by
  intro p m B okA s σ H W Q tk hm E hp
  refine ww_of (pw_and (ptW X a) (pwW X _)) ?_
  show WT X a σ H fun c H1 => if c = true then WW X (.BoolOp .And (b :: rest) pos) σ H1 Q else Q false H1
  refine Does.bind ha tk hm E hp fun s1 k c H1 e1 l1 E1 r1 p1 => ?_
  have r2 : c = k := r1
  subst r2
  cases c with
  | true => exact hb p m B okA s1 σ H1 W Q tk hm E1 p1
  | false => exact Post.done (P := KB') (a := false) p1 E1 rfl
theorem ew_or (ha : ET X a t) (hb : EW X (.BoolOp .Or (b :: rest) pos) u) : EW X (.BoolOp .Or (a :: b :: rest) pos) (tOr t u) := by
  intro p m B okA s σ H W Q tk hm E hp
  refine ww_of (pw_or (ptW X a) (pwW X _)) ?_
  show WT X a σ H fun c H1 => if c = true then Q true H1 else WW X (.BoolOp .Or (b :: rest) pos) σ H1 Q
  refine Does.bind ha tk hm E hp fun s1 k c H1 e1 l1 E1 r1 p1 => ?_
  have r2 : c = k := r1
  subst r2
  cases c with
  | true => exact Post.done (P := KB') (a := true) p1 E1 rfl
  | false => exact hb p m B okA s1 σ H1 W Q tk hm E1 p1
theorem et_w (h : EW X e t) : ET X e t := fun p m B okA s σ H W Q tk hm E hp => wt_mk fun pins s0 I => (pwW X e).run _ pins s0 σ H Q I (h p m B okA s σ H W Q tk hm E hp)
/-- and, or, not as values, of truth values -/
def eAnd (f g : S → Res (S × D)) (s : S) : Res (S × D) := do
  let (s1, x) ← f s
  let k ← asBl x
  if k = true then g s1 else .ok (s1, .bl false)
def eOr (f g : S → Res (S × D)) (s : S) : Res (S × D) := do
  let (s1, x) ← f s
  let k ← asBl x
  if k = true then .ok (s1, .bl true) else g s1
def eNot (f : S → Res (S × D)) (s : S) : Res (S × D) := do
  let (s1, x) ← f s
  let k ← asBl x
  .ok (s1, .bl !k)
theorem ee_one {op} (ha : EE X a f) : EE X (.BoolOp op [a] pos) f := fun p m B okA s σ H W Q tk hm E hp => we_of (pe_one (peW X a)) (ha p m B okA s σ H W Q tk hm E hp)
theorem ee_and (ha : EE X a f) (hb : EE X (.BoolOp .And (b :: rest) pos) g) : EE X (.BoolOp .And (a :: b :: rest) pos) (eAnd f g) := by
  intro p m B okA s σ H W Q tk hm E hp
  refine we_of (pe_and (peW X a) (peW X _)) ?_
  show WE X a σ H fun x H1 => ∃ c, x = .bl c ∧ if c = true then WE X (.BoolOp .And (b :: rest) pos) σ H1 Q else Q (.bl false) H1
  refine Does.bind ha tk hm E hp fun s1 x v H1 e1 l1 E1 r1 p1 => ?_
  cases x with
  | bl k =>
    refine ⟨k, r1.bl_v, ?_⟩
    cases k with
    | true => exact hb p m B okA s1 σ H1 W Q tk hm E1 p1
    | false => exact Post.done (P := KV') (a := D.bl false) p1 E1 (.bl _)
  | _ => exact (show False from p1).elim
theorem ee_or (ha : EE X a f) (hb : EE X (.BoolOp .Or (b :: rest) pos) g) : EE X (.BoolOp .Or (a :: b :: rest) pos) (eOr f g) := by
  intro p m B okA s σ H W Q tk hm E hp
  refine we_of (pe_or (peW X a) (peW X _)) ?_
  show WE X a σ H fun x H1 => ∃ c, x = .bl c ∧ if c = true then Q (.bl true) H1 else WE X (.BoolOp .Or (b :: rest) pos) σ H1 Q
  refine Does.bind ha tk hm E hp fun s1 x v H1 e1 l1 E1 r1 p1 => ?_
  cases x with
  | bl k =>
    refine ⟨k, r1.bl_v, ?_⟩
    cases k with
    | true => exact Post.done (P := KV') (a := D.bl true) p1 E1 (.bl _)
    | false => exact hb p m B okA s1 σ H1 W Q tk hm E1 p1
  | _ => exact (show False from p1).elim
theorem ee_not (ha : EE X a f) : EE X (.UnaryOp .Not a pos) (eNot f) := by
  intro p m B okA s σ H W Q tk hm E hp
  refine we_of (pe_not (peW X a)) ?_
  show WE X a σ H fun x H1 => ∃ c, x = .bl c ∧ Q (.bl (!c)) H1
  refine Does.bind ha tk hm E hp fun s1 x v H1 e1 l1 E1 r1 p1 => ?_
  cases x with
  | bl k => exact ⟨k, r1.bl_v, Post.done (P := KV') (a := D.bl !k) p1 E1 (.bl _)⟩
  | _ => exact (show False from p1).elim
/-- a if t else b -/
def eIf (t : S → Res (S × Bool)) (f g : S → Res (S × D)) (s : S) : Res (S × D) := do
  let (s1, k) ← t s
  if k = true then f s1 else g s1
theorem ee_if (hc : ET X c t) (ha : EE X a f) (hb : EE X b g) : EE X (.IfExp c a b pos) (eIf t f g) := by
  intro p m B okA s σ H W Q tk hm E hp
  refine we_of (pe_ifExp (ptW X c) (peW X a) (peW X b)) ?_
  show WT X c σ H fun k H1 => if k = true then WE X a σ H1 Q else WE X b σ H1 Q
  refine Does.bind hc tk hm E hp fun s1 k k' H1 e1 l1 E1 r1 p1 => ?_
  have r2 : k' = k := r1
  subst r2
  cases k' with
  | true => exact ha p m B okA s1 σ H1 W Q tk hm E1 p1
  | false => exact hb p m B okA s1 σ H1 W Q tk hm E1 p1
/-- a < b < c -/
def eChain (q q' : D → D → Option Bool) (f g h : S → Res (S × D)) (s : S) : Res (S × D) := do
  let (s1, x) ← f s
  let (s2, y) ← g s1
  match q x y with
  | none => .stuck
  | some k => if k = true then (h s2 >>= fun (s3, z) => match q' y z with | none => .stuck | some k' => .ok (s3, .bl k')) else .ok (s2, .bl false)
theorem ee_chain {op op' : CmpOp} {r r' : R2} {q q' : D → D → Option Bool} (ho : OpR X (compareOp op) r) (ho' : OpR X (compareOp op') r') (hq : CmpD X r q) (hq' : CmpD X r' q') (ha : ER X a f) (hb : ER X b g) (hc : ER X c h) (hmk : lastMarks [op, op'] [b, c] = false := by with_unfolding_all rfl) :
    EE X (.Compare a [op, op'] [b, c] pos) (eChain q q' f g h) := by
  intro p m B okA s σ H W Q tk hm E hp
  refine we_of (pe_chain ho ho' (peW X a) (peW X b) (peW X c) hmk) ?_
  show WE X a σ H fun x H1 => WE X b σ H1 fun y H2 => r x y H2 fun z H3 => ∃ k, z = .bl k ∧ (if k = true then WE X c σ H3 fun w' H4 => r' y w' H4 Q else Q (.bl false) H3)
  refine twoR (k := fun s2 x y => match q x y with | none => .stuck | some k => if k = true then (h s2 >>= fun (s3, z) => match q' y z with | none => .stuck | some k' => .ok (s3, .bl k')) else .ok (s2, .bl false)) (P3 := KV') ha hb tk hm E hp fun s2 x y v u H2 e2 l2 E2 r1 r2 p2 => ?_
  cases hk : q x y with
  | none => rw [hk] at p2; exact (show False from p2).elim
  | some k =>
    rw [hk] at p2
    refine hq p _ H2 v u x y k _ r1 r2 hk ⟨k, rfl, ?_⟩
    cases k with
    | false => exact Post.done (P := KV') (a := D.bl false) p2 E2 (.bl _)
    | true =>
      refine Does.bind hc tk hm E2 p2 fun s3 z w H3 e3 l3 E3 r3 p3 => ?_
      dsimp only at p3
      cases hk' : q' y z with
      | none => rw [hk'] at p3; exact (show False from p3).elim
      | some k' =>
        rw [hk'] at p3
        exact hq' p _ H3 u w y z k' Q (stayR r2 hm e3 l3) r3 hk' (Post.done (P := KV') (a := D.bl k') p3 E3 (.bl _))
def tOfE (f : S → Res (S × D)) : S → Res (S × Bool) := tVal f
theorem et_chain {op op' : CmpOp} {r r' : R2} {q q' : D → D → Option Bool} (ho : OpR X (compareOp op) r) (ho' : OpR X (compareOp op') r') (hq : CmpD X r q) (hq' : CmpD X r' q') (ha : ER X a f) (hb : ER X b g) (hc : ER X c h) (hmk : lastMarks [op, op'] [b, c] = false := by with_unfolding_all rfl) :
    ET X (.Compare a [op, op'] [b, c] pos) (tVal (eChain q q' f g h)) := by
  intro p m B okA s σ H W Q tk hm E hp
  refine wt_of (pt_chain ho ho' (peW X a) (peW X b) (peW X c) hmk) ?_
  show WE X a σ H fun x H1 => WE X b σ H1 fun y H2 => r x y H2 fun z H3 => ∃ k, z = .bl k ∧ (if k = true then WE X c σ H3 fun w' H4 => r' y w' H4 (fun x H' => ∃ k, x = .bl k ∧ Q k H') else ∃ k, V.bl false = .bl k ∧ Q k H3)
  have hp2 : Post KB' (sg X p) m B okA W σ s H Q (f s >>= fun (s1, x) => g s1 >>= fun (s2, y) => (match q x y with | none => .stuck | some k => if k = true then (h s2 >>= fun (s3, z) => match q' y z with | none => .stuck | some k' => .ok (s3, k')) else .ok (s2, false))) := by
    have e : tVal (eChain q q' f g h) s = (f s >>= fun (s1, x) => g s1 >>= fun (s2, y) => (match q x y with | none => .stuck | some k => if k = true then (h s2 >>= fun (s3, z) => match q' y z with | none => .stuck | some k' => .ok (s3, k')) else .ok (s2, false))) := by
      unfold tVal eChain
      cases f s with
      | ok x1 =>
        obtain ⟨s1, x⟩ := x1
        show ((g s1 >>= _) >>= _) = (g s1 >>= _)
        cases g s1 with
        | ok x2 =>
          obtain ⟨s2, y⟩ := x2
          show ((match q x y with | none => Res.stuck | some k => _) >>= _) = (match q x y with | none => Res.stuck | some k => _)
          cases q x y with
          | none => rfl
          | some k =>
            cases k with
            | false => rfl
            | true =>
              show ((h s2 >>= _) >>= _) = (h s2 >>= _)
              cases h s2 with
              | ok x3 =>
                obtain ⟨s3, z⟩ := x3
                show ((match q' y z with | none => Res.stuck | some k' => _) >>= _) = (match q' y z with | none => Res.stuck | some k' => _)
                cases q' y z <;> rfl
              | exn => rfl
              | stuck => rfl
        | exn => rfl
        | stuck => rfl
      | exn => rfl
      | stuck => rfl
    rw [← e]; exact hp
  refine twoR (k := fun s2 x y => match q x y with | none => .stuck | some k => if k = true then (h s2 >>= fun (s3, z) => match q' y z with | none => .stuck | some k' => .ok (s3, k')) else .ok (s2, false)) (P3 := KB') ha hb tk hm E hp2 fun s2 x y v u H2 e2 l2 E2 r1 r2 p2 => ?_
  cases hk : q x y with
  | none => rw [hk] at p2; exact (show False from p2).elim
  | some k =>
    rw [hk] at p2
    refine hq p _ H2 v u x y k _ r1 r2 hk ⟨k, rfl, ?_⟩
    cases k with
    | false => exact ⟨false, rfl, Post.done (P := KB') (a := false) p2 E2 rfl⟩
    | true =>
      refine Does.bind hc tk hm E2 p2 fun s3 z w H3 e3 l3 E3 r3 p3 => ?_
      dsimp only at p3
      cases hk' : q' y z with
      | none => rw [hk'] at p3; exact (show False from p3).elim
      | some k' =>
        rw [hk'] at p3
        exact hq' p _ H3 u w y z k' _ (stayR r2 hm e3 l3) r3 hk' ⟨k', rfl, Post.done (P := KB') (a := k') p3 E3 rfl⟩
end
end SM

set_option Elab.async false
set_option linter.all false
set_option maxRecDepth 100000
set_option maxHeartbeats 4000000
namespace SM
variable [Tab]
open PySem PySem.Spec PyProof.Rows L2

section
variable {X : Cx} {e call : Expr} {es : List Expr} {f g h : S → Res (S × D)} {fs : S → Res (S × List D)} {a b c : Expr} {pos : Pos} {r : List V → Hp → VK → Prop}

/-! ## numbers, on -/
def eNeg (f : S → Res (S × D)) (s : S) : Res (S × D) := do
  let (s1, x) ← f s
  let i ← asInt x
  .ok (s1, .int (-i))
theorem ee_neg (ha : EE X a f) : EE X (.UnaryOp .USub a pos) (eNeg f) := by
  intro p m B okA s σ H W Q tk hm E hp
  refine we_of (pe_un un_neg (peW X a)) ?_
  show WE X a σ H fun x H1 => ∃ i, x = .int i ∧ Q (.int (-i)) H1
  refine Does.bind ha tk hm E hp fun s1 x v H1 e1 l1 E1 r1 p1 => ?_
  obtain ⟨i, ex, p2⟩ := asInt_ok (P := fun r => Post KV' (sg X p) m B okA W σ s1 H1 Q r) (fun z => z) p1
  subst ex
  exact ⟨i, r1.int_v, Post.done (a := D.int (-i)) p2 E1 (.int _)⟩
def mulB (i j : Int) : Bool := decide (i.natAbs.log2 + j.natAbs.log2 < 1000000)
def divB (_ j : Int) : Bool := decide (0 < j) && decide (j.natAbs.log2 < 9000)
def divNB (i j : Int) : Bool := decide (j ≠ 0) && decide (j.natAbs < 1073741824)
def modB (_ j : Int) : Bool := decide (0 < j)
def powB (i j : Int) : Bool := decide (0 ≤ j) && decide (j ≤ 1000000) && decide (i.natAbs < 2 ^ 64)
abbrev eAdd := eInt2 (fun _ _ => true) fun i j => .int (i + j)
abbrev eSub := eInt2 (fun _ _ => true) fun i j => .int (i - j)
abbrev eMul := eInt2 mulB fun i j => .int (i * j)
abbrev eDiv := eInt2 divB fun i j => .int (i / j)
abbrev eMod := eInt2 modB fun i j => .int (i % j)
abbrev ePow := eInt2 powB fun i j => .int (i ^ j.toNat)
theorem rI_of0 {u : Int → Int → V} {x y : V} {H : Hp} {Q : VK} (h : rI (fun _ _ => True) u x y H Q) : rI0 u x y H Q := by
  obtain ⟨i, j, h1, h2, _, h3⟩ := h
  exact ⟨i, j, h1, h2, h3⟩
theorem OpR.imp {f : Value → Value → Sem Value} {r r' : R2} (h : OpR X f r) (w : ∀ x y H Q, r' x y H Q → r x y H Q) : OpR X f r' := fun pins s σ H x y v u Q I rx ry q => h pins s σ H x y v u Q I rx ry (w x y H Q q)
theorem ee_add (ha : EE X a f) (hb : EE X b g) : EE X (.BinOp a .Add b pos) (eAdd f g) := ee_int2 (OpR.imp op_add fun _ _ _ _ => rI_of0) (fun _ _ _ => True.intro) ha hb
theorem ee_sub (ha : EE X a f) (hb : EE X b g) : EE X (.BinOp a .Sub b pos) (eSub f g) := ee_int2 (OpR.imp op_sub fun _ _ _ _ => rI_of0) (fun _ _ _ => True.intro) ha hb
theorem ee_mul (ha : EE X a f) (hb : EE X b g) : EE X (.BinOp a .Mult b pos) (eMul f g) := ee_int2 op_mulW (fun i j h => show i.natAbs.log2 + j.natAbs.log2 < 1000000 from of_decide_eq_true h) ha hb
theorem ee_div (ha : EE X a f) (hb : EE X b g) : EE X (.BinOp a .FloorDiv b pos) (eDiv f g) := ee_int2 op_fdivW (fun i j h => by
  unfold divB at h
  rw [Bool.and_eq_true] at h
  exact ⟨of_decide_eq_true h.1, of_decide_eq_true h.2⟩) ha hb
theorem ee_mod (ha : EE X a f) (hb : EE X b g) : EE X (.BinOp a .Mod b pos) (eMod f g) := ee_int2 op_mod (fun _ _ h => of_decide_eq_true h) ha hb
theorem ee_pow (ha : EE X a f) (hb : EE X b g) : EE X (.BinOp a .Pow b pos) (ePow f g) := ee_int2 op_pow (fun i j h => by
  unfold powB at h
  rw [Bool.and_eq_true, Bool.and_eq_true] at h
  exact ⟨of_decide_eq_true h.1.1, of_decide_eq_true h.1.2, of_decide_eq_true h.2⟩) ha hb

/-! ## calls of what is built in -/
/-- q tells the answer; nothing is changed -/
def CallD (X : Cx) (r : List V → Hp → VK → Prop) (q : List D → Option D) : Prop := ∀ (p : Option Addr) (ok : Addr → Prop) (H : Hp) (vs : List V) (ds : List D) (d : D) (Q : VK), (∀ a, ok a → p ≠ some a) → RepRs (sg X p) ok H vs ds → q ds = some d → (∀ v, Rep (sg X p) ok H v d → Q v H) → r vs H Q
def eCallD (q : List D → Option D) (fs : S → Res (S × List D)) (s : S) : Res (S × D) := do
  let (s1, xs) ← fs s
  match q xs with
  | some d => .ok (s1, d)
  | none => .stuck
theorem ee_callD {q : List D → Option D} (hq : CallD X r q) (ha : EB X es fs) (hp : ∀ {t}, PA X es t → PE X call (tCB r t)) : EE X call (eCallD q fs) := by
  intro p m B okA s σ H W Q tk hm E hpost
  refine we_of (hp (paW X es)) ?_
  show WA X es σ H fun xs H1 => r xs H1 Q
  refine Does.bind ha tk hm E hpost fun s1 xs vs H1 e1 l1 E1 r1 p1 => ?_
  dsimp only at p1
  cases hk : q xs with
  | none => rw [hk] at p1; exact (show False from p1).elim
  | some d =>
    rw [hk] at p1
    exact hq p _ H1 vs xs d Q (fun a h => h.2.1) r1 hk fun v rv => Post.done (P := KV') (a := d) p1 E1 rv
theorem RepRs.one {Γ : Sig} {ok : Addr → Prop} {H : Hp} {vs : List V} {x : D} (r : RepRs Γ ok H vs [x]) : ∃ v, vs = [v] ∧ RepR Γ ok H v x := by
  cases r with
  | cons r1 r2 => cases r2; exact ⟨_, rfl, r1⟩
theorem RepRs.two {Γ : Sig} {ok : Addr → Prop} {H : Hp} {vs : List V} {x y : D} (r : RepRs Γ ok H vs [x, y]) : ∃ v u, vs = [v, u] ∧ RepR Γ ok H v x ∧ RepR Γ ok H u y := by
  cases r with
  | cons r1 r2 =>
    obtain ⟨u, e, r3⟩ := r2.one
    subst e
    exact ⟨_, _, rfl, r1, r3⟩
/-- one value in, by a plain answer -/
def q1 (u : D → Option D) : List D → Option D
  | [x] => u x
  | _ => none
def q2 (u : D → D → Option D) : List D → Option D
  | [x, y] => u x y
  | _ => none
theorem callD1 {u : D → Option D} (h : ∀ (p : Option Addr) (ok : Addr → Prop) (H : Hp) (v : V) (x d : D) (Q : VK), (∀ a, ok a → p ≠ some a) → RepR (sg X p) ok H v x → u x = some d → (∀ w, Rep (sg X p) ok H w d → Q w H) → r [v] H Q) : CallD X r (q1 u) := fun p ok H vs ds d Q ho rs e q => by
  match ds, rs, e with
  | [x], rs, e =>
    obtain ⟨v, rfl, r1⟩ := rs.one
    exact h p ok H v x d Q ho r1 e q
  | [], _, e => cases e
  | _ :: _ :: _, _, e => cases e
theorem callD2 {u : D → D → Option D} (h : ∀ (p : Option Addr) (ok : Addr → Prop) (H : Hp) (v w : V) (x y d : D) (Q : VK), (∀ a, ok a → p ≠ some a) → RepR (sg X p) ok H v x → RepR (sg X p) ok H w y → u x y = some d → (∀ w, Rep (sg X p) ok H w d → Q w H) → r [v, w] H Q) : CallD X r (q2 u) := fun p ok H vs ds d Q ho rs e q => by
  match ds, rs, e with
  | [x, y], rs, e =>
    obtain ⟨v, w, rfl, r1, r2⟩ := rs.two
    exact h p ok H v w x y d Q ho r1 r2 e q
  | [], _, e => cases e
  | [_], _, e => cases e
  | _ :: _ :: _ :: _, _, e => cases e
def uLen : D → Option D
  | .tup ds => some (.int ds.length)
  | .lst ds => some (.int ds.length)
  | .str x => if x.length ≤ 100000 then some (.int x.length) else none
  | _ => none
theorem len_D : CallD X (fun xs H Q => ∃ x n, xs = [x] ∧ LenV X.K x H n ∧ Q (.int n) H) (q1 uLen) := callD1 fun p ok H v x d Q ho r1 e q => by
  cases x with
  | tup ds =>
    cases e
    obtain ⟨a, vs, rfl, h1, h2⟩ := r1.tup
    exact ⟨_, vs.length, rfl, .inr ⟨vs, SqT.of h1, rfl⟩, by rw [h2.length]; exact q _ (.int _)⟩
  | lst ds =>
    cases e
    obtain ⟨a, vs, rfl, h1, h2⟩ := r1.lst
    exact ⟨_, vs.length, rfl, .inl ⟨vs, Rd.sqL h1, rfl⟩, by rw [h2.length]; exact q _ (.int _)⟩
  | str x =>
    unfold uLen at e
    dsimp only at e
    split at e
    · rename_i hl
      cases e
      rw [r1.str_v]
      exact ⟨_, x.length, rfl, ⟨small_line hl, rfl⟩, q _ (.int _)⟩
    · cases e
  | _ => cases e
def uAbs : D → Option D
  | .int i => some (.int (if i < 0 then -i else i))
  | _ => none
theorem abs_D : CallD X (fun xs H Q => ∃ i, xs = [.int i] ∧ Q (.int (if i < 0 then -i else i)) H) (q1 uAbs) := callD1 fun p ok H v x d Q ho r1 e q => by
  cases x with
  | int i => cases e; exact ⟨i, by rw [r1.int_v], q _ (.int _)⟩
  | _ => cases e
def uInt : D → Option D
  | .int i => some (.int i)
  | .bl k => some (.int (if k then 1 else 0))
  | _ => none
theorem int_D : CallD X (fun xs H Q => (∃ i, xs = [.int i] ∧ Q (.int i) H) ∨ ∃ k, xs = [.bl k] ∧ Q (.int (if k then 1 else 0)) H) (q1 uInt) := callD1 fun p ok H v x d Q ho r1 e q => by
  cases x with
  | int i => cases e; exact .inl ⟨i, by rw [r1.int_v], q _ (.int _)⟩
  | bl k => cases e; exact .inr ⟨k, by rw [r1.bl_v], q _ (.int _)⟩
  | _ => cases e
def uGcd : D → D → Option D
  | .int i, .int j => some (.int ((Nat.gcd i.natAbs j.natAbs : Nat) : Int))
  | _, _ => none
theorem gcd_D : CallD X rGcd (q2 uGcd) := callD2 fun p ok H v w x y d Q ho r1 r2 e q => by
  cases x with
  | int i =>
    cases y with
    | int j => cases e; exact ⟨i, j, by rw [r1.int_v, r2.int_v], q _ (.int _)⟩
    | _ => cases e
  | _ => cases e
def allB : List D → Option (List Bool)
  | [] => some []
  | .bl b :: ds => (allB ds).map (b :: ·)
  | _ :: _ => none
theorem allB_v {Γ : Sig} {ok : Addr → Prop} {H : Hp} : ∀ {vs : List V} {ds : List D} {bs : List Bool}, Reps Γ ok H vs ds → allB ds = some bs → vs = bs.map V.bl
  | _, [], bs, r, h => by cases r; cases h; rfl
  | _, .bl b :: ds, bs, r, h => by
    cases r with
    | cons r1 r2 =>
      unfold allB at h
      cases h2 : allB ds with
      | none => rw [h2] at h; cases h
      | some ks => rw [h2] at h; cases h; rw [r1.bl_v, allB_v r2 h2]; rfl
def uAll : D → Option D
  | .lst ds => (allB ds).map fun bs => .bl (bs.all id)
  | _ => none
def uAny : D → Option D
  | .lst ds => (allB ds).map fun bs => .bl (bs.any id)
  | _ => none
theorem all_D : CallD X (rAll X.K) (q1 uAll) := callD1 fun p ok H v x d Q ho r1 e q => by
  cases x with
  | lst ds =>
    obtain ⟨a, vs, rfl, h1, h2⟩ := r1.lst
    have e : (allB ds).map (fun bs => D.bl (bs.all id)) = some d := e
    cases hb : allB ds with
    | none => rw [hb] at e; cases e
    | some bs =>
      rw [hb] at e
      cases e
      exact ⟨a, bs, rfl, by rw [← allB_v h2 hb]; exact Rd.sqL h1, q _ (.bl _)⟩
  | _ => cases e
theorem any_D : CallD X (rAny X.K) (q1 uAny) := callD1 fun p ok H v x d Q ho r1 e q => by
  cases x with
  | lst ds =>
    obtain ⟨a, vs, rfl, h1, h2⟩ := r1.lst
    have e : (allB ds).map (fun bs => D.bl (bs.any id)) = some d := e
    cases hb : allB ds with
    | none => rw [hb] at e; cases e
    | some bs =>
      rw [hb] at e
      cases e
      exact ⟨a, bs, rfl, by rw [← allB_v h2 hb]; exact Rd.sqL h1, q _ (.bl _)⟩
  | _ => cases e
def eBits (f : S → Res (S × D)) (s : S) : Res (S × D) := do
  let (s1, x) ← f s
  let i ← asInt x
  .ok (s1, .int (Builtin.Int.intBits i : Nat))
theorem ee_bits {apos pos : Pos} (ha : EE X a f) (hbase : attributeBase a "bit_length" X.env (eval a X.env) = eval a X.env := by rfl) (hline : (apos.endLine == pos.line) = true := by rfl) : EE X (.Call (.Attribute a "bit_length" apos) [] [] pos) (eBits f) := by
  intro p m B okA s σ H W Q tk hm E hp
  refine we_of (pe_bits (peW X a) hbase hline) ?_
  show WE X a σ H fun x H1 => ∃ i, x = .int i ∧ Q (.int (Builtin.Int.intBits i : Nat)) H1
  refine Does.bind ha tk hm E hp fun s1 x v H1 e1 l1 E1 r1 p1 => ?_
  obtain ⟨i, ex, p2⟩ := asInt_ok (P := fun r => Post KV' (sg X p) m B okA W σ s1 H1 Q r) (fun z => z) p1
  subst ex
  exact ⟨i, r1.int_v, Post.done (a := D.int (Builtin.Int.intBits i : Nat)) p2 E1 (.int _)⟩

/-! ## isinstance -/
/-- a value's type, as the deciders take it -/
def tyD (mg : Str → Option Value) : D → Option Value
  | .non => some (.type "NoneType")
  | .bl _ => some (.type "bool")
  | .int _ => some (.type "int")
  | .str _ => some (.type "str")
  | .tup _ => some (.type "tuple")
  | .lst _ => some (.type "list")
  | .dK _ _ => some (.type "dict")
  | .ins c _ _ => mg c
  | _ => none
/-- the classes of the module that have instances -/
structure ClsOk (K : PySem.W.Frag) (C : Addr) : Prop where
  cl : Cls K C
  ha : PySem.W.findIn K (.ref C) "__class__" = some (some (.builtin "object.__class__"))
  hn : PySem.W.specialIn K (.builtin "object.__class__") "__get__" = some (some (.builtin "getset_descriptor.__get__"))
  htk : PySem.W.takesIn K (.builtin "object.__class__") = some true
  hm : PySem.W.mroIn K C (.type "object") = some true
theorem tyX_of {p : Option Addr} {ok : Addr → Prop} {H : Hp} {v : V} {x : D} {t : Value} (hc : ∀ c C, X.mg c = some (.ref C) → (∃ ns ds, x = .ins c ns ds) → ClsOk X.K C) (r : RepR (sg X p) ok H v x) (h : tyD X.mg x = some t) : TyX X.K H v t := by
  cases x with
  | non => cases h; rw [r.non_v]; exact .base .non
  | bl b => cases h; rw [r.bl_v]; exact .base (.bl _)
  | int i => cases h; rw [r.int_v]; exact .base (.int _)
  | str i => cases h; rw [r.str_v]; exact .base (.str _)
  | tup ds => cases h; obtain ⟨a, vs, rfl, h1, h2⟩ := r.tup; exact .base (.tup h1)
  | lst ds =>
    cases h; obtain ⟨a, vs, rfl, h1, h2⟩ := r.lst
    rcases h1 with h1 | ⟨o, h1⟩
    · exact .base (.lst h1)
    · exact .base (.frz h1)
  | dK ks ds =>
    cases h; obtain ⟨a, kvs, rfl, h1, h2⟩ := r.dK
    rcases h1 with h1 | ⟨o, h1⟩
    · exact .base (.dK h1)
    · exact .fDict h1
  | ins c ns ds =>
    obtain ⟨a, C, dx, fs, rfl, h1, h2, _⟩ := r.ins
    have h' : X.mg c = some t := h
    have h1' : X.mg c = some (.ref C) := h1
    have z := hc c C h1' ⟨ns, ds, rfl⟩
    rw [h1'] at h'
    cases h'
    exact .base (.ins h2 z.cl z.ha z.hn z.htk z.hm)
  | _ => cases h
end
end SM

set_option Elab.async false
set_option linter.all false
set_option maxRecDepth 100000
set_option maxHeartbeats 4000000
namespace SM
variable [Tab]
open PySem PySem.Spec PyProof.Rows L2

/-! ## what a def promises, where nothing is being shown (guards) -/
structure FnG (P : Program) (w : World) (K : PySem.W.Frag) (mg : Str → Option Value) (base : Heap) (k : Nat) (f : Addr) (fd : FuncData) (ps : List Str) (sp : Sp) : Prop where
  len : ∀ vs H Q E, sp vs H Q E → vs.length = ps.length
  run : ∀ (A : Around) (outer : List PySem.Env) (s : Shared) (H : Hp) (args : Args) (us : List Value) (vs : List V) (Q : VK) (E : XK), Room k A → A.guards = some [] → Env0 P w K mg base A outer s H →
    BindsTo s fd args (ps.zip us) → Vals vs us → sp vs H Q E → codeAny (model P w) A (.call (.ref f) args) (CR (L2.CX P w) outer P w H s Q E) s
theorem FnG.mono {P : Program} {w : World} {K : PySem.W.Frag} {mg : Str → Option Value} {base : Heap} {j k : Nat} {f : Addr} {fd : FuncData} {ps : List Str} {sp : Sp} (F : FnG P w K mg base j f fd ps sp) (h : j ≤ k) : FnG P w K mg base k f fd ps sp :=
  ⟨F.len, fun A outer s H args us vs Q E hr => F.run A outer s H args us vs Q E (hr.mono h)⟩
/-- the context of a body -/
abbrev bodyX (P : Program) (w : World) (K : PySem.W.Frag) (mg : Str → Option Value) (base : Heap) (N : List Str) (qual : Str) (scope : Scope) (f : Addr) (cd : Value) (A : Around) (outer : List PySem.Env) (s : Shared) (H : Hp) (E : XK) : Cx :=
  cxOf (L2.CX P w) P w K mg base N qual scope f cd A outer s H E
/-- what a body has at hand -/
structure Good (k : Nat) (X : Cx) : Prop where
  room : Room k X.A
  guards : X.A.guards = some []
theorem Good.units {k : Nat} {X : Cx} (g : Good k X) : X.A.units + 1 < cLine := by
  have := g.room.units; omega
theorem Good.mono {j k : Nat} {X : Cx} (g : Good k X) (h : j ≤ k) : Good j X := ⟨g.room.mono h, g.guards⟩
theorem body_takes {P : Program} {w : World} {K : PySem.W.Frag} {mg : Str → Option Value} {base : Heap} {N : List Str} {qual : Str} {scope : Scope} {f : Addr} {cd : Value} {A : Around} {outer : List PySem.Env} {s : Shared} {H : Hp} {E : XK} :
    Takes (bodyX P w K mg base N qual scope f cd A outer s H E) (fun cls d _ H => E cls d H) := takes_of rfl rfl rfl rfl

/-- a def by its body -/
theorem fnG_of {P : Program} {w : World} {K : PySem.W.Frag} {mg : Str → Option Value} {base : Heap} {k : Nat} {f : Addr} {name qual : Str} {params : Arguments} {body : List Stmt} {scope : Scope} {dV kV doc pm cdv ct oc : Value} {an od : Option Addr}
    {osl : Array (Option Value)} {N ps : List Str} {sp : Sp} (lk : K.lookup f = some ⟨oc, od, .func (PySem.W.fnOf name qual params body scope dV kV doc pm an cdv ct), osl⟩) (hcd : PySem.W.codeIn K cdv qual = true) (S : FnScope N ps scope)
    (len : ∀ vs H Q E, sp vs H Q E → vs.length = ps.length)
    (hbody : ∀ (A : Around) (outer : List PySem.Env) (s : Shared) (H : Hp) (vs : List V) (Q : VK) (E : XK), Good k (bodyX P w K mg base N qual scope f cdv A outer s H E) → sp vs H Q E →
      WB (bodyX P w K mg base N qual scope f cdv A outer s H E) body { nx := fun _ H' => Q .non H', rt := Q } (start N vs) H) :
    FnG P w K mg base (k + 1) f (PySem.W.fnOf name qual params body scope dV kV doc pm an cdv ct) ps sp where
  len := len
  run := by
    intro A outer s H args us vs Q E hr hg e0 hb r hsp
    have KX : K.In s.heap := e0.mod.kin.keeps fun b o e => (e0.bs b o e).1
    have lim := e0.mod.nolimit.keeps fun b o e => (e0.bs b o e).1
    have hk : ∀ y ∈ ps.zip us, scope.names.lookup y.1 = some .local ∨ (scope.names.lookup y.1 = some .cell ∧ ((cellsFrom (s.heap.objs.size + 1) scope.names []).lookup y.1).isSome = true) := fun y hy =>
      (S.par y.1 (List.of_mem_zip (a := y.1) (b := y.2) hy).1).imp id fun q => ⟨q, PySem.W.cellsFrom_some _ _ _ (.inl q)⟩
    refine codeAny_call_function hr.depth (KX _ _ lk) rfl S.co S.gen rfl (PySem.W.codeRec_of KX hcd) (hb _ _ _ _ (wpAny_newFunctionEnv_cells S.kind hk fun env he s1 x => ?_))
    subst he
    refine ⟨lim.keeps x.toInCall.keep, codeAny_func ?_⟩
    refine wpAny_mono ((pbW _ _).run [] s1 _ _ _ (inv_start S hr.hd e0 (len _ _ _ _ hsp) r x) (hbody A outer s H vs Q E ⟨hr.deeper _, hg⟩ hsp)) (fun fl s' hs => ?_) fun e s' hs => hs
    match fl, hs with
    | .ret u, ⟨v, σ', H', J, rv, q⟩ => exact ⟨v, H', J.os, J.bare, J.base, J.hok, rv, q⟩
    | .next, ⟨σ', H', J, q⟩ => exact ⟨.non, H', J.os, J.bare, J.base, J.hok, rfl, q⟩
    | .brk, ⟨_, _, _, q⟩ => exact q.elim
    | .cont, ⟨_, _, _, q⟩ => exact q.elim

/-! ## promises by plain functions -/
abbrev okP (p : Option Addr) (okA : Addr → Prop) : Addr → Prop := fun a => okA a ∧ p ≠ some a
/-- F tells what is answered; the pen, where there is one, is written -/
def spP (K : PySem.W.Frag) (mg : Str → Option Value) (n : Nat) (F : List D → Option Mu → Res (D × Option Mu)) : Sp := fun vs H Q E => vs.length = n ∧ ∃ (p m : Option Addr) (okA : Addr → Prop) (ds : List D) (pn : Option Mu),
  (m = p ∨ m = none) ∧ (pn = none ∨ m = p) ∧ (∀ a, H a = none → okA a) ∧ (∀ a, p = some a → H a ≠ none) ∧ (∀ P, Tab.own P → LamX.TabS H P (Tab.nm P)) ∧ Reps ⟨K, mg, p, Tab.tab⟩ (okP p okA) H vs ds ∧ PenH ⟨K, mg, p, Tab.tab⟩ (okP p okA) H pn ∧
  match F ds pn with
  | .ok (d, pn') => ∀ v H', Ext m H H' → (∀ a, H' a = none → H a = none) → (∀ a, p = some a → H' a ≠ none) → PenH ⟨K, mg, p, Tab.tab⟩ (okP p okA) H' pn' → Rep ⟨K, mg, p, Tab.tab⟩ (okP p okA) H' v d → Q v H'
  | .exn c ns ds => ∀ C dd fs H', Ext m H H' → H dd = none → mg c = some (.ref C) → H' dd = some (.xd fs) → fs.map (·.1) = ns → (∀ a, H' a = none → H a = none) → Reps ⟨K, mg, p, Tab.tab⟩ (okP p okA) H' (fs.map (·.2)) ds → E (.ref C) (some dd) H'
  | .stuck => False
/-- one without a pen -/
def noPen (F : List D → Res D) (ds : List D) (pn : Option Mu) : Res (D × Option Mu) := match F ds with
  | .ok d => .ok (d, pn)
  | .exn c ns ds => .exn c ns ds
  | .stuck => .stuck
abbrev spF (K : PySem.W.Frag) (mg : Str → Option Value) (n : Nat) (F : List D → Res D) : Sp := spP K mg n (noPen F)

section
variable {X : Cx} {k : Nat} {f : Addr} {fd : FuncData} {ps : List Str} {sp : Sp} {x : Str} {pos pp : Pos} {e : Expr} {es : List Expr} {fs : S → Res (S × List D)}
theorem run_fnG {pins : List (Addr × Obj)} {σ : L2.St} {H : Hp} {s : Shared} {Q : VK} {us : List Value} {vs : List V} {W : WX} (F : FnG X.prog X.w X.K X.mg X.base k f fd ps sp) (g : Good k X) (hb : Binds X.K fd ps []) (tk : Takes X W)
    (I : Inv X pins σ H s) (r : Vals vs us) (h : sp vs H Q fun c d H' => W c d σ H') : wpAny (model X.prog X.w) X.A (call (.ref f) us) (EP X pins σ Q) X.xe s := by
  have b := hb s us I.kIn (by rw [List.append_nil, ← r.length]; exact F.len _ _ _ _ h)
  rw [List.append_nil] at b
  refine wpAny_call (codeAny_mono (F.run X.A X.stack s H ⟨us, []⟩ us vs Q _ g.room g.guards I.env0 b r h) fun fl s' hq => ?_)
  match fl, hq with
  | .error e, hq => exact tk e s' (XE.of_call I (fun _ _ _ z => z) hq)
  | .ok (.ret u), hq => exact I.after hq
  | .ok .next, hq => exact hq.elim
  | .ok .brk, hq => exact hq.elim
  | .ok .cont, hq => exact hq.elim
/-- f(..), by values -/
theorem we_callG {σ : L2.St} {H : Hp} {Q : VK} {W : WX} (F : FnG X.prog X.w X.K X.mg X.base k f fd ps sp) (g : Good k X) (hg : Gl X x) (hm : X.mg x = some (.ref f)) (hk : PySem.W.keepIn X.K (.ref f) = true) (hb : Binds X.K fd ps []) (tk : Takes X W)
    (h : WA X (e :: es) σ H fun vs H1 => sp vs H1 Q fun c d H' => W c d σ H') (hdb : (x == ("__debug__" : Str)) = false := by decide) (he : starEach (e :: es) X.env = (false, eval e X.env) :: starEach es X.env := by rfl)
    (hpl : (backTo pos (starEach es X.env)).any (·.1) = false := by rfl) : WE X (.Call (.Name x pp) (e :: es) [] pos) σ H Q := we_mk fun pins s I => by
  refine wpAny_Call_Name_kw (ld_glob I hg hm ?_ hdb)
  refine PySem.W.callWith_K (h₀ := X.base) I.ok.mod.kin hk (thn ((paW X (e :: es)).run pos pins s σ H _ I h) fun us s1 ⟨vs, H1, I1, r, q⟩ => ⟨I1.kIn, ?_⟩) he hpl
  exact run_fnG F g hb tk I1 r q
theorem we_callG0 {σ : L2.St} {H : Hp} {Q : VK} {W : WX} (F : FnG X.prog X.w X.K X.mg X.base k f fd ps sp) (g : Good k X) (hg : Gl X x) (hm : X.mg x = some (.ref f)) (hk : PySem.W.keepIn X.K (.ref f) = true) (hb : Binds X.K fd ps []) (tk : Takes X W)
    (h : sp [] H Q fun c d H' => W c d σ H') (hdb : (x == ("__debug__" : Str)) = false := by decide) : WE X (.Call (.Name x pp) [] [] pos) σ H Q := we_mk fun pins s I => by
  refine wpAny_Call_Name_kw (ld_glob I hg hm ?_ hdb)
  exact PySem.W.callWith_K0 I.kIn hk (run_fnG (us := []) F g hb tk I .nil h)

/-- F is told of the pen -/
def eCallP (F : List D → Option Mu → Res (D × Option Mu)) (fs : S → Res (S × List D)) (s : S) : Res (S × D) := do
  let (s1, ds) ← fs s
  let (d, pn') ← F ds s1.pn
  match s1.pn with
  | none => .stuck
  | some _ => .ok ({ s1 with pn := pn' }, d)
/-- .. or not -/
def eCall (F : List D → Res D) (fs : S → Res (S × List D)) (s : S) : Res (S × D) := do
  let (s1, ds) ← fs s
  let d ← F ds
  .ok (s1, d)
theorem Post.exn' {β α : Type} {P : PKd β α} {Γ : Sig} {m : Option Addr} {B : Hp} {okA : Addr → Prop} {W : WX} {σ : L2.St} {s : S} {H : Hp} {Q : β → Hp → Prop} {c : Str} {ns : List Str} {ds : List D} (h : Post P Γ m B okA W σ s H Q (.exn c ns ds)) {C : Addr} {dd : Addr} {fs : List (Str × V)} {H' : Hp}
    (h1 : Ext m H H') (h2 : H dd = none) (h3 : Γ.mg c = some (.ref C)) (h4 : H' dd = some (.xd fs)) (h5 : fs.map (·.1) = ns) (h6 : ∀ p, H' p = none → H p = none) (h7 : Reps Γ (fun a => okA a ∧ Γ.pen ≠ some a) H' (fs.map (·.2)) ds) : W (.ref C) (some dd) σ H' := h C dd fs H' h1 h2 h3 h4 h5 h6 h7
theorem Env.withPn {Γ : Sig} {m : Option Addr} {B : Hp} {okA : Addr → Prop} {s : S} {σ : L2.St} {H : Hp} {pn : Option Mu} (E : Env Γ m B okA s σ H) (h1 : pn = none ∨ m = Γ.pen) (h2 : PenH Γ (Ok Γ okA s σ) H pn) : Env Γ m B okA { s with pn := pn } σ H :=
  ⟨E.len, h1, E.kp, E.nB, E.new, E.fz, E.ow, E.dis, h2, E.pn, E.tb⟩
/-- what the promise asks of the state at a call -/
theorem call_post {p m : Option Addr} {B : Hp} {okA : Addr → Prop} {s : S} {σ : L2.St} {H : Hp} {W : WX} {Q : VK} {vs : List V} {ds : List D} {F : List D → Res D} {n : Nat} (hl : ds.length = n) (hm : m = p ∨ m = none) (E : Env (sg X p) m B okA s σ H)
    (r : Reps (sg X p) (Ok (sg X p) okA s σ) H vs ds) (hp : Post KV' (sg X p) m B okA W σ s H Q (F ds >>= fun d => Res.ok (s, d))) : spF X.K X.mg n F vs H Q fun c d H' => W c d σ H' := by
  refine ⟨r.length.trans hl, p, none, Ok (sg X p) okA s σ, ds, none, .inr rfl, .inl rfl, fun a h => E.okNew h, E.pn, E.tb, Reps.mono (Keeps.refl _ _) (fun a h _ => ⟨h, h.2.1⟩) _ _ r, True.intro, ?_⟩
  show match noPen F ds none with | .ok (d, pn') => _ | .exn c ns ds => _ | .stuck => _
  unfold noPen
  cases hF : F ds with
  | ok d =>
    rw [hF] at hp
    intro v H' e fr hpn _ rv
    refine hp v H' e.low (Less.refl _) (E.ext e.low (E.hm (hm.symm.imp id id)) ?_ hpn fr) (Rep.mono (Keeps.refl _ _) (fun a h _ => h.1) _ _ rv)
    exact E.pen.keep (e.keeps fun _ _ => nofun) (fun _ z => z) fun q o _ f h => e.o q o nofun f h
  | exn c ns es =>
    rw [hF] at hp
    intro C dd fs H' e hd hc hf hn fr rv
    exact hp C dd fs H' e.low hd hc hf hn fr (Reps.mono (Keeps.refl _ _) (fun a h _ => ⟨h.1.1, h.2⟩) _ _ rv)
  | stuck => rw [hF] at hp; exact hp
theorem call_postP {p m : Option Addr} {B : Hp} {okA : Addr → Prop} {s : S} {σ : L2.St} {H : Hp} {W : WX} {Q : VK} {vs : List V} {ds : List D} {F : List D → Option Mu → Res (D × Option Mu)} {n : Nat} (hl : ds.length = n) (hm : m = p ∨ m = none) (E : Env (sg X p) m B okA s σ H)
    (r : Reps (sg X p) (Ok (sg X p) okA s σ) H vs ds) (hp : Post KV' (sg X p) m B okA W σ s H Q (F ds s.pn >>= fun (d, pn') => match s.pn with | none => .stuck | some _ => Res.ok ({ s with pn := pn' }, d))) : spP X.K X.mg n F vs H Q fun c d H' => W c d σ H' := by
  have hm2 := E.hm (hm.symm.imp id id)
  refine ⟨r.length.trans hl, p, m, Ok (sg X p) okA s σ, ds, s.pn, hm, E.pm, fun a h => E.okNew h, E.pn, E.tb, Reps.mono (Keeps.refl _ _) (fun a h _ => ⟨h, h.2.1⟩) _ _ r, E.pen.keep (Keeps.refl _ _) (fun a h => ⟨h, h.2.1⟩) fun _ _ _ _ z => z, ?_⟩
  cases hF : F ds s.pn with
  | ok d =>
    obtain ⟨d, pn'⟩ := d
    rw [hF] at hp
    intro v H' e fr hpn hpen rv
    cases hs : s.pn with
    | none =>
      have hp' : Post KV' (sg X p) m B okA W σ s H Q (match s.pn with | none => .stuck | some _ => Res.ok ({ s with pn := pn' }, d)) := hp
      rw [hs] at hp'; exact hp'.elim
    | some pn =>
      have hp' : Post KV' (sg X p) m B okA W σ s H Q (match s.pn with | none => .stuck | some _ => Res.ok ({ s with pn := pn' }, d)) := hp
      rw [hs] at hp'
      have mp : m = (sg X p).pen := E.pm.resolve_left (by rw [hs]; exact nofun)
      have E' : Env (sg X p) m B okA { s with pn := none } σ H := E.withPn (.inl rfl) True.intro
      have E2 : Env (sg X p) m B okA { s with pn := none } σ H' := E'.ext e hm2 True.intro hpn fr
      have E3 : Env (sg X p) m B okA { s with pn := pn' } σ H' := E2.withPn (pn := pn') (.inr mp) (hpen.keep (Keeps.refl _ _) (fun a h => h.1) fun _ _ _ _ z => z)
      exact hp' v H' e (fun i d h => h) E3 (Rep.mono (Keeps.refl _ _) (fun a h _ => h.1) _ _ rv)
  | exn c ns es =>
    rw [hF] at hp
    intro C dd fs H' e hd hc hf hn fr rv
    exact hp C dd fs H' e hd hc hf hn fr (Reps.mono (Keeps.refl _ _) (fun a h _ => ⟨h.1.1, h.2⟩) _ _ rv)
  | stuck => rw [hF] at hp; exact hp
/-- how many there are -/
def LenIs (fs : S → Res (S × List D)) (n : Nat) : Prop := ∀ s s1 ds, fs s = .ok (s1, ds) → ds.length = n
theorem lenIs_nil : LenIs aNil 0 := fun s s1 ds h => by cases h; rfl
theorem lenIs_cons {f : S → Res (S × D)} {n : Nat} (h : LenIs fs n) : LenIs (aCons f fs) (n + 1) := fun s s1 ds e => by
  unfold aCons at e
  cases hf : f s with
  | ok x =>
    obtain ⟨s2, d⟩ := x
    rw [hf] at e
    have e2 : (fs s2 >>= fun (s2, xs) => Res.ok (s2, d :: xs)) = .ok (s1, ds) := e
    cases hg : fs s2 with
    | ok y => obtain ⟨s3, xs⟩ := y; rw [hg] at e2; cases e2; show xs.length + 1 = _; rw [h _ _ _ hg]
    | exn => rw [hg] at e2; cases e2
    | stuck => rw [hg] at e2; cases e2
  | exn => rw [hf] at e; cases e
  | stuck => rw [hf] at e; cases e
/-- .. and the state, what it answers -/
theorem Does.bindL {α β α2 β2 : Type} {P : PKd β α} {P2 : PKd β2 α2} {p m : Option Addr} {B : Hp} {okA : Addr → Prop} {W : WX} {s : S} {σ : L2.St} {H : Hp} {T : L2.St → Hp → (β → Hp → Prop) → Prop} {f : S → Res (S × α)} {k : S × α → Res (S × α2)} {Q : β2 → Hp → Prop} {Q' : β → Hp → Prop}
    (h : Does P X T f) (tk : Takes X W) (hm : m = p ∨ m = none) (E : Env (sg X p) m B okA s σ H) (hp : Post P2 (sg X p) m B okA W σ s H Q (f s >>= k))
    (hq : ∀ s1 a b H1, f s = .ok (s1, a) → Ext m H H1 → Less s1 s → Env (sg X p) m B okA s1 σ H1 → P (sg X p) (Ok (sg X p) okA s1 σ) H1 b a → Post P2 (sg X p) m B okA W σ s1 H1 Q (k (s1, a)) → Q' b H1) : T σ H Q' := by
  refine h p m B okA s σ H W Q' tk hm E ?_
  cases hf : f s with
  | ok x =>
    obtain ⟨s1, a⟩ := x
    rw [hf] at hp
    exact fun b H1 e l E1 r => hq s1 a b H1 hf e l E1 r (Post.at_ (show Post P2 (sg X p) m B okA W σ s H Q (k (s1, a)) from hp) e l (E1.fresh (E.hm (hm.symm.imp id id)) e))
  | exn c ns ds => rw [hf] at hp; exact hp
  | stuck => rw [hf] at hp; exact hp
theorem ee_call {F : List D → Res D} {n : Nat} (G : FnG X.prog X.w X.K X.mg X.base k f fd ps (spF X.K X.mg n F)) (g : Good k X) (hg : Gl X x) (hmg : X.mg x = some (.ref f)) (hk : PySem.W.keepIn X.K (.ref f) = true) (hb : Binds X.K fd ps []) (hl : LenIs fs n)
    (ha : EA X (e :: es) fs) (hdb : (x == ("__debug__" : Str)) = false := by decide) (he : starEach (e :: es) X.env = (false, eval e X.env) :: starEach es X.env := by rfl)
    (hpl : (backTo pos (starEach es X.env)).any (·.1) = false := by rfl) : EE X (.Call (.Name x pp) (e :: es) [] pos) (eCall F fs) := by
  intro p m B okA s σ H W Q tk hm E hp
  refine we_callG G g hg hmg hk hb tk ?_ hdb he hpl
  refine Does.bindL ha tk hm E hp fun s1 ds vs H1 hf e1 l1 E1 r1 p1 => ?_
  exact call_post (hl _ _ _ hf) hm E1 r1 p1
theorem ee_call0 {F : List D → Res D} (G : FnG X.prog X.w X.K X.mg X.base k f fd ps (spF X.K X.mg 0 F)) (g : Good k X) (hg : Gl X x) (hmg : X.mg x = some (.ref f)) (hk : PySem.W.keepIn X.K (.ref f) = true) (hb : Binds X.K fd ps [])
    (hdb : (x == ("__debug__" : Str)) = false := by decide) : EE X (.Call (.Name x pp) [] [] pos) (eCall F aNil) := by
  intro p m B okA s σ H W Q tk hm E hp
  exact we_callG0 G g hg hmg hk hb tk (call_post (ds := []) rfl hm E .nil hp) hdb
theorem ee_callP {F : List D → Option Mu → Res (D × Option Mu)} {n : Nat} (G : FnG X.prog X.w X.K X.mg X.base k f fd ps (spP X.K X.mg n F)) (g : Good k X) (hg : Gl X x) (hmg : X.mg x = some (.ref f)) (hk : PySem.W.keepIn X.K (.ref f) = true) (hb : Binds X.K fd ps []) (hl : LenIs fs n)
    (ha : EA X (e :: es) fs) (hdb : (x == ("__debug__" : Str)) = false := by decide) (he : starEach (e :: es) X.env = (false, eval e X.env) :: starEach es X.env := by rfl)
    (hpl : (backTo pos (starEach es X.env)).any (·.1) = false := by rfl) : EE X (.Call (.Name x pp) (e :: es) [] pos) (eCallP F fs) := by
  intro p m B okA s σ H W Q tk hm E hp
  refine we_callG G g hg hmg hk hb tk ?_ hdb he hpl
  refine Does.bindL ha tk hm E hp fun s1 ds vs H1 hf e1 l1 E1 r1 p1 => ?_
  exact call_postP (hl _ _ _ hf) hm E1 r1 p1
end
end SM

set_option Elab.async false
set_option linter.all false
set_option maxRecDepth 100000
set_option maxHeartbeats 4000000
namespace SM
variable [Tab]
open PySem PySem.Spec PyProof.Rows L2

/-! ## statements -/
def PostS (Γ : Sig) (m : Option Addr) (B : Hp) (okA : Addr → Prop) (W : WX) (Z : Ends) : Res (S × Fl) → Prop
  | .ok (s', .nx) => ∀ σ' H', Env Γ m B okA s' σ' H' → Z.nx σ' H'
  | .ok (s', .bk) => ∀ σ' H', Env Γ m B okA s' σ' H' → Z.bk σ' H'
  | .ok (s', .ct) => ∀ σ' H', Env Γ m B okA s' σ' H' → Z.ct σ' H'
  | .ok (s', .rt d) => ∀ v σ' H', Env Γ m B okA s' σ' H' → Rep Γ (Ok Γ okA s' σ') H' v d → Z.rt v H'
  | .exn c ns ds => ∀ C dd fs σ' H', Ext m B H' → B dd = none → Γ.mg c = some (.ref C) → H' dd = some (.xd fs) → fs.map (·.1) = ns → (∀ p, H' p = none → okA p) → Reps Γ (fun a => okA a ∧ Γ.pen ≠ some a) H' (fs.map (·.2)) ds → W (.ref C) (some dd) σ' H'
  | .stuck => False
def DoesS (X : Cx) (T : TS) (f : S → Res (S × Fl)) : Prop :=
  ∀ (p m : Option Addr) (B : Hp) (okA : Addr → Prop) (s : S) (σ : L2.St) (H : Hp) (W : WX) (Z : Ends), Takes X W → (m = p ∨ m = none) → Env (sg X p) m B okA s σ H → PostS (sg X p) m B okA W Z (f s) → T Z σ H
abbrev SS (X : Cx) (st : Stmt) (f : S → Res (S × Fl)) : Prop := DoesS X (WS X st) f
abbrev SB (X : Cx) (st : List Stmt) (f : S → Res (S × Fl)) : Prop := DoesS X (WB X st) f

section
variable {X : Cx} {p m : Option Addr} {B : Hp} {okA : Addr → Prop} {W : WX} {s s1 : S} {σ : L2.St} {H H1 : Hp} {Z : Ends}
theorem PostS.imp {Z' : Ends} {r : Res (S × Fl)} (h : PostS (sg X p) m B okA W Z r) (w1 : ∀ σ H, Z.nx σ H → Z'.nx σ H) (w2 : ∀ v H, Z.rt v H → Z'.rt v H) (w3 : ∀ σ H, Z.bk σ H → Z'.bk σ H) (w4 : ∀ σ H, Z.ct σ H → Z'.ct σ H) : PostS (sg X p) m B okA W Z' r := by
  cases r with
  | ok x =>
    obtain ⟨s', fl⟩ := x
    cases fl with
    | nx => exact fun σ' H' E => w1 _ _ (h σ' H' E)
    | bk => exact fun σ' H' E => w3 _ _ (h σ' H' E)
    | ct => exact fun σ' H' E => w4 _ _ (h σ' H' E)
    | rt d => exact fun v σ' H' E r => w2 _ _ (h v σ' H' E r)
  | exn c ns ds => exact h
  | stuck => exact h
/-- an expression, then a statement's rest -/
theorem Does.bindS {α β : Type} {P : PKd β α} {T : L2.St → Hp → (β → Hp → Prop) → Prop} {f : S → Res (S × α)} {k : S × α → Res (S × Fl)} {Q' : β → Hp → Prop}
    (h : Does P X T f) (tk : Takes X W) (hm : m = p ∨ m = none) (E : Env (sg X p) m B okA s σ H) (hp : PostS (sg X p) m B okA W Z (f s >>= k))
    (hq : ∀ s1 a b H1, Env (sg X p) m B okA s1 σ H1 → P (sg X p) (Ok (sg X p) okA s1 σ) H1 b a → PostS (sg X p) m B okA W Z (k (s1, a)) → Q' b H1) : T σ H Q' := by
  refine h p m B okA s σ H W Q' tk hm E ?_
  cases hf : f s with
  | ok x =>
    obtain ⟨s1, a⟩ := x
    rw [hf] at hp
    exact fun b H1 e l E1 r => hq s1 a b H1 E1 r hp
  | exn c ns ds =>
    rw [hf] at hp
    exact fun C dd fs H' e hd hc hx hn fr r => hp C dd fs σ H' (E.kp.trans e) (E.bNew hm hd) hc hx hn (fun p h => E.new p (fr p h)) r
  | stuck => rw [hf] at hp; exact hp
/-- .. one that makes a new object -/
theorem EF.bindS {e : Expr} {f : S → Res (S × D)} {k : S × D → Res (S × Fl)} {Q' : VK} (h : EF X e f) (tk : Takes X W) (hm : m = p ∨ m = none) (E : Env (sg X p) m B okA s σ H) (hp : PostS (sg X p) m B okA W Z (f s >>= k))
    (hq : ∀ s1 d a H1, Env (sg X p) m B (fun b => okA b ∧ b ≠ a) s1 σ H1 → okA a → B a = none → p ≠ some a → RepO (sg X p) (Ok (sg X p) (fun b => okA b ∧ b ≠ a) s1 σ) H1 a d → PostS (sg X p) m B okA W Z (k (s1, d)) → Q' (.ref a) H1) : WE X e σ H Q' := by
  refine h p m B okA s σ H W Q' tk hm E ?_
  cases hf : f s with
  | ok x =>
    obtain ⟨s1, d⟩ := x
    rw [hf] at hp
    exact fun a H1 e l E1 o1 o2 o3 o4 r => hq s1 d a H1 E1 o1 o2 o3 r hp
  | exn c ns ds =>
    rw [hf] at hp
    exact fun C dd fs H' e hd hc hx hn fr r => hp C dd fs σ H' (E.kp.trans e) (E.bNew hm hd) hc hx hn (fun p h => E.new p (fr p h)) r
  | stuck => rw [hf] at hp; exact hp
end

/-! ## slots are written -/
def S.put (s : S) (i : Nat) (x : Sl) : S := { s with sl := s.sl.set i x }
theorem put_get {s : S} {i j : Nat} {x : Sl} (hi : i < s.sl.length) : (s.put i x).sl[j]? = if j = i then some x else s.sl[j]? := by
  show (s.sl.set i x)[j]? = _
  by_cases e : j = i
  · subst e; rw [if_pos rfl, List.getElem?_set_self hi]
  · rw [if_neg e, List.getElem?_set_ne (Ne.symm e)]
theorem set_get {σ : L2.St} {i j : Nat} {x : Option V} (hi : i < σ.length) : (σ.set i x)[j]? = if j = i then some x else σ[j]? := by
  by_cases e : j = i
  · subst e; rw [if_pos rfl, List.getElem?_set_self hi]
  · rw [if_neg e, List.getElem?_set_ne (Ne.symm e)]
section
variable {Γ : Sig} {m : Option Addr} {B : Hp} {okA : Addr → Prop} {s : S} {σ : L2.St} {H : Hp} {i : Nat} {v : V} {d : D} {a : Addr}
theorem put_own {x : Sl} (hx : ∀ d, x ≠ .ow d) (hi : i < s.sl.length) (hl : s.sl.length = σ.length) {w : Option V} {j : Nat} (h : OwnAt (s.put i x) (σ.set i w) j a) : OwnAt s σ j a ∧ j ≠ i := by
  obtain ⟨⟨e, h1⟩, h2⟩ := h
  rw [put_get hi] at h1
  rw [set_get (hl ▸ hi)] at h2
  by_cases z : j = i
  · rw [if_pos z] at h1; exact absurd (Option.some.inj h1) (hx e)
  · rw [if_neg z] at h1 h2; exact ⟨⟨⟨e, h1⟩, h2⟩, z⟩
/-- a slot gets what is no object of its own, or nothing -/
theorem Env.put_ (E : Env Γ m B okA s σ H) {x : Sl} {w : Option V} (hi : i < s.sl.length) (hx : ∀ d, x ≠ .ow d) (r : ∀ d, x = .fz d → ∃ v, w = some v ∧ Rep Γ (Ok Γ okA s σ) H v d) : Env Γ m B okA (s.put i x) (σ.set i w) H := by
  have low : ∀ b, Ok Γ okA s σ b → Ok Γ okA (s.put i x) (σ.set i w) b := fun b h => ⟨h.1, h.2.1, fun j q => h.2.2 j (put_own hx hi E.len q).1⟩
  refine ⟨?_, E.pm, E.kp, fun j b q => E.nB j b (put_own hx hi E.len q).1, E.new, fun j e q => ?_, fun j e q => ?_, fun j k b q1 q2 => E.dis j k b (put_own hx hi E.len q1).1 (put_own hx hi E.len q2).1, E.pen.keep (Keeps.refl _ _) low fun _ _ _ _ z => z, E.pn, E.tb⟩
  · show (s.sl.set i x).length = _
    rw [List.length_set, List.length_set]; exact E.len
  · rw [put_get hi] at q
    rw [set_get (E.len ▸ hi)]
    by_cases z : j = i
    · rw [if_pos z] at q ⊢
      obtain ⟨v, h1, h2⟩ := r e (Option.some.inj q)
      exact ⟨v, by rw [h1], Rep.mono (Keeps.refl _ _) (fun b h _ => low b h) _ _ h2⟩
    · rw [if_neg z] at q ⊢
      obtain ⟨u, h1, h2⟩ := E.fz j e q
      exact ⟨u, h1, Rep.mono (Keeps.refl _ _) (fun b h _ => low b h) _ _ h2⟩
  · rw [put_get hi] at q
    rw [set_get (E.len ▸ hi)]
    by_cases z : j = i
    · rw [if_pos z] at q; exact absurd (Option.some.inj q) (hx e)
    · rw [if_neg z] at q ⊢
      obtain ⟨b, h1, h2, h3, h4⟩ := E.ow j e q
      exact ⟨b, h1, h2, h3, h4.mono (Keeps.refl _ _) (fun b h _ => low b h) fun _ _ z => z⟩
theorem Env.put_fz (E : Env Γ m B okA s σ H) (hi : i < s.sl.length) (r : Rep Γ (Ok Γ okA s σ) H v d) : Env Γ m B okA (s.put i (.fz d)) (σ.set i (some v)) H :=
  E.put_ hi (fun _ => nofun) fun e q => by cases q; exact ⟨v, rfl, r⟩
theorem Env.put_no (E : Env Γ m B okA s σ H) (hi : i < s.sl.length) (w : Option V) : Env Γ m B okA (s.put i .no) (σ.set i w) H :=
  E.put_ hi (fun _ => nofun) fun e q => nomatch q
/-- .. a new object of its own -/
theorem Env.put_ow (E : Env Γ m B (fun b => okA b ∧ b ≠ a) s σ H) (hi : i < s.sl.length) (ha : okA a) (hB : B a = none) (hp : Γ.pen ≠ some a) (r : RepO Γ (Ok Γ (fun b => okA b ∧ b ≠ a) s σ) H a d) : Env Γ m B okA (s.put i (.ow d)) (σ.set i (some (.ref a))) H := by
  have own : ∀ j b, OwnAt (s.put i (.ow d)) (σ.set i (some (.ref a))) j b → (j = i ∧ b = a) ∨ (j ≠ i ∧ OwnAt s σ j b) := fun j b ⟨⟨e, h1⟩, h2⟩ => by
    rw [put_get hi] at h1
    rw [set_get (E.len ▸ hi)] at h2
    by_cases z : j = i
    · rw [if_pos z] at h2
      cases h2
      exact .inl ⟨z, rfl⟩
    · rw [if_neg z] at h1 h2; exact .inr ⟨z, ⟨e, h1⟩, h2⟩
  have low : ∀ b, Ok Γ (fun b => okA b ∧ b ≠ a) s σ b → Ok Γ okA (s.put i (.ow d)) (σ.set i (some (.ref a))) b := fun b h => ⟨h.1.1, h.2.1, fun j q => by
    rcases own j b q with ⟨_, e⟩ | ⟨_, q⟩
    · exact h.1.2 e
    · exact h.2.2 j q⟩
  have nota : ∀ j, ¬ OwnAt s σ j a := fun j ⟨⟨e, h1⟩, h2⟩ => by
    obtain ⟨b, q1, q2, _⟩ := E.ow j e h1
    rw [h2] at q1
    cases q1
    exact q2.2 rfl
  refine ⟨?_, E.pm, E.kp, fun j b q => ?_, fun q h => (E.new q h).1, fun j e q => ?_, fun j e q => ?_, fun j k b q1 q2 => ?_, E.pen.keep (Keeps.refl _ _) low fun _ _ _ _ z => z, E.pn, E.tb⟩
  · show (s.sl.set i (.ow d)).length = _
    rw [List.length_set, List.length_set]; exact E.len
  · rcases own j b q with ⟨_, e⟩ | ⟨_, q⟩
    · rw [e]; exact hB
    · exact E.nB j b q
  · rw [put_get hi] at q
    rw [set_get (E.len ▸ hi)]
    by_cases z : j = i
    · rw [if_pos z] at q; cases q
    · rw [if_neg z] at q ⊢
      obtain ⟨u, h1, h2⟩ := E.fz j e q
      exact ⟨u, h1, Rep.mono (Keeps.refl _ _) (fun b h _ => low b h) _ _ h2⟩
  · rw [put_get hi] at q
    rw [set_get (E.len ▸ hi)]
    by_cases z : j = i
    · rw [if_pos z] at q ⊢
      cases q
      exact ⟨a, rfl, ha, hp, r.mono (Keeps.refl _ _) (fun b h _ => low b h) fun _ _ z => z⟩
    · rw [if_neg z] at q ⊢
      obtain ⟨b, h1, h2, h3, h4⟩ := E.ow j e q
      exact ⟨b, h1, h2.1, h3, h4.mono (Keeps.refl _ _) (fun b h _ => low b h) fun _ _ z => z⟩
  · rcases own j b q1 with ⟨e1, f1⟩ | ⟨e1, f1⟩ <;> rcases own k b q2 with ⟨e2, f2⟩ | ⟨e2, f2⟩
    · rw [e1, e2]
    · exact absurd (f1 ▸ f2) (nota k)
    · exact absurd (f2 ▸ f1) (nota j)
    · exact E.dis j k b f1 f2
/-- an object of its own is written -/
theorem Env.write {d' : D} {o' : HO} (E : Env Γ m B okA s σ H) (h : s.sl[i]? = some (.ow d)) (ha : σ[i]? = some (some (.ref a))) (hm : m = Γ.pen ∨ m = none) (r : RepO Γ (Ok Γ okA s σ) (upd H a o') a d') : Env Γ m B okA (s.put i (.ow d')) σ (upd H a o') := by
  have hi : i < s.sl.length := (List.getElem?_eq_some_iff.mp h).1
  obtain ⟨a', q1, q2, q3, q4⟩ := E.ow i d h
  rw [ha] at q1
  cases q1
  have oa : OwnAt s σ i a := ⟨⟨d, h⟩, ha⟩
  have own : ∀ j b, OwnAt (s.put i (.ow d')) σ j b ↔ OwnAt s σ j b := fun j b => by
    constructor
    · rintro ⟨⟨e, h1⟩, h2⟩
      rw [put_get hi] at h1
      by_cases z : j = i
      · rw [z] at h2 ⊢; exact ⟨⟨d, h⟩, h2⟩
      · rw [if_neg z] at h1; exact ⟨⟨e, h1⟩, h2⟩
    · rintro ⟨⟨e, h1⟩, h2⟩
      by_cases z : j = i
      · exact ⟨⟨d', by rw [put_get hi, if_pos z]⟩, h2⟩
      · exact ⟨⟨e, by rw [put_get hi, if_neg z]; exact h1⟩, h2⟩
  have low : ∀ b, Ok Γ okA s σ b → Ok Γ okA (s.put i (.ow d')) σ b := fun b h => ⟨h.1, h.2.1, fun j q => h.2.2 j ((own j b).mp q)⟩
  have nok : ¬ Ok Γ okA s σ a := fun z => z.2.2 i oa
  have k : Keeps (Ok Γ okA s σ) H (upd H a o') := Keeps.upd nok q4.noTup q4.noX
  have nn : H a ≠ none := fun z => by obtain ⟨o, ho⟩ := q4.there; rw [z] at ho; cases ho
  refine ⟨?_, E.pm, ?_, fun j b q => E.nB j b ((own j b).mp q), fun q hq => ?_, fun j e q => ?_, fun j e q => ?_, fun j k b q1 q2 => E.dis j k b ((own j b).mp q1) ((own k b).mp q2), ?_, fun q hq => ?_, fun P hP => ?_⟩
  · show (s.sl.set i (.ow d')).length = _
    rw [List.length_set]; exact E.len
  · obtain ⟨o, o1, o2, o3⟩ := q4.plain
    exact E.kp.wrote (E.nB i a oa) o1 o2 o3
  · by_cases z : q = a
    · rw [z]; exact q2
    · rw [upd_ne z] at hq; exact E.new q hq
  · rw [put_get hi] at q
    by_cases z : j = i
    · rw [if_pos z] at q; cases q
    · rw [if_neg z] at q
      obtain ⟨u, h1, h2⟩ := E.fz j e q
      exact ⟨u, h1, Rep.mono k (fun b h _ => low b h) _ _ h2⟩
  · rw [put_get hi] at q
    by_cases z : j = i
    · rw [if_pos z] at q
      cases q
      exact ⟨a, by rw [z]; exact ha, q2, q3, r.mono (Keeps.refl _ _) (fun b h _ => low b h) fun _ _ z => z⟩
    · rw [if_neg z] at q
      obtain ⟨b, h1, h2, h3, h4⟩ := E.ow j e q
      refine ⟨b, h1, h2, h3, h4.mono k (fun b h _ => low b h) fun o _ ho => ?_⟩
      rw [upd_ne fun (y : b = a) => z (E.dis j i a ⟨⟨e, q⟩, by rw [← y]; exact h1⟩ oa)]
      exact ho
  · exact E.pen.keep k low fun q o h1 _ h2 => by
      rw [upd_ne fun (z : q = a) => q3 (by rw [← z]; exact h1)]; exact h2
  · by_cases z : q = a
    · rw [z, upd_same]; exact fun z => nomatch z
    · rw [upd_ne z]; exact E.pn q hq
  · obtain ⟨o, o1, o2, o3⟩ := q4.plain
    exact tab_wrote (E.tb P hP) o1 o2 o3
end
end SM

set_option Elab.async false
set_option linter.all false
set_option maxRecDepth 100000
set_option maxHeartbeats 4000000
namespace SM
variable [Tab]
open PySem PySem.Spec PyProof.Rows L2

section
variable {X : Cx} {st : Stmt} {rest body a b : List Stmt} {e c o : Expr} {es : List Expr} {f g h : S → Res (S × D)} {fs : S → Res (S × List D)} {t : S → Res (S × Bool)} {u v w : S → Res (S × Fl)} {pos p' : Pos} {x y : Str} {i j : Nat}

def sSeq (u v : S → Res (S × Fl)) (s : S) : Res (S × Fl) := u s >>= fun (s1, fl) => match fl with
  | .nx => v s1
  | o => .ok (s1, o)
theorem sb_one (h : SS X st u) : SB X [st] u := fun p m B okA s σ H W Z tk hm E hp => wb_of (pss_one (psW X st)) (h p m B okA s σ H W Z tk hm E hp)
theorem sb_cons (h : SS X st u) (r : SB X rest v) : SB X (st :: rest) (sSeq u v) := by
  intro p m B okA s σ H W Z tk hm E hp
  refine wb_of (pss_cons (psW X st) (pbW X rest)) ?_
  show WS X st { Z with nx := WB X rest Z } σ H
  refine h p m B okA s σ H W _ tk hm E ?_
  unfold sSeq at hp
  cases hu : u s with
  | ok z =>
    obtain ⟨s1, fl⟩ := z
    rw [hu] at hp
    cases fl with
    | nx => exact fun σ' H' E' => r p m B okA s1 σ' H' W Z tk hm E' hp
    | bk => exact hp
    | ct => exact hp
    | rt d => exact hp
  | exn c ns ds => rw [hu] at hp; exact hp
  | stuck => rw [hu] at hp; exact hp
theorem sb_nil : SB X [] (fun s => .ok (s, .nx)) := fun p m B okA s σ H W Z tk hm E hp => wb_of pss_nil (hp σ H E)

/-- a slot is written -/
def wr (i : Nat) (z : Sl) (s : S) : Res (S × Fl) := if i < s.sl.length then .ok (s.put i z, .nx) else .stuck
def sSet (i : Nat) (f : S → Res (S × D)) (s : S) : Res (S × Fl) := do
  let (s1, d) ← f s
  wr i (.fz d) s1
def sOwn (i : Nat) (f : S → Res (S × D)) (s : S) : Res (S × Fl) := do
  let (s1, d) ← f s
  wr i (.ow d) s1
section
variable {p m : Option Addr} {B : Hp} {okA : Addr → Prop} {W : WX} {s : S} {σ : L2.St} {H : Hp} {Z : Ends}
theorem wr_fz {d : D} {v : V} (E : Env (sg X p) m B okA s σ H) (r : Rep (sg X p) (Ok (sg X p) okA s σ) H v d) (hp : PostS (sg X p) m B okA W Z (wr i (.fz d) s)) : Z.nx (σ.set i (some v)) H := by
  unfold wr at hp
  by_cases hi : i < s.sl.length
  · rw [if_pos hi] at hp
    exact hp _ _ (E.put_fz hi r)
  · rw [if_neg hi] at hp; exact hp.elim
end
theorem ss_set (i : Nat) (hN : X.N.Nodup) (he : EE X e f) (hi : X.N[i]? = some x := by rfl) (hx : Loc X.env.scope x := by first | exact Or.inl rfl | exact Or.inr rfl) (hs : swapsWith e (some (.Name x p')) pos.line X.env = pure false := by rfl)
    (hf : X.fn x = true ∨ X.env.scope.names.lookup x = some .local := by first | exact .inl rfl | exact .inr rfl | assumption) : SS X (.Assign [.Name x p'] e pos) (sSet i f) := by
  intro p m B okA s σ H W Z tk hm E hp
  refine ws_of (ps_set hN hi hx (peW X e) hs hf) ?_
  show WE X e σ H fun v H1 => Z.nx (σ.set i (some v)) H1
  exact Does.bindS he tk hm E hp fun s1 d v H1 E1 r1 p1 => wr_fz E1 r1 p1
theorem ss_own (i : Nat) (hN : X.N.Nodup) (he : EF X e f) (hi : X.N[i]? = some x := by rfl) (hx : Loc X.env.scope x := by first | exact Or.inl rfl | exact Or.inr rfl) (hs : swapsWith e (some (.Name x p')) pos.line X.env = pure false := by rfl)
    (hf : X.fn x = true ∨ X.env.scope.names.lookup x = some .local := by first | exact .inl rfl | exact .inr rfl | assumption) : SS X (.Assign [.Name x p'] e pos) (sOwn i f) := by
  intro p m B okA s σ H W Z tk hm E hp
  refine ws_of (ps_set hN hi hx (peW X e) hs hf) ?_
  show WE X e σ H fun v H1 => Z.nx (σ.set i (some v)) H1
  refine EF.bindS he tk hm E hp fun s1 d q H1 E1 o1 o2 o3 r1 p1 => ?_
  have hp1 : PostS (sg X p) m B okA W Z (wr i (.ow d) s1) := p1
  unfold wr at hp1
  by_cases hi : i < s1.sl.length
  · rw [if_pos hi] at hp1
    exact hp1 _ _ (Env.put_ow E1 hi o1 o2 o3 r1)
  · rw [if_neg hi] at hp1; exact hp1.elim
def sRet (f : S → Res (S × D)) (s : S) : Res (S × Fl) := do
  let (s1, d) ← f s
  .ok (s1, .rt d)
theorem ss_ret (he : EE X e f) : SS X (.Return (some e) pos) (sRet f) := by
  intro p m B okA s σ H W Z tk hm E hp
  refine ws_of (ps_ret (peW X e)) ?_
  exact Does.bindS he tk hm E hp fun s1 d v H1 E1 r1 p1 => p1 v _ H1 E1 r1
def sFl (fl : Fl) (s : S) : Res (S × Fl) := .ok (s, fl)
theorem ss_retN : SS X (.Return none pos) (sFl (.rt .non)) := fun p m B okA s σ H W Z tk hm E hp => ws_of ps_retN (hp .non σ H E .non)
theorem ss_pass : SS X (.Pass pos) (sFl .nx) := fun p m B okA s σ H W Z tk hm E hp => ws_of ps_pass (hp σ H E)
theorem ss_break : SS X (.Break pos) (sFl .bk) := fun p m B okA s σ H W Z tk hm E hp => ws_of ps_break (hp σ H E)
theorem ss_cont : SS X (.Continue pos) (sFl .ct) := fun p m B okA s σ H W Z tk hm E hp => ws_of ps_continue (hp σ H E)
def sIf (t : S → Res (S × Bool)) (u v : S → Res (S × Fl)) (s : S) : Res (S × Fl) := do
  let (s1, k) ← t s
  if k = true then u s1 else v s1
theorem ss_if (hc : ET X c t) (ha : SB X a u) (hb : SB X b v) : SS X (.If c a b pos) (sIf t u v) := by
  intro p m B okA s σ H W Z tk hm E hp
  refine ws_of (ps_if (ptW X c) (pbW X a) (pbW X b)) ?_
  show WT X c σ H fun k H1 => if k = true then WB X a Z σ H1 else WB X b Z σ H1
  refine Does.bindS hc tk hm E hp fun s1 k k' H1 E1 r1 p1 => ?_
  have r2 : k' = k := r1
  subst r2
  cases k' with
  | true => exact ha p m B okA s1 σ H1 W Z tk hm E1 p1
  | false => exact hb p m B okA s1 σ H1 W Z tk hm E1 p1
def sExp (f : S → Res (S × D)) (s : S) : Res (S × Fl) := do
  let (s1, _) ← f s
  .ok (s1, .nx)
theorem ss_exp (he : EE X e f) (hs : swapsWith e none pos.line X.env = pure false := by rfl) : SS X (.Expr e pos) (sExp f) := by
  intro p m B okA s σ H W Z tk hm E hp
  refine ws_of (ps_expr (peW X e) hs) ?_
  exact Does.bindS he tk hm E hp fun s1 d v H1 E1 r1 p1 => p1 _ H1 E1

/-- xs.append(e), xs a list of its own -/
def isLst : Option Sl → Bool
  | some (.ow (.lst _)) => true
  | _ => false
def sApp (i : Nat) (f : S → Res (S × D)) (s : S) : Res (S × Fl) := if isLst s.sl[i]? = true then (do
  let (s1, d) ← f s
  match s1.sl[i]? with
  | some (.ow (.lst ds)) => if ds.length < 100000 then .ok (s1.put i (.ow (.lst (ds ++ [d]))), .nx) else .stuck
  | _ => .stuck) else .stuck
theorem isLst_of {z : Option Sl} (h : isLst z = true) : ∃ ds, z = some (.ow (.lst ds)) := by
  unfold isLst at h
  split at h
  · exact ⟨_, rfl⟩
  · cases h
theorem ss_app (i : Nat) {apos cpos : Pos} (he : EE X e f) (hi : X.N[i]? = some x := by rfl) (hv : Vis X.env.scope x := by first | exact Or.inl rfl | exact Or.inr (Or.inl rfl) | exact Or.inr (Or.inr rfl)) (hd : (x == ("__debug__" : Str)) = false := by decide)
    (hcd : (x == ("__classdict__" : Str)) = false := by decide) (hst : starEach [e] X.env = (false, eval e X.env) :: starEach [] X.env := by rfl) (hline : (apos.endLine == cpos.line) = true := by rfl)
    (hs : swapsWith (.Call (.Attribute (.Name x p') "append" apos) [e] [] cpos) none pos.line X.env = pure false := by rfl)
    (hbase : attributeBase (.Name x p') "append" X.env (eval (.Name x p') X.env) = eval (.Name x p') X.env := by rfl)
    (hfew : ((backTo cpos (starEach [e] X.env)).all (fun x => !x.1) && (backToKw cpos (keywordEach [] X.env)).all (fun x => x.1.isSome)
      && decide (([e] : List Expr).length + ([] : List Keyword).length + (if ([] : List Keyword).isEmpty then 0 else 1) < 30)) = true := by rfl) :
    SS X (.Expr (.Call (.Attribute (.Name x p') "append" apos) [e] [] cpos) pos) (sApp i f) := by
  intro p m B okA s σ H W Z tk hm E hp
  have ha : PA X [e] (tCons (WE X e) tNil) := pa_cons (peW X e) pa_nil hst
  refine ws_of (ps_expr (pe_bm PySem.F.plainAttrs_list PySem.F.slot_list_append PySem.F.type_list_append mt_append (pv i hi hv hd hcd) ha hbase hfew hline hst (by rfl)) hs) ?_
  show tVar i σ H fun z H1 => tyV X.K "list" z H1 ∧ WE X e σ H1 fun xv H2 => rAppend z [xv] H2 fun _ H3 => Z.nx σ H3
  unfold sApp at hp
  by_cases h0 : isLst s.sl[i]? = true
  · rw [if_pos h0] at hp
    obtain ⟨ds0, e0⟩ := isLst_of h0
    obtain ⟨q, q1, q2, q3, q4⟩ := E.ow i _ e0
    cases q4 with
    | lst q5 q6 =>
      refine ⟨_, q1, .inl ⟨rfl, _, SqL.of q5⟩, ?_⟩
      refine Does.bindS he tk hm E hp fun s1 d v H1 E1 r1 p1 => ?_
      cases hs1 : s1.sl[i]? with
      | none => dsimp only at p1; rw [hs1] at p1; exact p1.elim
      | some sl =>
        cases sl with
        | ow d2 =>
          cases d2 with
          | lst ds =>
            dsimp only at p1
            rw [hs1] at p1
            dsimp only at p1
            by_cases hl : ds.length < 100000
            · rw [if_pos hl] at p1
              obtain ⟨q', y1, y2, y3, y4⟩ := E1.ow i _ hs1
              rw [q1] at y1
              cases y1
              cases y4 with
              | lst y5 y6 =>
                rename_i vs2
                refine ⟨_, _, v, rfl, rfl, y5, by rw [y6.length]; exact small_lt hl, ?_⟩
                refine p1 _ _ (E1.write hs1 q1 (hm.imp id id) (.lst upd_same ?_))
                have k : Keeps (Ok (sg X p) okA s1 σ) H1 (upd H1 q (.lst (vs2 ++ [v]))) := Keeps.upd (fun z => z.2.2 i ⟨⟨_, hs1⟩, q1⟩) (fun vs z => by rw [y5] at z; cases z) (fun φ z => by rw [y5] at z; cases z)
                exact Reps.mono k (fun _ z _ => z) _ _ (y6.append (.cons r1 .nil))
            · rw [if_neg hl] at p1; exact p1.elim
          | _ => dsimp only at p1; rw [hs1] at p1; exact (show False from p1).elim
        | _ => dsimp only at p1; rw [hs1] at p1; exact (show False from p1).elim
  · rw [if_neg h0] at hp; exact hp.elim
end
end SM

set_option Elab.async false
set_option linter.all false
set_option maxRecDepth 100000
set_option maxHeartbeats 4000000
namespace SM
variable [Tab]
open PySem PySem.Spec PyProof.Rows L2

/-! ## the ground: what may not change from here on -/
open Classical in
noncomputable def ground (s : S) (σ : L2.St) (H : Hp) : Hp := fun a => if (∃ i, OwnAt s σ i a) then none else H a
section
variable {Γ : Sig} {m : Option Addr} {B : Hp} {okA : Addr → Prop} {s s1 : S} {σ σ1 : L2.St} {H H1 : Hp}
theorem ground_own {a : Addr} {i : Nat} (h : OwnAt s σ i a) : ground s σ H a = none := if_pos ⟨i, h⟩
theorem ground_not {a : Addr} (h : ∀ i, ¬ OwnAt s σ i a) : ground s σ H a = H a := if_neg fun ⟨i, z⟩ => h i z
theorem ground_some {a : Addr} {o : HO} (h : ground s σ H a = some o) : H a = some o ∧ ∀ i, ¬ OwnAt s σ i a := by
  have n : ∀ i, ¬ OwnAt s σ i a := fun i z => by rw [ground_own z] at h; cases h
  exact ⟨(ground_not n).symm.trans h, n⟩
theorem Env.ground (E : Env Γ m B okA s σ H) : Env Γ m (ground s σ H) okA s σ H :=
  ⟨E.len, E.pm, ⟨fun a o _ _ h => (ground_some h).1, fun a vs h => (ground_some h).1, fun a h z => h (by
    by_cases q : ∃ i, OwnAt s σ i a
    · obtain ⟨i, q⟩ := q
      exact ground_own q
    · rw [ground_not fun i w => q ⟨i, w⟩]; exact z), fun P t => t.ext fun b o h => (ground_some h).1, fun a φ h => (ground_some h).1⟩, fun i a h => ground_own h, E.new, E.fz, E.ow, E.dis, E.pen, E.pn, E.tb⟩
/-- the old ground stands in the new one -/
theorem Env.sub (E : Env Γ m B okA s σ H) : Ext m B (SM.ground s σ H) := by
  have nb : ∀ a o, B a = some o → ∀ i, ¬ OwnAt s σ i a := fun a o h i z => by rw [E.nB i a z] at h; cases h
  refine ⟨fun a o n f h => by rw [ground_not (nb a o h)]; exact E.kp.o a o n f h, fun a vs h => by rw [ground_not (nb a _ h)]; exact E.kp.t a vs h, fun a h => ?_, fun P t => ?_, fun a φ h => by rw [ground_not (nb a _ h)]; exact E.kp.x a φ h⟩
  · cases q : B a with
    | none => exact absurd q h
    | some o => rw [ground_not (nb a o q)]; exact E.kp.n a h
  · have no : ∀ b o, H b = some o → ((∃ ps, o = .tbl ps) ∨ ∃ φ, o = .ext φ) → SM.ground s σ H b = some o := fun b o h w => by
      rw [ground_not]
      · exact h
      · rintro i ⟨⟨d, z1⟩, z2⟩
        obtain ⟨b', y1, _, _, y4⟩ := E.ow i d z1
        rw [z2] at y1
        cases y1
        obtain ⟨o', o1, o2, o3⟩ := y4.plain
        rw [h] at o1
        cases o1
        rcases w with ⟨ps, w⟩ | ⟨φ, w⟩
        · exact o2 ps w
        · exact o3 φ w
    obtain ⟨ps, h1, h2, h3⟩ := E.kp.tb P t
    refine ⟨ps, no _ _ h1 (.inl ⟨ps, rfl⟩), h2, fun pos cv hc => ?_⟩
    obtain ⟨c, e1, e2⟩ := h3 pos cv hc
    exact ⟨c, e1, no _ _ e2 (.inr ⟨_, rfl⟩)⟩
theorem Env.none_sub (E : Env Γ m B okA s σ H) (hm : m = Γ.pen ∨ m = none) {a : Addr} (h : SM.ground s σ H a = none) : B a = none := by
  cases q : B a with
  | none => rfl
  | some o => exact absurd h (E.sub.n a (by rw [q]; exact nofun))
/-- back -/
theorem Env.unground {okB : Addr → Prop} (E : Env Γ m B okA s σ H) (hm : m = Γ.pen ∨ m = none) (E1 : Env Γ m (SM.ground s σ H) okB s1 σ1 H1) : Env Γ m B okB s1 σ1 H1 :=
  ⟨E1.len, E1.pm, E.sub.trans E1.kp, fun i a h => E.none_sub hm (E1.nB i a h), E1.new, E1.fz, E1.ow, E1.dis, E1.pen, E1.pn, E1.tb⟩
/-- what was told at the ground is told on -/
theorem Env.stand (E : Env Γ m B okA s σ H) {vs : List V} {ds : List D} (r : Reps Γ (Ok Γ okA s σ) H vs ds) (hm : m = Γ.pen ∨ m = none) : Reps Γ (Ok Γ okA s σ) (SM.ground s σ H) vs ds := by
  have e : ∀ a, Ok Γ okA s σ a → SM.ground s σ H a = H a := fun a h => ground_not h.2.2
  refine Reps.mono ⟨fun a vs h => ?_, fun a vs h r => ?_, fun a vs h r => ?_, fun a vs h r => ?_, fun a C dx fs h r => by rw [e a h]; exact r, fun a φ h => ?_⟩ (fun a h _ => h) _ _ r
  · rw [ground_not]; exact h
    intro i z
    obtain ⟨⟨d, h1⟩, h2⟩ := z
    obtain ⟨b, q1, _, _, q4⟩ := E.ow i d h1
    rw [h2] at q1
    cases q1
    exact q4.noTup vs h
  rotate_left 3
  · rw [ground_not]; exact h
    intro i z
    obtain ⟨⟨d, h1⟩, h2⟩ := z
    obtain ⟨b, q1, _, _, q4⟩ := E.ow i d h1
    rw [h2] at q1
    cases q1
    exact q4.noX φ h
  · rw [e a h]; exact r
  all_goals
    unfold Rd at r ⊢
    rw [e a h]
    exact r
theorem Env.stood (E : Env Γ m B okA s σ H) (hm : m = Γ.pen ∨ m = none) (E1 : Env Γ m (SM.ground s σ H) okA s1 σ1 H1) {vs : List V} {ds : List D} (r : Reps Γ (Ok Γ okA s σ) (SM.ground s σ H) vs ds) : Reps Γ (Ok Γ okA s1 σ1) H1 vs ds :=
  Reps.mono (E1.kp.keeps fun a ha => by rcases hm with z | z <;> rw [z]; exact ha.2.1; exact nofun) (fun a h n => ⟨h.1, h.2.1, fun i z => n (E1.nB i a z)⟩) _ _ r
end

/-! ## targets -/
@[irreducible] def WG (X : Cx) (tg : Expr) : TG := fun v σ H Q => ∀ pins s u, Inv X pins σ H s → RelV v u → wpAny (model X.prog X.w) X.A (assign tg X.env u) (fun _ s' => ∃ σ' H', Inv X pins σ' H' s' ∧ Q σ' H') X.xe s
@[irreducible] def WGs (X : Cx) (tgs : List Expr) : TGs := fun vs σ H Q => ∀ pins s us, Inv X pins σ H s → Vals vs us → wpAny (model X.prog X.w) X.A (assignInOrder ((assignEach tgs X.env).map (·.2)) us) (fun _ s' => ∃ σ' H', Inv X pins σ' H' s' ∧ Q σ' H') X.xe s
theorem pgW (X : Cx) (tg : Expr) : PG X tg (WG X tg) := ⟨fun pins s σ H v u Q I r h => by unfold WG at h; exact h pins s u I r⟩
theorem pgsW (X : Cx) (tgs : List Expr) : PGs X tgs (WGs X tgs) := ⟨fun pins s σ H v u Q I r h => by unfold WGs at h; exact h pins s u I r⟩
theorem wg_mk {X : Cx} {tg : Expr} {v : V} {σ : L2.St} {H : Hp} {Q : L2.St → Hp → Prop} (h : ∀ pins s u, Inv X pins σ H s → RelV v u → wpAny (model X.prog X.w) X.A (assign tg X.env u) (fun _ s' => ∃ σ' H', Inv X pins σ' H' s' ∧ Q σ' H') X.xe s) : WG X tg v σ H Q := by unfold WG; exact h
theorem wgs_mk {X : Cx} {tgs : List Expr} {vs : List V} {σ : L2.St} {H : Hp} {Q : L2.St → Hp → Prop} (h : ∀ pins s us, Inv X pins σ H s → Vals vs us → wpAny (model X.prog X.w) X.A (assignInOrder ((assignEach tgs X.env).map (·.2)) us) (fun _ s' => ∃ σ' H', Inv X pins σ' H' s' ∧ Q σ' H') X.xe s) : WGs X tgs vs σ H Q := by unfold WGs; exact h
/-- the slots off ix stay -/
structure Off (ix : List Nat) (σ σ' : L2.St) : Prop where
  len : σ'.length = σ.length
  at_ : ∀ j, j ∉ ix → σ'[j]? = σ[j]?
def GD (X : Cx) (tg : Expr) (u : D → S → Option S) (ix : List Nat) : Prop := ∀ (p m : Option Addr) (B : Hp) (okA : Addr → Prop) (s s' : S) (σ : L2.St) (H : Hp) (v : V) (d : D) (Q : L2.St → Hp → Prop), (m = p ∨ m = none) → Env (sg X p) m B okA s σ H → Rep (sg X p) (Ok (sg X p) okA s σ) H v d → u d s = some s' →
  (∀ σ', Env (sg X p) m B okA s' σ' H → (∀ a, Ok (sg X p) okA s σ a → Ok (sg X p) okA s' σ' a) → Off ix σ σ' → Less s' s → Q σ' H) → WG X tg v σ H Q
def GDs (X : Cx) (tgs : List Expr) (u : List D → S → Option S) (ix : List Nat) : Prop := ∀ (p m : Option Addr) (B : Hp) (okA : Addr → Prop) (s s' : S) (σ : L2.St) (H : Hp) (vs : List V) (ds : List D) (Q : L2.St → Hp → Prop), (m = p ∨ m = none) → Env (sg X p) m B okA s σ H → Reps (sg X p) (Ok (sg X p) okA s σ) H vs ds → u ds s = some s' →
  (∀ σ', Env (sg X p) m B okA s' σ' H → (∀ a, Ok (sg X p) okA s σ a → Ok (sg X p) okA s' σ' a) → Off ix σ σ' → Less s' s → Q σ' H) → WGs X tgs vs σ H Q
def tNm (i : Nat) (d : D) (s : S) : Option S := if i < s.sl.length then some (s.put i (.fz d)) else none
def tsNil (ds : List D) (s : S) : Option S := match ds with
  | [] => some s
  | _ :: _ => none
def tsCons (u : D → S → Option S) (us : List D → S → Option S) (ds : List D) (s : S) : Option S := match ds with
  | d :: ds' => (u d s).bind (us ds')
  | [] => none
def tTp (n : Nat) (us : List D → S → Option S) (d : D) (s : S) : Option S := match d with
  | .tup ds => if ds.length = n then us ds s else none
  | _ => none
def tLs (n : Nat) (us : List D → S → Option S) (d : D) (s : S) : Option S := match d with
  | .lst ds => if ds.length = n then us ds s else none
  | _ => none
section
variable {X : Cx} {x : Str} {i : Nat} {pos : Pos} {e : Expr} {es : List Expr} {u : D → S → Option S} {us : List D → S → Option S}
theorem put_low {Γ : Sig} {okA : Addr → Prop} {s : S} {σ : L2.St} {z : Sl} {w : Option V} (hi : i < s.sl.length) (hl : s.sl.length = σ.length) (hx : ∀ d, z ≠ .ow d) (a : Addr) (h : Ok Γ okA s σ a) : Ok Γ okA (s.put i z) (σ.set i w) a :=
  ⟨h.1, h.2.1, fun j q => h.2.2 j (put_own hx hi hl q).1⟩
theorem put_less {s : S} {i : Nat} {d : D} (hi : i < s.sl.length) : Less (s.put i (.fz d)) s := fun j e h => by
  rw [put_get hi] at h
  by_cases z : j = i
  · rw [if_pos z] at h; cases h
  · rw [if_neg z] at h; exact h
theorem gd_name (i : Nat) (hN : X.N.Nodup) (hi : X.N[i]? = some x := by rfl) (hx : Loc X.env.scope x := by first | exact Or.inl rfl | exact Or.inr rfl) (hf : X.fn x = true ∨ X.env.scope.names.lookup x = some .local := by first | exact .inl rfl | exact .inr rfl | assumption) : GD X (.Name x pos) (tNm i) [i] := by
  intro p m B okA s s' σ H v d Q hm E r hu hq
  unfold tNm at hu
  split at hu
  · rename_i hlt
    cases hu
    exact wg_mk fun pins s0 w I rv => (pg_name hN hi hx hf).run pins s0 σ H v w Q I rv (hq _ (E.put_fz hlt r) (fun a h => put_low (z := .fz d) hlt E.len (fun _ => nofun) a h) ⟨List.length_set, fun j hj => List.getElem?_set_ne fun e => hj (by rw [← e]; exact List.mem_singleton_self _)⟩ (put_less hlt))
  · cases hu
theorem gds_nil : GDs X [] tsNil [] := by
  intro p m B okA s s' σ H vs ds Q hm E r hu hq
  cases r with
  | nil => cases hu; exact wgs_mk fun pins s0 w I rv => pgs_nil.run pins s0 σ H [] w Q I rv ⟨rfl, hq σ E (fun _ h => h) ⟨rfl, fun _ _ => rfl⟩ (Less.refl _)⟩
  | cons _ _ => cases hu
theorem gds_cons {ix iy : List Nat} (h1 : GD X e u ix) (h2 : GDs X es us iy) (hs : (assignEach (e :: es) X.env).map (·.2) = assign e X.env :: (assignEach es X.env).map (·.2) := by rfl) : GDs X (e :: es) (tsCons u us) (ix ++ iy) := by
  intro p m B okA s s' σ H vs ds Q hm E r hu hq
  cases r with
  | nil => cases hu
  | @cons v vs d ds r1 r2 =>
    have hu' : (u d s).bind (us ds) = some s' := hu
    cases h3 : u d s with
    | none => rw [h3] at hu'; cases hu'
    | some s1 =>
      rw [h3] at hu'
      refine wgs_mk fun pins s0 w I rv => (pgs_cons (pgW X e) (pgsW X es) hs).run pins s0 σ H _ w Q I rv ⟨v, vs, rfl, ?_⟩
      refine h1 p m B okA s s1 σ H v d _ hm E r1 h3 fun σ1 E1 w1 o1 l1 => ?_
      exact h2 p m B okA s1 s' σ1 H vs ds Q hm E1 (Reps.mono (Keeps.refl _ _) (fun a h _ => w1 a h) _ _ r2) hu' fun σ2 E2 w2 o2 l2 => hq σ2 E2 (fun a h => w2 a (w1 a h)) ⟨o2.len.trans o1.len, fun j hj => (o2.at_ j fun z => hj (List.mem_append_right _ z)).trans (o1.at_ j fun z => hj (List.mem_append_left _ z))⟩ (Less.trans l1 l2)
theorem gd_tup {k : Nat} {n : Nat} {ix : List Nat} (hc : X.calm = true) (h : GDs X es us ix) (hn : (assignEach es X.env).length = n := by rfl) (hst : (assignEach es X.env).findIdx? (·.1) = none := by rfl) : GD X (.Tuple es k pos) (tTp n us) ix := by
  intro p m B okA s s' σ H v d Q hm E r hu hq
  cases d with
  | tup ds =>
    have hu' : (if ds.length = n then us ds s else none) = some s' := hu
    split at hu'
    · rename_i hl
      cases r with
      | @tup a vs _ h1 h2 =>
        exact wg_mk fun pins s0 w I rv => (pg_tup hc (pgsW X es) hn hst).run pins s0 σ H _ w Q I rv ⟨a, vs, rfl, SqT.of h1, by rw [h2.length]; exact hl, h p m B okA s s' σ H vs ds Q hm E h2 hu' hq⟩
    · cases hu'
  | _ => cases hu
theorem gd_lst {k : Nat} {n : Nat} {ix : List Nat} (hc : X.calm = true) (h : GDs X es us ix) (hn : (assignEach es X.env).length = n := by rfl) (hst : (assignEach es X.env).findIdx? (·.1) = none := by rfl) : GD X (.Tuple es k pos) (tLs n us) ix := by
  intro p m B okA s s' σ H v d Q hm E r hu hq
  cases d with
  | lst ds =>
    have hu' : (if ds.length = n then us ds s else none) = some s' := hu
    split at hu'
    · rename_i hl
      cases r with
      | @lst a vs _ h0 h1 h2 =>
        exact wg_mk fun pins s0 w I rv => (pg_lst hc (pgsW X es) hn hst).run pins s0 σ H _ w Q I rv ⟨a, vs, rfl, Rd.sqL (.inl h1), by rw [h2.length]; exact hl, h p m B okA s s' σ H vs ds Q hm E h2 hu' hq⟩
    · cases hu'
  | _ => cases hu
end

section
variable {X : Cx} {e tg iter : Expr} {es : List Expr} {body : List Stmt} {f g : S → Res (S × D)} {fs : S → Res (S × List D)} {v : S → Res (S × Fl)} {u : D → S → Option S} {pos px py pz pt pt2 : Pos} {k k2 : Nat} {x y z : Str} {i j l : Nat} {a b c : Expr}
/-- target = e -/
def sAsg (u : D → S → Option S) (f : S → Res (S × D)) (s : S) : Res (S × Fl) := do
  let (s1, d) ← f s
  match u d s1 with
  | some s2 => .ok (s2, .nx)
  | none => .stuck
theorem ss_asg {ix : List Nat} (he : EE X e f) (hg : GD X tg u ix) (hs : swapsWithSole [tg] e pos.line X.env = pure false := by rfl) (hw : swappedStores [tg] e X.env = pure none := by rfl)
    (h1 : (assignEach [tg] X.env).map (·.2) = [assign tg X.env] := by rfl) : SS X (.Assign [tg] e pos) (sAsg u f) := by
  intro p m B okA s σ H W Z tk hm E hp
  refine ws_of (ps_asg (peW X e) (pgW X tg) hs hw h1) ?_
  show WE X e σ H fun x H1 => WG X tg x σ H1 Z.nx
  refine Does.bindS he tk hm E hp fun s1 d v H1 E1 r1 p1 => ?_
  dsimp only at p1
  cases hu : u d s1 with
  | none => rw [hu] at p1; exact p1.elim
  | some s2 =>
    rw [hu] at p1
    exact hg p m B okA s1 s2 σ H1 v d Z.nx hm E1 r1 hu fun σ2 E2 _ _ _ => p1 σ2 H1 E2
/-- a, b = x, y -/
def sPar (i j : Nat) (fs : S → Res (S × List D)) (s : S) : Res (S × Fl) := do
  let (s1, ds) ← fs s
  match tsCons (tNm i) (tsCons (tNm j) tsNil) ds s1 with
  | some s2 => .ok (s2, .nx)
  | none => .stuck
theorem ss_par (i j : Nat) (hc : X.calm = true) (hN : X.N.Nodup) (ha : EA X [a, b] fs) (hi : X.N[i]? = some x := by rfl) (hj : X.N[j]? = some y := by rfl) (hij : i ≠ j := by decide) (hx : X.env.scope.names.lookup x = some .local := by rfl) (hy : X.env.scope.names.lookup y = some .local := by rfl)
    (hw : swappedStores [.Tuple [.Name x px, .Name y py] k pt] (.Tuple [a, b] k2 pt2) X.env = pure (some [x, y]) := by rfl) (hs : swapsWithSole [.Tuple [.Name x px, .Name y py] k pt] (.Tuple [a, b] k2 pt2) pos.line X.env = pure false := by rfl) :
    SS X (.Assign [.Tuple [.Name x px, .Name y py] k pt] (.Tuple [a, b] k2 pt2) pos) (sPar i j fs) := by
  intro p m B okA s σ H W Z tk hm E hp
  refine ws_of (ps_par hc hN hi hj hij hx hy (paW X [a, b]) hw hs) ?_
  show WA X [a, b] σ H fun vs H1 => ∃ v w, vs = [v, w] ∧ Z.nx ((σ.set i (some v)).set j (some w)) H1
  refine Does.bindS ha tk hm E hp fun s1 ds vs H1 E1 r1 p1 => ?_
  dsimp only at p1
  cases r1 with
  | nil => exact p1.elim
  | @cons v vs d ds r1 r2 =>
    cases r2 with
    | nil =>
      have p2 : PostS (sg X p) m B okA W Z (match (tNm i d s1).bind (tsCons (tNm j) tsNil []) with | some s2 => .ok (s2, .nx) | none => .stuck) := p1
      cases q : tNm i d s1 <;> rw [q] at p2 <;> exact p2.elim
    | @cons w ws d2 ds2 r2 r3 =>
      have p2 : PostS (sg X p) m B okA W Z (match (tNm i d s1).bind (tsCons (tNm j) tsNil (d2 :: ds2)) with | some s2 => .ok (s2, .nx) | none => .stuck) := p1
      unfold tNm at p2
      by_cases h1 : i < s1.sl.length
      · rw [if_pos h1] at p2
        have p3 : PostS (sg X p) m B okA W Z (match (tNm j d2 (s1.put i (.fz d))).bind (tsNil ds2) with | some s2 => .ok (s2, .nx) | none => .stuck) := p2
        unfold tNm at p3
        by_cases h2 : j < (s1.put i (.fz d)).sl.length
        · rw [if_pos h2] at p3
          have E2 := E1.put_fz h1 r1
          have r2' := Rep.mono (Keeps.refl (Ok (sg X p) okA s1 σ) H1) (fun a h _ => put_low (w := some v) h1 E1.len (z := .fz d) (fun _ => nofun) a h) _ _ r2
          have E3 := E2.put_fz h2 r2'
          cases r3 with
          | nil => exact ⟨v, w, rfl, p3 _ _ E3⟩
          | cons _ _ => exact (show False from p3).elim
        · rw [if_neg h2] at p3; exact p3.elim
      · rw [if_neg h1] at p2; exact p2.elim

/-! ## loops -/
@[irreducible] def WI (X : Cx) (tg iter : Expr) : TI := fun σ H R => ∀ pins s, Inv X pins σ H s → wpAny (model X.prog X.w) X.A (eval iter X.env) (fun v s1 => wpAny (model X.prog X.w) X.A (pyIter v) (PIE X pins σ tg R) X.xe s1) X.xe s
theorem piW (X : Cx) (tg iter : Expr) : PI X tg iter (WI X tg iter) := ⟨fun pins s σ H R I h => by unfold WI at h; exact h pins s I⟩
theorem wi_of {X : Cx} {tg iter : Expr} {w : TI} {σ : L2.St} {H : Hp} {R : It → Hp → Prop} (h : PI X tg iter w) (q : w σ H R) : WI X tg iter σ H R := by unfold WI; exact fun pins s I => h.run pins s σ H R I q
/-- J walks vs, whatever comes over the ground -/
def Walks (m : Option Addr) (G : Hp) (J : It) (vs : List V) : Prop := ∀ (i : Nat) (H : Hp), Ext m G H → (i < vs.length → J.go i H ∧ ∀ x H', J.yld i H x H' → H' = H ∧ vs[i]? = some x) ∧ (vs.length ≤ i → J.stop i H)
def PostI (Γ : Sig) (m : Option Addr) (B : Hp) (okA : Addr → Prop) (W : WX) (σ : L2.St) (s : S) (H : Hp) (R : It → Hp → Prop) : Res (S × List D) → Prop
  | .ok (s1, ds) => ∀ J vs H1, Ext m H H1 → Less s1 s → Env Γ m B okA s1 σ H1 → Reps Γ (Ok Γ okA s1 σ) H1 vs ds → Walks m (ground s1 σ H1) J vs → R J H1
  | .exn c ns ds => Post KV' Γ m B okA W σ s H (fun _ _ => True) (.exn c ns ds)
  | .stuck => False
def IT (X : Cx) (tg iter : Expr) (it : S → Res (S × List D)) : Prop := ∀ (p m : Option Addr) (B : Hp) (okA : Addr → Prop) (s : S) (σ : L2.St) (H : Hp) (W : WX) (R : It → Hp → Prop), Takes X W → (m = p ∨ m = none) → Env (sg X p) m B okA s σ H →
  PostI (sg X p) m B okA W σ s H R (it s) → WI X tg iter σ H R
def loopF (u : D → S → Option S) (body : S → Res (S × Fl)) : List D → S → Res (S × Fl)
  | [], s => .ok (s, .nx)
  | d :: ds, s => match u d s with
    | none => .stuck
    | some s1 => body s1 >>= fun (s2, fl) => match fl with
      | .nx => loopF u body ds s2
      | .ct => loopF u body ds s2
      | .bk => .ok (s2, .nx)
      | .rt d => .ok (s2, .rt d)
def sFor (it : S → Res (S × List D)) (u : D → S → Option S) (body : S → Res (S × Fl)) (s : S) : Res (S × Fl) := it s >>= fun (s1, ds) => loopF u body ds s1
/-- the ground is exchanged -/
theorem PostS.deep {p m : Option Addr} {B : Hp} {okA : Addr → Prop} {W : WX} {s : S} {σ : L2.St} {H : Hp} {Z : Ends} (E : Env (sg X p) m B okA s σ H) (hm : m = p ∨ m = none) {r : Res (S × Fl)} (h : PostS (sg X p) m B okA W Z r) : PostS (sg X p) m (ground s σ H) okA W Z r := by
  have hm2 : m = (sg X p).pen ∨ m = none := hm
  cases r with
  | ok x =>
    obtain ⟨s', fl⟩ := x
    cases fl with
    | nx => exact fun σ' H' E' => h σ' H' (E.unground hm2 E')
    | bk => exact fun σ' H' E' => h σ' H' (E.unground hm2 E')
    | ct => exact fun σ' H' E' => h σ' H' (E.unground hm2 E')
    | rt d => exact fun v σ' H' E' r => h v σ' H' (E.unground hm2 E') r
  | exn c ns ds => exact fun C dd fs σ' H' e hd => h C dd fs σ' H' (E.sub.trans e) (E.none_sub hm2 hd)
  | stuck => exact h
theorem ss_for {ix : List Nat} {it : S → Res (S × List D)} (hp : PassesOwn (model X.prog X.w) X.A X.env X.xe) (hc : X.calm = true) (hi : IT X tg iter it) (hg : GD X tg u ix) (hb : SB X body v) (hs : ∀ x, foldedSetIterable iter X.env x = pure x := by intro _; rfl) :
    SS X (.For tg iter body [] pos) (sFor it u v) := by
  intro p m B okA s σ H W Z tk hm E hpost
  refine ws_of (ps_for hp hc (piW X tg iter) (pgW X tg) (pbW X body) hs) ?_
  have hm2 : m = (sg X p).pen ∨ m = none := hm
  refine hi p m B okA s σ H W _ tk hm E ?_
  unfold sFor at hpost
  cases hit : it s with
  | stuck => rw [hit] at hpost; exact hpost
  | exn c ns ds =>
    rw [hit] at hpost
    exact fun C dd fs H' e hd hc hx hn fr r => hpost C dd fs σ H' (E.kp.trans e) (E.bNew hm hd) hc hx hn (fun p h => E.new p (fr p h)) r
  | ok x =>
    obtain ⟨s1, ds⟩ := x
    rw [hit] at hpost
    intro J vs H1 e1 l1 E1 r1 wk
    have hl := r1.length
    have rG := E1.stand r1 hm2
    have p0 : PostS (sg X p) m (ground s1 σ H1) okA W Z (loopF u v ds s1) := PostS.deep E1 hm hpost
    refine ⟨fun i n σ' H' => n = vs.length - i ∧ i ≤ vs.length ∧ ∃ s', Env (sg X p) m (ground s1 σ H1) okA s' σ' H' ∧ PostS (sg X p) m (ground s1 σ H1) okA W Z (loopF u v (ds.drop i) s'), ⟨vs.length, rfl, Nat.zero_le _, s1, E1.ground, p0⟩, ?_⟩
    rintro i n σ' H' ⟨rfl, hle, s', E', p'⟩
    obtain ⟨wk1, wk2⟩ := wk i H' E'.kp
    by_cases hlt : i < vs.length
    · obtain ⟨g1, g2⟩ := wk1 hlt
      refine .inr ⟨g1, fun σ2 H2 => ∃ s2, Env (sg X p) m (ground s1 σ H1) okA s2 σ2 H2 ∧ PostS (sg X p) m (ground s1 σ H1) okA W Z (loopF u v (ds.drop (i + 1)) s2), fun σ2 H2 ⟨s2, E2, p2⟩ => ⟨_, Nat.sub_succ_lt_self _ _ hlt, rfl, hlt, s2, E2, p2⟩, fun x H2 y => ?_⟩
      obtain ⟨rfl, hx⟩ := g2 x H2 y
      obtain ⟨d, hd, rd⟩ := (E1.stood hm2 E' rG).getV hx
      have ed : ds.drop i = d :: ds.drop (i + 1) := by
        obtain ⟨h1, h2⟩ := List.getElem?_eq_some_iff.mp hd
        rw [List.drop_eq_getElem_cons h1, h2]
      rw [ed] at p'
      have p2 : PostS (sg X p) m (ground s1 σ H1) okA W Z (match u d s' with | none => .stuck | some s1 => v s1 >>= fun (s2, fl) => match fl with | .nx => loopF u v (ds.drop (i + 1)) s2 | .ct => loopF u v (ds.drop (i + 1)) s2 | .bk => .ok (s2, .nx) | .rt d => .ok (s2, .rt d)) := p'
      cases hu : u d s' with
      | none => rw [hu] at p2; exact p2.elim
      | some s2 =>
        rw [hu] at p2
        dsimp only at p2
        refine hg p m _ okA s' s2 σ' H2 x d _ hm E' rd hu fun σ3 E3 _ _ _ => ?_
        refine hb p m _ okA s2 σ3 H2 W _ tk hm E3 ?_
        cases hv : v s2 with
        | ok y =>
          obtain ⟨s3, fl⟩ := y
          rw [hv] at p2
          cases fl with
          | nx => exact fun σ4 H4 E4 => ⟨s3, E4, p2⟩
          | ct => exact fun σ4 H4 E4 => ⟨s3, E4, p2⟩
          | bk => exact p2
          | rt d => exact p2
        | exn c ns ds => rw [hv] at p2; exact p2
        | stuck => rw [hv] at p2; exact p2
    · have e : ds.drop i = [] := List.drop_eq_nil_iff.mpr (by omega)
      rw [e] at p'
      exact .inl ⟨wk2 (by omega), p' _ _ E'⟩
/-- range(n) -/
def itRange (fs : S → Res (S × List D)) (s : S) : Res (S × List D) := fs s >>= fun (s1, ds) => match ds with
  | [.int n] => if -(2 ^ 62) ≤ n ∧ n < 2 ^ 62 then .ok (s1, (List.range n.toNat).map fun k => .int (k : Nat)) else .stuck
  | _ => .stuck
theorem reps_ints {Γ : Sig} {ok : Addr → Prop} {H : Hp} : ∀ l : List Nat, Reps Γ ok H (l.map fun k => V.int (k : Nat)) (l.map fun k => D.int (k : Nat))
  | [] => .nil
  | _ :: l => .cons (.int _) (reps_ints l)
theorem it_range {pp : Pos} (hg : Gl X "range") (hm : X.mg "range" = none) (ha : EA X [a] fs) (hs : starEach [a] X.env = [(false, eval a X.env)] := by rfl) : IT X tg (.Call (.Name "range" pp) [a] [] pos) (itRange fs) := by
  intro p m B okA s σ H W R tk hm' E hp
  refine wi_of (pi_range1 hg hm (paW X [a]) hs) ?_
  show WA X [a] σ H fun vs H1 => ∃ j : Int, vs = [.int j] ∧ -(2 ^ 62) ≤ j ∧ j < 2 ^ 62 ∧ R (Itr 0 j.toNat) H1
  refine ha p m B okA s σ H W _ tk hm' E ?_
  unfold itRange at hp
  cases hf : fs s with
  | stuck => rw [hf] at hp; exact hp
  | exn c ns ds => rw [hf] at hp; exact hp
  | ok x =>
    obtain ⟨s1, ds⟩ := x
    rw [hf] at hp
    intro vs H1 e1 l1 E1 r1
    cases r1 with
    | nil => exact (show False from hp).elim
    | @cons v vs d ds r1 r2 =>
      cases d with
      | int n =>
        cases r2 with
        | nil =>
          by_cases hn : -(2 ^ 62) ≤ n ∧ n < 2 ^ 62
          · have hp2 : PostI (sg X p) m B okA W σ s H R (if -(2 ^ 62) ≤ n ∧ n < 2 ^ 62 then .ok (s1, (List.range n.toNat).map fun k => .int (k : Nat)) else .stuck) := hp
            rw [if_pos hn] at hp2
            refine ⟨n, by rw [r1.int_v], hn.1, hn.2, hp2 _ _ H1 e1 l1 E1 (reps_ints _) fun i H' _ => ⟨fun hi => ⟨?_, fun x H2 y => ?_⟩, fun hi => ?_⟩⟩
            · show i < n.toNat
              simpa using hi
            · obtain ⟨h1, h2⟩ := y
              refine ⟨h1, ?_⟩
              rw [h2]
              have : i < n.toNat := by simpa using hi
              simp [this]
            · show n.toNat ≤ i
              simpa using hi
          · have hp2 : PostI (sg X p) m B okA W σ s H R (if -(2 ^ 62) ≤ n ∧ n < 2 ^ 62 then .ok (s1, (List.range n.toNat).map fun k => .int (k : Nat)) else .stuck) := hp
            rw [if_neg hn] at hp2; exact hp2.elim
        | cons _ _ => exact (show False from hp).elim
      | _ => exact (show False from hp).elim
/-- a list, a tuple -/
def itList (f : S → Res (S × D)) (s : S) : Res (S × List D) := f s >>= fun (s1, d) => match d with
  | .lst ds => .ok (s1, ds)
  | _ => .stuck
def itTup (f : S → Res (S × D)) (s : S) : Res (S × List D) := f s >>= fun (s1, d) => match d with
  | .tup ds => .ok (s1, ds)
  | _ => .stuck
theorem it_list (he : EE X e f) : IT X tg e (itList f) := by
  intro p m B okA s σ H W R tk hm E hp
  refine wi_of (pi_list (peW X e)) ?_
  show WE X e σ H fun x H1 => ∃ a, x = .ref a ∧ (∃ xs, SqL X.K H1 a xs) ∧ R (Itl X.K a) H1
  refine he p m B okA s σ H W _ tk hm E ?_
  unfold itList at hp
  cases hf : f s with
  | stuck => rw [hf] at hp; exact hp
  | exn c ns ds => rw [hf] at hp; exact hp
  | ok x =>
    obtain ⟨s1, d⟩ := x
    rw [hf] at hp
    intro v H1 e1 l1 E1 r1
    cases d with
    | lst ds =>
      cases r1 with
      | @lst a vs _ h0 h1 h2 =>
        refine ⟨a, rfl, ⟨vs, Rd.sqL (.inl h1)⟩, hp _ vs H1 e1 l1 E1 h2 fun i H' e' => ?_⟩
        have hsq : SqL X.K H' a vs := by
          have g1 : ground s1 σ H1 a = H1 a := ground_not h0.2.2
          have hma : m ≠ some a := by rcases hm with z | z <;> rw [z]; exact h0.2.1; exact nofun
          exact .inl (.inl (e'.o a _ hma (fun _ => nofun) (g1.trans h1)))
        refine ⟨fun hi => ⟨⟨vs, vs[i], hsq, by simp [hi]⟩, fun x H2 y => ⟨y.1, y.2 vs hsq⟩⟩, fun hi => ⟨vs, hsq, hi⟩⟩
    | _ => exact (show False from hp).elim
theorem it_tup (he : EE X e f) : IT X tg e (itTup f) := by
  intro p m B okA s σ H W R tk hm E hp
  refine wi_of (pi_tup (peW X e)) ?_
  show WE X e σ H fun x H1 => ∃ a, x = .ref a ∧ (∃ xs, SqT X.K H1 a xs) ∧ R (Itt X.K a) H1
  refine he p m B okA s σ H W _ tk hm E ?_
  unfold itTup at hp
  cases hf : f s with
  | stuck => rw [hf] at hp; exact hp
  | exn c ns ds => rw [hf] at hp; exact hp
  | ok x =>
    obtain ⟨s1, d⟩ := x
    rw [hf] at hp
    intro v H1 e1 l1 E1 r1
    cases d with
    | tup ds =>
      cases r1 with
      | @tup a vs _ h1 h2 =>
        refine ⟨a, rfl, ⟨vs, SqT.of h1⟩, hp _ vs H1 e1 l1 E1 h2 fun i H' e' => ?_⟩
        have hsq : SqT X.K H' a vs := by
          have g1 : ground s1 σ H1 a = H1 a := ground_not fun i ⟨⟨d, q1⟩, q2⟩ => by
            obtain ⟨b, y1, _, _, y4⟩ := E1.ow i d q1
            rw [q2] at y1
            cases y1
            exact y4.noTup vs h1
          exact SqT.of (e'.t a vs (g1.trans h1))
        refine ⟨fun hi => ⟨⟨vs, vs[i], hsq, by simp [hi]⟩, fun x H2 y => ⟨y.1, y.2 vs hsq⟩⟩, fun hi => ⟨vs, hsq, hi⟩⟩
    | _ => exact (show False from hp).elim
end
end SM

set_option Elab.async false
set_option linter.all false
set_option maxRecDepth 100000
set_option maxHeartbeats 4000000
namespace SM
variable [Tab]
open PySem PySem.Spec PyProof.Rows L2

/-! ## comprehensions -/
def wipeS (s : S) : List Nat → S
  | [] => s
  | v :: vs => (wipeS s vs).put v .no
def canWipe (s : S) (vs : List Nat) : Bool := vs.all fun v => decide (v < s.sl.length)
theorem wipeS_len (s : S) : ∀ vs, (wipeS s vs).sl.length = s.sl.length
  | [] => rfl
  | v :: vs => by
    show ((wipeS s vs).sl.set v .no).length = _
    rw [List.length_set, wipeS_len s vs]
theorem wipeS_get (s : S) (j : Nat) : ∀ vs, (wipeS s vs).sl[j]? = if j ∈ vs ∧ j < s.sl.length then some .no else s.sl[j]?
  | [] => by simp [wipeS]
  | v :: vs => by
    show ((wipeS s vs).sl.set v .no)[j]? = _
    by_cases e : v = j
    · subst e
      by_cases hl : v < s.sl.length
      · rw [List.getElem?_set_self (by rw [wipeS_len]; exact hl)]
        simp [hl]
      · rw [List.getElem?_eq_none (by rw [List.length_set, wipeS_len]; omega), List.getElem?_eq_none (by omega)]
        simp [hl]
    · rw [List.getElem?_set_ne e, wipeS_get s j vs]
      have e' : ¬ j = v := fun z => e z.symm
      simp [e']
theorem wipe_get (σ : L2.St) (j : Nat) : ∀ vs : List Nat, (L2.wipe σ vs)[j]? = if j ∈ vs ∧ j < σ.length then some none else σ[j]?
  | [] => by simp [L2.wipe]
  | v :: vs => by
    show ((L2.wipe σ vs).set v none)[j]? = _
    by_cases e : v = j
    · subst e
      by_cases hl : v < σ.length
      · rw [List.getElem?_set_self (by rw [L2.wipe_length]; exact hl)]
        simp [hl]
      · rw [List.getElem?_eq_none (by rw [List.length_set, L2.wipe_length]; omega), List.getElem?_eq_none (by omega)]
        simp [hl]
    · rw [List.getElem?_set_ne e, wipe_get σ j vs]
      have e' : ¬ j = v := fun z => e z.symm
      simp [e']
theorem wipe_off {σ σ' : L2.St} {ix vs : List Nat} (o : Off ix (L2.wipe σ vs) σ') (hx : ∀ j ∈ ix, j ∈ vs) : L2.wipe σ' vs = L2.wipe σ vs := by
  have hl : σ'.length = σ.length := o.len.trans (L2.wipe_length σ vs)
  apply List.ext_getElem?
  intro j
  rw [wipe_get, wipe_get, hl]
  by_cases h : j ∈ vs ∧ j < σ.length
  · rw [if_pos h, if_pos h]
  · rw [if_neg h, if_neg h]
    by_cases hj : j ∈ ix
    · have : ¬ j < σ.length := fun z => h ⟨hx j hj, z⟩
      rw [List.getElem?_eq_none (by omega), List.getElem?_eq_none (by omega)]
    · rw [o.at_ j hj, wipe_get, if_neg h]
section
variable {Γ : Sig} {m : Option Addr} {B : Hp} {okA : Addr → Prop} {s : S} {σ : L2.St} {H : Hp}
theorem Env.wipe (E : Env Γ m B okA s σ H) : ∀ vs, canWipe s vs = true → Env Γ m B okA (wipeS s vs) (L2.wipe σ vs) H
  | [], _ => E
  | v :: vs, h => by
    unfold canWipe at h
    rw [List.all_cons, Bool.and_eq_true] at h
    exact Env.put_no (Env.wipe E vs h.2) (by rw [wipeS_len]; exact of_decide_eq_true h.1) none
theorem wipe_less (s : S) (vs : List Nat) : Less (wipeS s vs) s := fun i d h => by
  rw [wipeS_get] at h
  split at h
  · cases h
  · exact h
/-- slots of which nothing is known: whatever they hold -/
theorem Env.reslot (E : Env Γ m B okA s σ H) {σ' : L2.St} (hl : σ'.length = σ.length) (h : ∀ j : Nat, s.sl[j]? ≠ some Sl.no → σ'[j]? = σ[j]?) : Env Γ m B okA s σ' H := by
  have own : ∀ j a, OwnAt s σ' j a ↔ OwnAt s σ j a := fun j a => by
    constructor
    · rintro ⟨⟨d, h1⟩, h2⟩
      exact ⟨⟨d, h1⟩, by rw [← h j (by rw [h1]; exact nofun)]; exact h2⟩
    · rintro ⟨⟨d, h1⟩, h2⟩
      exact ⟨⟨d, h1⟩, by rw [h j (by rw [h1]; exact nofun)]; exact h2⟩
  have low : ∀ a, Ok Γ okA s σ a → Ok Γ okA s σ' a := fun a z => ⟨z.1, z.2.1, fun j q => z.2.2 j ((own j a).mp q)⟩
  refine ⟨E.len.trans hl.symm, E.pm, E.kp, fun j a q => E.nB j a ((own j a).mp q), E.new, fun j d q => ?_, fun j d q => ?_, fun i j a q1 q2 => E.dis i j a ((own i a).mp q1) ((own j a).mp q2), E.pen.keep (Keeps.refl _ _) low fun _ _ _ _ z => z, E.pn, E.tb⟩
  · obtain ⟨v, h1, h2⟩ := E.fz j d q
    exact ⟨v, by rw [h j (by rw [q]; exact nofun)]; exact h1, Rep.mono (Keeps.refl _ _) (fun a z _ => low a z) _ _ h2⟩
  · obtain ⟨a, h1, h2, h3, h4⟩ := E.ow j d q
    exact ⟨a, by rw [h j (by rw [q]; exact nofun)]; exact h1, h2, h3, h4.mono (Keeps.refl _ _) (fun a z _ => low a z) fun _ _ z => z⟩
/-- an object that no one leads to is written -/
theorem Env.side {a : Addr} {o o' : HO} (E : Env Γ m B (fun b => okA b ∧ b ≠ a) s σ H) (ha : H a = some o) (ht : ∀ vs, o ≠ .tup vs) (hf : Fix o) (hx : ∀ φ, o ≠ .ext φ) (hB : B a = none) (hp : Γ.pen ≠ some a) : Env Γ m B (fun b => okA b ∧ b ≠ a) s σ (upd H a o') := by
  have k : Keeps (Ok Γ (fun b => okA b ∧ b ≠ a) s σ) H (upd H a o') := Keeps.upd (fun z => z.1.2 rfl) (fun vs z => by rw [ha] at z; exact ht vs (Option.some.inj z)) fun φ z => by rw [ha] at z; exact hx φ (Option.some.inj z)
  refine ⟨E.len, E.pm, E.kp.wrote hB ha hf hx, E.nB, fun q h => ?_, fun j d q => ?_, fun j d q => ?_, E.dis, E.pen.keep k (fun _ z => z) fun q o h1 _ h2 => ?_, fun q hq => ?_, fun P hP => tab_wrote (E.tb P hP) ha hf hx⟩
  · by_cases z : q = a
    · rw [z, upd_same] at h; cases h
    · rw [upd_ne z] at h; exact E.new q h
  · obtain ⟨v, h1, h2⟩ := E.fz j d q
    exact ⟨v, h1, Rep.mono k (fun _ z _ => z) _ _ h2⟩
  · obtain ⟨b, h1, h2, h3, h4⟩ := E.ow j d q
    exact ⟨b, h1, h2, h3, h4.mono k (fun _ z _ => z) fun o _ z => by rw [upd_ne h2.2]; exact z⟩
  · rw [upd_ne fun (z : q = a) => hp (by rw [← z]; exact h1)]; exact h2
  · by_cases z : q = a
    · rw [z, upd_same]; exact nofun
    · rw [upd_ne z]; exact E.pn q hq
end
/-- an end without errors -/
def noX {α : Type} : Res α → Res α
  | .ok a => .ok a
  | _ => .stuck
def lcA (u : D → S → Option S) (t : S → Res (S × Bool)) (f : S → Res (S × D)) (vs : List Nat) : List D → List D → S → Res (S × List D)
  | [], acc, s => .ok (s, acc)
  | d :: ds, acc, s => match u d s with
    | none => .stuck
    | some s1 => noX (t s1) >>= fun (s2, b) => if b = true then (noX (f s2) >>= fun (s3, y) => if canWipe s3 vs = true ∧ acc.length < 100000 then lcA u t f vs ds (acc ++ [y]) (wipeS s3 vs) else .stuck)
      else if canWipe s2 vs = true then lcA u t f vs ds acc (wipeS s2 vs) else .stuck
def eLc (it : S → Res (S × List D)) (u : D → S → Option S) (t : S → Res (S × Bool)) (f : S → Res (S × D)) (vs : List Nat) (s : S) : Res (S × D) := it s >>= fun (s1, ds) => if canWipe s1 vs = true then (lcA u t f vs ds [] (wipeS s1 vs) >>= fun (s2, ys) => .ok (s2, .lst ys)) else .stuck
def tYesD (s : S) : Res (S × Bool) := .ok (s, true)

section
variable {X : Cx} {elt tg iter cond : Expr} {ifs : List Expr} {scope : Scope} {own : List (Str × Nat)} {pos : Pos} {it : S → Res (S × List D)} {u : D → S → Option S} {t : S → Res (S × Bool)} {f : S → Res (S × D)} {ix : List Nat}
/-- what holds in every block of the comprehension -/
abbrev Blks (X : Cx) (scope : Scope) (P : Cx → Prop) : Prop := ∀ (s : Shared) (H : Hp) (C : Addr) (cl : List (Str × Addr)) (fp : List Addr), P (X.blk s H scope (compEnvC scope cl C X.env) fp)
@[irreducible] def PTsW (X : Cx) (ifs : List Expr) : TT := fun σ H Q => ∀ pins s, Inv X pins σ H s → wpAny (model X.prog X.w) X.A (forIn ifs true fun c r => if r = true then do let ok ← isTrue c X.env (eval c X.env); pure (ForInStep.yield ok) else pure (ForInStep.yield r)) (TP X pins σ Q) X.xe s
theorem ptsw_mk {X : Cx} {ifs : List Expr} {σ : L2.St} {H : Hp} {Q : Bool → Hp → Prop} (h : ∀ pins s, Inv X pins σ H s → wpAny (model X.prog X.w) X.A (forIn ifs true fun c r => if r = true then do let ok ← isTrue c X.env (eval c X.env); pure (ForInStep.yield ok) else pure (ForInStep.yield r)) (TP X pins σ Q) X.xe s) : PTsW X ifs σ H Q := by unfold PTsW; exact h
theorem ptsw_run {X : Cx} {ifs : List Expr} {σ : L2.St} {H : Hp} {Q : Bool → Hp → Prop} (h : PTsW X ifs σ H Q) : ∀ pins s, Inv X pins σ H s → wpAny (model X.prog X.w) X.A (forIn ifs true fun c r => if r = true then do let ok ← isTrue c X.env (eval c X.env); pure (ForInStep.yield ok) else pure (ForInStep.yield r)) (TP X pins σ Q) X.xe s := by unfold PTsW at h; exact h
theorem noTakes {X : Cx} : Takes X (fun _ _ _ _ => False) := fun _ _ ⟨_, _, _, _, _, _, _, _, _, _, _, _, _, _, _, _, w⟩ => w.elim
/-- EF, for what a statement makes of the value -/
def EFT (X : Cx) (T : TE) (f : S → Res (S × D)) : Prop :=
  ∀ (p m : Option Addr) (B : Hp) (okA : Addr → Prop) (s : S) (σ : L2.St) (H : Hp) (W : WX) (Q : VK), Takes X W → (m = p ∨ m = none) → Env (sg X p) m B okA s σ H → PostF (sg X p) m B okA W σ s H Q (f s) → T σ H Q
theorem EFT.does {T : TE} (h : EFT X T f) : Does KV' X T f := fun p m B okA s σ H W Q tk hm E hp => h p m B okA s σ H W Q tk hm E (by
  cases hf : f s with
  | ok x =>
    obtain ⟨s1, d⟩ := x
    rw [hf] at hp
    exact fun a H' e l E' o1 o2 o3 o4 r => hp _ H' e l (E'.more fun a z => z.1) (r.froze (fun _ z _ => z.sub) ⟨o1, o3, o4⟩)
  | exn c ns ds => rw [hf] at hp; exact hp
  | stuck => rw [hf] at hp; exact hp)
theorem ef_lcT (hi : IT X tg iter it) (hg : Blks X scope fun X => GD X tg u ix) (hx : ∀ j ∈ ix, j ∈ own.map (·.2))
    (ht : Blks X scope fun X => Does KB' X (PTsW X ifs) t) (he : Blks X scope fun X => EE X elt f) : EFT X (tLc (WI X tg iter) (fun v σ H Q => ∀ s0 H0 C cl fp, WG (X.blk s0 H0 scope (compEnvC scope cl C X.env) fp) tg v σ H Q) (fun σ H Q => ∀ s0 H0 C cl fp, PTsW (X.blk s0 H0 scope (compEnvC scope cl C X.env) fp) ifs σ H Q) (fun σ H Q => ∀ s0 H0 C cl fp, WE (X.blk s0 H0 scope (compEnvC scope cl C X.env) fp) elt σ H Q) (own.map (·.2))) (eLc it u t f (own.map (·.2))) := by
  intro p m B okA s σ H W Q tk hm E hp
  have hm2 : m = (sg X p).pen ∨ m = none := hm
  refine hi p m B okA s σ H W _ tk hm E ?_
  unfold eLc at hp
  cases hit : it s with
  | stuck => rw [hit] at hp; exact hp
  | exn c ns ds => rw [hit] at hp; exact hp
  | ok x =>
    obtain ⟨s1, ds⟩ := x
    rw [hit] at hp
    have hp1 : PostF (sg X p) m B okA W σ s H Q (if canWipe s1 (own.map (·.2)) = true then (lcA u t f (own.map (·.2)) ds [] (wipeS s1 (own.map (·.2))) >>= fun (s2, ys) => .ok (s2, .lst ys)) else .stuck) := hp
    by_cases hw : canWipe s1 (own.map (·.2)) = true
    case neg => rw [if_neg hw] at hp1; exact hp1.elim
    rw [if_pos hw] at hp1
    generalize hvs : own.map (·.2) = vs at *
    intro J ws H1 e1 l1 E1 r1 wk a ha
    have hl := r1.length
    have rG := E1.stand r1 hm2
    have hB : B a = none := E1.bNew hm ha
    have hpa : p ≠ some a := E1.notPen ha
    have hGa : ground s1 σ H1 a = none := by
      cases q : ground s1 σ H1 a with
      | none => rfl
      | some o => rw [(ground_some q).1] at ha; cases ha
    have EG := E1.ground
    have EA := (Env.alloc (o := .lst []) EG hm ha).wipe vs hw
    -- what is true at each turn
    let Iv : S → Hp → List V → List D → Prop := fun si Hi acc accD => Env (sg X p) m (ground s1 σ H1) (fun b => okA b ∧ b ≠ a) si (L2.wipe σ vs) Hi ∧ Ext m H1 Hi ∧ Less si s1 ∧ (∀ v ∈ vs, si.sl[v]? = some .no) ∧ Hi a = some (.lst acc) ∧ Reps (sg X p) (Ok (sg X p) (fun b => okA b ∧ b ≠ a) si (L2.wipe σ vs)) Hi acc accD
    have no_of : ∀ si : S, canWipe si vs = true → ∀ v ∈ vs, (wipeS si vs).sl[v]? = some .no := fun si h v hv => by
      rw [wipeS_get, if_pos ⟨hv, of_decide_eq_true (List.all_eq_true.mp h v hv)⟩]
    have wl : (L2.wipe σ vs).length = σ.length := L2.wipe_length σ vs
    refine ⟨fun i n Hi => n = ws.length - i ∧ i ≤ ws.length ∧ ∃ si acc accD, Iv si Hi acc accD ∧ PostF (sg X p) m B okA W σ s H Q (lcA u t f vs (ds.drop i) accD si >>= fun (s2, ys) => .ok (s2, .lst ys)),
      ⟨ws.length, rfl, Nat.zero_le _, wipeS s1 vs, [], [], ⟨EA, Ext.new ha, wipe_less s1 vs, no_of s1 hw, upd_same, .nil⟩, hp1⟩, ?_⟩
    rintro i n Hi ⟨rfl, hle, si, acc, accD, ⟨Ei, ei, li, ni, hai, ri⟩, pi⟩
    obtain ⟨wk1, wk2⟩ := wk i Hi Ei.kp
    by_cases hlt : i < ws.length
    · obtain ⟨g1, g2⟩ := wk1 hlt
      refine .inr ⟨g1, fun H2 => ∃ si acc accD, Iv si H2 acc accD ∧ PostF (sg X p) m B okA W σ s H Q (lcA u t f vs (ds.drop (i + 1)) accD si >>= fun (s2, ys) => .ok (s2, .lst ys)), fun H2 z => ⟨_, Nat.sub_succ_lt_self _ _ hlt, rfl, hlt, z⟩, fun x H2 y => ?_⟩
      obtain ⟨rfl, hx2⟩ := g2 x H2 y
      -- the item
      have rI : Reps (sg X p) (Ok (sg X p) (fun b => okA b ∧ b ≠ a) si (L2.wipe σ vs)) H2 ws ds := by
        refine Reps.mono (Ei.kp.keeps fun b hb => by rcases hm with z | z <;> rw [z]; exact hb.2.1; exact nofun) (fun b h n => ⟨⟨h.1, fun e => n (e ▸ hGa)⟩, h.2.1, fun j z => n (Ei.nB j b z)⟩) _ _ rG
      obtain ⟨d, hd, rd⟩ := rI.getV hx2
      have ed : ds.drop i = d :: ds.drop (i + 1) := by
        obtain ⟨h1, h2⟩ := List.getElem?_eq_some_iff.mp hd
        rw [List.drop_eq_getElem_cons h1, h2]
      rw [ed] at pi
      have p2 : PostF (sg X p) m B okA W σ s H Q ((match u d si with
        | none => .stuck
        | some s1 => noX (t s1) >>= fun (s2, b) => if b = true then (noX (f s2) >>= fun (s3, y) => if canWipe s3 vs = true ∧ accD.length < 100000 then lcA u t f vs (ds.drop (i + 1)) (accD ++ [y]) (wipeS s3 vs) else .stuck)
          else if canWipe s2 vs = true then lcA u t f vs (ds.drop (i + 1)) accD (wipeS s2 vs) else .stuck) >>= fun (s2, ys) => .ok (s2, .lst ys)) := pi
      cases hu : u d si with
      | none => rw [hu] at p2; exact p2.elim
      | some s2 =>
        rw [hu] at p2
        dsimp only at p2
        -- Less of the target's store
        intro s0 H0 C cl fp
        refine hg s0 H0 C cl fp p m _ _ si s2 (L2.wipe σ vs) H2 x d _ hm Ei rd hu fun σ2 E2 w2 o2 lt => ?_
        have hw2 : L2.wipe σ2 vs = L2.wipe σ vs := wipe_off o2 fun j hj => hx j hj
        refine ⟨hw2, ?_⟩
        have ri2 : Reps (sg X p) (Ok (sg X p) (fun b => okA b ∧ b ≠ a) s2 σ2) H2 acc accD := Reps.mono (Keeps.refl _ _) (fun b h _ => w2 b h) _ _ ri
        intro s0 H0 C cl fp
        refine ht s0 H0 C cl fp p m _ _ s2 σ2 H2 (fun _ _ _ _ => False) _ noTakes hm E2 ?_
        cases h1 : t s2 with
        | stuck => rw [h1] at p2; exact (show False from p2).elim
        | exn c ns es => rw [h1] at p2; exact (show False from p2).elim
        | ok z =>
          obtain ⟨s3, b⟩ := z
          rw [h1] at p2
          simp only [noX, Res.ok_bind] at p2
          intro b' H3 e3 l3 E3 rb
          have rb' : b' = b := rb
          subst rb'
          have ma : m ≠ some a := by
            rcases hm with z | z
            · rw [z]; exact hpa
            · rw [z]; exact nofun
          have fin : ∀ (s4 : S) (H4 : Hp) (acc' : List V) (accD' : List D), canWipe s4 vs = true → Env (sg X p) m (ground s1 σ H1) (fun b => okA b ∧ b ≠ a) s4 σ2 H4 → Ext m H1 H4 → Less s4 s2 → H4 a = some (.lst acc') → Reps (sg X p) (Ok (sg X p) (fun b => okA b ∧ b ≠ a) s4 σ2) H4 acc' accD' → Iv (wipeS s4 vs) H4 acc' accD' := fun s4 H4 acc' accD' c4 E4 e4 l4 a4 r4 => by
            refine ⟨hw2 ▸ E4.wipe vs c4, e4, Less.trans (Less.trans (Less.trans li lt) l4) (wipe_less s4 vs), no_of s4 c4, a4, Reps.mono (Keeps.refl _ _) (fun b z _ => ⟨z.1, z.2.1, fun j q => z.2.2 j ?_⟩) _ _ r4⟩
            obtain ⟨⟨d, q1⟩, q2⟩ := q
            have nv : j ∉ vs := fun hv => by rw [no_of s4 c4 j hv] at q1; cases q1
            rw [← hw2, wipe_get, if_neg fun z => nv z.1] at q2
            exact ⟨⟨d, wipe_less s4 vs j d q1⟩, q2⟩
          cases b' with
          | false =>
            rw [if_neg (by decide)] at p2
            show ∃ si acc accD, _
            by_cases cw : canWipe s3 vs = true
            · rw [if_pos cw] at p2
              exact ⟨_, _, _, fin s3 H3 acc accD cw E3 (ei.trans e3) l3 (e3.o a _ ma (fun _ => nofun) hai) (stays ri2 hm e3 l3), p2⟩
            · rw [if_neg cw] at p2; exact p2.elim
          | true =>
            rw [if_pos rfl] at p2
            rw [if_pos rfl]
            intro s0 H0 C cl fp
            refine he s0 H0 C cl fp p m _ _ s3 σ2 H3 (fun _ _ _ _ => False) _ noTakes hm E3 ?_
            cases h2 : f s3 with
            | stuck => rw [h2] at p2; exact (show False from p2).elim
            | exn c ns es => rw [h2] at p2; exact (show False from p2).elim
            | ok z =>
              obtain ⟨s4, y⟩ := z
              rw [h2] at p2
              simp only [noX, Res.ok_bind] at p2
              by_cases cw : canWipe s4 vs = true ∧ accD.length < 100000
              · rw [if_pos cw] at p2
                intro yv H4 e4 l4 E4 ry
                have a4 : H4 a = some (.lst acc) := e4.o a _ ma (fun _ => nofun) (e3.o a _ ma (fun _ => nofun) hai)
                have r4 := stays ri2 hm (e3.trans e4) (Less.trans l3 l4)
                refine ⟨acc, a4, by rw [r4.length]; exact small_lt cw.2, _, _, _, fin s4 (upd H4 a (.lst (acc ++ [yv]))) (acc ++ [yv]) (accD ++ [y]) cw.1 (E4.side a4 (fun _ => nofun) (fun _ => nofun) (fun _ => nofun) hGa hpa) ?_ (Less.trans l3 l4) upd_same ?_, p2⟩
                · exact (ei.trans (e3.trans e4)).wrote ha a4 (fun _ => nofun) (fun _ => nofun)
                · have k : Keeps (Ok (sg X p) (fun b => okA b ∧ b ≠ a) s4 σ2) H4 (upd H4 a (.lst (acc ++ [yv]))) := Keeps.upd (fun z => z.1.2 rfl) (fun vs z => by rw [a4] at z; cases z) (fun φ z => by rw [a4] at z; cases z)
                  exact Reps.mono k (fun _ z _ => z) _ _ (r4.append (.cons ry .nil))
              · rw [if_neg cw] at p2; exact p2.elim
    · have e : ds.drop i = [] := List.drop_eq_nil_iff.mpr (by omega)
      rw [e] at pi
      have p3 : PostF (sg X p) m B okA W σ s H Q (.ok (si, .lst accD)) := pi
      refine .inl ⟨wk2 (by omega), ?_⟩
      have EZ : Env (sg X p) m B (fun b => okA b ∧ b ≠ a) si (L2.wipe σ vs) Hi := E1.unground hm2 Ei
      have rs : ∀ j : Nat, si.sl[j]? ≠ some Sl.no → σ[j]? = (L2.wipe σ vs)[j]? := fun j hj => by
        rw [wipe_get, if_neg fun ⟨z, _⟩ => hj (ni j z)]
      have ER := EZ.reslot wl.symm rs
      refine p3 a Hi (e1.trans ei) (Less.trans l1 li) ER (E1.new a ha) hB hpa (fun j z => ?_) (.lst hai (Reps.mono (Keeps.refl _ _) (fun b z _ => ⟨z.1, z.2.1, fun j q => z.2.2 j ?_⟩) _ _ ri))
      · obtain ⟨⟨d, q1⟩, q2⟩ := z
        obtain ⟨b, y1, y2, _⟩ := ER.ow j d q1
        rw [q2] at y1
        cases y1
        exact y2.2 rfl
      · obtain ⟨⟨d, q1⟩, q2⟩ := q
        exact ⟨⟨d, q1⟩, by rw [← rs j (by rw [q1]; exact nofun)]; exact q2⟩
theorem ef_lc (hc : X.calm = true) (hN : X.N.Nodup) (hi : IT X tg iter it) (ok : BlkOk X.N X.env.scope scope own) (hg : Blks X scope fun X => GD X tg u ix) (hx : ∀ j ∈ ix, j ∈ own.map (·.2))
    (ht : Blks X scope fun X => Does KB' X (PTsW X ifs) t) (he : Blks X scope fun X => EE X elt f) (hs : ∀ x, foldedSetIterable iter X.env x = pure x := by intro _; rfl) : EF X (.ListComp elt [⟨tg, iter, ifs, 0⟩] scope pos) (eLc it u t f (own.map (·.2))) := by
  intro p m B okA s σ H W Q tk hm E hp
  refine we_of (pe_lc (wi := WI X tg iter) (g := fun v σ H Q => ∀ s0 H0 C cl fp, WG (X.blk s0 H0 scope (compEnvC scope cl C X.env) fp) tg v σ H Q) (tt := fun σ H Q => ∀ s0 H0 C cl fp, PTsW (X.blk s0 H0 scope (compEnvC scope cl C X.env) fp) ifs σ H Q)
    (te := fun σ H Q => ∀ s0 H0 C cl fp, WE (X.blk s0 H0 scope (compEnvC scope cl C X.env) fp) elt σ H Q) hc hN (piW X tg iter) ok (fun s0 H0 C cl fp => ⟨fun pins s σ H v w Q I r h => (pgW _ tg).run pins s σ H v w Q I r (h s0 H0 C cl fp)⟩) (fun s0 H0 C cl fp => ⟨fun pins s σ H Q I h => ptsw_run (h s0 H0 C cl fp) pins s I⟩)
    (fun s0 H0 C cl fp => ⟨fun pins s σ H Q I h => (peW _ elt).run pins s σ H Q I (h s0 H0 C cl fp)⟩) hs) ?_
  exact ef_lcT hi hg hx ht he p m B okA s σ H W Q tk hm E hp
/-- name = [..] on one line -/
theorem ps_lcW (hc : X.calm = true) (hN : X.N.Nodup) (ok : BlkOk X.N X.env.scope scope own) {i : Nat} {y : Str} {py spos : Pos} (hy : X.N[i]? = some y) (hyl : X.env.scope.names.lookup y = some .local)
    (hsw : swapsWith (.ListComp elt [⟨tg, iter, ifs, 0⟩] scope pos) (some (.Name y py)) spos.line X.env = pure true) (hs : ∀ x, foldedSetIterable iter X.env x = pure x) : PS X (.Assign [.Name y py] (.ListComp elt [⟨tg, iter, ifs, 0⟩] scope pos) spos) (tAsg (tLc (WI X tg iter) (fun v σ H Q => ∀ s0 H0 C cl fp, WG (X.blk s0 H0 scope (compEnvC scope cl C X.env) fp) tg v σ H Q) (fun σ H Q => ∀ s0 H0 C cl fp, PTsW (X.blk s0 H0 scope (compEnvC scope cl C X.env) fp) ifs σ H Q) (fun σ H Q => ∀ s0 H0 C cl fp, WE (X.blk s0 H0 scope (compEnvC scope cl C X.env) fp) elt σ H Q) (own.map (·.2))) (gName i)) :=
  ps_setLc hc hN hy hyl hsw (piW X tg iter) ok (fun s0 H0 C cl fp => ⟨fun pins s σ H v w Q I r h => (pgW _ tg).run pins s σ H v w Q I r (h s0 H0 C cl fp)⟩) (fun s0 H0 C cl fp => ⟨fun pins s σ H Q I h => ptsw_run (h s0 H0 C cl fp) pins s I⟩)
    (fun s0 H0 C cl fp => ⟨fun pins s σ H Q I h => (peW _ elt).run pins s σ H Q I (h s0 H0 C cl fp)⟩) hs
theorem pts_nilD {X : Cx} : Does KB' X (PTsW X []) tYesD := fun p m B okA s σ H W Q tk hm E hp => ptsw_mk fun pins s0 I => pts_nil.run pins s0 σ H Q I (Post.done (P := KB') (a := true) hp E rfl)
theorem pts_oneD {X : Cx} {c : Expr} {t : S → Res (S × Bool)} (h : ET X c t) : Does KB' X (PTsW X [c]) t := fun p m B okA s σ H W Q tk hm E hp => ptsw_mk fun pins s0 I => (pts_one (ptW X c)).run pins s0 σ H Q I (h p m B okA s σ H W Q tk hm E hp)
end
end SM

set_option Elab.async false
set_option linter.all false
set_option maxRecDepth 100000
set_option maxHeartbeats 4000000
namespace SM
variable [Tab]
open PySem PySem.Spec PyProof.Rows L2

/-! ## repr -/
def kPy : Key → PyData
  | .inl i => .int i
  | .inr x => .str x
mutual
def py : D → PyData
  | .non => .none
  | .bl b => .bool b
  | .int i => .int i
  | .str x => .str x
  | .tup ds => .tuple (pys ds)
  | .lst ds => .list (pys ds)
  | .dK ks ds => .dict ((ks.map kPy).zip (pys ds))
  | _ => .none
def pys : List D → List PyData
  | [] => []
  | d :: ds => py d :: pys ds
end
def shI (i : Int) : Bool := decide (i.natAbs.log2 < 1920)
def shX (x : Str) : Bool := x.cps.toList.all fun c => decide (c < 16 ^ 8)
def shK : Key → Bool
  | .inl i => shI i
  | .inr x => shX x
mutual
def shB : D → Bool
  | .non => true
  | .bl _ => true
  | .int i => shI i
  | .str x => shX x
  | .tup ds => shBs ds
  | .lst ds => shBs ds
  | .dK ks ds => ks.all shK && shBs ds
  | _ => false
def shBs : List D → Bool
  | [] => true
  | d :: ds => shB d && shBs ds
end
theorem leaf_int {i : Int} (h : shI i = true) : (PyData.shown (.int i)).length ≤ 1922 := by
  have e := PySem.int_text_length_le (k := 1920) (by decide) (of_decide_eq_true h)
  show (PyData.shown (.int i)).length ≤ _
  simp only [PyData.shown]
  rw [PySem.ofString_length]; omega
theorem shK_leaf {k : Key} (h : shK k = true) : (kPy k).showable = true ∧ (kPy k).leavesShort 1922 = true := by
  cases k with
  | inl i => exact ⟨by simp only [kPy, PyData.showable]; exact h, by simp only [kPy, PyData.leavesShort]; exact decide_eq_true (leaf_int h)⟩
  | inr x => exact ⟨by simp only [kPy, PyData.showable], by simp only [kPy, PyData.leavesShort]; exact h⟩
theorem shKv : ∀ (ks : List Key) (ps : List PyData), ks.all shK = true → PyData.showableAll ps = true → PyData.leavesShortAll 1922 ps = true → PyData.showableKv ((ks.map kPy).zip ps) = true ∧ PyData.leavesShortKv 1922 ((ks.map kPy).zip ps) = true
  | [], ps, _, _, _ => ⟨by simp [PyData.showableKv], by simp [PyData.leavesShortKv]⟩
  | k :: ks, [], _, _, _ => ⟨by simp [PyData.showableKv], by simp [PyData.leavesShortKv]⟩
  | k :: ks, p :: ps, h1, h2, h3 => by
    rw [List.all_cons, Bool.and_eq_true] at h1
    simp only [PyData.showableAll, Bool.and_eq_true] at h2
    simp only [PyData.leavesShortAll, Bool.and_eq_true] at h3
    obtain ⟨r1, r2⟩ := shKv ks ps h1.2 h2.2 h3.2
    obtain ⟨k1, k2⟩ := shK_leaf h1.1
    simp only [List.map_cons, List.zip_cons_cons, PyData.showableKv, PyData.leavesShortKv, Bool.and_eq_true]
    exact ⟨⟨⟨k1, h2.1⟩, r1⟩, ⟨⟨k2, h3.1⟩, r2⟩⟩
mutual
theorem sh_py : ∀ d : D, shB d = true → (py d).showable = true ∧ (py d).leavesShort 1922 = true
  | .non, _ => ⟨by simp only [py, PyData.showable], by simp only [py, PyData.leavesShort]⟩
  | .bl _, _ => ⟨by simp only [py, PyData.showable], by simp only [py, PyData.leavesShort]⟩
  | .int i, h => by
    have h' : shI i = true := by simpa only [shB] using h
    exact ⟨by simp only [py, PyData.showable]; exact h', by simp only [py, PyData.leavesShort]; exact decide_eq_true (leaf_int h')⟩
  | .str x, h => by
    have h' : shX x = true := by simpa only [shB] using h
    exact ⟨by simp only [py, PyData.showable], by simp only [py, PyData.leavesShort]; exact h'⟩
  | .tup ds, h => by
    obtain ⟨h1, h2⟩ := sh_pys ds (by simpa only [shB] using h)
    exact ⟨by simp only [py, PyData.showable]; exact h1, by simp only [py, PyData.leavesShort]; exact h2⟩
  | .lst ds, h => by
    obtain ⟨h1, h2⟩ := sh_pys ds (by simpa only [shB] using h)
    exact ⟨by simp only [py, PyData.showable]; exact h1, by simp only [py, PyData.leavesShort]; exact h2⟩
  | .dK ks ds, h => by
    have h' : ks.all shK = true ∧ shBs ds = true := by simpa only [shB, Bool.and_eq_true] using h
    obtain ⟨h1, h2⟩ := sh_pys ds h'.2
    obtain ⟨r1, r2⟩ := shKv ks (pys ds) h'.1 h1 h2
    exact ⟨by simp only [py, PyData.showable]; exact r1, by simp only [py, PyData.leavesShort]; exact r2⟩
  | .dT _ _, h => by simp [shB] at h
  | .ins _ _ _, h => by simp [shB] at h
  | .pen, h => by simp [shB] at h
  | .glo _, h => by simp [shB] at h
  | .ty _, h => by simp [shB] at h
  | .lam _ _, h => by simp [shB] at h
  | .clo _ _, h => by simp [shB] at h
theorem sh_pys : ∀ ds : List D, shBs ds = true → PyData.showableAll (pys ds) = true ∧ PyData.leavesShortAll 1922 (pys ds) = true
  | [], _ => ⟨by simp only [pys, PyData.showableAll], by simp only [pys, PyData.leavesShortAll]⟩
  | d :: ds, h => by
    have h' : shB d = true ∧ shBs ds = true := by simpa only [shBs, Bool.and_eq_true] using h
    obtain ⟨a1, a2⟩ := sh_py d h'.1
    obtain ⟨b1, b2⟩ := sh_pys ds h'.2
    exact ⟨by simp only [pys, PyData.showableAll, Bool.and_eq_true]; exact ⟨a1, b1⟩, by simp only [pys, PyData.leavesShortAll, Bool.and_eq_true]; exact ⟨a2, b2⟩⟩
end
/-- what repr asks: few, small leaves -/
def repB (d : D) : Bool := shB d && decide ((py d).bulk ≤ 8000) && decide ((py d).depth ≤ 60)
theorem repB_len {d : D} (h : repB d = true) : (py d).shown.length ≤ sizeLine := by
  unfold repB at h
  rw [Bool.and_eq_true, Bool.and_eq_true] at h
  have e := PyData.shown_le_bulk 1922 (by decide) (py d) (sh_py d h.1.1).2
  have b := of_decide_eq_true h.1.2
  rw [sizeLine_eq]
  omega
section
variable {P : Program} {w : World} {Γ : Sig} {ok : Addr → Prop} {H : Hp} {h : Heap}
theorem entries_of : ∀ {vs : List (Key × Value)} {es : List DictEntry}, Pairs (mixKind P w) es vs → ReadsAll h (es.map (·.key)) (vs.map fun kv => kPy kv.1) [] ∧ es.map (·.val) = vs.map (·.2)
  | _, _, .nil => ⟨.nil, rfl⟩
  | _, _, @Pairs.cons _ _ _ _ _ e kv es vs h1 h2 h3 => by
    obtain ⟨i1, i2⟩ := entries_of h3
    refine ⟨?_, by rw [List.map_cons, List.map_cons, i2, h2]⟩
    have r : Reads h e.key (kPy kv.1) [] := by
      rcases keyIs_shape (show keyIs kv.1 e.key = true from h1) with ⟨i, t, e1, e2⟩ | ⟨x, t, e1, e2⟩
      · rw [e1, e2]; exact .int i t
      · rw [e1, e2]; exact .str x t
    exact ReadsAll.cons (as := []) (bs := []) r i1
theorem kv_split : ∀ {kvs : List (Key × V)} {us : List (Key × Value)}, KV kvs us → us.map (·.1) = kvs.map (·.1) ∧ Vals (kvs.map (·.2)) (us.map (·.2))
  | _, _, .nil => ⟨rfl, .nil⟩
  | _, _, .cons ⟨h1, h2⟩ r => by
    obtain ⟨i1, i2⟩ := kv_split r
    exact ⟨by rw [List.map_cons, List.map_cons, i1, h1], .cons h2 i2⟩
theorem pys_len : ∀ ds : List D, (pys ds).length = ds.length
  | [] => rfl
  | d :: ds => by simp only [pys, List.length_cons, pys_len ds]
mutual
/-- what stands for d reads as d -/
theorem reads_of (hok : HOk P w H h) : ∀ (d : D) (v : V) (u : Value), Rep Γ ok H v d → shB d = true → RelV v u → ∃ as, Reads h u (py d) as ∧ ∀ a ∈ as, H a ≠ none
  | .non, _, _, r, _, q => by
    cases r; cases q
    exact ⟨[], by simp only [py]; exact .none, nofun⟩
  | .bl b, _, _, r, _, q => by
    cases r; cases q
    exact ⟨[], by simp only [py]; exact .bool b, nofun⟩
  | .int i, _, _, r, _, q => by
    cases r
    obtain ⟨t, rfl⟩ := q
    exact ⟨[], by simp only [py]; exact .int i t, nofun⟩
  | .str x, _, _, r, _, q => by
    cases r
    obtain ⟨t, rfl⟩ := q
    exact ⟨[], by simp only [py]; exact .str x t, nofun⟩
  | .tup ds, _, _, r, s, q => by
    cases r with
    | @tup a vs _ h1 h2 =>
      cases q
      obtain ⟨_, its, rv, o, e, c, n, hd⟩ := (show ObjOk P w H h a (.tup vs) from hok a _ h1)
      obtain ⟨as, ra, hn⟩ := reads_ofs hok ds vs its h2 (by simpa only [shB] using s) rv
      exact ⟨as, by simp only [py]; exact .tuple e c hd (by simpa using ra), hn⟩
  | .lst ds, _, _, r, s, q => by
    cases r with
    | @lst a vs _ h0 h1 h2 =>
      cases q
      obtain ⟨_, its, n, rv, e⟩ := (show ObjOk P w H h a (.lst vs) from hok a _ h1)
      obtain ⟨as, ra, hn⟩ := reads_ofs hok ds vs its h2 (by simpa only [shB] using s) rv
      refine ⟨a :: as, by simp only [py]; exact .list e rfl rfl (by simpa using ra), fun b hb => ?_⟩
      rcases List.mem_cons.mp hb with z | z
      · rw [z]; exact (by rw [h1]; exact nofun)
      · exact hn b z
  | .dK ks ds, _, _, r, s, q => by
    cases r with
    | @dK a kvs _ h0 h1 h2 =>
      cases q
      have s' : (kvs.map (·.1)).all shK = true ∧ shBs ds = true := by simpa only [shB, Bool.and_eq_true] using s
      obtain ⟨_, _, us, rel, o, es, ep, e, ex, hd, _, pr, _⟩ := (show ObjOk P w H h a (.dK kvs) from h1.ok hok)
      obtain ⟨r1, r2⟩ := kv_split rel
      obtain ⟨e1, e2⟩ := entries_of (h := h) pr
      obtain ⟨as, ra, hn⟩ := reads_ofs hok ds _ _ h2 s'.2 r2
      have hl : (pys ds).length = (kvs.map (·.1)).length := by rw [pys_len, ← h2.length, List.length_map, List.length_map]
      refine ⟨a :: [] ++ as, ?_, fun b hb => ?_⟩
      · simp only [py]
        refine .dict e ex.1 hd ?_ ?_
        · rw [List.map_fst_zip (by rw [List.length_map, hl]; exact Nat.le_refl _)]
          rw [← r1, List.map_map]
          exact e1
        · rw [List.map_snd_zip (by rw [List.length_map, hl]; exact Nat.le_refl _), e2]
          exact ra
      · rcases List.mem_cons.mp hb with z | z
        · rw [z]; exact Rd.ne h1
        · exact hn b z
  | .dT _ _, _, _, _, s, _ => by simp [shB] at s
  | .ins _ _ _, _, _, _, s, _ => by simp [shB] at s
  | .pen, _, _, _, s, _ => by simp [shB] at s
  | .glo _, _, _, _, s, _ => by simp [shB] at s
  | .ty _, _, _, _, s, _ => by simp [shB] at s
  | .lam _ _, _, _, _, s, _ => by simp [shB] at s
  | .clo _ _, _, _, _, s, _ => by simp [shB] at s
theorem reads_ofs (hok : HOk P w H h) : ∀ (ds : List D) (vs : List V) (us : List Value), Reps Γ ok H vs ds → shBs ds = true → Vals vs us → ∃ as, ReadsAll h us (pys ds) as ∧ ∀ a ∈ as, H a ≠ none
  | [], _, _, r, _, q => by
    cases r; cases q
    exact ⟨[], by simp only [pys]; exact .nil, nofun⟩
  | d :: ds, _, _, r, s, q => by
    cases r with
    | cons r1 r2 =>
      cases q with
      | cons q1 q2 =>
        have s' : shB d = true ∧ shBs ds = true := by simpa only [shBs, Bool.and_eq_true] using s
        obtain ⟨as, a1, a2⟩ := reads_of hok d _ _ r1 s'.1 q1
        obtain ⟨bs, b1, b2⟩ := reads_ofs hok ds _ _ r2 s'.2 q2
        exact ⟨as ++ bs, by simp only [pys]; exact .cons a1 b1, fun a ha => (List.mem_append.mp ha).elim (a2 a) (b2 a)⟩
end
end
section
variable {X : Cx} {k : Nat} {f : S → Res (S × D)} {e : Expr} {p' pos : Pos}
def shownD (d : D) : Str := (py d).shown
def eRepr (f : S → Res (S × D)) (s : S) : Res (S × D) := do
  let (s1, d) ← f s
  if repB d = true then .ok (s1, .str (shownD d)) else .stuck
def rRepr (K : PySem.W.Frag) (mg : Str → Option Value) : List V → Hp → VK → Prop := fun vs H Q => ∃ (p : Option Addr) (ok : Addr → Prop) (v : V) (d : D), vs = [v] ∧ Rep ⟨K, mg, p, Tab.tab⟩ ok H v d ∧ repB d = true ∧ Q (.str (shownD d)) H
theorem call_reprD (g : Good k X) (hsm : (X.K.lookup sysModules).isSome = true) : CallR X (.builtin "repr") (rRepr X.K X.mg) := by
  intro pins s σ H xs us Q I r h
  obtain ⟨p, ok, v, d, rfl, rd, hb, q⟩ := h
  obtain ⟨u, rfl, ru⟩ := vals1 r
  have hb' := hb
  unfold repB at hb'
  rw [Bool.and_eq_true, Bool.and_eq_true] at hb'
  have hs1 := (sh_py d hb'.1.1).1
  have hlen := repB_len hb
  have hdep := of_decide_eq_true hb'.2
  have hun := g.room.units
  cases v with
  | non =>
    cases (show u = Value.none from ru)
    cases rd
    exact PySem.P.repr_of_none ⟨.str _, H, I.tok _, ⟨_, rfl⟩, by simpa only [shownD, py, PyData.shown] using q⟩
  | bl b =>
    cases (show u = Value.bool b from ru)
    cases rd
    exact PySem.P.repr_of_bool ⟨.str (if b then "True" else "False"), H, I.tok _, ⟨_, by cases b <;> rfl⟩, by simpa only [shownD, py, PyData.shown] using q⟩
  | int i =>
    obtain ⟨t, rfl⟩ := ru
    cases rd
    exact PySem.P.repr_of_int (of_decide_eq_true (by simpa only [shB, shI] using hb'.1.1)) ⟨.str _, H, I.tok _, ⟨_, rfl⟩, by simpa only [shownD, py, PyData.shown] using q⟩
  | str x =>
    obtain ⟨t, rfl⟩ := ru
    cases rd
    exact PySem.P.repr_of_str ⟨.str _, H, I.tok _, ⟨_, rfl⟩, by simpa only [shownD, py, PyData.shown] using q⟩ (by simpa only [py, PyData.shown] using hlen)
  | ref a =>
    obtain ⟨as, ra, hn⟩ := reads_of I.hok d _ u rd hb'.1.1 ru
    cases (show u = Value.ref a from ru)
    obtain ⟨o, ho⟩ := Option.isSome_iff_exists.mp hsm
    have n1 : H sysModules = none := (I.bs _ _ (I.ok.mod.kin _ _ ho)).2
    exact PySem.repr_of_reads' ra hs1 (fun _ z => hn _ z n1) g.guards (by omega) (fun _ _ z => z) (fun h' u tk hk => ⟨.str _, H, I.kept hk, ⟨_, rfl⟩, q⟩) hlen
  | ty n => cases rd; simp [shB] at hb'
  | _ => cases rd
theorem ee_repr (g : Good k X) (hsm : (X.K.lookup sysModules).isSome = true) (hg : Gl X "repr") (hm : X.mg "repr" = none) (ha : EE X e f) (he : starEach [e] X.env = (false, eval e X.env) :: starEach [] X.env := by rfl) : EE X (.Call (.Name "repr" p') [e] [] pos) (eRepr f) := by
  intro p m B okA s σ H W Q tk hm' E hp
  refine we_of (pe_callB (call_reprD g hsm) hg hm (by rfl) (pa_cons (peW X e) pa_nil he) (by decide) (by decide) he (by rfl)) ?_
  show WE X e σ H fun v H1 => rRepr X.K X.mg [v] H1 Q
  refine Does.bind ha tk hm' E hp fun s1 d v H1 e1 l1 E1 r1 p1 => ?_
  dsimp only at p1
  by_cases hb : repB d = true
  · rw [if_pos hb] at p1
    exact ⟨p, _, v, d, rfl, r1, hb, Post.done (P := KV') (a := D.str (shownD d)) p1 E1 (.str _)⟩
  · rw [if_neg hb] at p1; exact (show False from p1).elim
end
end SM

set_option Elab.async false
set_option linter.all false
set_option maxRecDepth 100000
set_option maxHeartbeats 4000000
namespace SM
variable [Tab]
open PySem PySem.Spec PyProof.Rows L2

theorem Reps.rev {Γ : Sig} {ok : Addr → Prop} {H : Hp} : ∀ {vs : List V} {ds : List D}, Reps Γ ok H vs ds → Reps Γ ok H vs.reverse ds.reverse
  | _, _, .nil => .nil
  | _, _, .cons a b => by
    rw [List.reverse_cons, List.reverse_cons]
    exact Reps.append (Reps.rev b) (.cons a .nil)

/-! ## errors of the program's own: made -/
/-- what the written part says of the class above them all, by the name x -/
structure TopErr (K : PySem.W.Frag) (C : Addr) : Prop where
  rd : PySem.W.readsIn K C (.type "type") = true
  ga : PySem.W.specialIn K (.ref C) "__getattribute__" = some (some (.builtin "type.__getattribute__"))
  at_ : PySem.W.findCls K (.ref C) (.type "type") "__init__" = some (.val (.builtin "ValueError.__init__"))
def tSee (K : PySem.W.Frag) (ta : TA) : TE := fun σ H Q => ta σ H fun vs H1 => ∃ (a C : Addr) (ws : List V), vs = .ref a :: ws ∧ ws.length ≤ 1000 ∧ OexC K C ∧ H1 a = some (exo a C none) ∧ Q .non H1
section
variable {X : Cx} {e : Expr} {es : List Expr} {ta : TA} {x : Str} {p1 p2 pos : Pos} {CT : Addr}
theorem pe_see {pl : Sem Bool} (T0 : TopErr X.K CT) (hg : Gl X x) (hm : X.mg x = some (.ref CT)) (ha : PA X (e :: es) ta) (hdb : (x == ("__debug__" : Str)) = false := by decide)
    (hc : eval (.Call (.Attribute (.Name x p1) "__init__" p2) (e :: es) [] pos) X.env = (do
      let ov ← eval (.Name x p1) X.env
      standAt p2.atName
      let (f, first) ← holding [ov] (getMethod ov "__init__" pl)
      callWith pos f first (backTo pos (starEach (e :: es) X.env)) (backToKw pos (keywordEach [] X.env))) := by rfl)
    (he : starEach (e :: es) X.env = (false, eval e X.env) :: starEach es X.env := by rfl) (hpl : (backTo pos (starEach es X.env)).any (·.1) = false := by rfl) :
    PE X (.Call (.Attribute (.Name x p1) "__init__" p2) (e :: es) [] pos) (tSee X.K ta) := by
  refine ⟨fun pins s σ H Q I h => ?_⟩
  refine PySem.W.methodCall_KW (ld_glob I hg hm ?_ hdb) hc
  refine PySem.W.method_cls I.kIn T0.ga (PySem.W.cls_value I.kIn T0.rd T0.at_ (by decide +kernel) ?_)
  refine PyProof.Rows.callWith_method1 (thn (ha.run pos pins _ σ H _ (I.tok _) h) fun us s1 ⟨vs, H1, I1, r1, a, C, ws, ev, hl, T, ea, q⟩ => ?_) he hpl
  subst ev
  cases r1 with
  | @cons _ u0 _ ur ra rw' =>
    obtain rfl : u0 = Value.ref a := ra
    exact oinit_ok T I1 ea (by rw [← Paired.length rw', sizeLine_eq]; omega) fun s' J => ⟨.non, H1, J, rfl, q⟩
end
/-- one of these classes -/
structure ErrC (K : PySem.W.Frag) (C fI : Addr) (names : List Str) : Prop where
  oex : OexC K C
  init : PySem.W.findIn K (.ref C) "__init__" = some (some (.ref fI))
  fn : PySem.W.typeIn K (.ref fI) = some (.type "function")
  no : ∀ n ∈ names, PySem.W.findIn K (.ref C) n = some none
/-- what its __init__ promises: the fields, the last one first -/
def spErr (C : Addr) (names : List Str) : Sp := fun vs H Q E => vs.length = names.length + 1 ∧ ∃ a ws, vs = .ref a :: ws ∧ H a = some (exo a C none) ∧
  ∀ d H', H d = none → d ≠ a → H' a = some (exo a C (some d)) → H' d = some (exd d ((names.zip ws).reverse)) → (∀ b, b ≠ a → b ≠ d → H' b = H b) → Q .non H'
section
variable {X : Cx} {CT C fI : Addr} {x s0 n1 n2 n3 t1 t2 t3 txt : Str} {q1 q2 q3 q4 q5 q6 q7 q8 q9 q10 q11 q12 q13 q14 q15 q16 q17 : Pos} {j : Nat}
theorem wb_errHead {rest : List Stmt} {tr : TS} {σ : L2.St} {H : Hp} {Z : Ends} {a : Addr} {pl : Sem Bool} (T0 : TopErr X.K CT) (EC : OexC X.K C) (hg : Gl X x) (hm : X.mg x = some (.ref CT)) (h0 : PE X (.Name s0 q3) (tVar 0)) (hr : PSs X rest tr) (e0 : σ[0]? = some (some (.ref a))) (ea : H a = some (exo a C none)) (hq : tr Z σ H) (hdb : (x == ("__debug__" : Str)) = false := by decide)
    (hc : eval (.Call (.Attribute (.Name x q1) "__init__" q2) [.Name s0 q3, .Constant (.str txt) j q4] [] q5) X.env = (do
      let ov ← eval (.Name x q1) X.env
      standAt q2.atName
      let (f, first) ← holding [ov] (getMethod ov "__init__" pl)
      callWith q5 f first (backTo q5 (starEach [.Name s0 q3, .Constant (.str txt) j q4] X.env)) (backToKw q5 (keywordEach [] X.env))) := by rfl)
    (hs : swapsWith (.Call (.Attribute (.Name x q1) "__init__" q2) [.Name s0 q3, .Constant (.str txt) j q4] [] q5) none q6.line X.env = pure false := by rfl) :
    WB X (.Expr (.Call (.Attribute (.Name x q1) "__init__" q2) [.Name s0 q3, .Constant (.str txt) j q4] [] q5) q6 :: rest) Z σ H := by
  refine wb_of (pss_cons (ps_expr (pe_see T0 hg hm (pa_cons h0 (pa_cons pe_str pa_nil)) hdb hc) hs) hr) ?_
  exact ⟨.ref a, e0, a, C, [.str txt], rfl, by show 1 ≤ 1000; omega, EC, ea, hq⟩
/-- the fields -/
def tTail (K : PySem.W.Frag) : List (Str × Nat) → TS
  | [] => tNext
  | (f, i) :: r => tSeq (tOst K f (tVar 0) (tVar i)) (tTail K r)
theorem tail_on {K : PySem.W.Frag} {a d : Addr} {Z : Ends} {σ : L2.St} (EC : OexC K C) (e0 : σ[0]? = some (some (.ref a))) (da : d ≠ a) : ∀ (r : List (Str × Nat)) (ws : List V) (fs : List (Str × V)) (H : Hp), r.length = ws.length → (∀ (k : Nat) (f : Str) (i : Nat) (v : V), r[k]? = some (f, i) → ws[k]? = some v → σ[i]? = some (some v)) →
    (∀ f ∈ r.map (·.1), PySem.W.findIn K (.ref C) f = some none) → fs.length + r.length ≤ 900 → H a = some (exo a C (some d)) → H d = some (exd d fs) →
    (∀ H', H' a = H a → H' d = some (exd d (((r.map (·.1)).zip ws).reverse ++ fs)) → (∀ b, b ≠ a → b ≠ d → H' b = H b) → Z.nx σ H') → tTail K r Z σ H
  | [], ws, fs, H, hl, _, _, _, ha, hd, q => q H rfl (by simpa using hd) fun _ _ _ => rfl
  | (f, i) :: r, [], fs, H, hl, _, _, _, _, _, _ => by simp at hl
  | (f, i) :: r, w :: ws, fs, H, hl, hσ, hno, hn, ha, hd, q => by
    refine ⟨w, hσ 0 f i w rfl rfl, .ref a, e0, a, C, rfl, EC, hno f (by simp), .inr ⟨d, fs, ha, hd, by simp only [List.length_cons] at hn; omega, ?_⟩⟩
    refine tail_on EC e0 da r ws ((f, w) :: fs) _ (by simpa using hl) (fun k f i v h1 h2 => hσ (k + 1) f i v (by simpa using h1) (by simpa using h2)) (fun g hg => hno g (by simp only [List.map_cons]; exact List.mem_cons_of_mem _ hg)) (by simp only [List.length_cons] at hn ⊢; omega) (by rw [upd_ne da.symm]; exact ha) upd_same fun H' h1 h2 h3 => ?_
    refine q H' (by rw [h1, upd_ne da.symm]) (by rw [h2]; simp) fun b hb hbd => ?_
    rw [h3 b hb hbd, upd_ne hbd]
theorem tail_from {K : PySem.W.Frag} {a : Addr} {Z : Ends} {σ : L2.St} (EC : OexC K C) (e0 : σ[0]? = some (some (.ref a))) {r : List (Str × Nat)} {ws : List V} {H : Hp} (hr : r ≠ []) (hl : r.length = ws.length) (hσ : ∀ (k : Nat) (f : Str) (i : Nat) (v : V), r[k]? = some (f, i) → ws[k]? = some v → σ[i]? = some (some v))
    (hno : ∀ f ∈ r.map (·.1), PySem.W.findIn K (.ref C) f = some none) (hn : r.length ≤ 900) (ha : H a = some (exo a C none))
    (q : ∀ d H', H d = none → d ≠ a → H' a = some (exo a C (some d)) → H' d = some (exd d (((r.map (·.1)).zip ws).reverse)) → (∀ b, b ≠ a → b ≠ d → H' b = H b) → Z.nx σ H') : tTail K r Z σ H := by
  match r, ws, hr, hl with
  | (f, i) :: r, w :: ws, _, hl =>
    refine ⟨w, hσ 0 f i w rfl rfl, .ref a, e0, a, C, rfl, EC, hno f (by simp), .inl ⟨ha, fun d hd da => ?_⟩⟩
    refine tail_on (d := d) EC e0 da r ws [(f, w)] _ (by simpa using hl) (fun k f i v h1 h2 => hσ (k + 1) f i v (by simpa using h1) (by simpa using h2)) (fun g hg => hno g (by simp only [List.map_cons]; exact List.mem_cons_of_mem _ hg)) (by simp only [List.length_cons, List.length_nil] at hn ⊢; omega) upd_same (by rw [upd_ne da, upd_same]) fun H' h1 h2 h3 => ?_
    refine q d H' hd da (by rw [h1, upd_same]) (by rw [h2]; simp) fun b hb hbd => ?_
    rw [h3 b hb hbd, upd_ne hb, upd_ne hbd]
end

/-! ## raised -/
def tMkS (C : Addr) (names : List Str) (ta : TA) : L2.St → Hp → XK → Prop := fun σ H Q => ta σ H fun vs H1 => vs.length = names.length ∧ vs.length ≤ 900 ∧ ∀ d H', H1 d = none → H' d = some (.xd ((names.zip vs).reverse)) → (∀ b, b ≠ d → H' b = H1 b) → Q (.ref C) (some d) H'
section
variable {X : Cx} {e : Expr} {es : List Expr} {ta : TA} {x : Str} {pp pos pos' : Pos} {C fI : Addr} {names ps : List Str} {k : Nat} {fd : FuncData} {fs : S → Res (S × List D)}
theorem guards_make {A : Around} {us : List Value} {kw : List (Str × Value)} (h : A.guards = some []) : (A.under (.builtin "type.__call__" ⟨.ref C :: us, kw⟩)).guards = some [] := by
  first
  | exact h
  | simpa [Around.under, Code.isGuard, guardIds, pushGuards] using h
theorem pmk_own2 (EC : ErrC X.K C fI names) (F1 : FnG X.prog X.w X.K X.mg X.base k fI fd ps (spErr C names)) (g : Good (k + 1) X) (hb : Binds X.K fd ps []) (hg : Gl X x) (hm : X.mg x = some (.ref C)) (ha : PA X (e :: es) ta)
    (hdb : (x == ("__debug__" : Str)) = false := by decide) (he : starEach (e :: es) X.env = (false, eval e X.env) :: starEach es X.env := by rfl) (hpl : (backTo pos (starEach es X.env)).any (·.1) = false := by rfl) :
    PMk X (.Call (.Name x pp) (e :: es) [] pos) (tMkS C names ta) := by
  intro pins s σ H Q I h
  obtain ⟨nm, q, N, bs, bm, sn, sub, ab, col, dd, k0, k1, k2, k3, k5, hC, hbm⟩ := EC.oex.cls
  refine wpAny_Call_Name_kw (ld_glob I hg hm ?_ hdb)
  refine PySem.W.callWith_K (h₀ := X.base) I.ok.mod.kin EC.oex.kC (thn (ha.run pos pins s σ H _ I h) fun us s1 ⟨vs, H1, I1, r1, hl, hl9, q1⟩ => ⟨I1.kIn, ?_⟩) he hpl
  show wpAny _ _ (call (.ref C) us) _ _ _
  obtain ⟨hp, gg, dr, tk, os⟩ := s1
  have ha1 : hp.objs.size ≤ hp.objs.size + 1 := Nat.le_succ _
  have hn : H1 (hp.objs.size + 1) = none := I1.hok.fresh ha1
  have kk : ∀ b o, hp.get? b = some o → ((hp.push (PySem.W.kdv_tup us)).push (PySem.HandSPX.excO C hp.objs.size)).get? b = some o := fun b o e => Heap.get?_push_of_some _ (Heap.get?_push_of_some _ e)
  have I2 : Inv X pins σ (upd H1 (hp.objs.size + 1) (exo (hp.objs.size + 1) C none)) ⟨(hp.push (PySem.W.kdv_tup us)).push (PySem.HandSPX.excO C hp.objs.size), gg, dr, tk, os⟩ :=
    I1.laid (t' := tk) kk ha1 (exo_ok (t1 := hp.objs.size) (by heap_get))
  have hsp : spErr C names (V.ref (hp.objs.size + 1) :: vs) (upd H1 (hp.objs.size + 1) (exo (hp.objs.size + 1) C none)) (fun v H2 => v = .non ∧ ∃ d, H1 d = none ∧ H2 (hp.objs.size + 1) = some (exo (hp.objs.size + 1) C (some d)) ∧ H2 d = some (exd d ((names.zip vs).reverse)) ∧ ∀ b, b ≠ hp.objs.size + 1 → b ≠ d → H2 b = H1 b) (fun _ _ _ => False) := by
    refine ⟨by rw [List.length_cons, hl], _, vs, rfl, upd_same, fun d H' hd da h1 h2 h3 => ⟨rfl, d, by rw [upd_ne da] at hd; exact hd, h1, h2, fun b hb hbd => ?_⟩⟩
    rw [h3 b hb hbd, upd_ne hb]
  have b := hb _ (Value.ref (hp.objs.size + 1) :: us) I2.kIn (by rw [List.append_nil, ← F1.len _ _ _ _ hsp, List.length_cons, List.length_cons, Paired.length r1])
  rw [List.append_nil] at b
  refine wpAny_call (PySem.HandSPX.call_own F.excBase_ValueError (fun Y => PySem.HandSPX.refsVE_contains Y bm hbm) (I1.kIn _ _ hC) (PySem.W.looks_findIn I1.kIn EC.init) (fun self => PySem.W.bind_fn I1.kIn self EC.fn) (by rw [← Paired.length r1, sizeLine_eq]; omega)
    (codeAny_mono (F1.run _ X.stack _ _ ⟨Value.ref (hp.objs.size + 1) :: us, []⟩ (Value.ref (hp.objs.size + 1) :: us) (V.ref (hp.objs.size + 1) :: vs) _ (fun _ _ _ => False) (g.room.make C us []) (guards_make g.guards) (I2.env0.make C us []) b (Paired.cons (show L2.RelV (V.ref (hp.objs.size + 1)) (Value.ref (hp.objs.size + 1)) from rfl) r1) hsp) fun r s' hq' => ?_))
  match r, hq' with
  | .error er, hq' =>
    obtain ⟨_, _, _, _, _, _, _, _, _, _, _, _, z⟩ := hq'
    exact z.elim
  | .ok (.ret u), ⟨v, H2, os2, bare2, un2, hok2, rv, ev, d, hd1, h1, h2, h3⟩ =>
    subst ev
    obtain ⟨h2', g2, d2, t2, os'⟩ := s'
    refine ⟨rv, mk_end (raises_own EC.oex.exC EC.oex.tyC) I1 ha1 kk un2 hok2 os2 bare2 h1 h2 hd1 (q1 d _ hd1 upd_same fun b hb => ?_)⟩
    rw [upd_ne hb]
    by_cases z : b = hp.objs.size + 1
    · rw [z, del_same, hn]
    · rw [del_ne z, h3 b z hb]
  | .ok .next, hq' => exact hq'.elim
  | .ok .brk, hq' => exact hq'.elim
  | .ok .cont, hq' => exact hq'.elim
/-- raise C(..) -/
def sRaise (c : Str) (names : List Str) (fs : S → Res (S × List D)) (s : S) : Res (S × Fl) := fs s >>= fun (s1, ds) => if ds.length = names.length ∧ ds.length ≤ 900 then .exn c names.reverse ds.reverse else .stuck
theorem ss_raise (EC : ErrC X.K C fI names) (F1 : FnG X.prog X.w X.K X.mg X.base k fI fd ps (spErr C names)) (g : Good (k + 1) X) (hc : X.calm = true) (hb : Binds X.K fd ps []) (hg : Gl X x) (hm : X.mg x = some (.ref C)) (ha : EA X (e :: es) fs)
    (hdb : (x == ("__debug__" : Str)) = false := by decide) (he : starEach (e :: es) X.env = (false, eval e X.env) :: starEach es X.env := by rfl) (hpl : (backTo pos (starEach es X.env)).any (·.1) = false := by rfl) :
    SS X (.Raise (some (.Call (.Name x pp) (e :: es) [] pos)) none pos') (sRaise x names fs) := by
  intro p m B okA s σ H W Z tk hm' E hp
  refine ws_of (ps_raise hc tk (pmk_own2 EC F1 g hb hg hm (paW X (e :: es)) hdb he hpl)) ?_
  show WA X (e :: es) σ H fun vs H1 => vs.length = names.length ∧ vs.length ≤ 900 ∧ ∀ d H', H1 d = none → H' d = some (.xd ((names.zip vs).reverse)) → (∀ b, b ≠ d → H' b = H1 b) → W (.ref C) (some d) σ H'
  refine Does.bindS ha tk hm' E hp fun s1 ds vs H1 E1 r1 p1 => ?_
  dsimp only at p1
  by_cases hl : ds.length = names.length ∧ ds.length ≤ 900
  · rw [if_pos hl] at p1
    have hv := r1.length
    refine ⟨hv.trans hl.1, by omega, fun d H' hd hx ho => ?_⟩
    have e : Ext m H1 H' := Ext.of_same fun b o z => by rw [ho b (ne_of_none z hd)]; exact z
    refine p1 C d _ σ H' (E1.kp.trans e) (E1.bNew hm' hd) hm hx ?_ (fun q hq => E1.new q ?_) ?_
    · rw [List.map_reverse, List.map_fst_zip (by omega)]
    · by_cases z : q = d
      · rw [z, hx] at hq; cases hq
      · rw [ho q z] at hq; exact hq
    · rw [List.map_reverse, List.map_snd_zip (by omega)]
      refine Reps.rev ?_
      exact Reps.mono (e.keeps fun a ha => by rcases hm' with z | z <;> rw [z]; exact ha.2.1; exact nofun) (fun a h _ => ⟨h.1, h.2.1⟩) _ _ r1
  · rw [if_neg hl] at p1; exact p1.elim
end
end SM

set_option Elab.async false
set_option linter.all false
set_option maxRecDepth 100000
set_option maxHeartbeats 4000000
namespace SM
variable [Tab]
open PySem PySem.Spec PyProof.Rows L2

/-! ## try, with clauses except X as n -/
/-- one clause: its class, the name's slot, what its suite is read as -/
structure Cl where
  c : Value
  i : Nat
  ts : Addr → Value → Option Addr → TS
def unnamed (i : Nat) (Z : Ends) : Ends := { nx := fun σ' H' => Z.nx (σ'.set i none) H', rt := Z.rt, bk := fun σ' H' => Z.bk (σ'.set i none) H', ct := fun σ' H' => Z.ct (σ'.set i none) H' }
def wCls (K : PySem.W.Frag) (Wout : WX) (Z : Ends) : List Cl → WX
  | [] => Wout
  | h :: r => fun cls d σ H => ∃ b, PySem.W.exmOne K cls h.c = some b ∧ (b = true → ∀ a, H a = none → h.ts a cls d (unnamed h.i Z) (σ.set h.i (some (.ref a))) H) ∧ (b = false → wCls K Wout Z r cls d σ H)
inductive ClsAre (X : Cx) : List ExceptHandler → List Cl → Prop
  | nil : ClsAre X [] []
  | cons {x n : Str} {c : Value} {i : Nat} {ts : Addr → Value → Option Addr → TS} {b₀ : Stmt} {suite : List Stmt} {np pos' : Pos} {hds : List ExceptHandler} {l : List Cl} (hi : X.N[i]? = some n) (hln : X.env.kindOf n = some .local) (hc : Names X x c)
      (hsu : ∀ (a : Addr) (oe : Obj) (cls : Value) (d : Option Addr) (pn : List (Addr × Obj)), Zc cls d oe → (∃ vs, oe.data = .fields vs) → PSs (X.suite a ((a, oe) :: pn)) (b₀ :: suite) (ts a cls d)) (r : ClsAre X hds l) :
      ClsAre X (.ExceptHandler (some (.Name x np)) (some n) (b₀ :: suite) pos' :: hds) (⟨c, i, ts⟩ :: l)
section
variable {X : Cx} {body : List Stmt} {h₀ : ExceptHandler} {hds : List ExceptHandler} {l : List Cl} {pos : Pos} {tb : WX → TS} {Wout : WX}
theorem ps_try_cls (hs : X.stack = X.env :: X.outer) (hf : X.env.frame = some X.env.locals) (hN : X.N.Nodup) (tk : Takes X Wout)
    (hb : ∀ (W : WX) (pn : List (Addr × Obj)) (xe : Value → Shared → Prop), Takes (X.tr pn xe) W → PassesOwn (model X.prog X.w) X.A X.env xe → PSs (X.tr pn xe) body (tb W))
    (hh : ClsAre X (h₀ :: hds) l) : PS X (.Try body (h₀ :: hds) [] [] pos) (fun Z σ H => tb (wCls X.K Wout Z l) Z σ H) := by
  refine ⟨fun pins s σ H Z I h => ?_⟩
  have ok := I.ok
  have hfr : X.A.frames = some (X.env :: X.outer) := by rw [ok.frames, hs]
  refine wpAny_Try_except ?_
  refine wpAny_mono ((hb (wCls X.K Wout Z l) (X.pn ++ pins) (fun e s₁ => wpAny (model X.prog X.w) X.A (noteFrame e X.env) (fun _ s₂ => wpAny (model X.prog X.w) X.A (setFlight e none) (fun _ s₃ =>
    wpAny (model X.prog X.w) X.A (handleBy e X.env (h₀ :: hds)) (SP X pins Z) X.xe s₃) X.xe s₂) X.xe s₁) (fun u s' xx => ?_) PassesOwn.looking).run [] s σ H Z (I.toTry _) h) (fun f s1 hsp => ?_) (fun e s1 he => he)
  · obtain ⟨a, B, sI, pins', σ', H', cls, d, rfl, J', nb, up, sky, na, os, ag, w⟩ := xx
    have J : Inv X pins σ' H' sI := J'.ofTry ok
    have sky' : Sky B (X.env :: X.outer) a (Zc cls d) X.env.locals s'.heap := by rw [← hs]; exact sky
    show wpAny (model X.prog X.w) X.A (noteFrame (.ref a) X.env) _ _ _
    refine Sky.land Zc.steady hfr hf sky' fun h3 fl3 up3 => ?_
    have J3 : Inv X pins σ' H' { s' with heap := h3 } := J.landed nb fl3.1 (up.trans up3) os ag
    obtain ⟨oe3, vs3, he3, hz3, hd3⟩ := fl3.there
    have nfr : a ∉ frs (X.env :: X.outer) := fun hm => by
      obtain ⟨_, o', e', hnf⟩ := fl3.2.2.1.mem hm
      rw [he3] at e'
      cases e'
      exact hnf _ hd3
    have nL : a ≠ X.env.locals := fun z => nfr (List.mem_filterMap.mpr ⟨X.env, List.mem_cons_self, by rw [hf, z]⟩)
    have nF : a ∉ X.fs := fun hm => by
      obtain ⟨e, he, q⟩ := List.mem_filterMap.mp hm
      exact nfr (List.mem_filterMap.mpr ⟨e, List.mem_cons_of_mem _ he, q⟩)
    have S3 := J3.suite he3 hd3 na nL nF
    have go : ∀ {hds' : List ExceptHandler} {l' : List Cl}, ClsAre X hds' l' → wCls X.K Wout Z l' cls d σ' H' → wpAny (model X.prog X.w) X.A (handleBy (.ref a) X.env hds') (SP X pins Z) X.xe { s' with heap := h3 } := by
      intro hds' l' hk
      induction hk with
      | nil =>
        intro w
        refine wpAny_handleBy_nil ?_
        obtain ⟨k1, k2, k3, oe, vs, T, oT, ts', he, hz, hd, h1, hr⟩ := id fl3
        unfold PySem.passOn
        refine wpAny_bind (wpAny_field he hd h1 ?_)
        rw [if_neg (show ¬ ((Value.ref T == Value.none) = true) from by simp)]
        have fin : wpAny (model X.prog X.w) X.A (setFlight (.ref a) X.env.frame) (fun _ s4 => wpAny (model X.prog X.w) X.A (throw (.ref a) : Sem Flow) (SP X pins Z) X.xe s4) X.xe { s' with heap := h3 } := by
          rw [hf]
          exact HandSPX.setFlight_upZ fl3 fun h4 hh4 up4 => wpAny_throw (tk _ _ ⟨a, B, sI, pins, σ', H', cls, d, rfl, J, nb, (up.trans up3).trans up4, .inr (.inr (by rw [hs]; exact hh4)), na, os, ag, w⟩)
        first
        | exact wpAny_bind (wpAny_pure (wpAny_bind fin))
        | exact wpAny_bind fin
      | @cons x n c i ts b₀ suite np pos' hds2 l2 hi hln hc hsu r ih =>
        intro w
        obtain ⟨b, hb1, hyes, hno⟩ := w
        refine wpAny_handleBy_cons (codeAny_handlers_test ?_) (by intro q; cases q)
        have LM := PySem.W.exm_one (M := model X.prog X.w) J3.kIn (show PySem.W.Looks (model X.prog X.w) h3 (typeOf (.ref a)) cls from fun A Q E s k q => wpAny_typeOf_ref (k _ _ he3) (by rw [hz3.1]; exact q)) hb1
        have test : ∀ {Q : Value → Shared → Prop} {E : Value → Shared → Prop}, Q c { s' with heap := h3 } → wpAny (model X.prog X.w) (X.A.mark (some (.ref a))) (eval (.Name x np) X.env) Q E { s' with heap := h3 } := fun {Q E} q => by
          obtain ⟨hg, hdbg, hm | ⟨hm, hv, hnn⟩⟩ := hc
          · exact ld_glob (X := X.suite a ((a, oe3) :: (X.pn ++ pins))) S3 hg hm q hdbg
          · exact ld_blt (X := X.suite a ((a, oe3) :: (X.pn ++ pins))) S3 hg hm hv q hnn hdbg
        refine test (LM.here ?_)
        cases b with
        | false => exact ih (hno rfl)
        | true =>
          refine codeAny_handlers_suite_as (HandSPX.lands_againZ fl3 fun h4 fl4 up4 => ?_)
          have J4 : Inv X pins σ' H' { s' with heap := h4 } := J.landed nb fl4.1 ((up.trans up3).trans up4) os ag
          obtain ⟨oe4, vs4, he4, hz4, hd4⟩ := fl4.there
          refine store_ok (X := X.suite a ((a, oe4) :: (X.pn ++ pins))) (v := .ref a) (J4.suite he4 hd4 na nL nF) hN hi (.inl hln) rfl (fun s5 S5 => ?_) (.inr hln)
          refine wpAny_mono ((hsu a oe4 cls d (X.pn ++ pins) hz4 ⟨_, hd4⟩).run [] s5 _ H' _ S5 (hyes rfl a na)) (fun f s6 hsp => ?_) (fun _ _ z => z.elim)
          match f, hsp with
          | .next, ⟨σ6, H6, S6, q6⟩ => exact gone_ok (S6.unsuite ok) hN hi hln fun s7 J7 => ⟨_, _, J7, q6⟩
          | .brk, ⟨σ6, H6, S6, q6⟩ => exact gone_ok (S6.unsuite ok) hN hi hln fun s7 J7 => ⟨_, _, J7, q6⟩
          | .cont, ⟨σ6, H6, S6, q6⟩ => exact gone_ok (S6.unsuite ok) hN hi hln fun s7 J7 => ⟨_, _, J7, q6⟩
          | .ret u, ⟨v6, σ6, H6, S6, r6, q6⟩ => exact gone_ok (S6.unsuite ok) hN hi hln fun s7 J7 => ⟨_, _, _, J7, r6, q6⟩
    exact go hh w
  · match f, hsp with
    | .next, ⟨σ', H', J', q⟩ => exact wpAny_execs_nil ⟨σ', H', J'.ofTry ok, q⟩
    | .brk, ⟨σ', H', J', q⟩ => exact ⟨σ', H', J'.ofTry ok, q⟩
    | .cont, ⟨σ', H', J', q⟩ => exact ⟨σ', H', J'.ofTry ok, q⟩
    | .ret u, ⟨v, σ', H', J', r, q⟩ => exact ⟨v, σ', H', J'.ofTry ok, r, q⟩
end

/-! ## try: e; except X as n: return (tag, n.f, ..) -/
structure Hd where
  c : Str
  i : Nat
  tag : Str
  fs : List Str
def flds (ns : List Str) (ds : List D) : List Str → Option (List D)
  | [] => some []
  | f :: r => match (ns.zip ds).lookup f, flds ns ds r with
    | some d, some l => some (d :: l)
    | _, _ => none
def bare (s : S) : S := ⟨List.replicate s.sl.length .no, none⟩
def handle (sub : Str → Str → Option Bool) (c : Str) (ns : List Str) (ds : List D) (s : S) : List Hd → Res (S × Fl)
  | [] => .stuck
  | h :: r => match sub c h.c with
    | none => .stuck
    | some false => handle sub c ns ds s r
    | some true => match flds ns ds h.fs with
      | none => .stuck
      | some l => if c = h.c ∧ h.i < s.sl.length ∧ h.fs.length < 1000 then .ok (bare s, .rt (.tup (.str h.tag :: l))) else .stuck
def sTry (sub : Str → Str → Option Bool) (f : S → Res (S × D)) (hs : List Hd) (s : S) : Res (S × Fl) := match s.pn with
  | some _ => .stuck
  | none => match f s with
    | .ok (s1, _) => .ok (s1, .nx)
    | .stuck => .stuck
    | .exn c ns ds => handle sub c ns ds s hs
/-- what the classes are to each other -/
def SubOk (K : PySem.W.Frag) (mg : Str → Option Value) (sub : Str → Str → Option Bool) : Prop := ∀ c c' b, sub c c' = some b → ∀ C C', mg c = some (.ref C) → mg c' = some (.ref C') → PySem.W.exmOne K (.ref C) (.ref C') = some b
/-- the row n.f, .. of a suite -/
def tFs (a : Addr) (cls : Value) (d : Option Addr) (C : Addr) (i : Nat) : List Str → TA
  | [] => tNil
  | f :: r => tCons (tXf a cls d C f (tVar i)) (tFs a cls d C i r)
def clOf (q : Hd × Addr) : Cl := ⟨.ref q.2, q.1.i, fun a cls d => tRet (tTup (tCons (tC (.str q.1.tag)) (tFs a cls d q.2 q.1.i q.1.fs)))⟩
theorem zip_get {Γ : Sig} {ok : Addr → Prop} {H : Hp} {f : Str} : ∀ {fs : List (Str × V)} {ds : List D} {d : D}, Reps Γ ok H (fs.map (·.2)) ds → ((fs.map (·.1)).zip ds).lookup f = some d → ∃ v, fs.lookup f = some v ∧ Rep Γ ok H v d
  | [], _, d, r, h => by simp at h
  | (n, v) :: fs, _, d, r, h => by
    cases r with
    | @cons _ _ e es r1 r2 =>
      simp only [List.map_cons, List.zip_cons_cons, List.lookup_cons] at h ⊢
      cases q : f == n with
      | true => rw [q] at h; cases h; exact ⟨v, rfl, r1⟩
      | false => rw [q] at h; exact zip_get r2 h
theorem flds_read {Γ : Sig} {ok : Addr → Prop} {H : Hp} {a C dd : Addr} {i : Nat} {σ : L2.St} {ds : List D} {fs : List (Str × V)} (e0 : σ[i]? = some (some (.ref a))) (hx : H dd = some (.xd fs)) (rs : Reps Γ ok H (fs.map (·.2)) ds) :
    ∀ (ws : List Str) (l : List D), flds (fs.map (·.1)) ds ws = some l → ∃ vs, Reps Γ ok H vs l ∧ vs.length = ws.length ∧ ∀ Q : List V → Hp → Prop, Q vs H → tFs a (.ref C) (some dd) C i ws σ H Q
  | [], l, h => by cases h; exact ⟨[], .nil, rfl, fun Q q => q⟩
  | f :: r, l, h => by
    unfold flds at h
    cases h1 : ((fs.map (·.1)).zip ds).lookup f with
    | none => rw [h1] at h; cases h
    | some d =>
      cases h2 : flds (fs.map (·.1)) ds r with
      | none => rw [h1, h2] at h; cases h
      | some l2 =>
        rw [h1, h2] at h
        cases h
        obtain ⟨v, hv, rv⟩ := zip_get rs h1
        obtain ⟨vs, rvs, hl, k⟩ := flds_read e0 hx rs r l2 h2
        exact ⟨v :: vs, .cons rv rvs, by rw [List.length_cons, List.length_cons, hl], fun Q q => ⟨.ref a, e0, rfl, rfl, dd, fs, v, rfl, hx, hv, k _ q⟩⟩
section
variable {X : Cx} {p m : Option Addr} {B : Hp} {okA : Addr → Prop} {W : WX} {s : S} {σ : L2.St} {H H' : Hp} {Z : Ends}
theorem bare_get {s : S} {j : Nat} {x : Sl} (h : (bare s).sl[j]? = some x) : x = .no := by
  have h' : (List.replicate s.sl.length Sl.no)[j]? = some x := h
  rw [List.getElem?_replicate] at h'
  split at h'
  · exact (Option.some.inj h').symm
  · cases h'
theorem Env.bare (E : Env (sg X p) m B okA s σ H) (e : Ext m H H') (fr : ∀ q, H' q = none → H q = none) {σ' : L2.St} (hl : σ'.length = σ.length) : Env (sg X p) m B okA (SM.bare s) σ' H' := by
  have no : ∀ i a, ¬ OwnAt (SM.bare s) σ' i a := fun i a ⟨⟨d, q⟩, _⟩ => nomatch bare_get q
  exact ⟨by show (List.replicate s.sl.length Sl.no).length = _; rw [List.length_replicate, hl]; exact E.len, .inl rfl, E.kp.trans e, fun i a q => absurd q (no i a), fun q hq => E.new q (fr q hq), fun i d q => (nomatch bare_get q), fun i d q => (nomatch bare_get q),
    fun i j a q => absurd q (no i a), True.intro, fun q hq z => E.pn q hq (fr q z), fun P hP => e.tb P (E.tb P hP)⟩
theorem handle_ok {sub : Str → Str → Option Bool} {c : Str} {ns : List Str} {ds : List D} {C dd : Addr} {fs : List (Str × V)} (hS : SubOk X.K X.mg sub) (E : Env (sg X p) m B okA s σ H) (e : Ext m H H') (hC : X.mg c = some (.ref C)) (hx : H' dd = some (.xd fs)) (hn : fs.map (·.1) = ns)
    (fr : ∀ q, H' q = none → H q = none) (rs : Reps (sg X p) (okP p okA) H' (fs.map (·.2)) ds) : ∀ l : List (Hd × Addr), (∀ q ∈ l, X.mg q.1.c = some (.ref q.2)) → PostS (sg X p) m B okA W Z (handle sub c ns ds s (l.map (·.1))) → wCls X.K W Z (l.map clOf) (.ref C) (some dd) σ H'
  | [], _, h => h.elim
  | (h, Ch) :: l, hm, hp => by
    have hp' : PostS (sg X p) m B okA W Z (match sub c h.c with
      | none => .stuck
      | some false => handle sub c ns ds s (l.map (·.1))
      | some true => match flds ns ds h.fs with
        | none => .stuck
        | some l => if c = h.c ∧ h.i < s.sl.length ∧ h.fs.length < 1000 then .ok (SM.bare s, .rt (.tup (.str h.tag :: l))) else .stuck) := hp
    cases hb : sub c h.c with
    | none => rw [hb] at hp'; exact hp'.elim
    | some b =>
      rw [hb] at hp'
      have hCh : X.mg h.c = some (.ref Ch) := hm (h, Ch) (by simp)
      refine ⟨b, hS c h.c b hb C Ch hC hCh, fun eb a na => ?_, fun eb => ?_⟩
      · subst eb
        dsimp only at hp'
        cases hf : flds ns ds h.fs with
        | none => rw [hf] at hp'; exact hp'.elim
        | some l2 =>
          rw [hf] at hp'
          dsimp only at hp'
          by_cases hk : c = h.c ∧ h.i < s.sl.length ∧ h.fs.length < 1000
          · rw [if_pos hk] at hp'
            obtain ⟨rfl, hi, hlen⟩ := hk
            rw [hC] at hCh
            cases hCh
            subst hn
            have e0 : (σ.set h.i (some (V.ref a)))[h.i]? = some (some (V.ref a)) := List.getElem?_set_self (by rw [← E.len]; exact hi)
            obtain ⟨vs, rv, hl, k⟩ := flds_read (C := C) e0 hx rs h.fs l2 hf
            refine k _ ⟨by rw [List.length_cons, hl, sizeLine_eq]; omega, fun q hq => ?_⟩
            have E1 : Env (sg X p) m B okA (SM.bare s) (σ.set h.i (some (V.ref a))) H' := E.bare e fr List.length_set
            have e2 : Ext m H' (upd H' q (.tup (.str h.tag :: vs))) := Ext.new hq
            have E2 : Env (sg X p) m B okA (SM.bare s) (σ.set h.i (some (V.ref a))) (upd H' q (.tup (.str h.tag :: vs))) := E.bare (e.trans e2) (fun r hr => by
              by_cases z : r = q
              · rw [z, upd_same] at hr; cases hr
              · rw [upd_ne z] at hr; exact fr r hr) List.length_set
            refine hp' (.ref q) _ _ E2 (.tup upd_same (.cons (.str _) ?_))
            refine Reps.mono ((Ext.new (m := none) hq).keeps fun _ _ => nofun) (fun b z _ => ⟨z.1, z.2, fun j w => ?_⟩) _ _ rv
            obtain ⟨⟨d, w1⟩, _⟩ := w
            exact nomatch bare_get w1
          · rw [if_neg hk] at hp'; exact hp'.elim
      · subst eb
        exact handle_ok hS E e hC hx hn fr rs l (fun q hq => hm q (List.mem_cons_of_mem _ hq)) hp'
end
section
variable {X : Cx} {call : Expr} {f : S → Res (S × D)} {h₀ : ExceptHandler} {hds : List ExceptHandler} {l : List (Hd × Addr)} {p1 pos : Pos} {sub : Str → Str → Option Bool}
theorem ss_try (hs : X.stack = X.env :: X.outer) (hf : X.env.frame = some X.env.locals) (hN : X.N.Nodup) (hS : SubOk X.K X.mg sub) (hmg : ∀ q ∈ l, X.mg q.1.c = some (.ref q.2)) (hcl : ClsAre X (h₀ :: hds) (l.map clOf)) (he : ∀ pn xe, EE (X.tr pn xe) call f)
    (hsw : ∀ pn xe, swapsWith call none p1.line (X.tr pn xe).env = pure false := by intro _ _; rfl) : SS X (.Try [.Expr call p1] (h₀ :: hds) [] [] pos) (sTry sub f (l.map (·.1))) := by
  intro p m B okA s σ H W Z tk hm E hp
  refine ws_of (ps_try_cls (tb := fun W Z σ H => ∀ pn xe, Takes (X.tr pn xe) W → WB (X.tr pn xe) [.Expr call p1] Z σ H) hs hf hN tk (fun W pn xe tk' _ => ⟨fun pins s0 σ0 H0 Z0 I h => (pbW _ _).run pins s0 σ0 H0 Z0 I (h pn xe tk')⟩) hcl) ?_
  intro pn xe tk'
  refine wb_of (pss_one (ps_expr (peW (X.tr pn xe) call) (hsw pn xe))) ?_
  show WE (X.tr pn xe) call σ H fun _ H1 => Z.nx σ H1
  unfold sTry at hp
  cases hpn : s.pn with
  | some _ => rw [hpn] at hp; exact hp.elim
  | none =>
    rw [hpn] at hp
    dsimp only at hp
    refine he pn xe p m B okA s σ H (wCls X.K W Z (l.map clOf)) _ tk' hm E ?_
    cases hfs : f s with
    | ok x =>
      obtain ⟨s1, d⟩ := x
      rw [hfs] at hp
      exact fun v H1 e1 l1 E1 r1 => hp σ H1 E1
    | stuck => rw [hfs] at hp; exact hp
    | exn c ns ds =>
      rw [hfs] at hp
      exact fun C dd fs H' e hd hC hx hn fr rs => handle_ok hS E e hC hx hn fr rs l hmg hp
end
end SM

set_option Elab.async false
set_option linter.all false
set_option maxRecDepth 100000
set_option maxHeartbeats 4000000
namespace SM
variable [Tab]
open PySem PySem.Spec PyProof.Rows L2 LamX

/-! ## lambdas are made -/
theorem lamO_ok {P : Program} {w : World} {H : Hp} {h : Heap} {f c' : Addr} {L : LamT} {cl : List (Str × Addr)} {pm ctv : Value} (e : h.get? f = some (PySem.W.kla_obj "<lambda>" L.q L.ps L.body L.sc cl pm c' ctv)) : ObjOk P w H h f (LamO f L cl c') :=
  ⟨⟨pm, ctv, e⟩, ⟨_, e⟩, fun h1 h2 ⟨p, c, z⟩ k => ⟨p, c, k _ z⟩⟩
section
variable {X : Cx} {pins : List (Addr × Obj)} {σ : L2.St} {H : Hp} {s : Shared}
/-- the function object, tracked -/
theorem lam_make3 {c P : Addr} {L : LamT} {pos : Pos} {E : Value → Shared → Prop} {Q : Value → Shared → Prop} (I : Inv X pins σ H s) (TB : TabB X.base X.mg c P) (hcode : X.env.code = .ref c) (hT : TabS H P (Tab.nm P)) (hnm : Tab.nm P = L.q) (hq : X.env.qual ++ "<lambda>" = L.q) (hdef : defaultsOf L.ps X.env = ([], []))
    (hfree : ∀ y ∈ L.sc.names, y.2 = .free → ∃ c, X.env.cells.lookup y.1 = some c)
    (h : ∀ (f c' : Addr) (H1 : Hp) (s' : Shared), Inv X pins σ H1 s' → Ext none H H1 → (∀ b, H1 b = none → H b = none) → H1 f = some (LamO f L (cloFrom X.env.cells L.sc.names []) c') → H1 c' = some (CodeO c' L.q) → Q (.ref f) s') :
    wpAny (model X.prog X.w) X.A (eval (.Lambda L.ps L.body L.sc pos) X.env) Q E s := by
  rw [hnm] at hT
  obtain ⟨ps, hP, ht, ha⟩ := hT
  refine PySem.W.kla_eval hdef ?_
  rw [hq]
  have bP : s.heap.BuiltinsAt X.mg P := TB.bm.keeps I.bk
  have hP' : s.heap.get? P = some { cls := .none, data := .fields ps } := I.hok P _ hP
  have lay : ∀ (H1 : Hp) (h' : Heap) (tk : Nat) (c' : Addr) (pm ctv : Value), Inv X pins σ H1 { s with heap := h', toks := tk } → Ext none H H1 → (∀ b, H1 b = none → H b = none) → H1 c' = some (CodeO c' L.q) →
      Q (.ref h'.objs.size) { s with heap := h'.push (PySem.W.kla_obj "<lambda>" L.q L.ps L.body L.sc (cloFrom X.env.cells L.sc.names []) pm c' ctv), toks := tk } := fun H1 h' tk c' pm ctv I1 e1 fr hc => by
    have hn : H1 h'.objs.size = none := I1.hok.fresh (Nat.le_refl _)
    have J := I1.laid (t' := tk) (a := h'.objs.size) (o := LamO h'.objs.size L (cloFrom X.env.cells L.sc.names []) c') (h' := h'.push (PySem.W.kla_obj "<lambda>" L.q L.ps L.body L.sc (cloFrom X.env.cells L.sc.names []) pm c' ctv)) (fun b o z => Heap.get?_push_of_some _ z) (Nat.le_refl _) (lamO_ok (Heap.get?_push_size _ rfl))
    refine h _ c' _ _ J (e1.trans (Ext.new hn)) (fun b z => ?_) upd_same (by rw [upd_ne (ne_of_none hc hn)]; exact hc)
    by_cases y : b = h'.objs.size
    · rw [y, upd_same] at z; cases z
    · rw [upd_ne y] at z; exact fr b z
  cases hc : codeAmong pos ps.toList with
  | none =>
    refine PySem.W.kla_makeFunction (mg := X.mg) (c := c) (P := P) (ps := ps) (closure_ok hfree) I.ok.glob (I.mod.glob.keeps I.bk) hcode (TB.code.keeps I.bk) hP' ht hc TB.gP bP fun c' ctv h' tk hx hge hlt hrec htb => ?_
    obtain ⟨c2, oc, vs, t, e2, hoc, hd, hv⟩ := hrec
    cases e2
    have nC : H c' = none := I.hok.fresh hge
    have nPc : P ≠ c' := ne_of_none hP nC
    have I1 := inv_table (t' := tk) (q := L.q) (more := #[rawInt pos.line, rawInt pos.col, .ref c']) (h' := h') I hP (fun b o hb e => hx b o hb e) htb hge ⟨oc, vs, t, hoc, hd, hv⟩
    refine lay _ h' tk c' _ ctv I1 ?_ (fun b z => ?_) upd_same
    · have ne : ∀ {b u}, H b = some u → Fix u → upd (upd H P (.tbl (ps ++ #[rawInt pos.line, rawInt pos.col, .ref c']))) c' (CodeO c' L.q) b = some u := fun {b u} z f => by
        rw [upd_ne (ne_of_none z nC), upd_ne fun y => ?_]
        · exact z
        · rw [y, hP] at z
          exact f ps (Option.some.inj z).symm
      refine ⟨fun b u _ f z => ne z f, fun b vs z => ne z (fun _ => nofun), fun b z => ?_, fun P' t' => ?_, fun b φ z => ne z (fun _ => nofun)⟩
      · by_cases y : b = c'
        · rw [y, upd_same]; exact nofun
        · rw [upd_ne y]
          by_cases y2 : b = P
          · rw [y2, upd_same]; exact nofun
          · rw [upd_ne y2]; exact z
      · obtain ⟨ps', t1, t2, t3⟩ := t'
        by_cases y : P' = P
        · rw [y, hP] at t1
          cases t1
          -- the same table bears one name
          refine ⟨_, by rw [y, upd_ne nPc, upd_same], by rw [show (ps ++ #[rawInt pos.line, rawInt pos.col, Value.ref c']).toList = ps.toList ++ [rawInt pos.line, rawInt pos.col, .ref c'] by simp]; exact PySem.TriplesOk_snoc _ _ _ _ ht, fun p' cv hcv => ?_⟩
          rw [show (ps ++ #[rawInt pos.line, rawInt pos.col, Value.ref c']).toList = ps.toList ++ [rawInt pos.line, rawInt pos.col, .ref c'] by simp] at hcv
          rcases among_app _ ht hcv with z | z
          · obtain ⟨c0, e1, e2⟩ := t3 p' cv z
            exact ⟨c0, e1, ne e2 (fun _ => codeO_ne _)⟩
          · exact ⟨c', z, by rw [y, hnm]; exact upd_same⟩
        · refine ⟨ps', by rw [upd_ne (ne_of_none t1 nC), upd_ne y]; exact t1, t2, fun p' cv hcv => ?_⟩
          obtain ⟨c0, e1, e2⟩ := t3 p' cv hcv
          exact ⟨c0, e1, ne e2 (fun _ => codeO_ne _)⟩
    · by_cases y : b = c'
      · rw [y]; exact nC
      · rw [upd_ne y] at z
        by_cases y2 : b = P
        · rw [y2, upd_same] at z; cases z
        · rw [upd_ne y2] at z; exact z
  | some cv =>
    obtain ⟨c', e, hco⟩ := ha pos cv hc
    subst e
    refine PySem.W.kla_makeFunctionHit (mg := X.mg) (c := c) (P := P) (ps := ps) (closure_ok hfree) I.ok.glob (I.mod.glob.keeps I.bk) hcode (TB.code.keeps I.bk) hP' ht hc bP fun ctv h' tk hx hsz => ?_
    exact lay H h' tk c' _ ctv (I.kept fun b o e => hx b o e) (Ext.refl _ _) (fun _ z => z) hco
/-- a lambda, as a value -/
def eLam (j : Nat) (cs : List (Str × Addr)) (s : S) : Res (S × D) := .ok (s, .lam j cs)
theorem ee_lam (j : Nat) {L : LamT} {c P : Addr} {params : Arguments} {body : Expr} {scope : Scope} {pos : Pos} (hL : Tab.tab j = ⟨X.env.qual ++ "<lambda>", params, body, scope⟩) (TB : TabB X.base X.mg c P) (hcode : X.env.code = .ref c) (hown : Tab.own P) (hnm : Tab.nm P = X.env.qual ++ "<lambda>") (hdef : defaultsOf params X.env = ([], []))
    (LS : LamS X.env.scope scope) : EE X (.Lambda params body scope pos) (eLam j X.env.cells) := by
  intro p m B okA s σ H W Q tk hm E hp
  refine we_mk fun pins s0 I => ?_
  refine lam_make3 (L := ⟨X.env.qual ++ "<lambda>", params, body, scope⟩) I TB hcode (E.tb P hown) hnm rfl hdef (LS.has I.ok) fun f c' H1 s' I1 e1 fr h1 h2 => ?_
  refine ⟨.ref f, H1, I1, rfl, hp _ H1 e1.low (Less.refl _) (E.ext e1.low hm ?_ (fun q hq => e1.n q (E.pn q hq)) fr) (.lam (c' := c') j _ (by rw [show (sg X p).lam j = _ from hL]; exact h1) (by rw [show (sg X p).lam j = _ from hL]; exact h2))⟩
  exact E.pen.keep (e1.keeps fun _ _ => nofun) (fun _ z => z) fun q o _ f h => e1.o q o nofun f h
end

/-! ## cells are covered, uncovered -/
/-- at cs as in H, else as in H' -/
def back (cs : List Addr) (H H' : Hp) : Hp := fun b => if b ∈ cs then H b else H' b
theorem back_in {cs : List Addr} {H H' : Hp} {b : Addr} (h : b ∈ cs) : back cs H H' b = H b := if_pos h
theorem back_out {cs : List Addr} {H H' : Hp} {b : Addr} (h : b ∉ cs) : back cs H H' b = H' b := if_neg h
theorem cellO_ok {P : Program} {w : World} {H : Hp} {h : Heap} {c : Addr} {o : Obj} (e : h.get? c = some o) : ObjOk P w H h c (CellO c o) := ⟨e, ⟨_, e⟩, fun _ _ z k => k _ z⟩
theorem cellO_at {P : Program} {w : World} {H : Hp} {h : Heap} {c : Addr} {o : Obj} (hok : HOk P w H h) (e : H c = some (CellO c o)) : h.get? c = some o := (show ObjOk P w H h c (.ext fun h => h.get? c = some o) from hok c _ e).1
/-- nothing, or a cell -/
def CellLike (o : Option HO) (c : Addr) : Prop := o = none ∨ ∃ u, o = some (CellO c u)
theorem CellLike.own {o : Option HO} {c a : Addr} (h : CellLike o c) : o ≠ some (.own a) := fun z => by
  rcases h with h | ⟨u, h⟩ <;> rw [h] at z <;> cases z
theorem CellLike.tup {o : Option HO} {c : Addr} {vs : List V} (h : CellLike o c) : o ≠ some (.tup vs) := fun z => by
  rcases h with h | ⟨u, h⟩ <;> rw [h] at z <;> cases z
theorem CellLike.fix {o : Option HO} {c : Addr} {u : HO} (h : CellLike o c) (q : ∀ φ, u ≠ .ext φ) : o ≠ some u := fun z => by
  rcases h with h | ⟨u', h⟩ <;> rw [h] at z
  · cases z
  · cases z; exact q _ rfl
theorem back_ok {P : Program} {w : World} {cs : List Addr} {H H' : Hp} {h : Heap} (hok : HOk P w H' h) (c1 : ∀ c ∈ cs, CellLike (H' c) c) (c2 : ∀ c ∈ cs, CellLike (H c) c) (c3 : ∀ c ∈ cs, ∀ o, H c = some (CellO c o) → h.get? c = some o) : HOk P w (back cs H H') h := fun b u e => by
  by_cases hb : b ∈ cs
  · rw [back_in hb] at e
    rcases c2 b hb with z | ⟨o, z⟩
    · rw [z] at e; cases e
    · rw [z] at e
      cases e
      exact cellO_ok (c3 b hb o z)
  · rw [back_out hb] at e
    refine (hok b u e).stay (fun _ _ _ q => q) (fun c q => ?_) fun c vs q => ?_
    · rw [back_out fun z => (c1 c z).own q]; exact q
    · rw [back_out fun z => (c1 c z).tup q]; exact q
end SM

set_option Elab.async false
set_option linter.all false
set_option maxRecDepth 100000
set_option maxHeartbeats 4000000
namespace SM
variable [Tab]
open PySem PySem.Spec PyProof.Rows L2 LamX

/-! ## a lambda is called -/
abbrev lamE (L : LamT) (cl : List (Str × Addr)) (n f c' : Addr) : PySem.Env := PySem.W.envX L.q L.sc n f (.ref c') cl
abbrev lamX (P : Program) (w : World) (K : PySem.W.Frag) (mg : Str → Option Value) (base : Heap) (L : LamT) (cl : List (Str × Addr)) (f c' : Addr) (A : Around) (outer : List PySem.Env) (s : Shared) (H : Hp) (E : XK) : Cx where
  prog := P
  w := w
  K := K
  mg := mg
  base := base
  A := A.deeper (lamE L cl s.heap.objs.size f c')
  N := lamN L.sc
  s_0 := s
  H_0 := H
  env := lamE L cl s.heap.objs.size f c'
  outer := outer
  stack := lamE L cl s.heap.objs.size f c' :: outer
  ex := []
  fn := fun _ => false
  calm := true
  pn := []
  xe := fun e s' => wpAny (model P w) (A.deeper (lamE L cl s.heap.objs.size f c')) (leaving (lamE L cl s.heap.objs.size f c') e) (fun _ s'' => L2.CX P w outer H s E e s'') (fun e' s'' => L2.CX P w outer H s E e' s'') s'
theorem lamX_takes {P : Program} {w : World} {K : PySem.W.Frag} {mg : Str → Option Value} {base : Heap} {L : LamT} {cl : List (Str × Addr)} {f c' : Addr} {A : Around} {outer : List PySem.Env} {s : Shared} {H : Hp} {E : XK} :
    Takes (lamX P w K mg base L cl f c' A outer s H E) (fun cls d _ H => E cls d H) := takes_of rfl rfl rfl rfl
/-- no parameter, no name of its own: captured ones and globals -/
structure LamOk (L : LamT) : Prop where
  kind : L.sc.kind = .function
  co : L.sc.isCoroutine = false
  gen : L.sc.isGenerator = false
  own : ∀ y ∈ L.sc.names, y.2 ≠ .local ∧ y.2 ≠ .cell
  fr : ∀ y ∈ L.sc.names, y.2 = .free → y.1 ∈ lamN L.sc
  nd : (lamN L.sc).Nodup
  bind : ∀ (cl : List (Str × Addr)) (pm cv ctv : Value), bindArgs (PySem.W.kla_fn "<lambda>" L.q L.ps L.body L.sc cl pm cv ctv) ⟨[], []⟩ = pure []
theorem Cells.cell {P : Program} {w : World} {H : Hp} {h : Heap} (hok : HOk P w H h) : ∀ {cl : List (Str × Addr)} {vs : List V}, Cells H cl vs → ∀ x c, cl.lookup x = some c → ∃ u, h.IsCell c (some u)
  | _, _, .nil, x, c, e => by cases e
  | _, _, @Cells.cons _ n c0 o u v r vs h1 h2 h3 rs, x, c, e => by
    rw [List.lookup_cons] at e
    cases q : x == n with
    | true => rw [q] at e; cases e; exact ⟨u, o, cellO_at hok h1, h2⟩
    | false => rw [q] at e; exact Cells.cell hok rs x c e
theorem Cells.like {H : Hp} : ∀ {cl : List (Str × Addr)} {vs : List V}, Cells H cl vs → ∀ c ∈ cl.map (·.2), CellLike (H c) c ∧ H c ≠ none
  | _, _, .nil, c, e => by cases e
  | _, _, @Cells.cons _ n c0 o u v r vs h1 h2 h3 rs, c, e => by
    rcases List.mem_cons.mp e with z | z
    · rw [z]; exact ⟨.inr ⟨o, h1⟩, by rw [h1]; exact nofun⟩
    · exact Cells.like rs c z
theorem Cells.data {H : Hp} : ∀ {cl : List (Str × Addr)} {vs : List V}, Cells H cl vs → ∀ c ∈ cl.map (·.2), ∃ o u, H c = some (CellO c o) ∧ o.data = .cell (some u)
  | _, _, .nil, c, e => by cases e
  | _, _, @Cells.cons _ n c0 o u v r vs h1 h2 h3 rs, c, e => by
    rcases List.mem_cons.mp e with z | z
    · rw [z]; exact ⟨o, u, h1, h2⟩
    · exact Cells.data rs c z
theorem Cells.len {H : Hp} : ∀ {cl : List (Str × Addr)} {vs : List V}, Cells H cl vs → vs.length = cl.length
  | _, _, .nil => rfl
  | _, _, .cons _ _ _ r => by rw [List.length_cons, List.length_cons, Cells.len r]
theorem Cells.at_ {P : Program} {w : World} {H : Hp} {h : Heap} (hok : HOk P w H h) : ∀ {cl : List (Str × Addr)} {vs : List V} {i : Nat} {x : Str} {v : V}, Cells H cl vs → (cl.map (·.1)).Nodup → (cl.map (·.1))[i]? = some x → vs[i]? = some v → ∃ c u, cl.lookup x = some c ∧ L2.RelV v u ∧ h.IsCell c (some u)
  | _, _, i, x, v, .nil, _, e, _ => by simp at e
  | _, _, 0, x, v, @Cells.cons _ n c0 o u v0 r vs h1 h2 h3 rs, nd, e1, e2 => by
    simp at e1 e2
    subst e1 e2
    exact ⟨c0, u, by simp [List.lookup_cons], h3, o, cellO_at hok h1, h2⟩
  | _, _, i + 1, x, v, @Cells.cons _ n c0 o u v0 r vs h1 h2 h3 rs, nd, e1, e2 => by
    simp only [List.map_cons, List.getElem?_cons_succ] at e1 e2
    obtain ⟨n1, n2⟩ := List.nodup_cons.mp nd
    obtain ⟨c, u', q1, q2, q3⟩ := Cells.at_ hok rs n2 e1 e2
    refine ⟨c, u', ?_, q2, q3⟩
    rw [List.lookup_cons]
    have ne : (x == n) = false := by
      refine beq_eq_false_iff_ne.mpr fun z => n1 ?_
      rw [← z]
      exact List.mem_of_getElem? e1
    rw [ne]
    exact q1
theorem lookup_mem1 {cl : List (Str × Addr)} {x : Str} (h : x ∈ cl.map (·.1)) : ∃ c, cl.lookup x = some c := by
  obtain ⟨q, hq, e⟩ := List.mem_map.mp h
  obtain ⟨n, c⟩ := q
  cases e
  exact mem_lookup hq
theorem lookup_mem2 {cl : List (Str × Addr)} {x : Str} {c : Addr} (h : cl.lookup x = some c) : c ∈ cl.map (·.2) := List.mem_map.mpr ⟨(x, c), PySem.mem_of_lookup h, rfl⟩
section
variable {P : Program} {w : World} {K : PySem.W.Frag} {mg : Str → Option Value} {base : Heap} {A : Around} {outer : List PySem.Env} {s : Shared} {H : Hp} {L : LamT} {cl : List (Str × Addr)} {vs : List V} {f c' : Addr} {k : Nat}
/-- the cells are the lambda's own now -/
abbrev off (cl : List (Str × Addr)) (H : Hp) : Hp := back (cl.map (·.2)) (fun _ => none) H
theorem off_in {b : Addr} (h : b ∈ cl.map (·.2)) : off cl H b = none := back_in h
theorem off_out {b : Addr} (h : b ∉ cl.map (·.2)) : off cl H b = H b := back_out h
theorem off_none {b : Addr} (h : H b = none) : off cl H b = none := by
  by_cases z : b ∈ cl.map (·.2)
  · exact off_in z
  · rw [off_out z]; exact h
theorem off_ok (hok : HOk P w H s.heap) (C : Cells H cl vs) : HOk P w (off cl H) s.heap := back_ok hok (fun c hc => (C.like c hc).1) (fun _ _ => .inl rfl) fun c _ o z => nomatch z
theorem env0_off (e : Env0 P w K mg base A outer s H) (C : Cells H cl vs) : Env0 P w K mg base A outer s (off cl H) :=
  ⟨e.frames, e.mod, fun b o z => ⟨(e.bs b o z).1, off_none (e.bs b o z).2⟩, e.bsz, e.funs, fun b hb => off_none (e.frf b hb), off_ok e.hok C, e.bare⟩
theorem lam_start {h₁ : Heap} {tk : Nat} {E : XK} (LS : LamOk L) (e0 : Env0 P w K mg base A outer s H) (hd : A.handled = none) (C : Cells H cl vs) (hn : cl.map (·.1) = lamN L.sc) (hi : ∀ x y c, cl.lookup x = some c → cl.lookup y = some c → x = y)
    (hns : h₁.Ns s.heap.objs.size fun y => ([] : List (Str × Value)).reverse.lookup y) (kp : ∀ b o, s.heap.get? b = some o → h₁.get? b = some o) : Inv (lamX P w K mg base L cl f c' A outer s (off cl H) E) [] (vs.map some) (off cl H) { s with heap := h₁, toks := tk } := by
  have e1 := env0_off e0 C
  have nex : ∀ b : Addr, b ∉ (lamX P w K mg base L cl f c' A outer s (off cl H) E).ex := fun b z => absurd (show b ∈ ([] : List Addr) from z) (by simp)
  have free_ : ∀ x, L.sc.names.lookup x = some .free → ∃ c, cl.lookup x = some c := fun x hx => lookup_mem1 (by rw [hn]; exact LS.fr _ (PySem.mem_of_lookup hx) rfl)
  refine ⟨⟨e1.mod, LS.kind, rfl, rfl, Nat.le_refl _, hi, fun x hx => ?_, fun x c z _ => ?_, fun _ => hd, Around.frames_deeper e1.frames, .inr ⟨rfl, rfl⟩, fun b z => absurd z (nex b), e1.bs, e1.bsz, fun b _ _ => nex b, fun b z => absurd z (nex b), e1.funs, e1.frf⟩,
    rfl, e1.bare, Un.kept kp, ⟨_, hns, fun i x v h1 h2 h3 => ?_⟩, fun x c h => ?_, e1.hok.fresh (Nat.le_refl _), fun x c h => off_in (lookup_mem2 h), fun q hq => absurd (show q ∈ ([] : List (Addr × Obj)) ++ [] from hq) (by simp), e1.hok.kept kp, ?_⟩
  · have hx' : L.sc.names.lookup x = some .cell ∨ L.sc.names.lookup x = some .free := hx
    rcases hx' with z | z
    · exact absurd rfl (LS.own _ (PySem.mem_of_lookup z)).2
    · exact free_ x z
  · have z' : false = true := z
    cases z'
  · have h3' : Vis L.sc x := h3
    have hv : vs[i]? = some v := by
      rw [List.getElem?_map] at h2
      cases q : vs[i]? with
      | none => rw [q] at h2; cases h2
      | some a => rw [q] at h2; cases h2; rfl
    rcases h3' with z | z | z
    · exact absurd rfl (LS.own _ (PySem.mem_of_lookup z)).1
    · exact absurd rfl (LS.own _ (PySem.mem_of_lookup z)).2
    · obtain ⟨c, u, q1, q2, o, q3, q4⟩ := C.at_ e0.hok (by rw [hn]; exact LS.nd) (by rw [hn]; exact h1) hv
      exact ⟨u, q2, .inr ⟨.inr z, c, q1, o, kp _ _ q3, q4⟩⟩
  · obtain ⟨u, o, q1, q2⟩ := C.cell e0.hok x c h
    exact ⟨some u, o, kp _ _ q1, q2⟩
  · rw [List.length_map, C.len]
    show cl.length = (lamN L.sc).length
    rw [← hn, List.length_map]
/-- the cells as they stood are told of again -/
theorem on_ok {H' : Hp} {h h' : Heap} (C : Cells H cl vs) (hok : HOk P w H h) (hok' : HOk P w H' h') (k : ∀ c o, c ∈ cl.map (·.2) → h.get? c = some o → h'.get? c = some o ∧ H' c = none) : HOk P w (back (cl.map (·.2)) H H') h' :=
  back_ok hok' (fun c hc => by
    obtain ⟨z | ⟨o, z⟩, n⟩ := C.like c hc
    · exact absurd z n
    · exact .inl (k c o hc (cellO_at hok z)).2) (fun c hc => (C.like c hc).1) fun c hc o z => (k c o hc (cellO_at hok z)).1
theorem run_lam {Q : VK} {E : XK} (LS : LamOk L) (hr : Room (k + 1) A) (hg : A.guards = some []) (e0 : Env0 P w K mg base A outer s H) (hf : H f = some (LamO f L cl c')) (hc : H c' = some (CodeO c' L.q)) (C : Cells H cl vs) (hn : cl.map (·.1) = lamN L.sc) (hi : ∀ x y c, cl.lookup x = some c → cl.lookup y = some c → x = y)
    (hbody : ∀ E', Good k (lamX P w K mg base L cl f c' A outer s (off cl H) E') → (∀ cls d H', ((∀ c ∈ cl.map (·.2), H' c = none) → E cls d (back (cl.map (·.2)) H H')) → E' cls d H') → WE (lamX P w K mg base L cl f c' A outer s (off cl H) E') L.body (vs.map some) (off cl H) fun v H' => Q v (back (cl.map (·.2)) H H')) :
    codeAny (model P w) A (.call (.ref f) ⟨[], []⟩) (CR (L2.CX P w) outer P w H s Q E) s := by
  obtain ⟨pm, ctv, of⟩ := (show ObjOk P w H s.heap f (.ext fun h => ∃ pm ctv, h.get? f = some (PySem.W.kla_obj "<lambda>" L.q L.ps L.body L.sc cl pm c' ctv)) from e0.hok f _ hf).1
  obtain ⟨oc, vs', t, hoc, hdc, hvc⟩ := (show ObjOk P w H s.heap c' (.ext fun h => ∃ (oc : Obj) (vs : Array Value) (t : Tok), h.get? c' = some oc ∧ oc.data = .fields vs ∧ vs[1]? = some (.str L.q t)) from e0.hok c' _ hc).1
  refine PySem.W.kla_callFunE hr.depth of rfl LS.co LS.gen rfl ⟨c', oc, vs', t, rfl, hoc, hdc, hvc⟩ ?_
  rw [LS.bind]
  have lim : s.heap.NoLimit := e0.mod.nolimit.keeps fun b o e => (e0.bs b o e).1
  refine wpAny_pure (wpAny_newFunctionEnv (fun y hy => (LS.own y hy).2) (fun y hy => absurd hy (by simp)) (fun h₁ hns hsb => ⟨lim.fresh _ hsb, ?_⟩) LS.kind)
  have kp : ∀ b o, s.heap.get? b = some o → h₁.get? b = some o := fun b o e => hsb.extBut b o (Nat.ne_of_lt (Heap.lt_size e)) (Heap.get?_push_of_some _ e)
  have e1 := env0_off e0 C
  -- the cells, kept by all that leaves them alone
  have nfr : ∀ c ∈ cl.map (·.2), c ∉ frs outer := fun c hc z => (C.like c hc).2 (e0.frf c z)
  have ncs : ∀ {b : Addr} {u : HO}, H b = some u → (∀ φ, u ≠ .ext φ) → b ∉ cl.map (·.2) := fun {b u} z q hb => (C.like b hb).1.fix q z
  have okE : ∀ e s', L2.CX P w outer (off cl H) s (fun cls d H' => (∀ c ∈ cl.map (·.2), H' c = none) → E cls d (back (cl.map (·.2)) H H')) e s' → L2.CX P w outer H s E e s' := fun e s' z => by
    obtain ⟨a, B, H', cls, d, rfl, fl, hok, ub, na, os, ag, hE⟩ := z
    have kB : ∀ c o, c ∈ cl.map (·.2) → s.heap.get? c = some o → B.get? c = some o ∧ H' c = none := fun c o hc ho => ⟨ub.keep c o ho (off_in hc) (nfr c hc), ub.free c o ho (off_in hc)⟩
    have naC : a ∉ cl.map (·.2) := fun z => by
      obtain ⟨z1 | ⟨o, z1⟩, n⟩ := C.like a z
      · exact n z1
      · have := (kB a o z (cellO_at e0.hok z1)).1
        rw [fl.2.1] at this
        cases this
    refine ⟨a, B, back (cl.map (·.2)) H H', cls, d, rfl, fl, on_ok C e0.hok hok kB, ⟨fun b o q n hb => ub.keep b o q (off_none n) hb, ub.slot, fun b o q n => ?_, ub.there, fun b vs q => ?_, fun b o u q => ?_, fun b ps q => ?_⟩, by rw [back_out naC]; exact na, os, ag, hE fun c hc => ?_⟩
    · rw [back_out fun z => (C.like b z).2 n]; exact ub.free b o q (off_none n)
    · have nb := ncs q (fun _ => nofun)
      rw [back_out nb]; exact ub.tups b vs (by rw [off_out nb]; exact q)
    · have nb := ncs q (fun _ => nofun)
      rw [back_out nb]; exact ub.frzs b o u (by rw [off_out nb]; exact q)
    · have nb := ncs q (fun _ => nofun)
      rw [back_out nb]; exact ub.tbls b ps (by rw [off_out nb]; exact q)
    · obtain ⟨z1 | ⟨o, z1⟩, n⟩ := C.like c hc
      · exact absurd z1 n
      · exact (kB c o hc (cellO_at e0.hok z1)).2
  have g1 : Good k (lamX P w K mg base L cl f c' A outer s (off cl H) (fun cls d H' => (∀ c ∈ cl.map (·.2), H' c = none) → E cls d (back (cl.map (·.2)) H H'))) := ⟨hr.deeper _, hg⟩
  refine PySem.W.kla_codeExpr (wpAny_mono ((peW _ _).run [] _ _ _ _ (lam_start LS e0 hr.hd C hn hi hns kp) (hbody (fun cls d H' => (∀ c ∈ cl.map (·.2), H' c = none) → E cls d (back (cl.map (·.2)) H H')) g1 (fun _ _ _ z => z))) (fun v s' hq => ?_) fun e s' hq => ?_)
  · obtain ⟨u, H', J, rv, q⟩ := hq
    have un : Un (frs outer) [] (off cl H) H' s.heap s'.heap := J.base
    have kB : ∀ c o, c ∈ cl.map (·.2) → s.heap.get? c = some o → s'.heap.get? c = some o ∧ H' c = none := fun c o hc ho => ⟨un.keep c o ho (off_in hc) (nfr c hc) (by simp), un.free c o ho (off_in hc) (by simp)⟩
    refine ⟨u, back (cl.map (·.2)) H H', J.os, J.bare, ⟨fun b o q n hb hx => un.keep b o q (off_none n) hb hx, fun b o q n hb hx => un.slot b o q (off_none n) hb hx, fun b o q n hx => ?_, un.there, fun b vs q => ?_, fun b o u q => ?_, fun b ps q => ?_⟩, on_ok C e0.hok J.hok kB, rv, q⟩
    · rw [back_out fun z => (C.like b z).2 n]; exact un.free b o q (off_none n) hx
    · have nb := ncs q (fun _ => nofun)
      rw [back_out nb]; exact un.tups b vs (by rw [off_out nb]; exact q)
    · have nb := ncs q (fun _ => nofun)
      rw [back_out nb]; exact un.frzs b o u (by rw [off_out nb]; exact q)
    · have nb := ncs q (fun _ => nofun)
      rw [back_out nb]; exact un.tbls b ps (by rw [off_out nb]; exact q)
  · exact wpAny_mono hq (fun _ s'' z => okE _ _ z) fun e' s'' z => okE _ _ z
end

/-! ## .. by plain data -/
mutual
/-- no lambda within, not the pen -/
def plainD : D → Bool
  | .tup ds => plainDs ds
  | .lst ds => plainDs ds
  | .dK _ ds => plainDs ds
  | .dT _ ds => plainDs ds
  | .ins _ _ ds => plainDs ds
  | .pen => false
  | .lam _ _ => false
  | .clo _ _ => false
  | .xo _ _ _ => false
  | _ => true
def plainDs : List D → Bool
  | [] => true
  | d :: ds => plainD d && plainDs ds
end
structure KeepsP (ok : Addr → Prop) (H H' : Hp) : Prop where
  t : ∀ a vs, H a = some (.tup vs) → H' a = some (.tup vs)
  l : ∀ a vs, ok a → H a = some (.lst vs) → H' a = some (.lst vs)
  k : ∀ a vs, ok a → Rd H a (.dK vs) → Rd H' a (.dK vs)
  d : ∀ a vs, ok a → Rd H a (.dT vs) → Rd H' a (.dT vs)
  i : ∀ a C dx fs, ok a → H a = some (.ins C dx fs) → H' a = some (.ins C dx fs)
mutual
theorem Rep.plain {Γ Γ' : Sig} {ok ok' : Addr → Prop} {H H' : Hp} (hg : Γ'.mg = Γ.mg) (h : KeepsP ok H H') (w : ∀ a, ok a → H a ≠ none → ok' a) : ∀ (d : D) (v : V), plainD d = true → Rep Γ ok H v d → Rep Γ' ok' H' v d
  | .non, _, _, r => by cases r; exact .non
  | .bl _, _, _, r => by cases r; exact .bl _
  | .int _, _, _, r => by cases r; exact .int _
  | .str _, _, _, r => by cases r; exact .str _
  | .tup ds, _, p, r => by
    cases r with
    | tup h2 h3 => exact .tup (h.t _ _ h2) (Reps.plain hg h w ds _ (by simpa only [plainD] using p) h3)
  | .lst ds, _, p, r => by
    cases r with
    | lst h1 h2 h3 => exact .lst (w _ h1 (by rw [h2]; exact nofun)) (h.l _ _ h1 h2) (Reps.plain hg h w ds _ (by simpa only [plainD] using p) h3)
  | .dK ks ds, _, p, r => by
    cases r with
    | dK h1 h2 h3 => exact .dK (w _ h1 (Rd.ne h2)) (h.k _ _ h1 h2) (Reps.plain hg h w ds _ (by simpa only [plainD] using p) h3)
  | .dT ks ds, _, p, r => by
    cases r with
    | dT h1 h2 h3 => exact .dT (w _ h1 (Rd.ne h2)) (h.d _ _ h1 h2) (Reps.plain hg h w ds _ (by simpa only [plainD] using p) h3)
  | .ins c ns ds, _, p, r => by
    cases r with
    | ins h1 h2 h3 h4 => exact .ins (w _ h1 (by rw [h3]; exact nofun)) (by rw [hg]; exact h2) (h.i _ _ _ _ h1 h3) (Reps.plain hg h w ds _ (by simpa only [plainD] using p) h4)
  | .pen, _, p, r => by simp [plainD] at p
  | .glo _, _, _, r => by
    cases r with
    | glo h1 => exact .glo (by rw [hg]; exact h1)
  | .ty _, _, _, r => by cases r; exact .ty _
  | .lam _ _, _, p, r => by simp [plainD] at p
  | .clo _ _, _, p, r => by simp [plainD] at p
  | .xo _ _ _, _, p, r => by simp [plainD] at p
theorem Reps.plain {Γ Γ' : Sig} {ok ok' : Addr → Prop} {H H' : Hp} (hg : Γ'.mg = Γ.mg) (h : KeepsP ok H H') (w : ∀ a, ok a → H a ≠ none → ok' a) : ∀ (ds : List D) (vs : List V), plainDs ds = true → Reps Γ ok H vs ds → Reps Γ' ok' H' vs ds
  | [], _, _, r => by cases r; exact .nil
  | d :: ds, _, p, r => by
    have p' : plainD d = true ∧ plainDs ds = true := by simpa only [plainDs, Bool.and_eq_true] using p
    cases r with
    | cons h1 h2 => exact .cons (Rep.plain hg h w d _ p'.1 h1) (Reps.plain hg h w ds _ p'.2 h2)
end
def runC (G : Nat → S → Res (S × D)) (j : Nat) (ds : List D) : Res (S × D) := G j ⟨ds.map .fz, none⟩
def eClo (G : Nat → S → Res (S × D)) (f : S → Res (S × D)) (s : S) : Res (S × D) := f s >>= fun (_, d) => match d with
  | .clo j ds => if plainDs ds = true then (match runC G j ds with
    | .exn c ns es => if plainDs es = true then .exn c ns es else .stuck
    | _ => .stuck) else .stuck
  | _ => .stuck
/-- each lambda does what G says -/
structure LamsDo (P : Program) (w : World) (K : PySem.W.Frag) (mg : Str → Option Value) (base : Heap) (k : Nat) (G : Nat → S → Res (S × D)) : Prop where
  ok : ∀ j ds, runC G j ds ≠ .stuck → LamOk (Tab.tab j)
  does : ∀ j ds, runC G j ds ≠ .stuck → ∀ cl f c' A outer s H E', Good k (lamX P w K mg base (Tab.tab j) cl f c' A outer s H E') → EE (lamX P w K mg base (Tab.tab j) cl f c' A outer s H E') (Tab.tab j).body (G j)
end SM

set_option Elab.async false
set_option linter.all false
set_option maxRecDepth 100000
set_option maxHeartbeats 4000000
namespace SM
variable [Tab]
open PySem PySem.Spec PyProof.Rows L2 LamX

section
variable {X : Cx} {G : Nat → S → Res (S × D)} {k : Nat} {a : Str} {p1 p2 : Pos}
theorem tab_off {P : Program} {w : World} {H : Hp} {h : Heap} {cl : List (Str × Addr)} {vs : List V} {T : Addr} {q : Str} (hok : HOk P w H h) (C : Cells H cl vs) (t : TabS H T q) : TabS (off cl H) T q := by
  obtain ⟨ps, h1, h2, h3⟩ := t
  refine ⟨ps, (off_out fun hb => ?_).trans h1, h2, fun pos cv hc => ?_⟩
  · obtain ⟨o, u, w1, _⟩ := C.data T hb
    rw [h1] at w1; cases w1
  · obtain ⟨c, e1, e2⟩ := h3 pos cv hc
    refine ⟨c, e1, (off_out fun hb => ?_).trans e2⟩
    · obtain ⟨o, u, w1, w2⟩ := C.data c hb
      obtain ⟨oc, ws, t, y1, y2, y3⟩ := (show ObjOk P w H h c (.ext fun h => ∃ (oc : Obj) (vs : Array Value) (t : Tok), h.get? c = some oc ∧ oc.data = .fields vs ∧ vs[1]? = some (.str q t)) from hok c _ e2).1
      rw [cellO_at hok w1] at y1
      cases y1
      rw [w2] at y2
      cases y2
theorem ee_clo (HL : LamsDo X.prog X.w X.K X.mg X.base k G) (g : Good (k + 1) X) (i : Nat) (hN : X.N[i]? = some a := by rfl) (hv : Vis X.env.scope a := by first | exact Or.inl rfl | exact Or.inr (Or.inl rfl) | exact Or.inr (Or.inr rfl)) (hd : (a == ("__debug__" : Str)) = false := by decide)
    (hcd : (a == ("__classdict__" : Str)) = false := by decide) : EE X (.Call (.Name a p1) [] [] p2) (eClo G (eVar i)) := by
  intro p m B okA s σ H W Q tk hm E hp
  refine we_mk fun pins s0 I => ?_
  unfold eClo at hp
  -- the closure in the slot
  cases hs : s.sl[i]? with
  | none => unfold eVar at hp; rw [hs] at hp; exact (show False from hp).elim
  | some sl =>
    cases sl with
    | no => unfold eVar at hp; rw [hs] at hp; exact (show False from hp).elim
    | ow d =>
      unfold eVar at hp
      rw [hs] at hp
      obtain ⟨b, _, _, _, q4⟩ := E.ow i d hs
      cases q4 <;> exact (show False from hp).elim
    | fz d =>
      unfold eVar at hp
      rw [hs] at hp
      cases d with
      | clo j ds =>
        have hp1 : Post KV' (sg X p) m B okA W σ s H Q (if plainDs ds = true then (match runC G j ds with
          | .exn c ns es => if plainDs es = true then .exn c ns es else .stuck
          | _ => .stuck) else .stuck) := hp
        by_cases hpl : plainDs ds = true
        case neg => rw [if_neg hpl] at hp1; exact (show False from hp1).elim
        rw [if_pos hpl] at hp1
        cases hr : runC G j ds with
        | ok z => rw [hr] at hp1; exact (show False from hp1).elim
        | stuck => rw [hr] at hp1; exact (show False from hp1).elim
        | exn c ns es =>
          rw [hr] at hp1
          dsimp only at hp1
          by_cases hpe : plainDs es = true
          case neg => rw [if_neg hpe] at hp1; exact (show False from hp1).elim
          rw [if_pos hpe] at hp1
          have nst : runC G j ds ≠ .stuck := by rw [hr]; exact nofun
          obtain ⟨v, h1, h2⟩ := E.fz i _ hs
          cases h2 with
          | @clo f c' cl vs _ _ hf hc hn hi C rs =>
            refine wpAny_Call_Name_kw (thn ((pv (pos := p1) i hN hv hd hcd).run pins s0 σ H (fun v H1 => v = .ref f ∧ H1 = H) I ⟨.ref f, h1, rfl, rfl⟩) fun u s1 ⟨v, H1, I1, r1, q1⟩ => ?_)
            obtain ⟨ev, eH⟩ := q1
            subst ev eH
            obtain rfl : u = Value.ref f := r1
            obtain ⟨pm, ctv, of⟩ := (show ObjOk X.prog X.w H1 s1.heap f (.ext fun h => ∃ pm ctv, h.get? f = some (PySem.W.kla_obj "<lambda>" (Tab.tab j).q (Tab.tab j).ps (Tab.tab j).body (Tab.tab j).sc cl pm c' ctv)) from I1.hok f _ hf).1
            refine PySem.W.callWith_F0 ⟨_, _, _, _, of⟩ (wpAny_call (codeAny_mono (run_lam (k := k) (Q := fun _ _ => False) (E := fun cls d H' => W cls d σ H') (HL.ok j ds nst) g.room g.guards I1.env0 hf hc C hn hi fun E' gE hE' => ?_) fun fl s' hq => ?_))
            · refine HL.does j ds nst cl f c' _ _ s1 _ E' gE none none (fun _ => none) (fun b => Ok (sg X p) okA s σ b ∨ b ∈ cl.map (·.2)) ⟨ds.map .fz, none⟩ (vs.map some) (off cl H1) (fun cls d _ H => E' cls d H) _ lamX_takes (.inl rfl) ?_ ?_
              · have no : ∀ j b, ¬ OwnAt ⟨ds.map Sl.fz, none⟩ (vs.map some) j b := fun j b ⟨⟨d, q⟩, _⟩ => by
                  have q' : (ds.map Sl.fz)[j]? = some (.ow d) := q
                  rw [List.getElem?_map] at q'
                  cases z : ds[j]? with
                  | none => rw [z] at q'; cases q'
                  | some e => rw [z] at q'; cases q'
                have kk : KeepsP (Ok (sg X p) okA s σ) H1 (off cl H1) := by
                  have ne : ∀ {b : Addr} {u : HO}, H1 b = some u → (∀ φ, u ≠ .ext φ) → off cl H1 b = some u := fun {b u} z q => by
                    rw [off_out fun hb => (C.like b hb).1.fix q z]; exact z
                  refine ⟨fun b ws z => ne z (fun _ => nofun), fun b ws _ z => ne z (fun _ => nofun), fun b ws _ z => ?_, fun b ws _ z => ?_, fun b C' dx fs _ z => ne z (fun _ => nofun)⟩
                  all_goals
                    rcases z with z | ⟨o, z⟩
                    · exact .inl (ne z (fun _ => nofun))
                    · exact .inr ⟨o, ne z (fun _ => nofun)⟩
                refine ⟨by show (ds.map Sl.fz).length = (vs.map some).length; rw [List.length_map, List.length_map]; exact rs.length.symm, .inl rfl, ⟨fun _ _ _ _ z => (nomatch z), fun _ _ z => (nomatch z), fun _ z => absurd rfl z, fun P' ⟨_, z, _⟩ => (nomatch z), fun _ _ z => (nomatch z)⟩, fun j b q => absurd q (no j b), fun q hq => ?_, fun j d q => ?_, fun j d q => ?_, fun j l b q => absurd q (no j b), True.intro, fun q hq => (nomatch hq), fun P' hP => tab_off I1.hok C (E.tb P' hP)⟩
                · by_cases z : q ∈ cl.map (·.2)
                  · exact .inr z
                  · rw [off_out z] at hq; exact .inl (E.okNew hq)
                · have q' : (ds.map Sl.fz)[j]? = some (.fz d) := q
                  rw [List.getElem?_map] at q'
                  cases z : ds[j]? with
                  | none => rw [z] at q'; cases q'
                  | some e =>
                    rw [z] at q'
                    cases q'
                    have rs' := Reps.plain (Γ := sg X p) (Γ' := sg (lamX X.prog X.w X.K X.mg X.base (Tab.tab j) cl f c' X.A X.stack s1 (off cl H1) E') none) (ok' := Ok (sg (lamX X.prog X.w X.K X.mg X.base (Tab.tab j) cl f c' X.A X.stack s1 (off cl H1) E') none) (fun b => Ok (sg X p) okA s σ b ∨ b ∈ cl.map (·.2)) ⟨ds.map Sl.fz, none⟩ (vs.map some)) rfl kk (fun b hb _ => ⟨.inl hb, nofun, fun j => no j b⟩) ds vs hpl rs
                    obtain ⟨v, g1, g2⟩ := rs'.get z
                    exact ⟨v, by rw [List.getElem?_map, g1]; rfl, g2⟩
                · have q' : (ds.map Sl.fz)[j]? = some (.ow d) := q
                  rw [List.getElem?_map] at q'
                  cases z : ds[j]? with
                  | none => rw [z] at q'; cases q'
                  | some e => rw [z] at q'; cases q'
              · have hr' : G j ⟨ds.map .fz, none⟩ = .exn c ns es := hr
                rw [hr']
                intro C' dd fs H' e hdd hC' hx hns fr rs'
                refine hE' _ _ _ fun hcells => ?_
                have out : ∀ {b : Addr}, H' b ≠ none → b ∉ cl.map (·.2) := fun z hb => z (hcells _ hb)
                have bk : ∀ {b : Addr}, H' b ≠ none → back (cl.map (·.2)) H1 H' b = H' b := fun z => back_out (out z)
                have nf : ∀ {b : Addr} {u : HO}, H1 b = some u → (∀ φ, u ≠ .ext φ) → b ∉ cl.map (·.2) := fun {b u} z q hb => (C.like b hb).1.fix q z
                have ex : Ext none H1 (back (cl.map (·.2)) H1 H') := by
                  have all : ∀ b u, H1 b = some u → Fix u → back (cl.map (·.2)) H1 H' b = some u := fun b u z f => by
                    by_cases hb : b ∈ cl.map (·.2)
                    · rw [back_in hb]; exact z
                    · rw [back_out hb]; exact e.o b u nofun f (by rw [off_out hb]; exact z)
                  refine ⟨fun b u _ f z => all b u z f, fun b ws z => all b _ z (fun _ => nofun), fun b z => ?_, fun P' t => ?_, fun b φ z => all b _ z (fun _ => nofun)⟩
                  · by_cases hb : b ∈ cl.map (·.2)
                    · rw [back_in hb]; exact z
                    · rw [back_out hb]; exact e.n b (by rw [off_out hb]; exact z)
                  · exact (e.tb P' (tab_off I1.hok C t)).ext fun b u z => by rw [bk (by rw [z]; exact nofun)]; exact z
                refine hp1 C' dd fs _ ex.low ?_ hC' (by rw [bk (by rw [hx]; exact nofun)]; exact hx) hns (fun q hq => ?_) ?_
                · have z : dd ∉ cl.map (·.2) := out (by rw [hx]; exact nofun)
                  rw [off_out z] at hdd; exact hdd
                · by_cases hb : q ∈ cl.map (·.2)
                  · rw [back_in hb] at hq; exact hq
                  · rw [back_out hb] at hq
                    have := fr q hq
                    rw [off_out hb] at this; exact this
                · refine Reps.plain (Γ := sg (lamX X.prog X.w X.K X.mg X.base (Tab.tab j) cl f c' X.A X.stack s1 (off cl H1) E') none) (Γ' := sg X p) rfl ?_ (fun b hb n => ?_) es _ hpe rs'
                  · have ne : ∀ {b : Addr} {u : HO}, H' b = some u → back (cl.map (·.2)) H1 H' b = some u := fun {b u} z => by rw [bk (by rw [z]; exact nofun)]; exact z
                    refine ⟨fun b ws z => ne z, fun b ws _ z => ne z, fun b ws _ z => ?_, fun b ws _ z => ?_, fun b C' dx fs _ z => ne z⟩
                    all_goals
                      rcases z with z | ⟨o, z⟩
                      · exact .inl (ne z)
                      · exact .inr ⟨o, ne z⟩
                  · rcases hb.1 with z | z
                    · exact ⟨z.1, z.2.1⟩
                    · exact absurd z (out n)
            · match fl, hq with
              | .error e, hq => exact tk e s' (XE.of_call I1 (fun _ _ _ z => z) hq)
              | .ok (.ret u), hq =>
                obtain ⟨_, _, _, _, _, _, _, q⟩ := hq
                exact q.elim
              | .ok .next, hq => exact hq.elim
              | .ok .brk, hq => exact hq.elim
              | .ok .cont, hq => exact hq.elim
      | _ => exact (show False from hp).elim
end

/-! ## closures are handed on -/
def ixOf (n : Str) : List Str → Option Nat
  | [] => none
  | x :: r => if x = n then some 0 else (ixOf n r).map (· + 1)
theorem ixOf_at {n : Str} : ∀ {N : List Str} {i : Nat}, ixOf n N = some i → N[i]? = some n
  | [], i, h => by cases h
  | x :: r, i, h => by
    unfold ixOf at h
    split at h
    · rename_i e; cases h; simp [e]
    · cases q : ixOf n r with
      | none => rw [q] at h; cases h
      | some k => rw [q] at h; cases h; simpa using ixOf_at q
def capD (N : List Str) (s : S) : List Str → Option (List D)
  | [] => some []
  | n :: r => match ixOf n N with
    | none => none
    | some i => match s.sl[i]? with
      | some (.fz d) => if plainD d = true then (capD N s r).map (d :: ·) else none
      | _ => none
mutual
def closeD (N : List Str) (nl : Nat) (cs : List (Str × Addr)) (s : S) : D → Option D
  | .lam j cs' => if j < nl ∧ cs' = cs then (capD N s (lamN (Tab.tab j).sc)).map (.clo j) else none
  | .tup ds => (closeDs N nl cs s ds).map .tup
  | .lst ds => (closeDs N nl cs s ds).map .lst
  | .clo _ _ => none
  | .xo _ _ _ => none
  | .pen => none
  | .non => some .non
  | .bl b => some (.bl b)
  | .int i => some (.int i)
  | .str x => some (.str x)
  | .dK ks ds => if plainDs ds = true then some (.dK ks ds) else none
  | .dT ks ds => if plainDs ds = true then some (.dT ks ds) else none
  | .ins c ns ds => if plainDs ds = true then some (.ins c ns ds) else none
  | .glo x => some (.glo x)
  | .ty n => some (.ty n)
def closeDs (N : List Str) (nl : Nat) (cs : List (Str × Addr)) (s : S) : List D → Option (List D)
  | [] => some []
  | d :: ds => match closeD N nl cs s d, closeDs N nl cs s ds with
    | some d', some ds' => some (d' :: ds')
    | _, _ => none
end
theorem clo_names (cs : List (Str × Addr)) : ∀ (ns : List (Str × NameKind)) (acc acc' : List (Str × Addr)), acc.map (·.1) = acc'.map (·.1) → (cloFrom cs ns acc).map (·.1) = (cloFrom [] ns acc').map (·.1)
  | [], _, _, h => h
  | (n, k) :: r, acc, acc', h => by
    unfold cloFrom
    split
    · exact clo_names cs r _ _ (by simp [h])
    · exact clo_names cs r _ _ h
section
variable {X : Cx} {pins : List (Addr × Obj)} {p m : Option Addr} {B : Hp} {okA : Addr → Prop} {s : S} {σ : L2.St} {H : Hp} {s0 : Shared} {nl : Nat}
abbrev cadr (X : Cx) : List Addr := X.N.filterMap fun n => X.env.cells.lookup n
abbrev onH (X : Cx) (s0 : Shared) (H : Hp) : Hp := back (cadr X) (fun b => (s0.heap.get? b).map (CellO b)) H
theorem cadr_mem {c : Addr} (h : c ∈ cadr X) : ∃ n, X.env.cells.lookup n = some c := by
  obtain ⟨n, _, e⟩ := List.mem_filterMap.mp h
  exact ⟨n, e⟩
theorem onH_of (I : Inv X pins σ H s0) {b : Addr} {u : HO} (h : H b = some u) : onH X s0 H b = some u := by
  refine (back_out fun hb => ?_).trans h
  obtain ⟨n, e⟩ := cadr_mem hb
  rw [I.freeC n b e] at h
  cases h
theorem onH_same (I : Inv X pins σ H s0) : Same H (onH X s0 H) := fun _ _ h => onH_of I h
theorem onH_keeps (I : Inv X pins σ H s0) (ok : Addr → Prop) : KeepsP ok H (onH X s0 H) := by
  refine ⟨fun a vs h => onH_of I h, fun a vs _ h => onH_of I h, fun a vs _ h => ?_, fun a vs _ h => ?_, fun a C dx fs _ h => onH_of I h⟩
  all_goals
    rcases h with h | ⟨o, h⟩
    · exact .inl (onH_of I h)
    · exact .inr ⟨o, onH_of I h⟩
/-- the captured values, the cells -/
theorem cap_ok (I : Inv X pins σ H s0) (E : Env (sg X p) m B okA s σ H) : ∀ (cl : List (Str × Addr)) (ds : List D), (∀ q ∈ cl, X.env.cells.lookup q.1 = some q.2 ∧ (X.env.kindOf q.1 = some .cell ∨ X.env.kindOf q.1 = some .free)) → capD X.N s (cl.map (·.1)) = some ds →
    ∃ vs, Cells (onH X s0 H) cl vs ∧ Reps (sg X p) (Ok (sg X p) okA s σ) (onH X s0 H) vs ds
  | [], ds, _, h => by cases h; exact ⟨[], .nil, .nil⟩
  | (n, c) :: cl, ds, hq, h => by
    simp only [List.map_cons, capD] at h
    cases hi : ixOf n X.N with
    | none => rw [hi] at h; cases h
    | some i =>
      rw [hi] at h
      dsimp only at h
      cases hs : s.sl[i]? with
      | none => rw [hs] at h; cases h
      | some sl =>
        rw [hs] at h
        cases sl with
        | fz d =>
          dsimp only at h
          by_cases hp : plainD d = true
          · rw [if_pos hp] at h
            cases hc : capD X.N s (cl.map (·.1)) with
            | none => rw [hc] at h; cases h
            | some ds2 =>
              rw [hc] at h
              cases h
              obtain ⟨vs, c1, c2⟩ := cap_ok I E cl ds2 (fun q z => hq q (List.mem_cons_of_mem _ z)) hc
              obtain ⟨v, v1, v2⟩ := E.fz i d hs
              obtain ⟨e1, e2⟩ := hq (n, c) (by simp)
              obtain ⟨mm, _, hl⟩ := I.loc
              obtain ⟨u, ru, look⟩ := hl i n v (ixOf_at hi) v1 (.inr e2)
              rcases look with ⟨z, _⟩ | ⟨_, c', e', o, ho, hd⟩
              · rcases e2 with e2 | e2 <;> rw [z] at e2 <;> cases e2
              · rw [e1] at e'
                cases e'
                have hc : c ∈ cadr X := List.mem_filterMap.mpr ⟨n, List.mem_of_getElem? (ixOf_at hi), e1⟩
                refine ⟨v :: vs, .cons (o := o) (u := u) ?_ hd ru c1, .cons (Rep.plain (Γ := sg X p) rfl (onH_keeps I _) (fun b h _ => h) d v hp v2) c2⟩
                show back (cadr X) _ H c = _
                rw [back_in hc, ho]
                rfl
          · rw [if_neg hp] at h; cases h
        | _ => cases h
theorem plain_on (I : Inv X pins σ H s0) {d : D} {v : V} (hp : plainD d = true) (r : Rep (sg X p) (Ok (sg X p) okA s σ) H v d) : Rep (sg X p) (Ok (sg X p) okA s σ) (onH X s0 H) v d := Rep.plain (Γ := sg X p) rfl (onH_keeps I _) (fun b h _ => h) d v hp r
mutual
theorem close_ok (I : Inv X pins σ H s0) (E : Env (sg X p) m B okA s σ H) (hL : ∀ j, j < nl → LamS X.env.scope (Tab.tab j).sc) : ∀ (d d' : D) (v : V), closeD X.N nl X.env.cells s d = some d' → Rep (sg X p) (Ok (sg X p) okA s σ) H v d → Rep (sg X p) (Ok (sg X p) okA s σ) (onH X s0 H) v d'
  | .lam j cs, d', v, h, r => by
    simp only [closeD] at h
    by_cases hc : j < nl ∧ cs = X.env.cells
    · rw [if_pos hc] at h
      obtain ⟨hj, rfl⟩ := hc
      cases r with
      | @lam a c' _ _ h2 h4 =>
        cases hcap : capD X.N s (lamN (Tab.tab j).sc) with
        | none => rw [hcap] at h; cases h
        | some ds =>
          rw [hcap] at h
          cases h
          have LS := hL j hj
          have hn : (cloFrom X.env.cells (Tab.tab j).sc.names []).map (·.1) = lamN (Tab.tab j).sc := clo_names _ _ _ _ rfl
          have mem : ∀ q ∈ cloFrom X.env.cells (Tab.tab j).sc.names [], X.env.cells.lookup q.1 = some q.2 ∧ (X.env.kindOf q.1 = some .cell ∨ X.env.kindOf q.1 = some .free) := fun q hq => by
            obtain ⟨n, c⟩ := q
            rcases cloFrom_mem hq with z | ⟨z1, z2⟩
            · cases z
            · obtain ⟨c1, e1⟩ := LS.has I.ok _ z1 rfl
              have e1 : X.env.cells.lookup n = some c1 := e1
              refine ⟨by rw [z2, e1] <;> rfl, LS.free _ z1 rfl⟩
          rw [← hn] at hcap
          obtain ⟨vs, c1, c2⟩ := cap_ok I E _ ds mem hcap
          refine .clo j (onH_of I h2) (onH_of I h4) hn (fun x y c e1 e2 => ?_) c1 c2
          exact I.ok.inj x y c (mem (x, c) (PySem.mem_of_lookup e1)).1 (mem (y, c) (PySem.mem_of_lookup e2)).1
    · rw [if_neg hc] at h; cases h
  | .tup ds, d', v, h, r => by
    simp only [closeD] at h
    cases q : closeDs X.N nl X.env.cells s ds with
    | none => rw [q] at h; cases h
    | some ds' =>
      rw [q] at h; cases h
      cases r with
      | tup h2 h3 => exact .tup (onH_of I h2) (closes_ok I E hL ds ds' _ q h3)
  | .lst ds, d', v, h, r => by
    simp only [closeD] at h
    cases q : closeDs X.N nl X.env.cells s ds with
    | none => rw [q] at h; cases h
    | some ds' =>
      rw [q] at h; cases h
      cases r with
      | lst h1 h2 h3 => exact .lst h1 ((onH_keeps I (fun _ => True)).l _ _ True.intro h2) (closes_ok I E hL ds ds' _ q h3)
  | .clo _ _, _, _, h, _ => by simp [closeD] at h
  | .xo _ _ _, _, _, h, _ => by simp [closeD] at h
  | .pen, _, _, h, _ => by simp [closeD] at h
  | .non, _, _, h, r => by simp only [closeD] at h; cases h; exact plain_on I rfl r
  | .bl _, _, _, h, r => by simp only [closeD] at h; cases h; exact plain_on I rfl r
  | .int _, _, _, h, r => by simp only [closeD] at h; cases h; exact plain_on I rfl r
  | .str _, _, _, h, r => by simp only [closeD] at h; cases h; exact plain_on I rfl r
  | .glo _, _, _, h, r => by simp only [closeD] at h; cases h; exact plain_on I rfl r
  | .ty _, _, _, h, r => by simp only [closeD] at h; cases h; exact plain_on I rfl r
  | .dK ks ds, _, _, h, r => by
    simp only [closeD] at h
    split at h
    · rename_i hp; cases h; exact plain_on I (by simpa only [plainD] using hp) r
    · cases h
  | .dT ks ds, _, _, h, r => by
    simp only [closeD] at h
    split at h
    · rename_i hp; cases h; exact plain_on I (by simpa only [plainD] using hp) r
    · cases h
  | .ins c ns ds, _, _, h, r => by
    simp only [closeD] at h
    split at h
    · rename_i hp; cases h; exact plain_on I (by simpa only [plainD] using hp) r
    · cases h
theorem closes_ok (I : Inv X pins σ H s0) (E : Env (sg X p) m B okA s σ H) (hL : ∀ j, j < nl → LamS X.env.scope (Tab.tab j).sc) : ∀ (ds ds' : List D) (vs : List V), closeDs X.N nl X.env.cells s ds = some ds' → Reps (sg X p) (Ok (sg X p) okA s σ) H vs ds → Reps (sg X p) (Ok (sg X p) okA s σ) (onH X s0 H) vs ds'
  | [], _, _, h, r => by cases r; simp only [closeDs] at h; cases h; exact .nil
  | d :: ds, _, _, h, r => by
    simp only [closeDs] at h
    cases q1 : closeD X.N nl X.env.cells s d with
    | none => rw [q1] at h; cases h
    | some d' =>
      cases q2 : closeDs X.N nl X.env.cells s ds with
      | none => rw [q1, q2] at h; cases h
      | some ds' =>
        rw [q1, q2] at h; cases h
        cases r with
        | cons r1 r2 => exact .cons (close_ok I E hL d d' _ q1 r1) (closes_ok I E hL ds ds' _ q2 r2)
end
end
/-- a def that gets closures, and answers with a truth value -/
def eDue (N : List Str) (nl : Nat) (cs : List (Str × Addr)) (F : List D → Res D) (f : S → Res (S × D)) (s : S) : Res (S × D) := do
  let (s1, d) ← f s
  match closeD N nl cs s1 d with
  | none => .stuck
  | some d' => match F [d'] with
    | .ok (.bl b) => .ok (s1, .bl b)
    | _ => .stuck
section
variable {X : Cx} {k : Nat} {f : Addr} {fd : FuncData} {ps : List Str} {x : Str} {pos pp : Pos} {e : Expr} {fe : S → Res (S × D)} {F : List D → Res D} {nl : Nat}
theorem ee_due (G : FnG X.prog X.w X.K X.mg X.base k f fd ps (spF X.K X.mg 1 F)) (g : Good k X) (hfn : ∀ y, X.fn y = true) (hL : ∀ j, j < nl → LamS X.env.scope (Tab.tab j).sc) (hg : Gl X x) (hmg : X.mg x = some (.ref f)) (hk : PySem.W.keepIn X.K (.ref f) = true) (hb : Binds X.K fd ps [])
    (ha : EE X e fe) (hdb : (x == ("__debug__" : Str)) = false := by decide) (he : starEach [e] X.env = (false, eval e X.env) :: starEach [] X.env := by rfl) (hpl : (backTo pos (starEach [] X.env)).any (·.1) = false := by rfl) :
    EE X (.Call (.Name x pp) [e] [] pos) (eDue X.N nl X.env.cells F fe) := by
  intro p m B okA s σ H W Q tk hm E hp
  refine we_mk fun pins s0 I => ?_
  refine wpAny_Call_Name_kw (ld_glob I hg hmg ?_ hdb)
  have hA : PA X [e] (tCons (WE X e) tNil) := pa_cons (peW X e) pa_nil he
  refine PySem.W.callWith_K (h₀ := X.base) I.ok.mod.kin hk (thn (hA.run pos pins s0 σ H (fun vs H1 => ∀ pins s1 us, Inv X pins σ H1 s1 → Vals vs us → wpAny (model X.prog X.w) X.A (call (.ref f) us) (EP X pins σ Q) X.xe s1) I ?_) fun us s1 ⟨vs, H1, I1, r, q⟩ => ⟨I1.kIn, q pins s1 us I1 r⟩) he hpl
  show WE X e σ H fun v H1 => ∀ pins s1 us, Inv X pins σ H1 s1 → Vals [v] us → wpAny (model X.prog X.w) X.A (call (.ref f) us) (EP X pins σ Q) X.xe s1
  refine Does.bind ha tk hm E hp fun s1 d v H1 e1 l1 E1 r1 p1 => ?_
  intro pins s2 us I2 rv
  dsimp only at p1
  cases hc : closeD X.N nl X.env.cells s1 d with
  | none => rw [hc] at p1; exact p1.elim
  | some d' =>
    rw [hc] at p1
    dsimp only at p1
    cases hF : F [d'] with
    | exn c ns es => rw [hF] at p1; exact (show False from p1).elim
    | stuck => rw [hF] at p1; exact (show False from p1).elim
    | ok z =>
      cases z with
      | bl b =>
        rw [hF] at p1
        have p2 : Post KV' (sg X p) m B okA W σ s1 H1 Q (.ok (s1, .bl b)) := p1
        have rc := close_ok I2 E1 hL d d' v hc r1
        have nC : ∀ c ∈ cadr X, H1 c = none ∧ X.s_0.heap.objs.size ≤ c ∧ c ≠ X.env.locals := fun c hc => by
          obtain ⟨n, en⟩ := cadr_mem hc
          exact ⟨I2.freeC n c en, I2.ok.cab n c (hfn n) en, I2.cne n c en⟩
        have cO : ∀ c ∈ cadr X, ∃ o, s2.heap.get? c = some o ∧ onH X s2 H1 c = some (CellO c o) := fun c hc => by
          obtain ⟨n, en⟩ := cadr_mem hc
          obtain ⟨w', o, ho, hd⟩ := I2.cell n c en
          exact ⟨o, ho, by show back (cadr X) _ H1 c = _; rw [back_in hc, ho]; rfl⟩
        have hokN : HOk X.prog X.w (onH X s2 H1) s2.heap := back_ok I2.hok (fun c hc => .inl (nC c hc).1) (fun c hc => by
          obtain ⟨o, ho, _⟩ := cO c hc
          exact .inr ⟨o, by rw [ho]; rfl⟩) fun c hc o z => by
          obtain ⟨o', ho, _⟩ := cO c hc
          rw [ho] at z
          have z' : some (CellO c o') = some (CellO c o) := z
          have z2 : (fun h : Heap => h.get? c = some o') = fun h : Heap => h.get? c = some o := HO.ext.inj (Option.some.inj z')
          rw [← congrFun z2 s2.heap]
          exact ho
        have e0 := I2.env0
        have nst : ∀ c ∈ cadr X, c ∉ frs X.stack := fun c hc z => by
          rcases List.mem_cons.mp (I2.stkSub c z) with y | y
          · exact (nC c hc).2.2 y
          · obtain ⟨_, o, ho, _⟩ := I2.ok.funs.mem y
            exact absurd (Nat.lt_of_lt_of_le (Heap.lt_size ho) (nC c hc).2.1) (Nat.lt_irrefl _)
        have eN : Env0 X.prog X.w X.K X.mg X.base X.A X.stack s2 (onH X s2 H1) := ⟨e0.frames, e0.mod, fun b o z => ⟨(e0.bs b o z).1, by
            rw [show onH X s2 H1 b = H1 b from back_out fun hb => ?_]
            · exact (e0.bs b o z).2
            · exact absurd (Nat.lt_of_lt_of_le (Heap.lt_size z) (Nat.le_trans I2.ok.bsz (nC b hb).2.1)) (Nat.lt_irrefl _)⟩, e0.bsz, e0.funs, fun b hb => by
            rw [show onH X s2 H1 b = H1 b from back_out fun hc => nst b hc hb]
            exact e0.frf b hb, hokN, e0.bare⟩
        have hsp : spF X.K X.mg 1 F [v] (onH X s2 H1) (fun w H' => w = .bl b ∧ Ext none (onH X s2 H1) H' ∧ ∀ a, H' a = none → onH X s2 H1 a = none) (fun _ _ _ => False) := by
          refine ⟨rfl, p, none, Ok (sg X p) okA s1 σ, [d'], none, .inr rfl, .inl rfl, fun a h => E1.okNew ?_, fun a h z => ?_, fun P hP => (E1.tb P hP).ext fun b o h => onH_of I2 h, .cons (Rep.mono (Keeps.refl _ _) (fun a h _ => ⟨h, h.2.1⟩) _ _ rc) .nil, True.intro, ?_⟩
          · cases q : H1 a with
            | none => rfl
            | some o => rw [onH_of I2 q] at h; cases h
          · cases q : H1 a with
            | none => exact E1.pn a h q
            | some o => rw [onH_of I2 q] at z; cases z
          · unfold noPen
            rw [hF]
            exact fun w H' e fr _ _ rw' => ⟨rw'.bl_v, e, fr⟩
        have hbd := hb s2 us I2.kIn (by rw [List.append_nil, ← Paired.length rv]; exact G.len [v] _ _ _ hsp)
        rw [List.append_nil] at hbd
        refine wpAny_call (codeAny_mono (G.run X.A X.stack s2 (onH X s2 H1) ⟨us, []⟩ us [v] _ _ g.room g.guards eN hbd rv hsp) fun fl s' hq => ?_)
        match fl, hq with
        | .error e, hq =>
          obtain ⟨_, _, _, _, _, _, _, _, _, _, _, _, z⟩ := hq
          exact z.elim
        | .ok .next, hq => exact hq.elim
        | .ok .brk, hq => exact hq.elim
        | .ok .cont, hq => exact hq.elim
        | .ok (.ret u), ⟨w, H', os, bare, un, hok', ru, ew, eX, fr⟩ =>
          subst ew
          have inC : ∀ c ∈ cadr X, ∃ o, s2.heap.get? c = some o ∧ H' c = some (CellO c o) ∧ s'.heap.get? c = some o ∧ ∃ y, o.data = .cell y := fun c hc => by
            obtain ⟨o, ho, hon⟩ := cO c hc
            have h2 : H' c = some (CellO c o) := eX.x c _ hon
            obtain ⟨n, en⟩ := cadr_mem hc
            obtain ⟨w', o2, ho2, hd⟩ := I2.cell n c en
            rw [ho] at ho2
            cases ho2
            exact ⟨o, ho, h2, cellO_at hok' h2, w', hd⟩
          have nin : ∀ {b : Addr} {u : HO}, H1 b = some u → b ∉ cadr X := fun {b u} z hb => by rw [(nC b hb).1] at z; cases z
          have hokB : HOk X.prog X.w (back (cadr X) (fun _ => none) H') s'.heap := back_ok hok' (fun c hc => by
            obtain ⟨o, _, h2, _⟩ := inC c hc
            exact .inr ⟨o, h2⟩) (fun _ _ => .inl rfl) fun _ _ _ z => nomatch z
          have U : Un (frs X.stack) [] H1 (back (cadr X) (fun _ => none) H') s2.heap s'.heap := by
            refine ⟨fun b o q n hb hx => ?_, fun b o q n hb hx => un.slot b o q ?_ hb hx, fun b o q n hx => ?_, un.there, fun b ws q => ?_, fun b o y q => ?_, fun b qs q => ?_⟩
            · by_cases hc : b ∈ cadr X
              · obtain ⟨o', h1, _, h3, _⟩ := inC b hc
                rw [q] at h1
                cases h1
                exact h3
              · exact un.keep b o q (by rw [show onH X s2 H1 b = H1 b from back_out hc]; exact n) hb hx
            · rw [show onH X s2 H1 b = H1 b from back_out fun hc => nst b hc hb]; exact n
            · by_cases hc : b ∈ cadr X
              · exact back_in hc
              · rw [back_out hc]
                exact un.free b o q (by rw [show onH X s2 H1 b = H1 b from back_out hc]; exact n) hx
            · rw [back_out (nin q)]; exact un.tups b ws (onH_of I2 q)
            · rw [back_out (nin q)]; exact un.frzs b o y (onH_of I2 q)
            · rw [back_out (nin q)]; exact un.tbls b qs (onH_of I2 q)
          have J := I2.call' (ch := []) os U hokB bare (fun _ z => nomatch z)
          have all : ∀ b y, H1 b = some y → Fix y → back (cadr X) (fun _ => none) H' b = some y := fun b y z f => by rw [back_out (nin z)]; exact eX.o b y nofun f (onH_of I2 z)
          have e2 : Ext m H1 (back (cadr X) (fun _ => none) H') := by
            refine ⟨fun b y _ f z => all b y z f, fun b ws z => all b _ z (fun _ => nofun), fun b z => ?_, fun P t => ?_, fun b φ z => all b _ z (fun _ => nofun)⟩
            · cases q : H1 b with
              | none => exact absurd q z
              | some y => rw [back_out (nin q)]; exact eX.n b (by rw [onH_of I2 q]; exact nofun)
            · obtain ⟨qs, t1, t2, t3⟩ := eX.tb P (t.ext fun b o h => onH_of I2 h)
              have nP : P ∉ cadr X := fun hc => by
                obtain ⟨o, _, h2, _⟩ := inC P hc
                rw [t1] at h2; cases h2
              refine ⟨qs, (back_out nP).trans t1, t2, fun pos cv hcv => ?_⟩
              obtain ⟨c, y1, y2⟩ := t3 pos cv hcv
              refine ⟨c, y1, (back_out fun hc => ?_).trans y2⟩
              obtain ⟨o, _, h2, h3, y, hd⟩ := inC c hc
              obtain ⟨oc, ws, t, z1, z2, z3⟩ := (show ObjOk X.prog X.w H' s'.heap c (.ext fun h => ∃ (oc : Obj) (vs : Array Value) (t : Tok), h.get? c = some oc ∧ oc.data = .fields vs ∧ vs[1]? = some (.str (Tab.nm P) t)) from hok' c _ y2).1
              rw [h3] at z1
              cases z1
              rw [hd] at z2
              cases z2
          refine ⟨.bl b, _, J, ru, p2 (.bl b) _ e2 (Less.refl _) (E1.ext e2 hm ?_ (fun q hq => e2.n q (E1.pn q hq)) fun q hq => ?_) (.bl b)⟩
          · refine E1.pen.keep ⟨fun a ws z => e2.t a ws z, fun a ws _ z => all a _ z (fun _ => nofun), fun a ws _ z => ?_, fun a ws _ z => ?_, fun a C dx fs _ z => all a _ z (fun _ => nofun), e2.x⟩ (fun _ z => z) fun q o _ f h => all q o h f
            all_goals
              rcases z with z | ⟨o, z⟩
              · exact .inl (all a _ z (fun _ => nofun))
              · exact .inr ⟨o, all a _ z (fun _ => nofun)⟩
          · by_cases hc : q ∈ cadr X
            · exact (nC q hc).1
            · rw [back_out hc] at hq
              have := fr q hq
              rw [show onH X s2 H1 q = H1 q from back_out hc] at this
              exact this
      | _ => rw [hF] at p1; exact (show False from p1).elim
end
end SM

set_option Elab.async false
set_option linter.all false
set_option maxRecDepth 100000
set_option maxHeartbeats 4000000
namespace SM
variable [Tab]
open PySem PySem.Spec PyProof.Rows L2

section
variable {X : Cx} {e a b : Expr} {es : List Expr} {f g : S → Res (S × D)} {fs : S → Res (S × List D)} {pos pp : Pos} {x : Str} {T : String}
/-- a built-in type, as a value -/
theorem ee_ty (T : String) (hg : Gl X x) (hm : X.mg x = none) (hv : bootBuiltins x = some (.type T)) (hn : x ≠ "__name__" := by decide) (hdb : (x == ("__debug__" : Str)) = false := by decide) : EE X (.Name x pos) (eC (.ty T)) := by
  intro p m B okA s σ H W Q tk hm' E hp
  refine we_mk fun pins s0 I => ?_
  exact ld_blt I hg hm hv ⟨.ty T, H, I, rfl, hp.done E (.ty T)⟩ hn hdb
def cIsBl (x y : D) : Option Bool := match x, y with
  | .bl i, .bl j => some (decide (i = j))
  | _, _ => none
theorem cmp_isBl : CmpD X (fun x y H Q => ∃ a b, x = .bl a ∧ y = .bl b ∧ Q (.bl (decide (a = b))) H) cIsBl := fun p ok H v w x y k Q r1 r2 h q => by
  cases x with
  | bl i =>
    cases y with
    | bl j => cases h; exact ⟨i, j, r1.bl_v, r2.bl_v, q⟩
    | _ => cases h
  | _ => cases h

/-! ## isinstance -/
/-- the name of a built-in type, or of a class of the module -/
inductive Kd where
  | ty (n : String)
  | own (c : Str)
def kdOf : D → Option Kd
  | .non => some (.ty "NoneType")
  | .bl _ => some (.ty "bool")
  | .int _ => some (.ty "int")
  | .str _ => some (.ty "str")
  | .tup _ => some (.ty "tuple")
  | .lst _ => some (.ty "list")
  | .dK _ _ => some (.ty "dict")
  | .ins c _ _ => some (.own c)
  | _ => none
/-- what of built-in types is asked -/
def kB : String → String → Option Bool
  | "int", "int" => some true | "bool", "int" => some true | "str", "int" => some false | "NoneType", "int" => some false | "tuple", "int" => some false | "list", "int" => some false | "dict", "int" => some false
  | "int", "bool" => some false | "bool", "bool" => some true | "str", "bool" => some false | "NoneType", "bool" => some false | "tuple", "bool" => some false | "list", "bool" => some false | "dict", "bool" => some false
  | "int", "str" => some false | "bool", "str" => some false | "str", "str" => some true | "NoneType", "str" => some false | "tuple", "str" => some false | "list", "str" => some false | "dict", "str" => some false
  | "int", "tuple" => some false | "bool", "tuple" => some false | "str", "tuple" => some false | "NoneType", "tuple" => some false | "tuple", "tuple" => some true | "list", "tuple" => some false | "dict", "tuple" => some false
  | "int", "list" => some false | "bool", "list" => some false | "str", "list" => some false | "NoneType", "list" => some false | "tuple", "list" => some false | "list", "list" => some true | "dict", "list" => some false
  | "int", "dict" => some false | "bool", "dict" => some false | "str", "dict" => some false | "NoneType", "dict" => some false | "tuple", "dict" => some false | "list", "dict" => some false | "dict", "dict" => some true
  | _, _ => none
theorem kB_ok {K : PySem.W.Frag} {a b : String} {r : Bool} (h : kB a b = some r) : PySem.W.kitOne K (.type a) (.type b) = some r := by
  unfold kB at h
  split at h <;> first
    | (cases h; exact kit_ty (by decide +kernel))
    | cases h
def kdV (mg : Str → Option Value) : Kd → Option Value
  | .ty n => some (.type n)
  | .own c => mg c
/-- what is known of the module's classes -/
structure Kinds (X : Cx) (ki : Kd → Kd → Option Bool) : Prop where
  one : ∀ k k' r t u, ki k k' = some r → kdV X.mg k = some t → kdV X.mg k' = some u → PySem.W.kitOne X.K t u = some r
  cls : ∀ c C, X.mg c = some (.ref C) → (∃ k' r, ki (.own c) k' = some r) → ClsOk X.K C
def kdB (k k' : Kd) : Option Bool := match k, k' with
  | .ty a, .ty b => kB a b
  | _, _ => none
theorem kinds0 : Kinds X kdB where
  one := fun k k' r t u h ht hu => by
    cases k with
    | ty a =>
      cases k' with
      | ty b => cases ht; cases hu; exact kB_ok h
      | own _ => cases h
    | own _ => cases h
  cls := fun c C _ h => by
    obtain ⟨k', r, h⟩ := h
    cases h
theorem tyX_kd {p : Option Addr} {ok : Addr → Prop} {H : Hp} {v : V} {x : D} {k : Kd} (hc : ∀ c C, X.mg c = some (.ref C) → k = .own c → ClsOk X.K C) (r : RepR (sg X p) ok H v x) (h : kdOf x = some k) : ∃ t, kdV X.mg k = some t ∧ TyX X.K H v t := by
  cases x with
  | ins c ns ds =>
    cases h
    obtain ⟨a, C, dx, fs, rfl, h1, h2, _⟩ := r.ins
    have h1' : X.mg c = some (.ref C) := h1
    exact ⟨_, h1', tyX_of (fun c' C' m' ⟨ns', ds', e⟩ => by cases e; exact hc c C' m' rfl) r h1'⟩
  | non => cases h; exact ⟨_, rfl, tyX_of (fun _ _ _ ⟨_, _, e⟩ => nomatch e) r rfl⟩
  | bl _ => cases h; exact ⟨_, rfl, tyX_of (fun _ _ _ ⟨_, _, e⟩ => nomatch e) r rfl⟩
  | int _ => cases h; exact ⟨_, rfl, tyX_of (fun _ _ _ ⟨_, _, e⟩ => nomatch e) r rfl⟩
  | str _ => cases h; exact ⟨_, rfl, tyX_of (fun _ _ _ ⟨_, _, e⟩ => nomatch e) r rfl⟩
  | tup _ => cases h; exact ⟨_, rfl, tyX_of (fun _ _ _ ⟨_, _, e⟩ => nomatch e) r rfl⟩
  | lst _ => cases h; exact ⟨_, rfl, tyX_of (fun _ _ _ ⟨_, _, e⟩ => nomatch e) r rfl⟩
  | dK _ _ => cases h; exact ⟨_, rfl, tyX_of (fun _ _ _ ⟨_, _, e⟩ => nomatch e) r rfl⟩
  | _ => cases h
def clsOf : D → Option Kd
  | .ty n => some (.ty n)
  | .glo c => some (.own c)
  | _ => none
theorem clsV_of {p : Option Addr} {ok : Addr → Prop} {H : Hp} {v : V} {x : D} {k : Kd} (r : Rep (sg X p) ok H v x) (h : clsOf x = some k) : ∃ u, kdV X.mg k = some u ∧ ClsV v u := by
  cases x with
  | ty n => cases h; cases r; exact ⟨_, rfl, .ty n⟩
  | glo c =>
    cases h
    cases r with
    | glo h1 => exact ⟨_, h1, .own _⟩
  | _ => cases h
def isiD (ki : Kd → Kd → Option Bool) (x c : D) : Option D := (kdOf x).bind fun k => (clsOf c).bind fun k' => (ki k k').map .bl
theorem isi_D {ki : Kd → Kd → Option Bool} (hk : Kinds X ki) : CallD X (rIsi X.K) (q2 (isiD ki)) := callD2 fun p ok H v w x y d Q ho r1 r2 e q => by
  unfold isiD at e
  cases h1 : kdOf x with
  | none => rw [h1] at e; cases e
  | some k =>
    cases h2 : clsOf y with
    | none => rw [h1, h2] at e; cases e
    | some k' =>
      rw [h1, h2] at e
      have e' : (ki k k').map D.bl = some d := e
      cases h3 : ki k k' with
      | none => rw [h3] at e'; cases e'
      | some b =>
        rw [h3] at e'
        cases e'
        obtain ⟨t, t1, t2⟩ := tyX_kd (fun c C m e => hk.cls c C m ⟨k', b, by rw [← e]; exact h3⟩) r1 h1
        have r2' : Rep (sg X p) ok H w y := by
          cases r2 with
          | of r => exact r
          | own _ r => cases r <;> cases h2
        obtain ⟨u, u1, u2⟩ := clsV_of r2' h2
        exact ⟨v, w, t, u, b, rfl, u2, t2, hk.one k k' b t u h3 t1 u1, q _ (.bl b)⟩
/-- isinstance(x, (c, ..)) -/
def anyK (ki : Kd → Kd → Option Bool) (k : Kd) : List D → Option Bool
  | [] => some false
  | c :: cs => match clsOf c with
    | none => none
    | some k' => match ki k k' with
      | none => none
      | some true => some true
      | some false => anyK ki k cs
def allCls : List D → Bool
  | [] => true
  | c :: cs => (clsOf c).isSome && allCls cs
def isiTD (ki : Kd → Kd → Option Bool) (x c : D) : Option D := match c with
  | .tup cs => if allCls cs = true ∧ cs ≠ [] then (kdOf x).bind fun k => (anyK ki k cs).map .bl else none
  | _ => none
theorem anyK_ok {ki : Kd → Kd → Option Bool} (hk : Kinds X ki) {k : Kd} {t : Value} (ht : kdV X.mg k = some t) {p : Option Addr} {ok : Addr → Prop} {H : Hp} : ∀ {cs : List D} {vs : List V} {b : Bool}, Reps (sg X p) ok H vs cs → allCls cs = true → anyK ki k cs = some b → ∃ us, Paired ClsV vs us ∧ PySem.W.kitAny X.K t us = some b
  | [], _, b, r, _, h => by
    cases r
    cases h
    exact ⟨[], .nil, kitAny_nil⟩
  | c :: cs, _, b, r, ha, h => by
    cases r with
    | @cons v vs _ _ r1 r2 =>
      unfold allCls at ha
      rw [Bool.and_eq_true] at ha
      obtain ⟨k', hk'⟩ := Option.isSome_iff_exists.mp ha.1
      obtain ⟨u, u1, u2⟩ := clsV_of r1 hk'
      unfold anyK at h
      rw [hk'] at h
      dsimp only at h
      cases hb : ki k k' with
      | none => rw [hb] at h; cases h
      | some b1 =>
        rw [hb] at h
        have o := hk.one k k' b1 t u hb ht u1
        cases b1 with
        | true =>
          cases h
          have rest : ∀ {cs : List D} {vs : List V}, Reps (sg X p) ok H vs cs → allCls cs = true → ∃ us, Paired ClsV vs us := by
            intro cs
            induction cs with
            | nil => intro vs r _; cases r; exact ⟨[], .nil⟩
            | cons c cs ih =>
              intro vs r ha
              cases r with
              | cons q1 q2 =>
                unfold allCls at ha
                rw [Bool.and_eq_true] at ha
                obtain ⟨k2, h2⟩ := Option.isSome_iff_exists.mp ha.1
                obtain ⟨u, _, u2⟩ := clsV_of q1 h2
                obtain ⟨us, h3⟩ := ih q2 ha.2
                exact ⟨u :: us, .cons u2 h3⟩
          obtain ⟨us, h3⟩ := rest r2 ha.2
          exact ⟨u :: us, .cons u2 h3, kitAny_cons o (fun z => nomatch z) fun _ => rfl⟩
        | false =>
          obtain ⟨us, h3, h4⟩ := anyK_ok hk ht r2 ha.2 h
          exact ⟨u :: us, .cons u2 h3, kitAny_cons o (fun _ => h4) fun z => nomatch z⟩
theorem isiT_D {ki : Kd → Kd → Option Bool} (hk : Kinds X ki) : CallD X (rIsiT X.K) (q2 (isiTD ki)) := callD2 fun p ok H v w x y d Q ho r1 r2 e q => by
  cases y with
  | tup cs =>
    have e1 : (if allCls cs = true ∧ cs ≠ [] then (kdOf x).bind fun k => (anyK ki k cs).map D.bl else none) = some d := e
    by_cases ha : allCls cs = true ∧ cs ≠ []
    · rw [if_pos ha] at e1
      cases h1 : kdOf x with
      | none => rw [h1] at e1; cases e1
      | some k =>
        rw [h1] at e1
        have e2 : (anyK ki k cs).map D.bl = some d := e1
        cases h2 : anyK ki k cs with
        | none => rw [h2] at e2; cases e2
        | some b =>
          rw [h2] at e2
          cases e2
          obtain ⟨a, vs, rfl, t1, t2⟩ := r2.tup
          have first : ∃ k' r, ki k k' = some r := by
            cases cs with
            | nil => exact absurd rfl ha.2
            | cons c0 cs0 =>
              unfold anyK at h2
              cases hq : clsOf c0 with
              | none => rw [hq] at h2; cases h2
              | some k' =>
                rw [hq] at h2
                dsimp only at h2
                cases hb : ki k k' with
                | none => rw [hb] at h2; cases h2
                | some r => exact ⟨k', r, hb⟩
          obtain ⟨k', r, hr⟩ := first
          obtain ⟨t, t3, t4⟩ := tyX_kd (fun c C m e => hk.cls c C m ⟨k', r, by rw [← e]; exact hr⟩) r1 h1
          obtain ⟨us, u1, u2⟩ := anyK_ok hk t3 t2 ha.1 h2
          exact ⟨v, a, vs, t, us, b, rfl, t1, u1, t4, u2, q _ (.bl b)⟩
    · rw [if_neg ha] at e1; cases e1
  | _ => cases e
end
end SM

set_option Elab.async false
set_option linter.all false
set_option maxRecDepth 100000
set_option maxHeartbeats 4000000
namespace SM
variable [Tab]
open PySem PySem.Spec PyProof.Rows L2

/-! ## the pen -/
inductive PF where
  | cells | at_ | digits | count | fold
def PF.key : PF → Str
  | .cells => "cells"
  | .at_ => "at"
  | .digits => "digits"
  | .count => "count"
  | .fold => "fold"
def PF.get : PF → Pn → D
  | .cells, pn => .lst (pn.cells.map .int)
  | .at_, pn => .int pn.at_
  | .digits, pn => .int pn.digits
  | .count, pn => .int pn.count
  | .fold, pn => .int pn.fold
def PF.val : PF → Pn → Addr → V
  | .cells, _, c => .ref c
  | .at_, pn, _ => .int pn.at_
  | .digits, pn, _ => .int pn.digits
  | .count, pn, _ => .int pn.count
  | .fold, pn, _ => .int pn.fold
def PF.put : PF → Int → Pn → Option Pn
  | .cells, _, _ => none
  | .at_, n, pn => some { pn with at_ := n }
  | .digits, n, pn => some { pn with digits := n }
  | .count, n, pn => some { pn with count := n }
  | .fold, n, pn => some { pn with fold := n }
theorem pen_val (f : PF) (pn : Pn) (c : Addr) : valV (penFs pn c) (.inr f.key) = some (f.val pn c) := by
  cases f <;> rfl
theorem pen_put (f : PF) (pn pn' : Pn) (n : Int) (c : Addr) (h : f.put n pn = some pn') : putK (penFs pn c) (.inr f.key) (.int n) = penFs pn' c := by
  cases f <;> simp only [PF.put, Option.some.injEq, reduceCtorEq] at h <;> subst h <;> rfl
theorem put_cells {f : PF} {n : Int} {pn pn' : Pn} (h : f.put n pn = some pn') : pn'.cells = pn.cells := by
  cases f <;> simp only [PF.put, Option.some.injEq, reduceCtorEq] at h <;> subst h <;> rfl
theorem reps_intL {Γ : Sig} {ok : Addr → Prop} {H : Hp} : ∀ l : List Int, Reps Γ ok H (l.map V.int) (l.map D.int)
  | [] => .nil
  | _ :: l => .cons (.int _) (reps_intL l)
section
variable {X : Cx} {e : Expr} {f : S → Res (S × D)} {pos p1 p2 : Pos} {j : Nat} {x : Str}
/-- pen['key'] -/
def ePen (i : Nat) (f : PF) (s : S) : Res (S × D) := match s.sl[i]?, s.pn with
  | some (.fz .pen), some (.p pn) => .ok (s, f.get pn)
  | _, _ => .stuck
theorem ee_pen (hu : X.A.units + 1 < cLine) (i : Nat) (f : PF) {key : Str} (hk : key = f.key) (hN : X.N[i]? = some x := by rfl) (hv : Vis X.env.scope x := by first | exact Or.inl rfl | exact Or.inr (Or.inl rfl) | exact Or.inr (Or.inr rfl)) (hd : (x == ("__debug__" : Str)) = false := by decide)
    (hcd : (x == ("__classdict__" : Str)) = false := by decide) (hs : PlainIx (.Constant (.str key) j p2) := by intro _ _; rfl) : EE X (.Subscript (.Name x p1) (.Constant (.str key) j p2) pos) (ePen i f) := by
  subst hk
  intro p m B okA s σ H W Q tk hm E hp
  refine we_of (pe_ix (ix_dict hu) (pv i hN hv hd hcd) pe_str hs) ?_
  unfold ePen at hp
  cases hs1 : s.sl[i]? with
  | none => rw [hs1] at hp; exact hp.elim
  | some sl =>
    cases sl with
    | fz d =>
      cases d with
      | pen =>
        cases hpn : s.pn with
        | none => rw [hs1, hpn] at hp; exact hp.elim
        | some mu =>
         cases mu with
         | o d => rw [hs1, hpn] at hp; exact (show False from hp).elim
         | p pn =>
          rw [hs1, hpn] at hp
          obtain ⟨v, h1, h2⟩ := E.fz i _ hs1
          cases h2 with
          | @pen q hq =>
            have z := E.pen
            rw [hpn] at z
            obtain ⟨q', c, y1, y2, y3, y4⟩ := z
            rw [hq] at y1
            cases y1
            refine ⟨_, h1, q, f.val pn c, rfl, .inl ⟨_, .inr f.key, .inl y2, rfl, (pen_val f pn c).symm⟩, ?_⟩
            refine Post.done (P := KV') (a := f.get pn) hp E ?_
            cases f with
            | cells => exact .lst y3 y4 (reps_intL _)
            | _ => exact .int _
      | _ => rw [hs1] at hp; exact (show False from hp).elim
    | _ => rw [hs1] at hp; exact (show False from hp).elim
/-- pen['key'] = e -/
def sPen (i : Nat) (f : PF) (g : S → Res (S × D)) (s : S) : Res (S × Fl) := g s >>= fun (s1, d) => match s1.sl[i]?, s1.pn, d with
  | some (.fz .pen), some (.p pn), .int n => match f.put n pn with
    | some pn' => .ok ({ s1 with pn := some (.p pn') }, .nx)
    | none => .stuck
  | _, _, _ => .stuck
theorem ss_pen (hu : X.A.units + 1 < cLine) (i : Nat) (fl : PF) {key : Str} (hk : key = fl.key) (he : EE X e f) {tp : Pos} (hN : X.N[i]? = some x := by rfl) (hv : Vis X.env.scope x := by first | exact Or.inl rfl | exact Or.inr (Or.inl rfl) | exact Or.inr (Or.inr rfl)) (hd : (x == ("__debug__" : Str)) = false := by decide)
    (hcd : (x == ("__classdict__" : Str)) = false := by decide)
    (ha : ∀ v, assign (.Subscript (.Name x p1) (.Constant (.str key) j p2) tp) X.env v = (do
      let ov ← holding [v] (eval (.Name x p1) X.env)
      let iv ← holding [v, ov] (eval (.Constant (.str key) j p2) X.env)
      standAt tp
      holding [v, ov, iv] (setItem ov iv v)
      release [v, ov, iv] []) := by intro _; rfl)
    (hs : swapsWithSole [.Subscript (.Name x p1) (.Constant (.str key) j p2) tp] e pos.line X.env = pure false := by rfl) (hw : swappedStores [.Subscript (.Name x p1) (.Constant (.str key) j p2) tp] e X.env = pure none := by rfl)
    (h1 : (assignEach [.Subscript (.Name x p1) (.Constant (.str key) j p2) tp] X.env).map (·.2) = [assign (.Subscript (.Name x p1) (.Constant (.str key) j p2) tp) X.env] := by rfl) :
    SS X (.Assign [.Subscript (.Name x p1) (.Constant (.str key) j p2) tp] e pos) (sPen i fl f) := by
  subst hk
  intro p m B okA s σ H W Z tk hm E hp
  refine ws_of (ps_asg (peW X e) (pg_sub (pv i hN hv hd hcd) pe_str (set_dict hu) ha) hs hw h1) ?_
  show WE X e σ H fun v H1 => tVar i σ H1 fun o H2 => rSetD o (.str fl.key) v H2 fun H3 => Z.nx σ H3
  refine Does.bindS he tk hm E hp fun s1 d v H1 E1 r1 p1 => ?_
  dsimp only at p1
  cases hs1 : s1.sl[i]? with
  | none => rw [hs1] at p1; exact p1.elim
  | some sl =>
    cases sl with
    | fz d0 =>
      cases d0 with
      | pen =>
        cases hpn : s1.pn with
        | none => rw [hs1, hpn] at p1; exact p1.elim
        | some mu =>
         cases mu with
         | o d => rw [hs1, hpn] at p1; exact (show False from p1).elim
         | p pn =>
          cases d with
          | int n =>
            rw [hs1, hpn] at p1
            dsimp only at p1
            cases hput : fl.put n pn with
            | none => rw [hput] at p1; exact p1.elim
            | some pn' =>
              rw [hput] at p1
              obtain ⟨w, q1, q2⟩ := E1.fz i _ hs1
              cases q2 with
              | @pen q hq =>
                have z := E1.pen
                rw [hpn] at z
                obtain ⟨q', c, y1, y2, y3, y4⟩ := z
                rw [hq] at y1
                cases y1
                have mp : m = (sg X p).pen := E1.pm.resolve_left (by rw [hpn]; exact nofun)
                have nq : ∀ a, Ok (sg X p) okA s1 σ a → a ≠ q := fun a h z => h.2.1 (by rw [z]; exact hq)
                have k : Keeps (Ok (sg X p) okA s1 σ) H1 (upd H1 q (.dK (penFs pn' c))) := Keeps.upd (fun h => nq q h rfl) (fun vs z => by rw [y2] at z; cases z) fun φ z => by rw [y2] at z; cases z
                refine ⟨_, q1, q, _, rfl, .inl ⟨_, .inr fl.key, y2, rfl, by show 5 < sizeLine; decide, rfl⟩, ?_⟩
                rw [r1.int_v, pen_put fl pn pn' n c hput]
                refine p1 σ _ ⟨E1.len, .inr mp, ?_, E1.nB, fun b hb => ?_, fun i d h => ?_, fun i d h => ?_, E1.dis, ⟨q, c, hq, upd_same, y3, ?_⟩, fun b hb => ?_, fun P hP => tab_wrote (E1.tb P hP) y2 (fun _ => nofun) fun _ => nofun⟩
                · have ne : ∀ {b o}, m ≠ some b → H1 b = some o → upd H1 q (.dK (penFs pn' c)) b = some o := fun {b o} n z => by rw [upd_ne fun w => n (by rw [mp, w]; exact hq)]; exact z
                  refine ⟨fun b o n f z => ne n (E1.kp.o b o n f z), fun b vs z => ?_, fun b z => ?_, fun P t => tab_wrote (E1.kp.tb P t) y2 (fun _ => nofun) (fun _ => nofun), fun b φ z => ?_⟩
                  · have := E1.kp.t b vs z
                    rw [upd_ne (ne_of this y2 nofun)]; exact this
                  · by_cases w : b = q
                    · rw [w, upd_same]; exact nofun
                    · rw [upd_ne w]; exact E1.kp.n b z
                  · have := E1.kp.x b φ z
                    rw [upd_ne (ne_of this y2 nofun)]; exact this
                · by_cases w : b = q
                  · rw [w, upd_same] at hb; cases hb
                  · rw [upd_ne w] at hb; exact E1.new b hb
                · obtain ⟨u, h1, h2⟩ := E1.fz i d h
                  exact ⟨u, h1, Rep.mono k (fun _ z _ => z) _ _ h2⟩
                · obtain ⟨b, h1, h2, h3, h4⟩ := E1.ow i d h
                  exact ⟨b, h1, h2, h3, h4.mono k (fun _ z _ => z) fun o _ z => by rw [upd_ne fun w => h3 (by rw [w]; exact hq)]; exact z⟩
                · rw [put_cells hput]; exact k.l c _ y3 y4
                · by_cases w : b = q
                  · rw [w, upd_same]; exact nofun
                  · rw [upd_ne w]; exact E1.pn b hb
          | _ => rw [hs1, hpn] at p1; exact (show False from p1).elim
      | _ => rw [hs1] at p1; exact (show False from p1).elim
    | _ => rw [hs1] at p1; exact (show False from p1).elim
end
end SM

set_option Elab.async false
set_option linter.all false
set_option maxRecDepth 100000
set_option maxHeartbeats 4000000
namespace SM
variable [Tab]
open PySem PySem.Spec PyProof.Rows L2

/-! ## the pen is made -/
def foldI (M1 M2 : Int) (acc z : Int) : Int := (acc * M1 + z) % M2
/-- what _law_pen promises -/
def spPen (K : PySem.W.Frag) (M1 M2 : Int) : Sp := fun vs H Q E => vs.length = 1 ∧ ∃ a ns, vs = [.ref a] ∧ SqL K H a (ns.map V.int) ∧ ns.length ≤ 100000 ∧
  ∀ q c H', H q = none → H c = none → q ≠ c → H' q = some (.dK (penFs ⟨ns, 0, 0, 0, ns.foldl (foldI M1 M2) 0⟩ c)) → H' c = some (.lst (ns.map V.int)) → (∀ b, b ≠ q → b ≠ c → H' b = H b) → Q (.ref q) H'
section
variable {X : Cx} {M1 M2 : Int} {j1 j2 j3 j4 j5 j6 j7 j8 j9 j10 j11 j12 : Nat} {a1 a2 a3 a4 a5 a6 a7 a8 a9 b1 b2 b3 b4 b5 b6 b7 b8 b9 c1 c2 c3 c4 c5 c6 c7 c8 c9 d1 d2 d3 d4 d5 d6 d7 d8 : Pos}
abbrev penBody : List Stmt := [
  .Assign [.Name "fold" a1] (.Constant (.int 0) j1 a2) a3,
  .For (.Name "cell" a4) (.Name "script" a5) [.Assign [.Name "fold" a6] (.BinOp (.Call (.Name "int" a7) [.BinOp (.BinOp (.Name "fold" a8) .Mult (.Constant (.int M1) j2 a9) b1) .Add (.Name "cell" b2) b3] [] b4) .Mod (.Constant (.int M2) j3 b5) b6) b7] [] b8,
  .Return (some (.Dict [some (.Constant (.str "cells") j4 b9), some (.Constant (.str "at") j5 c1), some (.Constant (.str "digits") j6 c2), some (.Constant (.str "count") j7 c3), some (.Constant (.str "fold") j8 c4)]
    [.Call (.Name "list" c5) [.Name "script" c6] [] c7, .Constant (.int 0) j9 c8, .Constant (.int 0) j10 c9, .Constant (.int 0) j11 d1, .Name "fold" d2] d3)) d4]
abbrev penN : List Str := ["script", "fold", "cell"]
theorem wb_pen {ns : List Int} {a : Addr} {σ : L2.St} {H : Hp} {Z : Ends} (hN : X.N = penN) (hc : X.calm = true) (hp : PassesOwn (model X.prog X.w) X.A X.env X.xe) (hM1 : 0 ≤ M1 ∧ M1 < 1000000) (hM2 : 0 < M2 ∧ M2 < 4294967296)
    (v0 : Vis X.env.scope "script") (v1 : Vis X.env.scope "fold") (v2 : Vis X.env.scope "cell") (o1 : Loc X.env.scope "fold") (o2 : Loc X.env.scope "cell") (f1 : X.env.scope.names.lookup ("fold" : Str) = some .local) (f2 : X.env.scope.names.lookup ("cell" : Str) = some .local)
    (gi : Gl X "int") (gl : Gl X "list") (mi : X.mg "int" = none) (ml : X.mg "list" = none) (hsw1 : swapsWith (.Constant (.int 0) j1 a2) (some (.Name "fold" a1)) a3.line X.env = pure false)
    (hsw2 : swapsWith (.BinOp (.Call (.Name "int" a7) [.BinOp (.BinOp (.Name "fold" a8) .Mult (.Constant (.int M1) j2 a9) b1) .Add (.Name "cell" b2) b3] [] b4) .Mod (.Constant (.int M2) j3 b5) b6) (some (.Name "fold" a6)) b7.line X.env = pure false)
    (hst1 : starEach [.BinOp (.BinOp (.Name "fold" a8) .Mult (.Constant (.int M1) j2 a9) b1) .Add (.Name "cell" b2) b3] X.env = (false, eval (.BinOp (.BinOp (.Name "fold" a8) .Mult (.Constant (.int M1) j2 a9) b1) .Add (.Name "cell" b2) b3) X.env) :: starEach [] X.env)
    (hst2 : starEach [.Name "script" c6] X.env = (false, eval (.Name "script" c6) X.env) :: starEach [] X.env) (hse : starEach [] X.env = []) (hfs : ∀ x, foldedSetIterable (.Name "script" a5) X.env x = pure x)
    (e0 : σ[0]? = some (some (.ref a))) (e1 : σ.length = 3) (hS : SqL X.K H a (ns.map V.int)) (hl : ns.length ≤ 100000)
    (hQ : ∀ q c H', H q = none → H c = none → q ≠ c → H' q = some (.dK (penFs ⟨ns, 0, 0, 0, ns.foldl (foldI M1 M2) 0⟩ c)) → H' c = some (.lst (ns.map V.int)) → (∀ b, b ≠ q → b ≠ c → H' b = H b) → Z.rt (.ref q) H') :
    WB X (penBody (M1 := M1) (M2 := M2) (j1 := j1) (j2 := j2) (j3 := j3) (j4 := j4) (j5 := j5) (j6 := j6) (j7 := j7) (j8 := j8) (j9 := j9) (j10 := j10) (j11 := j11) (a1 := a1) (a2 := a2) (a3 := a3) (a4 := a4) (a5 := a5) (a6 := a6) (a7 := a7) (a8 := a8) (a9 := a9) (b1 := b1) (b2 := b2) (b3 := b3) (b4 := b4) (b5 := b5) (b6 := b6) (b7 := b7) (b8 := b8) (b9 := b9) (c1 := c1) (c2 := c2) (c3 := c3) (c4 := c4) (c5 := c5) (c6 := c6) (c7 := c7) (c8 := c8) (c9 := c9) (d1 := d1) (d2 := d2) (d3 := d3) (d4 := d4)) Z σ H := by
  have nd : X.N.Nodup := by rw [hN]; decide
  have n0 : X.N[0]? = some ("script" : Str) := by rw [hN]; rfl
  have n1 : X.N[1]? = some ("fold" : Str) := by rw [hN]; rfl
  have n2 : X.N[2]? = some ("cell" : Str) := by rw [hN]; rfl
  have pl1 : (backTo b4 (starEach [] X.env)).any (·.1) = false := by rw [hse]; rfl
  have pl2 : (backTo c7 (starEach [] X.env)).any (·.1) = false := by rw [hse]; rfl
  have ef : PE X (.BinOp (.BinOp (.Name "fold" a8) .Mult (.Constant (.int M1) j2 a9) b1) .Add (.Name "cell" b2) b3) _ := pe_op op_add (pe_op op_mul (pv 1 n1 v1) pe_int) (pv 2 n2 v2)
  have ei : PE X (.BinOp (.Call (.Name "int" a7) [.BinOp (.BinOp (.Name "fold" a8) .Mult (.Constant (.int M1) j2 a9) b1) .Add (.Name "cell" b2) b3] [] b4) .Mod (.Constant (.int M2) j3 b5) b6) _ := pe_op op_mod (pe_callTy call_int1 gi mi boot_int (pa_cons ef pa_nil hst1) (by decide) (by decide) hst1 pl1) pe_int
  have dsp : PE X (.Dict [some (.Constant (.str "cells") j4 b9), some (.Constant (.str "at") j5 c1), some (.Constant (.str "digits") j6 c2), some (.Constant (.str "count") j7 c3), some (.Constant (.str "fold") j8 c4)]
    [.Call (.Name "list" c5) [.Name "script" c6] [] c7, .Constant (.int 0) j9 c8, .Constant (.int 0) j10 c9, .Constant (.int 0) j11 d1, .Name "fold" d2] d3) _ :=
    pe_disp (pps_cons pe_str (pe_callTy call_list_of gl ml boot_list (pa_cons (pv 0 n0 v0) pa_nil hst2) (by decide) (by decide) hst2 pl2) (pps_cons pe_str pe_int (pps_cons pe_str pe_int (pps_cons pe_str pe_int (pps_cons pe_str (pv 1 n1 v1) pps_nil))))) rfl rfl (by simp) (by simp)
  refine wb_of (pss_cons (ps_set nd n1 o1 pe_int hsw1 (.inr f1)) (pss_cons (ps_for hp hc (pi_list (pv 0 n0 v0)) (pg_name nd n2 o2 (.inr f2)) (pss_one (ps_set nd n1 o1 ei hsw2 (.inr f1))) hfs) (pss_one (ps_ret dsp)))) ?_
  have fb : ∀ (l : List Int) (c : Int), 0 ≤ c → c < 4294967296 → 0 ≤ l.foldl (foldI M1 M2) c ∧ l.foldl (foldI M1 M2) c < 4294967296 := fun l => by
    induction l with
    | nil => exact fun c h1 h2 => ⟨h1, h2⟩
    | cons z l ih => exact fun c _ _ => ih _ (Int.emod_nonneg _ (by omega)) (Int.lt_trans (Int.emod_lt_of_pos _ hM2.1) hM2.2)
  have g0 : (σ.set 1 (some (V.int 0)))[0]? = some (some (.ref a)) := by rw [List.getElem?_set_ne (by decide)]; exact e0
  refine ⟨.ref a, g0, a, rfl, ⟨_, hS⟩, fun i n σ' H' => n = ns.length - i ∧ i ≤ ns.length ∧ H' = H ∧ σ'.length = 3 ∧ σ'[0]? = some (some (.ref a)) ∧ σ'[1]? = some (some (.int ((ns.take i).foldl (foldI M1 M2) 0))),
    ⟨ns.length, rfl, Nat.zero_le _, rfl, by rw [List.length_set]; exact e1, g0, by rw [List.getElem?_set_self (by omega)]; rfl⟩, ?_⟩
  rintro i n σ' H' ⟨rfl, hi, rfl, h3, h4, h5⟩
  by_cases hlt : i < ns.length
  · refine .inr ⟨⟨_, .int ns[i], hS, by simp [hlt]⟩, _, fun σ2 H2 z => ⟨_, Nat.sub_succ_lt_self _ _ hlt, rfl, hlt, z⟩, fun x H2 y => ?_⟩
    obtain ⟨rfl, hx⟩ := y
    have ex := hx _ hS
    rw [List.getElem?_map, List.getElem?_eq_getElem hlt] at ex
    cases ex
    have f5 : (σ'.set 2 (some (V.int ns[i])))[1]? = some (some (.int ((ns.take i).foldl (foldI M1 M2) 0))) := by rw [List.getElem?_set_ne (by decide)]; exact h5
    have f6 : (σ'.set 2 (some (V.int ns[i])))[2]? = some (some (V.int ns[i])) := List.getElem?_set_self (by omega)
    obtain ⟨b1, b2⟩ := fb (ns.take i) 0 (by omega) (by omega)
    refine ⟨_, f5, _, _, rfl, rfl, .inr ⟨by omega, by omega⟩, _, f6, _, _, rfl, rfl, .inl ⟨_, rfl, _, _, rfl, rfl, hM2.1, ?_⟩⟩
    refine ⟨rfl, by rw [List.length_set, List.length_set]; exact h3, by rw [List.getElem?_set_ne (by decide), List.getElem?_set_ne (by decide)]; exact h4, ?_⟩
    rw [List.getElem?_set_self (by rw [List.length_set]; omega), List.take_succ, List.getElem?_eq_getElem hlt, List.foldl_append]
    rfl
  · have e : i = ns.length := by omega
    subst e
    rw [List.take_length] at h5
    refine .inl ⟨⟨_, hS, by simp⟩, ?_⟩
    intro q hq
    have sq : SqL X.K (upd H' q (.dK [])) a (ns.map V.int) := by
      rcases hS with hS | hS
      · refine .inl ?_
        unfold Rd at hS ⊢
        rw [upd_ne fun z => Rd.ne (show Rd H' a _ from hS) (by rw [z]; exact hq)]
        exact hS
      · exact .inr hS
    refine ⟨.ref a, h4, a, _, rfl, .inl sq, fun c hcn => ?_⟩
    have ne : c ≠ q := fun z => by rw [z, upd_same] at hcn; cases hcn
    have hc' : H' c = none := by rw [upd_ne ne] at hcn; exact hcn
    refine ⟨_, h5, by rw [upd_ne ne.symm, upd_same], [(.inr "cells", .ref c), (.inr "at", .int 0), (.inr "digits", .int 0), (.inr "count", .int 0), (.inr "fold", .int (ns.foldl (foldI M1 M2) 0))], rfl, by simp, ?_⟩
    refine hQ q c _ hq hc' ne.symm (by rw [upd_same]; rfl) (by rw [upd_ne ne, upd_same]) fun b h1 h2 => by rw [upd_ne h1, upd_ne h2, upd_ne h1]
end

/-! ## the law begins -/
/-- what the law promises of a script -/
def spLaw (K : PySem.W.Frag) : Sp := fun vs H Q E => vs.length = 1 ∧ ∃ (a : Addr) (ns : List Int), vs = [.ref a] ∧ SqL K H a (ns.map V.int) ∧ ns.length ≤ 63 ∧ (∀ P, Tab.own P → LamX.TabS H P (Tab.nm P)) ∧ ∀ H', Q (.bl true) H'
def s0Law (n i : Nat) (pn : Pn) : S := ⟨(List.replicate n Sl.no).set i (.fz .pen), some pn⟩
section
variable {P : Program} {w : World} {K : PySem.W.Frag} {mg : Str → Option Value} {base : Heap} {N : List Str} {qual : Str} {scope : Scope} {fL : Addr} {cd : Value} {A : Around} {outer : List PySem.Env} {s0 : Shared} {H : Hp} {E : XK} {Q : VK}
  {rest : List Stmt} {v : S → Res (S × Fl)} {i k kp : Nat} {fp : Addr} {fdp : FuncData} {M1 M2 : Int} {x y py sc : Str} {p1 p2 p3 p4 p5 : Pos}
theorem wb_law (g : Good k (bodyX P w K mg base N qual scope fL cd A outer s0 H E)) (hN : N.Nodup) (G : FnG P w K mg base kp fp fdp ["script"] (spPen K M1 M2)) (hk : kp ≤ k) (hgl : Gl (bodyX P w K mg base N qual scope fL cd A outer s0 H E) x) (hm : mg x = some (.ref fp)) (hkp : PySem.W.keepIn K (.ref fp) = true) (hb : L2.Binds K fdp ["script"] [])
    (hx : ∀ σ H' (Q' : VK), WA (bodyX P w K mg base N qual scope fL cd A outer s0 H E) [.Name y p2] σ H' (fun vs H1 => spPen K M1 M2 vs H1 Q' fun c d H' => E c d H') → WE (bodyX P w K mg base N qual scope fL cd A outer s0 H E) (.Call (.Name x p1) [.Name y p2] [] p3) σ H' Q')
    (h0 : N[0]? = some y) (v0 : Vis scope y) (hd0 : (y == ("__debug__" : Str)) = false) (hc0 : (y == ("__classdict__" : Str)) = false) (hst : starEach [.Name y p2] (bodyX P w K mg base N qual scope fL cd A outer s0 H E).env = (false, eval (.Name y p2) (bodyX P w K mg base N qual scope fL cd A outer s0 H E).env) :: starEach [] (bodyX P w K mg base N qual scope fL cd A outer s0 H E).env)
    (hi : N[i]? = some py) (hl : L2.Loc scope py) (hsw : swapsWith (.Call (.Name x p1) [.Name y p2] [] p3) (some (.Name py p4)) p5.line (bodyX P w K mg base N qual scope fL cd A outer s0 H E).env = pure false)
    (hr : ∀ (p m : Option Addr) (s : S) (σ : L2.St) (H' : Hp) (W : WX) (Z : Ends), Takes (bodyX P w K mg base N qual scope fL cd A outer s0 H E) W → (m = p ∨ m = none) → Env (sg (bodyX P w K mg base N qual scope fL cd A outer s0 H E) p) m (fun _ => none) (fun _ => True) s σ H' → PostS (sg (bodyX P w K mg base N qual scope fL cd A outer s0 H E) p) m (fun _ => none) (fun _ => True) W Z (v s) → WB (bodyX P w K mg base N qual scope fL cd A outer s0 H E) rest Z σ H') (hv : ∀ pn : Pn, pn.at_ = 0 → pn.digits = 0 → pn.count = 0 → 0 ≤ pn.fold → pn.fold < M2 → ∃ s', v (s0Law N.length i pn) = .ok (s', .rt (.bl true))) (hM2 : 0 < M2)
    {a : Addr} {ns : List Int} (hS : SqL K H a (ns.map V.int)) (hns : ns.length ≤ 63) (hT : ∀ P, Tab.own P → LamX.TabS H P (Tab.nm P)) (hQ : ∀ H', Q (.bl true) H') :
    WB (bodyX P w K mg base N qual scope fL cd A outer s0 H E) (.Assign [.Name py p4] (.Call (.Name x p1) [.Name y p2] [] p3) p5 :: rest) { nx := fun _ H' => Q .non H', rt := Q } (L2.start N [.ref a]) H := by
  have hNl : 0 < N.length := by
    cases N with
    | nil => cases h0
    | cons _ _ => exact Nat.succ_pos _
  have hil : i < N.length := (List.getElem?_eq_some_iff.mp hi).1
  have sl : (L2.start N [V.ref a]).length = N.length := by
    unfold L2.start
    rw [List.length_append, List.length_map, List.length_replicate, List.length_cons, List.length_nil]; omega
  have fpos : ∀ (l : List Int) (c : Int), 0 ≤ c → c < M2 → 0 ≤ l.foldl (foldI M1 M2) c ∧ l.foldl (foldI M1 M2) c < M2 := fun l => by
    induction l with
    | nil => exact fun c h1 h2 => ⟨h1, h2⟩
    | cons z l ih => exact fun c _ _ => ih _ (Int.emod_nonneg _ (by omega)) (Int.emod_lt_of_pos _ hM2)
  refine wb_of (pss_cons (ps_set (X := bodyX P w K mg base N qual scope fL cd A outer s0 H E) hN hi hl (peW _ _) hsw (.inl rfl)) (pbW _ rest)) ?_
  show WE _ _ _ H fun u H1 => WB _ rest _ ((L2.start N [.ref a]).set i (some u)) H1
  refine hx _ H _ (wa_of (pa_cons (pv (X := bodyX P w K mg base N qual scope fL cd A outer s0 H E) 0 h0 v0 hd0 hc0) pa_nil hst) ⟨.ref a, by unfold L2.start; rfl, rfl, a, ns, rfl, hS, by omega, fun q c H' hq hc ne h1 h2 ho => ?_⟩)
  obtain ⟨f1, f2⟩ := fpos ns 0 (by omega) hM2
  obtain ⟨s', hs'⟩ := hv ⟨ns, 0, 0, 0, ns.foldl (foldI M1 M2) 0⟩ rfl rfl rfl f1 f2
  have sg' : ∀ j (z : Sl), (s0Law N.length i ⟨ns, 0, 0, 0, ns.foldl (foldI M1 M2) 0⟩).sl[j]? = some z → z = .no ∨ (j = i ∧ z = .fz .pen) := fun j z hz => by
    have hz' : ((List.replicate N.length Sl.no).set i (.fz .pen))[j]? = some z := hz
    by_cases e : j = i
    · subst e
      rw [List.getElem?_set_self (by rw [List.length_replicate]; exact hil)] at hz'
      exact .inr ⟨rfl, (Option.some.inj hz').symm⟩
    · rw [List.getElem?_set_ne (Ne.symm e), List.getElem?_replicate] at hz'
      split at hz'
      · exact .inl (Option.some.inj hz').symm
      · cases hz'
  have no : ∀ j b, ¬ OwnAt (s0Law N.length i ⟨ns, 0, 0, 0, ns.foldl (foldI M1 M2) 0⟩) ((L2.start N [.ref a]).set i (some (.ref q))) j b := fun j b ⟨⟨d, z⟩, _⟩ => by
    rcases sg' j _ z with z | ⟨_, z⟩ <;> cases z
  refine hr (some q) (some q) (s0Law N.length i ⟨ns, 0, 0, 0, ns.foldl (foldI M1 M2) 0⟩) _ H' (fun cls d _ H => E cls d H) _ body_takes (.inl rfl) ?_ (by rw [hs']; exact fun u σ' H2 _ r => by rw [r.bl_v]; exact hQ H2)
  refine ⟨?_, .inr rfl, ⟨fun _ _ _ _ z => (nomatch z), fun _ _ z => (nomatch z), fun _ z => absurd rfl z, fun P' ⟨_, z, _⟩ => (nomatch z), fun _ _ z => (nomatch z)⟩, fun j b z => absurd z (no j b), fun _ _ => True.intro, fun j d z => ?_, fun j d z => ?_, fun j l b z => absurd z (no j b), ⟨q, c, rfl, h1, ⟨True.intro, fun z => ?_, fun j => no j c⟩, h2⟩, fun b z => ?_, fun P hP => ?_⟩
  · show ((List.replicate N.length Sl.no).set i (.fz .pen)).length = _
    rw [List.length_set, List.length_set, List.length_replicate, sl]
  · rcases sg' j _ z with z2 | ⟨rfl, z2⟩
    · cases z2
    · cases z2
      exact ⟨.ref q, List.getElem?_set_self (by rw [sl]; exact hil), .pen rfl⟩
  · rcases sg' j _ z with z | ⟨_, z⟩ <;> cases z
  · exact ne (Option.some.inj z)
  · cases z
    rw [h1]; exact nofun
  · refine (hT P hP).ext fun b o z => ?_
    rw [ho b (ne_of_none z hq) (ne_of_none z hc)]; exact z
end
end SM

set_option Elab.async false
set_option linter.all false
set_option maxRecDepth 100000
set_option maxHeartbeats 4000000
namespace SM
open PySem PySem.Spec PyProof.Rows L2 LamX

/-! ## the law's end: tables, guards -/
def lawH (K : PySem.W.Frag) (a : Addr) (o : HO) (T : List Addr) : Hp := fun b => if b = a ∧ K.lookup a = none then some o else if b ∈ T then some (.tbl #[]) else none
theorem law_callG {P : Program} {w : World} {K : PySem.W.Frag} {mg mb : Str → Option Value} {k : Nat} {fa a : Addr} {cs : List (Addr × Addr)} {fd : FuncData} {x : Str} {sp : Sp} {s₁ : Shared} {vs : List Value} {ns : List Int}
    (KX : K.In s₁.heap) (hns : s₁.heap.Ns mainGlobals mg) (hb : s₁.heap.Ns builtinsNs mb) (hbb : ∀ x : Str, x ≠ "__name__" → mb x = bootBuiltins x) (hlim : s₁.heap.NoLimit) (hg : s₁.gens = #[])
    (hT : ∀ p ∈ cs, s₁.heap.get? p.2 = some { cls := .none, data := .fields #[] }) (nT : ∀ p ∈ cs, K.lookup p.2 = none) (C : ∀ p ∈ cs, PySem.W.CodeHd s₁.heap p.1 p.2)
    (hbm : ∃ (bm : Addr) (ob : Obj), mg "__builtins__" = some (.ref bm) ∧ bm ≠ builtinsNs ∧ s₁.heap.get? bm = some ob ∧ ob.cls = .type "module" ∧ ob.dict = some builtinsNs ∧ ob.data = .plain)
    (ha : s₁.heap.get? a = some { cls := .type "list", data := .seq vs.toArray }) (hi : IntsAre vs ns) (hl : ns.length ≤ sizeLine) (hr : Room k callerA)
    (F : ∀ base : Heap, K.In base → base.Ns mainGlobals mg → (∀ p ∈ cs, TabB base mg p.1 p.2) → FnG P w K mg base k fa fd [x] sp) (hbind : ∀ (s : Shared) (u : Value), BindsTo s fd ⟨[u], []⟩ [(x, u)])
    (hsp : ∀ H : Hp, (∀ p ∈ cs, H p.2 = some (.tbl #[])) → SqL K H a (ns.map V.int) → sp [.ref a] H (fun v _ => v = .bl true) fun _ _ _ => False) :
    codeAny (model P w) callerA (.call (.ref fa) ⟨[.ref a], []⟩) (fun r s' => r = .ok (.ret (.bool true)) ∧ OldK s₁.heap s'.heap ∧ s'.os = s₁.os ∧ AllBare s'.gens) s₁ := by
  have rv := vals_ints hi
  have lenV := hi.length
  let T := cs.map (·.2)
  have tT : ∀ b ∈ T, s₁.heap.get? b = some { cls := .none, data := .fields #[] } ∧ K.lookup b = none := fun b hb => by
    obtain ⟨p, hp, e⟩ := List.mem_map.mp hb
    exact e ▸ ⟨hT p hp, nT p hp⟩
  have memT : ∀ p ∈ cs, p.2 ∈ T := fun p hp => List.mem_map.mpr ⟨p, hp, rfl⟩
  have aT : a ∉ T := fun z => by
    have q := (tT a z).1
    rw [ha] at q
    have z' : Data.seq vs.toArray _ = Data.fields #[] := congrArg Obj.data (Option.some.inj q)
    cases z'
  obtain ⟨H, hHd⟩ : ∃ H, H = lawH K a (.frz { cls := .type "list", data := .seq vs.toArray } (.lst (ns.map V.int))) T := ⟨_, rfl⟩
  have atT : ∀ b ∈ T, H b = some (.tbl #[]) := fun b hb => by
    rw [hHd]; unfold lawH
    rw [if_neg fun (z : b = a ∧ K.lookup a = none) => aT (z.1 ▸ hb), if_pos hb]
  have of : ∀ b u, H b = some u → (b = a ∧ K.lookup a = none ∧ u = .frz { cls := .type "list", data := .seq vs.toArray } (.lst (ns.map V.int))) ∨ (b ∈ T ∧ u = .tbl #[]) := fun b u e => by
    rw [hHd] at e; unfold lawH at e
    split at e
    · rename_i z; exact .inl ⟨z.1, z.2, (Option.some.inj e).symm⟩
    · split at e
      · rename_i z; exact .inr ⟨z, (Option.some.inj e).symm⟩
      · cases e
  have hS : SqL K H a (ns.map V.int) := by
    cases hk : K.lookup a with
    | none =>
      refine .inl (.inr ⟨{ cls := .type "list", data := .seq vs.toArray }, ?_⟩)
      rw [hHd]; unfold lawH; rw [if_pos ⟨rfl, hk⟩]
    | some o =>
      have e := KX a o hk
      rw [ha] at e
      cases e
      exact .inr ⟨_, vs.toArray, _, hk, rfl, rfl, rfl, by rw [List.size_toArray, lenV]; exact hl, by simpa using rv⟩
  have hok : HOk P w H s₁.heap := fun b u e => by
    rcases of b u e with ⟨rfl, _, rfl⟩ | ⟨hb, rfl⟩
    · exact ⟨ha, by rw [List.length_map]; exact hl, vs, _, rv, ha⟩
    · exact (tT b hb).1
  -- what is neither a list nor an empty record is not tracked
  have noD : ∀ {b : Addr} {o : Obj}, s₁.heap.get? b = some o → (∀ vs n, o.data ≠ .seq vs n) → o.data ≠ .fields #[] → H b = none := fun {b o} e h1 h2 => by
    cases q : H b with
    | none => rfl
    | some u =>
      rcases of b u q with ⟨rfl, _, _⟩ | ⟨hb, _⟩
      · rw [ha] at e; cases e; exact (h1 _ _ rfl).elim
      · rw [(tT b hb).1] at e; cases e; exact (h2 rfl).elim
  have base_of : ∀ {b : Addr} {o : Obj}, s₁.heap.get? b = some o → H b = none → (hidT s₁.heap H).get? b = some o := fun e n => hidT_get e n
  have noA : ∀ {b : Addr} {o : Obj} {es : Array DictEntry} {ep : Nat}, s₁.heap.get? b = some o → o.data = .dict es ep → H b = none := fun {b o es ep} e d => noD e (fun vs n z => by rw [d] at z; cases z) fun z => by rw [d] at z; cases z
  have nsK : ∀ {b : Addr} {m : Str → Option Value}, s₁.heap.Ns b m → (hidT s₁.heap H).Ns b m := fun {b m} ⟨o, es, ep, e, d, r⟩ => ⟨o, es, ep, base_of e (noA e d), d, r⟩
  have hKb : K.In (hidT s₁.heap H) := fun b o e => base_of (KX b o e) (by
    cases q : H b with
    | none => rfl
    | some u =>
      rcases of b u q with ⟨rfl, z, _⟩ | ⟨hb, _⟩
      · rw [z] at e; cases e
      · rw [(tT b hb).2] at e; cases e)
  have hM : L2.Mod K mg (hidT s₁.heap H) := ⟨hKb, nsK hns, ⟨mb, nsK hb, hbb⟩, let ⟨mc, h1, h2⟩ := hlim; ⟨mc, nsK h1, h2⟩⟩
  have TB : ∀ p ∈ cs, TabB (hidT s₁.heap H) mg p.1 p.2 := fun p hp => by
    have hTp := hT p hp
    obtain ⟨oG, esG, epG, eG, dG, _⟩ := id hns
    refine ⟨?_, ?_, fun z => ?_⟩
    · obtain ⟨o, us, file, tf, flags, tg, inF, text, tt, e1, r1, r2, r3, r4, r5, r6, r7, r8, hne⟩ := C p hp
      exact ⟨o, us, file, tf, flags, tg, inF, text, tt, base_of e1 (noD e1 (fun vs n z => by rw [r2] at z; cases z) fun z => by rw [r2] at z; cases z; simp at r3), r1, r2, r3, r4, r5, r6, r7, r8, hne⟩
    · obtain ⟨bm, ob, b1, b2, b3, b4, b5, b6⟩ := hbm
      refine ⟨bm, ob, b1, b2, fun q => ?_, fun q => ?_, base_of b3 (noD b3 (fun vs n z => by rw [b6] at z; cases z) fun z => by rw [b6] at z; cases z), b4, b5, b6⟩
      · rw [q, eG] at b3; cases b3; rw [dG] at b6; cases b6
      · rw [q, hTp] at b3; cases b3; cases b6
    · rw [z, hTp] at eG; cases eG; cases dG
  have e0 : Env0 P w K mg (hidT s₁.heap H) callerA [] s₁ H := ⟨rfl, hM, fun b o e => of_hidT e, Nat.le_of_eq (hidT_size _ _), trivial, fun b hb => absurd (show b ∈ ([] : List Addr) from hb) (by simp), hok, .of_eq hg⟩
  refine codeAny_mono ((F _ hKb (nsK hns) TB).run callerA [] s₁ H ⟨[.ref a], []⟩ [.ref a] [.ref a] _ _ hr rfl e0 (hbind s₁ (.ref a)) (.cons rfl .nil) (hsp H (fun p hp => atT _ (memT p hp)) hS)) fun r s' h => ?_
  match r, h with
  | .error e, h =>
    obtain ⟨_, _, _, _, _, _, _, _, _, _, _, _, z⟩ := h
    exact z.elim
  | .ok .next, h => exact h.elim
  | .ok .brk, h => exact h.elim
  | .ok .cont, h => exact h.elim
  | .ok (.ret u), ⟨v, H', os, bare, un, hok', r', q⟩ =>
    have q' : v = .bl true := q
    subst q'
    obtain rfl : u = Value.bool true := r'
    have key : ∀ b o, b ∉ T → s₁.heap.get? b = some o → s'.heap.get? b = some o := fun b o nb e => by
      cases q : H b with
      | none => exact un.keep b o e q (fun z => absurd (show b ∈ ([] : List Addr) from z) (by simp)) (by simp)
      | some u =>
        rcases of b u q with ⟨rfl, _, rfl⟩ | ⟨hb, _⟩
        · have e2 := (hok' b _ (un.frzs b _ _ q)).1
          rw [ha] at e
          cases e
          exact e2
        · exact absurd hb nb
    have grown : ∀ b ∈ T, ∃ more : Array Value, s'.heap.get? b = some { cls := .none, data := .fields more } := fun b hb => by
      obtain ⟨more, z⟩ := un.tbls b #[] (atT b hb)
      exact ⟨_, hok' b _ z⟩
    refine ⟨rfl, ⟨fun b o e => ?_, fun b o e => ?_⟩, os, bare⟩
    · by_cases hb : b ∈ T
      · obtain ⟨p, hp, ep⟩ := List.mem_map.mp hb
        obtain ⟨more, hm⟩ := grown b hb
        rw [(tT b hb).1] at e
        cases e
        exact .inr (.inl ⟨ep ▸ ((C p hp).tab (hT p hp)).isCodeTable, rfl, #[], more, rfl, by rw [Array.empty_append]; exact hm⟩)
      · exact .inl (key b o hb e)
    · by_cases hb : b ∈ T
      · obtain ⟨more, hm⟩ := grown b hb
        exact ⟨_, hm⟩
      · exact ⟨o, key b o hb e⟩
/-- what is known of the law's promise at the head's heap h -/
def LawAtG (l : PySem.W.OpenLaw) (w : World) (K : PySem.W.Frag) (k n : Nat) (x : Str) (mg : Str → Option Value) (fa : Addr) (h : Heap) : Prop :=
  ∃ (fd : FuncData) (cs : List (Addr × Addr)) (sp : Sp), (∀ p ∈ cs, h.get? p.2 = some { cls := .none, data := .fields #[] }) ∧ (∀ p ∈ cs, K.lookup p.2 = none) ∧ (∀ p ∈ cs, PySem.W.CodeHd h p.1 p.2) ∧ (∀ (s : Shared) (u : Value), BindsTo s fd ⟨[u], []⟩ [(x, u)]) ∧
    (∀ (H : Hp) (a : Addr) (ns : List Int), ns.length ≤ n → (∀ p ∈ cs, H p.2 = some (.tbl #[])) → SqL K H a (ns.map V.int) → sp [.ref a] H (fun v _ => v = .bl true) fun _ _ _ => False) ∧
    ∀ base : Heap, K.In base → base.Ns mainGlobals mg → (∀ p ∈ cs, TabB base mg p.1 p.2) → FnG l.prog w K mg base k fa fd [x] sp
theorem walk_ofG {l : PySem.W.OpenLaw} {n k : Nat} {q : Program} {loose : List Str} {XP : (Str → Option Value) → Heap → Prop} {YP : World → Heap → Prop} {d : DefRec} {x : Str} (hn : l.most = some n) (hn2 : n ≤ sizeLine) (hdf : d.params.defaults = []) (hr : Room k callerA)
    (F : ∀ (w : World) (mg : Str → Option Value) (fa : Addr) (h : Heap), YP w h → h.Ns mainGlobals mg → mg d.name = some (.ref fa) → ∃ K : PySem.W.Frag, K.In h ∧ LawAtG l w K k n x mg fa h) :
    PySem.W.WalkO q loose XP YP l.row.toRowW d [] (fun f vs => PySem.call f vs) := by
  refine Att.attach_callB hn hdf fun w s₀ s₁ mg mb fa o pm cd doc a vs ns G Y ho hd hcd hmg hobj hints hlen hbits hg => ?_
  obtain ⟨K, KX, fd, cs, sp, hT, nT, C, hb, hsp, hF⟩ := F w mg fa _ Y G.T.g hmg
  exact law_callG KX G.T.g G.T.b G.T.builtins G.T.nolimit hg hT nT C G.T.bmain hobj hints (Nat.le_trans hlen hn2) hr hF hb fun H hH hS => hsp H a ns hlen hH hS
end SM

set_option Elab.async false
set_option linter.all false
set_option maxRecDepth 100000
set_option maxHeartbeats 4000000
namespace SM
open PySem PySem.Spec PyProof.Rows L2 He

/-! ## what the head tells -/
/-- the objects that are looked at: those that the module's names reach, and the interpreter's own tables -/
def asS (g : Addr → Option Obj) (n : Nat) : List Addr := sysModules :: cStatics :: asD g n
structure SaysS (fa : List Fa) (fn : List DefD) (tf : List Defn) (ex : PySem.W.Frag → Bool) (h : Heap) (K : PySem.W.Frag) : Prop where
  d : SaysD fa fn K
  more : ex K = true
  hd : ∀ p ∈ tf, PySem.W.codeHdIn K (cT K p).1 (cT K p).2 = true
  out : ∀ p ∈ tf, K.lookup (cT K p).2 = none
  empty : ∀ p ∈ tf, h.get? (cT K p).2 = some { cls := .none, data := .fields #[] }
abbrev AlS : Type := AlD × Bool
def obsS (n : Nat) (fa : List Fa) (fn : List DefD) (tf : List Defn) (ex : PySem.W.Frag → Bool) (g : Addr → Option Obj) : AlS := (obsD fa fn (frT g (asS g n)), ex (frT g (asS g n)) && tabsB g tf (frT g (asS g n)))
def valS (fn : List DefD) : AlS := (valD fn, true)
theorem saysS_of {n : Nat} {fa : List Fa} {fn : List DefD} {tf : List Defn} {ex : PySem.W.Frag → Bool} {h : Heap} (e : obsS n fa fn tf ex h.get? = valS fn) : SaysS fa fn tf ex h (frT h.get? (asS h.get? n)) := by
  obtain ⟨h1, h2⟩ := ba (show (ex (frT h.get? (asS h.get? n)) && tabsB h.get? tf (frT h.get? (asS h.get? n))) = true from congrArg (fun z : AlS => z.2) e)
  have key : ∀ p ∈ tf, PySem.W.codeHdIn (frT h.get? (asS h.get? n)) (cT (frT h.get? (asS h.get? n)) p).1 (cT (frT h.get? (asS h.get? n)) p).2 = true ∧ ∃ o, h.get? (cT (frT h.get? (asS h.get? n)) p).2 = some o ∧ emptyTab o = true := fun p hp => by
    obtain ⟨h3, h4⟩ := ba (List.all_eq_true.mp h2 p hp)
    refine ⟨h3, ?_⟩
    cases q : h.get? (cT (frT h.get? (asS h.get? n)) p).2 with
    | none => rw [q] at h4; cases h4
    | some o => rw [q] at h4; exact ⟨o, rfl, h4⟩
  refine ⟨congrArg (fun z : AlS => z.1) e, h1, fun p hp => (key p hp).1, fun p hp => ?_, fun p hp => ?_⟩
  · obtain ⟨_, o, q, z⟩ := key p hp
    exact frT_none q z
  · obtain ⟨_, o, q, z⟩ := key p hp
    rw [q, emptyTab_eq z]
def hookS (n : Nat) (fa : List Fa) (fn : List DefD) (tf : List Defn) (ex : PySem.W.Frag → Bool) : PySem.W.Hook where
  α := AlS
  obs := fun s => obsS n fa fn tf ex s.heap.get?
  val := fun _ => valS fn
  says := fun _ h => ∃ K : PySem.W.Frag, K.In h ∧ SaysS fa fn tf ex h K
  of := fun _ _ e => ⟨_, frT_in, saysS_of e⟩
  keeps := fun _ _ _ ⟨K, hK, c⟩ k => ⟨K, PySem.W.Frag.In.keeps hK k, ⟨c.d, c.more, c.hd, c.out, fun p hp => k _ _ (c.empty p hp)⟩⟩
theorem obsS_eq {n : Nat} {fa : List Fa} {fn : List DefD} {tf : List Defn} {ex : PySem.W.Frag → Bool} {g : Addr → Option Obj} {s : Shared} (h : ∀ a, g a = s.heap.get? a) : obsS n fa fn tf ex g = (hookS n fa fn tf ex).obs s := by
  have e : g = s.heap.get? := funext h
  rw [e] <;> rfl

/-! ## facts, as truth values -/
def isB (K : PySem.W.Frag) (x : Str) (id : String) : Bool := decide (PySem.W.nsIn K mainGlobals x = some (some (.builtin id)))
theorem isB_ok {K : PySem.W.Frag} {h : Heap} {mg : Str → Option Value} (X : K.In h) (G : h.Ns mainGlobals mg) {x : Str} {id : String} (c : isB K x id = true) : mg x = some (.builtin id) := PySem.W.mg_of X G (of_decide_eq_true c)
def sysB (K : PySem.W.Frag) : Bool := (K.lookup sysModules).isSome
/-- a class over ValueError -/
def oexB (K : PySem.W.Frag) (C : Addr) : Bool := (match K.lookup C with
  | some ⟨.type "type", _, .cls cd, sl⟩ => (match cd.mro, sl.toList with
    | .ref C' :: bm, [_, _, _, _, some (.builtin n), _] => C' == C && (n == "ValueError.__new__" && (!cd.hasDel && (cd.hasDict && PySem.HandSPX.refsVE bm)))
    | _, _ => false)
  | _ => false) && (decide (PySem.W.findIn K (.ref C) "__setattr__" = some (some (.builtin "object.__setattr__"))) && (decide (PySem.W.subIn K (.ref C) (.type "BaseException") = some true) && (decide (PySem.W.typeIn K (.ref C) = some (.type "type")) && PySem.W.keepIn K (.ref C))))
theorem oexB_ok {K : PySem.W.Frag} {C : Addr} (h : oexB K C = true) : OexC K C := by
  obtain ⟨h1, h⟩ := ba h
  obtain ⟨h2, h⟩ := ba h
  obtain ⟨h3, h⟩ := ba h
  obtain ⟨h4, h5⟩ := ba h
  refine ⟨?_, of_decide_eq_true h2, of_decide_eq_true h3, of_decide_eq_true h4, h5⟩
  split at h1
  · rename_i dd cd sl ho
    split at h1
    · rename_i C' bm k0 k1 k2 k3 n k5 hm hs
      simp only [Bool.and_eq_true, beq_iff_eq, Bool.not_eq_true'] at h1
      obtain ⟨rfl, rfl, hdel, hdi, ht⟩ := h1
      obtain ⟨nm, bs, mro, ns, qn, hd, sn, sub, ab, col, del⟩ := cd
      dsimp only at hm hdel hdi
      subst hm hdel hdi
      have hsl : sl = #[k0, k1, k2, k3, some (.builtin "ValueError.__new__"), k5] := by
        obtain ⟨l⟩ := sl
        simp only at hs
        rw [hs]
      subst hsl
      exact ⟨nm, qn, ns, bs, bm, sn, sub, ab, col, dd, k0, k1, k2, k3, k5, ho, ht⟩
    · cases h1
  · cases h1
def topErrB (K : PySem.W.Frag) (C : Addr) : Bool := PySem.W.readsIn K C (.type "type") && (decide (PySem.W.specialIn K (.ref C) "__getattribute__" = some (some (.builtin "type.__getattribute__"))) && (match PySem.W.findCls K (.ref C) (.type "type") "__init__" with
  | some (.val (.builtin n)) => n == "ValueError.__init__"
  | _ => false))
theorem topErrB_ok {K : PySem.W.Frag} {C : Addr} (h : topErrB K C = true) : TopErr K C := by
  obtain ⟨h1, h⟩ := ba h
  obtain ⟨h2, h3⟩ := ba h
  refine ⟨h1, of_decide_eq_true h2, ?_⟩
  split at h3
  · rename_i n e
    rw [e, beq_iff_eq.mp h3]
  · cases h3
def errB (K : PySem.W.Frag) (C fI : Addr) (names : List Str) : Bool := oexB K C && (decide (PySem.W.findIn K (.ref C) "__init__" = some (some (.ref fI))) && (decide (PySem.W.typeIn K (.ref fI) = some (.type "function")) && names.all fun n => decide (PySem.W.findIn K (.ref C) n = some none)))
theorem errB_ok {K : PySem.W.Frag} {C fI : Addr} {names : List Str} (h : errB K C fI names = true) : ErrC K C fI names := by
  obtain ⟨h1, h⟩ := ba h
  obtain ⟨h2, h⟩ := ba h
  obtain ⟨h3, h4⟩ := ba h
  exact ⟨oexB_ok h1, of_decide_eq_true h2, of_decide_eq_true h3, fun n hn => of_decide_eq_true (List.all_eq_true.mp h4 n hn)⟩
def exmB (K : PySem.W.Frag) (C C' : Addr) (b : Bool) : Bool := decide (PySem.W.exmOne K (.ref C) (.ref C') = some b)
end SM

set_option Elab.async false
set_option linter.all false
set_option maxRecDepth 100000
set_option maxHeartbeats 4000000
namespace SM
variable [Tab]
open PySem PySem.Spec PyProof.Rows L2

/-! ## a def's body, run -/
def entry (N : List Str) (ds : List D) (pn : Option Mu) : S := ⟨ds.map .fz ++ List.replicate (N.length - ds.length) .no, pn⟩
def runP (N : List Str) (b : S → Res (S × Fl)) (ds : List D) (pn : Option Mu) : Res (D × Option Mu) := match b (entry N ds pn) with
  | .ok (s', .rt d) => .ok (d, s'.pn)
  | .ok (s', .nx) => .ok (.non, s'.pn)
  | .exn c ns es => .exn c ns es
  | _ => .stuck
def runF (N : List Str) (b : S → Res (S × Fl)) (ds : List D) : Res D := match b (entry N ds none) with
  | .ok (_, .rt d) => .ok d
  | .ok (_, .nx) => .ok .non
  | .exn c ns es => .exn c ns es
  | _ => .stuck
section
variable {P : Program} {w : World} {K : PySem.W.Frag} {mg : Str → Option Value} {base : Heap} {N : List Str} {qual : Str} {scope : Scope} {f : Addr} {cd : Value} {A : Around} {outer : List PySem.Env} {s0 : Shared} {H : Hp} {E : XK} {Q : VK} {vs : List V} {body : List Stmt} {b : S → Res (S × Fl)} {n : Nat}
theorem entry_env {p m : Option Addr} {okA : Addr → Prop} {ds : List D} {pn : Option Mu} (hn : vs.length ≤ N.length) (hpm : pn = none ∨ m = p) (hnew : ∀ a, H a = none → okA a) (hp : ∀ a, p = some a → H a ≠ none) (hT : ∀ P, Tab.own P → LamX.TabS H P (Tab.nm P))
    (rs : Reps ⟨K, mg, p, Tab.tab⟩ (okP p okA) H vs ds) (pen : PenH ⟨K, mg, p, Tab.tab⟩ (okP p okA) H pn) : Env ⟨K, mg, p, Tab.tab⟩ m H okA (entry N ds pn) (L2.start N vs) H := by
  have hl := rs.length
  have at_ : ∀ (j : Nat) (z : Sl), (entry N ds pn).sl[j]? = some z → z = .no ∨ ∃ d, z = .fz d ∧ ds[j]? = some d := fun j z h => by
    have h' : (ds.map Sl.fz ++ List.replicate (N.length - ds.length) Sl.no)[j]? = some z := h
    by_cases hj : j < ds.length
    · rw [List.getElem?_append_left (by simpa using hj), List.getElem?_map] at h'
      cases q : ds[j]? with
      | none => rw [q] at h'; cases h'
      | some d => rw [q] at h'; cases h'; exact .inr ⟨d, rfl, rfl⟩
    · rw [List.getElem?_append_right (by simpa using hj), List.getElem?_replicate] at h'
      split at h'
      · exact .inl (Option.some.inj h').symm
      · cases h'
  have no : ∀ j a, ¬ OwnAt (entry N ds pn) (L2.start N vs) j a := fun j a ⟨⟨d, z⟩, _⟩ => by
    rcases at_ j _ z with y | ⟨_, y, _⟩ <;> cases y
  have low : ∀ a, okP p okA a → Ok ⟨K, mg, p, Tab.tab⟩ okA (entry N ds pn) (L2.start N vs) a := fun a h => ⟨h.1, h.2, fun j => no j a⟩
  refine ⟨?_, hpm, Ext.refl _ _, fun j a z => absurd z (no j a), hnew, fun j d z => ?_, fun j d z => ?_, fun j l a z => absurd z (no j a), pen.keep (Keeps.refl _ _) low fun _ _ _ _ z => z, hp, hT⟩
  · show (ds.map Sl.fz ++ List.replicate (N.length - ds.length) Sl.no).length = _
    unfold L2.start
    rw [List.length_append, List.length_append, List.length_map, List.length_map, List.length_replicate, List.length_replicate, hl]
  · rcases at_ j _ z with y | ⟨d', y, q⟩
    · cases y
    · cases y
      obtain ⟨v, v1, v2⟩ := rs.get q
      refine ⟨v, ?_, Rep.mono (Keeps.refl _ _) (fun a h _ => low a h) _ _ v2⟩
      have hj : j < vs.length := (List.getElem?_eq_some_iff.mp v1).1
      unfold L2.start
      rw [List.getElem?_append_left (by simpa using hj), List.getElem?_map, v1]
      rfl
  · rcases at_ j _ z with y | ⟨_, y, _⟩ <;> cases y
theorem wb_fnP (hN : n ≤ N.length) (hb : SB (bodyX P w K mg base N qual scope f cd A outer s0 H E) body b) (hsp : spP K mg n (runP N b) vs H Q E) : WB (bodyX P w K mg base N qual scope f cd A outer s0 H E) body { nx := fun _ H' => Q .non H', rt := Q } (L2.start N vs) H := by
  obtain ⟨hl, p, m, okA, ds, pn, hm, hpm, hnew, hp, hT, rs, pen, hres⟩ := hsp
  have EE0 : Env ⟨K, mg, p, Tab.tab⟩ m H okA (entry N ds pn) (L2.start N vs) H := entry_env (by omega) hpm hnew hp hT rs pen
  have hm2 : m = (Sig.mk K mg p Tab.tab).pen ∨ m = none := hm
  refine hb p m H okA (entry N ds pn) _ H (fun cls d _ H => E cls d H) _ body_takes hm EE0 ?_
  unfold runP at hres
  cases hr : b (entry N ds pn) with
  | ok z =>
    obtain ⟨s', fl⟩ := z
    rw [hr] at hres
    have fresh : ∀ {σ' : L2.St} {H' : Hp}, Env ⟨K, mg, p, Tab.tab⟩ m H okA s' σ' H' → ∀ a, H' a = none → H a = none := fun E' a h => by
      cases q : H a with
      | none => rfl
      | some o => exact absurd h (E'.kp.n a (by rw [q]; exact nofun))
    cases fl with
    | nx => exact fun σ' H' E' => hres .non H' E'.kp (fresh E') E'.pn (E'.pen.keep (Keeps.refl _ _) (fun a h => ⟨h.1, h.2.1⟩) fun _ _ _ _ z => z) .non
    | rt d => exact fun v σ' H' E' r => hres v H' E'.kp (fresh E') E'.pn (E'.pen.keep (Keeps.refl _ _) (fun a h => ⟨h.1, h.2.1⟩) fun _ _ _ _ z => z) (Rep.mono (Keeps.refl _ _) (fun a h _ => ⟨h.1, h.2.1⟩) _ _ r)
    | bk => exact hres.elim
    | ct => exact hres.elim
  | exn c ns es =>
    rw [hr] at hres
    intro C dd fs σ' H' e hd hc hx hn fr r
    exact hres C dd fs H' e hd hc hx hn (fun a h => by
      cases q : H a with
      | none => rfl
      | some o => exact absurd h (e.n a (by rw [q]; exact nofun))) r
  | stuck => rw [hr] at hres; exact hres
theorem wb_fn (hN : n ≤ N.length) (hb : SB (bodyX P w K mg base N qual scope f cd A outer s0 H E) body b) (hsp : spF K mg n (runF N b) vs H Q E) : WB (bodyX P w K mg base N qual scope f cd A outer s0 H E) body { nx := fun _ H' => Q .non H', rt := Q } (L2.start N vs) H := by
  obtain ⟨hl, p, m, okA, ds, pn, hm, hpm, hnew, hp, hT, rs, pen, hres⟩ := hsp
  refine wb_fnP (n := n) hN hb ⟨hl, p, none, okA, ds, none, .inr rfl, .inl rfl, hnew, hp, hT, rs, True.intro, ?_⟩
  have keep : ∀ {H' : Hp}, Ext none H H' → PenH ⟨K, mg, p, Tab.tab⟩ (okP p okA) H' pn := fun {H'} e => pen.keep (e.keeps fun _ _ => nofun) (fun _ z => z) fun q o _ f h => e.o q o nofun f h
  unfold noPen runF at hres
  unfold runP
  cases hr : b (entry N ds none) with
  | ok z =>
    obtain ⟨s', fl⟩ := z
    rw [hr] at hres
    cases fl with
    | nx => exact fun v H' e fr hp' _ r => hres v H' e.low fr hp' (keep e) r
    | rt d => exact fun v H' e fr hp' _ r => hres v H' e.low fr hp' (keep e) r
    | bk => exact hres.elim
    | ct => exact hres.elim
  | exn c ns es =>
    rw [hr] at hres
    exact fun C dd fs H' e => hres C dd fs H' e.low
  | stuck => rw [hr] at hres; exact hres
end
/-- a def of the module, by its number in the text -/
abbrev FnS (K : PySem.W.Frag) (x : Str) (st : Stmt) : Prop := ∃ fd, FunD K x x (defArgs st) (defBody st) (defScope st) [] [] (He.ga K x) fd
/-- what is known of a def: how it is bound, what it promises -/
def OkF (P : Program) (w : World) (K : PySem.W.Frag) (mg : Str → Option Value) (base : Heap) (k : Nat) (x : Str) (ps : List Str) (sp : Sp) : Prop := PySem.W.keepIn K (.ref (He.ga K x)) = true ∧ ∃ fd, L2.Binds K fd ps [] ∧ FnG P w K mg base k (He.ga K x) fd ps sp
theorem okF_of {P : Program} {w : World} {K : PySem.W.Frag} {mg : Str → Option Value} {base : Heap} {k n : Nat} {x : Str} {N ps : List Str} {st : Stmt} {b : S → Res (S × Fl)} (F : FnS K x st) (S : FnScope N ps (defScope st)) (hn : ps.length = n) (hN : n ≤ N.length)
    (hbind : ∀ (kV doc pm : Value) (an : Option Addr) (cdv ct : Value) (us : List Value), us.length = ps.length → bindArgs (PySem.W.fnOf x x (defArgs st) (defBody st) (defScope st) .none kV doc pm an cdv ct) ⟨us, []⟩ = pure (ps.zip us))
    (hb : ∀ cd A outer s H E, Good k (bodyX P w K mg base N x (defScope st) (He.ga K x) cd A outer s H E) → SB (bodyX P w K mg base N x (defScope st) (He.ga K x) cd A outer s H E) (defBody st) b) : OkF P w K mg base (k + 1) x ps (spF K mg n (runF N b)) := by
  obtain ⟨fd, FD⟩ := F
  refine ⟨FD.kp, fd, FD.bindsN hbind, ?_⟩
  obtain ⟨oc, od, dV, kV, doc, pm, an, cdv, ct, osl, rfl, lk, hcd, _, _⟩ := FD.ex
  exact fnG_of lk hcd S (fun vs H Q E h => h.1.trans hn.symm) fun A outer s H vs Q E g hsp => wb_fn hN (hb cdv A outer s H E g) hsp
theorem okF_ofP {P : Program} {w : World} {K : PySem.W.Frag} {mg : Str → Option Value} {base : Heap} {k n : Nat} {x : Str} {N ps : List Str} {st : Stmt} {b : S → Res (S × Fl)} (F : FnS K x st) (S : FnScope N ps (defScope st)) (hn : ps.length = n) (hN : n ≤ N.length)
    (hbind : ∀ (kV doc pm : Value) (an : Option Addr) (cdv ct : Value) (us : List Value), us.length = ps.length → bindArgs (PySem.W.fnOf x x (defArgs st) (defBody st) (defScope st) .none kV doc pm an cdv ct) ⟨us, []⟩ = pure (ps.zip us))
    (hb : ∀ cd A outer s H E, Good k (bodyX P w K mg base N x (defScope st) (He.ga K x) cd A outer s H E) → SB (bodyX P w K mg base N x (defScope st) (He.ga K x) cd A outer s H E) (defBody st) b) : OkF P w K mg base (k + 1) x ps (spP K mg n (runP N b)) := by
  obtain ⟨fd, FD⟩ := F
  refine ⟨FD.kp, fd, FD.bindsN hbind, ?_⟩
  obtain ⟨oc, od, dV, kV, doc, pm, an, cdv, ct, osl, rfl, lk, hcd, _, _⟩ := FD.ex
  exact fnG_of lk hcd S (fun vs H Q E h => h.1.trans hn.symm) fun A outer s H vs Q E g hsp => wb_fnP hN (hb cdv A outer s H E g) hsp

section
variable {X : Cx} {k j n : Nat} {x : Str} {ps : List Str} {e : Expr} {es : List Expr} {fs : S → Res (S × List D)} {pp pos : Pos}
theorem cc {F : List D → Res D} (O : OkF X.prog X.w X.K X.mg X.base j x ps (spF X.K X.mg n F)) (hj : j ≤ k) (g : Good k X) (hmg : X.mg x = some (.ref (He.ga X.K x))) (hl : LenIs fs n) (ha : EA X (e :: es) fs) (hg : Gl X x := by rfl) (hdb : (x == ("__debug__" : Str)) = false := by decide)
    (he : starEach (e :: es) X.env = (false, eval e X.env) :: starEach es X.env := by rfl) (hpl : (backTo pos (starEach es X.env)).any (·.1) = false := by rfl) : EE X (.Call (.Name x pp) (e :: es) [] pos) (eCall F fs) := by
  obtain ⟨hk, fd, hb, G⟩ := O
  exact ee_call (G.mono hj) g hg hmg hk hb hl ha hdb he hpl
theorem ccP {F : List D → Option Mu → Res (D × Option Mu)} (O : OkF X.prog X.w X.K X.mg X.base j x ps (spP X.K X.mg n F)) (hj : j ≤ k) (g : Good k X) (hmg : X.mg x = some (.ref (He.ga X.K x))) (hl : LenIs fs n) (ha : EA X (e :: es) fs) (hg : Gl X x := by rfl) (hdb : (x == ("__debug__" : Str)) = false := by decide)
    (he : starEach (e :: es) X.env = (false, eval e X.env) :: starEach es X.env := by rfl) (hpl : (backTo pos (starEach es X.env)).any (·.1) = false := by rfl) : EE X (.Call (.Name x pp) (e :: es) [] pos) (eCallP F fs) := by
  obtain ⟨hk, fd, hb, G⟩ := O
  exact ee_callP (G.mono hj) g hg hmg hk hb hl ha hdb he hpl
theorem cc0 {F : List D → Res D} (O : OkF X.prog X.w X.K X.mg X.base j x ps (spF X.K X.mg 0 F)) (hj : j ≤ k) (g : Good k X) (hmg : X.mg x = some (.ref (He.ga X.K x))) (hg : Gl X x := by rfl) (hdb : (x == ("__debug__" : Str)) = false := by decide) : EE X (.Call (.Name x pp) [] [] pos) (eCall F aNil) := by
  obtain ⟨hk, fd, hb, G⟩ := O
  exact ee_call0 (G.mono hj) g hg hmg hk hb hdb
end
end SM

set_option Elab.async false
set_option linter.all false
set_option maxRecDepth 100000
set_option maxHeartbeats 4000000
namespace SM
variable [Tab]
open PySem PySem.Spec PyProof.Rows L2

/-! ## the errors of a module -/
def subD (l : List Str) (c c' : Str) : Option Bool := if c ∈ l ∧ c' ∈ l then some (decide (c = c')) else none
def subB (K : PySem.W.Frag) (l : List Str) : Bool := l.all fun c => l.all fun c' => exmB K (He.ga K c) (He.ga K c') (decide (c = c'))
omit [Tab] in
theorem subB_ok {K : PySem.W.Frag} {mg : Str → Option Value} {l : List Str} (hm : ∀ c ∈ l, mg c = some (.ref (He.ga K c))) (h : subB K l = true) : SubOk K mg (subD l) := fun c c' b e C C' h1 h2 => by
  unfold subD at e
  split at e
  · rename_i z
    cases e
    rw [hm c z.1] at h1
    rw [hm c' z.2] at h2
    cases h1
    cases h2
    exact of_decide_eq_true (List.all_eq_true.mp (List.all_eq_true.mp h c z.1) c' z.2)
  · cases e
def OkE (P : Program) (w : World) (K : PySem.W.Frag) (mg : Str → Option Value) (base : Heap) (k : Nat) (c : Str) (names : List Str) : Prop := ∃ fd, L2.Binds K fd ("self" :: names) [] ∧ FnG P w K mg base k (He.ma K (He.ga K c) "__init__") fd ("self" :: names) (spErr (He.ga K c) names)
section
variable {X : Cx} {k j : Nat} {c : Str} {names : List Str} {e : Expr} {es : List Expr} {fs : S → Res (S × List D)} {pp pos pos' : Pos}
theorem raise_ (EC : ErrC X.K (He.ga X.K c) (He.ma X.K (He.ga X.K c) "__init__") names) (O : OkE X.prog X.w X.K X.mg X.base j c names) (hj : j + 1 ≤ k) (g : Good k X) (hc : X.calm = true) (hg : Gl X c) (hm : X.mg c = some (.ref (He.ga X.K c))) (ha : EA X (e :: es) fs) (hdb : (c == ("__debug__" : Str)) = false := by decide)
    (he : starEach (e :: es) X.env = (false, eval e X.env) :: starEach es X.env := by rfl) (hpl : (backTo pos (starEach es X.env)).any (·.1) = false := by rfl) : SS X (.Raise (some (.Call (.Name c pp) (e :: es) [] pos)) none pos') (sRaise c names fs) := by
  obtain ⟨fd, hb, G⟩ := O
  exact ss_raise EC G (g.mono hj) hc hb hg hm ha hdb he hpl
theorem due {x : Str} {ps : List Str} {F : List D → Res D} {nl : Nat} {fe : S → Res (S × D)} (O : OkF X.prog X.w X.K X.mg X.base j x ps (spF X.K X.mg 1 F)) (hj : j ≤ k) (g : Good k X) (hfn : ∀ y, X.fn y = true) (hL : ∀ j, j < nl → LamX.LamS X.env.scope (Tab.tab j).sc) (hmg : X.mg x = some (.ref (He.ga X.K x)))
    (ha : EE X e fe) (hg : Gl X x := by rfl) (hdb : (x == ("__debug__" : Str)) = false := by decide) (he : starEach [e] X.env = (false, eval e X.env) :: starEach [] X.env := by rfl) (hpl : (backTo pos (starEach [] X.env)).any (·.1) = false := by rfl) : EE X (.Call (.Name x pp) [e] [] pos) (eDue X.N nl X.env.cells F fe) := by
  obtain ⟨hk, fd, hb, G⟩ := O
  exact ee_due (G.mono hj) g hfn hL hg hmg hk hb ha hdb he hpl
end
/-- the slots of an __init__ -/
theorem start_at {N : List Str} {a : V} {ws : List V} {k : Nat} {v : V} (h : ws[k]? = some v) : (L2.start N (a :: ws))[k + 1]? = some (some v) := by
  have hk := (List.getElem?_eq_some_iff.mp h).1
  unfold L2.start
  rw [List.getElem?_append_left (by simp; omega), List.getElem?_map, List.getElem?_cons_succ, h]
  rfl
theorem tail_init {K : PySem.W.Frag} {a C : Addr} {Z : Ends} {N names : List Str} {ws : List V} {H : Hp} (EC : OexC K C) (hne : names ≠ []) (hl : ws.length = names.length) (hno : ∀ f ∈ names, PySem.W.findIn K (.ref C) f = some none) (hn : names.length ≤ 900) (ha : H a = some (exo a C none))
    (q : ∀ d H', H d = none → d ≠ a → H' a = some (exo a C (some d)) → H' d = some (exd d ((names.zip ws).reverse)) → (∀ b, b ≠ a → b ≠ d → H' b = H b) → Z.nx (L2.start N (.ref a :: ws)) H') : tTail K (names.zipIdx 1) Z (L2.start N (.ref a :: ws)) H := by
  have e1 : (names.zipIdx 1).map (·.1) = names := List.zipIdx_map_fst 1 names
  refine tail_from EC (by unfold L2.start; rfl) (fun z => hne (by rw [← e1, z]; rfl)) (by rw [List.length_zipIdx, hl]) (fun k f i v h1 h2 => ?_) (by rw [e1]; exact hno) (by rw [List.length_zipIdx]; exact hn) ha (by rw [e1]; exact q)
  rw [List.getElem?_zipIdx] at h1
  cases z : names[k]? with
  | none => rw [z] at h1; cases h1
  | some y =>
    rw [z] at h1
    cases h1
    rw [Nat.add_comm]
    exact start_at h2

/-! ## the lambdas of a text -/
def lamsE (q : Str) : Nat → Expr → List LamT
  | 0, _ => []
  | n + 1, e => match e with
    | .Lambda ps b sc _ => [⟨q, ps, b, sc⟩]
    | .Call _ args _ _ => args.flatMap (lamsE q n)
    | .Tuple es _ _ => es.flatMap (lamsE q n)
    | .List es _ => es.flatMap (lamsE q n)
    | .BinOp a _ b _ => lamsE q n a ++ lamsE q n b
    | _ => []
def lamsS (q : Str) : Nat → Stmt → List LamT
  | 0, _ => []
  | n + 1, s => match s with
    | .Assign _ v _ => lamsE q n v
    | .Expr v _ => lamsE q n v
    | .For _ _ b _ _ => b.flatMap (lamsS q n)
    | .If _ a b _ => a.flatMap (lamsS q n) ++ b.flatMap (lamsS q n)
    | _ => []
def lamNone : LamT := ⟨"", { posonlyargs := [], args := [], vararg := none, kwonlyargs := [], kw_defaults := [], kwarg := none, defaults := [] }, .Constant .none 0 ⟨0, 0, 0, 0⟩, defScope (.Pass ⟨0, 0, 0, 0⟩)⟩
def lamsOf (q : Str) (st : Stmt) : List LamT := (defBody st).flatMap (lamsS q 12)
/-- decided -/
def lamOkB (L : LamT) : Bool := decide (L.sc.kind = .function) && (!L.sc.isCoroutine && (!L.sc.isGenerator && ((L.sc.names.all fun y => decide (y.2 ≠ .local) && decide (y.2 ≠ .cell)) && ((L.sc.names.all fun y => !decide (y.2 = .free) || decide (y.1 ∈ lamN L.sc)) && decide (lamN L.sc).Nodup))))
theorem lamOkB_ok {L : LamT} (h : lamOkB L = true) (hb : ∀ (cl : List (Str × Addr)) (pm cv ctv : Value), bindArgs (PySem.W.kla_fn "<lambda>" L.q L.ps L.body L.sc cl pm cv ctv) ⟨[], []⟩ = pure []) : LamOk L := by
  unfold lamOkB at h
  simp only [Bool.and_eq_true, Bool.or_eq_true, Bool.not_eq_true', decide_eq_true_eq, decide_eq_false_iff_not, List.all_eq_true] at h
  obtain ⟨h1, h2, h3, h4, h5, h6⟩ := h
  exact ⟨h1, h2, h3, h4, fun y hy e => (h5 y hy).resolve_left fun z => z e, h6, hb⟩
end SM

set_option Elab.async false
set_option linter.all false
set_option maxRecDepth 100000
set_option maxHeartbeats 4000000
namespace SM
variable [Tab]
open PySem PySem.Spec PyProof.Rows L2

/-! ## // by a number of either sign -/
def fdivB (_ j : Int) : Bool := decide (j ≠ 0) && (decide (j.natAbs < 1073741824) || (decide (0 < j) && decide (j.natAbs.log2 < 9000)))
abbrev eFdiv := eInt2 fdivB fun i j => .int (i.fdiv j)
section
variable {X : Cx} {a b : Expr} {f g : S → Res (S × D)} {pos : Pos}
omit [Tab] in
theorem op_fdivU : OpR X (binaryOp .FloorDiv) (rI (fun i j => fdivB i j = true) fun i j => .int (i.fdiv j)) := fun pins s σ H x y v u Q I rx ry q => by
  obtain ⟨i, j, h1, h2, hc, hq⟩ := q
  unfold fdivB at hc
  rw [Bool.and_eq_true, Bool.or_eq_true, Bool.and_eq_true] at hc
  obtain ⟨c0, c1 | ⟨c1, c2⟩⟩ := hc
  · exact op_fdivN pins s σ H x y v u Q I rx ry ⟨i, j, h1, h2, ⟨of_decide_eq_true c0, of_decide_eq_true c1⟩, hq⟩
  · refine op_fdivW pins s σ H x y v u Q I rx ry ⟨i, j, h1, h2, ⟨of_decide_eq_true c1, of_decide_eq_true c2⟩, ?_⟩
    show Q (V.int (i / j)) H
    rw [← Int.fdiv_eq_ediv_of_nonneg i (Int.le_of_lt (of_decide_eq_true c1))]
    exact hq
theorem ee_fdiv (ha : EE X a f) (hb : EE X b g) : EE X (.BinOp a .FloorDiv b pos) (eFdiv f g) := ee_int2 op_fdivU (fun i j h => h) ha hb
end
end SM

set_option Elab.async false
set_option linter.all false
set_option maxRecDepth 100000
set_option maxHeartbeats 4000000
namespace SM
open PySem PySem.Spec PyProof.Rows L2

/-! ## the pure functions, reckoned rule by rule -/
section
variable {s s1 s2 s3 : S} {f g h : S → Res (S × D)} {fs gs : S → Res (S × List D)} {i j : Int} {n m : Nat} {d d1 d2 d3 : D} {ds : List D} {c : Str} {ns : List Str} {es : List D} {b b1 b2 : Bool}
theorem ev_int2 {C : Int → Int → Bool} {u : Int → Int → D} (h1 : f s = .ok (s1, .int i)) (h2 : g s1 = .ok (s2, .int j)) (h3 : C i j = true) : eInt2 C u f g s = .ok (s2, u i j) := by
  unfold eInt2; rw [h1]; show (g s1 >>= _) = _; rw [h2]; show (if C i j = true then _ else _) = _; rw [if_pos h3]
theorem ev_add (h1 : f s = .ok (s1, .int i)) (h2 : g s1 = .ok (s2, .int j)) : eAdd f g s = .ok (s2, .int (i + j)) := ev_int2 h1 h2 rfl
theorem ev_sub (h1 : f s = .ok (s1, .int i)) (h2 : g s1 = .ok (s2, .int j)) : eSub f g s = .ok (s2, .int (i - j)) := ev_int2 h1 h2 rfl
theorem ev_mul (h1 : f s = .ok (s1, .int i)) (h2 : g s1 = .ok (s2, .int j)) (h3 : mulB i j = true) : eMul f g s = .ok (s2, .int (i * j)) := ev_int2 h1 h2 h3
theorem ev_fdiv (h1 : f s = .ok (s1, .int i)) (h2 : g s1 = .ok (s2, .int j)) (h3 : fdivB i j = true) : eFdiv f g s = .ok (s2, .int (i.fdiv j)) := ev_int2 h1 h2 h3
theorem ev_mod (h1 : f s = .ok (s1, .int i)) (h2 : g s1 = .ok (s2, .int j)) (h3 : modB i j = true) : eMod f g s = .ok (s2, .int (i % j)) := ev_int2 h1 h2 h3
theorem ev_pow (h1 : f s = .ok (s1, .int i)) (h2 : g s1 = .ok (s2, .int j)) (h3 : powB i j = true) : ePow f g s = .ok (s2, .int (i ^ j.toNat)) := ev_int2 h1 h2 h3
theorem ev_neg (h1 : f s = .ok (s1, .int i)) : eNeg f s = .ok (s1, .int (-i)) := by unfold eNeg; rw [h1]; rfl
theorem ev_bits (h1 : f s = .ok (s1, .int i)) : eBits f s = .ok (s1, .int (Builtin.Int.intBits i : Nat)) := by unfold eBits; rw [h1]; rfl
theorem ev_cons (h1 : f s = .ok (s1, d)) (h2 : gs s1 = .ok (s2, ds)) : aCons f gs s = .ok (s2, d :: ds) := by unfold aCons; rw [h1]; show (gs s1 >>= _) = _; rw [h2]; rfl
theorem ev_nil : aNil s = .ok (s, []) := rfl
theorem ev_tup (h1 : fs s = .ok (s1, ds)) (h2 : decide (ds.length ≤ 100000) = true) : eTup fs s = .ok (s1, .tup ds) := by unfold eTup; rw [h1]; show (if ds.length ≤ 100000 then _ else _) = _; rw [if_pos (of_decide_eq_true h2)]
theorem ev_lst (h1 : fs s = .ok (s1, ds)) (h2 : decide (ds.length ≤ 100000) = true) : eLst fs s = .ok (s1, .lst ds) := by unfold eLst; rw [h1]; show (if ds.length ≤ 100000 then _ else _) = _; rw [if_pos (of_decide_eq_true h2)]
theorem ev_ix (h1 : f s = .ok (s1, d1)) (h2 : g s1 = .ok (s2, d2)) (h3 : itemD d1 d2 = some d) : eIx f g s = .ok (s2, d) := by
  unfold eIx; rw [h1]; show (g s1 >>= _) = _; rw [h2]; show (match itemD d1 d2 with | some d => _ | none => _) = _; rw [h3]
theorem ev_call {F : List D → Res D} (h1 : fs s = .ok (s1, ds)) (h2 : F ds = .ok d) : eCall F fs s = .ok (s1, d) := by unfold eCall; rw [h1]; show (F ds >>= _) = _; rw [h2]; rfl
theorem ev_callX {F : List D → Res D} (h1 : fs s = .ok (s1, ds)) (h2 : F ds = .exn c ns es) : eCall F fs s = .exn c ns es := by unfold eCall; rw [h1]; show (F ds >>= _) = _; rw [h2]; rfl
theorem ev_callP {F : List D → Option Mu → Res (D × Option Mu)} {sl : List Sl} {pn pn' : Pn} (h1 : fs s = .ok (⟨sl, some pn⟩, ds)) (h2 : F ds (some pn) = .ok (d, some pn')) : eCallP F fs s = .ok (⟨sl, some pn'⟩, d) := by
  unfold eCallP; rw [h1]; show (F ds (some pn) >>= _) = _; rw [h2]; rfl
theorem ev_callD {q : List D → Option D} (h1 : fs s = .ok (s1, ds)) (h2 : q ds = some d) : eCallD q fs s = .ok (s1, d) := by unfold eCallD; rw [h1]; show (match q ds with | some d => _ | none => _) = _; rw [h2]
theorem ev_cmp {q : D → D → Option Bool} (h1 : f s = .ok (s1, d1)) (h2 : g s1 = .ok (s2, d2)) (h3 : q d1 d2 = some b) : eCmp q f g s = .ok (s2, .bl b) := by unfold eCmp; rw [h1]; show (g s1 >>= _) = _; rw [h2]; show (match q d1 d2 with | some k => _ | none => _) = _; rw [h3]
theorem et_cmp_ {q : D → D → Option Bool} (h1 : f s = .ok (s1, d1)) (h2 : g s1 = .ok (s2, d2)) (h3 : q d1 d2 = some b) : tCmp q f g s = .ok (s2, b) := by unfold tCmp; rw [h1]; show (g s1 >>= _) = _; rw [h2]; show (match q d1 d2 with | some k => _ | none => _) = _; rw [h3]
theorem et_val_ (h1 : f s = .ok (s1, .bl b)) : tVal f s = .ok (s1, b) := by unfold tVal; rw [h1]; rfl
section
variable {t u : S → Res (S × Bool)}
theorem et_not_ (h1 : t s = .ok (s1, b)) : tNot t s = .ok (s1, !b) := by unfold tNot; rw [h1]; rfl
theorem et_andF (h1 : t s = .ok (s1, false)) : tAnd t u s = .ok (s1, false) := by unfold tAnd; rw [h1]; rfl
theorem et_andT (h1 : t s = .ok (s1, true)) (h2 : u s1 = .ok (s2, b)) : tAnd t u s = .ok (s2, b) := by unfold tAnd; rw [h1]; exact h2
theorem et_orT (h1 : t s = .ok (s1, true)) : tOr t u s = .ok (s1, true) := by unfold tOr; rw [h1]; rfl
theorem et_orF (h1 : t s = .ok (s1, false)) (h2 : u s1 = .ok (s2, b)) : tOr t u s = .ok (s2, b) := by unfold tOr; rw [h1]; exact h2
theorem ev_ifT (h1 : t s = .ok (s1, true)) (h2 : f s1 = .ok (s2, d)) : eIf t f g s = .ok (s2, d) := by unfold eIf; rw [h1]; exact h2
theorem ev_ifF (h1 : t s = .ok (s1, false)) (h2 : g s1 = .ok (s2, d)) : eIf t f g s = .ok (s2, d) := by unfold eIf; rw [h1]; exact h2
theorem es_ifT {a b : S → Res (S × Fl)} {r : Res (S × Fl)} (h1 : t s = .ok (s1, true)) (h2 : a s1 = r) : sIf t a b s = r := by unfold sIf; rw [h1]; exact h2
theorem es_ifF {a b : S → Res (S × Fl)} {r : Res (S × Fl)} (h1 : t s = .ok (s1, false)) (h2 : b s1 = r) : sIf t a b s = r := by unfold sIf; rw [h1]; exact h2
end
theorem ev_andF (h1 : f s = .ok (s1, .bl false)) : eAnd f g s = .ok (s1, .bl false) := by unfold eAnd; rw [h1]; rfl
theorem ev_andT (h1 : f s = .ok (s1, .bl true)) (h2 : g s1 = .ok (s2, d)) : eAnd f g s = .ok (s2, d) := by unfold eAnd; rw [h1]; exact h2
theorem ev_orT (h1 : f s = .ok (s1, .bl true)) : eOr f g s = .ok (s1, .bl true) := by unfold eOr; rw [h1]; rfl
theorem ev_orF (h1 : f s = .ok (s1, .bl false)) (h2 : g s1 = .ok (s2, d)) : eOr f g s = .ok (s2, d) := by unfold eOr; rw [h1]; exact h2
theorem ev_not (h1 : f s = .ok (s1, .bl b)) : eNot f s = .ok (s1, .bl !b) := by unfold eNot; rw [h1]; rfl
theorem ev_repr (h1 : f s = .ok (s1, d)) (h2 : repB d = true) : eRepr f s = .ok (s1, .str (shownD d)) := by unfold eRepr; rw [h1]; show (if repB d = true then _ else _) = _; rw [if_pos h2]
-- statements
theorem es_seq {u v : S → Res (S × Fl)} {r : Res (S × Fl)} (h1 : u s = .ok (s1, .nx)) (h2 : v s1 = r) : sSeq u v s = r := by unfold sSeq; rw [h1]; exact h2
theorem es_seqR {u v : S → Res (S × Fl)} (h1 : u s = .ok (s1, .rt d)) : sSeq u v s = .ok (s1, .rt d) := by unfold sSeq; rw [h1]; rfl
theorem es_seqX {u v : S → Res (S × Fl)} (h1 : u s = .exn c ns es) : sSeq u v s = .exn c ns es := by unfold sSeq; rw [h1]; rfl
theorem es_set (h1 : f s = .ok (s1, d)) (h2 : n < s1.sl.length) : sSet n f s = .ok (s1.put n (.fz d), .nx) := by unfold sSet; rw [h1]; show wr n (.fz d) s1 = _; unfold wr; rw [if_pos h2]
theorem es_own (h1 : f s = .ok (s1, d)) (h2 : n < s1.sl.length) : sOwn n f s = .ok (s1.put n (.ow d), .nx) := by unfold sOwn; rw [h1]; show wr n (.ow d) s1 = _; unfold wr; rw [if_pos h2]
theorem es_ret (h1 : f s = .ok (s1, d)) : sRet f s = .ok (s1, .rt d) := by unfold sRet; rw [h1]; rfl
theorem es_par (h1 : fs s = .ok (s1, ds)) {r : S} (h2 : tsCons (tNm n) (tsCons (tNm m) tsNil) ds s1 = some r) : sPar n m fs s = .ok (r, .nx) := by unfold sPar; rw [h1]; show (match tsCons (tNm n) (tsCons (tNm m) tsNil) ds s1 with | some s2 => _ | none => _) = _; rw [h2]
theorem es_asg {u : D → S → Option S} {r : S} (h1 : f s = .ok (s1, d)) (h2 : u d s1 = some r) : sAsg u f s = .ok (r, .nx) := by unfold sAsg; rw [h1]; show (match u d s1 with | some s2 => _ | none => _) = _; rw [h2]
theorem es_pen {p : PF} {sl : List Sl} {pn pn' : Pn} (h1 : f s = .ok (⟨sl, some pn⟩, .int i)) (h2 : sl[n]? = some (.fz .pen)) (h4 : p.put i pn = some pn') : sPen n p f s = .ok (⟨sl, some pn'⟩, .nx) := by
  unfold sPen; rw [h1]
  show (match sl[n]?, some (Mu.p pn), D.int i with | some (.fz .pen), some (.p pn), .int n => _ | _, _, _ => _) = _
  rw [h2]
  show (match p.put i pn with | some pn' => _ | none => _) = _
  rw [h4]
theorem runF_of {N : List Str} {bd : S → Res (S × Fl)} (h1 : bd (entry N ds none) = .ok (s1, .rt d)) : runF N bd ds = .ok d := by unfold runF; rw [h1]
theorem runF_ofX {N : List Str} {bd : S → Res (S × Fl)} (h1 : bd (entry N ds none) = .exn c ns es) : runF N bd ds = .exn c ns es := by unfold runF; rw [h1]
theorem runP_of {N : List Str} {bd : S → Res (S × Fl)} {pn : Option Mu} (h1 : bd (entry N ds pn) = .ok (s1, .rt d)) : runP N bd ds pn = .ok (d, s1.pn) := by unfold runP; rw [h1]
/-- a loop by what stays -/
theorem loop_inv {u : D → S → Option S} {body : S → Res (S × Fl)} (I : Nat → S → Prop) : ∀ (ds : List D) (k : Nat) (s : S), I k s → (∀ k d s, d ∈ ds → I k s → ∃ s1, u d s = some s1 ∧ ∃ s2, (body s1 = .ok (s2, .nx) ∨ body s1 = .ok (s2, .ct)) ∧ I (k + 1) s2) → ∃ s', loopF u body ds s = .ok (s', .nx) ∧ I (k + ds.length) s'
  | [], k, s, hI, _ => ⟨s, rfl, hI⟩
  | d :: ds, k, s, hI, h => by
    obtain ⟨s1, e1, s2, e2, I2⟩ := h k d s (List.mem_cons_self ..) hI
    obtain ⟨s', e', I'⟩ := loop_inv I ds (k + 1) s2 I2 fun k d s hd => h k d s (List.mem_cons_of_mem _ hd)
    refine ⟨s', ?_, ?_⟩
    · unfold loopF
      rw [e1]
      rcases e2 with e2 | e2
      · show (body s1 >>= _) = _; rw [e2]; exact e'
      · show (body s1 >>= _) = _; rw [e2]; exact e'
    · have : k + (d :: ds).length = k + 1 + ds.length := by simp; omega
      rw [this]; exact I'
theorem es_for {it : S → Res (S × List D)} {u : D → S → Option S} {body : S → Res (S × Fl)} {r : Res (S × Fl)} (h1 : it s = .ok (s1, ds)) (h2 : loopF u body ds s1 = r) : sFor it u body s = r := by unfold sFor; rw [h1]; exact h2
theorem it_range_ (h1 : fs s = .ok (s1, [.int i])) (h2 : -(2 ^ 62) ≤ i ∧ i < 2 ^ 62) : itRange fs s = .ok (s1, (List.range i.toNat).map fun k => .int (k : Nat)) := by unfold itRange; rw [h1]; show (if -(2 ^ 62) ≤ i ∧ i < 2 ^ 62 then _ else _) = _; rw [if_pos h2]
end

/-! ## sizes -/
theorem log2_lt {a k : Nat} (h : a < 2 ^ k) (hk : 0 < k) : a.log2 < k := by
  by_cases z : a = 0
  · subst z; simpa using hk
  · exact (Nat.log2_lt z).mpr h
theorem mulB_of {i j : Int} (a b : Nat) (h1 : i.natAbs < 2 ^ a) (h2 : j.natAbs < 2 ^ b) (ha : 0 < a) (hb : 0 < b) (hk : a + b ≤ 1000000) : mulB i j = true := by
  have e1 := log2_lt h1 ha
  have e2 := log2_lt h2 hb
  unfold mulB
  exact decide_eq_true (by omega)
theorem fdivB_of {i j : Int} (h0 : j ≠ 0) (h1 : j.natAbs < 1073741824) : fdivB i j = true := by
  unfold fdivB
  rw [decide_eq_true h0, decide_eq_true h1]; rfl
theorem fdivB_pos {i j : Int} (a : Nat) (h0 : 0 < j) (h1 : j.natAbs < 2 ^ a) (ha : 0 < a) (hk : a ≤ 9000) : fdivB i j = true := by
  have e := log2_lt h1 ha
  unfold fdivB
  rw [decide_eq_true (show j ≠ 0 by omega), decide_eq_true h0, decide_eq_true (show j.natAbs.log2 < 9000 by omega)]
  simp
theorem modB_of {i j : Int} (h : 0 < j) : modB i j = true := decide_eq_true h
end SM

set_option Elab.async false
set_option linter.all false
set_option maxRecDepth 100000
set_option maxHeartbeats 4000000
namespace SM
open PySem PySem.Spec PyProof.Rows L2
theorem cEq_t {i j : Int} (h : i = j) : cEq (.int i) (.int j) = some true := congrArg some (decide_eq_true h)
theorem cEq_f {i j : Int} (h : i ≠ j) : cEq (.int i) (.int j) = some false := congrArg some (decide_eq_false h)
theorem cNe_t {i j : Int} (h : i ≠ j) : cNe (.int i) (.int j) = some true := by unfold cNe; rw [cEq_f h]; rfl
theorem cNe_f {i j : Int} (h : i = j) : cNe (.int i) (.int j) = some false := by unfold cNe; rw [cEq_t h]; rfl
theorem cLt_t {i j : Int} (h : i < j) : cLt (.int i) (.int j) = some true := congrArg some (decide_eq_true h)
theorem cLt_f {i j : Int} (h : ¬ i < j) : cLt (.int i) (.int j) = some false := congrArg some (decide_eq_false h)
theorem cGt_t {i j : Int} (h : j < i) : cGt (.int i) (.int j) = some true := congrArg some (decide_eq_true h)
theorem cGt_f {i j : Int} (h : ¬ j < i) : cGt (.int i) (.int j) = some false := congrArg some (decide_eq_false h)
theorem cLe_t {i j : Int} (h : i ≤ j) : cLe (.int i) (.int j) = some true := congrArg some (decide_eq_true h)
theorem cLe_f {i j : Int} (h : ¬ i ≤ j) : cLe (.int i) (.int j) = some false := congrArg some (decide_eq_false h)
theorem cGe_t {i j : Int} (h : j ≤ i) : cGe (.int i) (.int j) = some true := congrArg some (decide_eq_true h)
theorem cGe_f {i j : Int} (h : ¬ j ≤ i) : cGe (.int i) (.int j) = some false := congrArg some (decide_eq_false h)
theorem atI_of {α : Type} {l : List α} {i : Int} (h0 : 0 ≤ i) (h1 : i < l.length) : ∃ d ∈ l, atI l i = some d := by
  have hl : i.toNat < l.length := by omega
  refine ⟨l[i.toNat], List.getElem_mem _, ?_⟩
  unfold atI ixN
  rw [if_pos h0, if_pos h1]
  exact List.getElem?_eq_getElem hl
theorem item_lst {ds : List D} {i : Int} (h0 : 0 ≤ i) (h1 : i < ds.length) : ∃ d ∈ ds, itemD (.lst ds) (.int i) = some d := atI_of h0 h1
theorem item_tup {ds : List D} {i : Int} (h0 : 0 ≤ i) (h1 : i < ds.length) : ∃ d ∈ ds, itemD (.tup ds) (.int i) = some d := atI_of h0 h1

/-! ## the pen draws -/
structure PenOk (c : Nat) (pn : Pn) : Prop where
  at_ : 0 ≤ pn.at_
  f0 : 0 ≤ pn.fold
  f1 : pn.fold < 4294967296
  c0 : 0 ≤ pn.count
  c1 : pn.count ≤ c
theorem powB_of {i : Int} (j : Nat) (h0 : 0 ≤ i) (h1 : i < 18446744073709551616) (hj : j ≤ 1000000) : powB i j = true := by
  unfold powB
  rw [decide_eq_true (show (0 : Int) ≤ j by omega), decide_eq_true (show (j : Int) ≤ 1000000 by omega), decide_eq_true (show i.natAbs < 2 ^ 64 by omega)]
  rfl
abbrev drawB (A B C M M3 : Int) : S → Res (S × Fl) := sSeq (sPen 0 .count (eAdd (ePen 0 .count) (eC (.int 1)))) (sSeq (sIf (tAnd (tCmp cEq (ePen 0 .digits) (eC (.int 0))) (tCmp cLt (ePen 0 .at_) (eCallD (q1 uLen) (aCons (ePen 0 .cells) (aNil))))) (sSeq (sSet 2 (eIx (ePen 0 .cells) (ePen 0 .at_))) (sSeq (sPen 0 .at_ (eAdd (ePen 0 .at_) (eC (.int 1)))) (sIf (tCmp cGe (ePeek 2) (ePow (eC (.int 10)) (eC (.int 18)))) (sPen 0 .digits (eSub (eVar 2) (ePow (eC (.int 10)) (eC (.int 18))))) (sPen 0 .fold (eMod (eCallD (q1 uInt) (aCons (eAdd (eMul (ePen 0 .fold) (eC (.int A))) (eVar 2)) (aNil))) (eC (.int M))))))) ((fun s => .ok (s, .nx)))) (sSeq (sIf (tCmp cGt (ePen 0 .digits) (eC (.int 0))) (sSeq (sSet 3 (eMod (eCallD (q1 uInt) (aCons (ePen 0 .digits) (aNil))) (eVar 1))) (sSeq (sPen 0 .digits (eFdiv (ePen 0 .digits) (eVar 1))) (sRet (eVar 3)))) ((fun s => .ok (s, .nx)))) (sSeq (sSet 4 (eAdd (eAdd (ePen 0 .fold) (eMul (ePen 0 .count) (eC (.int B)))) (eC (.int C)))) (sRet (eMod (eFdiv (eCallD (q1 uInt) (aCons (eMod (ePow (eVar 4) (eC (.int 63))) (eC (.int M3))) (aNil))) (eC (.int 64))) (eVar 1))))))
abbrev drawN : List Str := ["pen", "many", "cell", "digit", "blend"]
theorem draw_ok {A B C M M3 : Int} {N : List Str} (hN : N.length = 5) (hA : 0 ≤ A ∧ A < 4294967296) (hB : 0 ≤ B ∧ B < 4294967296) (hC : 0 ≤ C ∧ C < 4294967296) (hM : 0 < M ∧ M ≤ 4294967296) (hM3 : 0 < M3) {c : Nat} {pn : Pn} {many : Int} (h : PenOk c pn) (hc : c < 1000000) (hm : 0 < many) (hm2 : many < 1073741824) :
    ∃ r, ∃ pn' : Pn, runP N (drawB A B C M M3) [.pen, .int many] (some pn) = .ok (.int r, some pn') ∧ 0 ≤ r ∧ r < many ∧ PenOk (c + 1) pn' := by
  obtain ⟨k1, k2, k3, k4, k5⟩ := h
  have he : entry N [.pen, .int many] (some pn) = ⟨[.fz .pen, .fz (.int many), .no, .no, .no], some pn⟩ := by
    unfold entry; rw [hN]; rfl
  have key : ∃ pn2 : Pn, ∃ x, PenOk (c + 1) pn2 ∧ (sIf (tAnd (tCmp cEq (ePen 0 .digits) (eC (.int 0))) (tCmp cLt (ePen 0 .at_) (eCallD (q1 uLen) (aCons (ePen 0 .cells) (aNil))))) (sSeq (sSet 2 (eIx (ePen 0 .cells) (ePen 0 .at_))) (sSeq (sPen 0 .at_ (eAdd (ePen 0 .at_) (eC (.int 1)))) (sIf (tCmp cGe (ePeek 2) (ePow (eC (.int 10)) (eC (.int 18)))) (sPen 0 .digits (eSub (eVar 2) (ePow (eC (.int 10)) (eC (.int 18))))) (sPen 0 .fold (eMod (eCallD (q1 uInt) (aCons (eAdd (eMul (ePen 0 .fold) (eC (.int A))) (eVar 2)) (aNil))) (eC (.int M))))))) ((fun s => .ok (s, .nx))))
      ⟨[.fz .pen, .fz (.int many), .no, .no, .no], some (Mu.p { pn with count := pn.count + 1 })⟩ = .ok (⟨[.fz .pen, .fz (.int many), x, .no, .no], some pn2⟩, .nx) := by
    by_cases hd : pn.digits = 0
    case neg => exact ⟨{ pn with count := pn.count + 1 }, .no, ⟨k1, k2, k3, by show 0 ≤ pn.count + 1; omega, by show pn.count + 1 ≤ _; omega⟩, es_ifF (et_andF (et_cmp_ rfl rfl (cEq_f hd))) rfl⟩
    by_cases ha : pn.at_ < pn.cells.length
    case neg => exact ⟨{ pn with count := pn.count + 1 }, .no, ⟨k1, k2, k3, by show 0 ≤ pn.count + 1; omega, by show pn.count + 1 ≤ _; omega⟩, es_ifF (et_andT (et_cmp_ rfl rfl (cEq_t hd)) (et_cmp_ rfl (ev_callD rfl rfl) (cLt_f (by rw [List.length_map]; exact ha)))) rfl⟩
    obtain ⟨z, hz, ez⟩ := item_lst (ds := pn.cells.map .int) k1 (by rw [List.length_map]; exact ha)
    obtain ⟨cell, _, rfl⟩ := List.mem_map.mp hz
    have hp : powB 10 18 = true := by decide
    have go : ∀ {v : S → Res (S × Fl)} {r : Res (S × Fl)}, v ⟨[.fz .pen, .fz (.int many), .fz (.int cell), .no, .no], some (Mu.p { pn with count := pn.count + 1, at_ := pn.at_ + 1 })⟩ = r → sIf (tAnd (tCmp cEq (ePen 0 .digits) (eC (.int 0))) (tCmp cLt (ePen 0 .at_) (eCallD (q1 uLen) (aCons (ePen 0 .cells) (aNil))))) (sSeq (sSet 2 (eIx (ePen 0 .cells) (ePen 0 .at_))) (sSeq (sPen 0 .at_ (eAdd (ePen 0 .at_) (eC (.int 1)))) v)) (fun s => .ok (s, .nx)) ⟨[.fz .pen, .fz (.int many), .no, .no, .no], some (Mu.p { pn with count := pn.count + 1 })⟩ = r := fun h2 =>
      es_ifT (et_andT (et_cmp_ rfl rfl (cEq_t hd)) (et_cmp_ rfl (ev_callD rfl rfl) (cLt_t (by rw [List.length_map]; exact ha)))) (es_seq (es_set (n := 2) (ev_ix (f := ePen 0 .cells) (g := ePen 0 .at_) rfl rfl ez) (by show 2 < 5; decide)) (es_seq (es_pen (n := 0) (p := .at_) (ev_add rfl rfl) rfl rfl) h2))
    by_cases hg : (10 : Int) ^ 18 ≤ cell
    · exact ⟨{ pn with count := pn.count + 1, at_ := pn.at_ + 1, digits := cell - 10 ^ (18 : Int).toNat }, .fz (.int cell), ⟨by show 0 ≤ pn.at_ + 1; omega, k2, k3, by show 0 ≤ pn.count + 1; omega, by show pn.count + 1 ≤ _; omega⟩, go (es_ifT (et_cmp_ rfl (ev_pow rfl rfl hp) (cGe_t hg)) (es_pen (n := 0) (p := .digits) (ev_sub rfl (ev_pow rfl rfl hp)) rfl rfl))⟩
    · have hf0 : 0 ≤ (pn.fold * A + cell) % M := Int.emod_nonneg _ (by omega)
      have hf1 : (pn.fold * A + cell) % M < M := Int.emod_lt_of_pos _ hM.1
      exact ⟨{ pn with count := pn.count + 1, at_ := pn.at_ + 1, fold := (pn.fold * A + cell) % M }, .fz (.int cell), ⟨by show 0 ≤ pn.at_ + 1; omega, hf0, Int.lt_of_lt_of_le hf1 hM.2, by show 0 ≤ pn.count + 1; omega, by show pn.count + 1 ≤ _; omega⟩,
        go (es_ifF (et_cmp_ rfl (ev_pow rfl rfl hp) (cGe_f hg)) (es_pen (n := 0) (p := .fold) (ev_mod (ev_callD (ev_cons (ev_add (ev_mul rfl rfl (mulB_of (i := pn.fold) (j := A) 32 32 (by omega) (by omega) (by decide) (by decide) (by decide))) rfl) ev_nil) rfl) rfl (modB_of hM.1)) rfl rfl))⟩
  obtain ⟨pn2, x, hk, e2⟩ := key
  obtain ⟨l1, l2, l3, l4, l5⟩ := hk
  by_cases hd : 0 < pn2.digits
  · refine ⟨pn2.digits % many, { pn2 with digits := pn2.digits.fdiv many }, ?_, Int.emod_nonneg _ (by omega), Int.emod_lt_of_pos _ hm, ⟨l1, l2, l3, l4, l5⟩⟩
    refine runP_of (s1 := ⟨[.fz .pen, .fz (.int many), x, .fz (.int (pn2.digits % many)), .no], some (Mu.p { pn2 with digits := pn2.digits.fdiv many })⟩) ?_
    rw [he]
    exact es_seq (es_pen (n := 0) (p := .count) (ev_add rfl rfl) rfl rfl) (es_seq e2 (es_seqR (es_ifT (et_cmp_ rfl rfl (cGt_t hd)) (es_seq (es_set (n := 3) (ev_mod (ev_callD rfl rfl) rfl (modB_of hm)) (by show 3 < 5; decide)) (es_seq (es_pen (n := 0) (p := .digits) (ev_fdiv rfl rfl (fdivB_of (by omega) (by omega))) rfl rfl) (es_ret rfl))))))
  · have b0 : 0 ≤ pn2.fold + pn2.count * B + C := by
      have := Int.mul_nonneg l4 hB.1
      omega
    have b1 : pn2.fold + pn2.count * B + C < 18446744073709551616 := by
      have h1 : pn2.count * B ≤ 1000000 * 4294967296 := Int.mul_le_mul (by omega) (by omega) hB.1 (by omega)
      omega
    refine ⟨((pn2.fold + pn2.count * B + C) ^ 63 % M3).fdiv 64 % many, pn2, ?_, Int.emod_nonneg _ (by omega), Int.emod_lt_of_pos _ hm, ⟨l1, l2, l3, l4, l5⟩⟩
    refine runP_of (s1 := ⟨[.fz .pen, .fz (.int many), x, .no, .fz (.int (pn2.fold + pn2.count * B + C))], some pn2⟩) ?_
    rw [he]
    exact es_seq (es_pen (n := 0) (p := .count) (ev_add rfl rfl) rfl rfl) (es_seq e2 (es_seq (es_ifF (et_cmp_ rfl rfl (cGt_f hd)) rfl) (es_seq (es_set (n := 4) (ev_add (ev_add rfl (ev_mul rfl rfl (mulB_of (i := pn2.count) (j := B) 32 32 (by omega) (by omega) (by decide) (by decide) (by decide)))) rfl) (by show 4 < 5; decide))
      (es_ret (ev_mod (ev_fdiv (ev_callD (ev_cons (ev_mod (ev_pow rfl rfl (powB_of 63 b0 b1 (by decide))) rfl (modB_of hM3)) ev_nil) rfl) rfl (fdivB_of (by decide) (by decide))) rfl (modB_of hm))))))
end SM

set_option Elab.async false
set_option linter.all false
set_option maxRecDepth 100000
set_option maxHeartbeats 4000000
namespace SM
open PySem PySem.Spec PyProof.Rows L2
def Draws (F : List D → Option Mu → Res (D × Option Mu)) : Prop := ∀ {c : Nat} {pn : Pn} {many : Int}, PenOk c pn → c < 1000000 → 0 < many → many < 1073741824 → ∃ r, ∃ pn' : Pn, F [.pen, .int many] (some pn) = .ok (.int r, some pn') ∧ 0 ≤ r ∧ r < many ∧ PenOk (c + 1) pn'
def Picks (F : List D → Option Mu → Res (D × Option Mu)) : Prop := ∀ {c : Nat} {pn : Pn} {ds : List D}, PenOk c pn → c < 1000000 → ds ≠ [] → ds.length < 1073741824 → ∃ d ∈ ds, ∃ pn' : Pn, F [.pen, .lst ds] (some pn) = .ok (d, some pn') ∧ PenOk (c + 1) pn'
theorem draws_of {A B C M M3 : Int} {N : List Str} (hN : N.length = 5) (hA : 0 ≤ A ∧ A < 4294967296) (hB : 0 ≤ B ∧ B < 4294967296) (hC : 0 ≤ C ∧ C < 4294967296) (hM : 0 < M ∧ M ≤ 4294967296) (hM3 : 0 < M3) : Draws (runP N (drawB A B C M M3)) := fun h hc hm hm2 => draw_ok hN hA hB hC hM hM3 h hc hm hm2
abbrev pickB (Dr : List D → Option Mu → Res (D × Option Mu)) : S → Res (S × Fl) := sRet (eIx (ePeek 1) (eCallP Dr (aCons (eVar 0) (aCons (eCallD (q1 uLen) (aCons (ePeek 1) (aNil))) (aNil)))))
theorem picks_of {Dr : List D → Option Mu → Res (D × Option Mu)} (h : Draws Dr) {N : List Str} (hN : N.length = 2) : Picks (runP N (pickB Dr)) := by
  intro c pn ds hp hc hne hl
  have hpos : 0 < ds.length := List.length_pos_iff.mpr hne
  obtain ⟨r, pn', e, r0, r1, hp'⟩ := h (many := (ds.length : Int)) hp hc (by omega) (by omega)
  obtain ⟨d, hd, ed⟩ := item_lst r0 r1
  refine ⟨d, hd, pn', ?_, hp'⟩
  refine runP_of (s1 := ⟨[.fz .pen, .fz (.lst ds)], some pn'⟩) ?_
  have he : entry N [.pen, .lst ds] (some pn) = ⟨[.fz .pen, .fz (.lst ds)], some pn⟩ := by unfold entry; rw [hN]; rfl
  rw [he]
  exact es_ret (ev_ix rfl (ev_callP (ev_cons rfl (ev_cons (ev_callD rfl rfl) ev_nil)) e) ed)

/-! ## the greatest common divisor -/
abbrev gcdB : S → Res (S × Fl) := sSeq (sPar 0 1 (aCons (eCallD (q1 uAbs) (aCons (ePeek 0) (aNil))) (aCons (eCallD (q1 uAbs) (aCons (ePeek 1) (aNil))) (aNil)))) (sSeq (sFor (itRange (aCons (eAdd (eC (.int 4)) (eMul (eC (.int 2)) (eBits (eCallD (q1 uInt) (aCons (ePeek 1) (aNil)))))) (aNil))) (tNm 2) (sSeq (sIf (tCmp cEq (ePeek 1) (eC (.int 0))) (sFl .bk) ((fun s => .ok (s, .nx)))) (sPar 0 1 (aCons (eVar 1) (aCons (eMod (eCallD (q1 uInt) (aCons (ePeek 0) (aNil))) (eVar 1)) (aNil)))))) (sRet (eVar 0)))
abbrev gcdL : S → Res (S × Fl) := (sSeq (sIf (tCmp cEq (ePeek 1) (eC (.int 0))) (sFl .bk) ((fun s => .ok (s, .nx)))) (sPar 0 1 (aCons (eVar 1) (aCons (eMod (eCallD (q1 uInt) (aCons (ePeek 0) (aNil))) (eVar 1)) (aNil)))))
theorem gcd_loop0 (a : Nat) (x : Sl) : ∀ ds : List D, ∃ x', loopF (tNm 2) gcdL ds ⟨[.fz (.int a), .fz (.int (0 : Nat)), x], none⟩ = .ok (⟨[.fz (.int a), .fz (.int (0 : Nat)), x'], none⟩, .nx)
  | [] => ⟨x, rfl⟩
  | d :: ds => ⟨.fz d, rfl⟩
theorem gcd_step (a b : Nat) (hb : 0 < b) (x : Sl) (d : D) (ds : List D) : loopF (tNm 2) gcdL (d :: ds) ⟨[.fz (.int a), .fz (.int b), x], none⟩ = loopF (tNm 2) gcdL ds ⟨[.fz (.int b), .fz (.int (a % b : Nat)), .fz d], none⟩ := by
  have e : gcdL ⟨[.fz (.int a), .fz (.int b), .fz d], none⟩ = .ok (⟨[.fz (.int b), .fz (.int (a % b : Nat)), .fz d], none⟩, .nx) := by
    refine es_seq (es_ifF (et_cmp_ rfl rfl (cEq_f (by omega))) rfl) ?_
    rw [show ((a % b : Nat) : Int) = (a : Int) % (b : Int) from Int.natCast_emod a b]
    exact es_par (ev_cons rfl (ev_cons (ev_mod (ev_callD rfl rfl) rfl (modB_of (by omega))) ev_nil)) rfl
  show (gcdL ⟨[.fz (.int a), .fz (.int b), .fz d], none⟩ >>= _) = _
  rw [e]; rfl
theorem gcd_loop : ∀ (k a b : Nat) (x : Sl) (ds : List D), b < 2 ^ k → 2 * k ≤ ds.length → ∃ x', loopF (tNm 2) gcdL ds ⟨[.fz (.int a), .fz (.int b), x], none⟩ = .ok (⟨[.fz (.int (Nat.gcd a b : Nat)), .fz (.int (0 : Nat)), x'], none⟩, .nx)
  | 0, a, b, x, ds, hb, _ => by
    have : b = 0 := by simpa using hb
    subst this
    rw [Nat.gcd_zero_right]
    exact gcd_loop0 a x ds
  | k + 1, a, b, x, ds, hb, hl => by
    by_cases h0 : b = 0
    · subst h0; rw [Nat.gcd_zero_right]; exact gcd_loop0 a x ds
    match ds, hl with
    | [], hl => simp at hl
    | [_], hl => simp at hl; omega
    | d1 :: d2 :: ds, hl =>
      rw [gcd_step a b (by omega)]
      have g1 : Nat.gcd a b = Nat.gcd b (a % b) := by rw [Nat.gcd_comm a b, Nat.gcd_rec b a, Nat.gcd_comm]
      by_cases h1 : a % b = 0
      · rw [g1, h1, Nat.gcd_zero_right]; exact gcd_loop0 b _ _
      · rw [gcd_step b (a % b) (by omega), g1]
        have g2 : Nat.gcd b (a % b) = Nat.gcd (a % b) (b % (a % b)) := by rw [Nat.gcd_comm b, Nat.gcd_rec (a % b) b, Nat.gcd_comm]
        rw [g2]
        refine gcd_loop k _ _ _ ds ?_ (by simp at hl; omega)
        have hr : a % b < b := Nat.mod_lt _ (by omega)
        have h2 : b % (a % b) < a % b := Nat.mod_lt _ (by omega)
        have h3 : b = (a % b) * (b / (a % b)) + b % (a % b) := (Nat.div_add_mod b (a % b)).symm
        have h4 : 1 ≤ b / (a % b) := (Nat.one_le_div_iff (by omega)).mpr (by omega)
        have h5 : a % b * 1 ≤ (a % b) * (b / (a % b)) := Nat.mul_le_mul_left _ h4
        have : 2 * (b % (a % b)) < b := by omega
        rw [Nat.pow_succ] at hb
        omega
theorem gcd_ok {N : List Str} (hN : N.length = 3) {a b : Int} {kb : Nat} (hkb : kb ≤ 100000) (hb : b.natAbs < 2 ^ kb) : runF N gcdB [.int a, .int b] = .ok (.int (Nat.gcd a.natAbs b.natAbs : Nat)) := by
  have hbits : Builtin.Int.intBits b ≤ 100000 := Nat.le_trans (PySem.intBits_le_iff.mpr hb) hkb
  have hbits2 : b.natAbs < 2 ^ Builtin.Int.intBits b := PySem.intBits_le_iff.mp (Nat.le_refl _)
  have ea : ∀ i : Int, (if i < 0 then -i else i) = (i.natAbs : Int) := fun i => by split <;> omega
  obtain ⟨x', e⟩ := gcd_loop (Builtin.Int.intBits b) a.natAbs b.natAbs .no ((List.range (4 + 2 * (Builtin.Int.intBits ((b.natAbs : Nat) : Int) : Int)).toNat).map fun k => .int (k : Nat)) hbits2 (by
    rw [List.length_map, List.length_range]
    have : Builtin.Int.intBits ((b.natAbs : Nat) : Int) = Builtin.Int.intBits b := by unfold Builtin.Int.intBits; by_cases z : b = 0 <;> simp [z]
    rw [this]; omega)
  have hb2 : Builtin.Int.intBits ((b.natAbs : Nat) : Int) ≤ 100000 := Nat.le_trans (PySem.intBits_le_iff.mpr (by simpa using hb)) hkb
  refine runF_of (s1 := ⟨[.fz (.int (Nat.gcd a.natAbs b.natAbs : Nat)), .fz (.int (0 : Nat)), x'], none⟩) ?_
  have he : entry N [.int a, .int b] none = ⟨[.fz (.int a), .fz (.int b), .no], none⟩ := by unfold entry; rw [hN]; rfl
  rw [he]
  refine es_seq (s1 := ⟨[.fz (.int a.natAbs), .fz (.int b.natAbs), .no], none⟩) ?_ (es_seq (es_for (it_range_ (ev_cons (ev_add rfl (ev_mul rfl (ev_bits (ev_callD rfl rfl)) ?_)) ev_nil) ?_) e) (es_ret rfl))
  · rw [← ea a, ← ea b]
    exact es_par (ev_cons (ev_callD rfl rfl) (ev_cons (ev_callD rfl rfl) ev_nil)) rfl
  · exact mulB_of 2 20 (by decide) (by omega) (by decide) (by decide) (by decide)
  · omega
end SM

set_option Elab.async false
set_option linter.all false
set_option maxRecDepth 100000
set_option maxHeartbeats 4000000
namespace SM
open PySem PySem.Spec PyProof.Rows L2
/-! ## lowest terms -/
def byI (a b : Int) : Int := if b < 0 then -(Nat.gcd a.natAbs b.natAbs : Int) else (Nat.gcd a.natAbs b.natAbs : Int)
def qD (a b : Int) : D := .tup [.int (a.fdiv (byI a b)), .int (b.fdiv (byI a b))]
theorem gcd_pos {a b : Int} (hb : b ≠ 0) : 0 < Nat.gcd a.natAbs b.natAbs := Nat.gcd_pos_of_pos_right _ (by omega)
theorem byI_ne {a b : Int} (hb : b ≠ 0) : byI a b ≠ 0 := by
  have := gcd_pos (a := a) hb
  unfold byI; split <;> omega
theorem byI_le {a b : Int} (hb : b ≠ 0) : (byI a b).natAbs ≤ b.natAbs := by
  have := Nat.le_of_dvd (by omega : 0 < b.natAbs) (Nat.gcd_dvd_right a.natAbs b.natAbs)
  unfold byI; split <;> omega
abbrev qB (G : List D → Res D) : S → Res (S × Fl) := sSeq (sSet 2 (eCall G (aCons (eVar 0) (aCons (eVar 1) (aNil))))) (sSeq (sSet 2 (eIf (tCmp cLt (ePeek 1) (eC (.int 0))) (eNeg (eVar 2)) (eVar 2))) (sRet (eTup (aCons (eFdiv (eVar 0) (eVar 2)) (aCons (eFdiv (eVar 1) (eVar 2)) (aNil))))))
abbrev lowB : S → Res (S × Fl) := sSeq (sSet 2 (eIf (tCmp cGt (ePeek 1) (eC (.int 0))) (eCallD (q2 uGcd) (aCons (ePeek 0) (aCons (ePeek 1) (aNil)))) (eNeg (eCallD (q2 uGcd) (aCons (ePeek 0) (aCons (ePeek 1) (aNil))))))) (sRet (eTup (aCons (eFdiv (eVar 0) (eVar 2)) (aCons (eFdiv (eVar 1) (eVar 2)) (aNil)))))
theorem q_ret {a b y : Int} (h0 : y ≠ 0) (h1 : y.natAbs < 1073741824) : sRet (eTup (aCons (eFdiv (eVar 0) (eVar 2)) (aCons (eFdiv (eVar 1) (eVar 2)) (aNil)))) ⟨[.fz (.int a), .fz (.int b), .fz (.int y)], none⟩ = .ok (⟨[.fz (.int a), .fz (.int b), .fz (.int y)], none⟩, .rt (.tup [.int (a.fdiv y), .int (b.fdiv y)])) :=
  es_ret (ev_tup (ev_cons (ev_fdiv rfl rfl (fdivB_of h0 h1)) (ev_cons (ev_fdiv rfl rfl (fdivB_of h0 h1)) ev_nil)) rfl)
theorem q_ok {G : List D → Res D} {N : List Str} (hN : N.length = 3) {a b : Int} (hG : G [.int a, .int b] = .ok (.int (Nat.gcd a.natAbs b.natAbs : Nat))) (h0 : b ≠ 0) (h1 : b.natAbs < 1073741824) : runF N (qB G) [.int a, .int b] = .ok (qD a b) := by
  have he : entry N [.int a, .int b] none = ⟨[.fz (.int a), .fz (.int b), .no], none⟩ := by unfold entry; rw [hN]; rfl
  have l := byI_le (a := a) h0
  refine runF_of (s1 := ⟨[.fz (.int a), .fz (.int b), .fz (.int (byI a b))], none⟩) ?_
  rw [he]
  refine es_seq (es_set (ev_call rfl hG) (by show 2 < 3; decide)) ?_
  refine es_seq (s1 := ⟨[.fz (.int a), .fz (.int b), .fz (.int (byI a b))], none⟩) ?_ (q_ret (byI_ne h0) (by omega))
  unfold byI
  by_cases hb : b < 0
  · rw [if_pos hb]; exact es_set (s1 := ⟨[.fz (.int a), .fz (.int b), .fz (.int (Nat.gcd a.natAbs b.natAbs : Nat))], none⟩) (ev_ifT (et_cmp_ rfl rfl (cLt_t hb)) (ev_neg rfl)) (by show 2 < 3; decide)
  · rw [if_neg hb]; exact es_set (s1 := ⟨[.fz (.int a), .fz (.int b), .fz (.int (Nat.gcd a.natAbs b.natAbs : Nat))], none⟩) (ev_ifF (et_cmp_ rfl rfl (cLt_f hb)) rfl) (by show 2 < 3; decide)
theorem low_ok {N : List Str} (hN : N.length = 3) {a b : Int} (h0 : b ≠ 0) (h1 : b.natAbs < 1073741824) : runF N lowB [.int a, .int b] = .ok (qD a b) := by
  have he : entry N [.int a, .int b] none = ⟨[.fz (.int a), .fz (.int b), .no], none⟩ := by unfold entry; rw [hN]; rfl
  have l := byI_le (a := a) h0
  refine runF_of (s1 := ⟨[.fz (.int a), .fz (.int b), .fz (.int (byI a b))], none⟩) ?_
  rw [he]
  refine es_seq (s1 := ⟨[.fz (.int a), .fz (.int b), .fz (.int (byI a b))], none⟩) ?_ (q_ret (byI_ne h0) (by omega))
  unfold byI
  by_cases hb : b < 0
  · rw [if_pos hb]; exact es_set (s1 := ⟨[.fz (.int a), .fz (.int b), .no], none⟩) (ev_ifF (et_cmp_ rfl rfl (cGt_f (by omega))) (ev_neg (ev_callD rfl rfl))) (by show 2 < 3; decide)
  · rw [if_neg hb]; exact es_set (s1 := ⟨[.fz (.int a), .fz (.int b), .no], none⟩) (ev_ifT (et_cmp_ rfl rfl (cGt_t (by omega))) (ev_callD rfl rfl)) (by show 2 < 3; decide)
/-- in lowest terms, with bounds -/
structure Low (T B t b : Int) : Prop where
  b0 : 0 < b
  b1 : b ≤ B
  t1 : t ≤ T
  t0 : -T ≤ t
  g : Nat.gcd t.natAbs b.natAbs = 1
theorem fdiv_pos {a g : Int} (h : 0 ≤ g) : a.fdiv g = a / g := Int.fdiv_eq_ediv_of_nonneg a h
theorem qD_pos {t b T B : Int} (h0 : 0 < b) (h1 : b ≤ B) (h2 : t ≤ T) (h3 : -T ≤ t) : ∃ t' b', qD t b = .tup [.int t', .int b'] ∧ Low T B t' b' := by
  have gp := gcd_pos (a := t) (b := b) (by omega)
  have e : byI t b = (Nat.gcd t.natAbs b.natAbs : Int) := by unfold byI; rw [if_neg (by omega)]
  refine ⟨_, _, rfl, ?_⟩
  rw [e, fdiv_pos (by omega), fdiv_pos (by omega)]
  obtain ⟨g, hg⟩ : ∃ g : Nat, g = Nat.gcd t.natAbs b.natAbs := ⟨_, rfl⟩
  have d1 : (g : Int) ∣ t := by rw [hg]; exact Int.ofNat_dvd_left.mpr (Nat.gcd_dvd_left _ _)
  have d2 : (g : Int) ∣ b := by rw [hg]; exact Int.ofNat_dvd_left.mpr (Nat.gcd_dvd_right _ _)
  rw [← hg] at gp ⊢
  obtain ⟨x, hx⟩ := d1
  obtain ⟨y, hy⟩ := d2
  have ex : t / (g : Int) = x := by rw [hx]; exact Int.mul_ediv_cancel_left x (by omega)
  have ey : b / (g : Int) = y := by rw [hy]; exact Int.mul_ediv_cancel_left y (by omega)
  rw [ex, ey]
  have y0 : 0 < y := by
    rcases Int.lt_or_le 0 y with z | z
    · exact z
    · have : (g : Int) * y ≤ 0 := Int.mul_nonpos_of_nonneg_of_nonpos (by omega) z
      omega
  have hyb : y ≤ b := by
    have : 1 * y ≤ (g : Int) * y := Int.mul_le_mul_of_nonneg_right (by omega) (by omega)
    omega
  have hxt : x.natAbs ≤ t.natAbs := by
    rw [hx, Int.natAbs_mul]
    exact Nat.le_mul_of_pos_left _ (by omega)
  refine ⟨y0, by omega, by omega, by omega, ?_⟩
  have : Nat.gcd t.natAbs b.natAbs = g * Nat.gcd x.natAbs y.natAbs := by
    rw [hx, hy, Int.natAbs_mul, Int.natAbs_mul, Int.natAbs_natCast, Nat.gcd_mul_left]
  rw [← hg] at this
  have h4 : g * 1 = g * Nat.gcd x.natAbs y.natAbs := by omega
  exact (Nat.eq_of_mul_eq_mul_left gp h4).symm
theorem qD_low {T B t b m : Int} (h : Low T B t b) (hm : 0 < m) : qD (t * m) (b * m) = .tup [.int t, .int b] := by
  have hb : 0 < b * m := Int.mul_pos h.b0 hm
  have e : byI (t * m) (b * m) = m := by
    unfold byI
    rw [if_neg (by omega), Int.natAbs_mul, Int.natAbs_mul, Nat.gcd_mul_right, h.g]
    omega
  unfold qD
  rw [e, fdiv_pos (by omega), fdiv_pos (by omega), Int.mul_ediv_cancel t (by omega), Int.mul_ediv_cancel b (by omega)]
end SM

set_option Elab.async false
set_option linter.all false
namespace SM
/-- a loop by what stays, the laps counted -/
theorem loop_invB {u : D → S → Option S} {body : S → Res (S × Fl)} (I : Nat → S → Prop) (n : Nat) : ∀ (ds : List D) (k : Nat) (s : S), k + ds.length ≤ n → I k s → (∀ k d s, d ∈ ds → k < n → I k s → ∃ s1, u d s = some s1 ∧ ∃ s2, (body s1 = .ok (s2, .nx) ∨ body s1 = .ok (s2, .ct)) ∧ I (k + 1) s2) → ∃ s', loopF u body ds s = .ok (s', .nx) ∧ I (k + ds.length) s'
  | [], k, s, _, hI, _ => ⟨s, rfl, hI⟩
  | d :: ds, k, s, hn, hI, h => by
    have hn' : k + 1 + ds.length ≤ n := by simp at hn; omega
    obtain ⟨s1, e1, s2, e2, I2⟩ := h k d s (List.mem_cons_self ..) (by omega) hI
    obtain ⟨s', e', I'⟩ := loop_invB I n ds (k + 1) s2 hn' I2 fun k d s hd => h k d s (List.mem_cons_of_mem _ hd)
    refine ⟨s', ?_, ?_⟩
    · unfold loopF
      rw [e1]
      rcases e2 with e2 | e2
      · show (body s1 >>= _) = _; rw [e2]; exact e'
      · show (body s1 >>= _) = _; rw [e2]; exact e'
    · have : k + (d :: ds).length = k + 1 + ds.length := by simp; omega
      rw [this]; exact I'
end SM

set_option Elab.async false
set_option linter.all false
set_option maxRecDepth 100000
set_option maxHeartbeats 4000000
namespace SM
open PySem PySem.Spec PyProof.Rows L2
/-! ## errors that are due -/
abbrev dueB (Fault : List D → Res D) : S → Res (S × Fl) := sRet (eCallD (q1 uAll) (aCons (eLc (itList (eVar 0)) (tTp 2 (tsCons (tNm 1) (tsCons (tNm 2) (tsNil)))) (tYesD) (eCmp cEq (eRepr (eCall Fault (aCons (eVar 1) (aNil)))) (eRepr (eVar 2))) [1, 2]) (aNil)))
theorem cEq_str (x : Str) : cEq (.str x) (.str x) = some true := congrArg some (decide_eq_true rfl)
theorem due_lap {Fault : List D → Res D} {L : D} {c r : D} (h1 : Fault [c] = .ok r) (h2 : repB r = true) : eCmp cEq (eRepr (eCall Fault (aCons (eVar 1) (aNil)))) (eRepr (eVar 2)) ⟨[.fz L, .fz c, .fz r], none⟩ = .ok (⟨[.fz L, .fz c, .fz r], none⟩, .bl true) :=
  ev_cmp (ev_repr (ev_call rfl h1) h2) (ev_repr rfl h2) (cEq_str _)
theorem due_lc {Fault : List D → Res D} {L : D} : ∀ (ds acc : List D), (∀ d ∈ ds, ∃ c r, d = .tup [c, r] ∧ Fault [c] = .ok r ∧ repB r = true) → acc.length + ds.length < 100000 →
    lcA (tTp 2 (tsCons (tNm 1) (tsCons (tNm 2) (tsNil)))) tYesD (eCmp cEq (eRepr (eCall Fault (aCons (eVar 1) (aNil)))) (eRepr (eVar 2))) [1, 2] ds acc ⟨[.fz L, .no, .no], none⟩ = .ok (⟨[.fz L, .no, .no], none⟩, acc ++ ds.map fun _ => .bl true)
  | [], acc, _, _ => by simp [lcA]
  | d :: ds, acc, h, hl => by
    obtain ⟨c, r, rfl, h1, h2⟩ := h d (List.mem_cons_self ..)
    have e := due_lap (L := L) h1 h2
    have ih := due_lc (L := L) ds (acc ++ [.bl true]) (fun d hd => h d (List.mem_cons_of_mem _ hd)) (by simp at hl ⊢; omega)
    unfold lcA
    show (noX (eCmp cEq (eRepr (eCall Fault (aCons (eVar 1) (aNil)))) (eRepr (eVar 2)) ⟨[.fz L, .fz c, .fz r], none⟩) >>= _) = _
    rw [e]
    show (if canWipe ⟨[.fz L, .fz c, .fz r], none⟩ [1, 2] = true ∧ acc.length < 100000 then _ else _) = _
    rw [if_pos ⟨rfl, by simp at hl; omega⟩]
    show lcA _ _ _ _ ds (acc ++ [.bl true]) ⟨[.fz L, .no, .no], none⟩ = _
    rw [ih]
    simp
theorem ev_lc {it : S → Res (S × List D)} {u : D → S → Option S} {t : S → Res (S × Bool)} {f : S → Res (S × D)} {vs : List Nat} {s s1 s2 : S} {ds ys : List D} (hi : it s = .ok (s1, ds)) (hw : canWipe s1 vs = true) (hl : lcA u t f vs ds [] (wipeS s1 vs) = .ok (s2, ys)) : eLc it u t f vs s = .ok (s2, .lst ys) := by
  unfold eLc; rw [hi]
  show (if canWipe s1 vs = true then (lcA u t f vs ds [] (wipeS s1 vs) >>= _) else _) = _
  rw [if_pos hw, hl]; rfl
theorem allB_true : ∀ (ds : List D), allB (ds.map fun _ => .bl true) = some (ds.map fun _ => true)
  | [] => rfl
  | d :: ds => by
    show (allB (ds.map fun _ => .bl true)).map (true :: ·) = _
    rw [allB_true ds]; rfl
theorem due_ok {Fault : List D → Res D} {N : List Str} (hN : N.length = 3) {ds : List D} (h : ∀ d ∈ ds, ∃ c r, d = .tup [c, r] ∧ Fault [c] = .ok r ∧ repB r = true) (hl : ds.length < 100000) : runF N (dueB Fault) [.lst ds] = .ok (.bl true) := by
  have he : entry N [.lst ds] none = ⟨[.fz (.lst ds), .no, .no], none⟩ := by unfold entry; rw [hN]; rfl
  have e := due_lc (L := .lst ds) ds [] h (by simpa using hl)
  refine runF_of (s1 := ⟨[.fz (.lst ds), .no, .no], none⟩) ?_
  rw [he]
  refine es_ret (ev_callD (ds := [.lst (ds.map fun _ => .bl true)]) (ev_cons ?_ ev_nil) ?_)
  · exact ev_lc (s1 := ⟨[.fz (.lst ds), .no, .no], none⟩) rfl rfl e
  · show (allB (ds.map fun _ => .bl true)).map _ = _
    rw [allB_true]
    show some (D.bl ((ds.map fun _ => true).all id)) = _
    simp
theorem eDue_of [Tab] {N : List Str} {nl : Nat} {cs : List (Str × Addr)} {F : List D → Res D} {f : S → Res (S × D)} {s s1 : S} {d d' : D} {b : Bool} (h1 : f s = .ok (s1, d)) (h2 : closeD N nl cs s1 d = some d') (h3 : F [d'] = .ok (.bl b)) : eDue N nl cs F f s = .ok (s1, .bl b) := by
  unfold eDue; rw [h1]
  show (match closeD N nl cs s1 d with | none => _ | some d' => _) = _
  rw [h2]
  show (match F [d'] with | .ok (.bl b) => _ | _ => _) = _
  rw [h3]
theorem close_lam [Tab] {N : List Str} {nl : Nat} {cs : List (Str × Addr)} {s : S} {j : Nat} {ns : List Str} {ds : List D} (hj : j < nl) (hn : lamN (Tab.tab j).sc = ns) (hc : capD N s ns = some ds) : closeD N nl cs s (.lam j cs) = some (.clo j ds) := by
  unfold closeD
  rw [if_pos ⟨hj, rfl⟩, hn, hc]; rfl
/-- a try, its closure made -/
theorem close_pair [Tab] {N : List Str} {nl : Nat} {cs : List (Str × Addr)} {s : S} {j : Nat} {ns : List Str} {ds : List D} {r : D} (hj : j < nl) (hn : lamN (Tab.tab j).sc = ns) (hc : capD N s ns = some ds) (hr : closeD N nl cs s r = some r) : closeD N nl cs s (.tup [.lam j cs, r]) = some (.tup [.clo j ds, r]) := by
  unfold closeD closeDs
  rw [close_lam hj hn hc]
  unfold closeDs
  rw [hr]
  unfold closeDs
  rfl
theorem closes_nil [Tab] {N : List Str} {nl : Nat} {cs : List (Str × Addr)} {s : S} : closeDs N nl cs s [] = some [] := by unfold closeDs; rfl
theorem closes_cons [Tab] {N : List Str} {nl : Nat} {cs : List (Str × Addr)} {s : S} {d d' : D} {ds ds' : List D} (h1 : closeD N nl cs s d = some d') (h2 : closeDs N nl cs s ds = some ds') : closeDs N nl cs s (d :: ds) = some (d' :: ds') := by
  unfold closeDs; rw [h1, h2]
theorem close_lst [Tab] {N : List Str} {nl : Nat} {cs : List (Str × Addr)} {s : S} {ds ds' : List D} (h : closeDs N nl cs s ds = some ds') : closeD N nl cs s (.lst ds) = some (.lst ds') := by
  unfold closeD; rw [h]; rfl
theorem cap_nil {N : List Str} {s : S} : capD N s [] = some [] := rfl
theorem cap_cons {N : List Str} {s : S} {n : Str} {r : List Str} {i : Nat} {d : D} {ds : List D} (h1 : ixOf n N = some i) (h2 : s.sl[i]? = some (.fz d)) (h3 : plainD d = true) (h4 : capD N s r = some ds) : capD N s (n :: r) = some (d :: ds) := by
  unfold capD; rw [h1]
  show (match s.sl[i]? with | some (.fz d) => _ | _ => none) = _
  rw [h2]
  show (if plainD d = true then _ else _) = _
  rw [if_pos h3, h4]; rfl
end SM

set_option Elab.async false
set_option linter.all false
set_option maxRecDepth 100000
set_option maxHeartbeats 4000000
namespace SM
variable [Tab]
open PySem PySem.Spec PyProof.Rows L2

/-! ## instances of the module's own classes -/
/-- what is known of the fields of a class -/
structure FldOk (X : Cx) (fl : Str → Str → Bool) : Prop where
  ok : ∀ c f C, fl c f = true → X.mg c = some (.ref C) → Cls X.K C ∧ NoAttr X.K C f
mutual
/-- what changes in place is not within -/
def noPenD : D → Bool
  | .tup ds => noPenDs ds
  | .lst ds => noPenDs ds
  | .dK _ ds => noPenDs ds
  | .dT _ ds => noPenDs ds
  | .ins _ _ ds => noPenDs ds
  | .xo _ _ ds => noPenDs ds
  | .clo _ ds => noPenDs ds
  | .pen => false
  | _ => true
def noPenDs : List D → Bool
  | [] => true
  | d :: ds => noPenD d && noPenDs ds
end
mutual
theorem Rep.nopen {Γ Γ' : Sig} {ok ok' : Addr → Prop} {H H' : Hp} (hg : Γ'.mg = Γ.mg) (hL : Γ'.lam = Γ.lam) (h : Keeps ok H H') (w : ∀ a, ok a → H a ≠ none → ok' a) : ∀ (d : D) (v : V), noPenD d = true → Rep Γ ok H v d → Rep Γ' ok' H' v d
  | .non, _, _, r => by cases r; exact .non
  | .bl _, _, _, r => by cases r; exact .bl _
  | .int _, _, _, r => by cases r; exact .int _
  | .str _, _, _, r => by cases r; exact .str _
  | .tup ds, _, p, r => by
    cases r with
    | tup h2 h3 => exact .tup (h.t _ _ h2) (Reps.nopen hg hL h w ds _ (by simpa only [noPenD] using p) h3)
  | .lst ds, _, p, r => by
    cases r with
    | lst h1 h2 h3 => exact .lst (w _ h1 (by rw [h2]; exact nofun)) (h.l _ _ h1 h2) (Reps.nopen hg hL h w ds _ (by simpa only [noPenD] using p) h3)
  | .dK ks ds, _, p, r => by
    cases r with
    | dK h1 h2 h3 => exact .dK (w _ h1 (Rd.ne h2)) (h.k _ _ h1 h2) (Reps.nopen hg hL h w ds _ (by simpa only [noPenD] using p) h3)
  | .dT ks ds, _, p, r => by
    cases r with
    | dT h1 h2 h3 => exact .dT (w _ h1 (Rd.ne h2)) (h.d _ _ h1 h2) (Reps.nopen hg hL h w ds _ (by simpa only [noPenD] using p) h3)
  | .ins c ns ds, _, p, r => by
    cases r with
    | ins h1 h2 h3 h4 => exact .ins (w _ h1 (by rw [h3]; exact nofun)) (by rw [hg]; exact h2) (h.i _ _ _ _ h1 h3) (Reps.nopen hg hL h w ds _ (by simpa only [noPenD] using p) h4)
  | .pen, _, p, r => by simp [noPenD] at p
  | .glo _, _, _, r => by
    cases r with
    | glo h1 => exact .glo (by rw [hg]; exact h1)
  | .ty _, _, _, r => by cases r; exact .ty _
  | .lam j cs, _, _, r => by
    cases r with
    | lam _ _ h2 h4 =>
      rw [← hL] at h2 h4
      exact .lam j cs (h.e _ _ h2) (h.e _ _ h4)
  | .clo j ds, _, p, r => by
    cases r with
    | clo _ h2 h4 h5 h8 h6 h7 =>
      rw [← hL] at h2 h4 h5
      exact .clo j (h.e _ _ h2) (h.e _ _ h4) h5 h8 (h6.mono h.e) (Reps.nopen hg hL h w ds _ (by simpa only [noPenD] using p) h7)
  | .xo c ns ds, _, p, r => by
    cases r with
    | xo h1 h2 h3 h4 => exact .xo (by rw [hg]; exact h1) (h.e _ _ h2) (h.e _ _ h3) (Reps.nopen hg hL h w ds _ (by simpa only [noPenD] using p) h4)
    | xo0 h1 h2 => exact .xo0 (by rw [hg]; exact h1) (h.e _ _ h2)
theorem Reps.nopen {Γ Γ' : Sig} {ok ok' : Addr → Prop} {H H' : Hp} (hg : Γ'.mg = Γ.mg) (hL : Γ'.lam = Γ.lam) (h : Keeps ok H H') (w : ∀ a, ok a → H a ≠ none → ok' a) : ∀ (ds : List D) (vs : List V), noPenDs ds = true → Reps Γ ok H vs ds → Reps Γ' ok' H' vs ds
  | [], _, _, r => by cases r; exact .nil
  | d :: ds, _, p, r => by
    have p' : noPenD d = true ∧ noPenDs ds = true := by simpa only [noPenDs, Bool.and_eq_true] using p
    cases r with
    | cons h1 h2 => exact .cons (Rep.nopen hg hL h w d _ p'.1 h1) (Reps.nopen hg hL h w ds _ p'.2 h2)
end

/-! ## fields are read -/
def fldD (ns : List Str) (ds : List D) (f : Str) : Option D := (ns.zip ds).lookup f
def eFld (fl : Str → Str → Bool) (f : Str) (g : S → Res (S × D)) (s : S) : Res (S × D) := g s >>= fun (s1, d) => match d with
  | .ins c ns ds => if fl c f = true then (match fldD ns ds f with
    | some d => .ok (s1, d)
    | none => .stuck) else .stuck
  | _ => .stuck
section
variable {X : Cx} {e : Expr} {es : List Expr} {f : Str} {fl : Str → Str → Bool} {g : S → Res (S × D)} {pos pp : Pos} {fs : S → Res (S × List D)} {x : Str}
theorem ee_fld (hF : FldOk X fl) (he : ER X e g) (hb : attributeBase e f X.env (eval e X.env) = eval e X.env := by rfl) : EE X (.Attribute e f pos) (eFld fl f g) := by
  intro p m B okA s σ H W Q tk hm E hp
  refine we_of (pe_fld (peW X e) hb) ?_
  show WE X e σ H fun x H1 => ∃ a C dx fs v, x = .ref a ∧ H1 a = some (.ins C dx fs) ∧ Cls X.K C ∧ NoAttr X.K C f ∧ fs.lookup f = some v ∧ Q v H1
  refine Does.bind he tk hm E hp fun s1 d v H1 e1 l1 E1 r1 p1 => ?_
  cases d with
  | ins c ns ds =>
    obtain ⟨a, C, dx, fs, rfl, h1, h2, rfl, h4⟩ := r1.ins
    have p2 : Post KV' (sg X p) m B okA W σ s1 H1 Q (if fl c f = true then (match fldD (fs.map (·.1)) ds f with | some d => .ok (s1, d) | none => .stuck) else .stuck) := p1
    by_cases hf : fl c f = true
    · rw [if_pos hf] at p2
      cases hl : fldD (fs.map (·.1)) ds f with
      | none => rw [hl] at p2; exact p2.elim
      | some d =>
        rw [hl] at p2
        obtain ⟨v, hv, rv⟩ := zip_get h4 hl
        obtain ⟨c1, c2⟩ := hF.ok c f C hf h1
        exact ⟨a, C, dx, fs, v, rfl, h2, c1, c2, hv, Post.done (P := KV') (a := d) p2 E1 rv⟩
    · rw [if_neg hf] at p2; exact p2.elim
  | _ => exact (show False from p1).elim
/-- self.f in a method of what is changed in place -/
def eMe (fl : Str → Str → Bool) (i : Nat) (f : Str) (s : S) : Res (S × D) := match s.sl[i]?, s.pn with
  | some (.fz .pen), some (.o (.ins c ns ds)) => if fl c f = true then (match fldD ns ds f with
    | some d => .ok (s, d)
    | none => .stuck) else .stuck
  | _, _ => .stuck
theorem ee_me (hF : FldOk X fl) (i : Nat) (hN : X.N[i]? = some x := by rfl) (hv : Vis X.env.scope x := by first | exact Or.inl rfl | exact Or.inr (Or.inl rfl) | exact Or.inr (Or.inr rfl)) (hd : (x == ("__debug__" : Str)) = false := by decide)
    (hcd : (x == ("__classdict__" : Str)) = false := by decide) (hb : attributeBase (.Name x pp) f X.env (eval (.Name x pp) X.env) = eval (.Name x pp) X.env := by rfl) : EE X (.Attribute (.Name x pp) f pos) (eMe fl i f) := by
  intro p m B okA s σ H W Q tk hm E hp
  refine we_of (pe_fld (pv i hN hv hd hcd) hb) ?_
  unfold eMe at hp
  split at hp
  · rename_i c ns ds h1 h2
    obtain ⟨v, q1, q2⟩ := E.fz i _ h1
    cases q2 with
    | @pen a hq =>
      have z := E.pen
      rw [h2] at z
      obtain ⟨a', y1, y2⟩ := z
      rw [hq] at y1
      cases y1
      cases y2 with
      | @ins _ C dx fs ds c1 c2 c3 =>
        by_cases hf : fl c f = true
        · rw [if_pos hf] at hp
          cases hl : fldD (fs.map (·.1)) ds f with
          | none => rw [hl] at hp; exact hp.elim
          | some d =>
            rw [hl] at hp
            obtain ⟨v, hv, rv⟩ := zip_get c3 hl
            obtain ⟨k1, k2⟩ := hF.ok c f C hf c1
            exact ⟨_, q1, a, C, dx, fs, v, rfl, c2, k1, k2, hv, Post.done (P := KV') (a := d) hp E rv⟩
        · rw [if_neg hf] at hp; exact hp.elim
  · exact hp.elim
end

/-! ## a field is stored -/
def putD (f : Str) (y : D) : List Str → List D → List Str × List D
  | n :: ns, d :: ds => if n = f then (n :: ns, y :: ds) else ((n :: (putD f y ns ds).1), (d :: (putD f y ns ds).2))
  | _, _ => ([f], [y])
theorem putD_rep {Γ : Sig} {ok : Addr → Prop} {H : Hp} {f : Str} {v : V} {y : D} (ry : Rep Γ ok H v y) : ∀ {fs : List (Str × V)} {ds : List D}, Reps Γ ok H (fs.map (·.2)) ds → (putF f v fs).map (·.1) = (putD f y (fs.map (·.1)) ds).1 ∧ Reps Γ ok H ((putF f v fs).map (·.2)) (putD f y (fs.map (·.1)) ds).2
  | [], ds, r => by cases r; exact ⟨rfl, .cons ry .nil⟩
  | (n, u) :: fs, ds, r => by
    cases r with
    | @cons _ _ d ds r1 r2 =>
      obtain ⟨i1, i2⟩ := putD_rep ry r2
      show (List.map _ (if n = f then _ else _) = (if n = f then _ else _ : List Str × List D).1) ∧ Reps Γ ok H (List.map _ (if n = f then _ else _)) (if n = f then _ else _ : List Str × List D).2
      by_cases h : n = f
      · rw [if_pos h, if_pos h]
        exact ⟨rfl, .cons ry r2⟩
      · rw [if_neg h, if_neg h]
        exact ⟨by simpa using i1, .cons r1 i2⟩
/-- what runs in place is written -/
theorem Env.mu {Γ : Sig} {m : Option Addr} {B : Hp} {okA : Addr → Prop} {s : S} {σ : L2.St} {H : Hp} {d d' : D} {q : Addr} {o' : HO} (E : Env Γ m B okA s σ H) (hs : s.pn = some (.o d)) (hq : Γ.pen = some q) (r : RepO Γ (Ok Γ okA s σ) (upd H q o') q d') : Env Γ m B okA { s with pn := some (.o d') } σ (upd H q o') := by
  have z := E.pen
  rw [hs] at z
  obtain ⟨q', y1, y2⟩ := z
  rw [hq] at y1
  cases y1
  obtain ⟨o, o1, o2, o3⟩ := y2.plain
  have mp : m = Γ.pen := E.pm.resolve_left (by rw [hs]; exact nofun)
  have nq : ∀ a, Ok Γ okA s σ a → a ≠ q := fun a h z => h.2.1 (by rw [z]; exact hq)
  have nt : ∀ vs, H q ≠ some (.tup vs) := y2.noTup
  have nx : ∀ φ, H q ≠ some (.ext φ) := y2.noX
  have k : Keeps (Ok Γ okA s σ) H (upd H q o') := Keeps.upd (fun h => nq q h rfl) nt nx
  refine ⟨E.len, .inr mp, ?_, E.nB, fun b hb => ?_, fun i d h => ?_, fun i d h => ?_, E.dis, ⟨q, hq, r⟩, fun b hb => ?_, fun P hP => tab_wrote (E.tb P hP) o1 o2 o3⟩
  · have ne : ∀ {b o}, m ≠ some b → H b = some o → upd H q o' b = some o := fun {b o} n z => by rw [upd_ne fun w => n (by rw [mp, w]; exact hq)]; exact z
    refine ⟨fun b o n f z => ne n (E.kp.o b o n f z), fun b vs z => ?_, fun b z => ?_, fun P t => tab_wrote (E.kp.tb P t) o1 o2 o3, fun b φ z => ?_⟩
    · have := E.kp.t b vs z
      rw [upd_ne fun w => nt vs (by rw [← w]; exact this)]; exact this
    · by_cases w : b = q
      · rw [w, upd_same]; exact nofun
      · rw [upd_ne w]; exact E.kp.n b z
    · have := E.kp.x b φ z
      rw [upd_ne fun w => nx φ (by rw [← w]; exact this)]; exact this
  · by_cases w : b = q
    · rw [w, upd_same] at hb; cases hb
    · rw [upd_ne w] at hb; exact E.new b hb
  · obtain ⟨u, h1, h2⟩ := E.fz i d h
    exact ⟨u, h1, Rep.mono k (fun _ z _ => z) _ _ h2⟩
  · obtain ⟨b, h1, h2, h3, h4⟩ := E.ow i d h
    exact ⟨b, h1, h2, h3, h4.mono k (fun _ z _ => z) fun o _ z => by rw [upd_ne fun w => h3 (by rw [w]; exact hq)]; exact z⟩
  · by_cases w : b = q
    · rw [w, upd_same]; exact nofun
    · rw [upd_ne w]; exact E.pn b hb
/-- self.f = e -/
def sMe (fl : Str → Str → Bool) (i : Nat) (f : Str) (g : S → Res (S × D)) (s : S) : Res (S × Fl) := g s >>= fun (s1, y) => match s1.sl[i]?, s1.pn with
  | some (.fz .pen), some (.o (.ins c ns ds)) => if fl c f = true ∧ ns.length < 1000 then .ok ({ s1 with pn := some (.o (.ins c (putD f y ns ds).1 (putD f y ns ds).2)) }, .nx) else .stuck
  | _, _ => .stuck
section
variable {X : Cx} {e : Expr} {f : Str} {fl : Str → Str → Bool} {g : S → Res (S × D)} {pos pos' pp : Pos} {x : Str}
theorem ss_me (hF : FldOk X fl) (i : Nat) (he : EE X e g) (hN : X.N[i]? = some x := by rfl) (hv : Vis X.env.scope x := by first | exact Or.inl rfl | exact Or.inr (Or.inl rfl) | exact Or.inr (Or.inr rfl)) (hd : (x == ("__debug__" : Str)) = false := by decide)
    (hcd : (x == ("__classdict__" : Str)) = false := by decide) (hs : swapsWith e (some (.Attribute (.Name x pp) f pos')) pos.line X.env = pure false := by rfl) : SS X (.Assign [.Attribute (.Name x pp) f pos'] e pos) (sMe fl i f g) := by
  intro p m B okA s σ H W Z tk hm E hp
  refine ws_of (ps_fld (pv i hN hv hd hcd) (peW X e) hs) ?_
  show WE X e σ H fun y H1 => tVar i σ H1 fun x H2 => ∃ a C dx fs, x = .ref a ∧ H2 a = some (.ins C dx fs) ∧ Cls X.K C ∧ NoAttr X.K C f ∧ fs.length < 1000 ∧ Z.nx σ (upd H2 a (.ins C dx (putF f y fs)))
  refine Does.bindS he tk hm E hp fun s1 y v H1 E1 r1 p1 => ?_
  have p1 : PostS (sg X p) m B okA W Z (match s1.sl[i]?, s1.pn with
    | some (.fz .pen), some (.o (.ins c ns ds)) => if fl c f = true ∧ ns.length < 1000 then .ok ({ s1 with pn := some (.o (.ins c (putD f y ns ds).1 (putD f y ns ds).2)) }, .nx) else .stuck
    | _, _ => .stuck) := p1
  split at p1
  · rename_i c ns ds h1 h2
    obtain ⟨u, q1, q2⟩ := E1.fz i _ h1
    cases q2 with
    | @pen a hq =>
      have z := E1.pen
      rw [h2] at z
      obtain ⟨a', y1, y2⟩ := z
      rw [hq] at y1
      cases y1
      cases y2 with
      | @ins _ C dx fs ds c1 c2 c3 =>
        by_cases hf : fl c f = true ∧ (fs.map (·.1)).length < 1000
        · rw [if_pos hf] at p1
          obtain ⟨k1, k2⟩ := hF.ok c f C hf.1 c1
          refine ⟨_, q1, a, C, dx, fs, rfl, c2, k1, k2, by simpa using hf.2, p1 σ _ (E1.mu h2 hq ?_)⟩
          have nq : ¬ Ok (sg X p) okA s1 σ a := fun h => h.2.1 hq
          have k : Keeps (Ok (sg X p) okA s1 σ) H1 (upd H1 a (.ins C dx (putF f v fs))) := Keeps.upd nq (fun vs z => by rw [c2] at z; cases z) (fun φ z => by rw [c2] at z; cases z)
          obtain ⟨i1, i2⟩ := putD_rep (f := f) (Rep.mono k (fun _ z _ => z) _ _ r1) (Reps.mono k (fun _ z _ => z) _ _ c3)
          rw [← i1]
          exact .ins c1 upd_same i2
        · rw [if_neg hf] at p1; exact p1.elim
  · exact p1.elim
end
end SM

set_option Elab.async false
set_option linter.all false
set_option maxRecDepth 100000
set_option maxHeartbeats 4000000
namespace SM
variable [Tab]
open PySem PySem.Spec PyProof.Rows L2

/-! ## a new instance -/
theorem Ext.past {x : Addr} {H1 H2 H' : Hp} (e1 : Ext none H1 H2) (e2 : Ext (some x) H2 H') (hx : H1 x = none) : Ext none H1 H' where
  o := fun a o _ f h => e2.o a o (fun z => by cases z; rw [hx] at h; cases h) f (e1.o a o nofun f h)
  t := fun a vs h => e2.t a vs (e1.t a vs h)
  n := fun a h => e2.n a (e1.n a h)
  tb := fun P h => e2.tb P (e1.tb P h)
  x := fun a φ h => e2.x a φ (e1.x a φ h)
/-- the class C, the class c of the module -/
structure MkC (K : PySem.W.Frag) (mg : Str → Option Value) (c : Str) (C f : Addr) : Prop where
  mk_ : Mk K C f
  mg : mg c = some (.ref C)
def mkD (c : Str) (Fi : List D → Option Mu → Res (D × Option Mu)) (ds : List D) : Res D := if noPenDs ds = true then (match Fi (.pen :: ds) (some (.o (.ins c [] []))) with
  | .ok (.non, some (.o d)) => if noPenD d = true then .ok d else .stuck
  | .exn c ns es => if noPenDs es = true then .exn c ns es else .stuck
  | _ => .stuck) else .stuck
section
variable {X : Cx} {k n : Nat} {f C : Addr} {fd : FuncData} {ps : List Str} {c x : Str} {Fi : List D → Option Mu → Res (D × Option Mu)} {e : Expr} {es : List Expr} {fs : S → Res (S × List D)} {pos pp : Pos}
theorem RepO.nopen {Γ Γ' : Sig} {ok ok' : Addr → Prop} {H : Hp} {a : Addr} {d : D} (hg : Γ'.mg = Γ.mg) (hL : Γ'.lam = Γ.lam) (hp : noPenD d = true) (r : RepO Γ ok H a d) (w : ∀ a, ok a → ok' a) : RepO Γ' ok' H a d := by
  cases r with
  | lst h1 h2 => exact .lst h1 (Reps.nopen hg hL (Keeps.refl _ _) (fun a h _ => w a h) _ _ (by simpa only [noPenD] using hp) h2)
  | dK h1 h2 => exact .dK h1 (Reps.nopen hg hL (Keeps.refl _ _) (fun a h _ => w a h) _ _ (by simpa only [noPenD] using hp) h2)
  | dT h1 h2 => exact .dT h1 (Reps.nopen hg hL (Keeps.refl _ _) (fun a h _ => w a h) _ _ (by simpa only [noPenD] using hp) h2)
  | ins h0 h1 h2 => exact .ins (by rw [hg]; exact h0) h1 (Reps.nopen hg hL (Keeps.refl _ _) (fun a h _ => w a h) _ _ (by simpa only [noPenD] using hp) h2)
/-- C(..), the values at hand -/
theorem mk_post {p m : Option Addr} {B : Hp} {okA : Addr → Prop} {s : S} {σ : L2.St} {H : Hp} {W : WX} {Q : VK} {vs : List V} {ds : List D} {a dx : Addr} (hl : ds.length = n) (hm : m = p ∨ m = none) (E : Env (sg X p) m B okA s σ H) (hC : X.mg c = some (.ref C))
    (r : Reps (sg X p) (Ok (sg X p) okA s σ) H vs ds) (hp : Post KV' (sg X p) m B okA W σ s H Q (mkD c Fi ds >>= fun d => Res.ok (s, d))) (ha : H a = none) (hdx : H dx = none) (hne : dx ≠ a) :
    spP X.K X.mg (n + 1) Fi (.ref a :: vs) (L2.upd (L2.upd H dx (.own a)) a (.ins C dx [])) (fun v H2 => v = .non ∧ Q (.ref a) H2) fun c d H' => W c d σ H' := by
  have hd1 : L2.upd H dx (.own a) a = none := by rw [upd_ne hne.symm]; exact ha
  have e12 : Ext none H (L2.upd (L2.upd H dx (.own a)) a (.ins C dx [])) := (Ext.new hdx).trans (Ext.new hd1)
  have back : ∀ b, L2.upd (L2.upd H dx (.own a)) a (.ins C dx []) b = none → H b = none := fun b hb => by
    by_cases z : b = a
    · rw [z, upd_same] at hb; cases hb
    · rw [upd_ne z] at hb
      by_cases y : b = dx
      · rw [y]; exact hdx
      · rw [upd_ne y] at hb; exact hb
  unfold mkD at hp
  by_cases hn : noPenDs ds = true
  case neg => rw [if_neg hn] at hp; exact hp.elim
  rw [if_pos hn] at hp
  refine ⟨by rw [List.length_cons, r.length, hl], some a, some a, Ok (sg X p) okA s σ, .pen :: ds, some (.o (.ins c [] [])), .inl rfl, .inr rfl, fun b hb => E.okNew (back b hb), fun b hb => by cases hb; rw [upd_same]; exact nofun, fun P hP => e12.tb P (E.tb P hP), .cons (.pen rfl) ?_, ⟨a, rfl, RepO.ins (fs := []) hC upd_same .nil⟩, ?_⟩
  · exact Reps.nopen (Γ := sg X p) (Γ' := sg X (some a)) rfl rfl (e12.keeps fun _ _ => nofun) (fun b h1 h2 => ⟨h1, fun z => h2 (by cases z; exact ha)⟩) _ _ hn r
  cases hF : Fi (.pen :: ds) (some (.o (.ins c [] []))) with
  | stuck => rw [hF] at hp; exact hp
  | exn c' ns es =>
    rw [hF] at hp
    have hp : Post KV' (sg X p) m B okA W σ s H Q ((if noPenDs es = true then .exn c' ns es else .stuck) >>= fun d => Res.ok (s, d)) := hp
    by_cases he : noPenDs es = true
    · rw [if_pos he] at hp
      intro C' dd fs H' e2 hdd hc hx hns fr rs
      have e := Ext.past e12 e2 ha
      refine Post.exn' (s := s) (Q := Q) hp e.low (back dd hdd) hc hx hns (fun q hq => back q (fr q hq)) ?_
      exact Reps.nopen (Γ := sg X (some a)) (Γ' := sg X p) (ok := okP (some a) (Ok (sg X p) okA s σ)) rfl rfl (Keeps.refl _ _) (fun b h _ => ⟨h.1.1, h.1.2.1⟩) _ _ he rs
    · rw [if_neg he] at hp; exact hp.elim
  | ok y =>
    obtain ⟨d0, mu⟩ := y
    rw [hF] at hp
    match d0, mu, hp with
    | .non, some (.o d), hp =>
      have hp : Post KV' (sg X p) m B okA W σ s H Q ((if noPenD d = true then .ok d else .stuck) >>= fun d => Res.ok (s, d)) := hp
      by_cases hd : noPenD d = true
      · rw [if_pos hd] at hp
        intro v H' e2 fr hpn hpen rv
        refine ⟨rv.non_v, ?_⟩
        have e := Ext.past e12 e2 ha
        have fr' : ∀ q, H' q = none → H q = none := fun q hq => back q (fr q hq)
        obtain ⟨a', q1, q2⟩ := hpen
        cases q1
        have q3 := RepO.nopen (Γ := sg X (some a)) (Γ' := sg X p) (ok := okP (some a) (Ok (sg X p) okA s σ)) (ok' := Ok (sg X p) okA s σ) rfl rfl hd q2 fun b h => h.1
        refine hp (.ref a) H' e.low (Less.refl _) (E.ext e.low (hm.symm.imp id id).symm (E.pen.keep (e.keeps fun _ _ => nofun) (fun _ z => z) fun q o _ f h => e.o q o nofun f h) (fun q hq => ?_) fr') (q3.froze (fun _ z _ => z) (E.okNew ha))
        exact e.n q (E.pn q hq)
      · rw [if_neg hd] at hp; exact hp.elim
    | .non, some (.p _), hp => exact hp.elim
    | .non, none, hp => exact hp.elim
    | .bl _, _, hp => exact hp.elim
    | .int _, _, hp => exact hp.elim
    | .str _, _, hp => exact hp.elim
    | .tup _, _, hp => exact hp.elim
    | .lst _, _, hp => exact hp.elim
    | .dK _ _, _, hp => exact hp.elim
    | .dT _ _, _, hp => exact hp.elim
    | .ins _ _ _, _, hp => exact hp.elim
    | .pen, _, hp => exact hp.elim
    | .glo _, _, hp => exact hp.elim
    | .ty _, _, hp => exact hp.elim
    | .lam _ _, _, hp => exact hp.elim
    | .clo _ _, _, hp => exact hp.elim
    | .xo _ _ _, _, hp => exact hp.elim
theorem run_mkG {sp : Sp} {pins : List (Addr × Obj)} {σ : L2.St} {H : Hp} {s : Shared} {Q : VK} {us us' : List Value} {kw : List (Str × Value)} {vs : List V} {W : WX} (M : Mk X.K C f) (F : FnG X.prog X.w X.K X.mg X.base k f fd ps sp) (g : Good (k + 1) X) (tk : Takes X W) (I : Inv X pins σ H s) (r : Vals vs us')
    (hb : ∀ (a : Addr) (s : Shared), X.K.In s.heap → (V.ref a :: vs).length = ps.length → BindsTo s fd ⟨.ref a :: us, kw⟩ (ps.zip (.ref a :: us')))
    (h : ∀ a dx, H a = none → H dx = none → dx ≠ a → sp (.ref a :: vs) (L2.upd (L2.upd H dx (.own a)) a (.ins C dx [])) (fun v H2 => v = .non ∧ Q (.ref a) H2) fun c d H' => W c d σ H') :
    wpAny (model X.prog X.w) X.A (call (.ref C) us kw) (EP X pins σ Q) X.xe s := by
  have hq := h (s.heap.objs.size + 1) s.heap.objs.size (I.hok.fresh (Nat.le_succ _)) (I.hok.fresh (Nat.le_refl _)) (Nat.ne_of_lt (Nat.lt_succ_self _))
  have I2 := Inv.made (C := C) I
  have r1 : Vals (V.ref (s.heap.objs.size + 1) :: vs) (Value.ref (s.heap.objs.size + 1) :: us') := .cons rfl r
  refine wpAny_call (make_map (f := f) I.kIn M.makes M.init (beq_iff_eq.mp M.fn) (codeAny_mono (F.run _ X.stack _ _ ⟨Value.ref (s.heap.objs.size + 1) :: us, kw⟩ (Value.ref (s.heap.objs.size + 1) :: us') _ _ _ (g.room.make C us kw) (guards_make g.guards)
    (I2.env0.make C us kw) (hb _ _ I2.kIn (F.len _ _ _ _ hq)) r1 hq) fun r s' hq' => ?_))
  match r, hq' with
  | .error e, hq' => exact tk e s' (XE.of_call I2 (fun _ _ _ z => z) hq')
  | .ok (.ret u), hq' =>
    obtain ⟨v, H', I3, rv, ev, q3⟩ := I2.after hq'
    subst ev
    exact ⟨rv, ⟨V.ref (s.heap.objs.size + 1), H', I3, rfl, q3⟩⟩
  | .ok .next, hq' => exact hq'.elim
  | .ok .brk, hq' => exact hq'.elim
  | .ok .cont, hq' => exact hq'.elim
/-- how an __init__ is bound and what it promises -/
def OkI (P : Program) (w : World) (K : PySem.W.Frag) (mg : Str → Option Value) (base : Heap) (k : Nat) (c : Str) (ps : List Str) (n : Nat) (Fi : List D → Option Mu → Res (D × Option Mu)) : Prop :=
  ∃ fd, L2.Binds K fd ps [] ∧ FnG P w K mg base k (He.ma K (He.ga K c) "__init__") fd ps (spP K mg (n + 1) Fi) ∧ MkC K mg c (He.ga K c) (He.ma K (He.ga K c) "__init__")
theorem ee_make {j : Nat} (O : OkI X.prog X.w X.K X.mg X.base j c ps n Fi) (hj : j + 1 ≤ k) (g : Good k X) (hl : LenIs fs n) (ha : EA X (e :: es) fs) (hg : Gl X c := by rfl) (hdb : (c == ("__debug__" : Str)) = false := by decide)
    (he : starEach (e :: es) X.env = (false, eval e X.env) :: starEach es X.env := by rfl) (hpl : (backTo pos (starEach es X.env)).any (·.1) = false := by rfl) : EE X (.Call (.Name c pp) (e :: es) [] pos) (eCall (mkD c Fi) fs) := by
  obtain ⟨fd, hb, G, M⟩ := O
  intro p m B okA s σ H W Q tk hm E hp
  refine we_mk fun pins s0 I => ?_
  refine wpAny_Call_Name_kw (ld_glob I hg M.mg ?_ hdb)
  refine PySem.W.callWith_K (h₀ := X.base) I.ok.mod.kin M.mk_.kp (thn (?_ : wpAny _ _ _ (AP X pins σ fun vs H1 => ∀ a dx, H1 a = none → H1 dx = none → dx ≠ a → spP X.K X.mg (n + 1) Fi (.ref a :: vs) (L2.upd (L2.upd H1 dx (.own a)) a (.ins (He.ga X.K c) dx [])) (fun v H2 => v = .non ∧ Q (.ref a) H2) fun c d H' => W c d σ H') _ _) fun us s1 ⟨vs, H1, I1, r, q⟩ => ⟨I1.kIn, ?_⟩) he hpl
  · refine (paW X (e :: es)).run pos pins s0 σ H _ I ?_
    refine Does.bindL ha tk hm E hp fun s1 ds vs H1 hf e1 l1 E1 r1 p1 => ?_
    exact fun a dx ha hdx hne => mk_post (hl _ _ _ hf) hm E1 M.mg r1 p1 ha hdx hne
  · refine run_mkG M.mk_ G (g.mono hj) tk I1 r (fun a s' hk hl => ?_) q
    have b := hb s' (.ref a :: us) hk (by rw [List.append_nil, ← hl, List.length_cons, List.length_cons, Paired.length r])
    rwa [List.append_nil] at b
theorem ee_make0 {j : Nat} (O : OkI X.prog X.w X.K X.mg X.base j c ps 0 Fi) (hj : j + 1 ≤ k) (g : Good k X) (hg : Gl X c := by rfl) (hdb : (c == ("__debug__" : Str)) = false := by decide) : EE X (.Call (.Name c pp) [] [] pos) (eCall (mkD c Fi) aNil) := by
  obtain ⟨fd, hb, G, M⟩ := O
  intro p m B okA s σ H W Q tk hm E hp
  refine we_mk fun pins s0 I => ?_
  refine wpAny_Call_Name_kw (ld_glob I hg M.mg ?_ hdb)
  refine PySem.W.callWith_K0 I.kIn M.mk_.kp (run_mkG (us := []) (us' := []) M.mk_ G (g.mono hj) tk I .nil (fun a s' hk hl => ?_) fun a dx ha hdx hne => mk_post (ds := []) rfl hm E M.mg .nil hp ha hdx hne)
  have b := hb s' [.ref a] hk (by rw [List.append_nil, ← hl]; rfl)
  rwa [List.append_nil] at b
end
end SM

set_option Elab.async false
set_option linter.all false
set_option maxRecDepth 100000
set_option maxHeartbeats 4000000
namespace SM
variable [Tab]
open PySem PySem.Spec PyProof.Rows L2

/-! ## calls by the names of the parameters, the last one first -/
def WK (X : Cx) (kws : List Keyword) : TA := fun σ H Q => ∀ (pos : Pos) pins s, Inv X pins σ H s → wpAny (model X.prog X.w) X.A (evalAll ((backToKw pos (keywordEach kws X.env)).map (·.2))) (AP X pins σ Q) X.xe s
theorem pkW (X : Cx) (kws : List Keyword) : PK X kws (WK X kws) := ⟨fun pos pins s σ H Q I h => h pos pins s I⟩
abbrev EK (X : Cx) (kws : List Keyword) (f : S → Res (S × List D)) : Prop := Does KL' X (WK X kws) f
/-- all but the first n are named, from the last on -/
def KwB (K : PySem.W.Frag) (fd : FuncData) (ps : List Str) (n : Nat) : Prop := ∀ (s : Shared) (us ws : List Value), K.In s.heap → us.length = n → ws.length = (ps.drop n).length → BindsTo s fd ⟨us, (ps.drop n).reverse.zip ws⟩ (ps.zip (us ++ ws.reverse))
theorem FunD.kwB {K : PySem.W.Frag} {x qual : Str} {params : Arguments} {body : List Stmt} {scope : Scope} {kws : List (Str × V)} {f : Addr} {fd : FuncData} {ps : List Str} (n : Nat) (F : FunD K x qual params body scope [] kws f fd)
    (h : ∀ (kV doc pm : Value) (an : Option Addr) (cdv ct : Value) (us ws : List Value), us.length = n → ws.length = (ps.drop n).length → bindArgs (PySem.W.fnOf x qual params body scope .none kV doc pm an cdv ct) ⟨us, (ps.drop n).reverse.zip ws⟩ = pure (ps.zip (us ++ ws.reverse))) : KwB K fd ps n := by
  obtain ⟨oc, od, dV, kV, doc, pm, an, cdv, ct, osl, rfl, lk, hcd, hD, hK⟩ := F.ex
  rcases hD with ⟨_, rfl⟩ | ⟨e, _⟩
  · exact fun s us ws _ h1 h2 => BindsTo.of_looks fun M => .of_pure (h kV doc pm an cdv ct us ws h1 h2)
  · exact absurd rfl e
section
variable {X : Cx} {k n : Nat} {f C : Addr} {fd : FuncData} {ps ks : List Str} {c x nm : Str} {Fi : List D → Option Mu → Res (D × Option Mu)} {e : Expr} {es : List Expr} {kws : List Keyword} {g : S → Res (S × D)} {fs : S → Res (S × List D)} {pos pp kpos : Pos}
theorem ek_nil : EK X [] aNil := fun p m B okA s σ H W Q tk hm E hp pos pins s0 I => pk_nil.run pos pins s0 σ H Q I (Post.done (P := KL') (a := []) hp E .nil)
theorem ek_cons (ha : EE X e g) (hr : EK X kws fs) : EK X (⟨some nm, e, kpos⟩ :: kws) (aCons g fs) := by
  intro p m B okA s σ H W Q tk hm E hp pos pins s0 I
  refine (pk_cons (nm := nm) (kpos := kpos) (peW X e) (pkW X kws)).run pos pins s0 σ H Q I ?_
  show WE X e σ H fun x H1 => WK X kws σ H1 fun xs H2 => Q (x :: xs) H2
  refine Does.bind ha tk hm E hp fun s1 x v H1 e1 l1 E1 r1 p1 => ?_
  refine Does.bind hr tk hm E1 p1 fun s2 xs vs H2 e2 l2 E2 r2 p2 => ?_
  exact p2.done E2 (.cons (stay r1 hm e2 l2) r2)
/-- F, the arguments from the last on -/
def rvF {α : Type} (F : List D → α) (ds : List D) : α := F ds.reverse
/-- .. the same with the binding by names -/
def OkIk (P : Program) (w : World) (K : PySem.W.Frag) (mg : Str → Option Value) (base : Heap) (k : Nat) (c : Str) (ps : List Str) (n : Nat) (Fi : List D → Option Mu → Res (D × Option Mu)) : Prop :=
  ∃ fd, L2.Binds K fd ps [] ∧ KwB K fd ps 1 ∧ FnG P w K mg base k (He.ma K (He.ga K c) "__init__") fd ps (spP K mg (n + 1) Fi) ∧ MkC K mg c (He.ga K c) (He.ma K (He.ga K c) "__init__")
theorem OkIk.ok {P : Program} {w : World} {K : PySem.W.Frag} {mg : Str → Option Value} {base : Heap} (O : OkIk P w K mg base k c ps n Fi) : OkI P w K mg base k c ps n Fi := let ⟨fd, a, _, b, d⟩ := O; ⟨fd, a, b, d⟩
def OkFk (P : Program) (w : World) (K : PySem.W.Frag) (mg : Str → Option Value) (base : Heap) (k : Nat) (x : Str) (ps : List Str) (sp : Sp) : Prop := PySem.W.keepIn K (.ref (He.ga K x)) = true ∧ ∃ fd, L2.Binds K fd ps [] ∧ KwB K fd ps 0 ∧ FnG P w K mg base k (He.ga K x) fd ps sp
theorem OkFk.ok {P : Program} {w : World} {K : PySem.W.Frag} {mg : Str → Option Value} {base : Heap} {sp : Sp} (O : OkFk P w K mg base k x ps sp) : OkF P w K mg base k x ps sp := let ⟨h, fd, a, _, b⟩ := O; ⟨h, fd, a, b⟩
theorem ee_makeK {j : Nat} (O : OkIk X.prog X.w X.K X.mg X.base j c ps n Fi) (hj : j + 1 ≤ k) (g : Good k X) (hl : LenIs fs n) (hkw : EK X kws fs) (hg : Gl X c := by rfl) (hdb : (c == ("__debug__" : Str)) = false := by decide)
    (hall : (backToKw pos (keywordEach kws X.env)).all (·.1.isSome) = true := by rfl) (hks : (backToKw pos (keywordEach kws X.env)).filterMap (·.1) = (ps.drop 1).reverse := by rfl)
    (hpl : ((backTo pos (starEach [] X.env)).any (·.1) || (backToKw pos (keywordEach kws X.env)).any (·.1.isNone)) = false := by rfl) : EE X (.Call (.Name c pp) [] kws pos) (eCall (rvF (mkD c Fi)) fs) := by
  obtain ⟨fd, hb, kb, G, M⟩ := O
  intro p m B okA s σ H W Q tk hm E hp
  refine we_mk fun pins s0 I => ?_
  refine wpAny_Call_Name_kw (ld_glob I hg M.mg ?_ hdb)
  refine PySem.W.callWith_KW0 (h₀ := X.base) I.ok.mod.kin M.mk_.kp hall ?_ hpl
  refine thn (?_ : wpAny _ _ _ (AP X pins σ fun vs H1 => ∀ a dx, H1 a = none → H1 dx = none → dx ≠ a → spP X.K X.mg (n + 1) Fi (.ref a :: vs.reverse) (L2.upd (L2.upd H1 dx (.own a)) a (.ins (He.ga X.K c) dx [])) (fun v H2 => v = .non ∧ Q (.ref a) H2) fun c d H' => W c d σ H') _ _) fun us s1 ⟨vs, H1, I1, r, q⟩ => ⟨I1.kIn, ?_⟩
  · refine (?_ : WK X kws σ H _) pos pins s0 I
    refine Does.bindL hkw tk hm E hp fun s1 ds vs H1 hf e1 l1 E1 r1 p1 => ?_
    exact fun a dx ha hdx hne => mk_post (by rw [List.length_reverse]; exact hl _ _ _ hf) hm E1 M.mg r1.rev p1 ha hdx hne
  · rw [hks]
    have rr : ∀ {vs : List V} {us : List Value}, Vals vs us → Vals vs.reverse us.reverse := fun {vs us} r => by
      induction r with
      | nil => exact .nil
      | cons h t ih =>
        rw [List.reverse_cons, List.reverse_cons]
        exact ih.append (.cons h .nil)
    refine run_mkG (us := []) (us' := us.reverse) M.mk_ G (g.mono hj) tk I1 (rr r) (fun a s' hk hl => ?_) q
    have hlen : us.length = vs.length := (Paired.length r).symm
    exact kb s' [.ref a] us hk rfl (by rw [List.length_drop, ← hl]; simp [hlen])
/-- f(k = v, ..) -/
theorem ee_callK {j : Nat} {F : List D → Res D} (O : OkFk X.prog X.w X.K X.mg X.base j x ps (spF X.K X.mg n F)) (hj : j ≤ k) (g : Good k X) (hmg : X.mg x = some (.ref (He.ga X.K x))) (hl : LenIs fs n) (hkw : EK X kws fs) (hg : Gl X x := by rfl) (hdb : (x == ("__debug__" : Str)) = false := by decide)
    (hall : (backToKw pos (keywordEach kws X.env)).all (·.1.isSome) = true := by rfl) (hks : (backToKw pos (keywordEach kws X.env)).filterMap (·.1) = ps.reverse := by rfl)
    (hpl : ((backTo pos (starEach [] X.env)).any (·.1) || (backToKw pos (keywordEach kws X.env)).any (·.1.isNone)) = false := by rfl) : EE X (.Call (.Name x pp) [] kws pos) (eCall (rvF F) fs) := by
  obtain ⟨hk, fd, hb, kb, G⟩ := O
  intro p m B okA s σ H W Q tk hm E hp
  refine we_mk fun pins s0 I => ?_
  refine wpAny_Call_Name_kw (ld_glob I hg hmg ?_ hdb)
  refine PySem.W.callWith_KW0 (h₀ := X.base) I.ok.mod.kin hk hall ?_ hpl
  refine thn (?_ : wpAny _ _ _ (AP X pins σ fun vs H1 => spF X.K X.mg n F vs.reverse H1 Q fun c d H' => W c d σ H') _ _) fun us s1 ⟨vs, H1, I1, r, q⟩ => ⟨I1.kIn, ?_⟩
  · refine (?_ : WK X kws σ H _) pos pins s0 I
    refine Does.bindL hkw tk hm E hp fun s1 ds vs H1 hf e1 l1 E1 r1 p1 => ?_
    exact call_post (by rw [List.length_reverse]; exact hl _ _ _ hf) hm E1 r1.rev p1
  · rw [hks]
    have rr : ∀ {vs : List V} {us : List Value}, Vals vs us → Vals vs.reverse us.reverse := fun {vs us} r => by
      induction r with
      | nil => exact .nil
      | cons h t ih =>
        rw [List.reverse_cons, List.reverse_cons]
        exact ih.append (.cons h .nil)
    have b := kb s1 [] us I1.kIn rfl (by rw [List.length_drop, ← (G.mono hj).len _ _ _ _ q, List.length_reverse, Paired.length r]; simp)
    refine wpAny_call (codeAny_mono ((G.mono hj).run X.A X.stack s1 H1 ⟨[], ps.reverse.zip us⟩ us.reverse vs.reverse Q _ g.room g.guards I1.env0 b (rr r) q) fun fl s' hq => ?_)
    match fl, hq with
    | .error e, hq => exact tk e s' (XE.of_call I1 (fun _ _ _ z => z) hq)
    | .ok (.ret u), hq => exact I1.after hq
    | .ok .next, hq => exact hq.elim
    | .ok .brk, hq => exact hq.elim
    | .ok .cont, hq => exact hq.elim
end
/-- a method of the class c -/
abbrev MeS (K : PySem.W.Frag) (c m q : Str) (st : Stmt) : Prop := ∃ fd, FunD K m q (defArgs st) (defBody st) (defScope st) [] [] (He.ma K (He.ga K c) m) fd
section
variable {P : Program} {w : World} {K : PySem.W.Frag} {mg : Str → Option Value} {base : Heap} {k n : Nat} {c x q : Str} {N ps : List Str} {st : Stmt} {b : S → Res (S × Fl)}
theorem okI_of (F : MeS K c "__init__" q st) (S : FnScope N ps (defScope st)) (hn : ps.length = n + 1) (hN : n + 1 ≤ N.length) (hM : MkC K mg c (He.ga K c) (He.ma K (He.ga K c) "__init__"))
    (hbind : ∀ (kV doc pm : Value) (an : Option Addr) (cdv ct : Value) (us : List Value), us.length = ps.length → bindArgs (PySem.W.fnOf "__init__" q (defArgs st) (defBody st) (defScope st) .none kV doc pm an cdv ct) ⟨us, []⟩ = pure (ps.zip us))
    (hb : ∀ cd A outer s H E, Good k (bodyX P w K mg base N q (defScope st) (He.ma K (He.ga K c) "__init__") cd A outer s H E) → SB (bodyX P w K mg base N q (defScope st) (He.ma K (He.ga K c) "__init__") cd A outer s H E) (defBody st) b) : OkI P w K mg base (k + 1) c ps n (runP N b) := by
  obtain ⟨fd, FD⟩ := F
  refine ⟨fd, FD.bindsN hbind, ?_, hM⟩
  obtain ⟨oc, od, dV, kV, doc, pm, an, cdv, ct, osl, rfl, lk, hcd, _, _⟩ := FD.ex
  exact fnG_of lk hcd S (fun vs H Q E h => h.1.trans hn.symm) fun A outer s H vs Q E g hsp => wb_fnP hN (hb cdv A outer s H E g) hsp
theorem okIk_of (F : MeS K c "__init__" q st) (S : FnScope N ps (defScope st)) (hn : ps.length = n + 1) (hN : n + 1 ≤ N.length) (hM : MkC K mg c (He.ga K c) (He.ma K (He.ga K c) "__init__"))
    (hbind : ∀ (kV doc pm : Value) (an : Option Addr) (cdv ct : Value) (us : List Value), us.length = ps.length → bindArgs (PySem.W.fnOf "__init__" q (defArgs st) (defBody st) (defScope st) .none kV doc pm an cdv ct) ⟨us, []⟩ = pure (ps.zip us))
    (hkb : ∀ (kV doc pm : Value) (an : Option Addr) (cdv ct : Value) (us ws : List Value), us.length = 1 → ws.length = (ps.drop 1).length → bindArgs (PySem.W.fnOf "__init__" q (defArgs st) (defBody st) (defScope st) .none kV doc pm an cdv ct) ⟨us, (ps.drop 1).reverse.zip ws⟩ = pure (ps.zip (us ++ ws.reverse)))
    (hb : ∀ cd A outer s H E, Good k (bodyX P w K mg base N q (defScope st) (He.ma K (He.ga K c) "__init__") cd A outer s H E) → SB (bodyX P w K mg base N q (defScope st) (He.ma K (He.ga K c) "__init__") cd A outer s H E) (defBody st) b) : OkIk P w K mg base (k + 1) c ps n (runP N b) := by
  obtain ⟨fd, FD⟩ := F
  refine ⟨fd, FD.bindsN hbind, FunD.kwB 1 FD hkb, ?_, hM⟩
  obtain ⟨oc, od, dV, kV, doc, pm, an, cdv, ct, osl, rfl, lk, hcd, _, _⟩ := FD.ex
  exact fnG_of lk hcd S (fun vs H Q E h => h.1.trans hn.symm) fun A outer s H vs Q E g hsp => wb_fnP hN (hb cdv A outer s H E g) hsp
theorem okFk_of (F : FnS K x st) (S : FnScope N ps (defScope st)) (hn : ps.length = n) (hN : n ≤ N.length)
    (hbind : ∀ (kV doc pm : Value) (an : Option Addr) (cdv ct : Value) (us : List Value), us.length = ps.length → bindArgs (PySem.W.fnOf x x (defArgs st) (defBody st) (defScope st) .none kV doc pm an cdv ct) ⟨us, []⟩ = pure (ps.zip us))
    (hkb : ∀ (kV doc pm : Value) (an : Option Addr) (cdv ct : Value) (us ws : List Value), us.length = 0 → ws.length = (ps.drop 0).length → bindArgs (PySem.W.fnOf x x (defArgs st) (defBody st) (defScope st) .none kV doc pm an cdv ct) ⟨us, (ps.drop 0).reverse.zip ws⟩ = pure (ps.zip (us ++ ws.reverse)))
    (hb : ∀ cd A outer s H E, Good k (bodyX P w K mg base N x (defScope st) (He.ga K x) cd A outer s H E) → SB (bodyX P w K mg base N x (defScope st) (He.ga K x) cd A outer s H E) (defBody st) b) : OkFk P w K mg base (k + 1) x ps (spF K mg n (runF N b)) := by
  obtain ⟨fd, FD⟩ := F
  refine ⟨FD.kp, fd, FD.bindsN hbind, FunD.kwB 0 FD hkb, ?_⟩
  obtain ⟨oc, od, dV, kV, doc, pm, an, cdv, ct, osl, rfl, lk, hcd, _, _⟩ := FD.ex
  exact fnG_of lk hcd S (fun vs H Q E h => h.1.trans hn.symm) fun A outer s H vs Q E g hsp => wb_fn hN (hb cdv A outer s H E g) hsp
end
end SM

set_option Elab.async false
set_option linter.all false
set_option maxRecDepth 100000
set_option maxHeartbeats 4000000
/-! == of data: plain ones, tuples of anything, dicts, instances by their own __eq__ -/
namespace SM
open PySem PySem.SeqAt
open AutoSeq1 (wpAny_loadPart')
open MeetsSeq MeetsSeq2 MeetsSeq3 SeqRoads2
section
variable {prog : Program} {w : World} {A : Around} {R : Result → Shared → Prop}
theorem tuple_eqB (l b : Addr) (items items2 : Array Value) (n n2 : Nat) (dd dd2 : Option Addr) (sl sl2 : Array (Option Value)) (e : Nat → Bool) (I : Nat → Shared → Prop)
    (turn : ∀ i (h1 : i < items.size) (h2 : i < items2.size) s, I i s → (∀ j, j < i → e j = true) → wpAny (model prog w) A.in1 (eqBool items[i] items2[i]) (fun r s' => r = e i ∧ I (i + 1) s') (fun e s' => R (.error e) s') s)
    (fin : ∀ i s, I i s → R (.ok (.ret (.bool ((List.range (min items.size items2.size)).all e && items.size == items2.size)))) s) {s : Shared} (hl1 : s.heap.get? l = some { cls := .type "tuple", dict := dd, data := .seq items n, slots := sl }) (hb1 : s.heap.get? b = some { cls := .type "tuple", dict := dd2, data := .seq items2 n2, slots := sl2 }) (h : I 0 s) :
    wpAny (model prog w) A.in1 (Builtin.«tuple.__eq__» ⟨[.ref l, .ref b], []⟩) (GQ.FinOf prog w A R) (fun e s' => R (.error e) s') s := by
  have f2 := AutoSeq1.sub_tuple_tuple
  have hZ : (items.toList.zip items2.toList).length = min items.size items2.size := by simp
  have h0 := h
  obtain ⟨hp, g, d, tk, os⟩ := s
  wp_walk using wpAny_loadPart' hl1, wpAny_loadPart' hb1, wpAny_forIn_list _ (fun rest b s' => b.1 = none ∧ ∃ i, rest = (items.toList.zip items2.toList).drop i ∧ I i s' ∧ (∀ j, j < i → e j = true)) _
  case turn =>
    rintro ⟨y, x⟩ rest b s' ⟨hb', i, hz, hI, hT⟩
    have hlt : i < (items.toList.zip items2.toList).length := by
      rcases Nat.lt_or_ge i (items.toList.zip items2.toList).length with h' | h'
      · exact h'
      · rw [List.drop_of_length_le h'] at hz; cases hz
    have hm : i < min items.size items2.size := hZ ▸ hlt
    have h1 : i < items.size := Nat.lt_of_lt_of_le hm (Nat.min_le_left _ _)
    have h2 : i < items2.size := Nat.lt_of_lt_of_le hm (Nat.min_le_right _ _)
    rw [List.drop_eq_getElem_cons hlt] at hz
    injection hz with hyx hrest
    have hy : y = items[i] := by have := congrArg Prod.fst hyx; simpa using this
    have hx : x = items2[i] := by have := congrArg Prod.snd hyx; simpa using this
    subst hy hx
    refine wpAny_bind (wpAny_mono (turn i h1 h2 s' hI hT) (fun r s2 q2 => ?_) fun _ _ x => x)
    obtain ⟨hr, q2⟩ := q2
    subst hr
    cases he : e i with
    | true =>
      wp_walk
      exact ⟨rfl, i + 1, hrest, q2, fun j hj => by
        by_cases z : j = i
        · rw [z]; exact he
        · exact hT j (by omega)⟩
    | false =>
      have hf : ((List.range (min items.size items2.size)).all e && items.size == items2.size) = false := by
        have : (List.range (min items.size items2.size)).all e = false := by
          rw [Bool.eq_false_iff]
          intro z
          rw [List.all_eq_true] at z
          have := z i (List.mem_range.mpr hm)
          rw [he] at this; cases this
        rw [this]; rfl
      have hR := fin (i + 1) s2 q2
      rw [hf] at hR
      wp_walk
      exact hR
  case fin =>
    rintro ⟨b1, b2⟩ s' ⟨hb', i, hz, hI, hT⟩
    simp only at hb'
    subst hb'
    have hge : min items.size items2.size ≤ i := by
      rcases Nat.lt_or_ge i (items.toList.zip items2.toList).length with h' | h'
      · rw [List.drop_eq_getElem_cons h'] at hz; cases hz
      · exact hZ ▸ h'
    have hR := fin i s' hI
    have ht : (List.range (min items.size items2.size)).all e = true := by
      rw [List.all_eq_true]
      intro j hj
      exact hT j (by have := List.mem_range.mp hj; omega)
    rw [ht] at hR
    wp_walk
    simpa [Builtin.Tuple.tupleCompareSizes] using hR
  case h =>
    exact ⟨rfl, 0, rfl, h0, fun j hj => absurd hj (by omega)⟩
end
section
variable {prog : Program} {w : World} {A : Around} {E : Value → Shared → Prop} {s : Shared}
theorem rc_tupB {l b : Addr} {items items2 : Array Value} {Q : Value → Shared → Prop} (hu : A.units < cLine) (e : Nat → Bool) (I : Nat → Shared → Prop)
    (hl : s.heap.IsTuple l items) (hb : s.heap.IsTuple b items2)
    (turn : ∀ i (h1 : i < items.size) (h2 : i < items2.size) s, I i s → (∀ j, j < i → e j = true) → wpAny (model prog w) A.in1 (eqBool items[i] items2[i]) (fun r s' => r = e i ∧ I (i + 1) s') E s)
    (fin : ∀ i s, I i s → Q (.bool ((List.range (min items.size items2.size)).all e && items.size == items2.size)) s) (h : I 0 s) : wpAny (model prog w) A (richCompare .Eq (.ref l) (.ref b)) Q E s := by
  obtain ⟨⟨cls, dd, data, sl⟩, ho, hc, n, hd⟩ := id hl
  obtain ⟨⟨cls2, dd2, data2, sl2⟩, ho2, hc2, n2, hd2⟩ := id hb
  simp only at hc hd hc2 hd2
  subst hc hd hc2 hd2
  refine wpAny_richCompare_same_room (op := .Eq) ⟨_, ho, rfl⟩ ⟨_, ho2, rfl⟩ F.slot_tuple_eq (GQ.call_here F.slot_tuple_eq ⟨_, ho, rfl⟩ F.entry_tuple_eq (F.args_tuple_eq_2 _ _) ?_) hu
  exact tuple_eqB (R := wants (fun v s' => v ≠ .notImplemented ∧ Q v s') E) l b items items2 n n2 dd dd2 sl sl2 e I turn (fun i s' q => ⟨(fun x => nomatch x), fin i s' q⟩) ho ho2 h
end
end SM
namespace SM
variable [Tab]
open PySem PySem.Spec PyProof.Rows L2
mutual
/-- plain data, no dicts, nested below n -/
def layD : Nat → D → Bool
  | _, .non => true
  | _, .bl _ => true
  | _, .int _ => true
  | _, .str x => PyData.strOk x
  | n + 1, .tup ds => layDs n ds
  | n + 1, .lst ds => layDs n ds
  | _, _ => false
def layDs : Nat → List D → Bool
  | _, [] => true
  | n, d :: ds => layD n d && layDs n ds
end
mutual
theorem lay_ok : ∀ (d : D) (n : Nat), layD n d = true → (py d).canLay0 = true ∧ (py d).depth ≤ n
  | .non, n, _ => by simp [py, PyData.canLay0, PyData.depth]
  | .bl _, n, _ => by simp [py, PyData.canLay0, PyData.depth]
  | .int _, n, _ => by simp [py, PyData.canLay0, PyData.depth]
  | .str x, n, h => by
    have h : PyData.strOk x = true := by cases n <;> exact h
    simp [py, PyData.canLay0, PyData.depth, h]
  | .tup ds, 0, h => by simp [layD] at h
  | .lst ds, 0, h => by simp [layD] at h
  | .tup ds, n + 1, h => by
    obtain ⟨h1, h2⟩ := lays_ok ds n (by simpa only [layD] using h)
    simp only [py, PyData.canLay0, PyData.depth]
    exact ⟨h1, by omega⟩
  | .lst ds, n + 1, h => by
    obtain ⟨h1, h2⟩ := lays_ok ds n (by simpa only [layD] using h)
    simp only [py, PyData.canLay0, PyData.depth]
    exact ⟨h1, by omega⟩
  | .dK _ _, n, h => by cases n <;> simp [layD] at h
  | .dT _ _, n, h => by cases n <;> simp [layD] at h
  | .ins _ _ _, n, h => by cases n <;> simp [layD] at h
  | .pen, n, h => by cases n <;> simp [layD] at h
  | .glo _, n, h => by cases n <;> simp [layD] at h
  | .ty _, n, h => by cases n <;> simp [layD] at h
  | .lam _ _, n, h => by cases n <;> simp [layD] at h
  | .clo _ _, n, h => by cases n <;> simp [layD] at h
  | .xo _ _ _, n, h => by cases n <;> simp [layD] at h
theorem lays_ok : ∀ (ds : List D) (n : Nat), layDs n ds = true → PyData.canLayAll0 (pys ds) = true ∧ PyData.depthAll (pys ds) ≤ n
  | [], n, _ => by simp [pys, PyData.canLayAll0, PyData.depthAll]
  | d :: ds, n, h => by
    have h' : layD n d = true ∧ layDs n ds = true := by simpa only [layDs, Bool.and_eq_true] using h
    obtain ⟨a1, a2⟩ := lay_ok d n h'.1
    obtain ⟨b1, b2⟩ := lays_ok ds n h'.2
    simp only [pys, PyData.canLayAll0, PyData.depthAll, a1, b1, Bool.and_self, true_and]
    omega
end
section
variable {P : Program} {w : World} {Γ : Sig} {ok : Addr → Prop} {H : Hp} {h : Heap}
mutual
theorem reads_lay (hok : HOk P w H h) : ∀ (d : D) (n : Nat) (v : V) (u : Value), Rep Γ ok H v d → layD n d = true → RelV v u → ∃ as, Reads h u (py d) as
  | .non, _, _, _, r, _, q => by
    cases r; cases q
    exact ⟨[], by simp only [py]; exact .none⟩
  | .bl b, _, _, _, r, _, q => by
    cases r; cases q
    exact ⟨[], by simp only [py]; exact .bool b⟩
  | .int i, _, _, _, r, _, q => by
    cases r
    obtain ⟨t, rfl⟩ := q
    exact ⟨[], by simp only [py]; exact .int i t⟩
  | .str x, _, _, _, r, _, q => by
    cases r
    obtain ⟨t, rfl⟩ := q
    exact ⟨[], by simp only [py]; exact .str x t⟩
  | .tup ds, 0, _, _, _, s, _ => by simp [layD] at s
  | .lst ds, 0, _, _, _, s, _ => by simp [layD] at s
  | .tup ds, n + 1, _, _, r, s, q => by
    cases r with
    | @tup a vs _ h1 h2 =>
      cases q
      obtain ⟨_, its, rv, o, e, c, m, hd⟩ := (show ObjOk P w H h a (.tup vs) from hok a _ h1)
      obtain ⟨as, ra⟩ := reads_lays hok ds n vs its h2 (by simpa only [layD] using s) rv
      exact ⟨as, by simp only [py]; exact .tuple e c hd (by simpa using ra)⟩
  | .lst ds, n + 1, _, _, r, s, q => by
    cases r with
    | @lst a vs _ h0 h1 h2 =>
      cases q
      obtain ⟨_, its, m, rv, e⟩ := (show ObjOk P w H h a (.lst vs) from hok a _ h1)
      obtain ⟨as, ra⟩ := reads_lays hok ds n vs its h2 (by simpa only [layD] using s) rv
      exact ⟨a :: as, by simp only [py]; exact .list e rfl rfl (by simpa using ra)⟩
  | .dK _ _, n, _, _, _, h, _ => by cases n <;> simp [layD] at h
  | .dT _ _, n, _, _, _, h, _ => by cases n <;> simp [layD] at h
  | .ins _ _ _, n, _, _, _, h, _ => by cases n <;> simp [layD] at h
  | .pen, n, _, _, _, h, _ => by cases n <;> simp [layD] at h
  | .glo _, n, _, _, _, h, _ => by cases n <;> simp [layD] at h
  | .ty _, n, _, _, _, h, _ => by cases n <;> simp [layD] at h
  | .lam _ _, n, _, _, _, h, _ => by cases n <;> simp [layD] at h
  | .clo _ _, n, _, _, _, h, _ => by cases n <;> simp [layD] at h
  | .xo _ _ _, n, _, _, _, h, _ => by cases n <;> simp [layD] at h
theorem reads_lays (hok : HOk P w H h) : ∀ (ds : List D) (n : Nat) (vs : List V) (us : List Value), Reps Γ ok H vs ds → layDs n ds = true → Vals vs us → ∃ as, ReadsAll h us (pys ds) as
  | [], n, _, _, r, _, q => by
    cases r; cases q
    exact ⟨[], by simp only [pys]; exact .nil⟩
  | d :: ds, n, _, _, r, s, q => by
    have s' : layD n d = true ∧ layDs n ds = true := by simpa only [layDs, Bool.and_eq_true] using s
    cases r with
    | cons r1 r2 =>
      cases q with
      | cons q1 q2 =>
        obtain ⟨as, ha⟩ := reads_lay hok d n _ _ r1 s'.1 q1
        obtain ⟨bs, hb⟩ := reads_lays hok ds n _ _ r2 s'.2 q2
        exact ⟨as ++ bs, by simp only [pys]; exact .cons ha hb⟩
end
end
/-- what is only read, by any leave -/
theorem RepR.any {Γ : Sig} {ok : Addr → Prop} {H : Hp} {v : V} {d : D} (r : RepR Γ ok H v d) : Rep Γ (fun _ => True) H v d := by
  cases r with
  | of r => exact Rep.mono (Keeps.refl _ _) (fun _ _ _ => True.intro) _ _ r
  | own _ r => exact r.froze (fun _ _ _ => True.intro) True.intro
end SM

set_option Elab.async false
set_option linter.all false
set_option maxRecDepth 100000
set_option maxHeartbeats 4000000
namespace SM
variable [Tab]
open PySem PySem.Spec PyProof.Rows L2

/-! ## == by data -/
def eqP (x y : D) : Option Bool := if layD 60 x = true ∧ layD 60 y = true then some (PyData.eqv (py x) (py y)) else none
def eqs (f : D → D → Option Bool) : List D → List D → Option Bool
  | [], [] => some true
  | [], _ :: _ => some false
  | _ :: _, [] => some false
  | x :: xs, y :: ys => match f x y with
    | some true => eqs f xs ys
    | r => r
def eqKs (ks' : List Key) (ds' : List D) : List Key → List D → Option Bool
  | [], [] => some true
  | k :: ks, d :: ds => match lkp ks' ds' k with
    | none => some false
    | some e => match eqP d e, eqKs ks' ds' ks ds with
      | some a, some b => some (a && b)
      | _, _ => none
  | _, _ => none
/-- one field, or all of them as a tuple -/
def eqFs (f : D → D → Option Bool) (ds ds' : List D) : Option Bool := match ds, ds' with
  | [d], [d'] => f d d'
  | _, _ => f (.tup ds) (.tup ds')
/-- an instance of one of the classes l, with all its fields -/
abbrev IsC (l : List (Str × List Str)) (c : Str) (ns : List Str) (ds : List D) : Prop := (c, ns) ∈ l ∧ ds.length = ns.length
theorem IsC.mem {l : List (Str × List Str)} {c : Str} {ns : List Str} {ds : List D} (h : IsC l c ns ds) : c ∈ l.map (·.1) := List.mem_map.mpr ⟨_, h.1, rfl⟩
def eqN (l : List (Str × List Str)) : Nat → D → D → Option Bool
  | 0, _, _ => none
  | n + 1, x, y => if layD 60 x = true ∧ layD 60 y = true then some (PyData.eqv (py x) (py y)) else match x, y with
    | .tup xs, .tup ys => eqs (eqN l n) xs ys
    | .dK ks ds, .dK ks' ds' => if ks.length = ks'.length then eqKs ks' ds' ks ds else some false
    | .ins c ns ds, .ins c' ns' ds' => if IsC l c ns ds ∧ IsC l c' ns' ds' then (if c = c' then (if ns = ns' then eqFs (eqN l n) ds ds' else none) else some false) else none
    | .ins c ns ds, y => if IsC l c ns ds then (match kdOf y with
      | some (.ty _) => some false
      | _ => none) else none
    | _, _ => none
structure SubG (X : Cx) (n : Nat) (A : Around) : Prop where
  room : Room n A
  fr : A.frames = X.A.frames
  gd : A.guards = some []
theorem SubG.in1 {X : Cx} {n : Nat} {A : Around} (s : SubG X (n + 1) A) : SubG X n A.in1 := ⟨s.room.in1, s.fr, s.gd⟩
theorem SubG.mono {X : Cx} {n m : Nat} {A : Around} (s : SubG X n A) (h : m ≤ n) : SubG X m A := ⟨s.room.mono h, s.fr, s.gd⟩
/-- what is at hand while values are compared -/
structure Hand (X : Cx) (p : Option Addr) (ok : Addr → Prop) (H : Hp) : Prop where
  ok : ∀ a, ok a → p ≠ some a
  pen : ∀ a, p = some a → H a ≠ none
  tb : ∀ P, Tab.own P → LamX.TabS H P (Tab.nm P)
theorem Hand.ext {X : Cx} {p : Option Addr} {ok : Addr → Prop} {H H' : Hp} (h : Hand X p ok H) (e : Ext none H H') : Hand X p ok H' := ⟨h.ok, fun a z => e.n a (h.pen a z), fun P z => e.tb P (h.tb P z)⟩
/-- what follows a comparison -/
abbrev After (X : Cx) (pins : List (Addr × Obj)) (σ : L2.St) (H : Hp) (s' : Shared) : Prop := ∃ H', Inv X pins σ H' s' ∧ Ext none H H' ∧ ∀ a, H' a = none → H a = none
theorem After.here {X : Cx} {pins : List (Addr × Obj)} {σ : L2.St} {H : Hp} {s : Shared} (I : Inv X pins σ H s) : After X pins σ H s := ⟨H, I, Ext.refl _ _, fun _ h => h⟩
def RC (X : Cx) (k : Nat) (x y : D) (b : Bool) : Prop := ∀ (p : Option Addr) (ok : Addr → Prop) (A : Around) (pins : List (Addr × Obj)) (s : Shared) (σ : L2.St) (H : Hp) (v w : V) (u t : Value), SubG X k A → Inv X pins σ H s → Hand X p ok H → Rep (sg X p) ok H v x → Rep (sg X p) ok H w y → RelV v u → RelV w t →
  wpAny (model X.prog X.w) A (richCompare .Eq u t) (fun r s' => r = .bool b ∧ After X pins σ H s') X.xe s
def EqBl (X : Cx) (k : Nat) (x y : D) (b : Bool) : Prop := ∀ (p : Option Addr) (ok : Addr → Prop) (A : Around) (pins : List (Addr × Obj)) (s : Shared) (σ : L2.St) (H : Hp) (v w : V) (u t : Value), SubG X k A → Inv X pins σ H s → Hand X p ok H → Rep (sg X p) ok H v x → Rep (sg X p) ok H w y → RelV v u → RelV w t →
  wpAny (model X.prog X.w) A (eqBool u t) (fun r s' => r = b ∧ After X pins σ H s') X.xe s
/-- what the written part says of the classes l -/
structure ClsEq (X : Cx) (l : List (Str × List Str)) : Prop where
  ty : ∀ c C n, c ∈ l.map (·.1) → X.mg c = some (.ref C) → n ∈ ["NoneType", "bool", "int", "str", "tuple", "list", "dict"] → PySem.W.notFirst X.K C (.type n) = true
  own : ∀ c c' C C', c ∈ l.map (·.1) → c' ∈ l.map (·.1) → X.mg c = some (.ref C) → X.mg c' = some (.ref C') → PySem.W.notFirst X.K C (.ref C') = true
  inj : ∀ c c' C, c ∈ l.map (·.1) → c' ∈ l.map (·.1) → X.mg c = some (.ref C) → X.mg c' = some (.ref C) → c = c'
def FqT (l : List (Str × List Str)) (c : Str) (n : Nat) : List D → Res D
  | [.ins c' ns ds, y] => if c' = c then (match eqN l n (.ins c' ns ds) y with
    | some b => .ok (.bl b)
    | none => .stuck) else .stuck
  | _ => .stuck
/-- each __eq__ does what eqN says -/
def HE (X : Cx) (l : List (Str × List Str)) (n : Nat) : Prop := ∀ c ∈ l.map (·.1), ∀ C, X.mg c = some (.ref C) → ∃ f fd ps, PySem.W.findIn X.K (.ref C) "__eq__" = some (some (.ref f)) ∧ PySem.W.isFn X.K (.ref f) = true ∧ L2.Binds X.K fd ps [] ∧ FnG X.prog X.w X.K X.mg X.base (4 * n + 2) f fd ps (spF X.K X.mg 2 (FqT l c n))

section
variable {X : Cx} {l : List (Str × List Str)} {n k : Nat}
theorem unit60 {A : Around} {k : Nat} (r : Room k A) {a b : Nat} (h : a ≤ 60) : A.units + min a b < cLine := by
  have := r.un
  have h2 : min a b ≤ a := Nat.min_le_left _ _
  omega
theorem rc_plain {x y : D} (hx : layD 60 x = true) (hy : layD 60 y = true) : RC X k x y (PyData.eqv (py x) (py y)) := fun p ok A pins s σ H v w u t sb I hd rx ry ru rt => by
  obtain ⟨as, r1⟩ := reads_lay I.hok x 60 v u rx hx ru
  obtain ⟨bs, r2⟩ := reads_lay I.hok y 60 w t ry hy rt
  exact SeqAt.rcAt_reads r1 r2 (lay_ok x 60 hx).1 (lay_ok y 60 hy).1 (unit60 sb.room (lay_ok x 60 hx).2) X.prog X.w X.xe _ ⟨rfl, After.here I⟩
theorem eb_plain {x y : D} (hx : layD 60 x = true) (hy : layD 60 y = true) : EqBl X k x y (PyData.eqv (py x) (py y)) := fun p ok A pins s σ H v w u t sb I hd rx ry ru rt => by
  obtain ⟨as, r1⟩ := reads_lay I.hok x 60 v u rx hx ru
  obtain ⟨bs, r2⟩ := reads_lay I.hok y 60 w t ry hy rt
  exact SeqAt.eqAt_reads _ _ A s u t as bs r1 r2 (lay_ok x 60 hx).1 (lay_ok y 60 hy).1 (unit60 sb.room (lay_ok x 60 hx).2) X.prog X.w X.xe _ ⟨rfl, After.here I⟩

/-! ### the same object is equal to itself -/
section
variable {Γ : Sig} {ok : Addr → Prop} {H : Hp}
mutual
theorem lay_fun : ∀ (x : D) (n m : Nat) (y : D) (v : V), layD n x = true → layD m y = true → Rep Γ ok H v x → Rep Γ ok H v y → x = y
  | .non, n, m, y, _, _, hy, r, q => by cases r; cases q; rfl
  | .bl _, n, m, y, _, _, hy, r, q => by cases r; cases q; rfl
  | .int _, n, m, y, _, _, hy, r, q => by cases r; cases q; rfl
  | .str _, n, m, y, _, _, hy, r, q => by cases r; cases q; rfl
  | .tup ds, 0, m, y, _, hx, _, _, _ => by simp [layD] at hx
  | .lst ds, 0, m, y, _, hx, _, _, _ => by simp [layD] at hx
  | .tup ds, n + 1, m, y, _, hx, hy, r, q => by
    cases r with
    | @tup a vs _ h1 h2 =>
      cases q with
      | @tup _ ws es g1 g2 =>
        rw [h1] at g1
        cases g1
        cases m with
        | zero => simp [layD] at hy
        | succ m => rw [lays_fun ds n m es vs (by simpa only [layD] using hx) (by simpa only [layD] using hy) h2 g2]
      | lst _ g _ => rw [h1] at g; cases g
      | dK _ _ _ => cases m <;> simp [layD] at hy
      | dT _ _ _ => cases m <;> simp [layD] at hy
      | ins _ _ _ _ => cases m <;> simp [layD] at hy
      | pen _ => cases m <;> simp [layD] at hy
      | glo _ => cases m <;> simp [layD] at hy
      | lam _ _ _ _ => cases m <;> simp [layD] at hy
      | clo _ _ _ _ _ _ _ => cases m <;> simp [layD] at hy
      | xo _ _ _ _ => cases m <;> simp [layD] at hy
      | xo0 _ _ => cases m <;> simp [layD] at hy
  | .lst ds, n + 1, m, y, _, hx, hy, r, q => by
    cases r with
    | @lst a vs _ h0 h1 h2 =>
      cases q with
      | @lst _ ws es _ g1 g2 =>
        have e : vs = ws := by
          rw [h1] at g1; cases g1; rfl
        subst e
        cases m with
        | zero => simp [layD] at hy
        | succ m => rw [lays_fun ds n m es vs (by simpa only [layD] using hx) (by simpa only [layD] using hy) h2 g2]
      | tup g _ => rw [h1] at g; cases g
      | dK _ _ _ => cases m <;> simp [layD] at hy
      | dT _ _ _ => cases m <;> simp [layD] at hy
      | ins _ _ _ _ => cases m <;> simp [layD] at hy
      | pen _ => cases m <;> simp [layD] at hy
      | glo _ => cases m <;> simp [layD] at hy
      | lam _ _ _ _ => cases m <;> simp [layD] at hy
      | clo _ _ _ _ _ _ _ => cases m <;> simp [layD] at hy
      | xo _ _ _ _ => cases m <;> simp [layD] at hy
      | xo0 _ _ => cases m <;> simp [layD] at hy
  | .dK _ _, n, _, _, _, h, _, _, _ => by cases n <;> simp [layD] at h
  | .dT _ _, n, _, _, _, h, _, _, _ => by cases n <;> simp [layD] at h
  | .ins _ _ _, n, _, _, _, h, _, _, _ => by cases n <;> simp [layD] at h
  | .pen, n, _, _, _, h, _, _, _ => by cases n <;> simp [layD] at h
  | .glo _, n, _, _, _, h, _, _, _ => by cases n <;> simp [layD] at h
  | .ty _, n, _, _, _, h, _, _, _ => by cases n <;> simp [layD] at h
  | .lam _ _, n, _, _, _, h, _, _, _ => by cases n <;> simp [layD] at h
  | .clo _ _, n, _, _, _, h, _, _, _ => by cases n <;> simp [layD] at h
  | .xo _ _ _, n, _, _, _, h, _, _, _ => by cases n <;> simp [layD] at h
theorem lays_fun : ∀ (xs : List D) (n m : Nat) (ys : List D) (vs : List V), layDs n xs = true → layDs m ys = true → Reps Γ ok H vs xs → Reps Γ ok H vs ys → xs = ys
  | [], n, m, ys, _, _, _, r, q => by cases r; cases q; rfl
  | x :: xs, n, m, ys, _, hx, hy, r, q => by
    cases r with
    | cons r1 r2 =>
      cases q with
      | @cons _ _ y ys q1 q2 =>
        have hx' : layD n x = true ∧ layDs n xs = true := by simpa only [layDs, Bool.and_eq_true] using hx
        have hy' : layD m y = true ∧ layDs m ys = true := by simpa only [layDs, Bool.and_eq_true] using hy
        rw [lay_fun x n m y _ hx'.1 hy'.1 r1 q1, lays_fun xs n m ys _ hx'.2 hy'.2 r2 q2]
end
theorem eqP_self {x y : D} {b : Bool} {v : V} (rx : Rep Γ ok H v x) (ry : Rep Γ ok H v y) (h : eqP x y = some b) : b = true := by
  unfold eqP at h
  by_cases hl : layD 60 x = true ∧ layD 60 y = true
  · rw [if_pos hl] at h
    cases h
    rw [lay_fun x 60 60 y v hl.1 hl.2 rx ry]
    exact SeqAt.eqv_refl _ (lay_ok y 60 hl.2).1
  · rw [if_neg hl] at h; cases h
end
theorem eqs_self {Γ : Sig} {ok : Addr → Prop} {H : Hp} {f : D → D → Option Bool} (hf : ∀ x y v b, Rep Γ ok H v x → Rep Γ ok H v y → f x y = some b → b = true) : ∀ {xs ys : List D} {vs : List V} {b : Bool}, Reps Γ ok H vs xs → Reps Γ ok H vs ys → eqs f xs ys = some b → b = true
  | [], ys, vs, b, r, q, h => by cases r; cases q; cases h; rfl
  | x :: xs, ys, vs, b, r, q, h => by
    cases r with
    | cons r1 r2 =>
      cases q with
      | @cons _ _ y ys q1 q2 =>
        unfold eqs at h
        cases e : f x y with
        | none => rw [e] at h; cases h
        | some c =>
          rw [e] at h
          have hc := hf x y _ c r1 q1 e
          subst hc
          exact eqs_self hf r2 q2 h
theorem eqKs_self {Γ : Sig} {ok : Addr → Prop} {H : Hp} (kvs : List (Key × V)) (ds0 : List D) (r0 : Reps Γ ok H (kvs.map (·.2)) ds0) : ∀ (r : List (Key × V)) (ds : List D) (b : Bool), (∀ q ∈ r, valV kvs q.1 = some q.2) → Reps Γ ok H (r.map (·.2)) ds → eqKs (kvs.map (·.1)) ds0 (r.map (·.1)) ds = some b → b = true
  | [], ds, b, _, q, h => by cases q; cases h; rfl
  | (k, v) :: r, ds, b, hm, q, h => by
    cases q with
    | @cons _ _ d ds q1 q2 =>
      have hv := hm (k, v) (by simp)
      simp only [List.map_cons, eqKs] at h
      cases e : lkp (kvs.map (·.1)) ds0 k with
      | none =>
        have := (lkp_v (q := k) r0).2 e
        rw [hv] at this; cases this
      | some d' =>
        obtain ⟨w, hw, rw'⟩ := (lkp_v (q := k) r0).1 d' e
        rw [hv] at hw
        cases hw
        rw [e] at h
        dsimp only at h
        cases e1 : eqP d d' with
        | none => rw [e1] at h; cases h
        | some a =>
          cases e2 : eqKs (kvs.map (·.1)) ds0 (r.map (·.1)) ds with
          | none => rw [e1, e2] at h; cases h
          | some c =>
            rw [e1, e2] at h
            cases h
            rw [eqP_self q1 rw' e1, eqKs_self kvs ds0 r0 r ds c (fun q hq => hm q (List.mem_cons_of_mem _ hq)) q2 e2]
            rfl
end
end SM

set_option Elab.async false
set_option linter.all false
set_option maxRecDepth 100000
set_option maxHeartbeats 4000000
namespace SM
variable [Tab]
open PySem PySem.Spec PyProof.Rows L2
theorem val_own {κ : Type} [DecidableEq κ] {q : κ × V} : ∀ (r : List (κ × V)), (r.map (·.1)).Nodup → q ∈ r → valV r q.1 = some q.2
  | [], _, h => nomatch h
  | p :: r, nd, h => by
    have nd' : p.1 ∉ r.map (·.1) ∧ (r.map (·.1)).Nodup := by simpa using nd
    rcases List.mem_cons.mp h with rfl | h
    · exact valV_pos rfl
    · rw [valV_neg fun z => nd'.1 (by rw [z]; exact List.mem_map.mpr ⟨q, h, rfl⟩)]
      exact val_own r nd'.2 h
/-- of one dict the values stand at their keys -/
theorem keys_own {P : Program} {w : World} {H : Hp} {h : Heap} {a : Addr} {kvs : List (Key × V)} (x : ObjOk P w H h a (.dK kvs)) : ∀ q ∈ kvs, valV kvs q.1 = some q.2 := by
  obtain ⟨_, _, vs, kv, D⟩ := x
  have nd : (kvs.map (·.1)).Nodup := by
    rw [← (kv_split kv).1]
    obtain ⟨o, es, ep, _, _, _, _, _, n1⟩ := D
    exact n1
  exact fun q hq => val_own kvs nd hq
section
variable {X : Cx} {l : List (Str × List Str)} {n k : Nat}
theorem eqN_self (hC : ClsEq X l) {p : Option Addr} {ok : Addr → Prop} {H : Hp} (hd : ∀ a kvs, Rd H a (.dK kvs) → ∀ q ∈ kvs, valV kvs q.1 = some q.2) : ∀ (n : Nat),
    (∀ x y v b, Rep (sg X p) ok H v x → Rep (sg X p) ok H v y → eqN l n x y = some b → b = true) ∧ (∀ xs ys vs b, Reps (sg X p) ok H vs xs → Reps (sg X p) ok H vs ys → eqN l n (.tup xs) (.tup ys) = some b → b = true)
  | 0 => ⟨fun x y v b _ _ h => by simp [eqN] at h, fun xs ys vs b _ _ h => by simp [eqN] at h⟩
  | n + 1 => by
    obtain ⟨i1, i2⟩ := eqN_self hC hd n
    have tt : ∀ xs ys vs b, Reps (sg X p) ok H vs xs → Reps (sg X p) ok H vs ys → eqN l (n + 1) (.tup xs) (.tup ys) = some b → b = true := fun xs ys vs b r q h => by
      unfold eqN at h
      by_cases hl : layD 60 (.tup xs) = true ∧ layD 60 (.tup ys) = true
      · rw [if_pos hl] at h
        cases h
        rw [show xs = ys from lays_fun xs 59 59 ys vs (by simpa only [layD] using hl.1) (by simpa only [layD] using hl.2) r q]
        exact SeqAt.eqv_refl _ (lay_ok _ 60 hl.2).1
      · rw [if_neg hl] at h
        exact eqs_self (i1 · · ·) r q h
    refine ⟨fun x y v b r q h => ?_, tt⟩
    by_cases hl : layD 60 x = true ∧ layD 60 y = true
    · unfold eqN at h
      rw [if_pos hl] at h
      cases h
      rw [lay_fun x 60 60 y v hl.1 hl.2 r q]
      exact SeqAt.eqv_refl _ (lay_ok _ 60 hl.2).1
    have h0 := h
    unfold eqN at h
    rw [if_neg hl] at h
    split at h
    · -- tuples
      rename_i xs ys
      cases r with
      | @tup a vs _ h1 h2 =>
        cases q with
        | @tup _ ws _ g1 g2 =>
          rw [h1] at g1
          cases g1
          exact tt xs ys vs b h2 g2 h0
    · rename_i ks ds ks' ds'
      cases r with
      | @dK a kvs ds a1 h1 h2 =>
        cases q with
        | @dK _ kvs' ds' _ g1 g2 =>
          have e : kvs = kvs' := by
            rcases h1 with h1 | ⟨_, h1⟩ <;> rcases g1 with g1 | ⟨_, g1⟩ <;> rw [h1] at g1 <;> cases g1 <;> rfl
          subst e
          rw [if_pos rfl] at h
          exact eqKs_self kvs ds' g2 kvs ds b (hd a kvs h1) h2 h
    · rename_i c ns ds c' ns' ds'
      cases r with
      | @ins a _ C dx fs ds a1 h1 h2 h3 =>
        cases q with
        | @ins _ _ C' dx' fs' ds' _ g1 g2 g3 =>
          rw [h2] at g2
          cases g2
          by_cases hc : IsC l c (fs.map (·.1)) ds ∧ IsC l c' (fs.map (·.1)) ds'
          · rw [if_pos hc] at h
            have ec : c = c' := hC.inj c c' C hc.1.mem hc.2.mem h1 g1
            rw [if_pos ec, if_pos rfl] at h
            unfold eqFs at h
            split at h
            · rename_i d d'
              cases hf : fs with
              | nil => rw [hf] at h3; cases h3
              | cons f0 fr =>
                rw [hf] at h3 g3
                cases h3 with
                | cons u1 u2 =>
                  cases g3 with
                  | cons t1 t2 => exact i1 _ _ _ b u1 t1 h
            · exact i2 _ _ _ b h3 g3 h
          · rw [if_neg hc] at h; cases h
    · rename_i c ns ds hno
      cases r with
      | @ins a _ C dx fs ds a1 h1 h2 h3 =>
        by_cases hc : IsC l c (fs.map (·.1)) ds
        · rw [if_pos hc] at h
          cases q with
          | tup g _ => rw [h2] at g; cases g
          | lst _ g _ => rw [h2] at g; cases g
          | dK _ g _ => rcases g with g | ⟨_, g⟩ <;> rw [h2] at g <;> cases g
          | dT _ _ _ => cases h
          | ins _ _ _ _ => cases h
          | pen _ => cases h
          | glo _ => cases h
          | lam _ _ _ _ => cases h
          | clo _ _ _ _ _ _ _ => cases h
          | xo _ _ _ _ => cases h
          | xo0 _ _ => cases h
        · rw [if_neg hc] at h; cases h
    · cases h
theorem rel_ref {w : V} {a : Addr} (h : RelV w (.ref a)) : w = .ref a := by
  cases w with
  | non => cases h
  | bl _ => cases h
  | int _ => obtain ⟨_, h⟩ := (show ∃ t, Value.ref a = Value.int _ t from h); cases h
  | str _ => obtain ⟨_, h⟩ := (show ∃ t, Value.ref a = Value.str _ t from h); cases h
  | byt _ => obtain ⟨_, h⟩ := (show ∃ t, Value.ref a = Value.bytes _ t from h); cases h
  | flt _ => obtain ⟨_, h⟩ := (show ∃ t, Value.ref a = Value.float _ t from h); cases h
  | ref b => cases (show Value.ref a = Value.ref b from h); rfl
  | ty _ => cases h
theorem eqBool_refO {prog : Program} {w : World} {A : Around} {E : Value → Shared → Prop} {s : Shared} {l : Addr} {t : Value} {Q : Bool → Shared → Prop} (hne : t ≠ .ref l) (h : wpAny (model prog w) A (richCompare .Eq (.ref l) t) (fun v s' => ∃ r, v = .bool r ∧ Q r s') E s) : wpAny (model prog w) A (eqBool (.ref l) t) Q E s := by
  unfold eqBool
  refine wpAny_holding ?_
  refine wpAny_ite_split (fun hab => absurd (eq_of_beq hab).symm hne) (fun _ => ?_)
  refine wpAny_bind (wpAny_mono h (fun v s' hv => ?_) fun _ _ x => x)
  obtain ⟨r, rfl, q⟩ := hv
  exact wpAny_truthy_bool q
/-- from a rich comparison to == within -/
theorem RC.bl {x y : D} {b : Bool} (h : RC X k x y b) (hs : ∀ p ok H, (∀ a kvs, Rd H a (.dK kvs) → ∀ q ∈ kvs, valV kvs q.1 = some q.2) → ∀ v, Rep (sg X p) ok H v x → Rep (sg X p) ok H v y → b = true) (hr : ∀ p ok H v, Rep (sg X p) ok H v x → ∃ a, v = .ref a) : EqBl X k x y b := by
  intro p ok A pins s σ H v w u t sb I hd rx ry ru rt
  obtain ⟨a, rfl⟩ := hr p ok H v rx
  cases ru
  by_cases hac : t = .ref a
  · subst hac
    have := rel_ref rt
    subst this
    rw [hs p ok H (fun a kvs z => keys_own (z.ok I.hok)) (.ref a) rx ry]
    exact SeqAt.EqAt.same (A := A) (s := s) (.ref a) X.prog X.w X.xe _ ⟨rfl, After.here I⟩
  · refine eqBool_refO hac (wpAny_mono (h p ok A pins s σ H _ _ _ _ sb I hd rx ry rfl rt) (fun r s' q => ?_) fun _ _ x => x)
    obtain ⟨hr', q⟩ := q
    exact ⟨b, hr', rfl, q⟩
/-- what is known of the state at a call -/
theorem SubG.env0 {A : Around} {pins : List (Addr × Obj)} {σ : L2.St} {H : Hp} {s : Shared} (sb : SubG X k A) (I : Inv X pins σ H s) : Env0 X.prog X.w X.K X.mg X.base A X.stack s H := by
  have e := I.env0
  exact ⟨by rw [sb.fr]; exact e.frames, e.mod, e.bs, e.bsz, e.funs, e.frf, e.hok, e.bare⟩
theorem kd_look {p : Option Addr} {ok : Addr → Prop} {pins : List (Addr × Obj)} {σ : L2.St} {H : Hp} {s : Shared} {w : V} {t : Value} {y : D} {n : String} (I : Inv X pins σ H s) (r : Rep (sg X p) ok H w y) (rt : RelV w t) (h : kdOf y = some (.ty n)) (M : Model) : PySem.W.Looks M s.heap (typeOf t) (.type n) := by
  obtain ⟨ty, e1, e2⟩ := tyX_kd (X := X) (fun c C _ z => by cases z) (.of r) h
  cases e1
  obtain ⟨Pz, kz, hz, _⟩ := kit_of I rt e2
  exact kz.ty M s.heap I.kIn hz
theorem kd_basic {y : D} {n : String} (h : kdOf y = some (.ty n)) : n ∈ ["NoneType", "bool", "int", "str", "tuple", "list", "dict"] := by
  cases y <;> cases h <;> decide
/-- the call of an __eq__ -/
theorem run_eq {A : Around} {pins : List (Addr × Obj)} {σ : L2.St} {H : Hp} {s : Shared} {p : Option Addr} {ok : Addr → Prop} {v w : V} {u t : Value} {x y : D} {b : Bool} {f : Addr} {fd : FuncData} {ps : List Str} {F : List D → Res D} (G : FnG X.prog X.w X.K X.mg X.base k f fd ps (spF X.K X.mg 2 F)) (hb : L2.Binds X.K fd ps []) (sb : SubG X k A) (I : Inv X pins σ H s) (hd : Hand X p ok H)
    (rx : Rep (sg X p) ok H v x) (ry : Rep (sg X p) ok H w y) (ru : RelV v u) (rt : RelV w t) (hF : F [x, y] = .ok (.bl b)) : wpAny (model X.prog X.w) A (call (.ref f) [u, t]) (fun r s' => r = .bool b ∧ After X pins σ H s') X.xe s := by
  have wk : ∀ a, ok a → H a ≠ none → okP p (fun a => ok a ∨ H a = none) a := fun a h _ => ⟨.inl h, hd.ok a h⟩
  have hsp : spF X.K X.mg 2 F [v, w] H (fun v H' => v = .bl b ∧ Ext none H H' ∧ ∀ a, H' a = none → H a = none) (fun _ _ _ => False) := by
    refine ⟨rfl, p, none, fun a => ok a ∨ H a = none, [x, y], none, .inr rfl, .inl rfl, fun a h => .inr h, hd.pen, hd.tb, .cons (Rep.mono (Keeps.refl _ _) wk _ _ rx) (.cons (Rep.mono (Keeps.refl _ _) wk _ _ ry) .nil), True.intro, ?_⟩
    show match noPen F [x, y] none with | .ok (d, pn') => _ | .exn c ns ds => _ | .stuck => _
    unfold noPen
    rw [hF]
    exact fun v H' e fr _ _ rv => ⟨rv.bl_v, e, fr⟩
  have bb := hb s [u, t] I.kIn (by rw [List.append_nil]; exact G.len _ _ _ _ hsp)
  rw [List.append_nil] at bb
  refine wpAny_call (codeAny_mono (G.run A X.stack s H ⟨[u, t], []⟩ [u, t] [v, w] _ _ sb.room sb.gd (sb.env0 I) bb (.cons ru (.cons rt .nil)) hsp) fun r s' hq => ?_)
  match r, hq with
  | .error e, hq =>
    obtain ⟨_, _, _, _, _, _, _, _, _, _, _, _, z⟩ := hq
    exact z.elim
  | .ok (.ret u), hq =>
    obtain ⟨z, H', I', rz, ez, ex, fr⟩ := I.after hq
    subst ez
    cases rz
    exact ⟨rfl, H', I', ex, fr⟩
  | .ok .next, hq => exact hq.elim
  | .ok .brk, hq => exact hq.elim
  | .ok .cont, hq => exact hq.elim
end
end SM

set_option Elab.async false
set_option linter.all false
set_option maxRecDepth 100000
set_option maxHeartbeats 4000000
namespace SM
variable [Tab]
open PySem PySem.Spec PyProof.Rows L2
section
variable {X : Cx} {l : List (Str × List Str)} {n k : Nat}
/-- what eqN tells, step by step -/
theorem eqN_cases {x y : D} {b : Bool} (hl : ¬(layD 60 x = true ∧ layD 60 y = true)) (h : eqN l (n + 1) x y = some b) :
    (∃ xs ys, x = .tup xs ∧ y = .tup ys ∧ eqs (eqN l n) xs ys = some b) ∨
    (∃ ks ds ks' ds', x = .dK ks ds ∧ y = .dK ks' ds' ∧ (if ks.length = ks'.length then eqKs ks' ds' ks ds else some false) = some b) ∨
    (∃ c ns ds, x = .ins c ns ds ∧ c ∈ l.map (·.1) ∧ ((∃ c' ns' ds', y = .ins c' ns' ds' ∧ c' ∈ l.map (·.1)) ∨ (∃ t, kdOf y = some (.ty t)))) := by
  unfold eqN at h
  rw [if_neg hl] at h
  split at h
  · exact .inl ⟨_, _, rfl, rfl, h⟩
  · exact .inr (.inl ⟨_, _, _, _, rfl, rfl, h⟩)
  · rename_i c ns ds c' ns' ds'
    by_cases hc : IsC l c ns ds ∧ IsC l c' ns' ds'
    · exact .inr (.inr ⟨c, ns, ds, rfl, hc.1.mem, .inl ⟨c', ns', ds', rfl, hc.2.mem⟩⟩)
    · rw [if_neg hc] at h; cases h
  · rename_i c ns ds hno
    by_cases hc : IsC l c ns ds
    · rw [if_pos hc] at h
      split at h
      · rename_i t ht
        exact .inr (.inr ⟨c, ns, ds, rfl, hc.mem, .inr ⟨t, ht⟩⟩)
      · cases h
    · rw [if_neg hc] at h; cases h
  · cases h
/-- item by item -/
def pairB (f : D → D → Option Bool) (xs ys : List D) (i : Nat) : Bool := match xs[i]?, ys[i]? with
  | some x, some y => f x y == some true
  | _, _ => true
theorem eqs_items {f : D → D → Option Bool} : ∀ {xs ys : List D} {b : Bool}, eqs f xs ys = some b → b = ((List.range (min xs.length ys.length)).all (pairB f xs ys) && xs.length == ys.length) ∧
    ∀ i x y, xs[i]? = some x → ys[i]? = some y → (∀ j, j < i → pairB f xs ys j = true) → f x y = some (pairB f xs ys i)
  | [], [], b, h => by cases h; exact ⟨rfl, fun i x y h => by simp at h⟩
  | [], _ :: _, b, h => by cases h; exact ⟨rfl, fun i x y h => by simp at h⟩
  | _ :: _, [], b, h => by cases h; exact ⟨by simp, fun i x y _ h => by simp at h⟩
  | x :: xs, y :: ys, b, h => by
    unfold eqs at h
    have hmin : min (x :: xs).length (y :: ys).length = min xs.length ys.length + 1 := by simp
    have shift : ∀ i, pairB f (x :: xs) (y :: ys) (i + 1) = pairB f xs ys i := fun i => by simp [pairB]
    have all_ : (List.range (min xs.length ys.length + 1)).all (pairB f (x :: xs) (y :: ys)) = (pairB f (x :: xs) (y :: ys) 0 && (List.range (min xs.length ys.length)).all (pairB f xs ys)) := by
      rw [List.range_succ_eq_map, List.all_cons, List.all_map]
      congr 1
    cases e : f x y with
    | none => rw [e] at h; cases h
    | some c =>
      rw [e] at h
      have p0 : pairB f (x :: xs) (y :: ys) 0 = c := by simp [pairB, e]
      cases c with
      | false =>
        cases h
        refine ⟨by rw [hmin, all_, p0]; simp, fun i u v h1 h2 hj => ?_⟩
        cases i with
        | zero => simp at h1 h2; subst h1 h2; rw [p0]; exact e
        | succ i => have := hj 0 (by omega); rw [p0] at this; cases this
      | true =>
        obtain ⟨i1, i2⟩ := eqs_items h
        refine ⟨by rw [hmin, all_, p0, i1]; simp, fun i u v h1 h2 hj => ?_⟩
        cases i with
        | zero => simp at h1 h2; subst h1 h2; rw [p0]; exact e
        | succ i =>
          rw [shift]
          exact i2 i u v (by simpa using h1) (by simpa using h2) fun j hj' => by rw [← shift]; exact hj (j + 1) (by omega)
theorem rc_tup {f : D → D → Option Bool} (ih : ∀ x y b, f x y = some b → EqBl X k x y b) {xs ys : List D} {b : Bool} (h : eqs f xs ys = some b) : RC X (k + 1) (.tup xs) (.tup ys) b := by
  intro p ok A pins s σ H v w u t sb I hd rx ry ru rt
  cases rx with
  | @tup a vs _ h1 h2 =>
    cases ry with
    | @tup c ws _ g1 g2 =>
      cases ru
      cases rt
      obtain ⟨its, r, e, z⟩ := I.tuple (SqT.of h1)
      obtain ⟨its2, r2, e2, z2⟩ := I.tuple (SqT.of g1)
      obtain ⟨hb, hi⟩ := eqs_items h
      have n1 : its.length = xs.length := r.length.symm.trans h2.length
      have n2 : its2.length = ys.length := r2.length.symm.trans g2.length
      refine rc_tupB sb.room.units0 (pairB f xs ys) (fun _ s' => After X pins σ H s') e e2 (fun i i1 i2 s' q hj => ?_) (fun i s' q => ⟨by rw [hb]; simp [n1, n2], q⟩) (After.here I)
      obtain ⟨H1, I1, e1, fr⟩ := q
      have k1 : i < xs.length := by rw [← n1]; simpa using i1
      have k2 : i < ys.length := by rw [← n2]; simpa using i2
      obtain ⟨v1, a1, b1⟩ := h2.get (List.getElem?_eq_getElem k1)
      obtain ⟨v2, a2, b2⟩ := g2.get (List.getElem?_eq_getElem k2)
      obtain ⟨u1, c1, d1⟩ := r.get a1
      obtain ⟨u2, c2, d2⟩ := r2.get a2
      have q1 : its.toArray[i] = u1 := by
        have := List.getElem?_eq_some_iff.mp c1
        obtain ⟨_, z⟩ := this
        simpa using z
      have q2 : its2.toArray[i] = u2 := by
        have := List.getElem?_eq_some_iff.mp c2
        obtain ⟨_, z⟩ := this
        simpa using z
      rw [q1, q2]
      have kp : Keeps ok H H1 := e1.keeps fun _ _ => nofun
      have ff := hi i _ _ (List.getElem?_eq_getElem k1) (List.getElem?_eq_getElem k2) hj
      refine wpAny_mono (ih _ _ _ ff p ok A.in1 pins s' σ H1 v1 v2 u1 u2 sb.in1 I1 (hd.ext e1) (Rep.mono kp (fun _ z _ => z) _ _ b1) (Rep.mono kp (fun _ z _ => z) _ _ b2) d1 d2) (fun r s2 q => ?_) fun _ _ x => x
      obtain ⟨hr, H2, I2, e2', fr2⟩ := q
      exact ⟨hr, H2, I2, e1.trans e2', fun a z => fr a (fr2 a z)⟩
theorem eqP_run {p : Option Addr} {ok : Addr → Prop} {A : Around} {pins : List (Addr × Obj)} {s : Shared} {σ : L2.St} {H : Hp} {v w : V} {u t : Value} {x y : D} {b : Bool} (hr : A.units + 60 < cLine) (I : Inv X pins σ H s) (rx : Rep (sg X p) ok H v x) (ry : Rep (sg X p) ok H w y) (ru : RelV v u) (rt : RelV w t) (h : eqP x y = some b) : SeqAt.EqP X.prog X.w A s u t b := by
  unfold eqP at h
  by_cases hl : layD 60 x = true ∧ layD 60 y = true
  · rw [if_pos hl] at h
    cases h
    obtain ⟨as, r1⟩ := reads_lay I.hok x 60 v u rx hl.1 ru
    obtain ⟨bs, r2⟩ := reads_lay I.hok y 60 w t ry hl.2 rt
    have h2 := (lay_ok x 60 hl.1).2
    exact fun E Q q => SeqAt.eqAt_reads _ _ A s u t as bs r1 r2 (lay_ok x 60 hl.1).1 (lay_ok y 60 hl.2).1 (by have : min (py x).depth (py y).depth ≤ (py x).depth := Nat.min_le_left _ _; omega) X.prog X.w E Q q
  · rw [if_neg hl] at h; cases h
theorem hits_of {p : Option Addr} {ok : Addr → Prop} {A : Around} {pins : List (Addr × Obj)} {s : Shared} {σ : L2.St} {H : Hp} (hr : A.units + 60 < cLine) (I : Inv X pins σ H s) {ls : List (Key × V)} {vb : List (Key × Value)} {es : List D} (rb : KV ls vb) (rr : Reps (sg X p) ok H (ls.map (·.2)) es) :
    ∀ {ks : List (Key × V)} {va : List (Key × Value)} {ds : List D} {b : Bool}, KV ks va → Reps (sg X p) ok H (ks.map (·.2)) ds → eqKs (ls.map (·.1)) es (ks.map (·.1)) ds = some b → PySem.W.KeqHitsP X.prog X.w A s vb va b
  | [], va, ds, b, ra, r, h => by
    cases r
    cases h
    cases ra
    exact .nil
  | q :: ks, va, ds, b, ra, r, h => by
    cases ra with
    | @cons _ q' _ va h1 ra =>
      cases r with
      | @cons _ _ d ds r1 r2 =>
        obtain ⟨e1, e2⟩ := h1
        obtain ⟨key, val⟩ := q'
        have e1 : q.1 = key := e1
        simp only [List.map_cons, eqKs] at h
        cases e : lkp (ls.map (·.1)) es q.1 with
        | none =>
          rw [e] at h
          cases h
          have hn := (lkp_v (q := q.1) rr).2 e
          refine .miss ?_
          rw [← e1]
          have := rb.val q.1
          rw [hn] at this
          cases hv : valueAt vb q.1 with
          | none => rfl
          | some z => rw [hv] at this; exact this.elim
        | some d' =>
          obtain ⟨w, hw, rw'⟩ := (lkp_v (q := q.1) rr).1 d' e
          rw [e] at h
          dsimp only at h
          cases e3 : eqP d d' with
          | none => rw [e3] at h; cases h
          | some a =>
            cases e4 : eqKs (ls.map (·.1)) es (ks.map (·.1)) ds with
            | none => rw [e3, e4] at h; cases h
            | some c =>
              rw [e3, e4] at h
              cases h
              have rel := rb.val q.1
              rw [hw] at rel
              obtain ⟨y, hy, ry⟩ := RelO.some_of rel
              rw [e1] at hy
              exact .hit hy (eqP_run hr I r1 rw' e2 ry e3) (hits_of hr I rb rr ra r2 e4)
theorem Rd.dKok {P : Program} {w : World} {H : Hp} {h : Heap} {a : Addr} {kvs : List (Key × V)} (r : Rd H a (.dK kvs)) (hok : HOk P w H h) : ObjOk P w H h a (.dK kvs) := r.ok hok
theorem rc_dict {ks ks' : List Key} {ds ds' : List D} {b : Bool} (h : (if ks.length = ks'.length then eqKs ks' ds' ks ds else some false) = some b) : RC X k (.dK ks ds) (.dK ks' ds') b := by
  intro p ok A pins s σ H v w u t sb I hd rx ry ru rt
  cases rx with
  | @dK a kvs _ a1 h1 h2 =>
    cases ry with
    | @dK c kvs' _ b1 g1 g2 =>
      cases ru
      cases rt
      obtain ⟨_, ya, va, ra, da⟩ := h1.ok I.hok
      obtain ⟨_, yb, vb, rb, db⟩ := g1.ok I.hok
      have hu : A.units < cLine := sb.room.units0
      have hu2 : A.in1.units + 60 < cLine := by have := sb.room.un; show A.units + 1 + 60 < _; omega
      have la : va.length = kvs.length := ra.length.symm
      have lb : vb.length = kvs'.length := rb.length.symm
      by_cases hn : (kvs.map (·.1)).length = (kvs'.map (·.1)).length
      · rw [if_pos hn] at h
        refine PySem.W.rcP_dicts (knd := mixKind X.prog X.w) (r := b) ya yb da db hu (fun _ => hits_of hu2 I rb g2 ra h2 h) _ _ ⟨?_, After.here I⟩
        have : va.length = vb.length := by rw [la, lb]; simpa using hn
        rw [this]; simp
      · rw [if_neg hn] at h
        cases h
        have nl : va.length ≠ vb.length := by rw [la, lb]; simpa using hn
        refine PySem.W.rcP_dicts (knd := mixKind X.prog X.w) (r := true) ya yb da db hu (fun z => absurd z nl) _ _ ⟨?_, After.here I⟩
        have : (va.length == vb.length) = false := by simpa using nl
        rw [this]; rfl
/-- .. an instance of the class at C -/
theorem rc_ins (hC : ClsEq X l) (hE : HE X l n) {c : Str} {ns : List Str} {ds : List D} {y : D} {b : Bool} (hc : c ∈ l.map (·.1)) (hy : (∃ c' ns' ds', y = .ins c' ns' ds' ∧ c' ∈ l.map (·.1)) ∨ (∃ t, kdOf y = some (.ty t))) (h : eqN l n (.ins c ns ds) y = some b) : RC X (4 * n + 2) (.ins c ns ds) y b := by
  intro p ok A pins s σ H v w u t sb I hd rx ry ru rt
  have rx0 := rx
  cases rx with
  | @ins a _ C dx fs _ a1 h1 h2 h3 =>
    obtain ⟨f, fd, ps, e1, e2, e3, G⟩ := hE c hc C h1
    cases ru
    obtain ⟨mA, J, _⟩ := ins_get I.hok h2
    obtain ⟨od, J, _⟩ := J.look
    obtain ⟨mm, hF⟩ := I.fr
    have fin : wpAny (model X.prog X.w) A (call (.ref f) [.ref a, t]) (PySem.W.CmpBack fun r s' => r = .bool b ∧ After X pins σ H s') X.xe s := by
      refine wpAny_mono (run_eq G e3 sb I hd rx0 ry rfl rt (b := b) ?_) (fun r s' q => ?_) fun _ _ x => x
      · show (if c = c then _ else _ : Res D) = _
        rw [if_pos rfl, h]
      · obtain ⟨rfl, q⟩ := q
        exact ⟨rfl, q⟩
    rcases hy with ⟨c', ns', ds', rfl, hc'⟩ | ⟨tn, ht⟩
    · cases ry with
      | @ins a' _ C' dx' fs' _ b1 g1 g2 g3 =>
        cases rt
        obtain ⟨mB, J', _⟩ := ins_get I.hok g2
        obtain ⟨od', J', _⟩ := J'.look
        exact PySem.W.cmp_K (op := .Eq) (tb := .ref C') sb.room.units0 hF I.ok.mod.kin J J'.type (hC.own c c' C C' hc hc' h1 g1) e1 e2 fin
    · exact PySem.W.cmp_K (op := .Eq) (tb := .type tn) sb.room.units0 hF I.ok.mod.kin J (kd_look I ry rt ht _) (hC.ty c C tn hc h1 (kd_basic ht)) e1 e2 fin
theorem RC.mono {x y : D} {b : Bool} {j : Nat} (h : RC X j x y b) (hj : j ≤ k) : RC X k x y b := fun p ok A pins s σ H v w u t sb => h p ok A pins s σ H v w u t (sb.mono hj)
/-- == as eqN says, the __eq__ of the classes at hand up to depth n -/
theorem rc_eqN (hC : ClsEq X l) : ∀ (n : Nat), (∀ j, j ≤ n → HE X l j) → ∀ x y b, eqN l n x y = some b → RC X (4 * n + 2) x y b
  | 0, _, x, y, b, h => by simp [eqN] at h
  | n + 1, hE, x, y, b, h => by
    have ih := rc_eqN hC n (fun j hj => hE j (by omega))
    have ihb : ∀ x y b, eqN l n x y = some b → EqBl X (4 * n + 2) x y b := fun x y b h => by
      cases n with
      | zero => simp [eqN] at h
      | succ n =>
        by_cases hl : layD 60 x = true ∧ layD 60 y = true
        · have h0 := h
          unfold eqN at h
          rw [if_pos hl] at h
          cases h
          exact eb_plain hl.1 hl.2
        · refine (ih x y b h).bl (fun p ok H hd v r q => (eqN_self hC hd (n + 1)).1 x y v b r q h) fun p ok H v r => ?_
          rcases eqN_cases hl h with ⟨xs, ys, rfl, rfl, _⟩ | ⟨ks, ds, ks', ds', rfl, rfl, _⟩ | ⟨c, ns, ds, rfl, _⟩
          · cases r; exact ⟨_, rfl⟩
          · cases r; exact ⟨_, rfl⟩
          · cases r; exact ⟨_, rfl⟩
    by_cases hl : layD 60 x = true ∧ layD 60 y = true
    · unfold eqN at h
      rw [if_pos hl] at h
      cases h
      exact rc_plain hl.1 hl.2
    · rcases eqN_cases hl h with ⟨xs, ys, rfl, rfl, e⟩ | ⟨ks, ds, ks', ds', rfl, rfl, e⟩ | ⟨c, ns, ds, rfl, hc, hy⟩
      · exact (rc_tup ihb e).mono (by omega)
      · exact rc_dict e
      · exact rc_ins hC (hE (n + 1) (Nat.le_refl _)) hc hy h
end

/-! ## .. as an operator -/
section
variable {X : Cx} {l : List (Str × List Str)} {n k : Nat} {f g : S → Res (S × D)} {a b : Expr} {pos : Pos}
/-- a == b -/
def eEqN (l : List (Str × List Str)) (n : Nat) (f g : S → Res (S × D)) (s : S) : Res (S × D) := f s >>= fun (s1, x) => g s1 >>= fun (s2, y) => match eqN l n x y with
  | some k => .ok (s2, .bl k)
  | none => .stuck
def rAfter (X : Cx) (n : Nat) (l : List (Str × List Str)) : R2 := fun x y H Q => ∃ (p : Option Addr) (ok : Addr → Prop) (d e : D) (b : Bool), Hand X p ok H ∧ Rep (sg X p) ok H x d ∧ Rep (sg X p) ok H y e ∧ eqN l n d e = some b ∧ ∀ H', Ext none H H' → (∀ a, H' a = none → H a = none) → Q (.bl b) H'
theorem op_eqN (hC : ClsEq X l) (hE : ∀ j, j ≤ n → HE X l j) (g : Good (4 * n + 2) X) : OpR X (compareOp .Eq) (rAfter X n l) := by
  intro pins s σ H x y v u Q I rx ry q
  obtain ⟨p, ok, d, e, b, hd, r1, r2, h, q⟩ := q
  show wpAny (model X.prog X.w) X.A (richCompare .Eq v u) (EP X pins σ Q) X.xe s
  refine wpAny_mono (rc_eqN hC n hE d e b h p ok X.A pins s σ H x y v u ⟨g.room, rfl, g.guards⟩ I hd r1 r2 rx ry) (fun r s' z => ?_) fun _ _ x => x
  obtain ⟨rfl, H', I', ex, fr⟩ := z
  exact ⟨.bl b, H', I', rfl, q H' ex fr⟩
/-- two that are only read, at once -/
theorem hand_of {p m : Option Addr} {B : Hp} {okA : Addr → Prop} {s : S} {σ : L2.St} {H : Hp} (E : Env (sg X p) m B okA s σ H) : Hand X p (fun a => p ≠ some a) H := ⟨fun _ h => h, E.pn, E.tb⟩
theorem RepR.far {p : Option Addr} {okA : Addr → Prop} {s : S} {σ : L2.St} {H : Hp} {v : V} {d : D} (r : RepR (sg X p) (Ok (sg X p) okA s σ) H v d) : Rep (sg X p) (fun a => p ≠ some a) H v d := by
  cases r with
  | of r => exact Rep.mono (Keeps.refl _ _) (fun _ h _ => h.2.1) _ _ r
  | own hp r => exact r.froze (fun _ h _ => h.2.1) hp
theorem ee_eqN (hC : ClsEq X l) (hE : ∀ j, j ≤ n → HE X l j) (hg : Good (4 * n + 2) X) (ha : ER X a f) (hb : ER X b g) (hm' : behindInMarks .Eq b = false := by first | exact nomark _ | rfl) : EE X (.Compare a [.Eq] [b] pos) (eEqN l n f g) := by
  intro p m B okA s σ H W Q tk hm E hp
  refine we_of (pe_cmpR (op_eqN hC hE hg) (peW X a) (peW X b) hm') ?_
  refine twoR (k := fun s2 x y => match eqN l n x y with | some k => .ok (s2, .bl k) | none => .stuck) (P3 := KV') ha hb tk hm E hp fun s2 x y v u H2 e2 l2 E2 r1 r2 p2 => ?_
  cases hk : eqN l n x y with
  | none => rw [hk] at p2; exact p2.elim
  | some c =>
    rw [hk] at p2
    refine ⟨p, _, x, y, c, hand_of E2, r1.far, r2.far, hk, fun H' e fr => ?_⟩
    have E3 : Env (sg X p) m B okA s2 σ H' := E2.ext e.low (E2.hm (hm.symm.imp id id)) (E2.pen.keep (e.keeps fun _ _ => nofun) (fun _ z => z) fun q o _ f h => e.o q o nofun f h) (fun q hq => e.n q (E2.pn q hq)) fr
    exact p2 (.bl c) H' e.low (Less.refl _) E3 (.bl c)
end
end SM

set_option Elab.async false
set_option linter.all false
set_option maxRecDepth 100000
set_option maxHeartbeats 4000000
namespace SM
variable [Tab]
open PySem PySem.Spec PyProof.Rows L2

/-! ## != -/
def neN (l : List (Str × List Str)) (n : Nat) (x y : D) : Option Bool := if layD 60 x = true ∧ layD 60 y = true then some (!PyData.eqv (py x) (py y)) else match x with
  | .ins c ns ds => if IsC l c ns ds then (eqN l n x y).map (!·) else none
  | _ => none
def FneT (l : List (Str × List Str)) (c : Str) (n : Nat) : List D → Res D
  | [.ins c' ns ds, y] => if c' = c then (match eqN l n (.ins c' ns ds) y with
    | some b => .ok (.bl !b)
    | none => .stuck) else .stuck
  | _ => .stuck
/-- each __ne__ is not __eq__ -/
def HNe (X : Cx) (l : List (Str × List Str)) (n : Nat) : Prop := ∀ c ∈ l.map (·.1), ∀ C, X.mg c = some (.ref C) → ∃ f fd ps, PySem.W.findIn X.K (.ref C) "__ne__" = some (some (.ref f)) ∧ PySem.W.isFn X.K (.ref f) = true ∧ L2.Binds X.K fd ps [] ∧ FnG X.prog X.w X.K X.mg X.base (4 * n + 3) f fd ps (spF X.K X.mg 2 (FneT l c n))
section
variable {X : Cx} {l : List (Str × List Str)} {n k : Nat} {f g : S → Res (S × D)} {a b : Expr} {pos : Pos}
/-- a != b -/
def eNeN (l : List (Str × List Str)) (n : Nat) (f g : S → Res (S × D)) (s : S) : Res (S × D) := f s >>= fun (s1, x) => g s1 >>= fun (s2, y) => match neN l n x y with
  | some k => .ok (s2, .bl k)
  | none => .stuck
def rAfterN (X : Cx) (n : Nat) (l : List (Str × List Str)) : R2 := fun x y H Q => ∃ (p : Option Addr) (ok : Addr → Prop) (d e : D) (b : Bool), Hand X p ok H ∧ Rep (sg X p) ok H x d ∧ Rep (sg X p) ok H y e ∧ neN l n d e = some b ∧ ∀ H', Ext none H H' → (∀ a, H' a = none → H a = none) → Q (.bl b) H'
theorem op_neN (hC : ClsEq X l) (hE : HNe X l n) (g : Good (4 * n + 3) X) : OpR X (compareOp .NotEq) (rAfterN X n l) := by
  intro pins s σ H x y v u Q I rx ry q
  obtain ⟨p, ok, d, e, b, hd, r1, r2, h, q⟩ := q
  show wpAny (model X.prog X.w) X.A (richCompare .NotEq v u) (EP X pins σ Q) X.xe s
  have fin : ∀ (r : Value) (s' : Shared), r = .bool b ∧ After X pins σ H s' → EP X pins σ Q r s' := fun r s' z => by
    obtain ⟨rfl, H', I', ex, fr⟩ := z
    exact ⟨.bl b, H', I', rfl, q H' ex fr⟩
  unfold neN at h
  by_cases hl : layD 60 d = true ∧ layD 60 e = true
  · rw [if_pos hl] at h
    cases h
    obtain ⟨as, q1⟩ := reads_lay I.hok d 60 x v r1 hl.1 rx
    obtain ⟨bs, q2⟩ := reads_lay I.hok e 60 y u r2 hl.2 ry
    exact SeqAt.compareNe_reads q1 q2 (lay_ok d 60 hl.1).1 (lay_ok e 60 hl.2).1 (unit60 g.room (lay_ok d 60 hl.1).2) (fin _ s ⟨rfl, After.here I⟩)
  · rw [if_neg hl] at h
    cases d with
    | ins c ns ds =>
      have h : (if IsC l c ns ds then (eqN l n (.ins c ns ds) e).map (!·) else none) = some b := h
      by_cases hc : IsC l c ns ds
      · rw [if_pos hc] at h
        cases hk : eqN l n (.ins c ns ds) e with
        | none => rw [hk] at h; cases h
        | some b0 =>
          rw [hk] at h
          cases h
          have hy : (∃ c' ns' ds', e = .ins c' ns' ds' ∧ c' ∈ l.map (·.1)) ∨ (∃ t, kdOf e = some (.ty t)) := by
            cases n with
            | zero => simp [eqN] at hk
            | succ n =>
              rcases eqN_cases hl hk with ⟨_, _, z, _⟩ | ⟨_, _, _, _, z, _⟩ | ⟨_, _, _, _, _, z⟩
              · cases z
              · cases z
              · exact z
          have sb : SubG X (4 * n + 3) X.A := ⟨g.room, rfl, g.guards⟩
          have r10 := r1
          cases r1 with
          | @ins a _ C dx fs _ a1 h1 h2 h3 =>
            obtain ⟨f, fd, ps, e1, e2, e3, G⟩ := hE c hc.mem C h1
            cases rx
            obtain ⟨mA, J, _⟩ := ins_get I.hok h2
            obtain ⟨od, J, _⟩ := J.look
            obtain ⟨mm, hF⟩ := I.fr
            have fin2 : wpAny (model X.prog X.w) X.A (call (.ref f) [.ref a, u]) (PySem.W.CmpBack (EP X pins σ Q)) X.xe s := by
              refine wpAny_mono (run_eq G e3 sb I hd r10 r2 rfl ry (b := !b0) ?_) (fun r s' z => ?_) fun _ _ x => x
              · show (if c = c then _ else _ : Res D) = _
                rw [if_pos rfl, hk]
              · obtain ⟨rfl, z⟩ := z
                exact fin _ _ ⟨rfl, z⟩
            rcases hy with ⟨c', ns', ds', rfl, hc'⟩ | ⟨tn, ht⟩
            · cases r2 with
              | @ins a' _ C' dx' fs' _ b1 g1 g2 g3 =>
                cases ry
                obtain ⟨mB, J', _⟩ := ins_get I.hok g2
                obtain ⟨od', J', _⟩ := J'.look
                exact PySem.W.cmp_K (op := .NotEq) (tb := .ref C') sb.room.units0 hF I.ok.mod.kin J J'.type (hC.own c c' C C' hc.mem hc' h1 g1) e1 e2 fin2
            · exact PySem.W.cmp_K (op := .NotEq) (tb := .type tn) sb.room.units0 hF I.ok.mod.kin J (kd_look I r2 ry ht _) (hC.ty c C tn hc.mem h1 (kd_basic ht)) e1 e2 fin2
      · rw [if_neg hc] at h; cases h
    | _ => cases h
theorem ee_neN (hC : ClsEq X l) (hE : HNe X l n) (hg : Good (4 * n + 3) X) (ha : ER X a f) (hb : ER X b g) (hm' : behindInMarks .NotEq b = false := by first | exact nomark _ | rfl) : EE X (.Compare a [.NotEq] [b] pos) (eNeN l n f g) := by
  intro p m B okA s σ H W Q tk hm E hp
  refine we_of (pe_cmpR (op_neN hC hE hg) (peW X a) (peW X b) hm') ?_
  refine twoR (k := fun s2 x y => match neN l n x y with | some k => .ok (s2, .bl k) | none => .stuck) (P3 := KV') ha hb tk hm E hp fun s2 x y v u H2 e2 l2 E2 r1 r2 p2 => ?_
  cases hk : neN l n x y with
  | none => rw [hk] at p2; exact p2.elim
  | some c =>
    rw [hk] at p2
    refine ⟨p, _, x, y, c, hand_of E2, r1.far, r2.far, hk, fun H' e fr => ?_⟩
    have E3 : Env (sg X p) m B okA s2 σ H' := E2.ext e.low (E2.hm (hm.symm.imp id id)) (E2.pen.keep (e.keeps fun _ _ => nofun) (fun _ z => z) fun q o _ f h => e.o q o nofun f h) (fun q hq => e.n q (E2.pn q hq)) fr
    exact p2 (.bl c) H' e.low (Less.refl _) E3 (.bl c)
end

/-! ## the __eq__ and __ne__ of a class, as they are promised -/
theorem spF_le {K : PySem.W.Frag} {mg : Str → Option Value} {n : Nat} {F F' : List D → Res D} (h : ∀ ds, F' ds ≠ .stuck → F ds = F' ds) {vs : List V} {H : Hp} {Q : VK} {E : XK} (hs : spF K mg n F' vs H Q E) : spF K mg n F vs H Q E := by
  obtain ⟨hl, p, m, okA, ds, pn, h1, h2, h3, h4, h5, h6, h7, h8⟩ := hs
  refine ⟨hl, p, m, okA, ds, pn, h1, h2, h3, h4, h5, h6, h7, ?_⟩
  have e : F ds = F' ds := h ds fun z => by
    unfold noPen at h8
    rw [z] at h8
    exact h8
  unfold noPen at h8 ⊢
  rw [e]
  exact h8
theorem FnG.le {P : Program} {w : World} {K : PySem.W.Frag} {mg : Str → Option Value} {base : Heap} {k n : Nat} {f : Addr} {fd : FuncData} {ps : List Str} {F F' : List D → Res D} (G : FnG P w K mg base k f fd ps (spF K mg n F)) (h : ∀ ds, F' ds ≠ .stuck → F ds = F' ds) : FnG P w K mg base k f fd ps (spF K mg n F') :=
  ⟨fun vs H Q E z => G.len vs H Q E (spF_le h z), fun A outer s H args us vs Q E r g e b v z => G.run A outer s H args us vs Q E r g e b v (spF_le h z)⟩
section
variable {P : Program} {w : World} {K : PySem.W.Frag} {mg : Str → Option Value} {base : Heap} {k n : Nat} {c m q : Str} {N ps : List Str} {st : Stmt} {b : S → Res (S × Fl)} {F : List D → Res D}
/-- how a method is found, bound, what it promises -/
def OkM (P : Program) (w : World) (K : PySem.W.Frag) (mg : Str → Option Value) (base : Heap) (k : Nat) (c m : Str) (ps : List Str) (n : Nat) (F : List D → Res D) : Prop :=
  ∃ fd, PySem.W.findIn K (.ref (He.ga K c)) m = some (some (.ref (He.ma K (He.ga K c) m))) ∧ PySem.W.isFn K (.ref (He.ma K (He.ga K c) m)) = true ∧ PySem.W.keepIn K (.ref (He.ma K (He.ga K c) m)) = true ∧ L2.Binds K fd ps [] ∧ FnG P w K mg base k (He.ma K (He.ga K c) m) fd ps (spF K mg n F)
theorem okM_of (F : MeS K c m q st) (S : FnScope N ps (defScope st)) (hn : ps.length = n) (hN : n ≤ N.length) (hf : PySem.W.findIn K (.ref (He.ga K c)) m = some (some (.ref (He.ma K (He.ga K c) m)))) (hi : PySem.W.isFn K (.ref (He.ma K (He.ga K c) m)) = true)
    (hbind : ∀ (kV doc pm : Value) (an : Option Addr) (cdv ct : Value) (us : List Value), us.length = ps.length → bindArgs (PySem.W.fnOf m q (defArgs st) (defBody st) (defScope st) .none kV doc pm an cdv ct) ⟨us, []⟩ = pure (ps.zip us))
    (hb : ∀ cd A outer s H E, Good k (bodyX P w K mg base N q (defScope st) (He.ma K (He.ga K c) m) cd A outer s H E) → SB (bodyX P w K mg base N q (defScope st) (He.ma K (He.ga K c) m) cd A outer s H E) (defBody st) b) : OkM P w K mg base (k + 1) c m ps n (runF N b) := by
  obtain ⟨fd, FD⟩ := F
  refine ⟨fd, hf, hi, FD.kp, FD.bindsN hbind, ?_⟩
  obtain ⟨oc, od, dV, kV, doc, pm, an, cdv, ct, osl, rfl, lk, hcd, _, _⟩ := FD.ex
  exact fnG_of lk hcd S (fun vs H Q E h => h.1.trans hn.symm) fun A outer s H vs Q E g hsp => wb_fn hN (hb cdv A outer s H E g) hsp
/-! the promise of an __eq__, by its plain law -/
theorem FnG.no (hn : ps.length = n) (f : Addr) (fd : FuncData) : FnG P w K mg base k f fd ps (spF K mg n fun _ => .stuck) :=
  ⟨fun vs H Q E z => z.1.trans hn.symm, fun A outer s H args us vs Q E r g e b v z => by
    obtain ⟨_, _, _, _, _, _, _, _, _, _, _, _, _, z⟩ := z
    exact z.elim⟩
def HE0 (P : Program) (w : World) (K : PySem.W.Frag) (mg : Str → Option Value) (base : Heap) (l : List (Str × List Str)) (n : Nat) : Prop := ∀ c ∈ l.map (·.1), ∀ C, mg c = some (.ref C) → ∃ f fd ps, PySem.W.findIn K (.ref C) "__eq__" = some (some (.ref f)) ∧ PySem.W.isFn K (.ref f) = true ∧ L2.Binds K fd ps [] ∧ FnG P w K mg base (4 * n + 2) f fd ps (spF K mg 2 (FqT l c n))
def HNe0 (P : Program) (w : World) (K : PySem.W.Frag) (mg : Str → Option Value) (base : Heap) (l : List (Str × List Str)) (n : Nat) : Prop := ∀ c ∈ l.map (·.1), ∀ C, mg c = some (.ref C) → ∃ f fd ps, PySem.W.findIn K (.ref C) "__ne__" = some (some (.ref f)) ∧ PySem.W.isFn K (.ref f) = true ∧ L2.Binds K fd ps [] ∧ FnG P w K mg base (4 * n + 3) f fd ps (spF K mg 2 (FneT l c n))
theorem he_at {l : List (Str × List Str)} {j : Nat} (O : OkM P w K mg base j c "__eq__" ps 2 F) (hj : j ≤ 4 * n + 2) (hg : mg c = some (.ref (He.ga K c))) (hF : ∀ ds, FqT l c n ds ≠ .stuck → F ds = FqT l c n ds) : ∀ C, mg c = some (.ref C) → ∃ f fd ps, PySem.W.findIn K (.ref C) "__eq__" = some (some (.ref f)) ∧ PySem.W.isFn K (.ref f) = true ∧ L2.Binds K fd ps [] ∧ FnG P w K mg base (4 * n + 2) f fd ps (spF K mg 2 (FqT l c n)) := fun C hC => by
  rw [hg] at hC
  cases hC
  obtain ⟨fd, h1, h2, h3, h4, G⟩ := O
  exact ⟨_, fd, ps, h1, h2, h4, (G.mono hj).le hF⟩
theorem he_no {l : List (Str × List Str)} {j : Nat} (O : OkM P w K mg base j c "__eq__" ps 2 F) (hp : ps.length = 2) (hg : mg c = some (.ref (He.ga K c))) : ∀ C, mg c = some (.ref C) → ∃ f fd ps, PySem.W.findIn K (.ref C) "__eq__" = some (some (.ref f)) ∧ PySem.W.isFn K (.ref f) = true ∧ L2.Binds K fd ps [] ∧ FnG P w K mg base (4 * 0 + 2) f fd ps (spF K mg 2 (FqT l c 0)) := fun C hC => by
  rw [hg] at hC
  cases hC
  obtain ⟨fd, h1, h2, h3, h4, G⟩ := O
  refine ⟨_, fd, ps, h1, h2, h4, (FnG.no hp _ fd).le fun ds h => absurd ?_ h⟩
  unfold FqT
  split
  · rename_i c' ns ds y
    by_cases hc : c' = c
    · rw [if_pos hc]; rfl
    · rw [if_neg hc]
  · rfl
theorem hne_at {l : List (Str × List Str)} {j : Nat} (O : OkM P w K mg base j c "__ne__" ps 2 F) (hj : j ≤ 4 * n + 3) (hg : mg c = some (.ref (He.ga K c))) (hF : ∀ ds, FneT l c n ds ≠ .stuck → F ds = FneT l c n ds) : ∀ C, mg c = some (.ref C) → ∃ f fd ps, PySem.W.findIn K (.ref C) "__ne__" = some (some (.ref f)) ∧ PySem.W.isFn K (.ref f) = true ∧ L2.Binds K fd ps [] ∧ FnG P w K mg base (4 * n + 3) f fd ps (spF K mg 2 (FneT l c n)) := fun C hC => by
  rw [hg] at hC
  cases hC
  obtain ⟨fd, h1, h2, h3, h4, G⟩ := O
  exact ⟨_, fd, ps, h1, h2, h4, (G.mono hj).le hF⟩
end
end SM

set_option Elab.async false
set_option linter.all false
set_option maxRecDepth 100000
set_option maxHeartbeats 4000000
namespace SM
variable [Tab]
open PySem PySem.Spec PyProof.Rows L2

/-! ## what the head tells of the module's own classes -/
def bTys : List String := ["int", "bool", "str", "tuple", "list", "dict"]
def aTys : List String := ["NoneType", "bool", "int", "str", "tuple", "list", "dict"]
def kdO (l : List Str) (k k' : Kd) : Option Bool := match k, k' with
  | .ty a, .ty b => kB a b
  | .own c, .own c' => if c ∈ l ∧ c' ∈ l then some (decide (c = c')) else none
  | .own c, .ty b => if c ∈ l ∧ b ∈ bTys then some false else none
  | .ty a, .own c' => if a ∈ aTys ∧ c' ∈ l then some false else none
def clsOkB (K : PySem.W.Frag) (C : Addr) : Bool := PySem.W.plainGet K C Str.empty && (PySem.W.hasDictIn K C && (PySem.W.plainOver K C && (decide (PySem.W.findIn K (.ref C) "__setattr__" = some (some (.builtin "object.__setattr__"))) && (decide (PySem.W.findIn K (.ref C) "__class__" = some (some (.builtin "object.__class__"))) &&
  (decide (PySem.W.specialIn K (.builtin "object.__class__") "__get__" = some (some (.builtin "getset_descriptor.__get__"))) && (decide (PySem.W.takesIn K (.builtin "object.__class__") = some true) && decide (PySem.W.mroIn K C (.type "object") = some true)))))))
theorem ba2 {a b : Bool} (h : (a && b) = true) : a = true ∧ b = true := Bool.and_eq_true_iff.mp h
theorem clsOkB_ok {K : PySem.W.Frag} {C : Addr} (h : clsOkB K C = true) : ClsOk K C := by
  obtain ⟨h1, h⟩ := ba2 h
  obtain ⟨h2, h⟩ := ba2 h
  obtain ⟨h3, h⟩ := ba2 h
  obtain ⟨h4, h⟩ := ba2 h
  obtain ⟨h5, h⟩ := ba2 h
  obtain ⟨h6, h⟩ := ba2 h
  obtain ⟨h7, h8⟩ := ba2 h
  exact ⟨⟨h1, h2, h3, of_decide_eq_true h4⟩, of_decide_eq_true h5, of_decide_eq_true h6, of_decide_eq_true h7, of_decide_eq_true h8⟩
def kdOB (K : PySem.W.Frag) (l : List Str) : Bool := l.all fun c => clsOkB K (He.ga K c) && ((l.all fun c' => decide (PySem.W.kitOne K (.ref (He.ga K c)) (.ref (He.ga K c')) = some (decide (c = c')))) && ((bTys.all fun b => decide (PySem.W.kitOne K (.ref (He.ga K c)) (.type b) = some false)) && aTys.all fun a => decide (PySem.W.kitOne K (.type a) (.ref (He.ga K c)) = some false)))
section
variable {X : Cx} {l : List Str}
theorem kdO_ok (hm : ∀ c ∈ l, X.mg c = some (.ref (He.ga X.K c))) (h : kdOB X.K l = true) : Kinds X (kdO l) := by
  have at_ : ∀ c ∈ l, _ := fun c hc => List.all_eq_true.mp h c hc
  refine ⟨fun k k' r t u hk ht hu => ?_, fun c C hC hk => ?_⟩
  · cases k with
    | ty a =>
      cases k' with
      | ty b => cases ht; cases hu; exact kB_ok hk
      | own c' =>
        have hk : (if a ∈ aTys ∧ c' ∈ l then some false else none) = some r := hk
        by_cases q : a ∈ aTys ∧ c' ∈ l
        · rw [if_pos q] at hk
          cases hk
          have hu : X.mg c' = some u := hu
          rw [hm c' q.2] at hu
          cases ht; cases hu
          obtain ⟨_, z⟩ := ba2 (at_ c' q.2)
          obtain ⟨_, z⟩ := ba2 z
          obtain ⟨_, z⟩ := ba2 z
          exact of_decide_eq_true (List.all_eq_true.mp z a q.1)
        · rw [if_neg q] at hk; cases hk
    | own c =>
      cases k' with
      | ty b =>
        have hk : (if c ∈ l ∧ b ∈ bTys then some false else none) = some r := hk
        by_cases q : c ∈ l ∧ b ∈ bTys
        · rw [if_pos q] at hk
          cases hk
          have ht : X.mg c = some t := ht
          rw [hm c q.1] at ht
          cases ht; cases hu
          obtain ⟨_, z⟩ := ba2 (at_ c q.1)
          obtain ⟨_, z⟩ := ba2 z
          obtain ⟨z, _⟩ := ba2 z
          exact of_decide_eq_true (List.all_eq_true.mp z b q.2)
        · rw [if_neg q] at hk; cases hk
      | own c' =>
        have hk : (if c ∈ l ∧ c' ∈ l then some (decide (c = c')) else none) = some r := hk
        by_cases q : c ∈ l ∧ c' ∈ l
        · rw [if_pos q] at hk
          cases hk
          have ht : X.mg c = some t := ht
          have hu : X.mg c' = some u := hu
          rw [hm c q.1] at ht
          rw [hm c' q.2] at hu
          cases ht; cases hu
          obtain ⟨_, z⟩ := ba2 (at_ c q.1)
          obtain ⟨z, _⟩ := ba2 z
          exact of_decide_eq_true (List.all_eq_true.mp z c' q.2)
        · rw [if_neg q] at hk; cases hk
  · obtain ⟨k', r, hk⟩ := hk
    have hc : c ∈ l := by
      cases k' with
      | ty b =>
        have hk : (if c ∈ l ∧ b ∈ bTys then some false else none) = some r := hk
        by_cases q : c ∈ l ∧ b ∈ bTys
        · exact q.1
        · rw [if_neg q] at hk; cases hk
      | own c' =>
        have hk : (if c ∈ l ∧ c' ∈ l then some (decide (c = c')) else none) = some r := hk
        by_cases q : c ∈ l ∧ c' ∈ l
        · exact q.1
        · rw [if_neg q] at hk; cases hk
    rw [hm c hc] at hC
    cases hC
    exact clsOkB_ok (ba2 (at_ c hc)).1
/-- the fields, by a list of classes and names -/
def flT (q : List (Str × List Str)) (c f : Str) : Bool := q.any fun p => decide (p.1 = c) && p.2.contains f
def flB (K : PySem.W.Frag) (q : List (Str × List Str)) : Bool := q.all fun p => clsOkB K (He.ga K p.1) && p.2.all fun f => decide (PySem.W.findIn K (.ref (He.ga K p.1)) f = some none)
theorem fl_ok {q : List (Str × List Str)} (hm : ∀ p ∈ q, X.mg p.1 = some (.ref (He.ga X.K p.1))) (h : flB X.K q = true) : FldOk X (flT q) := ⟨fun c f C hf hC => by
  obtain ⟨p, hp, z⟩ := List.any_eq_true.mp hf
  obtain ⟨z1, z2⟩ := ba2 z
  have e := of_decide_eq_true z1
  rw [← e, hm p hp] at hC
  cases hC
  obtain ⟨a, b⟩ := ba2 (List.all_eq_true.mp h p hp)
  exact ⟨(clsOkB_ok a).cl, show PySem.W.findIn X.K (.ref (He.ga X.K p.1)) f = some none from of_decide_eq_true (List.all_eq_true.mp b f (List.contains_iff_mem.mp z2))⟩⟩
def ceB (K : PySem.W.Frag) (l : List Str) : Bool := l.all fun c => (aTys.all fun n => PySem.W.notFirst K (He.ga K c) (.type n)) && l.all fun c' => PySem.W.notFirst K (He.ga K c) (.ref (He.ga K c')) && (decide (c = c') || decide (He.ga K c ≠ He.ga K c'))
theorem ce_ok {q : List (Str × List Str)} (hm : ∀ c ∈ q.map (·.1), X.mg c = some (.ref (He.ga X.K c))) (h : ceB X.K (q.map (·.1)) = true) : ClsEq X q where
  ty := fun c C n hc hC hn => by
    rw [hm c hc] at hC; cases hC
    exact List.all_eq_true.mp (ba2 (List.all_eq_true.mp h c hc)).1 n hn
  own := fun c c' C C' hc hc' hC hC' => by
    rw [hm c hc] at hC; cases hC
    rw [hm c' hc'] at hC'; cases hC'
    exact (ba2 (List.all_eq_true.mp (ba2 (List.all_eq_true.mp h c hc)).2 c' hc')).1
  inj := fun c c' C hc hc' hC hC' => by
    rw [hm c hc] at hC; cases hC
    rw [hm c' hc'] at hC'
    have z := (ba2 (List.all_eq_true.mp (ba2 (List.all_eq_true.mp h c hc)).2 c' hc')).2
    rcases Bool.or_eq_true_iff.mp z with z | z
    · exact of_decide_eq_true z
    · exact absurd (by injection hC' with e; injection e with e; exact e.symm) (of_decide_eq_true z)
def mkB (K : PySem.W.Frag) (c : Str) : Bool := PySem.W.makesIn K (He.ga K c) && (decide (PySem.W.findIn K (.ref (He.ga K c)) "__init__" = some (some (.ref (He.ma K (He.ga K c) "__init__")))) && (PySem.W.isFn K (.ref (He.ma K (He.ga K c) "__init__")) && PySem.W.keepIn K (.ref (He.ga K c))))
theorem mk_ok {K : PySem.W.Frag} {mg : Str → Option Value} {c : Str} (hm : mg c = some (.ref (He.ga K c))) (h : mkB K c = true) : MkC K mg c (He.ga K c) (He.ma K (He.ga K c) "__init__") := by
  obtain ⟨h1, h⟩ := ba2 h
  obtain ⟨h2, h⟩ := ba2 h
  obtain ⟨h3, h4⟩ := ba2 h
  exact ⟨⟨h1, of_decide_eq_true h2, h3, h4⟩, hm⟩
def meB (K : PySem.W.Frag) (c m : Str) : Bool := decide (PySem.W.findIn K (.ref (He.ga K c)) m = some (some (.ref (He.ma K (He.ga K c) m)))) && PySem.W.isFn K (.ref (He.ma K (He.ga K c) m))
theorem me_ok {K : PySem.W.Frag} {c m : Str} (h : meB K c m = true) : PySem.W.findIn K (.ref (He.ga K c)) m = some (some (.ref (He.ma K (He.ga K c) m))) ∧ PySem.W.isFn K (.ref (He.ma K (He.ga K c) m)) = true := ⟨of_decide_eq_true (ba2 h).1, (ba2 h).2⟩
end

/-! ## the plain laws of __eq__ -/
section
variable {s s1 s2 : S} {f g : S → Res (S × D)} {l : List (Str × List Str)} {n : Nat} {x y d : D} {b : Bool} {ns : List Str} {ds : List D} {fl : Str → Str → Bool} {c fd : Str}
theorem ev_eqN (h1 : f s = .ok (s1, x)) (h2 : g s1 = .ok (s2, y)) (h3 : eqN l n x y = some b) : eEqN l n f g s = .ok (s2, .bl b) := by unfold eEqN; rw [h1]; show (g s1 >>= _) = _; rw [h2]; show (match eqN l n x y with | some k => Res.ok (s2, D.bl k) | none => Res.stuck) = _; rw [h3]
theorem ev_neN (h1 : f s = .ok (s1, x)) (h2 : g s1 = .ok (s2, y)) (h3 : neN l n x y = some b) : eNeN l n f g s = .ok (s2, .bl b) := by unfold eNeN; rw [h1]; show (g s1 >>= _) = _; rw [h2]; show (match neN l n x y with | some k => Res.ok (s2, D.bl k) | none => Res.stuck) = _; rw [h3]
theorem ev_fld (h1 : f s = .ok (s1, .ins c ns ds)) (h2 : fl c fd = true) (h3 : fldD ns ds fd = some d) : eFld fl fd f s = .ok (s1, d) := by
  unfold eFld; rw [h1]; show (if fl c fd = true then (match fldD ns ds fd with | some d => _ | none => _) else _) = _; rw [if_pos h2, h3]
theorem eqN_ins {c : Str} (h : eqN l (n + 1) (.ins c ns ds) y = some b) : IsC l c ns ds ∧ ((∃ ns' ds', y = .ins c ns' ds' ∧ ns = ns' ∧ IsC l c ns' ds' ∧ eqFs (eqN l n) ds ds' = some b) ∨
    (∃ c' ns' ds', y = .ins c' ns' ds' ∧ c ≠ c' ∧ IsC l c' ns' ds' ∧ b = false) ∨ (∃ t, kdOf y = some (.ty t) ∧ b = false)) := by
  have nl : ¬(layD 60 (.ins c ns ds) = true ∧ layD 60 y = true) := fun z => by simp [layD] at z
  unfold eqN at h
  rw [if_neg nl] at h
  have other : (if IsC l c ns ds then (match kdOf y with | some (.ty _) => some false | _ => none) else none) = some b → IsC l c ns ds ∧ (∃ t, kdOf y = some (.ty t) ∧ b = false) := fun h => by
    by_cases hi : IsC l c ns ds
    · rw [if_pos hi] at h
      split at h
      · rename_i t ht
        cases h
        exact ⟨hi, t, ht, rfl⟩
      · cases h
    · rw [if_neg hi] at h; cases h
  cases y with
  | ins c2 ns2 ds2 =>
    have h : (if IsC l c ns ds ∧ IsC l c2 ns2 ds2 then (if c = c2 then (if ns = ns2 then eqFs (eqN l n) ds ds2 else none) else some false) else none) = some b := h
    by_cases hi : IsC l c ns ds ∧ IsC l c2 ns2 ds2
    · rw [if_pos hi] at h
      refine ⟨hi.1, ?_⟩
      by_cases hcc : c = c2
      · subst hcc
        rw [if_pos rfl] at h
        by_cases hn : ns = ns2
        · rw [if_pos hn] at h
          exact .inl ⟨ns2, ds2, rfl, hn, hi.2, h⟩
        · rw [if_neg hn] at h; cases h
      · rw [if_neg hcc] at h
        cases h
        exact .inr (.inl ⟨c2, ns2, ds2, rfl, hcc, hi.2, rfl⟩)
    · rw [if_neg hi] at h; cases h
  | _ => exact ⟨(other h).1, .inr (.inr (other h).2)⟩
theorem eq_plain {C : Str} {flds : List Str} {F : List D → Res D} (hu : ∀ ns, (C, ns) ∈ l → ns = flds)
    (hT : ∀ ds ds' b, ds.length = flds.length → ds'.length = flds.length → eqFs (eqN l n) ds ds' = some b → F [.ins C flds ds, .ins C flds ds'] = .ok (.bl b))
    (hO : ∀ ds c' ns' ds', ds.length = flds.length → c' ∈ l.map (·.1) → C ≠ c' → F [.ins C flds ds, .ins c' ns' ds'] = .ok (.bl false))
    (hP : ∀ ds y t, ds.length = flds.length → kdOf y = some (.ty t) → F [.ins C flds ds, y] = .ok (.bl false)) : ∀ ds, FqT l C (n + 1) ds ≠ .stuck → F ds = FqT l C (n + 1) ds := fun ds h => by
  match ds, h with
  | [.ins c' ns ds, y], h =>
    have h : (if c' = C then (match eqN l (n + 1) (.ins c' ns ds) y with | some b => Res.ok (D.bl b) | none => .stuck) else .stuck) ≠ .stuck := h
    show _ = (if c' = C then (match eqN l (n + 1) (.ins c' ns ds) y with | some b => Res.ok (D.bl b) | none => Res.stuck) else Res.stuck)
    by_cases hc : c' = C
    · subst hc
      rw [if_pos rfl] at h ⊢
      cases hk : eqN l (n + 1) (.ins c' ns ds) y with
      | none => rw [hk] at h; exact absurd rfl h
      | some b =>
        show _ = Res.ok (D.bl b)
        obtain ⟨hi, hk⟩ := eqN_ins hk
        have e1 := hu ns hi.1
        subst e1
        rcases hk with ⟨ns2, ds2, rfl, rfl, hi2, hk⟩ | ⟨c2, ns2, ds2, rfl, hcc, hi2, rfl⟩ | ⟨t, ht, rfl⟩
        · exact hT ds ds2 b hi.2 hi2.2 hk
        · exact hO ds c2 ns2 ds2 hi.2 hi2.mem hcc
        · exact hP ds y t hi.2 ht
    · rw [if_neg hc] at h; exact absurd rfl h
  | [], h => exact absurd rfl h
  | [_], h => exact absurd (by cases ‹D› <;> rfl) h
  | _ :: _ :: _ :: _, h => exact absurd (by rename_i a _ _ _; cases a <;> rfl) h
  | [.non, _], h => exact absurd rfl h
  | [.bl _, _], h => exact absurd rfl h
  | [.int _, _], h => exact absurd rfl h
  | [.str _, _], h => exact absurd rfl h
  | [.tup _, _], h => exact absurd rfl h
  | [.lst _, _], h => exact absurd rfl h
  | [.dK _ _, _], h => exact absurd rfl h
  | [.dT _ _, _], h => exact absurd rfl h
  | [.pen, _], h => exact absurd rfl h
  | [.glo _, _], h => exact absurd rfl h
  | [.ty _, _], h => exact absurd rfl h
  | [.lam _ _, _], h => exact absurd rfl h
  | [.clo _ _, _], h => exact absurd rfl h
  | [.xo _ _ _, _], h => exact absurd rfl h
theorem ne_plain {C : Str} {F : List D → Res D} (h : ∀ ns ds y b, eqN l n (.ins C ns ds) y = some b → F [.ins C ns ds, y] = .ok (.bl !b)) : ∀ ds, FneT l C n ds ≠ .stuck → F ds = FneT l C n ds := fun ds h0 => by
  unfold FneT at h0 ⊢
  split at h0
  · rename_i c' ns ds y
    by_cases hc : c' = C
    · subst hc
      rw [if_pos rfl] at h0 ⊢
      cases hk : eqN l n (.ins c' ns ds) y with
      | none => rw [hk] at h0; exact absurd rfl h0
      | some b => exact h ns ds y b hk
    · rw [if_neg hc] at h0; exact absurd rfl h0
  · exact absurd rfl h0
/-- isinstance of own classes -/
theorem isi_own {k : List Str} {c c' : Str} {ns : List Str} {ds : List D} (h1 : c ∈ k) (h2 : c' ∈ k) : isiD (kdO k) (.ins c ns ds) (.glo c') = some (.bl (decide (c = c'))) := by
  show (if c ∈ k ∧ c' ∈ k then some (decide (c = c')) else none : Option Bool).map D.bl = _
  rw [if_pos ⟨h1, h2⟩]; rfl
theorem isi_basic {k : List Str} {c' : Str} {y : D} {t : String} (h1 : kdOf y = some (.ty t)) (h2 : c' ∈ k) : isiD (kdO k) y (.glo c') = some (.bl false) := by
  have ht : t ∈ aTys := kd_basic h1
  unfold isiD
  rw [h1]
  show (if t ∈ aTys ∧ c' ∈ k then some false else none : Option Bool).map D.bl = _
  rw [if_pos ⟨ht, h2⟩]; rfl
end
end SM

set_option Elab.async false
set_option linter.all false
set_option maxRecDepth 100000
set_option maxHeartbeats 4000000
namespace SM
variable [Tab]
open PySem PySem.Spec PyProof.Rows L2

/-! ## new tuples and lists out of old ones -/
section
variable {X : Cx} {p m : Option Addr} {B : Hp} {okA : Addr → Prop} {W : WX} {s : S} {σ : L2.St} {H : Hp} {Q : VK} {vs : List V} {ds : List D}
theorem newTup (hm : m = p ∨ m = none) (E : Env (sg X p) m B okA s σ H) (r : Reps (sg X p) (Ok (sg X p) okA s σ) H vs ds) (hp : Post KV' (sg X p) m B okA W σ s H Q (.ok (s, .tup ds))) : ∀ q, H q = none → Q (.ref q) (upd H q (.tup vs)) := fun q hq =>
  hp _ _ (Ext.new hq) (Less.refl _) (E.grow (hm.imp id id) hq) (.tup upd_same (Reps.mono ((Ext.new (m := none) hq).keeps fun _ _ => nofun) (fun _ z _ => z) _ _ r))
theorem newLst (hm : m = p ∨ m = none) (E : Env (sg X p) m B okA s σ H) (r : Reps (sg X p) (Ok (sg X p) okA s σ) H vs ds) (hp : PostF (sg X p) m B okA W σ s H Q (.ok (s, .lst ds))) : ∀ q, H q = none → Q (.ref q) (upd H q (.lst vs)) := fun q hq => hp.made hm E hq (.lst upd_same (beside r hq))
end
section
variable {X : Cx} {e call : Expr} {es : List Expr} {f g : S → Res (S × D)} {fs : S → Res (S × List D)} {a b : Expr} {pos : Pos}
/-- tuple(x) -/
def uTup : List D → Option D
  | [.lst ds] => some (.tup ds)
  | [.tup ds] => some (.tup ds)
  | _ => none
theorem uTup_of {xs : List D} {d : D} (h : uTup xs = some d) : (∃ ds, xs = [.lst ds] ∧ d = .tup ds) ∨ ∃ ds, xs = [.tup ds] ∧ d = .tup ds := by
  unfold uTup at h
  split at h
  · cases h; exact .inl ⟨_, rfl, rfl⟩
  · cases h; exact .inr ⟨_, rfl, rfl⟩
  · cases h
def rTupOf (K : PySem.W.Frag) : List V → Hp → VK → Prop := fun xs H Q => ∃ p ys, xs = [.ref p] ∧ ((SqL K H p ys ∧ ∀ l, H l = none → Q (.ref l) (upd H l (.tup ys))) ∨ (SqT K H p ys ∧ Q (.ref p) H))
theorem ee_tupOf (ha : EB X es fs) (hp : ∀ {t}, PA X es t → PE X call (tCB (rTupOf X.K) t)) : EE X call (eCallD uTup fs) := by
  intro p m B okA s σ H W Q tk hm E hpost
  refine we_of (hp (paW X es)) ?_
  show WA X es σ H fun xs H1 => rTupOf X.K xs H1 Q
  refine Does.bind ha tk hm E hpost fun s1 xs vs H1 e1 l1 E1 r1 p1 => ?_
  dsimp only at p1
  cases hk : uTup xs with
  | none => rw [hk] at p1; exact (show False from p1).elim
  | some d =>
    rw [hk] at p1
    rcases uTup_of hk with ⟨ds, rfl, rfl⟩ | ⟨ds, rfl, rfl⟩
    · obtain ⟨v, rfl, r2⟩ := r1.one
      obtain ⟨a, ws, rfl, h1, h2⟩ := r2.lst
      exact ⟨a, ws, rfl, .inl ⟨Rd.sqL h1, newTup hm E1 h2 p1⟩⟩
    · obtain ⟨v, rfl, r2⟩ := r1.one
      have r3 := r2.tupV
      obtain ⟨a, ws, rfl, h1, h2⟩ := r2.tup
      exact ⟨a, ws, rfl, .inr ⟨SqT.of h1, Post.done (P := KV') (a := .tup ds) p1 E1 r3⟩⟩
/-- list(x) -/
def uLst : List D → Option D
  | [.lst ds] => some (.lst ds)
  | [.tup ds] => some (.lst ds)
  | _ => none
theorem uLst_of {xs : List D} {d : D} (h : uLst xs = some d) : (∃ ds, xs = [.lst ds] ∧ d = .lst ds) ∨ ∃ ds, xs = [.tup ds] ∧ d = .lst ds := by
  unfold uLst at h
  split at h
  · cases h; exact .inl ⟨_, rfl, rfl⟩
  · cases h; exact .inr ⟨_, rfl, rfl⟩
  · cases h
theorem ef_lstOf (ha : EB X es fs) (hp : ∀ {t}, PA X es t → PE X call (tCB (fun xs H Q => ∃ p ys, xs = [.ref p] ∧ (SqL X.K H p ys ∨ SqT X.K H p ys) ∧ ∀ l, H l = none → Q (.ref l) (upd H l (.lst ys))) t)) : EF X call (eCallD uLst fs) := by
  intro p m B okA s σ H W Q tk hm E hpost
  refine we_of (hp (paW X es)) ?_
  show WA X es σ H fun xs H1 => ∃ p ys, xs = [.ref p] ∧ (SqL X.K H1 p ys ∨ SqT X.K H1 p ys) ∧ ∀ l, H1 l = none → Q (.ref l) (upd H1 l (.lst ys))
  refine Does.bindF ha tk hm E hpost fun s1 xs vs H1 e1 l1 E1 r1 p1 => ?_
  dsimp only at p1
  cases hk : uLst xs with
  | none => rw [hk] at p1; exact (show False from p1).elim
  | some d =>
    rw [hk] at p1
    rcases uLst_of hk with ⟨ds, rfl, rfl⟩ | ⟨ds, rfl, rfl⟩
    · obtain ⟨v, rfl, r2⟩ := r1.one
      obtain ⟨a, ws, rfl, h1, h2⟩ := r2.lst
      exact ⟨a, ws, rfl, .inl (Rd.sqL h1), newLst hm E1 h2 p1⟩
    · obtain ⟨v, rfl, r2⟩ := r1.one
      obtain ⟨a, ws, rfl, h1, h2⟩ := r2.tup
      exact ⟨a, ws, rfl, .inr (SqT.of h1), newLst hm E1 h2 p1⟩
/-- xs + ys, lists -/
def rCatR : R2 := fun x y H Q => ∃ l b xs zs, x = .ref l ∧ y = .ref b ∧ Rd H l (.lst xs) ∧ Rd H b (.lst zs) ∧ xs.length + zs.length ≤ sizeLine ∧ ∀ p, H p = none → Q (.ref p) (upd H p (.lst (xs ++ zs)))
theorem op_catR : OpR X (binaryOp .Add) rCatR := by
  intro pins s σ H x y v u Q I rx ry h
  obtain ⟨l, b, xs, zs, rfl, rfl, hH, hB, hz, q⟩ := h
  cases rx
  cases ry
  obtain ⟨z, its, n, r, e⟩ := (show ObjOk X.prog X.w H s.heap l (.lst xs) from hH.ok I.hok)
  obtain ⟨z2, its2, n2, r2, e2⟩ := (show ObjOk X.prog X.w H s.heap b (.lst zs) from hB.ok I.hok)
  have hl := r.length
  have hl2 := r2.length
  refine PySem.P.add_list e e2 ?_ (by rw [List.size_toArray, List.size_toArray]; omega)
  have ea : its.toArray ++ its2.toArray = (its ++ its2).toArray := by simp
  rw [ea]
  exact ⟨.ref _, _, I.lnew (t' := s.toks) (r.append r2) (by rw [List.length_append]; omega), rfl, q _ I.fresh⟩
def eCat (f g : S → Res (S × D)) (s : S) : Res (S × D) := f s >>= fun (s1, x) => g s1 >>= fun (s2, y) => match x, y with
  | .lst xs, .lst ys => if xs.length + ys.length ≤ 100000 then .ok (s2, .lst (xs ++ ys)) else .stuck
  | _, _ => .stuck
theorem ef_cat (ha : ER X a f) (hb : ER X b g) : EF X (.BinOp a .Add b pos) (eCat f g) := by
  intro p m B okA s σ H W Q tk hm E hp
  refine we_of (pe_op op_catR (peW X a) (peW X b)) ?_
  show WE X a σ H fun v H1 => WE X b σ H1 fun u H2 => rCatR v u H2 Q
  refine Does.bindF ha tk hm E hp fun s1 x v H1 e1 l1 E1 r1 p1 => ?_
  refine Does.bindF hb tk hm E1 p1 fun s2 y u H2 e2 l2 E2 r2 p2 => ?_
  have r1' := stayR r1 hm e2 l2
  dsimp only at p2
  split at p2
  · rename_i xs ys
    obtain ⟨a1, vs, rfl, h1, h2⟩ := r1'.lst
    obtain ⟨a2, ws, rfl, g1, g2⟩ := r2.lst
    by_cases hl : xs.length + ys.length ≤ 100000
    · rw [if_pos hl] at p2
      exact ⟨a1, a2, vs, ws, rfl, rfl, h1, g1, by rw [h2.length, g2.length]; exact small_line hl, newLst hm E2 (h2.append g2) p2⟩
    · rw [if_neg hl] at p2; exact p2.elim
  · exact p2.elim
/-- xs + ys, tuples -/
def eCatT (f g : S → Res (S × D)) (s : S) : Res (S × D) := f s >>= fun (s1, x) => g s1 >>= fun (s2, y) => match x, y with
  | .tup xs, .tup ys => if xs.length + ys.length ≤ 100000 then .ok (s2, .tup (xs ++ ys)) else .stuck
  | _, _ => .stuck
theorem ee_catT (ha : EE X a f) (hb : EE X b g) : EE X (.BinOp a .Add b pos) (eCatT f g) := by
  intro p m B okA s σ H W Q tk hm E hp
  refine we_of (pe_op op_catA (peW X a) (peW X b)) ?_
  refine two (k := fun s2 x y => match x, y with | .tup xs, .tup ys => if xs.length + ys.length ≤ 100000 then .ok (s2, .tup (xs ++ ys)) else .stuck | _, _ => .stuck) (P3 := KV') (R := fun v u H2 => rCatA X.K v u H2 Q) ha hb tk hm E hp fun s2 x y v u H2 e2 l2 E2 r1 r2 p2 => ?_
  split at p2
  · rename_i xs ys
    cases r1 with
    | @tup a1 vs _ h1 h2 =>
      cases r2 with
      | @tup a2 ws _ g1 g2 =>
        by_cases hl : xs.length + ys.length ≤ 100000
        · rw [if_pos hl] at p2
          refine ⟨a1, a2, vs, ws, rfl, rfl, SqT.of h1, SqT.of g1, by rw [h2.length, g2.length]; exact small_line hl, fun hz => ?_, fun _ hz => ?_, fun _ _ => newTup hm E2 (h2.append g2) p2⟩
          · subst hz
            cases h2
            exact Post.done (P := KV') (a := .tup ys) p2 E2 (.tup g1 g2)
          · subst hz
            cases g2
            rw [List.append_nil] at p2
            exact Post.done (P := KV') (a := .tup xs) p2 E2 (.tup h1 h2)
        · rw [if_neg hl] at p2; exact p2.elim
  · exact p2.elim
/-- {"a": 1} -/
theorem upd_twice {H : Hp} {p : Addr} {o o' : HO} : upd (upd H p o) p o' = upd H p o' := by
  funext b
  by_cases e : b = p
  · rw [e, upd_same, upd_same]
  · rw [upd_ne e, upd_ne e, upd_ne e]
theorem ef_disp1 {k : Str} {i : Int} {j1 j2 : Nat} {p1 p2 : Pos} : EF X (.Dict [some (.Constant (.str k) j1 p1)] [.Constant (.int i) j2 p2] pos) (eC (.dK [.inr k] [.int i])) := by
  intro p m B okA s σ H W Q tk hm E hp
  refine we_of (pe_disp (pps_cons pe_str pe_int pps_nil) rfl rfl (fun z => by cases z) (show 1 ≤ 15 by decide)) ?_
  intro q hq
  refine ⟨upd_same, [(.inr k, .int i)], rfl, (show 1 ≤ 15 by decide), ?_⟩
  rw [upd_twice]
  exact hp.made hm E hq (RepO.dK (kvs := [(.inr k, .int i)]) upd_same (.cons (.int i) .nil))
end
section
variable {s s1 s2 : S} {f g : S → Res (S × D)} {xs ys : List D}
theorem ev_cat (h1 : f s = .ok (s1, .lst xs)) (h2 : g s1 = .ok (s2, .lst ys)) (h3 : xs.length + ys.length ≤ 100000) : eCat f g s = .ok (s2, .lst (xs ++ ys)) := by unfold eCat; rw [h1]; show (g s1 >>= _) = _; rw [h2]; show (if xs.length + ys.length ≤ 100000 then _ else _) = _; rw [if_pos h3]
theorem ev_catT (h1 : f s = .ok (s1, .tup xs)) (h2 : g s1 = .ok (s2, .tup ys)) (h3 : xs.length + ys.length ≤ 100000) : eCatT f g s = .ok (s2, .tup (xs ++ ys)) := by unfold eCatT; rw [h1]; show (g s1 >>= _) = _; rw [h2]; show (if xs.length + ys.length ≤ 100000 then _ else _) = _; rw [if_pos h3]
end
end SM

set_option Elab.async false
set_option linter.all false
set_option maxRecDepth 100000
set_option maxHeartbeats 4000000
namespace SM
variable [Tab]
open PySem PySem.Spec PyProof.Rows L2

/-! ## in the law itself: nothing stands throughout -/
def DoesS0 (X : Cx) (T : TS) (f : S → Res (S × Fl)) : Prop :=
  ∀ (p m : Option Addr) (s : S) (σ : L2.St) (H : Hp) (W : WX) (Z : Ends), Takes X W → (m = p ∨ m = none) → Env (sg X p) m (fun _ => none) (fun _ => True) s σ H → PostS (sg X p) m (fun _ => none) (fun _ => True) W Z (f s) → T Z σ H
abbrev SS0 (X : Cx) (st : Stmt) (f : S → Res (S × Fl)) : Prop := DoesS0 X (WS X st) f
abbrev SB0 (X : Cx) (st : List Stmt) (f : S → Res (S × Fl)) : Prop := DoesS0 X (WB X st) f
section
variable {X : Cx} {st : Stmt} {rest a b : List Stmt} {c : Expr} {t : S → Res (S × Bool)} {u v : S → Res (S × Fl)} {pos : Pos}
theorem sb0_of (h : SB X rest v) : SB0 X rest v := fun p m s σ H W Z tk hm E hp => h p m _ _ s σ H W Z tk hm E hp
theorem ss0_of (h : SS X st u) : SS0 X st u := fun p m s σ H W Z tk hm E hp => h p m _ _ s σ H W Z tk hm E hp
theorem sb_one0 (h : SS0 X st u) : SB0 X [st] u := fun p m s σ H W Z tk hm E hp => wb_of (pss_one (psW X st)) (h p m s σ H W Z tk hm E hp)
theorem sb_cons0 (h : SS0 X st u) (r : SB0 X rest v) : SB0 X (st :: rest) (sSeq u v) := by
  intro p m s σ H W Z tk hm E hp
  refine wb_of (pss_cons (psW X st) (pbW X rest)) ?_
  show WS X st { Z with nx := WB X rest Z } σ H
  refine h p m s σ H W _ tk hm E ?_
  unfold sSeq at hp
  cases hu : u s with
  | ok z =>
    obtain ⟨s1, fl⟩ := z
    rw [hu] at hp
    cases fl with
    | nx => exact fun σ' H' E' => r p m s1 σ' H' W Z tk hm E' hp
    | bk => exact hp
    | ct => exact hp
    | rt d => exact hp
  | exn c ns ds => rw [hu] at hp; exact hp
  | stuck => rw [hu] at hp; exact hp
theorem ss_if0 (hc : ET X c t) (ha : SB0 X a u) (hb : SB0 X b v) : SS0 X (.If c a b pos) (sIf t u v) := by
  intro p m s σ H W Z tk hm E hp
  refine ws_of (ps_if (ptW X c) (pbW X a) (pbW X b)) ?_
  show WT X c σ H fun k H1 => if k = true then WB X a Z σ H1 else WB X b Z σ H1
  refine Does.bindS hc tk hm E hp fun s1 k k' H1 E1 r1 p1 => ?_
  have r2 : k' = k := r1
  subst r2
  cases k' with
  | true => exact ha p m s1 σ H1 W Z tk hm E1 p1
  | false => exact hb p m s1 σ H1 W Z tk hm E1 p1
end

/-! ## a list that others may hold is appended to: what may hold it is forgotten -/
mutual
/-- no value stands for both -/
def diffD : D → D → Bool
  | .tup xs, .tup ys => diffDs xs ys
  | .lst xs, .lst ys => diffDs xs ys
  | .tup _, .lst _ => true
  | .lst _, .tup _ => true
  | .non, .bl _ => true | .non, .int _ => true | .non, .str _ => true | .non, .tup _ => true | .non, .lst _ => true
  | .bl _, .non => true | .bl _, .int _ => true | .bl _, .str _ => true | .bl _, .tup _ => true | .bl _, .lst _ => true
  | .int _, .non => true | .int _, .bl _ => true | .int _, .str _ => true | .int _, .tup _ => true | .int _, .lst _ => true
  | .str _, .non => true | .str _, .bl _ => true | .str _, .int _ => true | .str _, .tup _ => true | .str _, .lst _ => true
  | .tup _, .non => true | .tup _, .bl _ => true | .tup _, .int _ => true | .tup _, .str _ => true
  | .lst _, .non => true | .lst _, .bl _ => true | .lst _, .int _ => true | .lst _, .str _ => true
  | .int i, .int j => decide (i ≠ j)
  | .bl i, .bl j => decide (i ≠ j)
  | .str i, .str j => decide (i ≠ j)
  | _, _ => false
def diffDs : List D → List D → Bool
  | [], [] => false
  | [], _ :: _ => true
  | _ :: _, [] => true
  | x :: xs, y :: ys => diffD x y || diffDs xs ys
end
section
variable {Γ : Sig} {ok ok' : Addr → Prop} {H : Hp}
theorem Rep.lst_at {a : Addr} {ds : List D} (r : Rep Γ ok H (.ref a) (.lst ds)) : ∃ vs, H a = some (.lst vs) ∧ Reps Γ ok H vs ds := by
  cases r with
  | lst h1 h2 h3 => exact ⟨_, h2, h3⟩
mutual
theorem diff_no : ∀ (x y : D) (v : V), diffD x y = true → Rep Γ ok H v x → Rep Γ ok' H v y → False
  | .tup xs, y, v, h, r, q => by
    cases r with
    | @tup a vs _ h1 h2 =>
      cases q with
      | @tup _ ws ys g1 g2 =>
        rw [h1] at g1
        cases g1
        exact diffs_no xs ys vs (by simpa only [diffD] using h) h2 g2
      | lst _ g _ => rw [h1] at g; cases g
      | _ => simp [diffD] at h
  | .lst xs, y, v, h, r, q => by
    cases r with
    | @lst a vs _ h0 h1 h2 =>
      cases q with
      | @lst _ ws ys _ g1 g2 =>
        rw [h1] at g1
        cases g1
        exact diffs_no xs ys vs (by simpa only [diffD] using h) h2 g2
      | tup g _ => rw [h1] at g; cases g
      | _ => simp [diffD] at h
  | .non, y, v, h, r, q => by cases r; cases q; simp [diffD] at h
  | .bl _, y, v, h, r, q => by cases r; cases q; simp [diffD] at h
  | .int _, y, v, h, r, q => by cases r; cases q; simp [diffD] at h
  | .str _, y, v, h, r, q => by cases r; cases q; simp [diffD] at h
  | .dK _ _, y, v, h, r, q => by cases y <;> simp [diffD] at h
  | .dT _ _, y, v, h, r, q => by cases y <;> simp [diffD] at h
  | .ins _ _ _, y, v, h, r, q => by cases y <;> simp [diffD] at h
  | .pen, y, v, h, r, q => by cases y <;> simp [diffD] at h
  | .glo _, y, v, h, r, q => by cases y <;> simp [diffD] at h
  | .ty _, y, v, h, r, q => by cases y <;> simp [diffD] at h
  | .lam _ _, y, v, h, r, q => by cases y <;> simp [diffD] at h
  | .clo _ _, y, v, h, r, q => by cases y <;> simp [diffD] at h
  | .xo _ _ _, y, v, h, r, q => by cases y <;> simp [diffD] at h
theorem diffs_no : ∀ (xs ys : List D) (vs : List V), diffDs xs ys = true → Reps Γ ok H vs xs → Reps Γ ok' H vs ys → False
  | [], ys, vs, h, r, q => by cases r; cases q; simp [diffDs] at h
  | x :: xs, ys, vs, h, r, q => by
    cases r with
    | cons r1 r2 =>
      cases q with
      | @cons _ _ y ys q1 q2 =>
        rcases Bool.or_eq_true_iff.mp (show (diffD x y || diffDs xs ys) = true by simpa only [diffDs] using h) with z | z
        · exact diff_no x y _ z r1 q1
        · exact diffs_no xs ys _ z r2 q2
end
end
mutual
/-- the list z is not within -/
def freeOf (z : D) : D → Bool
  | .lst ds => diffD z (.lst ds) && freeOfs z ds
  | .tup ds => freeOfs z ds
  | .dK _ ds => freeOfs z ds
  | .dT _ ds => freeOfs z ds
  | .ins _ _ ds => freeOfs z ds
  | .xo _ _ ds => freeOfs z ds
  | .clo _ ds => freeOfs z ds
  | _ => true
def freeOfs (z : D) : List D → Bool
  | [] => true
  | d :: ds => freeOf z d && freeOfs z ds
end
section
variable {Γ : Sig} {ok ok' okz : Addr → Prop} {H : Hp} {a : Addr} {zs : List D} {vs : List V} {o' : HO}
mutual
theorem off_keeps (hz : Rep Γ okz H (.ref a) (.lst zs)) (ha : H a = some (.lst vs)) (w : ∀ b, ok b → ok' b) : ∀ (d : D) (v : V), freeOf (.lst zs) d = true → Rep Γ ok H v d → Rep Γ ok' (upd H a o') v d
  | .non, _, _, r => by cases r; exact .non
  | .bl _, _, _, r => by cases r; exact .bl _
  | .int _, _, _, r => by cases r; exact .int _
  | .str _, _, _, r => by cases r; exact .str _
  | .tup ds, _, p, r => by
    cases r with
    | tup h2 h3 => exact .tup (by rw [upd_ne fun z => by rw [z, ha] at h2; cases h2]; exact h2) (offs_keeps hz ha w ds _ (by simpa only [freeOf] using p) h3)
  | .lst ds, _, p, r => by
    have p' : diffD (.lst zs) (.lst ds) = true ∧ freeOfs (.lst zs) ds = true := by simpa only [freeOf, Bool.and_eq_true] using p
    have r0 := r
    cases r with
    | @lst b vs' _ h1 h2 h3 =>
      refine .lst (w _ h1) ?_ (offs_keeps hz ha w ds _ p'.2 h3)
      rw [upd_ne fun z => by rw [z] at r0; exact diff_no _ _ _ p'.1 hz r0]
      exact h2
  | .dK ks ds, _, p, r => by
    cases r with
    | dK h1 h2 h3 =>
      refine .dK (w _ h1) ?_ (offs_keeps hz ha w ds _ (by simpa only [freeOf] using p) h3)
      rcases h2 with h2 | ⟨o, h2⟩
      · exact .inl (by rw [upd_ne fun z => by rw [z, ha] at h2; cases h2]; exact h2)
      · exact .inr ⟨o, by rw [upd_ne fun z => by rw [z, ha] at h2; cases h2]; exact h2⟩
  | .dT ks ds, _, p, r => by
    cases r with
    | dT h1 h2 h3 =>
      refine .dT (w _ h1) ?_ (offs_keeps hz ha w ds _ (by simpa only [freeOf] using p) h3)
      rcases h2 with h2 | ⟨o, h2⟩
      · exact .inl (by rw [upd_ne fun z => by rw [z, ha] at h2; cases h2]; exact h2)
      · exact .inr ⟨o, by rw [upd_ne fun z => by rw [z, ha] at h2; cases h2]; exact h2⟩
  | .ins c ns ds, _, p, r => by
    cases r with
    | ins h1 h2 h3 h4 => exact .ins (w _ h1) h2 (by rw [upd_ne fun z => by rw [z, ha] at h3; cases h3]; exact h3) (offs_keeps hz ha w ds _ (by simpa only [freeOf] using p) h4)
  | .pen, _, _, r => by
    cases r with
    | pen h1 => exact .pen h1
  | .glo _, _, _, r => by
    cases r with
    | glo h1 => exact .glo h1
  | .ty _, _, _, r => by cases r; exact .ty _
  | .lam j cs, _, _, r => by
    cases r with
    | lam _ _ h2 h4 => exact .lam j cs (by rw [upd_ne fun z => by rw [z, ha] at h2; cases h2]; exact h2) (by rw [upd_ne fun z => by rw [z, ha] at h4; cases h4]; exact h4)
  | .clo j ds, _, p, r => by
    cases r with
    | clo _ h2 h4 h5 h8 h6 h7 => exact .clo j (by rw [upd_ne fun z => by rw [z, ha] at h2; cases h2]; exact h2) (by rw [upd_ne fun z => by rw [z, ha] at h4; cases h4]; exact h4) h5 h8 (h6.mono fun b φ hb => by rw [upd_ne fun z => by rw [z, ha] at hb; cases hb]; exact hb) (offs_keeps hz ha w ds _ (by simpa only [freeOf] using p) h7)
  | .xo c ns ds, _, p, r => by
    cases r with
    | xo h1 h2 h3 h4 => exact .xo h1 (by rw [upd_ne fun z => by rw [z, ha] at h2; cases h2]; exact h2) (by rw [upd_ne fun z => by rw [z, ha] at h3; cases h3]; exact h3) (offs_keeps hz ha w ds _ (by simpa only [freeOf] using p) h4)
    | xo0 h1 h2 => exact .xo0 h1 (by rw [upd_ne fun z => by rw [z, ha] at h2; cases h2]; exact h2)
theorem offs_keeps (hz : Rep Γ okz H (.ref a) (.lst zs)) (ha : H a = some (.lst vs)) (w : ∀ b, ok b → ok' b) : ∀ (ds : List D) (us : List V), freeOfs (.lst zs) ds = true → Reps Γ ok H us ds → Reps Γ ok' (upd H a o') us ds
  | [], _, _, r => by cases r; exact .nil
  | d :: ds, _, p, r => by
    have p' : freeOf (.lst zs) d = true ∧ freeOfs (.lst zs) ds = true := by simpa only [freeOfs, Bool.and_eq_true] using p
    cases r with
    | cons h1 h2 => exact .cons (off_keeps hz ha w d _ p'.1 h1) (offs_keeps hz ha w ds _ p'.2 h2)
end
end
/-- what is left of a slot -/
def dropSl (z : D) : Sl → Sl
  | .fz d => if freeOf z d = true then .fz d else .no
  | _ => .no
/-- xs.append(e), whoever else holds xs -/
def sAppF (i : Nat) (f : S → Res (S × D)) (s : S) : Res (S × Fl) := match s.sl[i]? with
  | some (.fz (.lst ds)) => f s >>= fun (s1, _) => (match s1.sl[i]? with
    | some (.fz (.lst ds')) => if ds'.length < 100000 then .ok (⟨s1.sl.map (dropSl (.lst ds')), none⟩, .nx) else .stuck
    | _ => .stuck)
  | _ => .stuck
section
variable {X : Cx} {e : Expr} {f : S → Res (S × D)} {x : Str} {pos p' : Pos}
theorem ss_appF (i : Nat) {apos cpos : Pos} (he : EE X e f) (hi : X.N[i]? = some x := by rfl) (hv : Vis X.env.scope x := by first | exact Or.inl rfl | exact Or.inr (Or.inl rfl) | exact Or.inr (Or.inr rfl)) (hd : (x == ("__debug__" : Str)) = false := by decide)
    (hcd : (x == ("__classdict__" : Str)) = false := by decide) (hst : starEach [e] X.env = (false, eval e X.env) :: starEach [] X.env := by rfl) (hline : (apos.endLine == cpos.line) = true := by rfl)
    (hs : swapsWith (.Call (.Attribute (.Name x p') "append" apos) [e] [] cpos) none pos.line X.env = pure false := by rfl)
    (hbase : attributeBase (.Name x p') "append" X.env (eval (.Name x p') X.env) = eval (.Name x p') X.env := by rfl)
    (hfew : ((backTo cpos (starEach [e] X.env)).all (fun x => !x.1) && (backToKw cpos (keywordEach [] X.env)).all (fun x => x.1.isSome)
      && decide (([e] : List Expr).length + ([] : List Keyword).length + (if ([] : List Keyword).isEmpty then 0 else 1) < 30)) = true := by rfl) :
    SS0 X (.Expr (.Call (.Attribute (.Name x p') "append" apos) [e] [] cpos) pos) (sAppF i f) := by
  intro p m s σ H W Z tk hm E hp
  have ha : PA X [e] (tCons (WE X e) tNil) := pa_cons (peW X e) pa_nil hst
  refine ws_of (ps_expr (pe_bm PySem.F.plainAttrs_list PySem.F.slot_list_append PySem.F.type_list_append mt_append (pv i hi hv hd hcd) ha hbase hfew hline hst (by rfl)) hs) ?_
  show tVar i σ H fun z H1 => tyV X.K "list" z H1 ∧ WE X e σ H1 fun xv H2 => rAppend z [xv] H2 fun _ H3 => Z.nx σ H3
  unfold sAppF at hp
  split at hp
  · rename_i ds h1
    obtain ⟨v0, q1, q2⟩ := E.fz i _ h1
    cases q2 with
    | @lst a vs _ a1 a2 a3 =>
      refine ⟨_, q1, .inl ⟨rfl, _, SqL.of a2⟩, ?_⟩
      refine Does.bindS he tk hm E hp fun s1 d v H1 E1 r1 p1 => ?_
      dsimp only at p1
      split at p1
      · rename_i ds' h2
        obtain ⟨v1, y1, y2⟩ := E1.fz i _ h2
        rw [q1] at y1
        cases y1
        have y0 := y2
        cases y2 with
        | @lst _ vs' _ b1 b2 b3 =>
          by_cases hl : ds'.length < 100000
          · rw [if_pos hl] at p1
            refine ⟨a, vs', v, rfl, rfl, b2, by rw [b3.length]; exact small_lt hl, p1 _ _ ?_⟩
            have sg' : ∀ (j : Nat) (z : Sl), (s1.sl.map (dropSl (.lst ds')))[j]? = some z → z = .no ∨ ∃ d, z = .fz d ∧ s1.sl[j]? = some (.fz d) ∧ freeOf (.lst ds') d = true := fun j z hz => by
              rw [List.getElem?_map] at hz
              cases hj : s1.sl[j]? with
              | none => rw [hj] at hz; cases hz
              | some sl =>
                rw [hj] at hz
                have hz : dropSl (.lst ds') sl = z := by simpa using hz
                cases sl with
                | fz d =>
                  have hz : (if freeOf (.lst ds') d = true then Sl.fz d else .no) = z := hz
                  by_cases hf : freeOf (.lst ds') d = true
                  · rw [if_pos hf] at hz
                    exact .inr ⟨d, hz.symm, rfl, hf⟩
                  · rw [if_neg hf] at hz; exact .inl hz.symm
                | no => exact .inl hz.symm
                | ow d => exact .inl hz.symm
            have no : ∀ j b, ¬ OwnAt (⟨s1.sl.map (dropSl (.lst ds')), none⟩ : S) σ j b := fun j b ⟨⟨d, z⟩, _⟩ => by
              rcases sg' j _ z with z | ⟨_, z, _⟩ <;> cases z
            refine ⟨by show (s1.sl.map _).length = _; rw [List.length_map]; exact E1.len, .inl rfl, ⟨fun _ _ _ _ z => (nomatch z), fun _ _ z => (nomatch z), fun _ z => absurd rfl z, fun P' ⟨_, z, _⟩ => (nomatch z), fun _ _ z => (nomatch z)⟩, fun j b z => absurd z (no j b), fun _ _ => True.intro, fun j d z => ?_, fun j d z => ?_, fun j l b z => absurd z (no j b), True.intro, fun b hb => ?_, fun P hP => tab_wrote (E1.tb P hP) b2 (fun _ => nofun) fun _ => nofun⟩
            · rcases sg' j _ z with z | ⟨d', z, z1, z2⟩
              · cases z
              · cases z
                obtain ⟨u, u1, u2⟩ := E1.fz j d z1
                exact ⟨u, u1, off_keeps y0 b2 (fun b h => ⟨h.1, h.2.1, fun j => no j b⟩) d u z2 u2⟩
            · rcases sg' j _ z with z | ⟨_, z, _⟩ <;> cases z
            · by_cases w : b = a
              · rw [w, upd_same]; exact nofun
              · rw [upd_ne w]; exact E1.pn b hb
          · rw [if_neg hl] at p1; exact p1.elim
      · exact p1.elim
  · exact hp.elim
end
end SM

set_option Elab.async false
set_option linter.all false
set_option maxRecDepth 100000
set_option maxHeartbeats 4000000
namespace SM
variable [Tab]
open PySem PySem.Spec PyProof.Rows L2

/-! ## == and != of plain data -/
section
variable {X : Cx} {k : Nat} {f g : S → Res (S × D)} {a b : Expr} {pos : Pos}
def eEqP (f g : S → Res (S × D)) (s : S) : Res (S × D) := f s >>= fun (s1, x) => g s1 >>= fun (s2, y) => match eqP x y with
  | some k => .ok (s2, .bl k)
  | none => .stuck
def eNeP (f g : S → Res (S × D)) (s : S) : Res (S × D) := f s >>= fun (s1, x) => g s1 >>= fun (s2, y) => match eqP x y with
  | some k => .ok (s2, .bl !k)
  | none => .stuck
def rPl (X : Cx) (nt : Bool) : R2 := fun x y H Q => ∃ (p : Option Addr) (ok : Addr → Prop) (d e : D) (b : Bool), Rep (sg X p) ok H x d ∧ Rep (sg X p) ok H y e ∧ eqP d e = some b ∧ Q (.bl (b != nt)) H
theorem eqP_of {d e : D} {b : Bool} (h : eqP d e = some b) : layD 60 d = true ∧ layD 60 e = true ∧ b = PyData.eqv (py d) (py e) := by
  unfold eqP at h
  by_cases hl : layD 60 d = true ∧ layD 60 e = true
  · rw [if_pos hl] at h; cases h; exact ⟨hl.1, hl.2, rfl⟩
  · rw [if_neg hl] at h; cases h
theorem op_eqPl (g : Good k X) : OpR X (compareOp .Eq) (rPl X false) := by
  intro pins s σ H x y v u Q I rx ry q
  obtain ⟨p, ok, d, e, b, r1, r2, h, q⟩ := q
  obtain ⟨l1, l2, rfl⟩ := eqP_of h
  obtain ⟨as, q1⟩ := reads_lay I.hok d 60 x v r1 l1 rx
  obtain ⟨bs, q2⟩ := reads_lay I.hok e 60 y u r2 l2 ry
  exact SeqAt.compareEq_reads q1 q2 (lay_ok d 60 l1).1 (lay_ok e 60 l2).1 (unit60 g.room (lay_ok d 60 l1).2) ⟨.bl _, H, I, rfl, by simpa using q⟩
theorem op_nePl (g : Good k X) : OpR X (compareOp .NotEq) (rPl X true) := by
  intro pins s σ H x y v u Q I rx ry q
  obtain ⟨p, ok, d, e, b, r1, r2, h, q⟩ := q
  obtain ⟨l1, l2, rfl⟩ := eqP_of h
  obtain ⟨as, q1⟩ := reads_lay I.hok d 60 x v r1 l1 rx
  obtain ⟨bs, q2⟩ := reads_lay I.hok e 60 y u r2 l2 ry
  exact SeqAt.compareNe_reads q1 q2 (lay_ok d 60 l1).1 (lay_ok e 60 l2).1 (unit60 g.room (lay_ok d 60 l1).2) ⟨.bl _, H, I, rfl, by simpa using q⟩
theorem ee_eqP (hg : Good k X) (ha : ER X a f) (hb : ER X b g) (hm' : behindInMarks .Eq b = false := by first | exact nomark _ | rfl) : EE X (.Compare a [.Eq] [b] pos) (eEqP f g) := by
  intro p m B okA s σ H W Q tk hm E hp
  refine we_of (pe_cmpR (op_eqPl hg) (peW X a) (peW X b) hm') ?_
  refine twoR (k := fun s2 x y => match eqP x y with | some k => .ok (s2, .bl k) | none => .stuck) (P3 := KV') ha hb tk hm E hp fun s2 x y v u H2 e2 l2 E2 r1 r2 p2 => ?_
  cases hk : eqP x y with
  | none => rw [hk] at p2; exact p2.elim
  | some c =>
    rw [hk] at p2
    exact ⟨p, _, x, y, c, r1.far, r2.far, hk, by simpa using Post.done (P := KV') (a := .bl c) p2 E2 (.bl c)⟩
theorem ee_neP (hg : Good k X) (ha : ER X a f) (hb : ER X b g) (hm' : behindInMarks .NotEq b = false := by first | exact nomark _ | rfl) : EE X (.Compare a [.NotEq] [b] pos) (eNeP f g) := by
  intro p m B okA s σ H W Q tk hm E hp
  refine we_of (pe_cmpR (op_nePl hg) (peW X a) (peW X b) hm') ?_
  refine twoR (k := fun s2 x y => match eqP x y with | some k => .ok (s2, .bl !k) | none => .stuck) (P3 := KV') ha hb tk hm E hp fun s2 x y v u H2 e2 l2 E2 r1 r2 p2 => ?_
  cases hk : eqP x y with
  | none => rw [hk] at p2; exact p2.elim
  | some c =>
    rw [hk] at p2
    exact ⟨p, _, x, y, c, r1.far, r2.far, hk, by simpa using Post.done (P := KV') (a := .bl !c) p2 E2 (.bl _)⟩
end
section
variable {s s1 s2 : S} {f g : S → Res (S × D)} {x y : D} {b : Bool}
theorem ev_eqP (h1 : f s = .ok (s1, x)) (h2 : g s1 = .ok (s2, y)) (h3 : eqP x y = some b) : eEqP f g s = .ok (s2, .bl b) := by unfold eEqP; rw [h1]; show (g s1 >>= _) = _; rw [h2]; show (match eqP x y with | some k => Res.ok (s2, D.bl k) | none => Res.stuck) = _; rw [h3]
theorem ev_neP (h1 : f s = .ok (s1, x)) (h2 : g s1 = .ok (s2, y)) (h3 : eqP x y = some b) : eNeP f g s = .ok (s2, .bl !b) := by unfold eNeP; rw [h1]; show (g s1 >>= _) = _; rw [h2]; show (match eqP x y with | some k => Res.ok (s2, D.bl !k) | none => Res.stuck) = _; rw [h3]
end
section
variable {P : Program} {w : World} {K : PySem.W.Frag} {mg : Str → Option Value} {base : Heap} {c q : Str} {ps : List Str} {st : Stmt}
theorem he_zero {l : List (Str × List Str)} (F : MeS K c "__eq__" q st) (hp : ps.length = 2) (hf : PySem.W.findIn K (.ref (He.ga K c)) "__eq__" = some (some (.ref (He.ma K (He.ga K c) "__eq__")))) (hi : PySem.W.isFn K (.ref (He.ma K (He.ga K c) "__eq__")) = true)
    (hbind : ∀ (kV doc pm : Value) (an : Option Addr) (cdv ct : Value) (us : List Value), us.length = ps.length → bindArgs (PySem.W.fnOf "__eq__" q (defArgs st) (defBody st) (defScope st) .none kV doc pm an cdv ct) ⟨us, []⟩ = pure (ps.zip us)) (hg : mg c = some (.ref (He.ga K c))) :
    ∀ C, mg c = some (.ref C) → ∃ f fd ps, PySem.W.findIn K (.ref C) "__eq__" = some (some (.ref f)) ∧ PySem.W.isFn K (.ref f) = true ∧ L2.Binds K fd ps [] ∧ FnG P w K mg base (4 * 0 + 2) f fd ps (spF K mg 2 (FqT l c 0)) := fun C hC => by
  rw [hg] at hC
  cases hC
  obtain ⟨fd, FD⟩ := F
  refine ⟨_, fd, ps, hf, hi, FD.bindsN hbind, (FnG.no hp _ fd).le fun ds h => absurd ?_ h⟩
  unfold FqT
  split
  · rename_i c' ns ds y
    by_cases hc : c' = c
    · rw [if_pos hc]; rfl
    · rw [if_neg hc]
  · rfl
end
end SM

set_option Elab.async false
set_option linter.all false
set_option maxRecDepth 100000
set_option maxHeartbeats 4000000
namespace SM
variable [Tab]
open PySem PySem.Spec PyProof.Rows L2
/-! ## a judgement, opened -/
theorem raw0 {X : Cx} {st : List Stmt} {f : S → Res (S × Fl)} (h : SB0 X st f) : ∀ (p m : Option Addr) (s : S) (σ : L2.St) (H : Hp) (W : WX) (Z : Ends), Takes X W → (m = p ∨ m = none) → Env (sg X p) m (fun _ => none) (fun _ => True) s σ H → PostS (sg X p) m (fun _ => none) (fun _ => True) W Z (f s) → WB X st Z σ H := h

/-! ## name = [..] on one line: stored before the block's names go -/
section
variable {X : Cx} {elt tg iter : Expr} {ifs : List Expr} {scope : Scope} {own : List (Str × Nat)} {pos spos py : Pos} {y : Str} {it : S → Res (S × List D)} {u : D → S → Option S} {t : S → Res (S × Bool)} {f : S → Res (S × D)} {ix : List Nat}
theorem EFT.bindS {T : TE} {p m : Option Addr} {B : Hp} {okA : Addr → Prop} {W : WX} {Z : Ends} {s : S} {σ : L2.St} {H : Hp} {k : S × D → Res (S × Fl)} {Q' : VK} (h : EFT X T f) (tk : Takes X W) (hm : m = p ∨ m = none) (E : Env (sg X p) m B okA s σ H) (hp : PostS (sg X p) m B okA W Z (f s >>= k))
    (hq : ∀ s1 d a H1, Env (sg X p) m B (fun b => okA b ∧ b ≠ a) s1 σ H1 → okA a → B a = none → p ≠ some a → RepO (sg X p) (Ok (sg X p) (fun b => okA b ∧ b ≠ a) s1 σ) H1 a d → PostS (sg X p) m B okA W Z (k (s1, d)) → Q' (.ref a) H1) : T σ H Q' := by
  refine h p m B okA s σ H W Q' tk hm E ?_
  cases hf : f s with
  | ok x =>
    obtain ⟨s1, d⟩ := x
    rw [hf] at hp
    exact fun a H1 e l E1 o1 o2 o3 o4 r => hq s1 d a H1 E1 o1 o2 o3 r hp
  | exn c ns ds =>
    rw [hf] at hp
    exact fun C dd fs H' e hd hc hx hn fr r => hp C dd fs σ H' (E.kp.trans e) (E.bNew hm hd) hc hx hn (fun p h => E.new p (fr p h)) r
  | stuck => rw [hf] at hp; exact hp
theorem ss_setL (i : Nat) (hc : X.calm = true) (hN : X.N.Nodup) (hi : IT X tg iter it) (ok : BlkOk X.N X.env.scope scope own) (hg : Blks X scope fun X => GD X tg u ix) (hx : ∀ j ∈ ix, j ∈ own.map (·.2))
    (ht : Blks X scope fun X => Does KB' X (PTsW X ifs) t) (he : Blks X scope fun X => EE X elt f) (hsw : swapsWith (.ListComp elt [⟨tg, iter, ifs, 0⟩] scope pos) (some (.Name y py)) spos.line X.env = pure true := by exact L2.sw_true rfl rfl rfl rfl) (hy : X.N[i]? = some y := by rfl) (hyl : X.env.scope.names.lookup y = some .local := by rfl)
    (hs : ∀ x, foldedSetIterable iter X.env x = pure x := by intro _; rfl) : SS X (.Assign [.Name y py] (.ListComp elt [⟨tg, iter, ifs, 0⟩] scope pos) spos) (sSet i (eLc it u t f (own.map (·.2)))) := by
  intro p m B okA s σ H W Z tk hm E hp
  refine ws_of (ps_lcW hc hN ok hy hyl hsw hs) ?_
  exact Does.bindS (EFT.does (ef_lcT hi hg hx ht he)) tk hm E hp fun s1 d v H1 E1 r1 p1 => wr_fz E1 r1 p1
theorem ss_ownL (i : Nat) (hc : X.calm = true) (hN : X.N.Nodup) (hi : IT X tg iter it) (ok : BlkOk X.N X.env.scope scope own) (hg : Blks X scope fun X => GD X tg u ix) (hx : ∀ j ∈ ix, j ∈ own.map (·.2))
    (ht : Blks X scope fun X => Does KB' X (PTsW X ifs) t) (he : Blks X scope fun X => EE X elt f) (hsw : swapsWith (.ListComp elt [⟨tg, iter, ifs, 0⟩] scope pos) (some (.Name y py)) spos.line X.env = pure true := by exact L2.sw_true rfl rfl rfl rfl) (hy : X.N[i]? = some y := by rfl) (hyl : X.env.scope.names.lookup y = some .local := by rfl)
    (hs : ∀ x, foldedSetIterable iter X.env x = pure x := by intro _; rfl) : SS X (.Assign [.Name y py] (.ListComp elt [⟨tg, iter, ifs, 0⟩] scope pos) spos) (sOwn i (eLc it u t f (own.map (·.2)))) := by
  intro p m B okA s σ H W Z tk hm E hp
  refine ws_of (ps_lcW hc hN ok hy hyl hsw hs) ?_
  refine EFT.bindS (ef_lcT hi hg hx ht he) tk hm E hp fun s1 d q H1 E1 o1 o2 o3 r1 p1 => ?_
  have hp1 : PostS (sg X p) m B okA W Z (wr i (.ow d) s1) := p1
  unfold wr at hp1
  by_cases hi : i < s1.sl.length
  · rw [if_pos hi] at hp1
    exact hp1 _ _ (Env.put_ow E1 hi o1 o2 o3 r1)
  · rw [if_neg hi] at hp1; exact hp1.elim
end
/-! ## == by own __eq__, as a test -/
section
variable {X : Cx} {l : List (Str × List Str)} {n : Nat} {a b : Expr} {f g : S → Res (S × D)} {pos : Pos}
theorem et_eqN (hC : ClsEq X l) (hE : ∀ j, j ≤ n → HE X l j) (hg : Good (4 * n + 2) X) (ha : ER X a f) (hb : ER X b g) (hm' : behindInMarks .Eq b = false := by first | exact nomark _ | rfl) : ET X (.Compare a [.Eq] [b] pos) (tCmp (eqN l n) f g) := by
  intro p m B okA s σ H W Q tk hm E hp
  refine wt_of (pt_cmpR (op_eqN hC hE hg) (peW X a) (peW X b) hm') ?_
  show WE X a σ H (fun v H1 => WE X b σ H1 fun u H2 => rAfter X n l v u H2 fun z H3 => ∃ k, z = .bl k ∧ Q k H3)
  refine twoR (k := fun s2 x y => match eqN l n x y with | some k => .ok (s2, k) | none => .stuck) (P3 := KB') ha hb tk hm E hp fun s2 x y v u H2 e2 l2 E2 r1 r2 p2 => ?_
  cases hk : eqN l n x y with
  | none => rw [hk] at p2; exact (show False from p2).elim
  | some c =>
    rw [hk] at p2
    refine ⟨p, _, x, y, c, hand_of E2, r1.far, r2.far, hk, fun H' e fr => ⟨c, rfl, ?_⟩⟩
    have E3 : Env (sg X p) m B okA s2 σ H' := E2.ext e.low (E2.hm (hm.symm.imp id id)) (E2.pen.keep (e.keeps fun _ _ => nofun) (fun _ z => z) fun q o _ f h => e.o q o nofun f h) (fun q hq => e.n q (E2.pn q hq)) fr
    exact p2 c H' e.low (Less.refl _) E3 rfl
theorem et_neN (hC : ClsEq X l) (hE : HNe X l n) (hg : Good (4 * n + 3) X) (ha : ER X a f) (hb : ER X b g) (hm' : behindInMarks .NotEq b = false := by first | exact nomark _ | rfl) : ET X (.Compare a [.NotEq] [b] pos) (tCmp (neN l n) f g) := by
  intro p m B okA s σ H W Q tk hm E hp
  refine wt_of (pt_cmpR (op_neN hC hE hg) (peW X a) (peW X b) hm') ?_
  show WE X a σ H (fun v H1 => WE X b σ H1 fun u H2 => rAfterN X n l v u H2 fun z H3 => ∃ k, z = .bl k ∧ Q k H3)
  refine twoR (k := fun s2 x y => match neN l n x y with | some k => .ok (s2, k) | none => .stuck) (P3 := KB') ha hb tk hm E hp fun s2 x y v u H2 e2 l2 E2 r1 r2 p2 => ?_
  cases hk : neN l n x y with
  | none => rw [hk] at p2; exact (show False from p2).elim
  | some c =>
    rw [hk] at p2
    refine ⟨p, _, x, y, c, hand_of E2, r1.far, r2.far, hk, fun H' e fr => ⟨c, rfl, ?_⟩⟩
    have E3 : Env (sg X p) m B okA s2 σ H' := E2.ext e.low (E2.hm (hm.symm.imp id id)) (E2.pen.keep (e.keeps fun _ _ => nofun) (fun _ z => z) fun q o _ f h => e.o q o nofun f h) (fun q hq => e.n q (E2.pn q hq)) fr
    exact p2 c H' e.low (Less.refl _) E3 rfl
end
end SM

set_option Elab.async false
set_option linter.all false
set_option maxRecDepth 100000
set_option maxHeartbeats 4000000
namespace SM
variable [Tab]
open PySem PySem.Spec PyProof.Rows L2
open PySem.W PySem.Calls
/-! ## an own exception, made by names too -/
section
variable {prog : Program} {w : World} {A : Around} {E : Value → Shared → Prop} {R : Result → Shared → Prop} {hh : Heap} {gg : Array GenState} {dr : Drawn} {tt : Nat} {oo : OsState}
variable {nm q : Str} {C N : Addr} {bs bm bmB : List Value} {hd : Bool} {sn : List Str} {sub : List Value} {ab : Bool} {col : Option Bool} {dd : Option Addr} {k0 k1 k2 k3 k5 : Option Value} {B nI iI : String} {pos : List Value} {kw : List (Str × Value)}
open HandSPX in
theorem newK_check {M : Model} (F : ExcBaseFacts B nI iI bmB) (hT : ∀ X : String, bm.contains (.type X) = bmB.contains (.type X)) {Q : Unit → Shared → Prop}
    (hC : hh.get? C = some (excClassObj nm q C N bs bm hd sn sub ab col dd k0 k1 k2 k3 k5 nI)) (hq : Q () ⟨hh, gg, dr, tt, oo⟩) : wpAny M A (checkBuiltinCall nI ⟨.ref C :: pos, kw⟩) Q E ⟨hh, gg, dr, tt, oo⟩ := by
  have in_ : (Value.ref C :: bm).contains (.type B) = true := by rw [List.contains_cons, hT, F.hasB, Bool.or_true]
  have star := F.noStar
  simp only [checkBuiltinCall, F.newKind, F.newSplit, F.newRow]
  repeat (first | refine wpAny_loadPart_at hC ?_ | (refine wpAny_isSubtype_exc hC ?_; rw [in_]) | refine wpAny_staticBase_exc hC ?_ | refine wpAny_madeBy_exc hC ?_ | simp only [bne_self_eq_false, Bool.false_eq_true, if_false] | wp_step)
  exact hq
open HandSPX in
theorem newK (F : ExcBaseFacts B nI iI bmB) (hT : ∀ X : String, bm.contains (.type X) = bmB.contains (.type X)) (hC : hh.get? C = some (excClassObj nm q C N bs bm hd sn sub ab col dd k0 k1 k2 k3 k5 nI))
    (hq : R (.ok (.ret (.ref (hh.objs.size + 1)))) ⟨(hh.push (kdv_tup pos)).push (excO C hh.objs.size), gg, dr, tt, oo⟩) (hl : pos.length ≤ sizeLine) : codeAny (model prog w) A (.builtin nI ⟨.ref C :: pos, kw⟩) R ⟨hh, gg, dr, tt, oo⟩ := by
  have ends := F.ends
  have in_ : (Value.ref C :: bm).contains (.type B) = true := by rw [List.contains_cons, hT, F.hasB, Bool.or_true]
  have noA : (Value.ref C :: bm).contains (.type "AttributeError") = false := by rw [List.contains_cons, hT, F.noAttr]; rfl
  have noN : (Value.ref C :: bm).contains (.type "NameError") = false := by rw [List.contains_cons, hT, F.noName]; rfl
  refine codeAny_builtinAt F.entry ?_
  unfold Builtin.«BaseException.__new__»
  refine PySem.wpAt_bind ?_
  show PySem.wpAt _ _ _ (stack >>= _) _ _ _
  refine PySem.wpAt_bind (PySem.wpAt_stack fun p below => PySem.wpAt_of_wpAny ?_)
  wp_walk
  refine PySem.wpAt_of_wpAny ?_
  rw [F.owner]
  repeat (first | with_reducible refine wpAny_madeHere_exc F.canon hC ?_ | with_reducible refine wpAny_loadPart_at hC ?_ | (with_reducible refine wpAny_isSubtype_exc hC ?_; first | rw [in_] | rw [noA] | rw [noN]) | wp_step)
  show R _ _
  rw [Heap.size_push]
  exact hq
open HandSPX in
theorem makeK_type (F : ExcBaseFacts B nI iI bmB) (hT : ∀ X : String, bm.contains (.type X) = bmB.contains (.type X)) {fI : Addr} {Q : Fin → Shared → Prop}
    (hC : hh.get? C = some (excClassObj nm q C N bs bm hd sn sub ab col dd k0 k1 k2 k3 k5 nI)) (hi : W.Looks (model prog w) hh (typeLookup (.ref C) "__init__") (some (.ref fI))) (hb : ∀ self, W.Looks (model prog w) hh (bindSpecial (.ref fI) self) (.ref fI, [self])) (hl : pos.length ≤ sizeLine)
    (hq : codeAny (model prog w) A (.call (.ref fI) ⟨.ref (hh.objs.size + 1) :: pos, kw⟩) (fun r s' => match r with
      | .ok (.ret v) => v = .none ∧ Q (.done (.ret (.ref (hh.objs.size + 1)))) s'
      | .ok _ => False
      | .error e => E e s') ⟨(hh.push (kdv_tup pos)).push (excO C hh.objs.size), gg, dr, tt, oo⟩) :
    wpAny (model prog w) A (Builtin.«type.__call__» ⟨.ref C :: pos, kw⟩) Q E ⟨hh, gg, dr, tt, oo⟩ := by
  repeat (first | with_reducible refine wpAny_loadPart_at hC ?_ | with_reducible refine wpAny_madeBy_exc hC ?_ | wp_step)
  refine codeAny_call_builtin_code (Code.quiet_builtin _ F.quiet) (newK_check F hT hC ?_)
  refine newK F hT hC ?_ hl
  show wpAny _ _ _ _ _ _
  have up : ∀ b o, hh.get? b = some o → ((hh.push (kdv_tup pos)).push (excO C hh.objs.size)).get? b = some o := fun b o e => Heap.get?_push_of_some _ (Heap.get?_push_of_some _ e)
  have C1 := up _ _ hC
  have own : ((hh.push (kdv_tup pos)).push (excO C hh.objs.size)).get? (hh.objs.size + 1) = some (excO C hh.objs.size) := by heap_get
  have self_ : (Value.ref C :: bm).contains (.ref C) = true := by simp
  have i1 := hi.keeps up
  have b1 := (hb (.ref (hh.objs.size + 1))).keeps up
  unfold isInstance
  repeat (first | with_reducible refine wpAny_loadPart_at own ?_ | (with_reducible refine wpAny_isSubtype_exc C1 ?_; rw [self_]) | wp_step)
  show wpAny _ _ (typeLookup (.ref C) _) _ _ _
  refine i1.at ?_
  refine wpAny_holding (wpAny_bind (b1.at ?_))
  refine wpAny_bind (wpAny_call (codeAny_mono hq fun r s' z => ?_))
  rcases r with e | (v | _ | _ | _) <;> first | exact z | exact z.elim | skip
  obtain ⟨rfl, z⟩ := z
  first
    | exact wpAny_pure (wpAny_pure z)
    | (wp_walk; exact z)
end
end SM

set_option Elab.async false
set_option linter.all false
set_option maxRecDepth 100000
set_option maxHeartbeats 4000000
namespace SM
variable [Tab]
open PySem PySem.Spec PyProof.Rows L2
open PySem.W PySem.Calls
section
variable {prog : Program} {w : World} {A : Around} {E : Value → Shared → Prop} {R : Result → Shared → Prop} {hh : Heap} {gg : Array GenState} {dr : Drawn} {tt : Nat} {oo : OsState}
variable {nm q : Str} {C N : Addr} {bs bm bmB : List Value} {hd : Bool} {sn : List Str} {sub : List Value} {ab : Bool} {col : Option Bool} {dd : Option Addr} {k0 k1 k2 k3 k5 : Option Value} {B nI iI : String} {pos : List Value} {kw : List (Str × Value)}
open HandSPX in
theorem typeK_check {M : Model} {Q : Unit → Shared → Prop} (hC : hh.get? C = some (excClassObj nm q C N bs bm hd sn sub ab col dd k0 k1 k2 k3 k5 nI)) (hq : Q () ⟨hh, gg, dr, tt, oo⟩) :
    wpAny M A (checkBuiltinCall "type.__call__" ⟨.ref C :: pos, kw⟩) Q E ⟨hh, gg, dr, tt, oo⟩ := by
  have sb := tc_sub
  have ty : (⟨hh, gg, dr, tt, oo⟩ : Shared).TypeIs (.ref C) "type" := ⟨_, hC, rfl⟩
  simp only [checkBuiltinCall, tc_kind, tc_split]
  repeat (any_goals (first | assumption | with_reducible refine wpAny_loadPart_at hC ?_ | with_reducible refine wpAny_onRaise ?_ | with_reducible refine wpAny_map ?_ | wp_step))
open HandSPX in
theorem callK_own (F : ExcBaseFacts B nI iI bmB) (hT : ∀ X : String, bm.contains (.type X) = bmB.contains (.type X)) {fI : Addr}
    (hC : hh.get? C = some (excClassObj nm q C N bs bm hd sn sub ab col dd k0 k1 k2 k3 k5 nI)) (hi : W.Looks (model prog w) hh (typeLookup (.ref C) "__init__") (some (.ref fI))) (hb : ∀ self, W.Looks (model prog w) hh (bindSpecial (.ref fI) self) (.ref fI, [self])) (hl : pos.length ≤ sizeLine)
    (hq : codeAny (model prog w) (A.under (.builtin "type.__call__" ⟨.ref C :: pos, kw⟩)) (.call (.ref fI) ⟨.ref (hh.objs.size + 1) :: pos, kw⟩) (W.InitBack (hh.objs.size + 1) R) ⟨(hh.push (kdv_tup pos)).push (excO C hh.objs.size), gg, dr, tt, oo⟩) :
    codeAny (model prog w) A (.call (.ref C) ⟨pos, kw⟩) R ⟨hh, gg, dr, tt, oo⟩ := by
  have lk := tc_lookup
  have bd := tc_bind (.ref C)
  have ty : (⟨hh, gg, dr, tt, oo⟩ : Shared).TypeIs (.ref C) "type" := ⟨_, hC, rfl⟩
  refine codeAny_of_tree ?_
  show wpAny _ _ (callAny (.ref C) _) _ _ _
  repeat (any_goals (first | assumption | with_reducible refine wpAny_loadPart_at hC ?_ | wp_step))
  refine ⟨rfl, ?_⟩
  refine codeAny_call_builtin_at (Code.quiet_builtin _ (by decide +kernel)) entry_typeCall (typeK_check hC (makeK_type F hT hC hi hb hl ?_))
  refine codeAny_mono hq fun r s' z => ?_
  rcases r with e | (v | _ | _ | _) <;> exact z
end
/-! ## .. by the layer's own measure -/
section
variable {X : Cx} {k : Nat} {C fI : Addr} {names ps : List Str} {fd : FuncData}
theorem run_mkX {sp : Sp} {pins : List (Addr × Obj)} {σ : L2.St} {H : Hp} {s : Shared} {Q : VK} {us us' : List Value} {kw : List (Str × Value)} {vs : List V} (EC : ErrC X.K C fI names) (F1 : FnG X.prog X.w X.K X.mg X.base k fI fd ps sp) (g : Good (k + 1) X) (I : Inv X pins σ H s) (r : Vals vs us') (hl : us.length ≤ sizeLine)
    (hb : ∀ (a : Addr) (s : Shared), X.K.In s.heap → (V.ref a :: vs).length = ps.length → BindsTo s fd ⟨.ref a :: us, kw⟩ (ps.zip (.ref a :: us')))
    (h : ∀ a, H a = none → sp (.ref a :: vs) (L2.upd H a (exo a C none)) (fun v H2 => v = .non ∧ Q (.ref a) H2) fun _ _ _ => False) :
    wpAny (model X.prog X.w) X.A (call (.ref C) us kw) (EP X pins σ Q) X.xe s := by
  obtain ⟨nm, q, N, bs, bm, sn, sub, ab, col, dd, k0, k1, k2, k3, k5, hC, hbm⟩ := EC.oex.cls
  obtain ⟨hp, gg, dr, tk, os⟩ := s
  have ha : hp.objs.size ≤ hp.objs.size + 1 := Nat.le_succ _
  have hq := h (hp.objs.size + 1) (I.hok.fresh ha)
  have kk : ∀ b o, hp.get? b = some o → ((hp.push (PySem.W.kdv_tup us)).push (PySem.HandSPX.excO C hp.objs.size)).get? b = some o := fun b o e => Heap.get?_push_of_some _ (Heap.get?_push_of_some _ e)
  have I2 : Inv X pins σ (L2.upd H (hp.objs.size + 1) (exo (hp.objs.size + 1) C none)) ⟨(hp.push (PySem.W.kdv_tup us)).push (PySem.HandSPX.excO C hp.objs.size), gg, dr, tk, os⟩ := I.laid (t' := tk) kk ha (exo_ok (t1 := hp.objs.size) (by heap_get))
  have r1 : Vals (V.ref (hp.objs.size + 1) :: vs) (Value.ref (hp.objs.size + 1) :: us') := .cons rfl r
  refine wpAny_call (callK_own F.excBase_ValueError (fun Y => PySem.HandSPX.refsVE_contains Y bm hbm) (I.kIn _ _ hC) (PySem.W.looks_findIn I.kIn EC.init) (fun self => PySem.W.bind_fn I.kIn self EC.fn) hl
    (codeAny_mono (F1.run _ X.stack _ _ ⟨Value.ref (hp.objs.size + 1) :: us, kw⟩ (Value.ref (hp.objs.size + 1) :: us') _ _ (fun _ _ _ => False) (g.room.make C us kw) (guards_make g.guards) (I2.env0.make C us kw) (hb _ _ I2.kIn (F1.len _ _ _ _ hq)) r1 hq) fun r s' hq' => ?_))
  match r, hq' with
  | .error e, hq' =>
    obtain ⟨_, _, _, _, _, _, _, _, _, _, _, _, z⟩ := hq'
    exact z.elim
  | .ok (.ret u), hq' =>
    obtain ⟨v, H', I3, rv, ev, q3⟩ := I2.after hq'
    subst ev
    exact ⟨rv, ⟨V.ref (hp.objs.size + 1), H', I3, rfl, q3⟩⟩
  | .ok .next, hq' => exact hq'.elim
  | .ok .brk, hq' => exact hq'.elim
  | .ok .cont, hq' => exact hq'.elim
/-- C(..), the object itself -/
def mkX (c : Str) (names : List Str) (ds : List D) : Res D := if ds.length = names.length ∧ ds.length ≤ 900 then .ok (.xo c names.reverse ds.reverse) else .stuck
theorem mkX_post {p m : Option Addr} {B : Hp} {okA : Addr → Prop} {s : S} {σ : L2.St} {H : Hp} {W : WX} {Q : VK} {vs : List V} {ds : List D} {a : Addr} {c : Str} (hm : m = p ∨ m = none) (E : Env (sg X p) m B okA s σ H) (hC : X.mg c = some (.ref C))
    (r : Reps (sg X p) (Ok (sg X p) okA s σ) H vs ds) (hp : Post KV' (sg X p) m B okA W σ s H Q (mkX c names ds >>= fun d => Res.ok (s, d))) (ha : H a = none) :
    spErr C names (.ref a :: vs) (L2.upd H a (exo a C none)) (fun v H2 => v = .non ∧ Q (.ref a) H2) fun _ _ _ => False := by
  unfold mkX at hp
  by_cases hl : ds.length = names.length ∧ ds.length ≤ 900
  case neg => rw [if_neg hl] at hp; exact hp.elim
  rw [if_pos hl] at hp
  have hv := r.length
  refine ⟨by rw [List.length_cons]; omega, a, vs, rfl, upd_same, fun d H' hd da h1 h2 h3 => ⟨rfl, ?_⟩⟩
  have hd1 : H d = none := by rw [upd_ne da] at hd; exact hd
  have same : ∀ b, b ≠ a → b ≠ d → H' b = H b := fun b hb hbd => by rw [h3 b hb hbd, upd_ne hb]
  have e : Ext none H H' := Ext.of_same fun b o z => by rw [same b (ne_of_none z ha) (ne_of_none z hd1)]; exact z
  have back : ∀ q, H' q = none → H q = none := fun q hq => by
    by_cases z : q = a
    · rw [z]; exact ha
    · by_cases y : q = d
      · rw [y]; exact hd1
      · rw [← same q z y]; exact hq
  have e1 : ((names.zip vs).reverse).map (·.1) = names.reverse := by rw [List.map_reverse, List.map_fst_zip (by omega)]
  have e2 : ((names.zip vs).reverse).map (·.2) = vs.reverse := by rw [List.map_reverse, List.map_snd_zip (by omega)]
  refine hp (.ref a) H' e.low (Less.refl _) (E.ext e.low (hm.symm.imp id id).symm (E.pen.keep (e.keeps fun _ _ => nofun) (fun _ z => z) fun q o _ f h => e.o q o nofun f h) (fun q hq => e.n q (E.pn q hq)) back) ?_
  rw [← e1]
  refine Rep.xo hC h1 h2 ?_
  rw [e2]
  exact Reps.rev (Reps.mono (e.keeps fun _ _ => nofun) (fun _ h _ => h) _ _ r)
/-- an __init__ of such a class -/
def OkX (P : Program) (w : World) (K : PySem.W.Frag) (mg : Str → Option Value) (base : Heap) (k : Nat) (c : Str) (names : List Str) : Prop :=
  ∃ fd, L2.Binds K fd ("self" :: names) [] ∧ KwB K fd ("self" :: names) 1 ∧ FnG P w K mg base k (He.ma K (He.ga K c) "__init__") fd ("self" :: names) (spErr (He.ga K c) names) ∧ ErrC K (He.ga K c) (He.ma K (He.ga K c) "__init__") names ∧ mg c = some (.ref (He.ga K c))
section
variable {c : Str} {e : Expr} {es : List Expr} {fs : S → Res (S × List D)} {kws : List Keyword} {pos pp : Pos}
theorem ee_mkX {j : Nat} (O : OkX X.prog X.w X.K X.mg X.base j c names) (hj : j + 1 ≤ k) (g : Good k X) (ha : EA X (e :: es) fs) (hn : names.length ≤ 900 := by decide) (hg : Gl X c := by rfl) (hdb : (c == ("__debug__" : Str)) = false := by decide)
    (he : starEach (e :: es) X.env = (false, eval e X.env) :: starEach es X.env := by rfl) (hpl : (backTo pos (starEach es X.env)).any (·.1) = false := by rfl) : EE X (.Call (.Name c pp) (e :: es) [] pos) (eCall (mkX c names) fs) := by
  obtain ⟨fd, hb, _, G, EC, hmg⟩ := O
  intro p m B okA s σ H W Q tk hm E hp
  refine we_mk fun pins s0 I => ?_
  refine wpAny_Call_Name_kw (ld_glob I hg hmg ?_ hdb)
  refine PySem.W.callWith_K (h₀ := X.base) I.ok.mod.kin EC.oex.kC (thn (?_ : wpAny _ _ _ (AP X pins σ fun vs H1 => vs.length = names.length ∧ ∀ a, H1 a = none → spErr (He.ga X.K c) names (.ref a :: vs) (L2.upd H1 a (exo a (He.ga X.K c) none)) (fun v H2 => v = .non ∧ Q (.ref a) H2) fun _ _ _ => False) _ _) fun us s1 ⟨vs, H1, I1, r, hl, q⟩ => ⟨I1.kIn, ?_⟩) he hpl
  · refine (paW X (e :: es)).run pos pins s0 σ H _ I ?_
    refine Does.bindL ha tk hm E hp fun s1 ds vs H1 hf e1 l1 E1 r1 p1 => ?_
    have hlen : ds.length = names.length := by
      by_cases z : ds.length = names.length ∧ ds.length ≤ 900
      · exact z.1
      · have p2 : Post KV' (sg X p) m B okA W σ s1 H1 Q (mkX c names ds >>= fun d => Res.ok (s1, d)) := p1
        unfold mkX at p2
        rw [if_neg z] at p2
        exact p2.elim
    exact ⟨r1.length.trans hlen, fun a ha => mkX_post hm E1 hmg r1 p1 ha⟩
  · refine run_mkX EC G (g.mono hj) I1 r (by show us.length ≤ sizeLine; rw [← Paired.length r, sizeLine_eq]; omega) (fun a s' hk hl => ?_) q
    have b := hb s' (.ref a :: us) hk (by rw [List.append_nil, ← hl, List.length_cons, List.length_cons, Paired.length r])
    rwa [List.append_nil] at b
theorem ee_mkXK {j : Nat} (O : OkX X.prog X.w X.K X.mg X.base j c names) (hj : j + 1 ≤ k) (g : Good k X) (hkw : EK X kws fs) (hg : Gl X c := by rfl) (hdb : (c == ("__debug__" : Str)) = false := by decide)
    (hall : (backToKw pos (keywordEach kws X.env)).all (·.1.isSome) = true := by rfl) (hks : (backToKw pos (keywordEach kws X.env)).filterMap (·.1) = names.reverse := by rfl)
    (hpl : ((backTo pos (starEach [] X.env)).any (·.1) || (backToKw pos (keywordEach kws X.env)).any (·.1.isNone)) = false := by rfl) : EE X (.Call (.Name c pp) [] kws pos) (eCall (rvF (mkX c names)) fs) := by
  obtain ⟨fd, _, kb, G, EC, hmg⟩ := O
  intro p m B okA s σ H W Q tk hm E hp
  refine we_mk fun pins s0 I => ?_
  refine wpAny_Call_Name_kw (ld_glob I hg hmg ?_ hdb)
  refine PySem.W.callWith_KW0 (h₀ := X.base) I.ok.mod.kin EC.oex.kC hall ?_ hpl
  refine thn (?_ : wpAny _ _ _ (AP X pins σ fun vs H1 => vs.length = names.length ∧ ∀ a, H1 a = none → spErr (He.ga X.K c) names (.ref a :: vs.reverse) (L2.upd H1 a (exo a (He.ga X.K c) none)) (fun v H2 => v = .non ∧ Q (.ref a) H2) fun _ _ _ => False) _ _) fun us s1 ⟨vs, H1, I1, r, hl, q⟩ => ⟨I1.kIn, ?_⟩
  · refine (?_ : WK X kws σ H _) pos pins s0 I
    refine Does.bindL hkw tk hm E hp fun s1 ds vs H1 hf e1 l1 E1 r1 p1 => ?_
    have p2 : Post KV' (sg X p) m B okA W σ s1 H1 Q (mkX c names ds.reverse >>= fun d => Res.ok (s1, d)) := p1
    have hlen : ds.reverse.length = names.length := by
      by_cases z : ds.reverse.length = names.length ∧ ds.reverse.length ≤ 900
      · exact z.1
      · unfold mkX at p2
        rw [if_neg z] at p2
        exact p2.elim
    rw [List.length_reverse] at hlen
    exact ⟨r1.length.trans hlen, fun a ha => mkX_post hm E1 hmg r1.rev p2 ha⟩
  · rw [hks]
    have rr : ∀ {vs : List V} {us : List Value}, Vals vs us → Vals vs.reverse us.reverse := fun {vs us} r => by
      induction r with
      | nil => exact .nil
      | cons h t ih =>
        rw [List.reverse_cons, List.reverse_cons]
        exact ih.append (.cons h .nil)
    refine run_mkX EC (us := []) (us' := us.reverse) G (g.mono hj) I1 (rr r) (by rw [sizeLine_eq]; exact Nat.zero_le _) (fun a s' hk hl' => ?_) q
    have hlen : us.length = vs.length := (Paired.length r).symm
    exact kb s' [.ref a] us hk rfl (by rw [List.drop_one, List.tail_cons]; omega)
end
end
end SM

set_option Elab.async false
set_option linter.all false
set_option maxRecDepth 100000
set_option maxHeartbeats 4000000
namespace SM
variable [Tab]
open PySem PySem.Spec PyProof.Rows L2
/-! ## an exception held: its class, its fields -/
structure XC (K : PySem.W.Frag) (C : Addr) : Prop where
  xf : XfC K C
  cl : (PySem.W.clsIn K C).isSome = true
  cc : PySem.W.findIn K (.ref C) "__class__" = some (some (.builtin "object.__class__"))
  sp : PySem.W.specialIn K (.builtin "object.__class__") "__get__" = some (some (.builtin "getset_descriptor.__get__"))
  tk : PySem.W.takesIn K (.builtin "object.__class__") = some true
  ob : PySem.W.mroIn K C (.type "object") = some true
def xcB (K : PySem.W.Frag) (C : Addr) : Bool := xfB K C && ((PySem.W.clsIn K C).isSome && (decide (PySem.W.findIn K (.ref C) "__class__" = some (some (.builtin "object.__class__"))) && (decide (PySem.W.specialIn K (.builtin "object.__class__") "__get__" = some (some (.builtin "getset_descriptor.__get__"))) &&
  (decide (PySem.W.takesIn K (.builtin "object.__class__") = some true) && decide (PySem.W.mroIn K C (.type "object") = some true)))))
omit [Tab] in
theorem xcB_ok {K : PySem.W.Frag} {C : Addr} (h : xcB K C = true) : XC K C := by
  obtain ⟨h1, h⟩ := Bool.and_eq_true_iff.mp h
  obtain ⟨h2, h⟩ := Bool.and_eq_true_iff.mp h
  obtain ⟨h3, h⟩ := Bool.and_eq_true_iff.mp h
  obtain ⟨h4, h⟩ := Bool.and_eq_true_iff.mp h
  obtain ⟨h5, h6⟩ := Bool.and_eq_true_iff.mp h
  exact ⟨xfB_ok h1, h2, of_decide_eq_true h3, of_decide_eq_true h4, of_decide_eq_true h5, of_decide_eq_true h6⟩
section
variable {X : Cx} {pins : List (Addr × Obj)} {σ : L2.St} {H : Hp} {s : Shared} {a C dd : Addr} {fs : List (Str × V)}
theorem xo_inst (I : Inv X pins σ H s) (h1 : H a = some (exo a C (some dd))) (h2 : H dd = some (exd dd fs)) : ∃ ox od, PySem.W.InstAt s.heap a ox C (some od) ∧ ∃ mA : Str → Option Value, (∀ n, PySem.W.lookIn n od = some (mA n)) ∧ ∀ f, RelO (fs.lookup f) (mA f) := by
  obtain ⟨t1, e1⟩ := exo_at I.hok h1
  obtain ⟨mA, hns, hr⟩ := exd_at I.hok h2
  obtain ⟨od, ho, hl⟩ := lookIn_ns hns
  exact ⟨_, od, ⟨e1, rfl, rfl, ho⟩, mA, hl, hr⟩
theorem xo0_inst (I : Inv X pins σ H s) (h1 : H a = some (exo a C none)) : ∃ ox, PySem.W.InstAt s.heap a ox C none := by
  obtain ⟨t1, e1⟩ := exo_at I.hok h1
  exact ⟨_, e1, rfl, rfl, trivial⟩
end
/-- e.f -/
def tXo (K : PySem.W.Frag) (te : TE) (f : Str) : TE := fun σ H Q => te σ H fun x H1 => ∃ (a C dd : Addr) (fs : List (Str × V)) (v : V), x = .ref a ∧ H1 a = some (exo a C (some dd)) ∧ H1 dd = some (exd dd fs) ∧ XC K C ∧ PySem.W.findIn K (.ref C) f = some none ∧ fs.lookup f = some v ∧ Q v H1
section
variable {X : Cx} {e : Expr} {te : TE} {f : Str} {pos : Pos} {g : S → Res (S × D)} {fx : Str → Str → Bool}
theorem pe_xo (he : PE X e te) (hb : attributeBase e f X.env (eval e X.env) = eval e X.env) : PE X (.Attribute e f pos) (tXo X.K te f) := by
  refine ⟨fun pins s σ H Q I h => ?_⟩
  refine attr_of hb (thn (he.run pins s σ H _ I h) fun u s1 ⟨x, H1, I1, rx, a, C, dd, fs, v, ex, h1, h2, T, no, l, q⟩ => ?_)
  subst ex
  obtain rfl : u = Value.ref a := rx
  obtain ⟨ox, od, J, mA, hl, hr⟩ := xo_inst I1 h1 h2
  obtain ⟨u, hu, ru⟩ := RelO.some_of (v := v) (o := mA f) (by rw [← l]; exact hr f)
  exact PySem.HandSPX.exc_get I1.kIn J T.xf.ga T.xf.gg T.xf.exC (PySem.W.findObj_own T.xf.hdC no rfl (by rw [hl, hu])) (handed_of ru) ⟨v, H1, I1.tok _, ru, q⟩
/-- the classes whose fields are read -/
def XfOk (X : Cx) (fx : Str → Str → Bool) : Prop := ∀ c f C, fx c f = true → X.mg c = some (.ref C) → XC X.K C ∧ PySem.W.findIn X.K (.ref C) f = some none
def eXf (fx : Str → Str → Bool) (f : Str) (g : S → Res (S × D)) (s : S) : Res (S × D) := g s >>= fun (s1, d) => match d with
  | .xo c ns ds => if fx c f = true then (match fldD ns ds f with
    | some d => .ok (s1, d)
    | none => .stuck) else .stuck
  | _ => .stuck
theorem RepR.xo {p : Option Addr} {ok : Addr → Prop} {H : Hp} {v : V} {c : Str} {ns : List Str} {ds : List D} (r : RepR (sg X p) ok H v (.xo c ns ds)) : ∃ a C, v = .ref a ∧ X.mg c = some (.ref C) ∧ ((∃ dd fs, H a = some (exo a C (some dd)) ∧ H dd = some (exd dd fs) ∧ fs.map (·.1) = ns ∧ Reps (sg X p) ok H (fs.map (·.2)) ds) ∨ (H a = some (exo a C none) ∧ ns = [] ∧ ds = [])) := by
  cases r with
  | of r =>
    cases r with
    | xo h1 h2 h3 h4 => exact ⟨_, _, rfl, h1, .inl ⟨_, _, h2, h3, rfl, h4⟩⟩
    | xo0 h1 h2 => exact ⟨_, _, rfl, h1, .inr ⟨h2, rfl, rfl⟩⟩
  | own _ r => cases r
end
end SM

set_option Elab.async false
set_option linter.all false
set_option maxRecDepth 100000
set_option maxHeartbeats 4000000
namespace SM
variable [Tab]
open PySem PySem.Spec PyProof.Rows L2
section
variable {X : Cx} {e : Expr} {f : Str} {pos pp : Pos} {g : S → Res (S × D)} {fx : Str → Str → Bool} {c : Str} {k : Nat}
theorem ee_xf (hF : XfOk X fx) (he : ER X e g) (hb : attributeBase e f X.env (eval e X.env) = eval e X.env := by rfl) : EE X (.Attribute e f pos) (eXf fx f g) := by
  intro p m B okA s σ H W Q tk hm E hp
  refine we_of (pe_xo (peW X e) hb) ?_
  show WE X e σ H fun x H1 => ∃ (a C dd : Addr) (fs : List (Str × V)) (v : V), x = .ref a ∧ H1 a = some (exo a C (some dd)) ∧ H1 dd = some (exd dd fs) ∧ XC X.K C ∧ PySem.W.findIn X.K (.ref C) f = some none ∧ fs.lookup f = some v ∧ Q v H1
  refine Does.bind he tk hm E hp fun s1 d v H1 e1 l1 E1 r1 p1 => ?_
  cases d with
  | xo c ns ds =>
    have p2 : Post KV' (sg X p) m B okA W σ s1 H1 Q (if fx c f = true then (match fldD ns ds f with | some d => .ok (s1, d) | none => .stuck) else .stuck) := p1
    by_cases hf : fx c f = true
    · rw [if_pos hf] at p2
      cases hl : fldD ns ds f with
      | none => rw [hl] at p2; exact p2.elim
      | some d =>
        rw [hl] at p2
        obtain ⟨a, C, rfl, h1, h⟩ := r1.xo
        rcases h with ⟨dd, fs, h2, h3, rfl, h4⟩ | ⟨_, rfl, rfl⟩
        · obtain ⟨v, hv, rv⟩ := zip_get h4 hl
          obtain ⟨c1, c2⟩ := hF c f C hf h1
          exact ⟨a, C, dd, fs, v, rfl, h2, h3, c1, c2, hv, Post.done (P := KV') (a := d) p2 E1 rv⟩
        · cases hl
    · rw [if_neg hf] at p2; exact p2.elim
  | _ => exact (show False from p1).elim
theorem ev_xf {s s1 : S} {ns : List Str} {ds : List D} {d : D} (h1 : g s = .ok (s1, .xo c ns ds)) (h2 : fx c f = true) (h3 : fldD ns ds f = some d) : eXf fx f g s = .ok (s1, d) := by
  unfold eXf; rw [h1]; show (if fx c f = true then (match fldD ns ds f with | some d => _ | none => _) else _) = _; rw [if_pos h2, h3]
/-! ## without fields -/
def spErr0 (C : Addr) : Sp := fun vs H Q E => ∃ a, vs = [.ref a] ∧ H a = some (exo a C none) ∧ Q .non H
def OkX0 (P : Program) (w : World) (K : PySem.W.Frag) (mg : Str → Option Value) (base : Heap) (k : Nat) (c : Str) : Prop :=
  ∃ fd, L2.Binds K fd ["self"] [] ∧ FnG P w K mg base k (He.ma K (He.ga K c) "__init__") fd ["self"] (spErr0 (He.ga K c)) ∧ ErrC K (He.ga K c) (He.ma K (He.ga K c) "__init__") [] ∧ mg c = some (.ref (He.ga K c))
theorem ee_mkX0 {j : Nat} (O : OkX0 X.prog X.w X.K X.mg X.base j c) (hj : j + 1 ≤ k) (g : Good k X) (hg : Gl X c := by rfl) (hdb : (c == ("__debug__" : Str)) = false := by decide) : EE X (.Call (.Name c pp) [] [] pos) (eC (.xo c [] [])) := by
  obtain ⟨fd, hb, G, EC, hmg⟩ := O
  intro p m B okA s σ H W Q tk hm E hp
  refine we_mk fun pins s0 I => ?_
  refine wpAny_Call_Name_kw (ld_glob I hg hmg ?_ hdb)
  refine PySem.W.callWith_K0 I.kIn EC.oex.kC (run_mkX EC (us := []) (us' := []) G (g.mono hj) I .nil (by rw [sizeLine_eq]; exact Nat.zero_le _) (fun a s' hk hl => ?_) fun a ha => ⟨a, rfl, upd_same, rfl, ?_⟩)
  · have b := hb s' [.ref a] hk (by rw [List.append_nil, ← hl]; rfl)
    rwa [List.append_nil] at b
  · have e : Ext none H (L2.upd H a (exo a (He.ga X.K c) none)) := Ext.new ha
    have back : ∀ q, L2.upd H a (exo a (He.ga X.K c) none) q = none → H q = none := fun q hq => by
      by_cases z : q = a
      · rw [z]; exact ha
      · rw [upd_ne z] at hq; exact hq
    exact hp (.ref a) _ e.low (Less.refl _) (E.ext e.low (hm.symm.imp id id).symm (E.pen.keep (e.keeps fun _ _ => nofun) (fun _ z => z) fun q o _ f h => e.o q o nofun f h) (fun q hq => e.n q (E.pn q hq)) back) (Rep.xo0 hmg upd_same)
/-! ## isinstance -/
def rIsiE (K : PySem.W.Frag) : List V → Hp → VK → Prop := fun xs H Q => ∃ (a C : Addr) (cv : V) (u : Value) (b : Bool), xs = [.ref a, cv] ∧ ((∃ dd fs, H a = some (exo a C (some dd)) ∧ H dd = some (exd dd fs)) ∨ H a = some (exo a C none)) ∧ XC K C ∧ ClsV cv u ∧ PySem.W.kitOne K (.ref C) u = some b ∧ Q (.bl b) H
theorem call_isiE : CallR X (.builtin "isinstance") (rIsiE X.K) := by
  intro pins s σ H xs us Q I r h
  obtain ⟨a, C, cv, u, b, rfl, hx, T, k, e, q⟩ := h
  obtain ⟨u1, u2, rfl, r1, r2⟩ := vals2 r
  have e2 := k.eq r2
  subst e2
  obtain rfl : u1 = Value.ref a := r1
  rcases hx with ⟨dd, fs, h1, h2⟩ | h1
  · obtain ⟨ox, od, J, _⟩ := xo_inst I h1 h2
    exact PySem.W.kia_one (PySem.W.kitx_exc (od := some od) T.cl T.xf.ga T.xf.gg T.xf.exC T.cc T.sp T.tk T.ob) I.kIn J e (fun z => nomatch z) fun tk => ⟨.bl b, H, I.tok tk, rfl, q⟩
  · obtain ⟨ox, J⟩ := xo0_inst I h1
    exact PySem.W.kia_one (PySem.W.kitx_exc (od := none) T.cl T.xf.ga T.xf.gg T.xf.exC T.cc T.sp T.tk T.ob) I.kIn J e (fun z => nomatch z) fun tk => ⟨.bl b, H, I.tok tk, rfl, q⟩
/-- the classes of errors: l, and what is above them -/
def exK (l : List Str) (top e c : Str) : Option Bool := if e ∈ l ∧ c ∈ l then some (decide (e = c)) else if e ∈ l ∧ c = top then some true else none
structure XK (X : Cx) (kx : Str → Str → Option Bool) : Prop where
  ok : ∀ e c b E C, kx e c = some b → X.mg e = some (.ref E) → X.mg c = some (.ref C) → XC X.K E ∧ PySem.W.kitOne X.K (.ref E) (.ref C) = some b
def isxD (kx : Str → Str → Option Bool) (x c : D) : Option D := match x, c with
  | .xo e _ _, .glo c => (kx e c).map .bl
  | _, _ => none
theorem isx_D {kx : Str → Str → Option Bool} (hk : XK X kx) : CallD X (rIsiE X.K) (q2 (isxD kx)) := callD2 fun p ok H v w x y d Q ho r1 r2 e q => by
  unfold isxD at e
  split at e
  · rename_i ec ns ds cc
    cases h : kx ec cc with
    | none => rw [h] at e; cases e
    | some b =>
      rw [h] at e
      cases e
      obtain ⟨a, C, rfl, h1, h2⟩ := r1.xo
      have h3 : ∃ u, X.mg cc = some (.ref u) ∧ w = .ref u := by
        cases r2 with
        | of r => cases r with
          | glo h => exact ⟨_, h, rfl⟩
        | own _ r => cases r
      obtain ⟨u, h3, rfl⟩ := h3
      obtain ⟨T, k1⟩ := hk.ok ec cc b C u h h1 h3
      refine ⟨a, C, .ref u, .ref u, b, rfl, ?_, T, .own u, k1, q _ (.bl b)⟩
      rcases h2 with ⟨dd, fs, e1, e2, _⟩ | ⟨e1, _⟩
      · exact .inl ⟨dd, fs, e1, e2⟩
      · exact .inr e1
  · cases e
end
end SM

set_option Elab.async false
set_option linter.all false
set_option maxRecDepth 100000
set_option maxHeartbeats 4000000
namespace SM
variable [Tab]
open PySem PySem.Spec PyProof.Rows L2
/-! ## raised and caught at once: try: raise C(..) / except Base: return a bool -/
def sTryR (names : List Str) (r : Bool) (fs : S → Res (S × List D)) (s : S) : Res (S × Fl) := match fs s with
  | .ok (s1, ds) => if ds.length = names.length ∧ ds.length ≤ 900 then .ok (bare s1, .rt (.bl r)) else .stuck
  | _ => .stuck
section
variable {X : Cx} {c x : Str} {names : List Str} {k j0 : Nat} {e : Expr} {es : List Expr} {fs : S → Res (S × List D)} {pp p0 p1 p2 p3 p4 np pos : Pos} {CT : Addr} {r : Bool}
theorem ss_tryR {j : Nat} (O : OkX X.prog X.w X.K X.mg X.base j c names) (hj : j + 1 ≤ k) (g : Good k X) (hc : ∀ pn xe, (X.tr pn xe).calm = true) (hs : X.stack = X.env :: X.outer) (hf : X.env.frame = some X.env.locals) (hx : Names X x (.ref CT)) (hk : PySem.W.exmOne X.K (.ref (He.ga X.K c)) (.ref CT) = some true)
    (ha : ∀ pn xe, EA (X.tr pn xe) (e :: es) fs) (hg : Gl X c := by rfl) (hdb : (c == ("__debug__" : Str)) = false := by decide)
    (he : starEach (e :: es) X.env = (false, eval e X.env) :: starEach es X.env := by rfl) (hpl : (backTo pos (starEach es X.env)).any (·.1) = false := by rfl) :
    SS X (.Try [.Raise (some (.Call (.Name c pp) (e :: es) [] pos)) none p0] [.ExceptHandler (some (.Name x np)) none [.Return (some (.Constant (.bool r) j0 p1)) p2] p3] [] [] p4) (sTryR names r fs) := by
  obtain ⟨fd, hb, _, G, EC, hmg⟩ := O
  intro p m B okA s σ H W Z tk hm E hp
  refine ws_of (ps_try_only (tb := fun W Z σ H => ∀ pn xe, Takes (X.tr pn xe) W → WB (X.tr pn xe) [.Raise (some (.Call (.Name c pp) (e :: es) [] pos)) none p0] Z σ H) (ts := fun _ _ _ => tRet (tC (.bl r))) hs hf hx tk (fun W pn xe tk' _ => ⟨fun pins s0 σ0 H0 Z0 I h => (pbW _ _).run pins s0 σ0 H0 Z0 I (h pn xe tk')⟩)
    (fun a oe cls d pn _ _ => pss_one (ps_ret pe_bl))) ?_
  intro pn xe tk'
  refine wb_of (pss_one (ps_raise (hc pn xe) tk' (pmk_own2 (X := X.tr pn xe) EC G ⟨(g.mono hj).room, (g.mono hj).guards⟩ hb hg hmg (paW (X.tr pn xe) (e :: es)) hdb he hpl))) ?_
  show WA (X.tr pn xe) (e :: es) σ H fun vs H1 => vs.length = names.length ∧ vs.length ≤ 900 ∧ ∀ d H', H1 d = none → H' d = some (.xd ((names.zip vs).reverse)) → (∀ b, b ≠ d → H' b = H1 b) → wOnly X.K (.ref CT) (fun _ _ _ => tRet (tC (.bl r))) W Z (.ref (He.ga X.K c)) (some d) σ H'
  unfold sTryR at hp
  cases hfs : fs s with
  | stuck => rw [hfs] at hp; exact hp.elim
  | exn c' ns ds => rw [hfs] at hp; exact hp.elim
  | ok y =>
    obtain ⟨s1, ds⟩ := y
    rw [hfs] at hp
    dsimp only at hp
    by_cases hl : ds.length = names.length ∧ ds.length ≤ 900
    case neg => rw [if_neg hl] at hp; exact hp.elim
    rw [if_pos hl] at hp
    refine ha pn xe p m B okA s σ H _ _ tk' hm E ?_
    rw [hfs]
    intro vs H1 e1 l1 E1 r1
    have hv : vs.length = ds.length := Reps.length r1
    refine ⟨hv.trans hl.1, by omega, fun d H' hd hxd ho => ⟨true, hk, fun _ a na => ?_, fun z => nomatch z⟩⟩
    have e2 : Ext m H1 H' := Ext.of_same fun b o z => by rw [ho b (ne_of_none z hd)]; exact z
    have fr : ∀ q, H' q = none → H1 q = none := fun q hq => by
      by_cases z : q = d
      · rw [z, hxd] at hq; cases hq
      · rw [ho q z] at hq; exact hq
    have E1' : Env (sg X p) m B okA s1 σ H1 := E1
    exact hp (.bl r) σ H' (E1'.bare e2 fr rfl) (.bl r)
end
end SM

set_option Elab.async false
set_option linter.all false
set_option maxRecDepth 100000
set_option maxHeartbeats 4000000
namespace SM
variable [Tab]
open PySem PySem.Spec PyProof.Rows L2
/-! ## errors as values: from the head -/
def xkB (K : PySem.W.Frag) (l : List Str) (top : Str) : Bool := l.all fun e => xcB K (He.ga K e) && ((l.all fun c => decide (PySem.W.kitOne K (.ref (He.ga K e)) (.ref (He.ga K c)) = some (decide (e = c)))) && (decide (PySem.W.kitOne K (.ref (He.ga K e)) (.ref (He.ga K top)) = some true) && decide (PySem.W.exmOne K (.ref (He.ga K e)) (.ref (He.ga K top)) = some true)))
def xfLB (K : PySem.W.Frag) (l : List (Str × List Str)) : Bool := l.all fun p => xcB K (He.ga K p.1) && p.2.all fun f => decide (PySem.W.findIn K (.ref (He.ga K p.1)) f = some none)
section
variable {X : Cx} {l : List Str} {top : Str}
theorem xk_ok (hm : ∀ c ∈ l, X.mg c = some (.ref (He.ga X.K c))) (ht : X.mg top = some (.ref (He.ga X.K top))) (h : xkB X.K l top = true) : XK X (exK l top) := ⟨fun e c b E C hk hE hC => by
  unfold exK at hk
  by_cases z : e ∈ l ∧ c ∈ l
  · rw [if_pos z] at hk
    cases hk
    rw [hm e z.1] at hE; cases hE
    rw [hm c z.2] at hC; cases hC
    obtain ⟨h1, h2⟩ := ba2 (List.all_eq_true.mp h e z.1)
    obtain ⟨h3, _⟩ := ba2 h2
    exact ⟨xcB_ok h1, of_decide_eq_true (List.all_eq_true.mp h3 c z.2)⟩
  · rw [if_neg z] at hk
    by_cases y : e ∈ l ∧ c = top
    · rw [if_pos y] at hk
      cases hk
      obtain ⟨y1, rfl⟩ := y
      rw [hm e y1] at hE; cases hE
      rw [ht] at hC; cases hC
      obtain ⟨h1, h2⟩ := ba2 (List.all_eq_true.mp h e y1)
      obtain ⟨_, h4⟩ := ba2 h2
      exact ⟨xcB_ok h1, of_decide_eq_true (ba2 h4).1⟩
    · rw [if_neg y] at hk; cases hk⟩
theorem xm_ok {K : PySem.W.Frag} (h : xkB K l top = true) {e : Str} (he : e ∈ l) : PySem.W.exmOne K (.ref (He.ga K e)) (.ref (He.ga K top)) = some true := of_decide_eq_true (ba2 (ba2 (ba2 (List.all_eq_true.mp h e he)).2).2).2
theorem xfl_ok {q : List (Str × List Str)} (hm : ∀ p ∈ q, X.mg p.1 = some (.ref (He.ga X.K p.1))) (h : xfLB X.K q = true) : XfOk X (flT q) := fun c f C hf hC => by
  obtain ⟨p, hp, z⟩ := List.any_eq_true.mp hf
  obtain ⟨z1, z2⟩ := ba2 z
  have e := of_decide_eq_true z1
  rw [← e, hm p hp] at hC
  cases hC
  obtain ⟨a, b⟩ := ba2 (List.all_eq_true.mp h p hp)
  exact ⟨xcB_ok a, show PySem.W.findIn X.K (.ref (He.ga X.K p.1)) f = some none from of_decide_eq_true (List.all_eq_true.mp b f (List.contains_iff_mem.mp z2))⟩
end
end SM

set_option Elab.async false
set_option linter.all false
set_option maxRecDepth 100000
set_option maxHeartbeats 4000000
namespace SM
open PySem PySem.Spec PyProof.Rows L2
/-! ## more rules of reckoning -/
theorem lc_cons {u : D → S → Option S} {t : S → Res (S × Bool)} {f : S → Res (S × D)} {vs : List Nat} {d y : D} {ds acc : List D} {s s1 s2 s3 : S} {r : Res (S × List D)} (hu : u d s = some s1) (ht : t s1 = .ok (s2, true)) (hf : f s2 = .ok (s3, y)) (hw : canWipe s3 vs = true) (ha : decide (acc.length < 100000) = true) (h : lcA u t f vs ds (acc ++ [y]) (wipeS s3 vs) = r) : lcA u t f vs (d :: ds) acc s = r := by
  have e1 : noX (t s1) = .ok (s2, true) := by rw [ht]; rfl
  have e2 : noX (f s2) = .ok (s3, y) := by rw [hf]; rfl
  unfold lcA
  rw [hu]
  dsimp only
  rw [e1]
  simp only [Res.ok_bind]
  rw [if_pos trivial, e2]
  simp only [Res.ok_bind]
  rw [if_pos ⟨hw, of_decide_eq_true ha⟩]
  exact h
theorem loop_nx {u : D → S → Option S} {b : S → Res (S × Fl)} {d : D} {ds : List D} {s s1 s2 : S} {r : Res (S × Fl)} (hu : u d s = some s1) (hb : b s1 = .ok (s2, .nx)) (h : loopF u b ds s2 = r) : loopF u b (d :: ds) s = r := by
  unfold loopF
  rw [hu]
  show (b s1 >>= _) = _
  rw [hb]
  exact h
theorem es_app {i : Nat} {f : S → Res (S × D)} {s s1 : S} {d : D} {ds : List D} (h0 : isLst s.sl[i]? = true) (h1 : f s = .ok (s1, d)) (h2 : s1.sl[i]? = some (.ow (.lst ds))) (h3 : decide (ds.length < 100000) = true) : sApp i f s = .ok (s1.put i (.ow (.lst (ds ++ [d]))), .nx) := by
  unfold sApp
  rw [if_pos h0, h1]
  show (match s1.sl[i]? with
    | some (.ow (.lst ds)) => if ds.length < 100000 then _ else _
    | _ => _) = _
  rw [h2]
  show (if ds.length < 100000 then _ else _) = _
  rw [if_pos (of_decide_eq_true h3)]
theorem runP_nx {N : List Str} {bd : S → Res (S × Fl)} {ds : List D} {pn : Option Mu} {s1 : S} (h1 : bd (entry N ds pn) = .ok (s1, .nx)) : runP N bd ds pn = .ok (.non, s1.pn) := by unfold runP; rw [h1]
theorem item_nat {ds : List D} {j : Nat} {d : D} (h : ds[j]? = some d) : itemD (.lst ds) (.int j) = some d := by
  have hl : j < ds.length := (List.getElem?_eq_some_iff.mp h).1
  show atI ds (j : Int) = _
  unfold atI ixN
  rw [if_pos (by omega), if_pos (by omega)]
  exact h
theorem cNe_str (x : Str) : cNe (.str x) (.str x) = some false := by unfold cNe; rw [cEq_str]; rfl
theorem ev_peek {s : S} {i : Nat} {d : D} (h : s.sl[i]? = some (.fz d)) : ePeek i s = .ok (s, d) := by unfold ePeek; rw [h]
/-! ## small data is shown -/
def Small (d : D) : Prop := shB d = true ∧ (py d).bulk ≤ 20 ∧ (py d).depth ≤ 5
theorem smalls : ∀ {ds : List D}, (∀ d ∈ ds, Small d) → shBs ds = true ∧ PyData.bulkAll (pys ds) ≤ 21 * ds.length ∧ PyData.depthAll (pys ds) ≤ 5
  | [], _ => ⟨rfl, by simp [pys, PyData.bulkAll], by simp [pys, PyData.depthAll]⟩
  | d :: ds, h => by
    obtain ⟨a, b, c⟩ := smalls fun d hd => h d (List.mem_cons_of_mem _ hd)
    obtain ⟨a', b', c'⟩ := h d (List.mem_cons_self ..)
    refine ⟨by simp only [shBs, a, a', Bool.and_true], ?_, ?_⟩
    · simp only [pys, PyData.bulkAll, List.length_cons]; omega
    · simp only [pys, PyData.depthAll]; omega
theorem rep_lst {ds : List D} (h : ∀ d ∈ ds, Small d) (hn : ds.length ≤ 10) : repB (.lst ds) = true := by
  obtain ⟨a, b, e⟩ := smalls h
  unfold repB
  have h1 : shB (.lst ds) = true := by simp only [shB, a]
  have h2 : (py (.lst ds)).bulk ≤ 8000 := by simp only [py, PyData.bulk]; omega
  have h3 : (py (.lst ds)).depth ≤ 60 := by simp only [py, PyData.depth]; omega
  rw [h1, decide_eq_true h2, decide_eq_true h3]; rfl
theorem eqP_lay [Tab] {x : D} (h : layD 60 x = true) : eqP x x = some true := by
  unfold eqP
  rw [if_pos ⟨h, h⟩, PySem.SeqAt.eqv_refl _ (lay_ok x 60 h).1]
end SM

set_option Elab.async false
set_option linter.all false
set_option maxRecDepth 100000
set_option maxHeartbeats 4000000
namespace Wk00
open PySem PySem.Spec PyProof.Rows L2 SM
def top (i : Nat) : Stmt := PySem.Challenge.pw_seenmodels_k00_errors_made_by_hand.main.body.getD i (.Pass ⟨0, 0, 0, 0⟩)
def inC (st : Stmt) (j : Nat) : Stmt := match st with
  | .ClassDef _ _ _ body _ _ _ _ _ _ _ => body.getD j (.Pass ⟨0, 0, 0, 0⟩)
  | _ => .Pass ⟨0, 0, 0, 0⟩

abbrev st__law_kinds_of : Stmt := top 19
abbrev st__law_alone : Stmt := top 20
abbrev st__law_first_right : Stmt := top 21
abbrev st__law_is_caught : Stmt := top 23
abbrev st__law_last_right : Stmt := top 22
abbrev st__law_pen : Stmt := top 15
abbrev st__law_draw : Stmt := top 16
abbrev st__law_pick : Stmt := top 17
abbrev st__law_values : Stmt := top 18
abbrev st_law : Stmt := top 24
abbrev st_BadNumber : Stmt := inC (top 2) 0
abbrev st_BadText : Stmt := inC (top 3) 0
abbrev st_BadPoly : Stmt := inC (top 4) 0
abbrev st_BadRow : Stmt := inC (top 5) 0
abbrev st_BadTable : Stmt := inC (top 6) 0
abbrev st_BadBase : Stmt := inC (top 7) 0
abbrev st_BadPaper : Stmt := inC (top 8) 0
abbrev st_Unlike : Stmt := inC (top 9) 0
abbrev st_TooMany : Stmt := inC (top 10) 0
abbrev st_NoName : Stmt := inC (top 11) 0
abbrev st_NothingToUndo : Stmt := inC (top 12) 0
abbrev st_NothingToRedo : Stmt := inC (top 13) 0
def EL : List (Str × List Str) := []
def FL : List (Str × List Str) := []
abbrev FLT : Str → Str → Bool := flT FL
def CL : List Str := []
def EXL : List Str := ["BadNumber", "BadText", "BadPoly", "BadRow", "BadTable", "BadBase", "BadPaper", "Unlike", "TooMany", "NoName", "NothingToUndo", "NothingToRedo"]
def FXL : List (Str × List Str) := [("BadNumber", ["what", "number"]), ("BadText", ["line", "column"]), ("BadPoly", ["value"]), ("BadRow", ["row"]), ("BadTable", ["table"]), ("BadBase", ["value"]), ("BadPaper", ["value"]), ("Unlike", ["what"]), ("TooMany", ["what", "many", "limit"]), ("NoName", ["name"])]
abbrev FXT : Str → Str → Bool := flT FXL
structure HD (K : PySem.W.Frag) (mg : Str → Option Value) : Prop where
  g__law_kinds_of : mg "_law_kinds_of" = some (.ref (He.ga K "_law_kinds_of"))
  g__law_alone : mg "_law_alone" = some (.ref (He.ga K "_law_alone"))
  g__law_first_right : mg "_law_first_right" = some (.ref (He.ga K "_law_first_right"))
  g__law_is_caught : mg "_law_is_caught" = some (.ref (He.ga K "_law_is_caught"))
  g__law_last_right : mg "_law_last_right" = some (.ref (He.ga K "_law_last_right"))
  g__law_pen : mg "_law_pen" = some (.ref (He.ga K "_law_pen"))
  g__law_draw : mg "_law_draw" = some (.ref (He.ga K "_law_draw"))
  g__law_pick : mg "_law_pick" = some (.ref (He.ga K "_law_pick"))
  g__law_values : mg "_law_values" = some (.ref (He.ga K "_law_values"))
  g_law : mg "law" = some (.ref (He.ga K "law"))
  g_SeenError : mg "SeenError" = some (.ref (He.ga K "SeenError"))
  g_BadNumber : mg "BadNumber" = some (.ref (He.ga K "BadNumber"))
  g_BadText : mg "BadText" = some (.ref (He.ga K "BadText"))
  g_BadPoly : mg "BadPoly" = some (.ref (He.ga K "BadPoly"))
  g_BadRow : mg "BadRow" = some (.ref (He.ga K "BadRow"))
  g_BadTable : mg "BadTable" = some (.ref (He.ga K "BadTable"))
  g_BadBase : mg "BadBase" = some (.ref (He.ga K "BadBase"))
  g_BadPaper : mg "BadPaper" = some (.ref (He.ga K "BadPaper"))
  g_Unlike : mg "Unlike" = some (.ref (He.ga K "Unlike"))
  g_TooMany : mg "TooMany" = some (.ref (He.ga K "TooMany"))
  g_NoName : mg "NoName" = some (.ref (He.ga K "NoName"))
  g_NothingToUndo : mg "NothingToUndo" = some (.ref (He.ga K "NothingToUndo"))
  g_NothingToRedo : mg "NothingToRedo" = some (.ref (He.ga K "NothingToRedo"))
  f_all : mg "all" = none
  f_int : mg "int" = none
  f_isinstance : mg "isinstance" = none
  f_len : mg "len" = none
  f_list : mg "list" = none
  f_range : mg "range" = none
  f_repr : mg "repr" = none
  d__law_kinds_of : FnS K "_law_kinds_of" st__law_kinds_of
  d__law_alone : FnS K "_law_alone" st__law_alone
  d__law_first_right : FnS K "_law_first_right" st__law_first_right
  d__law_is_caught : FnS K "_law_is_caught" st__law_is_caught
  d__law_last_right : FnS K "_law_last_right" st__law_last_right
  d__law_pen : FnS K "_law_pen" st__law_pen
  d__law_draw : FnS K "_law_draw" st__law_draw
  d__law_pick : FnS K "_law_pick" st__law_pick
  d__law_values : FnS K "_law_values" st__law_values
  d_law : FnS K "law" st_law
  m_BadNumber : ∃ fd, FunD K "__init__" "BadNumber.__init__" (defArgs st_BadNumber) (defBody st_BadNumber) (defScope st_BadNumber) [] [] (He.ma K (He.ga K "BadNumber") "__init__") fd
  m_BadText : ∃ fd, FunD K "__init__" "BadText.__init__" (defArgs st_BadText) (defBody st_BadText) (defScope st_BadText) [] [] (He.ma K (He.ga K "BadText") "__init__") fd
  m_BadPoly : ∃ fd, FunD K "__init__" "BadPoly.__init__" (defArgs st_BadPoly) (defBody st_BadPoly) (defScope st_BadPoly) [] [] (He.ma K (He.ga K "BadPoly") "__init__") fd
  m_BadRow : ∃ fd, FunD K "__init__" "BadRow.__init__" (defArgs st_BadRow) (defBody st_BadRow) (defScope st_BadRow) [] [] (He.ma K (He.ga K "BadRow") "__init__") fd
  m_BadTable : ∃ fd, FunD K "__init__" "BadTable.__init__" (defArgs st_BadTable) (defBody st_BadTable) (defScope st_BadTable) [] [] (He.ma K (He.ga K "BadTable") "__init__") fd
  m_BadBase : ∃ fd, FunD K "__init__" "BadBase.__init__" (defArgs st_BadBase) (defBody st_BadBase) (defScope st_BadBase) [] [] (He.ma K (He.ga K "BadBase") "__init__") fd
  m_BadPaper : ∃ fd, FunD K "__init__" "BadPaper.__init__" (defArgs st_BadPaper) (defBody st_BadPaper) (defScope st_BadPaper) [] [] (He.ma K (He.ga K "BadPaper") "__init__") fd
  m_Unlike : ∃ fd, FunD K "__init__" "Unlike.__init__" (defArgs st_Unlike) (defBody st_Unlike) (defScope st_Unlike) [] [] (He.ma K (He.ga K "Unlike") "__init__") fd
  m_TooMany : ∃ fd, FunD K "__init__" "TooMany.__init__" (defArgs st_TooMany) (defBody st_TooMany) (defScope st_TooMany) [] [] (He.ma K (He.ga K "TooMany") "__init__") fd
  m_NoName : ∃ fd, FunD K "__init__" "NoName.__init__" (defArgs st_NoName) (defBody st_NoName) (defScope st_NoName) [] [] (He.ma K (He.ga K "NoName") "__init__") fd
  m_NothingToUndo : ∃ fd, FunD K "__init__" "NothingToUndo.__init__" (defArgs st_NothingToUndo) (defBody st_NothingToUndo) (defScope st_NothingToUndo) [] [] (He.ma K (He.ga K "NothingToUndo") "__init__") fd
  m_NothingToRedo : ∃ fd, FunD K "__init__" "NothingToRedo.__init__" (defArgs st_NothingToRedo) (defBody st_NothingToRedo) (defScope st_NothingToRedo) [] [] (He.ma K (He.ga K "NothingToRedo") "__init__") fd
  fl_ : flB K FL = true
  kd_ : kdOB K CL = true
  sys : (K.lookup sysModules).isSome = true
  top_ : TopErr K (He.ga K "SeenError")
  e_BadNumber : ErrC K (He.ga K "BadNumber") (He.ma K (He.ga K "BadNumber") "__init__") ["what", "number"]
  x_BadNumber : XfC K (He.ga K "BadNumber")
  e_BadText : ErrC K (He.ga K "BadText") (He.ma K (He.ga K "BadText") "__init__") ["line", "column"]
  x_BadText : XfC K (He.ga K "BadText")
  e_BadPoly : ErrC K (He.ga K "BadPoly") (He.ma K (He.ga K "BadPoly") "__init__") ["value"]
  x_BadPoly : XfC K (He.ga K "BadPoly")
  e_BadRow : ErrC K (He.ga K "BadRow") (He.ma K (He.ga K "BadRow") "__init__") ["row"]
  x_BadRow : XfC K (He.ga K "BadRow")
  e_BadTable : ErrC K (He.ga K "BadTable") (He.ma K (He.ga K "BadTable") "__init__") ["table"]
  x_BadTable : XfC K (He.ga K "BadTable")
  e_BadBase : ErrC K (He.ga K "BadBase") (He.ma K (He.ga K "BadBase") "__init__") ["value"]
  x_BadBase : XfC K (He.ga K "BadBase")
  e_BadPaper : ErrC K (He.ga K "BadPaper") (He.ma K (He.ga K "BadPaper") "__init__") ["value"]
  x_BadPaper : XfC K (He.ga K "BadPaper")
  e_Unlike : ErrC K (He.ga K "Unlike") (He.ma K (He.ga K "Unlike") "__init__") ["what"]
  x_Unlike : XfC K (He.ga K "Unlike")
  e_TooMany : ErrC K (He.ga K "TooMany") (He.ma K (He.ga K "TooMany") "__init__") ["what", "many", "limit"]
  x_TooMany : XfC K (He.ga K "TooMany")
  e_NoName : ErrC K (He.ga K "NoName") (He.ma K (He.ga K "NoName") "__init__") ["name"]
  x_NoName : XfC K (He.ga K "NoName")
  e_NothingToUndo : ErrC K (He.ga K "NothingToUndo") (He.ma K (He.ga K "NothingToUndo") "__init__") []
  x_NothingToUndo : XfC K (He.ga K "NothingToUndo")
  e_NothingToRedo : ErrC K (He.ga K "NothingToRedo") (He.ma K (He.ga K "NothingToRedo") "__init__") []
  x_NothingToRedo : XfC K (He.ga K "NothingToRedo")
  xk_ : xkB K EXL "SeenError" = true
  xfl_ : xfLB K FXL = true

section
variable [T : Tab] {P : Program} {w : World} {K : PySem.W.Frag} {mg : Str → Option Value} {base : Heap}
theorem hFL {X : Cx} (h : HD X.K X.mg) : FldOk X FLT := fl_ok (by intro p hp; cases hp) h.fl_
theorem hKd {X : Cx} (h : HD X.K X.mg) : Kinds X (kdO CL) := kdO_ok (by intro p hp; cases hp) h.kd_
theorem hXk {X : Cx} (h : HD X.K X.mg) : XK X (exK EXL "SeenError") := xk_ok (by intro p hp; simp only [EXL, List.mem_cons, List.not_mem_nil, or_false] at hp; rcases hp with rfl | rfl | rfl | rfl | rfl | rfl | rfl | rfl | rfl | rfl | rfl | rfl; exact h.g_BadNumber; exact h.g_BadText; exact h.g_BadPoly; exact h.g_BadRow; exact h.g_BadTable; exact h.g_BadBase; exact h.g_BadPaper; exact h.g_Unlike; exact h.g_TooMany; exact h.g_NoName; exact h.g_NothingToUndo; exact h.g_NothingToRedo) h.g_SeenError h.xk_
theorem hXf {X : Cx} (h : HD X.K X.mg) : XfOk X FXT := xfl_ok (by intro p hp; simp only [FXL, List.mem_cons, List.not_mem_nil, or_false] at hp; rcases hp with rfl | rfl | rfl | rfl | rfl | rfl | rfl | rfl | rfl | rfl; exact h.g_BadNumber; exact h.g_BadText; exact h.g_BadPoly; exact h.g_BadRow; exact h.g_BadTable; exact h.g_BadBase; exact h.g_BadPaper; exact h.g_Unlike; exact h.g_TooMany; exact h.g_NoName) h.xfl_
theorem okX_BadNumber (h : HD K mg) : OkX P w K mg base 1 "BadNumber" ["what", "number"] := by
  obtain ⟨fd, FD⟩ := h.m_BadNumber
  refine ⟨fd, FD.bindsN (fun _ _ _ _ _ _ us hl => match us, hl with | [_, _, _], _ => rfl), (SM.FunD.kwB 1 FD (fun _ _ _ _ _ _ us ws h1 h2 => match us, ws, h1, h2 with | [_], [_, _], _, _ => rfl)), ?_, h.e_BadNumber, h.g_BadNumber⟩
  obtain ⟨oc, od, dV, kV, doc, pm, an, cdv, ct, osl, rfl, lk, hcd, _, _⟩ := FD.ex
  refine fnG_of (k := 0) (N := ["self", "what", "number"]) lk hcd ⟨rfl, rfl, rfl, by decide +kernel, rfl, by decide +kernel, by decide +kernel⟩ (fun vs H Q E z => z.1) fun A outer s H vs Q E g hsp => ?_
  obtain ⟨hl, a, ws, rfl, ea, q⟩ := hsp
  exact wb_errHead (tr := tTail K ((["what", "number"] : List Str).zipIdx 1)) h.top_ h.e_BadNumber.oex rfl h.g_SeenError (pv 0) (pss_cons (ps_ost (pv 0) (pv 1)) (pss_cons (ps_ost (pv 0) (pv 2)) pss_nil)) (by rfl) ea (tail_init h.e_BadNumber.oex (by decide) (by simpa using hl) h.e_BadNumber.no (by decide) ea fun d H' a1 a2 a3 a4 a5 => q d H' a1 a2 a3 a4 a5)
theorem okX_BadText (h : HD K mg) : OkX P w K mg base 1 "BadText" ["line", "column"] := by
  obtain ⟨fd, FD⟩ := h.m_BadText
  refine ⟨fd, FD.bindsN (fun _ _ _ _ _ _ us hl => match us, hl with | [_, _, _], _ => rfl), (SM.FunD.kwB 1 FD (fun _ _ _ _ _ _ us ws h1 h2 => match us, ws, h1, h2 with | [_], [_, _], _, _ => rfl)), ?_, h.e_BadText, h.g_BadText⟩
  obtain ⟨oc, od, dV, kV, doc, pm, an, cdv, ct, osl, rfl, lk, hcd, _, _⟩ := FD.ex
  refine fnG_of (k := 0) (N := ["self", "line", "column"]) lk hcd ⟨rfl, rfl, rfl, by decide +kernel, rfl, by decide +kernel, by decide +kernel⟩ (fun vs H Q E z => z.1) fun A outer s H vs Q E g hsp => ?_
  obtain ⟨hl, a, ws, rfl, ea, q⟩ := hsp
  exact wb_errHead (tr := tTail K ((["line", "column"] : List Str).zipIdx 1)) h.top_ h.e_BadText.oex rfl h.g_SeenError (pv 0) (pss_cons (ps_ost (pv 0) (pv 1)) (pss_cons (ps_ost (pv 0) (pv 2)) pss_nil)) (by rfl) ea (tail_init h.e_BadText.oex (by decide) (by simpa using hl) h.e_BadText.no (by decide) ea fun d H' a1 a2 a3 a4 a5 => q d H' a1 a2 a3 a4 a5)
theorem okX_BadPoly (h : HD K mg) : OkX P w K mg base 1 "BadPoly" ["value"] := by
  obtain ⟨fd, FD⟩ := h.m_BadPoly
  refine ⟨fd, FD.bindsN (fun _ _ _ _ _ _ us hl => match us, hl with | [_, _], _ => rfl), (SM.FunD.kwB 1 FD (fun _ _ _ _ _ _ us ws h1 h2 => match us, ws, h1, h2 with | [_], [_], _, _ => rfl)), ?_, h.e_BadPoly, h.g_BadPoly⟩
  obtain ⟨oc, od, dV, kV, doc, pm, an, cdv, ct, osl, rfl, lk, hcd, _, _⟩ := FD.ex
  refine fnG_of (k := 0) (N := ["self", "value"]) lk hcd ⟨rfl, rfl, rfl, by decide +kernel, rfl, by decide +kernel, by decide +kernel⟩ (fun vs H Q E z => z.1) fun A outer s H vs Q E g hsp => ?_
  obtain ⟨hl, a, ws, rfl, ea, q⟩ := hsp
  exact wb_errHead (tr := tTail K ((["value"] : List Str).zipIdx 1)) h.top_ h.e_BadPoly.oex rfl h.g_SeenError (pv 0) (pss_cons (ps_ost (pv 0) (pv 1)) pss_nil) (by rfl) ea (tail_init h.e_BadPoly.oex (by decide) (by simpa using hl) h.e_BadPoly.no (by decide) ea fun d H' a1 a2 a3 a4 a5 => q d H' a1 a2 a3 a4 a5)
theorem okX_BadRow (h : HD K mg) : OkX P w K mg base 1 "BadRow" ["row"] := by
  obtain ⟨fd, FD⟩ := h.m_BadRow
  refine ⟨fd, FD.bindsN (fun _ _ _ _ _ _ us hl => match us, hl with | [_, _], _ => rfl), (SM.FunD.kwB 1 FD (fun _ _ _ _ _ _ us ws h1 h2 => match us, ws, h1, h2 with | [_], [_], _, _ => rfl)), ?_, h.e_BadRow, h.g_BadRow⟩
  obtain ⟨oc, od, dV, kV, doc, pm, an, cdv, ct, osl, rfl, lk, hcd, _, _⟩ := FD.ex
  refine fnG_of (k := 0) (N := ["self", "row"]) lk hcd ⟨rfl, rfl, rfl, by decide +kernel, rfl, by decide +kernel, by decide +kernel⟩ (fun vs H Q E z => z.1) fun A outer s H vs Q E g hsp => ?_
  obtain ⟨hl, a, ws, rfl, ea, q⟩ := hsp
  exact wb_errHead (tr := tTail K ((["row"] : List Str).zipIdx 1)) h.top_ h.e_BadRow.oex rfl h.g_SeenError (pv 0) (pss_cons (ps_ost (pv 0) (pv 1)) pss_nil) (by rfl) ea (tail_init h.e_BadRow.oex (by decide) (by simpa using hl) h.e_BadRow.no (by decide) ea fun d H' a1 a2 a3 a4 a5 => q d H' a1 a2 a3 a4 a5)
theorem okX_BadTable (h : HD K mg) : OkX P w K mg base 1 "BadTable" ["table"] := by
  obtain ⟨fd, FD⟩ := h.m_BadTable
  refine ⟨fd, FD.bindsN (fun _ _ _ _ _ _ us hl => match us, hl with | [_, _], _ => rfl), (SM.FunD.kwB 1 FD (fun _ _ _ _ _ _ us ws h1 h2 => match us, ws, h1, h2 with | [_], [_], _, _ => rfl)), ?_, h.e_BadTable, h.g_BadTable⟩
  obtain ⟨oc, od, dV, kV, doc, pm, an, cdv, ct, osl, rfl, lk, hcd, _, _⟩ := FD.ex
  refine fnG_of (k := 0) (N := ["self", "table"]) lk hcd ⟨rfl, rfl, rfl, by decide +kernel, rfl, by decide +kernel, by decide +kernel⟩ (fun vs H Q E z => z.1) fun A outer s H vs Q E g hsp => ?_
  obtain ⟨hl, a, ws, rfl, ea, q⟩ := hsp
  exact wb_errHead (tr := tTail K ((["table"] : List Str).zipIdx 1)) h.top_ h.e_BadTable.oex rfl h.g_SeenError (pv 0) (pss_cons (ps_ost (pv 0) (pv 1)) pss_nil) (by rfl) ea (tail_init h.e_BadTable.oex (by decide) (by simpa using hl) h.e_BadTable.no (by decide) ea fun d H' a1 a2 a3 a4 a5 => q d H' a1 a2 a3 a4 a5)
theorem okX_BadBase (h : HD K mg) : OkX P w K mg base 1 "BadBase" ["value"] := by
  obtain ⟨fd, FD⟩ := h.m_BadBase
  refine ⟨fd, FD.bindsN (fun _ _ _ _ _ _ us hl => match us, hl with | [_, _], _ => rfl), (SM.FunD.kwB 1 FD (fun _ _ _ _ _ _ us ws h1 h2 => match us, ws, h1, h2 with | [_], [_], _, _ => rfl)), ?_, h.e_BadBase, h.g_BadBase⟩
  obtain ⟨oc, od, dV, kV, doc, pm, an, cdv, ct, osl, rfl, lk, hcd, _, _⟩ := FD.ex
  refine fnG_of (k := 0) (N := ["self", "value"]) lk hcd ⟨rfl, rfl, rfl, by decide +kernel, rfl, by decide +kernel, by decide +kernel⟩ (fun vs H Q E z => z.1) fun A outer s H vs Q E g hsp => ?_
  obtain ⟨hl, a, ws, rfl, ea, q⟩ := hsp
  exact wb_errHead (tr := tTail K ((["value"] : List Str).zipIdx 1)) h.top_ h.e_BadBase.oex rfl h.g_SeenError (pv 0) (pss_cons (ps_ost (pv 0) (pv 1)) pss_nil) (by rfl) ea (tail_init h.e_BadBase.oex (by decide) (by simpa using hl) h.e_BadBase.no (by decide) ea fun d H' a1 a2 a3 a4 a5 => q d H' a1 a2 a3 a4 a5)
theorem okX_BadPaper (h : HD K mg) : OkX P w K mg base 1 "BadPaper" ["value"] := by
  obtain ⟨fd, FD⟩ := h.m_BadPaper
  refine ⟨fd, FD.bindsN (fun _ _ _ _ _ _ us hl => match us, hl with | [_, _], _ => rfl), (SM.FunD.kwB 1 FD (fun _ _ _ _ _ _ us ws h1 h2 => match us, ws, h1, h2 with | [_], [_], _, _ => rfl)), ?_, h.e_BadPaper, h.g_BadPaper⟩
  obtain ⟨oc, od, dV, kV, doc, pm, an, cdv, ct, osl, rfl, lk, hcd, _, _⟩ := FD.ex
  refine fnG_of (k := 0) (N := ["self", "value"]) lk hcd ⟨rfl, rfl, rfl, by decide +kernel, rfl, by decide +kernel, by decide +kernel⟩ (fun vs H Q E z => z.1) fun A outer s H vs Q E g hsp => ?_
  obtain ⟨hl, a, ws, rfl, ea, q⟩ := hsp
  exact wb_errHead (tr := tTail K ((["value"] : List Str).zipIdx 1)) h.top_ h.e_BadPaper.oex rfl h.g_SeenError (pv 0) (pss_cons (ps_ost (pv 0) (pv 1)) pss_nil) (by rfl) ea (tail_init h.e_BadPaper.oex (by decide) (by simpa using hl) h.e_BadPaper.no (by decide) ea fun d H' a1 a2 a3 a4 a5 => q d H' a1 a2 a3 a4 a5)
theorem okX_Unlike (h : HD K mg) : OkX P w K mg base 1 "Unlike" ["what"] := by
  obtain ⟨fd, FD⟩ := h.m_Unlike
  refine ⟨fd, FD.bindsN (fun _ _ _ _ _ _ us hl => match us, hl with | [_, _], _ => rfl), (SM.FunD.kwB 1 FD (fun _ _ _ _ _ _ us ws h1 h2 => match us, ws, h1, h2 with | [_], [_], _, _ => rfl)), ?_, h.e_Unlike, h.g_Unlike⟩
  obtain ⟨oc, od, dV, kV, doc, pm, an, cdv, ct, osl, rfl, lk, hcd, _, _⟩ := FD.ex
  refine fnG_of (k := 0) (N := ["self", "what"]) lk hcd ⟨rfl, rfl, rfl, by decide +kernel, rfl, by decide +kernel, by decide +kernel⟩ (fun vs H Q E z => z.1) fun A outer s H vs Q E g hsp => ?_
  obtain ⟨hl, a, ws, rfl, ea, q⟩ := hsp
  exact wb_errHead (tr := tTail K ((["what"] : List Str).zipIdx 1)) h.top_ h.e_Unlike.oex rfl h.g_SeenError (pv 0) (pss_cons (ps_ost (pv 0) (pv 1)) pss_nil) (by rfl) ea (tail_init h.e_Unlike.oex (by decide) (by simpa using hl) h.e_Unlike.no (by decide) ea fun d H' a1 a2 a3 a4 a5 => q d H' a1 a2 a3 a4 a5)
theorem okX_TooMany (h : HD K mg) : OkX P w K mg base 1 "TooMany" ["what", "many", "limit"] := by
  obtain ⟨fd, FD⟩ := h.m_TooMany
  refine ⟨fd, FD.bindsN (fun _ _ _ _ _ _ us hl => match us, hl with | [_, _, _, _], _ => rfl), (SM.FunD.kwB 1 FD (fun _ _ _ _ _ _ us ws h1 h2 => match us, ws, h1, h2 with | [_], [_, _, _], _, _ => rfl)), ?_, h.e_TooMany, h.g_TooMany⟩
  obtain ⟨oc, od, dV, kV, doc, pm, an, cdv, ct, osl, rfl, lk, hcd, _, _⟩ := FD.ex
  refine fnG_of (k := 0) (N := ["self", "what", "many", "limit"]) lk hcd ⟨rfl, rfl, rfl, by decide +kernel, rfl, by decide +kernel, by decide +kernel⟩ (fun vs H Q E z => z.1) fun A outer s H vs Q E g hsp => ?_
  obtain ⟨hl, a, ws, rfl, ea, q⟩ := hsp
  exact wb_errHead (tr := tTail K ((["what", "many", "limit"] : List Str).zipIdx 1)) h.top_ h.e_TooMany.oex rfl h.g_SeenError (pv 0) (pss_cons (ps_ost (pv 0) (pv 1)) (pss_cons (ps_ost (pv 0) (pv 2)) (pss_cons (ps_ost (pv 0) (pv 3)) pss_nil))) (by rfl) ea (tail_init h.e_TooMany.oex (by decide) (by simpa using hl) h.e_TooMany.no (by decide) ea fun d H' a1 a2 a3 a4 a5 => q d H' a1 a2 a3 a4 a5)
theorem okX_NoName (h : HD K mg) : OkX P w K mg base 1 "NoName" ["name"] := by
  obtain ⟨fd, FD⟩ := h.m_NoName
  refine ⟨fd, FD.bindsN (fun _ _ _ _ _ _ us hl => match us, hl with | [_, _], _ => rfl), (SM.FunD.kwB 1 FD (fun _ _ _ _ _ _ us ws h1 h2 => match us, ws, h1, h2 with | [_], [_], _, _ => rfl)), ?_, h.e_NoName, h.g_NoName⟩
  obtain ⟨oc, od, dV, kV, doc, pm, an, cdv, ct, osl, rfl, lk, hcd, _, _⟩ := FD.ex
  refine fnG_of (k := 0) (N := ["self", "name"]) lk hcd ⟨rfl, rfl, rfl, by decide +kernel, rfl, by decide +kernel, by decide +kernel⟩ (fun vs H Q E z => z.1) fun A outer s H vs Q E g hsp => ?_
  obtain ⟨hl, a, ws, rfl, ea, q⟩ := hsp
  exact wb_errHead (tr := tTail K ((["name"] : List Str).zipIdx 1)) h.top_ h.e_NoName.oex rfl h.g_SeenError (pv 0) (pss_cons (ps_ost (pv 0) (pv 1)) pss_nil) (by rfl) ea (tail_init h.e_NoName.oex (by decide) (by simpa using hl) h.e_NoName.no (by decide) ea fun d H' a1 a2 a3 a4 a5 => q d H' a1 a2 a3 a4 a5)
theorem okX_NothingToUndo (h : HD K mg) : OkX0 P w K mg base 1 "NothingToUndo" := by
  obtain ⟨fd, FD⟩ := h.m_NothingToUndo
  refine ⟨fd, FD.bindsN (fun _ _ _ _ _ _ us hl => match us, hl with | [_], _ => rfl), ?_, h.e_NothingToUndo, h.g_NothingToUndo⟩
  obtain ⟨oc, od, dV, kV, doc, pm, an, cdv, ct, osl, rfl, lk, hcd, _, _⟩ := FD.ex
  refine fnG_of (k := 0) (N := ["self"]) lk hcd ⟨rfl, rfl, rfl, by decide +kernel, rfl, by decide +kernel, by decide +kernel⟩ (fun vs H Q E z => by obtain ⟨a, rfl, _⟩ := z; rfl) fun A outer s H vs Q E g hsp => ?_
  obtain ⟨a, rfl, ea, q⟩ := hsp
  exact wb_errHead (tr := tNext) h.top_ h.e_NothingToUndo.oex rfl h.g_SeenError (pv 0) pss_nil (by rfl) ea q
theorem okX_NothingToRedo (h : HD K mg) : OkX0 P w K mg base 1 "NothingToRedo" := by
  obtain ⟨fd, FD⟩ := h.m_NothingToRedo
  refine ⟨fd, FD.bindsN (fun _ _ _ _ _ _ us hl => match us, hl with | [_], _ => rfl), ?_, h.e_NothingToRedo, h.g_NothingToRedo⟩
  obtain ⟨oc, od, dV, kV, doc, pm, an, cdv, ct, osl, rfl, lk, hcd, _, _⟩ := FD.ex
  refine fnG_of (k := 0) (N := ["self"]) lk hcd ⟨rfl, rfl, rfl, by decide +kernel, rfl, by decide +kernel, by decide +kernel⟩ (fun vs H Q E z => by obtain ⟨a, rfl, _⟩ := z; rfl) fun A outer s H vs Q E g hsp => ?_
  obtain ⟨a, rfl, ea, q⟩ := hsp
  exact wb_errHead (tr := tNext) h.top_ h.e_NothingToRedo.oex rfl h.g_SeenError (pv 0) pss_nil (by rfl) ea q
def N__law_kinds_of : List Str := ["fault", "found"]
theorem nd__law_kinds_of : N__law_kinds_of.Nodup := by decide +kernel
def b__law_kinds_of : S → Res (S × Fl) := sSeq (sOwn 1 (eLst (aNil))) (sSeq (sIf (tVal (eCallD (q2 (isxD (exK EXL "SeenError"))) (aCons (ePeek 0) (aCons (eC (.glo "BadNumber")) (aNil))))) (sApp 1 (eC (.str "BadNumber"))) ((fun s => .ok (s, .nx)))) (sSeq (sIf (tVal (eCallD (q2 (isxD (exK EXL "SeenError"))) (aCons (ePeek 0) (aCons (eC (.glo "BadText")) (aNil))))) (sApp 1 (eC (.str "BadText"))) ((fun s => .ok (s, .nx)))) (sSeq (sIf (tVal (eCallD (q2 (isxD (exK EXL "SeenError"))) (aCons (ePeek 0) (aCons (eC (.glo "BadPoly")) (aNil))))) (sApp 1 (eC (.str "BadPoly"))) ((fun s => .ok (s, .nx)))) (sSeq (sIf (tVal (eCallD (q2 (isxD (exK EXL "SeenError"))) (aCons (ePeek 0) (aCons (eC (.glo "BadRow")) (aNil))))) (sApp 1 (eC (.str "BadRow"))) ((fun s => .ok (s, .nx)))) (sSeq (sIf (tVal (eCallD (q2 (isxD (exK EXL "SeenError"))) (aCons (ePeek 0) (aCons (eC (.glo "BadTable")) (aNil))))) (sApp 1 (eC (.str "BadTable"))) ((fun s => .ok (s, .nx)))) (sSeq (sIf (tVal (eCallD (q2 (isxD (exK EXL "SeenError"))) (aCons (ePeek 0) (aCons (eC (.glo "BadBase")) (aNil))))) (sApp 1 (eC (.str "BadBase"))) ((fun s => .ok (s, .nx)))) (sSeq (sIf (tVal (eCallD (q2 (isxD (exK EXL "SeenError"))) (aCons (ePeek 0) (aCons (eC (.glo "BadPaper")) (aNil))))) (sApp 1 (eC (.str "BadPaper"))) ((fun s => .ok (s, .nx)))) (sSeq (sIf (tVal (eCallD (q2 (isxD (exK EXL "SeenError"))) (aCons (ePeek 0) (aCons (eC (.glo "Unlike")) (aNil))))) (sApp 1 (eC (.str "Unlike"))) ((fun s => .ok (s, .nx)))) (sSeq (sIf (tVal (eCallD (q2 (isxD (exK EXL "SeenError"))) (aCons (ePeek 0) (aCons (eC (.glo "TooMany")) (aNil))))) (sApp 1 (eC (.str "TooMany"))) ((fun s => .ok (s, .nx)))) (sSeq (sIf (tVal (eCallD (q2 (isxD (exK EXL "SeenError"))) (aCons (ePeek 0) (aCons (eC (.glo "NoName")) (aNil))))) (sApp 1 (eC (.str "NoName"))) ((fun s => .ok (s, .nx)))) (sSeq (sIf (tVal (eCallD (q2 (isxD (exK EXL "SeenError"))) (aCons (ePeek 0) (aCons (eC (.glo "NothingToUndo")) (aNil))))) (sApp 1 (eC (.str "NothingToUndo"))) ((fun s => .ok (s, .nx)))) (sSeq (sIf (tVal (eCallD (q2 (isxD (exK EXL "SeenError"))) (aCons (ePeek 0) (aCons (eC (.glo "NothingToRedo")) (aNil))))) (sApp 1 (eC (.str "NothingToRedo"))) ((fun s => .ok (s, .nx)))) (sRet (eVar 1))))))))))))))
def F__law_kinds_of := runF N__law_kinds_of b__law_kinds_of
abbrev Ok__law_kinds_of (P : Program) (w : World) (K : PySem.W.Frag) (mg : Str → Option Value) (base : Heap) : Prop := OkF P w K mg base 1 "_law_kinds_of" ["fault"] (spF K mg 1 F__law_kinds_of)
theorem ok__law_kinds_of (h : HD K mg)  : Ok__law_kinds_of P w K mg base :=
  okF_of (k := 0) (N := N__law_kinds_of) h.d__law_kinds_of ⟨rfl, rfl, rfl, by decide +kernel, rfl, by decide +kernel, by decide +kernel⟩ rfl (by decide) (fun _ _ _ _ _ _ us hl => match us, hl with | [_], _ => rfl) fun cd A outer s H E g => (sb_cons (ss_own 1 nd__law_kinds_of (ef_lst ea_nil)) (sb_cons (ss_if (et_val (er_of (ee_callD (isx_D (hXk h)) (eb_cons (er_var 0) (eb_cons (er_of (ee_glo (by rfl) h.g_BadNumber)) eb_nil)) (fun ha => pe_callB call_isiE (by rfl) h.f_isinstance boot_isinstance ha)))) (sb_one (ss_app 1 ee_str)) sb_nil) (sb_cons (ss_if (et_val (er_of (ee_callD (isx_D (hXk h)) (eb_cons (er_var 0) (eb_cons (er_of (ee_glo (by rfl) h.g_BadText)) eb_nil)) (fun ha => pe_callB call_isiE (by rfl) h.f_isinstance boot_isinstance ha)))) (sb_one (ss_app 1 ee_str)) sb_nil) (sb_cons (ss_if (et_val (er_of (ee_callD (isx_D (hXk h)) (eb_cons (er_var 0) (eb_cons (er_of (ee_glo (by rfl) h.g_BadPoly)) eb_nil)) (fun ha => pe_callB call_isiE (by rfl) h.f_isinstance boot_isinstance ha)))) (sb_one (ss_app 1 ee_str)) sb_nil) (sb_cons (ss_if (et_val (er_of (ee_callD (isx_D (hXk h)) (eb_cons (er_var 0) (eb_cons (er_of (ee_glo (by rfl) h.g_BadRow)) eb_nil)) (fun ha => pe_callB call_isiE (by rfl) h.f_isinstance boot_isinstance ha)))) (sb_one (ss_app 1 ee_str)) sb_nil) (sb_cons (ss_if (et_val (er_of (ee_callD (isx_D (hXk h)) (eb_cons (er_var 0) (eb_cons (er_of (ee_glo (by rfl) h.g_BadTable)) eb_nil)) (fun ha => pe_callB call_isiE (by rfl) h.f_isinstance boot_isinstance ha)))) (sb_one (ss_app 1 ee_str)) sb_nil) (sb_cons (ss_if (et_val (er_of (ee_callD (isx_D (hXk h)) (eb_cons (er_var 0) (eb_cons (er_of (ee_glo (by rfl) h.g_BadBase)) eb_nil)) (fun ha => pe_callB call_isiE (by rfl) h.f_isinstance boot_isinstance ha)))) (sb_one (ss_app 1 ee_str)) sb_nil) (sb_cons (ss_if (et_val (er_of (ee_callD (isx_D (hXk h)) (eb_cons (er_var 0) (eb_cons (er_of (ee_glo (by rfl) h.g_BadPaper)) eb_nil)) (fun ha => pe_callB call_isiE (by rfl) h.f_isinstance boot_isinstance ha)))) (sb_one (ss_app 1 ee_str)) sb_nil) (sb_cons (ss_if (et_val (er_of (ee_callD (isx_D (hXk h)) (eb_cons (er_var 0) (eb_cons (er_of (ee_glo (by rfl) h.g_Unlike)) eb_nil)) (fun ha => pe_callB call_isiE (by rfl) h.f_isinstance boot_isinstance ha)))) (sb_one (ss_app 1 ee_str)) sb_nil) (sb_cons (ss_if (et_val (er_of (ee_callD (isx_D (hXk h)) (eb_cons (er_var 0) (eb_cons (er_of (ee_glo (by rfl) h.g_TooMany)) eb_nil)) (fun ha => pe_callB call_isiE (by rfl) h.f_isinstance boot_isinstance ha)))) (sb_one (ss_app 1 ee_str)) sb_nil) (sb_cons (ss_if (et_val (er_of (ee_callD (isx_D (hXk h)) (eb_cons (er_var 0) (eb_cons (er_of (ee_glo (by rfl) h.g_NoName)) eb_nil)) (fun ha => pe_callB call_isiE (by rfl) h.f_isinstance boot_isinstance ha)))) (sb_one (ss_app 1 ee_str)) sb_nil) (sb_cons (ss_if (et_val (er_of (ee_callD (isx_D (hXk h)) (eb_cons (er_var 0) (eb_cons (er_of (ee_glo (by rfl) h.g_NothingToUndo)) eb_nil)) (fun ha => pe_callB call_isiE (by rfl) h.f_isinstance boot_isinstance ha)))) (sb_one (ss_app 1 ee_str)) sb_nil) (sb_cons (ss_if (et_val (er_of (ee_callD (isx_D (hXk h)) (eb_cons (er_var 0) (eb_cons (er_of (ee_glo (by rfl) h.g_NothingToRedo)) eb_nil)) (fun ha => pe_callB call_isiE (by rfl) h.f_isinstance boot_isinstance ha)))) (sb_one (ss_app 1 ee_str)) sb_nil) (sb_one (ss_ret (ee_var 1))))))))))))))))
def N__law_alone : List Str := ["name", "fault", "due", "found"]
theorem nd__law_alone : N__law_alone.Nodup := by decide +kernel
def b__law_alone : S → Res (S × Fl) := sRet (eAnd (eCallD (q2 (isxD (exK EXL "SeenError"))) (aCons (ePeek 1) (aCons (eC (.glo "SeenError")) (aNil)))) (eAnd (eEqP (eCall F__law_kinds_of (aCons (eVar 1) (aNil))) (eLst (aCons (eVar 0) (aNil)))) (eCmp cEq (eRepr (eVar 3)) (eRepr (eVar 2)))))
def F__law_alone := runF N__law_alone b__law_alone
abbrev Ok__law_alone (P : Program) (w : World) (K : PySem.W.Frag) (mg : Str → Option Value) (base : Heap) : Prop := OkF P w K mg base 2 "_law_alone" ["name", "fault", "due", "found"] (spF K mg 4 F__law_alone)
theorem ok__law_alone (h : HD K mg) (h__law_kinds_of : Ok__law_kinds_of P w K mg base) : Ok__law_alone P w K mg base :=
  okF_of (k := 1) (N := N__law_alone) h.d__law_alone ⟨rfl, rfl, rfl, by decide +kernel, rfl, by decide +kernel, by decide +kernel⟩ rfl (by decide) (fun _ _ _ _ _ _ us hl => match us, hl with | [_, _, _, _], _ => rfl) fun cd A outer s H E g => (sb_one (ss_ret (ee_and (ee_callD (isx_D (hXk h)) (eb_cons (er_var 1) (eb_cons (er_of (ee_glo (by rfl) h.g_SeenError)) eb_nil)) (fun ha => pe_callB call_isiE (by rfl) h.f_isinstance boot_isinstance ha)) (ee_and (ee_eqP g (er_of (cc h__law_kinds_of (by decide) g h.g__law_kinds_of (lenIs_cons lenIs_nil) (ea_cons (ee_var 1) ea_nil))) (er_of (ee_new (ef_lst (ea_cons (ee_var 0) ea_nil))))) (ee_one (ee_cmp op_eq cmp_eq (nomark _) (er_of (ee_repr g h.sys (by rfl) h.f_repr (ee_var 3))) (er_of (ee_repr g h.sys (by rfl) h.f_repr (ee_var 2)))))))))
def N__law_first_right : List Str := ["a", "b", "c", "rows", "one", "two", "name", "fault", "due", "found"]
theorem nd__law_first_right : N__law_first_right.Nodup := by decide +kernel
def b__law_first_right : S → Res (S × Fl) := sSeq (sOwn 3 (eLst (aNil))) (sSeq (sSet 4 (eCall (mkX "BadNumber" ["what", "number"]) (aCons (eVar 0) (aCons (eVar 1) (aNil))))) (sSeq (sSet 5 (eCall (rvF (mkX "BadNumber" ["what", "number"])) (aCons (eVar 1) (aCons (eVar 0) (aNil))))) (sSeq (sApp 3 (eTup (aCons (eC (.str "BadNumber")) (aCons (eVar 4) (aCons (eLst (aCons (eVar 0) (aCons (eVar 1) (aNil)))) (aCons (eLst (aCons (eXf FXT "what" (ePeek 4)) (aCons (eXf FXT "number" (ePeek 4)) (aNil)))) (aNil))))))) (sSeq (sApp 3 (eTup (aCons (eC (.str "BadNumber")) (aCons (eVar 5) (aCons (eLst (aCons (eVar 0) (aCons (eVar 1) (aNil)))) (aCons (eLst (aCons (eXf FXT "what" (ePeek 5)) (aCons (eXf FXT "number" (ePeek 5)) (aNil)))) (aNil))))))) (sSeq (sSet 4 (eCall (mkX "BadText" ["line", "column"]) (aCons (eVar 0) (aCons (eVar 1) (aNil))))) (sSeq (sSet 5 (eCall (rvF (mkX "BadText" ["line", "column"])) (aCons (eVar 1) (aCons (eVar 0) (aNil))))) (sSeq (sApp 3 (eTup (aCons (eC (.str "BadText")) (aCons (eVar 4) (aCons (eLst (aCons (eVar 0) (aCons (eVar 1) (aNil)))) (aCons (eLst (aCons (eXf FXT "line" (ePeek 4)) (aCons (eXf FXT "column" (ePeek 4)) (aNil)))) (aNil))))))) (sSeq (sApp 3 (eTup (aCons (eC (.str "BadText")) (aCons (eVar 5) (aCons (eLst (aCons (eVar 0) (aCons (eVar 1) (aNil)))) (aCons (eLst (aCons (eXf FXT "line" (ePeek 5)) (aCons (eXf FXT "column" (ePeek 5)) (aNil)))) (aNil))))))) (sSeq (sSet 4 (eCall (mkX "BadPoly" ["value"]) (aCons (eVar 0) (aNil)))) (sSeq (sSet 5 (eCall (rvF (mkX "BadPoly" ["value"])) (aCons (eVar 0) (aNil)))) (sSeq (sApp 3 (eTup (aCons (eC (.str "BadPoly")) (aCons (eVar 4) (aCons (eLst (aCons (eVar 0) (aNil))) (aCons (eLst (aCons (eXf FXT "value" (ePeek 4)) (aNil))) (aNil))))))) (sSeq (sApp 3 (eTup (aCons (eC (.str "BadPoly")) (aCons (eVar 5) (aCons (eLst (aCons (eVar 0) (aNil))) (aCons (eLst (aCons (eXf FXT "value" (ePeek 5)) (aNil))) (aNil))))))) (sSeq (sSet 4 (eCall (mkX "BadRow" ["row"]) (aCons (eVar 0) (aNil)))) (sSeq (sSet 5 (eCall (rvF (mkX "BadRow" ["row"])) (aCons (eVar 0) (aNil)))) (sSeq (sApp 3 (eTup (aCons (eC (.str "BadRow")) (aCons (eVar 4) (aCons (eLst (aCons (eVar 0) (aNil))) (aCons (eLst (aCons (eXf FXT "row" (ePeek 4)) (aNil))) (aNil))))))) (sSeq (sApp 3 (eTup (aCons (eC (.str "BadRow")) (aCons (eVar 5) (aCons (eLst (aCons (eVar 0) (aNil))) (aCons (eLst (aCons (eXf FXT "row" (ePeek 5)) (aNil))) (aNil))))))) (sSeq (sSet 4 (eCall (mkX "BadTable" ["table"]) (aCons (eVar 0) (aNil)))) (sSeq (sSet 5 (eCall (rvF (mkX "BadTable" ["table"])) (aCons (eVar 0) (aNil)))) (sSeq (sApp 3 (eTup (aCons (eC (.str "BadTable")) (aCons (eVar 4) (aCons (eLst (aCons (eVar 0) (aNil))) (aCons (eLst (aCons (eXf FXT "table" (ePeek 4)) (aNil))) (aNil))))))) (sSeq (sApp 3 (eTup (aCons (eC (.str "BadTable")) (aCons (eVar 5) (aCons (eLst (aCons (eVar 0) (aNil))) (aCons (eLst (aCons (eXf FXT "table" (ePeek 5)) (aNil))) (aNil))))))) (sSeq (sSet 4 (eCall (mkX "BadBase" ["value"]) (aCons (eVar 0) (aNil)))) (sSeq (sSet 5 (eCall (rvF (mkX "BadBase" ["value"])) (aCons (eVar 0) (aNil)))) (sSeq (sApp 3 (eTup (aCons (eC (.str "BadBase")) (aCons (eVar 4) (aCons (eLst (aCons (eVar 0) (aNil))) (aCons (eLst (aCons (eXf FXT "value" (ePeek 4)) (aNil))) (aNil))))))) (sSeq (sApp 3 (eTup (aCons (eC (.str "BadBase")) (aCons (eVar 5) (aCons (eLst (aCons (eVar 0) (aNil))) (aCons (eLst (aCons (eXf FXT "value" (ePeek 5)) (aNil))) (aNil))))))) (sRet (eCallD (q1 uAll) (aCons (eLc (itList (eVar 3)) (tTp 4 (tsCons (tNm 6) (tsCons (tNm 7) (tsCons (tNm 8) (tsCons (tNm 9) (tsNil)))))) (tYesD) (eCall F__law_alone (aCons (eVar 6) (aCons (eVar 7) (aCons (eVar 8) (aCons (eVar 9) (aNil)))))) [6, 7, 8, 9]) (aNil))))))))))))))))))))))))))))
def F__law_first_right := runF N__law_first_right b__law_first_right
abbrev Ok__law_first_right (P : Program) (w : World) (K : PySem.W.Frag) (mg : Str → Option Value) (base : Heap) : Prop := OkF P w K mg base 3 "_law_first_right" ["a", "b", "c"] (spF K mg 3 F__law_first_right)
theorem ok__law_first_right (h : HD K mg) (h__law_alone : Ok__law_alone P w K mg base) (h_x_BadBase : OkX P w K mg base 1 "BadBase" ["value"]) (h_x_BadNumber : OkX P w K mg base 1 "BadNumber" ["what", "number"]) (h_x_BadPoly : OkX P w K mg base 1 "BadPoly" ["value"]) (h_x_BadRow : OkX P w K mg base 1 "BadRow" ["row"]) (h_x_BadTable : OkX P w K mg base 1 "BadTable" ["table"]) (h_x_BadText : OkX P w K mg base 1 "BadText" ["line", "column"]) : Ok__law_first_right P w K mg base :=
  okF_of (k := 2) (N := N__law_first_right) h.d__law_first_right ⟨rfl, rfl, rfl, by decide +kernel, rfl, by decide +kernel, by decide +kernel⟩ rfl (by decide) (fun _ _ _ _ _ _ us hl => match us, hl with | [_, _, _], _ => rfl) fun cd A outer s H E g => (sb_cons (ss_own 3 nd__law_first_right (ef_lst ea_nil)) (sb_cons (ss_set 4 nd__law_first_right (ee_mkX h_x_BadNumber (by decide) g (ea_cons (ee_var 0) (ea_cons (ee_var 1) ea_nil)))) (sb_cons (ss_set 5 nd__law_first_right (ee_mkXK h_x_BadNumber (by decide) g (ek_cons (ee_var 1) (ek_cons (ee_var 0) ek_nil)))) (sb_cons (ss_app 3 (ee_tup (ea_cons ee_str (ea_cons (ee_var 4) (ea_cons (ee_new (ef_lst (ea_cons (ee_var 0) (ea_cons (ee_var 1) ea_nil)))) (ea_cons (ee_new (ef_lst (ea_cons (ee_xf (hXf h) (er_var 4)) (ea_cons (ee_xf (hXf h) (er_var 4)) ea_nil)))) ea_nil)))))) (sb_cons (ss_app 3 (ee_tup (ea_cons ee_str (ea_cons (ee_var 5) (ea_cons (ee_new (ef_lst (ea_cons (ee_var 0) (ea_cons (ee_var 1) ea_nil)))) (ea_cons (ee_new (ef_lst (ea_cons (ee_xf (hXf h) (er_var 5)) (ea_cons (ee_xf (hXf h) (er_var 5)) ea_nil)))) ea_nil)))))) (sb_cons (ss_set 4 nd__law_first_right (ee_mkX h_x_BadText (by decide) g (ea_cons (ee_var 0) (ea_cons (ee_var 1) ea_nil)))) (sb_cons (ss_set 5 nd__law_first_right (ee_mkXK h_x_BadText (by decide) g (ek_cons (ee_var 1) (ek_cons (ee_var 0) ek_nil)))) (sb_cons (ss_app 3 (ee_tup (ea_cons ee_str (ea_cons (ee_var 4) (ea_cons (ee_new (ef_lst (ea_cons (ee_var 0) (ea_cons (ee_var 1) ea_nil)))) (ea_cons (ee_new (ef_lst (ea_cons (ee_xf (hXf h) (er_var 4)) (ea_cons (ee_xf (hXf h) (er_var 4)) ea_nil)))) ea_nil)))))) (sb_cons (ss_app 3 (ee_tup (ea_cons ee_str (ea_cons (ee_var 5) (ea_cons (ee_new (ef_lst (ea_cons (ee_var 0) (ea_cons (ee_var 1) ea_nil)))) (ea_cons (ee_new (ef_lst (ea_cons (ee_xf (hXf h) (er_var 5)) (ea_cons (ee_xf (hXf h) (er_var 5)) ea_nil)))) ea_nil)))))) (sb_cons (ss_set 4 nd__law_first_right (ee_mkX h_x_BadPoly (by decide) g (ea_cons (ee_var 0) ea_nil))) (sb_cons (ss_set 5 nd__law_first_right (ee_mkXK h_x_BadPoly (by decide) g (ek_cons (ee_var 0) ek_nil))) (sb_cons (ss_app 3 (ee_tup (ea_cons ee_str (ea_cons (ee_var 4) (ea_cons (ee_new (ef_lst (ea_cons (ee_var 0) ea_nil))) (ea_cons (ee_new (ef_lst (ea_cons (ee_xf (hXf h) (er_var 4)) ea_nil))) ea_nil)))))) (sb_cons (ss_app 3 (ee_tup (ea_cons ee_str (ea_cons (ee_var 5) (ea_cons (ee_new (ef_lst (ea_cons (ee_var 0) ea_nil))) (ea_cons (ee_new (ef_lst (ea_cons (ee_xf (hXf h) (er_var 5)) ea_nil))) ea_nil)))))) (sb_cons (ss_set 4 nd__law_first_right (ee_mkX h_x_BadRow (by decide) g (ea_cons (ee_var 0) ea_nil))) (sb_cons (ss_set 5 nd__law_first_right (ee_mkXK h_x_BadRow (by decide) g (ek_cons (ee_var 0) ek_nil))) (sb_cons (ss_app 3 (ee_tup (ea_cons ee_str (ea_cons (ee_var 4) (ea_cons (ee_new (ef_lst (ea_cons (ee_var 0) ea_nil))) (ea_cons (ee_new (ef_lst (ea_cons (ee_xf (hXf h) (er_var 4)) ea_nil))) ea_nil)))))) (sb_cons (ss_app 3 (ee_tup (ea_cons ee_str (ea_cons (ee_var 5) (ea_cons (ee_new (ef_lst (ea_cons (ee_var 0) ea_nil))) (ea_cons (ee_new (ef_lst (ea_cons (ee_xf (hXf h) (er_var 5)) ea_nil))) ea_nil)))))) (sb_cons (ss_set 4 nd__law_first_right (ee_mkX h_x_BadTable (by decide) g (ea_cons (ee_var 0) ea_nil))) (sb_cons (ss_set 5 nd__law_first_right (ee_mkXK h_x_BadTable (by decide) g (ek_cons (ee_var 0) ek_nil))) (sb_cons (ss_app 3 (ee_tup (ea_cons ee_str (ea_cons (ee_var 4) (ea_cons (ee_new (ef_lst (ea_cons (ee_var 0) ea_nil))) (ea_cons (ee_new (ef_lst (ea_cons (ee_xf (hXf h) (er_var 4)) ea_nil))) ea_nil)))))) (sb_cons (ss_app 3 (ee_tup (ea_cons ee_str (ea_cons (ee_var 5) (ea_cons (ee_new (ef_lst (ea_cons (ee_var 0) ea_nil))) (ea_cons (ee_new (ef_lst (ea_cons (ee_xf (hXf h) (er_var 5)) ea_nil))) ea_nil)))))) (sb_cons (ss_set 4 nd__law_first_right (ee_mkX h_x_BadBase (by decide) g (ea_cons (ee_var 0) ea_nil))) (sb_cons (ss_set 5 nd__law_first_right (ee_mkXK h_x_BadBase (by decide) g (ek_cons (ee_var 0) ek_nil))) (sb_cons (ss_app 3 (ee_tup (ea_cons ee_str (ea_cons (ee_var 4) (ea_cons (ee_new (ef_lst (ea_cons (ee_var 0) ea_nil))) (ea_cons (ee_new (ef_lst (ea_cons (ee_xf (hXf h) (er_var 4)) ea_nil))) ea_nil)))))) (sb_cons (ss_app 3 (ee_tup (ea_cons ee_str (ea_cons (ee_var 5) (ea_cons (ee_new (ef_lst (ea_cons (ee_var 0) ea_nil))) (ea_cons (ee_new (ef_lst (ea_cons (ee_xf (hXf h) (er_var 5)) ea_nil))) ea_nil)))))) (sb_one (ss_ret (ee_callD all_D (eb_cons (er_of (ee_new (ef_lc (own := [("name", 6), ("fault", 7), ("due", 8), ("found", 9)]) rfl nd__law_first_right (it_list (ee_var 3)) (blkOk_by (by show blkC N__law_first_right (defScope st__law_first_right) _ _ = true; decide +kernel)) (fun _ _ _ _ _ => (gd_tup rfl (gds_cons (gd_name 6 nd__law_first_right) (gds_cons (gd_name 7 nd__law_first_right) (gds_cons (gd_name 8 nd__law_first_right) (gds_cons (gd_name 9 nd__law_first_right) gds_nil)))))) (by decide) (fun _ _ _ _ _ => pts_nilD) (fun _ _ _ _ _ => (cc h__law_alone (by decide) ⟨g.room, g.guards⟩ h.g__law_alone (lenIs_cons (lenIs_cons (lenIs_cons (lenIs_cons lenIs_nil)))) (ea_cons (ee_var 6) (ea_cons (ee_var 7) (ea_cons (ee_var 8) (ea_cons (ee_var 9) ea_nil))))))))) eb_nil) (fun ha => pe_callB (cr_all rfl) (by rfl) h.f_all boot_all ha)))))))))))))))))))))))))))))
def N__law_is_caught : List Str := ["a", "b"]
theorem nd__law_is_caught : N__law_is_caught.Nodup := by decide +kernel
def b__law_is_caught : S → Res (S × Fl) := sSeq (sTryR ["what", "number"] true (aCons (eVar 0) (aCons (eVar 1) (aNil)))) (sRet (eC (.bl false)))
def F__law_is_caught := runF N__law_is_caught b__law_is_caught
abbrev Ok__law_is_caught (P : Program) (w : World) (K : PySem.W.Frag) (mg : Str → Option Value) (base : Heap) : Prop := OkF P w K mg base 3 "_law_is_caught" ["a", "b"] (spF K mg 2 F__law_is_caught)
theorem ok__law_is_caught (h : HD K mg) (h_x_BadNumber : OkX P w K mg base 1 "BadNumber" ["what", "number"]) : Ok__law_is_caught P w K mg base :=
  okF_of (k := 2) (N := N__law_is_caught) h.d__law_is_caught ⟨rfl, rfl, rfl, by decide +kernel, rfl, by decide +kernel, by decide +kernel⟩ rfl (by decide) (fun _ _ _ _ _ _ us hl => match us, hl with | [_, _], _ => rfl) fun cd A outer s H E g => (sb_cons (ss_tryR h_x_BadNumber (by decide) g (fun _ _ => rfl) rfl rfl ⟨rfl, by decide, .inl h.g_SeenError⟩ (xm_ok h.xk_ (by decide +kernel)) (fun pn xe => (ea_cons (ee_var 0) (ea_cons (ee_var 1) ea_nil)))) (sb_one (ss_ret ee_bl)))
def N__law_last_right : List Str := ["a", "b", "c", "rows", "one", "two", "name", "fault", "due", "found"]
theorem nd__law_last_right : N__law_last_right.Nodup := by decide +kernel
def b__law_last_right : S → Res (S × Fl) := sSeq (sOwn 3 (eLst (aNil))) (sSeq (sSet 4 (eCall (mkX "BadPaper" ["value"]) (aCons (eVar 0) (aNil)))) (sSeq (sSet 5 (eCall (rvF (mkX "BadPaper" ["value"])) (aCons (eVar 0) (aNil)))) (sSeq (sApp 3 (eTup (aCons (eC (.str "BadPaper")) (aCons (eVar 4) (aCons (eLst (aCons (eVar 0) (aNil))) (aCons (eLst (aCons (eXf FXT "value" (ePeek 4)) (aNil))) (aNil))))))) (sSeq (sApp 3 (eTup (aCons (eC (.str "BadPaper")) (aCons (eVar 5) (aCons (eLst (aCons (eVar 0) (aNil))) (aCons (eLst (aCons (eXf FXT "value" (ePeek 5)) (aNil))) (aNil))))))) (sSeq (sSet 4 (eCall (mkX "Unlike" ["what"]) (aCons (eVar 0) (aNil)))) (sSeq (sSet 5 (eCall (rvF (mkX "Unlike" ["what"])) (aCons (eVar 0) (aNil)))) (sSeq (sApp 3 (eTup (aCons (eC (.str "Unlike")) (aCons (eVar 4) (aCons (eLst (aCons (eVar 0) (aNil))) (aCons (eLst (aCons (eXf FXT "what" (ePeek 4)) (aNil))) (aNil))))))) (sSeq (sApp 3 (eTup (aCons (eC (.str "Unlike")) (aCons (eVar 5) (aCons (eLst (aCons (eVar 0) (aNil))) (aCons (eLst (aCons (eXf FXT "what" (ePeek 5)) (aNil))) (aNil))))))) (sSeq (sSet 4 (eCall (mkX "TooMany" ["what", "many", "limit"]) (aCons (eVar 0) (aCons (eVar 1) (aCons (eVar 2) (aNil)))))) (sSeq (sSet 5 (eCall (rvF (mkX "TooMany" ["what", "many", "limit"])) (aCons (eVar 2) (aCons (eVar 1) (aCons (eVar 0) (aNil)))))) (sSeq (sApp 3 (eTup (aCons (eC (.str "TooMany")) (aCons (eVar 4) (aCons (eLst (aCons (eVar 0) (aCons (eVar 1) (aCons (eVar 2) (aNil))))) (aCons (eLst (aCons (eXf FXT "what" (ePeek 4)) (aCons (eXf FXT "many" (ePeek 4)) (aCons (eXf FXT "limit" (ePeek 4)) (aNil))))) (aNil))))))) (sSeq (sApp 3 (eTup (aCons (eC (.str "TooMany")) (aCons (eVar 5) (aCons (eLst (aCons (eVar 0) (aCons (eVar 1) (aCons (eVar 2) (aNil))))) (aCons (eLst (aCons (eXf FXT "what" (ePeek 5)) (aCons (eXf FXT "many" (ePeek 5)) (aCons (eXf FXT "limit" (ePeek 5)) (aNil))))) (aNil))))))) (sSeq (sSet 4 (eCall (mkX "NoName" ["name"]) (aCons (eVar 0) (aNil)))) (sSeq (sSet 5 (eCall (rvF (mkX "NoName" ["name"])) (aCons (eVar 0) (aNil)))) (sSeq (sApp 3 (eTup (aCons (eC (.str "NoName")) (aCons (eVar 4) (aCons (eLst (aCons (eVar 0) (aNil))) (aCons (eLst (aCons (eXf FXT "name" (ePeek 4)) (aNil))) (aNil))))))) (sSeq (sApp 3 (eTup (aCons (eC (.str "NoName")) (aCons (eVar 5) (aCons (eLst (aCons (eVar 0) (aNil))) (aCons (eLst (aCons (eXf FXT "name" (ePeek 5)) (aNil))) (aNil))))))) (sSeq (sSet 4 (eC (.xo "NothingToUndo" [] []))) (sSeq (sSet 5 (eC (.xo "NothingToUndo" [] []))) (sSeq (sApp 3 (eTup (aCons (eC (.str "NothingToUndo")) (aCons (eVar 4) (aCons (eLst (aNil)) (aCons (eLst (aNil)) (aNil))))))) (sSeq (sApp 3 (eTup (aCons (eC (.str "NothingToUndo")) (aCons (eVar 5) (aCons (eLst (aNil)) (aCons (eLst (aNil)) (aNil))))))) (sSeq (sSet 4 (eC (.xo "NothingToRedo" [] []))) (sSeq (sSet 5 (eC (.xo "NothingToRedo" [] []))) (sSeq (sApp 3 (eTup (aCons (eC (.str "NothingToRedo")) (aCons (eVar 4) (aCons (eLst (aNil)) (aCons (eLst (aNil)) (aNil))))))) (sSeq (sApp 3 (eTup (aCons (eC (.str "NothingToRedo")) (aCons (eVar 5) (aCons (eLst (aNil)) (aCons (eLst (aNil)) (aNil))))))) (sRet (eCallD (q1 uAll) (aCons (eLc (itList (eVar 3)) (tTp 4 (tsCons (tNm 6) (tsCons (tNm 7) (tsCons (tNm 8) (tsCons (tNm 9) (tsNil)))))) (tYesD) (eCall F__law_alone (aCons (eVar 6) (aCons (eVar 7) (aCons (eVar 8) (aCons (eVar 9) (aNil)))))) [6, 7, 8, 9]) (aNil))))))))))))))))))))))))))))
def F__law_last_right := runF N__law_last_right b__law_last_right
abbrev Ok__law_last_right (P : Program) (w : World) (K : PySem.W.Frag) (mg : Str → Option Value) (base : Heap) : Prop := OkF P w K mg base 3 "_law_last_right" ["a", "b", "c"] (spF K mg 3 F__law_last_right)
theorem ok__law_last_right (h : HD K mg) (h__law_alone : Ok__law_alone P w K mg base) (h_x_BadPaper : OkX P w K mg base 1 "BadPaper" ["value"]) (h_x_NoName : OkX P w K mg base 1 "NoName" ["name"]) (h_x_NothingToRedo : OkX0 P w K mg base 1 "NothingToRedo") (h_x_NothingToUndo : OkX0 P w K mg base 1 "NothingToUndo") (h_x_TooMany : OkX P w K mg base 1 "TooMany" ["what", "many", "limit"]) (h_x_Unlike : OkX P w K mg base 1 "Unlike" ["what"]) : Ok__law_last_right P w K mg base :=
  okF_of (k := 2) (N := N__law_last_right) h.d__law_last_right ⟨rfl, rfl, rfl, by decide +kernel, rfl, by decide +kernel, by decide +kernel⟩ rfl (by decide) (fun _ _ _ _ _ _ us hl => match us, hl with | [_, _, _], _ => rfl) fun cd A outer s H E g => (sb_cons (ss_own 3 nd__law_last_right (ef_lst ea_nil)) (sb_cons (ss_set 4 nd__law_last_right (ee_mkX h_x_BadPaper (by decide) g (ea_cons (ee_var 0) ea_nil))) (sb_cons (ss_set 5 nd__law_last_right (ee_mkXK h_x_BadPaper (by decide) g (ek_cons (ee_var 0) ek_nil))) (sb_cons (ss_app 3 (ee_tup (ea_cons ee_str (ea_cons (ee_var 4) (ea_cons (ee_new (ef_lst (ea_cons (ee_var 0) ea_nil))) (ea_cons (ee_new (ef_lst (ea_cons (ee_xf (hXf h) (er_var 4)) ea_nil))) ea_nil)))))) (sb_cons (ss_app 3 (ee_tup (ea_cons ee_str (ea_cons (ee_var 5) (ea_cons (ee_new (ef_lst (ea_cons (ee_var 0) ea_nil))) (ea_cons (ee_new (ef_lst (ea_cons (ee_xf (hXf h) (er_var 5)) ea_nil))) ea_nil)))))) (sb_cons (ss_set 4 nd__law_last_right (ee_mkX h_x_Unlike (by decide) g (ea_cons (ee_var 0) ea_nil))) (sb_cons (ss_set 5 nd__law_last_right (ee_mkXK h_x_Unlike (by decide) g (ek_cons (ee_var 0) ek_nil))) (sb_cons (ss_app 3 (ee_tup (ea_cons ee_str (ea_cons (ee_var 4) (ea_cons (ee_new (ef_lst (ea_cons (ee_var 0) ea_nil))) (ea_cons (ee_new (ef_lst (ea_cons (ee_xf (hXf h) (er_var 4)) ea_nil))) ea_nil)))))) (sb_cons (ss_app 3 (ee_tup (ea_cons ee_str (ea_cons (ee_var 5) (ea_cons (ee_new (ef_lst (ea_cons (ee_var 0) ea_nil))) (ea_cons (ee_new (ef_lst (ea_cons (ee_xf (hXf h) (er_var 5)) ea_nil))) ea_nil)))))) (sb_cons (ss_set 4 nd__law_last_right (ee_mkX h_x_TooMany (by decide) g (ea_cons (ee_var 0) (ea_cons (ee_var 1) (ea_cons (ee_var 2) ea_nil))))) (sb_cons (ss_set 5 nd__law_last_right (ee_mkXK h_x_TooMany (by decide) g (ek_cons (ee_var 2) (ek_cons (ee_var 1) (ek_cons (ee_var 0) ek_nil))))) (sb_cons (ss_app 3 (ee_tup (ea_cons ee_str (ea_cons (ee_var 4) (ea_cons (ee_new (ef_lst (ea_cons (ee_var 0) (ea_cons (ee_var 1) (ea_cons (ee_var 2) ea_nil))))) (ea_cons (ee_new (ef_lst (ea_cons (ee_xf (hXf h) (er_var 4)) (ea_cons (ee_xf (hXf h) (er_var 4)) (ea_cons (ee_xf (hXf h) (er_var 4)) ea_nil))))) ea_nil)))))) (sb_cons (ss_app 3 (ee_tup (ea_cons ee_str (ea_cons (ee_var 5) (ea_cons (ee_new (ef_lst (ea_cons (ee_var 0) (ea_cons (ee_var 1) (ea_cons (ee_var 2) ea_nil))))) (ea_cons (ee_new (ef_lst (ea_cons (ee_xf (hXf h) (er_var 5)) (ea_cons (ee_xf (hXf h) (er_var 5)) (ea_cons (ee_xf (hXf h) (er_var 5)) ea_nil))))) ea_nil)))))) (sb_cons (ss_set 4 nd__law_last_right (ee_mkX h_x_NoName (by decide) g (ea_cons (ee_var 0) ea_nil))) (sb_cons (ss_set 5 nd__law_last_right (ee_mkXK h_x_NoName (by decide) g (ek_cons (ee_var 0) ek_nil))) (sb_cons (ss_app 3 (ee_tup (ea_cons ee_str (ea_cons (ee_var 4) (ea_cons (ee_new (ef_lst (ea_cons (ee_var 0) ea_nil))) (ea_cons (ee_new (ef_lst (ea_cons (ee_xf (hXf h) (er_var 4)) ea_nil))) ea_nil)))))) (sb_cons (ss_app 3 (ee_tup (ea_cons ee_str (ea_cons (ee_var 5) (ea_cons (ee_new (ef_lst (ea_cons (ee_var 0) ea_nil))) (ea_cons (ee_new (ef_lst (ea_cons (ee_xf (hXf h) (er_var 5)) ea_nil))) ea_nil)))))) (sb_cons (ss_set 4 nd__law_last_right (ee_mkX0 h_x_NothingToUndo (by decide) g)) (sb_cons (ss_set 5 nd__law_last_right (ee_mkX0 h_x_NothingToUndo (by decide) g)) (sb_cons (ss_app 3 (ee_tup (ea_cons ee_str (ea_cons (ee_var 4) (ea_cons (ee_new (ef_lst ea_nil)) (ea_cons (ee_new (ef_lst ea_nil)) ea_nil)))))) (sb_cons (ss_app 3 (ee_tup (ea_cons ee_str (ea_cons (ee_var 5) (ea_cons (ee_new (ef_lst ea_nil)) (ea_cons (ee_new (ef_lst ea_nil)) ea_nil)))))) (sb_cons (ss_set 4 nd__law_last_right (ee_mkX0 h_x_NothingToRedo (by decide) g)) (sb_cons (ss_set 5 nd__law_last_right (ee_mkX0 h_x_NothingToRedo (by decide) g)) (sb_cons (ss_app 3 (ee_tup (ea_cons ee_str (ea_cons (ee_var 4) (ea_cons (ee_new (ef_lst ea_nil)) (ea_cons (ee_new (ef_lst ea_nil)) ea_nil)))))) (sb_cons (ss_app 3 (ee_tup (ea_cons ee_str (ea_cons (ee_var 5) (ea_cons (ee_new (ef_lst ea_nil)) (ea_cons (ee_new (ef_lst ea_nil)) ea_nil)))))) (sb_one (ss_ret (ee_callD all_D (eb_cons (er_of (ee_new (ef_lc (own := [("name", 6), ("fault", 7), ("due", 8), ("found", 9)]) rfl nd__law_last_right (it_list (ee_var 3)) (blkOk_by (by show blkC N__law_last_right (defScope st__law_last_right) _ _ = true; decide +kernel)) (fun _ _ _ _ _ => (gd_tup rfl (gds_cons (gd_name 6 nd__law_last_right) (gds_cons (gd_name 7 nd__law_last_right) (gds_cons (gd_name 8 nd__law_last_right) (gds_cons (gd_name 9 nd__law_last_right) gds_nil)))))) (by decide) (fun _ _ _ _ _ => pts_nilD) (fun _ _ _ _ _ => (cc h__law_alone (by decide) ⟨g.room, g.guards⟩ h.g__law_alone (lenIs_cons (lenIs_cons (lenIs_cons (lenIs_cons lenIs_nil)))) (ea_cons (ee_var 6) (ea_cons (ee_var 7) (ea_cons (ee_var 8) (ea_cons (ee_var 9) ea_nil))))))))) eb_nil) (fun ha => pe_callB (cr_all rfl) (by rfl) h.f_all boot_all ha)))))))))))))))))))))))))))))
def N__law_draw : List Str := ["pen", "many", "cell", "digit", "blend"]
theorem nd__law_draw : N__law_draw.Nodup := by decide +kernel
def b__law_draw : S → Res (S × Fl) := sSeq (sPen 0 .count (eAdd (ePen 0 .count) (eC (.int 1)))) (sSeq (sIf (tAnd (tCmp cEq (ePen 0 .digits) (eC (.int 0))) (tCmp cLt (ePen 0 .at_) (eCallD (q1 uLen) (aCons (ePen 0 .cells) (aNil))))) (sSeq (sSet 2 (eIx (ePen 0 .cells) (ePen 0 .at_))) (sSeq (sPen 0 .at_ (eAdd (ePen 0 .at_) (eC (.int 1)))) (sIf (tCmp cGe (ePeek 2) (ePow (eC (.int 10)) (eC (.int 18)))) (sPen 0 .digits (eSub (eVar 2) (ePow (eC (.int 10)) (eC (.int 18))))) (sPen 0 .fold (eMod (eCallD (q1 uInt) (aCons (eAdd (eMul (ePen 0 .fold) (eC (.int 24103))) (eVar 2)) (aNil))) (eC (.int 2147483069))))))) ((fun s => .ok (s, .nx)))) (sSeq (sIf (tCmp cGt (ePen 0 .digits) (eC (.int 0))) (sSeq (sSet 3 (eMod (eCallD (q1 uInt) (aCons (ePen 0 .digits) (aNil))) (eVar 1))) (sSeq (sPen 0 .digits (eFdiv (ePen 0 .digits) (eVar 1))) (sRet (eVar 3)))) ((fun s => .ok (s, .nx)))) (sSeq (sSet 4 (eAdd (eAdd (ePen 0 .fold) (eMul (ePen 0 .count) (eC (.int 5011)))) (eC (.int 163)))) (sRet (eMod (eFdiv (eCallD (q1 uInt) (aCons (eMod (ePow (eVar 4) (eC (.int 63))) (eC (.int 2305843009213693951))) (aNil))) (eC (.int 64))) (eVar 1))))))
def P__law_draw := runP N__law_draw b__law_draw
abbrev Ok__law_draw (P : Program) (w : World) (K : PySem.W.Frag) (mg : Str → Option Value) (base : Heap) : Prop := OkF P w K mg base 1 "_law_draw" ["pen", "many"] (spP K mg 2 P__law_draw)
theorem ok__law_draw (h : HD K mg)  : Ok__law_draw P w K mg base :=
  okF_ofP (k := 0) (N := N__law_draw) h.d__law_draw ⟨rfl, rfl, rfl, by decide +kernel, rfl, by decide +kernel, by decide +kernel⟩ rfl (by decide) (fun _ _ _ _ _ _ us hl => match us, hl with | [_, _], _ => rfl) fun cd A outer s H E g => (sb_cons (ss_pen g.units 0 .count rfl (ee_add (ee_pen g.units 0 .count rfl) ee_int)) (sb_cons (ss_if (et_w (ew_and (et_cmp op_eq cmp_eq (nomark _) (er_of (ee_pen g.units 0 .digits rfl)) (er_of ee_int)) (ew_and1 (et_cmp op_lt cmp_int (nomark _) (er_of (ee_pen g.units 0 .at_ rfl)) (er_of (ee_callD len_D (eb_cons (er_of (ee_pen g.units 0 .cells rfl)) eb_nil) (fun ha => pe_callB call_len (by rfl) h.f_len boot_len ha))))))) (sb_cons (ss_set 2 nd__law_draw (ee_ix g.units (er_of (ee_pen g.units 0 .cells rfl)) (er_of (ee_pen g.units 0 .at_ rfl)) (by intro _ _; rfl))) (sb_cons (ss_pen g.units 0 .at_ rfl (ee_add (ee_pen g.units 0 .at_ rfl) ee_int)) (sb_one (ss_if (et_cmp op_ge cmp_int (nomark _) (er_var 2) (er_of (ee_pow ee_int ee_int))) (sb_one (ss_pen g.units 0 .digits rfl (ee_sub (ee_var 2) (ee_pow ee_int ee_int)))) (sb_one (ss_pen g.units 0 .fold rfl (ee_mod (ee_callD int_D (eb_cons (er_of (ee_add (ee_mul (ee_pen g.units 0 .fold rfl) ee_int) (ee_var 2))) eb_nil) (fun ha => pe_callTy call_int1 (by rfl) h.f_int boot_int ha)) ee_int))))))) sb_nil) (sb_cons (ss_if (et_cmp op_gt cmp_int (nomark _) (er_of (ee_pen g.units 0 .digits rfl)) (er_of ee_int)) (sb_cons (ss_set 3 nd__law_draw (ee_mod (ee_callD int_D (eb_cons (er_of (ee_pen g.units 0 .digits rfl)) eb_nil) (fun ha => pe_callTy call_int1 (by rfl) h.f_int boot_int ha)) (ee_var 1))) (sb_cons (ss_pen g.units 0 .digits rfl (ee_fdiv (ee_pen g.units 0 .digits rfl) (ee_var 1))) (sb_one (ss_ret (ee_var 3))))) sb_nil) (sb_cons (ss_set 4 nd__law_draw (ee_add (ee_add (ee_pen g.units 0 .fold rfl) (ee_mul (ee_pen g.units 0 .count rfl) ee_int)) ee_int)) (sb_one (ss_ret (ee_mod (ee_fdiv (ee_callD int_D (eb_cons (er_of (ee_mod (ee_pow (ee_var 4) ee_int) ee_int)) eb_nil) (fun ha => pe_callTy call_int1 (by rfl) h.f_int boot_int ha)) ee_int) (ee_var 1))))))))
def N__law_pick : List Str := ["pen", "some"]
theorem nd__law_pick : N__law_pick.Nodup := by decide +kernel
def b__law_pick : S → Res (S × Fl) := sRet (eIx (ePeek 1) (eCallP P__law_draw (aCons (eVar 0) (aCons (eCallD (q1 uLen) (aCons (ePeek 1) (aNil))) (aNil)))))
def P__law_pick := runP N__law_pick b__law_pick
abbrev Ok__law_pick (P : Program) (w : World) (K : PySem.W.Frag) (mg : Str → Option Value) (base : Heap) : Prop := OkF P w K mg base 2 "_law_pick" ["pen", "some"] (spP K mg 2 P__law_pick)
theorem ok__law_pick (h : HD K mg) (h__law_draw : Ok__law_draw P w K mg base) : Ok__law_pick P w K mg base :=
  okF_ofP (k := 1) (N := N__law_pick) h.d__law_pick ⟨rfl, rfl, rfl, by decide +kernel, rfl, by decide +kernel, by decide +kernel⟩ rfl (by decide) (fun _ _ _ _ _ _ us hl => match us, hl with | [_, _], _ => rfl) fun cd A outer s H E g => (sb_one (ss_ret (ee_ix g.units (er_var 1) (er_of (ccP h__law_draw (by decide) g h.g__law_draw (lenIs_cons (lenIs_cons lenIs_nil)) (ea_cons (ee_var 0) (ea_cons (ee_callD len_D (eb_cons (er_var 1) eb_nil) (fun ha => pe_callB call_len (by rfl) h.f_len boot_len ha)) ea_nil)))) (by intro _ _; rfl))))
def N__law_values : List Str := ["pen", "deep", "k"]
theorem nd__law_values : N__law_values.Nodup := by decide +kernel
def b__law_values : S → Res (S × Fl) := sSeq (sSet 1 (eLst (aCons (eTup (aCons (eC (.int 1)) (aCons (eC (.int 2)) (aNil)))) (aCons (eLst (aCons (eC (.int 3)) (aCons (eLst (aCons (eC (.int 4)) (aNil))) (aNil)))) (aCons (eC (.dK [.inr "a"] [.int 1])) (aCons (eC (.str "")) (aCons (eC (.str "abc")) (aCons (eC (.int 0)) (aCons (eNeg (eC (.int 7))) (aCons (eC (.bl true)) (aCons (eC .non) (aCons (ePow (eC (.int 10)) (eC (.int 41))) (aCons (eTup (aNil)) (aCons (eTup (aCons (eTup (aNil)) (aNil))) (aCons (eTup (aCons (eC (.str "x")) (aCons (eC .non) (aNil)))) (aNil)))))))))))))))) (sRet (eLc (itRange (aCons (eC (.int 3)) (aNil))) (tNm 2) (tYesD) (eCallP P__law_pick (aCons (eVar 0) (aCons (eVar 1) (aNil)))) [2]))
def P__law_values := runP N__law_values b__law_values
abbrev Ok__law_values (P : Program) (w : World) (K : PySem.W.Frag) (mg : Str → Option Value) (base : Heap) : Prop := OkF P w K mg base 3 "_law_values" ["pen"] (spP K mg 1 P__law_values)
theorem ok__law_values (h : HD K mg) (h__law_pick : Ok__law_pick P w K mg base) : Ok__law_values P w K mg base :=
  okF_ofP (k := 2) (N := N__law_values) h.d__law_values ⟨rfl, rfl, rfl, by decide +kernel, rfl, by decide +kernel, by decide +kernel⟩ rfl (by decide) (fun _ _ _ _ _ _ us hl => match us, hl with | [_], _ => rfl) fun cd A outer s H E g => (sb_cons (ss_set 1 nd__law_values (ee_new (ef_lst (ea_cons (ee_tup (ea_cons ee_int (ea_cons ee_int ea_nil))) (ea_cons (ee_new (ef_lst (ea_cons ee_int (ea_cons (ee_new (ef_lst (ea_cons ee_int ea_nil))) ea_nil)))) (ea_cons (ee_new ef_disp1) (ea_cons ee_str (ea_cons ee_str (ea_cons ee_int (ea_cons (ee_neg ee_int) (ea_cons ee_bl (ea_cons ee_non (ea_cons (ee_pow ee_int ee_int) (ea_cons (ee_tup ea_nil) (ea_cons (ee_tup (ea_cons (ee_tup ea_nil) ea_nil)) (ea_cons (ee_tup (ea_cons ee_str (ea_cons ee_non ea_nil))) ea_nil)))))))))))))))) (sb_one (ss_ret (ee_new (ef_lc (own := [("k", 2)]) rfl nd__law_values (it_range (by rfl) h.f_range (ea_cons ee_int ea_nil)) (blkOk_by (by show blkC N__law_values (defScope st__law_values) _ _ = true; decide +kernel)) (fun _ _ _ _ _ => (gd_name 2 nd__law_values)) (by decide) (fun _ _ _ _ _ => pts_nilD) (fun _ _ _ _ _ => (ccP h__law_pick (by decide) ⟨g.room, g.guards⟩ h.g__law_pick (lenIs_cons (lenIs_cons lenIs_nil)) (ea_cons (ee_var 0) (ea_cons (ee_var 1) ea_nil)))))))))
end
end Wk00

set_option Elab.async false
set_option linter.all false
set_option maxRecDepth 100000
set_option maxHeartbeats 4000000
namespace Wk00
open PySem PySem.Spec PyProof.Rows L2 SM
def N_law : List Str := ["script", "pen", "a", "b", "c"]
theorem nd_law : N_law.Nodup := by decide +kernel
def b_law : S → Res (S × Fl) := sSeq (sAsg (tLs 3 (tsCons (tNm 2) (tsCons (tNm 3) (tsCons (tNm 4) (tsNil))))) (eCallP P__law_values (aCons (eVar 1) (aNil)))) (sRet (eAnd (eCall F__law_first_right (aCons (eVar 2) (aCons (eVar 3) (aCons (eVar 4) (aNil))))) (eAnd (eCall F__law_last_right (aCons (eVar 2) (aCons (eVar 3) (aCons (eVar 4) (aNil))))) (eCall F__law_is_caught (aCons (eVar 2) (aCons (eVar 3) (aNil)))))))
end Wk00

set_option Elab.async false
set_option linter.all false
set_option maxRecDepth 100000
set_option maxHeartbeats 4000000
namespace Wk00
open PySem PySem.Spec PyProof.Rows L2 SM
section
variable [T : Tab] {P : Program} {w : World} {K : PySem.W.Frag} {mg : Str → Option Value} {base : Heap}
theorem ok__law_pen (h : HD K mg) : OkF P w K mg base 1 "_law_pen" ["script"] (spPen K 173 999999271) := by
  obtain ⟨fd, FD⟩ := h.d__law_pen
  refine ⟨FD.kp, fd, FD.bindsN (fun _ _ _ _ _ _ us hl => match us, hl with | [_], _ => rfl), ?_⟩
  obtain ⟨oc, od, dV, kV, doc, pm, an, cdv, ct, osl, rfl, lk, hcd, _, _⟩ := FD.ex
  refine fnG_of (k := 0) (N := penN) lk hcd ⟨rfl, rfl, rfl, by decide +kernel, rfl, by decide +kernel, by decide +kernel⟩ (fun vs H Q E z => z.1) fun A outer s H vs Q E g hsp => ?_
  obtain ⟨hl, a, ns, rfl, hS, hn, hq⟩ := hsp
  exact wb_pen (M1 := 173) (M2 := 999999271) rfl rfl (passes_of rfl) ⟨by decide, by decide⟩ ⟨by decide, by decide⟩ (.inl rfl) (.inl rfl) (.inl rfl) (.inl rfl) (.inl rfl) rfl rfl (by rfl) (by rfl) h.f_int h.f_list (by rfl) (by rfl) (by rfl) (by rfl) (by rfl) (fun _ => rfl) rfl rfl hS hn hq
theorem ok_law (h : HD K mg) (h__law_pen : OkF P w K mg base 1 "_law_pen" ["script"] (spPen K 173 999999271)) (h__law_first_right : Ok__law_first_right P w K mg base) (h__law_is_caught : Ok__law_is_caught P w K mg base) (h__law_last_right : Ok__law_last_right P w K mg base) (h__law_values : Ok__law_values P w K mg base)
    (HV : ∀ (pn : Pn), pn.at_ = 0 → pn.digits = 0 → pn.count = 0 → 0 ≤ pn.fold → pn.fold < 999999271 → ∃ s', b_law (s0Law 5 1 pn) = .ok (s', .rt (.bl true))) : ∀ fd, FunD K "law" "law" (defArgs st_law) (defBody st_law) (defScope st_law) [] [] (He.ga K "law") fd → FnG P w K mg base 4 (He.ga K "law") fd ["script"] (spLaw K) := by
  intro fd FD
  obtain ⟨oc, od, dV, kV, doc, pm, an, cdv, ct, osl, rfl, lk, hcd, _, _⟩ := FD.ex
  refine fnG_of (k := 3) (N := N_law) lk hcd ⟨rfl, rfl, rfl, by decide +kernel, rfl, by decide +kernel, by decide +kernel⟩ (fun vs H Q E z => z.1) fun A outer s H vs Q E g hsp => ?_
  obtain ⟨hl, a, ns, rfl, hS, hn, hTb, hq⟩ := hsp
  obtain ⟨kp, fdp, hbp, Gp⟩ := h__law_pen
  exact wb_law (i := 1) g nd_law Gp (by decide) (by rfl) h.g__law_pen kp hbp (fun σ H' Q' w => we_callG Gp (g.mono (by decide)) (by rfl) h.g__law_pen kp hbp body_takes w) rfl (.inl rfl) rfl rfl (by rfl) rfl (by first | exact .inl rfl | exact .inr rfl) (by rfl) (raw0 (sb0_of (sb_cons (ss_asg (ccP h__law_values (by decide) g h.g__law_values (lenIs_cons lenIs_nil) (ea_cons (ee_var 1) ea_nil)) (gd_lst rfl (gds_cons (gd_name 2 nd_law) (gds_cons (gd_name 3 nd_law) (gds_cons (gd_name 4 nd_law) gds_nil))))) (sb_one (ss_ret (ee_and (cc h__law_first_right (by decide) g h.g__law_first_right (lenIs_cons (lenIs_cons (lenIs_cons lenIs_nil))) (ea_cons (ee_var 2) (ea_cons (ee_var 3) (ea_cons (ee_var 4) ea_nil)))) (ee_and (cc h__law_last_right (by decide) g h.g__law_last_right (lenIs_cons (lenIs_cons (lenIs_cons lenIs_nil))) (ea_cons (ee_var 2) (ea_cons (ee_var 3) (ea_cons (ee_var 4) ea_nil)))) (ee_one (cc h__law_is_caught (by decide) g h.g__law_is_caught (lenIs_cons (lenIs_cons lenIs_nil)) (ea_cons (ee_var 2) (ea_cons (ee_var 3) ea_nil))))))))))) HV (by decide) hS hn hTb hq
end
end Wk00

set_option Elab.async false
set_option linter.all false
set_option maxRecDepth 100000
set_option maxHeartbeats 4000000
namespace Wk00
open PySem PySem.Spec PyProof.Rows L2 SM
variable [Tab]
def rowX (c : Str) (ns : List Str) (ds : List D) : D := .tup [.str c, .xo c ns.reverse ds.reverse, .lst ds, .lst ds]
theorem kinds_ok {c : Str} (hc : c ∈ EXL) (ns : List Str) (ds : List D) : F__law_kinds_of [.xo c ns ds] = .ok (.lst [.str c]) := by
  simp only [EXL, List.mem_cons, List.not_mem_nil, or_false] at hc
  rcases hc with rfl | rfl | rfl | rfl | rfl | rfl | rfl | rfl | rfl | rfl | rfl | rfl
  all_goals rfl
theorem lay_c {c : Str} (hc : c ∈ EXL) : layD 60 (.lst [.str c]) = true := by
  simp only [EXL, List.mem_cons, List.not_mem_nil, or_false] at hc
  rcases hc with rfl | rfl | rfl | rfl | rfl | rfl | rfl | rfl | rfl | rfl | rfl | rfl
  all_goals decide +kernel
theorem top_ok {c : Str} (hc : c ∈ EXL) : exK EXL "SeenError" c "SeenError" = some true := by
  simp only [EXL, List.mem_cons, List.not_mem_nil, or_false] at hc
  rcases hc with rfl | rfl | rfl | rfl | rfl | rfl | rfl | rfl | rfl | rfl | rfl | rfl
  all_goals decide +kernel
theorem alone_ok {c : Str} (hc : c ∈ EXL) {ns : List Str} {ds es : List D} (hr : repB (.lst es) = true) : F__law_alone [.str c, .xo c ns ds, .lst es, .lst es] = .ok (.bl true) := by
  refine runF_of (s1 := ⟨[.fz (.str c), .fz (.xo c ns ds), .fz (.lst es), .fz (.lst es)], none⟩) ?_
  show b__law_alone ⟨[.fz (.str c), .fz (.xo c ns ds), .fz (.lst es), .fz (.lst es)], none⟩ = _
  refine es_ret (ev_andT (ev_callD (ds := [.xo c ns ds, .glo "SeenError"]) rfl ?_) (ev_andT (ev_eqP (ev_call rfl (kinds_ok hc ns ds)) rfl (eqP_lay (lay_c hc))) (ev_cmp (ev_repr rfl hr) (ev_repr rfl hr) (cEq_str _))))
  show (exK EXL "SeenError" c "SeenError").map D.bl = _
  rw [top_ok hc]; rfl
def Good1 (r : D) : Prop := ∃ c ns ds, c ∈ EXL ∧ repB (.lst ds) = true ∧ r = rowX c ns ds
theorem lc_rows {x0 x1 x2 x3 x4 x5 : Sl} : ∀ (rows acc : List D), (∀ r ∈ rows, Good1 r) → acc.length + rows.length < 100000 →
    lcA (tTp 4 (tsCons (tNm 6) (tsCons (tNm 7) (tsCons (tNm 8) (tsCons (tNm 9) (tsNil)))))) (tYesD) (eCall F__law_alone (aCons (eVar 6) (aCons (eVar 7) (aCons (eVar 8) (aCons (eVar 9) (aNil)))))) [6, 7, 8, 9] rows acc ⟨[x0, x1, x2, x3, x4, x5, .no, .no, .no, .no], none⟩ = .ok (⟨[x0, x1, x2, x3, x4, x5, .no, .no, .no, .no], none⟩, acc ++ rows.map fun _ => .bl true)
  | [], acc, _, _ => by simp [lcA]
  | r :: rows, acc, h, hl => by
    obtain ⟨c, ns, ds, hc, hr, rfl⟩ := h r (List.mem_cons_self ..)
    have ih := lc_rows (x0 := x0) (x1 := x1) (x2 := x2) (x3 := x3) (x4 := x4) (x5 := x5) rows (acc ++ [.bl true]) (fun r hr => h r (List.mem_cons_of_mem _ hr)) (by simp at hl ⊢; omega)
    refine lc_cons rfl rfl (ev_call (ds := [.str c, .xo c ns.reverse ds.reverse, .lst ds, .lst ds]) rfl (alone_ok hc hr)) rfl (decide_eq_true (by simp at hl; omega)) ?_
    show lcA _ _ _ _ rows (acc ++ [.bl true]) ⟨[x0, x1, x2, x3, x4, x5, .no, .no, .no, .no], none⟩ = _
    rw [ih]
    simp
theorem all_rows {x0 x1 x2 x4 x5 : Sl} {rows : List D} (h : ∀ r ∈ rows, Good1 r) (hl : rows.length < 100000) : eCallD (q1 uAll) (aCons (eLc (itList (eVar 3)) (tTp 4 (tsCons (tNm 6) (tsCons (tNm 7) (tsCons (tNm 8) (tsCons (tNm 9) (tsNil)))))) (tYesD) (eCall F__law_alone (aCons (eVar 6) (aCons (eVar 7) (aCons (eVar 8) (aCons (eVar 9) (aNil)))))) [6, 7, 8, 9]) (aNil))
    ⟨[x0, x1, x2, .ow (.lst rows), x4, x5, .no, .no, .no, .no], none⟩ = .ok (⟨[x0, x1, x2, .fz (.lst rows), x4, x5, .no, .no, .no, .no], none⟩, .bl true) := by
  refine ev_callD (ds := [.lst (rows.map fun _ => .bl true)]) (ev_cons (ev_lc (ds := rows) (s1 := ⟨[x0, x1, x2, .fz (.lst rows), x4, x5, .no, .no, .no, .no], none⟩) rfl rfl ?_) ev_nil) ?_
  · exact lc_rows rows [] h (by simpa using hl)
  · show (allB (rows.map fun _ => .bl true)).map _ = _
    rw [allB_true]
    show some (D.bl ((rows.map fun _ => true).all id)) = _
    simp
theorem _law_first_right_ok {a b c : D} (ha : Small a) (hb : Small b) (hc : Small c) : F__law_first_right [a, b, c] = .ok (.bl true) := by
  have hg : ∀ r ∈ ([rowX "BadNumber" ["what", "number"] [a, b], rowX "BadNumber" ["what", "number"] [a, b], rowX "BadText" ["line", "column"] [a, b], rowX "BadText" ["line", "column"] [a, b], rowX "BadPoly" ["value"] [a], rowX "BadPoly" ["value"] [a], rowX "BadRow" ["row"] [a], rowX "BadRow" ["row"] [a], rowX "BadTable" ["table"] [a], rowX "BadTable" ["table"] [a], rowX "BadBase" ["value"] [a], rowX "BadBase" ["value"] [a]] : List D), Good1 r := by
    intro r hr
    simp only [List.mem_cons, List.not_mem_nil, or_false] at hr
    rcases hr with rfl | rfl | rfl | rfl | rfl | rfl | rfl | rfl | rfl | rfl | rfl | rfl
    all_goals
      refine ⟨_, _, _, by decide +kernel, rep_lst ?_ (by simp), rfl⟩
      intro d hd
      simp only [List.mem_cons, List.not_mem_nil, or_false] at hd <;> first
        | (rcases hd with rfl | rfl | rfl <;> first | exact ha | exact hb | exact hc)
        | (rcases hd with rfl | rfl <;> first | exact ha | exact hb | exact hc)
        | (subst hd; first | exact ha | exact hb | exact hc)
        | exact hd.elim
  have key : ∃ s1, b__law_first_right ⟨[.fz a, .fz b, .fz c, .no, .no, .no, .no, .no, .no, .no], none⟩ = .ok (s1, .rt (.bl true)) := ⟨_, (es_seq (es_own (s1 := ⟨[.fz a, .fz b, .fz c, .no, .no, .no, .no, .no, .no, .no], none⟩) (d := .lst []) rfl (by show 3 < 10; decide))
    (es_seq (es_set (s1 := ⟨[.fz a, .fz b, .fz c, .ow (.lst []), .no, .no, .no, .no, .no, .no], none⟩) (d := .xo "BadNumber" (["what", "number"] : List Str).reverse ([a, b] : List D).reverse) (ev_call (ds := [a, b]) rfl rfl) (by show 4 < 10; decide))
    (es_seq (es_set (s1 := ⟨[.fz a, .fz b, .fz c, .ow (.lst []), .fz (.xo "BadNumber" (["what", "number"] : List Str).reverse ([a, b] : List D).reverse), .no, .no, .no, .no, .no], none⟩) (d := .xo "BadNumber" (["what", "number"] : List Str).reverse ([a, b] : List D).reverse) (ev_call (ds := [b, a]) rfl rfl) (by show 5 < 10; decide))
    (es_seq (es_app (s1 := ⟨[.fz a, .fz b, .fz c, .ow (.lst []), .fz (.xo "BadNumber" (["what", "number"] : List Str).reverse ([a, b] : List D).reverse), .fz (.xo "BadNumber" (["what", "number"] : List Str).reverse ([a, b] : List D).reverse), .no, .no, .no, .no], none⟩) (d := rowX "BadNumber" ["what", "number"] [a, b]) rfl (ev_tup (ds := [.str "BadNumber", .xo "BadNumber" (["what", "number"] : List Str).reverse ([a, b] : List D).reverse, .lst [a, b], .lst [a, b]]) (ev_cons rfl (ev_cons rfl (ev_cons rfl (ev_cons (ev_lst (ds := [a, b]) (ev_cons (ev_xf (c := "BadNumber") (ns := (["what", "number"] : List Str).reverse) (ds := ([a, b] : List D).reverse) rfl (by decide +kernel) rfl) (ev_cons (ev_xf (c := "BadNumber") (ns := (["what", "number"] : List Str).reverse) (ds := ([a, b] : List D).reverse) rfl (by decide +kernel) rfl) ev_nil)) rfl) ev_nil)))) rfl) rfl rfl)
    (es_seq (es_app (s1 := ⟨[.fz a, .fz b, .fz c, .ow (.lst [rowX "BadNumber" ["what", "number"] [a, b]]), .fz (.xo "BadNumber" (["what", "number"] : List Str).reverse ([a, b] : List D).reverse), .fz (.xo "BadNumber" (["what", "number"] : List Str).reverse ([a, b] : List D).reverse), .no, .no, .no, .no], none⟩) (d := rowX "BadNumber" ["what", "number"] [a, b]) rfl (ev_tup (ds := [.str "BadNumber", .xo "BadNumber" (["what", "number"] : List Str).reverse ([a, b] : List D).reverse, .lst [a, b], .lst [a, b]]) (ev_cons rfl (ev_cons rfl (ev_cons rfl (ev_cons (ev_lst (ds := [a, b]) (ev_cons (ev_xf (c := "BadNumber") (ns := (["what", "number"] : List Str).reverse) (ds := ([a, b] : List D).reverse) rfl (by decide +kernel) rfl) (ev_cons (ev_xf (c := "BadNumber") (ns := (["what", "number"] : List Str).reverse) (ds := ([a, b] : List D).reverse) rfl (by decide +kernel) rfl) ev_nil)) rfl) ev_nil)))) rfl) rfl rfl)
    (es_seq (es_set (s1 := ⟨[.fz a, .fz b, .fz c, .ow (.lst [rowX "BadNumber" ["what", "number"] [a, b], rowX "BadNumber" ["what", "number"] [a, b]]), .fz (.xo "BadNumber" (["what", "number"] : List Str).reverse ([a, b] : List D).reverse), .fz (.xo "BadNumber" (["what", "number"] : List Str).reverse ([a, b] : List D).reverse), .no, .no, .no, .no], none⟩) (d := .xo "BadText" (["line", "column"] : List Str).reverse ([a, b] : List D).reverse) (ev_call (ds := [a, b]) rfl rfl) (by show 4 < 10; decide))
    (es_seq (es_set (s1 := ⟨[.fz a, .fz b, .fz c, .ow (.lst [rowX "BadNumber" ["what", "number"] [a, b], rowX "BadNumber" ["what", "number"] [a, b]]), .fz (.xo "BadText" (["line", "column"] : List Str).reverse ([a, b] : List D).reverse), .fz (.xo "BadNumber" (["what", "number"] : List Str).reverse ([a, b] : List D).reverse), .no, .no, .no, .no], none⟩) (d := .xo "BadText" (["line", "column"] : List Str).reverse ([a, b] : List D).reverse) (ev_call (ds := [b, a]) rfl rfl) (by show 5 < 10; decide))
    (es_seq (es_app (s1 := ⟨[.fz a, .fz b, .fz c, .ow (.lst [rowX "BadNumber" ["what", "number"] [a, b], rowX "BadNumber" ["what", "number"] [a, b]]), .fz (.xo "BadText" (["line", "column"] : List Str).reverse ([a, b] : List D).reverse), .fz (.xo "BadText" (["line", "column"] : List Str).reverse ([a, b] : List D).reverse), .no, .no, .no, .no], none⟩) (d := rowX "BadText" ["line", "column"] [a, b]) rfl (ev_tup (ds := [.str "BadText", .xo "BadText" (["line", "column"] : List Str).reverse ([a, b] : List D).reverse, .lst [a, b], .lst [a, b]]) (ev_cons rfl (ev_cons rfl (ev_cons rfl (ev_cons (ev_lst (ds := [a, b]) (ev_cons (ev_xf (c := "BadText") (ns := (["line", "column"] : List Str).reverse) (ds := ([a, b] : List D).reverse) rfl (by decide +kernel) rfl) (ev_cons (ev_xf (c := "BadText") (ns := (["line", "column"] : List Str).reverse) (ds := ([a, b] : List D).reverse) rfl (by decide +kernel) rfl) ev_nil)) rfl) ev_nil)))) rfl) rfl rfl)
    (es_seq (es_app (s1 := ⟨[.fz a, .fz b, .fz c, .ow (.lst [rowX "BadNumber" ["what", "number"] [a, b], rowX "BadNumber" ["what", "number"] [a, b], rowX "BadText" ["line", "column"] [a, b]]), .fz (.xo "BadText" (["line", "column"] : List Str).reverse ([a, b] : List D).reverse), .fz (.xo "BadText" (["line", "column"] : List Str).reverse ([a, b] : List D).reverse), .no, .no, .no, .no], none⟩) (d := rowX "BadText" ["line", "column"] [a, b]) rfl (ev_tup (ds := [.str "BadText", .xo "BadText" (["line", "column"] : List Str).reverse ([a, b] : List D).reverse, .lst [a, b], .lst [a, b]]) (ev_cons rfl (ev_cons rfl (ev_cons rfl (ev_cons (ev_lst (ds := [a, b]) (ev_cons (ev_xf (c := "BadText") (ns := (["line", "column"] : List Str).reverse) (ds := ([a, b] : List D).reverse) rfl (by decide +kernel) rfl) (ev_cons (ev_xf (c := "BadText") (ns := (["line", "column"] : List Str).reverse) (ds := ([a, b] : List D).reverse) rfl (by decide +kernel) rfl) ev_nil)) rfl) ev_nil)))) rfl) rfl rfl)
    (es_seq (es_set (s1 := ⟨[.fz a, .fz b, .fz c, .ow (.lst [rowX "BadNumber" ["what", "number"] [a, b], rowX "BadNumber" ["what", "number"] [a, b], rowX "BadText" ["line", "column"] [a, b], rowX "BadText" ["line", "column"] [a, b]]), .fz (.xo "BadText" (["line", "column"] : List Str).reverse ([a, b] : List D).reverse), .fz (.xo "BadText" (["line", "column"] : List Str).reverse ([a, b] : List D).reverse), .no, .no, .no, .no], none⟩) (d := .xo "BadPoly" (["value"] : List Str).reverse ([a] : List D).reverse) (ev_call (ds := [a]) rfl rfl) (by show 4 < 10; decide))
    (es_seq (es_set (s1 := ⟨[.fz a, .fz b, .fz c, .ow (.lst [rowX "BadNumber" ["what", "number"] [a, b], rowX "BadNumber" ["what", "number"] [a, b], rowX "BadText" ["line", "column"] [a, b], rowX "BadText" ["line", "column"] [a, b]]), .fz (.xo "BadPoly" (["value"] : List Str).reverse ([a] : List D).reverse), .fz (.xo "BadText" (["line", "column"] : List Str).reverse ([a, b] : List D).reverse), .no, .no, .no, .no], none⟩) (d := .xo "BadPoly" (["value"] : List Str).reverse ([a] : List D).reverse) (ev_call (ds := [a]) rfl rfl) (by show 5 < 10; decide))
    (es_seq (es_app (s1 := ⟨[.fz a, .fz b, .fz c, .ow (.lst [rowX "BadNumber" ["what", "number"] [a, b], rowX "BadNumber" ["what", "number"] [a, b], rowX "BadText" ["line", "column"] [a, b], rowX "BadText" ["line", "column"] [a, b]]), .fz (.xo "BadPoly" (["value"] : List Str).reverse ([a] : List D).reverse), .fz (.xo "BadPoly" (["value"] : List Str).reverse ([a] : List D).reverse), .no, .no, .no, .no], none⟩) (d := rowX "BadPoly" ["value"] [a]) rfl (ev_tup (ds := [.str "BadPoly", .xo "BadPoly" (["value"] : List Str).reverse ([a] : List D).reverse, .lst [a], .lst [a]]) (ev_cons rfl (ev_cons rfl (ev_cons rfl (ev_cons (ev_lst (ds := [a]) (ev_cons (ev_xf (c := "BadPoly") (ns := (["value"] : List Str).reverse) (ds := ([a] : List D).reverse) rfl (by decide +kernel) rfl) ev_nil) rfl) ev_nil)))) rfl) rfl rfl)
    (es_seq (es_app (s1 := ⟨[.fz a, .fz b, .fz c, .ow (.lst [rowX "BadNumber" ["what", "number"] [a, b], rowX "BadNumber" ["what", "number"] [a, b], rowX "BadText" ["line", "column"] [a, b], rowX "BadText" ["line", "column"] [a, b], rowX "BadPoly" ["value"] [a]]), .fz (.xo "BadPoly" (["value"] : List Str).reverse ([a] : List D).reverse), .fz (.xo "BadPoly" (["value"] : List Str).reverse ([a] : List D).reverse), .no, .no, .no, .no], none⟩) (d := rowX "BadPoly" ["value"] [a]) rfl (ev_tup (ds := [.str "BadPoly", .xo "BadPoly" (["value"] : List Str).reverse ([a] : List D).reverse, .lst [a], .lst [a]]) (ev_cons rfl (ev_cons rfl (ev_cons rfl (ev_cons (ev_lst (ds := [a]) (ev_cons (ev_xf (c := "BadPoly") (ns := (["value"] : List Str).reverse) (ds := ([a] : List D).reverse) rfl (by decide +kernel) rfl) ev_nil) rfl) ev_nil)))) rfl) rfl rfl)
    (es_seq (es_set (s1 := ⟨[.fz a, .fz b, .fz c, .ow (.lst [rowX "BadNumber" ["what", "number"] [a, b], rowX "BadNumber" ["what", "number"] [a, b], rowX "BadText" ["line", "column"] [a, b], rowX "BadText" ["line", "column"] [a, b], rowX "BadPoly" ["value"] [a], rowX "BadPoly" ["value"] [a]]), .fz (.xo "BadPoly" (["value"] : List Str).reverse ([a] : List D).reverse), .fz (.xo "BadPoly" (["value"] : List Str).reverse ([a] : List D).reverse), .no, .no, .no, .no], none⟩) (d := .xo "BadRow" (["row"] : List Str).reverse ([a] : List D).reverse) (ev_call (ds := [a]) rfl rfl) (by show 4 < 10; decide))
    (es_seq (es_set (s1 := ⟨[.fz a, .fz b, .fz c, .ow (.lst [rowX "BadNumber" ["what", "number"] [a, b], rowX "BadNumber" ["what", "number"] [a, b], rowX "BadText" ["line", "column"] [a, b], rowX "BadText" ["line", "column"] [a, b], rowX "BadPoly" ["value"] [a], rowX "BadPoly" ["value"] [a]]), .fz (.xo "BadRow" (["row"] : List Str).reverse ([a] : List D).reverse), .fz (.xo "BadPoly" (["value"] : List Str).reverse ([a] : List D).reverse), .no, .no, .no, .no], none⟩) (d := .xo "BadRow" (["row"] : List Str).reverse ([a] : List D).reverse) (ev_call (ds := [a]) rfl rfl) (by show 5 < 10; decide))
    (es_seq (es_app (s1 := ⟨[.fz a, .fz b, .fz c, .ow (.lst [rowX "BadNumber" ["what", "number"] [a, b], rowX "BadNumber" ["what", "number"] [a, b], rowX "BadText" ["line", "column"] [a, b], rowX "BadText" ["line", "column"] [a, b], rowX "BadPoly" ["value"] [a], rowX "BadPoly" ["value"] [a]]), .fz (.xo "BadRow" (["row"] : List Str).reverse ([a] : List D).reverse), .fz (.xo "BadRow" (["row"] : List Str).reverse ([a] : List D).reverse), .no, .no, .no, .no], none⟩) (d := rowX "BadRow" ["row"] [a]) rfl (ev_tup (ds := [.str "BadRow", .xo "BadRow" (["row"] : List Str).reverse ([a] : List D).reverse, .lst [a], .lst [a]]) (ev_cons rfl (ev_cons rfl (ev_cons rfl (ev_cons (ev_lst (ds := [a]) (ev_cons (ev_xf (c := "BadRow") (ns := (["row"] : List Str).reverse) (ds := ([a] : List D).reverse) rfl (by decide +kernel) rfl) ev_nil) rfl) ev_nil)))) rfl) rfl rfl)
    (es_seq (es_app (s1 := ⟨[.fz a, .fz b, .fz c, .ow (.lst [rowX "BadNumber" ["what", "number"] [a, b], rowX "BadNumber" ["what", "number"] [a, b], rowX "BadText" ["line", "column"] [a, b], rowX "BadText" ["line", "column"] [a, b], rowX "BadPoly" ["value"] [a], rowX "BadPoly" ["value"] [a], rowX "BadRow" ["row"] [a]]), .fz (.xo "BadRow" (["row"] : List Str).reverse ([a] : List D).reverse), .fz (.xo "BadRow" (["row"] : List Str).reverse ([a] : List D).reverse), .no, .no, .no, .no], none⟩) (d := rowX "BadRow" ["row"] [a]) rfl (ev_tup (ds := [.str "BadRow", .xo "BadRow" (["row"] : List Str).reverse ([a] : List D).reverse, .lst [a], .lst [a]]) (ev_cons rfl (ev_cons rfl (ev_cons rfl (ev_cons (ev_lst (ds := [a]) (ev_cons (ev_xf (c := "BadRow") (ns := (["row"] : List Str).reverse) (ds := ([a] : List D).reverse) rfl (by decide +kernel) rfl) ev_nil) rfl) ev_nil)))) rfl) rfl rfl)
    (es_seq (es_set (s1 := ⟨[.fz a, .fz b, .fz c, .ow (.lst [rowX "BadNumber" ["what", "number"] [a, b], rowX "BadNumber" ["what", "number"] [a, b], rowX "BadText" ["line", "column"] [a, b], rowX "BadText" ["line", "column"] [a, b], rowX "BadPoly" ["value"] [a], rowX "BadPoly" ["value"] [a], rowX "BadRow" ["row"] [a], rowX "BadRow" ["row"] [a]]), .fz (.xo "BadRow" (["row"] : List Str).reverse ([a] : List D).reverse), .fz (.xo "BadRow" (["row"] : List Str).reverse ([a] : List D).reverse), .no, .no, .no, .no], none⟩) (d := .xo "BadTable" (["table"] : List Str).reverse ([a] : List D).reverse) (ev_call (ds := [a]) rfl rfl) (by show 4 < 10; decide))
    (es_seq (es_set (s1 := ⟨[.fz a, .fz b, .fz c, .ow (.lst [rowX "BadNumber" ["what", "number"] [a, b], rowX "BadNumber" ["what", "number"] [a, b], rowX "BadText" ["line", "column"] [a, b], rowX "BadText" ["line", "column"] [a, b], rowX "BadPoly" ["value"] [a], rowX "BadPoly" ["value"] [a], rowX "BadRow" ["row"] [a], rowX "BadRow" ["row"] [a]]), .fz (.xo "BadTable" (["table"] : List Str).reverse ([a] : List D).reverse), .fz (.xo "BadRow" (["row"] : List Str).reverse ([a] : List D).reverse), .no, .no, .no, .no], none⟩) (d := .xo "BadTable" (["table"] : List Str).reverse ([a] : List D).reverse) (ev_call (ds := [a]) rfl rfl) (by show 5 < 10; decide))
    (es_seq (es_app (s1 := ⟨[.fz a, .fz b, .fz c, .ow (.lst [rowX "BadNumber" ["what", "number"] [a, b], rowX "BadNumber" ["what", "number"] [a, b], rowX "BadText" ["line", "column"] [a, b], rowX "BadText" ["line", "column"] [a, b], rowX "BadPoly" ["value"] [a], rowX "BadPoly" ["value"] [a], rowX "BadRow" ["row"] [a], rowX "BadRow" ["row"] [a]]), .fz (.xo "BadTable" (["table"] : List Str).reverse ([a] : List D).reverse), .fz (.xo "BadTable" (["table"] : List Str).reverse ([a] : List D).reverse), .no, .no, .no, .no], none⟩) (d := rowX "BadTable" ["table"] [a]) rfl (ev_tup (ds := [.str "BadTable", .xo "BadTable" (["table"] : List Str).reverse ([a] : List D).reverse, .lst [a], .lst [a]]) (ev_cons rfl (ev_cons rfl (ev_cons rfl (ev_cons (ev_lst (ds := [a]) (ev_cons (ev_xf (c := "BadTable") (ns := (["table"] : List Str).reverse) (ds := ([a] : List D).reverse) rfl (by decide +kernel) rfl) ev_nil) rfl) ev_nil)))) rfl) rfl rfl)
    (es_seq (es_app (s1 := ⟨[.fz a, .fz b, .fz c, .ow (.lst [rowX "BadNumber" ["what", "number"] [a, b], rowX "BadNumber" ["what", "number"] [a, b], rowX "BadText" ["line", "column"] [a, b], rowX "BadText" ["line", "column"] [a, b], rowX "BadPoly" ["value"] [a], rowX "BadPoly" ["value"] [a], rowX "BadRow" ["row"] [a], rowX "BadRow" ["row"] [a], rowX "BadTable" ["table"] [a]]), .fz (.xo "BadTable" (["table"] : List Str).reverse ([a] : List D).reverse), .fz (.xo "BadTable" (["table"] : List Str).reverse ([a] : List D).reverse), .no, .no, .no, .no], none⟩) (d := rowX "BadTable" ["table"] [a]) rfl (ev_tup (ds := [.str "BadTable", .xo "BadTable" (["table"] : List Str).reverse ([a] : List D).reverse, .lst [a], .lst [a]]) (ev_cons rfl (ev_cons rfl (ev_cons rfl (ev_cons (ev_lst (ds := [a]) (ev_cons (ev_xf (c := "BadTable") (ns := (["table"] : List Str).reverse) (ds := ([a] : List D).reverse) rfl (by decide +kernel) rfl) ev_nil) rfl) ev_nil)))) rfl) rfl rfl)
    (es_seq (es_set (s1 := ⟨[.fz a, .fz b, .fz c, .ow (.lst [rowX "BadNumber" ["what", "number"] [a, b], rowX "BadNumber" ["what", "number"] [a, b], rowX "BadText" ["line", "column"] [a, b], rowX "BadText" ["line", "column"] [a, b], rowX "BadPoly" ["value"] [a], rowX "BadPoly" ["value"] [a], rowX "BadRow" ["row"] [a], rowX "BadRow" ["row"] [a], rowX "BadTable" ["table"] [a], rowX "BadTable" ["table"] [a]]), .fz (.xo "BadTable" (["table"] : List Str).reverse ([a] : List D).reverse), .fz (.xo "BadTable" (["table"] : List Str).reverse ([a] : List D).reverse), .no, .no, .no, .no], none⟩) (d := .xo "BadBase" (["value"] : List Str).reverse ([a] : List D).reverse) (ev_call (ds := [a]) rfl rfl) (by show 4 < 10; decide))
    (es_seq (es_set (s1 := ⟨[.fz a, .fz b, .fz c, .ow (.lst [rowX "BadNumber" ["what", "number"] [a, b], rowX "BadNumber" ["what", "number"] [a, b], rowX "BadText" ["line", "column"] [a, b], rowX "BadText" ["line", "column"] [a, b], rowX "BadPoly" ["value"] [a], rowX "BadPoly" ["value"] [a], rowX "BadRow" ["row"] [a], rowX "BadRow" ["row"] [a], rowX "BadTable" ["table"] [a], rowX "BadTable" ["table"] [a]]), .fz (.xo "BadBase" (["value"] : List Str).reverse ([a] : List D).reverse), .fz (.xo "BadTable" (["table"] : List Str).reverse ([a] : List D).reverse), .no, .no, .no, .no], none⟩) (d := .xo "BadBase" (["value"] : List Str).reverse ([a] : List D).reverse) (ev_call (ds := [a]) rfl rfl) (by show 5 < 10; decide))
    (es_seq (es_app (s1 := ⟨[.fz a, .fz b, .fz c, .ow (.lst [rowX "BadNumber" ["what", "number"] [a, b], rowX "BadNumber" ["what", "number"] [a, b], rowX "BadText" ["line", "column"] [a, b], rowX "BadText" ["line", "column"] [a, b], rowX "BadPoly" ["value"] [a], rowX "BadPoly" ["value"] [a], rowX "BadRow" ["row"] [a], rowX "BadRow" ["row"] [a], rowX "BadTable" ["table"] [a], rowX "BadTable" ["table"] [a]]), .fz (.xo "BadBase" (["value"] : List Str).reverse ([a] : List D).reverse), .fz (.xo "BadBase" (["value"] : List Str).reverse ([a] : List D).reverse), .no, .no, .no, .no], none⟩) (d := rowX "BadBase" ["value"] [a]) rfl (ev_tup (ds := [.str "BadBase", .xo "BadBase" (["value"] : List Str).reverse ([a] : List D).reverse, .lst [a], .lst [a]]) (ev_cons rfl (ev_cons rfl (ev_cons rfl (ev_cons (ev_lst (ds := [a]) (ev_cons (ev_xf (c := "BadBase") (ns := (["value"] : List Str).reverse) (ds := ([a] : List D).reverse) rfl (by decide +kernel) rfl) ev_nil) rfl) ev_nil)))) rfl) rfl rfl)
    (es_seq (es_app (s1 := ⟨[.fz a, .fz b, .fz c, .ow (.lst [rowX "BadNumber" ["what", "number"] [a, b], rowX "BadNumber" ["what", "number"] [a, b], rowX "BadText" ["line", "column"] [a, b], rowX "BadText" ["line", "column"] [a, b], rowX "BadPoly" ["value"] [a], rowX "BadPoly" ["value"] [a], rowX "BadRow" ["row"] [a], rowX "BadRow" ["row"] [a], rowX "BadTable" ["table"] [a], rowX "BadTable" ["table"] [a], rowX "BadBase" ["value"] [a]]), .fz (.xo "BadBase" (["value"] : List Str).reverse ([a] : List D).reverse), .fz (.xo "BadBase" (["value"] : List Str).reverse ([a] : List D).reverse), .no, .no, .no, .no], none⟩) (d := rowX "BadBase" ["value"] [a]) rfl (ev_tup (ds := [.str "BadBase", .xo "BadBase" (["value"] : List Str).reverse ([a] : List D).reverse, .lst [a], .lst [a]]) (ev_cons rfl (ev_cons rfl (ev_cons rfl (ev_cons (ev_lst (ds := [a]) (ev_cons (ev_xf (c := "BadBase") (ns := (["value"] : List Str).reverse) (ds := ([a] : List D).reverse) rfl (by decide +kernel) rfl) ev_nil) rfl) ev_nil)))) rfl) rfl rfl)
    (es_ret (all_rows (rows := [rowX "BadNumber" ["what", "number"] [a, b], rowX "BadNumber" ["what", "number"] [a, b], rowX "BadText" ["line", "column"] [a, b], rowX "BadText" ["line", "column"] [a, b], rowX "BadPoly" ["value"] [a], rowX "BadPoly" ["value"] [a], rowX "BadRow" ["row"] [a], rowX "BadRow" ["row"] [a], rowX "BadTable" ["table"] [a], rowX "BadTable" ["table"] [a], rowX "BadBase" ["value"] [a], rowX "BadBase" ["value"] [a]]) hg (by simp))))))))))))))))))))))))))))⟩
  obtain ⟨s1, key⟩ := key
  exact runF_of key
theorem _law_last_right_ok {a b c : D} (ha : Small a) (hb : Small b) (hc : Small c) : F__law_last_right [a, b, c] = .ok (.bl true) := by
  have hg : ∀ r ∈ ([rowX "BadPaper" ["value"] [a], rowX "BadPaper" ["value"] [a], rowX "Unlike" ["what"] [a], rowX "Unlike" ["what"] [a], rowX "TooMany" ["what", "many", "limit"] [a, b, c], rowX "TooMany" ["what", "many", "limit"] [a, b, c], rowX "NoName" ["name"] [a], rowX "NoName" ["name"] [a], rowX "NothingToUndo" [] [], rowX "NothingToUndo" [] [], rowX "NothingToRedo" [] [], rowX "NothingToRedo" [] []] : List D), Good1 r := by
    intro r hr
    simp only [List.mem_cons, List.not_mem_nil, or_false] at hr
    rcases hr with rfl | rfl | rfl | rfl | rfl | rfl | rfl | rfl | rfl | rfl | rfl | rfl
    all_goals
      refine ⟨_, _, _, by decide +kernel, rep_lst ?_ (by simp), rfl⟩
      intro d hd
      simp only [List.mem_cons, List.not_mem_nil, or_false] at hd <;> first
        | (rcases hd with rfl | rfl | rfl <;> first | exact ha | exact hb | exact hc)
        | (rcases hd with rfl | rfl <;> first | exact ha | exact hb | exact hc)
        | (subst hd; first | exact ha | exact hb | exact hc)
        | exact hd.elim
  have key : ∃ s1, b__law_last_right ⟨[.fz a, .fz b, .fz c, .no, .no, .no, .no, .no, .no, .no], none⟩ = .ok (s1, .rt (.bl true)) := ⟨_, (es_seq (es_own (s1 := ⟨[.fz a, .fz b, .fz c, .no, .no, .no, .no, .no, .no, .no], none⟩) (d := .lst []) rfl (by show 3 < 10; decide))
    (es_seq (es_set (s1 := ⟨[.fz a, .fz b, .fz c, .ow (.lst []), .no, .no, .no, .no, .no, .no], none⟩) (d := .xo "BadPaper" (["value"] : List Str).reverse ([a] : List D).reverse) (ev_call (ds := [a]) rfl rfl) (by show 4 < 10; decide))
    (es_seq (es_set (s1 := ⟨[.fz a, .fz b, .fz c, .ow (.lst []), .fz (.xo "BadPaper" (["value"] : List Str).reverse ([a] : List D).reverse), .no, .no, .no, .no, .no], none⟩) (d := .xo "BadPaper" (["value"] : List Str).reverse ([a] : List D).reverse) (ev_call (ds := [a]) rfl rfl) (by show 5 < 10; decide))
    (es_seq (es_app (s1 := ⟨[.fz a, .fz b, .fz c, .ow (.lst []), .fz (.xo "BadPaper" (["value"] : List Str).reverse ([a] : List D).reverse), .fz (.xo "BadPaper" (["value"] : List Str).reverse ([a] : List D).reverse), .no, .no, .no, .no], none⟩) (d := rowX "BadPaper" ["value"] [a]) rfl (ev_tup (ds := [.str "BadPaper", .xo "BadPaper" (["value"] : List Str).reverse ([a] : List D).reverse, .lst [a], .lst [a]]) (ev_cons rfl (ev_cons rfl (ev_cons rfl (ev_cons (ev_lst (ds := [a]) (ev_cons (ev_xf (c := "BadPaper") (ns := (["value"] : List Str).reverse) (ds := ([a] : List D).reverse) rfl (by decide +kernel) rfl) ev_nil) rfl) ev_nil)))) rfl) rfl rfl)
    (es_seq (es_app (s1 := ⟨[.fz a, .fz b, .fz c, .ow (.lst [rowX "BadPaper" ["value"] [a]]), .fz (.xo "BadPaper" (["value"] : List Str).reverse ([a] : List D).reverse), .fz (.xo "BadPaper" (["value"] : List Str).reverse ([a] : List D).reverse), .no, .no, .no, .no], none⟩) (d := rowX "BadPaper" ["value"] [a]) rfl (ev_tup (ds := [.str "BadPaper", .xo "BadPaper" (["value"] : List Str).reverse ([a] : List D).reverse, .lst [a], .lst [a]]) (ev_cons rfl (ev_cons rfl (ev_cons rfl (ev_cons (ev_lst (ds := [a]) (ev_cons (ev_xf (c := "BadPaper") (ns := (["value"] : List Str).reverse) (ds := ([a] : List D).reverse) rfl (by decide +kernel) rfl) ev_nil) rfl) ev_nil)))) rfl) rfl rfl)
    (es_seq (es_set (s1 := ⟨[.fz a, .fz b, .fz c, .ow (.lst [rowX "BadPaper" ["value"] [a], rowX "BadPaper" ["value"] [a]]), .fz (.xo "BadPaper" (["value"] : List Str).reverse ([a] : List D).reverse), .fz (.xo "BadPaper" (["value"] : List Str).reverse ([a] : List D).reverse), .no, .no, .no, .no], none⟩) (d := .xo "Unlike" (["what"] : List Str).reverse ([a] : List D).reverse) (ev_call (ds := [a]) rfl rfl) (by show 4 < 10; decide))
    (es_seq (es_set (s1 := ⟨[.fz a, .fz b, .fz c, .ow (.lst [rowX "BadPaper" ["value"] [a], rowX "BadPaper" ["value"] [a]]), .fz (.xo "Unlike" (["what"] : List Str).reverse ([a] : List D).reverse), .fz (.xo "BadPaper" (["value"] : List Str).reverse ([a] : List D).reverse), .no, .no, .no, .no], none⟩) (d := .xo "Unlike" (["what"] : List Str).reverse ([a] : List D).reverse) (ev_call (ds := [a]) rfl rfl) (by show 5 < 10; decide))
    (es_seq (es_app (s1 := ⟨[.fz a, .fz b, .fz c, .ow (.lst [rowX "BadPaper" ["value"] [a], rowX "BadPaper" ["value"] [a]]), .fz (.xo "Unlike" (["what"] : List Str).reverse ([a] : List D).reverse), .fz (.xo "Unlike" (["what"] : List Str).reverse ([a] : List D).reverse), .no, .no, .no, .no], none⟩) (d := rowX "Unlike" ["what"] [a]) rfl (ev_tup (ds := [.str "Unlike", .xo "Unlike" (["what"] : List Str).reverse ([a] : List D).reverse, .lst [a], .lst [a]]) (ev_cons rfl (ev_cons rfl (ev_cons rfl (ev_cons (ev_lst (ds := [a]) (ev_cons (ev_xf (c := "Unlike") (ns := (["what"] : List Str).reverse) (ds := ([a] : List D).reverse) rfl (by decide +kernel) rfl) ev_nil) rfl) ev_nil)))) rfl) rfl rfl)
    (es_seq (es_app (s1 := ⟨[.fz a, .fz b, .fz c, .ow (.lst [rowX "BadPaper" ["value"] [a], rowX "BadPaper" ["value"] [a], rowX "Unlike" ["what"] [a]]), .fz (.xo "Unlike" (["what"] : List Str).reverse ([a] : List D).reverse), .fz (.xo "Unlike" (["what"] : List Str).reverse ([a] : List D).reverse), .no, .no, .no, .no], none⟩) (d := rowX "Unlike" ["what"] [a]) rfl (ev_tup (ds := [.str "Unlike", .xo "Unlike" (["what"] : List Str).reverse ([a] : List D).reverse, .lst [a], .lst [a]]) (ev_cons rfl (ev_cons rfl (ev_cons rfl (ev_cons (ev_lst (ds := [a]) (ev_cons (ev_xf (c := "Unlike") (ns := (["what"] : List Str).reverse) (ds := ([a] : List D).reverse) rfl (by decide +kernel) rfl) ev_nil) rfl) ev_nil)))) rfl) rfl rfl)
    (es_seq (es_set (s1 := ⟨[.fz a, .fz b, .fz c, .ow (.lst [rowX "BadPaper" ["value"] [a], rowX "BadPaper" ["value"] [a], rowX "Unlike" ["what"] [a], rowX "Unlike" ["what"] [a]]), .fz (.xo "Unlike" (["what"] : List Str).reverse ([a] : List D).reverse), .fz (.xo "Unlike" (["what"] : List Str).reverse ([a] : List D).reverse), .no, .no, .no, .no], none⟩) (d := .xo "TooMany" (["what", "many", "limit"] : List Str).reverse ([a, b, c] : List D).reverse) (ev_call (ds := [a, b, c]) rfl rfl) (by show 4 < 10; decide))
    (es_seq (es_set (s1 := ⟨[.fz a, .fz b, .fz c, .ow (.lst [rowX "BadPaper" ["value"] [a], rowX "BadPaper" ["value"] [a], rowX "Unlike" ["what"] [a], rowX "Unlike" ["what"] [a]]), .fz (.xo "TooMany" (["what", "many", "limit"] : List Str).reverse ([a, b, c] : List D).reverse), .fz (.xo "Unlike" (["what"] : List Str).reverse ([a] : List D).reverse), .no, .no, .no, .no], none⟩) (d := .xo "TooMany" (["what", "many", "limit"] : List Str).reverse ([a, b, c] : List D).reverse) (ev_call (ds := [c, b, a]) rfl rfl) (by show 5 < 10; decide))
    (es_seq (es_app (s1 := ⟨[.fz a, .fz b, .fz c, .ow (.lst [rowX "BadPaper" ["value"] [a], rowX "BadPaper" ["value"] [a], rowX "Unlike" ["what"] [a], rowX "Unlike" ["what"] [a]]), .fz (.xo "TooMany" (["what", "many", "limit"] : List Str).reverse ([a, b, c] : List D).reverse), .fz (.xo "TooMany" (["what", "many", "limit"] : List Str).reverse ([a, b, c] : List D).reverse), .no, .no, .no, .no], none⟩) (d := rowX "TooMany" ["what", "many", "limit"] [a, b, c]) rfl (ev_tup (ds := [.str "TooMany", .xo "TooMany" (["what", "many", "limit"] : List Str).reverse ([a, b, c] : List D).reverse, .lst [a, b, c], .lst [a, b, c]]) (ev_cons rfl (ev_cons rfl (ev_cons rfl (ev_cons (ev_lst (ds := [a, b, c]) (ev_cons (ev_xf (c := "TooMany") (ns := (["what", "many", "limit"] : List Str).reverse) (ds := ([a, b, c] : List D).reverse) rfl (by decide +kernel) rfl) (ev_cons (ev_xf (c := "TooMany") (ns := (["what", "many", "limit"] : List Str).reverse) (ds := ([a, b, c] : List D).reverse) rfl (by decide +kernel) rfl) (ev_cons (ev_xf (c := "TooMany") (ns := (["what", "many", "limit"] : List Str).reverse) (ds := ([a, b, c] : List D).reverse) rfl (by decide +kernel) rfl) ev_nil))) rfl) ev_nil)))) rfl) rfl rfl)
    (es_seq (es_app (s1 := ⟨[.fz a, .fz b, .fz c, .ow (.lst [rowX "BadPaper" ["value"] [a], rowX "BadPaper" ["value"] [a], rowX "Unlike" ["what"] [a], rowX "Unlike" ["what"] [a], rowX "TooMany" ["what", "many", "limit"] [a, b, c]]), .fz (.xo "TooMany" (["what", "many", "limit"] : List Str).reverse ([a, b, c] : List D).reverse), .fz (.xo "TooMany" (["what", "many", "limit"] : List Str).reverse ([a, b, c] : List D).reverse), .no, .no, .no, .no], none⟩) (d := rowX "TooMany" ["what", "many", "limit"] [a, b, c]) rfl (ev_tup (ds := [.str "TooMany", .xo "TooMany" (["what", "many", "limit"] : List Str).reverse ([a, b, c] : List D).reverse, .lst [a, b, c], .lst [a, b, c]]) (ev_cons rfl (ev_cons rfl (ev_cons rfl (ev_cons (ev_lst (ds := [a, b, c]) (ev_cons (ev_xf (c := "TooMany") (ns := (["what", "many", "limit"] : List Str).reverse) (ds := ([a, b, c] : List D).reverse) rfl (by decide +kernel) rfl) (ev_cons (ev_xf (c := "TooMany") (ns := (["what", "many", "limit"] : List Str).reverse) (ds := ([a, b, c] : List D).reverse) rfl (by decide +kernel) rfl) (ev_cons (ev_xf (c := "TooMany") (ns := (["what", "many", "limit"] : List Str).reverse) (ds := ([a, b, c] : List D).reverse) rfl (by decide +kernel) rfl) ev_nil))) rfl) ev_nil)))) rfl) rfl rfl)
    (es_seq (es_set (s1 := ⟨[.fz a, .fz b, .fz c, .ow (.lst [rowX "BadPaper" ["value"] [a], rowX "BadPaper" ["value"] [a], rowX "Unlike" ["what"] [a], rowX "Unlike" ["what"] [a], rowX "TooMany" ["what", "many", "limit"] [a, b, c], rowX "TooMany" ["what", "many", "limit"] [a, b, c]]), .fz (.xo "TooMany" (["what", "many", "limit"] : List Str).reverse ([a, b, c] : List D).reverse), .fz (.xo "TooMany" (["what", "many", "limit"] : List Str).reverse ([a, b, c] : List D).reverse), .no, .no, .no, .no], none⟩) (d := .xo "NoName" (["name"] : List Str).reverse ([a] : List D).reverse) (ev_call (ds := [a]) rfl rfl) (by show 4 < 10; decide))
    (es_seq (es_set (s1 := ⟨[.fz a, .fz b, .fz c, .ow (.lst [rowX "BadPaper" ["value"] [a], rowX "BadPaper" ["value"] [a], rowX "Unlike" ["what"] [a], rowX "Unlike" ["what"] [a], rowX "TooMany" ["what", "many", "limit"] [a, b, c], rowX "TooMany" ["what", "many", "limit"] [a, b, c]]), .fz (.xo "NoName" (["name"] : List Str).reverse ([a] : List D).reverse), .fz (.xo "TooMany" (["what", "many", "limit"] : List Str).reverse ([a, b, c] : List D).reverse), .no, .no, .no, .no], none⟩) (d := .xo "NoName" (["name"] : List Str).reverse ([a] : List D).reverse) (ev_call (ds := [a]) rfl rfl) (by show 5 < 10; decide))
    (es_seq (es_app (s1 := ⟨[.fz a, .fz b, .fz c, .ow (.lst [rowX "BadPaper" ["value"] [a], rowX "BadPaper" ["value"] [a], rowX "Unlike" ["what"] [a], rowX "Unlike" ["what"] [a], rowX "TooMany" ["what", "many", "limit"] [a, b, c], rowX "TooMany" ["what", "many", "limit"] [a, b, c]]), .fz (.xo "NoName" (["name"] : List Str).reverse ([a] : List D).reverse), .fz (.xo "NoName" (["name"] : List Str).reverse ([a] : List D).reverse), .no, .no, .no, .no], none⟩) (d := rowX "NoName" ["name"] [a]) rfl (ev_tup (ds := [.str "NoName", .xo "NoName" (["name"] : List Str).reverse ([a] : List D).reverse, .lst [a], .lst [a]]) (ev_cons rfl (ev_cons rfl (ev_cons rfl (ev_cons (ev_lst (ds := [a]) (ev_cons (ev_xf (c := "NoName") (ns := (["name"] : List Str).reverse) (ds := ([a] : List D).reverse) rfl (by decide +kernel) rfl) ev_nil) rfl) ev_nil)))) rfl) rfl rfl)
    (es_seq (es_app (s1 := ⟨[.fz a, .fz b, .fz c, .ow (.lst [rowX "BadPaper" ["value"] [a], rowX "BadPaper" ["value"] [a], rowX "Unlike" ["what"] [a], rowX "Unlike" ["what"] [a], rowX "TooMany" ["what", "many", "limit"] [a, b, c], rowX "TooMany" ["what", "many", "limit"] [a, b, c], rowX "NoName" ["name"] [a]]), .fz (.xo "NoName" (["name"] : List Str).reverse ([a] : List D).reverse), .fz (.xo "NoName" (["name"] : List Str).reverse ([a] : List D).reverse), .no, .no, .no, .no], none⟩) (d := rowX "NoName" ["name"] [a]) rfl (ev_tup (ds := [.str "NoName", .xo "NoName" (["name"] : List Str).reverse ([a] : List D).reverse, .lst [a], .lst [a]]) (ev_cons rfl (ev_cons rfl (ev_cons rfl (ev_cons (ev_lst (ds := [a]) (ev_cons (ev_xf (c := "NoName") (ns := (["name"] : List Str).reverse) (ds := ([a] : List D).reverse) rfl (by decide +kernel) rfl) ev_nil) rfl) ev_nil)))) rfl) rfl rfl)
    (es_seq (es_set (s1 := ⟨[.fz a, .fz b, .fz c, .ow (.lst [rowX "BadPaper" ["value"] [a], rowX "BadPaper" ["value"] [a], rowX "Unlike" ["what"] [a], rowX "Unlike" ["what"] [a], rowX "TooMany" ["what", "many", "limit"] [a, b, c], rowX "TooMany" ["what", "many", "limit"] [a, b, c], rowX "NoName" ["name"] [a], rowX "NoName" ["name"] [a]]), .fz (.xo "NoName" (["name"] : List Str).reverse ([a] : List D).reverse), .fz (.xo "NoName" (["name"] : List Str).reverse ([a] : List D).reverse), .no, .no, .no, .no], none⟩) (d := .xo "NothingToUndo" ([] : List Str).reverse ([] : List D).reverse) rfl (by show 4 < 10; decide))
    (es_seq (es_set (s1 := ⟨[.fz a, .fz b, .fz c, .ow (.lst [rowX "BadPaper" ["value"] [a], rowX "BadPaper" ["value"] [a], rowX "Unlike" ["what"] [a], rowX "Unlike" ["what"] [a], rowX "TooMany" ["what", "many", "limit"] [a, b, c], rowX "TooMany" ["what", "many", "limit"] [a, b, c], rowX "NoName" ["name"] [a], rowX "NoName" ["name"] [a]]), .fz (.xo "NothingToUndo" ([] : List Str).reverse ([] : List D).reverse), .fz (.xo "NoName" (["name"] : List Str).reverse ([a] : List D).reverse), .no, .no, .no, .no], none⟩) (d := .xo "NothingToUndo" ([] : List Str).reverse ([] : List D).reverse) rfl (by show 5 < 10; decide))
    (es_seq (es_app (s1 := ⟨[.fz a, .fz b, .fz c, .ow (.lst [rowX "BadPaper" ["value"] [a], rowX "BadPaper" ["value"] [a], rowX "Unlike" ["what"] [a], rowX "Unlike" ["what"] [a], rowX "TooMany" ["what", "many", "limit"] [a, b, c], rowX "TooMany" ["what", "many", "limit"] [a, b, c], rowX "NoName" ["name"] [a], rowX "NoName" ["name"] [a]]), .fz (.xo "NothingToUndo" ([] : List Str).reverse ([] : List D).reverse), .fz (.xo "NothingToUndo" ([] : List Str).reverse ([] : List D).reverse), .no, .no, .no, .no], none⟩) (d := rowX "NothingToUndo" [] []) rfl (ev_tup (ds := [.str "NothingToUndo", .xo "NothingToUndo" ([] : List Str).reverse ([] : List D).reverse, .lst [], .lst []]) (ev_cons rfl (ev_cons rfl (ev_cons rfl (ev_cons (ev_lst (ds := []) ev_nil rfl) ev_nil)))) rfl) rfl rfl)
    (es_seq (es_app (s1 := ⟨[.fz a, .fz b, .fz c, .ow (.lst [rowX "BadPaper" ["value"] [a], rowX "BadPaper" ["value"] [a], rowX "Unlike" ["what"] [a], rowX "Unlike" ["what"] [a], rowX "TooMany" ["what", "many", "limit"] [a, b, c], rowX "TooMany" ["what", "many", "limit"] [a, b, c], rowX "NoName" ["name"] [a], rowX "NoName" ["name"] [a], rowX "NothingToUndo" [] []]), .fz (.xo "NothingToUndo" ([] : List Str).reverse ([] : List D).reverse), .fz (.xo "NothingToUndo" ([] : List Str).reverse ([] : List D).reverse), .no, .no, .no, .no], none⟩) (d := rowX "NothingToUndo" [] []) rfl (ev_tup (ds := [.str "NothingToUndo", .xo "NothingToUndo" ([] : List Str).reverse ([] : List D).reverse, .lst [], .lst []]) (ev_cons rfl (ev_cons rfl (ev_cons rfl (ev_cons (ev_lst (ds := []) ev_nil rfl) ev_nil)))) rfl) rfl rfl)
    (es_seq (es_set (s1 := ⟨[.fz a, .fz b, .fz c, .ow (.lst [rowX "BadPaper" ["value"] [a], rowX "BadPaper" ["value"] [a], rowX "Unlike" ["what"] [a], rowX "Unlike" ["what"] [a], rowX "TooMany" ["what", "many", "limit"] [a, b, c], rowX "TooMany" ["what", "many", "limit"] [a, b, c], rowX "NoName" ["name"] [a], rowX "NoName" ["name"] [a], rowX "NothingToUndo" [] [], rowX "NothingToUndo" [] []]), .fz (.xo "NothingToUndo" ([] : List Str).reverse ([] : List D).reverse), .fz (.xo "NothingToUndo" ([] : List Str).reverse ([] : List D).reverse), .no, .no, .no, .no], none⟩) (d := .xo "NothingToRedo" ([] : List Str).reverse ([] : List D).reverse) rfl (by show 4 < 10; decide))
    (es_seq (es_set (s1 := ⟨[.fz a, .fz b, .fz c, .ow (.lst [rowX "BadPaper" ["value"] [a], rowX "BadPaper" ["value"] [a], rowX "Unlike" ["what"] [a], rowX "Unlike" ["what"] [a], rowX "TooMany" ["what", "many", "limit"] [a, b, c], rowX "TooMany" ["what", "many", "limit"] [a, b, c], rowX "NoName" ["name"] [a], rowX "NoName" ["name"] [a], rowX "NothingToUndo" [] [], rowX "NothingToUndo" [] []]), .fz (.xo "NothingToRedo" ([] : List Str).reverse ([] : List D).reverse), .fz (.xo "NothingToUndo" ([] : List Str).reverse ([] : List D).reverse), .no, .no, .no, .no], none⟩) (d := .xo "NothingToRedo" ([] : List Str).reverse ([] : List D).reverse) rfl (by show 5 < 10; decide))
    (es_seq (es_app (s1 := ⟨[.fz a, .fz b, .fz c, .ow (.lst [rowX "BadPaper" ["value"] [a], rowX "BadPaper" ["value"] [a], rowX "Unlike" ["what"] [a], rowX "Unlike" ["what"] [a], rowX "TooMany" ["what", "many", "limit"] [a, b, c], rowX "TooMany" ["what", "many", "limit"] [a, b, c], rowX "NoName" ["name"] [a], rowX "NoName" ["name"] [a], rowX "NothingToUndo" [] [], rowX "NothingToUndo" [] []]), .fz (.xo "NothingToRedo" ([] : List Str).reverse ([] : List D).reverse), .fz (.xo "NothingToRedo" ([] : List Str).reverse ([] : List D).reverse), .no, .no, .no, .no], none⟩) (d := rowX "NothingToRedo" [] []) rfl (ev_tup (ds := [.str "NothingToRedo", .xo "NothingToRedo" ([] : List Str).reverse ([] : List D).reverse, .lst [], .lst []]) (ev_cons rfl (ev_cons rfl (ev_cons rfl (ev_cons (ev_lst (ds := []) ev_nil rfl) ev_nil)))) rfl) rfl rfl)
    (es_seq (es_app (s1 := ⟨[.fz a, .fz b, .fz c, .ow (.lst [rowX "BadPaper" ["value"] [a], rowX "BadPaper" ["value"] [a], rowX "Unlike" ["what"] [a], rowX "Unlike" ["what"] [a], rowX "TooMany" ["what", "many", "limit"] [a, b, c], rowX "TooMany" ["what", "many", "limit"] [a, b, c], rowX "NoName" ["name"] [a], rowX "NoName" ["name"] [a], rowX "NothingToUndo" [] [], rowX "NothingToUndo" [] [], rowX "NothingToRedo" [] []]), .fz (.xo "NothingToRedo" ([] : List Str).reverse ([] : List D).reverse), .fz (.xo "NothingToRedo" ([] : List Str).reverse ([] : List D).reverse), .no, .no, .no, .no], none⟩) (d := rowX "NothingToRedo" [] []) rfl (ev_tup (ds := [.str "NothingToRedo", .xo "NothingToRedo" ([] : List Str).reverse ([] : List D).reverse, .lst [], .lst []]) (ev_cons rfl (ev_cons rfl (ev_cons rfl (ev_cons (ev_lst (ds := []) ev_nil rfl) ev_nil)))) rfl) rfl rfl)
    (es_ret (all_rows (rows := [rowX "BadPaper" ["value"] [a], rowX "BadPaper" ["value"] [a], rowX "Unlike" ["what"] [a], rowX "Unlike" ["what"] [a], rowX "TooMany" ["what", "many", "limit"] [a, b, c], rowX "TooMany" ["what", "many", "limit"] [a, b, c], rowX "NoName" ["name"] [a], rowX "NoName" ["name"] [a], rowX "NothingToUndo" [] [], rowX "NothingToUndo" [] [], rowX "NothingToRedo" [] [], rowX "NothingToRedo" [] []]) hg (by simp))))))))))))))))))))))))))))⟩
  obtain ⟨s1, key⟩ := key
  exact runF_of key
theorem caught_ok {a b : D} : F__law_is_caught [a, b] = .ok (.bl true) := rfl
theorem draws : Draws P__law_draw := draws_of (N := N__law_draw) (A := 24103) (B := 5011) (C := 163) (M := 2147483069) (M3 := 2305843009213693951) rfl (by decide) (by decide) (by decide) (by decide) (by decide)
theorem picks : Picks P__law_pick := picks_of draws (N := N__law_pick) rfl
def deep : List D := [.tup [.int 1, .int 2], .lst [.int 3, .lst [.int 4]], .dK [.inr "a"] [.int 1], .str "", .str "abc", .int 0, .int (-7), .bl true, .non, .int (10 ^ 41), .tup [], .tup [.tup []], .tup [.str "x", .non]]
theorem deep_small : ∀ d ∈ deep, Small d := by
  intro d hd
  simp only [deep, List.mem_cons, List.not_mem_nil, or_false] at hd
  rcases hd with rfl | rfl | rfl | rfl | rfl | rfl | rfl | rfl | rfl | rfl | rfl | rfl | rfl
  all_goals exact ⟨by decide +kernel, by decide +kernel, by decide +kernel⟩
theorem values_ok {n : Nat} {pn : Pn} (h : PenOk n pn) (hn : n + 3 < 1000000) : ∃ a b c, ∃ pn' : Pn, P__law_values [.pen] (some pn) = .ok (.lst [a, b, c], some pn') ∧ Small a ∧ Small b ∧ Small c := by
  obtain ⟨a, ma, p1, e1, h1⟩ := picks (ds := deep) h (by omega) (by simp [deep]) (by simp [deep])
  obtain ⟨b, mb, p2, e2, h2⟩ := picks (ds := deep) h1 (by omega) (by simp [deep]) (by simp [deep])
  obtain ⟨c, mc, p3, e3, h3⟩ := picks (ds := deep) h2 (by omega) (by simp [deep]) (by simp [deep])
  refine ⟨a, b, c, p3, ?_, deep_small a ma, deep_small b mb, deep_small c mc⟩
  refine runP_of (s1 := ⟨[.fz .pen, .fz (.lst deep), .no], some (Mu.p p3)⟩) ?_
  show b__law_values ⟨[.fz .pen, .no, .no], some (Mu.p pn)⟩ = _
  refine es_seq (es_set (s1 := ⟨[.fz .pen, .no, .no], some (Mu.p pn)⟩) (d := .lst deep) ?_ (by show 1 < 3; decide)) (es_ret (ev_lc (ds := [.int 0, .int 1, .int 2]) (s1 := ⟨[.fz .pen, .fz (.lst deep), .no], some (Mu.p pn)⟩) rfl rfl ?_))
  · refine ev_lst ?_ (by decide +kernel)
    refine ev_cons rfl (ev_cons rfl (ev_cons rfl (ev_cons rfl (ev_cons rfl (ev_cons rfl (ev_cons rfl (ev_cons rfl (ev_cons rfl (ev_cons (ev_pow (i := 10) (j := 41) rfl rfl (by decide +kernel)) (ev_cons rfl (ev_cons rfl (ev_cons rfl ev_nil))))))))))))
  · refine lc_cons rfl rfl (ev_callP (ev_cons rfl (ev_cons rfl ev_nil)) e1) rfl rfl ?_
    refine lc_cons rfl rfl (ev_callP (ev_cons rfl (ev_cons rfl ev_nil)) e2) rfl rfl ?_
    refine lc_cons rfl rfl (ev_callP (ev_cons rfl (ev_cons rfl ev_nil)) e3) rfl rfl ?_
    rfl
theorem HVlaw (pn : Pn) (z1 : pn.at_ = 0) (z2 : pn.digits = 0) (z3 : pn.count = 0) (z4 : 0 ≤ pn.fold) (z5 : pn.fold < 999999271) : ∃ s', b_law (s0Law 5 1 pn) = .ok (s', .rt (.bl true)) := by
  have h0 : PenOk 0 pn := ⟨by omega, z4, by omega, by omega, by omega⟩
  obtain ⟨a, b, c, p1, e1, ha, hb, hc⟩ := values_ok h0 (by omega)
  refine ⟨⟨[.no, .fz .pen, .fz a, .fz b, .fz c], some (Mu.p p1)⟩, ?_⟩
  show b_law ⟨[.no, .fz .pen, .no, .no, .no], some (Mu.p pn)⟩ = _
  exact es_seq (es_asg (s1 := ⟨[.no, .fz .pen, .no, .no, .no], some (Mu.p p1)⟩) (r := ⟨[.no, .fz .pen, .fz a, .fz b, .fz c], some (Mu.p p1)⟩) (ev_callP (ev_cons rfl ev_nil) e1) rfl) (es_ret (ev_andT (ev_call (ds := [a, b, c]) rfl (_law_first_right_ok ha hb hc)) (ev_andT (ev_call (ds := [a, b, c]) rfl (_law_last_right_ok ha hb hc)) (ev_call (ds := [a, b]) rfl caught_ok))))
end Wk00

set_option Elab.async false
set_option linter.all false
set_option maxRecDepth 100000
set_option maxHeartbeats 0
namespace Wk00
open PySem PySem.Spec PyProof.Rows L2 SM
abbrev mkDe (x : Str) (st : Stmt) : He.DefD := ⟨(x, none), x, x, defArgs st, defBody st, defScope st, [], []⟩
abbrev mkMe (c m q : Str) (st : Stmt) : He.DefD := ⟨(c, some m), m, q, defArgs st, defBody st, defScope st, [], []⟩
def fn : List He.DefD := [mkDe "_law_kinds_of" st__law_kinds_of,
  mkDe "_law_alone" st__law_alone,
  mkDe "_law_first_right" st__law_first_right,
  mkDe "_law_is_caught" st__law_is_caught,
  mkDe "_law_last_right" st__law_last_right,
  mkDe "_law_pen" st__law_pen,
  mkDe "_law_draw" st__law_draw,
  mkDe "_law_pick" st__law_pick,
  mkDe "_law_values" st__law_values,
  mkDe "law" st_law,
  mkMe "BadNumber" "__init__" "BadNumber.__init__" st_BadNumber,
  mkMe "BadText" "__init__" "BadText.__init__" st_BadText,
  mkMe "BadPoly" "__init__" "BadPoly.__init__" st_BadPoly,
  mkMe "BadRow" "__init__" "BadRow.__init__" st_BadRow,
  mkMe "BadTable" "__init__" "BadTable.__init__" st_BadTable,
  mkMe "BadBase" "__init__" "BadBase.__init__" st_BadBase,
  mkMe "BadPaper" "__init__" "BadPaper.__init__" st_BadPaper,
  mkMe "Unlike" "__init__" "Unlike.__init__" st_Unlike,
  mkMe "TooMany" "__init__" "TooMany.__init__" st_TooMany,
  mkMe "NoName" "__init__" "NoName.__init__" st_NoName,
  mkMe "NothingToUndo" "__init__" "NothingToUndo.__init__" st_NothingToUndo,
  mkMe "NothingToRedo" "__init__" "NothingToRedo.__init__" st_NothingToRedo]
def fa : List He.Fa := [.glo "_law_kinds_of",
  .glo "_law_alone",
  .glo "_law_first_right",
  .glo "_law_is_caught",
  .glo "_law_last_right",
  .glo "_law_pen",
  .glo "_law_draw",
  .glo "_law_pick",
  .glo "_law_values",
  .glo "law",
  .glo "SeenError",
  .glo "BadNumber",
  .glo "BadText",
  .glo "BadPoly",
  .glo "BadRow",
  .glo "BadTable",
  .glo "BadBase",
  .glo "BadPaper",
  .glo "Unlike",
  .glo "TooMany",
  .glo "NoName",
  .glo "NothingToUndo",
  .glo "NothingToRedo",
  .free "all",
  .free "int",
  .free "isinstance",
  .free "len",
  .free "list",
  .free "range",
  .free "repr"]
def exL (K : PySem.W.Frag) : List Bool := [SM.sysB K,
  SM.topErrB K (He.ga K "SeenError"),
  SM.errB K (He.ga K "BadNumber") (He.ma K (He.ga K "BadNumber") "__init__") ["what", "number"],
  SM.errB K (He.ga K "BadText") (He.ma K (He.ga K "BadText") "__init__") ["line", "column"],
  SM.errB K (He.ga K "BadPoly") (He.ma K (He.ga K "BadPoly") "__init__") ["value"],
  SM.errB K (He.ga K "BadRow") (He.ma K (He.ga K "BadRow") "__init__") ["row"],
  SM.errB K (He.ga K "BadTable") (He.ma K (He.ga K "BadTable") "__init__") ["table"],
  SM.errB K (He.ga K "BadBase") (He.ma K (He.ga K "BadBase") "__init__") ["value"],
  SM.errB K (He.ga K "BadPaper") (He.ma K (He.ga K "BadPaper") "__init__") ["value"],
  SM.errB K (He.ga K "Unlike") (He.ma K (He.ga K "Unlike") "__init__") ["what"],
  SM.errB K (He.ga K "TooMany") (He.ma K (He.ga K "TooMany") "__init__") ["what", "many", "limit"],
  SM.errB K (He.ga K "NoName") (He.ma K (He.ga K "NoName") "__init__") ["name"],
  SM.errB K (He.ga K "NothingToUndo") (He.ma K (He.ga K "NothingToUndo") "__init__") [],
  SM.errB K (He.ga K "NothingToRedo") (He.ma K (He.ga K "NothingToRedo") "__init__") [],
  L2.xfB K (He.ga K "BadNumber"),
  L2.xfB K (He.ga K "BadText"),
  L2.xfB K (He.ga K "BadPoly"),
  L2.xfB K (He.ga K "BadRow"),
  L2.xfB K (He.ga K "BadTable"),
  L2.xfB K (He.ga K "BadBase"),
  L2.xfB K (He.ga K "BadPaper"),
  L2.xfB K (He.ga K "Unlike"),
  L2.xfB K (He.ga K "TooMany"),
  L2.xfB K (He.ga K "NoName"),
  L2.xfB K (He.ga K "NothingToUndo"),
  L2.xfB K (He.ga K "NothingToRedo"),
  SM.flB K FL,
  SM.kdOB K CL,
  SM.xkB K EXL "SeenError",
  SM.xfLB K FXL]
def ex (K : PySem.W.Frag) : Bool := (exL K).all id
theorem exAt {K : PySem.W.Frag} (h : ex K = true) (i : Nat) {b : Bool} (hb : (exL K)[i]? = some b) : b = true := List.all_eq_true.mp h b (List.mem_of_getElem? hb)
def tf : List He.Defn := []
def loose0 : List Str := ["SeenError", "BadNumber", "BadText", "BadPoly", "BadRow", "BadTable", "BadBase", "BadPaper", "Unlike", "TooMany", "NoName", "NothingToUndo"]
def loose1 : List Str := ["NothingToRedo", "_law_pen", "_law_draw", "_law_pick", "_law_values", "_law_kinds_of", "_law_alone", "_law_first_right", "_law_last_right", "_law_is_caught"]
def loose : List Str := loose0 ++ loose1
abbrev R : PySem.W.OpenRow := PySem.W.OpenLaw.row PySem.Challenge.rw_seenmodels_k00_errors_made_by_hand
abbrev hk : PySem.W.Hook := SM.hookS 4 fa fn tf ex
def ob (s : PySem.W.SharedT) : SM.AlS := SM.obsS 4 fa fn tf ex (HandSHeadRun.getT s)
theorem ob_eq (s : PySem.W.SharedT) : ob s = hk.obs s.abs := SM.obsS_eq (HandSHeadRun.getT_eq s)
theorem run (w : World) : HandSHeadRun.RunEq R (PySem.W.view R.prog [24]) hk ob 60000 loose w := by
  intro os
  kernel_rfl
theorem hd_of {K : PySem.W.Frag} {h : Heap} {mg : Str → Option Value} (X : K.In h) (G : h.Ns mainGlobals mg) (c : SaysS fa fn tf ex h K) : HD K mg where
  g__law_kinds_of := He.glo_ok X G (c.d.fact 0 (f := .glo "_law_kinds_of") rfl)
  g__law_alone := He.glo_ok X G (c.d.fact 1 (f := .glo "_law_alone") rfl)
  g__law_first_right := He.glo_ok X G (c.d.fact 2 (f := .glo "_law_first_right") rfl)
  g__law_is_caught := He.glo_ok X G (c.d.fact 3 (f := .glo "_law_is_caught") rfl)
  g__law_last_right := He.glo_ok X G (c.d.fact 4 (f := .glo "_law_last_right") rfl)
  g__law_pen := He.glo_ok X G (c.d.fact 5 (f := .glo "_law_pen") rfl)
  g__law_draw := He.glo_ok X G (c.d.fact 6 (f := .glo "_law_draw") rfl)
  g__law_pick := He.glo_ok X G (c.d.fact 7 (f := .glo "_law_pick") rfl)
  g__law_values := He.glo_ok X G (c.d.fact 8 (f := .glo "_law_values") rfl)
  g_law := He.glo_ok X G (c.d.fact 9 (f := .glo "law") rfl)
  g_SeenError := He.glo_ok X G (c.d.fact 10 (f := .glo "SeenError") rfl)
  g_BadNumber := He.glo_ok X G (c.d.fact 11 (f := .glo "BadNumber") rfl)
  g_BadText := He.glo_ok X G (c.d.fact 12 (f := .glo "BadText") rfl)
  g_BadPoly := He.glo_ok X G (c.d.fact 13 (f := .glo "BadPoly") rfl)
  g_BadRow := He.glo_ok X G (c.d.fact 14 (f := .glo "BadRow") rfl)
  g_BadTable := He.glo_ok X G (c.d.fact 15 (f := .glo "BadTable") rfl)
  g_BadBase := He.glo_ok X G (c.d.fact 16 (f := .glo "BadBase") rfl)
  g_BadPaper := He.glo_ok X G (c.d.fact 17 (f := .glo "BadPaper") rfl)
  g_Unlike := He.glo_ok X G (c.d.fact 18 (f := .glo "Unlike") rfl)
  g_TooMany := He.glo_ok X G (c.d.fact 19 (f := .glo "TooMany") rfl)
  g_NoName := He.glo_ok X G (c.d.fact 20 (f := .glo "NoName") rfl)
  g_NothingToUndo := He.glo_ok X G (c.d.fact 21 (f := .glo "NothingToUndo") rfl)
  g_NothingToRedo := He.glo_ok X G (c.d.fact 22 (f := .glo "NothingToRedo") rfl)
  f_all := He.free_ok X G (c.d.fact 23 (f := .free "all") rfl)
  f_int := He.free_ok X G (c.d.fact 24 (f := .free "int") rfl)
  f_isinstance := He.free_ok X G (c.d.fact 25 (f := .free "isinstance") rfl)
  f_len := He.free_ok X G (c.d.fact 26 (f := .free "len") rfl)
  f_list := He.free_ok X G (c.d.fact 27 (f := .free "list") rfl)
  f_range := He.free_ok X G (c.d.fact 28 (f := .free "range") rfl)
  f_repr := He.free_ok X G (c.d.fact 29 (f := .free "repr") rfl)
  d__law_kinds_of := c.d.def_ 0 (d := mkDe "_law_kinds_of" st__law_kinds_of) rfl
  d__law_alone := c.d.def_ 1 (d := mkDe "_law_alone" st__law_alone) rfl
  d__law_first_right := c.d.def_ 2 (d := mkDe "_law_first_right" st__law_first_right) rfl
  d__law_is_caught := c.d.def_ 3 (d := mkDe "_law_is_caught" st__law_is_caught) rfl
  d__law_last_right := c.d.def_ 4 (d := mkDe "_law_last_right" st__law_last_right) rfl
  d__law_pen := c.d.def_ 5 (d := mkDe "_law_pen" st__law_pen) rfl
  d__law_draw := c.d.def_ 6 (d := mkDe "_law_draw" st__law_draw) rfl
  d__law_pick := c.d.def_ 7 (d := mkDe "_law_pick" st__law_pick) rfl
  d__law_values := c.d.def_ 8 (d := mkDe "_law_values" st__law_values) rfl
  d_law := c.d.def_ 9 (d := mkDe "law" st_law) rfl
  m_BadNumber := c.d.def_ 10 (d := mkMe "BadNumber" "__init__" "BadNumber.__init__" st_BadNumber) rfl
  m_BadText := c.d.def_ 11 (d := mkMe "BadText" "__init__" "BadText.__init__" st_BadText) rfl
  m_BadPoly := c.d.def_ 12 (d := mkMe "BadPoly" "__init__" "BadPoly.__init__" st_BadPoly) rfl
  m_BadRow := c.d.def_ 13 (d := mkMe "BadRow" "__init__" "BadRow.__init__" st_BadRow) rfl
  m_BadTable := c.d.def_ 14 (d := mkMe "BadTable" "__init__" "BadTable.__init__" st_BadTable) rfl
  m_BadBase := c.d.def_ 15 (d := mkMe "BadBase" "__init__" "BadBase.__init__" st_BadBase) rfl
  m_BadPaper := c.d.def_ 16 (d := mkMe "BadPaper" "__init__" "BadPaper.__init__" st_BadPaper) rfl
  m_Unlike := c.d.def_ 17 (d := mkMe "Unlike" "__init__" "Unlike.__init__" st_Unlike) rfl
  m_TooMany := c.d.def_ 18 (d := mkMe "TooMany" "__init__" "TooMany.__init__" st_TooMany) rfl
  m_NoName := c.d.def_ 19 (d := mkMe "NoName" "__init__" "NoName.__init__" st_NoName) rfl
  m_NothingToUndo := c.d.def_ 20 (d := mkMe "NothingToUndo" "__init__" "NothingToUndo.__init__" st_NothingToUndo) rfl
  m_NothingToRedo := c.d.def_ 21 (d := mkMe "NothingToRedo" "__init__" "NothingToRedo.__init__" st_NothingToRedo) rfl
  fl_ := exAt c.more 26 rfl
  kd_ := exAt c.more 27 rfl
  sys := exAt c.more 0 rfl
  top_ := topErrB_ok (exAt c.more 1 rfl)
  e_BadNumber := errB_ok (exAt c.more 2 rfl)
  x_BadNumber := xfB_ok (exAt c.more 14 rfl)
  e_BadText := errB_ok (exAt c.more 3 rfl)
  x_BadText := xfB_ok (exAt c.more 15 rfl)
  e_BadPoly := errB_ok (exAt c.more 4 rfl)
  x_BadPoly := xfB_ok (exAt c.more 16 rfl)
  e_BadRow := errB_ok (exAt c.more 5 rfl)
  x_BadRow := xfB_ok (exAt c.more 17 rfl)
  e_BadTable := errB_ok (exAt c.more 6 rfl)
  x_BadTable := xfB_ok (exAt c.more 18 rfl)
  e_BadBase := errB_ok (exAt c.more 7 rfl)
  x_BadBase := xfB_ok (exAt c.more 19 rfl)
  e_BadPaper := errB_ok (exAt c.more 8 rfl)
  x_BadPaper := xfB_ok (exAt c.more 20 rfl)
  e_Unlike := errB_ok (exAt c.more 9 rfl)
  x_Unlike := xfB_ok (exAt c.more 21 rfl)
  e_TooMany := errB_ok (exAt c.more 10 rfl)
  x_TooMany := xfB_ok (exAt c.more 22 rfl)
  e_NoName := errB_ok (exAt c.more 11 rfl)
  x_NoName := xfB_ok (exAt c.more 23 rfl)
  e_NothingToUndo := errB_ok (exAt c.more 12 rfl)
  x_NothingToUndo := xfB_ok (exAt c.more 24 rfl)
  e_NothingToRedo := errB_ok (exAt c.more 13 rfl)
  x_NothingToRedo := xfB_ok (exAt c.more 25 rfl)
  xk_ := exAt c.more 28 rfl
  xfl_ := exAt c.more 29 rfl
/-! the defs, one after the other; the law -/
abbrev tabI : Tab := ⟨fun _ => lamNone, fun _ => "", fun _ => False⟩
theorem law_ok {P : Program} {w : World} {K : PySem.W.Frag} {mg : Str → Option Value} {base : Heap} (h : HD K mg) : ∀ fd, FunD K "law" "law" (defArgs st_law) (defBody st_law) (defScope st_law) [] [] (He.ga K "law") fd → FnG P w K mg base 4 (He.ga K "law") fd ["script"] (@spLaw tabI K) := by
  letI : Tab := tabI
  have h_x_BadNumber := okX_BadNumber (P := P) (w := w) (base := base) h
  have h_x_BadText := okX_BadText (P := P) (w := w) (base := base) h
  have h_x_BadPoly := okX_BadPoly (P := P) (w := w) (base := base) h
  have h_x_BadRow := okX_BadRow (P := P) (w := w) (base := base) h
  have h_x_BadTable := okX_BadTable (P := P) (w := w) (base := base) h
  have h_x_BadBase := okX_BadBase (P := P) (w := w) (base := base) h
  have h_x_BadPaper := okX_BadPaper (P := P) (w := w) (base := base) h
  have h_x_Unlike := okX_Unlike (P := P) (w := w) (base := base) h
  have h_x_TooMany := okX_TooMany (P := P) (w := w) (base := base) h
  have h_x_NoName := okX_NoName (P := P) (w := w) (base := base) h
  have h_x_NothingToUndo := okX_NothingToUndo (P := P) (w := w) (base := base) h
  have h_x_NothingToRedo := okX_NothingToRedo (P := P) (w := w) (base := base) h
  have h__law_kinds_of := ok__law_kinds_of (P := P) (w := w) (base := base) h 
  have h__law_alone := ok__law_alone (P := P) (w := w) (base := base) h h__law_kinds_of
  have h__law_first_right := ok__law_first_right (P := P) (w := w) (base := base) h h__law_alone h_x_BadBase h_x_BadNumber h_x_BadPoly h_x_BadRow h_x_BadTable h_x_BadText
  have h__law_is_caught := ok__law_is_caught (P := P) (w := w) (base := base) h h_x_BadNumber
  have h__law_last_right := ok__law_last_right (P := P) (w := w) (base := base) h h__law_alone h_x_BadPaper h_x_NoName h_x_NothingToRedo h_x_NothingToUndo h_x_TooMany h_x_Unlike
  have h__law_draw := ok__law_draw (P := P) (w := w) (base := base) h 
  have h__law_pick := ok__law_pick (P := P) (w := w) (base := base) h h__law_draw
  have h__law_values := ok__law_values (P := P) (w := w) (base := base) h h__law_pick
  have h__law_pen := ok__law_pen (P := P) (w := w) (base := base) h
  exact ok_law h h__law_pen h__law_first_right h__law_is_caught h__law_last_right h__law_values HVlaw
theorem walk : PySem.W.WalkO (PySem.W.view R.prog [24]) loose (PySem.W.XL (PySem.W.view R.prog [24]) []) hk.says R.toRowW (HandSHeadRun.topDef R.prog 24) [] (fun f vs => PySem.call f vs) := by
  refine walk_ofG (l := PySem.Challenge.rw_seenmodels_k00_errors_made_by_hand) (n := 63) (k := 4) (x := "script") rfl (by decide) (by kernel_rfl) ⟨rfl, by decide, by decide⟩ ?F
  intro w mg fa' h Y G hmg0
  obtain ⟨K, KX, c⟩ := Y
  have hd := hd_of KX G c
  have hmg : mg ("law" : PySem.Str) = some (.ref fa') := by
    have e : (HandSHeadRun.topDef R.prog 24).name = ("law" : PySem.Str) := by kernel_rfl
    rw [← e]
    exact hmg0
  have ef : fa' = He.ga K "law" := by
    have := hmg.symm.trans hd.g_law
    cases this
    rfl
  subst ef
  obtain ⟨fd, FD⟩ := hd.d_law
  have b := FunD.bindsA (ps := ["script"]) FD fun _ _ _ _ _ _ us hl => match us, hl with | [_], _ => rfl
  refine ⟨K, KX, fd, [], @spLaw tabI K, ?_, ?_, ?_, fun s u => b s [u] rfl, ?_, ?_⟩
  · intro p hp; cases hp
  · intro p hp; cases hp
  · intro p hp; cases hp
  · intro H a ns hl hH hS
    exact ⟨rfl, a, ns, rfl, hS, hl, fun P hP => hP.elim, fun _ => rfl⟩
  · intro base KB GB TB
    exact law_ok hd fd FD
end Wk00
open PySem PySem.W PySem.Calls PyProof.Rows
theorem PySem.Challenge.cw_seenmodels_k00_errors_made_by_hand_holds : PySem.Challenge.rw_seenmodels_k00_errors_made_by_hand.Holds := by
  w_on; o_law
  refine HandSHeadRun.head_any (r := OpenLaw.row PySem.Challenge.rw_seenmodels_k00_errors_made_by_hand) (q := view (OpenLaw.row PySem.Challenge.rw_seenmodels_k00_errors_made_by_hand).prog [24]) (H := Wk00.hk) (ob := Wk00.ob) (M := 60000) (loose := Wk00.loose) (d := HandSHeadRun.topDef (OpenLaw.row PySem.Challenge.rw_seenmodels_k00_errors_made_by_hand).prog 24) (kwd := []) Wk00.ob_eq
    (by kernel_rfl) (fun s => by kernel_rfl) Wk00.run (by kernel_rfl) (by kernel_rfl) (by kernel_rfl) (by rfl) (by first | assumption | decide +kernel) (by decide +kernel) ⟨rfl, rfl, rfl, rfl, rfl, by decide +kernel⟩ ?hw Wk00.walk
  case hw => w_witness2

