import PyProof.Rows.All
import Wide.All
import OpenK.AllK
import Wide.FinOn
import HandS.ForMost
import HandS.ForExc
import HandS.IsInst
import HandS.Wide
import HandS.TupAny
import HandS.TupMul
import HandS.Style
import HandS.SortOrd
import HandS.CallSlots
import HandS.TupLe
import HandS.Deep
import HandS.Flow
import HandS.TryOnly
import KE.LtData
import KE.DataCmp
import KE.SortData
import HandS.Conv
import HandS.Zip
import PySem.Challenge.RW_tiechances_k01_webs_known
set_option Elab.async false
set_option linter.all false
set_option maxRecDepth 100000
set_option maxHeartbeats 4000000
namespace Tc
open PySem PySem.Spec PyProof.Rows L2

/-! ### data, results, the monad -/
inductive D where
  | non | bl (b : Bool) | int (i : Int) | str (s : Str) | lst (l : List D) | tup (l : List D) | scr (l : List Int) | hnd (n : Nat) | lam (n : Nat) | dic (ks vs : List D) | ty (n : String) | cls (n : Nat)

abbrev G := List (List D)
inductive R (α : Type) where
  | ok (a : α) (g : G)
  | exc (c : Nat) (g : G)
  | bad
def M (α : Type) := G → R α
def R.bind {α β : Type} (r : R α) (k : α → M β) : R β := match r with
  | .ok a g => k a g
  | .exc c g => .exc c g
  | .bad => .bad
def M.pure {α : Type} (a : α) : M α := fun g => .ok a g
def M.bind {α β : Type} (m : M α) (k : α → M β) : M β := fun g => (m g).bind k
instance : Monad M where
  pure := M.pure
  bind := M.bind
def bad {α : Type} : M α := fun _ => .bad
def raise {α : Type} (c : Nat) : M α := fun g => .exc c g
def ofO {α : Type} : Option α → M α
  | some a => M.pure a
  | none => bad
theorem M.pure_bind {α β : Type} (a : α) (k : α → M β) : M.bind (M.pure a) k = k a := rfl
theorem M.bad_bind {α β : Type} (k : α → M β) : M.bind bad k = bad := rfl
theorem M.raise_bind {α β : Type} (c : Nat) (k : α → M β) : M.bind (raise c) k = raise c := rfl
theorem M.bind_assoc {α β γ : Type} (m : M α) (k : α → M β) (l : β → M γ) : M.bind (M.bind m k) l = M.bind m fun a => M.bind (k a) l := by
  funext g
  unfold M.bind
  cases m g <;> rfl
theorem M.bind_pure {α : Type} (m : M α) : M.bind m M.pure = m := by
  funext g
  unfold M.bind
  cases m g <;> rfl
theorem ofO_some {α : Type} (a : α) : ofO (some a) = M.pure a := rfl
theorem ofO_none {α : Type} : ofO (none : Option α) = bad := rfl

/-! ### the frame of reference of a call -/
structure Cf where
  K : PySem.W.Frag
  /-- what is not to be read as data, nor to be kept: the handles' lists, lists that are being built, tables -/
  O : Addr → Prop
  /-- what may change: handles' lists, tables -/
  N : Addr → Prop
  nin : ∀ a, N a → O a
  adr : List Addr
  ain : ∀ a ∈ adr, N a
  nd : adr.Nodup
  J : Hp → Prop
  jst : ∀ H H', J H → (∀ b o, H b = some o → (∀ vs, o ≠ .lst vs) → H' b = some o) → J H'
  L : Nat → Addr → Hp → Prop
  lst : ∀ n a H H', L n a H → (∀ b o, H b = some o → (∀ vs, o ≠ .lst vs) → (∀ ps, o ≠ .tbl ps) → H' b = some o) → L n a H'
  cls : Nat → Addr

def RdL (C : Cf) (H : Hp) (a : Addr) (xs : List V) : Prop := ¬ C.O a ∧ H a = some (.lst xs)
def KTup (K : PySem.W.Frag) (a : Addr) (xs : List V) : Prop :=
  ∃ (o : Obj) (its : Array Value) (n : Nat), K.lookup a = some o ∧ o.cls = .type "tuple" ∧ o.data = .seq its n ∧ its.size ≤ sizeLine ∧ Vals xs its.toList
def RdT (C : Cf) (H : Hp) (a : Addr) (xs : List V) : Prop := (¬ C.O a ∧ H a = some (.tup xs)) ∨ KTup C.K a xs
def KLst (K : PySem.W.Frag) (a : Addr) (xs : List V) : Prop :=
  ∃ (o : Obj) (its : Array Value) (n : Nat), K.lookup a = some o ∧ o.cls = .type "list" ∧ o.dict = none ∧ o.data = .seq its n ∧ its.size ≤ sizeLine ∧ Vals xs its.toList
def RdS (C : Cf) (H : Hp) (a : Addr) (xs : List V) : Prop := (¬ C.O a ∧ ∃ o, H a = some (.frz o (.lst xs))) ∨ KLst C.K a xs
theorem RdS.sq {C : Cf} {H : Hp} {a : Addr} {xs : List V} (h : RdS C H a xs) : SqL C.K H a xs := by
  rcases h with ⟨_, o, h⟩ | h
  · exact .inl (.inr ⟨o, h⟩)
  · exact .inr h
theorem RdL.sq {C : Cf} {H : Hp} {a : Addr} {xs : List V} (h : RdL C H a xs) : SqL C.K H a xs := .inl (.inl h.2)
theorem RdT.sq {C : Cf} {H : Hp} {a : Addr} {xs : List V} (h : RdT C H a xs) : SqT C.K H a xs := by
  rcases h with h | h
  · exact .inl (.inl h.2)
  · exact .inr h

mutual
inductive Rep (C : Cf) (H : Hp) : V → D → Prop
  | non : Rep C H .non .non
  | bl (b : Bool) : Rep C H (.bl b) (.bl b)
  | int (i : Int) : Rep C H (.int i) (.int i)
  | str (s : Str) : Rep C H (.str s) (.str s)
  | lst {a : Addr} {xs : List V} {ds : List D} : RdL C H a xs → RepL C H xs ds → Rep C H (.ref a) (.lst ds)
  | tup {a : Addr} {xs : List V} {ds : List D} : RdT C H a xs → RepL C H xs ds → Rep C H (.ref a) (.tup ds)
  | scr {a : Addr} {ns : List Int} : RdS C H a (ns.map V.int) → Rep C H (.ref a) (.scr ns)
  | hnd {a : Addr} {n : Nat} : C.adr[n]? = some a → Rep C H (.ref a) (.hnd n)
  | lam {a : Addr} {n : Nat} : C.L n a H → Rep C H (.ref a) (.lam n)
  | ty (n : String) : Rep C H (.ty n) (.ty n)
  | cls (n : Nat) : Rep C H (.ref (C.cls n)) (.cls n)
  | dic0 {a : Addr} : ¬ C.O a → (H a = some (.dT []) ∨ H a = some (.dK [])) → Rep C H (.ref a) (.dic [] [])
inductive RepL (C : Cf) (H : Hp) : List V → List D → Prop
  | nil : RepL C H [] []
  | cons {v : V} {vs : List V} {d : D} {ds : List D} : Rep C H v d → RepL C H vs ds → RepL C H (v :: vs) (d :: ds)
end
theorem RepL.length {C : Cf} {H : Hp} : ∀ {vs : List V} {ds : List D}, RepL C H vs ds → vs.length = ds.length
  | _, _, .nil => rfl
  | _, _, .cons _ t => congrArg (· + 1) (RepL.length t)
theorem RepL.get {C : Cf} {H : Hp} : ∀ {vs : List V} {ds : List D} {i : Nat} {v : V}, RepL C H vs ds → vs[i]? = some v → ∃ d, ds[i]? = some d ∧ Rep C H v d
  | _, _, _, _, .nil, e => by simp at e
  | _, _, 0, _, .cons r _, e => by simp at e; subst e; exact ⟨_, rfl, r⟩
  | _, _, i + 1, x, .cons _ t, e => by
    obtain ⟨u, h1, h2⟩ := RepL.get (i := i) (v := x) t (by simpa using e)
    exact ⟨u, by simpa using h1, h2⟩
theorem RepL.getD {C : Cf} {H : Hp} : ∀ {vs : List V} {ds : List D} {i : Nat} {d : D}, RepL C H vs ds → ds[i]? = some d → ∃ v, vs[i]? = some v ∧ Rep C H v d
  | _, _, _, _, .nil, e => by simp at e
  | _, _, 0, _, .cons r _, e => by simp at e; subst e; exact ⟨_, rfl, r⟩
  | _, _, i + 1, x, .cons _ t, e => by
    obtain ⟨u, h1, h2⟩ := RepL.getD (i := i) (d := x) t (by simpa using e)
    exact ⟨u, by simpa using h1, h2⟩
theorem RepL.append {C : Cf} {H : Hp} : ∀ {xs ys : List V} {ds es : List D}, RepL C H xs ds → RepL C H ys es → RepL C H (xs ++ ys) (ds ++ es)
  | _, _, _, _, .nil, s => s
  | _, _, _, _, .cons r t, s => .cons r (RepL.append t s)
theorem RepL.take {C : Cf} {H : Hp} : ∀ {xs : List V} {ds : List D} (n : Nat), RepL C H xs ds → RepL C H (xs.take n) (ds.take n)
  | _, _, 0, _ => .nil
  | _, _, _ + 1, .nil => .nil
  | _, _, n + 1, .cons r t => .cons r (RepL.take n t)
theorem RepL.drop {C : Cf} {H : Hp} : ∀ {xs : List V} {ds : List D} (n : Nat), RepL C H xs ds → RepL C H (xs.drop n) (ds.drop n)
  | _, _, 0, r => r
  | _, _, _ + 1, .nil => .nil
  | _, _, n + 1, .cons _ t => RepL.drop n t
theorem RepL.reverse {C : Cf} {H : Hp} : ∀ {xs : List V} {ds : List D}, RepL C H xs ds → RepL C H xs.reverse ds.reverse
  | _, _, .nil => .nil
  | _, _, .cons r t => by
    rw [List.reverse_cons, List.reverse_cons]
    exact (RepL.reverse t).append (.cons r .nil)
theorem RepL.rep {C : Cf} {H : Hp} {xs : List V} {ds : List D} (r : RepL C H xs ds) : ∀ n : Nat, RepL C H (List.replicate n xs).flatten (List.replicate n ds).flatten
  | 0 => .nil
  | n + 1 => by
    rw [List.replicate_succ, List.replicate_succ, List.flatten_cons, List.flatten_cons]
    exact r.append (RepL.rep r n)
theorem RepL.set {C : Cf} {H : Hp} {v : V} {d : D} (r : Rep C H v d) : ∀ {xs : List V} {ds : List D} (i : Nat), RepL C H xs ds → RepL C H (xs.set i v) (ds.set i d)
  | _, _, _, .nil => .nil
  | _, _, 0, .cons _ t => .cons r t
  | _, _, i + 1, .cons q t => .cons q (RepL.set r i t)
theorem RepL.ints {C : Cf} {H : Hp} : ∀ {xs : List V} {ns : List Int}, RepL C H xs (ns.map D.int) → xs = ns.map V.int
  | _, [], .nil => rfl
  | _, n :: ns, .cons r t => by
    cases r
    rw [List.map_cons, RepL.ints t]
theorem RepL.ofInts {C : Cf} {H : Hp} : ∀ (ns : List Int), RepL C H (ns.map V.int) (ns.map D.int)
  | [] => .nil
  | n :: ns => .cons (.int n) (RepL.ofInts ns)

/-- what was there (but for N) is there -/
def Ext (C : Cf) (H H' : Hp) : Prop := ∀ b o, H b = some o → ¬ C.N b → H' b = some o
theorem Ext.refl (C : Cf) (H : Hp) : Ext C H H := fun _ _ h _ => h
theorem Ext.trans {C : Cf} {H H1 H2 : Hp} (a : Ext C H H1) (b : Ext C H1 H2) : Ext C H H2 := fun c o h n => b c o (a c o h n) n
theorem Ext.same {C : Cf} {H H' : Hp} (s : Same H H') : Ext C H H' := fun b o h _ => s b o h

def Oat (C : Cf) (H : Hp) : Prop := ∀ b, C.O b → (∃ vs, H b = some (.lst vs)) ∨ ∃ ps, H b = some (.tbl ps)
theorem Oat.not {C : Cf} {H : Hp} (o : Oat C H) {p : Addr} (h : H p = none) : ¬ C.O p := fun q => by
  rcases o p q with ⟨_, e⟩ | ⟨_, e⟩ <;> rw [h] at e <;> cases e
theorem Oat.same {C : Cf} {H H' : Hp} (o : Oat C H) (s : Same H H') : Oat C H' := fun b q => by
  rcases o b q with ⟨v, e⟩ | ⟨v, e⟩
  · exact .inl ⟨v, s _ _ e⟩
  · exact .inr ⟨v, s _ _ e⟩
/-- lambdas stay -/
theorem Ext.lam {C : Cf} {H H' : Hp} (x : Ext C H H') (o : Oat C H) {n : Nat} {a : Addr} (h : C.L n a H) : C.L n a H' :=
  C.lst n a H H' h fun b u e n1 n2 => x b u e fun q => by
    rcases o b (C.nin b q) with ⟨v, z⟩ | ⟨v, z⟩
    · rw [e] at z; exact n1 v (Option.some.inj z)
    · rw [e] at z; exact n2 v (Option.some.inj z)
mutual
theorem Rep.exts {C : Cf} {H H' : Hp} (x : ∀ b o, H b = some o → ¬ C.O b → H' b = some o) (o : ∀ n a, C.L n a H → C.L n a H') : ∀ (d : D) (v : V), Rep C H v d → Rep C H' v d
  | .non, _, h => by cases h; exact .non
  | .bl b, _, h => by cases h; exact .bl b
  | .int i, _, h => by cases h; exact .int i
  | .str s, _, h => by cases h; exact .str s
  | .lst ds, _, h => by
    cases h with
    | lst a b => exact .lst ⟨a.1, x _ _ a.2 a.1⟩ (RepL.exts x o ds _ b)
  | .tup ds, _, h => by
    cases h with
    | tup a b => exact .tup (a.imp (fun a => ⟨a.1, x _ _ a.2 a.1⟩) id) (RepL.exts x o ds _ b)
  | .scr ns, _, h => by
    cases h with
    | scr a => exact .scr (a.imp (fun a => ⟨a.1, a.2.imp fun o h => x _ _ h a.1⟩) id)
  | .hnd n, _, h => by
    cases h with
    | hnd a => exact .hnd a
  | .lam n, _, h => by
    cases h with
    | lam a => exact .lam (o _ _ a)
  | .ty n, _, h => by cases h; exact .ty n
  | .cls n, _, h => by cases h; exact .cls n
  | .dic ks vs, _, h => by
    cases h with
    | dic0 a b => exact .dic0 a (b.imp (fun b => x _ _ b a) fun b => x _ _ b a)
theorem RepL.exts {C : Cf} {H H' : Hp} (x : ∀ b o, H b = some o → ¬ C.O b → H' b = some o) (o : ∀ n a, C.L n a H → C.L n a H') : ∀ (ds : List D) (vs : List V), RepL C H vs ds → RepL C H' vs ds
  | [], _, h => by cases h; exact .nil
  | d :: ds, _, h => by
    cases h with
    | cons a b => exact .cons (Rep.exts x o d _ a) (RepL.exts x o ds _ b)
end

theorem Rep.ext {C : Cf} {H H' : Hp} (x : Ext C H H') (o : Oat C H) (d : D) (v : V) (h : Rep C H v d) : Rep C H' v d := Rep.exts (fun b u e n => x b u e fun q => n (C.nin b q)) (fun _ _ q => x.lam o q) d v h
theorem RepL.ext {C : Cf} {H H' : Hp} (x : Ext C H H') (o : Oat C H) (ds : List D) (vs : List V) (h : RepL C H vs ds) : RepL C H' vs ds := RepL.exts (fun b u e n => x b u e fun q => n (C.nin b q)) (fun _ _ q => x.lam o q) ds vs h
theorem Rep.same {C : Cf} {H H' : Hp} (s : Same H H') {d : D} {v : V} (h : Rep C H v d) : Rep C H' v d := Rep.exts (fun b u e _ => s b u e) (fun n a q => C.lst n a H H' q fun b o e _ _ => s b o e) d v h
theorem RepL.same {C : Cf} {H H' : Hp} (s : Same H H') {ds : List D} {vs : List V} (h : RepL C H vs ds) : RepL C H' vs ds := RepL.exts (fun b u e _ => s b u e) (fun n a q => C.lst n a H H' q fun b o e _ _ => s b o e) ds vs h
/-- the state -/
structure WS (C : Cf) (g : G) (H : Hp) : Prop where
  oat : Oat C H
  j : C.J H
  len : True
  con : ∀ (n : Nat) a, C.adr[n]? = some a → ∃ (ds : List D) (vs : List V), g[n]? = some ds ∧ H a = some (.lst vs) ∧ RepL C H vs ds
theorem WS.same {C : Cf} {g : G} {H H' : Hp} (w : WS C g H) (s : Same H H') : WS C g H' :=
  ⟨w.oat.same s, C.jst _ _ w.j fun b o e _ => s b o e, w.len, fun n a e => by
    obtain ⟨ds, vs, e1, e2, e3⟩ := w.con n a e
    exact ⟨ds, vs, e1, s _ _ e2, RepL.ext (.same s) w.oat ds vs e3⟩⟩

abbrev Rho := List (Option D)
def Has (C : Cf) (ρ : Rho) (σ : L2.St) (H : Hp) : Prop := ∀ (i : Nat) (d : D), ρ[i]? = some (some d) → ∃ v, σ[i]? = some (some v) ∧ Rep C H v d
theorem Has.ext {C : Cf} {ρ : Rho} {σ : L2.St} {H H' : Hp} (e : Has C ρ σ H) (x : Ext C H H') (o : Oat C H) : Has C ρ σ H' := fun i d h => by
  obtain ⟨v, h1, h2⟩ := e i d h
  exact ⟨v, h1, Rep.ext x o d v h2⟩

/-- what an expression's end is to give -/
def Out (C : Cf) (H : Hp) (r : R D) (Q : VK) (X : Nat → Hp → Prop) : Prop := match r with
  | .ok d g => ∀ v H', Ext C H H' → WS C g H' → Rep C H' v d → Q v H'
  | .exc c g => ∀ H', Ext C H H' → WS C g H' → X c H'
  | .bad => False
theorem Out.from {C : Cf} {H H1 : Hp} {r : R D} {Q : VK} {X : Nat → Hp → Prop} (o : Out C H r Q X) (x : Ext C H H1) : Out C H1 r Q X := by
  cases r with
  | ok d g => exact fun v H' e w r => o v H' (x.trans e) w r
  | exc c g => exact fun H' e w => o H' (x.trans e) w
  | bad => exact o
def xw (C : Cf) (W : WX) (σ : L2.St) : Nat → Hp → Prop := fun c H => W (.ref (C.cls c)) none σ H
def tED (C : Cf) (W : WX) (ρ : Rho) (m : M D) : TE := fun σ H Q => ∃ g, WS C g H ∧ Has C ρ σ H ∧ Out C H (m g) Q (xw C W σ)
structure ED (X : Cx) (C : Cf) (W : WX) (ρ : Rho) (e : Expr) (m : M D) : Prop where
  pe : PE X e (tED C W ρ m)
/-- tests -/
def OutB (C : Cf) (H : Hp) (r : R Bool) (Q : Bool → Hp → Prop) (X : Nat → Hp → Prop) : Prop := match r with
  | .ok b g => ∀ H', Ext C H H' → WS C g H' → Q b H'
  | .exc c g => ∀ H', Ext C H H' → WS C g H' → X c H'
  | .bad => False
theorem OutB.from {C : Cf} {H H1 : Hp} {r : R Bool} {Q : Bool → Hp → Prop} {X : Nat → Hp → Prop} (o : OutB C H r Q X) (x : Ext C H H1) : OutB C H1 r Q X := by
  cases r with
  | ok d g => exact fun H' e w => o H' (x.trans e) w
  | exc c g => exact fun H' e w => o H' (x.trans e) w
  | bad => exact o
def tTD (C : Cf) (W : WX) (ρ : Rho) (m : M Bool) : TT := fun σ H Q => ∃ g, WS C g H ∧ Has C ρ σ H ∧ OutB C H (m g) Q (xw C W σ)
structure TD (X : Cx) (C : Cf) (W : WX) (ρ : Rho) (e : Expr) (m : M Bool) : Prop where
  pt : PT X e (tTD C W ρ m)
structure WD (X : Cx) (C : Cf) (W : WX) (ρ : Rho) (e : Expr) (m : M Bool) : Prop where
  pw : PW X e (tTD C W ρ m)
/-- argument lists -/
def OutL (C : Cf) (H : Hp) (r : R (List D)) (Q : List V → Hp → Prop) (X : Nat → Hp → Prop) : Prop := match r with
  | .ok ds g => ∀ vs H', Ext C H H' → WS C g H' → RepL C H' vs ds → Q vs H'
  | .exc c g => ∀ H', Ext C H H' → WS C g H' → X c H'
  | .bad => False
theorem OutL.from {C : Cf} {H H1 : Hp} {r : R (List D)} {Q : List V → Hp → Prop} {X : Nat → Hp → Prop} (o : OutL C H r Q X) (x : Ext C H H1) : OutL C H1 r Q X := by
  cases r with
  | ok d g => exact fun v H' e w r => o v H' (x.trans e) w r
  | exc c g => exact fun H' e w => o H' (x.trans e) w
  | bad => exact o
def tLD (C : Cf) (W : WX) (ρ : Rho) (m : M (List D)) : TA := fun σ H Q => ∃ g, WS C g H ∧ Has C ρ σ H ∧ OutL C H (m g) Q (xw C W σ)
structure LD (X : Cx) (C : Cf) (W : WX) (ρ : Rho) (es : List Expr) (m : M (List D)) : Prop where
  pa : PA X es (tLD C W ρ m)

/-! ### weakening readings -/
theorem pe_imp {X : Cx} {e : Expr} {t t' : TE} (h : PE X e t) (i : ∀ σ H Q, t' σ H Q → t σ H Q) : PE X e t' := ⟨fun p s σ H Q I q => h.run p s σ H Q I (i _ _ _ q)⟩
theorem pt_imp {X : Cx} {e : Expr} {t t' : TT} (h : PT X e t) (i : ∀ σ H Q, t' σ H Q → t σ H Q) : PT X e t' := ⟨fun p s σ H Q I q => h.run p s σ H Q I (i _ _ _ q)⟩
theorem pw_imp {X : Cx} {e : Expr} {t t' : TT} (h : PW X e t) (i : ∀ σ H Q, t' σ H Q → t σ H Q) : PW X e t' := ⟨fun wh p s σ H Q I q => h.run wh p s σ H Q I (i _ _ _ q)⟩
theorem pa_imp {X : Cx} {e : List Expr} {t t' : TA} (h : PA X e t) (i : ∀ σ H Q, t' σ H Q → t σ H Q) : PA X e t' := ⟨fun po p s σ H Q I q => h.run po p s σ H Q I (i _ _ _ q)⟩

/-- a first step, then the rest: the shape of every proof below -/
theorem step1 {C : Cf} {W : WX} {ρ : Rho} {σ : L2.St} {H : Hp} {m : M D} {k : D → M D} {Q : VK} {P : VK} (h : tED C W ρ (M.bind m k) σ H Q)
    (c : ∀ d v H1 g1, Ext C H H1 → WS C g1 H1 → Has C ρ σ H1 → Rep C H1 v d → Out C H1 (k d g1) Q (xw C W σ) → P v H1) : tED C W ρ m σ H P := by
  obtain ⟨g, w, e, o⟩ := h
  refine ⟨g, w, e, ?_⟩
  unfold M.bind at o
  cases hm : m g with
  | ok d g1 =>
    rw [hm] at o
    exact fun v H1 x w1 r => c d v H1 g1 x w1 (e.ext x w.oat) r (Out.from (show Out C H (k d g1) Q _ from o) x)
  | exc c g1 =>
    rw [hm] at o
    exact o
  | bad =>
    rw [hm] at o
    exact o
end Tc

set_option Elab.async false
set_option linter.all false
set_option maxRecDepth 100000
set_option maxHeartbeats 4000000
namespace Tc
open PySem PySem.Spec PyProof.Rows L2

structure Cok (X : Cx) (C : Cf) (W : WX) : Prop where
  k : X.K = C.K
  calm : X.calm = true
  nd : X.N.Nodup
  pas : ∀ σ, PassesAt (L2.CX X.prog X.w) X σ (WE W σ)
  un : X.A.units + 80 < cLine

/-! ### data as the library's data -/
mutual
def D.py : D → Option PyData
  | .non => some .none
  | .bl b => some (.bool b)
  | .int i => some (.int i)
  | .str s => some (.str s)
  | .lst l => (D.pyL l).map .list
  | .tup l => (D.pyL l).map .tuple
  | _ => none
def D.pyL : List D → Option (List PyData)
  | [] => some []
  | d :: ds => match D.py d, D.pyL ds with
    | some p, some ps => some (p :: ps)
    | _, _ => none
end
theorem RdL.sqX {X : Cx} {C : Cf} {H : Hp} {a : Addr} {xs : List V} (k : X.K = C.K) (h : RdL C H a xs) : SqL X.K H a xs := by rw [k]; exact h.sq
theorem RdS.sqX {X : Cx} {C : Cf} {H : Hp} {a : Addr} {xs : List V} (k : X.K = C.K) (h : RdS C H a xs) : SqL X.K H a xs := by rw [k]; exact h.sq
theorem RdT.sqX {X : Cx} {C : Cf} {H : Hp} {a : Addr} {xs : List V} (k : X.K = C.K) (h : RdT C H a xs) : SqT X.K H a xs := by rw [k]; exact h.sq
mutual
theorem Rep.dp {C : Cf} {H : Hp} : ∀ (d : D) (v : V) (p : PyData), Rep C H v d → D.py d = some p → Dp C.K H v p
  | .non, _, p, h, e => by cases h; unfold D.py at e; cases e; exact .non
  | .bl b, _, p, h, e => by cases h; unfold D.py at e; cases e; exact .bl b
  | .int i, _, p, h, e => by cases h; unfold D.py at e; cases e; exact .int i
  | .str s, _, p, h, e => by cases h; unfold D.py at e; cases e; exact .str s
  | .lst l, _, p, h, e => by
    cases h with
    | lst a b =>
      unfold D.py at e
      cases q : D.pyL l with
      | none => rw [q] at e; cases e
      | some ps =>
        rw [q] at e
        cases e
        exact .lst a.sq (RepL.dp l _ ps b q)
  | .tup l, _, p, h, e => by
    cases h with
    | tup a b =>
      unfold D.py at e
      cases q : D.pyL l with
      | none => rw [q] at e; cases e
      | some ps =>
        rw [q] at e
        cases e
        exact .tup a.sq (RepL.dp l _ ps b q)
  | .scr _, _, _, _, e => by unfold D.py at e; cases e
  | .hnd _, _, _, _, e => by unfold D.py at e; cases e
  | .lam _, _, _, _, e => by unfold D.py at e; cases e
  | .dic _ _, _, _, _, e => by unfold D.py at e; cases e
  | .ty _, _, _, _, e => by unfold D.py at e; cases e
  | .cls _, _, _, _, e => by unfold D.py at e; cases e
theorem RepL.dp {C : Cf} {H : Hp} : ∀ (ds : List D) (vs : List V) (ps : List PyData), RepL C H vs ds → D.pyL ds = some ps → DpAll C.K H vs ps
  | [], _, ps, h, e => by cases h; unfold D.pyL at e; cases e; exact .nil
  | d :: ds, _, ps, h, e => by
    cases h with
    | cons a b =>
      unfold D.pyL at e
      cases q1 : D.py d with
      | none => rw [q1] at e; cases e
      | some p =>
        cases q2 : D.pyL ds with
        | none => rw [q1, q2] at e; cases e
        | some ps' =>
          rw [q1, q2] at e
          cases e
          exact .cons (Rep.dp d _ p a q1) (RepL.dp ds _ ps' b q2)
end

/-! ### names, constants -/
section
variable {X : Cx} {C : Cf} {W : WX} {ρ : Rho} {pos : Pos}
theorem ed_var {d : D} {x : Str} (i : Nat) (h : ρ[i]? = some (some d) := by rfl) (hN : X.N[i]? = some x := by rfl) (hv : Vis X.env.scope x := by first | exact Or.inl rfl | exact Or.inr (Or.inl rfl) | exact Or.inr (Or.inr rfl)) (hd : (x == ("__debug__" : Str)) = false := by decide) (hcd : (x == ("__classdict__" : Str)) = false := by decide) : ED X C W ρ (.Name x pos) (M.pure d) :=
  ⟨pe_imp (pe_var hN hv hd hcd) fun σ H Q ⟨g, w, e, o⟩ => by
    obtain ⟨v, h1, h2⟩ := e i d h
    exact ⟨v, h1, o v H (.refl C H) w h2⟩⟩
theorem ed_c {e : Expr} {v : V} {d : D} (h : PE X e (tC v)) (r : ∀ H, Rep C H v d) : ED X C W ρ e (M.pure d) :=
  ⟨pe_imp h fun σ H Q ⟨g, w, e, o⟩ => o v H (.refl C H) w (r H)⟩
theorem ed_int {i : Int} {j : Nat} : ED X C W ρ (.Constant (.int i) j pos) (M.pure (.int i)) := ed_c pe_int fun _ => .int i
theorem ed_bl {b : Bool} {j : Nat} : ED X C W ρ (.Constant (.bool b) j pos) (M.pure (.bl b)) := ed_c pe_bl fun _ => .bl b
theorem ed_non {j : Nat} : ED X C W ρ (.Constant .none j pos) (M.pure .non) := ed_c pe_non fun _ => .non
theorem ed_str {s : Str} {j : Nat} : ED X C W ρ (.Constant (.str s) j pos) (M.pure (.str s)) := ed_c pe_str fun _ => .str s
theorem ed_gint {x : Str} {i : Int} {t : Tok} (hm : X.mg x = some (.int i t)) (hg : Gl X x := by rfl) (hd : (x == ("__debug__" : Str)) = false := by decide) : ED X C W ρ (.Name x pos) (M.pure (.int i)) :=
  ed_c (pe_glob (v := .int i) hg hm ⟨_, rfl⟩ hd) fun _ => .int i
theorem ed_gty {x : Str} {n : String} (hm : X.mg x = none) (hv : bootBuiltins x = some (.type n)) (hg : Gl X x := by rfl) (hn : x ≠ "__name__" := by decide) (hd : (x == ("__debug__" : Str)) = false := by decide) : ED X C W ρ (.Name x pos) (M.pure (.ty n)) :=
  ed_c (pe_bltn (v := .ty n) hg hm hv rfl hn hd) fun _ => .ty n
theorem ed_gcls {x : Str} (c : Nat) (hm : X.mg x = some (.ref (C.cls c))) (hg : Gl X x := by rfl) (hd : (x == ("__debug__" : Str)) = false := by decide) : ED X C W ρ (.Name x pos) (M.pure (.cls c)) :=
  ed_c (pe_glob (v := .ref (C.cls c)) hg hm rfl hd) fun _ => .cls c
/-- a module's constant tuple -/
theorem ed_gtup {x : Str} {a : Addr} {xs : List V} {ds : List D} (hm : X.mg x = some (.ref a)) (hk : KTup C.K a xs) (hr : ∀ H, RepL C H xs ds) (hg : Gl X x := by rfl) (hd : (x == ("__debug__" : Str)) = false := by decide) : ED X C W ρ (.Name x pos) (M.pure (.tup ds)) :=
  ed_c (pe_glob (v := .ref a) hg hm rfl hd) fun H => .tup (.inr hk) (hr H)

/-! ### operators -/
/-- an operation without effects but new objects -/
def rD (C : Cf) (F : D → D → Option D) : R2 := fun x y H Q => ∃ a b d, Rep C H x a ∧ Rep C H y b ∧ F a b = some d ∧ Oat C H ∧ ∀ v H', Same H H' → Rep C H' v d → Q v H'
def rB (C : Cf) (F : D → D → Option Bool) : R2 := fun x y H Q => ∃ a b d, Rep C H x a ∧ Rep C H y b ∧ F a b = some d ∧ Q (.bl d) H
def OpD (f : Value → Value → Sem Value) (F : D → D → Option D) : Prop := ∀ (X : Cx) (C : Cf) (W : WX), Cok X C W → OpR X f (rD C F)
def OpB (f : Value → Value → Sem Value) (F : D → D → Option Bool) : Prop := ∀ (X : Cx) (C : Cf) (W : WX), Cok X C W → OpR X f (rB C F)
def bin (ma mb : M D) (F : D → D → Option D) : M D := M.bind ma fun a => M.bind mb fun b => ofO (F a b)
def binB (ma mb : M D) (F : D → D → Option Bool) : M Bool := M.bind ma fun a => M.bind mb fun b => ofO (F a b)
def toD (m : M Bool) : M D := M.bind m fun b => M.pure (.bl b)
theorem Out.ofO_some {C : Cf} {H : Hp} {o : Option D} {g : G} {Q : VK} {Y : Nat → Hp → Prop} (h : Out C H (ofO o g) Q Y) : ∃ d, o = some d ∧ ∀ v H', Ext C H H' → WS C g H' → Rep C H' v d → Q v H' := by
  cases o with
  | none => exact h.elim
  | some d => exact ⟨d, rfl, h⟩
theorem ed_bin {f : Operator} {F : D → D → Option D} {a b : Expr} {ma mb : M D} (ho : OpD (binaryOp f) F) (ok : Cok X C W) (ha : ED X C W ρ a ma) (hb : ED X C W ρ b mb) : ED X C W ρ (.BinOp a f b pos) (bin ma mb F) :=
  ⟨pe_imp (pe_op (ho X C W ok) ha.pe hb.pe) fun σ H Q h => step1 h fun d v H1 g1 x w1 e1 r1 o1 => step1 ⟨g1, w1, e1, o1⟩ fun d2 v2 H2 g2 x2 w2 e2 r2 o2 => by
    obtain ⟨z, ez, q⟩ := Out.ofO_some o2
    exact ⟨d, d2, z, Rep.ext x2 w1.oat d v r1, r2, ez, w2.oat, fun v3 H3 s3 r3 => q v3 H3 (.same s3) (w2.same s3) r3⟩⟩
theorem ed_cmp {f : CmpOp} {F : D → D → Option Bool} {a b : Expr} {ma mb : M D} (ho : OpB (compareOp f) F) (ok : Cok X C W) (ha : ED X C W ρ a ma) (hb : ED X C W ρ b mb) (hm : behindInMarks f b = false) : ED X C W ρ (.Compare a [f] [b] pos) (toD (binB ma mb F)) :=
  ⟨pe_imp (pe_cmpR (ho X C W ok) ha.pe hb.pe hm) fun σ H Q h => by
    unfold toD binB at h
    rw [M.bind_assoc] at h
    refine step1 h fun d v H1 g1 x w1 e1 r1 o1 => ?_
    rw [M.bind_assoc] at o1
    refine step1 ⟨g1, w1, e1, o1⟩ fun d2 v2 H2 g2 x2 w2 e2 r2 o2 => ?_
    cases ez : F d d2 with
    | none => rw [ez] at o2; exact o2.elim
    | some z =>
      rw [ez] at o2
      exact ⟨d, d2, z, Rep.ext x2 w1.oat d v r1, r2, ez, o2 (.bl z) H2 (.refl C H2) w2 (.bl z)⟩⟩
theorem stepB {σ : L2.St} {H : Hp} {m : M D} {k : D → M Bool} {Q : Bool → Hp → Prop} {P : VK} (h : tTD C W ρ (M.bind m k) σ H Q)
    (c : ∀ d v H1 g1, Ext C H H1 → WS C g1 H1 → Has C ρ σ H1 → Rep C H1 v d → OutB C H1 (k d g1) Q (xw C W σ) → P v H1) : tED C W ρ m σ H P := by
  obtain ⟨g, w, e, o⟩ := h
  refine ⟨g, w, e, ?_⟩
  unfold M.bind at o
  cases hm : m g with
  | ok d g1 =>
    rw [hm] at o
    exact fun v H1 x w1 r => c d v H1 g1 x w1 (e.ext x w.oat) r (OutB.from (show OutB C H (k d g1) Q _ from o) x)
  | exc c g1 =>
    rw [hm] at o
    exact o
  | bad =>
    rw [hm] at o
    exact o
theorem td_cmp {f : CmpOp} {F : D → D → Option Bool} {a b : Expr} {ma mb : M D} (ho : OpB (compareOp f) F) (ok : Cok X C W) (ha : ED X C W ρ a ma) (hb : ED X C W ρ b mb) (hm : behindInMarks f b = false) : TD X C W ρ (.Compare a [f] [b] pos) (binB ma mb F) :=
  ⟨pt_imp (pt_cmpR (ho X C W ok) ha.pe hb.pe hm) fun σ H Q h => stepB h fun d v H1 g1 x w1 e1 r1 o1 => stepB ⟨g1, w1, e1, o1⟩ fun d2 v2 H2 g2 x2 w2 e2 r2 o2 => by
    cases ez : F d d2 with
    | none => rw [ez] at o2; exact o2.elim
    | some z =>
      rw [ez] at o2
      exact ⟨d, d2, z, Rep.ext x2 w1.oat d v r1, r2, ez, z, rfl, o2 H2 (.refl C H2) w2⟩⟩
/-- a op b op' c -/
def chain (ma mb mc : M D) (F F' : D → D → Option Bool) : M Bool := M.bind ma fun a => M.bind mb fun b => M.bind (ofO (F a b)) fun k => if k = true then M.bind mc fun c => ofO (F' b c) else M.pure false
theorem chain_read {f f' : CmpOp} {F F' : D → D → Option Bool} {mb mc : M D} {σ : L2.St} {H : Hp} {ma : M D} {Q : Bool → Hp → Prop} (h : tTD C W ρ (chain ma mb mc F F') σ H Q) :
    tED C W ρ ma σ H fun x H1 => tED C W ρ mb σ H1 fun y H2 => rB C F x y H2 fun z H3 => ∃ k, z = .bl k ∧ (if k = true then tED C W ρ mc σ H3 fun w' H4 => rB C F' y w' H4 fun z H5 => ∃ k, z = .bl k ∧ Q k H5 else ∃ k, V.bl false = .bl k ∧ Q k H3) := by
  refine stepB h fun d v H1 g1 x w1 e1 r1 o1 => stepB ⟨g1, w1, e1, o1⟩ fun d2 v2 H2 g2 x2 w2 e2 r2 o2 => ?_
  cases ez : F d d2 with
  | none => rw [ez] at o2; exact o2.elim
  | some z =>
    rw [ez] at o2
    refine ⟨d, d2, z, Rep.ext x2 w1.oat d v r1, r2, ez, z, rfl, ?_⟩
    cases z with
    | false => exact ⟨false, rfl, o2 H2 (.refl C H2) w2⟩
    | true =>
      refine stepB ⟨g2, w2, e2, o2⟩ fun d3 v3 H3 g3 x3 w3 e3 r3 o3 => ?_
      cases ey : F' d2 d3 with
      | none => rw [ey] at o3; exact o3.elim
      | some y =>
        rw [ey] at o3
        exact ⟨d2, d3, y, Rep.ext x3 w2.oat d2 v2 r2, r3, ey, y, rfl, o3 H3 (.refl C H3) w3⟩
theorem td_chain {f f' : CmpOp} {F F' : D → D → Option Bool} {a b c : Expr} {ma mb mc : M D} (ho : OpB (compareOp f) F) (ho' : OpB (compareOp f') F') (ok : Cok X C W) (ha : ED X C W ρ a ma) (hb : ED X C W ρ b mb) (hc : ED X C W ρ c mc) (hm : lastMarks [f, f'] [b, c] = false := by with_unfolding_all rfl) : TD X C W ρ (.Compare a [f, f'] [b, c] pos) (chain ma mb mc F F') :=
  ⟨pt_imp (pt_chain (ho X C W ok) (ho' X C W ok) ha.pe hb.pe hc.pe hm) fun σ H Q h => chain_read (f := f) (f' := f') h⟩
theorem toD_tt {σ : L2.St} {H : Hp} {m : M Bool} {Q : VK} (h : tED C W ρ (toD m) σ H Q) : tTD C W ρ m σ H fun b H' => Q (.bl b) H' := by
  obtain ⟨g, w, e, o⟩ := h
  refine ⟨g, w, e, ?_⟩
  unfold toD M.bind at o
  cases hm : m g with
  | ok d g1 =>
    rw [hm] at o
    exact fun H1 x w1 => o (.bl d) H1 x w1 (.bl d)
  | exc c g1 =>
    rw [hm] at o
    exact o
  | bad =>
    rw [hm] at o
    exact o
theorem ed_chain {f f' : CmpOp} {F F' : D → D → Option Bool} {a b c : Expr} {ma mb mc : M D} (ho : OpB (compareOp f) F) (ho' : OpB (compareOp f') F') (ok : Cok X C W) (ha : ED X C W ρ a ma) (hb : ED X C W ρ b mb) (hc : ED X C W ρ c mc) (hm : lastMarks [f, f'] [b, c] = false := by with_unfolding_all rfl) : ED X C W ρ (.Compare a [f, f'] [b, c] pos) (toD (chain ma mb mc F F')) :=
  ⟨pe_imp (pe_chain (ho X C W ok) (ho' X C W ok) ha.pe hb.pe hc.pe hm) fun σ H Q h => by
    have h2 := chain_read (f := f) (f' := f') (toD_tt h)
    obtain ⟨g, w, e, o⟩ := h2
    refine ⟨g, w, e, ?_⟩
    cases hm : ma g with
    | bad => rw [hm] at o; exact o
    | exc c g1 => rw [hm] at o; exact o
    | ok d g1 =>
      rw [hm] at o
      intro v H1 x w1 r
      obtain ⟨g2, w2, e2, o2⟩ := o v H1 x w1 r
      refine ⟨g2, w2, e2, ?_⟩
      cases hm2 : mb g2 with
      | bad => rw [hm2] at o2; exact o2
      | exc c g1 => rw [hm2] at o2; exact o2
      | ok d2 g3 =>
        rw [hm2] at o2
        intro v2 H2 x2 w3 r2
        obtain ⟨a, b, z, k1, k2, k3, k, kk, q⟩ := o2 v2 H2 x2 w3 r2
        refine ⟨a, b, z, k1, k2, k3, k, kk, ?_⟩
        cases k with
        | false =>
          obtain ⟨k', e', q'⟩ := q
          cases e'
          exact q'
        | true =>
          obtain ⟨g4, w4, e4, o4⟩ := q
          refine ⟨g4, w4, e4, ?_⟩
          cases hm3 : mc g4 with
          | bad => rw [hm3] at o4; exact o4
          | exc c g1 => rw [hm3] at o4; exact o4
          | ok d3 g5 =>
            rw [hm3] at o4
            intro v3 H3 x3 w5 r3
            obtain ⟨a', b', z', j1, j2, j3, j, ej, q'⟩ := o4 v3 H3 x3 w5 r3
            cases ej
            exact ⟨a', b', z', j1, j2, j3, q'⟩⟩

/-! ### truth, not, and, or -/
def D.truth : D → Option Bool
  | .non => some false
  | .bl b => some b
  | .int i => some (i != 0)
  | .str s => if s.length ≤ 1000000 then some ((s.length : Int) != 0) else none
  | .lst l => some !l.isEmpty
  | .tup l => some !l.isEmpty
  | _ => none
theorem repl_empty {C : Cf} {H : Hp} {vs : List V} {ds : List D} (r : RepL C H vs ds) : (!ds.isEmpty) = !vs.isEmpty := by
  cases r <;> rfl
theorem line_ge {n : Nat} (h : n ≤ 1000000) : n ≤ sizeLine := by rw [sizeLine_eq]; omega
theorem Rep.truth {C : Cf} {H : Hp} {v : V} {d : D} {k : Bool} (r : Rep C H v d) (e : d.truth = some k) : TruV C.K v H k := by
  cases r with
  | non => cases e; rfl
  | bl b => cases e; rfl
  | int i => cases e; rfl
  | str s =>
    have e : (if s.length ≤ 1000000 then some ((s.length : Int) != 0) else none) = some k := e
    by_cases hs : s.length ≤ 1000000
    · rw [if_pos hs] at e
      cases e
      exact ⟨line_ge hs, rfl⟩
    · rw [if_neg hs] at e
      cases e
  | lst a b => cases e; exact .inl ⟨_, a.sq, repl_empty b⟩
  | tup a b => cases e; exact .inr (.inl ⟨_, a.sq, repl_empty b⟩)
  | _ => cases e
def tst (m : M D) : M Bool := M.bind m fun d => ofO d.truth
theorem td_val {a : Expr} {ma : M D} (ok : Cok X C W) (ha : ED X C W ρ a ma) (he : ∀ whole, isTrue a X.env whole = (do let v ← whole; standAt a.pos; holding [v] (truthy v)) := by intro _; rfl) : TD X C W ρ a (tst ma) :=
  ⟨pt_imp (pt_truth ha.pe he) fun σ H Q h => stepB h fun d v H1 g1 x w1 e1 r1 o1 => by
    cases ez : d.truth with
    | none => rw [ez] at o1; exact o1.elim
    | some z =>
      rw [ez] at o1
      refine ⟨z, ?_, o1 H1 (.refl C H1) w1⟩
      have q := r1.truth ez
      rw [ok.k]
      exact q⟩
theorem stepBB {σ : L2.St} {H : Hp} {m : M Bool} {k : Bool → M Bool} {Q P : Bool → Hp → Prop} (h : tTD C W ρ (M.bind m k) σ H Q)
    (c : ∀ b H1 g1, Ext C H H1 → WS C g1 H1 → Has C ρ σ H1 → OutB C H1 (k b g1) Q (xw C W σ) → P b H1) : tTD C W ρ m σ H P := by
  obtain ⟨g, w, e, o⟩ := h
  refine ⟨g, w, e, ?_⟩
  unfold M.bind at o
  cases hm : m g with
  | ok d g1 =>
    rw [hm] at o
    exact fun H1 x w1 => c d H1 g1 x w1 (e.ext x w.oat) (OutB.from (show OutB C H (k d g1) Q _ from o) x)
  | exc c g1 =>
    rw [hm] at o
    exact o
  | bad =>
    rw [hm] at o
    exact o
def notM (m : M Bool) : M Bool := M.bind m fun b => M.pure !b
def andM (m n : M Bool) : M Bool := M.bind m fun b => if b = true then n else M.pure false
def orM (m n : M Bool) : M Bool := M.bind m fun b => if b = true then M.pure true else n
theorem td_not {a : Expr} {ma : M Bool} (ha : TD X C W ρ a ma) : TD X C W ρ (.UnaryOp .Not a pos) (notM ma) :=
  ⟨pt_imp (pt_not ha.pt) fun σ H Q h => stepBB h fun b H1 g1 x w1 e1 o1 => o1 H1 (.refl C H1) w1⟩
theorem wd_and1 {a : Expr} {ma : M Bool} (ha : TD X C W ρ a ma) : WD X C W ρ (.BoolOp .And [a] pos) ma := ⟨pw_and1 ha.pt⟩
theorem wd_or1 {a : Expr} {ma : M Bool} (ha : TD X C W ρ a ma) : WD X C W ρ (.BoolOp .Or [a] pos) ma := ⟨pw_or1 ha.pt⟩
theorem wd_and {a b : Expr} {rest : List Expr} {ma mb : M Bool} (ha : TD X C W ρ a ma) (hb : WD X C W ρ (.BoolOp .And (b :: rest) pos) mb) : WD X C W ρ (.BoolOp .And (a :: b :: rest) pos) (andM ma mb) :=
  ⟨pw_imp (pw_and ha.pt hb.pw) fun σ H Q h => stepBB h fun b H1 g1 x w1 e1 o1 => by
    cases b with
    | true => exact ⟨g1, w1, e1, o1⟩
    | false => exact o1 H1 (.refl C H1) w1⟩
theorem wd_or {a b : Expr} {rest : List Expr} {ma mb : M Bool} (ha : TD X C W ρ a ma) (hb : WD X C W ρ (.BoolOp .Or (b :: rest) pos) mb) : WD X C W ρ (.BoolOp .Or (a :: b :: rest) pos) (orM ma mb) :=
  ⟨pw_imp (pw_or ha.pt hb.pw) fun σ H Q h => stepBB h fun b H1 g1 x w1 e1 o1 => by
    cases b with
    | false => exact ⟨g1, w1, e1, o1⟩
    | true => exact o1 H1 (.refl C H1) w1⟩
theorem td_w {e : Expr} {m : M Bool} (h : WD X C W ρ e m) : TD X C W ρ e m := ⟨h.pw.pt⟩
/-- as values -/
def andV (m n : M D) : M D := M.bind m fun a => M.bind (ofO a.truth) fun b => if b = true then n else M.pure a
def orV (m n : M D) : M D := M.bind m fun a => M.bind (ofO a.truth) fun b => if b = true then M.pure a else n
def notV (m : M D) : M D := M.bind m fun a => M.bind (ofO a.truth) fun b => M.pure (.bl !b)
theorem ed_one {op : BoolOp} {a : Expr} {ma : M D} (ha : ED X C W ρ a ma) : ED X C W ρ (.BoolOp op [a] pos) ma := ⟨pe_one ha.pe⟩
theorem ed_and {a b : Expr} {rest : List Expr} {ma mb : M D} (ok : Cok X C W) (ha : ED X C W ρ a ma) (hb : ED X C W ρ (.BoolOp .And (b :: rest) pos) mb) : ED X C W ρ (.BoolOp .And (a :: b :: rest) pos) (andV ma mb) :=
  ⟨pe_imp (pe_andT ha.pe hb.pe) fun σ H Q h => step1 h fun d v H1 g1 x w1 e1 r1 o1 => by
    cases ez : d.truth with
    | none => rw [ez] at o1; exact o1.elim
    | some z =>
      rw [ez] at o1
      refine ⟨z, by rw [ok.k]; exact r1.truth ez, ?_⟩
      cases z with
      | true => exact ⟨g1, w1, e1, o1⟩
      | false => exact o1 v H1 (.refl C H1) w1 r1⟩
theorem ed_or {a b : Expr} {rest : List Expr} {ma mb : M D} (ok : Cok X C W) (ha : ED X C W ρ a ma) (hb : ED X C W ρ (.BoolOp .Or (b :: rest) pos) mb) : ED X C W ρ (.BoolOp .Or (a :: b :: rest) pos) (orV ma mb) :=
  ⟨pe_imp (pe_orT ha.pe hb.pe) fun σ H Q h => step1 h fun d v H1 g1 x w1 e1 r1 o1 => by
    cases ez : d.truth with
    | none => rw [ez] at o1; exact o1.elim
    | some z =>
      rw [ez] at o1
      refine ⟨z, by rw [ok.k]; exact r1.truth ez, ?_⟩
      cases z with
      | false => exact ⟨g1, w1, e1, o1⟩
      | true => exact o1 v H1 (.refl C H1) w1 r1⟩
theorem ed_not {a : Expr} {ma : M D} (ok : Cok X C W) (ha : ED X C W ρ a ma) : ED X C W ρ (.UnaryOp .Not a pos) (notV ma) :=
  ⟨pe_imp (pe_notT ha.pe) fun σ H Q h => step1 h fun d v H1 g1 x w1 e1 r1 o1 => by
    cases ez : d.truth with
    | none => rw [ez] at o1; exact o1.elim
    | some z =>
      rw [ez] at o1
      exact ⟨z, by rw [ok.k]; exact r1.truth ez, o1 (.bl !z) H1 (.refl C H1) w1 (.bl !z)⟩⟩
def iteM {α : Type} (c : M Bool) (a b : M α) : M α := M.bind c fun k => if k = true then a else b
theorem ed_if {c a b : Expr} {mc : M Bool} {ma mb : M D} (hc : TD X C W ρ c mc) (ha : ED X C W ρ a ma) (hb : ED X C W ρ b mb) : ED X C W ρ (.IfExp c a b pos) (iteM mc ma mb) :=
  ⟨pe_imp (pe_ifExp hc.pt ha.pe hb.pe) fun σ H Q h => by
    obtain ⟨g, w, e, o⟩ := h
    refine ⟨g, w, e, ?_⟩
    unfold iteM M.bind at o
    cases hm : mc g with
    | bad => rw [hm] at o; exact o
    | exc c g1 => rw [hm] at o; exact o
    | ok z g1 =>
      rw [hm] at o
      intro H1 x w1
      cases z with
      | true => exact ⟨g1, w1, e.ext x w.oat, Out.from (show Out C H (ma g1) Q _ from o) x⟩
      | false => exact ⟨g1, w1, e.ext x w.oat, Out.from (show Out C H (mb g1) Q _ from o) x⟩⟩

/-! ### argument lists, displays -/
def seqM : List (M D) → M (List D)
  | [] => M.pure []
  | m :: ms => M.bind m fun d => M.bind (seqM ms) fun ds => M.pure (d :: ds)
theorem ld_nil : LD X C W ρ [] (seqM []) := ⟨pa_imp pa_nil fun σ H Q ⟨g, w, e, o⟩ => o [] H (.refl C H) w .nil⟩
theorem stepL {σ : L2.St} {H : Hp} {m : M D} {k : D → M (List D)} {Q : List V → Hp → Prop} {P : VK} (h : tLD C W ρ (M.bind m k) σ H Q)
    (c : ∀ d v H1 g1, Ext C H H1 → WS C g1 H1 → Has C ρ σ H1 → Rep C H1 v d → OutL C H1 (k d g1) Q (xw C W σ) → P v H1) : tED C W ρ m σ H P := by
  obtain ⟨g, w, e, o⟩ := h
  refine ⟨g, w, e, ?_⟩
  unfold M.bind at o
  cases hm : m g with
  | ok d g1 =>
    rw [hm] at o
    exact fun v H1 x w1 r => c d v H1 g1 x w1 (e.ext x w.oat) r (OutL.from (show OutL C H (k d g1) Q _ from o) x)
  | exc c g1 =>
    rw [hm] at o
    exact o
  | bad =>
    rw [hm] at o
    exact o
theorem stepLL {σ : L2.St} {H : Hp} {m : M (List D)} {k : List D → M (List D)} {Q P : List V → Hp → Prop} (h : tLD C W ρ (M.bind m k) σ H Q)
    (c : ∀ ds vs H1 g1, Ext C H H1 → WS C g1 H1 → Has C ρ σ H1 → RepL C H1 vs ds → OutL C H1 (k ds g1) Q (xw C W σ) → P vs H1) : tLD C W ρ m σ H P := by
  obtain ⟨g, w, e, o⟩ := h
  refine ⟨g, w, e, ?_⟩
  unfold M.bind at o
  cases hm : m g with
  | ok d g1 =>
    rw [hm] at o
    exact fun v H1 x w1 r => c d v H1 g1 x w1 (e.ext x w.oat) r (OutL.from (show OutL C H (k d g1) Q _ from o) x)
  | exc c g1 =>
    rw [hm] at o
    exact o
  | bad =>
    rw [hm] at o
    exact o
theorem stepLE {σ : L2.St} {H : Hp} {m : M (List D)} {k : List D → M D} {Q : VK} {P : List V → Hp → Prop} (h : tED C W ρ (M.bind m k) σ H Q)
    (c : ∀ ds vs H1 g1, Ext C H H1 → WS C g1 H1 → Has C ρ σ H1 → RepL C H1 vs ds → Out C H1 (k ds g1) Q (xw C W σ) → P vs H1) : tLD C W ρ m σ H P := by
  obtain ⟨g, w, e, o⟩ := h
  refine ⟨g, w, e, ?_⟩
  unfold M.bind at o
  cases hm : m g with
  | ok d g1 =>
    rw [hm] at o
    exact fun v H1 x w1 r => c d v H1 g1 x w1 (e.ext x w.oat) r (Out.from (show Out C H (k d g1) Q _ from o) x)
  | exc c g1 =>
    rw [hm] at o
    exact o
  | bad =>
    rw [hm] at o
    exact o
theorem ld_cons {a : Expr} {es : List Expr} {ma : M D} {ms : List (M D)} (ha : ED X C W ρ a ma) (hr : LD X C W ρ es (seqM ms)) (hs : starEach (a :: es) X.env = (false, eval a X.env) :: starEach es X.env := by rfl) : LD X C W ρ (a :: es) (seqM (ma :: ms)) :=
  ⟨pa_imp (pa_cons ha.pe hr.pa hs) fun σ H Q h => stepL h fun d v H1 g1 x w1 e1 r1 o1 => stepLL ⟨g1, w1, e1, o1⟩ fun ds vs H2 g2 x2 w2 e2 r2 o2 =>
    o2 (v :: vs) H2 (.refl C H2) w2 (.cons (Rep.ext x2 w1.oat d v r1) r2)⟩
def tupM (ms : List (M D)) : M D := M.bind (seqM ms) fun ds => if ds.length ≤ 1000 then M.pure (.tup ds) else bad
def lstM (ms : List (M D)) : M D := M.bind (seqM ms) fun ds => if ds.length ≤ 1000 then M.pure (.lst ds) else bad
theorem same_upd {H : Hp} {p : Addr} {o : HO} (h : H p = none) : Same H (upd H p o) := fun b x e => by
  rw [upd_ne (ne_of_none e h)]
  exact e
theorem new_lst {C : Cf} {H : Hp} {p : Addr} {vs : List V} {ds : List D} (np : H p = none) (oa : Oat C H) (r : RepL C H vs ds) : Rep C (upd H p (.lst vs)) (.ref p) (.lst ds) :=
  .lst ⟨oa.not np, upd_same⟩ (RepL.ext (.same (same_upd np)) oa ds vs r)
theorem new_tup {C : Cf} {H : Hp} {p : Addr} {vs : List V} {ds : List D} (np : H p = none) (oa : Oat C H) (r : RepL C H vs ds) : Rep C (upd H p (.tup vs)) (.ref p) (.tup ds) :=
  .tup (.inl ⟨oa.not np, upd_same⟩) (RepL.ext (.same (same_upd np)) oa ds vs r)
theorem ed_tup {es : List Expr} {ms : List (M D)} {k : Nat} (h : LD X C W ρ es (seqM ms)) : ED X C W ρ (.Tuple es k pos) (tupM ms) :=
  ⟨pe_imp (pe_tup h.pa) fun σ H Q hq => stepLE hq fun ds vs H1 g1 x w1 e1 r1 o1 => by
    by_cases hz : ds.length ≤ 1000
    · rw [if_pos hz] at o1
      refine ⟨by rw [r1.length]; exact line_ge (by omega), fun p hp => ?_⟩
      exact o1 _ _ (.same (same_upd hp)) (w1.same (same_upd hp)) (new_tup hp w1.oat r1)
    · rw [if_neg hz] at o1
      exact o1.elim⟩
theorem ed_lst {es : List Expr} {ms : List (M D)} (h : LD X C W ρ es (seqM ms)) : ED X C W ρ (.List es pos) (lstM ms) :=
  ⟨pe_imp (pe_lst h.pa) fun σ H Q hq => stepLE hq fun ds vs H1 g1 x w1 e1 r1 o1 => by
    by_cases hz : ds.length ≤ 1000
    · rw [if_pos hz] at o1
      refine ⟨by rw [r1.length]; exact line_ge (by omega), fun p hp => ?_⟩
      exact o1 _ _ (.same (same_upd hp)) (w1.same (same_upd hp)) (new_lst hp w1.oat r1)
    · rw [if_neg hz] at o1
      exact o1.elim⟩
theorem ed_dic0 : ED X C W ρ (.Dict [] [] pos) (M.pure (.dic [] [])) :=
  ⟨pe_imp pe_dnewT fun σ H Q ⟨g, w, e, o⟩ => fun p hp => o _ _ (.same (same_upd hp)) (w.same (same_upd hp)) (.dic0 (w.oat.not hp) (.inl upd_same))⟩

/-! ### calls -/
/-- the builtins' rule -/
def rCD (C : Cf) (F : List D → Option D) : List V → Hp → VK → Prop := fun vs H Q => ∃ ds d, RepL C H vs ds ∧ F ds = some d ∧ Oat C H ∧ ∀ v H', Same H H' → Rep C H' v d → Q v H'
def CallD (f : Value) (F : List D → Option D) : Prop := ∀ (X : Cx) (C : Cf) (W : WX), Cok X C W → CallR X f (rCD C F)
def appM (ms : List (M D)) (F : List D → Option D) : M D := M.bind (seqM ms) fun ds => ofO (F ds)
theorem callb_read {F : List D → Option D} {ms : List (M D)} {σ : L2.St} {H : Hp} {Q : VK} (h : tED C W ρ (appM ms F) σ H Q) : tCB (rCD C F) (tLD C W ρ (seqM ms)) σ H Q :=
  stepLE h fun ds vs H1 g1 x w1 e1 r1 o1 => by
    obtain ⟨d, ed, q⟩ := Out.ofO_some o1
    exact ⟨ds, d, r1, ed, w1.oat, fun v H2 s2 r2 => q v H2 (.same s2) (w1.same s2) r2⟩
theorem ed_callB {id : String} {F : List D → Option D} {x : Str} {e : Expr} {es : List Expr} {ms : List (M D)} {p : Pos} (hc : CallD (.builtin id) F) (ok : Cok X C W) (hm : X.mg x = none) (hv : bootBuiltins x = some (.builtin id)) (ha : LD X C W ρ (e :: es) (seqM ms)) (hg : Gl X x := by rfl) (hn : x ≠ "__name__" := by decide) (hdb : (x == ("__debug__" : Str)) = false := by decide) (he : starEach (e :: es) X.env = (false, eval e X.env) :: starEach es X.env := by rfl) (hpl : (backTo pos (starEach es X.env)).any (·.1) = false := by rfl) : ED X C W ρ (.Call (.Name x p) (e :: es) [] pos) (appM ms F) :=
  ⟨pe_imp (pe_callB (hc X C W ok) hg hm hv ha.pa hn hdb he hpl) fun σ H Q h => callb_read h⟩
theorem ed_callTy {T : String} {F : List D → Option D} {x : Str} {e : Expr} {es : List Expr} {ms : List (M D)} {p : Pos} (hc : CallD (.type T) F) (ok : Cok X C W) (hm : X.mg x = none) (hv : bootBuiltins x = some (.type T)) (ha : LD X C W ρ (e :: es) (seqM ms)) (hg : Gl X x := by rfl) (hn : x ≠ "__name__" := by decide) (hdb : (x == ("__debug__" : Str)) = false := by decide) (he : starEach (e :: es) X.env = (false, eval e X.env) :: starEach es X.env := by rfl) (hpl : (backTo pos (starEach es X.env)).any (·.1) = false := by rfl) : ED X C W ρ (.Call (.Name x p) (e :: es) [] pos) (appM ms F) :=
  ⟨pe_imp (pe_callTy (hc X C W ok) hg hm hv ha.pa hn hdb he hpl) fun σ H Q h => callb_read h⟩

/-- what a def of ours promises: mf of the arguments' data -/
def OutS (C : Cf) (H : Hp) (r : R D) (Q : VK) (E : XK) : Prop := Out C H r Q fun c H' => E (.ref (C.cls c)) none H'
def spM (K : PySem.W.Frag) (n : Nat) (mf : List D → M D) : Sp := fun vs H Q E => vs.length = n ∧ ∃ (C : Cf) (g : G) (ds : List D), C.K = K ∧ WS C g H ∧ RepL C H vs ds ∧ OutS C H (mf ds g) Q E
def callM (ms : List (M D)) (mf : List D → M D) : M D := M.bind (seqM ms) mf
theorem seqM_len : ∀ (ms : List (M D)) (g g1 : G) (ds : List D), seqM ms g = .ok ds g1 → ds.length = ms.length
  | [], g, g1, ds, h => by
    have h : R.ok [] g = R.ok ds g1 := h
    cases h
    rfl
  | m :: ms, g, g1, ds, h => by
    unfold seqM M.bind at h
    cases hm : m g with
    | bad => rw [hm] at h; cases h
    | exc c g2 => rw [hm] at h; cases h
    | ok d g2 =>
      rw [hm] at h
      have h : (seqM ms g2).bind (fun ds => M.pure (d :: ds)) = R.ok ds g1 := h
      cases hm2 : seqM ms g2 with
      | bad => rw [hm2] at h; cases h
      | exc c g2 => rw [hm2] at h; cases h
      | ok es g3 =>
        rw [hm2] at h
        have h : R.ok (d :: es) g3 = R.ok ds g1 := h
        cases h
        rw [List.length_cons, List.length_cons, seqM_len ms g2 _ es hm2]
theorem ed_call {k : Nat} {f : Addr} {fd : FuncData} {ps : List Str} {n : Nat} {mf : List D → M D} {x : Str} {j : Nat} {e : Expr} {es : List Expr} {ms : List (M D)} {p : Pos} (F : FnOk X.prog X.w X.K X.mg X.base (L2.CX X.prog X.w) k f fd ps (spM X.K n mf)) (hr : Room j X.A) (hm : X.mg x = some (.ref f)) (hk : PySem.W.keepIn X.K (.ref f) = true) (hb : Binds X.K fd ps []) (ok : Cok X C W) (ha : LD X C W ρ (e :: es) (seqM ms)) (hj : k ≤ j := by decide) (hn : ms.length = n := by rfl) (hg : Gl X x := by rfl) (hdb : (x == ("__debug__" : Str)) = false := by decide) (he : starEach (e :: es) X.env = (false, eval e X.env) :: starEach es X.env := by rfl) (hpl : (backTo pos (starEach es X.env)).any (·.1) = false := by rfl) :
    ED X C W ρ (.Call (.Name x p) (e :: es) [] pos) (callM ms mf) := by
  refine ⟨pe_imp (pe_callSD F (hr.mono hj) hg hm hk hb .nil ok.pas ha.pa hdb he hpl) fun σ H Q h => ?_⟩
  have hl : ∀ g ds g1, seqM ms g = .ok ds g1 → ds.length = n := fun g ds g1 e => (seqM_len ms g g1 ds e).trans hn
  obtain ⟨g, w, e, o⟩ := h
  refine ⟨g, w, e, ?_⟩
  unfold callM M.bind at o
  cases hq : seqM ms g with
  | bad => rw [hq] at o; exact o
  | exc c g1 => rw [hq] at o; exact o
  | ok ds g1 =>
    rw [hq] at o
    intro vs H1 x1 w1 r1
    refine ⟨by rw [List.append_nil, r1.length]; exact hl g ds g1 hq, C, g1, ds, ok.k.symm, w1, by rw [List.append_nil]; exact r1, ?_⟩
    exact Out.from (show Out C H (mf ds g1) Q _ from o) x1
end
end Tc

set_option Elab.async false
set_option linter.all false
set_option maxRecDepth 100000
set_option maxHeartbeats 4000000
namespace Tc
open PySem PySem.Spec PyProof.Rows L2

/-! ### the operators on data -/
def D.add : D → D → Option D
  | .int i, .int j => some (.int (i + j))
  | .tup a, .tup b => if a.length + b.length ≤ 1000000 then some (.tup (a ++ b)) else none
  | .lst a, .lst b => if a.length + b.length ≤ 1000000 then some (.lst (a ++ b)) else none
  | .str a, .str b => if a.length + b.length ≤ 1000000 then some (.str (a ++ b)) else none
  | _, _ => none
def D.sub : D → D → Option D
  | .int i, .int j => some (.int (i - j))
  | _, _ => none
def D.mul : D → D → Option D
  | .int i, .int j => if i.natAbs.log2 + j.natAbs.log2 < 1000000 then some (.int (i * j)) else none
  | .lst a, .int k => if k ≤ 1000 ∧ -1000 ≤ k ∧ a.length ≤ 1000 then some (.lst (List.replicate k.toNat a).flatten) else none
  | .tup a, .int k => if 2 ≤ k ∧ k ≤ 1000 ∧ a.length ≤ 1000 then some (.tup (List.replicate k.toNat a).flatten) else none
  | _, _ => none
def D.fdiv : D → D → Option D
  | .int i, .int j => if 0 < j ∧ j.natAbs.log2 < 9000 then some (.int (i / j)) else none
  | _, _ => none
def D.mod : D → D → Option D
  | .int i, .int j => if 0 < j then some (.int (i % j)) else none
  | _, _ => none
def D.pow : D → D → Option D
  | .int i, .int j => if 0 ≤ j ∧ j ≤ 1000000 ∧ i.natAbs < 2 ^ 64 then some (.int (i ^ j.toNat)) else none
  | _, _ => none
def D.shl : D → D → Option D
  | .int i, .int j => if 0 ≤ j ∧ j ≤ 1000000 ∧ i.natAbs < 2 ^ 64 then some (.int (i * 2 ^ j.toNat)) else none
  | _, _ => none
theorem ite_some {α : Type} {p : Prop} [Decidable p] {a b : α} (h : (if p then some a else none) = some b) : p ∧ a = b := by
  by_cases q : p
  · rw [if_pos q] at h
    exact ⟨q, Option.some.inj h⟩
  · rw [if_neg q] at h
    cases h
theorem tup_mul_empty {X : Cx} {pins : List (Addr × Obj)} {σ : L2.St} {H : Hp} {s : Shared} {l : Addr} {k : Int} {t : Tok} {Q : VK} (I : Inv X pins σ H s) (hT : SqT X.K H l []) (h1 : 2 ≤ k) (h2 : k ≤ 1000) (q : Q (.ref l) H) :
    wpAny (model X.prog X.w) X.A (binaryOp .Mult (.ref l) (.int k t)) (EP X pins σ Q) X.xe s := by
  obtain ⟨its, r, ⟨⟨cls, dd, data, sl⟩, ho, hc, n, hd⟩, hs⟩ := I.tuple hT
  simp only at hc hd
  subst hc hd
  cases r
  have hm : Meets (Builtin.«tuple.__mul__» ⟨[.ref l, .int k t], []⟩) (fun _ R s => s.heap.get? l = some { cls := .type "tuple", dict := dd, data := .seq #[] n, slots := sl } ∧ R (.ok (.ret (Value.ref l))) s) :=
    .of_wp fun prog w A R s h => by
      obtain ⟨hp, g, d, tk, os⟩ := s
      obtain ⟨hl, h⟩ := h
      have f1 := AutoSeq1.idx_int
      wp_walk using wpAny_loadPart' hl
      repeat (first
        | (refine wpAny_ite_false (decide_eq_false (by rw [decide_eq_false (by omega), decide_eq_false (by omega)]; exact Bool.false_ne_true)) ?_; wp_walk using wpAny_loadPart' hl)
        | (refine wpAny_ite_true (decide_eq_true (by rfl)) ?_; wp_walk using wpAny_loadPart' hl))
      all_goals exact ⟨_, rfl, h⟩
  refine wpAny_binaryOp_repeat_ref (T := "tuple") (U := "int") (by decide) ⟨_, ho, rfl⟩ (fun s' => typeIs_int s' k t) noFill_tuple_mul F.fills_int_mul F.slot_int_rmul repeat_tuple F.slot_int_index.lookup
    (call_meets F.slot_int_rmul (typeIs_int s k t) F.entry_int_rmul (F.args_int_rmul_2 _ _) (int_rmul_tuple k t l #[] n dd sl)
      ⟨ho, rfl, ⟨_, ho, rfl⟩, call_meets F.slot_tuple_mul ⟨_, ho, rfl⟩ F.entry_tuple_mul (F.args_tuple_mul_2 _ _) hm ⟨ho, ?_⟩⟩)
  exact ⟨.ref l, H, I, rfl, q⟩

theorem repl_nil {C : Cf} {H : Hp} {vs : List V} (r : RepL C H vs []) : vs = [] := by cases r; rfl
theorem repl_nil_iff {C : Cf} {H : Hp} {vs : List V} {ds : List D} (r : RepL C H vs ds) : vs = [] ↔ ds = [] := by
  cases r with
  | nil => simp
  | cons _ _ => simp
theorem opd_add : OpD (binaryOp .Add) D.add := by
  intro X C W ok pins s σ H x y v u Q I rx ry h
  obtain ⟨a, b, d, ra, rb, e, oa, q⟩ := h
  cases ra with
  | int i =>
    cases rb with
    | int j =>
      cases e
      exact op_add pins s σ H _ _ v u Q I rx ry ⟨i, j, rfl, rfl, q _ H (.refl H) (.int _)⟩
    | _ => cases e
  | str i =>
    cases rb with
    | str j =>
      obtain ⟨hz, e⟩ := ite_some e
      subst e
      exact op_add_str pins s σ H _ _ v u Q I rx ry ⟨i, j, rfl, rfl, line_ge hz, q _ H (.refl H) (.str _)⟩
    | _ => cases e
  | @lst p xs as hp ha =>
    cases rb with
    | @lst p2 ys bs hp2 hb =>
      obtain ⟨hz, e⟩ := ite_some e
      subst e
      refine op_cat pins s σ H _ _ v u Q I rx ry ⟨p, p2, xs, ys, rfl, rfl, hp.2, hp2.2, by rw [ha.length, hb.length]; exact line_ge hz, fun l hl => ?_⟩
      exact q _ _ (same_upd hl) (new_lst hl oa (ha.append hb))
    | _ => cases e
  | @tup p xs as hp ha =>
    cases rb with
    | @tup p2 ys bs hp2 hb =>
      obtain ⟨hz, e⟩ := ite_some e
      subst e
      refine op_catA pins s σ H _ _ v u Q I rx ry ⟨p, p2, xs, ys, rfl, rfl, hp.sqX ok.k, hp2.sqX ok.k, by rw [ha.length, hb.length]; exact line_ge hz, fun z => ?_, fun z1 z2 => ?_, fun z1 z2 l hl => ?_⟩
      · have z' := (repl_nil_iff ha).mp z
        subst z'
        exact q _ H (.refl H) (.tup hp2 hb)
      · have z' := (repl_nil_iff hb).mp z2
        subst z'
        rw [List.append_nil] at q
        exact q _ H (.refl H) (.tup hp ha)
      · exact q _ _ (same_upd hl) (new_tup hl oa (ha.append hb))
    | _ => cases e
  | _ => cases e
theorem opd_sub : OpD (binaryOp .Sub) D.sub := by
  intro X C W ok pins s σ H x y v u Q I rx ry h
  obtain ⟨a, b, d, ra, rb, e, oa, q⟩ := h
  cases ra with
  | int i =>
    cases rb with
    | int j =>
      cases e
      exact op_sub pins s σ H _ _ v u Q I rx ry ⟨i, j, rfl, rfl, q _ H (.refl H) (.int _)⟩
    | _ => cases e
  | _ => cases e
theorem opd_mul : OpD (binaryOp .Mult) D.mul := by
  intro X C W ok pins s σ H x y v u Q I rx ry h
  obtain ⟨a, b, d, ra, rb, e, oa, q⟩ := h
  cases ra with
  | int i =>
    cases rb with
    | int j =>
      obtain ⟨hz, e⟩ := ite_some e
      subst e
      exact op_mulW pins s σ H _ _ v u Q I rx ry ⟨i, j, rfl, rfl, hz, q _ H (.refl H) (.int _)⟩
    | _ => cases e
  | @lst p xs as hp ha =>
    cases rb with
    | int k =>
      obtain ⟨⟨h1, h2, h3⟩, e⟩ := ite_some e
      subst e
      have hl := ha.length
      refine op_rep pins s σ H _ _ v u Q I rx ry ⟨p, k, xs, rfl, rfl, hp.2, by omega, by omega, ?_, fun l hl => ?_⟩
      · have a1 : xs.length * k.toNat ≤ 1000 * 1000 := Nat.mul_le_mul (by omega) (by omega)
        exact line_ge (by omega)
      · exact q _ _ (same_upd hl) (new_lst hl oa (ha.rep _))
    | _ => cases e
  | @tup p xs as hp ha =>
    cases rb with
    | int k =>
      obtain ⟨⟨h1, h2, h3⟩, e⟩ := ite_some e
      subst e
      have hl := ha.length
      by_cases hx : xs = []
      · subst hx
        have z := (repl_nil_iff ha).mp rfl
        subst z
        cases rx
        obtain ⟨t, rfl⟩ := ry
        have ez : (List.replicate k.toNat ([] : List D)).flatten = [] := by simp
        rw [ez] at q
        exact tup_mul_empty I (hp.sqX ok.k) h1 h2 (q _ H (.refl H) (.tup hp .nil))
      · exact op_repT pins s σ H _ _ v u Q I rx ry ⟨p, k, xs, rfl, rfl, hp.sqX ok.k, hx, h1, h2, by omega, fun l hl => q _ _ (same_upd hl) (new_tup hl oa (ha.rep _))⟩
    | _ => cases e
  | _ => cases e
theorem opd_fdiv : OpD (binaryOp .FloorDiv) D.fdiv := by
  intro X C W ok pins s σ H x y v u Q I rx ry h
  obtain ⟨a, b, d, ra, rb, e, oa, q⟩ := h
  cases ra with
  | int i =>
    cases rb with
    | int j =>
      obtain ⟨hz, e⟩ := ite_some e
      subst e
      exact op_fdivW pins s σ H _ _ v u Q I rx ry ⟨i, j, rfl, rfl, hz, q _ H (.refl H) (.int _)⟩
    | _ => cases e
  | _ => cases e
theorem opd_mod : OpD (binaryOp .Mod) D.mod := by
  intro X C W ok pins s σ H x y v u Q I rx ry h
  obtain ⟨a, b, d, ra, rb, e, oa, q⟩ := h
  cases ra with
  | int i =>
    cases rb with
    | int j =>
      obtain ⟨hz, e⟩ := ite_some e
      subst e
      exact op_mod pins s σ H _ _ v u Q I rx ry ⟨i, j, rfl, rfl, hz, q _ H (.refl H) (.int _)⟩
    | _ => cases e
  | _ => cases e
theorem opd_pow : OpD (binaryOp .Pow) D.pow := by
  intro X C W ok pins s σ H x y v u Q I rx ry h
  obtain ⟨a, b, d, ra, rb, e, oa, q⟩ := h
  cases ra with
  | int i =>
    cases rb with
    | int j =>
      obtain ⟨⟨h1, h2, h3⟩, e⟩ := ite_some e
      subst e
      exact op_pow pins s σ H _ _ v u Q I rx ry ⟨i, j, rfl, rfl, ⟨h1, h2, h3⟩, q _ H (.refl H) (.int _)⟩
    | _ => cases e
  | _ => cases e
theorem opd_shl : OpD (binaryOp .LShift) D.shl := by
  intro X C W ok pins s σ H x y v u Q I rx ry h
  obtain ⟨a, b, d, ra, rb, e, oa, q⟩ := h
  cases ra with
  | int i =>
    cases rb with
    | int j =>
      obtain ⟨⟨h1, h2, h3⟩, e⟩ := ite_some e
      subst e
      exact op_shl pins s σ H _ _ v u Q I rx ry ⟨i, j, rfl, rfl, ⟨h1, h2, h3⟩, q _ H (.refl H) (.int _)⟩
    | _ => cases e
  | _ => cases e
section
variable {X : Cx} {C : Cf} {W : WX} {ρ : Rho} {pos : Pos}
def D.neg : D → Option D
  | .int i => some (.int (-i))
  | _ => none
def negM (m : M D) : M D := M.bind m fun d => ofO d.neg
theorem ed_neg {a : Expr} {ma : M D} (ha : ED X C W ρ a ma) : ED X C W ρ (.UnaryOp .USub a pos) (negM ma) :=
  ⟨pe_imp (pe_un un_neg ha.pe) fun σ H Q h => step1 h fun d v H1 g1 x w1 e1 r1 o1 => by
    cases r1 with
    | int i => exact ⟨i, rfl, o1 _ H1 (.refl C H1) w1 (.int _)⟩
    | _ => exact o1.elim⟩
end

/-! ### comparisons -/
def D.eq (a b : D) : Option Bool := match a.py, b.py with
  | some p, some q => if SeqAt.shaped p && SeqAt.shaped q then some (PyData.eqv p q) else none
  | _, _ => none
def D.ne (a b : D) : Option Bool := (D.eq a b).map not
theorem eq_some {a b : D} {k : Bool} (h : D.eq a b = some k) : ∃ p q, a.py = some p ∧ b.py = some q ∧ SeqAt.shaped p = true ∧ SeqAt.shaped q = true ∧ PyData.eqv p q = k := by
  unfold D.eq at h
  cases ha : a.py with
  | none => rw [ha] at h; cases h
  | some p =>
    cases hb : b.py with
    | none => rw [ha, hb] at h; cases h
    | some q =>
      rw [ha, hb] at h
      obtain ⟨h1, h2⟩ := ite_some h
      rw [Bool.and_eq_true] at h1
      exact ⟨p, q, rfl, rfl, h1.1, h1.2, h2⟩
theorem opb_eq : OpB (compareOp .Eq) D.eq := by
  intro X C W ok pins s σ H x y v u Q I rx ry h
  obtain ⟨a, b, d, ra, rb, e, q⟩ := h
  obtain ⟨p, p', e1, e2, s1, s2, rfl⟩ := eq_some e
  exact op_eqD (by have := ok.un; omega) pins s σ H x y v u Q I rx ry ⟨p, p', by rw [ok.k]; exact Rep.dp a x p ra e1, by rw [ok.k]; exact Rep.dp b y p' rb e2, s1, s2, q⟩
theorem opb_ne : OpB (compareOp .NotEq) D.ne := by
  intro X C W ok pins s σ H x y v u Q I rx ry h
  obtain ⟨a, b, d, ra, rb, e, q⟩ := h
  unfold D.ne at e
  cases e0 : D.eq a b with
  | none => rw [e0] at e; cases e
  | some k =>
    rw [e0] at e
    cases e
    obtain ⟨p, p', e1, e2, s1, s2, rfl⟩ := eq_some e0
    exact op_neD (by have := ok.un; omega) pins s σ H x y v u Q I rx ry ⟨p, p', by rw [ok.k]; exact Rep.dp a x p ra e1, by rw [ok.k]; exact Rep.dp b y p' rb e2, s1, s2, q⟩
/-- the two can be compared -/
def notNone : PyData → Bool
  | .none => false
  | _ => true
def ordP (a b : D) : Option (PyData × PyData) := match a.py, b.py with
  | some p, some q => if (PySem.W.alike p q && decide (p.depth ≤ 64) && notNone p) = true then some (p, q) else none
  | _, _ => none
theorem ordP_some {a b : D} {p q : PyData} (h : ordP a b = some (p, q)) : a.py = some p ∧ b.py = some q ∧ PySem.W.alike p q = true ∧ p.depth ≤ 64 ∧ p ≠ .none := by
  unfold ordP at h
  cases ha : a.py with
  | none => rw [ha] at h; cases h
  | some p =>
    cases hb : b.py with
    | none => rw [ha, hb] at h; cases h
    | some q =>
      rw [ha, hb] at h
      obtain ⟨h1, h2⟩ := ite_some h
      cases h2
      rw [Bool.and_eq_true, Bool.and_eq_true, decide_eq_true_eq] at h1
      refine ⟨rfl, rfl, h1.1.1, h1.1.2, ?_⟩
      intro z
      have h3 := h1.2
      rw [z] at h3
      cases h3
def D.lt (a b : D) : Option Bool := (ordP a b).map fun x => PySem.W.dataLt x.1 x.2
def D.gt (a b : D) : Option Bool := (ordP a b).map fun x => PySem.W.dataLt x.2 x.1
def D.le (a b : D) : Option Bool := (ordP a b).map fun x => !PySem.W.dataLt x.2 x.1
def D.ge (a b : D) : Option Bool := (ordP a b).map fun x => !PySem.W.dataLt x.1 x.2
theorem ord_reads {X : Cx} {C : Cf} {W : WX} (ok : Cok X C W) {pins : List (Addr × Obj)} {σ : L2.St} {H : Hp} {s : Shared} {x y : V} {v u : Value} {a b : D} {p q : PyData} (I : Inv X pins σ H s) (rx : RelV x v) (ry : RelV y u) (ra : Rep C H x a) (rb : Rep C H y b) (h : ordP a b = some (p, q)) :
    ∃ as bs, Reads s.heap v p as ∧ Reads s.heap u q bs ∧ PySem.W.alike p q = true ∧ p ≠ .none ∧ X.A.units + min p.depth q.depth < cLine := by
  obtain ⟨e1, e2, h1, h2, h3⟩ := ordP_some h
  have d1 : Dp X.K H x p := by rw [ok.k]; exact Rep.dp a x p ra e1
  have d2 : Dp X.K H y q := by rw [ok.k]; exact Rep.dp b y q rb e2
  obtain ⟨as, r1⟩ := Dp.reads I p x v d1 rx
  obtain ⟨bs, r2⟩ := Dp.reads I q y u d2 ry
  have := ok.un
  have := Nat.min_le_left p.depth q.depth
  exact ⟨as, bs, r1, r2, h1, h3, by omega⟩
theorem opb_lt : OpB (compareOp .Lt) D.lt := by
  intro X C W ok pins s σ H x y v u Q I rx ry h
  obtain ⟨a, b, d, ra, rb, e, q⟩ := h
  obtain ⟨⟨p, p'⟩, e0, rfl⟩ := Option.map_eq_some_iff.mp e
  obtain ⟨as, bs, r1, r2, h1, h3, hu⟩ := ord_reads ok I rx ry ra rb e0
  exact PySem.W.lt_data r1 r2 h1 h3 hu ⟨.bl _, H, I, rfl, q⟩
theorem opb_gt : OpB (compareOp .Gt) D.gt := by
  intro X C W ok pins s σ H x y v u Q I rx ry h
  obtain ⟨a, b, d, ra, rb, e, q⟩ := h
  obtain ⟨⟨p, p'⟩, e0, rfl⟩ := Option.map_eq_some_iff.mp e
  obtain ⟨as, bs, r1, r2, h1, h3, hu⟩ := ord_reads ok I rx ry ra rb e0
  exact PySem.W.gt_data r1 r2 h1 h3 hu ⟨.bl _, H, I, rfl, q⟩
theorem opb_le : OpB (compareOp .LtE) D.le := by
  intro X C W ok pins s σ H x y v u Q I rx ry h
  obtain ⟨a, b, d, ra, rb, e, q⟩ := h
  obtain ⟨⟨p, p'⟩, e0, rfl⟩ := Option.map_eq_some_iff.mp e
  obtain ⟨as, bs, r1, r2, h1, h3, hu⟩ := ord_reads ok I rx ry ra rb e0
  exact PySem.W.le_data r1 r2 h1 h3 hu ⟨.bl _, H, I, rfl, q⟩
theorem opb_ge : OpB (compareOp .GtE) D.ge := by
  intro X C W ok pins s σ H x y v u Q I rx ry h
  obtain ⟨a, b, d, ra, rb, e, q⟩ := h
  obtain ⟨⟨p, p'⟩, e0, rfl⟩ := Option.map_eq_some_iff.mp e
  obtain ⟨as, bs, r1, r2, h1, h3, hu⟩ := ord_reads ok I rx ry ra rb e0
  exact PySem.W.ge_data r1 r2 h1 h3 hu ⟨.bl _, H, I, rfl, q⟩
/-- x in c -/
def D.isin (x c : D) : Option Bool := match x.py, c with
  | some p, .lst l => (D.pyL l).bind fun ps => if SeqAt.shaped p && SeqAt.shaped (.list ps) then some (ps.any fun z => PyData.eqv z p) else none
  | some p, .tup l => (D.pyL l).bind fun ps => if SeqAt.shaped p && SeqAt.shaped (.list ps) then some (ps.any fun z => PyData.eqv z p) else none
  | _, _ => none
def D.notin (x c : D) : Option Bool := (D.isin x c).map not
theorem shaped_tup (ps : List PyData) : SeqAt.shaped (.tuple ps) = SeqAt.shaped (.list ps) := by
  unfold SeqAt.shaped
  simp [PyData.canLay0, PyData.depth]
theorem isin_some {x c : D} {k : Bool} (h : D.isin x c = some k) : ∃ p ps, x.py = some p ∧ SeqAt.shaped p = true ∧ SeqAt.shaped (.list ps) = true ∧ (ps.any fun z => PyData.eqv z p) = k ∧ ((∃ l, c = .lst l ∧ D.pyL l = some ps) ∨ ∃ l, c = .tup l ∧ D.pyL l = some ps) := by
  unfold D.isin at h
  cases hx : x.py with
  | none =>
    rw [hx] at h
    cases h
  | some p =>
    rw [hx] at h
    cases c with
    | lst l =>
      obtain ⟨ps, e1, e2⟩ := Option.bind_eq_some_iff.mp h
      obtain ⟨h1, h2⟩ := ite_some e2
      rw [Bool.and_eq_true] at h1
      exact ⟨p, ps, rfl, h1.1, h1.2, h2, .inl ⟨l, rfl, e1⟩⟩
    | tup l =>
      obtain ⟨ps, e1, e2⟩ := Option.bind_eq_some_iff.mp h
      obtain ⟨h1, h2⟩ := ite_some e2
      rw [Bool.and_eq_true] at h1
      exact ⟨p, ps, rfl, h1.1, h1.2, h2, .inr ⟨l, rfl, e1⟩⟩
    | _ => cases h
theorem py_lst {l : List D} {ps : List PyData} (h : D.pyL l = some ps) : D.py (.lst l) = some (.list ps) := by unfold D.py; rw [h]; rfl
theorem py_tup {l : List D} {ps : List PyData} (h : D.pyL l = some ps) : D.py (.tup l) = some (.tuple ps) := by unfold D.py; rw [h]; rfl
theorem room_in {ps : List PyData} {p : PyData} {u : Nat} (hs : SeqAt.shaped p = true) (hu : u + 80 < cLine) : u + 1 + min (PyData.depthAll ps) p.depth < cLine := by
  have h1 := SeqAt.depth_of_shaped hs
  have h2 : min (PyData.depthAll ps) p.depth ≤ p.depth := Nat.min_le_right _ _
  omega
theorem opb_in : OpB (compareOp .In) D.isin := by
  intro X C W ok pins s σ H x y v u Q I rx ry h
  obtain ⟨a, b, d, ra, rb, e, q⟩ := h
  obtain ⟨p, ps, e1, s1, s2, rfl, hc⟩ := isin_some e
  have d1 : Dp X.K H x p := by rw [ok.k]; exact Rep.dp a x p ra e1
  obtain ⟨as, r1⟩ := Dp.reads I p x v d1 rx
  rcases hc with ⟨l, rfl, e2⟩ | ⟨l, rfl, e2⟩
  · have d2 : Dp X.K H y (.list ps) := by rw [ok.k]; exact Rep.dp _ y _ rb (py_lst e2)
    obtain ⟨bs, r2⟩ := Dp.reads I (.list ps) y u d2 ry
    exact SeqAt.in_list_reads r2 r1 (SeqAt.canLay_of_shaped s2) (SeqAt.canLay_of_shaped s1) (room_in s1 ok.un) ⟨.bl _, H, I, rfl, q⟩
  · have d2 : Dp X.K H y (.tuple ps) := by rw [ok.k]; exact Rep.dp _ y _ rb (py_tup e2)
    obtain ⟨bs, r2⟩ := Dp.reads I (.tuple ps) y u d2 ry
    exact SeqAt.in_tuple_reads r2 r1 (SeqAt.canLay_of_shaped s2) (SeqAt.canLay_of_shaped s1) (room_in s1 ok.un) ⟨.bl _, H, I, rfl, q⟩
theorem opb_notin : OpB (compareOp .NotIn) D.notin := by
  intro X C W ok pins s σ H x y v u Q I rx ry h
  obtain ⟨a, b, d, ra, rb, e, q⟩ := h
  obtain ⟨k, e0, rfl⟩ := Option.map_eq_some_iff.mp e
  obtain ⟨p, ps, e1, s1, s2, rfl, hc⟩ := isin_some e0
  have d1 : Dp X.K H x p := by rw [ok.k]; exact Rep.dp a x p ra e1
  obtain ⟨as, r1⟩ := Dp.reads I p x v d1 rx
  rcases hc with ⟨l, rfl, e2⟩ | ⟨l, rfl, e2⟩
  · have d2 : Dp X.K H y (.list ps) := by rw [ok.k]; exact Rep.dp _ y _ rb (py_lst e2)
    obtain ⟨bs, r2⟩ := Dp.reads I (.list ps) y u d2 ry
    exact SeqAt.notIn_list_reads r2 r1 (SeqAt.canLay_of_shaped s2) (SeqAt.canLay_of_shaped s1) (room_in s1 ok.un) ⟨.bl _, H, I, rfl, q⟩
  · have d2 : Dp X.K H y (.tuple ps) := by rw [ok.k]; exact Rep.dp _ y _ rb (py_tup e2)
    obtain ⟨bs, r2⟩ := Dp.reads I (.tuple ps) y u d2 ry
    exact SeqAt.notIn_tuple_reads r2 r1 (SeqAt.canLay_of_shaped s2) (SeqAt.canLay_of_shaped s1) (room_in s1 ok.un) ⟨.bl _, H, I, rfl, q⟩
/-- is, is not: None on the right, or two truths, or a truth against any other datum -/
def D.is (a b : D) : Option Bool := match b with
  | .non => match a with
    | .non => some true
    | .bl _ => some false | .int _ => some false | .str _ => some false | .lst _ => some false | .tup _ => some false
    | _ => none
  | .bl k => match a with
    | .bl j => some (decide (j = k))
    | _ => none
  | _ => none
def D.isnot (a b : D) : Option Bool := (D.is a b).map not
theorem opb_is : OpB (compareOp .Is) D.is := by
  intro X C W ok pins s σ H x y v u Q I rx ry h
  obtain ⟨a, b, d, ra, rb, e, q⟩ := h
  cases rb with
  | non =>
    refine op_isN pins s σ H x _ v u Q I rx ry ⟨rfl, ?_⟩
    cases ra <;> first
      | (cases e; exact q)
      | cases e
  | bl k =>
    cases ra with
    | bl j =>
      cases e
      exact op_isBl pins s σ H _ _ v u Q I rx ry ⟨j, k, rfl, rfl, q⟩
    | _ => cases e
  | _ => cases e
theorem opb_isnot : OpB (compareOp .IsNot) D.isnot := by
  intro X C W ok pins s σ H x y v u Q I rx ry h
  obtain ⟨a, b, d, ra, rb, e, q⟩ := h
  obtain ⟨k0, e0, rfl⟩ := Option.map_eq_some_iff.mp e
  cases rb with
  | non =>
    refine op_notN pins s σ H x _ v u Q I rx ry ⟨rfl, ?_⟩
    cases ra <;> first
      | (have e' := Option.some.inj (show some _ = some k0 from e0)
         subst e'
         exact q)
      | (have e' : none = some k0 := e0
         cases e')
  | bl k =>
    cases ra with
    | bl j =>
      have e' : decide (j = k) = k0 := Option.some.inj e0
      subst e'
      exact op_notBl pins s σ H _ _ v u Q I rx ry ⟨j, k, rfl, rfl, q⟩
    | _ => exact absurd (show none = some k0 from e0) (by simp)
  | _ => exact absurd (show none = some k0 from e0) (by simp)
end Tc

set_option Elab.async false
set_option linter.all false
set_option maxRecDepth 100000
set_option maxHeartbeats 4000000
namespace Tc
open PySem PySem.Spec PyProof.Rows L2

/-! ### subscripts -/
theorem atI_rep {C : Cf} {H : Hp} {vs : List V} {ds : List D} {i : Int} {d : D} (r : RepL C H vs ds) (e : atI ds i = some d) : ∃ v, atI vs i = some v ∧ Rep C H v d := by
  unfold atI at e ⊢
  rw [r.length]
  cases h : ixN ds.length i with
  | none => rw [h] at e; cases e
  | some j =>
    rw [h] at e
    exact r.getD e
theorem atI_map {α β : Type} (f : α → β) (l : List α) (i : Int) : atI (l.map f) i = (atI l i).map f := by
  unfold atI
  rw [List.length_map]
  cases h : ixN l.length i with
  | none => rfl
  | some j => exact List.getElem?_map ..
def D.atM (a i : D) : M D := match a, i with
  | .lst l, .int i => ofO (atI l i)
  | .tup l, .int i => ofO (atI l i)
  | .scr l, .int i => ofO ((atI l i).map D.int)
  | .hnd n, .int i => fun g => match (g[n]? : Option (List D)) with
    | some l => match atI l i with
      | some d => .ok d g
      | none => .bad
    | none => .bad
  | _, _ => bad
def idxM (ma mb : M D) : M D := M.bind ma fun a => M.bind mb fun b => D.atM a b
def rAt (C : Cf) : R2 := fun x y H Q => ∃ (Y : Nat → Hp → Prop) (g : G) (a b : D), WS C g H ∧ Rep C H x a ∧ Rep C H y b ∧ Out C H (D.atM a b g) Q Y
theorem ix_at {X : Cx} {C : Cf} {W : WX} (ok : Cok X C W) : IxR X (rAt C) := by
  intro value slice pins s σ H x y v u Q I rx ry h hs
  obtain ⟨Y, g, a, b, w, ra, rb, o⟩ := h
  cases rb with
  | int i =>
    cases ra with
    | @lst p xs ds hp hd =>
      obtain ⟨d, ed, q⟩ := Out.ofO_some o
      obtain ⟨z, ez, rz⟩ := atI_rep hd ed
      exact ix_list value slice pins s σ H _ _ v u Q I rx ry ⟨p, xs, i, z, rfl, rfl, hp.sqX ok.k, ez, q z H (.refl C H) w rz⟩ hs
    | @tup p xs ds hp hd =>
      obtain ⟨d, ed, q⟩ := Out.ofO_some o
      obtain ⟨z, ez, rz⟩ := atI_rep hd ed
      exact ix_tup value slice pins s σ H _ _ v u Q I rx ry ⟨p, xs, i, z, rfl, rfl, hp.sqX ok.k, ez, q z H (.refl C H) w rz⟩ hs
    | @scr p ns hp =>
      obtain ⟨d, ed, q⟩ := Out.ofO_some o
      obtain ⟨n, en, ed⟩ := Option.map_eq_some_iff.mp ed
      subst ed
      refine ix_list value slice pins s σ H _ _ v u Q I rx ry ⟨p, ns.map V.int, i, .int n, rfl, rfl, hp.sqX ok.k, ?_, q _ H (.refl C H) w (.int n)⟩ hs
      rw [atI_map, en]
      rfl
    | @hnd p n hp =>
      obtain ⟨ds, vs, e1, e2, e3⟩ := w.con n p hp
      have o : Out C H (match (g[n]? : Option (List D)) with
        | some l => match atI l i with
          | some d => .ok d g
          | none => .bad
        | none => .bad) Q Y := o
      rw [e1] at o
      cases ed : atI ds i with
      | none => simp only [ed] at o; exact o.elim
      | some d =>
        simp only [ed] at o
        obtain ⟨z, ez, rz⟩ := atI_rep e3 ed
        exact ix_list value slice pins s σ H _ _ v u Q I rx ry ⟨p, vs, i, z, rfl, rfl, .inl (.inl e2), ez, o z H (.refl C H) w rz⟩ hs
    | _ => exact o.elim
  | _ => cases ra <;> exact o.elim
section
variable {X : Cx} {C : Cf} {W : WX} {ρ : Rho} {pos : Pos}
theorem ed_ix {a b : Expr} {ma mb : M D} (ok : Cok X C W) (ha : ED X C W ρ a ma) (hb : ED X C W ρ b mb) (hs : PlainIx b := by exact fun _ _ => rfl) : ED X C W ρ (.Subscript a b pos) (idxM ma mb) :=
  ⟨pe_imp (pe_ix (ix_at ok) ha.pe hb.pe hs) fun σ H Q h => step1 h fun d v H1 g1 x w1 e1 r1 o1 => step1 ⟨g1, w1, e1, o1⟩ fun d2 v2 H2 g2 x2 w2 e2 r2 o2 =>
    ⟨_, g2, d, d2, w2, Rep.ext x2 w1.oat d v r1, r2, o2⟩⟩
end

/-! ### slices -/
def cutL {α : Type} (xs : List α) (lo hi : Option Int) : List α := (xs.drop (HT.sIx xs.length 0 lo)).take (HT.sIx xs.length xs.length hi - HT.sIx xs.length 0 lo)
theorem cut_rep {C : Cf} {H : Hp} {vs : List V} {ds : List D} (r : RepL C H vs ds) (lo hi : Option Int) : RepL C H (cutV vs lo hi) (cutL ds lo hi) := by
  unfold cutV cutL
  rw [r.length]
  exact (r.drop _).take _
theorem cut_whole {α : Type} {xs : List α} {lo hi : Option Int} (h : HT.sIx xs.length 0 lo = 0 ∧ HT.sIx xs.length xs.length hi = xs.length) : cutL xs lo hi = xs := by
  unfold cutL
  rw [h.1, h.2, List.drop_zero, Nat.sub_zero, List.take_length]
def D.cut : D → Option Int → Option Int → Option D
  | .lst l, lo, hi => some (.lst (cutL l lo hi))
  | .tup l, lo, hi => some (.tup (cutL l lo hi))
  | _, _, _ => none
def rCut (C : Cf) : V → Option Int → Option Int → Hp → VK → Prop := fun x lo hi H Q => ∃ a d, Rep C H x a ∧ D.cut a lo hi = some d ∧ Oat C H ∧ ∀ v H', Same H H' → Rep C H' v d → Q v H'
theorem sl_cut {X : Cx} {C : Cf} {W : WX} (ok : Cok X C W) : SlR X (rCut C) := by
  intro pins s σ H x v vl vu lo hi sl Q I rx hs pl pu h
  obtain ⟨a, d, ra, e, oa, q⟩ := h
  cases ra with
  | @lst p xs ds hp hd =>
    cases e
    exact sl_list pins s σ H _ v vl vu lo hi sl Q I rx hs pl pu ⟨p, xs, rfl, hp.sqX ok.k, fun l hl => q _ _ (same_upd hl) (new_lst hl oa (cut_rep hd lo hi))⟩
  | @tup p xs ds hp hd =>
    cases e
    refine sl_tupA pins s σ H _ v vl vu lo hi sl Q I rx hs pl pu ⟨p, xs, rfl, hp.sqX ok.k, fun z => ?_, fun z l hl => q _ _ (same_upd hl) (new_tup hl oa (cut_rep hd lo hi))⟩
    rw [hd.length] at z
    rw [cut_whole z] at q
    exact q _ H (.refl H) (.tup hp hd)
  | _ => cases e
section
variable {X : Cx} {C : Cf} {W : WX} {ρ : Rho} {pos : Pos}
def OutO (C : Cf) (H : Hp) (r : R (Option Int)) (Q : Option Int → Hp → Prop) (X : Nat → Hp → Prop) : Prop := match r with
  | .ok o g => ∀ H', Ext C H H' → WS C g H' → Q o H'
  | .exc c g => ∀ H', Ext C H H' → WS C g H' → X c H'
  | .bad => False
def tOD (C : Cf) (W : WX) (ρ : Rho) (m : M (Option Int)) : TO := fun σ H Q => ∃ g, WS C g H ∧ Has C ρ σ H ∧ OutO C H (m g) Q (xw C W σ)
structure OD (X : Cx) (C : Cf) (W : WX) (ρ : Rho) (e : Option Expr) (m : M (Option Int)) : Prop where
  po : PO X e (tOD C W ρ m)
theorem po_imp {e : Option Expr} {t t' : TO} (h : PO X e t) (i : ∀ σ H Q, t' σ H Q → t σ H Q) : PO X e t' := ⟨fun p s σ H Q I q => h.run p s σ H Q I (i _ _ _ q)⟩
def D.asInt : D → Option Int
  | .int i => some i
  | _ => none
def partM (m : M D) : M (Option Int) := M.bind m fun d => M.bind (ofO d.asInt) fun i => M.pure (some i)
theorem od_none : OD X C W ρ none (M.pure none) := ⟨po_imp po_none fun σ H Q ⟨g, w, e, o⟩ => o H (.refl C H) w⟩
theorem od_some {e : Expr} {m : M D} (h : ED X C W ρ e m) : OD X C W ρ (some e) (partM m) :=
  ⟨po_imp (po_some h.pe) fun σ H Q ⟨g, w, e, o⟩ => by
    refine ⟨g, w, e, ?_⟩
    unfold partM M.bind at o
    cases hm : m g with
    | bad => rw [hm] at o; exact o
    | exc c g1 => rw [hm] at o; exact o
    | ok d g1 =>
      rw [hm] at o
      intro v H1 x w1 r1
      cases r1 with
      | int i => exact ⟨i, rfl, o H1 x w1⟩
      | _ => exact o.elim⟩
def cutM (m : M D) (ml mh : M (Option Int)) : M D := M.bind m fun a => M.bind ml fun lo => M.bind mh fun hi => ofO (D.cut a lo hi)
theorem ed_cut {e : Expr} {lo hi : Option Expr} {m : M D} {ml mh : M (Option Int)} {p2 : Pos} (ok : Cok X C W) (he : ED X C W ρ e m) (hl : OD X C W ρ lo ml) (hh : OD X C W ρ hi mh) : ED X C W ρ (.Subscript e (.Slice lo hi none p2) pos) (cutM m ml mh) :=
  ⟨pe_imp (pe_slice (sl_cut ok) he.pe hl.po hh.po) fun σ H Q h => step1 h fun d v H1 g1 x w1 e1 r1 o1 => by
    refine ⟨g1, w1, e1, ?_⟩
    unfold M.bind at o1
    cases hm : ml g1 with
    | bad => rw [hm] at o1; exact o1
    | exc c g2 => rw [hm] at o1; exact o1
    | ok l g2 =>
      rw [hm] at o1
      intro H2 x2 w2
      refine ⟨g2, w2, e1.ext x2 w1.oat, ?_⟩
      have o1 : Out C H1 ((mh g2).bind fun hi => ofO (D.cut d l hi)) Q (xw C W σ) := o1
      cases hm2 : mh g2 with
      | bad => rw [hm2] at o1; exact o1
      | exc c g2 => rw [hm2] at o1; exact fun H' e' w' => o1 H' (x2.trans e') w'
      | ok u g3 =>
        rw [hm2] at o1
        intro H3 x3 w3
        obtain ⟨z, ez, q⟩ := Out.ofO_some (Out.from o1 (x2.trans x3))
        exact ⟨d, z, Rep.ext (x2.trans x3) w1.oat d v r1, ez, w3.oat, fun v4 H4 s4 r4 => q v4 H4 (.same s4) (w3.same s4) r4⟩⟩
end

/-! ### xs[::-1] -/
theorem rev_adjust (n : Nat) : Builtin.Slice.sliceAdjust none none (-1) (n : Int) = ((n : Int) - 1, -1) := by
  unfold Builtin.Slice.sliceAdjust
  simp
theorem rev_places (n : Nat) : Builtin.Slice.slicePlaces ((n : Int) - 1) (-1) (-1) = n := by
  unfold Builtin.Slice.slicePlaces
  simp
  omega
theorem filterMap_mem {α β : Type} {f g : α → Option β} : ∀ {l : List α}, (∀ x ∈ l, f x = g x) → l.filterMap f = l.filterMap g
  | [], _ => rfl
  | x :: l, h => by
    rw [List.filterMap_cons, List.filterMap_cons, h x List.mem_cons_self, filterMap_mem fun y hy => h y (List.mem_cons_of_mem _ hy)]
theorem rev_pick (items : Array Value) : (List.filterMap (fun (k : Nat) => items[((items.size : Int) - 1 + (k : Int) * -1).toNat]?) (List.range items.size)).toArray = items.toList.reverse.toArray := by
  have e : ∀ k ∈ List.range items.size, items[((items.size : Int) - 1 + (k : Int) * -1).toNat]? = items.toList.reverse.toArray[0 + k]? := fun k hk => by
    have hk : k < items.size := List.mem_range.mp hk
    have e1 : ((items.size : Int) - 1 + (k : Int) * -1).toNat = items.size - 1 - k := by omega
    have e3 : items.toList.reverse.toArray[k]? = items.toList.reverse[k]? := List.getElem?_toArray ..
    rw [e1, Nat.zero_add, e3, List.getElem?_reverse (by rw [Array.length_toList]; exact hk), Array.length_toList, Array.getElem?_toList]
  rw [filterMap_mem e]
  have q := pick_run items.toList.reverse.toArray 0 items.size
  rw [List.filterMap_map] at q
  have e2 : ((fun x => items.toList.reverse.toArray[x]?) ∘ fun x => 0 + x) = fun m => items.toList.reverse.toArray[0 + m]? := rfl
  rw [e2] at q
  rw [q]
  simp
  exact List.take_of_length_le (by simp)
theorem tup_rev {prog : Program} {w : World} {A : Around} {E : Value → Shared → Prop} {s : Shared} {t sl : Addr} {items : Array Value} {tk : Tok} {Q : Value → Shared → Prop} (ht : IsTup s.heap t items) (hs : s.heap.IsSliceOf sl .none .none (.int (-1) tk))
    (h : Q (.ref s.heap.objs.size) { s with heap := s.heap.push { cls := .type "tuple", data := .seq items.toList.reverse.toArray } }) (hsz : items.size ≤ sizeLine) : wpAny (model prog w) A (getItem (.ref t) (.ref sl)) Q E s := by
  obtain ⟨os, hos, hcs, hds⟩ := id hs
  have hTs : s.TypeIs (.ref sl) "slice" := ⟨os, hos, hcs⟩
  unfold getItem
  try with_reducible refine wpAny_holding ?_
  first | refine wpAny_bind (wpAny_pure ?_) | skip
  refine wpAny_bind (wpAny_sequenceKey ht.typeIs (by decide) ?_)
  refine wpAny_bind (wpAny_callSpecial?_slot (name := Str.ofString "__getitem__") ht.typeIs PyProof.Rows.slot_tuple_getitem
    (wpAny_call_entry PyProof.Rows.slot_tuple_getitem ht.typeIs entry_tuple_getitem ?_ (args_tuple_getitem _ _)))
  show wpAny _ _ (Builtin.Tuple.tupleItemsOf (.ref t) >>= _) _ _ s
  refine wpAny_bind (PyProof.Rows.tupleItemsOf_ ht ?_)
  refine wpAny_bind (wpAny_typeOf hTs ?_)
  rw [if_pos (by decide)]
  refine wpAny_bind ?_
  unfold Builtin.Slice.sliceApplied Builtin.Slice.sliceFields
  refine wpAny_bind (wpAny_bind (wpAny_field hos hds (x := .none) rfl (wpAny_bind (wpAny_field hos hds (x := .none) rfl (wpAny_bind (wpAny_field hos hds (x := .int (-1) tk) rfl (wpAny_pure ?_)))))))
  refine wpAny_bind (slicePart_int ?_)
  show wpAny _ _ (if ((-1 : Int) == 0) = true then _ else _) _ _ s
  rw [if_neg (by decide)]
  refine wpAny_bind (slicePart_none (wpAny_bind (slicePart_none (wpAny_bind (wpAny_pure ?_)))))
  show wpAny _ _ (match Builtin.Slice.sliceAdjust none none (-1) (items.size : Int) with | (lo, hi) => pure (lo, (-1 : Int), Builtin.Slice.slicePlaces lo hi (-1))) _ _ s
  rw [rev_adjust]
  show wpAny _ _ (pure ((items.size : Int) - 1, (-1 : Int), Builtin.Slice.slicePlaces ((items.size : Int) - 1) (-1) (-1))) _ _ s
  rw [rev_places]
  refine wpAny_pure ?_
  show wpAny _ _ (if (((items.size : Int) - 1) == 0 && (-1 : Int) == 1 && items.size == items.size) = true then _ else _) _ _ s
  rw [if_neg (by simp), rev_pick]
  have htake : sizeOk (.seq items.toList.reverse.toArray) := by
    show items.toList.reverse.toArray.size ≤ sizeLine
    rw [List.size_toArray, List.length_reverse, Array.length_toList]
    exact hsz
  first
    | exact wpAny_bind (m := Builtin.Tuple.tupleExact _) (wpAny_newObj_type (wpAny_pure ⟨_, rfl, wpAny_pure h⟩) htake)
    | exact wpAny_bind (m := Builtin.Tuple.tupleExact _) (wpAny_newObj_type (wpAny_bind (wpAny_pure (wpAny_pure ⟨_, rfl, wpAny_pure h⟩))) htake)
    | exact wpAny_bind (wpAny_bind (m := Builtin.Tuple.tupleExact _) (wpAny_newObj_type (wpAny_pure (wpAny_pure ⟨_, rfl, wpAny_pure h⟩)) htake))
    | exact wpAny_bind (wpAny_bind (m := Builtin.Tuple.tupleExact _) (wpAny_newObj_type (wpAny_pure ⟨_, rfl, wpAny_pure h⟩) htake))
/-- t[::-1], xs[::-1] -/
def D.rev : D → Option D
  | .lst l => some (.lst l.reverse)
  | .tup l => some (.tup l.reverse)
  | _ => none
def revM (m : M D) : M D := M.bind m fun a => ofO a.rev
section
variable {X : Cx} {C : Cf} {W : WX} {ρ : Rho} {pos : Pos}
theorem ed_rev {e : Expr} {m : M D} {k : Nat} {p1 p2 p3 : Pos} (ok : Cok X C W) (he : ED X C W ρ e m) : ED X C W ρ (.Subscript e (.Slice none none (some (.UnaryOp .USub (.Constant (.int 1) k p1) p2)) p3) pos) (revM m) := by
  refine ⟨⟨fun pins s σ H Q I h => ?_⟩⟩
  obtain ⟨g, w, e0, o⟩ := h
  refine Subscript_ (thn (he.pe.run pins s σ H (fun x H1 => ∃ g a, WS C g H1 ∧ Rep C H1 x a ∧ Out C H1 ((ofO a.rev : M D) g) Q (xw C W σ)) I ⟨g, w, e0, ?_⟩) fun v s1 ⟨x, H1, I1, r1, q1⟩ => ?_)
  · unfold revM M.bind at o
    cases hm : m g with
    | bad => rw [hm] at o; exact o
    | exc c g1 => rw [hm] at o; exact o
    | ok d g1 =>
      rw [hm] at o
      exact fun v H1 x1 w1 rr => ⟨g1, d, w1, rr, Out.from (show Out C H ((ofO d.rev : M D) g1) Q _ from o) x1⟩
  obtain ⟨g1, a, w1, ra, o1⟩ := q1
  obtain ⟨d, ed, q⟩ := Out.ofO_some o1
  have hst : PO X (some (.UnaryOp .USub (.Constant (.int 1) k p1) p2)) (tPart (tUn (rU fun i => .int (-i)) (tC (.int 1)))) := po_some (pe_un un_neg pe_int)
  refine wpAny_Slice (thn (po_none.run pins s1 σ H1 (fun o H2 => o = none ∧ H2 = H1) I1 ⟨rfl, rfl⟩) fun vl s2 ⟨l, H2, I2, pl, el, e2⟩ => ?_)
  subst el e2
  refine thn (po_none.run pins s2 σ H2 (fun o H3 => o = none ∧ H3 = H2) I2 ⟨rfl, rfl⟩) fun vu s3 ⟨u, H3, I3, pu, eu, e3⟩ => ?_
  subst eu e3
  refine thn (hst.run pins s3 σ H3 (fun o H4 => o = some (-1) ∧ H4 = H3) I3 ⟨1, rfl, -1, rfl, rfl, rfl⟩) fun vs s4 ⟨o, H4, I4, ps, eo, e4⟩ => ?_
  subst eo e4
  have I5 : Inv X pins σ H4 { s4 with heap := s4.heap.push { cls := .type "slice", data := .fields #[vl, vu, vs] } } := I4.kept (t' := s4.toks) fun b ob q => Heap.get?_push_of_some _ q
  cases ra with
  | @lst p xs ds hp hd =>
    cases ed
    cases r1
    obtain ⟨its, r, ht, hz⟩ := I5.list (hp.sqX ok.k)
    have hlen := r.length
    show wpAny (model X.prog X.w) X.A (subscriptTail e (.Slice none none (some (.UnaryOp .USub (.Constant (.int 1) k p1) p2)) p3) (.ref p) (.ref s4.heap.objs.size)) (EP X pins σ Q) X.xe { s4 with heap := s4.heap.push { cls := .type "slice", data := .fields #[vl, vu, vs] } }
    refine tail_any (ops := [.ref p, .ref s4.heap.objs.size]) ht.isList.typeIs (PySem.slot_list_getitem.lookup) ?_ (by with_unfolding_all rfl)
    refine wpAny_getItem_list_slice ht.isList (Heap.IsSliceOf.new _ vl vu vs) pl pu ps (by decide) ?_ (by rw [List.size_toArray]; omega)
    rw [PySem.W.krv_pick]
    refine ⟨.ref _, _, I5.laid (t' := s4.toks) (o := .lst xs.reverse) (fun b ob q => Heap.get?_push_of_some _ q) (Nat.le_refl _) ?_, rfl, ?_⟩
    · exact ⟨by rw [List.length_reverse]; exact hz, _, 0, r.reverse, Heap.get?_push_size _ rfl⟩
    · have hn := I5.hok.fresh (Nat.le_refl _)
      exact q _ _ (.same (same_upd hn)) (w1.same (same_upd hn)) (new_lst hn w1.oat hd.reverse)
  | @tup p xs ds hp hd =>
    cases ed
    cases r1
    obtain ⟨its, r, ht, hz⟩ := I5.tuple (hp.sqX ok.k)
    have hlen := r.length
    cases pl
    cases pu
    cases ps with
    | int i tk =>
    show wpAny (model X.prog X.w) X.A (subscriptTail e (.Slice none none (some (.UnaryOp .USub (.Constant (.int 1) k p1) p2)) p3) (.ref p) (.ref s4.heap.objs.size)) (EP X pins σ Q) X.xe { s4 with heap := s4.heap.push { cls := .type "slice", data := .fields #[.none, .none, .int (-1) tk] } }
    refine tail_any (ops := [.ref p, .ref s4.heap.objs.size]) ht.typeIs (PyProof.Rows.slot_tuple_getitem.lookup) ?_ (by with_unfolding_all rfl)
    refine tup_rev ht (Heap.IsSliceOf.new _ _ _ _) ?_ (by rw [List.size_toArray]; omega)
    refine ⟨.ref _, _, I5.laid (t' := s4.toks) (o := .tup xs.reverse) (fun b ob q => Heap.get?_push_of_some _ q) (Nat.le_refl _) ?_, rfl, ?_⟩
    · exact ⟨by rw [List.length_reverse]; exact hz, _, r.reverse, IsTup.new _ _⟩
    · have hn := I5.hok.fresh (Nat.le_refl _)
      exact q _ _ (.same (same_upd hn)) (w1.same (same_upd hn)) (new_tup hn w1.oat hd.reverse)
  | _ => cases ed
end
end Tc

set_option Elab.async false
set_option linter.all false
set_option maxRecDepth 100000
set_option maxHeartbeats 4000000
namespace Tc
open PySem PySem.Spec PyProof.Rows L2

/-! ### builtins -/
def bLen : List D → Option D
  | [.lst l] => some (.int l.length)
  | [.tup l] => some (.int l.length)
  | [.scr l] => some (.int l.length)
  | [.str s] => if s.length ≤ 1000000 then some (.int s.length) else none
  | _ => none
theorem cb_len : CallD (.builtin "len") bLen := by
  intro X C W ok pins s σ H vs us Q I r h
  obtain ⟨ds, d, rd, e, oa, q⟩ := h
  cases rd with
  | nil => cases e
  | cons ra rt =>
    cases rt with
    | cons _ _ => cases ra <;> cases e
    | nil =>
      cases ra with
      | @lst p xs l hp hl =>
        cases e
        refine call_len_seq pins s σ H _ us Q I r ⟨p, xs, rfl, .inl (hp.sqX ok.k), ?_⟩
        rw [hl.length]
        exact q _ H (.refl H) (.int _)
      | @tup p xs l hp hl =>
        cases e
        refine call_len_seq pins s σ H _ us Q I r ⟨p, xs, rfl, .inr (hp.sqX ok.k), ?_⟩
        rw [hl.length]
        exact q _ H (.refl H) (.int _)
      | @scr p ns hp =>
        cases e
        refine call_len_seq pins s σ H _ us Q I r ⟨p, ns.map V.int, rfl, .inl (hp.sqX ok.k), ?_⟩
        rw [List.length_map]
        exact q _ H (.refl H) (.int _)
      | str z =>
        obtain ⟨hz, e⟩ := ite_some e
        subst e
        exact call_len_str pins s σ H _ us Q I r ⟨z, rfl, line_ge hz, q _ H (.refl H) (.int _)⟩
      | _ => cases e
/-- the names of the built-in classes of data -/
def D.tyName : D → Option String
  | .non => some "NoneType"
  | .bl _ => some "bool"
  | .int _ => some "int"
  | .str _ => some "str"
  | .lst _ => some "list"
  | .tup _ => some "tuple"
  | .dic _ _ => some "dict"
  | _ => none
/-- is one built-in class (of data) a kind of another -/
def kindOf (a b : String) : Bool := a == b || (a == "bool" && b == "int")
def okTy (b : String) : Bool := b == "int" || b == "bool" || b == "str" || b == "list" || b == "tuple" || b == "dict"
theorem tyX_of {C : Cf} {H : Hp} {v : V} {d : D} {n : String} (r : Rep C H v d) (e : d.tyName = some n) : TyX C.K H v (.type n) := by
  cases r with
  | non => cases e; exact .base .non
  | bl b => cases e; exact .base (.bl b)
  | int i => cases e; exact .base (.int i)
  | str s => cases e; exact .base (.str s)
  | lst a b => cases e; exact .base (.lst a.2)
  | tup a b =>
    cases e
    rcases a with a | ⟨o, its, n, hk, hc, _⟩
    · exact .base (.tup a.2)
    · exact .kTuple hk hc
  | dic0 a b =>
    cases e
    rcases b with b | b
    · exact .base (.dT b)
    · exact .base (.dK b)
  | _ => cases e
theorem kit_tab : (["NoneType", "bool", "int", "str", "list", "tuple", "dict"].all fun a => ["int", "bool", "str", "list", "tuple", "dict"].all fun b => kitB a b == some (kindOf a b)) = true := by decide +kernel
theorem okTy_mem {b : String} (h : okTy b = true) : b ∈ ["int", "bool", "str", "list", "tuple", "dict"] := by
  unfold okTy at h
  simp only [Bool.or_eq_true, beq_iff_eq] at h
  simp only [List.mem_cons]
  rcases h with ((((h | h) | h) | h) | h) | h <;> simp [h]
theorem tyName_mem {d : D} {n : String} (e : d.tyName = some n) : n ∈ ["NoneType", "bool", "int", "str", "list", "tuple", "dict"] := by
  cases d <;> first
    | cases e <;> simp
    | cases e
theorem kit_of_tab {d : D} {n b : String} (e : d.tyName = some n) (h : okTy b = true) : kitB n b = some (kindOf n b) := by
  have q := List.all_eq_true.mp (List.all_eq_true.mp kit_tab n (tyName_mem e)) b (okTy_mem h)
  exact beq_iff_eq.mp q
def tyList : List D → Option (List String)
  | [] => some []
  | .ty n :: r => if okTy n then (tyList r).map (n :: ·) else none
  | _ => none
def bIsi : List D → Option D
  | [x, .ty n] => x.tyName.bind fun t => if okTy n then some (.bl (kindOf t n)) else none
  | [x, .tup l] => x.tyName.bind fun t => (tyList l).bind fun ns => some (.bl (ns.any fun n => kindOf t n))
  | _ => none
theorem tyL_rep {C : Cf} {H : Hp} : ∀ {vs : List V} {l : List D} {ns : List String}, RepL C H vs l → tyList l = some ns → Paired ClsV vs (ns.map Value.type) ∧ ∀ n ∈ ns, okTy n = true
  | _, _, _, .nil, e => by
    cases e
    exact ⟨.nil, fun _ h => by cases h⟩
  | _, _, ns, .cons r t, e => by
    cases r with
    | ty n =>
      obtain ⟨hk, e⟩ : okTy n = true ∧ ∃ ms, tyList _ = some ms ∧ n :: ms = ns := by
        unfold tyList at e
        by_cases hk : okTy n = true
        · rw [if_pos hk] at e
          obtain ⟨ms, e1, e2⟩ := Option.map_eq_some_iff.mp e
          exact ⟨hk, ms, e1, e2⟩
        · rw [if_neg hk] at e
          cases e
      obtain ⟨ms, e1, e2⟩ := e
      obtain ⟨h1, h2⟩ := tyL_rep t e1
      subst e2
      refine ⟨.cons (.ty n) h1, fun m hm => ?_⟩
      rcases List.mem_cons.mp hm with rfl | hm
      · exact hk
      · exact h2 m hm
    | _ => cases e
theorem kitAny_tys {K : PySem.W.Frag} {d : D} {t : String} (e : d.tyName = some t) : ∀ ns : List String, (∀ n ∈ ns, okTy n = true) → PySem.W.kitAny K (.type t) (ns.map Value.type) = some (ns.any fun n => kindOf t n)
  | [], _ => kitAny_nil
  | n :: ns, h => by
    have h1 := kit_of_tab e (h n List.mem_cons_self)
    have ih := kitAny_tys (K := K) e ns fun m hm => h m (List.mem_cons_of_mem _ hm)
    rw [List.map_cons, List.any_cons]
    refine kitAny_cons (kit_ty h1) (fun hb => ?_) fun hb => ?_
    · rw [hb, Bool.false_or]
      exact ih
    · rw [hb, Bool.true_or]
theorem cb_isi : CallD (.builtin "isinstance") bIsi := by
  intro X C W ok pins s σ H vs us Q I r h
  obtain ⟨ds, d, rd, e, oa, q⟩ := h
  cases rd with
  | nil => cases e
  | cons ra rt =>
    cases rt with
    | nil => cases e
    | cons rb rt =>
      cases rt with
      | cons _ _ => cases rb <;> cases e
      | nil =>
        cases rb with
        | ty n =>
          obtain ⟨t, e1, e2⟩ := Option.bind_eq_some_iff.mp e
          obtain ⟨hk, e2⟩ := ite_some e2
          subst e2
          exact call_isi pins s σ H _ us Q I r ⟨_, _, _, _, kindOf t n, rfl, .ty n, by rw [ok.k]; exact tyX_of ra e1, kit_ty (kit_of_tab e1 hk), q _ H (.refl H) (.bl _)⟩
        | @tup p xs l hp hl =>
          obtain ⟨t, e1, e2⟩ := Option.bind_eq_some_iff.mp e
          obtain ⟨ns, e4, e3⟩ := Option.bind_eq_some_iff.mp e2
          cases e3
          obtain ⟨h1, h2⟩ := tyL_rep hl e4
          rcases hp with hp | ⟨o, its, n, hk, hc, hd, hz, hv⟩
          · exact call_isiT pins s σ H _ us Q I r ⟨_, p, xs, _, _, _, rfl, hp.2, h1, by rw [ok.k]; exact tyX_of ra e1, kitAny_tys e1 ns h2, q _ H (.refl H) (.bl _)⟩
          · have e3 := ClsV.all h1 hv
            obtain ⟨oc, od, dt, sl⟩ := o
            simp only at hc hd
            subst hc hd
            refine call_isiK pins s σ H _ us Q I r ⟨_, p, od, ns.map Value.type, n, sl, _, _, rfl, ?_, by rw [ok.k]; exact tyX_of ra e1, kitAny_tys e1 ns h2, q _ H (.refl H) (.bl _)⟩
            rw [ok.k, hk, ← e3]
        | _ => cases e
/-- truths -/
def blList : List D → Option (List Bool)
  | [] => some []
  | .bl b :: r => (blList r).map (b :: ·)
  | _ => none
theorem blL_rep {C : Cf} {H : Hp} : ∀ {vs : List V} {l : List D} {bs : List Bool}, RepL C H vs l → blList l = some bs → vs = bs.map V.bl
  | _, _, _, .nil, e => by cases e; rfl
  | _, _, bs, .cons r t, e => by
    cases r with
    | bl b =>
      obtain ⟨cs, e1, e2⟩ := Option.map_eq_some_iff.mp e
      subst e2
      rw [blL_rep t e1]
      rfl
    | _ => cases e
def bAll : List D → Option D
  | [.lst l] => (blList l).map fun bs => .bl (bs.all id)
  | _ => none
def bAny : List D → Option D
  | [.lst l] => (blList l).map fun bs => .bl (bs.any id)
  | _ => none
theorem cb_all : CallD (.builtin "all") bAll := by
  intro X C W ok pins s σ H vs us Q I r h
  obtain ⟨ds, d, rd, e, oa, q⟩ := h
  cases rd with
  | nil => cases e
  | cons ra rt =>
    cases rt with
    | cons _ _ => cases ra <;> cases e
    | nil =>
      cases ra with
      | @lst p xs l hp hl =>
        obtain ⟨bs, e1, e2⟩ := Option.map_eq_some_iff.mp e
        subst e2
        have ex := blL_rep hl e1
        subst ex
        exact cr_all ok.calm pins s σ H _ us Q I r ⟨p, bs, rfl, hp.sqX ok.k, q _ H (.refl H) (.bl _)⟩
      | _ => cases e
theorem cb_any : CallD (.builtin "any") bAny := by
  intro X C W ok pins s σ H vs us Q I r h
  obtain ⟨ds, d, rd, e, oa, q⟩ := h
  cases rd with
  | nil => cases e
  | cons ra rt =>
    cases rt with
    | cons _ _ => cases ra <;> cases e
    | nil =>
      cases ra with
      | @lst p xs l hp hl =>
        obtain ⟨bs, e1, e2⟩ := Option.map_eq_some_iff.mp e
        subst e2
        have ex := blL_rep hl e1
        subst ex
        exact cr_any ok.calm pins s σ H _ us Q I r ⟨p, bs, rfl, hp.sqX ok.k, q _ H (.refl H) (.bl _)⟩
      | _ => cases e
def bList : List D → Option D
  | [.lst l] => some (.lst l)
  | [.tup l] => some (.lst l)
  | _ => none
def bTuple : List D → Option D
  | [.lst l] => some (.tup l)
  | [.tup l] => some (.tup l)
  | _ => none
theorem cb_list : CallD (.type "list") bList := by
  intro X C W ok pins s σ H vs us Q I r h
  obtain ⟨ds, d, rd, e, oa, q⟩ := h
  cases rd with
  | nil => cases e
  | cons ra rt =>
    cases rt with
    | cons _ _ => cases ra <;> cases e
    | nil =>
      cases ra with
      | @lst p xs l hp hl =>
        cases e
        exact call_list_of pins s σ H _ us Q I r ⟨p, xs, rfl, .inl (hp.sqX ok.k), fun l' hl' => q _ _ (same_upd hl') (new_lst hl' oa hl)⟩
      | @tup p xs l hp hl =>
        cases e
        exact call_list_of pins s σ H _ us Q I r ⟨p, xs, rfl, .inr (hp.sqX ok.k), fun l' hl' => q _ _ (same_upd hl') (new_lst hl' oa hl)⟩
      | _ => cases e
theorem cb_tuple : CallD (.type "tuple") bTuple := by
  intro X C W ok pins s σ H vs us Q I r h
  obtain ⟨ds, d, rd, e, oa, q⟩ := h
  cases rd with
  | nil => cases e
  | cons ra rt =>
    cases rt with
    | cons _ _ => cases ra <;> cases e
    | nil =>
      cases ra with
      | @lst p xs l hp hl =>
        cases e
        exact call_tuple_of pins s σ H _ us Q I r ⟨p, xs, rfl, .inl ⟨hp.sqX ok.k, fun l' hl' => q _ _ (same_upd hl') (new_tup hl' oa hl)⟩⟩
      | @tup p xs l hp hl =>
        cases e
        exact call_tuple_of pins s σ H _ us Q I r ⟨p, xs, rfl, .inr ⟨hp.sqX ok.k, q _ H (.refl H) (.tup hp hl)⟩⟩
      | _ => cases e
/-- ints -/
def intList : List D → Option (List Int)
  | [] => some []
  | .int b :: r => (intList r).map (b :: ·)
  | _ => none
theorem intL_rep {C : Cf} {H : Hp} : ∀ {vs : List V} {l : List D} {bs : List Int}, RepL C H vs l → intList l = some bs → vs = bs.map V.int
  | _, _, _, .nil, e => by cases e; rfl
  | _, _, bs, .cons r t, e => by
    cases r with
    | int b =>
      obtain ⟨cs, e1, e2⟩ := Option.map_eq_some_iff.mp e
      subst e2
      rw [intL_rep t e1]
      rfl
    | _ => cases e
def maxL : List Int → Option Int
  | [] => none
  | x :: r => some (r.foldl max x)
def minL : List Int → Option Int
  | [] => none
  | x :: r => some (r.foldl min x)
theorem foldl_max : ∀ (r : List Int) (x : Int), (r.foldl max x ∈ x :: r) ∧ ∀ y ∈ x :: r, y ≤ r.foldl max x
  | [], x => ⟨by simp, fun y h => by simp at h; simp [h]⟩
  | z :: r, x => by
    obtain ⟨h1, h2⟩ := foldl_max r (max x z)
    rw [List.foldl_cons]
    refine ⟨?_, fun y hy => ?_⟩
    · rcases List.mem_cons.mp h1 with e | e
      · rw [e]
        by_cases q : x ≤ z
        · rw [Int.max_eq_right q]; simp
        · rw [Int.max_eq_left (by omega)]; simp
      · exact List.mem_cons_of_mem _ (List.mem_cons_of_mem _ e)
    · have h3 := h2 (max x z) List.mem_cons_self
      rcases List.mem_cons.mp hy with rfl | hy
      · omega
      · rcases List.mem_cons.mp hy with rfl | hy
        · omega
        · exact h2 y (List.mem_cons_of_mem _ hy)
theorem foldl_min : ∀ (r : List Int) (x : Int), (r.foldl min x ∈ x :: r) ∧ ∀ y ∈ x :: r, r.foldl min x ≤ y
  | [], x => ⟨by simp, fun y h => by simp at h; simp [h]⟩
  | z :: r, x => by
    obtain ⟨h1, h2⟩ := foldl_min r (min x z)
    rw [List.foldl_cons]
    refine ⟨?_, fun y hy => ?_⟩
    · rcases List.mem_cons.mp h1 with e | e
      · rw [e]
        by_cases q : x ≤ z
        · rw [Int.min_eq_left q]; simp
        · rw [Int.min_eq_right (by omega)]; simp
      · exact List.mem_cons_of_mem _ (List.mem_cons_of_mem _ e)
    · have h3 := h2 (min x z) List.mem_cons_self
      rcases List.mem_cons.mp hy with rfl | hy
      · omega
      · rcases List.mem_cons.mp hy with rfl | hy
        · omega
        · exact h2 y (List.mem_cons_of_mem _ hy)
def bMax : List D → Option D
  | [.int i, .int j] => some (.int (max i j))
  | [.lst l] => (intList l).bind fun ns => (maxL ns).map .int
  | _ => none
def bMin : List D → Option D
  | [.int i, .int j] => some (.int (min i j))
  | [.lst l] => (intList l).bind fun ns => (minL ns).map .int
  | _ => none
theorem max_if (i j : Int) : (if j > i then j else i) = max i j := by
  by_cases h : j > i
  · rw [if_pos h]; omega
  · rw [if_neg h]; omega
theorem min_if (i j : Int) : (if j < i then j else i) = min i j := by
  by_cases h : j < i
  · rw [if_pos h]; omega
  · rw [if_neg h]; omega
theorem cb_max : CallD (.builtin "max") bMax := by
  intro X C W ok pins s σ H vs us Q I r h
  obtain ⟨ds, d, rd, e, oa, q⟩ := h
  cases rd with
  | nil => cases e
  | cons ra rt =>
    cases rt with
    | nil =>
      cases ra with
      | @lst p xs l hp hl =>
        obtain ⟨ns, e1, e2⟩ := Option.bind_eq_some_iff.mp e
        obtain ⟨m, e2, e3⟩ := Option.map_eq_some_iff.mp e2
        subst e3
        have ex := intL_rep hl e1
        subst ex
        cases ns with
        | nil => cases e2
        | cons n r' =>
          cases e2
          obtain ⟨h1, h2⟩ := foldl_max r' n
          refine cr_max ok.calm pins s σ H _ us Q I r ⟨p, n :: r', rfl, hp.sqX ok.k, Nat.succ_pos _, fun m hm hle => ?_⟩
          have em : m = r'.foldl max n := by
            have a1 := hle _ h1
            have a2 := h2 _ hm
            omega
          rw [em]
          exact q _ H (.refl H) (.int _)
      | _ => cases e
    | cons rb rt =>
      cases rt with
      | cons _ _ => cases ra <;> cases rb <;> cases e
      | nil =>
        cases ra with
        | int i =>
          cases rb with
          | int j =>
            cases e
            refine call_max2 ok.calm pins s σ H _ us Q I r ⟨i, j, rfl, ?_⟩
            rw [max_if]
            exact q _ H (.refl H) (.int _)
          | _ => cases e
        | _ => cases e
theorem cb_min : CallD (.builtin "min") bMin := by
  intro X C W ok pins s σ H vs us Q I r h
  obtain ⟨ds, d, rd, e, oa, q⟩ := h
  cases rd with
  | nil => cases e
  | cons ra rt =>
    cases rt with
    | nil =>
      cases ra with
      | @lst p xs l hp hl =>
        obtain ⟨ns, e1, e2⟩ := Option.bind_eq_some_iff.mp e
        obtain ⟨m, e2, e3⟩ := Option.map_eq_some_iff.mp e2
        subst e3
        have ex := intL_rep hl e1
        subst ex
        cases ns with
        | nil => cases e2
        | cons n r' =>
          cases e2
          obtain ⟨h1, h2⟩ := foldl_min r' n
          refine cr_min ok.calm pins s σ H _ us Q I r ⟨p, n :: r', rfl, hp.sqX ok.k, Nat.succ_pos _, fun m hm hle => ?_⟩
          have em : m = r'.foldl min n := by
            have a1 := hle _ h1
            have a2 := h2 _ hm
            omega
          rw [em]
          exact q _ H (.refl H) (.int _)
      | _ => cases e
    | cons rb rt =>
      cases rt with
      | cons _ _ => cases ra <;> cases rb <;> cases e
      | nil =>
        cases ra with
        | int i =>
          cases rb with
          | int j =>
            cases e
            refine call_min2 ok.calm pins s σ H _ us Q I r ⟨i, j, rfl, ?_⟩
            rw [min_if]
            exact q _ H (.refl H) (.int _)
          | _ => cases e
        | _ => cases e
def bSum : List D → Option D
  | [.lst l] => (intList l).map fun ns => .int ns.sum
  | _ => none
theorem cb_sum : CallD (.builtin "sum") bSum := by
  intro X C W ok pins s σ H vs us Q I r h
  obtain ⟨ds, d, rd, e, oa, q⟩ := h
  cases rd with
  | nil => cases e
  | cons ra rt =>
    cases rt with
    | cons _ _ => cases ra <;> cases e
    | nil =>
      cases ra with
      | @lst p xs l hp hl =>
        obtain ⟨bs, e1, e2⟩ := Option.map_eq_some_iff.mp e
        subst e2
        have ex := intL_rep hl e1
        subst ex
        exact cr_sum ok.calm pins s σ H _ us Q I r ⟨p, bs, rfl, hp.sqX ok.k, q _ H (.refl H) (.int _)⟩
      | _ => cases e
def bAbs : List D → Option D
  | [.int i] => some (.int (if i < 0 then -i else i))
  | _ => none
theorem cb_abs : CallD (.builtin "abs") bAbs := by
  intro X C W ok pins s σ H vs us Q I r h
  obtain ⟨ds, d, rd, e, oa, q⟩ := h
  cases rd with
  | nil => cases e
  | cons ra rt =>
    cases rt with
    | cons _ _ => cases ra <;> cases e
    | nil =>
      cases ra with
      | int i =>
        cases e
        exact call_abs pins s σ H _ us Q I r ⟨i, rfl, q _ H (.refl H) (.int _)⟩
      | _ => cases e
def bInt : List D → Option D
  | [.int i] => some (.int i)
  | [.bl b] => some (.int (if b then 1 else 0))
  | _ => none
theorem cb_int : CallD (.type "int") bInt := by
  intro X C W ok pins s σ H vs us Q I r h
  obtain ⟨ds, d, rd, e, oa, q⟩ := h
  cases rd with
  | nil => cases e
  | cons ra rt =>
    cases rt with
    | cons _ _ => cases ra <;> cases e
    | nil =>
      cases ra with
      | int i =>
        cases e
        exact call_int1 pins s σ H _ us Q I r (.inl ⟨i, rfl, q _ H (.refl H) (.int _)⟩)
      | bl b =>
        cases e
        exact call_int1 pins s σ H _ us Q I r (.inr ⟨b, rfl, q _ H (.refl H) (.int _)⟩)
      | _ => cases e
def bStr : List D → Option D
  | [.int i] => if i.natAbs.log2 < 1920 then some (.str (toString i)) else none
  | _ => none
theorem cb_str : CallD (.type "str") bStr := by
  intro X C W ok pins s σ H vs us Q I r h
  obtain ⟨ds, d, rd, e, oa, q⟩ := h
  cases rd with
  | nil => cases e
  | cons ra rt =>
    cases rt with
    | cons _ _ => cases ra <;> cases e
    | nil =>
      cases ra with
      | int i =>
        obtain ⟨hz, e⟩ := ite_some e
        subst e
        exact call_str_int pins s σ H _ us Q I r ⟨i, rfl, hz, q _ H (.refl H) (.str _)⟩
      | _ => cases e
end Tc

set_option Elab.async false
set_option linter.all false
set_option maxRecDepth 100000
set_option maxHeartbeats 4000000
namespace Tc
open PySem PySem.Spec PyProof.Rows L2

section
open PySem.W PySem.SeqAt
variable {prog : Program} {w : World} {A : Around} {s : Shared}
theorem call_tuple_lt {E : Value → Shared → Prop} {Q : Value → Shared → Prop} {l b : Addr} {items items2 : Array Value} {e r : Nat → Bool} (hl : s.heap.IsTuple l items) (hb : s.heap.IsTuple b items2)
    (he : ∀ j (h1 : j < items.size) (h2 : j < items2.size), EqAt A.in1 s items[j] items2[j] (e j)) (hr : ∀ j (h1 : j < items.size) (h2 : j < items2.size), e j = false → RcLt A.in1 s items[j] items2[j] (r j))
    (h : Q (.bool (firstLt e r (decide (items.size < items2.size)) (List.range (min items.size items2.size)))) s) : wpAny (model prog w) A (call (.builtin "tuple.__lt__") [.ref l, .ref b]) Q E s := by
  obtain ⟨⟨cls, dd, data, sl⟩, ho, hc, n, hd⟩ := id hl
  obtain ⟨⟨cls2, dd2, data2, sl2⟩, ho2, hc2, n2, hd2⟩ := id hb
  simp only at hc hd hc2 hd2
  subst hc hd hc2 hd2
  exact call_meets F.slot_tuple_lt ⟨_, ho, rfl⟩ F.entry_tuple_lt (F.args_tuple_lt_2 _ _) (tuple_ltAt l b items items2 n n2 dd dd2 sl sl2 e r) ⟨ho, ho2, he, hr, h⟩
theorem oneLt_tup {E : Value → Shared → Prop} {xs ys : List PyData} {a b : Value} {as bs : List Addr} {Q : Bool → Shared → Prop} (ra : Reads s.heap a (.tuple xs) as) (rb : Reads s.heap b (.tuple ys) bs) (h : alike (.tuple xs) (.tuple ys) = true)
    (hu : A.units + min (PyData.depth (.tuple xs)) (PyData.depth (.tuple ys)) < cLine) (hq : Q (dataLt (.tuple xs) (.tuple ys)) s) : wpAny (model prog w) A (oneLt' true a b) Q E s := by
  have hal : alikeAll xs ys = true := by simpa [alike] using h
  cases ra with
  | @tuple l o vs n _ as₁ h1 h2 h3 h4 =>
    cases rb with
    | @tuple l' o' vs' n' _ bs₁ k1 k2 k3 k4 =>
      have n1 : vs.size = xs.length := by simpa using ReadsAll.length _ _ _ h4
      have n2 : vs'.size = ys.length := by simpa using ReadsAll.length _ _ _ k4
      rw [dataLt_tuple, ← firstLt_toks xs ys hal, ← n1, ← n2] at hq
      rw [oneLt'_eq]
      simp only [if_true]
      refine wpAny_bind (wpAny_cRoomFor (SeqAt.room_here hu) ?_)
      refine wpAny_bind (wpAny_callSpecialIfBound?_slot (T := "tuple") ⟨_, h1, h2⟩ F.slot_tuple_lt (call_tuple_lt (e := pairEq xs ys) (r := fun j => dataLt (xs.getD j .none) (ys.getD j .none)) ⟨_, h1, h2, _, h3⟩ ⟨_, k1, k2, _, k3⟩ (fun j j1 j2 => ?_) (fun j j1 j2 hj => ?_) ?_))
      · have := eqAt_alikeAll xs ys A.in1 s vs.toList vs'.toList _ _ h4 k4 hal (SeqAt.room_in hu) j (by simpa using j1) (by simpa using j2)
        simpa using this
      · have := rcLt_alikeAll xs ys A.in1 s vs.toList vs'.toList _ _ h4 k4 hal (SeqAt.room_in hu) j (by simpa using j1) (by simpa using j2) hj
        simpa using this
      · exact wpAny_truthy_bool hq
/-- tuples, the first one empty -/
theorem sortsAt_tup0 {vs : List Value} {ds : List PyData} (e : EachIs (fun v d => ∃ as, Reads s.heap v d as) vs ds) (hal : AllAlike ds) (hk : ∀ d ∈ ds, ∃ r, d = .tuple r) (h0 : ds.head? = some (.tuple [])) (hu : ∀ d, d ∈ ds → A.units + d.depth < cLine) : SortsAt prog w A s (dataKind s.heap ds) vs := by
  have room : ∀ {d d' : PyData}, d ∈ ds → A.units + min d.depth d'.depth < cLine := fun {d d'} hd => Nat.lt_of_le_of_lt (Nat.add_le_add_left (Nat.min_le_left _ _) _) (hu d hd)
  refine ⟨fun v hv => ?_, oneType', ?_, fun h2 E Q hq => ?_⟩
  · obtain ⟨d, hd, as, r⟩ := e.left v hv
    exact ⟨_, dataKind_some hal hd r⟩
  · intro E x y a b Q ha hb hq
    obtain ⟨d, as, hd, ra, rfl⟩ := dataKind_inv ha
    obtain ⟨d', as', hd', rb, rfl⟩ := dataKind_inv hb
    obtain ⟨r1, rfl⟩ := hk d hd
    obtain ⟨r2, rfl⟩ := hk d' hd'
    rw [keyLt'_oneType]
    exact oneLt_tup ra rb (hal _ hd _ hd') (room hd) hq
  · have firsts : ∀ (vs : List Value) (ds : List PyData), EachIs (fun v d => ∃ as, Reads s.heap v d as) vs ds → (∀ d ∈ ds, ∃ r, d = .tuple r) → ∃ fs : List (Option Value), fs.length = vs.length ∧ (∀ {Q : List (Option Value) → Shared → Prop}, Q fs s → wpAny (model prog w) A (vs.mapM firstOfTuple') Q E s) ∧ (ds.head? = some (.tuple []) → fs.head? = some none) := by
      intro vs ds e
      induction e with
      | nil => exact fun _ => ⟨[], rfl, fun {Q} h => by rw [List.mapM_nil]; exact wpAny_pure h, fun h => by cases h⟩
      | @cons v d vs ds h1 t ih =>
        intro hk
        obtain ⟨fs, l1, f1, _⟩ := ih fun d hd => hk d (List.mem_cons_of_mem _ hd)
        obtain ⟨as, r⟩ := h1
        obtain ⟨xs, rfl⟩ := hk d List.mem_cons_self
        cases r with
        | @tuple a o its n _ _ ho hc hd hr =>
          refine ⟨its[0]? :: fs, by simp [l1], fun {Q} h => ?_, fun h => ?_⟩
          · rw [List.mapM_cons]
            refine wpAny_bind ?_
            rw [kas_first_eq]
            refine wpAny_bind (Looks.here (show Looks (model prog w) s.heap (typeOf (.ref a)) o.cls from (Looks.ld ho).andThen .now) ?_)
            rw [hc, if_neg (by first | decide | simp)]
            refine wpAny_bind (listItems_at ho hd (wpAny_pure ?_))
            exact wpAny_bind (f1 (Q := fun bs s' => wpAny (model prog w) A (pure (its[0]? :: bs)) Q E s') (wpAny_pure h))
          · have hx : xs = [] := by
              have q := Option.some.inj (show some (PyData.tuple xs) = some (.tuple []) from h)
              injection q
            subst hx
            have hz : its.toList = [] := by
              cases q : its.toList with
              | nil => rfl
              | cons _ _ => rw [q] at hr; cases hr
            have : its = #[] := by
              have := congrArg List.toArray hz
              simpa using this
            rw [this]
            rfl
    obtain ⟨fs, l1, f1, f2⟩ := firsts vs ds e hk
    have f2 := f2 h0
    obtain ⟨fr, rfl⟩ : ∃ fr, fs = none :: fr := by
      cases fs with
      | nil => cases f2
      | cons f fr =>
        have q : f = none := Option.some.inj f2
        exact ⟨fr, by rw [q]⟩
    rw [keyKind'_eq, List.mapM_toArray, map_eq_pure_bind]
    refine wpAny_bind (wpAny_bind (f1 (wpAny_pure ?_)))
    rw [if_neg (by simp), if_neg (by simp)]
    rw [oneTypeOnly'_eq, List.mapM_toArray, map_eq_pure_bind]
    refine wpAny_bind (wpAny_bind (wpAny_bind (kas_mapM (r := Value.type "tuple") _ (fun v hv Q' hq => ?_) (wpAny_pure ?_))))
    · obtain ⟨d, hd, as, r⟩ := e.left v hv
      obtain ⟨xs, rfl⟩ := hk d hd
      exact (looks_reads r).here hq
    · have hall : ((List.map (fun _ => Value.type "tuple") vs).toArray.all fun x => x == Value.type "tuple") = true := by
        simp only [List.all_toArray, List.all_map, List.all_eq_true]
        intro _ _
        exact beq_self_eq_true _
      have h0 : (List.map (fun _ => Value.type "tuple") vs).toArray[0]? = some (Value.type "tuple") := by
        cases vs with
        | nil => simp at h2
        | cons v vs => simp
      rw [h0]
      simp only [hall, if_true]
      exact wpAny_pure (wpAny_pure hq)
end

section
open PySem.W PySem.SeqAt PyProof.Rows
variable {prog : Program} {w : World} {A : Around} {E : Value → Shared → Prop} {s : Shared}
theorem collect_tuple {l : Addr} {vs : List Value} {Q : List Value → Shared → Prop} (hl : s.heap.IsTuple l vs.toArray)
    (h : Q vs { s with heap := (s.heap.push (seqObj "list" #[] 0)).update s.heap.objs.size (Obj.mapSeq (· ++ vs.toArray)) }) (hsz : vs.length ≤ sizeLine) :
    wpAny (model prog w) A (collect (.ref l)) Q E s := by
  obtain ⟨o, ho, hc, n, hd⟩ := id hl
  unfold collect
  refine wpAny_bind (wpAny_runValue (codeAny_builtin entry_proto_collect' ?_))
  show wpAny _ _ (do again (.builtin "list.__iadd__" ⟨[← newList [], .ref l], []⟩)) _ _ s
  refine wpAny_bind (wpAny_newList (wpAny_pure ⟨Code.quiet_builtin _ (by decide +kernel), codeAny_builtin entry_list_iadd' ?_⟩))
  show wpAny _ _ (Builtin.List.listExtendWith (.ref s.heap.objs.size) (.ref l) (.ref s.heap.objs.size)) _ _ { s with heap := s.heap.push (seqObj "list" #[] 0) }
  unfold Builtin.List.listExtendWith
  have ho' : (s.heap.push (seqObj "list" #[] 0)).get? l = some o := Heap.get?_push_of_some _ ho
  refine wpAny_bind (wpAny_typeOf (T := "tuple") ⟨o, ho', hc⟩ ?_)
  have ht : (Value.type "tuple" == Value.type "tuple") = true := by rfl
  rw [if_pos (by rw [ht]; simp)]
  refine wpAny_bind (listItems_at ho' hd ?_)
  refine wpAny_bind (listItems_at (xs := #[]) (n := 0) (Heap.get?_push_size _ rfl) rfl ?_)
  rw [if_neg (by simp)]
  refine wpAny_bind (listUpdate_at (xs := #[]) (n := 0) (Heap.get?_push_size _ rfl) rfl ?_ (Nat.zero_le _) (by show (#[] ++ vs.toArray).size ≤ sizeLine + 1; simp only [Array.size_append, List.size_toArray, List.length_nil]; omega))
  refine wpAny_pure ?_
  show wpAny (model prog w) A (do
      let o ← load s.heap.objs.size
      match o.data with
      | .seq xs _ => pure xs.toList
      | _ => unsupported "internal:collect") Q E { s with heap := (s.heap.push (seqObj "list" #[] 0)).update s.heap.objs.size (Obj.mapSeq (· ++ vs.toArray)) }
  refine wpAny_bind (wpAny_load (get?_update_seq (Heap.get?_push_size _ rfl) _) ?_)
  show wpAny _ _ (pure ((#[] : Array Value) ++ vs.toArray).toList) Q E _
  rw [show ((#[] : Array Value) ++ vs.toArray).toList = vs by simp]
  exact wpAny_pure h
theorem sorted_of_sortT {l : Addr} {vs : List Value} {kw : List (Str × Value)} {Q : Value → Shared → Prop} (hl : s.heap.IsTuple l vs.toArray) (hL : vs.length ≤ sizeLine) (ha1 : argsOk "sorted" ⟨[.ref l], kw⟩) (ha2 : ∀ x, argsOk "list.sort" ⟨[.ref x], kw⟩)
    (body : ∀ E' : Value → Shared → Prop, wpAny (model prog w) A.in1.in1 (Builtin.«list.sort» ⟨[.ref (s.heap.objs.size + 1)], kw⟩) (fun f s' => f = .done (.ret .none) ∧ Q (.ref (s.heap.objs.size + 1)) s') E' { s with heap := copyHeap s.heap vs }) :
    wpAny (model prog w) A (call (.builtin "sorted") [.ref l] kw) Q E s := by
  refine call_function_entry_kw kind_sorted plain_sorted entry_sorted ha1 ?_
  unfold Builtin.«sorted»
  refine wpAny_bind (m := checkCount "sorted" 1 1 _) (wpAny_pure ?_)
  refine wpAny_bind (collect_tuple hl ?_ hL)
  refine wpAny_bind (wpAny_newList ?_ hL)
  have hsz : ((s.heap.push (seqObj "list" #[] 0)).update s.heap.objs.size (Obj.mapSeq (· ++ vs.toArray))).objs.size = s.heap.objs.size + 1 := by
    rw [Heap.size_update, size_push']
  show wpAny _ _ _ _ _ { s with heap := copyHeap s.heap vs }
  rw [hsz]
  refine wpAny_bind (wpAny_holding (wpAny_call_entry_kw slot_list_sort ⟨_, copyHeap_at s.heap vs, rfl⟩ entry_list_sort ?body (ha2 _)))
  case body =>
    show wpAny (model prog w) A.in1.in1 (Builtin.«list.sort» ⟨[.ref (s.heap.objs.size + 1)], kw⟩) _ _ _
    refine wpAny_mono (body _) (fun f s' hf => ?_) fun _ _ e => e
    obtain ⟨rfl, hq⟩ := hf
    exact ⟨_, rfl, wpAny_pure ⟨_, rfl, hq⟩⟩
theorem sorted_valsT {l : Addr} {vs : List Value} {κ : PyProof.Rows.KeyKind} {Q : Value → Shared → Prop} (hl : s.heap.IsTuple l vs.toArray) (S : SortsAt prog w A.in1.in1 { s with heap := sortingHeap (copyHeap s.heap vs) (s.heap.objs.size + 1) vs } κ vs) (hL : vs.length ≤ sizeLine)
    (h : Q (.ref (s.heap.objs.size + 1)) { s with heap := sortedAll s.heap vs (sortVals κ false vs vs).toArray }) : wpAny (model prog w) A (call (.builtin "sorted") [.ref l]) Q E s :=
  sorted_of_sortT hl hL (args_sorted1 _) (fun _ => args_list_sort _) fun _ => list_sort_vals (s := { s with heap := copyHeap s.heap vs }) (copyHeap_at s.heap vs) S hL ⟨rfl, h⟩
end
/-! ### sorted -/
def leD (a b : D) : Bool := match a.py, b.py with
  | some p, some q => !PySem.W.dataLt q p
  | _, _ => true
def isTup : PyData → Bool
  | .tuple _ => true
  | _ => false
def isTup1 : PyData → Bool
  | .tuple (_ :: _) => true
  | _ => false
def isTup0 : PyData → Bool
  | .tuple [] => true
  | _ => false
def sortOk (ps : List PyData) : Bool :=
  (ps.all fun p => ps.all fun q => PySem.W.alike p q) && (ps.all fun p => decide (p.depth ≤ 64)) &&
    (ps.all isTup1 || (ps.all fun p => notNone p && !isTup p) || (ps.all isTup && ps.head?.any isTup0)) && decide (ps.length ≤ 1000000)
def sortL (l : List D) : Option (List D) := (D.pyL l).bind fun ps => if sortOk ps = true then some (l.mergeSort leD) else none
def bSorted : List D → Option D
  | [.lst l] => (sortL l).map .lst
  | [.tup l] => (sortL l).map .lst
  | _ => none
theorem pyL_map : ∀ {l : List D} {ps : List PyData}, D.pyL l = some ps → ps = l.map fun d => d.py.getD .none
  | [], ps, h => by unfold D.pyL at h; cases h; rfl
  | d :: l, ps, h => by
    unfold D.pyL at h
    cases h1 : d.py with
    | none => rw [h1] at h; cases h
    | some p =>
      cases h2 : D.pyL l with
      | none => rw [h1, h2] at h; cases h
      | some qs =>
        rw [h1, h2] at h
        cases h
        rw [List.map_cons, h1, pyL_map h2]
        rfl
theorem pyL_mem : ∀ {l : List D} {ps : List PyData}, D.pyL l = some ps → ∀ d ∈ l, ∃ p, d.py = some p ∧ p ∈ ps
  | [], ps, h, _, hd => by cases hd
  | d :: l, ps, h, d', hd => by
    unfold D.pyL at h
    cases h1 : d.py with
    | none => rw [h1] at h; cases h
    | some p =>
      cases h2 : D.pyL l with
      | none => rw [h1, h2] at h; cases h
      | some qs =>
        rw [h1, h2] at h
        cases h
        rcases List.mem_cons.mp hd with rfl | hd
        · exact ⟨p, h1, List.mem_cons_self⟩
        · obtain ⟨p', e1, e2⟩ := pyL_mem h2 d' hd
          exact ⟨p', e1, List.mem_cons_of_mem _ e2⟩
theorem repl_zip {C : Cf} {H : Hp} : ∀ {vs : List V} {ds : List D} {us : List Value}, RepL C H vs ds → Vals vs us → PySem.W.EachIs (fun u (b : V × D) => RelV b.1 u ∧ Rep C H b.1 b.2) us (vs.zip ds)
  | _, _, _, .nil, .nil => .nil
  | _, _, _, .cons r t, .cons r' t' => .cons ⟨r', r⟩ (repl_zip t t')
theorem zip_fst {α β : Type} : ∀ {xs : List α} {ys : List β}, xs.length = ys.length → (xs.zip ys).map (·.1) = xs
  | [], [], _ => rfl
  | x :: xs, y :: ys, h => by rw [List.zip_cons_cons, List.map_cons, zip_fst (by simpa using h)]
theorem zip_snd {α β : Type} : ∀ {xs : List α} {ys : List β}, xs.length = ys.length → (xs.zip ys).map (·.2) = ys
  | [], [], _ => rfl
  | x :: xs, y :: ys, h => by rw [List.zip_cons_cons, List.map_cons, zip_snd (by simpa using h)]
theorem each_vals {C : Cf} {H : Hp} : ∀ {us : List Value} {bs : List (V × D)}, PySem.W.EachIs (fun u (b : V × D) => RelV b.1 u ∧ Rep C H b.1 b.2) us bs → Vals (bs.map (·.1)) us ∧ RepL C H (bs.map (·.1)) (bs.map (·.2))
  | _, _, .nil => ⟨.nil, .nil⟩
  | _, _, .cons h t => by
    obtain ⟨h1, h2⟩ := each_vals t
    exact ⟨.cons h.1 h1, .cons h.2 h2⟩
/-- the items of a list or tuple sorted -/
theorem sorted_run {X : Cx} {C : Cf} {W : WX} (ok : Cok X C W) {pins : List (Addr × Obj)} {σ : L2.St} {H : Hp} {s : Shared} {vs : List V} {us : List Value} {l m : List D} (I : Inv X pins σ H s) (hl : RepL C H vs l) (rv : Vals vs us) (e : sortL l = some m) :
    ∃ (bs : List (V × D)), bs = (vs.zip l).mergeSort (PySem.W.dataLe false fun b => (b.2.py).getD .none) ∧ bs.map (·.2) = m ∧ us.length ≤ 1000000 ∧
      ∀ (A : Around) (s' : Shared), A.units + 70 < cLine → (∀ b o, s.heap.get? b = some o → s'.heap.get? b = some o) → PySem.W.SortsAt X.prog X.w A s' (PySem.W.dataKind s'.heap ((vs.zip l).map fun b => (b.2.py).getD .none)) us ∧
        PySem.W.EachIs (fun u (b : V × D) => RelV b.1 u ∧ Rep C H b.1 b.2) (PySem.W.sortVals (PySem.W.dataKind s'.heap ((vs.zip l).map fun b => (b.2.py).getD .none)) false us us) bs := by
  obtain ⟨ps, e1, e2⟩ := Option.bind_eq_some_iff.mp e
  obtain ⟨hk, e2⟩ := ite_some e2
  subst e2
  have hlen := hl.length
  have hps := pyL_map e1
  have hmap : ((vs.zip l).map fun b => (b.2.py).getD .none) = ps := by
    rw [hps]
    have : ((vs.zip l).map fun b => (b.2.py).getD PyData.none) = ((vs.zip l).map (·.2)).map fun d => d.py.getD .none := by rw [List.map_map]; rfl
    rw [this, zip_snd hlen]
  unfold sortOk at hk
  simp only [Bool.and_eq_true, decide_eq_true_eq] at hk
  obtain ⟨⟨⟨h1, h2⟩, h3⟩, h4⟩ := hk
  have hal : PySem.W.AllAlike ps := fun d hd d' hd' => List.all_eq_true.mp (List.all_eq_true.mp h1 d hd) d' hd'
  have hdep : ∀ d ∈ ps, d.depth ≤ 64 := fun d hd => of_decide_eq_true (List.all_eq_true.mp h2 d hd)
  have hplen : ps.length = l.length := by rw [hps, List.length_map]
  refine ⟨_, rfl, ?_, ?_, fun A s' hu hs => ?_⟩
  · have q := PySem.W.sort_maps (r := PySem.W.dataLe false fun b : V × D => (b.2.py).getD PyData.none) (s := leD) (fun b : V × D => b.2) (l := vs.zip l) fun a ha b hb => ?_
    · rw [q, zip_snd hlen]
    · show (!PySem.W.dataLt ((b.2.py).getD .none) ((a.2.py).getD .none)) = leD a.2 b.2
      have ma : a.2 ∈ l := (List.of_mem_zip ha).2
      have mb : b.2 ∈ l := (List.of_mem_zip hb).2
      obtain ⟨p, ep, _⟩ := pyL_mem e1 _ ma
      obtain ⟨p', ep', _⟩ := pyL_mem e1 _ mb
      unfold leD
      rw [ep, ep']
      rfl
  · rw [← rv.length, hlen, ← hplen]
    exact h4
  · have er : PySem.W.EachIs (fun u (b : V × D) => ∃ as, Reads s'.heap u ((b.2.py).getD .none) as) us (vs.zip l) := by
      have e0 := PySem.W.each_mem (repl_zip hl rv)
      refine e0.mono fun u b ⟨⟨r1, r2⟩, mb⟩ => ?_
      have mb' : b.2 ∈ l := (List.of_mem_zip mb).2
      obtain ⟨p, ep, _⟩ := pyL_mem e1 _ mb'
      have dp : Dp X.K H b.1 p := by rw [ok.k]; exact Rep.dp _ _ p r2 ep
      obtain ⟨as, rr⟩ := Dp.reads I p b.1 u dp r1
      rw [ep]
      exact ⟨as, PyProof.Rows.Reads.keeps hs rr⟩
    have hu' : ∀ d, d ∈ ps → A.units + d.depth < cLine := fun d hd => by have := hdep d hd; omega
    have er' := PySem.W.each_map (R := fun v d => ∃ as, Reads s'.heap v d as) (fun b : V × D => (b.2.py).getD PyData.none) er
    rw [hmap]
    rw [hmap] at er'
    refine ⟨?_, ?_⟩
    · rw [Bool.or_eq_true, Bool.or_eq_true, Bool.and_eq_true] at h3
      rcases h3 with (h3 | h3) | h3
      · refine PySem.W.SortsAt.data er' hal (.inl fun d hd => ?_) hu'
        have q := List.all_eq_true.mp h3 d hd
        cases d with
        | tuple xs =>
          cases xs with
          | nil => cases q
          | cons x r => exact ⟨x, r, rfl⟩
        | _ => cases q
      · refine PySem.W.SortsAt.data er' hal (.inr fun d hd => ?_) hu'
        have q := List.all_eq_true.mp h3 d hd
        rw [Bool.and_eq_true] at q
        refine ⟨fun z => ?_, fun xs z => ?_⟩
        · rw [z] at q
          cases q.1
        · rw [z] at q
          cases q.2
      · refine sortsAt_tup0 er' hal (fun d hd => ?_) ?_ hu'
        · have q := List.all_eq_true.mp h3.1 d hd
          cases d with
          | tuple xs => exact ⟨xs, rfl⟩
          | _ => cases q
        · cases ps with
          | nil => cases h3.2
          | cons p ps =>
            have q : isTup0 p = true := h3.2
            cases p with
            | tuple xs =>
              cases xs with
              | nil => rfl
              | cons _ _ => cases q
            | _ => cases q
    · have q := PySem.W.sortVals_data (h' := s'.heap) (R := fun u (b : V × D) => RelV b.1 u ∧ Rep C H b.1 b.2) (enc := fun b : V × D => (b.2.py).getD PyData.none) false (repl_zip hl rv) er (by rw [hmap]; exact hal)
      rw [hmap] at q
      exact q
theorem cb_sorted : CallD (.builtin "sorted") bSorted := by
  intro X C W ok pins s σ H vs us Q I r h
  obtain ⟨ds, d, rd, e, oa, q⟩ := h
  cases rd with
  | nil => cases e
  | cons ra rt =>
    cases rt with
    | cons _ _ => cases ra <;> cases e
    | nil =>
      cases ra with
      | @lst p xs l hp hl =>
        obtain ⟨m, e1, e2⟩ := Option.map_eq_some_iff.mp e
        subst e2
        obtain ⟨its, rv, pl, hz⟩ := I.list (hp.sqX ok.k)
        rw [Vals.ref1 r]
        obtain ⟨bs, _, hm, hL, hS⟩ := sorted_run ok I hl rv e1
        obtain ⟨S, EI⟩ := hS X.A.in1.in1 { s with heap := PySem.W.sortingHeap (PySem.W.copyHeap s.heap its) (s.heap.objs.size + 1) its } (by have := ok.un; show X.A.units + 1 + 1 + 70 < cLine; omega) fun b o hb => PySem.W.sorting_copy_old hb
        refine PySem.W.sorted_vals pl.isList S (line_ge hL) ?_
        obtain ⟨v1, v2⟩ := each_vals EI
        obtain ⟨c, hc⟩ := sortedAll_at s.heap its (List.toArray (PySem.W.sortVals (PySem.W.dataKind (PySem.W.sortingHeap (PySem.W.copyHeap s.heap its) (s.heap.objs.size + 1) its) ((xs.zip l).map fun b => (b.2.py).getD .none)) false its its))
        have hn := I.hok.fresh (Nat.le_succ s.heap.objs.size)
        have vl := v1.length
        refine ⟨.ref _, _, I.laid (t' := s.toks) (o := .lst (bs.map (·.1))) (fun b o => sortedAll_old) (Nat.le_succ _) ⟨?_, _, c, v1, hc⟩, rfl, q _ _ (same_upd hn) ?_⟩
        · rw [vl, PySem.W.sortVals_length false rfl]
          exact line_ge hL
        · rw [← hm]
          exact new_lst hn oa v2
      | @tup p xs l hp hl =>
        obtain ⟨m, e1, e2⟩ := Option.map_eq_some_iff.mp e
        subst e2
        obtain ⟨its, rv, pl, hz⟩ := I.tuple (hp.sqX ok.k)
        rw [Vals.ref1 r]
        obtain ⟨bs, _, hm, hL, hS⟩ := sorted_run ok I hl rv e1
        obtain ⟨S, EI⟩ := hS X.A.in1.in1 { s with heap := PySem.W.sortingHeap (PySem.W.copyHeap s.heap its) (s.heap.objs.size + 1) its } (by have := ok.un; show X.A.units + 1 + 1 + 70 < cLine; omega) fun b o hb => PySem.W.sorting_copy_old hb
        refine sorted_valsT (show s.heap.IsTuple p its.toArray from pl) S (line_ge hL) ?_
        obtain ⟨v1, v2⟩ := each_vals EI
        obtain ⟨c, hc⟩ := sortedAll_at s.heap its (List.toArray (PySem.W.sortVals (PySem.W.dataKind (PySem.W.sortingHeap (PySem.W.copyHeap s.heap its) (s.heap.objs.size + 1) its) ((xs.zip l).map fun b => (b.2.py).getD .none)) false its its))
        have hn := I.hok.fresh (Nat.le_succ s.heap.objs.size)
        have vl := v1.length
        refine ⟨.ref _, _, I.laid (t' := s.toks) (o := .lst (bs.map (·.1))) (fun b o => sortedAll_old) (Nat.le_succ _) ⟨?_, _, c, v1, hc⟩, rfl, q _ _ (same_upd hn) ?_⟩
        · rw [vl, PySem.W.sortVals_length false rfl]
          exact line_ge hL
        · rw [← hm]
          exact new_lst hn oa v2
      | _ => cases e
end Tc

set_option Elab.async false
set_option linter.all false
set_option maxRecDepth 100000
set_option maxHeartbeats 4000000
namespace Tc
open PySem PySem.Spec PyProof.Rows L2

/-! ### another address that is not to be read -/
def Cf.plus (C : Cf) (P : Addr → Prop) : Cf := { C with O := fun b => C.O b ∨ P b, nin := fun a h => .inl (C.nin a h) }
theorem plus_no {C : Cf} {P : Addr → Prop} {a : Addr} (h : ¬ (C.plus P).O a) : ¬ C.O a := fun q => h (.inl q)
mutual
theorem Rep.minus {C : Cf} {P : Addr → Prop} {H : Hp} : ∀ (d : D) (v : V), Rep (C.plus P) H v d → Rep C H v d
  | .non, _, h => by cases h; exact .non
  | .bl b, _, h => by cases h; exact .bl b
  | .int i, _, h => by cases h; exact .int i
  | .str s, _, h => by cases h; exact .str s
  | .lst ds, _, h => by
    cases h with
    | lst a b => exact .lst ⟨plus_no a.1, a.2⟩ (RepL.minus ds _ b)
  | .tup ds, _, h => by
    cases h with
    | tup a b => exact .tup (a.imp (fun a => ⟨plus_no a.1, a.2⟩) id) (RepL.minus ds _ b)
  | .scr ns, _, h => by
    cases h with
    | scr a => exact .scr (a.imp (fun a => ⟨plus_no a.1, a.2⟩) id)
  | .hnd n, _, h => by
    cases h with
    | hnd a => exact .hnd a
  | .lam n, _, h => by
    cases h with
    | lam a => exact .lam a
  | .ty n, _, h => by cases h; exact .ty n
  | .cls n, _, h => by cases h; exact .cls n
  | .dic ks vs, _, h => by
    cases h with
    | dic0 a b => exact .dic0 (plus_no a) b
theorem RepL.minus {C : Cf} {P : Addr → Prop} {H : Hp} : ∀ (ds : List D) (vs : List V), RepL (C.plus P) H vs ds → RepL C H vs ds
  | [], _, h => by cases h; exact .nil
  | d :: ds, _, h => by
    cases h with
    | cons a b => exact .cons (Rep.minus d _ a) (RepL.minus ds _ b)
end
mutual
theorem Rep.plus {C : Cf} {P : Addr → Prop} {H : Hp} (hp : ∀ a, P a → H a = none) : ∀ (d : D) (v : V), Rep C H v d → Rep (C.plus P) H v d
  | .non, _, h => by cases h; exact .non
  | .bl b, _, h => by cases h; exact .bl b
  | .int i, _, h => by cases h; exact .int i
  | .str s, _, h => by cases h; exact .str s
  | .lst ds, _, h => by
    cases h with
    | lst a b => exact .lst ⟨fun q => q.elim a.1 (fun q => by have := hp _ q; rw [a.2] at this; cases this), a.2⟩ (RepL.plus hp ds _ b)
  | .tup ds, _, h => by
    cases h with
    | tup a b => exact .tup (a.imp (fun a => ⟨fun q => q.elim a.1 (fun q => by have := hp _ q; rw [a.2] at this; cases this), a.2⟩) id) (RepL.plus hp ds _ b)
  | .scr ns, _, h => by
    cases h with
    | scr a => exact .scr (a.imp (fun a => ⟨fun q => q.elim a.1 (fun q => by obtain ⟨o, b⟩ := a.2; have := hp _ q; rw [b] at this; cases this), a.2⟩) id)
  | .hnd n, _, h => by
    cases h with
    | hnd a => exact .hnd a
  | .lam n, _, h => by
    cases h with
    | lam a => exact .lam a
  | .ty n, _, h => by cases h; exact .ty n
  | .cls n, _, h => by cases h; exact .cls n
  | .dic ks vs, _, h => by
    cases h with
    | dic0 a b => exact .dic0 (fun q => q.elim a fun q => by have := hp _ q; rcases b with b | b <;> (rw [b] at this; cases this)) b
theorem RepL.plus {C : Cf} {P : Addr → Prop} {H : Hp} (hp : ∀ a, P a → H a = none) : ∀ (ds : List D) (vs : List V), RepL C H vs ds → RepL (C.plus P) H vs ds
  | [], _, h => by cases h; exact .nil
  | d :: ds, _, h => by
    cases h with
    | cons a b => exact .cons (Rep.plus hp d _ a) (RepL.plus hp ds _ b)
end
theorem Has.plus {C : Cf} {P : Addr → Prop} {H : Hp} {ρ : Rho} {σ : L2.St} (hp : ∀ a, P a → H a = none) (e : Has C ρ σ H) : Has (C.plus P) ρ σ H := fun i d h => by
  obtain ⟨v, h1, h2⟩ := e i d h
  exact ⟨v, h1, Rep.plus hp d v h2⟩
theorem Has.minus {C : Cf} {P : Addr → Prop} {H : Hp} {ρ : Rho} {σ : L2.St} (e : Has (C.plus P) ρ σ H) : Has C ρ σ H := fun i d h => by
  obtain ⟨v, h1, h2⟩ := e i d h
  exact ⟨v, h1, Rep.minus d v h2⟩
/-- a new list at a new address, set apart -/
theorem WS.plus {C : Cf} {g : G} {H : Hp} {a : Addr} {vs : List V} (w : WS C g H) (hn : H a = none) : WS (C.plus (· = a)) g (upd H a (.lst vs)) :=
  ⟨fun b q => by
    rcases q with q | q
    · exact w.oat.same (same_upd hn) b q
    · subst q
      exact .inl ⟨vs, upd_same⟩, (w.same (same_upd hn)).j, w.len, fun n b e => by
    obtain ⟨ds, us, e1, e2, e3⟩ := w.con n b e
    exact ⟨ds, us, e1, same_upd hn _ _ e2, RepL.same (same_upd hn) (RepL.plus (fun c q => by subst q; exact hn) ds us e3)⟩⟩
theorem WS.minus {C : Cf} {P : Addr → Prop} {g : G} {H : Hp} (w : WS (C.plus P) g H) : WS C g H :=
  ⟨fun b q => w.oat b (.inl q), w.j, w.len, fun n b e => by
    obtain ⟨ds, us, e1, e2, e3⟩ := w.con n b e
    exact ⟨ds, us, e1, e2, RepL.minus ds us e3⟩⟩
theorem Ext.over {C : Cf} {H0 H : Hp} {a : Addr} {u : HO} (x : Ext C H0 H) (hn : H0 a = none) : Ext C H0 (upd H a u) := fun b o e n => by
  rw [upd_ne (ne_of_none e hn)]
  exact x b o e n
/-- data, as seen when a new address is set apart -/
theorem Rep.far {C : Cf} {P : Addr → Prop} {H H' : Hp} (o : Oat C H) (hp : ∀ a, P a → H a = none) (x : Ext C H H') (d : D) (v : V) (h : Rep C H v d) : Rep (C.plus P) H' v d :=
  Rep.exts (C := C.plus P) (fun b u e n => x b u e fun q => n (.inl (C.nin b q))) (fun _ _ q => x.lam o q) d v (Rep.plus hp d v h)
theorem RepL.far {C : Cf} {P : Addr → Prop} {H H' : Hp} (o : Oat C H) (hp : ∀ a, P a → H a = none) (x : Ext C H H') (d : List D) (v : List V) (h : RepL C H v d) : RepL (C.plus P) H' v d :=
  RepL.exts (C := C.plus P) (fun b u e n => x b u e fun q => n (.inl (C.nin b q))) (fun _ _ q => x.lam o q) d v (RepL.plus hp d v h)
theorem Has.far {C : Cf} {P : Addr → Prop} {H H' : Hp} {ρ : Rho} {σ : L2.St} (o : Oat C H) (hp : ∀ a, P a → H a = none) (x : Ext C H H') (e : Has C ρ σ H) : Has (C.plus P) ρ σ H' := fun i d h => by
  obtain ⟨v, h1, h2⟩ := e i d h
  exact ⟨v, h1, Rep.far o hp x d v h2⟩
/-- a list that is set apart is written: nothing else sees it -/
theorem put_lam {C : Cf} {H : Hp} {a : Addr} {vs us : List V} (h : H a = some (.lst vs)) {n : Nat} {b : Addr} (q : C.L n b H) : C.L n b (upd H a (.lst us)) := C.lst n b H _ q fun c o e n1 _ => by
  rw [upd_ne (fun z => by subst z; rw [h] at e; exact n1 vs (Option.some.inj e).symm)]
  exact e
theorem Rep.put {C : Cf} {H : Hp} {a : Addr} {vs us : List V} (h : H a = some (.lst vs)) (hO : C.O a) (d : D) (v : V) (r : Rep C H v d) : Rep C (upd H a (.lst us)) v d :=
  Rep.exts (fun b u e n => by rw [upd_ne (fun z : b = a => n (by rw [z]; exact hO))]; exact e) (fun _ _ q => put_lam h q) d v r
theorem RepL.put {C : Cf} {H : Hp} {a : Addr} {vs us : List V} (h : H a = some (.lst vs)) (hO : C.O a) (d : List D) (v : List V) (r : RepL C H v d) : RepL C (upd H a (.lst us)) v d :=
  RepL.exts (fun b u e n => by rw [upd_ne (fun z : b = a => n (by rw [z]; exact hO))]; exact e) (fun _ _ q => put_lam h q) d v r
theorem Has.put {C : Cf} {ρ : Rho} {σ : L2.St} {H : Hp} {a : Addr} {vs us : List V} (h : H a = some (.lst vs)) (hO : C.O a) (e : Has C ρ σ H) : Has C ρ σ (upd H a (.lst us)) := fun i d q => by
  obtain ⟨v, h1, h2⟩ := e i d q
  exact ⟨v, h1, Rep.put h hO d v h2⟩
theorem WS.put {C : Cf} {g : G} {H : Hp} {a : Addr} {vs us : List V} (w : WS C g H) (h : H a = some (.lst vs)) (hO : C.O a) (na : ¬ C.N a) : WS C g (upd H a (.lst us)) := by
  refine ⟨fun b q => ?_, C.jst _ _ w.j fun b o e n => ?_, w.len, fun n b e => ?_⟩
  · by_cases hb : b = a
    · subst hb
      exact .inl ⟨us, upd_same⟩
    · rw [upd_ne hb]
      exact w.oat b q
  · rw [upd_ne (fun q => by subst q; rw [h] at e; exact n vs (Option.some.inj e).symm)]
    exact e
  · obtain ⟨ds, ws, e1, e2, e3⟩ := w.con n b e
    have hb : b ≠ a := fun q => by
      subst q
      exact na (C.ain b (List.mem_of_getElem? e))
    exact ⟨ds, ws, e1, by rw [upd_ne hb]; exact e2, RepL.put h hO ds ws e3⟩

theorem RdL.far {C : Cf} {P : Addr → Prop} {H H' : Hp} {a : Addr} {vs : List V} (hp : ∀ a, P a → H a = none) (x : ∀ b o, H b = some o → ¬ C.O b → H' b = some o) (h : RdL C H a vs) : RdL (C.plus P) H' a vs :=
  ⟨fun q => q.elim h.1 (fun q => by have := hp a q; rw [h.2] at this; cases this), x _ _ h.2 h.1⟩
theorem RdT.far {C : Cf} {P : Addr → Prop} {H H' : Hp} {a : Addr} {vs : List V} (hp : ∀ a, P a → H a = none) (x : ∀ b o, H b = some o → ¬ C.O b → H' b = some o) (h : RdT C H a vs) : RdT (C.plus P) H' a vs :=
  h.imp (fun h => ⟨fun q => q.elim h.1 (fun q => by have := hp a q; rw [h.2] at this; cases this), x _ _ h.2 h.1⟩) id
/-! ### what is walked -/
/-- data that is to be read stays -/
def ExtO (C : Cf) (H H' : Hp) : Prop := ∀ b o, H b = some o → ¬ C.O b → H' b = some o
theorem Ext.o {C : Cf} {H H' : Hp} (x : Ext C H H') : ExtO C H H' := fun b o e n => x b o e fun q => n (C.nin b q)
theorem ExtO.lam {C : Cf} {H H' : Hp} (x : ExtO C H H') (o : Oat C H) {n : Nat} {a : Addr} (h : C.L n a H) : C.L n a H' :=
  C.lst n a H H' h fun b u e n1 n2 => x b u e fun q => by
    rcases o b q with ⟨v, z⟩ | ⟨v, z⟩
    · rw [e] at z; exact n1 v (Option.some.inj z)
    · rw [e] at z; exact n2 v (Option.some.inj z)
theorem RepL.farO {C : Cf} {P : Addr → Prop} {H H' : Hp} (o : Oat C H) (hp : ∀ a, P a → H a = none) (x : ExtO C H H') (d : List D) (v : List V) (h : RepL C H v d) : RepL (C.plus P) H' v d :=
  RepL.exts (C := C.plus P) (fun b u e n => x b u e fun q => n (.inl q)) (fun _ _ q => x.lam o q) d v (RepL.plus hp d v h)
def IterOk (C : Cf) (H0 : Hp) (J : It) (xs : List D) : Prop := ∀ (P : Addr → Prop), (∀ a, P a → H0 a = none) → ∀ i H', ExtO C H0 H' → Oat (C.plus P) H' → (xs.length ≤ i → J.stop i H') ∧ ∀ d, xs[i]? = some d → J.go i H' ∧ ∀ x H'', J.yld i H' x H'' → Same H' H'' ∧ Rep (C.plus P) H'' x d
def OutI (C : Cf) (H : Hp) (r : R (List D)) (Q : It → Hp → Prop) (X : Nat → Hp → Prop) : Prop := match r with
  | .ok xs g => ∀ J H', Ext C H H' → WS C g H' → IterOk C H' J xs → Q J H'
  | .exc c g => ∀ H', Ext C H H' → WS C g H' → X c H'
  | .bad => False
theorem OutI.from {C : Cf} {H H1 : Hp} {r : R (List D)} {Q : It → Hp → Prop} {X : Nat → Hp → Prop} (o : OutI C H r Q X) (x : Ext C H H1) : OutI C H1 r Q X := by
  cases r with
  | ok d g => exact fun v H' e w r => o v H' (x.trans e) w r
  | exc c g => exact fun H' e w => o H' (x.trans e) w
  | bad => exact o
def tID (C : Cf) (W : WX) (ρ : Rho) (m : M (List D)) : TI := fun σ H R => ∃ g, WS C g H ∧ Has C ρ σ H ∧ OutI C H (m g) R (xw C W σ)
structure ID (X : Cx) (C : Cf) (W : WX) (ρ : Rho) (tg iter : Expr) (m : M (List D)) : Prop where
  pi : PI X tg iter (tID C W ρ m)
theorem pi_imp {X : Cx} {tg e : Expr} {t t' : TI} (h : PI X tg e t) (i : ∀ σ H Q, t' σ H Q → t σ H Q) : PI X tg e t' := ⟨fun p s σ H Q I q => h.run p s σ H Q I (i _ _ _ q)⟩
section
variable {X : Cx} {C : Cf} {W : WX} {ρ : Rho} {pos : Pos} {tg : Expr}
theorem stepI {σ : L2.St} {H : Hp} {m : M D} {k : D → M (List D)} {Q : It → Hp → Prop} {P : VK} (h : tID C W ρ (M.bind m k) σ H Q)
    (c : ∀ d v H1 g1, Ext C H H1 → WS C g1 H1 → Has C ρ σ H1 → Rep C H1 v d → OutI C H1 (k d g1) Q (xw C W σ) → P v H1) : tED C W ρ m σ H P := by
  obtain ⟨g, w, e, o⟩ := h
  refine ⟨g, w, e, ?_⟩
  unfold M.bind at o
  cases hm : m g with
  | ok d g1 =>
    rw [hm] at o
    exact fun v H1 x w1 r => c d v H1 g1 x w1 (e.ext x w.oat) r (OutI.from (show OutI C H (k d g1) Q _ from o) x)
  | exc c g1 =>
    rw [hm] at o
    exact o
  | bad =>
    rw [hm] at o
    exact o
theorem stepLI {σ : L2.St} {H : Hp} {m : M (List D)} {k : List D → M (List D)} {Q : It → Hp → Prop} {P : List V → Hp → Prop} (h : tID C W ρ (M.bind m k) σ H Q)
    (c : ∀ ds vs H1 g1, Ext C H H1 → WS C g1 H1 → Has C ρ σ H1 → RepL C H1 vs ds → OutI C H1 (k ds g1) Q (xw C W σ) → P vs H1) : tLD C W ρ m σ H P := by
  obtain ⟨g, w, e, o⟩ := h
  refine ⟨g, w, e, ?_⟩
  unfold M.bind at o
  cases hm : m g with
  | ok d g1 =>
    rw [hm] at o
    exact fun v H1 x w1 r => c d v H1 g1 x w1 (e.ext x w.oat) r (OutI.from (show OutI C H (k d g1) Q _ from o) x)
  | exc c g1 =>
    rw [hm] at o
    exact o
  | bad =>
    rw [hm] at o
    exact o
/-- a list or a tuple -/
theorem pi_any {l : Expr} {tl : TE} (hl : PE X l tl) : PI X tg l (fun σ H R => tl σ H fun x H1 => ∃ a, x = .ref a ∧ ((∃ xs, SqL X.K H1 a xs ∧ R (Itl X.K a) H1) ∨ ∃ xs, SqT X.K H1 a xs ∧ R (Itt X.K a) H1)) := by
  refine ⟨fun pins s σ H R I h => ?_⟩
  refine thn (hl.run pins s σ H _ I h) fun v s1 ⟨x, H1, I1, r1, q1⟩ => ?_
  obtain ⟨a, e, q1⟩ := q1
  subst e
  cases r1
  rcases q1 with ⟨xs, hq, q⟩ | ⟨xs, hq, q⟩
  · obtain ⟨its, rv, p, hz⟩ := I1.list hq
    refine wpAny_pyIter_list p.isList ?_
    refine ⟨s1.heap.objs.size, [s1.heap.objs.size], _, _, H1, rfl, I1.kept (t' := s1.toks) fun b o e => Heap.get?_push_of_some _ e, turn_list a _, ⟨_, Heap.get?_push_size _ rfl, rfl, rfl⟩, fun b hb => ?_, q⟩
    have e : b = s1.heap.objs.size := by simpa using hb
    subst e
    exact I1.fpOk (Nat.le_refl _) (I1.hok.fresh (Nat.le_refl _))
  · obtain ⟨its, rv, p, hz⟩ := I1.tuple hq
    refine wpAny_pyIter_tuple (show s1.heap.IsTuple a its.toArray from p) ?_
    refine ⟨s1.heap.objs.size, [s1.heap.objs.size], _, _, H1, rfl, I1.kept (t' := s1.toks) fun b o e => Heap.get?_push_of_some _ e, turn_tuple a _, ⟨_, Heap.get?_push_size _ rfl, rfl, rfl⟩, fun b hb => ?_, q⟩
    have e : b = s1.heap.objs.size := by simpa using hb
    subst e
    exact I1.fpOk (Nat.le_refl _) (I1.hok.fresh (Nat.le_refl _))
def D.items : D → Option (List D)
  | .lst l => some l
  | .tup l => some l
  | _ => none
def itemsM (m : M D) : M (List D) := M.bind m fun d => ofO d.items
theorem iter_lst {H : Hp} {a : Addr} {vs : List V} {ds : List D} (h : RdL C H a vs) (r : RepL C H vs ds) (o : Oat C H) : IterOk C H (Itl C.K a) ds := fun P hp i H' x o' => by
  have h' : RdL (C.plus P) H' a vs := RdL.far hp x h
  have r' := RepL.farO o hp x ds vs r
  refine ⟨fun hi => ⟨vs, h'.sq, by rw [r'.length]; exact hi⟩, fun d hd => ?_⟩
  obtain ⟨v, hv, rv⟩ := r'.getD hd
  refine ⟨⟨vs, v, h'.sq, hv⟩, fun y H'' hy => ?_⟩
  obtain ⟨e, f⟩ := hy
  subst e
  have q := f vs h'.sq
  rw [hv] at q
  cases q
  exact ⟨.refl _, rv⟩
theorem iter_tup {H : Hp} {a : Addr} {vs : List V} {ds : List D} (h : RdT C H a vs) (r : RepL C H vs ds) (o : Oat C H) : IterOk C H (Itt C.K a) ds := fun P hp i H' x o' => by
  have h' : RdT (C.plus P) H' a vs := RdT.far hp x h
  have r' := RepL.farO o hp x ds vs r
  refine ⟨fun hi => ⟨vs, h'.sq, by rw [r'.length]; exact hi⟩, fun d hd => ?_⟩
  obtain ⟨v, hv, rv⟩ := r'.getD hd
  refine ⟨⟨vs, v, h'.sq, hv⟩, fun y H'' hy => ?_⟩
  obtain ⟨e, f⟩ := hy
  subst e
  have q := f vs h'.sq
  rw [hv] at q
  cases q
  exact ⟨.refl _, rv⟩
theorem OutI.ofO_some {H : Hp} {o : Option (List D)} {g : G} {Q : It → Hp → Prop} {Y : Nat → Hp → Prop} (h : OutI C H (ofO o g) Q Y) : ∃ d, o = some d ∧ ∀ J H', Ext C H H' → WS C g H' → IterOk C H' J d → Q J H' := by
  cases o with
  | none => exact h.elim
  | some d => exact ⟨d, rfl, h⟩
theorem id_any {l : Expr} {m : M D} (ok : Cok X C W) (hl : ED X C W ρ l m) : ID X C W ρ tg l (itemsM m) :=
  ⟨pi_imp (pi_any hl.pe) fun σ H Q h => stepI h fun d v H1 g1 x w1 e1 r1 o1 => by
    obtain ⟨xs, ex, q⟩ := OutI.ofO_some o1
    cases r1 with
    | @lst a vs ds ha hd =>
      cases ex
      exact ⟨a, rfl, .inl ⟨vs, ha.sqX ok.k, by rw [ok.k]; exact q _ H1 (.refl C H1) w1 (iter_lst ha hd w1.oat)⟩⟩
    | @tup a vs ds ha hd =>
      cases ex
      exact ⟨a, rfl, .inr ⟨vs, ha.sqX ok.k, by rw [ok.k]; exact q _ H1 (.refl C H1) w1 (iter_tup ha hd w1.oat)⟩⟩
    | _ => cases ex⟩
def rangeD (lo : Int) (n : Nat) : List D := (List.range n).map fun (i : Nat) => D.int (lo + i)
theorem iter_rng {H : Hp} {lo : Int} {n : Nat} : IterOk C H (Itr lo n) (rangeD lo n) := fun P hp i H' x o' => by
  unfold rangeD
  refine ⟨fun hi => ?_, fun d hd => ?_⟩
  · rw [List.length_map, List.length_range] at hi
    exact hi
  · rw [List.getElem?_map] at hd
    obtain ⟨j, hj, rfl⟩ := Option.map_eq_some_iff.mp hd
    obtain ⟨h1, h2⟩ := List.getElem?_eq_some_iff.mp hj
    rw [List.getElem_range] at h2
    subst h2
    rw [List.length_range] at h1
    refine ⟨h1, fun y H'' hy => ?_⟩
    obtain ⟨e1, e2⟩ := hy
    subst e1 e2
    exact ⟨.refl _, .int _⟩
def rng1 : List D → Option (List D)
  | [.int n] => if -1000000000 ≤ n ∧ n ≤ 1000000000 then some (rangeD 0 n.toNat) else none
  | _ => none
def rng2 : List D → Option (List D)
  | [.int a, .int b] => if -1000000000 ≤ a ∧ a ≤ 1000000000 ∧ -1000000000 ≤ b ∧ b ≤ 1000000000 then some (rangeD a (b - a).toNat) else none
  | _ => none
def rng1M (ms : List (M D)) : M (List D) := M.bind (seqM ms) fun ds => ofO (rng1 ds)
def rng2M (ms : List (M D)) : M (List D) := M.bind (seqM ms) fun ds => ofO (rng2 ds)
theorem id_rng1 {a : Expr} {ms : List (M D)} {p : Pos} (ha : LD X C W ρ [a] (seqM ms)) (hm : X.mg "range" = none) (hg : Gl X "range" := by rfl) (hs : starEach [a] X.env = [(false, eval a X.env)] := by rfl) : ID X C W ρ tg (.Call (.Name "range" p) [a] [] pos) (rng1M ms) :=
  ⟨pi_imp (pi_range1 hg hm ha.pa hs) fun σ H Q h => stepLI h fun ds vs H1 g1 x w1 e1 r1 o1 => by
    obtain ⟨xs, ex, q⟩ := OutI.ofO_some o1
    cases r1 with
    | nil => cases ex
    | cons ra rt =>
      cases rt with
      | cons _ _ => cases ra <;> cases ex
      | nil =>
        cases ra with
        | int n =>
          obtain ⟨⟨h1, h2⟩, ex⟩ := ite_some ex
          subst ex
          exact ⟨n, rfl, by omega, by omega, q _ H1 (.refl C H1) w1 iter_rng⟩
        | _ => cases ex⟩
theorem id_rng2 {a b : Expr} {ms : List (M D)} {p : Pos} (ha : LD X C W ρ [a, b] (seqM ms)) (hm : X.mg "range" = none) (hg : Gl X "range" := by rfl) (hs : starEach [a, b] X.env = [(false, eval a X.env), (false, eval b X.env)] := by rfl) (hs2 : starEach [b] X.env = [(false, eval b X.env)] := by rfl) : ID X C W ρ tg (.Call (.Name "range" p) [a, b] [] pos) (rng2M ms) :=
  ⟨pi_imp (pi_range2 hg hm ha.pa hs hs2) fun σ H Q h => stepLI h fun ds vs H1 g1 x w1 e1 r1 o1 => by
    obtain ⟨xs, ex, q⟩ := OutI.ofO_some o1
    cases r1 with
    | nil => cases ex
    | cons ra rt =>
      cases rt with
      | nil => cases ra <;> cases ex
      | cons rb rt =>
        cases rt with
        | cons _ _ => cases ra <;> cases rb <;> cases ex
        | nil =>
          cases ra with
          | int n =>
            cases rb with
            | int m =>
              obtain ⟨⟨h1, h2, h3, h4⟩, ex⟩ := ite_some ex
              subst ex
              exact ⟨n, m, rfl, ⟨by omega, by omega, by omega, by omega⟩, q _ H1 (.refl C H1) w1 iter_rng⟩
            | _ => cases ex
          | _ => cases ex⟩
/-- zip of two lists, of two tuples -/
def zipD (a b : List D) : List D := List.zipWith (fun x y => D.tup [x, y]) a b
def zip2 : List D → Option (List D)
  | [.lst a, .lst b] => some (zipD a b)
  | [.tup a, .tup b] => some (zipD a b)
  | _ => none
def zipM (ms : List (M D)) : M (List D) := M.bind (seqM ms) fun ds => ofO (zip2 ds)
theorem zip_get {a b : List D} {i : Nat} {d : D} (h : (zipD a b)[i]? = some d) : ∃ x y, a[i]? = some x ∧ b[i]? = some y ∧ d = .tup [x, y] := by
  unfold zipD at h
  rw [List.getElem?_zipWith] at h
  cases ha : a[i]? with
  | none => rw [ha] at h; cases h
  | some x =>
    cases hb : b[i]? with
    | none => rw [ha, hb] at h; cases h
    | some y =>
      rw [ha, hb] at h
      cases h
      exact ⟨x, y, rfl, rfl, rfl⟩
theorem iter_zipL {H : Hp} {a b : Addr} {vs us : List V} {ds es : List D} (h : RdL C H a vs) (r : RepL C H vs ds) (h2 : RdL C H b us) (r2 : RepL C H us es) (o : Oat C H) : IterOk C H (Itz C.K a b) (zipD ds es) := fun P hp i H' x o' => by
  have h' : RdL (C.plus P) H' a vs := RdL.far hp x h
  have r' := RepL.farO o hp x ds vs r
  have h2' : RdL (C.plus P) H' b us := RdL.far hp x h2
  have r2' := RepL.farO o hp x es us r2
  refine ⟨fun hi => ⟨vs, us, h'.sq, h2'.sq, ?_⟩, fun d hd => ?_⟩
  · have e1 := r'.length
    have e2 := r2'.length
    unfold zipD at hi
    rw [List.length_zipWith] at hi
    omega
  · obtain ⟨p, q, hp, hq, rfl⟩ := zip_get hd
    obtain ⟨v, hv, rv⟩ := r'.getD hp
    obtain ⟨u, hu, ru⟩ := r2'.getD hq
    refine ⟨⟨vs, us, v, u, h'.sq, h2'.sq, hv, hu⟩, fun y H'' hy => ?_⟩
    obtain ⟨T, x1, x2, rfl, nT, rfl, f1, f2⟩ := hy
    have q1 := f1 vs h'.sq
    have q2 := f2 us h2'.sq
    rw [hv] at q1
    rw [hu] at q2
    cases q1
    cases q2
    exact ⟨same_upd nT, new_tup nT o' (.cons rv (.cons ru .nil))⟩
theorem iter_zipT {H : Hp} {a b : Addr} {vs us : List V} {ds es : List D} (h : RdT C H a vs) (r : RepL C H vs ds) (h2 : RdT C H b us) (r2 : RepL C H us es) (o : Oat C H) : IterOk C H (RZ.ItzT C.K a b) (zipD ds es) := fun P hp i H' x o' => by
  have h' : RdT (C.plus P) H' a vs := RdT.far hp x h
  have r' := RepL.farO o hp x ds vs r
  have h2' : RdT (C.plus P) H' b us := RdT.far hp x h2
  have r2' := RepL.farO o hp x es us r2
  refine ⟨fun hi => ⟨vs, us, h'.sq, h2'.sq, ?_⟩, fun d hd => ?_⟩
  · have e1 := r'.length
    have e2 := r2'.length
    unfold zipD at hi
    rw [List.length_zipWith] at hi
    omega
  · obtain ⟨p, q, hp, hq, rfl⟩ := zip_get hd
    obtain ⟨v, hv, rv⟩ := r'.getD hp
    obtain ⟨u, hu, ru⟩ := r2'.getD hq
    refine ⟨⟨vs, us, v, u, h'.sq, h2'.sq, hv, hu⟩, fun y H'' hy => ?_⟩
    obtain ⟨T, x1, x2, rfl, nT, rfl, f1, f2⟩ := hy
    have q1 := f1 vs h'.sq
    have q2 := f2 us h2'.sq
    rw [hv] at q1
    rw [hu] at q2
    cases q1
    cases q2
    exact ⟨same_upd nT, new_tup nT o' (.cons rv (.cons ru .nil))⟩
theorem id_zip {e e2 : Expr} {ms : List (M D)} {p tpos : Pos} {elts : List Expr} {kk : Nat} (ok : Cok X C W) (ha : LD X C W ρ [e, e2] (seqM ms)) (hm : X.mg "zip" = none) (hg : Gl X "zip" := by rfl) (hs : starEach [e, e2] X.env = (false, eval e X.env) :: starEach [e2] X.env := by rfl) (hpl : (backTo pos (starEach [e2] X.env)).any (·.1) = false := by rfl) : ID X C W ρ (.Tuple elts kk tpos) (.Call (.Name "zip" p) [e, e2] [] pos) (zipM ms) :=
  ⟨pi_imp (RZ.pi_zipA hg hm ha.pa hs hpl) fun σ H Q h => stepLI h fun ds vs H1 g1 x w1 e1 r1 o1 => by
    obtain ⟨xs, ex, q⟩ := OutI.ofO_some o1
    cases r1 with
    | nil => cases ex
    | cons ra rt =>
      cases rt with
      | nil => cases ra <;> cases ex
      | cons rb rt =>
        cases rt with
        | cons _ _ => cases ra <;> cases rb <;> cases ex
        | nil =>
          cases ra with
          | @lst a us ds ha hd =>
            cases rb with
            | @lst b ws es hb he =>
              cases ex
              exact ⟨a, b, us, ws, rfl, .inl ⟨ha.sqX ok.k, hb.sqX ok.k, by rw [ok.k]; exact q _ H1 (.refl C H1) w1 (iter_zipL ha hd hb he w1.oat)⟩⟩
            | _ => cases ex
          | @tup a us ds ha hd =>
            cases rb with
            | @tup b ws es hb he =>
              cases ex
              exact ⟨a, b, us, ws, rfl, .inr ⟨ha.sqX ok.k, hb.sqX ok.k, by rw [ok.k]; exact q _ H1 (.refl C H1) w1 (iter_zipT ha hd hb he w1.oat)⟩⟩
            | _ => cases ex
          | _ => cases ex⟩
end
end Tc

set_option Elab.async false
set_option linter.all false
set_option maxRecDepth 100000
set_option maxHeartbeats 4000000
namespace Tc
open PySem PySem.Spec PyProof.Rows L2

theorem pe_ex {X : Cx} {e : Expr} {ι : Type} {t : ι → TE} (h : ∀ i, PE X e (t i)) : PE X e (fun σ H Q => ∃ i, t i σ H Q) := ⟨fun p s σ H Q I ⟨i, q⟩ => (h i).run p s σ H Q I q⟩
theorem pts_ex {X : Cx} {e : List Expr} {ι : Type} {t : ι → TT} (h : ∀ i, PTs X e (t i)) : PTs X e (fun σ H Q => ∃ i, t i σ H Q) := ⟨fun p s σ H Q I ⟨i, q⟩ => (h i).run p s σ H Q I q⟩
theorem pg_ex {X : Cx} {e : Expr} {ι : Type} {t : ι → TG} (h : ∀ i, PG X e (t i)) : PG X e (fun v σ H Q => ∃ i, t i v σ H Q) := ⟨fun p s σ H v u Q I r ⟨i, q⟩ => (h i).run p s σ H v u Q I r q⟩

theorem wipe_get (σ : L2.St) : ∀ (is : List Nat) (j : Nat), (wipe σ is)[j]? = if j ∈ is then (if j < σ.length then some none else none) else σ[j]?
  | [], j => by simp [wipe]
  | i :: is, j => by
    unfold wipe
    by_cases h : i = j
    · subst h
      rw [if_pos List.mem_cons_self, List.getElem?_set_self']
      have e := wipe_get σ is i
      by_cases hl : i < σ.length
      · rw [if_pos hl]
        have : i < (wipe σ is).length := by rw [wipe_length]; exact hl
        rw [List.getElem?_eq_getElem this]
        rfl
      · rw [if_neg hl]
        have : (wipe σ is)[i]? = none := List.getElem?_eq_none (by rw [wipe_length]; omega)
        rw [this]
        rfl
    · rw [List.getElem?_set_ne h, wipe_get σ is j]
      by_cases hm : j ∈ is
      · rw [if_pos hm, if_pos (List.mem_cons_of_mem _ hm)]
      · rw [if_neg hm, if_neg (fun q => (List.mem_cons.mp q).elim (fun q => h q.symm) hm)]
theorem wipe_set {σ : L2.St} {is : List Nat} {i : Nat} {x : Option V} (h : i ∈ is) : wipe (σ.set i x) is = wipe σ is := by
  apply List.ext_getElem?
  intro j
  rw [wipe_get, wipe_get, List.length_set]
  by_cases hj : j ∈ is
  · rw [if_pos hj, if_pos hj]
  · rw [if_neg hj, if_neg hj, List.getElem?_set_ne (fun q : i = j => hj (by rw [← q]; exact h))]
def wipeR (ρ : Rho) : List Nat → Rho
  | [] => ρ
  | v :: vs => (wipeR ρ vs).set v none
theorem wipeR_some {ρ : Rho} {i : Nat} {x : D} : ∀ {vs : List Nat}, (wipeR ρ vs)[i]? = some (some x) → ρ[i]? = some (some x) ∧ i ∉ vs
  | [], h => ⟨h, by simp⟩
  | v :: vs, h => by
    unfold wipeR at h
    by_cases hi : v = i
    · subst hi
      by_cases hv : v < (wipeR ρ vs).length
      · rw [List.getElem?_set_self hv] at h; cases h
      · rw [List.getElem?_eq_none (by simpa using hv)] at h; cases h
    · rw [List.getElem?_set_ne hi] at h
      obtain ⟨h1, h2⟩ := wipeR_some h
      exact ⟨h1, by simp only [List.mem_cons, not_or]; exact ⟨fun e => hi e.symm, h2⟩⟩
theorem Has.wipe {C : Cf} {ρ : Rho} {σ : L2.St} {H : Hp} (e : Has C ρ σ H) (is : List Nat) : Has C (wipeR ρ is) (L2.wipe σ is) H := fun i d h => by
  obtain ⟨h1, h2⟩ := wipeR_some h
  obtain ⟨v, e1, e2⟩ := e i d h1
  exact ⟨v, by rw [wipe_get, if_neg h2]; exact e1, e2⟩
theorem Has.set {C : Cf} {ρ : Rho} {σ : L2.St} {H : Hp} {i : Nat} {v : V} {d : D} (e : Has C ρ σ H) (r : Rep C H v d) (hi : i < σ.length) : Has C (ρ.set i (some d)) (σ.set i (some v)) H := fun j x h => by
  by_cases hj : i = j
  · subst hj
    refine ⟨v, List.getElem?_set_self hi, ?_⟩
    by_cases hl : i < ρ.length
    · rw [List.getElem?_set_self hl] at h
      cases h
      exact r
    · rw [List.getElem?_eq_none (by rw [List.length_set]; omega)] at h
      cases h
  · rw [List.getElem?_set_ne hj] at h ⊢
    exact e j x h

/-! ### targets -/
def tGD {S : Type} (C : Cf) (ρ : Rho) (is : List Nat) (dec : D → Option S) (emb : S → Rho) : TG := fun v σ H Q => ∃ d s, Rep C H v d ∧ Oat C H ∧ Has C ρ σ H ∧ dec d = some s ∧ ∀ σ', Has C (emb s) σ' H → wipe σ' is = wipe σ is → Q σ' H
structure GD {S : Type} (X : Cx) (C : Cf) (ρ : Rho) (is : List Nat) (tg : Expr) (dec : D → Option S) (emb : S → Rho) : Prop where
  pg : PG X tg (tGD C ρ is dec emb)
section
variable {X : Cx} {C : Cf} {ρ : Rho} {pos : Pos}
theorem gd_name {x : Str} {is : List Nat} {emb : D → Rho} (i : Nat) (nd : X.N.Nodup) (he : ∀ d, emb d = ρ.set i (some d) := by intro _; rfl) (his : i ∈ is := by decide) (hi : X.N[i]? = some x := by rfl) (hx : Loc X.env.scope x := by first | exact Or.inl rfl | exact Or.inr rfl) (hf : X.fn x = true ∨ X.env.scope.names.lookup x = some .local := by first | exact .inl rfl | exact .inr rfl) :
    GD X C ρ is (.Name x pos) some emb := by
  refine ⟨⟨fun pins s σ H v u Q I r h => ?_⟩⟩
  obtain ⟨d, d', rd, oa, e, e1, q⟩ := h
  cases e1
  have hl : i < σ.length := by rw [I.len]; exact (List.getElem?_eq_some_iff.mp hi).1
  exact (pg_name nd hi hx hf).run pins s σ H v u Q I r (q _ (by rw [he]; exact e.set rd hl) (wipe_set his))
def dec2 : D → Option (D × D)
  | .tup [x, y] => some (x, y)
  | _ => none
theorem gd_pair {x y : Str} {px py : Pos} {k : Nat} {is : List Nat} {emb : D × D → Rho} (i j : Nat) (hc : X.calm = true) (nd : X.N.Nodup) (kk : X.K = C.K) (he : ∀ d, emb d = (ρ.set i (some d.1)).set j (some d.2) := by intro _; rfl) (his : i ∈ is := by decide) (hjs : j ∈ is := by decide) (hi : X.N[i]? = some x := by rfl) (hx : Loc X.env.scope x := by first | exact Or.inl rfl | exact Or.inr rfl) (hf : X.fn x = true ∨ X.env.scope.names.lookup x = some .local := by first | exact .inl rfl | exact .inr rfl) (hj : X.N[j]? = some y := by rfl) (hy : Loc X.env.scope y := by first | exact Or.inl rfl | exact Or.inr rfl) (hfy : X.fn y = true ∨ X.env.scope.names.lookup y = some .local := by first | exact .inl rfl | exact .inr rfl) (hn : (assignEach [.Name x px, .Name y py] X.env).length = 2 := by rfl) (hst : (assignEach [.Name x px, .Name y py] X.env).findIdx? (·.1) = none := by rfl) (hs1 : (assignEach [.Name x px, .Name y py] X.env).map (·.2) = assign (.Name x px) X.env :: (assignEach [.Name y py] X.env).map (·.2) := by rfl) (hs2 : (assignEach [.Name y py] X.env).map (·.2) = assign (.Name y py) X.env :: (assignEach [] X.env).map (·.2) := by rfl) :
    GD X C ρ is (.Tuple [.Name x px, .Name y py] k pos) dec2 emb := by
  refine ⟨⟨fun pins s σ H v u Q I r h => ?_⟩⟩
  obtain ⟨d, p, rd, oa, e, e1, q⟩ := h
  have hl : i < σ.length := by rw [I.len]; exact (List.getElem?_eq_some_iff.mp hi).1
  have hl2 : j < σ.length := by rw [I.len]; exact (List.getElem?_eq_some_iff.mp hj).1
  cases rd with
  | @tup a xs ds ha hd =>
    cases hd with
    | nil => cases e1
    | cons r1 rt =>
      cases rt with
      | nil => cases e1
      | cons r2 rt =>
        cases rt with
        | cons _ _ => cases e1
        | nil =>
          cases e1
          refine (pg_tup hc (pgs_cons (pg_name nd hi hx hf) (pgs_cons (pg_name nd hj hy hfy) pgs_nil hs2) hs1) hn hst).run pins s σ H _ u Q I r ⟨a, _, rfl, ha.sqX kk, rfl, _, _, rfl, _, _, rfl, rfl, ?_⟩
          refine q _ ?_ ?_
          · rw [he]
            exact (e.set r1 hl).set r2 (by rw [List.length_set]; exact hl2)
          · rw [wipe_set hjs, wipe_set his]
  | _ => cases e1

/-! ### comprehensions -/
def tTsD (C : Cf) (W : WX) (ρ : Rho) (m : M Bool) : TT := tTD C W ρ m
structure TsD (X : Cx) (C : Cf) (W : WX) (ρ : Rho) (es : List Expr) (m : M Bool) : Prop where
  pts : PTs X es (tTD C W ρ m)
theorem ts_nil {W : WX} : TsD X C W ρ [] (M.pure true) := ⟨⟨fun pins s σ H Q I h => by
  obtain ⟨g, w, e, o⟩ := h
  exact pts_nil.run pins s σ H Q I (o H (.refl C H) w)⟩⟩
theorem ts_one {W : WX} {c : Expr} {m : M Bool} (h : TD X C W ρ c m) : TsD X C W ρ [c] m := ⟨pts_one h.pt⟩
abbrev WF : WX := fun _ _ _ _ => False
def noX {α : Type} (m : M α) : M α := fun g => match m g with
  | .exc _ _ => .bad
  | r => r
def loopC {S : Type} (dec : D → Option S) (mt : S → M Bool) (me : S → M D) : List D → M (List D)
  | [] => M.pure []
  | x :: xs => M.bind (ofO (dec x)) fun s => M.bind (noX (mt s)) fun b => if b = true then M.bind (noX (me s)) fun d => M.bind (loopC dec mt me xs) fun ds => M.pure (d :: ds) else loopC dec mt me xs
def compL {S : Type} (mi : M (List D)) (dec : D → Option S) (mt : S → M Bool) (me : S → M D) : M (List D) := M.bind mi fun xs => if xs.length ≤ 1000000 then loopC dec mt me xs else bad
/-! ### lists that are new -/
def fdM (m : M (List D)) : M D := M.bind m fun ds => M.pure (.lst ds)
def OutF (C : Cf) (H : Hp) (r : R (List D)) (Q : VK) (X : Nat → Hp → Prop) : Prop := match r with
  | .ok ds g => ∀ a vs H', Ext C H H' → H a = none → WS (C.plus (· = a)) g H' → H' a = some (.lst vs) → RepL (C.plus (· = a)) H' vs ds → Q (.ref a) H'
  | .exc c g => ∀ H', Ext C H H' → WS C g H' → X c H'
  | .bad => False
theorem Ext.none {C : Cf} {H H1 : Hp} (x : Ext C H H1) (o : Oat C H1) {a : Addr} (h : H1 a = none) : H a = none := by
  cases q : H a with
  | none => rfl
  | some u =>
    by_cases hn : C.N a
    · have := o.not h
      exact absurd (C.nin a hn) this
    · have := x a u q hn
      rw [h] at this
      cases this
theorem OutF.from {C : Cf} {H H1 : Hp} {r : R (List D)} {Q : VK} {X : Nat → Hp → Prop} (o : OutF C H r Q X) (x : Ext C H H1) (oa : Oat C H1) : OutF C H1 r Q X := by
  cases r with
  | ok d g => exact fun a vs H' e n w h r => o a vs H' (x.trans e) (x.none oa n) w h r
  | exc c g => exact fun H' e w => o H' (x.trans e) w
  | bad => exact o
def tFD (C : Cf) (W : WX) (ρ : Rho) (m : M (List D)) : TE := fun σ H Q => ∃ g, WS C g H ∧ Has C ρ σ H ∧ OutF C H (m g) Q (xw C W σ)
structure FD (X : Cx) (C : Cf) (W : WX) (ρ : Rho) (e : Expr) (m : M (List D)) : Prop where
  pe : PE X e (tFD C W ρ m)
theorem ed_fd {W : WX} {e : Expr} {m : M (List D)} (h : FD X C W ρ e m) : ED X C W ρ e (fdM m) :=
  ⟨pe_imp h.pe fun σ H Q ⟨g, w, e0, o⟩ => by
    refine ⟨g, w, e0, ?_⟩
    unfold fdM M.bind at o
    cases hm : m g with
    | bad => rw [hm] at o; exact o
    | exc c g1 => rw [hm] at o; exact o
    | ok ds g1 =>
      rw [hm] at o
      intro a vs H' x n w' ha hr
      exact o (.ref a) H' x w'.minus (.lst ⟨w.oat.not n, ha⟩ (RepL.minus _ _ hr))⟩
theorem Cok.blk {W : WX} (ok : Cok X C W) (s : Shared) (H : Hp) (scope : Scope) (e : Env) (fp : List Addr) (P : Addr → Prop) : Cok (X.blk s H scope e fp) (C.plus P) WF :=
  ⟨ok.k, ok.calm, ok.nd, fun σ pins H s e s' I c => by
    obtain ⟨_, _, _, _, _, _, _, _, _, _, _, _, z⟩ := c
    exact z.elim, ok.un⟩
theorem lc_read {S : Type} {W : WX} {is : List Nat} {mi : M (List D)} {dec : D → Option S} {emb : S → Rho} {mt : S → M Bool} {me : S → M D} {σ : L2.St} {H : Hp} {Q : VK} (h : tFD C W ρ (compL mi dec mt me) σ H Q) :
    tLc (tID C W ρ mi) (fun v σ H Q => ∃ a, tGD (C.plus (· = a)) (wipeR ρ is) is dec emb v σ H Q) (fun σ H Q => ∃ p : Addr × S, tTD (C.plus (· = p.1)) WF (emb p.2) (mt p.2) σ H Q) (fun σ H Q => ∃ p : Addr × S, tED (C.plus (· = p.1)) WF (emb p.2) (me p.2) σ H Q) is σ H Q := by
  obtain ⟨g, w, e, o⟩ := h
  refine ⟨g, w, e, ?_⟩
  unfold compL M.bind at o
  cases hm : mi g with
  | bad => rw [hm] at o; exact o
  | exc c g1 => rw [hm] at o; exact o
  | ok xs g1 =>
    rw [hm] at o
    have o : OutF C H ((if xs.length ≤ 1000000 then loopC dec mt me xs else bad : M (List D)) g1) Q (xw C W σ) := o
    by_cases hz : xs.length ≤ 1000000
    · rw [if_pos hz] at o
      intro J H1 x1 w1 it a na
      have o1 := OutF.from o x1 w1.oat
      have e1 := e.ext x1 w.oat
      have s1 : Same H1 (upd H1 a (.lst [])) := same_upd na
      have nO : ¬ C.O a := w1.oat.not na
      have nN : ¬ C.N a := fun q => nO (C.nin a q)
      have hp : ∀ b, (fun b => b = a) b → H1 b = none := fun b q => by
        have q : b = a := q
        rw [q]
        exact na
      have itP := it (fun b => b = a) hp
      let Z : Nat → Hp → Prop := fun i H' => ∃ (g' : G) (vs : List V) (acc : List D), WS (C.plus (· = a)) g' H' ∧ Ext C H1 H' ∧ H' a = some (.lst vs) ∧ RepL (C.plus (· = a)) H' vs acc ∧ acc.length ≤ i ∧
          loopC dec mt me xs g1 = (M.bind (loopC dec mt me (xs.drop i)) fun ds => M.pure (acc ++ ds)) g'
      refine ⟨fun i m H' => m = xs.length - i ∧ i ≤ xs.length ∧ Z i H', ⟨xs.length, by omega, by omega, g1, [], [], w1.plus na, (Ext.refl C H1).over na, upd_same, .nil, by simp, by rw [List.drop_zero]; simp only [List.nil_append]; exact (congrFun (M.bind_pure _) g1).symm⟩, ?_⟩
      rintro i m H' ⟨rfl, hi', g', vs, acc, w', xx, ha, hr, hl, hq⟩
      have it' := itP i H' xx.o w'.oat
      by_cases hlt : i < xs.length
      · right
        have hd : xs[i]? = some xs[i] := List.getElem?_eq_getElem hlt
        obtain ⟨go, yl⟩ := it'.2 _ hd
        have ed : xs.drop i = xs[i] :: xs.drop (i + 1) := List.drop_eq_getElem_cons hlt
        rw [ed] at hq
        -- the bound variable
        have hdec : ∃ s, dec xs[i] = some s := by
          cases hh : dec xs[i] with
          | some s => exact ⟨s, rfl⟩
          | none =>
            have o1 : OutF C H1 (loopC dec mt me xs g1) Q (xw C W σ) := o1
            rw [hq] at o1
            have : (M.bind (loopC dec mt me (xs[i] :: xs.drop (i + 1))) fun ds => M.pure (acc ++ ds)) g' = .bad := by
              show R.bind (R.bind (ofO (dec xs[i]) g') _) _ = _
              rw [hh]
              rfl
            rw [this] at o1
            exact o1.elim
        obtain ⟨sv, hsv⟩ := hdec
        have hq1 : loopC dec mt me xs g1 = R.bind (R.bind (noX (mt sv) g') fun b => (if b = true then M.bind (noX (me sv)) fun d => M.bind (loopC dec mt me (xs.drop (i + 1))) fun ds => M.pure (d :: ds) else loopC dec mt me (xs.drop (i + 1)))) fun ds => M.pure (acc ++ ds) := by
          rw [hq]
          show R.bind (R.bind (ofO (dec xs[i]) g') _) _ = _
          rw [hsv]
          rfl
        have o1 : OutF C H1 (loopC dec mt me xs g1) Q (xw C W σ) := o1
        rw [hq1] at o1
        refine ⟨go, Z (i + 1), fun H'' q => ⟨xs.length - (i + 1), by omega, rfl, hlt, q⟩, fun x H2 hy => ?_⟩
        obtain ⟨s2, r2⟩ := yl x H2 hy
        have w2 := w'.same s2
        have x2 : Ext C H1 H2 := xx.trans (.same s2)
        have ha2 := s2 _ _ ha
        have hr2 := RepL.same s2 hr
        refine ⟨a, xs[i], sv, r2, w2.oat, Has.far w1.oat hp x2 (e1.wipe _), hsv, fun σ2 h2 hw2 => ⟨hw2.trans ?_, ?_⟩⟩
        · apply List.ext_getElem?
          intro j
          rw [wipe_get, wipe_get, wipe_length]
          by_cases hj : j ∈ is
          · rw [if_pos hj, if_pos hj]
          · rw [if_neg hj, if_neg hj]
        · refine ⟨(a, sv), g', w2, h2, ?_⟩
          show OutB (C.plus (· = a)) H2 (mt sv g') _ _
          cases hmt : mt sv g' with
          | bad =>
            have : noX (mt sv) g' = .bad := by unfold noX; rw [hmt]
            rw [this] at o1
            exact o1.elim
          | exc c g2 =>
            have : noX (mt sv) g' = .bad := by unfold noX; rw [hmt]
            rw [this] at o1
            exact o1.elim
          | ok b g2 =>
            have : noX (mt sv) g' = .ok b g2 := by unfold noX; rw [hmt]
            rw [this] at o1 hq1
            intro H3 x3 w3
            have x3' : Ext C H1 H3 := x2.trans x3
            have ha3 : H3 a = some (.lst vs) := x3 _ _ ha2 nN
            have hr3 : RepL (C.plus (· = a)) H3 vs acc := RepL.ext (C := C.plus (· = a)) x3 w2.oat _ _ hr2
            cases b with
            | false => exact ⟨g2, vs, acc, w3, x3', ha3, hr3, by omega, hq1⟩
            | true =>
              have hq2 : loopC dec mt me xs g1 = R.bind (R.bind (noX (me sv) g2) fun d => M.bind (loopC dec mt me (xs.drop (i + 1))) fun ds => M.pure (d :: ds)) fun ds => M.pure (acc ++ ds) := hq1
              refine ⟨(a, sv), g2, w3, h2.ext (C := C.plus (· = a)) x3 w2.oat, ?_⟩
              have o1 : OutF C H1 (R.bind (R.bind (noX (me sv) g2) fun d => M.bind (loopC dec mt me (xs.drop (i + 1))) fun ds => M.pure (d :: ds)) fun ds => M.pure (acc ++ ds)) Q (xw C W σ) := o1
              show Out (C.plus (· = a)) H3 (me sv g2) _ _
              cases hme : me sv g2 with
              | bad =>
                have : noX (me sv) g2 = .bad := by unfold noX; rw [hme]
                rw [this] at o1
                exact o1.elim
              | exc c g3 =>
                have : noX (me sv) g2 = .bad := by unfold noX; rw [hme]
                rw [this] at o1
                exact o1.elim
              | ok d g3 =>
                have : noX (me sv) g2 = .ok d g3 := by unfold noX; rw [hme]
                rw [this] at hq2
                intro y H4 x4 w4 r4
                have ha4 : H4 a = some (.lst vs) := x4 _ _ ha3 nN
                have hr4 : RepL (C.plus (· = a)) H4 vs acc := RepL.ext (C := C.plus (· = a)) x4 w3.oat _ _ hr3
                have vl := hr4.length
                refine ⟨vs, ha4, ?_, g3, vs ++ [y], acc ++ [d], w4.put ha4 (.inr rfl) nN, ?_, upd_same, RepL.put (C := C.plus (· = a)) ha4 (Or.inr rfl) _ _ (hr4.append (.cons r4 .nil)), by rw [List.length_append]; exact Nat.add_le_add_right hl 1, ?_⟩
                · rw [vl]
                  have := line_ge (n := 1000000) (Nat.le_refl _)
                  have z : acc.length < 1000000 := by omega
                  omega
                · exact (x3'.trans x4).over na
                · rw [hq2]
                  show R.bind (R.bind (loopC dec mt me (xs.drop (i + 1)) g3) fun ds => M.pure (d :: ds)) (fun ds => M.pure (acc ++ ds)) = R.bind (loopC dec mt me (xs.drop (i + 1)) g3) fun ds => M.pure ((acc ++ [d]) ++ ds)
                  cases loopC dec mt me (xs.drop (i + 1)) g3 with
                  | bad => rfl
                  | exc c g => rfl
                  | ok ds g =>
                    show R.ok (acc ++ d :: ds) g = R.ok ((acc ++ [d]) ++ ds) g
                    rw [List.append_assoc]
                    rfl
      · left
        have ei : i = xs.length := by omega
        refine ⟨it'.1 (by omega), ?_⟩
        have o1 : OutF C H1 (loopC dec mt me xs g1) Q (xw C W σ) := o1
        rw [hq, ei, List.drop_length] at o1
        have o2 : OutF C H1 (.ok (acc ++ []) g') Q (xw C W σ) := o1
        rw [List.append_nil] at o2
        exact o2 a vs H' xx na w' ha hr
    · rw [if_neg hz] at o
      exact o.elim
theorem fd_lc {S : Type} {W : WX} {elt tg iter : Expr} {ifs : List Expr} {scope : Scope} {own : List (Str × Nat)} {mi : M (List D)} {dec : D → Option S} {emb : S → Rho} {mt : S → M Bool} {me : S → M D} (ok : Cok X C W) (hi : ID X C W ρ tg iter mi) (bk : BlkOk X.N X.env.scope scope own) (hg : ∀ (s : Shared) (H : Hp) (Ca : Addr) (cl : List (Str × Addr)) (fp : List Addr) (a : Addr), GD (X.blk s H scope (compEnvC scope cl Ca X.env) fp) (C.plus (· = a)) (wipeR ρ (own.map (·.2))) (own.map (·.2)) tg dec emb) (ht : ∀ (s : Shared) (H : Hp) (Ca : Addr) (cl : List (Str × Addr)) (fp : List Addr) (a : Addr) (x : S), TsD (X.blk s H scope (compEnvC scope cl Ca X.env) fp) (C.plus (· = a)) WF (emb x) ifs (mt x)) (he : ∀ (s : Shared) (H : Hp) (Ca : Addr) (cl : List (Str × Addr)) (fp : List Addr) (a : Addr) (x : S), ED (X.blk s H scope (compEnvC scope cl Ca X.env) fp) (C.plus (· = a)) WF (emb x) elt (me x)) (hs : ∀ x, foldedSetIterable iter X.env x = pure x := by intro _; rfl) : FD X C W ρ (.ListComp elt [⟨tg, iter, ifs, 0⟩] scope pos) (compL mi dec mt me) := by
  refine ⟨pe_imp (pe_lc (g := fun v σ H Q => ∃ a, tGD (C.plus (· = a)) (wipeR ρ (own.map (·.2))) (own.map (·.2)) dec emb v σ H Q) (tt := fun σ H Q => ∃ p : Addr × S, tTD (C.plus (· = p.1)) WF (emb p.2) (mt p.2) σ H Q) (te := fun σ H Q => ∃ p : Addr × S, tED (C.plus (· = p.1)) WF (emb p.2) (me p.2) σ H Q)
    ok.calm ok.nd hi.pi bk (fun s H Ca cl fp => pg_ex fun a => (hg s H Ca cl fp a).pg) (fun s H Ca cl fp => pts_ex fun p => (ht s H Ca cl fp p.1 p.2).pts) (fun s H Ca cl fp => pe_ex fun p => (he s H Ca cl fp p.1 p.2).pe) hs) fun σ H Q h => lc_read h⟩
end
end Tc

set_option Elab.async false
set_option linter.all false
set_option maxRecDepth 100000
set_option maxHeartbeats 4000000
namespace Tc
open PySem PySem.Spec PyProof.Rows L2

theorem plus_eq {C : Cf} {P Q : Addr → Prop} (h : ∀ b, (C.O b ∨ P b) ↔ (C.O b ∨ Q b)) : C.plus P = C.plus Q := by
  have e : (fun b => C.O b ∨ P b) = fun b => C.O b ∨ Q b := funext fun b => propext (h b)
  unfold Cf.plus
  congr
theorem plus_plus {C : Cf} {P Q : Addr → Prop} : (C.plus P).plus Q = C.plus fun b => P b ∨ Q b := by
  have e : (fun b => (C.O b ∨ P b) ∨ Q b) = fun b => C.O b ∨ (P b ∨ Q b) := funext fun b => propext or_assoc
  unfold Cf.plus
  congr
theorem plus_none {C : Cf} : C.plus (fun _ => False) = C := by
  have e : (fun b => C.O b ∨ False) = C.O := funext fun b => propext ⟨fun z => z.elim id False.elim, .inl⟩
  unfold Cf.plus
  congr
/-- fewer are set apart -/
theorem plus_sub {C : Cf} {P Q : Addr → Prop} (h : ∀ b, Q b → C.O b ∨ P b) : C.plus P = (C.plus Q).plus P := by
  rw [plus_plus]
  exact plus_eq fun b => ⟨fun z => z.elim .inl fun z => .inr (.inr z), fun z => z.elim .inl fun z => z.elim (h b) .inr⟩
theorem Rep.sub {C : Cf} {P Q : Addr → Prop} {H : Hp} {v : V} {d : D} (h : ∀ b, Q b → C.O b ∨ P b) (r : Rep (C.plus P) H v d) : Rep (C.plus Q) H v d := by
  rw [plus_sub h] at r
  exact Rep.minus d v r
theorem RepL.sub {C : Cf} {P Q : Addr → Prop} {H : Hp} {v : List V} {d : List D} (h : ∀ b, Q b → C.O b ∨ P b) (r : RepL (C.plus P) H v d) : RepL (C.plus Q) H v d := by
  rw [plus_sub h] at r
  exact RepL.minus d v r
theorem Has.sub {C : Cf} {P Q : Addr → Prop} {H : Hp} {ρ : Rho} {σ : L2.St} (h : ∀ b, Q b → C.O b ∨ P b) (r : Has (C.plus P) ρ σ H) : Has (C.plus Q) ρ σ H := by
  rw [plus_sub h] at r
  exact r.minus
theorem WS.sub {C : Cf} {P Q : Addr → Prop} {H : Hp} {g : G} (h : ∀ b, Q b → C.O b ∨ P b) (r : WS (C.plus P) g H) : WS (C.plus Q) g H := by
  rw [plus_sub h] at r
  exact r.minus

theorem nd_inj : ∀ {as : List Addr} {i j : Nat} {a : Addr}, as.Nodup → as[i]? = some a → as[j]? = some a → i = j
  | [], _, _, _, _, h, _ => by simp at h
  | x :: as, 0, 0, _, _, _, _ => rfl
  | x :: as, 0, j + 1, a, nd, h1, h2 => by
    rw [List.getElem?_cons_zero] at h1
    rw [List.getElem?_cons_succ] at h2
    cases h1
    exact absurd (List.mem_of_getElem? h2) (List.nodup_cons.mp nd).1
  | x :: as, i + 1, 0, a, nd, h1, h2 => by
    rw [List.getElem?_cons_zero] at h2
    rw [List.getElem?_cons_succ] at h1
    cases h2
    exact absurd (List.mem_of_getElem? h1) (List.nodup_cons.mp nd).1
  | x :: as, i + 1, j + 1, a, nd, h1, h2 => by
    rw [List.getElem?_cons_succ] at h1 h2
    rw [nd_inj (List.nodup_cons.mp nd).2 h1 h2]

/-! ### what is known less -/
inductive Le : Rho → Rho → Prop
  | nil {ρ : Rho} : Le [] ρ
  | skip {x : Option D} {ρ ρ' : Rho} : Le ρ ρ' → Le (none :: ρ) (x :: ρ')
  | same {x : Option D} {ρ ρ' : Rho} : Le ρ ρ' → Le (x :: ρ) (x :: ρ')
theorem Le.refl : ∀ (ρ : Rho), Le ρ ρ
  | [] => .nil
  | _ :: ρ => .same (Le.refl ρ)
theorem Le.get : ∀ {ρ ρ' : Rho}, Le ρ ρ' → ∀ (i : Nat) (d : D), ρ[i]? = some (some d) → ρ'[i]? = some (some d)
  | _, _, .nil, i, d, h => by simp at h
  | _, _, .skip l, 0, d, h => by simp at h
  | _, _, .skip l, i + 1, d, h => by
    rw [List.getElem?_cons_succ] at h ⊢
    exact Le.get l i d h
  | _, _, .same l, 0, d, h => h
  | _, _, .same l, i + 1, d, h => by
    rw [List.getElem?_cons_succ] at h ⊢
    exact Le.get l i d h
theorem Has.le {C : Cf} {ρ ρ' : Rho} {σ : L2.St} {H : Hp} (e : Has C ρ' σ H) (l : Le ρ ρ') : Has C ρ σ H := fun i d h => e i d (l.get i d h)
/-- a slot of which nothing is known -/
theorem Has.hide {C : Cf} {ρ : Rho} {σ : L2.St} {H : Hp} {i : Nat} {x : Option V} (e : Has C ρ σ H) : Has C (ρ.set i none) (σ.set i x) H := fun j d h => by
  by_cases hj : i = j
  · subst hj
    by_cases hl : i < ρ.length
    · rw [List.getElem?_set_self hl] at h; cases h
    · rw [List.getElem?_eq_none (by rw [List.length_set]; omega)] at h; cases h
  · rw [List.getElem?_set_ne hj] at h ⊢
    exact e j d h

/-! ### a def's own lists -/
abbrev Ow := List (Nat × List D)
def inA (as : List Addr) : Addr → Prop := fun b => b ∈ as
structure Stw (C : Cf) (os : Ow) (ρ : Rho) (g : G) (σ : L2.St) (H : Hp) (as : List Addr) : Prop where
  len : as.length = os.length
  nd : as.Nodup
  nO : ∀ a ∈ as, ¬ C.O a
  ws : WS (C.plus (inA as)) g H
  has : Has (C.plus (inA as)) ρ σ H
  own : ∀ (k i : Nat) (ds : List D), os[k]? = some (i, ds) → ∃ a vs, as[k]? = some a ∧ σ[i]? = some (some (.ref a)) ∧ H a = some (.lst vs) ∧ RepL (C.plus (inA as)) H vs ds
section
variable {C : Cf} {os : Ow} {ρ : Rho} {g g' : G} {σ : L2.St} {H H' : Hp} {as : List Addr}
theorem Stw.ext (S : Stw C os ρ g σ H as) (x : Ext C H H') (w : WS (C.plus (inA as)) g' H') : Stw C os ρ g' σ H' as :=
  ⟨S.len, S.nd, S.nO, w, S.has.ext (C := C.plus (inA as)) x S.ws.oat, fun k i ds h => by
    obtain ⟨a, vs, h1, h2, h3, h4⟩ := S.own k i ds h
    exact ⟨a, vs, h1, h2, x _ _ h3 fun q => S.nO a (List.mem_of_getElem? h1) (C.nin a q), RepL.ext (C := C.plus (inA as)) x S.ws.oat _ _ h4⟩⟩
theorem Stw.le {ρ' : Rho} (S : Stw C os ρ' g σ H as) (l : Le ρ ρ') : Stw C os ρ g σ H as := ⟨S.len, S.nd, S.nO, S.ws, S.has.le l, S.own⟩
theorem Stw.set (S : Stw C os ρ g σ H as) {i : Nat} {v : V} {d : D} (r : Rep (C.plus (inA as)) H v d) (hi : i < σ.length) (no : ∀ p ∈ os, p.1 ≠ i) : Stw C os (ρ.set i (some d)) g (σ.set i (some v)) H as :=
  ⟨S.len, S.nd, S.nO, S.ws, S.has.set r hi, fun k j ds h => by
    obtain ⟨a, vs, h1, h2, h3⟩ := S.own k j ds h
    exact ⟨a, vs, h1, by rw [List.getElem?_set_ne (Ne.symm (no _ (List.mem_of_getElem? h)))]; exact h2, h3⟩⟩
theorem inA_cons {a : Addr} {as : List Addr} : (fun b => inA as b ∨ b = a) = inA (a :: as) := funext fun b => propext (by
  unfold inA
  rw [List.mem_cons]
  exact or_comm)
theorem plus_cons {a : Addr} {as : List Addr} : (C.plus (inA as)).plus (fun b => b = a) = C.plus (inA (a :: as)) := by rw [plus_plus, inA_cons]
theorem Stw.new (S : Stw C os ρ g σ H as) {i : Nat} {a : Addr} {vs : List V} {ds : List D} (x : Ext C H H') (hn : H a = none) (w : WS ((C.plus (inA as)).plus (fun b => b = a)) g' H') (ha : H' a = some (.lst vs)) (r : RepL ((C.plus (inA as)).plus (fun b => b = a)) H' vs ds)
    (hi : i < σ.length) (no : ∀ p ∈ os, p.1 ≠ i) : Stw C ((i, ds) :: os) (ρ.set i none) g' (σ.set i (some (.ref a))) H' (a :: as) := by
  have na : a ∉ as := fun q => by
    obtain ⟨k, hk⟩ := List.mem_iff_getElem?.mp q
    have hl : k < os.length := by rw [← S.len]; exact (List.getElem?_eq_some_iff.mp hk).1
    obtain ⟨a', us, h1, _, h3, _⟩ := S.own k _ _ (List.getElem?_eq_getElem hl)
    rw [hk] at h1; cases h1
    rw [hn] at h3; cases h3
  have hp : ∀ b, (fun b => b = a) b → H b = none := fun b q => by
    have q : b = a := q
    rw [q]; exact hn
  have hh : Has ((C.plus (inA as)).plus (fun b => b = a)) ρ σ H' := Has.far S.ws.oat hp x S.has
  have own : ∀ (k j : Nat) (es : List D), os[k]? = some (j, es) → ∃ b us, as[k]? = some b ∧ σ[j]? = some (some (.ref b)) ∧ H' b = some (.lst us) ∧ RepL ((C.plus (inA as)).plus (fun b => b = a)) H' us es := fun k j es h => by
    obtain ⟨b, us, h1, h2, h3, h4⟩ := S.own k j es h
    exact ⟨b, us, h1, h2, x _ _ h3 fun q => S.nO b (List.mem_of_getElem? h1) (C.nin b q), RepL.far S.ws.oat hp x _ _ h4⟩
  rw [plus_cons] at w r hh own
  refine ⟨by rw [List.length_cons, List.length_cons, S.len], List.nodup_cons.mpr ⟨na, S.nd⟩, fun b hb => ?_, w, hh.hide, fun k j es h => ?_⟩
  · rcases List.mem_cons.mp hb with q | q
    · subst q
      exact fun z => S.ws.oat.not hn (.inl z)
    · exact S.nO b q
  · cases k with
    | zero =>
      rw [List.getElem?_cons_zero] at h
      cases h
      exact ⟨a, vs, rfl, List.getElem?_set_self hi, ha, r⟩
    | succ k =>
      rw [List.getElem?_cons_succ] at h
      obtain ⟨b, us, h1, h2, h3, h4⟩ := own k j es h
      exact ⟨b, us, by rw [List.getElem?_cons_succ]; exact h1, by rw [List.getElem?_set_ne (Ne.symm (no _ (List.mem_of_getElem? h)))]; exact h2, h3, h4⟩
theorem mem_erase {as : List Addr} {k : Nat} {a b : Addr} (nd : as.Nodup) (h : as[k]? = some a) : b ∈ as.eraseIdx k ↔ b ∈ as ∧ b ≠ a := by
  rw [List.mem_eraseIdx_iff_getElem?]
  constructor
  · rintro ⟨i, hi, e⟩
    refine ⟨List.mem_of_getElem? e, fun q => ?_⟩
    subst q
    exact hi (nd_inj nd e h)
  · rintro ⟨q, ne⟩
    obtain ⟨i, e⟩ := List.mem_iff_getElem?.mp q
    refine ⟨i, fun z => ne ?_, e⟩
    subst z
    rw [h] at e
    exact (Option.some.inj e).symm
theorem Stw.freeze (S : Stw C os ρ g σ H as) {k i : Nat} {ds : List D} (hk : os[k]? = some (i, ds)) : Stw C (os.eraseIdx k) (ρ.set i (some (.lst ds))) g σ H (as.eraseIdx k) := by
  obtain ⟨a, vs, h1, h2, h3, h4⟩ := S.own k i ds hk
  have hs : ∀ b, inA (as.eraseIdx k) b → C.O b ∨ inA as b := fun b q => .inr ((mem_erase S.nd h1).mp q).1
  have sb : (as.eraseIdx k).Sublist as := List.eraseIdx_sublist _ _
  have na : ¬ (C.plus (inA (as.eraseIdx k))).O a := fun q => q.elim (S.nO a (List.mem_of_getElem? h1)) fun q => ((mem_erase S.nd h1).mp q).2 rfl
  refine ⟨?_, S.nd.sublist sb, fun b q => S.nO b (sb.subset q), S.ws.sub hs, fun j d h => ?_, fun l j es h => ?_⟩
  · rw [List.length_eraseIdx, List.length_eraseIdx, S.len]
  · by_cases hj : i = j
    · subst hj
      by_cases hl : i < ρ.length
      · rw [List.getElem?_set_self hl] at h
        cases h
        exact ⟨_, h2, .lst ⟨na, h3⟩ (RepL.sub hs h4)⟩
      · rw [List.getElem?_eq_none (by rw [List.length_set]; omega)] at h
        cases h
    · rw [List.getElem?_set_ne hj] at h
      exact S.has.sub hs j d h
  · rw [List.getElem?_eraseIdx] at h
    by_cases hl : l < k
    · rw [if_pos hl] at h
      obtain ⟨b, us, e1, e2, e3, e4⟩ := S.own l j es h
      exact ⟨b, us, by rw [List.getElem?_eraseIdx, if_pos hl]; exact e1, e2, e3, RepL.sub hs e4⟩
    · rw [if_neg hl] at h
      obtain ⟨b, us, e1, e2, e3, e4⟩ := S.own (l + 1) j es h
      exact ⟨b, us, by rw [List.getElem?_eraseIdx, if_neg hl]; exact e1, e2, e3, RepL.sub hs e4⟩
/-- an own list is written -/
theorem Stw.put (S : Stw C os ρ g σ H as) {k i : Nat} {a : Addr} {ds es : List D} {vs : List V} (hk : os[k]? = some (i, ds)) (ha : as[k]? = some a) (r : RepL (C.plus (inA as)) H vs es) : Stw C (os.set k (i, es)) ρ g σ (upd H a (.lst vs)) as := by
  obtain ⟨a', us, h1, h2, h3, h4⟩ := S.own k i ds hk
  rw [ha] at h1; cases h1
  have hO : (C.plus (inA as)).O a := .inr (List.mem_of_getElem? ha)
  have nN : ¬ C.N a := fun q => S.nO a (List.mem_of_getElem? ha) (C.nin a q)
  refine ⟨by rw [List.length_set, S.len], S.nd, S.nO, S.ws.put h3 hO nN, S.has.put h3 hO, fun l j fs h => ?_⟩
  by_cases hl : k = l
  · subst hl
    rw [List.getElem?_set_self (List.getElem?_eq_some_iff.mp hk).1] at h
    cases h
    exact ⟨a, vs, ha, h2, upd_same, RepL.put h3 hO _ _ r⟩
  · rw [List.getElem?_set_ne hl] at h
    obtain ⟨b, ws, e1, e2, e3, e4⟩ := S.own l j fs h
    have nb : b ≠ a := fun q => by
      subst q
      exact hl (nd_inj S.nd ha e1)
    exact ⟨b, ws, e1, e2, by rw [upd_ne nb]; exact e3, RepL.put h3 hO _ _ e4⟩
theorem Stw.isl (S : Stw C os ρ g σ H as) {a : Addr} (h : a ∈ as) : ∃ vs, H a = some (.lst vs) := by
  obtain ⟨k, hk⟩ := List.mem_iff_getElem?.mp h
  have hl : k < os.length := by rw [← S.len]; exact (List.getElem?_eq_some_iff.mp hk).1
  obtain ⟨a', us, h1, _, h3, _⟩ := S.own k _ _ (List.getElem?_eq_getElem hl)
  rw [hk] at h1; cases h1
  exact ⟨us, h3⟩
end
/-- .. and what was there when the block began -/
structure Stt (C : Cf) (H0 : Hp) (F : Addr → Prop) (os : Ow) (ρ : Rho) (g : G) (σ : L2.St) (H : Hp) (as : List Addr) : Prop where
  s : Stw C os ρ g σ H as
  ow : ∀ a ∈ as, F a ∨ H0 a = none
  kp : ∀ b o, H0 b = some o → ¬ C.N b → ¬ F b → H b = some o
  fl : ∀ b, F b → ¬ C.O b ∧ ∃ vs, H b = some (.lst vs)
structure Fin (C : Cf) (H0 : Hp) (F : Addr → Prop) (g : G) (H : Hp) : Prop where
  ws : WS C g H
  kp : ∀ b o, H0 b = some o → ¬ C.N b → ¬ F b → H b = some o
  fl : ∀ b, F b → ¬ C.O b ∧ ∃ vs, H b = some (.lst vs)
section
variable {C : Cf} {H0 : Hp} {F : Addr → Prop} {os : Ow} {ρ : Rho} {g g' : G} {σ : L2.St} {H H' : Hp} {as : List Addr}
theorem Stt.fin (S : Stt C H0 F os ρ g σ H as) : Fin C H0 F g H := ⟨S.s.ws.minus, S.kp, S.fl⟩
theorem Fin.ext (S : Fin C H0 F g H) (x : Ext C H H') (w : WS C g' H') : Fin C H0 F g' H' :=
  ⟨w, fun b o h n1 n2 => x _ _ (S.kp b o h n1 n2) n1, fun b q => by
    obtain ⟨h1, vs, h2⟩ := S.fl b q
    exact ⟨h1, vs, x _ _ h2 fun z => h1 (C.nin b z)⟩⟩
theorem Stt.ext (S : Stt C H0 F os ρ g σ H as) (x : Ext C H H') (w : WS (C.plus (inA as)) g' H') : Stt C H0 F os ρ g' σ H' as :=
  ⟨S.s.ext x w, S.ow, (S.fin.ext x w.minus).kp, (S.fin.ext x w.minus).fl⟩
theorem Stt.le {ρ' : Rho} (S : Stt C H0 F os ρ' g σ H as) (l : Le ρ ρ') : Stt C H0 F os ρ g σ H as := ⟨S.s.le l, S.ow, S.kp, S.fl⟩
theorem Stt.set (S : Stt C H0 F os ρ g σ H as) {i : Nat} {v : V} {d : D} (r : Rep (C.plus (inA as)) H v d) (hi : i < σ.length) (no : ∀ p ∈ os, p.1 ≠ i) : Stt C H0 F os (ρ.set i (some d)) g (σ.set i (some v)) H as := ⟨S.s.set r hi no, S.ow, S.kp, S.fl⟩
theorem Stt.isnew (S : Stt C H0 F os ρ g σ H as) {a : Addr} (hn : H a = none) : H0 a = none := by
  cases q : H0 a with
  | none => rfl
  | some o =>
    by_cases h1 : C.N a
    · exact absurd (Or.inl (C.nin a h1)) (S.s.ws.oat.not hn)
    · by_cases h2 : F a
      · obtain ⟨_, vs, e⟩ := S.fl a h2
        rw [hn] at e; cases e
      · have := S.kp a o q h1 h2
        rw [hn] at this; cases this
theorem Stt.new (S : Stt C H0 F os ρ g σ H as) {i : Nat} {a : Addr} {vs : List V} {ds : List D} (x : Ext C H H') (hn : H a = none) (w : WS ((C.plus (inA as)).plus (fun b => b = a)) g' H') (ha : H' a = some (.lst vs)) (r : RepL ((C.plus (inA as)).plus (fun b => b = a)) H' vs ds)
    (hi : i < σ.length) (no : ∀ p ∈ os, p.1 ≠ i) : Stt C H0 F ((i, ds) :: os) (ρ.set i none) g' (σ.set i (some (.ref a))) H' (a :: as) :=
  ⟨S.s.new x hn w ha r hi no, fun b hb => (List.mem_cons.mp hb).elim (fun q => by rw [q]; exact .inr (S.isnew hn)) (S.ow b), (S.fin.ext x w.minus.minus).kp, (S.fin.ext x w.minus.minus).fl⟩
theorem Stt.freeze (S : Stt C H0 F os ρ g σ H as) {k i : Nat} {ds : List D} (hk : os[k]? = some (i, ds)) : Stt C H0 F (os.eraseIdx k) (ρ.set i (some (.lst ds))) g σ H (as.eraseIdx k) :=
  ⟨S.s.freeze hk, fun b hb => S.ow b ((List.eraseIdx_sublist _ _).subset hb), S.kp, S.fl⟩
theorem Stt.put (S : Stt C H0 F os ρ g σ H as) {k i : Nat} {a : Addr} {ds es : List D} {vs : List V} (hk : os[k]? = some (i, ds)) (ha : as[k]? = some a) (r : RepL (C.plus (inA as)) H vs es) : Stt C H0 F (os.set k (i, es)) ρ g σ (upd H a (.lst vs)) as := by
  have hm := List.mem_of_getElem? ha
  refine ⟨S.s.put hk ha r, S.ow, fun b o h n1 n2 => ?_, fun b q => ?_⟩
  · have nb : b ≠ a := fun q => by
      subst q
      rcases S.ow b hm with z | z
      · exact n2 z
      · rw [z] at h; cases h
    rw [upd_ne nb]
    exact S.kp b o h n1 n2
  · by_cases hb : b = a
    · subst hb
      exact ⟨(S.fl b q).1, vs, upd_same⟩
    · rw [upd_ne hb]
      exact S.fl b q
/-- a block within the block -/
theorem Stt.base (S : Stt C H0 F os ρ g σ H as) : Stt C H (inA as) os ρ g σ H as := ⟨S.s, fun a h => .inl h, fun b o h _ _ => h, fun b q => ⟨S.s.nO b q, S.s.isl q⟩⟩
theorem Fin.up {H1 : Hp} {os1 : Ow} {ρ1 : Rho} {g1 : G} {σ1 : L2.St} {as1 : List Addr} (S : Stt C H0 F os1 ρ1 g1 σ1 H1 as1) (T : Fin C H1 (inA as1) g H) : Fin C H0 F g H := by
  refine ⟨T.ws, fun b o h n1 n2 => T.kp b o (S.kp b o h n1 n2) n1 fun q => ?_, fun b q => ?_⟩
  · rcases S.ow b q with z | z
    · exact n2 z
    · rw [z] at h; cases h
  · obtain ⟨h1, vs, h2⟩ := S.fl b q
    refine ⟨h1, ?_⟩
    by_cases hb : inA as1 b
    · exact (T.fl b hb).2
    · exact ⟨vs, T.kp b _ h2 (fun z => h1 (C.nin b z)) hb⟩
theorem Stt.up {H1 : Hp} {os1 : Ow} {ρ1 : Rho} {g1 : G} {σ1 : L2.St} {as1 : List Addr} (S : Stt C H0 F os1 ρ1 g1 σ1 H1 as1) (T : Stt C H1 (inA as1) os ρ g σ H as) : Stt C H0 F os ρ g σ H as :=
  ⟨T.s, fun a h => (T.ow a h).elim (S.ow a) fun q => .inr (S.isnew q), (Fin.up S T.fin).kp, (Fin.up S T.fin).fl⟩
end
end Tc

set_option Elab.async false
set_option linter.all false
set_option maxRecDepth 100000
set_option maxHeartbeats 4000000
namespace Tc
open PySem PySem.Spec PyProof.Rows L2

/-! ### data in which there is no list -/
mutual
def D.flat : D → Bool
  | .lst _ => false
  | .tup l => D.flatL l
  | _ => true
def D.flatL : List D → Bool
  | [] => true
  | d :: ds => D.flat d && D.flatL ds
end
mutual
theorem Rep.shut {C : Cf} {P : Addr → Prop} {H : Hp} (hp : ∀ a, P a → ∃ vs, H a = some (.lst vs)) : ∀ (d : D) (v : V), d.flat = true → Rep C H v d → Rep (C.plus P) H v d
  | .non, _, _, h => by cases h; exact .non
  | .bl b, _, _, h => by cases h; exact .bl b
  | .int i, _, _, h => by cases h; exact .int i
  | .str s, _, _, h => by cases h; exact .str s
  | .lst ds, _, f, h => by cases f
  | .tup ds, _, f, h => by
    unfold D.flat at f
    cases h with
    | tup a b => exact .tup (a.imp (fun a => ⟨fun q => q.elim a.1 (fun q => by obtain ⟨vs, e⟩ := hp _ q; rw [a.2] at e; cases e), a.2⟩) id) (RepL.shut hp ds _ f b)
  | .scr ns, _, _, h => by
    cases h with
    | scr a => exact .scr (a.imp (fun a => ⟨fun q => q.elim a.1 (fun q => by obtain ⟨o, b⟩ := a.2; obtain ⟨vs, e⟩ := hp _ q; rw [b] at e; cases e), a.2⟩) id)
  | .hnd n, _, _, h => by
    cases h with
    | hnd a => exact .hnd a
  | .lam n, _, _, h => by
    cases h with
    | lam a => exact .lam a
  | .ty n, _, _, h => by cases h; exact .ty n
  | .cls n, _, _, h => by cases h; exact .cls n
  | .dic ks vs, _, _, h => by
    cases h with
    | dic0 a b => exact .dic0 (fun q => q.elim a fun q => by obtain ⟨vs, e⟩ := hp _ q; rcases b with b | b <;> (rw [b] at e; cases e)) b
theorem RepL.shut {C : Cf} {P : Addr → Prop} {H : Hp} (hp : ∀ a, P a → ∃ vs, H a = some (.lst vs)) : ∀ (ds : List D) (vs : List V), D.flatL ds = true → RepL C H vs ds → RepL (C.plus P) H vs ds
  | [], _, _, h => by cases h; exact .nil
  | d :: ds, _, f, h => by
    unfold D.flatL at f
    rw [Bool.and_eq_true] at f
    cases h with
    | cons a b => exact .cons (Rep.shut hp d _ f.1 a) (RepL.shut hp ds _ f.2 b)
end
def gflat (g : G) : Bool := g.all D.flatL
theorem WS.shut {C : Cf} {P : Addr → Prop} {g : G} {H : Hp} (w : WS C g H) (hp : ∀ a, P a → ∃ vs, H a = some (.lst vs)) (f : gflat g = true) : WS (C.plus P) g H :=
  ⟨fun b q => q.elim (w.oat b) fun q => .inl (hp b q), w.j, w.len, fun n a e => by
    obtain ⟨ds, vs, e1, e2, e3⟩ := w.con n a e
    exact ⟨ds, vs, e1, e2, RepL.shut hp ds vs (List.all_eq_true.mp f _ (List.mem_of_getElem? e1)) e3⟩⟩
def flatM (m : M D) : M D := fun g => match m g with
  | .ok d g1 => if D.flat d = true ∧ gflat g1 = true then .ok d g1 else .bad
  | _ => .bad
def gflatM {α : Type} (m : M α) : M α := fun g => match m g with
  | .ok d g1 => if gflat g1 = true then .ok d g1 else .bad
  | _ => .bad

/-! ### expressions of a def that has lists of its own -/
def tEO (C : Cf) (W : WX) (os : Ow) (ρ : Rho) (m : M D) : TE := fun σ H Q => ∃ as g, Stw C os ρ g σ H as ∧ Out (C.plus (inA as)) H (m g) Q (xw C W σ)
structure EO (X : Cx) (C : Cf) (W : WX) (os : Ow) (ρ : Rho) (e : Expr) (m : M D) : Prop where
  pe : PE X e (tEO C W os ρ m)
def tTO (C : Cf) (W : WX) (os : Ow) (ρ : Rho) (m : M Bool) : TT := fun σ H Q => ∃ as g, Stw C os ρ g σ H as ∧ OutB (C.plus (inA as)) H (m g) Q (xw C W σ)
structure TO (X : Cx) (C : Cf) (W : WX) (os : Ow) (ρ : Rho) (e : Expr) (m : M Bool) : Prop where
  pt : PT X e (tTO C W os ρ m)
def tLO (C : Cf) (W : WX) (os : Ow) (ρ : Rho) (m : M (List D)) : TA := fun σ H Q => ∃ as g, Stw C os ρ g σ H as ∧ OutL (C.plus (inA as)) H (m g) Q (xw C W σ)
structure LO (X : Cx) (C : Cf) (W : WX) (os : Ow) (ρ : Rho) (es : List Expr) (m : M (List D)) : Prop where
  pa : PA X es (tLO C W os ρ m)
def tFO (C : Cf) (W : WX) (os : Ow) (ρ : Rho) (m : M (List D)) : TE := fun σ H Q => ∃ as g, Stw C os ρ g σ H as ∧ OutF (C.plus (inA as)) H (m g) Q (xw C W σ)
structure FO (X : Cx) (C : Cf) (W : WX) (os : Ow) (ρ : Rho) (e : Expr) (m : M (List D)) : Prop where
  pe : PE X e (tFO C W os ρ m)
def tIO (C : Cf) (W : WX) (os : Ow) (ρ : Rho) (m : M (List D)) : TI := fun σ H R => ∃ as g, Stw C os ρ g σ H as ∧ OutI (C.plus (inA as)) H (m g) R (xw C W σ)
structure IO (X : Cx) (C : Cf) (W : WX) (os : Ow) (ρ : Rho) (tg e : Expr) (m : M (List D)) : Prop where
  pi : PI X tg e (tIO C W os ρ m)
theorem pt_ex {X : Cx} {e : Expr} {ι : Type} {t : ι → TT} (h : ∀ i, PT X e (t i)) : PT X e (fun σ H Q => ∃ i, t i σ H Q) := ⟨fun p s σ H Q I ⟨i, q⟩ => (h i).run p s σ H Q I q⟩
theorem pa_ex {X : Cx} {e : List Expr} {ι : Type} {t : ι → TA} (h : ∀ i, PA X e (t i)) : PA X e (fun σ H Q => ∃ i, t i σ H Q) := ⟨fun po p s σ H Q I ⟨i, q⟩ => (h i).run po p s σ H Q I q⟩
theorem pi_ex {X : Cx} {tg e : Expr} {ι : Type} {t : ι → TI} (h : ∀ i, PI X tg e (t i)) : PI X tg e (fun σ H Q => ∃ i, t i σ H Q) := ⟨fun p s σ H Q I ⟨i, q⟩ => (h i).run p s σ H Q I q⟩
theorem pss_ex {X : Cx} {e : List Stmt} {ι : Type} {t : ι → TS} (h : ∀ i, PSs X e (t i)) : PSs X e (fun D σ H => ∃ i, t i D σ H) := ⟨fun p s σ H D I ⟨i, q⟩ => (h i).run p s σ H D I q⟩
theorem pss_imp {X : Cx} {e : List Stmt} {t t' : TS} (h : PSs X e t) (i : ∀ D σ H, t' D σ H → t D σ H) : PSs X e t' := ⟨fun p s σ H D I q => h.run p s σ H D I (i _ _ _ q)⟩
section
variable {X : Cx} {C : Cf} {W : WX} {os : Ow} {ρ : Rho} {pos : Pos} {e : Expr}
theorem eo {m : M D} (h : ∀ P, ED X (C.plus P) W ρ e m) : EO X C W os ρ e m := ⟨pe_imp (pe_ex fun as => (h (inA as)).pe) fun σ H Q ⟨as, g, S, o⟩ => ⟨as, g, S.ws, S.has, o⟩⟩
theorem to {m : M Bool} (h : ∀ P, TD X (C.plus P) W ρ e m) : TO X C W os ρ e m := ⟨pt_imp (pt_ex fun as => (h (inA as)).pt) fun σ H Q ⟨as, g, S, o⟩ => ⟨as, g, S.ws, S.has, o⟩⟩
theorem lo {es : List Expr} {m : M (List D)} (h : ∀ P, LD X (C.plus P) W ρ es m) : LO X C W os ρ es m := ⟨pa_imp (pa_ex fun as => (h (inA as)).pa) fun σ H Q ⟨as, g, S, o⟩ => ⟨as, g, S.ws, S.has, o⟩⟩
theorem fo {m : M (List D)} (h : ∀ P, FD X (C.plus P) W ρ e m) : FO X C W os ρ e m := ⟨pe_imp (pe_ex fun as => (h (inA as)).pe) fun σ H Q ⟨as, g, S, o⟩ => ⟨as, g, S.ws, S.has, o⟩⟩
theorem io {tg : Expr} {m : M (List D)} (h : ∀ P, ID X (C.plus P) W ρ tg e m) : IO X C W os ρ tg e m := ⟨pi_imp (pi_ex fun as => (h (inA as)).pi) fun σ H Q ⟨as, g, S, o⟩ => ⟨as, g, S.ws, S.has, o⟩⟩
theorem eo_fd {m : M (List D)} (h : ∀ P, FD X (C.plus P) W ρ e m) : EO X C W os ρ e (fdM m) := eo fun P => ed_fd (h P)
theorem plus_er {as : List Addr} {k : Nat} : (C.plus (inA (as.eraseIdx k))).plus (inA as) = C.plus (inA as) := by
  rw [← plus_sub]
  exact fun b q => .inr ((List.eraseIdx_sublist _ _).subset q)
/-- a list of one's own is read, and nothing of it is kept -/
theorem eo_own {i : Nat} {ds : List D} {m : M D} (k : Nat) (hk : os[k]? = some (i, ds)) (h : EO X C W (os.eraseIdx k) (ρ.set i (some (.lst ds))) e m) : EO X C W os ρ e (flatM m) :=
  ⟨pe_imp h.pe fun σ H Q ⟨as, g, S, o⟩ => by
    refine ⟨as.eraseIdx k, g, S.freeze hk, ?_⟩
    unfold flatM at o
    cases hm : m g with
    | bad => rw [hm] at o; exact o
    | exc c g1 => rw [hm] at o; exact o.elim
    | ok d g1 =>
      rw [hm] at o
      have o : Out (C.plus (inA as)) H (if D.flat d = true ∧ gflat g1 = true then .ok d g1 else .bad) Q (xw C W σ) := o
      by_cases hf : D.flat d = true ∧ gflat g1 = true
      · rw [if_pos hf] at o
        intro v H' x w r
        have hp : ∀ a, inA as a → ∃ vs, H' a = some (.lst vs) := fun a q => by
          obtain ⟨vs, z⟩ := S.isl q
          exact ⟨vs, x _ _ z fun n => S.nO a q (C.nin a n)⟩
        have w' := w.shut hp hf.2
        have r' := Rep.shut hp d v hf.1 r
        rw [plus_er] at w' r'
        exact o v H' x w' r'
      · rw [if_neg hf] at o
        exact o.elim⟩
theorem to_own {i : Nat} {ds : List D} {m : M Bool} (k : Nat) (hk : os[k]? = some (i, ds)) (h : TO X C W (os.eraseIdx k) (ρ.set i (some (.lst ds))) e m) : TO X C W os ρ e (gflatM m) :=
  ⟨pt_imp h.pt fun σ H Q ⟨as, g, S, o⟩ => by
    refine ⟨as.eraseIdx k, g, S.freeze hk, ?_⟩
    unfold gflatM at o
    cases hm : m g with
    | bad => rw [hm] at o; exact o
    | exc c g1 => rw [hm] at o; exact o.elim
    | ok d g1 =>
      rw [hm] at o
      have o : OutB (C.plus (inA as)) H (if gflat g1 = true then .ok d g1 else .bad) Q (xw C W σ) := o
      by_cases hf : gflat g1 = true
      · rw [if_pos hf] at o
        intro H' x w
        have hp : ∀ a, inA as a → ∃ vs, H' a = some (.lst vs) := fun a q => by
          obtain ⟨vs, z⟩ := S.isl q
          exact ⟨vs, x _ _ z fun n => S.nO a q (C.nin a n)⟩
        have w' := w.shut hp hf
        rw [plus_er] at w'
        exact o H' x w'
      · rw [if_neg hf] at o
        exact o.elim⟩
end

/-! ### statements -/
structure Xt where
  nx : Ow → Rho → M D → Prop
  bk : Ow → Rho → M D → Prop
  ct : Ow → Rho → M D → Prop
  rf : Bool
/-- a list that is given back, and that nobody else has -/
structure Frs (C : Cf) (H0 : Hp) (F : Addr → Prop) (g : G) (H : Hp) (a : Addr) (ds : List D) : Prop where
  nw : F a ∨ H0 a = none
  nO : ¬ C.O a
  ws : WS (C.plus (fun b => b = a)) g H
  at_ : ∃ vs, H a = some (.lst vs) ∧ RepL (C.plus (fun b => b = a)) H vs ds
structure Go (C : Cf) (W : WX) (H0 : Hp) (F : Addr → Prop) (E : Xt) (D' : Ends) (r : R D) : Prop where
  nb : r ≠ .bad
  nx : ∀ os ρ m g σ H as, E.nx os ρ m → m g = r → Stt C H0 F os ρ g σ H as → D'.nx σ H
  bk : ∀ os ρ m g σ H as, E.bk os ρ m → m g = r → Stt C H0 F os ρ g σ H as → D'.bk σ H
  ct : ∀ os ρ m g σ H as, E.ct os ρ m → m g = r → Stt C H0 F os ρ g σ H as → D'.ct σ H
  rt : E.rf = false → ∀ d g H v, r = .ok d g → Fin C H0 F g H → Rep C H v d → D'.rt v H
  rff : E.rf = true → ∀ d g H, r = .ok d g → Fin C H0 F g H → ∃ ds, d = .lst ds ∧ ∀ a, Frs C H0 F g H a ds → D'.rt (.ref a) H
  ex : ∀ c g H σ, r = .exc c g → Fin C H0 F g H → W (.ref (C.cls c)) none σ H
def tSD (C : Cf) (W : WX) (E : Xt) (os : Ow) (ρ : Rho) (m : M D) : TS := fun D' σ H => ∃ H0 F g as, Stt C H0 F os ρ g σ H as ∧ Go C W H0 F E D' (m g)
structure SD (X : Cx) (C : Cf) (W : WX) (E : Xt) (os : Ow) (ρ : Rho) (sts : List Stmt) (m : M D) : Prop where
  ps : PSs X sts (tSD C W E os ρ m)
section
variable {X : Cx} {C : Cf} {W : WX} {E : Xt} {os : Ow} {ρ : Rho} {pos : Pos} {e : Expr} {rest : List Stmt} {σ : L2.St} {H H0 : Hp} {F : Addr → Prop} {g : G} {as : List Addr} {D' : Ends}
theorem stepE {me : M D} {k : D → M D} {P : VK} (S : Stt C H0 F os ρ g σ H as) (G : Go C W H0 F E D' (M.bind me k g))
    (c : ∀ d v H1 g1, Stt C H0 F os ρ g1 σ H1 as → Rep (C.plus (inA as)) H1 v d → Go C W H0 F E D' (k d g1) → P v H1) : tEO C W os ρ me σ H P := by
  refine ⟨as, g, S.s, ?_⟩
  unfold M.bind at G
  cases hm : me g with
  | bad => rw [hm] at G; exact G.nb rfl
  | exc c g1 =>
    rw [hm] at G
    exact fun H' x w => G.ex c g1 H' σ rfl (S.fin.ext x w.minus)
  | ok d g1 =>
    rw [hm] at G
    exact fun v H' x w r => c d v H' g1 (S.ext x w) r G
theorem stepEx {me : M D} {k : D → M D} {P : VK} (S : Stt C H0 F os ρ g σ H as) (G : Go C W H0 F E D' (M.bind me k g))
    (c : ∀ d v H1 g1, Ext C H H1 → me g = .ok d g1 → Stt C H0 F os ρ g1 σ H1 as → Rep (C.plus (inA as)) H1 v d → Go C W H0 F E D' (k d g1) → P v H1) : tEO C W os ρ me σ H P := by
  refine ⟨as, g, S.s, ?_⟩
  unfold M.bind at G
  cases hm : me g with
  | bad => rw [hm] at G; exact G.nb rfl
  | exc c g1 =>
    rw [hm] at G
    exact fun H' x w => G.ex c g1 H' σ rfl (S.fin.ext x w.minus)
  | ok d g1 =>
    rw [hm] at G
    exact fun v H' x w r => c d v H' g1 x hm (S.ext x w) r G
theorem stepT {me : M Bool} {k : Bool → M D} {P : Bool → Hp → Prop} (S : Stt C H0 F os ρ g σ H as) (G : Go C W H0 F E D' (M.bind me k g))
    (c : ∀ d H1 g1, Stt C H0 F os ρ g1 σ H1 as → Go C W H0 F E D' (k d g1) → P d H1) : tTO C W os ρ me σ H P := by
  refine ⟨as, g, S.s, ?_⟩
  unfold M.bind at G
  cases hm : me g with
  | bad => rw [hm] at G; exact G.nb rfl
  | exc c g1 =>
    rw [hm] at G
    exact fun H' x w => G.ex c g1 H' σ rfl (S.fin.ext x w.minus)
  | ok d g1 =>
    rw [hm] at G
    exact fun H' x w => c d H' g1 (S.ext x w) G
theorem stepTe {me : M Bool} {k : Bool → M D} {P : Bool → Hp → Prop} (S : Stt C H0 F os ρ g σ H as) (G : Go C W H0 F E D' (M.bind me k g))
    (c : ∀ d H1 g1, me g = .ok d g1 → Stt C H0 F os ρ g1 σ H1 as → Go C W H0 F E D' (k d g1) → P d H1) : tTO C W os ρ me σ H P := by
  refine ⟨as, g, S.s, ?_⟩
  unfold M.bind at G
  cases hm : me g with
  | bad => rw [hm] at G; exact G.nb rfl
  | exc c g1 =>
    rw [hm] at G
    exact fun H' x w => G.ex c g1 H' σ rfl (S.fin.ext x w.minus)
  | ok d g1 =>
    rw [hm] at G
    exact fun H' x w => c d H' g1 hm (S.ext x w) G
theorem stepLo {me : M (List D)} {k : List D → M D} {P : List V → Hp → Prop} (S : Stt C H0 F os ρ g σ H as) (G : Go C W H0 F E D' (M.bind me k g))
    (c : ∀ ds vs H1 g1, me g = .ok ds g1 → Stt C H0 F os ρ g1 σ H1 as → RepL (C.plus (inA as)) H1 vs ds → Go C W H0 F E D' (k ds g1) → P vs H1) : tLO C W os ρ me σ H P := by
  refine ⟨as, g, S.s, ?_⟩
  unfold M.bind at G
  cases hm : me g with
  | bad => rw [hm] at G; exact G.nb rfl
  | exc c g1 =>
    rw [hm] at G
    exact fun H' x w => G.ex c g1 H' σ rfl (S.fin.ext x w.minus)
  | ok d g1 =>
    rw [hm] at G
    exact fun v H' x w r => c d v H' g1 hm (S.ext x w) r G
theorem stepF {me : M (List D)} {k : List D → M D} {P : VK} (S : Stt C H0 F os ρ g σ H as) (G : Go C W H0 F E D' (M.bind me k g))
    (c : ∀ ds vs a H1 g1, Ext C H H1 → H a = none → WS ((C.plus (inA as)).plus (fun b => b = a)) g1 H1 → H1 a = some (.lst vs) → RepL ((C.plus (inA as)).plus (fun b => b = a)) H1 vs ds → Go C W H0 F E D' (k ds g1) → P (.ref a) H1) : tFO C W os ρ me σ H P := by
  refine ⟨as, g, S.s, ?_⟩
  unfold M.bind at G
  cases hm : me g with
  | bad => rw [hm] at G; exact G.nb rfl
  | exc c g1 =>
    rw [hm] at G
    exact fun H' x w => G.ex c g1 H' σ rfl (S.fin.ext x w.minus)
  | ok d g1 =>
    rw [hm] at G
    exact fun a vs H' x n w h r => c d vs a H' g1 x n w h r G
theorem stepIo {me : M (List D)} {k : List D → M D} {P : It → Hp → Prop} (S : Stt C H0 F os ρ g σ H as) (G : Go C W H0 F E D' (M.bind me k g))
    (c : ∀ xs J H1 g1, Stt C H0 F os ρ g1 σ H1 as → IterOk (C.plus (inA as)) H1 J xs → Go C W H0 F E D' (k xs g1) → P J H1) : tIO C W os ρ me σ H P := by
  refine ⟨as, g, S.s, ?_⟩
  unfold M.bind at G
  cases hm : me g with
  | bad => rw [hm] at G; exact G.nb rfl
  | exc c g1 =>
    rw [hm] at G
    exact fun H' x w => G.ex c g1 H' σ rfl (S.fin.ext x w.minus)
  | ok d g1 =>
    rw [hm] at G
    exact fun J H' x w r => c d J H' g1 (S.ext x w) r G

theorem sd_nil {m : M D} (h : E.nx os ρ m) : SD X C W E os ρ [] m := ⟨pss_imp pss_nil fun D' σ H ⟨H0, F, g, as, S, G⟩ => G.nx _ _ _ _ _ _ _ h rfl S⟩
theorem sd_le {ρ' : Rho} {sts : List Stmt} {m : M D} (l : Le ρ' ρ) (h : SD X C W E os ρ' sts m) : SD X C W E os ρ sts m := ⟨pss_imp h.ps fun D' σ H ⟨H0, F, g, as, S, G⟩ => ⟨H0, F, g, as, S.le l, G⟩⟩
/-- a list of one's own that is written no more -/
theorem sd_frz {i : Nat} {ds : List D} {sts : List Stmt} {m : M D} (k : Nat) (hk : os[k]? = some (i, ds)) (h : SD X C W E (os.eraseIdx k) (ρ.set i (some (.lst ds))) sts m) : SD X C W E os ρ sts m :=
  ⟨pss_imp h.ps fun D' σ H ⟨H0, F, g, as, S, G⟩ => ⟨H0, F, g, _, S.freeze hk, G⟩⟩
theorem sd_pass {m : M D} (h : SD X C W E os ρ rest m) : SD X C W E os ρ (.Pass pos :: rest) m := ⟨pss_imp (pss_cons ps_pass h.ps) fun D' σ H q => q⟩
theorem sd_break {m : M D} (h : E.bk os ρ m) : SD X C W E os ρ (.Break pos :: rest) m := ⟨pss_imp (pss_cons ps_break pss_never) fun D' σ H ⟨H0, F, g, as, S, G⟩ => G.bk _ _ _ _ _ _ _ h rfl S⟩
theorem sd_continue {m : M D} (h : E.ct os ρ m) : SD X C W E os ρ (.Continue pos :: rest) m := ⟨pss_imp (pss_cons ps_continue pss_never) fun D' σ H ⟨H0, F, g, as, S, G⟩ => G.ct _ _ _ _ _ _ _ h rfl S⟩
/-- behind the end of a block: other ends -/
theorem Go.nxt {E' : Xt} {D2 : Ends} {r : R D} (G : Go C W H0 F E D' r) (h : ∀ os ρ m g σ H as, E'.nx os ρ m → m g = r → Stt C H0 F os ρ g σ H as → D2.nx σ H) (hb : E'.bk = E.bk) (hc : E'.ct = E.ct) (db : D2.bk = D'.bk) (dc : D2.ct = D'.ct) (dr : D2.rt = D'.rt) (hf : E'.rf = E.rf) : Go C W H0 F E' D2 r :=
  ⟨G.nb, h, by rw [hb, db]; exact G.bk, by rw [hc, dc]; exact G.ct, by rw [dr, hf]; exact G.rt, by rw [dr, hf]; exact G.rff, G.ex⟩
theorem own_no {os : Ow} {i : Nat} (h : (os.map (·.1)).contains i = false) : ∀ p ∈ os, p.1 ≠ i := fun p hp q => by
  have : (os.map (·.1)).contains i = true := by
    rw [List.contains_iff_mem]
    exact List.mem_map.mpr ⟨p, hp, q⟩
  rw [h] at this
  cases this
theorem sd_set {x : Str} {p : Pos} {me : M D} {k : D → M D} (i : Nat) (nd : X.N.Nodup) (he : EO X C W os ρ e me) (hr : ∀ d, SD X C W E os (ρ.set i (some d)) rest (k d)) (no : (os.map (·.1)).contains i = false := by rfl) (hi : X.N[i]? = some x := by rfl) (hx : Loc X.env.scope x := by first | exact Or.inl rfl | exact Or.inr rfl) (hs : swapsWith e (some (.Name x p)) pos.line X.env = pure false := by rfl) (hf : X.fn x = true ∨ X.env.scope.names.lookup x = some .local := by first | exact .inl rfl | exact .inr rfl) :
    SD X C W E os ρ (.Assign [.Name x p] e pos :: rest) (M.bind me k) := by
  refine ⟨⟨fun pins s σ H D' I h => ?_⟩⟩
  have hl : i < σ.length := by rw [I.len]; exact (List.getElem?_eq_some_iff.mp hi).1
  refine (pss_cons (ps_set nd hi hx he.pe hs hf) (pss_ex fun d => (hr d).ps)).run pins s σ H D' I ?_
  obtain ⟨H0, F, g, as, S, G⟩ := h
  exact stepE S G fun d v H1 g1 S1 r1 G1 => ⟨d, H0, F, g1, as, S1.set r1 hl (own_no no), G1⟩
theorem sd_own {x : Str} {p : Pos} {me : M (List D)} {k : List D → M D} (i : Nat) (nd : X.N.Nodup) (he : FO X C W os ρ e me) (hr : ∀ ds, SD X C W E ((i, ds) :: os) (ρ.set i none) rest (k ds)) (no : (os.map (·.1)).contains i = false := by rfl) (hi : X.N[i]? = some x := by rfl) (hx : Loc X.env.scope x := by first | exact Or.inl rfl | exact Or.inr rfl) (hs : swapsWith e (some (.Name x p)) pos.line X.env = pure false := by rfl) (hf : X.fn x = true ∨ X.env.scope.names.lookup x = some .local := by first | exact .inl rfl | exact .inr rfl) :
    SD X C W E os ρ (.Assign [.Name x p] e pos :: rest) (M.bind me k) := by
  refine ⟨⟨fun pins s σ H D' I h => ?_⟩⟩
  have hl : i < σ.length := by rw [I.len]; exact (List.getElem?_eq_some_iff.mp hi).1
  refine (pss_cons (ps_set nd hi hx he.pe hs hf) (pss_ex fun d => (hr d).ps)).run pins s σ H D' I ?_
  obtain ⟨H0, F, g, as, S, G⟩ := h
  exact stepF S G fun ds vs a H1 g1 x1 n1 w1 h1 r1 G1 => ⟨ds, H0, F, g1, a :: as, S.new x1 n1 w1 h1 r1 hl (own_no no), G1⟩
theorem sd_expr {me : M D} {k : M D} (he : EO X C W os ρ e me) (hr : SD X C W E os ρ rest k) (hs : swapsWith e none pos.line X.env = pure false := by rfl) : SD X C W E os ρ (.Expr e pos :: rest) (M.bind me fun _ => k) := by
  refine ⟨pss_imp (pss_cons (ps_expr he.pe hs) hr.ps) fun D' σ H ⟨H0, F, g, as, S, G⟩ => ?_⟩
  exact stepE S G fun d v H1 g1 S1 r1 G1 => ⟨H0, F, g1, as, S1, G1⟩
theorem sd_ret {me : M D} (hf : E.rf = false) (he : EO X C W os ρ e me) : SD X C W E os ρ (.Return (some e) pos :: rest) me := by
  refine ⟨pss_imp (pss_cons (ps_ret he.pe) pss_never) fun D' σ H ⟨H0, F, g, as, S, G⟩ => ?_⟩
  rw [← M.bind_pure me] at G
  exact stepE S G fun d v H1 g1 S1 r1 G1 => G1.rt hf d g1 H1 v rfl S1.fin (Rep.minus _ _ r1)
theorem sd_retN (hf : E.rf = false) : SD X C W E os ρ (.Return none pos :: rest) (M.pure .non) := by
  refine ⟨pss_imp (pss_cons ps_retN pss_never) fun D' σ H ⟨H0, F, g, as, S, G⟩ => ?_⟩
  exact G.rt hf .non g H .non rfl S.fin .non
theorem sd_if {N1 : Ow → Rho → M D → Prop} {c : Expr} {a b : List Stmt} {mc : M Bool} {ma mb : M D} (hc : TO X C W os ρ c mc) (ha : SD X C W ⟨N1, E.bk, E.ct, E.rf⟩ os ρ a ma) (hb : SD X C W ⟨N1, E.bk, E.ct, E.rf⟩ os ρ b mb)
    (hr : ∀ os ρ m, N1 os ρ m → SD X C W E os ρ rest m) : SD X C W E os ρ (.If c a b pos :: rest) (iteM mc ma mb) := by
  refine ⟨pss_imp (pss_cons (ps_if hc.pt ha.ps hb.ps) (pss_ex (ι := { p : Ow × Rho × M D // N1 p.1 p.2.1 p.2.2 }) fun p => (hr _ _ _ p.2).ps)) fun D' σ H ⟨H0, F, g, as, S, G⟩ => ?_⟩
  refine stepT S G fun d H1 g1 S1 G1 => ?_
  have key : ∀ {r : R D}, Go C W H0 F E D' r → Go C W H0 F ⟨N1, E.bk, E.ct, E.rf⟩ { D' with nx := fun σ H => ∃ p : { p : Ow × Rho × M D // N1 p.1 p.2.1 p.2.2 }, tSD C W E p.1.1 p.1.2.1 p.1.2.2 D' σ H } r := fun {r} G => by
    refine G.nxt (fun os ρ m g σ H as h e S => ?_) rfl rfl rfl rfl rfl rfl
    exact ⟨⟨(os, ρ, m), h⟩, H0, F, g, as, S, (by show Go C W H0 F E D' (m g); rw [e]; exact G)⟩
  cases d with
  | true => exact ⟨H0, F, g1, as, S1, key G1⟩
  | false => exact ⟨H0, F, g1, as, S1, key G1⟩
/-- the ends of a branch, of a turn -/
def At {S : Type} (oE : S → Ow) (rE : S → Rho) (K : S → M D) : Ow → Rho → M D → Prop := fun os ρ m => ∃ s, os = oE s ∧ Le (rE s) ρ ∧ m = K s
theorem at_mk {S : Type} {oE : S → Ow} {rE : S → Rho} {K : S → M D} (s : S) (l : Le (rE s) ρ) (ho : os = oE s := by rfl) : At oE rE K os ρ (K s) := ⟨s, ho, l, rfl⟩
theorem sd_join {S : Type} {oE : S → Ow} {rE : S → Rho} {K : S → M D} (h : ∀ s, SD X C W E (oE s) (rE s) rest (K s)) : ∀ os ρ m, At oE rE K os ρ m → SD X C W E os ρ rest m := fun os ρ m ⟨s, e1, l, e2⟩ => by
  subst e1 e2
  exact sd_le l (h s)
def Nev : Ow → Rho → M D → Prop := fun _ _ _ => False
theorem sd_nev : ∀ os ρ m, Nev os ρ m → SD X C W E os ρ rest m := fun _ _ _ h => h.elim
end
end Tc

set_option Elab.async false
set_option linter.all false
set_option maxRecDepth 100000
set_option maxHeartbeats 4000000
namespace Tc
open PySem PySem.Spec PyProof.Rows L2

/-! ### loops -/
def forL {S T : Type} (dec : D → Option T) (mb : S → T → (S → M D) → (S → M D) → M D) (k : S → M D) : List D → S → M D
  | [], s => k s
  | x :: xs, s => M.bind (ofO (dec x)) fun y => mb s y (forL dec mb k xs) k
def forM {S T : Type} (mi : M (List D)) (dec : D → Option T) (mb : S → T → (S → M D) → (S → M D) → M D) (k : S → M D) (s : S) : M D := M.bind mi fun xs => forL dec mb k xs s
def whileL {S : Type} (mc : S → M Bool) (mb : S → (S → M D) → (S → M D) → M D) (k : S → M D) : Nat → S → M D
  | 0, _ => bad
  | n + 1, s => M.bind (mc s) fun b => if b = true then mb s (whileL mc mb k n) k else k s
theorem Go.at {C : Cf} {W : WX} {H0 : Hp} {F : Addr → Prop} {E : Xt} {D' : Ends} {r r' : R D} (G : Go C W H0 F E D' r) (e : r' = r) : Go C W H0 F E D' r' := by rw [e]; exact G
section
variable {X : Cx} {C : Cf} {W : WX} {E : Xt} {os : Ow} {ρ : Rho} {pos : Pos} {e : Expr} {rest : List Stmt} {σ : L2.St} {H H0 : Hp} {F : Addr → Prop} {g : G} {as : List Addr} {D' : Ends}
theorem iter_at {J : It} {xs : List D} {H1 : Hp} {as1 : List Addr} {os1 : Ow} {ρ1 : Rho} {g1 : G} {σ1 : L2.St} (it : IterOk (C.plus (inA as1)) H1 J xs) (S1 : Stw C os1 ρ1 g1 σ1 H1 as1) (S : Stt C H1 (inA as1) os ρ g σ H as) (i : Nat) :
    (xs.length ≤ i → J.stop i H) ∧ ∀ d, xs[i]? = some d → J.go i H ∧ ∀ x H'', J.yld i H x H'' → Same H H'' ∧ Rep (C.plus (inA as)) H'' x d := by
  have q := it (fun b => inA as b ∧ H1 b = none) (fun b z => z.2) i H (fun b o h n => S.kp b o h (fun z => n (.inl (C.nin b z))) fun z => n (.inr z)) (fun b z => by
    rcases z with (z | z) | z
    · exact S.s.ws.oat b (.inl z)
    · exact .inl (S.fl b z).2
    · exact .inl (S.s.isl z.1))
  refine ⟨q.1, fun d hd => ⟨(q.2 d hd).1, fun x H'' hy => ?_⟩⟩
  obtain ⟨sm, r⟩ := (q.2 d hd).2 x H'' hy
  refine ⟨sm, ?_⟩
  rw [plus_plus] at r
  exact Rep.sub (fun b z => .inr ((S.ow b z).elim .inl fun y => .inr ⟨z, y⟩)) r
theorem Frs.up {H1 : Hp} {os1 : Ow} {ρ1 : Rho} {g1 : G} {σ1 : L2.St} {as1 : List Addr} {a : Addr} {ds : List D} (S : Stt C H0 F os1 ρ1 g1 σ1 H1 as1) (T : Frs C H1 (inA as1) g H a ds) : Frs C H0 F g H a ds :=
  ⟨T.nw.elim (S.ow a) fun q => .inr (S.isnew q), T.nO, T.ws, T.at_⟩
theorem wipe_eq {σ σ' : L2.St} {is : List Nat} (h : wipe σ' is = wipe σ is) : σ'.length = σ.length ∧ ∀ j, j ∉ is → σ'[j]? = σ[j]? := by
  refine ⟨by rw [← wipe_length σ' is, h, wipe_length], fun j hj => ?_⟩
  have := congrArg (fun l => l[j]?) h
  simp only [wipe_get, if_neg hj] at this
  exact this
theorem Stt.bound {ρ' : Rho} {σ' : L2.St} {is : List Nat} (S : Stt C H0 F os ρ g σ H as) (h : Has (C.plus (inA as)) ρ' σ' H) (w : wipe σ' is = wipe σ is) (no : ∀ p ∈ os, p.1 ∉ is) : Stt C H0 F os ρ' g σ' H as :=
  ⟨⟨S.s.len, S.s.nd, S.s.nO, S.s.ws, h, fun k i ds hk => by
    obtain ⟨a, vs, h1, h2, h3⟩ := S.s.own k i ds hk
    exact ⟨a, vs, h1, by rw [(wipe_eq w).2 i (no _ (List.mem_of_getElem? hk))]; exact h2, h3⟩⟩, S.ow, S.kp, S.fl⟩
theorem own_nos {os : Ow} {is : List Nat} (h : (os.map (·.1)).all (fun i => !is.contains i) = true) : ∀ p ∈ os, p.1 ∉ is := fun p hp q => by
  have := List.all_eq_true.mp h p.1 (List.mem_map.mpr ⟨p, hp, rfl⟩)
  rw [List.contains_iff_mem.mpr q] at this
  cases this
theorem sd_for {S T : Type} {tg iter : Expr} {body : List Stmt} {mi : M (List D)} {dec : D → Option T} {oE : S → Ow} {rE : S → Rho} {rB : S → T → Rho} {mb : S → T → (S → M D) → (S → M D) → M D} {k : S → M D} (is : List Nat) (s0 : S)
    (hp : PassesOwn (model X.prog X.w) X.A X.env X.xe) (calm : X.calm = true)
    (hi : IO X C W (oE s0) (rE s0) tg iter mi) (hg : ∀ P s, GD X (C.plus P) (rE s) is tg dec (rB s)) (no : ∀ s, ((oE s).map (·.1)).all (fun i => !is.contains i) = true)
    (hb : ∀ s y K1 K2, SD X C W ⟨At oE rE K1, At oE rE K2, At oE rE K1, E.rf⟩ (oE s) (rB s y) body (mb s y K1 K2)) (hr : ∀ s, SD X C W E (oE s) (rE s) rest (k s))
    (hs : ∀ x, foldedSetIterable iter X.env x = pure x := by intro _; rfl) : SD X C W E (oE s0) (rE s0) (.For tg iter body [] pos :: rest) (forM mi dec mb k s0) := by
  let Z := S × T × (S → M D) × (S → M D)
  refine ⟨pss_imp (pss_cons (ps_for (tb := fun D' σ H => ∃ z : Z, tSD C W ⟨At oE rE z.2.2.1, At oE rE z.2.2.2, At oE rE z.2.2.1, E.rf⟩ (oE z.1) (rB z.1 z.2.1) (mb z.1 z.2.1 z.2.2.1 z.2.2.2) D' σ H) hp calm hi.pi
    (pg_ex (ι := (Addr → Prop) × S) fun z => (hg z.1 z.2).pg) (pss_ex fun z : Z => (hb z.1 z.2.1 z.2.2.1 z.2.2.2).ps) hs) (pss_ex fun s => (hr s).ps)) fun D' σ H ⟨H0, F, g, as, St0, Gh⟩ => ?_⟩
  refine stepIo St0 Gh fun xs J H1 g1 S1 it G1 => ?_
  have B1 := S1.base
  refine ⟨fun i m σ' H' => m = xs.length - i ∧ i ≤ xs.length ∧ ∃ s g' as', Stt C H1 (inA as) (oE s) (rE s) g' σ' H' as' ∧ forL dec mb k (xs.drop i) s g' = forL dec mb k xs s0 g1, ⟨xs.length, by omega, by omega, s0, g1, as, B1, by rw [List.drop_zero]⟩, ?_⟩
  rintro i m σ' H' ⟨rfl, hi', s, g', as', T', hq⟩
  obtain ⟨it1, it2⟩ := iter_at it S1.s T' i
  by_cases hlt : i < xs.length
  · right
    have hd : xs[i]? = some xs[i] := List.getElem?_eq_getElem hlt
    obtain ⟨go, yl⟩ := it2 _ hd
    rw [List.drop_eq_getElem_cons hlt] at hq
    obtain ⟨y, hy⟩ : ∃ y, dec xs[i] = some y := by
      cases hh : dec xs[i] with
      | some y => exact ⟨y, rfl⟩
      | none =>
        have z : forL dec mb k (xs[i] :: xs.drop (i + 1)) s g' = .bad := by
          show R.bind (ofO (dec xs[i]) g') _ = _
          rw [hh]
          rfl
        rw [z] at hq
        exact (G1.nb hq.symm).elim
    have hq2 : mb s y (forL dec mb k (xs.drop (i + 1))) k g' = forL dec mb k xs s0 g1 := by
      rw [← hq]
      show _ = R.bind (ofO (dec xs[i]) g') _
      rw [hy]
      rfl
    refine ⟨go, fun σ'' H'' => ∃ s g' as', Stt C H1 (inA as) (oE s) (rE s) g' σ'' H'' as' ∧ forL dec mb k (xs.drop (i + 1)) s g' = forL dec mb k xs s0 g1, fun σ'' H'' q => ⟨xs.length - (i + 1), by omega, rfl, hlt, q⟩, fun x H2 hyl => ?_⟩
    obtain ⟨sm, r⟩ := yl x H2 hyl
    have T2 : Stt C H1 (inA as) (oE s) (rE s) g' σ' H2 as' := T'.ext (.same sm) (T'.s.ws.same sm)
    refine ⟨(inA as', s), xs[i], y, r, T2.s.ws.oat, T2.s.has, hy, fun σ2 h2 w2 => ?_⟩
    refine ⟨(s, y, forL dec mb k (xs.drop (i + 1)), k), H1, inA as, g', as', T2.bound h2 w2 (own_nos (no s)), ?_⟩
    refine Go.at ?_ hq2
    have turn : ∀ (os : Ow) (ρ : Rho) (m : M D) (g : G) (σ : L2.St) (H : Hp) (as2 : List Addr), At oE rE (forL dec mb k (xs.drop (i + 1))) os ρ m → m g = forL dec mb k xs s0 g1 → Stt C H1 (inA as) os ρ g σ H as2 →
        ∃ s g' as', Stt C H1 (inA as) (oE s) (rE s) g' σ H as' ∧ forL dec mb k (xs.drop (i + 1)) s g' = forL dec mb k xs s0 g1 := by
      rintro os ρ m g σ H as2 ⟨s2, rfl, l, rfl⟩ em S2
      exact ⟨s2, g, as2, S2.le l, em⟩
    refine ⟨G1.nb, turn, ?_, turn, fun hf d g2 H3 v e1 f1 r1 => G1.rt hf d g2 H3 v e1 (Fin.up S1 f1) r1, fun hf d g2 H3 e1 f1 => (G1.rff hf d g2 H3 e1 (Fin.up S1 f1)).imp fun ds q => ⟨q.1, fun a fr => q.2 a (Frs.up S1 fr)⟩, fun c g2 H3 σ3 e1 f1 => G1.ex c g2 H3 σ3 e1 (Fin.up S1 f1)⟩
    rintro os ρ m g σ H as2 ⟨s2, rfl, l, rfl⟩ em S2
    exact ⟨s2, H0, F, g, as2, Stt.up S1 (S2.le l), Go.at G1 em⟩
  · left
    have ei : i = xs.length := by omega
    refine ⟨it1 (by omega), s, H0, F, g', as', Stt.up S1 T', Go.at G1 ?_⟩
    rw [ei, List.drop_length] at hq
    exact hq
theorem sd_while {S : Type} {c : Expr} {body : List Stmt} {oE : S → Ow} {rE : S → Rho} {mc : S → M Bool} {mb : S → (S → M D) → (S → M D) → M D} {k : S → M D} (n : Nat) (s0 : S)
    (hp : PassesOwn (model X.prog X.w) X.A X.env X.xe)
    (hc : ∀ s, TO X C W (oE s) (rE s) c (mc s))
    (hb : ∀ s K1 K2, SD X C W ⟨At oE rE K1, At oE rE K2, At oE rE K1, E.rf⟩ (oE s) (rE s) body (mb s K1 K2)) (hr : ∀ s, SD X C W E (oE s) (rE s) rest (k s)) :
    SD X C W E (oE s0) (rE s0) (.While c body [] pos :: rest) (whileL mc mb k n s0) := by
  let Z := S × (S → M D) × (S → M D)
  refine ⟨pss_imp (pss_cons (ps_while (tb := fun D' σ H => ∃ z : Z, tSD C W ⟨At oE rE z.2.1, At oE rE z.2.2, At oE rE z.2.1, E.rf⟩ (oE z.1) (rE z.1) (mb z.1 z.2.1 z.2.2) D' σ H) hp
    (pt_ex fun s : S => (hc s).pt) (pss_ex fun z : Z => (hb z.1 z.2.1 z.2.2).ps)) (pss_ex fun s => (hr s).ps)) fun D' σ H ⟨H0, F, g, as, St0, Gh⟩ => ?_⟩
  refine ⟨fun m σ' H' => ∃ s g' as', Stt C H0 F (oE s) (rE s) g' σ' H' as' ∧ whileL mc mb k m s g' = whileL mc mb k n s0 g, ⟨n, s0, g, as, St0, rfl⟩, ?_⟩
  rintro m σ' H' ⟨s, g', as', T', hq⟩
  cases m with
  | zero =>
    refine (Gh.nb ?_).elim
    rw [← hq]
    rfl
  | succ m =>
    refine ⟨s, stepTe T' (Go.at Gh hq) fun b H1 g1 em T1 G1 => ?_⟩
    have G1 : Go C W H0 F E D' ((if b = true then mb s (whileL mc mb k m) k else k s : M D) g1) := G1
    cases b with
    | false => exact ⟨s, H0, F, g1, as', T1, G1⟩
    | true =>
      have G1 : Go C W H0 F E D' (mb s (whileL mc mb k m) k g1) := G1
      refine ⟨fun σ'' H'' => ∃ s' g' as', Stt C H0 F (oE s') (rE s') g' σ'' H'' as' ∧ whileL mc mb k m s' g' = mb s (whileL mc mb k m) k g1, fun σ'' H'' ⟨s2, g2, as2, T2, e2⟩ => ⟨m, Nat.lt_succ_self m, s2, g2, as2, T2, ?_⟩, ?_⟩
      · rw [e2, ← hq]
        show _ = R.bind (mc s g') _
        rw [em]
        rfl
      · refine ⟨(s, whileL mc mb k m, k), H0, F, g1, as', T1, ?_⟩
        have turn : ∀ (os : Ow) (ρ : Rho) (m' : M D) (g : G) (σ : L2.St) (H : Hp) (as2 : List Addr), At oE rE (whileL mc mb k m) os ρ m' → m' g = mb s (whileL mc mb k m) k g1 → Stt C H0 F os ρ g σ H as2 →
            ∃ s' g' as', Stt C H0 F (oE s') (rE s') g' σ H as' ∧ whileL mc mb k m s' g' = mb s (whileL mc mb k m) k g1 := by
          rintro os ρ m' g σ H as2 ⟨s2, rfl, l, rfl⟩ em S2
          exact ⟨s2, g, as2, S2.le l, em⟩
        refine ⟨G1.nb, turn, ?_, turn, G1.rt, G1.rff, G1.ex⟩
        rintro os ρ m' g σ H as2 ⟨s2, rfl, l, rfl⟩ em S2
        exact ⟨s2, H0, F, g, as2, S2.le l, Go.at G1 em⟩
end
end Tc

set_option Elab.async false
set_option linter.all false
set_option maxRecDepth 100000
set_option maxHeartbeats 4000000
namespace Tc
open PySem PySem.Spec PyProof.Rows L2

/-! ### lists are written -/
def setI (l : List D) : D → D → Option (List D)
  | .int j, d => (ixN l.length j).map fun p => l.set p d
  | _, _ => none
def setH (st : D) (j : Int) (d : D) : M Unit := fun g => match st with
  | .hnd n => match (g[n]? : Option (List D)) with
    | some l => match ixN l.length j with
      | some p => .ok () (g.set n (l.set p d))
      | none => .bad
    | none => .bad
  | _ => .bad
def RepL.setv {C : Cf} {H : Hp} {v : V} {d : D} (r : Rep C H v d) {vs : List V} {ds : List D} (i : Nat) (h : RepL C H vs ds) : RepL C H (vs.set i v) (ds.set i d) := RepL.set r i h
section
variable {C : Cf} {os : Ow} {ρ : Rho} {g : G} {σ : L2.St} {H H0 : Hp} {as : List Addr} {F : Addr → Prop}
theorem Stw.seth (S : Stw C os ρ g σ H as) {n : Nat} {a : Addr} {ds : List D} {vs : List V} {v : V} {d : D} (ha : C.adr[n]? = some a) (hl : H a = some (.lst vs)) (hg : (g[n]? : Option (List D)) = some ds) (r : Rep (C.plus (inA as)) H v d) (p : Nat) :
    Stw C os ρ (g.set n (ds.set p d)) σ (upd H a (.lst (vs.set p v))) as := by
  have hN : C.N a := C.ain a (List.mem_of_getElem? ha)
  have hO : (C.plus (inA as)).O a := .inl (C.nin a hN)
  have w := S.ws
  obtain ⟨ds', vs', e1, e2, e3⟩ := w.con n a ha
  rw [hg] at e1; cases e1
  rw [hl] at e2; cases e2
  refine ⟨S.len, S.nd, S.nO, ⟨fun b q => ?_, (C.plus (inA as)).jst _ _ w.j fun b o e nl => ?_, ?_, fun m b e => ?_⟩, S.has.put hl hO, fun k i es hk => ?_⟩
  · by_cases hb : b = a
    · subst hb
      exact .inl ⟨_, upd_same⟩
    · rw [upd_ne hb]
      exact w.oat b q
  · rw [upd_ne (fun q => by subst q; rw [hl] at e; exact nl vs (Option.some.inj e).symm)]
    exact e
  · trivial
  · by_cases hm : n = m
    · subst hm
      have e : C.adr[n]? = some b := e
      rw [ha] at e; cases e
      refine ⟨_, _, List.getElem?_set_self (List.getElem?_eq_some_iff.mp hg).1, upd_same, RepL.put hl hO _ _ (RepL.set r p e3)⟩
    · obtain ⟨es, us, z1, z2, z3⟩ := w.con m b e
      have nb : b ≠ a := fun q => by
        subst q
        exact hm (nd_inj C.nd ha e)
      exact ⟨es, us, by rw [List.getElem?_set_ne hm]; exact z1, by rw [upd_ne nb]; exact z2, RepL.put hl hO _ _ z3⟩
  · obtain ⟨b, us, z1, z2, z3, z4⟩ := S.own k i es hk
    have nb : b ≠ a := fun q => by
      subst q
      exact S.nO b (List.mem_of_getElem? z1) (C.nin b hN)
    exact ⟨b, us, z1, z2, by rw [upd_ne nb]; exact z3, RepL.put hl hO _ _ z4⟩
theorem Stt.seth (S : Stt C H0 F os ρ g σ H as) {n : Nat} {a : Addr} {ds : List D} {vs : List V} {v : V} {d : D} (ha : C.adr[n]? = some a) (hl : H a = some (.lst vs)) (hg : (g[n]? : Option (List D)) = some ds) (r : Rep (C.plus (inA as)) H v d) (p : Nat) :
    Stt C H0 F os ρ (g.set n (ds.set p d)) σ (upd H a (.lst (vs.set p v))) as := by
  have hN : C.N a := C.ain a (List.mem_of_getElem? ha)
  refine ⟨S.s.seth ha hl hg r p, S.ow, fun b o h n1 n2 => ?_, fun b q => ?_⟩
  · rw [upd_ne (fun q => by subst q; exact n1 hN)]
    exact S.kp b o h n1 n2
  · rw [upd_ne (fun z => by subst z; exact (S.fl b q).1 (C.nin b hN))]
    exact S.fl b q
end
section
variable {X : Cx} {C : Cf} {W : WX} {E : Xt} {os : Ow} {ρ : Rho} {pos : Pos} {e : Expr} {rest : List Stmt} {σ : L2.St} {H H0 : Hp} {F : Addr → Prop} {g : G} {as : List Addr} {D' : Ends}
/-- x.append(e), x a list of one's own -/
theorem sd_app {ds : List D} {x : Str} {px ap cp : Pos} {me : M D} {k : List D → M D} (kk : Nat) (i : Nat) (kC : X.K = C.K) (he : EO X C W os ρ e me) (hr : ∀ ds, SD X C W E (os.set kk (i, ds)) ρ rest (k ds)) (hk : os[kk]? = some (i, ds) := by rfl) (hi : X.N[i]? = some x := by rfl) (hv : Vis X.env.scope x := by first | exact Or.inl rfl | exact Or.inr (Or.inl rfl) | exact Or.inr (Or.inr rfl)) (hd : (x == ("__debug__" : Str)) = false := by decide) (hcd : (x == Str.ofString "__classdict__") = false := by decide) (hbase : attributeBase (.Name x px) "append" X.env (eval (.Name x px) X.env) = eval (.Name x px) X.env := by rfl) (hfew : ((backTo cp (starEach [e] X.env)).all (fun x => !x.1) && (backToKw cp (keywordEach [] X.env)).all (fun x => x.1.isSome) && decide ([e].length + ([] : List Keyword).length + (if ([] : List Keyword).isEmpty then 0 else 1) < 30)) = true := by rfl) (hline : (ap.endLine == cp.line) = true := by rfl) (hst : starEach [e] X.env = (false, eval e X.env) :: starEach [] X.env := by rfl) (hpl : (backTo cp (starEach [] X.env)).any (·.1) = false := by rfl) (hsw : swapsWith (.Call (.Attribute (.Name x px) "append" ap) [e] [] cp) none pos.line X.env = pure false := by rfl) :
    SD X C W E os ρ (.Expr (.Call (.Attribute (.Name x px) "append" ap) [e] [] cp) pos :: rest) (M.bind me fun d => if ds.length ≤ 1000000 then k (ds ++ [d]) else bad) := by
  refine ⟨pss_imp (pss_cons (ps_expr (pe_bm PySem.F.plainAttrs_list PySem.F.slot_list_append PySem.F.type_list_append mt_append (pv i hi hv hd hcd) (pa_cons he.pe pa_nil hst) hbase hfew hline hst hpl) hsw) (pss_ex fun d => (hr d).ps)) fun D' σ H ⟨H0, F, g, as, S, Gh⟩ => ?_⟩
  obtain ⟨a, vs, h1, h2, h3, h4⟩ := S.s.own kk i ds hk
  refine ⟨.ref a, h2, .inl ⟨rfl, vs, .inl (.inl h3)⟩, ?_⟩
  refine stepE S Gh fun d v H1 g1 S1 r1 G1 => ?_
  obtain ⟨a', us, z1, z2, z3, z4⟩ := S1.s.own kk i ds hk
  rw [h1] at z1; cases z1
  by_cases hz : ds.length ≤ 1000000
  · rw [if_pos hz] at G1
    have hl := z4.length
    refine ⟨a, us, v, rfl, rfl, z3, ?_, ds ++ [d], H0, F, g1, as, S1.put hk h1 (z4.append (.cons r1 .nil)), G1⟩
    rw [hl]
    have := line_ge (n := 1000000) (Nat.le_refl _)
    rw [sizeLine_eq]
    omega
  · rw [if_neg hz] at G1
    exact (G1.nb rfl).elim
theorem seti_some {l l2 : List D} {i d : D} (h : setI l i d = some l2) : ∃ j p, i = .int j ∧ ixN l.length j = some p ∧ l2 = l.set p d := by
  cases i with
  | int j =>
    unfold setI at h
    obtain ⟨p, h1, h2⟩ := Option.map_eq_some_iff.mp h
    exact ⟨j, p, rfl, h1, h2.symm⟩
  | _ => cases h
/-- x[i] = e, x a list of one's own -/
theorem sd_seto {ds : List D} {x : Str} {ie : Expr} {px sp : Pos} {me mi : M D} {k : List D → M D} (kk : Nat) (i : Nat) (he : EO X C W os ρ e me) (hj : EO X C W os ρ ie mi) (hr : ∀ ds, SD X C W E (os.set kk (i, ds)) ρ rest (k ds)) (hk : os[kk]? = some (i, ds) := by rfl) (hi : X.N[i]? = some x := by rfl) (hv : Vis X.env.scope x := by first | exact Or.inl rfl | exact Or.inr (Or.inl rfl) | exact Or.inr (Or.inr rfl)) (hd : (x == ("__debug__" : Str)) = false := by decide) (hcd : (x == Str.ofString "__classdict__") = false := by decide) (ha : ∀ v, assign (.Subscript (.Name x px) ie sp) X.env v = (do
      let ov ← holding [v] (eval (.Name x px) X.env)
      let iv ← holding [v, ov] (eval ie X.env)
      standAt sp
      holding [v, ov, iv] (setItem ov iv v)
      release [v, ov, iv] []) := by intro _; rfl) (hs : swapsWithSole [.Subscript (.Name x px) ie sp] e pos.line X.env = pure false := by rfl) (hw : swappedStores [.Subscript (.Name x px) ie sp] e X.env = pure none := by rfl) (h1 : (assignEach [.Subscript (.Name x px) ie sp] X.env).map (·.2) = [assign (.Subscript (.Name x px) ie sp) X.env] := by rfl) :
    SD X C W E os ρ (.Assign [.Subscript (.Name x px) ie sp] e pos :: rest) (M.bind me fun d => M.bind mi fun j => M.bind (ofO (setI ds j d)) k) := by
  refine ⟨pss_imp (pss_cons (ps_asg he.pe (pg_sub (pv i hi hv hd hcd) hj.pe set_list ha) hs hw h1) (pss_ex fun d => (hr d).ps)) fun D' σ H ⟨H0, F, g, as, S, Gh⟩ => ?_⟩
  refine stepE S Gh fun d v H1 g1 S1 r1 G1 => ?_
  obtain ⟨a, vs, h1, h2, h3, h4⟩ := S1.s.own kk i ds hk
  refine ⟨.ref a, h2, ?_⟩
  obtain ⟨as2, g2, T2, o2⟩ := stepEx (P := fun iv H2 => rSetL (.ref a) iv v H2 fun H3 => ∃ d, tSD C W E (os.set kk (i, d)) ρ (k d) D' σ H3) S1 G1 fun dj iv H2 g2 x2 _ S2 r2 G2 => by
    have G2 : Go C W H0 F E D' ((ofO (setI ds dj d) g2).bind k) := G2
    cases hq : setI ds dj d with
    | none => rw [hq] at G2; exact (G2.nb rfl).elim
    | some ds2 =>
      rw [hq] at G2
      obtain ⟨j, p, rfl, hp, rfl⟩ := seti_some hq
      cases r2
      obtain ⟨a', us, z1, z2, z3, z4⟩ := S2.s.own kk i ds hk
      rw [h1] at z1; cases z1
      refine ⟨a, us, j, p, rfl, rfl, z3, by rw [z4.length]; exact hp, ds.set p d, H0, F, g2, as, S2.put hk h1 (RepL.set (Rep.ext (C := C.plus (inA as)) x2 S1.s.ws.oat _ _ r1) p z4), G2⟩
  exact ⟨as2, g2, T2, o2⟩
end
end Tc

set_option Elab.async false
set_option linter.all false
set_option maxRecDepth 100000
set_option maxHeartbeats 4000000
namespace Tc
open PySem PySem.Spec PyProof.Rows L2

section
variable {X : Cx} {C : Cf} {W : WX} {E : Xt} {os : Ow} {ρ : Rho} {pos : Pos} {e : Expr} {rest : List Stmt} {σ : L2.St} {H H0 : Hp} {F : Addr → Prop} {g : G} {as : List Addr} {D' : Ends}
/-- s[j] = e, s a list that is shared with the callers -/
theorem sd_seth {st : D} {x : Str} {j : Int} {jj : Nat} {px jp sp : Pos} {me k : M D} (i : Nat) (he : EO X C W os ρ e me) (hr : SD X C W E os ρ rest k) (hst : ρ[i]? = some (some st) := by rfl) (hi : X.N[i]? = some x := by rfl) (hv : Vis X.env.scope x := by first | exact Or.inl rfl | exact Or.inr (Or.inl rfl) | exact Or.inr (Or.inr rfl)) (hd : (x == ("__debug__" : Str)) = false := by decide) (hcd : (x == Str.ofString "__classdict__") = false := by decide) (ha : ∀ v, assign (.Subscript (.Name x px) (.Constant (.int j) jj jp) sp) X.env v = (do
      let ov ← holding [v] (eval (.Name x px) X.env)
      let iv ← holding [v, ov] (eval (.Constant (.int j) jj jp) X.env)
      standAt sp
      holding [v, ov, iv] (setItem ov iv v)
      release [v, ov, iv] []) := by intro _; rfl) (hs : swapsWithSole [.Subscript (.Name x px) (.Constant (.int j) jj jp) sp] e pos.line X.env = pure false := by rfl) (hw : swappedStores [.Subscript (.Name x px) (.Constant (.int j) jj jp) sp] e X.env = pure none := by rfl) (h1 : (assignEach [.Subscript (.Name x px) (.Constant (.int j) jj jp) sp] X.env).map (·.2) = [assign (.Subscript (.Name x px) (.Constant (.int j) jj jp) sp) X.env] := by rfl) :
    SD X C W E os ρ (.Assign [.Subscript (.Name x px) (.Constant (.int j) jj jp) sp] e pos :: rest) (M.bind me fun d => M.bind (setH st j d) fun _ => k) := by
  refine ⟨pss_imp (pss_cons (ps_asg he.pe (pg_sub (pv i hi hv hd hcd) pe_int set_list ha) hs hw h1) hr.ps) fun D' σ H ⟨H0, F, g, as, S, Gh⟩ => ?_⟩
  refine stepE S Gh fun d v H1 g1 S1 r1 G1 => ?_
  obtain ⟨sv, e1, rs⟩ := S1.s.has i st hst
  refine ⟨sv, e1, ?_⟩
  have G1 : Go C W H0 F E D' ((setH st j d g1).bind fun _ => k) := G1
  cases rs with
  | @hnd a n ha =>
    have ha : C.adr[n]? = some a := ha
    obtain ⟨ds, vs, z1, z2, z3⟩ := S1.s.ws.con n a ha
    have q : setH (.hnd n) j d g1 = (match ixN ds.length j with | some p => .ok () (g1.set n (ds.set p d)) | none => .bad) := by
      show (match (g1[n]? : Option (List D)) with | some l => (match ixN l.length j with | some p => R.ok () (g1.set n (l.set p d)) | none => R.bad) | none => R.bad) = _
      rw [z1]
    rw [q] at G1
    cases hp : ixN ds.length j with
    | none => rw [hp] at G1; exact (G1.nb rfl).elim
    | some p =>
      rw [hp] at G1
      exact ⟨a, vs, j, p, rfl, rfl, z2, by rw [z3.length]; exact hp, H0, F, _, as, S1.seth ha z2 z1 r1 p, G1⟩
  | _ => exact (G1.nb rfl).elim
/-- a, b = x, y -/
theorem sd_par {x y : Str} {a b : Expr} {px py pt : Pos} {kt k2 : Nat} {pt2 : Pos} {m : M (List D)} {k : D → D → M D} (i j : Nat) (hc : X.calm = true) (nd : X.N.Nodup) (ha : LO X C W os ρ [a, b] m) (hr : ∀ d d2, SD X C W E os ((ρ.set i (some d)).set j (some d2)) rest (k d d2)) (hij : i ≠ j := by decide) (no : (os.map (·.1)).contains i = false := by rfl) (no2 : (os.map (·.1)).contains j = false := by rfl) (hi : X.N[i]? = some x := by rfl) (hj : X.N[j]? = some y := by rfl) (hx : X.env.scope.names.lookup x = some .local := by rfl) (hy : X.env.scope.names.lookup y = some .local := by rfl) (hw : swappedStores [.Tuple [.Name x px, .Name y py] kt pt] (.Tuple [a, b] k2 pt2) X.env = pure (some [x, y]) := by rfl) (hs : swapsWithSole [.Tuple [.Name x px, .Name y py] kt pt] (.Tuple [a, b] k2 pt2) pos.line X.env = pure false := by rfl) :
    SD X C W E os ρ (.Assign [.Tuple [.Name x px, .Name y py] kt pt] (.Tuple [a, b] k2 pt2) pos :: rest) (M.bind m fun ds => match ds with | [d, d2] => k d d2 | _ => bad) := by
  refine ⟨⟨fun pins s σ H D' I h => ?_⟩⟩
  have hl : i < σ.length := by rw [I.len]; exact (List.getElem?_eq_some_iff.mp hi).1
  have hl2 : j < σ.length := by rw [I.len]; exact (List.getElem?_eq_some_iff.mp hj).1
  refine (pss_cons (ps_par hc nd hi hj hij hx hy ha.pa hw hs) (pss_ex fun p : D × D => (hr p.1 p.2).ps)).run pins s σ H D' I ?_
  obtain ⟨H0, F, g, as, S, Gh⟩ := h
  refine stepLo S Gh fun ds vs H1 g1 _ S1 r1 G1 => ?_
  cases r1 with
  | nil => exact (G1.nb rfl).elim
  | cons ra rt =>
    cases rt with
    | nil => exact (G1.nb rfl).elim
    | cons rb rt =>
      cases rt with
      | cons _ _ => exact (G1.nb rfl).elim
      | nil => exact ⟨_, _, rfl, ⟨_, _⟩, H0, F, g1, as, (S1.set ra hl (own_no no)).set rb (by rw [List.length_set]; exact hl2) (own_no no2), G1⟩
/-- targets that are taken apart -/
theorem sd_unp {T : Type} {tg : Expr} {dec : D → Option T} {rB : T → Rho} {me : M D} {k : T → M D} (is : List Nat) (he : EO X C W os ρ e me) (hg : ∀ P, GD X (C.plus P) ρ is tg dec rB) (hr : ∀ y, SD X C W E os (rB y) rest (k y)) (no : (os.map (·.1)).all (fun i => !is.contains i) = true := by rfl) (hs : swapsWithSole [tg] e pos.line X.env = pure false := by rfl) (hw : swappedStores [tg] e X.env = pure none := by rfl) (h1 : (assignEach [tg] X.env).map (·.2) = [assign tg X.env] := by rfl) :
    SD X C W E os ρ (.Assign [tg] e pos :: rest) (M.bind me fun d => M.bind (ofO (dec d)) k) := by
  refine ⟨pss_imp (pss_cons (ps_asg he.pe (pg_ex fun P => (hg P).pg) hs hw h1) (pss_ex fun y => (hr y).ps)) fun D' σ H ⟨H0, F, g, as, S, Gh⟩ => ?_⟩
  refine stepE S Gh fun d v H1 g1 S1 r1 G1 => ?_
  have G1 : Go C W H0 F E D' ((ofO (dec d) g1).bind k) := G1
  cases hq : dec d with
  | none => rw [hq] at G1; exact (G1.nb rfl).elim
  | some y =>
    rw [hq] at G1
    exact ⟨inA as, d, y, r1, S1.s.ws.oat, S1.s.has, hq, fun σ' h' w' => ⟨y, H0, F, g1, as, S1.bound h' w' (own_nos no), G1⟩⟩
/-- x[i], x[j] = a pair -/
theorem sd_swap {ds : List D} {x : Str} {ie je : Expr} {px px2 sp sp2 pt : Pos} {kt : Nat} {me mi mj : M D} {k : List D → M D} (kk : Nat) (i : Nat) (kC : X.K = C.K) (hc : X.calm = true) (he : EO X C W os ρ e me) (hj : ∀ ds, EO X C W (os.set kk (i, ds)) ρ ie mi) (hj2 : ∀ ds, EO X C W (os.set kk (i, ds)) ρ je mj) (hr : ∀ ds, SD X C W E (os.set kk (i, ds)) ρ rest (k ds)) (hk : os[kk]? = some (i, ds) := by rfl) (hself : ∀ ds es, (os.set kk (i, ds)).set kk (i, es) = os.set kk (i, es) := by intro _ _; rfl) (hself2 : os.set kk (i, ds) = os := by rfl) (hi : X.N[i]? = some x := by rfl) (hv : Vis X.env.scope x := by first | exact Or.inl rfl | exact Or.inr (Or.inl rfl) | exact Or.inr (Or.inr rfl)) (hd : (x == ("__debug__" : Str)) = false := by decide) (hcd : (x == Str.ofString "__classdict__") = false := by decide) (ha : ∀ v, assign (.Subscript (.Name x px) ie sp) X.env v = (do
      let ov ← holding [v] (eval (.Name x px) X.env)
      let iv ← holding [v, ov] (eval ie X.env)
      standAt sp
      holding [v, ov, iv] (setItem ov iv v)
      release [v, ov, iv] []) := by intro _; rfl) (ha2 : ∀ v, assign (.Subscript (.Name x px2) je sp2) X.env v = (do
      let ov ← holding [v] (eval (.Name x px2) X.env)
      let iv ← holding [v, ov] (eval je X.env)
      standAt sp2
      holding [v, ov, iv] (setItem ov iv v)
      release [v, ov, iv] []) := by intro _; rfl) (hn : (assignEach [.Subscript (.Name x px) ie sp, .Subscript (.Name x px2) je sp2] X.env).length = 2 := by rfl) (hst : (assignEach [.Subscript (.Name x px) ie sp, .Subscript (.Name x px2) je sp2] X.env).findIdx? (·.1) = none := by rfl) (hs1 : (assignEach [.Subscript (.Name x px) ie sp, .Subscript (.Name x px2) je sp2] X.env).map (·.2) = assign (.Subscript (.Name x px) ie sp) X.env :: (assignEach [.Subscript (.Name x px2) je sp2] X.env).map (·.2) := by rfl) (hs2 : (assignEach [.Subscript (.Name x px2) je sp2] X.env).map (·.2) = assign (.Subscript (.Name x px2) je sp2) X.env :: (assignEach [] X.env).map (·.2) := by rfl) (hs : swapsWithSole [.Tuple [.Subscript (.Name x px) ie sp, .Subscript (.Name x px2) je sp2] kt pt] e pos.line X.env = pure false := by rfl) (hw : swappedStores [.Tuple [.Subscript (.Name x px) ie sp, .Subscript (.Name x px2) je sp2] kt pt] e X.env = pure none := by rfl) (h1 : (assignEach [.Tuple [.Subscript (.Name x px) ie sp, .Subscript (.Name x px2) je sp2] kt pt] X.env).map (·.2) = [assign (.Tuple [.Subscript (.Name x px) ie sp, .Subscript (.Name x px2) je sp2] kt pt) X.env] := by rfl) :
    SD X C W E os ρ (.Assign [.Tuple [.Subscript (.Name x px) ie sp, .Subscript (.Name x px2) je sp2] kt pt] e pos :: rest)
      (M.bind me fun d => M.bind (ofO (dec2 d)) fun p => M.bind mi fun j => M.bind (ofO (setI ds j p.1)) fun ds1 => M.bind mj fun j2 => M.bind (ofO (setI ds1 j2 p.2)) k) := by
  refine ⟨pss_imp (pss_cons (ps_asg he.pe (pg_tup hc (pgs_cons (pg_sub (pv i hi hv hd hcd) (pe_ex fun z => (hj z).pe) set_list ha) (pgs_cons (pg_sub (pv i hi hv hd hcd) (pe_ex fun z => (hj2 z).pe) set_list ha2) pgs_nil hs2) hs1) hn hst) hs hw h1) (pss_ex fun d => (hr d).ps)) fun D' σ H ⟨H0, F, g, as, S, Gh⟩ => ?_⟩
  refine stepE S Gh fun d v H1 g1 S1 r1 G1 => ?_
  have G1 : Go C W H0 F E D' ((ofO (dec2 d) g1).bind fun p => M.bind mi fun j => M.bind (ofO (setI ds j p.1)) fun ds1 => M.bind mj fun j2 => M.bind (ofO (setI ds1 j2 p.2)) k) := G1
  cases r1 with
  | @tup ta xs es tr rl =>
    cases rl with
    | nil => exact (G1.nb rfl).elim
    | cons ra rt =>
      cases rt with
      | nil => exact (G1.nb rfl).elim
      | cons rb rt =>
        cases rt with
        | cons _ _ => exact (G1.nb rfl).elim
        | nil =>
          have G1 : Go C W H0 F E D' (M.bind mi (fun j => M.bind (ofO (setI ds j _)) fun ds1 => M.bind mj fun j2 => M.bind (ofO (setI ds1 j2 _)) k) g1) := G1
          have tr : RdT C H1 ta _ := tr.imp (fun q => ⟨fun z => q.1 (.inl z), q.2⟩) id
          refine ⟨ta, _, rfl, tr.sqX kC, rfl, _, _, rfl, ?_⟩
          obtain ⟨a, vs, h1, h2, h3, h4⟩ := S1.s.own kk i ds hk
          refine ⟨.ref a, h2, ds, ?_⟩
          rw [hself2]
          refine stepEx S1 G1 fun dj iv H2 g2 x2 _ S2 r2 G2 => ?_
          have G2 : Go C W H0 F E D' ((ofO (setI ds dj _) g2).bind fun ds1 => M.bind mj fun j2 => M.bind (ofO (setI ds1 j2 _)) k) := G2
          cases hq : setI ds dj _ with
          | none => rw [hq] at G2; exact (G2.nb rfl).elim
          | some ds2 =>
            rw [hq] at G2
            obtain ⟨j, p, rfl, hp, rfl⟩ := seti_some hq
            cases r2
            obtain ⟨a', us, z1, z2, z3, z4⟩ := S2.s.own kk i ds hk
            rw [h1] at z1; cases z1
            have ra2 := Rep.ext (C := C.plus (inA as)) x2 S1.s.ws.oat _ _ ra
            have rb2 := Rep.ext (C := C.plus (inA as)) x2 S1.s.ws.oat _ _ rb
            have S3 := S2.put hk h1 (RepL.set ra2 p z4)
            have rb3 := fun us' => Rep.put (C := C.plus (inA as)) (us := us') z3 (.inr (List.mem_of_getElem? h1)) _ _ rb2
            refine ⟨a, us, j, p, rfl, rfl, z3, by rw [z4.length]; exact hp, _, _, rfl, ?_⟩
            refine ⟨.ref a, h2, _, stepEx S3 G2 fun dj3 iv3 H3 g3 x3 _ S4 r3 G3 => ?_⟩
            have G3 : Go C W H0 F E D' ((ofO (setI _ dj3 _) g3).bind k) := G3
            cases hq3 : setI (ds.set p _) dj3 _ with
            | none => rw [hq3] at G3; exact (G3.nb rfl).elim
            | some ds3 =>
              rw [hq3] at G3
              obtain ⟨j3, p3, rfl, hp3, rfl⟩ := seti_some hq3
              cases r3
              have hk3 : ∀ l : List D, (os.set kk (i, l))[kk]? = some (i, l) := fun l => List.getElem?_set_self (List.getElem?_eq_some_iff.mp hk).1
              obtain ⟨a', us3, y1, y2, y3, y4⟩ := S4.s.own kk i _ (hk3 _)
              rw [h1] at y1; cases y1
              have rb4 := Rep.ext (C := C.plus (inA as)) x3 S3.s.ws.oat _ _ (rb3 _)
              have S5 := S4.put (hk3 _) h1 (RepL.set rb4 p3 y4)
              rw [hself] at S5
              exact ⟨a, us3, j3, p3, rfl, rfl, y3, by rw [y4.length]; exact hp3, rfl, _, H0, F, g3, as, S5, G3⟩
  | _ => exact (G1.nb rfl).elim
end

/-! ### 0 <= a < b < c -/
def chain3 (ma mb mc md : M D) (F F' F'' : D → D → Option Bool) : M Bool := M.bind ma fun a => M.bind mb fun b => M.bind (ofO (F a b)) fun k => if k = true then M.bind mc fun c => M.bind (ofO (F' b c)) fun k => if k = true then M.bind md fun d => ofO (F'' c d) else M.pure false else M.pure false
section
variable {X : Cx} {C : Cf} {W : WX} {ρ : Rho} {pos : Pos}
theorem OutB.ofO_some {H : Hp} {o : Option Bool} {g : G} {k : Bool → M Bool} {Q : Bool → Hp → Prop} {Y : Nat → Hp → Prop} (h : OutB C H (M.bind (ofO o) k g) Q Y) : ∃ d, o = some d ∧ OutB C H (k d g) Q Y := by
  cases o with
  | none => exact h.elim
  | some d => exact ⟨d, rfl, h⟩
theorem td_chain3 {f f' f'' : CmpOp} {F F' F'' : D → D → Option Bool} {a b c d : Expr} {ma mb mc md : M D} (ho : OpB (compareOp f) F) (ho' : OpB (compareOp f') F') (ho'' : OpB (compareOp f'') F'') (ok : Cok X C W) (ha : ED X C W ρ a ma) (hb : ED X C W ρ b mb) (hc : ED X C W ρ c mc) (hd : ED X C W ρ d md) (hm : lastMarks [f, f', f''] [b, c, d] = false := by with_unfolding_all rfl) : TD X C W ρ (.Compare a [f, f', f''] [b, c, d] pos) (chain3 ma mb mc md F F' F'') := by
  refine ⟨⟨fun pins s σ H Q I h => ?_⟩⟩
  refine isTrue_chain (rs := [d]) (thn (ha.pe.run pins s σ H _ I (stepB h fun d1 v1 H1 g1 x1 w1 e1 r1 o1 => (⟨g1, w1, e1, d1, r1, o1⟩ : (fun v H => ∃ g, WS C g H ∧ Has C ρ σ H ∧ ∃ d1, Rep C H v d1 ∧ OutB C H (M.bind mb (fun b => M.bind (ofO (F d1 b)) fun k => if k = true then M.bind mc fun c => M.bind (ofO (F' b c)) fun k => if k = true then M.bind md fun d => ofO (F'' c d) else M.pure false else M.pure false) g) Q (xw C W σ)) v1 H1))) fun v s1 ⟨x, H1, I1, r1, g1, w1, e1, d1, q1, o1⟩ => ?_) hm
  refine test_link (thn (hb.pe.run pins s1 σ H1 _ I1 (stepB ⟨g1, w1, e1, o1⟩ fun d2 v2 H2 g2 x2 w2 e2 r2 o2 => (⟨g2, w2, e2, d2, Rep.ext x2 w1.oat _ _ q1, r2, o2⟩ : (fun v H => ∃ g, WS C g H ∧ Has C ρ σ H ∧ ∃ d2, Rep C H x d1 ∧ Rep C H v d2 ∧ OutB C H (M.bind (ofO (F d1 d2)) (fun k => if k = true then M.bind mc fun c => M.bind (ofO (F' d2 c)) fun k => if k = true then M.bind md fun d => ofO (F'' c d) else M.pure false else M.pure false) g) Q (xw C W σ)) v2 H2))) fun u s2 ⟨y, H2, I2, r2, g2, w2, e2, d2, q1, q2, o2⟩ => ?_)
  obtain ⟨z, hz, o2⟩ := OutB.ofO_some o2
  refine thn (ho X C W ok pins s2 σ H2 x y v u (fun w H => w = .bl z ∧ H = H2) I2 r1 r2 ⟨d1, d2, z, q1, q2, hz, rfl, rfl⟩) fun b1 s3 ⟨w3, H3, I3, r3, ew, eh⟩ => ?_
  subst ew eh
  cases r3
  refine wpAny_truthy_bool ?_
  cases z with
  | false => exact ite_ff ⟨H3, I3, o2 H3 (.refl C H3) w2⟩
  | true =>
    refine ite_tt ?_
    refine test_link (thn (hc.pe.run pins s3 σ H3 _ I3 (stepB ⟨g2, w2, e2, o2⟩ fun d3 v3 H4 g3 x3 w3 e3 r3 o3 => (⟨g3, w3, e3, d3, Rep.ext x3 w2.oat _ _ q2, r3, o3⟩ : (fun v H => ∃ g, WS C g H ∧ Has C ρ σ H ∧ ∃ d3, Rep C H y d2 ∧ Rep C H v d3 ∧ OutB C H (M.bind (ofO (F' d2 d3)) (fun k => if k = true then M.bind md fun d => ofO (F'' d3 d) else M.pure false) g) Q (xw C W σ)) v3 H4))) fun u3 s4 ⟨y3, H4, I4, r4, g3, w3, e3, d3, q2, q3, o3⟩ => ?_)
    obtain ⟨z3, hz3, o3⟩ := OutB.ofO_some o3
    refine thn (ho' X C W ok pins s4 σ H4 y y3 u u3 (fun w H => w = .bl z3 ∧ H = H4) I4 r2 r4 ⟨d2, d3, z3, q2, q3, hz3, rfl, rfl⟩) fun b1 s5 ⟨w5, H5, I5, r5, ew, eh⟩ => ?_
    subst ew eh
    cases r5
    refine wpAny_truthy_bool ?_
    cases z3 with
    | false => exact ite_ff ⟨H5, I5, o3 H5 (.refl C H5) w3⟩
    | true =>
      refine ite_tt ?_
      refine test_last (thn (hd.pe.run pins s5 σ H5 _ I5 (stepB ⟨g3, w3, e3, o3⟩ fun d4 v4 H6 g4 x4 w4 e4 r6 o4 => (⟨g4, w4, e4, d4, Rep.ext x4 w3.oat _ _ q3, r6, o4⟩ : (fun v H => ∃ g, WS C g H ∧ Has C ρ σ H ∧ ∃ d4, Rep C H y3 d3 ∧ Rep C H v d4 ∧ OutB C H (ofO (F'' d3 d4) g) Q (xw C W σ)) v4 H6))) fun u4 s6 ⟨y4, H6, I6, r6, g4, w4, e4, d4, q3, q4, o4⟩ => ?_)
      rw [← M.bind_pure (ofO (F'' d3 d4))] at o4
      obtain ⟨z4, hz4, o4⟩ := OutB.ofO_some o4
      refine thn (ho'' X C W ok pins s6 σ H6 y3 y4 u3 u4 (fun w H => w = .bl z4 ∧ H = H6) I6 r4 r6 ⟨d3, d4, z4, q3, q4, hz4, rfl, rfl⟩) fun b1 s7 ⟨w7, H7, I7, r7, ew, eh⟩ => ?_
      subst ew eh
      cases r7
      exact wpAny_truthy_bool ⟨H7, I7, o4 H7 (.refl C H7) w4⟩
end
end Tc

set_option Elab.async false
set_option linter.all false
set_option maxRecDepth 100000
set_option maxHeartbeats 4000000
namespace Tc
open PySem PySem.Spec PyProof.Rows L2

/-! ### joins -/
def joinM {S : Type} (K : S → M D) (f : (S → M D) → M D) : M D := f K
section
variable {X : Cx} {C : Cf} {W : WX} {E : Xt} {os : Ow} {ρ : Rho} {pos : Pos} {e : Expr} {rest : List Stmt}
theorem sd_ifj {S : Type} {oE : S → Ow} {rE : S → Rho} {K : S → M D} {c : Expr} {a b : List Stmt} {mc : M Bool} {ma mb : (S → M D) → M D} (hc : TO X C W os ρ c mc) (ha : ∀ K, SD X C W ⟨At oE rE K, E.bk, E.ct, E.rf⟩ os ρ a (ma K)) (hb : ∀ K, SD X C W ⟨At oE rE K, E.bk, E.ct, E.rf⟩ os ρ b (mb K))
    (hr : ∀ s, SD X C W E (oE s) (rE s) rest (K s)) : SD X C W E os ρ (.If c a b pos :: rest) (joinM K fun K => iteM mc (ma K) (mb K)) := sd_if hc (ha K) (hb K) (sd_join hr)
theorem sd_ifr {c : Expr} {a : List Stmt} {mc : M Bool} {ma mr : M D} (hc : TO X C W os ρ c mc) (ha : SD X C W ⟨Nev, E.bk, E.ct, E.rf⟩ os ρ a ma) (hr : SD X C W E os ρ rest mr) : SD X C W E os ρ (.If c a [] pos :: rest) (iteM mc ma mr) := by
  refine sd_if (N1 := fun os' ρ' m => os' = os ∧ ρ' = ρ ∧ m = mr) hc ⟨pss_imp ha.ps fun D' σ H ⟨H0, F, g, as, S, G⟩ => ⟨H0, F, g, as, S, G.nb, fun _ _ _ _ _ _ _ z => z.elim, G.bk, G.ct, G.rt, G.rff, G.ex⟩⟩ (sd_nil ⟨rfl, rfl, rfl⟩) fun os' ρ' m ⟨e1, e2, e3⟩ => ?_
  subst e1 e2 e3
  exact hr
theorem sd_ifl {c : Expr} {a b : List Stmt} {mc : M Bool} {ma mb : M D} (hc : TO X C W os ρ c mc) (ha : SD X C W E os ρ a ma) (hb : SD X C W E os ρ b mb) : SD X C W E os ρ [.If c a b pos] (iteM mc ma mb) := sd_if (N1 := E.nx) hc ha hb fun _ _ _ h => sd_nil h

/-! ### lists that are new -/
def lstF (ms : List (M D)) : M (List D) := M.bind (seqM ms) fun ds => if ds.length ≤ 1000 then M.pure ds else bad
theorem stepLF {σ : L2.St} {H : Hp} {m : M (List D)} {k : List D → M (List D)} {Q : VK} {P : List V → Hp → Prop} (h : tFD C W ρ (M.bind m k) σ H Q)
    (c : ∀ ds vs H1 g1, Ext C H H1 → WS C g1 H1 → Has C ρ σ H1 → RepL C H1 vs ds → OutF C H1 (k ds g1) Q (xw C W σ) → P vs H1) : tLD C W ρ m σ H P := by
  obtain ⟨g, w, e, o⟩ := h
  refine ⟨g, w, e, ?_⟩
  unfold M.bind at o
  cases hm : m g with
  | ok d g1 =>
    rw [hm] at o
    exact fun v H1 x w1 r => c d v H1 g1 x w1 (e.ext x w.oat) r (OutF.from (show OutF C H (k d g1) Q _ from o) x w1.oat)
  | exc c g1 =>
    rw [hm] at o
    exact o
  | bad =>
    rw [hm] at o
    exact o
theorem stepEF {σ : L2.St} {H : Hp} {m : M D} {k : D → M (List D)} {Q : VK} {P : VK} (h : tFD C W ρ (M.bind m k) σ H Q)
    (c : ∀ d v H1 g1, Ext C H H1 → WS C g1 H1 → Has C ρ σ H1 → Rep C H1 v d → OutF C H1 (k d g1) Q (xw C W σ) → P v H1) : tED C W ρ m σ H P := by
  obtain ⟨g, w, e, o⟩ := h
  refine ⟨g, w, e, ?_⟩
  unfold M.bind at o
  cases hm : m g with
  | ok d g1 =>
    rw [hm] at o
    exact fun v H1 x w1 r => c d v H1 g1 x w1 (e.ext x w.oat) r (OutF.from (show OutF C H (k d g1) Q _ from o) x w1.oat)
  | exc c g1 =>
    rw [hm] at o
    exact o
  | bad =>
    rw [hm] at o
    exact o
theorem OutF.put {H : Hp} {ds : List D} {g : G} {Q : VK} {Y : Nat → Hp → Prop} {p : Addr} {vs : List V} (o : OutF C H (.ok ds g) Q Y) (w : WS C g H) (np : H p = none) (r : RepL C H vs ds) : Q (.ref p) (upd H p (.lst vs)) := by
  refine o p vs _ (.same (same_upd np)) np (w.plus np) upd_same (RepL.same (same_upd np) (RepL.plus (fun a q => ?_) _ _ r))
  have q : a = p := q
  rw [q]
  exact np
theorem fd_lst {es : List Expr} {ms : List (M D)} (h : LD X C W ρ es (seqM ms)) : FD X C W ρ (.List es pos) (lstF ms) :=
  ⟨pe_imp (pe_lst h.pa) fun σ H Q h => stepLF h fun ds vs H1 g1 x w e r o => by
    by_cases hz : ds.length ≤ 1000
    · rw [if_pos hz] at o
      exact ⟨by rw [r.length]; exact line_ge (by omega), fun p np => OutF.put o w np r⟩
    · rw [if_neg hz] at o
      exact o.elim⟩
end

/-! ### defs -/
structure Fc (X : Cx) (C : Cf) (W : WX) (j : Nat) : Prop where
  ok : Cok X C W
  room : Room j X.A
  hp : PassesOwn (model X.prog X.w) X.A X.env X.xe
  tk : Takes X W
theorem Cok.plus {X : Cx} {C : Cf} {W : WX} (ok : Cok X C W) (P : Addr → Prop) : Cok X (C.plus P) W := ⟨ok.k, ok.calm, ok.nd, ok.pas, ok.un⟩
def Xt0 : Xt := ⟨fun _ _ m => m = M.pure .non, Nev, Nev, false⟩
def XtF : Xt := ⟨Nev, Nev, Nev, true⟩
section
variable {P : Program} {w : World} {K : PySem.W.Frag} {mg : Str → Option Value} {base : Heap}
theorem fn_ok {x qual : Str} {st : Stmt} {f : Addr} {fd : FuncData} {N ps : List Str} {k n : Nat} {mf : List D → M D} (F : Fun K x qual st f fd) (S : FnScope N ps (defScope st)) (hn : ps.length = n)
    (hb : ∀ (cdv : Value) (A : Around) (outer : List Env) (s : Shared) (H : Hp) (E : XK) (C : Cf) (ds : List D), Fc (cxOf (L2.CX P w) P w K mg base N qual (defScope st) f cdv A outer s H E) C (fun cls d _ H => E cls d H) k → ds.length = n →
      SD (cxOf (L2.CX P w) P w K mg base N qual (defScope st) f cdv A outer s H E) C (fun cls d _ H => E cls d H) Xt0 [] (ds.map some ++ List.replicate (N.length - n) none) (defBody st) (mf ds)) : FnOk P w K mg base (L2.CX P w) (k + 1) f fd ps (spM K n mf) := by
  refine F.okX S (fun vs H Q E h => by rw [hn]; exact h.1) fun cdv A outer s H vs Q E hr h => ?_
  obtain ⟨hl, C, g, ds, kC, ws, r, o⟩ := h
  have hd : ds.length = n := by rw [← r.length]; exact hl
  have tk : Takes (cxOf (L2.CX P w) P w K mg base N qual (defScope st) f cdv A outer s H E) (fun cls d _ H => E cls d H) := takes_of rfl rfl rfl rfl
  have ok : Cok (cxOf (L2.CX P w) P w K mg base N qual (defScope st) f cdv A outer s H E) C (fun cls d _ H => E cls d H) := ⟨kC.symm, rfl, S.nd, passAt tk, by have := hr.un; show (A.deeper _).units + 80 < cLine; omega⟩
  have hp : PassesOwn (model P w) (A.deeper (envOfC qual (defScope st) s.heap.objs.size f cdv)) (envOfC qual (defScope st) s.heap.objs.size f cdv) (cxOf (L2.CX P w) P w K mg base N qual (defScope st) f cdv A outer s H E).xe := passes_of (X := cxOf (L2.CX P w) P w K mg base N qual (defScope st) f cdv A outer s H E) rfl
  refine ⟨_, (hb cdv A outer s H E C ds ⟨ok, hr, hp, tk⟩ hd).ps, H, (fun _ => False), g, [], ⟨⟨rfl, List.nodup_nil, (fun a h => absurd h List.not_mem_nil), ?_, ?_, fun k i ds h => by simp at h⟩, (fun a h => absurd h List.not_mem_nil), fun b o h _ _ => h, fun b h => h.elim⟩, ?_⟩
  · have : inA [] = fun _ => False := funext fun b => propext ⟨fun q => absurd q List.not_mem_nil, False.elim⟩
    rw [this, plus_none]
    exact ws
  · have : inA [] = fun _ => False := funext fun b => propext ⟨fun q => absurd q List.not_mem_nil, False.elim⟩
    rw [this, plus_none]
    intro i d hi
    by_cases h1 : i < ds.length
    · rw [List.getElem?_append_left (by simpa using h1), List.getElem?_map] at hi
      obtain ⟨d', e1, e2⟩ := Option.map_eq_some_iff.mp hi
      cases e2
      obtain ⟨v, e3, e4⟩ := r.getD e1
      refine ⟨v, ?_, e4⟩
      unfold L2.start
      rw [List.getElem?_append_left (by rw [List.length_map, r.length]; exact h1), List.getElem?_map, e3]
      rfl
    · rw [List.getElem?_append_right (by simpa using Nat.le_of_not_lt h1), List.getElem?_replicate] at hi
      split at hi <;> cases hi
  · cases hm : mf ds g with
    | bad => rw [hm] at o; exact o.elim
    | exc c g1 =>
      rw [hm] at o
      refine ⟨(by intro z; cases z), fun os ρ m g σ H' as e1 e2 => ?_, fun _ _ _ _ _ _ _ z => z.elim, fun _ _ _ _ _ _ _ z => z.elim, fun _ d g2 H' v z => (by cases z), fun z => (by cases z), fun c' g2 H' σ z f => ?_⟩
      · have e1 : m = M.pure .non := e1
        subst e1
        cases e2
      · cases z
        exact o H' (fun b o h n => f.kp b o h n id) f.ws
    | ok d g1 =>
      rw [hm] at o
      refine ⟨(by intro z; cases z), fun os ρ m g σ H' as e1 e2 S => ?_, fun _ _ _ _ _ _ _ z => z.elim, fun _ _ _ _ _ _ _ z => z.elim, fun _ d g2 H' v z f r => ?_, fun z => (by cases z), fun c' g2 H' σ z => (by cases z)⟩
      · have e1 : m = M.pure .non := e1
        subst e1
        cases e2
        exact o .non H' (fun b o h n => S.kp b o h n id) S.fin.ws .non
      · cases z
        exact o v H' (fun b o h n => f.kp b o h n id) f.ws r
theorem fn_bad {x qual : Str} {st : Stmt} {f : Addr} {fd : FuncData} {N ps : List Str} {k n : Nat} {mf : List D → M D} (F : Fun K x qual st f fd) (S : FnScope N ps (defScope st)) (hn : ps.length = n) (hb : ∀ ds, mf ds = bad) : FnOk P w K mg base (L2.CX P w) (k + 1) f fd ps (spM K n mf) := by
  refine F.okX S (fun vs H Q E h => by rw [hn]; exact h.1) fun cdv A outer s H vs Q E hr h => ?_
  obtain ⟨hl, C, g, ds, kC, ws, r, o⟩ := h
  rw [hb] at o
  exact o.elim
theorem len1 {α : Type} {l : List α} (h : l.length = 1) : ∃ a, l = [a] := match l, h with | [a], _ => ⟨a, rfl⟩
theorem len2 {α : Type} {l : List α} (h : l.length = 2) : ∃ a b, l = [a, b] := match l, h with | [a, b], _ => ⟨a, b, rfl⟩
theorem len3 {α : Type} {l : List α} (h : l.length = 3) : ∃ a b c, l = [a, b, c] := match l, h with | [a, b, c], _ => ⟨a, b, c, rfl⟩
theorem len4 {α : Type} {l : List α} (h : l.length = 4) : ∃ a b c d, l = [a, b, c, d] := match l, h with | [a, b, c, d], _ => ⟨a, b, c, d, rfl⟩
theorem len5 {α : Type} {l : List α} (h : l.length = 5) : ∃ a b c d e, l = [a, b, c, d, e] := match l, h with | [a, b, c, d, e], _ => ⟨a, b, c, d, e, rfl⟩
theorem len6 {α : Type} {l : List α} (h : l.length = 6) : ∃ a b c d e f, l = [a, b, c, d, e, f] := match l, h with | [a, b, c, d, e, f], _ => ⟨a, b, c, d, e, f, rfl⟩
end

/-! ### name = [.. for ..] -/
theorem ps_ex {X : Cx} {e : Stmt} {ι : Type} {t : ι → TS} (h : ∀ i, PS X e (t i)) : PS X e (fun D σ H => ∃ i, t i D σ H) := ⟨fun p s σ H D I ⟨i, q⟩ => (h i).run p s σ H D I q⟩
section
variable {X : Cx} {C : Cf} {W : WX} {E : Xt} {os : Ow} {ρ : Rho} {pos : Pos} {rest : List Stmt}
theorem sd_setLc {S : Type} {y : Str} {py : Pos} {k : D → M D} {elt tg iter : Expr} {ifs : List Expr} {scope : Scope} {own : List (Str × Nat)} {mi : M (List D)} {dec : D → Option S} {emb : S → Rho} {mt : S → M Bool} {me : S → M D} {lpos : Pos} (i : Nat) (ok : Cok X C W) (hi : ∀ P, ID X (C.plus P) W ρ tg iter mi) (bk : BlkOk X.N X.env.scope scope own) (hg : ∀ (P : Addr → Prop) (s : Shared) (H : Hp) (Ca : Addr) (cl : List (Str × Addr)) (fp : List Addr) (a : Addr), GD (X.blk s H scope (compEnvC scope cl Ca X.env) fp) ((C.plus P).plus (· = a)) (wipeR ρ (own.map (·.2))) (own.map (·.2)) tg dec emb) (ht : ∀ (P : Addr → Prop) (s : Shared) (H : Hp) (Ca : Addr) (cl : List (Str × Addr)) (fp : List Addr) (a : Addr) (x : S), TsD (X.blk s H scope (compEnvC scope cl Ca X.env) fp) ((C.plus P).plus (· = a)) WF (emb x) ifs (mt x)) (he : ∀ (P : Addr → Prop) (s : Shared) (H : Hp) (Ca : Addr) (cl : List (Str × Addr)) (fp : List Addr) (a : Addr) (x : S), ED (X.blk s H scope (compEnvC scope cl Ca X.env) fp) ((C.plus P).plus (· = a)) WF (emb x) elt (me x)) (hr : ∀ d, SD X C W E os (ρ.set i (some d)) rest (k d)) (no : (os.map (·.1)).contains i = false := by rfl) (hy : X.N[i]? = some y := by rfl) (hyl : X.env.scope.names.lookup y = some .local := by rfl) (hsw : swapsWith (.ListComp elt [⟨tg, iter, ifs, 0⟩] scope lpos) (some (.Name y py)) pos.line X.env = pure true := by rfl) (hs : ∀ x, foldedSetIterable iter X.env x = pure x := by intro _; rfl) :
    SD X C W E os ρ (.Assign [.Name y py] (.ListComp elt [⟨tg, iter, ifs, 0⟩] scope lpos) pos :: rest) (M.bind (fdM (compL mi dec mt me)) k) := by
  refine ⟨⟨fun pins s σ H D' I h => ?_⟩⟩
  have hl : i < σ.length := by rw [I.len]; exact (List.getElem?_eq_some_iff.mp hy).1
  refine (pss_cons (ps_ex fun P => ps_setLc (wi := tID (C.plus P) W ρ mi) (g := fun v σ H Q => ∃ a, tGD ((C.plus P).plus (· = a)) (wipeR ρ (own.map (·.2))) (own.map (·.2)) dec emb v σ H Q) (tt := fun σ H Q => ∃ p : Addr × S, tTD ((C.plus P).plus (· = p.1)) WF (emb p.2) (mt p.2) σ H Q) (te := fun σ H Q => ∃ p : Addr × S, tED ((C.plus P).plus (· = p.1)) WF (emb p.2) (me p.2) σ H Q)
    ok.calm ok.nd hy hyl hsw (hi P).pi bk (fun s H Ca cl fp => pg_ex fun a => (hg P s H Ca cl fp a).pg) (fun s H Ca cl fp => pts_ex fun p => (ht P s H Ca cl fp p.1 p.2).pts) (fun s H Ca cl fp => pe_ex fun p => (he P s H Ca cl fp p.1 p.2).pe) hs) (pss_ex fun d => (hr d).ps)).run pins s σ H D' I ?_
  obtain ⟨H0, F, g, as, S0, Gh⟩ := h
  unfold fdM at Gh
  rw [M.bind_assoc] at Gh
  obtain ⟨as', g', S', o⟩ := stepF (P := fun v H1 => ∃ d, tSD C W E os (ρ.set i (some d)) (k d) D' (σ.set i (some v)) H1) S0 Gh fun ds vs a H1 g1 x n w h r G1 => ⟨.lst ds, H0, F, g1, as, (S0.ext x w.minus).set (.lst ⟨S0.s.ws.oat.not n, h⟩ (RepL.minus _ _ r)) hl (own_no no), G1⟩
  exact ⟨inA as', lc_read ⟨g', S'.ws, S'.has, o⟩⟩
theorem sd_ownLc {S : Type} {y : Str} {py : Pos} {k : List D → M D} {elt tg iter : Expr} {ifs : List Expr} {scope : Scope} {own : List (Str × Nat)} {mi : M (List D)} {dec : D → Option S} {emb : S → Rho} {mt : S → M Bool} {me : S → M D} {lpos : Pos} (i : Nat) (ok : Cok X C W) (hi : ∀ P, ID X (C.plus P) W ρ tg iter mi) (bk : BlkOk X.N X.env.scope scope own) (hg : ∀ (P : Addr → Prop) (s : Shared) (H : Hp) (Ca : Addr) (cl : List (Str × Addr)) (fp : List Addr) (a : Addr), GD (X.blk s H scope (compEnvC scope cl Ca X.env) fp) ((C.plus P).plus (· = a)) (wipeR ρ (own.map (·.2))) (own.map (·.2)) tg dec emb) (ht : ∀ (P : Addr → Prop) (s : Shared) (H : Hp) (Ca : Addr) (cl : List (Str × Addr)) (fp : List Addr) (a : Addr) (x : S), TsD (X.blk s H scope (compEnvC scope cl Ca X.env) fp) ((C.plus P).plus (· = a)) WF (emb x) ifs (mt x)) (he : ∀ (P : Addr → Prop) (s : Shared) (H : Hp) (Ca : Addr) (cl : List (Str × Addr)) (fp : List Addr) (a : Addr) (x : S), ED (X.blk s H scope (compEnvC scope cl Ca X.env) fp) ((C.plus P).plus (· = a)) WF (emb x) elt (me x)) (hr : ∀ ds, SD X C W E ((i, ds) :: os) (ρ.set i none) rest (k ds)) (no : (os.map (·.1)).contains i = false := by rfl) (hy : X.N[i]? = some y := by rfl) (hyl : X.env.scope.names.lookup y = some .local := by rfl) (hsw : swapsWith (.ListComp elt [⟨tg, iter, ifs, 0⟩] scope lpos) (some (.Name y py)) pos.line X.env = pure true := by rfl) (hs : ∀ x, foldedSetIterable iter X.env x = pure x := by intro _; rfl) :
    SD X C W E os ρ (.Assign [.Name y py] (.ListComp elt [⟨tg, iter, ifs, 0⟩] scope lpos) pos :: rest) (M.bind (compL mi dec mt me) k) := by
  refine ⟨⟨fun pins s σ H D' I h => ?_⟩⟩
  have hl : i < σ.length := by rw [I.len]; exact (List.getElem?_eq_some_iff.mp hy).1
  refine (pss_cons (ps_ex fun P => ps_setLc (wi := tID (C.plus P) W ρ mi) (g := fun v σ H Q => ∃ a, tGD ((C.plus P).plus (· = a)) (wipeR ρ (own.map (·.2))) (own.map (·.2)) dec emb v σ H Q) (tt := fun σ H Q => ∃ p : Addr × S, tTD ((C.plus P).plus (· = p.1)) WF (emb p.2) (mt p.2) σ H Q) (te := fun σ H Q => ∃ p : Addr × S, tED ((C.plus P).plus (· = p.1)) WF (emb p.2) (me p.2) σ H Q)
    ok.calm ok.nd hy hyl hsw (hi P).pi bk (fun s H Ca cl fp => pg_ex fun a => (hg P s H Ca cl fp a).pg) (fun s H Ca cl fp => pts_ex fun p => (ht P s H Ca cl fp p.1 p.2).pts) (fun s H Ca cl fp => pe_ex fun p => (he P s H Ca cl fp p.1 p.2).pe) hs) (pss_ex fun d => (hr d).ps)).run pins s σ H D' I ?_
  obtain ⟨H0, F, g, as, S0, Gh⟩ := h
  obtain ⟨as', g', S', o⟩ := stepF (P := fun v H1 => ∃ d, tSD C W E ((i, d) :: os) (ρ.set i none) (k d) D' (σ.set i (some v)) H1) S0 Gh fun ds vs a H1 g1 x n w h r G1 => ⟨ds, H0, F, g1, a :: as, S0.new x n w h r hl (own_no no), G1⟩
  exact ⟨inA as', lc_read ⟨g', S'.ws, S'.has, o⟩⟩
end
end Tc

set_option Elab.async false
set_option linter.all false
set_option maxRecDepth 100000
set_option maxHeartbeats 4000000
namespace Tc
open PySem PySem.Spec PyProof.Rows L2

/-! ### a new list is given back -/
section
variable {X : Cx} {C : Cf} {W : WX} {E : Xt} {os : Ow} {ρ : Rho} {pos : Pos} {e : Expr} {rest : List Stmt} {σ : L2.St} {H H0 : Hp} {F : Addr → Prop} {g : G} {as : List Addr} {D' : Ends}
theorem sd_retF {me : M (List D)} (hf : E.rf = true) (he : FO X C W os ρ e me) : SD X C W E os ρ (.Return (some e) pos :: rest) (fdM me) := by
  refine ⟨pss_imp (pss_cons (ps_ret he.pe) pss_never) fun D' σ H ⟨H0, F, g, as, S, Gh⟩ => ?_⟩
  unfold fdM at Gh
  refine stepF S Gh fun ds vs a H1 g1 x n w h r G1 => ?_
  have f1 : Fin C H0 F g1 H1 := S.fin.ext x w.minus.minus
  obtain ⟨ds', e1, q⟩ := G1.rff hf _ g1 H1 rfl f1
  cases e1
  have hs : ∀ b, (fun b => b = a) b → C.O b ∨ (inA as b ∨ b = a) := fun b z => .inr (.inr z)
  rw [plus_plus] at w r
  exact q a ⟨.inr (S.isnew n), fun z => S.s.ws.oat.not n (.inl z), w.sub hs, vs, h, RepL.sub hs r⟩
theorem sd_retO {ds : List D} {x : Str} {px : Pos} (k : Nat) (i : Nat) (hf : E.rf = true) (hk : os[k]? = some (i, ds) := by rfl) (hi : X.N[i]? = some x := by rfl) (hv : Vis X.env.scope x := by first | exact Or.inl rfl | exact Or.inr (Or.inl rfl) | exact Or.inr (Or.inr rfl)) (hd : (x == ("__debug__" : Str)) = false := by decide) (hcd : (x == Str.ofString "__classdict__") = false := by decide) :
    SD X C W E os ρ (.Return (some (.Name x px)) pos :: rest) (M.pure (.lst ds)) := by
  refine ⟨pss_imp (pss_cons (ps_ret (pv i hi hv hd hcd)) pss_never) fun D' σ H ⟨H0, F, g, as, S, Gh⟩ => ?_⟩
  obtain ⟨a, vs, h1, h2, h3, h4⟩ := S.s.own k i ds hk
  obtain ⟨ds', e1, q⟩ := Gh.rff hf _ g H rfl S.fin
  cases e1
  have hm := List.mem_of_getElem? h1
  have hs : ∀ b, (fun b => b = a) b → C.O b ∨ inA as b := fun b z => .inr (by have z : b = a := z; rw [z]; exact hm)
  exact ⟨.ref a, h2, q a ⟨S.ow a hm, S.s.nO a hm, S.s.ws.sub hs, vs, h3, RepL.sub hs h4⟩⟩
def OutFS (C : Cf) (H : Hp) (r : R D) (Q : VK) (E : XK) : Prop := match r with
  | .ok (.lst ds) g => OutF C H (.ok ds g) Q fun c H' => E (.ref (C.cls c)) none H'
  | .ok _ _ => False
  | .exc c g => ∀ H', Ext C H H' → WS C g H' → E (.ref (C.cls c)) none H'
  | .bad => False
def spF (K : PySem.W.Frag) (n : Nat) (mf : List D → M D) : Sp := fun vs H Q E => vs.length = n ∧ ∃ (C : Cf) (g : G) (ds : List D), C.K = K ∧ WS C g H ∧ RepL C H vs ds ∧ OutFS C H (mf ds g) Q E
def lstOf (m : M D) : M (List D) := fun g => match m g with
  | .ok (.lst l) g => .ok l g
  | .ok _ _ => .bad
  | .exc c g => .exc c g
  | .bad => .bad
theorem fd_call {k : Nat} {f : Addr} {fd : FuncData} {ps : List Str} {n : Nat} {mf : List D → M D} {x : Str} {j : Nat} {e : Expr} {es : List Expr} {ms : List (M D)} {p : Pos} (Fk : FnOk X.prog X.w X.K X.mg X.base (L2.CX X.prog X.w) k f fd ps (spF X.K n mf)) (hr : Room j X.A) (hm : X.mg x = some (.ref f)) (hk : PySem.W.keepIn X.K (.ref f) = true) (hb : Binds X.K fd ps []) (ok : Cok X C W) (ha : LD X C W ρ (e :: es) (seqM ms)) (hj : k ≤ j := by decide) (hn : ms.length = n := by rfl) (hg : Gl X x := by rfl) (hdb : (x == ("__debug__" : Str)) = false := by decide) (he : starEach (e :: es) X.env = (false, eval e X.env) :: starEach es X.env := by rfl) (hpl : (backTo pos (starEach es X.env)).any (·.1) = false := by rfl) :
    FD X C W ρ (.Call (.Name x p) (e :: es) [] pos) (lstOf (callM ms mf)) := by
  refine ⟨pe_imp (pe_callSD Fk (hr.mono hj) hg hm hk hb .nil ok.pas ha.pa hdb he hpl) fun σ H Q h => ?_⟩
  have hl : ∀ g ds g1, seqM ms g = .ok ds g1 → ds.length = n := fun g ds g1 e => (seqM_len ms g g1 ds e).trans hn
  obtain ⟨g, w, e, o⟩ := h
  refine ⟨g, w, e, ?_⟩
  unfold lstOf callM M.bind at o
  cases hq : seqM ms g with
  | bad => rw [hq] at o; exact o
  | exc c g1 => rw [hq] at o; exact o
  | ok ds g1 =>
    rw [hq] at o
    intro vs H1 x1 w1 r1
    refine ⟨by rw [List.append_nil, r1.length]; exact hl g ds g1 hq, C, g1, ds, ok.k.symm, w1, by rw [List.append_nil]; exact r1, ?_⟩
    have o : OutF C H (match mf ds g1 with | .ok (.lst l) g => .ok l g | .ok _ _ => .bad | .exc c g => .exc c g | .bad => .bad) Q (xw C W σ) := o
    unfold OutFS
    cases hr : mf ds g1 with
    | bad => rw [hr] at o; exact o
    | exc c g2 =>
      rw [hr] at o
      exact fun H' x2 w2 => o H' (x1.trans x2) w2
    | ok d g2 =>
      rw [hr] at o
      cases d with
      | lst l => exact OutF.from (show OutF C H (.ok l g2) Q _ from o) x1 w1.oat
      | _ => exact o
end

/-! ### a new list becomes one that is shared -/
mutual
def D.noh : D → Bool
  | .lst l => D.nohL l
  | .tup l => D.nohL l
  | .hnd _ => false
  | .dic ks vs => D.nohL ks && D.nohL vs
  | _ => true
def D.nohL : List D → Bool
  | [] => true
  | d :: ds => D.noh d && D.nohL ds
end
def Cf.hp (C : Cf) (a : Addr) : Cf := { C with O := fun b => C.O b ∨ b = a, N := fun b => C.N b ∨ b = a, nin := fun b h => h.imp (C.nin b) id, adr := [a], ain := fun b h => .inr (List.mem_singleton.mp h), nd := List.nodup_cons.mpr ⟨List.not_mem_nil, List.nodup_nil⟩ }
mutual
theorem Rep.cf {C C' : Cf} {H : Hp} (hO : ∀ b, C'.O b → C.O b) (hK : C'.K = C.K) (hL : C'.L = C.L) (hc : C'.cls = C.cls) : ∀ (d : D) (v : V), d.noh = true → Rep C H v d → Rep C' H v d
  | .non, _, _, h => by cases h; exact .non
  | .bl b, _, _, h => by cases h; exact .bl b
  | .int i, _, _, h => by cases h; exact .int i
  | .str s, _, _, h => by cases h; exact .str s
  | .lst ds, _, n, h => by
    unfold D.noh at n
    cases h with
    | lst a b => exact .lst ⟨fun q => a.1 (hO _ q), a.2⟩ (RepL.cf hO hK hL hc ds _ n b)
  | .tup ds, _, n, h => by
    unfold D.noh at n
    cases h with
    | tup a b => exact .tup (a.imp (fun a => ⟨fun q => a.1 (hO _ q), a.2⟩) (by rw [hK]; exact id)) (RepL.cf hO hK hL hc ds _ n b)
  | .scr ns, _, _, h => by
    cases h with
    | scr a => exact .scr (a.imp (fun a => ⟨fun q => a.1 (hO _ q), a.2⟩) (by rw [hK]; exact id))
  | .hnd n, _, z, h => by cases z
  | .lam n, _, _, h => by
    cases h with
    | lam a => exact .lam (by rw [hL]; exact a)
  | .ty n, _, _, h => by cases h; exact .ty n
  | .cls n, _, _, h => by
    cases h
    rw [← hc]
    exact .cls n
  | .dic ks vs, _, n, h => by
    cases h with
    | dic0 a b => exact .dic0 (fun q => a (hO _ q)) b
theorem RepL.cf {C C' : Cf} {H : Hp} (hO : ∀ b, C'.O b → C.O b) (hK : C'.K = C.K) (hL : C'.L = C.L) (hc : C'.cls = C.cls) : ∀ (ds : List D) (vs : List V), D.nohL ds = true → RepL C H vs ds → RepL C' H vs ds
  | [], _, _, h => by cases h; exact .nil
  | d :: ds, _, n, h => by
    unfold D.nohL at n
    rw [Bool.and_eq_true] at n
    cases h with
    | cons a b => exact .cons (Rep.cf hO hK hL hc d _ n.1 a) (RepL.cf hO hK hL hc ds _ n.2 b)
end
inductive NohR : Rho → Prop
  | nil : NohR []
  | skip {ρ : Rho} : NohR ρ → NohR (none :: ρ)
  | keep {d : D} {ρ : Rho} : d.noh = true → NohR ρ → NohR (some d :: ρ)
theorem NohR.get : ∀ {ρ : Rho}, NohR ρ → ∀ (i : Nat) (d : D), ρ[i]? = some (some d) → d.noh = true
  | _, .nil, i, d, h => by simp at h
  | _, .skip n, 0, d, h => by simp at h
  | _, .skip n, i + 1, d, h => NohR.get n i d (by simpa using h)
  | _, .keep e n, 0, d, h => by simp at h; subst h; exact e
  | _, .keep e n, i + 1, d, h => NohR.get n i d (by simpa using h)
def Xt.lift (E : Xt) : Xt where
  nx := fun os ρ' m => os = [] ∧ ∃ ρ, NohR ρ ∧ Le ρ ρ' ∧ E.nx [] ρ m
  bk := fun os ρ' m => os = [] ∧ ∃ ρ, NohR ρ ∧ Le ρ ρ' ∧ E.bk [] ρ m
  ct := fun os ρ' m => os = [] ∧ ∃ ρ, NohR ρ ∧ Le ρ ρ' ∧ E.ct [] ρ m
  rf := false
theorem lift_at {E : Xt} {ρ ρ' : Rho} {m : M D} (n : NohR ρ) (l : Le ρ ρ') (h : E.nx [] ρ m) : E.lift.nx [] ρ' m := ⟨rfl, ρ, n, l, h⟩
def nohR (r : R D) : R D := match r with
  | .ok d g => if d.noh = true then .ok d g else .bad
  | r => r
def setG (l : G) (k : M D) : M D := fun _ => nohR (k l)
def newhM (chk : Bool) (me : M (List D)) (k : M D) : M D := M.bind me fun ds => if chk = true ∧ D.nohL ds = true then setG [ds] k else bad
section
variable {X : Cx} {C : Cf} {W : WX} {E : Xt} {ρ : Rho} {pos : Pos} {e : Expr} {rest : List Stmt}
theorem Cok.hp (ok : Cok X C W) (a : Addr) : Cok X (C.hp a) W := ⟨ok.k, ok.calm, ok.nd, ok.pas, ok.un⟩
theorem Fc.hpc {j : Nat} (fc : Fc X C W j) (a : Addr) : Fc X (C.hp a) W j := ⟨fc.ok.hp a, fc.room, fc.hp, fc.tk⟩
theorem hp_noa {C : Cf} (h : C.adr = []) {g g' : G} {H : Hp} (o : Oat C H) (j : C.J H) : WS C g H := ⟨o, j, trivial, fun n a e => by rw [h] at e; simp at e⟩
theorem sd_newh {x : Str} {p : Pos} {me : M (List D)} {k : M D} (i : Nat) (chk : Bool) (nd : X.N.Nodup) (hA : C.adr = []) (hf : E.rf = false) (he : FO X C W [] ρ e me) (hn : chk = true → NohR (ρ.set i none)) (hr : chk = true → ∀ a, SD X (C.hp a) W E.lift [] (ρ.set i (some (.hnd 0))) rest k) (hi : X.N[i]? = some x := by rfl) (hx : Loc X.env.scope x := by first | exact Or.inl rfl | exact Or.inr rfl) (hs : swapsWith e (some (.Name x p)) pos.line X.env = pure false := by rfl) (hff : X.fn x = true ∨ X.env.scope.names.lookup x = some .local := by first | exact .inl rfl | exact .inr rfl) :
    SD X C W E [] ρ (.Assign [.Name x p] e pos :: rest) (newhM chk me k) := by
  refine ⟨⟨fun pins s σ H D' I h => ?_⟩⟩
  have hl : i < σ.length := by rw [I.len]; exact (List.getElem?_eq_some_iff.mp hi).1
  refine (pss_cons (ps_set nd hi hx he.pe hs hff) (pss_ex (ι := { a : Addr // chk = true }) fun z => (hr z.2 z.1).ps)).run pins s σ H D' I ?_
  obtain ⟨H0, F, g, as, S, Gh⟩ := h
  unfold newhM at Gh
  have ha0 : as = [] := List.length_eq_zero_iff.mp S.s.len
  subst ha0
  have e0 : C.plus (inA []) = C := by
    have : inA [] = fun _ => False := funext fun b => propext ⟨fun q => absurd q List.not_mem_nil, False.elim⟩
    rw [this, plus_none]
  refine stepF S Gh fun ds vs a H1 g1 x1 n1 w1 h1 r1 G1 => ?_
  rw [e0] at w1 r1
  by_cases hq : chk = true ∧ D.nohL ds = true
  · rw [if_pos hq] at G1
    have G1 : Go C W H0 F E D' (nohR (k [ds])) := G1
    have na : H0 a = none := S.isnew n1
    have nO : ¬ C.O a := fun z => S.s.ws.oat.not n1 (.inl z)
    have nF : ¬ F a := fun z => by
      obtain ⟨_, us, e⟩ := S.fl a z
      rw [n1] at e; cases e
    -- the result is what it is
    have hres : nohR (k [ds]) = k [ds] ∧ ∀ d g, k [ds] = .ok d g → d.noh = true := by
      have nb := G1.nb
      cases hk : k [ds] with
      | bad => rw [hk] at nb; exact (nb rfl).elim
      | exc c g => exact ⟨rfl, fun d g z => by cases z⟩
      | ok d g =>
        rw [hk] at nb
        by_cases hd : d.noh = true
        · refine ⟨?_, fun d g z => by cases z; exact hd⟩
          show (if d.noh = true then R.ok d g else .bad) = _
          rw [if_pos hd]
        · have : nohR (.ok d g) = .bad := by
            show (if d.noh = true then R.ok d g else .bad) = _
            rw [if_neg hd]
          exact (nb this).elim
    rw [hres.1] at G1
    refine ⟨⟨a, hq.1⟩, H0, F, [ds], [], ⟨⟨rfl, List.nodup_nil, (fun b h => absurd h List.not_mem_nil), ?_, ?_, fun k i ds h => by simp at h⟩, (fun b h => absurd h List.not_mem_nil), ?_, ?_⟩, ?_⟩
    · have e1 : (C.hp a).plus (inA []) = C.hp a := by
        have : inA [] = fun _ => False := funext fun b => propext ⟨fun q => absurd q List.not_mem_nil, False.elim⟩
        rw [this, plus_none]
      rw [e1]
      refine ⟨fun b z => w1.oat b z, w1.j, trivial, fun m b e => ?_⟩
      cases m with
      | zero =>
        have e : some a = some b := e
        cases e
        exact ⟨ds, vs, rfl, h1, RepL.cf (C := C.plus (fun b => b = a)) (C' := C.hp a) (fun b z => z) rfl rfl rfl _ _ hq.2 r1⟩
      | succ m => simp [Cf.hp] at e
    · have e1 : (C.hp a).plus (inA []) = C.hp a := by
        have : inA [] = fun _ => False := funext fun b => propext ⟨fun q => absurd q List.not_mem_nil, False.elim⟩
        rw [this, plus_none]
      rw [e1]
      intro j d hj
      by_cases hij : i = j
      · subst hij
        by_cases hl2 : i < ρ.length
        · rw [List.getElem?_set_self hl2] at hj
          cases hj
          exact ⟨.ref a, List.getElem?_set_self hl, .hnd rfl⟩
        · rw [List.getElem?_eq_none (by rw [List.length_set]; omega)] at hj
          cases hj
      · have hd : d.noh = true := (hn hq.1).get j d (by rw [List.getElem?_set_ne hij] at hj ⊢; exact hj)
        rw [List.getElem?_set_ne hij] at hj ⊢
        obtain ⟨v, z1, z2⟩ := S.s.has j d hj
        rw [e0] at z2
        have o0 := S.s.ws.oat
        rw [e0] at o0
        refine ⟨v, z1, Rep.cf (C := C.plus (fun b => b = a)) (C' := C.hp a) (fun b z => z) rfl rfl rfl _ _ hd (Rep.far o0 (fun b z => ?_) x1 _ _ z2)⟩
        have z : b = a := z
        rw [z]; exact n1
    · exact fun b o hb n1 n2 => x1 b o (S.kp b o hb (fun z => n1 (.inl z)) n2) fun z => n1 (.inl z)
    · exact fun b hb => ⟨fun z => z.elim (S.fl b hb).1 fun z => nF (by have z : b = a := z; rw [← z]; exact hb), by
        obtain ⟨z1, us, z2⟩ := S.fl b hb
        exact ⟨us, x1 _ _ z2 fun z => z1 (C.nin b z)⟩⟩
    · -- the ends
      have fin : ∀ {g : G} {H : Hp}, Fin (C.hp a) H0 F g H → Fin C H0 F g H := fun {g H} f =>
        ⟨hp_noa (g' := g) hA (fun b z => f.ws.oat b (.inl z)) f.ws.j, fun b o hb n1 n2 => f.kp b o hb (fun z => z.elim n1 fun z => by rw [z, na] at hb; cases hb) n2, fun b hb => ⟨fun z => (f.fl b hb).1 (.inl z), (f.fl b hb).2⟩⟩
      have stt : ∀ {ρ ρ' : Rho} {g : G} {σ : L2.St} {H : Hp} {as : List Addr}, NohR ρ → Le ρ ρ' → Stt (C.hp a) H0 F [] ρ' g σ H as → Stt C H0 F [] ρ g σ H as := fun {ρ ρ' g σ H as} nh l T => by
        have ha0 : as = [] := List.length_eq_zero_iff.mp T.s.len
        subst ha0
        have f := fin T.fin
        have e1 : (C.hp a).plus (inA []) = C.hp a := by
          have : inA [] = fun _ => False := funext fun b => propext ⟨fun q => absurd q List.not_mem_nil, False.elim⟩
          rw [this, plus_none]
        refine ⟨⟨rfl, List.nodup_nil, (fun b h => absurd h List.not_mem_nil), by rw [e0]; exact f.ws, ?_, fun k i ds h => by simp at h⟩, (fun b h => absurd h List.not_mem_nil), f.kp, f.fl⟩
        rw [e0]
        intro j d hj
        obtain ⟨v, z1, z2⟩ := T.s.has j d (l.get j d hj)
        rw [e1] at z2
        exact ⟨v, z1, Rep.cf (C := C.hp a) (C' := C) (fun b z => .inl z) rfl rfl rfl _ _ (nh.get j d hj) z2⟩
      refine ⟨G1.nb, ?_, ?_, ?_, fun _ d g2 H2 v e2 f2 r2 => G1.rt hf d g2 H2 v e2 (fin f2) (Rep.cf (C := C.hp a) (C' := C) (fun b z => .inl z) rfl rfl rfl _ _ (hres.2 d g2 e2) r2), fun z => (by cases z), fun c g2 H2 σ2 e2 f2 => G1.ex c g2 H2 σ2 e2 (fin f2)⟩
      · rintro os ρ' m g σ H as ⟨rfl, ρ1, nh, l, q⟩ e T
        exact G1.nx _ _ _ _ _ _ _ q e (stt nh l T)
      · rintro os ρ' m g σ H as ⟨rfl, ρ1, nh, l, q⟩ e T
        exact G1.bk _ _ _ _ _ _ _ q e (stt nh l T)
      · rintro os ρ' m g σ H as ⟨rfl, ρ1, nh, l, q⟩ e T
        exact G1.ct _ _ _ _ _ _ _ q e (stt nh l T)
  · rw [if_neg hq] at G1
    exact (G1.nb rfl).elim
end
section
variable {P : Program} {w : World} {K : PySem.W.Frag} {mg : Str → Option Value} {base : Heap}
theorem fnF_ok {x qual : Str} {st : Stmt} {f : Addr} {fd : FuncData} {N ps : List Str} {k n : Nat} {mf : List D → M D} (F : Fun K x qual st f fd) (S : FnScope N ps (defScope st)) (hn : ps.length = n)
    (hb : ∀ (cdv : Value) (A : Around) (outer : List Env) (s : Shared) (H : Hp) (E : XK) (C : Cf) (ds : List D), Fc (cxOf (L2.CX P w) P w K mg base N qual (defScope st) f cdv A outer s H E) C (fun cls d _ H => E cls d H) k → ds.length = n →
      SD (cxOf (L2.CX P w) P w K mg base N qual (defScope st) f cdv A outer s H E) C (fun cls d _ H => E cls d H) XtF [] (ds.map some ++ List.replicate (N.length - n) none) (defBody st) (mf ds)) : FnOk P w K mg base (L2.CX P w) (k + 1) f fd ps (spF K n mf) := by
  refine F.okX S (fun vs H Q E h => by rw [hn]; exact h.1) fun cdv A outer s H vs Q E hr h => ?_
  obtain ⟨hl, C, g, ds, kC, ws, r, o⟩ := h
  have hd : ds.length = n := by rw [← r.length]; exact hl
  have tk : Takes (cxOf (L2.CX P w) P w K mg base N qual (defScope st) f cdv A outer s H E) (fun cls d _ H => E cls d H) := takes_of rfl rfl rfl rfl
  have ok : Cok (cxOf (L2.CX P w) P w K mg base N qual (defScope st) f cdv A outer s H E) C (fun cls d _ H => E cls d H) := ⟨kC.symm, rfl, S.nd, passAt tk, by have := hr.un; show (A.deeper _).units + 80 < cLine; omega⟩
  have hp : PassesOwn (model P w) (A.deeper (envOfC qual (defScope st) s.heap.objs.size f cdv)) (envOfC qual (defScope st) s.heap.objs.size f cdv) (cxOf (L2.CX P w) P w K mg base N qual (defScope st) f cdv A outer s H E).xe := passes_of (X := cxOf (L2.CX P w) P w K mg base N qual (defScope st) f cdv A outer s H E) rfl
  refine ⟨_, (hb cdv A outer s H E C ds ⟨ok, hr, hp, tk⟩ hd).ps, H, (fun _ => False), g, [], ⟨⟨rfl, List.nodup_nil, (fun a h => absurd h List.not_mem_nil), ?_, ?_, fun k i ds h => by simp at h⟩, (fun a h => absurd h List.not_mem_nil), fun b o h _ _ => h, fun b h => h.elim⟩, ?_⟩
  · have : inA [] = fun _ => False := funext fun b => propext ⟨fun q => absurd q List.not_mem_nil, False.elim⟩
    rw [this, plus_none]
    exact ws
  · have : inA [] = fun _ => False := funext fun b => propext ⟨fun q => absurd q List.not_mem_nil, False.elim⟩
    rw [this, plus_none]
    intro i d hi
    by_cases h1 : i < ds.length
    · rw [List.getElem?_append_left (by simpa using h1), List.getElem?_map] at hi
      obtain ⟨d', e1, e2⟩ := Option.map_eq_some_iff.mp hi
      cases e2
      obtain ⟨v, e3, e4⟩ := r.getD e1
      refine ⟨v, ?_, e4⟩
      unfold L2.start
      rw [List.getElem?_append_left (by rw [List.length_map, r.length]; exact h1), List.getElem?_map, e3]
      rfl
    · rw [List.getElem?_append_right (by simpa using Nat.le_of_not_lt h1), List.getElem?_replicate] at hi
      split at hi <;> cases hi
  · unfold OutFS at o
    cases hm : mf ds g with
    | bad => rw [hm] at o; exact o.elim
    | exc c g1 =>
      rw [hm] at o
      refine ⟨(by intro z; cases z), fun _ _ _ _ _ _ _ z => z.elim, fun _ _ _ _ _ _ _ z => z.elim, fun _ _ _ _ _ _ _ z => z.elim, fun z => (by cases z), fun _ d g2 H' z => (by cases z), fun c' g2 H' σ z f => ?_⟩
      cases z
      exact o H' (fun b o h n => f.kp b o h n id) f.ws
    | ok d g1 =>
      rw [hm] at o
      cases d with
      | lst l =>
        refine ⟨(by intro z; cases z), fun _ _ _ _ _ _ _ z => z.elim, fun _ _ _ _ _ _ _ z => z.elim, fun _ _ _ _ _ _ _ z => z.elim, fun z => (by cases z), fun _ d g2 H' z f => ?_, fun c' g2 H' σ z => (by cases z)⟩
        cases z
        refine ⟨l, rfl, fun a fr => ?_⟩
        obtain ⟨vs, h1, h2⟩ := fr.at_
        exact o a vs H' (fun b o h n => f.kp b o h n id) (fr.nw.resolve_left id) fr.ws h1 h2
      | _ => exact o.elim
/-- a law: its script, read alone -/
def spLaw (K : PySem.W.Frag) (n : Nat) (mf : List D → M D) : Sp := fun vs H Q E => vs.length = 1 ∧ ∃ (a : Addr) (ns : List Int), vs = [.ref a] ∧ ns.length ≤ n ∧ Only H ∧ SqL K H a (ns.map V.int) ∧ (∃ g, mf [.scr ns] [] = .ok (.bl true) g) ∧ ∀ H', Q (.bl true) H'
def Cf0 (K : PySem.W.Frag) : Cf where
  K := K
  O := fun _ => False
  N := fun _ => False
  nin := fun _ h => h
  adr := []
  ain := fun _ h => absurd h List.not_mem_nil
  nd := List.nodup_nil
  J := fun _ => True
  jst := fun _ _ _ _ => trivial
  L := fun _ _ _ => False
  lst := fun _ _ _ _ h _ => h
  cls := fun n => n
theorem fnL_ok {x qual : Str} {st : Stmt} {f : Addr} {fd : FuncData} {N ps : List Str} {k m : Nat} {mf : List D → M D} (F : Fun K x qual st f fd) (S : FnScope N ps (defScope st)) (hn : ps.length = 1)
    (hb : ∀ (cdv : Value) (A : Around) (outer : List Env) (s : Shared) (H : Hp) (E : XK) (C : Cf) (ds : List D), Fc (cxOf (L2.CX P w) P w K mg base N qual (defScope st) f cdv A outer s H E) C (fun cls d _ H => E cls d H) k → C.adr = [] → ds.length = 1 →
      SD (cxOf (L2.CX P w) P w K mg base N qual (defScope st) f cdv A outer s H E) C (fun cls d _ H => E cls d H) Xt0 [] (ds.map some ++ List.replicate (N.length - 1) none) (defBody st) (mf ds)) : FnOk P w K mg base (L2.CX P w) (k + 1) f fd ps (spLaw K m mf) := by
  refine F.okX S (fun vs H Q E h => by rw [hn]; exact h.1) fun cdv A outer s H vs Q E hr h => ?_
  obtain ⟨hl, a, ns, rfl, hlen, hO, hS, ⟨gz, hz⟩, q⟩ := h
  have kC : (Cf0 K).K = K := rfl
  have ws : WS (Cf0 K) [] H := ⟨fun b z => z.elim, trivial, trivial, fun n b e => by simp [Cf0] at e⟩
  have r : RepL (Cf0 K) H [.ref a] [.scr ns] := .cons (.scr (by
    rcases hS with (z | ⟨o, z⟩) | z
    · rcases hO a with y | ⟨o, xs, y⟩
      · rw [z] at y; cases y
      · rw [z] at y; cases y
    · exact .inl ⟨id, o, z⟩
    · exact .inr z)) .nil
  have hd : ([D.scr ns] : List D).length = 1 := rfl
  have tk : Takes (cxOf (L2.CX P w) P w K mg base N qual (defScope st) f cdv A outer s H E) (fun cls d _ H => E cls d H) := takes_of rfl rfl rfl rfl
  have ok : Cok (cxOf (L2.CX P w) P w K mg base N qual (defScope st) f cdv A outer s H E) (Cf0 K) (fun cls d _ H => E cls d H) := ⟨kC.symm, rfl, S.nd, passAt tk, by have := hr.un; show (A.deeper _).units + 80 < cLine; omega⟩
  have hp : PassesOwn (model P w) (A.deeper (envOfC qual (defScope st) s.heap.objs.size f cdv)) (envOfC qual (defScope st) s.heap.objs.size f cdv) (cxOf (L2.CX P w) P w K mg base N qual (defScope st) f cdv A outer s H E).xe := passes_of (X := cxOf (L2.CX P w) P w K mg base N qual (defScope st) f cdv A outer s H E) rfl
  refine ⟨_, (hb cdv A outer s H E (Cf0 K) [.scr ns] ⟨ok, hr, hp, tk⟩ rfl hd).ps, H, (fun _ => False), [], [], ⟨⟨rfl, List.nodup_nil, (fun a h => absurd h List.not_mem_nil), ?_, ?_, fun k i ds h => by simp at h⟩, (fun a h => absurd h List.not_mem_nil), fun b o h _ _ => h, fun b h => h.elim⟩, ?_⟩
  · have : inA [] = fun _ => False := funext fun b => propext ⟨fun q => absurd q List.not_mem_nil, False.elim⟩
    rw [this, plus_none]
    exact ws
  · have : inA [] = fun _ => False := funext fun b => propext ⟨fun q => absurd q List.not_mem_nil, False.elim⟩
    rw [this, plus_none]
    intro i d hi
    by_cases h1 : i < ([D.scr ns] : List D).length
    · rw [List.getElem?_append_left (by simpa using h1), List.getElem?_map] at hi
      obtain ⟨d', e1, e2⟩ := Option.map_eq_some_iff.mp hi
      cases e2
      obtain ⟨v, e3, e4⟩ := r.getD e1
      refine ⟨v, ?_, e4⟩
      unfold L2.start
      rw [List.getElem?_append_left (by rw [List.length_map, r.length]; exact h1), List.getElem?_map, e3]
      rfl
    · rw [List.getElem?_append_right (by simpa using Nat.le_of_not_lt h1), List.getElem?_replicate] at hi
      split at hi <;> cases hi
  · rw [hz]
    refine ⟨(by intro z; cases z), fun os ρ m g σ H' as e1 e2 => ?_, fun _ _ _ _ _ _ _ z => z.elim, fun _ _ _ _ _ _ _ z => z.elim, fun _ d g2 H' v z f r => ?_, fun z => (by cases z), fun c' g2 H' σ z => (by cases z)⟩
    · have e1 : m = M.pure .non := e1
      subst e1
      cases e2
    · cases z
      cases r
      exact q H'
end
end Tc
namespace Tc
theorem and_l {a b : Bool} (h : (a && b) = true) : a = true := by
  cases a with
  | true => rfl
  | false => cases h
theorem and_r {a b : Bool} (h : (a && b) = true) : b = true := by
  cases a with
  | true => exact h
  | false => cases h
end Tc

set_option Elab.async false
set_option linter.all false
set_option maxRecDepth 100000
set_option maxHeartbeats 4000000
namespace Tc
open PySem PySem.Spec PyProof.Rows L2

section
variable {X : Cx} {C : Cf} {W : WX} {ρ : Rho} {pos : Pos}
theorem OutF.ofO_some {H : Hp} {o : Option (List D)} {g : G} {Q : VK} {Y : Nat → Hp → Prop} (h : OutF C H (ofO o g) Q Y) : ∃ d, o = some d ∧ OutF C H (.ok d g) Q Y := by
  cases o with
  | none => exact h.elim
  | some d => exact ⟨d, rfl, h⟩
def catL : D → D → Option (List D)
  | .lst a, .lst b => if a.length + b.length ≤ 1000000 then some (a ++ b) else none
  | _, _ => none
def addF (ma mb : M D) : M (List D) := M.bind ma fun a => M.bind mb fun b => ofO (catL a b)
theorem fd_add {a b : Expr} {ma mb : M D} (ok : Cok X C W) (ha : ED X C W ρ a ma) (hb : ED X C W ρ b mb) : FD X C W ρ (.BinOp a .Add b pos) (addF ma mb) :=
  ⟨pe_imp (pe_op op_cat ha.pe hb.pe) fun σ H Q h => stepEF h fun d v H1 g1 x1 w1 e1 r1 o1 => stepEF ⟨g1, w1, e1, o1⟩ fun d2 v2 H2 g2 x2 w2 e2 r2 o2 => by
    obtain ⟨l, ex, o3⟩ := OutF.ofO_some o2
    have r1 := Rep.ext x2 w1.oat _ _ r1
    cases r1 with
    | @lst p xs as hp hl =>
      cases r2 with
      | @lst p2 ys bs hp2 hl2 =>
        obtain ⟨hz, ex⟩ := ite_some ex
        subst ex
        exact ⟨p, p2, xs, ys, rfl, rfl, hp.2, hp2.2, by rw [hl.length, hl2.length]; exact line_ge hz, fun q nq => OutF.put o3 w2 nq (hl.append hl2)⟩
      | _ => cases ex
    | _ => cases ex⟩
def repL : D → D → Option (List D)
  | .lst a, .int k => if k ≤ 1000 ∧ -1000 ≤ k ∧ a.length ≤ 1000 then some (List.replicate k.toNat a).flatten else none
  | _, _ => none
def mulF (ma mb : M D) : M (List D) := M.bind ma fun a => M.bind mb fun b => ofO (repL a b)
theorem fd_mul {a b : Expr} {ma mb : M D} (ok : Cok X C W) (ha : ED X C W ρ a ma) (hb : ED X C W ρ b mb) : FD X C W ρ (.BinOp a .Mult b pos) (mulF ma mb) :=
  ⟨pe_imp (pe_op op_rep ha.pe hb.pe) fun σ H Q h => stepEF h fun d v H1 g1 x1 w1 e1 r1 o1 => stepEF ⟨g1, w1, e1, o1⟩ fun d2 v2 H2 g2 x2 w2 e2 r2 o2 => by
    obtain ⟨l, ex, o3⟩ := OutF.ofO_some o2
    have r1 := Rep.ext x2 w1.oat _ _ r1
    cases r1 with
    | @lst p xs as hp hl =>
      cases r2 with
      | int k =>
        obtain ⟨⟨h1, h2, h3⟩, ex⟩ := ite_some ex
        subst ex
        have hln := hl.length
        refine ⟨p, k, xs, rfl, rfl, hp.2, by omega, by omega, ?_, fun q nq => OutF.put o3 w2 nq (hl.rep _)⟩
        have a1 : xs.length * k.toNat ≤ 1000 * 1000 := Nat.mul_le_mul (by omega) (by omega)
        exact line_ge (by omega)
      | _ => cases ex
    | _ => cases ex⟩
def oneL : List D → Option (List D)
  | [.lst l] => some l
  | [.tup l] => some l
  | _ => none
def lisF (ms : List (M D)) : M (List D) := M.bind (seqM ms) fun ds => ofO (oneL ds)
theorem fd_list {x : Str} {e : Expr} {es : List Expr} {ms : List (M D)} {p : Pos} (ok : Cok X C W) (hm : X.mg x = none) (hv : bootBuiltins x = some (.type "list")) (ha : LD X C W ρ (e :: es) (seqM ms)) (hg : Gl X x := by rfl) (hn : x ≠ "__name__" := by decide) (hdb : (x == ("__debug__" : Str)) = false := by decide) (he : starEach (e :: es) X.env = (false, eval e X.env) :: starEach es X.env := by rfl) (hpl : (backTo pos (starEach es X.env)).any (·.1) = false := by rfl) :
    FD X C W ρ (.Call (.Name x p) (e :: es) [] pos) (lisF ms) :=
  ⟨pe_imp (pe_callTy call_list_of hg hm hv ha.pa hn hdb he hpl) fun σ H Q h => stepLF h fun ds vs H1 g1 x1 w1 e1 r1 o1 => by
    obtain ⟨l, ex, o3⟩ := OutF.ofO_some o1
    cases r1 with
    | nil => cases ex
    | cons ra rt =>
      cases rt with
      | cons _ _ => cases ra <;> cases ex
      | nil =>
        cases ra with
        | @lst p xs l hp hl =>
          cases ex
          exact ⟨p, xs, rfl, .inl (hp.sqX ok.k), fun l' hl' => OutF.put o3 w1 hl' hl⟩
        | @tup p xs l hp hl =>
          cases ex
          exact ⟨p, xs, rfl, .inr (hp.sqX ok.k), fun l' hl' => OutF.put o3 w1 hl' hl⟩
        | _ => cases ex⟩
/-! ### list(range(..)), tuple(range(..)) -/
def rgF (o : List D → Option (List D)) (ms : List (M D)) : M (List D) := M.bind (seqM ms) fun ds => M.bind (ofO (o ds)) fun l => if l.length ≤ 1000000 then M.pure l else bad
theorem rep_rg {H : Hp} (lo : Int) : ∀ (l : List Nat), RepL C H (l.map fun (i : Nat) => V.int (lo + i)) (l.map fun (i : Nat) => D.int (lo + i))
  | [] => .nil
  | i :: l => .cons (.int _) (rep_rg lo l)
theorem rep_rgV {H : Hp} (a b : Int) : RepL C H (rgV a b) (rangeD a (b - a).toNat) := rep_rg a _
def rngT (o : List D → Option (List D)) (ms : List (M D)) : M D := M.bind (rgF o ms) fun l => M.pure (.tup l)
theorem seq1 {ma : M D} : seqM [ma] = M.bind ma fun d => M.pure [d] := rfl
theorem rgL {l : List D} {g : G} {H : Hp} {Q : VK} {Y : Nat → Hp → Prop} (h : OutF C H ((if l.length ≤ 1000000 then M.pure l else bad : M (List D)) g) Q Y) : l.length ≤ 1000000 ∧ OutF C H (.ok l g) Q Y := by
  by_cases hz : l.length ≤ 1000000
  · rw [if_pos hz] at h
    exact ⟨hz, h⟩
  · rw [if_neg hz] at h
    exact h.elim
theorem fd_rng1 {a : Expr} {ma : M D} {p p2 pos2 : Pos} (ok : Cok X C W) (ha : ED X C W ρ a ma) (hm : X.mg "list" = none) (hm2 : X.mg "range" = none) (hg : Gl X "list" := by rfl) (hg2 : Gl X "range" := by rfl) (na : starEach [a] X.env = (false, eval a X.env) :: starEach [] X.env := by rfl)
    (na2 : starEach [.Call (.Name "range" p2) [a] [] pos2] X.env = (false, eval (.Call (.Name "range" p2) [a] [] pos2) X.env) :: starEach [] X.env := by rfl) : FD X C W ρ (.Call (.Name "list" p) [.Call (.Name "range" p2) [a] [] pos2] [] pos) (rgF rng1 [ma]) :=
  ⟨pe_imp (pe_listRg ok.calm hg hm (prg_1 hg2 hm2 ha.pe na) na2) fun σ H Q h => by
    unfold rgF at h
    rw [seq1] at h
    rw [M.bind_assoc] at h
    refine stepEF h fun d v H1 g1 x1 w1 e1 r1 o1 => ?_
    have o1 : OutF C H1 (M.bind (ofO (rng1 [d])) (fun l => if l.length ≤ 1000000 then M.pure l else bad) g1) Q _ := o1
    cases r1 with
    | int n =>
      cases hq : rng1 [.int n] with
      | none => rw [hq] at o1; exact o1.elim
      | some l =>
        rw [hq] at o1
        obtain ⟨⟨h1, h2⟩, ex⟩ := ite_some hq
        subst ex
        obtain ⟨hz, o2⟩ := rgL (show OutF C H1 ((if (rangeD 0 n.toNat).length ≤ 1000000 then M.pure (rangeD 0 n.toNat) else bad : M (List D)) g1) Q _ from o1)
        have hl : (rangeD 0 n.toNat).length = n.toNat := by unfold rangeD; rw [List.length_map, List.length_range]
        rw [hl] at hz
        refine ⟨n, rfl, ⟨by omega, by omega, by omega, by omega, by omega⟩, fun q nq => ?_⟩
        have rr := rep_rgV (C := C) (H := H1) 0 n
        rw [Int.sub_zero] at rr
        exact OutF.put o2 w1 nq rr
    | _ => exact o1.elim⟩
end
end Tc

set_option Elab.async false
set_option linter.all false
set_option maxRecDepth 100000
set_option maxHeartbeats 4000000
namespace Tc
open PySem PySem.Spec PyProof.Rows L2

/-! ### what a mirror ensures -/
def Ens {α : Type} (m : M α) (g : G) (Q : α → G → Prop) : Prop := match m g with
  | .ok a g1 => Q a g1
  | _ => False
theorem Ens.ok {α : Type} {m : M α} {g : G} {Q : α → G → Prop} (h : Ens m g Q) : ∃ a g1, m g = .ok a g1 ∧ Q a g1 := by
  unfold Ens at h
  cases hm : m g with
  | ok a g1 => rw [hm] at h; exact ⟨a, g1, rfl, h⟩
  | exc c g1 => rw [hm] at h; exact h.elim
  | bad => rw [hm] at h; exact h.elim
theorem Ens.of {α : Type} {m : M α} {g g1 : G} {a : α} {Q : α → G → Prop} (e : m g = .ok a g1) (h : Q a g1) : Ens m g Q := by
  unfold Ens
  rw [e]
  exact h
theorem Ens.mono {α : Type} {m : M α} {g : G} {Q Q' : α → G → Prop} (h : Ens m g Q) (i : ∀ a g, Q a g → Q' a g) : Ens m g Q' := by
  obtain ⟨a, g1, e, q⟩ := h.ok
  exact .of e (i a g1 q)
theorem Ens.pure {α : Type} {a : α} {g : G} {Q : α → G → Prop} (h : Q a g) : Ens (M.pure a) g Q := .of rfl h
theorem Ens.bind {α β : Type} {m : M α} {k : α → M β} {g : G} {Q : β → G → Prop} (h : Ens m g fun a g1 => Ens (k a) g1 Q) : Ens (M.bind m k) g Q := by
  obtain ⟨a, g1, e, q⟩ := h.ok
  obtain ⟨b, g2, e2, q2⟩ := q.ok
  refine .of (a := b) (g1 := g2) ?_ q2
  unfold M.bind
  rw [e]
  exact e2
theorem Ens.ofO {α : Type} {o : Option α} {a : α} {g : G} {Q : α → G → Prop} (e : o = some a) (h : Q a g) : Ens (ofO o) g Q := by
  rw [e]
  exact .of rfl h
theorem Ens.ite {α : Type} {c : M Bool} {a b : M α} {g : G} {Q : α → G → Prop} (h : Ens c g fun k g1 => Ens (if k = true then a else b) g1 Q) : Ens (iteM c a b) g Q := Ens.bind h
theorem Ens.bin {ma mb : M D} {F : D → D → Option D} {g : G} {Q : D → G → Prop} (h : Ens ma g fun a g1 => Ens mb g1 fun b g2 => ∃ d, F a b = some d ∧ Q d g2) : Ens (bin ma mb F) g Q :=
  Ens.bind (h.mono fun a g1 h => Ens.bind (h.mono fun b g2 ⟨d, e, q⟩ => .ofO e q))
theorem Ens.binB {ma mb : M D} {F : D → D → Option Bool} {g : G} {Q : Bool → G → Prop} (h : Ens ma g fun a g1 => Ens mb g1 fun b g2 => ∃ d, F a b = some d ∧ Q d g2) : Ens (binB ma mb F) g Q :=
  Ens.bind (h.mono fun a g1 h => Ens.bind (h.mono fun b g2 ⟨d, e, q⟩ => .ofO e q))
theorem Ens.nil {g : G} {Q : List D → G → Prop} (h : Q [] g) : Ens (seqM []) g Q := .of rfl h
theorem Ens.cons {m : M D} {ms : List (M D)} {g : G} {Q : List D → G → Prop} (h : Ens m g fun d g1 => Ens (seqM ms) g1 fun ds g2 => Q (d :: ds) g2) : Ens (seqM (m :: ms)) g Q :=
  Ens.bind (h.mono fun d g1 h => Ens.bind (h.mono fun ds g2 q => .pure q))
theorem Ens.call {ms : List (M D)} {f : List D → M D} {g : G} {Q : D → G → Prop} (h : Ens (seqM ms) g fun ds g1 => Ens (f ds) g1 Q) : Ens (callM ms f) g Q := Ens.bind h
theorem Ens.app {ms : List (M D)} {F : List D → Option D} {g : G} {Q : D → G → Prop} (h : Ens (seqM ms) g fun ds g1 => ∃ d, F ds = some d ∧ Q d g1) : Ens (appM ms F) g Q := Ens.bind (h.mono fun ds g1 ⟨d, e, q⟩ => .ofO e q)
theorem Ens.tup {ms : List (M D)} {g : G} {Q : D → G → Prop} (h : Ens (seqM ms) g fun ds g1 => ds.length ≤ 1000 ∧ Q (.tup ds) g1) : Ens (tupM ms) g Q :=
  Ens.bind (h.mono fun ds g1 ⟨hl, q⟩ => by rw [if_pos hl]; exact .pure q)
theorem Ens.lst {ms : List (M D)} {g : G} {Q : D → G → Prop} (h : Ens (seqM ms) g fun ds g1 => ds.length ≤ 1000 ∧ Q (.lst ds) g1) : Ens (lstM ms) g Q :=
  Ens.bind (h.mono fun ds g1 ⟨hl, q⟩ => by rw [if_pos hl]; exact .pure q)
theorem Ens.toD {m : M Bool} {g : G} {Q : D → G → Prop} (h : Ens m g fun b g1 => Q (.bl b) g1) : Ens (toD m) g Q := Ens.bind (h.mono fun b g1 q => .pure q)
theorem Ens.and {m n : M Bool} {g : G} {Q : Bool → G → Prop} (h : Ens m g fun b g1 => if b = true then Ens n g1 Q else Q false g1) : Ens (Tc.andM m n) g Q :=
  Ens.bind (h.mono fun b g1 q => by
    cases b with
    | true => exact q
    | false => exact .pure q)
/-- over the items one by one -/
theorem Ens.forL {S T : Type} {dec : D → Option T} {mb : S → T → (S → M D) → (S → M D) → M D} {k : S → M D} {Q : D → G → Prop} {I : S → G → Prop} (hk : ∀ s g, I s g → Ens (k s) g Q) :
    ∀ (xs : List D) (s : S) (g : G), I s g → (∀ x ∈ xs, ∀ s g K1, I s g → (∀ s g, I s g → Ens (K1 s) g Q) → ∃ y, dec x = some y ∧ Ens (mb s y K1 k) g Q) → Ens (forL dec mb k xs s) g Q
  | [], s, g, h, _ => hk s g h
  | x :: xs, s, g, h, hs => by
    obtain ⟨y, e, q⟩ := hs x List.mem_cons_self s g (Tc.forL dec mb k xs) h fun s g h => Ens.forL hk xs s g h fun x hx => hs x (List.mem_cons_of_mem _ hx)
    exact Ens.bind (.ofO e q)
theorem Ens.forM {S T : Type} {mi : M (List D)} {dec : D → Option T} {mb : S → T → (S → M D) → (S → M D) → M D} {k : S → M D} {s : S} {g : G} {Q : D → G → Prop} (h : Ens mi g fun xs g1 => Ens (Tc.forL dec mb k xs s) g1 Q) : Ens (forM mi dec mb k s) g Q := Ens.bind h
theorem Ens.join {S : Type} {K : S → M D} {f : (S → M D) → M D} {g : G} {Q : D → G → Prop} (h : Ens (f K) g Q) : Ens (joinM K f) g Q := h
theorem Ens.noX {α : Type} {m : M α} {g : G} {Q : α → G → Prop} (h : Ens m g Q) : Ens (noX m) g Q := by
  obtain ⟨a, g1, e, q⟩ := h.ok
  refine .of (a := a) (g1 := g1) ?_ q
  unfold Tc.noX
  rw [e]
/-- a comprehension: what holds of each item -/
theorem Ens.loopC {S : Type} {dec : D → Option S} {mt : S → M Bool} {me : S → M D} {I : G → Prop} {P : D → Prop} :
    ∀ (xs : List D) (g : G), I g → (∀ x ∈ xs, ∀ g, I g → ∃ y, dec x = some y ∧ Ens (mt y) g fun b g1 => I g1 ∧ (b = true → Ens (me y) g1 fun d g2 => I g2 ∧ P d)) → Ens (loopC dec mt me xs) g fun ds g1 => I g1 ∧ (∀ d ∈ ds, P d) ∧ ds.length ≤ xs.length
  | [], g, h, _ => .of rfl ⟨h, (fun _ z => absurd z List.not_mem_nil), Nat.le_refl _⟩
  | x :: xs, g, h, hs => by
    obtain ⟨y, e, q⟩ := hs x List.mem_cons_self g h
    have ih := fun g h => Ens.loopC (dec := dec) (mt := mt) (me := me) (I := I) (P := P) xs g h fun x hx => hs x (List.mem_cons_of_mem _ hx)
    refine Ens.bind (.ofO e (Ens.bind (q.noX.mono fun b g1 ⟨h1, q1⟩ => ?_)))
    cases b with
    | false => exact (ih g1 h1).mono fun ds g2 ⟨a, b, c⟩ => ⟨a, b, by rw [List.length_cons]; omega⟩
    | true =>
      refine Ens.bind ((q1 rfl).noX.mono fun d g2 ⟨h2, p⟩ => Ens.bind ((ih g2 h2).mono fun ds g3 ⟨a, b, c⟩ => .pure ⟨a, fun z hz => ?_, ?_⟩))
      · rcases List.mem_cons.mp hz with r | r
        · subst r; exact p
        · exact b z r
      · rw [List.length_cons, List.length_cons]; omega
/-- .. and of one that is plain: its list -/
theorem loopC_map {S : Type} {dec : D → Option S} {me : S → M D} {g : G} {f : D → D} : ∀ (xs : List D), (∀ x ∈ xs, ∃ y, dec x = some y ∧ me y g = .ok (f x) g) → loopC dec (fun _ => M.pure true) me xs g = .ok (xs.map f) g
  | [], _ => rfl
  | x :: xs, hs => by
    obtain ⟨y, e, q⟩ := hs x List.mem_cons_self
    have ih := loopC_map (dec := dec) (me := me) (g := g) (f := f) xs fun x hx => hs x (List.mem_cons_of_mem _ hx)
    show R.bind (ofO (dec x) g) _ = _
    rw [e]
    show R.bind (noX (me y) g) _ = _
    have : noX (me y) g = .ok (f x) g := by unfold noX; rw [q]
    rw [this]
    show R.bind (loopC dec (fun _ => M.pure true) me xs g) _ = _
    rw [ih]
    rfl
theorem bind_ok {α β : Type} {m : M α} {k : α → M β} {g g1 : G} {a : α} (e : m g = .ok a g1) : M.bind m k g = k a g1 := by
  unfold M.bind
  rw [e]
  rfl
theorem compL_map {S : Type} {mi : M (List D)} {dec : D → Option S} {me : S → M D} {g : G} {f : D → D} {xs : List D} (hi : mi g = .ok xs g) (hl : xs.length ≤ 1000000) (h : ∀ x ∈ xs, ∃ y, dec x = some y ∧ me y g = .ok (f x) g) : fdM (compL mi dec (fun _ => M.pure true) me) g = .ok (.lst (xs.map f)) g := by
  unfold fdM
  have e : compL mi dec (fun _ => M.pure true) me g = .ok (xs.map f) g := by
    unfold compL
    rw [bind_ok hi]
    show (if xs.length ≤ 1000000 then loopC dec (fun _ => M.pure true) me xs else bad) g = _
    rw [if_pos hl]
    exact loopC_map xs h
  rw [bind_ok e]
  rfl

/-! ### the state of the drawing -/
def St0 (g : G) : Prop := ∃ (c : Int) (b : Bool), g = [[.int c, .bl b]] ∧ 0 ≤ c ∧ (b = false → c < 2147483647)
theorem log_lt {i : Int} {n : Nat} (hn : n ≠ 0) (h : i.natAbs < 2 ^ n) : i.natAbs.log2 < n := by
  by_cases h0 : i.natAbs = 0
  · rw [h0]
    have : Nat.log2 0 = 0 := by decide
    omega
  · exact (Nat.log2_lt h0).mpr h
theorem mul_small {i j : Int} (h1 : i.natAbs < 2 ^ 64) (h2 : j.natAbs < 2 ^ 64) : D.mul (.int i) (.int j) = some (.int (i * j)) := by
  have a := log_lt (by decide) h1
  have b := log_lt (by decide) h2
  show (if _ then _ else _) = _
  rw [if_pos (by omega)]
theorem mod_pos {i j : Int} (h : 0 < j) : D.mod (.int i) (.int j) = some (.int (i % j)) := by
  show (if _ then _ else _) = _
  rw [if_pos h]
theorem fdiv_pos {i j : Int} (h : 0 < j) (h2 : j < 1000000000000) : D.fdiv (.int i) (.int j) = some (.int (i / j)) := by
  have a := log_lt (i := j) (n := 64) (by decide) (by omega)
  show (if _ then _ else _) = _
  rw [if_pos ⟨h, by omega⟩]
def mTake : List D → M D
  | [v_state_here, v_many] => iteM (tst (idxM (M.pure v_state_here) (M.pure (.int 1)))) (M.bind (bin (idxM (M.pure v_state_here) (M.pure (.int 0))) (M.pure v_many) D.mod) fun v_found_2 => M.bind (bin (idxM (M.pure v_state_here) (M.pure (.int 0))) (M.pure v_many) D.fdiv) fun d3 => M.bind (setH v_state_here 0 d3) fun _ => M.pure v_found_2) (M.bind (bin (bin (bin (idxM (M.pure v_state_here) (M.pure (.int 0))) (M.pure (.int 48271)) D.mul) (M.pure (.int 29)) D.add) (M.pure (.int 2147483647)) D.mod) fun d6 => M.bind (setH v_state_here 0 d6) fun _ => M.bind (bin (bin (bin (bin (idxM (M.pure v_state_here) (M.pure (.int 0))) (idxM (M.pure v_state_here) (M.pure (.int 0))) D.mul) (bin (M.pure (.int 39373)) (idxM (M.pure v_state_here) (M.pure (.int 0))) D.mul) D.add) (M.pure (.int 7)) D.add) (M.pure (.int 2147483629)) D.mod) fun v_stirred_4 => M.bind (bin (bin (bin (M.pure v_stirred_4) (M.pure v_stirred_4) D.mul) (bin (M.pure (.int 16807)) (M.pure v_stirred_4) D.mul) D.add) (M.pure (.int 2147483587)) D.mod) fun v_stirred_5 => bin (bin (M.pure v_stirred_5) (M.pure (.int 8)) D.fdiv) (M.pure v_many) D.mod)
  | _ => bad
theorem idx_h0 {c : Int} {b : Bool} : idxM (M.pure (.hnd 0)) (M.pure (.int 0)) [[.int c, .bl b]] = .ok (.int c) [[.int c, .bl b]] := rfl
theorem idx_h1 {c : Int} {b : Bool} : idxM (M.pure (.hnd 0)) (M.pure (.int 1)) [[.int c, .bl b]] = .ok (.bl b) [[.int c, .bl b]] := rfl
theorem set_h0 {c : Int} {b : Bool} {d : D} : setH (.hnd 0) 0 d [[.int c, .bl b]] = .ok () [[d, .bl b]] := rfl
theorem take_ok {g : G} {n : Int} (h : St0 g) (h1 : 0 < n) (h2 : n < 1000000) : Ens (mTake [.hnd 0, .int n]) g fun d g1 => St0 g1 ∧ ∃ k : Int, d = .int k ∧ 0 ≤ k ∧ k < n := by
  obtain ⟨c, b, rfl, hc, hb⟩ := h
  refine Ens.ite (Ens.bind (.of idx_h1 (.ofO (show D.truth (.bl b) = some b from rfl) ?_)))
  cases b with
  | true =>
    refine Ens.bind (.bin (.of idx_h0 (.pure ⟨_, mod_pos h1, ?_⟩)))
    refine Ens.bind (.bin (.of idx_h0 (.pure ⟨_, fdiv_pos h1 (by omega), ?_⟩)))
    refine Ens.bind (.of set_h0 (.pure ⟨⟨c / n, true, rfl, Int.ediv_nonneg hc (by omega), fun z => by cases z⟩, c % n, rfl, Int.emod_nonneg _ (by omega), Int.emod_lt_of_pos _ h1⟩))
  | false =>
    have hc2 := hb rfl
    have e1 : D.mul (.int c) (.int 48271) = some (.int (c * 48271)) := mul_small (by omega) (by omega)
    refine Ens.bind (.bin (.bin (.bin (.of idx_h0 (.pure ⟨_, e1, .pure ⟨_, rfl, .pure ⟨_, mod_pos (by decide), ?_⟩⟩⟩)))))
    refine Ens.bind (.of set_h0 ?_)
    generalize hx : (c * 48271 + 29) % 2147483647 = x
    have x0 : 0 ≤ x := by rw [← hx]; exact Int.emod_nonneg _ (by decide)
    have x1 : x < 2147483647 := by rw [← hx]; exact Int.emod_lt_of_pos _ (by decide)
    have e2 : D.mul (.int x) (.int x) = some (.int (x * x)) := mul_small (by omega) (by omega)
    have e3 : D.mul (.int 39373) (.int x) = some (.int (39373 * x)) := mul_small (by decide) (by omega)
    refine Ens.bind (.bin (.bin (.bin (.bin (.of idx_h0 (.of idx_h0 ⟨_, e2, .bin (.pure (.of idx_h0 ⟨_, e3, ⟨_, rfl, .pure ⟨_, rfl, .pure ⟨_, mod_pos (by decide), ?_⟩⟩⟩⟩))⟩))))))
    generalize hy : (x * x + 39373 * x + 7) % 2147483629 = y
    have y0 : 0 ≤ y := by rw [← hy]; exact Int.emod_nonneg _ (by decide)
    have y1 : y < 2147483629 := by rw [← hy]; exact Int.emod_lt_of_pos _ (by decide)
    have e4 : D.mul (.int y) (.int y) = some (.int (y * y)) := mul_small (by omega) (by omega)
    have e5 : D.mul (.int 16807) (.int y) = some (.int (16807 * y)) := mul_small (by decide) (by omega)
    refine Ens.bind (.bin (.bin (.bin (.pure (.pure ⟨_, e4, .bin (.pure (.pure ⟨_, e5, ⟨_, rfl, .pure ⟨_, mod_pos (by decide), ?_⟩⟩⟩))⟩)))))
    refine .bin (.bin (.pure (.pure ⟨_, fdiv_pos (by decide) (by decide), .pure ⟨_, mod_pos h1, ⟨x, false, rfl, x0, fun _ => x1⟩, _, rfl, Int.emod_nonneg _ (by omega), Int.emod_lt_of_pos _ h1⟩⟩)))
end Tc

set_option Elab.async false
set_option linter.all false
set_option maxRecDepth 100000
set_option maxHeartbeats 4000000
namespace Tc
open PySem PySem.Spec PyProof.Rows L2

/-! ### whole numbers, rows of them -/
theorem int_lt (a b : Int) : D.lt (.int a) (.int b) = some (decide (a < b)) := by
  simp [D.lt, ordP, D.py, PySem.W.alike, PyData.depth, PySem.W.dataLt_int, notNone]
theorem int_gt (a b : Int) : D.gt (.int a) (.int b) = some (decide (b < a)) := by
  simp [D.gt, ordP, D.py, PySem.W.alike, PyData.depth, PySem.W.dataLt_int, notNone]
theorem int_le (a b : Int) : D.le (.int a) (.int b) = some (decide (a ≤ b)) := by
  simp [D.le, ordP, D.py, PySem.W.alike, PyData.depth, PySem.W.dataLt_int, notNone]
  rw [Bool.eq_iff_iff]; simp
theorem int_ge (a b : Int) : D.ge (.int a) (.int b) = some (decide (b ≤ a)) := by
  simp [D.ge, ordP, D.py, PySem.W.alike, PyData.depth, PySem.W.dataLt_int, notNone]
  rw [Bool.eq_iff_iff]; simp
theorem int_eq (a b : Int) : D.eq (.int a) (.int b) = some (decide (a = b)) := by
  simp [D.eq, D.py, SeqAt.shaped, PyData.canLay0, PyData.depth, PyData.eqv]
  rfl
theorem int_ne (a b : Int) : D.ne (.int a) (.int b) = some (decide (a ≠ b)) := by
  unfold D.ne
  rw [int_eq]
  simp
theorem bl_eq (a b : Bool) : D.eq (.bl a) (.bl b) = some (decide (a = b)) := by
  simp [D.eq, D.py, SeqAt.shaped, PyData.canLay0, PyData.depth, PyData.eqv]
  cases a <;> cases b <;> rfl
theorem bl_ne (a b : Bool) : D.ne (.bl a) (.bl b) = some (decide (a ≠ b)) := by
  unfold D.ne
  rw [bl_eq]
  simp
def ltI : List Int → List Int → Bool
  | [], [] => false
  | [], _ :: _ => true
  | _ :: _, [] => false
  | x :: xs, y :: ys => decide (x < y) || (decide (x = y) && ltI xs ys)
def rowP (l : List Int) : PyData := .tuple (l.map PyData.int)
def rowD (l : List Int) : D := .tup (l.map D.int)
theorem rowsLt : ∀ (xs ys : List Int), PyProof.Rows.lexLt itemOrd (PySem.W.keyToksAll (xs.map PyData.int)) (PySem.W.keyToksAll (ys.map PyData.int)) = ltI xs ys
  | [], [] => by rfl
  | [], y :: ys => by rfl
  | x :: xs, [] => by rfl
  | x :: xs, y :: ys => by
    show PyProof.Rows.lexLt itemOrd (PySem.W.keyToksAll (PyData.int x :: xs.map PyData.int)) (PySem.W.keyToksAll (PyData.int y :: ys.map PyData.int)) = _
    rw [PySem.W.dataLt_cons (by rfl)]
    unfold ltI
    rw [rowsLt xs ys, PySem.W.dataLt_int]
    by_cases h : x = y
    · subst h
      simp [PyData.eqv]
    · simp [PyData.eqv, h]
theorem rowLt (xs ys : List Int) : PySem.W.dataLt (rowP xs) (rowP ys) = ltI xs ys := by
  unfold rowP
  rw [PySem.W.dataLt_tuple]
  exact rowsLt xs ys
theorem pyL_ints : ∀ (l : List Int), D.pyL (l.map D.int) = some (l.map PyData.int)
  | [] => rfl
  | x :: l => by
    show (match (some (PyData.int x) : Option PyData), D.pyL (l.map D.int) with | some p, some ps => some (p :: ps) | _, _ => none) = _
    rw [pyL_ints l]
    rfl
theorem alikeAll_ints : ∀ (xs ys : List Int), PySem.W.alikeAll (xs.map PyData.int) (ys.map PyData.int) = true
  | [], _ => by simp [PySem.W.alikeAll]
  | _ :: _, [] => by simp [PySem.W.alikeAll]
  | x :: xs, y :: ys => by
    show (PySem.W.alike (.int x) (.int y) && PySem.W.alikeAll (xs.map PyData.int) (ys.map PyData.int)) = true
    rw [alikeAll_ints xs ys]
    rfl
theorem ltI_irrefl : ∀ (xs : List Int), ltI xs xs = false
  | [] => rfl
  | x :: xs => by simp [ltI, ltI_irrefl xs]
theorem ltI_trans : ∀ (xs ys zs : List Int), ltI xs ys = true → ltI ys zs = true → ltI xs zs = true
  | [], [], _, h, _ => by cases h
  | [], _ :: _, [], _, h => by cases h
  | [], _ :: _, _ :: _, _, _ => rfl
  | _ :: _, [], _, h, _ => by cases h
  | _ :: _, _ :: _, [], _, h => by cases h
  | x :: xs, y :: ys, z :: zs, h1, h2 => by
    simp only [ltI, Bool.or_eq_true, Bool.and_eq_true, decide_eq_true_eq] at *
    rcases h1 with h1 | ⟨h1, h1'⟩
    · rcases h2 with h2 | ⟨h2, h2'⟩
      · exact .inl (by omega)
      · exact .inl (by omega)
    · rcases h2 with h2 | ⟨h2, h2'⟩
      · exact .inl (by omega)
      · exact .inr ⟨by omega, ltI_trans xs ys zs h1' h2'⟩
theorem ltI_total : ∀ (xs ys : List Int), ltI xs ys = false → ltI ys xs = false → xs = ys
  | [], [], _, _ => rfl
  | [], _ :: _, h, _ => by cases h
  | _ :: _, [], _, h => by cases h
  | x :: xs, y :: ys, h1, h2 => by
    simp only [ltI, Bool.or_eq_false_iff, Bool.and_eq_false_iff, decide_eq_false_iff_not] at h1 h2
    have e : x = y := by omega
    subst e
    rw [ltI_total xs ys (h1.2.resolve_left (fun z => z rfl)) (h2.2.resolve_left (fun z => z rfl))]
def leI (xs ys : List Int) : Bool := !ltI ys xs
theorem leI_trans (xs ys zs : List Int) (h1 : leI xs ys = true) (h2 : leI ys zs = true) : leI xs zs = true := by
  unfold leI at *
  simp only [Bool.not_eq_true'] at *
  cases hz : ltI zs xs with
  | false => rfl
  | true =>
    cases hy : ltI xs ys with
    | true =>
      rw [ltI_trans zs xs ys hz hy] at h2
      cases h2
    | false =>
      have e := ltI_total xs ys hy h1
      subst e
      rw [hz] at h2
      cases h2
theorem leI_total (xs ys : List Int) : leI xs ys = true ∨ leI ys xs = true := by
  unfold leI
  cases h : ltI ys xs with
  | false => exact .inl rfl
  | true =>
    refine .inr ?_
    cases h2 : ltI xs ys with
    | false => rfl
    | true =>
      have := ltI_trans xs ys xs h2 h
      rw [ltI_irrefl] at this
      cases this
theorem leI_antisymm (xs ys : List Int) (h1 : leI xs ys = true) (h2 : leI ys xs = true) : xs = ys := by
  unfold leI at *
  simp only [Bool.not_eq_true'] at *
  exact ltI_total xs ys h2 h1
theorem row_py (l : List Int) : D.py (rowD l) = some (rowP l) := by
  show (D.pyL (l.map D.int)).map PyData.tuple = _
  rw [pyL_ints]
  rfl
theorem row_leD (a b : List Int) : leD (rowD a) (rowD b) = leI a b := by
  unfold leD
  rw [row_py, row_py]
  show (!PySem.W.dataLt (rowP b) (rowP a)) = _
  rw [rowLt]
  rfl
theorem depth_ints : ∀ (l : List Int), PyData.depthAll (l.map PyData.int) ≤ 1
  | [] => by simp [PyData.depthAll]
  | x :: l => by
    have := depth_ints l
    simp [PyData.depthAll, PyData.depth] at *
    omega
theorem row_depth (l : List Int) : (rowP l).depth ≤ 64 := by
  have := depth_ints l
  unfold rowP
  simp only [PyData.depth]
  omega
theorem row_le (a b : List Int) : D.le (rowD a) (rowD b) = some (leI a b) := by
  unfold D.le ordP
  rw [row_py, row_py]
  show (if (PySem.W.alike (rowP a) (rowP b) && decide ((rowP a).depth ≤ 64) && notNone (rowP a)) = true then some (rowP a, rowP b) else none).map _ = _
  have h1 : PySem.W.alike (rowP a) (rowP b) = true := alikeAll_ints a b
  have h2 := row_depth a
  rw [if_pos (by rw [h1, decide_eq_true h2]; rfl)]
  show some (!PySem.W.dataLt (rowP b) (rowP a)) = _
  rw [rowLt]
  rfl
theorem pyL_rows : ∀ (L : List (List Int)), D.pyL (L.map rowD) = some (L.map rowP)
  | [] => rfl
  | r :: L => by
    show (match D.py (rowD r), D.pyL (L.map rowD) with | some p, some ps => some (p :: ps) | _, _ => none) = _
    rw [row_py, pyL_rows L]
    rfl
theorem rows_sortOk {L : List (List Int)} (h : (∀ r ∈ L, r ≠ []) ∨ L.head? = some []) (hl : L.length ≤ 1000000) : sortOk (L.map rowP) = true := by
  unfold sortOk
  simp only [Bool.and_eq_true, Bool.or_eq_true, List.all_eq_true, List.length_map, decide_eq_true_eq]
  refine ⟨⟨⟨fun p hp q hq => ?_, fun p hp => ?_⟩, ?_⟩, hl⟩
  · obtain ⟨a, _, rfl⟩ := List.mem_map.mp hp
    obtain ⟨b, _, rfl⟩ := List.mem_map.mp hq
    exact alikeAll_ints a b
  · obtain ⟨a, _, rfl⟩ := List.mem_map.mp hp
    exact row_depth a
  · rcases h with h | h
    · refine .inl (.inl fun p hp => ?_)
      obtain ⟨a, ha, rfl⟩ := List.mem_map.mp hp
      cases a with
      | nil => exact absurd rfl (h _ ha)
      | cons x a => rfl
    · refine .inr ⟨fun p hp => ?_, ?_⟩
      · obtain ⟨a, ha, rfl⟩ := List.mem_map.mp hp
        rfl
      · cases L with
        | nil => cases h
        | cons r L =>
          have h : some r = some [] := h
          cases h
          rfl
theorem sort_rows {L : List (List Int)} (h : (∀ r ∈ L, r ≠ []) ∨ L.head? = some []) (hl : L.length ≤ 1000000) : sortL (L.map rowD) = some ((L.mergeSort leI).map rowD) := by
  unfold sortL
  rw [pyL_rows]
  show (if sortOk (L.map rowP) = true then some ((L.map rowD).mergeSort leD) else none) = _
  rw [if_pos (rows_sortOk h hl)]
  rw [List.map_mergeSort (s := leD) fun a _ b _ => (row_leD a b).symm]
theorem eqv_ints : ∀ (a b : List Int), PyData.eqvAll (a.map PyData.int) (b.map PyData.int) = decide (a = b)
  | [], [] => rfl
  | [], _ :: _ => rfl
  | _ :: _, [] => rfl
  | x :: a, y :: b => by
    show (PyData.eqv (.int x) (.int y) && PyData.eqvAll (a.map PyData.int) (b.map PyData.int)) = _
    rw [eqv_ints a b]
    rw [Bool.eq_iff_iff]
    simp [PyData.eqv]
theorem eqv_rows : ∀ (L M : List (List Int)), PyData.eqvAll (L.map rowP) (M.map rowP) = decide (L = M)
  | [], [] => rfl
  | [], _ :: _ => rfl
  | _ :: _, [] => rfl
  | x :: a, y :: b => by
    show (PyData.eqvAll (x.map PyData.int) (y.map PyData.int) && PyData.eqvAll (a.map rowP) (b.map rowP)) = _
    rw [eqv_rows a b, eqv_ints x y]
    rw [Bool.eq_iff_iff]
    simp
theorem lay_ints : ∀ (l : List Int), PyData.canLayAll0 (l.map PyData.int) = true
  | [] => rfl
  | x :: l => by
    show (PyData.canLay0 (.int x) && PyData.canLayAll0 (l.map PyData.int)) = true
    rw [lay_ints l]
    rfl
theorem lay_rows : ∀ (l : List (List Int)), PyData.canLayAll0 (l.map rowP) = true
  | [] => rfl
  | x :: l => by
    show (PyData.canLayAll0 (x.map PyData.int) && PyData.canLayAll0 (l.map rowP)) = true
    rw [lay_rows l, lay_ints x]
    rfl
theorem depth_rows : ∀ (l : List (List Int)), PyData.depthAll (l.map rowP) ≤ 3
  | [] => by simp [PyData.depthAll]
  | x :: l => by
    have := depth_rows l
    have h2 := depth_ints x
    simp only [List.map_cons, PyData.depthAll, rowP, PyData.depth] at *
    omega
theorem rows_eq (L M : List (List Int)) : D.eq (.lst (L.map rowD)) (.lst (M.map rowD)) = some (decide (L = M)) := by
  unfold D.eq
  have hp : ∀ L : List (List Int), D.py (.lst (L.map rowD)) = some (.list (L.map rowP)) := fun L => by
    show (D.pyL (L.map rowD)).map PyData.list = _
    rw [pyL_rows]
    rfl
  have hs : ∀ L : List (List Int), SeqAt.shaped (.list (L.map rowP)) = true := fun L => by
    unfold SeqAt.shaped
    have h1 := lay_rows L
    have h2 := depth_rows L
    rw [show PyData.canLay0 (.list (L.map rowP)) = true from h1, decide_eq_true (show (PyData.list (L.map rowP)).depth ≤ 64 by simp only [PyData.depth]; omega)]
    rfl
  rw [hp, hp]
  show (if SeqAt.shaped (.list (L.map rowP)) && SeqAt.shaped (.list (M.map rowP)) then some (PyData.eqv (.list (L.map rowP)) (.list (M.map rowP))) else none) = _
  rw [hs, hs, if_pos (show (true && true) = true from rfl), show PyData.eqv (.list (L.map rowP)) (.list (M.map rowP)) = PyData.eqvAll (L.map rowP) (M.map rowP) from rfl, eqv_rows]
/-! ### rising -/
def risI : List (List Int) → Bool
  | a :: b :: r => leI a b && risI (b :: r)
  | _ => true
theorem ris_pair : ∀ (L : List (List Int)), risI L = true ↔ L.Pairwise fun a b => leI a b = true
  | [] => by simp [risI]
  | [a] => by simp [risI]
  | a :: b :: r => by
    have ih := ris_pair (b :: r)
    constructor
    · intro h
      simp only [risI, Bool.and_eq_true] at h
      have q := ih.mp h.2
      refine List.pairwise_cons.mpr ⟨fun c hc => ?_, q⟩
      rcases List.mem_cons.mp hc with z | z
      · subst z; exact h.1
      · exact leI_trans _ _ _ h.1 ((List.pairwise_cons.mp q).1 c z)
    · intro h
      have q := List.pairwise_cons.mp h
      simp only [risI, Bool.and_eq_true]
      exact ⟨q.1 b List.mem_cons_self, ih.mpr q.2⟩
theorem sort_id {L : List (List Int)} : L = L.mergeSort leI ↔ risI L = true := by
  rw [ris_pair]
  constructor
  · intro h
    rw [h]
    exact List.pairwise_mergeSort leI_trans (fun a b => by simpa using leI_total a b) L
  · intro h
    exact (List.mergeSort_of_pairwise h).symm
theorem sort_ris (L : List (List Int)) : risI (L.mergeSort leI) = true := (ris_pair _).mpr (List.pairwise_mergeSort leI_trans (fun a b => by simpa using leI_total a b) L)
theorem zip_ris : ∀ (L : List (List Int)), (List.zipWith leI L (L.drop 1)).all id = risI L
  | [] => rfl
  | [a] => rfl
  | a :: b :: r => by
    have ih := zip_ris (b :: r)
    show (leI a b && (List.zipWith leI (b :: r) ((b :: r).drop 1)).all id) = (leI a b && risI (b :: r))
    rw [ih]
/-! ### plain evaluation -/
section
variable {a b c : D} {x y : Bool} {F : D → D → Option D} {B : D → D → Option Bool} {A : List D → Option D} {f : List D → M D}
theorem call_p1 : callM [M.pure a] f = f [a] := rfl
theorem call_p2 : callM [M.pure a, M.pure b] f = f [a, b] := rfl
theorem call_p3 : callM [M.pure a, M.pure b, M.pure c] f = f [a, b, c] := rfl
theorem app_p1 : appM [M.pure a] A = ofO (A [a]) := rfl
theorem app_p2 : appM [M.pure a, M.pure b] A = ofO (A [a, b]) := rfl
theorem bin_p : bin (M.pure a) (M.pure b) F = ofO (F a b) := rfl
theorem binB_p : binB (M.pure a) (M.pure b) B = ofO (B a b) := rfl
theorem idx_p : idxM (M.pure a) (M.pure b) = D.atM a b := rfl
theorem tst_p : tst (M.pure a) = ofO a.truth := rfl
theorem not_p : Tc.notM (M.pure x) = M.pure (!x) := rfl
theorem or_t {n : M Bool} : Tc.orM (M.pure true) n = M.pure true := rfl
theorem or_f {n : M Bool} : Tc.orM (M.pure false) n = n := rfl
theorem and_t {n : M Bool} : Tc.andM (M.pure true) n = n := rfl
theorem and_f {n : M Bool} : Tc.andM (M.pure false) n = M.pure false := rfl
theorem ite_t {α : Type} {m n : M α} : iteM (M.pure true) m n = m := rfl
theorem ite_f {α : Type} {m n : M α} : iteM (M.pure false) m n = n := rfl
theorem toD_p : toD (M.pure x) = M.pure (.bl x) := rfl
theorem andV_t {n : M D} : andV (M.pure (.bl true)) n = n := rfl
theorem andV_f {n : M D} : andV (M.pure (.bl false)) n = M.pure (.bl false) := rfl
theorem notV_p : notV (M.pure (.bl x)) = M.pure (.bl (!x)) := rfl
theorem items_p : itemsM (M.pure a) = ofO a.items := rfl
end
theorem lc_pure {S : Type} {mi : M (List D)} {dec : D → Option S} {me : S → M D} {f : D → D} {xs : List D} (hi : mi = M.pure xs) (hl : xs.length ≤ 1000000) (h : ∀ x ∈ xs, ∃ y, dec x = some y ∧ me y = M.pure (f x)) : fdM (compL mi dec (fun _ => M.pure true) me) = M.pure (.lst (xs.map f)) := by
  funext g
  exact compL_map (by rw [hi]; rfl) hl fun x hx => by
    obtain ⟨y, e, q⟩ := h x hx
    exact ⟨y, e, by rw [q]; rfl⟩
theorem all_bl (p : D → Bool) : ∀ (l : List D), bAll [.lst (l.map fun x => .bl (p x))] = some (.bl (l.all p)) := fun l => by
  have : ∀ l : List D, blList (l.map fun x => .bl (p x)) = some (l.map p) := fun l => by
    induction l with
    | nil => rfl
    | cons x l ih =>
      show (blList (l.map fun x => .bl (p x))).map (p x :: ·) = _
      rw [ih]
      rfl
  show (blList (l.map fun x => .bl (p x))).map _ = _
  rw [this]
  show some (D.bl ((l.map p).all id)) = _
  rw [List.all_map]
  rfl
mutual
def D.pl : D → Bool
  | .lst l => D.plL l
  | .tup l => D.plL l
  | .scr _ => false
  | .hnd _ => false
  | .lam _ => false
  | .ty _ => false
  | .cls _ => false
  | _ => true
def D.plL : List D → Bool
  | [] => true
  | d :: ds => D.pl d && D.plL ds
end
theorem plL_iff : ∀ {l : List D}, D.plL l = true ↔ ∀ d ∈ l, d.pl = true
  | [] => by simp [D.plL]
  | d :: l => by simp [D.plL, plL_iff]
end Tc

set_option Elab.async false
set_option linter.all false
set_option maxRecDepth 100000
set_option maxHeartbeats 4000000
namespace Lk01
open PySem PySem.Spec PyProof.Rows L2 Tc
def topS (i : Nat) : Stmt := PySem.Challenge.pw_tiechances_k01_webs_known.main.body.getD i (.Pass ⟨0, 0, 0, 0⟩)
abbrev s__law_cell_at : Stmt := topS 8
theorem sc__law_cell_at : FnScope ["_law_script", "_law_k"] ["_law_script", "_law_k"] (defScope s__law_cell_at) := ⟨rfl, rfl, rfl, by decide +kernel, rfl, by decide +kernel, by decide +kernel⟩
def m__law_cell_at : List D → M D
  | [v_script, v_k] => iteM (binB (M.pure v_k) (appM [M.pure v_script] bLen) D.lt) (idxM (M.pure v_script) (M.pure v_k)) (M.pure (.int 0))
  | _ => bad
abbrev s__law_state : Stmt := topS 9
theorem sc__law_state : FnScope ["_law_script", "_law_k", "_law_cell"] ["_law_script", "_law_k"] (defScope s__law_state) := ⟨rfl, rfl, rfl, by decide +kernel, rfl, by decide +kernel, by decide +kernel⟩
def m__law_state : List D → M D
  | [v_script, v_k] => M.bind (callM [M.pure v_script, M.pure v_k] m__law_cell_at) fun v_cell_1 => iteM (binB (M.pure v_cell_1) (bin (M.pure (.int 10)) (M.pure (.int 18)) D.pow) D.ge) (fdM (lstF [bin (M.pure v_cell_1) (bin (M.pure (.int 10)) (M.pure (.int 18)) D.pow) D.sub, M.pure (.bl true)])) (fdM (lstF [bin (M.pure v_cell_1) (M.pure (.int 2147483647)) D.mod, M.pure (.bl false)]))
  | _ => bad
abbrev s__law_take : Stmt := topS 10
theorem sc__law_take : FnScope ["_law_state_here", "_law_many", "_law_stirred", "_law_found"] ["_law_state_here", "_law_many"] (defScope s__law_take) := ⟨rfl, rfl, rfl, by decide +kernel, rfl, by decide +kernel, by decide +kernel⟩
def m__law_take : List D → M D
  | [v_state_here, v_many] => iteM (tst (idxM (M.pure v_state_here) (M.pure (.int 1)))) (M.bind (bin (idxM (M.pure v_state_here) (M.pure (.int 0))) (M.pure v_many) D.mod) fun v_found_2 => M.bind (bin (idxM (M.pure v_state_here) (M.pure (.int 0))) (M.pure v_many) D.fdiv) fun d3 => M.bind (setH v_state_here 0 d3) fun _ => M.pure v_found_2) (M.bind (bin (bin (bin (idxM (M.pure v_state_here) (M.pure (.int 0))) (M.pure (.int 48271)) D.mul) (M.pure (.int 29)) D.add) (M.pure (.int 2147483647)) D.mod) fun d6 => M.bind (setH v_state_here 0 d6) fun _ => M.bind (bin (bin (bin (bin (idxM (M.pure v_state_here) (M.pure (.int 0))) (idxM (M.pure v_state_here) (M.pure (.int 0))) D.mul) (bin (M.pure (.int 39373)) (idxM (M.pure v_state_here) (M.pure (.int 0))) D.mul) D.add) (M.pure (.int 7)) D.add) (M.pure (.int 2147483629)) D.mod) fun v_stirred_4 => M.bind (bin (bin (bin (M.pure v_stirred_4) (M.pure v_stirred_4) D.mul) (bin (M.pure (.int 16807)) (M.pure v_stirred_4) D.mul) D.add) (M.pure (.int 2147483587)) D.mod) fun v_stirred_5 => bin (bin (M.pure v_stirred_5) (M.pure (.int 8)) D.fdiv) (M.pure v_many) D.mod)
  | _ => bad
abbrev s__law_web : Stmt := topS 11
theorem sc__law_web : FnScope ["_law_state_here", "_law_most", "_law_many", "_law_ties", "_law_turn", "_law_one", "_law_other", "_law_place"] ["_law_state_here", "_law_most"] (defScope s__law_web) := ⟨rfl, rfl, rfl, by decide +kernel, rfl, by decide +kernel, by decide +kernel⟩
def m__law_web : List D → M D
  | [v_state_here, v_most] => M.bind (idxM (lstM [M.pure (.int 6), M.pure (.int 5), M.pure (.int 4), M.pure (.int 3), M.pure (.int 4), M.pure (.int 5), M.pure (.int 2), M.pure (.int 1)]) (callM [M.pure v_state_here, M.pure (.int 8)] m__law_take)) fun v_many_7 => M.bind (lstF []) fun l8 => joinM (S := List D) (fun s9 => forM (S := List D) (T := D) (rng1M [bin (callM [M.pure v_state_here, bin (M.pure v_most) (M.pure (.int 1)) D.add] m__law_take) (appM [toD (binB (M.pure v_many_7) (M.pure (.int 1)) D.gt)] bInt) D.mul]) some (fun s14 y15 K16 K17 => M.bind (callM [M.pure v_state_here, M.pure v_many_7] m__law_take) fun v_one_18 => M.bind (bin (bin (bin (M.pure v_one_18) (M.pure (.int 1)) D.add) (callM [M.pure v_state_here, bin (M.pure v_many_7) (M.pure (.int 1)) D.sub] m__law_take) D.add) (M.pure v_many_7) D.mod) fun v_other_19 => M.bind (tupM [appM [M.pure v_one_18, M.pure v_other_19] bMin, appM [M.pure v_one_18, M.pure v_other_19] bMax]) fun d21 => if s14.length ≤ 1000000 then (fun l20 => K16 l20) (s14 ++ [d21]) else bad) (fun s14 => tupM [M.pure v_many_7, appM [appM [cutM (M.pure (.lst s14)) (M.pure none) (partM (M.pure v_most))] bSorted] bTuple]) s9) fun K10 => iteM (Tc.andM (binB (M.pure v_many_7) (M.pure (.int 1)) D.gt) (binB (callM [M.pure v_state_here, M.pure (.int 5)] m__law_take) (M.pure (.int 0)) D.gt)) (M.bind (compL (rng2M [M.pure (.int 1), M.pure v_many_7]) some (fun y12 => M.pure true) (fun y12 => tupM [callM [M.pure v_state_here, M.pure y12] m__law_take, M.pure y12])) fun l11 => K10 l11) (K10 l8)
  | _ => bad
abbrev s_is_whole : Stmt := topS 3
theorem sc_is_whole : FnScope ["thing"] ["thing"] (defScope s_is_whole) := ⟨rfl, rfl, rfl, by decide +kernel, rfl, by decide +kernel, by decide +kernel⟩
def m_is_whole : List D → M D
  | [v_thing] => andV (appM [M.pure v_thing, M.pure (.ty "int")] bIsi) (notV (appM [M.pure v_thing, M.pure (.ty "bool")] bIsi))
  | _ => bad
abbrev s_is_upto : Stmt := topS 4
theorem sc_is_upto : FnScope ["thing", "low", "high"] ["thing", "low", "high"] (defScope s_is_upto) := ⟨rfl, rfl, rfl, by decide +kernel, rfl, by decide +kernel, by decide +kernel⟩
def m_is_upto : List D → M D
  | [v_thing, v_low, v_high] => andV (callM [M.pure v_thing] m_is_whole) (toD (chain (M.pure v_low) (M.pure v_thing) (M.pure v_high) D.le D.le))
  | _ => bad
abbrev s_is_tie : Stmt := topS 5
theorem sc_is_tie : FnScope ["many", "thing", "one"] ["many", "thing"] (defScope s_is_tie) := ⟨rfl, rfl, rfl, by decide +kernel, rfl, by decide +kernel, by decide +kernel⟩
def m_is_tie : List D → M D
  | [v_many, v_thing] => iteM (Tc.orM (Tc.notM (tst (appM [M.pure v_thing, M.pure (.ty "tuple")] bIsi))) (Tc.orM (binB (appM [M.pure v_thing] bLen) (M.pure (.int 2)) D.ne) (Tc.notM (tst (appM [fdM (compL (itemsM (M.pure v_thing)) some (fun y22 => M.pure true) (fun y22 => callM [M.pure y22, M.pure (.int 0), bin (M.pure v_many) (M.pure (.int 1)) D.sub] m_is_upto))] bAll))))) (M.pure (.bl false)) (toD (binB (idxM (M.pure v_thing) (M.pure (.int 0))) (idxM (M.pure v_thing) (M.pure (.int 1))) D.lt))
  | _ => bad
abbrev s_is_web : Stmt := topS 6
theorem sc_is_web : FnScope ["thing", "tie", "one", "other"] ["thing"] (defScope s_is_web) := ⟨rfl, rfl, rfl, by decide +kernel, rfl, by decide +kernel, by decide +kernel⟩
def m_is_web : List D → M D
  | [v_thing] => iteM (Tc.orM (Tc.notM (tst (appM [M.pure v_thing, M.pure (.ty "tuple")] bIsi))) (Tc.orM (binB (appM [M.pure v_thing] bLen) (M.pure (.int 2)) D.ne) (Tc.notM (tst (callM [idxM (M.pure v_thing) (M.pure (.int 0)), M.pure (.int 1), M.pure (.int 6)] m_is_upto))))) (M.pure (.bl false)) (iteM (Tc.orM (Tc.notM (tst (appM [idxM (M.pure v_thing) (M.pure (.int 1)), M.pure (.ty "tuple")] bIsi))) (binB (appM [idxM (M.pure v_thing) (M.pure (.int 1))] bLen) (M.pure (.int 8)) D.gt)) (M.pure (.bl false)) (iteM (Tc.notM (tst (appM [fdM (compL (itemsM (idxM (M.pure v_thing) (M.pure (.int 1)))) some (fun y24 => M.pure true) (fun y24 => callM [idxM (M.pure v_thing) (M.pure (.int 0)), M.pure y24] m_is_tie))] bAll))) (M.pure (.bl false)) (appM [fdM (compL (zipM [idxM (M.pure v_thing) (M.pure (.int 1)), cutM (idxM (M.pure v_thing) (M.pure (.int 1))) (partM (M.pure (.int 1))) (M.pure none)]) dec2 (fun y26 => M.pure true) (fun y26 => toD (binB (M.pure y26.1) (M.pure y26.2) D.le)))] bAll)))
  | _ => bad
abbrev s__law_bent : Stmt := topS 16
theorem sc__law_bent : FnScope ["_law_state_here", "_law_web_here", "_law_odd", "_law_other", "_law_some", "_law_many", "_law_ties", "_law_at", "_law_to", "_law_a", "_law_b"] ["_law_state_here", "_law_web_here"] (defScope s__law_bent) := ⟨rfl, rfl, rfl, by decide +kernel, rfl, by decide +kernel, by decide +kernel⟩
def m__law_bent : List D → M D
  | [v_state_here, v_web_here] => M.bind (M.pure v_web_here) fun d43 => M.bind (ofO (dec2 d43)) fun p28 => M.bind (seqM [callM [M.pure v_state_here, bin (appM [M.pure p28.2] bLen) (M.pure (.int 1)) D.add] m__law_take, callM [M.pure v_state_here, bin (appM [M.pure p28.2] bLen) (M.pure (.int 1)) D.add] m__law_take]) fun ds => match ds with | [d1, d2] => (fun v_at_29 v_to_30 => M.bind (seqM [callM [M.pure v_state_here, bin (M.pure p28.1) (M.pure (.int 1)) D.add] m__law_take, callM [M.pure v_state_here, bin (M.pure p28.1) (M.pure (.int 1)) D.add] m__law_take]) fun ds => match ds with | [d1, d2] => (fun v_a_31 v_b_32 => M.bind (lstM [tupM [M.pure v_a_31, M.pure v_b_32], tupM [M.pure v_b_32, M.pure v_a_31], tupM [M.pure v_a_31, M.pure v_a_31], tupM [negM (M.pure (.int 1)), M.pure v_a_31], tupM [M.pure v_a_31, M.pure (.bl true)], tupM [M.pure v_a_31], tupM [M.pure v_a_31, M.pure v_b_32, M.pure v_b_32], lstM [M.pure v_a_31, M.pure v_b_32], M.pure .non, M.pure (.str "01"), M.pure v_a_31, tupM [M.pure v_a_31, M.pure .non], tupM [tupM [M.pure v_a_31, M.pure v_b_32]]]) fun v_odd_33 => M.bind (idxM (M.pure v_odd_33) (callM [M.pure v_state_here, M.pure (.int 13)] m__law_take)) fun v_odd_34 => M.bind (addF (appM [M.pure p28.2] bList) (lstM [tupM [M.pure (.int 0), M.pure (.int 1)]])) fun l35 => M.bind (flatM (tupM [idxM (M.pure (.lst l35)) (M.pure v_to_30), idxM (M.pure (.lst l35)) (M.pure v_at_29)])) fun dq42 => M.bind (ofO (dec2 dq42)) fun pq42 => M.bind (M.pure v_at_29) fun iq42 => M.bind (ofO (setI l35 iq42 pq42.1)) fun eq42 => M.bind (M.pure v_to_30) fun jq42 => M.bind (ofO (setI eq42 jq42 pq42.2)) fun l37 => M.bind (lstM [tupM [M.pure p28.1, bin (cutM (M.pure p28.2) (M.pure none) (partM (M.pure v_at_29))) (cutM (M.pure p28.2) (partM (bin (M.pure v_at_29) (M.pure (.int 1)) D.add)) (M.pure none)) D.add], tupM [M.pure p28.1, bin (bin (cutM (M.pure p28.2) (M.pure none) (partM (M.pure v_at_29))) (tupM [M.pure v_odd_34]) D.add) (cutM (M.pure p28.2) (partM (M.pure v_at_29)) (M.pure none)) D.add], tupM [bin (M.pure p28.1) (M.pure (.int 1)) D.sub, M.pure p28.2]]) fun v_some_38 => M.bind (bin (M.pure v_some_38) (lstM [tupM [M.pure p28.1, bin (bin (cutM (M.pure p28.2) (M.pure none) (partM (M.pure v_at_29))) (tupM [M.pure v_odd_34]) D.add) (cutM (M.pure p28.2) (partM (bin (M.pure v_at_29) (M.pure (.int 1)) D.add)) (M.pure none)) D.add], tupM [M.pure p28.1, bin (bin (cutM (M.pure p28.2) (M.pure none) (partM (M.pure v_at_29))) (cutM (M.pure p28.2) (partM (M.pure v_at_29)) (partM (bin (M.pure v_at_29) (M.pure (.int 1)) D.add))) D.add) (cutM (M.pure p28.2) (partM (M.pure v_at_29)) (M.pure none)) D.add]]) D.add) fun v_some_39 => M.bind (bin (M.pure v_some_39) (lstM [tupM [M.pure p28.1, revM (M.pure p28.2)], tupM [M.pure p28.1, appM [M.pure p28.2] bList], lstM [M.pure p28.1, M.pure p28.2], tupM [bin (M.pure p28.1) (M.pure (.int 1)) D.add, M.pure p28.2], tupM [M.pure p28.1], tupM [M.pure p28.2, M.pure p28.1]]) D.add) fun v_some_40 => M.bind (bin (M.pure v_some_40) (lstM [tupM [M.pure p28.1, M.pure p28.2, tupM []], tupM [M.pure (.bl true), M.pure p28.2], tupM [appM [M.pure p28.1] bStr, M.pure p28.2], tupM [M.pure (.int 7), M.pure p28.2], tupM [M.pure p28.1, cutM (bin (M.pure p28.2) (M.pure (.int 9)) D.mul) (M.pure none) (partM (M.pure (.int 9)))]]) D.add) fun v_some_41 => idxM (bin (M.pure v_some_41) (lstM [tupM [M.pure p28.1, appM [cutM (M.pure (.lst l37)) (M.pure none) (partM (appM [M.pure p28.2] bLen))] bTuple]]) D.add) (callM [M.pure v_state_here, M.pure (.int 17)] m__law_take)) d1 d2 | _ => bad) d1 d2 | _ => bad
  | _ => bad
abbrev s__law_bad_web : Stmt := topS 13
theorem sc__law_bad_web : FnScope ["_law_state_here", "_law_some"] ["_law_state_here"] (defScope s__law_bad_web) := ⟨rfl, rfl, rfl, by decide +kernel, rfl, by decide +kernel, by decide +kernel⟩
def m__law_bad_web : List D → M D
  | [v_state_here] => M.bind (lstM [M.pure .non, M.pure (.int 0), tupM [], tupM [M.pure (.int 7), tupM []], tupM [M.pure (.int 0), tupM []], tupM [negM (M.pure (.int 1)), tupM []], tupM [M.pure (.bl true), tupM []], tupM [M.pure (.int 2), lstM []], lstM [M.pure (.int 2), tupM []], tupM [M.pure (.int 2), tupM [tupM [M.pure (.int 1), M.pure (.int 0)]]], tupM [M.pure (.int 2), tupM [tupM [M.pure (.int 0), M.pure (.int 0)]]], M.pure (.dic [] [])]) fun v_some_44 => M.bind (bin (M.pure v_some_44) (lstM [tupM [M.pure (.int 2), bin (tupM [tupM [M.pure (.int 0), M.pure (.int 1)]]) (M.pure (.int 9)) D.mul], tupM [M.pure (.int 3), tupM [tupM [M.pure (.int 0), M.pure (.int 2)], tupM [M.pure (.int 0), M.pure (.int 1)]]], tupM [M.pure (.int 2), tupM [tupM [M.pure (.int 0), M.pure (.int 2)]]], tupM [M.pure (.int 2), tupM [tupM [M.pure (.int 0), M.pure (.bl true)]]], tupM [M.pure (.int 2), tupM [tupM [M.pure (.int 0), M.pure (.int 1), M.pure (.int 1)]]]]) D.add) fun v_some_45 => M.bind (bin (M.pure v_some_45) (lstM [tupM [M.pure (.int 2), tupM [M.pure (.int 0), M.pure (.int 1)]], tupM [M.pure (.int 2), M.pure .non], tupM [M.pure (.int 2), tupM [], tupM []], tupM [M.pure (.int 2)], tupM [M.pure (.int 2), tupM [lstM [M.pure (.int 0), M.pure (.int 1)]]], tupM [M.pure (.int 2), tupM [M.pure .non]], tupM [M.pure (.str "2"), tupM []], M.pure (.str "2:")]) D.add) fun v_some_46 => idxM (M.pure v_some_46) (callM [M.pure v_state_here, M.pure (.int 25)] m__law_take)
  | _ => bad
abbrev s__law_same : Stmt := topS 14
theorem sc__law_same : FnScope ["_law_found", "_law_due", "_law_one", "_law_other"] ["_law_found", "_law_due"] (defScope s__law_same) := ⟨rfl, rfl, rfl, by decide +kernel, rfl, by decide +kernel, by decide +kernel⟩
def m__law_same : Nat → List D → M D
  | 0, _ => bad
  | n + 1, [v_found, v_due] => iteM (tst (appM [M.pure v_due, tupM [M.pure (.ty "tuple"), M.pure (.ty "list")]] bIsi)) (iteM (Tc.orM (binB (appM [M.pure v_found, M.pure (.ty "tuple")] bIsi) (appM [M.pure v_due, M.pure (.ty "tuple")] bIsi) D.ne) (binB (appM [M.pure v_found, M.pure (.ty "list")] bIsi) (appM [M.pure v_due, M.pure (.ty "list")] bIsi) D.ne)) (M.pure (.bl false)) (iteM (binB (appM [M.pure v_found] bLen) (appM [M.pure v_due] bLen) D.ne) (M.pure (.bl false)) (appM [fdM (compL (zipM [M.pure v_found, M.pure v_due]) dec2 (fun y47 => M.pure true) (fun y47 => callM [M.pure y47.1, M.pure y47.2] (m__law_same n)))] bAll))) (andV (toD (binB (M.pure v_found) (M.pure v_due) D.eq)) (toD (binB (appM [M.pure v_found, M.pure (.ty "bool")] bIsi) (appM [M.pure v_due, M.pure (.ty "bool")] bIsi) D.eq)))
  | _, _ => bad
abbrev s__law_whole : Stmt := topS 12
theorem sc__law_whole : FnScope ["_law_thing"] ["_law_thing"] (defScope s__law_whole) := ⟨rfl, rfl, rfl, by decide +kernel, rfl, by decide +kernel, by decide +kernel⟩
def m__law_whole : List D → M D
  | [v_thing] => andV (appM [M.pure v_thing, M.pure (.ty "int")] bIsi) (notV (appM [M.pure v_thing, M.pure (.ty "bool")] bIsi))
  | _ => bad
abbrev s__law_is_web : Stmt := topS 15
theorem sc__law_is_web : FnScope ["_law_thing", "_law_tie"] ["_law_thing"] (defScope s__law_is_web) := ⟨rfl, rfl, rfl, by decide +kernel, rfl, by decide +kernel, by decide +kernel⟩
def m__law_is_web : List D → M D
  | [v_thing] => iteM (Tc.orM (Tc.notM (tst (appM [M.pure v_thing, M.pure (.ty "tuple")] bIsi))) (Tc.orM (binB (appM [M.pure v_thing] bLen) (M.pure (.int 2)) D.ne) (Tc.orM (Tc.notM (tst (callM [idxM (M.pure v_thing) (M.pure (.int 0))] m__law_whole))) (Tc.notM (chain (M.pure (.int 1)) (idxM (M.pure v_thing) (M.pure (.int 0))) (M.pure (.int 6)) D.le D.le))))) (M.pure (.bl false)) (iteM (Tc.orM (Tc.notM (tst (appM [idxM (M.pure v_thing) (M.pure (.int 1)), M.pure (.ty "tuple")] bIsi))) (binB (appM [idxM (M.pure v_thing) (M.pure (.int 1))] bLen) (M.pure (.int 8)) D.gt)) (M.pure (.bl false)) (forM (S := Unit) (T := D) (itemsM (idxM (M.pure v_thing) (M.pure (.int 1)))) some (fun s49 y50 K51 K52 => iteM (Tc.orM (Tc.notM (tst (appM [M.pure y50, M.pure (.ty "tuple")] bIsi))) (Tc.orM (binB (appM [M.pure y50] bLen) (M.pure (.int 2)) D.ne) (Tc.orM (Tc.notM (tst (callM [idxM (M.pure y50) (M.pure (.int 0))] m__law_whole))) (Tc.notM (tst (callM [idxM (M.pure y50) (M.pure (.int 1))] m__law_whole)))))) (M.pure (.bl false)) (iteM (Tc.notM (chain3 (M.pure (.int 0)) (idxM (M.pure y50) (M.pure (.int 0))) (idxM (M.pure y50) (M.pure (.int 1))) (idxM (M.pure v_thing) (M.pure (.int 0))) D.le D.lt D.lt)) (M.pure (.bl false)) (K51 ()))) (fun s49 => toD (binB (appM [idxM (M.pure v_thing) (M.pure (.int 1))] bList) (appM [idxM (M.pure v_thing) (M.pure (.int 1))] bSorted) D.eq)) ()))
  | _ => bad
abbrev s_law : Stmt := topS 17
theorem sc_law : FnScope ["_law_script", "_law_k", "_law_state_here", "_law_web_here", "_law_thing", "_law_turn"] ["_law_script"] (defScope s_law) := ⟨rfl, rfl, rfl, by decide +kernel, rfl, by decide +kernel, by decide +kernel⟩
def m_law : List D → M D
  | [v_script] => forM (S := Unit) (T := D) (rng1M [appM [M.pure (.int 1), appM [appM [M.pure v_script] bLen, M.pure (.int 10)] bMin] bMax]) some (fun s53 y54 K55 K56 => newhM (D.noh v_script && (D.noh y54 && true)) (lstOf (callM [M.pure v_script, M.pure y54] m__law_state)) (M.bind (callM [M.pure (.hnd 0), M.pure (.int 8)] m__law_web) fun v_web_here_57 => iteM (binB (callM [M.pure v_web_here_57] m_is_web) (M.pure (.bl true)) D.isnot) (M.pure (.bl false)) (forM (S := Unit) (T := D) (itemsM (bin (fdM (compL (rng1M [M.pure (.int 6)]) some (fun y58 => M.pure true) (fun y58 => callM [M.pure (.hnd 0), M.pure v_web_here_57] m__law_bent))) (lstM [callM [M.pure (.hnd 0)] m__law_bad_web]) D.add)) some (fun s60 y61 K62 K63 => forM (S := Unit) (T := D) (rng1M [M.pure (.int 2)]) some (fun s64 y65 K66 K67 => iteM (Tc.notM (tst (callM [callM [M.pure y61] m_is_web, callM [M.pure y61] m__law_is_web] (m__law_same 8)))) (M.pure (.bl false)) (K66 ())) (fun s64 => K62 ()) ()) (fun s60 => K55 ()) ()))) (fun s53 => andV (toD (binB (callM [tupM [M.pure (.int 6), bin (tupM [tupM [M.pure (.int 0), M.pure (.int 1)]]) (M.pure (.int 8)) D.mul]] m_is_web) (M.pure (.bl true)) D.is)) (toD (binB (callM [tupM [M.pure (.int 1), tupM []]] m_is_web) (M.pure (.bl true)) D.is))) ()
  | _ => bad
structure Gs (K : PySem.W.Frag) (mg : Str → Option Value) where
  f__law_cell_at : Addr
  d__law_cell_at : FuncData
  F__law_cell_at : Fun K "_law_cell_at" "_law_cell_at" s__law_cell_at f__law_cell_at d__law_cell_at
  g__law_cell_at : mg "_law_cell_at" = some (.ref f__law_cell_at)
  f__law_state : Addr
  d__law_state : FuncData
  F__law_state : Fun K "_law_state" "_law_state" s__law_state f__law_state d__law_state
  g__law_state : mg "_law_state" = some (.ref f__law_state)
  f__law_take : Addr
  d__law_take : FuncData
  F__law_take : Fun K "_law_take" "_law_take" s__law_take f__law_take d__law_take
  g__law_take : mg "_law_take" = some (.ref f__law_take)
  f__law_web : Addr
  d__law_web : FuncData
  F__law_web : Fun K "_law_web" "_law_web" s__law_web f__law_web d__law_web
  g__law_web : mg "_law_web" = some (.ref f__law_web)
  f_is_whole : Addr
  d_is_whole : FuncData
  F_is_whole : Fun K "is_whole" "is_whole" s_is_whole f_is_whole d_is_whole
  g_is_whole : mg "is_whole" = some (.ref f_is_whole)
  f_is_upto : Addr
  d_is_upto : FuncData
  F_is_upto : Fun K "is_upto" "is_upto" s_is_upto f_is_upto d_is_upto
  g_is_upto : mg "is_upto" = some (.ref f_is_upto)
  f_is_tie : Addr
  d_is_tie : FuncData
  F_is_tie : Fun K "is_tie" "is_tie" s_is_tie f_is_tie d_is_tie
  g_is_tie : mg "is_tie" = some (.ref f_is_tie)
  f_is_web : Addr
  d_is_web : FuncData
  F_is_web : Fun K "is_web" "is_web" s_is_web f_is_web d_is_web
  g_is_web : mg "is_web" = some (.ref f_is_web)
  f__law_bent : Addr
  d__law_bent : FuncData
  F__law_bent : Fun K "_law_bent" "_law_bent" s__law_bent f__law_bent d__law_bent
  g__law_bent : mg "_law_bent" = some (.ref f__law_bent)
  f__law_bad_web : Addr
  d__law_bad_web : FuncData
  F__law_bad_web : Fun K "_law_bad_web" "_law_bad_web" s__law_bad_web f__law_bad_web d__law_bad_web
  g__law_bad_web : mg "_law_bad_web" = some (.ref f__law_bad_web)
  f__law_same : Addr
  d__law_same : FuncData
  F__law_same : Fun K "_law_same" "_law_same" s__law_same f__law_same d__law_same
  g__law_same : mg "_law_same" = some (.ref f__law_same)
  f__law_whole : Addr
  d__law_whole : FuncData
  F__law_whole : Fun K "_law_whole" "_law_whole" s__law_whole f__law_whole d__law_whole
  g__law_whole : mg "_law_whole" = some (.ref f__law_whole)
  f__law_is_web : Addr
  d__law_is_web : FuncData
  F__law_is_web : Fun K "_law_is_web" "_law_is_web" s__law_is_web f__law_is_web d__law_is_web
  g__law_is_web : mg "_law_is_web" = some (.ref f__law_is_web)
  f_law : Addr
  d_law : FuncData
  F_law : Fun K "law" "law" s_law f_law d_law
  g_law : mg "law" = some (.ref f_law)
  t_MOST_PLACES : Tok
  i_MOST_PLACES : mg "MOST_PLACES" = some (.int 6 t_MOST_PLACES)
  t_MOST_TIES : Tok
  i_MOST_TIES : mg "MOST_TIES" = some (.int 8 t_MOST_TIES)
  z_all : mg "all" = none
  z_bool : mg "bool" = none
  z_int : mg "int" = none
  z_isinstance : mg "isinstance" = none
  z_len : mg "len" = none
  z_list : mg "list" = none
  z_max : mg "max" = none
  z_min : mg "min" = none
  z_range : mg "range" = none
  z_sorted : mg "sorted" = none
  z_str : mg "str" = none
  z_tuple : mg "tuple" = none
  z_zip : mg "zip" = none
theorem Gs.b__law_cell_at {K : PySem.W.Frag} {mg : Str → Option Value} (Z : Gs K mg) : Binds K Z.d__law_cell_at ["_law_script", "_law_k"] [] := Z.F__law_cell_at.binds fun _ _ _ _ _ _ us hl => match us, hl with | [_, _], _ => rfl
theorem Gs.b__law_state {K : PySem.W.Frag} {mg : Str → Option Value} (Z : Gs K mg) : Binds K Z.d__law_state ["_law_script", "_law_k"] [] := Z.F__law_state.binds fun _ _ _ _ _ _ us hl => match us, hl with | [_, _], _ => rfl
theorem Gs.b__law_take {K : PySem.W.Frag} {mg : Str → Option Value} (Z : Gs K mg) : Binds K Z.d__law_take ["_law_state_here", "_law_many"] [] := Z.F__law_take.binds fun _ _ _ _ _ _ us hl => match us, hl with | [_, _], _ => rfl
theorem Gs.b__law_web {K : PySem.W.Frag} {mg : Str → Option Value} (Z : Gs K mg) : Binds K Z.d__law_web ["_law_state_here", "_law_most"] [] := Z.F__law_web.binds fun _ _ _ _ _ _ us hl => match us, hl with | [_, _], _ => rfl
theorem Gs.b_is_whole {K : PySem.W.Frag} {mg : Str → Option Value} (Z : Gs K mg) : Binds K Z.d_is_whole ["thing"] [] := Z.F_is_whole.binds fun _ _ _ _ _ _ us hl => match us, hl with | [_], _ => rfl
theorem Gs.b_is_upto {K : PySem.W.Frag} {mg : Str → Option Value} (Z : Gs K mg) : Binds K Z.d_is_upto ["thing", "low", "high"] [] := Z.F_is_upto.binds fun _ _ _ _ _ _ us hl => match us, hl with | [_, _, _], _ => rfl
theorem Gs.b_is_tie {K : PySem.W.Frag} {mg : Str → Option Value} (Z : Gs K mg) : Binds K Z.d_is_tie ["many", "thing"] [] := Z.F_is_tie.binds fun _ _ _ _ _ _ us hl => match us, hl with | [_, _], _ => rfl
theorem Gs.b_is_web {K : PySem.W.Frag} {mg : Str → Option Value} (Z : Gs K mg) : Binds K Z.d_is_web ["thing"] [] := Z.F_is_web.binds fun _ _ _ _ _ _ us hl => match us, hl with | [_], _ => rfl
theorem Gs.b__law_bent {K : PySem.W.Frag} {mg : Str → Option Value} (Z : Gs K mg) : Binds K Z.d__law_bent ["_law_state_here", "_law_web_here"] [] := Z.F__law_bent.binds fun _ _ _ _ _ _ us hl => match us, hl with | [_, _], _ => rfl
theorem Gs.b__law_bad_web {K : PySem.W.Frag} {mg : Str → Option Value} (Z : Gs K mg) : Binds K Z.d__law_bad_web ["_law_state_here"] [] := Z.F__law_bad_web.binds fun _ _ _ _ _ _ us hl => match us, hl with | [_], _ => rfl
theorem Gs.b__law_same {K : PySem.W.Frag} {mg : Str → Option Value} (Z : Gs K mg) : Binds K Z.d__law_same ["_law_found", "_law_due"] [] := Z.F__law_same.binds fun _ _ _ _ _ _ us hl => match us, hl with | [_, _], _ => rfl
theorem Gs.b__law_whole {K : PySem.W.Frag} {mg : Str → Option Value} (Z : Gs K mg) : Binds K Z.d__law_whole ["_law_thing"] [] := Z.F__law_whole.binds fun _ _ _ _ _ _ us hl => match us, hl with | [_], _ => rfl
theorem Gs.b__law_is_web {K : PySem.W.Frag} {mg : Str → Option Value} (Z : Gs K mg) : Binds K Z.d__law_is_web ["_law_thing"] [] := Z.F__law_is_web.binds fun _ _ _ _ _ _ us hl => match us, hl with | [_], _ => rfl
theorem Gs.b_law {K : PySem.W.Frag} {mg : Str → Option Value} (Z : Gs K mg) : Binds K Z.d_law ["_law_script"] [] := Z.F_law.binds fun _ _ _ _ _ _ us hl => match us, hl with | [_], _ => rfl
section
variable {P : Program} {w : World} {K : PySem.W.Frag} {mg : Str → Option Value} {base : Heap}
theorem ok__law_cell_at (Z : Gs K mg) : FnOk P w K mg base (L2.CX P w) 2 Z.f__law_cell_at Z.d__law_cell_at ["_law_script", "_law_k"] (spM K 2 m__law_cell_at) :=
  fn_ok Z.F__law_cell_at sc__law_cell_at rfl (fun cdv A outer s H E C ds fc hl => by
  obtain ⟨v_script, v_k, rfl⟩ := len2 hl
  exact (sd_ifr (to fun P => (td_cmp opb_lt (fc.ok.plus P) (ed_var 1) (ed_callB cb_len (fc.ok.plus P) Z.z_len rfl (ld_cons (ed_var 0) ld_nil)) (nomark _))) (sd_ret rfl (eo fun P => (ed_ix (fc.ok.plus P) (ed_var 0) (ed_var 1)))) (sd_ret rfl (eo fun P => ed_int))))
theorem ok__law_state (Z : Gs K mg) : FnOk P w K mg base (L2.CX P w) 3 Z.f__law_state Z.d__law_state ["_law_script", "_law_k"] (spF K 2 m__law_state) :=
  fnF_ok Z.F__law_state sc__law_state rfl (fun cdv A outer s H E C ds fc hl => by
  obtain ⟨v_script, v_k, rfl⟩ := len2 hl
  exact (sd_set 2 fc.ok.nd (eo fun P => (ed_call (ok__law_cell_at Z) fc.room Z.g__law_cell_at Z.F__law_cell_at.kp Z.b__law_cell_at (fc.ok.plus P) (ld_cons (ed_var 0) (ld_cons (ed_var 1) ld_nil)))) (fun v_cell_1 => (sd_ifr (to fun P => (td_cmp opb_ge (fc.ok.plus P) (ed_var 2) (ed_bin opd_pow (fc.ok.plus P) ed_int ed_int) (nomark _))) (sd_retF rfl (fo fun P => (fd_lst (ld_cons (ed_bin opd_sub (fc.ok.plus P) (ed_var 2) (ed_bin opd_pow (fc.ok.plus P) ed_int ed_int)) (ld_cons ed_bl ld_nil))))) (sd_retF rfl (fo fun P => (fd_lst (ld_cons (ed_bin opd_mod (fc.ok.plus P) (ed_var 2) ed_int) (ld_cons ed_bl ld_nil)))))))))
theorem ok__law_take (Z : Gs K mg) : FnOk P w K mg base (L2.CX P w) 2 Z.f__law_take Z.d__law_take ["_law_state_here", "_law_many"] (spM K 2 m__law_take) :=
  fn_ok Z.F__law_take sc__law_take rfl (fun cdv A outer s H E C ds fc hl => by
  obtain ⟨v_state_here, v_many, rfl⟩ := len2 hl
  exact (sd_ifr (to fun P => (td_val (fc.ok.plus P) (ed_ix (fc.ok.plus P) (ed_var 0) ed_int))) (sd_set 3 fc.ok.nd (eo fun P => (ed_bin opd_mod (fc.ok.plus P) (ed_ix (fc.ok.plus P) (ed_var 0) ed_int) (ed_var 1))) (fun v_found_2 => (sd_seth 0 (eo fun P => (ed_bin opd_fdiv (fc.ok.plus P) (ed_ix (fc.ok.plus P) (ed_var 0) ed_int) (ed_var 1))) (sd_ret rfl (eo fun P => (ed_var 3)))))) (sd_seth 0 (eo fun P => (ed_bin opd_mod (fc.ok.plus P) (ed_bin opd_add (fc.ok.plus P) (ed_bin opd_mul (fc.ok.plus P) (ed_ix (fc.ok.plus P) (ed_var 0) ed_int) ed_int) ed_int) ed_int)) (sd_set 2 fc.ok.nd (eo fun P => (ed_bin opd_mod (fc.ok.plus P) (ed_bin opd_add (fc.ok.plus P) (ed_bin opd_add (fc.ok.plus P) (ed_bin opd_mul (fc.ok.plus P) (ed_ix (fc.ok.plus P) (ed_var 0) ed_int) (ed_ix (fc.ok.plus P) (ed_var 0) ed_int)) (ed_bin opd_mul (fc.ok.plus P) ed_int (ed_ix (fc.ok.plus P) (ed_var 0) ed_int))) ed_int) ed_int)) (fun v_stirred_4 => (sd_set 2 fc.ok.nd (eo fun P => (ed_bin opd_mod (fc.ok.plus P) (ed_bin opd_add (fc.ok.plus P) (ed_bin opd_mul (fc.ok.plus P) (ed_var 2) (ed_var 2)) (ed_bin opd_mul (fc.ok.plus P) ed_int (ed_var 2))) ed_int)) (fun v_stirred_5 => (sd_ret rfl (eo fun P => (ed_bin opd_mod (fc.ok.plus P) (ed_bin opd_fdiv (fc.ok.plus P) (ed_var 2) ed_int) (ed_var 1)))))))))))
theorem ok__law_web (Z : Gs K mg) : FnOk P w K mg base (L2.CX P w) 3 Z.f__law_web Z.d__law_web ["_law_state_here", "_law_most"] (spM K 2 m__law_web) :=
  fn_ok Z.F__law_web sc__law_web rfl (fun cdv A outer s H E C ds fc hl => by
  obtain ⟨v_state_here, v_most, rfl⟩ := len2 hl
  exact (sd_set 2 fc.ok.nd (eo fun P => (ed_ix (fc.ok.plus P) (ed_lst (ld_cons ed_int (ld_cons ed_int (ld_cons ed_int (ld_cons ed_int (ld_cons ed_int (ld_cons ed_int (ld_cons ed_int (ld_cons ed_int ld_nil))))))))) (ed_call (ok__law_take Z) fc.room Z.g__law_take Z.F__law_take.kp Z.b__law_take (fc.ok.plus P) (ld_cons (ed_var 0) (ld_cons ed_int ld_nil))))) (fun v_many_7 => (sd_own 3 fc.ok.nd (fo fun P => (fd_lst ld_nil)) (fun l8 => (sd_ifj (oE := fun s9 => [(3, s9)]) (rE := fun s9 => [some v_state_here, some v_most, some v_many_7, none, none, none, none, none]) (to fun P => (td_w (wd_and (td_cmp opb_gt (fc.ok.plus P) (ed_var 2) ed_int (nomark _)) (wd_and1 (td_cmp opb_gt (fc.ok.plus P) (ed_call (ok__law_take Z) fc.room Z.g__law_take Z.F__law_take.kp Z.b__law_take (fc.ok.plus P) (ld_cons (ed_var 0) (ld_cons ed_int ld_nil))) ed_int (nomark _)))))) (fun K10 => (sd_frz 0 (i := 3) (ds := l8) rfl (sd_ownLc 3 (own := [("_law_place", 7)]) (emb := (fun y12 => [some v_state_here, some v_most, some v_many_7, some (.lst l8), none, none, none, some y12])) fc.ok (fun P => (id_rng2 (ld_cons ed_int (ld_cons (ed_var 2) ld_nil)) Z.z_range)) (blkOk_by rfl) (fun P sz13 hz13 cz13 lz13 fz13 az13 => (gd_name 7 ((fc.ok.plus P).blk sz13 hz13 _ _ fz13 (fun b => b = az13)).nd)) (fun P sz13 hz13 cz13 lz13 fz13 az13 y12 => ts_nil) (fun P sz13 hz13 cz13 lz13 fz13 az13 y12 => (ed_tup (ld_cons (ed_call (ok__law_take Z) fc.room Z.g__law_take Z.F__law_take.kp Z.b__law_take ((fc.ok.plus P).blk sz13 hz13 _ _ fz13 (fun b => b = az13)) (ld_cons (ed_var 0) (ld_cons (ed_var 7) ld_nil))) (ld_cons (ed_var 7) ld_nil)))) (fun l11 => (sd_nil (at_mk l11 (.same (.same (.same (.skip (.skip (.skip (.skip (.skip .nil)))))))))))))) (fun K10 => (sd_nil (at_mk l8 (.same (.same (.same (.skip (.skip (.skip (.skip (.skip .nil))))))))))) (fun s9 => (sd_le (.same (.same (.same (.skip (.skip (.skip (.skip (.skip .nil)))))))) (sd_for (oE := fun s14 => [(3, s14)]) (rE := fun s14 => [some v_state_here, some v_most, some v_many_7, none, none, none, none, none]) (rB := fun s14 y15 => [some v_state_here, some v_most, some v_many_7, none, some y15, none, none, none]) [4] s9 fc.hp fc.ok.calm (io fun P => (id_rng1 (ld_cons (ed_bin opd_mul (fc.ok.plus P) (ed_call (ok__law_take Z) fc.room Z.g__law_take Z.F__law_take.kp Z.b__law_take (fc.ok.plus P) (ld_cons (ed_var 0) (ld_cons (ed_bin opd_add (fc.ok.plus P) (ed_var 1) ed_int) ld_nil))) (ed_callTy cb_int (fc.ok.plus P) Z.z_int rfl (ld_cons (ed_cmp opb_gt (fc.ok.plus P) (ed_var 2) ed_int (nomark _)) ld_nil))) ld_nil) Z.z_range)) (fun P s14 => (gd_name 4 (fc.ok.plus P).nd)) (fun _ => rfl) (fun s14 y15 K16 K17 => (sd_set 5 fc.ok.nd (eo fun P => (ed_call (ok__law_take Z) fc.room Z.g__law_take Z.F__law_take.kp Z.b__law_take (fc.ok.plus P) (ld_cons (ed_var 0) (ld_cons (ed_var 2) ld_nil)))) (fun v_one_18 => (sd_set 6 fc.ok.nd (eo fun P => (ed_bin opd_mod (fc.ok.plus P) (ed_bin opd_add (fc.ok.plus P) (ed_bin opd_add (fc.ok.plus P) (ed_var 5) ed_int) (ed_call (ok__law_take Z) fc.room Z.g__law_take Z.F__law_take.kp Z.b__law_take (fc.ok.plus P) (ld_cons (ed_var 0) (ld_cons (ed_bin opd_sub (fc.ok.plus P) (ed_var 2) ed_int) ld_nil)))) (ed_var 2))) (fun v_other_19 => (sd_app 0 3 fc.ok.k (eo fun P => (ed_tup (ld_cons (ed_callB cb_min (fc.ok.plus P) Z.z_min rfl (ld_cons (ed_var 5) (ld_cons (ed_var 6) ld_nil))) (ld_cons (ed_callB cb_max (fc.ok.plus P) Z.z_max rfl (ld_cons (ed_var 5) (ld_cons (ed_var 6) ld_nil))) ld_nil)))) (fun l20 => (sd_nil (at_mk l20 (.same (.same (.same (.skip (.skip (.skip (.skip (.skip .nil))))))))))))))))) (fun s14 => (sd_frz 0 (i := 3) (ds := s14) rfl (sd_ret rfl (eo fun P => (ed_tup (ld_cons (ed_var 2) (ld_cons (ed_callTy cb_tuple (fc.ok.plus P) Z.z_tuple rfl (ld_cons (ed_callB cb_sorted (fc.ok.plus P) Z.z_sorted rfl (ld_cons (ed_cut (fc.ok.plus P) (ed_var 3) od_none (od_some (ed_var 1))) ld_nil)) ld_nil)) ld_nil))))))))))))))))
theorem ok_is_whole (Z : Gs K mg) : FnOk P w K mg base (L2.CX P w) 2 Z.f_is_whole Z.d_is_whole ["thing"] (spM K 1 m_is_whole) :=
  fn_ok Z.F_is_whole sc_is_whole rfl (fun cdv A outer s H E C ds fc hl => by
  obtain ⟨v_thing, rfl⟩ := len1 hl
  exact (sd_ret rfl (eo fun P => (ed_and (fc.ok.plus P) (ed_callB cb_isi (fc.ok.plus P) Z.z_isinstance rfl (ld_cons (ed_var 0) (ld_cons (ed_gty Z.z_int rfl) ld_nil))) (ed_one (ed_not (fc.ok.plus P) (ed_callB cb_isi (fc.ok.plus P) Z.z_isinstance rfl (ld_cons (ed_var 0) (ld_cons (ed_gty Z.z_bool rfl) ld_nil)))))))))
theorem ok_is_upto (Z : Gs K mg) : FnOk P w K mg base (L2.CX P w) 3 Z.f_is_upto Z.d_is_upto ["thing", "low", "high"] (spM K 3 m_is_upto) :=
  fn_ok Z.F_is_upto sc_is_upto rfl (fun cdv A outer s H E C ds fc hl => by
  obtain ⟨v_thing, v_low, v_high, rfl⟩ := len3 hl
  exact (sd_ret rfl (eo fun P => (ed_and (fc.ok.plus P) (ed_call (ok_is_whole Z) fc.room Z.g_is_whole Z.F_is_whole.kp Z.b_is_whole (fc.ok.plus P) (ld_cons (ed_var 0) ld_nil)) (ed_one (ed_chain opb_le opb_le (fc.ok.plus P) (ed_var 1) (ed_var 0) (ed_var 2)))))))
theorem ok_is_tie (Z : Gs K mg) : FnOk P w K mg base (L2.CX P w) 4 Z.f_is_tie Z.d_is_tie ["many", "thing"] (spM K 2 m_is_tie) :=
  fn_ok Z.F_is_tie sc_is_tie rfl (fun cdv A outer s H E C ds fc hl => by
  obtain ⟨v_many, v_thing, rfl⟩ := len2 hl
  exact (sd_ifr (to fun P => (td_w (wd_or (td_not (td_val (fc.ok.plus P) (ed_callB cb_isi (fc.ok.plus P) Z.z_isinstance rfl (ld_cons (ed_var 1) (ld_cons (ed_gty Z.z_tuple rfl) ld_nil))))) (wd_or (td_cmp opb_ne (fc.ok.plus P) (ed_callB cb_len (fc.ok.plus P) Z.z_len rfl (ld_cons (ed_var 1) ld_nil)) ed_int (nomark _)) (wd_or1 (td_not (td_val (fc.ok.plus P) (ed_callB cb_all (fc.ok.plus P) Z.z_all rfl (ld_cons (ed_fd (fd_lc (own := [("one", 2)]) (emb := (fun y22 => [some v_many, some v_thing, some y22])) (fc.ok.plus P) (id_any (fc.ok.plus P) (ed_var 1)) (blkOk_by rfl) (fun sz23 hz23 cz23 lz23 fz23 az23 => (gd_name 2 ((fc.ok.plus P).blk sz23 hz23 _ _ fz23 (fun b => b = az23)).nd)) (fun sz23 hz23 cz23 lz23 fz23 az23 y22 => ts_nil) (fun sz23 hz23 cz23 lz23 fz23 az23 y22 => (ed_call (ok_is_upto Z) fc.room Z.g_is_upto Z.F_is_upto.kp Z.b_is_upto ((fc.ok.plus P).blk sz23 hz23 _ _ fz23 (fun b => b = az23)) (ld_cons (ed_var 2) (ld_cons ed_int (ld_cons (ed_bin opd_sub ((fc.ok.plus P).blk sz23 hz23 _ _ fz23 (fun b => b = az23)) (ed_var 0) ed_int) ld_nil))))))) ld_nil))))))))) (sd_ret rfl (eo fun P => ed_bl)) (sd_ret rfl (eo fun P => (ed_cmp opb_lt (fc.ok.plus P) (ed_ix (fc.ok.plus P) (ed_var 1) ed_int) (ed_ix (fc.ok.plus P) (ed_var 1) ed_int) (nomark _))))))
theorem ok_is_web (Z : Gs K mg) : FnOk P w K mg base (L2.CX P w) 5 Z.f_is_web Z.d_is_web ["thing"] (spM K 1 m_is_web) :=
  fn_ok Z.F_is_web sc_is_web rfl (fun cdv A outer s H E C ds fc hl => by
  obtain ⟨v_thing, rfl⟩ := len1 hl
  exact (sd_ifr (to fun P => (td_w (wd_or (td_not (td_val (fc.ok.plus P) (ed_callB cb_isi (fc.ok.plus P) Z.z_isinstance rfl (ld_cons (ed_var 0) (ld_cons (ed_gty Z.z_tuple rfl) ld_nil))))) (wd_or (td_cmp opb_ne (fc.ok.plus P) (ed_callB cb_len (fc.ok.plus P) Z.z_len rfl (ld_cons (ed_var 0) ld_nil)) ed_int (nomark _)) (wd_or1 (td_not (td_val (fc.ok.plus P) (ed_call (ok_is_upto Z) fc.room Z.g_is_upto Z.F_is_upto.kp Z.b_is_upto (fc.ok.plus P) (ld_cons (ed_ix (fc.ok.plus P) (ed_var 0) ed_int) (ld_cons ed_int (ld_cons (ed_gint Z.i_MOST_PLACES) ld_nil))))))))))) (sd_ret rfl (eo fun P => ed_bl)) (sd_ifr (to fun P => (td_w (wd_or (td_not (td_val (fc.ok.plus P) (ed_callB cb_isi (fc.ok.plus P) Z.z_isinstance rfl (ld_cons (ed_ix (fc.ok.plus P) (ed_var 0) ed_int) (ld_cons (ed_gty Z.z_tuple rfl) ld_nil))))) (wd_or1 (td_cmp opb_gt (fc.ok.plus P) (ed_callB cb_len (fc.ok.plus P) Z.z_len rfl (ld_cons (ed_ix (fc.ok.plus P) (ed_var 0) ed_int) ld_nil)) (ed_gint Z.i_MOST_TIES) (nomark _)))))) (sd_ret rfl (eo fun P => ed_bl)) (sd_ifr (to fun P => (td_not (td_val (fc.ok.plus P) (ed_callB cb_all (fc.ok.plus P) Z.z_all rfl (ld_cons (ed_fd (fd_lc (own := [("tie", 1)]) (emb := (fun y24 => [some v_thing, some y24, none, none])) (fc.ok.plus P) (id_any (fc.ok.plus P) (ed_ix (fc.ok.plus P) (ed_var 0) ed_int)) (blkOk_by rfl) (fun sz25 hz25 cz25 lz25 fz25 az25 => (gd_name 1 ((fc.ok.plus P).blk sz25 hz25 _ _ fz25 (fun b => b = az25)).nd)) (fun sz25 hz25 cz25 lz25 fz25 az25 y24 => ts_nil) (fun sz25 hz25 cz25 lz25 fz25 az25 y24 => (ed_call (ok_is_tie Z) fc.room Z.g_is_tie Z.F_is_tie.kp Z.b_is_tie ((fc.ok.plus P).blk sz25 hz25 _ _ fz25 (fun b => b = az25)) (ld_cons (ed_ix ((fc.ok.plus P).blk sz25 hz25 _ _ fz25 (fun b => b = az25)) (ed_var 0) ed_int) (ld_cons (ed_var 1) ld_nil)))))) ld_nil))))) (sd_ret rfl (eo fun P => ed_bl)) (sd_ret rfl (eo fun P => (ed_callB cb_all (fc.ok.plus P) Z.z_all rfl (ld_cons (ed_fd (fd_lc (own := [("one", 2), ("other", 3)]) (emb := (fun y26 => [some v_thing, none, some y26.1, some y26.2])) (fc.ok.plus P) (id_zip (fc.ok.plus P) (ld_cons (ed_ix (fc.ok.plus P) (ed_var 0) ed_int) (ld_cons (ed_cut (fc.ok.plus P) (ed_ix (fc.ok.plus P) (ed_var 0) ed_int) (od_some ed_int) od_none) ld_nil)) Z.z_zip) (blkOk_by rfl) (fun sz27 hz27 cz27 lz27 fz27 az27 => (gd_pair 2 3 ((fc.ok.plus P).blk sz27 hz27 _ _ fz27 (fun b => b = az27)).calm ((fc.ok.plus P).blk sz27 hz27 _ _ fz27 (fun b => b = az27)).nd ((fc.ok.plus P).blk sz27 hz27 _ _ fz27 (fun b => b = az27)).k)) (fun sz27 hz27 cz27 lz27 fz27 az27 y26 => ts_nil) (fun sz27 hz27 cz27 lz27 fz27 az27 y26 => (ed_cmp opb_le ((fc.ok.plus P).blk sz27 hz27 _ _ fz27 (fun b => b = az27)) (ed_var 2) (ed_var 3) (nomark _))))) ld_nil))))))))
theorem ok__law_bent (Z : Gs K mg) : FnOk P w K mg base (L2.CX P w) 3 Z.f__law_bent Z.d__law_bent ["_law_state_here", "_law_web_here"] (spM K 2 m__law_bent) :=
  fn_ok Z.F__law_bent sc__law_bent rfl (fun cdv A outer s H E C ds fc hl => by
  obtain ⟨v_state_here, v_web_here, rfl⟩ := len2 hl
  exact (sd_unp [5, 6] (rB := fun p28 => [some v_state_here, some v_web_here, none, none, none, some p28.1, some p28.2, none, none, none, none]) (eo fun P => (ed_var 1)) (fun P => (gd_pair 5 6 (fc.ok.plus P).calm (fc.ok.plus P).nd (fc.ok.plus P).k)) (fun p28 => (sd_par 7 8 fc.ok.calm fc.ok.nd (lo fun P => (ld_cons (ed_call (ok__law_take Z) fc.room Z.g__law_take Z.F__law_take.kp Z.b__law_take (fc.ok.plus P) (ld_cons (ed_var 0) (ld_cons (ed_bin opd_add (fc.ok.plus P) (ed_callB cb_len (fc.ok.plus P) Z.z_len rfl (ld_cons (ed_var 6) ld_nil)) ed_int) ld_nil))) (ld_cons (ed_call (ok__law_take Z) fc.room Z.g__law_take Z.F__law_take.kp Z.b__law_take (fc.ok.plus P) (ld_cons (ed_var 0) (ld_cons (ed_bin opd_add (fc.ok.plus P) (ed_callB cb_len (fc.ok.plus P) Z.z_len rfl (ld_cons (ed_var 6) ld_nil)) ed_int) ld_nil))) ld_nil))) (fun v_at_29 v_to_30 => (sd_par 9 10 fc.ok.calm fc.ok.nd (lo fun P => (ld_cons (ed_call (ok__law_take Z) fc.room Z.g__law_take Z.F__law_take.kp Z.b__law_take (fc.ok.plus P) (ld_cons (ed_var 0) (ld_cons (ed_bin opd_add (fc.ok.plus P) (ed_var 5) ed_int) ld_nil))) (ld_cons (ed_call (ok__law_take Z) fc.room Z.g__law_take Z.F__law_take.kp Z.b__law_take (fc.ok.plus P) (ld_cons (ed_var 0) (ld_cons (ed_bin opd_add (fc.ok.plus P) (ed_var 5) ed_int) ld_nil))) ld_nil))) (fun v_a_31 v_b_32 => (sd_set 2 fc.ok.nd (eo fun P => (ed_lst (ld_cons (ed_tup (ld_cons (ed_var 9) (ld_cons (ed_var 10) ld_nil))) (ld_cons (ed_tup (ld_cons (ed_var 10) (ld_cons (ed_var 9) ld_nil))) (ld_cons (ed_tup (ld_cons (ed_var 9) (ld_cons (ed_var 9) ld_nil))) (ld_cons (ed_tup (ld_cons (ed_neg ed_int) (ld_cons (ed_var 9) ld_nil))) (ld_cons (ed_tup (ld_cons (ed_var 9) (ld_cons ed_bl ld_nil))) (ld_cons (ed_tup (ld_cons (ed_var 9) ld_nil)) (ld_cons (ed_tup (ld_cons (ed_var 9) (ld_cons (ed_var 10) (ld_cons (ed_var 10) ld_nil)))) (ld_cons (ed_lst (ld_cons (ed_var 9) (ld_cons (ed_var 10) ld_nil))) (ld_cons ed_non (ld_cons ed_str (ld_cons (ed_var 9) (ld_cons (ed_tup (ld_cons (ed_var 9) (ld_cons ed_non ld_nil))) (ld_cons (ed_tup (ld_cons (ed_tup (ld_cons (ed_var 9) (ld_cons (ed_var 10) ld_nil))) ld_nil)) ld_nil))))))))))))))) (fun v_odd_33 => (sd_set 2 fc.ok.nd (eo fun P => (ed_ix (fc.ok.plus P) (ed_var 2) (ed_call (ok__law_take Z) fc.room Z.g__law_take Z.F__law_take.kp Z.b__law_take (fc.ok.plus P) (ld_cons (ed_var 0) (ld_cons ed_int ld_nil))))) (fun v_odd_34 => (sd_own 3 fc.ok.nd (fo fun P => (fd_add (fc.ok.plus P) (ed_callTy cb_list (fc.ok.plus P) Z.z_list rfl (ld_cons (ed_var 6) ld_nil)) (ed_lst (ld_cons (ed_tup (ld_cons ed_int (ld_cons ed_int ld_nil))) ld_nil)))) (fun l35 => (sd_swap 0 3 fc.ok.k fc.ok.calm (eo_own 0 rfl (eo fun P => (ed_tup (ld_cons (ed_ix (fc.ok.plus P) (ed_var 3) (ed_var 8)) (ld_cons (ed_ix (fc.ok.plus P) (ed_var 3) (ed_var 7)) ld_nil))))) (fun l36 => (eo fun P => (ed_var 7))) (fun l36 => (eo fun P => (ed_var 8))) (fun l37 => (sd_frz 0 (i := 3) (ds := l37) rfl (sd_set 4 fc.ok.nd (eo fun P => (ed_lst (ld_cons (ed_tup (ld_cons (ed_var 5) (ld_cons (ed_bin opd_add (fc.ok.plus P) (ed_cut (fc.ok.plus P) (ed_var 6) od_none (od_some (ed_var 7))) (ed_cut (fc.ok.plus P) (ed_var 6) (od_some (ed_bin opd_add (fc.ok.plus P) (ed_var 7) ed_int)) od_none)) ld_nil))) (ld_cons (ed_tup (ld_cons (ed_var 5) (ld_cons (ed_bin opd_add (fc.ok.plus P) (ed_bin opd_add (fc.ok.plus P) (ed_cut (fc.ok.plus P) (ed_var 6) od_none (od_some (ed_var 7))) (ed_tup (ld_cons (ed_var 2) ld_nil))) (ed_cut (fc.ok.plus P) (ed_var 6) (od_some (ed_var 7)) od_none)) ld_nil))) (ld_cons (ed_tup (ld_cons (ed_bin opd_sub (fc.ok.plus P) (ed_var 5) ed_int) (ld_cons (ed_var 6) ld_nil))) ld_nil))))) (fun v_some_38 => (sd_set 4 fc.ok.nd (eo fun P => (ed_bin opd_add (fc.ok.plus P) (ed_var 4) (ed_lst (ld_cons (ed_tup (ld_cons (ed_var 5) (ld_cons (ed_bin opd_add (fc.ok.plus P) (ed_bin opd_add (fc.ok.plus P) (ed_cut (fc.ok.plus P) (ed_var 6) od_none (od_some (ed_var 7))) (ed_tup (ld_cons (ed_var 2) ld_nil))) (ed_cut (fc.ok.plus P) (ed_var 6) (od_some (ed_bin opd_add (fc.ok.plus P) (ed_var 7) ed_int)) od_none)) ld_nil))) (ld_cons (ed_tup (ld_cons (ed_var 5) (ld_cons (ed_bin opd_add (fc.ok.plus P) (ed_bin opd_add (fc.ok.plus P) (ed_cut (fc.ok.plus P) (ed_var 6) od_none (od_some (ed_var 7))) (ed_cut (fc.ok.plus P) (ed_var 6) (od_some (ed_var 7)) (od_some (ed_bin opd_add (fc.ok.plus P) (ed_var 7) ed_int)))) (ed_cut (fc.ok.plus P) (ed_var 6) (od_some (ed_var 7)) od_none)) ld_nil))) ld_nil))))) (fun v_some_39 => (sd_set 4 fc.ok.nd (eo fun P => (ed_bin opd_add (fc.ok.plus P) (ed_var 4) (ed_lst (ld_cons (ed_tup (ld_cons (ed_var 5) (ld_cons (ed_rev (fc.ok.plus P) (ed_var 6)) ld_nil))) (ld_cons (ed_tup (ld_cons (ed_var 5) (ld_cons (ed_callTy cb_list (fc.ok.plus P) Z.z_list rfl (ld_cons (ed_var 6) ld_nil)) ld_nil))) (ld_cons (ed_lst (ld_cons (ed_var 5) (ld_cons (ed_var 6) ld_nil))) (ld_cons (ed_tup (ld_cons (ed_bin opd_add (fc.ok.plus P) (ed_var 5) ed_int) (ld_cons (ed_var 6) ld_nil))) (ld_cons (ed_tup (ld_cons (ed_var 5) ld_nil)) (ld_cons (ed_tup (ld_cons (ed_var 6) (ld_cons (ed_var 5) ld_nil))) ld_nil))))))))) (fun v_some_40 => (sd_set 4 fc.ok.nd (eo fun P => (ed_bin opd_add (fc.ok.plus P) (ed_var 4) (ed_lst (ld_cons (ed_tup (ld_cons (ed_var 5) (ld_cons (ed_var 6) (ld_cons (ed_tup ld_nil) ld_nil)))) (ld_cons (ed_tup (ld_cons ed_bl (ld_cons (ed_var 6) ld_nil))) (ld_cons (ed_tup (ld_cons (ed_callTy cb_str (fc.ok.plus P) Z.z_str rfl (ld_cons (ed_var 5) ld_nil)) (ld_cons (ed_var 6) ld_nil))) (ld_cons (ed_tup (ld_cons ed_int (ld_cons (ed_var 6) ld_nil))) (ld_cons (ed_tup (ld_cons (ed_var 5) (ld_cons (ed_cut (fc.ok.plus P) (ed_bin opd_mul (fc.ok.plus P) (ed_var 6) ed_int) od_none (od_some ed_int)) ld_nil))) ld_nil)))))))) (fun v_some_41 => (sd_ret rfl (eo fun P => (ed_ix (fc.ok.plus P) (ed_bin opd_add (fc.ok.plus P) (ed_var 4) (ed_lst (ld_cons (ed_tup (ld_cons (ed_var 5) (ld_cons (ed_callTy cb_tuple (fc.ok.plus P) Z.z_tuple rfl (ld_cons (ed_cut (fc.ok.plus P) (ed_var 3) od_none (od_some (ed_callB cb_len (fc.ok.plus P) Z.z_len rfl (ld_cons (ed_var 6) ld_nil)))) ld_nil)) ld_nil))) ld_nil))) (ed_call (ok__law_take Z) fc.room Z.g__law_take Z.F__law_take.kp Z.b__law_take (fc.ok.plus P) (ld_cons (ed_var 0) (ld_cons ed_int ld_nil))))))))))))))))))))))))))))))
theorem ok__law_bad_web (Z : Gs K mg) : FnOk P w K mg base (L2.CX P w) 3 Z.f__law_bad_web Z.d__law_bad_web ["_law_state_here"] (spM K 1 m__law_bad_web) :=
  fn_ok Z.F__law_bad_web sc__law_bad_web rfl (fun cdv A outer s H E C ds fc hl => by
  obtain ⟨v_state_here, rfl⟩ := len1 hl
  exact (sd_set 1 fc.ok.nd (eo fun P => (ed_lst (ld_cons ed_non (ld_cons ed_int (ld_cons (ed_tup ld_nil) (ld_cons (ed_tup (ld_cons ed_int (ld_cons (ed_tup ld_nil) ld_nil))) (ld_cons (ed_tup (ld_cons ed_int (ld_cons (ed_tup ld_nil) ld_nil))) (ld_cons (ed_tup (ld_cons (ed_neg ed_int) (ld_cons (ed_tup ld_nil) ld_nil))) (ld_cons (ed_tup (ld_cons ed_bl (ld_cons (ed_tup ld_nil) ld_nil))) (ld_cons (ed_tup (ld_cons ed_int (ld_cons (ed_lst ld_nil) ld_nil))) (ld_cons (ed_lst (ld_cons ed_int (ld_cons (ed_tup ld_nil) ld_nil))) (ld_cons (ed_tup (ld_cons ed_int (ld_cons (ed_tup (ld_cons (ed_tup (ld_cons ed_int (ld_cons ed_int ld_nil))) ld_nil)) ld_nil))) (ld_cons (ed_tup (ld_cons ed_int (ld_cons (ed_tup (ld_cons (ed_tup (ld_cons ed_int (ld_cons ed_int ld_nil))) ld_nil)) ld_nil))) (ld_cons ed_dic0 ld_nil)))))))))))))) (fun v_some_44 => (sd_set 1 fc.ok.nd (eo fun P => (ed_bin opd_add (fc.ok.plus P) (ed_var 1) (ed_lst (ld_cons (ed_tup (ld_cons ed_int (ld_cons (ed_bin opd_mul (fc.ok.plus P) (ed_tup (ld_cons (ed_tup (ld_cons ed_int (ld_cons ed_int ld_nil))) ld_nil)) ed_int) ld_nil))) (ld_cons (ed_tup (ld_cons ed_int (ld_cons (ed_tup (ld_cons (ed_tup (ld_cons ed_int (ld_cons ed_int ld_nil))) (ld_cons (ed_tup (ld_cons ed_int (ld_cons ed_int ld_nil))) ld_nil))) ld_nil))) (ld_cons (ed_tup (ld_cons ed_int (ld_cons (ed_tup (ld_cons (ed_tup (ld_cons ed_int (ld_cons ed_int ld_nil))) ld_nil)) ld_nil))) (ld_cons (ed_tup (ld_cons ed_int (ld_cons (ed_tup (ld_cons (ed_tup (ld_cons ed_int (ld_cons ed_bl ld_nil))) ld_nil)) ld_nil))) (ld_cons (ed_tup (ld_cons ed_int (ld_cons (ed_tup (ld_cons (ed_tup (ld_cons ed_int (ld_cons ed_int (ld_cons ed_int ld_nil)))) ld_nil)) ld_nil))) ld_nil)))))))) (fun v_some_45 => (sd_set 1 fc.ok.nd (eo fun P => (ed_bin opd_add (fc.ok.plus P) (ed_var 1) (ed_lst (ld_cons (ed_tup (ld_cons ed_int (ld_cons (ed_tup (ld_cons ed_int (ld_cons ed_int ld_nil))) ld_nil))) (ld_cons (ed_tup (ld_cons ed_int (ld_cons ed_non ld_nil))) (ld_cons (ed_tup (ld_cons ed_int (ld_cons (ed_tup ld_nil) (ld_cons (ed_tup ld_nil) ld_nil)))) (ld_cons (ed_tup (ld_cons ed_int ld_nil)) (ld_cons (ed_tup (ld_cons ed_int (ld_cons (ed_tup (ld_cons (ed_lst (ld_cons ed_int (ld_cons ed_int ld_nil))) ld_nil)) ld_nil))) (ld_cons (ed_tup (ld_cons ed_int (ld_cons (ed_tup (ld_cons ed_non ld_nil)) ld_nil))) (ld_cons (ed_tup (ld_cons ed_str (ld_cons (ed_tup ld_nil) ld_nil))) (ld_cons ed_str ld_nil))))))))))) (fun v_some_46 => (sd_ret rfl (eo fun P => (ed_ix (fc.ok.plus P) (ed_var 1) (ed_call (ok__law_take Z) fc.room Z.g__law_take Z.F__law_take.kp Z.b__law_take (fc.ok.plus P) (ld_cons (ed_var 0) (ld_cons ed_int ld_nil)))))))))))))
theorem ok__law_same (Z : Gs K mg) : ∀ n : Nat, FnOk P w K mg base (L2.CX P w) (2 + n) Z.f__law_same Z.d__law_same ["_law_found", "_law_due"] (spM K 2 (m__law_same n))
  | 0 => fn_bad Z.F__law_same sc__law_same rfl fun _ => rfl
  | n + 1 => by
    have ih := ok__law_same Z n
    exact fn_ok Z.F__law_same sc__law_same rfl (fun cdv A outer s H E C ds fc hl => by
      obtain ⟨v_found, v_due, rfl⟩ := len2 hl
      exact (sd_ifr (to fun P => (td_val (fc.ok.plus P) (ed_callB cb_isi (fc.ok.plus P) Z.z_isinstance rfl (ld_cons (ed_var 1) (ld_cons (ed_tup (ld_cons (ed_gty Z.z_tuple rfl) (ld_cons (ed_gty Z.z_list rfl) ld_nil))) ld_nil))))) (sd_ifr (to fun P => (td_w (wd_or (td_cmp opb_ne (fc.ok.plus P) (ed_callB cb_isi (fc.ok.plus P) Z.z_isinstance rfl (ld_cons (ed_var 0) (ld_cons (ed_gty Z.z_tuple rfl) ld_nil))) (ed_callB cb_isi (fc.ok.plus P) Z.z_isinstance rfl (ld_cons (ed_var 1) (ld_cons (ed_gty Z.z_tuple rfl) ld_nil))) (nomark _)) (wd_or1 (td_cmp opb_ne (fc.ok.plus P) (ed_callB cb_isi (fc.ok.plus P) Z.z_isinstance rfl (ld_cons (ed_var 0) (ld_cons (ed_gty Z.z_list rfl) ld_nil))) (ed_callB cb_isi (fc.ok.plus P) Z.z_isinstance rfl (ld_cons (ed_var 1) (ld_cons (ed_gty Z.z_list rfl) ld_nil))) (nomark _)))))) (sd_ret rfl (eo fun P => ed_bl)) (sd_ifr (to fun P => (td_cmp opb_ne (fc.ok.plus P) (ed_callB cb_len (fc.ok.plus P) Z.z_len rfl (ld_cons (ed_var 0) ld_nil)) (ed_callB cb_len (fc.ok.plus P) Z.z_len rfl (ld_cons (ed_var 1) ld_nil)) (nomark _))) (sd_ret rfl (eo fun P => ed_bl)) (sd_ret rfl (eo fun P => (ed_callB cb_all (fc.ok.plus P) Z.z_all rfl (ld_cons (ed_fd (fd_lc (own := [("_law_one", 2), ("_law_other", 3)]) (emb := (fun y47 => [some v_found, some v_due, some y47.1, some y47.2])) (fc.ok.plus P) (id_zip (fc.ok.plus P) (ld_cons (ed_var 0) (ld_cons (ed_var 1) ld_nil)) Z.z_zip) (blkOk_by rfl) (fun sz48 hz48 cz48 lz48 fz48 az48 => (gd_pair 2 3 ((fc.ok.plus P).blk sz48 hz48 _ _ fz48 (fun b => b = az48)).calm ((fc.ok.plus P).blk sz48 hz48 _ _ fz48 (fun b => b = az48)).nd ((fc.ok.plus P).blk sz48 hz48 _ _ fz48 (fun b => b = az48)).k)) (fun sz48 hz48 cz48 lz48 fz48 az48 y47 => ts_nil) (fun sz48 hz48 cz48 lz48 fz48 az48 y47 => (ed_call ih fc.room Z.g__law_same Z.F__law_same.kp Z.b__law_same ((fc.ok.plus P).blk sz48 hz48 _ _ fz48 (fun b => b = az48)) (ld_cons (ed_var 2) (ld_cons (ed_var 3) ld_nil)) (Nat.le_refl _))))) ld_nil)))))) (sd_ret rfl (eo fun P => (ed_and (fc.ok.plus P) (ed_cmp opb_eq (fc.ok.plus P) (ed_var 0) (ed_var 1) (nomark _)) (ed_one (ed_cmp opb_eq (fc.ok.plus P) (ed_callB cb_isi (fc.ok.plus P) Z.z_isinstance rfl (ld_cons (ed_var 0) (ld_cons (ed_gty Z.z_bool rfl) ld_nil))) (ed_callB cb_isi (fc.ok.plus P) Z.z_isinstance rfl (ld_cons (ed_var 1) (ld_cons (ed_gty Z.z_bool rfl) ld_nil))) (nomark _))))))))
theorem ok__law_whole (Z : Gs K mg) : FnOk P w K mg base (L2.CX P w) 2 Z.f__law_whole Z.d__law_whole ["_law_thing"] (spM K 1 m__law_whole) :=
  fn_ok Z.F__law_whole sc__law_whole rfl (fun cdv A outer s H E C ds fc hl => by
  obtain ⟨v_thing, rfl⟩ := len1 hl
  exact (sd_ret rfl (eo fun P => (ed_and (fc.ok.plus P) (ed_callB cb_isi (fc.ok.plus P) Z.z_isinstance rfl (ld_cons (ed_var 0) (ld_cons (ed_gty Z.z_int rfl) ld_nil))) (ed_one (ed_not (fc.ok.plus P) (ed_callB cb_isi (fc.ok.plus P) Z.z_isinstance rfl (ld_cons (ed_var 0) (ld_cons (ed_gty Z.z_bool rfl) ld_nil)))))))))
theorem ok__law_is_web (Z : Gs K mg) : FnOk P w K mg base (L2.CX P w) 3 Z.f__law_is_web Z.d__law_is_web ["_law_thing"] (spM K 1 m__law_is_web) :=
  fn_ok Z.F__law_is_web sc__law_is_web rfl (fun cdv A outer s H E C ds fc hl => by
  obtain ⟨v_thing, rfl⟩ := len1 hl
  exact (sd_ifr (to fun P => (td_w (wd_or (td_not (td_val (fc.ok.plus P) (ed_callB cb_isi (fc.ok.plus P) Z.z_isinstance rfl (ld_cons (ed_var 0) (ld_cons (ed_gty Z.z_tuple rfl) ld_nil))))) (wd_or (td_cmp opb_ne (fc.ok.plus P) (ed_callB cb_len (fc.ok.plus P) Z.z_len rfl (ld_cons (ed_var 0) ld_nil)) ed_int (nomark _)) (wd_or (td_not (td_val (fc.ok.plus P) (ed_call (ok__law_whole Z) fc.room Z.g__law_whole Z.F__law_whole.kp Z.b__law_whole (fc.ok.plus P) (ld_cons (ed_ix (fc.ok.plus P) (ed_var 0) ed_int) ld_nil)))) (wd_or1 (td_not (td_chain opb_le opb_le (fc.ok.plus P) ed_int (ed_ix (fc.ok.plus P) (ed_var 0) ed_int) ed_int)))))))) (sd_ret rfl (eo fun P => ed_bl)) (sd_ifr (to fun P => (td_w (wd_or (td_not (td_val (fc.ok.plus P) (ed_callB cb_isi (fc.ok.plus P) Z.z_isinstance rfl (ld_cons (ed_ix (fc.ok.plus P) (ed_var 0) ed_int) (ld_cons (ed_gty Z.z_tuple rfl) ld_nil))))) (wd_or1 (td_cmp opb_gt (fc.ok.plus P) (ed_callB cb_len (fc.ok.plus P) Z.z_len rfl (ld_cons (ed_ix (fc.ok.plus P) (ed_var 0) ed_int) ld_nil)) ed_int (nomark _)))))) (sd_ret rfl (eo fun P => ed_bl)) (sd_le (.same (.skip .nil)) (sd_for (oE := fun s49 => []) (rE := fun s49 => [some v_thing, none]) (rB := fun s49 y50 => [some v_thing, some y50]) [1] () fc.hp fc.ok.calm (io fun P => (id_any (fc.ok.plus P) (ed_ix (fc.ok.plus P) (ed_var 0) ed_int))) (fun P s49 => (gd_name 1 (fc.ok.plus P).nd)) (fun _ => rfl) (fun s49 y50 K51 K52 => (sd_ifr (to fun P => (td_w (wd_or (td_not (td_val (fc.ok.plus P) (ed_callB cb_isi (fc.ok.plus P) Z.z_isinstance rfl (ld_cons (ed_var 1) (ld_cons (ed_gty Z.z_tuple rfl) ld_nil))))) (wd_or (td_cmp opb_ne (fc.ok.plus P) (ed_callB cb_len (fc.ok.plus P) Z.z_len rfl (ld_cons (ed_var 1) ld_nil)) ed_int (nomark _)) (wd_or (td_not (td_val (fc.ok.plus P) (ed_call (ok__law_whole Z) fc.room Z.g__law_whole Z.F__law_whole.kp Z.b__law_whole (fc.ok.plus P) (ld_cons (ed_ix (fc.ok.plus P) (ed_var 1) ed_int) ld_nil)))) (wd_or1 (td_not (td_val (fc.ok.plus P) (ed_call (ok__law_whole Z) fc.room Z.g__law_whole Z.F__law_whole.kp Z.b__law_whole (fc.ok.plus P) (ld_cons (ed_ix (fc.ok.plus P) (ed_var 1) ed_int) ld_nil)))))))))) (sd_ret rfl (eo fun P => ed_bl)) (sd_ifl (to fun P => (td_not (td_chain3 opb_le opb_lt opb_lt (fc.ok.plus P) ed_int (ed_ix (fc.ok.plus P) (ed_var 1) ed_int) (ed_ix (fc.ok.plus P) (ed_var 1) ed_int) (ed_ix (fc.ok.plus P) (ed_var 0) ed_int)))) (sd_ret rfl (eo fun P => ed_bl)) (sd_nil (at_mk () (.same (.skip .nil))))))) (fun s49 => (sd_ret rfl (eo fun P => (ed_cmp opb_eq (fc.ok.plus P) (ed_callTy cb_list (fc.ok.plus P) Z.z_list rfl (ld_cons (ed_ix (fc.ok.plus P) (ed_var 0) ed_int) ld_nil)) (ed_callB cb_sorted (fc.ok.plus P) Z.z_sorted rfl (ld_cons (ed_ix (fc.ok.plus P) (ed_var 0) ed_int) ld_nil)) (nomark _))))))))))
theorem ok_law (Z : Gs K mg) (most : Nat) : FnOk P w K mg base (L2.CX P w) 11 Z.f_law Z.d_law ["_law_script"] (spLaw K most m_law) :=
  fnL_ok Z.F_law sc_law rfl (fun cdv A outer s H E C ds fc hA hl => by
  obtain ⟨v_script, rfl⟩ := len1 hl
  exact (sd_le (.same (.skip (.skip (.skip (.skip (.skip .nil)))))) (sd_for (oE := fun s53 => []) (rE := fun s53 => [some v_script, none, none, none, none, none]) (rB := fun s53 y54 => [some v_script, some y54, none, none, none, none]) [1] () fc.hp fc.ok.calm (io fun P => (id_rng1 (ld_cons (ed_callB cb_max (fc.ok.plus P) Z.z_max rfl (ld_cons ed_int (ld_cons (ed_callB cb_min (fc.ok.plus P) Z.z_min rfl (ld_cons (ed_callB cb_len (fc.ok.plus P) Z.z_len rfl (ld_cons (ed_var 0) ld_nil)) (ld_cons ed_int ld_nil))) ld_nil))) ld_nil) Z.z_range)) (fun P s53 => (gd_name 1 (fc.ok.plus P).nd)) (fun _ => rfl) (fun s53 y54 K55 K56 => (sd_newh 2 (D.noh v_script && (D.noh y54 && true)) fc.ok.nd hA rfl (fo fun P => (fd_call (ok__law_state Z) fc.room Z.g__law_state Z.F__law_state.kp Z.b__law_state (fc.ok.plus P) (ld_cons (ed_var 0) (ld_cons (ed_var 1) ld_nil)))) (fun hc => (.keep (and_l hc) (.keep (and_l (and_r hc)) (.skip (.skip (.skip (.skip .nil))))))) (fun hc a => have fc := fc.hpc a; (sd_set 3 fc.ok.nd (eo fun P => (ed_call (ok__law_web Z) fc.room Z.g__law_web Z.F__law_web.kp Z.b__law_web (fc.ok.plus P) (ld_cons (ed_var 2) (ld_cons ed_int ld_nil)))) (fun v_web_here_57 => (sd_ifr (to fun P => (td_cmp opb_isnot (fc.ok.plus P) (ed_call (ok_is_web Z) fc.room Z.g_is_web Z.F_is_web.kp Z.b_is_web (fc.ok.plus P) (ld_cons (ed_var 3) ld_nil)) ed_bl (nomark _))) (sd_ret rfl (eo fun P => ed_bl)) (sd_le (.same (.same (.same (.same (.skip (.skip .nil)))))) (sd_for (oE := fun s60 => []) (rE := fun s60 => [some v_script, some y54, some (.hnd 0), some v_web_here_57, none, none]) (rB := fun s60 y61 => [some v_script, some y54, some (.hnd 0), some v_web_here_57, some y61, none]) [4] () fc.hp fc.ok.calm (io fun P => (id_any (fc.ok.plus P) (ed_bin opd_add (fc.ok.plus P) (ed_fd (fd_lc (own := [("_law_turn", 5)]) (emb := (fun y68 => [some v_script, some y54, some (.hnd 0), some v_web_here_57, none, some y68])) (fc.ok.plus P) (id_rng1 (ld_cons ed_int ld_nil) Z.z_range) (blkOk_by rfl) (fun sz69 hz69 cz69 lz69 fz69 az69 => (gd_name 5 ((fc.ok.plus P).blk sz69 hz69 _ _ fz69 (fun b => b = az69)).nd)) (fun sz69 hz69 cz69 lz69 fz69 az69 y68 => ts_nil) (fun sz69 hz69 cz69 lz69 fz69 az69 y68 => (ed_call (ok__law_bent Z) fc.room Z.g__law_bent Z.F__law_bent.kp Z.b__law_bent ((fc.ok.plus P).blk sz69 hz69 _ _ fz69 (fun b => b = az69)) (ld_cons (ed_var 2) (ld_cons (ed_var 3) ld_nil)))))) (ed_lst (ld_cons (ed_call (ok__law_bad_web Z) fc.room Z.g__law_bad_web Z.F__law_bad_web.kp Z.b__law_bad_web (fc.ok.plus P) (ld_cons (ed_var 2) ld_nil)) ld_nil))))) (fun P s60 => (gd_name 4 (fc.ok.plus P).nd)) (fun _ => rfl) (fun s60 y61 K62 K63 => (sd_le (.same (.same (.same (.same (.same (.skip .nil)))))) (sd_for (oE := fun s64 => []) (rE := fun s64 => [some v_script, some y54, some (.hnd 0), some v_web_here_57, some y61, none]) (rB := fun s64 y65 => [some v_script, some y54, some (.hnd 0), some v_web_here_57, some y61, some y65]) [5] () fc.hp fc.ok.calm (io fun P => (id_rng1 (ld_cons ed_int ld_nil) Z.z_range)) (fun P s64 => (gd_name 5 (fc.ok.plus P).nd)) (fun _ => rfl) (fun s64 y65 K66 K67 => (sd_ifl (to fun P => (td_not (td_val (fc.ok.plus P) (ed_call (ok__law_same Z 8) fc.room Z.g__law_same Z.F__law_same.kp Z.b__law_same (fc.ok.plus P) (ld_cons (ed_call (ok_is_web Z) fc.room Z.g_is_web Z.F_is_web.kp Z.b_is_web (fc.ok.plus P) (ld_cons (ed_var 4) ld_nil)) (ld_cons (ed_call (ok__law_is_web Z) fc.room Z.g__law_is_web Z.F__law_is_web.kp Z.b__law_is_web (fc.ok.plus P) (ld_cons (ed_var 4) ld_nil)) ld_nil)))))) (sd_ret rfl (eo fun P => ed_bl)) (sd_nil (at_mk () (.same (.same (.same (.same (.same (.skip .nil)))))))))) (fun s64 => (sd_nil (at_mk () (.same (.same (.same (.same (.skip (.skip .nil)))))))))))) (fun s60 => (sd_nil (lift_at (.keep (and_l hc) (.skip (.skip (.skip (.skip (.skip .nil)))))) (.same (.skip (.skip (.skip (.skip (.skip .nil)))))) (at_mk () (Le.refl _))))))))))))) (fun s53 => (sd_ret rfl (eo fun P => (ed_and (fc.ok.plus P) (ed_cmp opb_is (fc.ok.plus P) (ed_call (ok_is_web Z) fc.room Z.g_is_web Z.F_is_web.kp Z.b_is_web (fc.ok.plus P) (ld_cons (ed_tup (ld_cons ed_int (ld_cons (ed_bin opd_mul (fc.ok.plus P) (ed_tup (ld_cons (ed_tup (ld_cons ed_int (ld_cons ed_int ld_nil))) ld_nil)) ed_int) ld_nil))) ld_nil)) ed_bl (nomark _)) (ed_one (ed_cmp opb_is (fc.ok.plus P) (ed_call (ok_is_web Z) fc.room Z.g_is_web Z.F_is_web.kp Z.b_is_web (fc.ok.plus P) (ld_cons (ed_tup (ld_cons ed_int (ld_cons (ed_tup ld_nil) ld_nil))) ld_nil)) ed_bl (nomark _))))))))))
end
end Lk01

set_option Elab.async false
set_option linter.all false
set_option maxRecDepth 100000
set_option maxHeartbeats 4000000
namespace Lk01
open PySem PySem.Spec PyProof.Rows L2 Tc
/-! ### plain: what is a web -/
def isInt : D → Bool
  | .int _ => true
  | _ => false
def upto (d : D) (lo hi : Int) : Bool := match d with
  | .int a => decide (lo ≤ a) && decide (a ≤ hi)
  | _ => false
theorem whole_ev {d : D} (h : d.pl = true) : m_is_whole [d] = M.pure (D.bl (isInt d)) := by
  cases d with
  | scr _ => cases h
  | hnd _ => cases h
  | lam _ => cases h
  | ty _ => cases h
  | cls _ => cases h
  | _ => rfl
theorem whole_ev2 {d : D} (h : d.pl = true) : m__law_whole [d] = M.pure (D.bl (isInt d)) := by
  cases d with
  | scr _ => cases h
  | hnd _ => cases h
  | lam _ => cases h
  | ty _ => cases h
  | cls _ => cases h
  | _ => rfl
theorem chain_int {a b c : Int} : chain (M.pure (.int a)) (M.pure (.int b)) (M.pure (.int c)) D.le D.le = M.pure (decide (a ≤ b) && decide (b ≤ c)) := by
  show M.bind (ofO (D.le (.int a) (.int b))) (fun k => if k = true then ofO (D.le (.int b) (.int c)) else M.pure false) = _
  rw [int_le, int_le]
  cases decide (a ≤ b) <;> rfl
theorem upto_ev {d : D} {lo hi : Int} (h : d.pl = true) : m_is_upto [d, .int lo, .int hi] = M.pure (D.bl (upto d lo hi)) := by
  show andV (callM [M.pure d] m_is_whole) (toD (chain (M.pure (.int lo)) (M.pure d) (M.pure (.int hi)) D.le D.le)) = _
  rw [call_p1, whole_ev h]
  cases d with
  | int a =>
    rw [show isInt (.int a) = true from rfl, andV_t, chain_int]
    rfl
  | _ => rfl
def isTie (n : Int) : D → Bool
  | .tup [a, b] => upto a 0 (n - 1) && upto b 0 (n - 1) && (match a, b with | .int x, .int y => decide (x < y) | _, _ => false)
  | _ => false
theorem isi_tup {d : D} (h : d.pl = true) : bIsi [d, .ty "tuple"] = some (.bl (match d with | .tup _ => true | _ => false)) := by
  cases d with
  | scr _ => cases h
  | hnd _ => cases h
  | lam _ => cases h
  | ty _ => cases h
  | cls _ => cases h
  | _ => rfl
theorem tie_ev {d : D} {n : Int} (h : d.pl = true) : m_is_tie [.int n, d] = M.pure (D.bl (isTie n d)) := by
  rw [m_is_tie, app_p2, isi_tup h]
  cases d with
  | tup l =>
    show iteM (Tc.orM (M.pure false) (Tc.orM (ofO (D.ne (.int (l.length : Nat)) (.int 2))) _)) _ _ = _
    rw [or_f, int_ne]
    by_cases hl : l.length = 2
    · obtain ⟨a, b, rfl⟩ := len2 hl
      have hp := plL_iff.mp (show D.plL [a, b] = true from h)
      have e : fdM (compL (itemsM (M.pure (.tup [a, b]))) some (fun y22 => M.pure true) (fun y22 => callM [M.pure y22, M.pure (.int 0), bin (M.pure (.int n)) (M.pure (.int 1)) D.sub] m_is_upto)) = M.pure (.lst ([a, b].map fun x => .bl (upto x 0 (n - 1)))) := by
        refine lc_pure (xs := [a, b]) rfl (by show 2 ≤ 1000000; decide) fun x hx => ⟨x, rfl, ?_⟩
        exact upto_ev (hp x hx)
      rw [show decide ((([a, b] : List D).length : Int) ≠ 2) = false from rfl, ofO_some, or_f, e, app_p1, all_bl, ofO_some, tst_p]
      show iteM (M.pure (!([a, b].all fun x => upto x 0 (n - 1)))) _ _ = _
      show iteM (M.pure (!(upto a 0 (n - 1) && (upto b 0 (n - 1) && true)))) _ _ = M.pure (D.bl (upto a 0 (n - 1) && upto b 0 (n - 1) && _))
      cases ha : upto a 0 (n - 1) with
      | false => rfl
      | true =>
        cases hb : upto b 0 (n - 1) with
        | false => rfl
        | true =>
          cases a with
          | int x =>
            cases b with
            | int y =>
              show toD (ofO (D.lt (.int x) (.int y))) = _
              rw [int_lt]
              rfl
            | _ => cases hb
          | _ => cases ha
    · have h2 : decide ((l.length : Int) ≠ 2) = true := decide_eq_true (by omega)
      rw [h2]
      show M.pure (D.bl false) = _
      match l, hl with
      | [], _ => rfl
      | [_], _ => rfl
      | [_, _], z => exact absurd rfl z
      | _ :: _ :: _ :: _, _ => rfl
  | _ => rfl
def rowOf : D → List Int
  | .tup [.int a, .int b] => [a, b]
  | _ => []
def isWebD : D → Bool
  | .tup [.int n, .tup l] => upto (.int n) 1 6 && (decide (l.length ≤ 8) && (l.all (isTie n) && risI (l.map rowOf)))
  | _ => false
theorem tie_row {n : Int} {d : D} (h : isTie n d = true) : ∃ a b : Int, d = .tup [.int a, .int b] ∧ rowOf d = [a, b] ∧ rowD [a, b] = d := by
  unfold isTie at h
  split at h
  · rename_i x y
    cases x with
    | int a =>
      cases y with
      | int b => exact ⟨a, b, rfl, rfl, rfl⟩
      | _ => simp at h
    | _ => simp at h
  · cases h
theorem ties_rows {n : Int} {l : List D} (h : l.all (isTie n) = true) : l = (l.map rowOf).map rowD := by
  rw [List.map_map]
  conv => lhs; rw [← List.map_id l]
  refine List.map_congr_left fun d hd => ?_
  obtain ⟨a, b, e1, e2, e3⟩ := tie_row (List.all_eq_true.mp h d hd)
  show d = rowD (rowOf d)
  rw [e2, e3]
theorem cut1 (xs : List D) : cutL xs (some 1) none = xs.drop 1 := by
  unfold cutL
  rw [show HT.sIx xs.length 0 (some 1) = min 1 xs.length from HT.sIx_nat xs.length 0 1, HT.sIx_none]
  cases xs with
  | nil => rfl
  | cons x r =>
    rw [show min 1 (x :: r).length = 1 by
      rw [List.length_cons]
      omega]
    show (List.take ((x :: r).length - 1) r) = r
    rw [List.length_cons, Nat.add_sub_cancel]
    exact List.take_length
def leD2 : D → Bool
  | .tup [x, y] => leI (rowOf x) (rowOf y)
  | _ => false
theorem zip_all : ∀ (l m : List D), (zipD l m).all leD2 = (List.zipWith leI (l.map rowOf) (m.map rowOf)).all id
  | [], _ => rfl
  | _ :: _, [] => rfl
  | x :: l, y :: m => by
    show (leI (rowOf x) (rowOf y) && (zipD l m).all leD2) = (leI (rowOf x) (rowOf y) && (List.zipWith leI (l.map rowOf) (m.map rowOf)).all id)
    rw [zip_all l m]
theorem web_ev {d : D} (h : d.pl = true) : m_is_web [d] = M.pure (D.bl (isWebD d)) := by
  rw [m_is_web, app_p2, isi_tup h]
  cases d with
  | tup l =>
    show iteM (Tc.orM (M.pure false) (Tc.orM (ofO (D.ne (.int (l.length : Nat)) (.int 2))) _)) _ _ = _
    rw [or_f, int_ne]
    by_cases hl : l.length = 2
    · obtain ⟨n, t, rfl⟩ := len2 hl
      have hp := plL_iff.mp (show D.plL [n, t] = true from h)
      have hn := hp n (by simp)
      have ht := hp t (by simp)
      rw [show decide ((([n, t] : List D).length : Int) ≠ 2) = false from rfl, ofO_some, or_f]
      rw [show callM [idxM (M.pure (.tup [n, t])) (M.pure (.int 0)), M.pure (.int 1), M.pure (.int 6)] m_is_upto = m_is_upto [n, .int 1, .int 6] from rfl, upto_ev hn, tst_p]
      show iteM (M.pure (!(upto n 1 6))) _ _ = _
      cases hu : upto n 1 6 with
      | false =>
        cases n with
        | int m =>
          cases t with
          | tup ll =>
            show M.pure (D.bl false) = M.pure (D.bl (upto (.int m) 1 6 && _))
            rw [hu]
            rfl
          | _ => rfl
        | _ => rfl
      | true =>
        cases n with
        | int m =>
          rw [show (!true) = false from rfl, ite_f]
          rw [show appM [idxM (M.pure (.tup [.int m, t])) (M.pure (.int 1)), M.pure (.ty "tuple")] bIsi = ofO (bIsi [t, .ty "tuple"]) from rfl, isi_tup ht]
          cases t with
          | tup l =>
            rw [show appM [idxM (M.pure (.tup [.int m, .tup l])) (M.pure (.int 1))] bLen = M.pure (.int (l.length : Nat)) from rfl]
            show iteM (Tc.orM (M.pure false) (binB (M.pure (.int (l.length : Nat))) (M.pure (.int 8)) D.gt)) _ _ = M.pure (D.bl (upto (.int m) 1 6 && (decide (l.length ≤ 8) && _)))
            rw [or_f, binB_p, int_gt, ofO_some, hu]
            by_cases h8 : l.length ≤ 8
            · rw [decide_eq_false (show ¬ (8 : Int) < (l.length : Nat) by omega), ite_f, decide_eq_true h8]
              have hpl := plL_iff.mp (show D.plL l = true from ht)
              have e : fdM (compL (itemsM (idxM (M.pure (.tup [.int m, .tup l])) (M.pure (.int 1)))) some (fun y24 => M.pure true) (fun y24 => callM [idxM (M.pure (.tup [.int m, .tup l])) (M.pure (.int 0)), M.pure y24] m_is_tie)) = M.pure (.lst (l.map fun x => .bl (isTie m x))) := by
                refine lc_pure (xs := l) rfl (by omega) fun x hx => ⟨x, rfl, ?_⟩
                show m_is_tie [.int m, x] = _
                exact tie_ev (hpl x hx)
              rw [e, app_p1, all_bl, ofO_some, tst_p]
              show iteM (M.pure (!(l.all (isTie m)))) _ _ = M.pure (D.bl (true && (true && (l.all (isTie m) && _))))
              cases ha : l.all (isTie m) with
              | false => rfl
              | true =>
                rw [show (!true) = false from rfl, ite_f]
                have e2 : fdM (compL (zipM [idxM (M.pure (.tup [.int m, .tup l])) (M.pure (.int 1)), cutM (idxM (M.pure (.tup [.int m, .tup l])) (M.pure (.int 1))) (partM (M.pure (.int 1))) (M.pure none)]) dec2 (fun y26 => M.pure true) (fun y26 => toD (binB (M.pure y26.1) (M.pure y26.2) D.le))) = M.pure (.lst ((zipD l (l.drop 1)).map fun x => .bl (leD2 x))) := by
                  refine lc_pure (xs := zipD l (l.drop 1)) ?_ ?_ fun x hx => ?_
                  · rw [← cut1]
                    rfl
                  · unfold zipD
                    rw [List.length_zipWith]
                    omega
                  · unfold zipD at hx
                    obtain ⟨i, hi⟩ := List.mem_iff_getElem?.mp hx
                    obtain ⟨p, q, hp1, hq1, rfl⟩ := Tc.zip_get hi
                    have m1 := List.all_eq_true.mp ha p (List.mem_of_getElem? hp1)
                    have m2 := List.all_eq_true.mp ha q (List.mem_of_mem_drop (List.mem_of_getElem? hq1))
                    obtain ⟨a1, b1, _, r1, z1⟩ := tie_row m1
                    obtain ⟨a2, b2, _, r2, z2⟩ := tie_row m2
                    refine ⟨(p, q), rfl, ?_⟩
                    show toD (ofO (D.le p q)) = M.pure (D.bl (leI (rowOf p) (rowOf q)))
                    rw [r1, r2, ← z1, ← z2, row_le]
                    rfl
                rw [e2, app_p1, all_bl, ofO_some]
                have e3 : (zipD l (l.drop 1)).all leD2 = risI (l.map rowOf) := by
                  rw [← zip_ris]
                  rw [← List.map_drop]
                  exact zip_all l (l.drop 1)
                rw [e3]
                rfl
            · rw [decide_eq_true (show (8 : Int) < (l.length : Nat) by omega), ite_t, decide_eq_false h8]
              rfl
          | _ => rfl
        | _ => cases hu
    · have h2 : decide ((l.length : Int) ≠ 2) = true := decide_eq_true (by omega)
      rw [h2]
      show M.pure (D.bl false) = _
      match l, hl with
      | [], _ => rfl
      | [a], _ => cases a <;> rfl
      | [_, _], z => exact absurd rfl z
      | a :: b :: _ :: _, _ =>
        cases a <;> first
          | rfl
          | (cases b <;> rfl)
  | _ => rfl
/-! ### the law's own reading -/
theorem lit {n : Int} {y : D} : True := trivial
theorem isi_both {d : D} (h : d.pl = true) : (Tc.orM (Tc.notM (tst (callM [M.pure d] m__law_whole))) (M.pure false)) = M.pure (!(isInt d)) := by
  rw [call_p1, whole_ev2 h, tst_p]
  show Tc.orM (M.pure (!(isInt d))) _ = _
  cases isInt d <;> rfl
theorem chain3_int {a b c d : Int} : chain3 (M.pure (.int a)) (M.pure (.int b)) (M.pure (.int c)) (M.pure (.int d)) D.le D.lt D.lt = M.pure (decide (a ≤ b) && (decide (b < c) && decide (c < d))) := by
  show M.bind (ofO (D.le (.int a) (.int b))) (fun k => if k = true then M.bind (ofO (D.lt (.int b) (.int c))) (fun k => if k = true then ofO (D.lt (.int c) (.int d)) else M.pure false) else M.pure false) = _
  rw [int_le, int_lt, int_lt]
  cases decide (a ≤ b) with
  | false => rfl
  | true =>
    show M.bind (M.pure (decide (b < c))) (fun k => if k = true then ofO (some (decide (c < d))) else M.pure false) = M.pure (true && _)
    cases decide (b < c) <;> rfl
theorem tie_turn {m : Int} {t y : D} (hm : upto (.int m) 1 6 = true) (hy : y.pl = true) (K : M D) : iteM (Tc.orM (Tc.notM (tst (appM [M.pure y, M.pure (.ty "tuple")] bIsi))) (Tc.orM (binB (appM [M.pure y] bLen) (M.pure (.int 2)) D.ne) (Tc.orM (Tc.notM (tst (callM [idxM (M.pure y) (M.pure (.int 0))] m__law_whole))) (Tc.notM (tst (callM [idxM (M.pure y) (M.pure (.int 1))] m__law_whole)))))) (M.pure (.bl false)) (iteM (Tc.notM (chain3 (M.pure (.int 0)) (idxM (M.pure y) (M.pure (.int 0))) (idxM (M.pure y) (M.pure (.int 1))) (idxM (M.pure (.tup [.int m, t])) (M.pure (.int 0))) D.le D.lt D.lt)) (M.pure (.bl false)) K)
    = if isTie m y = true then K else M.pure (.bl false) := by
  rw [app_p2, isi_tup hy]
  cases y with
  | tup l =>
    show iteM (Tc.orM (M.pure false) (Tc.orM (ofO (D.ne (.int (l.length : Nat)) (.int 2))) _)) _ _ = _
    rw [or_f, int_ne]
    by_cases hl : l.length = 2
    · obtain ⟨a, b, rfl⟩ := len2 hl
      have hp := plL_iff.mp (show D.plL [a, b] = true from hy)
      have ha := hp a (by simp)
      have hb := hp b (by simp)
      rw [show decide ((([a, b] : List D).length : Int) ≠ 2) = false from rfl, ofO_some, or_f]
      rw [show callM [idxM (M.pure (.tup [a, b])) (M.pure (.int 0))] m__law_whole = m__law_whole [a] from rfl, show callM [idxM (M.pure (.tup [a, b])) (M.pure (.int 1))] m__law_whole = m__law_whole [b] from rfl, whole_ev2 ha, whole_ev2 hb, tst_p, tst_p]
      cases a with
      | int x =>
        cases b with
        | int z =>
          show iteM (Tc.notM (chain3 (M.pure (.int 0)) (M.pure (.int x)) (M.pure (.int z)) (M.pure (.int m)) D.le D.lt D.lt)) _ _ = _
          rw [chain3_int, not_p]
          have e : (decide (0 ≤ x) && (decide (x < z) && decide (z < m))) = isTie m (.tup [.int x, .int z]) := by
            rw [Bool.eq_iff_iff]
            simp only [isTie, upto, Bool.and_eq_true, decide_eq_true_eq]
            omega
          rw [e]
          cases isTie m (.tup [.int x, .int z]) <;> rfl
        | _ => simp [isInt, isTie, upto]; rfl
      | _ => simp [isInt, isTie, upto]; rfl
    · have h2 : decide ((l.length : Int) ≠ 2) = true := decide_eq_true (by omega)
      rw [h2]
      show M.pure (D.bl false) = _
      have : isTie m (.tup l) = false := by
        match l, hl with
        | [], _ => rfl
        | [_], _ => rfl
        | [_, _], z => exact absurd rfl z
        | _ :: _ :: _ :: _, _ => rfl
      rw [this]
      rfl
  | _ => rfl
theorem ties_for {m : Int} {t : D} (hm : upto (.int m) 1 6 = true) (k : Unit → M D) : ∀ (l : List D), (∀ y ∈ l, y.pl = true) → forL (S := Unit) (T := D) some (fun s49 y50 K51 K52 => iteM (Tc.orM (Tc.notM (tst (appM [M.pure y50, M.pure (.ty "tuple")] bIsi))) (Tc.orM (binB (appM [M.pure y50] bLen) (M.pure (.int 2)) D.ne) (Tc.orM (Tc.notM (tst (callM [idxM (M.pure y50) (M.pure (.int 0))] m__law_whole))) (Tc.notM (tst (callM [idxM (M.pure y50) (M.pure (.int 1))] m__law_whole)))))) (M.pure (.bl false)) (iteM (Tc.notM (chain3 (M.pure (.int 0)) (idxM (M.pure y50) (M.pure (.int 0))) (idxM (M.pure y50) (M.pure (.int 1))) (idxM (M.pure (.tup [.int m, t])) (M.pure (.int 0))) D.le D.lt D.lt)) (M.pure (.bl false)) (K51 ()))) k l ()
    = if l.all (isTie m) = true then k () else M.pure (.bl false)
  | [], _ => rfl
  | y :: l, hp => by
    have ih := ties_for (t := t) hm k l fun z hz => hp z (List.mem_cons_of_mem _ hz)
    show iteM _ _ (iteM _ _ (forL _ _ k l ())) = _
    rw [ih, tie_turn hm (hp y List.mem_cons_self)]
    rw [List.all_cons]
    cases isTie m y with
    | false => rfl
    | true =>
      rw [Bool.true_and]
      rfl
theorem web_ev2 {d : D} (h : d.pl = true) : m__law_is_web [d] = M.pure (.bl (isWebD d)) := by
  rw [m__law_is_web, app_p2, isi_tup h]
  cases d with
  | tup l =>
    show iteM (Tc.orM (M.pure false) (Tc.orM (ofO (D.ne (.int (l.length : Nat)) (.int 2))) _)) _ _ = _
    rw [or_f, int_ne]
    by_cases hl : l.length = 2
    · obtain ⟨n, t, rfl⟩ := len2 hl
      have hp := plL_iff.mp (show D.plL [n, t] = true from h)
      have hn := hp n (by simp)
      have ht := hp t (by simp)
      rw [show decide ((([n, t] : List D).length : Int) ≠ 2) = false from rfl, ofO_some, or_f]
      rw [show callM [idxM (M.pure (.tup [n, t])) (M.pure (.int 0))] m__law_whole = m__law_whole [n] from rfl, whole_ev2 hn, tst_p]
      cases n with
      | int m =>
        show iteM (Tc.orM (M.pure false) (Tc.notM (chain (M.pure (.int 1)) (M.pure (.int m)) (M.pure (.int 6)) D.le D.le))) _ _ = _
        rw [or_f, chain_int, not_p]
        show iteM (M.pure (!(upto (.int m) 1 6))) _ _ = _
        cases hu : upto (.int m) 1 6 with
        | false =>
          cases t with
          | tup ll =>
            show M.pure (D.bl false) = M.pure (D.bl (upto (.int m) 1 6 && _))
            rw [hu]
            rfl
          | _ => rfl
        | true =>
          rw [show (!true) = false from rfl, ite_f]
          rw [show appM [idxM (M.pure (.tup [.int m, t])) (M.pure (.int 1)), M.pure (.ty "tuple")] bIsi = ofO (bIsi [t, .ty "tuple"]) from rfl, isi_tup ht]
          cases t with
          | tup l =>
            rw [show appM [idxM (M.pure (.tup [.int m, .tup l])) (M.pure (.int 1))] bLen = M.pure (.int (l.length : Nat)) from rfl]
            show iteM (Tc.orM (M.pure false) (binB (M.pure (.int (l.length : Nat))) (M.pure (.int 8)) D.gt)) _ _ = M.pure (D.bl (upto (.int m) 1 6 && (decide (l.length ≤ 8) && _)))
            rw [or_f, binB_p, int_gt, ofO_some, hu]
            by_cases h8 : l.length ≤ 8
            · rw [decide_eq_false (show ¬ (8 : Int) < (l.length : Nat) by omega), ite_f, decide_eq_true h8]
              have hpl := plL_iff.mp (show D.plL l = true from ht)
              show forL _ _ _ l () = _
              rw [ties_for hu _ l hpl]
              show _ = M.pure (D.bl (true && (true && (l.all (isTie m) && risI (l.map rowOf)))))
              cases ha : l.all (isTie m) with
              | false => rfl
              | true =>
                rw [if_pos rfl]
                have e := ties_rows ha
                have hr : ∀ r ∈ l.map rowOf, r ≠ [] := fun r hr => by
                  obtain ⟨d, hd, rfl⟩ := List.mem_map.mp hr
                  obtain ⟨a, b, _, r1, _⟩ := tie_row (List.all_eq_true.mp ha d hd)
                  rw [r1]
                  simp
                show toD (binB (M.pure (.lst l)) (ofO ((sortL l).map .lst)) D.eq) = _
                generalize hL : l.map rowOf = L at *
                rw [e, sort_rows (.inl hr) (by rw [← hL, List.length_map]; omega)]
                show toD (ofO (D.eq (.lst (L.map rowD)) (.lst ((L.mergeSort leI).map rowD)))) = _
                rw [rows_eq, ofO_some, toD_p]
                have e5 : decide (L = L.mergeSort leI) = risI L := by
                  rw [Bool.eq_iff_iff, decide_eq_true_eq]
                  exact sort_id
                rw [e5]
                rfl
            · rw [decide_eq_true (show (8 : Int) < (l.length : Nat) by omega), ite_t, decide_eq_false h8]
              rfl
          | _ => rfl
      | _ => rfl
    · have h2 : decide ((l.length : Int) ≠ 2) = true := decide_eq_true (by omega)
      rw [h2]
      show M.pure (D.bl false) = _
      match l, hl with
      | [], _ => rfl
      | [a], _ => cases a <;> rfl
      | [_, _], z => exact absurd rfl z
      | a :: b :: _ :: _, _ =>
        cases a <;> first
          | rfl
          | (cases b <;> rfl)
  | _ => rfl
theorem same_bl (a b : Bool) : m__law_same 8 [.bl a, .bl b] = M.pure (.bl (decide (a = b))) := by
  cases a <;> cases b <;> rfl
/-! ### drawing -/
theorem take_eq : m__law_take = mTake := rfl
theorem T {ms : List (M D)} {k : Int} {g : G} (e : seqM ms = M.pure [.hnd 0, .int k]) (h : St0 g) (h1 : 0 < k) (h2 : k < 1000000) : Ens (callM ms m__law_take) g fun d g1 => St0 g1 ∧ ∃ j : Int, d = .int j ∧ 0 ≤ j ∧ j < k := by
  unfold callM
  rw [e, M.pure_bind, take_eq]
  exact take_ok h h1 h2
theorem at_nat {L : List D} {j : Int} (h0 : 0 ≤ j) (h1 : j < (L.length : Nat)) : ∃ d, atI L j = some d ∧ d ∈ L := by
  obtain ⟨n, rfl⟩ := Int.eq_ofNat_of_zero_le h0
  have hn : n < L.length := by omega
  refine ⟨L[n], ?_, List.getElem_mem hn⟩
  unfold atI ixN
  rw [if_pos (by omega), if_pos (by omega)]
  show L[(n : Int).toNat]? = _
  rw [Int.toNat_natCast]
  exact List.getElem?_eq_getElem hn
theorem idx_take {L : List D} {ms : List (M D)} {g : G} {Q : D → Prop} (e : seqM ms = M.pure [.hnd 0, .int (L.length : Nat)]) (h0 : 0 < L.length) (h2 : L.length < 1000000) (h : St0 g) (hp : ∀ d ∈ L, Q d) : Ens (idxM (M.pure (.lst L)) (callM ms m__law_take)) g fun d g1 => St0 g1 ∧ Q d := by
  refine Ens.bind (.pure (Ens.bind ((T e h (by omega) (by omega)).mono fun d g1 ⟨s, j, ej, j0, j1⟩ => ?_)))
  subst ej
  obtain ⟨x, ex, hx⟩ := at_nat j0 j1
  exact .ofO ex ⟨s, hp x hx⟩
theorem mem_cut {l : List D} {lo hi : Option Int} {d : D} (h : d ∈ cutL l lo hi) : d ∈ l := List.mem_of_mem_drop (List.mem_of_mem_take h)
theorem len_cut (l : List D) (lo hi : Option Int) : (cutL l lo hi).length ≤ l.length := by
  unfold cutL
  rw [List.length_take, List.length_drop]
  omega
theorem len_cut8 (l : List D) : (cutL l none (some 8)).length ≤ 8 := by
  unfold cutL
  rw [List.length_take, show HT.sIx l.length l.length (some 8) = min 8 l.length from HT.sIx_nat l.length l.length 8]
  omega
/-- a loop with what is left counted -/
theorem forL_n {S A : Type} {dec : D → Option A} {mb : S → A → (S → M D) → (S → M D) → M D} {k : S → M D} {Q : D → G → Prop} {I : Nat → S → G → Prop} (hk : ∀ s g, I 0 s g → Ens (k s) g Q) :
    ∀ (xs : List D) (s : S) (g : G), I xs.length s g → (∀ x ∈ xs, ∀ n s g K1, n < xs.length → I (n + 1) s g → (∀ s g, I n s g → Ens (K1 s) g Q) → ∃ y, dec x = some y ∧ Ens (mb s y K1 k) g Q) → Ens (forL dec mb k xs s) g Q
  | [], s, g, h, _ => hk s g h
  | x :: xs, s, g, h, hs => by
    obtain ⟨y, e, q⟩ := hs x List.mem_cons_self xs.length s g (forL dec mb k xs) (Nat.lt_succ_self _) h fun s g h => forL_n hk xs s g h fun x hx n s g K1 hn => hs x (List.mem_cons_of_mem _ hx) n s g K1 (Nat.lt_succ_of_lt hn)
    exact Ens.bind (.ofO e q)
theorem isTie_of {n a b : Int} (h : 0 ≤ a ∧ a < b ∧ b < n) : isTie n (.tup [.int a, .int b]) = true := by
  simp only [isTie, upto, Bool.and_eq_true, decide_eq_true_eq]
  omega
theorem web_ok {g : G} (h : St0 g) : Ens (m__law_web [.hnd 0, .int 8]) g fun d g1 => St0 g1 ∧ ∃ (n : Int) (l : List D), d = .tup [.int n, .tup l] ∧ (1 ≤ n ∧ n ≤ 6) ∧ l.length ≤ 8 ∧ (∀ x ∈ l, isTie n x = true) ∧ risI (l.map rowOf) = true := by
  rw [m__law_web]
  refine Ens.bind ((idx_take (L := [.int 6, .int 5, .int 4, .int 3, .int 4, .int 5, .int 2, .int 1]) (Q := fun d => ∃ n : Int, d = .int n ∧ 1 ≤ n ∧ n ≤ 6) rfl (by decide) (by decide) h ?_).mono fun d g1 ⟨h1, n, ed, hn⟩ => ?_)
  · intro d hd
    simp only [List.mem_cons, List.not_mem_nil, or_false] at hd
    rcases hd with rfl | rfl | rfl | rfl | rfl | rfl | rfl | rfl <;> exact ⟨_, rfl, by decide, by decide⟩
  subst ed
  refine Ens.bind (.of (a := []) (g1 := g1) rfl ?_)
  refine Ens.join ?_
  -- behind the join
  have hK : ∀ (l : List D) (g : G), St0 g → (∀ x ∈ l, isTie n x = true) → l.length ≤ 10 → Ens (forM (S := List D) (T := D) (rng1M [bin (callM [M.pure (.hnd 0), bin (M.pure (.int 8)) (M.pure (.int 1)) D.add] m__law_take) (appM [toD (binB (M.pure (.int n)) (M.pure (.int 1)) D.gt)] bInt) D.mul]) some (fun s14 y15 K16 K17 => M.bind (callM [M.pure (.hnd 0), M.pure (.int n)] m__law_take) fun v_one_18 => M.bind (bin (bin (bin (M.pure v_one_18) (M.pure (.int 1)) D.add) (callM [M.pure (.hnd 0), bin (M.pure (.int n)) (M.pure (.int 1)) D.sub] m__law_take) D.add) (M.pure (.int n)) D.mod) fun v_other_19 => M.bind (tupM [appM [M.pure v_one_18, M.pure v_other_19] bMin, appM [M.pure v_one_18, M.pure v_other_19] bMax]) fun d21 => if s14.length ≤ 1000000 then (fun l20 => K16 l20) (s14 ++ [d21]) else bad) (fun s14 => tupM [M.pure (.int n), appM [appM [cutM (M.pure (.lst s14)) (M.pure none) (partM (M.pure (.int 8)))] bSorted] bTuple]) l) g fun d g1 => St0 g1 ∧ ∃ (n : Int) (l : List D), d = .tup [.int n, .tup l] ∧ (1 ≤ n ∧ n ≤ 6) ∧ l.length ≤ 8 ∧ (∀ x ∈ l, isTie n x = true) ∧ risI (l.map rowOf) = true := by
    intro l g hg hl hll
    -- how often
    have hr : Ens (rng1M [bin (callM [M.pure (.hnd 0), bin (M.pure (.int 8)) (M.pure (.int 1)) D.add] m__law_take) (appM [toD (binB (M.pure (.int n)) (M.pure (.int 1)) D.gt)] bInt) D.mul]) g fun xs g1 => St0 g1 ∧ xs.length ≤ 8 ∧ (xs ≠ [] → 1 < n) := by
      refine Ens.bind (.cons (.bin ((T (k := 9) rfl hg (by decide) (by decide)).mono fun d g1 ⟨s, j, ej, j0, j1⟩ => ?_)))
      subst ej
      refine .app (.cons (.toD (.binB (.pure (.pure ⟨_, int_gt n 1, .nil ⟨_, rfl, ?_⟩⟩)))))
      have eb : (if (decide ((1 : Int) < n)) = true then (1 : Int) else 0) = if 1 < n then 1 else 0 := by simp
      refine ⟨_, mul_small (by omega) (by split <;> decide), .nil (.ofO (a := rangeD 0 (j * (if decide ((1 : Int) < n) = true then 1 else 0)).toNat) ?_ ⟨s, ?_, ?_⟩)⟩
      · show (if _ then _ else _) = _
        rw [if_pos]
        by_cases hq : 1 < n
        · simp only [decide_eq_true hq, if_true]; omega
        · simp only [decide_eq_false hq]; simp
      · unfold rangeD
        rw [List.length_map, List.length_range]
        by_cases hq : 1 < n
        · simp only [decide_eq_true hq, if_true]; omega
        · simp only [decide_eq_false hq]; simp
      · intro hx
        by_cases hq : 1 < n
        · exact hq
        · refine absurd ?_ hx
          simp [decide_eq_false hq, rangeD]
    refine Ens.forM (hr.mono fun xs g1 ⟨hs, hlen, hn1⟩ => ?_)
    refine forL_n (I := fun k (s : List D) g => St0 g ∧ (∀ x ∈ s, isTie n x = true) ∧ s.length + k ≤ 18) ?_ xs l g1 ⟨hs, hl, by omega⟩ ?_
    · intro s g2 ⟨q1, q2, q3⟩
      have q4 : (cutL s none (some 8)).all (isTie n) = true := List.all_eq_true.mpr fun x hx => q2 x (mem_cut hx)
      have e := ties_rows q4
      have hrr : ∀ r ∈ (cutL s none (some 8)).map rowOf, r ≠ [] := fun r hr => by
        obtain ⟨d, hd, rfl⟩ := List.mem_map.mp hr
        obtain ⟨a, b, _, r1, _⟩ := tie_row (List.all_eq_true.mp q4 d hd)
        rw [r1]
        simp
      have l8 := len_cut8 s
      have es := sort_rows (.inl hrr) (by rw [List.length_map]; omega)
      rw [← e] at es
      refine Ens.tup (.cons (.pure (.cons (.app (.cons (.app (.cons ?_)))))))
      refine .of (a := .lst (cutL s none (some 8))) (g1 := g2) rfl ?_
      refine .nil ⟨.lst ((((cutL s none (some 8)).map rowOf).mergeSort leI).map rowD), ?_, ?_⟩
      rotate_left
      refine .nil ⟨.tup ((((cutL s none (some 8)).map rowOf).mergeSort leI).map rowD), rfl, ?_⟩
      refine .nil ⟨(by show 2 ≤ 1000; decide), q1, n, _, rfl, hn, ?_, ?_, ?_⟩
      rotate_left 3
      · show (sortL (cutL s none (some 8))).map D.lst = _
        rw [es]
        rfl
      · rw [List.length_map, (List.mergeSort_perm _ _).length_eq, List.length_map]
        omega
      · intro x hx
        obtain ⟨r, hr, rfl⟩ := List.mem_map.mp hx
        have hr2 := (List.mergeSort_perm _ _).mem_iff.mp hr
        obtain ⟨d, hd, rfl⟩ := List.mem_map.mp hr2
        obtain ⟨a, b, _, r1, z1⟩ := tie_row (List.all_eq_true.mp q4 d hd)
        rw [r1, z1]
        exact List.all_eq_true.mp q4 d hd
      · rw [List.map_map]
        have : ∀ r ∈ ((cutL s none (some 8)).map rowOf).mergeSort leI, (rowOf ∘ rowD) r = id r := fun r hr => by
          have hr2 := (List.mergeSort_perm _ _).mem_iff.mp hr
          obtain ⟨d, hd, rfl⟩ := List.mem_map.mp hr2
          obtain ⟨a, b, _, r1, z1⟩ := tie_row (List.all_eq_true.mp q4 d hd)
          show rowOf (rowD (rowOf d)) = rowOf d
          rw [r1]
          rfl
        rw [List.map_congr_left this, List.map_id]
        exact sort_ris _
    · intro x hx k s g2 K1 hk ⟨q1, q2, q3⟩ hK1
      have h1n := hn1 (List.ne_nil_of_mem hx)
      refine ⟨x, rfl, Ens.bind ((T (k := n) rfl q1 (by omega) (by omega)).mono fun d g3 ⟨s3, a, ea, a0, a1⟩ => ?_)⟩
      subst ea
      refine Ens.bind (.bin (.bin (.bin (.pure (.pure ⟨_, rfl, (T (k := n - 1) rfl s3 (by omega) (by omega)).mono fun d g4 ⟨s4, b, eb, b0, b1⟩ => ?_⟩)))))
      subst eb
      refine ⟨_, rfl, .pure ⟨_, mod_pos (by omega), ?_⟩⟩
      generalize hc : (a + 1 + b) % n = c
      have hc0 : 0 ≤ c ∧ c < n ∧ c ≠ a := by
        rw [← hc]
        refine ⟨Int.emod_nonneg _ (by omega), Int.emod_lt_of_pos _ (by omega), ?_⟩
        have : n = 2 ∨ n = 3 ∨ n = 4 ∨ n = 5 ∨ n = 6 := by omega
        rcases this with rfl | rfl | rfl | rfl | rfl <;> omega
      refine Ens.bind (.of (a := .tup [.int (min a c), .int (max a c)]) (g1 := g4) rfl ?_)
      rw [if_pos (by omega)]
      refine hK1 _ _ ⟨s4, fun x hx => ?_, by rw [List.length_append]; show s.length + 1 + k ≤ 18; omega⟩
      rcases List.mem_append.mp hx with hx | hx
      · exact q2 x hx
      · rw [List.mem_singleton.mp hx]
        exact isTie_of (by omega)
  refine Ens.ite (Ens.and (.binB (.pure (.pure ⟨_, int_gt n 1, ?_⟩))))
  by_cases h1n : 1 < n
  · rw [decide_eq_true h1n, if_pos rfl]
    refine .binB ((T (k := 5) rfl h1 (by decide) (by decide)).mono fun d g2 ⟨s2, j, ej, j0, j1⟩ => .pure ?_)
    subst ej
    refine ⟨_, int_gt j 0, ?_⟩
    by_cases hj : 0 < j
    · rw [decide_eq_true hj, if_pos rfl]
      refine Ens.bind (Ens.bind (.of (a := rangeD 1 (n - 1).toNat) (g1 := g2) ?_ ?_))
      · show ofO (if _ then _ else _) g2 = _
        rw [if_pos (by omega)]
        rfl
      · have hlen : (rangeD 1 (n - 1).toNat).length ≤ 5 := by
          unfold rangeD
          rw [List.length_map, List.length_range]
          omega
        rw [if_pos (by omega)]
        refine (Ens.loopC (I := St0) (P := fun d => isTie n d = true) _ g2 s2 fun x hx g hg => ?_).mono fun ds g3 ⟨a, b, c⟩ => hK ds g3 a b (by omega)
        unfold rangeD at hx
        obtain ⟨i, hi, rfl⟩ := List.mem_map.mp hx
        have hi := List.mem_range.mp hi
        refine ⟨_, rfl, .pure ⟨hg, fun _ => .tup (.cons ((T (k := 1 + (i : Nat)) rfl hg (by omega) (by omega)).mono fun d g4 ⟨s4, j, ej, j0, j1⟩ => .cons (.pure (.nil ⟨(by show 2 ≤ 1000; decide), s4, ?_⟩))))⟩⟩
        subst ej
        exact isTie_of (by omega)
    · rw [decide_eq_false hj, if_neg (by decide)]
      exact hK [] g2 s2 (fun x hx => absurd hx List.not_mem_nil) (by simp)
  · rw [decide_eq_false h1n, if_neg (by decide), if_neg (by decide)]
    exact hK [] g1 h1 (fun x hx => absurd hx List.not_mem_nil) (by simp)
end Lk01

set_option Elab.async false
set_option linter.all false
set_option maxRecDepth 100000
set_option maxHeartbeats 4000000
namespace Lk01
open PySem PySem.Spec PyProof.Rows L2 Tc
theorem bad_ok {g : G} (h : St0 g) : Ens (m__law_bad_web [.hnd 0]) g fun d g1 => St0 g1 ∧ d.pl = true := by
  rw [m__law_bad_web]
  refine Ens.bind (.of rfl ?_)
  refine Ens.bind (.of rfl ?_)
  refine Ens.bind (.of rfl ?_)
  exact idx_take rfl (by decide) (by decide) h (plL_iff.mp rfl)
theorem add_tup {a b : List D} (h : a.length + b.length ≤ 1000000) : bin (M.pure (.tup a)) (M.pure (.tup b)) D.add = M.pure (.tup (a ++ b)) := by
  rw [bin_p]
  show ofO (if _ then _ else _) = _
  rw [if_pos h]
  rfl
theorem tie_pl {n : Int} {d : D} (h : isTie n d = true) : d.pl = true ∧ d.flat = true := by
  obtain ⟨a, b, rfl, _⟩ := tie_row h
  exact ⟨rfl, rfl⟩
theorem setI_some {l : List D} {j : Int} {d : D} (h0 : 0 ≤ j) (h1 : j < (l.length : Nat)) : setI l (.int j) d = some (l.set j.toNat d) := by
  show Option.map (fun p => l.set p d) (ixN l.length j) = _
  unfold ixN
  rw [if_pos h0, if_pos h1]
  rfl
theorem mem_set {l : List D} {n : Nat} {d x : D} (h : x ∈ l.set n d) : x ∈ l ∨ x = d := List.mem_or_eq_of_mem_set h
theorem plL_append {a b : List D} : D.plL (a ++ b) = true ↔ D.plL a = true ∧ D.plL b = true := by
  rw [plL_iff, plL_iff, plL_iff]
  constructor
  · exact fun h => ⟨fun d hd => h d (List.mem_append_left _ hd), fun d hd => h d (List.mem_append_right _ hd)⟩
  · exact fun ⟨h1, h2⟩ d hd => (List.mem_append.mp hd).elim (h1 d) (h2 d)
theorem bent_ok {g : G} {n : Int} {l : List D} (h : St0 g) (hn : 1 ≤ n ∧ n ≤ 6) (hl : l.length ≤ 8) (ht : ∀ x ∈ l, isTie n x = true) : Ens (m__law_bent [.hnd 0, .tup [.int n, .tup l]]) g fun d g1 => St0 g1 ∧ d.pl = true := by
  have hpl : D.plL l = true := plL_iff.mpr fun x hx => (tie_pl (ht x hx)).1
  rw [m__law_bent]
  refine Ens.bind (.pure (Ens.bind (.ofO (a := (.int n, .tup l)) rfl ?_)))
  refine Ens.bind (.cons ((T (k := (l.length : Nat) + 1) rfl h (by omega) (by omega)).mono fun d g1 ⟨s1, at_, e1, at0, at1⟩ => .cons ((T (k := (l.length : Nat) + 1) rfl s1 (by omega) (by omega)).mono fun d2 g2 ⟨s2, to_, e2, to0, to1⟩ => .nil ?_)))
  subst e1 e2
  refine Ens.bind (.cons ((T (k := n + 1) rfl s2 (by omega) (by omega)).mono fun d g3 ⟨s3, a, e3, a0, a1⟩ => .cons ((T (k := n + 1) rfl s3 (by omega) (by omega)).mono fun d2 g4 ⟨s4, b, e4, b0, b1⟩ => .nil ?_)))
  subst e3 e4
  refine Ens.bind (.of rfl ?_)
  refine Ens.bind ((idx_take (Q := fun d => d.pl = true) rfl (by show 0 < 13; decide) (by show 13 < 1000000; decide) s4 (plL_iff.mp rfl)).mono fun odd g5 ⟨s5, hodd⟩ => ?_)
  -- the row with two exchanged
  have hcat : catL (.lst l) (.lst [.tup [.int 0, .int 1]]) = some (l ++ [.tup [.int 0, .int 1]]) := by
    show (if _ then _ else _) = _
    rw [if_pos (by simp only [List.length_cons, List.length_nil]; omega)]
  refine Ens.bind (Ens.bind (.of (a := .lst l) (g1 := g5) rfl (Ens.bind (.of (a := .lst [.tup [.int 0, .int 1]]) (g1 := g5) rfl (.ofO hcat ?_)))))
  generalize hr : l ++ [D.tup [.int 0, .int 1]] = r
  have hrl : (r.length : Int) = (l.length : Nat) + 1 := by rw [← hr, List.length_append]; rfl
  have hrp : ∀ x ∈ r, x.pl = true ∧ x.flat = true := fun x hx => by
    rw [← hr] at hx
    rcases List.mem_append.mp hx with hx | hx
    · exact tie_pl (ht x hx)
    · rw [List.mem_singleton.mp hx]
      exact ⟨rfl, rfl⟩
  obtain ⟨x1, ex1, mx1⟩ := at_nat (L := r) to0 (by omega)
  obtain ⟨x2, ex2, mx2⟩ := at_nat (L := r) at0 (by omega)
  have gf : gflat g5 = true := by
    obtain ⟨c, b, rfl, _⟩ := s5
    rfl
  have hfl : flatM (tupM [idxM (M.pure (.lst r)) (M.pure (.int to_)), idxM (M.pure (.lst r)) (M.pure (.int at_))]) g5 = .ok (.tup [x1, x2]) g5 := by
    have e : tupM [idxM (M.pure (.lst r)) (M.pure (.int to_)), idxM (M.pure (.lst r)) (M.pure (.int at_))] = M.pure (.tup [x1, x2]) := by
      rw [show idxM (M.pure (.lst r)) (M.pure (.int to_)) = ofO (atI r to_) from rfl, show idxM (M.pure (.lst r)) (M.pure (.int at_)) = ofO (atI r at_) from rfl, ex1, ex2]
      rfl
    rw [e]
    show (if _ then _ else _) = _
    have : D.flat (.tup [x1, x2]) = true := by
      show (x1.flat && (x2.flat && true)) = true
      rw [(hrp x1 mx1).2, (hrp x2 mx2).2]
      rfl
    rw [if_pos ⟨this, gf⟩]
  refine Ens.bind (.of hfl (Ens.bind (.ofO (a := (x1, x2)) rfl (Ens.bind (.pure (Ens.bind (.ofO (setI_some at0 (by omega)) (Ens.bind (.pure (Ens.bind (.ofO (setI_some to0 (by rw [List.length_set]; omega)) ?_)))))))))))
  generalize hr2 : (r.set at_.toNat (x1, x2).1).set to_.toNat (x1, x2).2 = r2
  have hr2p : D.plL r2 = true := plL_iff.mpr fun x hx => by
    rw [← hr2] at hx
    rcases mem_set hx with hx | hx
    · rcases mem_set hx with hx | hx
      · exact (hrp x hx).1
      · rw [hx]; exact (hrp x1 mx1).1
    · rw [hx]; exact (hrp x2 mx2).1
  -- parts of the row
  have cutp : ∀ (lo hi : Option Int), D.plL (cutL l lo hi) = true ∧ (cutL l lo hi).length ≤ 8 := fun lo hi => ⟨plL_iff.mpr fun x hx => plL_iff.mp hpl x (mem_cut hx), Nat.le_trans (len_cut l lo hi) hl⟩
  have cA : cutM (M.pure (.tup l)) (M.pure none) (partM (M.pure (.int at_))) = M.pure (.tup (cutL l none (some at_))) := rfl
  have cB : cutM (M.pure (.tup l)) (partM (bin (M.pure (.int at_)) (M.pure (.int 1)) D.add)) (M.pure none) = M.pure (.tup (cutL l (some (at_ + 1)) none)) := rfl
  have cC : cutM (M.pure (.tup l)) (partM (M.pure (.int at_))) (M.pure none) = M.pure (.tup (cutL l (some at_) none)) := rfl
  have cD : cutM (M.pure (.tup l)) (partM (M.pure (.int at_))) (partM (bin (M.pure (.int at_)) (M.pure (.int 1)) D.add)) = M.pure (.tup (cutL l (some at_) (some (at_ + 1)))) := rfl
  have cO : tupM [M.pure odd] = M.pure (.tup [odd]) := rfl
  obtain ⟨pA, lA⟩ := cutp none (some at_)
  obtain ⟨pB, lB⟩ := cutp (some (at_ + 1)) none
  obtain ⟨pC, lC⟩ := cutp (some at_) none
  obtain ⟨pD, lD⟩ := cutp (some at_) (some (at_ + 1))
  generalize cutL l none (some at_) = A at *
  generalize cutL l (some (at_ + 1)) none = B at *
  generalize cutL l (some at_) none = C at *
  generalize cutL l (some at_) (some (at_ + 1)) = D2 at *
  have hAB : bin (M.pure (.tup A)) (M.pure (.tup B)) D.add = M.pure (.tup (A ++ B)) := add_tup (by omega)
  have hAO : bin (M.pure (.tup A)) (M.pure (.tup [odd])) D.add = M.pure (.tup (A ++ [odd])) := add_tup (by simp; omega)
  have hAOC : bin (M.pure (.tup (A ++ [odd]))) (M.pure (.tup C)) D.add = M.pure (.tup ((A ++ [odd]) ++ C)) := add_tup (by simp; omega)
  have hAOB : bin (M.pure (.tup (A ++ [odd]))) (M.pure (.tup B)) D.add = M.pure (.tup ((A ++ [odd]) ++ B)) := add_tup (by simp; omega)
  have hAD : bin (M.pure (.tup A)) (M.pure (.tup D2)) D.add = M.pure (.tup (A ++ D2)) := add_tup (by omega)
  have hADC : bin (M.pure (.tup (A ++ D2))) (M.pure (.tup C)) D.add = M.pure (.tup ((A ++ D2) ++ C)) := add_tup (by simp; omega)
  have pO : D.plL [odd] = true := by
    show (odd.pl && true) = true
    rw [hodd]
    rfl
  have q1 := plL_append.mpr ⟨pA, pB⟩
  have q2 := plL_append.mpr ⟨plL_append.mpr ⟨pA, pO⟩, pC⟩
  have q3 := plL_append.mpr ⟨plL_append.mpr ⟨pA, pO⟩, pB⟩
  have q4 := plL_append.mpr ⟨plL_append.mpr ⟨pA, pD⟩, pC⟩
  simp only [cA, cB, cC, cD, cO, hAB, hAO, hAOC, hAOB, hAD, hADC]
  generalize A ++ B = X1 at *
  generalize (A ++ [odd]) ++ C = X2 at *
  generalize (A ++ [odd]) ++ B = X3 at *
  generalize (A ++ D2) ++ C = X4 at *
  -- the rest
  have hm : bin (M.pure (.tup l)) (M.pure (.int 9)) D.mul = M.pure (.tup (List.replicate 9 l).flatten) := by
    rw [bin_p]
    show ofO (if _ then _ else _) = _
    rw [if_pos (by omega)]
    rfl
  have hs : appM [M.pure (.int n)] bStr = M.pure (.str (toString n)) := by
    rw [app_p1]
    show ofO (if _ then _ else _) = _
    rw [if_pos (Nat.lt_trans (log_lt (n := 64) (by decide) (by omega)) (by decide))]
    rfl
  have hmp : D.plL (List.replicate 9 l).flatten = true := plL_iff.mpr fun x hx => by
    obtain ⟨y, hy, hx⟩ := List.mem_flatten.mp hx
    rw [(List.mem_replicate.mp hy).2] at hx
    exact plL_iff.mp hpl x hx
  simp only [hm, hs]
  generalize (List.replicate 9 l).flatten = Y at *
  generalize toString n = sn at *
  have hrev : revM (M.pure (.tup l)) = M.pure (.tup l.reverse) := rfl
  have pR : D.plL l.reverse = true := plL_iff.mpr fun x hx => plL_iff.mp hpl x (List.mem_reverse.mp hx)
  have pY : D.plL (cutL Y none (some 9)) = true := plL_iff.mpr fun x hx => plL_iff.mp hmp x (mem_cut hx)
  have pZ : D.plL (cutL r2 none (some (l.length : Nat))) = true := plL_iff.mpr fun x hx => plL_iff.mp hr2p x (mem_cut hx)
  refine Ens.bind (.of rfl ?_)
  refine Ens.bind (.of rfl ?_)
  refine Ens.bind (.of rfl ?_)
  refine Ens.bind (.of rfl ?_)
  refine Ens.mono (idx_take (L := [.tup [.int n, .tup X1], .tup [.int n, .tup X2], .tup [.int (n - 1), .tup l], .tup [.int n, .tup X3], .tup [.int n, .tup X4], .tup [.int n, .tup l.reverse], .tup [.int n, .lst l], .lst [.int n, .tup l], .tup [.int (n + 1), .tup l], .tup [.int n], .tup [.tup l, .int n],
    .tup [.int n, .tup l, .tup []], .tup [.bl true, .tup l], .tup [.str sn, .tup l], .tup [.int 7, .tup l], .tup [.int n, .tup (cutL Y none (some 9))], .tup [.int n, .tup (cutL r2 none (some (l.length : Nat)))]]) (Q := fun d => d.pl = true) rfl (by show 0 < 17; decide) (by show 17 < 1000000; decide) s5 (plL_iff.mp ?_)) fun d g h => h
  simp only [D.plL, D.pl, q1, q2, q3, q4, hpl, pR, pY, pZ, Bool.and_self, Bool.true_and, Bool.and_true]
theorem state_ok {ns : List Int} {k : Int} {g : G} (hk : 0 ≤ k) : Ens (lstOf (callM [M.pure (.scr ns), M.pure (.int k)] m__law_state)) g fun ds g1 => D.nohL ds = true ∧ St0 [ds] := by
  have hc : ∃ c : Int, m__law_cell_at [.scr ns, .int k] = M.pure (.int c) := by
    rw [m__law_cell_at]
    rw [show appM [M.pure (.scr ns)] bLen = M.pure (.int (ns.length : Nat)) from rfl, binB_p, int_lt]
    by_cases h : k < (ns.length : Nat)
    · rw [decide_eq_true h, ofO_some, ite_t]
      obtain ⟨n, rfl⟩ := Int.eq_ofNat_of_zero_le hk
      have hn : n < ns.length := by omega
      refine ⟨ns[n], ?_⟩
      show ofO ((atI ns (n : Int)).map D.int) = _
      have : atI ns (n : Int) = some ns[n] := by
        unfold atI ixN
        rw [if_pos (by omega), if_pos (by omega)]
        show ns[(n : Int).toNat]? = _
        rw [Int.toNat_natCast]
        exact List.getElem?_eq_getElem hn
      rw [this]
      rfl
    · rw [decide_eq_false h, ofO_some, ite_f]
      exact ⟨0, rfl⟩
  obtain ⟨c, hc⟩ := hc
  have e : ∃ c' b, m__law_state [.scr ns, .int k] = M.pure (.lst [.int c', .bl b]) ∧ 0 ≤ c' ∧ (b = false → c' < 2147483647) := by
    rw [m__law_state]
    rw [call_p2, hc, M.pure_bind]
    rw [show bin (M.pure (.int 10)) (M.pure (.int 18)) D.pow = M.pure (.int 1000000000000000000) from rfl, binB_p, int_ge]
    by_cases h : (1000000000000000000 : Int) ≤ c
    · rw [decide_eq_true h, ofO_some, ite_t]
      exact ⟨c - 1000000000000000000, true, rfl, by omega, fun z => by cases z⟩
    · rw [decide_eq_false h, ofO_some, ite_f]
      exact ⟨c % 2147483647, false, rfl, Int.emod_nonneg _ (by decide), fun _ => Int.emod_lt_of_pos _ (by decide)⟩
  obtain ⟨c', b, e, h1, h2⟩ := e
  refine .of (a := [.int c', .bl b]) (g1 := g) ?_ ⟨rfl, c', b, rfl, h1, h2⟩
  unfold lstOf
  rw [call_p2, e]
  rfl
theorem newh_ens {chk : Bool} {me : M (List D)} {k : M D} {g : G} {Q : D → G → Prop} (hc : chk = true) (h : Ens me g fun ds g1 => D.nohL ds = true ∧ Ens k [ds] fun d g => d.noh = true ∧ Q d g) : Ens (newhM chk me k) g Q := by
  refine Ens.bind (h.mono fun ds g1 ⟨h1, h2⟩ => ?_)
  rw [if_pos ⟨hc, h1⟩]
  obtain ⟨d, g2, e, h3, h4⟩ := h2.ok
  refine .of (a := d) (g1 := g2) ?_ h4
  show nohR (k [ds]) = _
  rw [e]
  show (if d.noh = true then R.ok d g2 else .bad) = _
  rw [if_pos h3]
theorem law_holds (ns : List Int) (h : ns.length ≤ 63) : ∃ g, m_law [.scr ns] [] = .ok (.bl true) g := by
  have : Ens (m_law [.scr ns]) [] fun d _ => d = D.bl true := by
    rw [m_law]
    refine Ens.forM (Ens.mono (Q := fun xs _ => ∀ x ∈ xs, ∃ k : Int, x = .int k ∧ 0 ≤ k) ?_ fun xs g1 hx => ?_)
    · have e : rng1M [appM [M.pure (.int 1), appM [appM [M.pure (.scr ns)] bLen, M.pure (.int 10)] bMin] bMax] = ofO (rng1 [.int (max 1 (min (ns.length : Nat) 10))]) := rfl
      rw [e]
      refine .ofO (a := rangeD 0 (max 1 (min (ns.length : Nat) 10) : Int).toNat) ?_ fun x hx => ?_
      · show (if _ then _ else _) = _
        rw [if_pos (by omega)]
      · unfold rangeD at hx
        obtain ⟨i, _, rfl⟩ := List.mem_map.mp hx
        exact ⟨_, rfl, by omega⟩
    · refine Ens.forL (I := fun _ _ => True) ?_ xs () g1 trivial fun x hxs s g K1 _ hK => ?_
      · intro s g _
        refine .of (a := D.bl true) (g1 := g) ?_ rfl
        rw [show callM [tupM [M.pure (.int 6), bin (tupM [tupM [M.pure (.int 0), M.pure (.int 1)]]) (M.pure (.int 8)) D.mul]] m_is_web = m_is_web [.tup [.int 6, .tup (List.replicate 8 (.tup [.int 0, .int 1]))]] from rfl, show callM [tupM [M.pure (.int 1), tupM []]] m_is_web = m_is_web [.tup [.int 1, .tup []]] from rfl, web_ev rfl, web_ev rfl]
        rfl
      · obtain ⟨k, rfl, hk⟩ := hx x hxs
        refine ⟨_, rfl, newh_ens rfl ((state_ok hk).mono fun ds g2 ⟨h1, h2⟩ => ⟨h1, ?_⟩)⟩
        suffices hh : Ens _ [ds] (fun d _ => d = D.bl true) from hh.mono fun d g e => ⟨by rw [e]; rfl, e⟩
        refine Ens.bind ((web_ok h2).mono fun d g3 ⟨s3, n, l, ed, hn, hl, ht, hris⟩ => ?_)
        subst ed
        have hw : isWebD (.tup [.int n, .tup l]) = true := by
          show (upto (.int n) 1 6 && (decide (l.length ≤ 8) && (l.all (isTie n) && risI (l.map rowOf)))) = true
          have h1 : upto (.int n) 1 6 = true := by
            simp only [upto, Bool.and_eq_true, decide_eq_true_eq]
            exact hn
          rw [h1, decide_eq_true hl, List.all_eq_true.mpr ht, hris]
          rfl
        have hpl : D.pl (.tup [.int n, .tup l]) = true := by
          have : D.plL l = true := plL_iff.mpr fun x hx => (tie_pl (ht x hx)).1
          show (true && (D.plL l && true)) = true
          rw [this]
          rfl
        rw [call_p1, web_ev hpl, hw]
        show Ens (forM _ _ _ _ _) g3 _
        have hit : Ens (itemsM (bin (fdM (compL (rng1M [M.pure (.int 6)]) some (fun y58 => M.pure true) (fun y58 => callM [M.pure (.hnd 0), M.pure (.tup [.int n, .tup l])] m__law_bent))) (lstM [callM [M.pure (.hnd 0)] m__law_bad_web]) D.add)) g3 fun xs g4 => ∀ x ∈ xs, x.pl = true := by
          refine Ens.bind (.bin (Ens.bind (Ens.bind (.of (a := rangeD 0 6) (g1 := g3) rfl ?_))))
          rw [if_pos (by decide)]
          refine (Ens.loopC (I := St0) (P := fun d => d.pl = true) _ g3 s3 fun x hx g hg => ⟨x, rfl, .pure ⟨hg, fun _ => ?_⟩⟩).mono fun ds g4 ⟨s4, hp, hlen⟩ => .pure (.lst (.cons ((bad_ok s4).mono fun d g5 ⟨s5, hd⟩ => .nil ⟨by show 1 ≤ 1000; decide, .lst (ds ++ [d]), ?_, .ofO rfl fun x hx => ?_⟩)))
          · exact bent_ok hg hn hl ht
          · show (if _ then _ else _) = _
            have : (rangeD 0 6).length = 6 := rfl
            rw [if_pos (by simp only [List.length_cons, List.length_nil]; omega)]
          · rcases List.mem_append.mp hx with hx | hx
            · exact hp x hx
            · rw [List.mem_singleton.mp hx]
              exact hd
        refine Ens.forM (hit.mono fun xs g4 hxp => ?_)
        refine Ens.forL (I := fun _ _ => True) (fun s g _ => hK () g trivial) xs () g4 trivial fun x hx s g K2 _ hK2 => ⟨x, rfl, ?_⟩
        refine Ens.forM (.of (a := rangeD 0 2) (g1 := g) rfl ?_)
        refine Ens.forL (I := fun _ _ => True) (fun s g _ => hK2 () g trivial) (rangeD 0 2) () g trivial fun y hy s g K3 _ hK3 => ⟨y, rfl, ?_⟩
        have hp := hxp x hx
        have e : callM [callM [M.pure x] m_is_web, callM [M.pure x] m__law_is_web] (m__law_same 8) = M.pure (D.bl true) := by
          rw [call_p1, call_p1, web_ev hp, web_ev2 hp, call_p2, same_bl]
          cases isWebD x <;> rfl
        rw [e]
        exact hK3 () g trivial
  obtain ⟨d, g, e, q⟩ := this.ok
  subst q
  exact ⟨g, e⟩
end Lk01

set_option Elab.async false
set_option linter.all false
set_option maxRecDepth 100000
namespace Lk01
open PySem PySem.Spec PyProof.Rows L2 Tc
set_option maxHeartbeats 4000000 in
theorem all_mk {l : PySem.W.OpenLaw} {w : World} {K : PySem.W.Frag} {h : Heap} {mg : Str → Option Value} {fa : Addr} (X : K.In h) (G : h.Ns mainGlobals mg) (hfa : mg "law" = some (.ref fa))
    {f0 : Addr} {od0 an0 : Option Addr} {sl0 : Array (Option Value)} {oc0 kV0 dc0 pm0 cd0 ct0 : Value} {f1 : Addr} {od1 an1 : Option Addr} {sl1 : Array (Option Value)} {oc1 kV1 dc1 pm1 cd1 ct1 : Value} {f2 : Addr} {od2 an2 : Option Addr} {sl2 : Array (Option Value)} {oc2 kV2 dc2 pm2 cd2 ct2 : Value} {f3 : Addr} {od3 an3 : Option Addr} {sl3 : Array (Option Value)} {oc3 kV3 dc3 pm3 cd3 ct3 : Value} {f4 : Addr} {od4 an4 : Option Addr} {sl4 : Array (Option Value)} {oc4 kV4 dc4 pm4 cd4 ct4 : Value} {f5 : Addr} {od5 an5 : Option Addr} {sl5 : Array (Option Value)} {oc5 kV5 dc5 pm5 cd5 ct5 : Value} {f6 : Addr} {od6 an6 : Option Addr} {sl6 : Array (Option Value)} {oc6 kV6 dc6 pm6 cd6 ct6 : Value} {f7 : Addr} {od7 an7 : Option Addr} {sl7 : Array (Option Value)} {oc7 kV7 dc7 pm7 cd7 ct7 : Value} {f8 : Addr} {od8 an8 : Option Addr} {sl8 : Array (Option Value)} {oc8 kV8 dc8 pm8 cd8 ct8 : Value} {f9 : Addr} {od9 an9 : Option Addr} {sl9 : Array (Option Value)} {oc9 kV9 dc9 pm9 cd9 ct9 : Value} {f10 : Addr} {od10 an10 : Option Addr} {sl10 : Array (Option Value)} {oc10 kV10 dc10 pm10 cd10 ct10 : Value} {f11 : Addr} {od11 an11 : Option Addr} {sl11 : Array (Option Value)} {oc11 kV11 dc11 pm11 cd11 ct11 : Value} {f12 : Addr} {od12 an12 : Option Addr} {sl12 : Array (Option Value)} {oc12 kV12 dc12 pm12 cd12 ct12 : Value} {f13 : Addr} {od13 an13 : Option Addr} {sl13 : Array (Option Value)} {oc13 kV13 dc13 pm13 cd13 ct13 : Value} {t0 : Tok} {t1 : Tok}
    (a0 : PySem.W.nsIn K mainGlobals "_law_cell_at" = some (some (.ref f0)))
    (l0 : K.lookup f0 = some ⟨oc0, od0, .func (PySem.W.fnOf "_law_cell_at" "_law_cell_at" (defArgs s__law_cell_at) (defBody s__law_cell_at) (defScope s__law_cell_at) .none kV0 dc0 pm0 an0 cd0 ct0), sl0⟩)
    (c0 : PySem.W.codeIn K cd0 "_law_cell_at" = true)
    (k0 : PySem.W.keepIn K (.ref f0) = true)
    (a1 : PySem.W.nsIn K mainGlobals "_law_state" = some (some (.ref f1)))
    (l1 : K.lookup f1 = some ⟨oc1, od1, .func (PySem.W.fnOf "_law_state" "_law_state" (defArgs s__law_state) (defBody s__law_state) (defScope s__law_state) .none kV1 dc1 pm1 an1 cd1 ct1), sl1⟩)
    (c1 : PySem.W.codeIn K cd1 "_law_state" = true)
    (k1 : PySem.W.keepIn K (.ref f1) = true)
    (a2 : PySem.W.nsIn K mainGlobals "_law_take" = some (some (.ref f2)))
    (l2 : K.lookup f2 = some ⟨oc2, od2, .func (PySem.W.fnOf "_law_take" "_law_take" (defArgs s__law_take) (defBody s__law_take) (defScope s__law_take) .none kV2 dc2 pm2 an2 cd2 ct2), sl2⟩)
    (c2 : PySem.W.codeIn K cd2 "_law_take" = true)
    (k2 : PySem.W.keepIn K (.ref f2) = true)
    (a3 : PySem.W.nsIn K mainGlobals "_law_web" = some (some (.ref f3)))
    (l3 : K.lookup f3 = some ⟨oc3, od3, .func (PySem.W.fnOf "_law_web" "_law_web" (defArgs s__law_web) (defBody s__law_web) (defScope s__law_web) .none kV3 dc3 pm3 an3 cd3 ct3), sl3⟩)
    (c3 : PySem.W.codeIn K cd3 "_law_web" = true)
    (k3 : PySem.W.keepIn K (.ref f3) = true)
    (a4 : PySem.W.nsIn K mainGlobals "is_whole" = some (some (.ref f4)))
    (l4 : K.lookup f4 = some ⟨oc4, od4, .func (PySem.W.fnOf "is_whole" "is_whole" (defArgs s_is_whole) (defBody s_is_whole) (defScope s_is_whole) .none kV4 dc4 pm4 an4 cd4 ct4), sl4⟩)
    (c4 : PySem.W.codeIn K cd4 "is_whole" = true)
    (k4 : PySem.W.keepIn K (.ref f4) = true)
    (a5 : PySem.W.nsIn K mainGlobals "is_upto" = some (some (.ref f5)))
    (l5 : K.lookup f5 = some ⟨oc5, od5, .func (PySem.W.fnOf "is_upto" "is_upto" (defArgs s_is_upto) (defBody s_is_upto) (defScope s_is_upto) .none kV5 dc5 pm5 an5 cd5 ct5), sl5⟩)
    (c5 : PySem.W.codeIn K cd5 "is_upto" = true)
    (k5 : PySem.W.keepIn K (.ref f5) = true)
    (a6 : PySem.W.nsIn K mainGlobals "is_tie" = some (some (.ref f6)))
    (l6 : K.lookup f6 = some ⟨oc6, od6, .func (PySem.W.fnOf "is_tie" "is_tie" (defArgs s_is_tie) (defBody s_is_tie) (defScope s_is_tie) .none kV6 dc6 pm6 an6 cd6 ct6), sl6⟩)
    (c6 : PySem.W.codeIn K cd6 "is_tie" = true)
    (k6 : PySem.W.keepIn K (.ref f6) = true)
    (a7 : PySem.W.nsIn K mainGlobals "is_web" = some (some (.ref f7)))
    (l7 : K.lookup f7 = some ⟨oc7, od7, .func (PySem.W.fnOf "is_web" "is_web" (defArgs s_is_web) (defBody s_is_web) (defScope s_is_web) .none kV7 dc7 pm7 an7 cd7 ct7), sl7⟩)
    (c7 : PySem.W.codeIn K cd7 "is_web" = true)
    (k7 : PySem.W.keepIn K (.ref f7) = true)
    (a8 : PySem.W.nsIn K mainGlobals "_law_bent" = some (some (.ref f8)))
    (l8 : K.lookup f8 = some ⟨oc8, od8, .func (PySem.W.fnOf "_law_bent" "_law_bent" (defArgs s__law_bent) (defBody s__law_bent) (defScope s__law_bent) .none kV8 dc8 pm8 an8 cd8 ct8), sl8⟩)
    (c8 : PySem.W.codeIn K cd8 "_law_bent" = true)
    (k8 : PySem.W.keepIn K (.ref f8) = true)
    (a9 : PySem.W.nsIn K mainGlobals "_law_bad_web" = some (some (.ref f9)))
    (l9 : K.lookup f9 = some ⟨oc9, od9, .func (PySem.W.fnOf "_law_bad_web" "_law_bad_web" (defArgs s__law_bad_web) (defBody s__law_bad_web) (defScope s__law_bad_web) .none kV9 dc9 pm9 an9 cd9 ct9), sl9⟩)
    (c9 : PySem.W.codeIn K cd9 "_law_bad_web" = true)
    (k9 : PySem.W.keepIn K (.ref f9) = true)
    (a10 : PySem.W.nsIn K mainGlobals "_law_same" = some (some (.ref f10)))
    (l10 : K.lookup f10 = some ⟨oc10, od10, .func (PySem.W.fnOf "_law_same" "_law_same" (defArgs s__law_same) (defBody s__law_same) (defScope s__law_same) .none kV10 dc10 pm10 an10 cd10 ct10), sl10⟩)
    (c10 : PySem.W.codeIn K cd10 "_law_same" = true)
    (k10 : PySem.W.keepIn K (.ref f10) = true)
    (a11 : PySem.W.nsIn K mainGlobals "_law_whole" = some (some (.ref f11)))
    (l11 : K.lookup f11 = some ⟨oc11, od11, .func (PySem.W.fnOf "_law_whole" "_law_whole" (defArgs s__law_whole) (defBody s__law_whole) (defScope s__law_whole) .none kV11 dc11 pm11 an11 cd11 ct11), sl11⟩)
    (c11 : PySem.W.codeIn K cd11 "_law_whole" = true)
    (k11 : PySem.W.keepIn K (.ref f11) = true)
    (a12 : PySem.W.nsIn K mainGlobals "_law_is_web" = some (some (.ref f12)))
    (l12 : K.lookup f12 = some ⟨oc12, od12, .func (PySem.W.fnOf "_law_is_web" "_law_is_web" (defArgs s__law_is_web) (defBody s__law_is_web) (defScope s__law_is_web) .none kV12 dc12 pm12 an12 cd12 ct12), sl12⟩)
    (c12 : PySem.W.codeIn K cd12 "_law_is_web" = true)
    (k12 : PySem.W.keepIn K (.ref f12) = true)
    (a13 : PySem.W.nsIn K mainGlobals "law" = some (some (.ref f13)))
    (l13 : K.lookup f13 = some ⟨oc13, od13, .func (PySem.W.fnOf "law" "law" (defArgs s_law) (defBody s_law) (defScope s_law) .none kV13 dc13 pm13 an13 cd13 ct13), sl13⟩)
    (c13 : PySem.W.codeIn K cd13 "law" = true)
    (k13 : PySem.W.keepIn K (.ref f13) = true)
    (z0 : PySem.W.nsIn K mainGlobals "MOST_PLACES" = some (some (.int 6 t0)))
    (z1 : PySem.W.nsIn K mainGlobals "MOST_TIES" = some (some (.int 8 t1)))
    (z2 : PySem.W.nsIn K mainGlobals "all" = some none)
    (z3 : PySem.W.nsIn K mainGlobals "bool" = some none)
    (z4 : PySem.W.nsIn K mainGlobals "int" = some none)
    (z5 : PySem.W.nsIn K mainGlobals "isinstance" = some none)
    (z6 : PySem.W.nsIn K mainGlobals "len" = some none)
    (z7 : PySem.W.nsIn K mainGlobals "list" = some none)
    (z8 : PySem.W.nsIn K mainGlobals "max" = some none)
    (z9 : PySem.W.nsIn K mainGlobals "min" = some none)
    (z10 : PySem.W.nsIn K mainGlobals "range" = some none)
    (z11 : PySem.W.nsIn K mainGlobals "sorted" = some none)
    (z12 : PySem.W.nsIn K mainGlobals "str" = some none)
    (z13 : PySem.W.nsIn K mainGlobals "tuple" = some none)
    (z14 : PySem.W.nsIn K mainGlobals "zip" = some none) :
    ∃ fd : FuncData, (∀ (s : Shared) (v : Value), BindsTo s fd ⟨[v], []⟩ [("_law_script", v)]) ∧ ∀ base : Heap, K.In base → base.Ns mainGlobals mg → FnOk l.prog w K mg base (L2.CX l.prog w) 11 fa fd ["_law_script"] (spLaw K 63 m_law) := by
  have e := hfa.symm.trans (PySem.W.mg_of X G a13)
  cases e
  let Z : Gs K mg := ⟨_, _, fun_mk (st := s__law_cell_at) l0 c0 k0, PySem.W.mg_of X G a0, _, _, fun_mk (st := s__law_state) l1 c1 k1, PySem.W.mg_of X G a1, _, _, fun_mk (st := s__law_take) l2 c2 k2, PySem.W.mg_of X G a2, _, _, fun_mk (st := s__law_web) l3 c3 k3, PySem.W.mg_of X G a3, _, _, fun_mk (st := s_is_whole) l4 c4 k4, PySem.W.mg_of X G a4, _, _, fun_mk (st := s_is_upto) l5 c5 k5, PySem.W.mg_of X G a5, _, _, fun_mk (st := s_is_tie) l6 c6 k6, PySem.W.mg_of X G a6, _, _, fun_mk (st := s_is_web) l7 c7 k7, PySem.W.mg_of X G a7, _, _, fun_mk (st := s__law_bent) l8 c8 k8, PySem.W.mg_of X G a8, _, _, fun_mk (st := s__law_bad_web) l9 c9 k9, PySem.W.mg_of X G a9, _, _, fun_mk (st := s__law_same) l10 c10 k10, PySem.W.mg_of X G a10, _, _, fun_mk (st := s__law_whole) l11 c11 k11, PySem.W.mg_of X G a11, _, _, fun_mk (st := s__law_is_web) l12 c12 k12, PySem.W.mg_of X G a12, _, _, fun_mk (st := s_law) l13 c13 k13, PySem.W.mg_of X G a13, _, PySem.W.mg_of X G z0, _, PySem.W.mg_of X G z1, PySem.W.mg_none_of X G z2, PySem.W.mg_none_of X G z3, PySem.W.mg_none_of X G z4, PySem.W.mg_none_of X G z5, PySem.W.mg_none_of X G z6, PySem.W.mg_none_of X G z7, PySem.W.mg_none_of X G z8, PySem.W.mg_none_of X G z9, PySem.W.mg_none_of X G z10, PySem.W.mg_none_of X G z11, PySem.W.mg_none_of X G z12, PySem.W.mg_none_of X G z13, PySem.W.mg_none_of X G z14⟩
  exact ⟨PySem.W.fnOf "law" "law" (defArgs s_law) (defBody s_law) (defScope s_law) .none kV13 dc13 pm13 an13 cd13 ct13, fun s v => .of_eq rfl, fun base _ _ => ok_law Z 63⟩
theorem noexc {P : Program} {w : World} (H : Hp) (s : Shared) (e : Value) (s' : Shared) (c : L2.CX P w [] H s (fun _ _ _ => False) e s') : False := by
  obtain ⟨_, _, _, _, _, _, _, _, _, _, _, _, z⟩ := c
  exact z
end Lk01
open PySem PySem.W PyProof.Rows
set_option maxHeartbeats 0 in
theorem PySem.Challenge.cw_tiechances_k01_webs_known_holds : PySem.Challenge.rw_tiechances_k01_webs_known.Holds := by
  w_on; o_law; k_head; (case hw => w_witness2)
  k_fill
  refine L2.walk_of (l := PySem.Challenge.rw_tiechances_k01_webs_known) (n := 63) (k := 11) (x := "_law_script") (CX := fun w => L2.CX PySem.Challenge.pw_tiechances_k01_webs_known w) (sp := fun w => Tc.spLaw _ 63 Lk01.m_law) rfl (by decide) rfl ⟨rfl, by decide, by decide⟩ (fun w h Y => PySem.W.kIn_of Y) ?F (fun _ H a ns hl hO hS => ⟨rfl, a, ns, rfl, hl, hO, hS, Lk01.law_holds ns hl, fun _ => rfl⟩) (fun w H s e s' c => Lk01.noexc H s e s' c)
  case F =>
    intro w mg fa h KX G hmg
    refine' Lk01.all_mk KX G hmg ?a0 ?l0 ?c0 ?k0 ?a1 ?l1 ?c1 ?k1 ?a2 ?l2 ?c2 ?k2 ?a3 ?l3 ?c3 ?k3 ?a4 ?l4 ?c4 ?k4 ?a5 ?l5 ?c5 ?k5 ?a6 ?l6 ?c6 ?k6 ?a7 ?l7 ?c7 ?k7 ?a8 ?l8 ?c8 ?k8 ?a9 ?l9 ?c9 ?k9 ?a10 ?l10 ?c10 ?k10 ?a11 ?l11 ?c11 ?k11 ?a12 ?l12 ?c12 ?k12 ?a13 ?l13 ?c13 ?k13 ?z0 ?z1 ?z2 ?z3 ?z4 ?z5 ?z6 ?z7 ?z8 ?z9 ?z10 ?z11 ?z12 ?z13 ?z14
    (case a0 => k_is); (case l0 => k_is); (case c0 => k_is); (case k0 => k_is); (case a1 => k_is); (case l1 => k_is); (case c1 => k_is); (case k1 => k_is); (case a2 => k_is); (case l2 => k_is); (case c2 => k_is); (case k2 => k_is); (case a3 => k_is); (case l3 => k_is); (case c3 => k_is); (case k3 => k_is); (case a4 => k_is); (case l4 => k_is); (case c4 => k_is); (case k4 => k_is); (case a5 => k_is); (case l5 => k_is); (case c5 => k_is); (case k5 => k_is); (case a6 => k_is); (case l6 => k_is); (case c6 => k_is); (case k6 => k_is); (case a7 => k_is); (case l7 => k_is); (case c7 => k_is); (case k7 => k_is); (case a8 => k_is); (case l8 => k_is); (case c8 => k_is); (case k8 => k_is); (case a9 => k_is); (case l9 => k_is); (case c9 => k_is); (case k9 => k_is); (case a10 => k_is); (case l10 => k_is); (case c10 => k_is); (case k10 => k_is); (case a11 => k_is); (case l11 => k_is); (case c11 => k_is); (case k11 => k_is); (case a12 => k_is); (case l12 => k_is); (case c12 => k_is); (case k12 => k_is); (case a13 => k_is); (case l13 => k_is); (case c13 => k_is); (case k13 => k_is); (case z0 => k_is); (case z1 => k_is); (case z2 => k_is); (case z3 => k_is); (case z4 => k_is); (case z5 => k_is); (case z6 => k_is); (case z7 => k_is); (case z8 => k_is); (case z9 => k_is); (case z10 => k_is); (case z11 => k_is); (case z12 => k_is); (case z13 => k_is); (case z14 => k_is)

