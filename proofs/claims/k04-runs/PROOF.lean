import PyProof.Rows.All
import Wide.All
import OpenK.AllK
import Wide.FinOn
import HandS.ForMost
import HandS.ForExc
import HandS.ExcCtx
import HandS.TupAny
import HandS.TupMul
import HandS.Wide
import KE.DataEq
import KE.DataCmp
import HandS.Star
import HandS.Small
import HandS.Conv
import KE.SortData
import HandS.RaiseMore
import HandS.More
import HandS.ExcOwn
import PyProof.ReprRoads
import HandS.HotCalls
import HandS.ExcIs
import HandS.CallLocal
import HandS.Sort
import HandS.Style
import HandS.TupSets
import HandS.Head2
import HandS.HeadHook2
import HandS.Ends
import HandS.Words
import KE.LtData
import PySem.Challenge.RW_slowestrun_k04_whole_runs
set_option Elab.async false
set_option linter.all false
set_option maxRecDepth 100000
set_option maxHeartbeats 4000000
/-! PL0: data as trees, how a value stands for data, the judgement of expressions by what they compute. -/
namespace PL
open PySem PySem.Spec L2

/-- data as a tree; a def by its name; the law's own drawing cell -/
inductive D where
  | non | bl (b : Bool) | int (i : Int) | str (x : Str) | tup (xs : List D) | lst (xs : List D)
  | dct (kvs : List (Key × D)) | dctT (kvs : List (List Key × D)) | fn (n : Str) | cell

/-- an outcome, with the drawing cell's number -/
inductive R (α : Type) where
  | ok (a : α) (k : Int)
  | ex (c : Str) (k : Int)
  | no

/-- what is fixed through a run -/
structure Cn where
  P : Program
  w : World
  K : PySem.W.Frag
  mg : Str → Option Value
  base : Heap
  aS : Addr
  aN : Addr
  ns : List Int

mutual
inductive Rp (C : Cn) (O : Addr → Prop) (H : Hp) : V → D → Prop
  | non : Rp C O H .non .non
  | bl (b : Bool) : Rp C O H (.bl b) (.bl b)
  | int (i : Int) : Rp C O H (.int i) (.int i)
  | str (x : Str) : Rp C O H (.str x) (.str x)
  | tup {a : Addr} {xs : List V} {ds : List D} : SqT C.K H a xs → RpL C O H xs ds → Rp C O H (.ref a) (.tup ds)
  | lst {a : Addr} {xs : List V} {ds : List D} : H a = some (.lst xs) → ¬ O a → RpL C O H xs ds → Rp C O H (.ref a) (.lst ds)
  | dct {a : Addr} {kvs : List (Key × V)} {ds : List (Key × D)} : Rd H a (.dK kvs) → ¬ O a → kvs.map (·.1) = ds.map (·.1) → RpL C O H (kvs.map (·.2)) (ds.map (·.2)) → Rp C O H (.ref a) (.dct ds)
  | dctT {a : Addr} {kvs : List (List Key × V)} {ds : List (List Key × D)} : Rd H a (.dT kvs) → ¬ O a → kvs.map (·.1) = ds.map (·.1) → RpL C O H (kvs.map (·.2)) (ds.map (·.2)) → Rp C O H (.ref a) (.dctT ds)
  | fn {n : Str} {f : Addr} : C.mg n = some (.ref f) → Rp C O H (.ref f) (.fn n)
  | cell : Rp C O H (.ref C.aS) .cell
inductive RpL (C : Cn) (O : Addr → Prop) (H : Hp) : List V → List D → Prop
  | nil : RpL C O H [] []
  | cons {v : V} {vs : List V} {d : D} {ds : List D} : Rp C O H v d → RpL C O H vs ds → RpL C O H (v :: vs) (d :: ds)
end

section
variable {C : Cn} {O O' : Addr → Prop} {H H' : Hp}

/-- what may be read stays so, but at Z; tuples always -/
structure Kept (Z : Addr → Prop) (H H' : Hp) : Prop where
  keep : ∀ a u, Rd H a u → ¬ Z a → Rd H' a u
  lst : ∀ a xs, H a = some (.lst xs) → ¬ Z a → H' a = some (.lst xs)
  tup : ∀ a xs, Rd H a (.tup xs) → Rd H' a (.tup xs)
  frz : ∀ a o u, H a = some (.frz o u) → ¬ Z a → H' a = some (.frz o u)
theorem Kept.refl {Z : Addr → Prop} : Kept Z H H := ⟨fun _ _ h _ => h, fun _ _ h _ => h, fun _ _ h => h, fun _ _ _ h _ => h⟩
theorem Kept.trans {Z : Addr → Prop} {H1 H2 H3 : Hp} (a : Kept Z H1 H2) (b : Kept Z H2 H3) : Kept Z H1 H3 :=
  ⟨fun x u h z => b.keep x u (a.keep x u h z) z, fun x xs h z => b.lst x xs (a.lst x xs h z) z, fun x xs h => b.tup x xs (a.tup x xs h), fun x o u h z => b.frz x o u (a.frz x o u h z) z⟩
theorem Kept.mono {Z Z' : Addr → Prop} (h : Kept Z H H') (m : ∀ a, Z a → Z' a) : Kept Z' H H' := ⟨fun a u r z => h.keep a u r fun q => z (m a q), fun a xs r z => h.lst a xs r fun q => z (m a q), h.tup, fun a o u r z => h.frz a o u r fun q => z (m a q)⟩
theorem Kept.sqT {Z : Addr → Prop} (h : Kept Z H H') {a : Addr} {xs : List V} (q : SqT C.K H a xs) : SqT C.K H' a xs := by
  rcases q with q | q
  · exact .inl (h.tup _ _ q)
  · exact .inr q
theorem Rd.some {a : Addr} {u : HO} (h : Rd H a u) : H a ≠ none := by
  rcases h with h | ⟨o, h⟩ <;> rw [h] <;> exact fun z => by cases z
theorem Kept.of_same {Z : Addr → Prop} (h : Same H H') : Kept Z H H' := by
  refine ⟨fun a u r _ => ?_, fun a xs r _ => h _ _ r, fun a xs r => ?_, fun a o u r _ => h _ _ r⟩
  · rcases r with r | ⟨o, r⟩
    · exact .inl (h _ _ r)
    · exact .inr ⟨o, h _ _ r⟩
  · rcases r with r | ⟨o, r⟩
    · exact .inl (h _ _ r)
    · exact .inr ⟨o, h _ _ r⟩

/-- .. as far as data goes -/
structure KeptR (Z : Addr → Prop) (H H' : Hp) : Prop where
  keepK : ∀ a kvs, Rd H a (.dK kvs) → ¬ Z a → Rd H' a (.dK kvs)
  keepT : ∀ a kvs, Rd H a (.dT kvs) → ¬ Z a → Rd H' a (.dT kvs)
  lst : ∀ a xs, H a = some (.lst xs) → ¬ Z a → H' a = some (.lst xs)
  tup : ∀ a xs, Rd H a (.tup xs) → Rd H' a (.tup xs)
theorem Kept.r {Z : Addr → Prop} (k : Kept Z H H') : KeptR Z H H' := ⟨fun a kvs => k.keep a _, fun a kvs => k.keep a _, k.lst, k.tup⟩
theorem KeptR.sqT {Z : Addr → Prop} (h : KeptR Z H H') {a : Addr} {xs : List V} (q : SqT C.K H a xs) : SqT C.K H' a xs := q.imp (h.tup _ _) id
mutual
theorem Rp.liftR (k : KeptR O H H') (hO : ∀ a, H a ≠ none → ¬ O a → ¬ O' a) : ∀ {v : V} {d : D}, Rp C O H v d → Rp C O' H' v d
  | _, _, .non => .non
  | _, _, .bl b => .bl b
  | _, _, .int i => .int i
  | _, _, .str x => .str x
  | _, _, .tup h r => .tup (k.sqT h) (RpL.liftR k hO r)
  | _, _, .lst h n r => .lst (k.lst _ _ h n) (hO _ (by rw [h]; exact fun z => by cases z) n) (RpL.liftR k hO r)
  | _, _, .dct h n e r => .dct (k.keepK _ _ h n) (hO _ (PL.Rd.some h) n) e (RpL.liftR k hO r)
  | _, _, .dctT h n e r => .dctT (k.keepT _ _ h n) (hO _ (PL.Rd.some h) n) e (RpL.liftR k hO r)
  | _, _, .fn h => .fn h
  | _, _, .cell => .cell
theorem RpL.liftR (k : KeptR O H H') (hO : ∀ a, H a ≠ none → ¬ O a → ¬ O' a) : ∀ {vs : List V} {ds : List D}, RpL C O H vs ds → RpL C O' H' vs ds
  | _, _, .nil => .nil
  | _, _, .cons h r => .cons (Rp.liftR k hO h) (RpL.liftR k hO r)
end
theorem Rp.lift (k : Kept O H H') (hO : ∀ a, H a ≠ none → ¬ O a → ¬ O' a) {v : V} {d : D} (h : Rp C O H v d) : Rp C O' H' v d := h.liftR k.r hO
theorem RpL.lift (k : Kept O H H') (hO : ∀ a, H a ≠ none → ¬ O a → ¬ O' a) {v : List V} {d : List D} (h : RpL C O H v d) : RpL C O' H' v d := h.liftR k.r hO
theorem Rp.same {v : V} {d : D} (h : Rp C O H v d) (s : Same H H') : Rp C O H' v d := h.lift (Kept.of_same s) fun _ _ n => n
theorem RpL.same {v : List V} {d : List D} (h : RpL C O H v d) (s : Same H H') : RpL C O H' v d := h.lift (Kept.of_same s) fun _ _ n => n
/-- a smaller O -/
theorem Rp.less {v : V} {d : D} (h : Rp C O H v d) (m : ∀ a, O' a → O a) : Rp C O' H v d := h.lift Kept.refl fun a _ n z => n (m a z)
theorem RpL.less {v : List V} {d : List D} (h : RpL C O H v d) (m : ∀ a, O' a → O a) : RpL C O' H v d := h.lift Kept.refl fun a _ n z => n (m a z)
theorem RpL.length : ∀ {vs : List V} {ds : List D}, RpL C O H vs ds → vs.length = ds.length
  | _, _, .nil => rfl
  | _, _, .cons _ r => by rw [List.length_cons, List.length_cons, RpL.length r]
theorem RpL.get : ∀ {vs : List V} {ds : List D} {i : Nat} {d : D}, RpL C O H vs ds → ds[i]? = some d → ∃ v, vs[i]? = some v ∧ Rp C O H v d
  | _, _, _, _, .nil, e => by simp at e
  | _, _, 0, d, .cons h _, e => by
    obtain rfl := Option.some.inj e
    exact ⟨_, rfl, h⟩
  | _, _, i + 1, d, .cons _ r, e => RpL.get (i := i) r e
theorem RpL.getV : ∀ {vs : List V} {ds : List D} {i : Nat} {v : V}, RpL C O H vs ds → vs[i]? = some v → ∃ d, ds[i]? = some d ∧ Rp C O H v d
  | _, _, _, _, .nil, e => by simp at e
  | _, _, 0, v, .cons h _, e => by
    obtain rfl := Option.some.inj e
    exact ⟨_, rfl, h⟩
  | _, _, i + 1, v, .cons _ r, e => RpL.getV (i := i) r e
theorem RpL.append : ∀ {vs ws : List V} {ds es : List D}, RpL C O H vs ds → RpL C O H ws es → RpL C O H (vs ++ ws) (ds ++ es)
  | _, _, _, _, .nil, s => s
  | _, _, _, _, .cons h r, s => .cons h (RpL.append r s)
theorem RpL.take (n : Nat) : ∀ {vs : List V} {ds : List D}, RpL C O H vs ds → RpL C O H (vs.take n) (ds.take n) := by
  induction n with
  | zero => exact fun _ => .nil
  | succ n ih =>
    intro vs ds h
    cases h with
    | nil => exact .nil
    | cons h r => exact .cons h (ih r)
theorem RpL.drop (n : Nat) : ∀ {vs : List V} {ds : List D}, RpL C O H vs ds → RpL C O H (vs.drop n) (ds.drop n) := by
  induction n with
  | zero => exact fun h => h
  | succ n ih =>
    intro vs ds h
    cases h with
    | nil => exact .nil
    | cons h r => exact ih r
theorem RpL.reverse {vs : List V} {ds : List D} (h : RpL C O H vs ds) : RpL C O H vs.reverse ds.reverse := by
  induction vs generalizing ds with
  | nil => cases h; exact .nil
  | cons v vs ih =>
    cases h with
    | cons h r =>
      rw [List.reverse_cons, List.reverse_cons]
      exact (ih r).append (.cons h .nil)
theorem RpL.ints {O : Addr → Prop} {H : Hp} : ∀ (ns : List Int), RpL C O H (ns.map V.int) (ns.map D.int)
  | [] => .nil
  | n :: ns => .cons (.int n) (RpL.ints ns)
end

/-! ### what stands in the slots -/
abbrev Env := List (Option D)
/-- the addresses that the def itself may still change, and the foreign ones -/
def OA (F : Addr → Prop) (own : List Nat) (σ : St) : Addr → Prop := fun a => F a ∨ ∃ i ∈ own, σ[i]? = some (some (.ref a))
/-- all is as it was, but the drawing cell -/
def KeptS (C : Cn) (H H' : Hp) : Prop := ∀ a o, H a = some o → a ≠ C.aS → H' a = some o
inductive OwnV (C : Cn) (O : Addr → Prop) (H : Hp) : V → D → Prop
  | lst {a : Addr} {xs : List V} {ds : List D} : a ≠ C.aS → H a = some (.lst xs) → RpL C O H xs ds → OwnV C O H (.ref a) (.lst ds)
  | dct {a : Addr} {kvs : List (Key × V)} {ds : List (Key × D)} : a ≠ C.aS → H a = some (.dK kvs) → kvs.map (·.1) = ds.map (·.1) → RpL C O H (kvs.map (·.2)) (ds.map (·.2)) → OwnV C O H (.ref a) (.dct ds)
  | dctT {a : Addr} {kvs : List (List Key × V)} {ds : List (List Key × D)} : a ≠ C.aS → H a = some (.dT kvs) → kvs.map (·.1) = ds.map (·.1) → RpL C O H (kvs.map (·.2)) (ds.map (·.2)) → OwnV C O H (.ref a) (.dctT ds)

structure RelS (C : Cn) (F : Addr → Prop) (H0 : Hp) (own : List Nat) (σ : St) (H : Hp) (env : Env) (k : Int) : Prop where
  len : env.length = σ.length
  cell : H C.aS = some (.lst [.ref C.aN, .int k])
  nums : Rd H C.aN (.lst (C.ns.map V.int))
  fS : F C.aS
  fN : ¬ F C.aN
  ftr : ∀ a, F a → H a ≠ none
  base : ∀ a o, H0 a = some o → a ≠ C.aS → H a = some o
  var : ∀ i d, env[i]? = some (some d) → ∃ v, σ[i]? = some (some v) ∧ ((i ∉ own ∧ Rp C (OA F own σ) H v d) ∨ (i ∈ own ∧ OwnV C (OA F own σ) H v d))
  mine : ∀ i ∈ own, ∃ a, σ[i]? = some (some (.ref a)) ∧ ¬ F a ∧ a ≠ C.aN ∧ H0 a = none ∧ H a ≠ none
  inj : ∀ i ∈ own, ∀ j ∈ own, σ[i]? = σ[j]? → i = j

section
variable {C : Cn} {F : Addr → Prop} {H0 H H' : Hp} {own : List Nat} {σ : St} {env : Env} {k k' : Int}
theorem KeptS.refl : KeptS C H H := fun _ _ h _ => h
theorem KeptS.trans {H1 H2 H3 : Hp} (a : KeptS C H1 H2) (b : KeptS C H2 H3) : KeptS C H1 H3 := fun x o h n => b x o (a x o h n) n
theorem KeptS.of_same (h : Same H H') : KeptS C H H' := fun a o e _ => h a o e
theorem KeptS.rd (h : KeptS C H H') {a : Addr} {u : HO} (r : Rd H a u) (n : a ≠ C.aS) : Rd H' a u := by
  rcases r with r | ⟨o, r⟩
  · exact .inl (h _ _ r n)
  · exact .inr ⟨o, h _ _ r n⟩
theorem KeptS.kept (h : KeptS C H H') (O : Addr → Prop) (hS : O C.aS) {x : List V} (e : H C.aS = some (.lst x)) : Kept O H H' := by
  refine ⟨fun a u r z => h.rd r fun q => z (q ▸ hS), fun a xs r z => h a _ r fun q => z (q ▸ hS), fun a xs r => h.rd r ?_, fun a o u r z => h a _ r fun q => z (q ▸ hS)⟩
  rintro rfl
  rcases r with r | ⟨o, r⟩ <;> rw [e] at r <;> cases r
theorem OA.fS {C : Cn} {F : Addr → Prop} {own : List Nat} {σ : St} (h : F C.aS) : OA F own σ C.aS := .inl h
theorem RelS.oaS (r : RelS C F H0 own σ H env k) : OA F own σ C.aS := .inl r.fS
theorem RelS.kept (r : RelS C F H0 own σ H env k) (h : KeptS C H H') : Kept (OA F own σ) H H' := h.kept _ r.oaS r.cell
theorem RelS.tracked (r : RelS C F H0 own σ H env k) : ∀ a, OA F own σ a → H a ≠ none := fun a h => by
  rcases h with h | ⟨i, hi, e⟩
  · exact r.ftr a h
  · obtain ⟨b, e', _, _, _, n⟩ := r.mine i hi
    rw [e] at e'
    cases e'
    exact n
theorem KeptS.alive (h : KeptS C H H') {x : HO} (e : H' C.aS = some x) {a : Addr} (n : H a ≠ none) : H' a ≠ none := by
  by_cases ha : a = C.aS
  · subst ha
    rw [e]
    exact fun z => by cases z
  · cases q : H a with
    | none => exact absurd q n
    | some o =>
      rw [h a o q ha]
      exact fun z => by cases z
theorem RelS.ownNe (r : RelS C F H0 own σ H env k) {i : Nat} (hi : i ∈ own) {a : Addr} (e : σ[i]? = some (some (.ref a))) : a ≠ C.aS := by
  obtain ⟨b, e', nf, _⟩ := r.mine i hi
  rw [e] at e'
  cases e'
  rintro rfl
  exact nf r.fS
theorem OwnV.step {O : Addr → Prop} {v : V} {d : D} (h : OwnV C O H v d) (k : Kept O H H') (s : ∀ a o, v = .ref a → H a = some o → H' a = some o) : OwnV C O H' v d := by
  cases h with
  | lst n e r => exact .lst n (s _ _ rfl e) (r.lift k fun _ _ n => n)
  | dct n e q r => exact .dct n (s _ _ rfl e) q (r.lift k fun _ _ n => n)
  | dctT n e q r => exact .dctT n (s _ _ rfl e) q (r.lift k fun _ _ n => n)
/-- behind an expression -/
theorem RelS.after (r : RelS C F H0 own σ H env k) (h : KeptS C H H') (c : H' C.aS = some (.lst [.ref C.aN, .int k'])) (nN : C.aN ≠ C.aS) : RelS C F H0 own σ H' env k' := by
  refine ⟨r.len, c, h.rd r.nums nN, r.fS, r.fN, fun a z => h.alive c (r.ftr a z), fun a o e n => h a o (r.base a o e n) n, fun i d e => ?_, fun i hi => ?_, r.inj⟩
  · obtain ⟨v, e1, q⟩ := r.var i d e
    refine ⟨v, e1, ?_⟩
    rcases q with ⟨n, q⟩ | ⟨m, q⟩
    · exact .inl ⟨n, q.lift (r.kept h) fun _ _ n => n⟩
    · refine .inr ⟨m, q.step (r.kept h) fun a o ev ea => h a o ea ?_⟩
      subst ev
      exact r.ownNe m e1
  · obtain ⟨a, e1, nf, nN', h0, n⟩ := r.mine i hi
    exact ⟨a, e1, nf, nN', h0, h.alive c n⟩
theorem RelS.aNS (r : RelS C F H0 own σ H env k) : C.aN ≠ C.aS := fun e => r.fN (e ▸ r.fS)
theorem RelS.same (r : RelS C F H0 own σ H env k) (h : Same H H') : RelS C F H0 own σ H' env k := r.after (KeptS.of_same h) (h _ _ r.cell) r.aNS
theorem RelS.cellS {env' : Env} {k2 : Int} (r : RelS C F H0 own σ H env k) (r' : RelS C F H0 own σ H env' k2) : k = k2 := by
  have := r.cell.symm.trans r'.cell
  simpa using this
theorem RelS.swap {env : Env} (r : RelS C F H0 own σ H env k) {σ' : St} {env' : Env} (r' : RelS C F H0 own σ' H' env' k') (kp : KeptS C H H') : RelS C F H0 own σ H' env k' := r.after kp r'.cell r.aNS
end

/-! ### the judgement -/
abbrev Ev := Env → Int → R D
/-- what follows an outcome x of a step from H: Z tells of the value -/
def After (C : Cn) (F : Addr → Prop) (H0 : Hp) (own : List Nat) (E : XK) (σ : St) (H : Hp) (env : Env) (x : R D) (Z : Hp → V → D → Prop) (Q : VK) : Prop :=
  match x with
  | .ok d k' => ∀ v H', RelS C F H0 own σ H' env k' → KeptS C H H' → Z H' v d → Q v H'
  | .ex c k' => ∀ H', RelS C F H0 own σ H' env k' → KeptS C H H' → E ((C.mg c).getD .none) none H'
  | .no => False
/-- the reading of an expression that computes m -/
def tEv (C : Cn) (F : Addr → Prop) (H0 : Hp) (own : List Nat) (m : Ev) (E : XK) : TE := fun σ H Q => ∃ env k, RelS C F H0 own σ H env k ∧
  After C F H0 own E σ H env (m env k) (fun H' v d => Rp C (OA F own σ) H' v d) Q

/-- a block's names: as they stand where it runs, and as they were written -/
structure Bl where
  sc : Scope
  own : Scope
  top : Bool
abbrev Bl.names (b : Bl) : List (Str × NameKind) := b.sc.names
structure Good (C : Cn) (lvl : Nat) (sc : Bl) (N : List Str) (E : XK) (X : Cx) : Prop where
  prog : X.prog = C.P
  w : X.w = C.w
  K : X.K = C.K
  mg : X.mg = C.mg
  base : X.base = C.base
  calm : X.calm = true
  scope : X.env.scope = sc.sc
  kind : X.env.blockKind = .function
  fn : ∀ x, sc.own.names.lookup x = some .cell → X.fn x = true
  hN : X.N = N
  nd : X.N.Nodup
  room : Room lvl X.A
  guards : X.A.guards = some []
  takes : L2N.Takes X (fun cls d _ H => E cls d H)
  top : sc.top = true → X.stack = X.env :: X.outer ∧ X.env.frame = some X.env.locals
  pass : PassesOwn (model X.prog X.w) X.A X.env X.xe

def DE (C : Cn) (lvl : Nat) (sc : Bl) (N : List Str) (own : List Nat) (e : Expr) (m : Ev) : Prop :=
  ∀ (F : Addr → Prop) (H0 : Hp) (E : XK) (X : Cx), Good C lvl sc N E X → PE X e (tEv C F H0 own m E)

theorem PE.imp {X : Cx} {e : Expr} {t t' : TE} (h : PE X e t) (i : ∀ σ H Q, t' σ H Q → t σ H Q) : PE X e t' :=
  ⟨fun pins s σ H Q I q => h.run pins s σ H Q I (i σ H Q q)⟩
theorem PT.imp {X : Cx} {e : Expr} {t t' : TT} (h : PT X e t) (i : ∀ σ H Q, t' σ H Q → t σ H Q) : PT X e t' :=
  ⟨fun pins s σ H Q I q => h.run pins s σ H Q I (i σ H Q q)⟩
theorem PW.imp {X : Cx} {e : Expr} {t t' : TT} (h : PW X e t) (i : ∀ σ H Q, t' σ H Q → t σ H Q) : PW X e t' :=
  ⟨fun wh pins s σ H Q I q => h.run wh pins s σ H Q I (i σ H Q q)⟩
theorem PA.imp {X : Cx} {es : List Expr} {t t' : TA} (h : PA X es t) (i : ∀ σ H Q, t' σ H Q → t σ H Q) : PA X es t' :=
  ⟨fun pos pins s σ H Q I q => h.run pos pins s σ H Q I (i σ H Q q)⟩
theorem PS.imp {X : Cx} {st : Stmt} {t t' : TS} (h : PS X st t) (i : ∀ D σ H, t' D σ H → t D σ H) : PS X st t' :=
  ⟨fun pins s σ H D I q => h.run pins s σ H D I (i D σ H q)⟩
theorem PSs.imp {X : Cx} {st : List Stmt} {t t' : TS} (h : PSs X st t) (i : ∀ D σ H, t' D σ H → t D σ H) : PSs X st t' :=
  ⟨fun pins s σ H D I q => h.run pins s σ H D I (i D σ H q)⟩
theorem PI.imp {X : Cx} {tg it : Expr} {t t' : TI} (h : PI X tg it t) (i : ∀ σ H R, t' σ H R → t σ H R) : PI X tg it t' :=
  ⟨fun pins s σ H R I q => h.run pins s σ H R I (i σ H R q)⟩
theorem PG.imp {X : Cx} {tg : Expr} {t t' : TG} (h : PG X tg t) (i : ∀ v σ H Q, t' v σ H Q → t v σ H Q) : PG X tg t' :=
  ⟨fun pins s σ H v u Q I r q => h.run pins s σ H v u Q I r (i v σ H Q q)⟩

/-! ### constants and names -/
section
variable {C : Cn} {lvl : Nat} {sc : Bl} {N : List Str} {own : List Nat} {pos : Pos}
def eC (d : D) : Ev := fun _ k => .ok d k
def eVar (i : Nat) : Ev := fun env k => match env[i]? with
  | some (some d) => .ok d k
  | _ => .no
theorem de_int {i : Int} {j : Nat} : DE C lvl sc N own (.Constant (.int i) j pos) (eC (.int i)) := fun F H0 E X G =>
  PE.imp pe_int fun σ H Q ⟨env, k, r, h⟩ => h _ _ r KeptS.refl (Rp.int i)
theorem de_bl {b : Bool} {j : Nat} : DE C lvl sc N own (.Constant (.bool b) j pos) (eC (.bl b)) := fun F H0 E X G =>
  PE.imp pe_bl fun σ H Q ⟨env, k, r, h⟩ => h _ _ r KeptS.refl (Rp.bl b)
theorem de_non {j : Nat} : DE C lvl sc N own (.Constant .none j pos) (eC .non) := fun F H0 E X G =>
  PE.imp pe_non fun σ H Q ⟨env, k, r, h⟩ => h _ _ r KeptS.refl Rp.non
theorem de_str {x : Str} {j : Nat} : DE C lvl sc N own (.Constant (.str x) j pos) (eC (.str x)) := fun F H0 E X G =>
  PE.imp pe_str fun σ H Q ⟨env, k, r, h⟩ => h _ _ r KeptS.refl (Rp.str x)
/-- a name that stands in slot i -/
def okVar (sc : Bl) (N : List Str) (i : Nat) (x : Str) : Bool :=
  (N[i]? == some x) && (sc.names.lookup x == some .local || sc.names.lookup x == some .cell || sc.names.lookup x == some .free) && (x == ("__debug__" : Str)) == false && (x == ("__classdict__" : Str)) == false
theorem okVar.pe {X : Cx} {E : XK} (G : Good C lvl sc N E X) {i : Nat} {x : Str} (h : okVar sc N i x = true) : PE X (.Name x pos) (tVar i) := by
  unfold okVar at h
  simp only [Bool.and_eq_true, Bool.or_eq_true, beq_iff_eq, Bool.not_eq_true'] at h
  obtain ⟨⟨⟨h1, h2⟩, h3⟩, h4⟩ := h
  refine pe_var (by rw [G.hN]; exact h1) ?_ (by simpa using h3) (by simpa using h4)
  unfold Vis
  rw [G.scope]
  rcases h2 with (h2 | h2) | h2
  · exact .inl h2
  · exact .inr (.inl h2)
  · exact .inr (.inr h2)
theorem de_var {i : Nat} {x : Str} (h : okVar sc N i x = true) (ho : i ∉ own) : DE C lvl sc N own (.Name x pos) (eVar i) := fun F H0 E X G => by
  refine PE.imp (okVar.pe G h) fun σ H Q ⟨env, k, r, q⟩ => ?_
  cases e : env[i]? with
  | none =>
    have hm : eVar i env k = .no := by unfold eVar; rw [e]
    rw [hm] at q
    exact q.elim
  | some o =>
    cases o with
    | none =>
      have hm : eVar i env k = .no := by unfold eVar; rw [e]
      rw [hm] at q
      exact q.elim
    | some d =>
      have hm : eVar i env k = .ok d k := by unfold eVar; rw [e]
      rw [hm] at q
      obtain ⟨v, e1, z⟩ := r.var _ _ e
      rcases z with ⟨_, z⟩ | ⟨z, _⟩
      · exact ⟨v, e1, q v H r KeptS.refl z⟩
      · exact absurd z ho
end
end PL

set_option maxHeartbeats 4000000
/-! PL1: borrowed and fresh values; lists of arguments; operators. -/
namespace PL
open PySem PySem.Spec L2

section
variable {C : Cn} {O : Addr → Prop} {H H' : Hp} {v : V} {d : D}
/-- a value that is only looked at -/
def Rb (C : Cn) (O : Addr → Prop) (H : Hp) (v : V) (d : D) : Prop := Rp C O H v d ∨ OwnV C O H v d
theorem Rb.intE {i : Int} (h : Rb C O H v (.int i)) : v = .int i := by
  rcases h with h | h <;> cases h <;> rfl
theorem Rb.blE {b : Bool} (h : Rb C O H v (.bl b)) : v = .bl b := by
  rcases h with h | h <;> cases h <;> rfl
theorem Rb.strE {x : Str} (h : Rb C O H v (.str x)) : v = .str x := by
  rcases h with h | h <;> cases h <;> rfl
theorem Rb.nonE (h : Rb C O H v .non) : v = .non := by
  rcases h with h | h <;> cases h <;> rfl
theorem Rb.lstE {ds : List D} (h : Rb C O H v (.lst ds)) : ∃ a xs, v = .ref a ∧ H a = some (.lst xs) ∧ RpL C O H xs ds := by
  rcases h with h | h
  · cases h with
    | lst a _ r => exact ⟨_, _, rfl, a, r⟩
  · cases h with
    | lst _ a r => exact ⟨_, _, rfl, a, r⟩
theorem Rb.tupE {ds : List D} (h : Rb C O H v (.tup ds)) : ∃ a xs, v = .ref a ∧ SqT C.K H a xs ∧ RpL C O H xs ds := by
  rcases h with h | h
  · cases h with
    | tup a r => exact ⟨_, _, rfl, a, r⟩
  · cases h
theorem Rb.dctE {ds : List (Key × D)} (h : Rb C O H v (.dct ds)) : ∃ a kvs, v = .ref a ∧ Rd H a (.dK kvs) ∧ kvs.map (·.1) = ds.map (·.1) ∧ RpL C O H (kvs.map (·.2)) (ds.map (·.2)) := by
  rcases h with h | h
  · cases h with
    | dct a _ e r => exact ⟨_, _, rfl, a, e, r⟩
  · cases h with
    | dct _ a e r => exact ⟨_, _, rfl, .inl a, e, r⟩
theorem Rb.dctTE {ds : List (List Key × D)} (h : Rb C O H v (.dctT ds)) : ∃ a kvs, v = .ref a ∧ Rd H a (.dT kvs) ∧ kvs.map (·.1) = ds.map (·.1) ∧ RpL C O H (kvs.map (·.2)) (ds.map (·.2)) := by
  rcases h with h | h
  · cases h with
    | dctT a _ e r => exact ⟨_, _, rfl, a, e, r⟩
  · cases h with
    | dctT _ a e r => exact ⟨_, _, rfl, .inl a, e, r⟩
theorem OwnV.neS (h : OwnV C O H v d) {a : Addr} (e : v = .ref a) : a ≠ C.aS := by
  cases h <;> cases e <;> assumption
theorem Rp.b (h : Rp C O H v d) : Rb C O H v d := .inl h
theorem Rb.kept (h : Rb C O H v d) (k : Kept O H H') (s : ∀ a o, H a = some o → OwnV C O H (.ref a) d → H' a = some o) : Rb C O H' v d := by
  rcases h with h | h
  · exact .inl (h.lift k fun _ _ n => n)
  · refine .inr (h.step k fun a o e q => s a o q ?_)
    subst e
    exact h
/-- a value made by the expression itself, held by nobody else -/
def FrV (C : Cn) (O : Addr → Prop) (H H' : Hp) (v : V) (d : D) : Prop := ∃ a, v = .ref a ∧ H a = none ∧ OwnV C (fun b => O b ∨ b = a) H' v d
theorem OwnV.rp {a : Addr} (h : OwnV C O H (.ref a) d) {O' : Addr → Prop} (n : ¬ O' a) (m : ∀ b, O' b → O b) : Rp C O' H (.ref a) d := by
  cases h with
  | lst _ e r => exact .lst e n (r.less m)
  | dct _ e q r => exact .dct (.inl e) n q (r.less m)
  | dctT _ e q r => exact .dctT (.inl e) n q (r.less m)
theorem FrV.rp (h : FrV C O H H' v d) (tr : ∀ a, O a → H a ≠ none) : Rp C O H' v d := by
  obtain ⟨a, rfl, n, w⟩ := h
  exact w.rp (fun z => tr a z n) fun b z => .inl z
end

/-- looked at -/
def tEvB (C : Cn) (F : Addr → Prop) (H0 : Hp) (own : List Nat) (m : Ev) (E : XK) : TE := fun σ H Q => ∃ env k, RelS C F H0 own σ H env k ∧
  After C F H0 own E σ H env (m env k) (fun H' v d => Rb C (OA F own σ) H' v d) Q
/-- made -/
def tEvF (C : Cn) (F : Addr → Prop) (H0 : Hp) (own : List Nat) (m : Ev) (E : XK) : TE := fun σ H Q => ∃ env k, RelS C F H0 own σ H env k ∧
  After C F H0 own E σ H env (m env k) (fun H' v d => FrV C (OA F own σ) H H' v d) Q
def DB (C : Cn) (lvl : Nat) (sc : Bl) (N : List Str) (own : List Nat) (e : Expr) (m : Ev) : Prop :=
  ∀ (F : Addr → Prop) (H0 : Hp) (E : XK) (X : Cx), Good C lvl sc N E X → PE X e (tEvB C F H0 own m E)
def DF (C : Cn) (lvl : Nat) (sc : Bl) (N : List Str) (own : List Nat) (e : Expr) (m : Ev) : Prop :=
  ∀ (F : Addr → Prop) (H0 : Hp) (E : XK) (X : Cx), Good C lvl sc N E X → PE X e (tEvF C F H0 own m E)

section
variable {C : Cn} {lvl : Nat} {sc : Bl} {N : List Str} {own : List Nat} {pos : Pos} {ex : Expr} {m : Ev}
theorem After.mono {F : Addr → Prop} {H0 H : Hp} {E : XK} {σ : St} {env : Env} {x : R D} {Z Z' : Hp → V → D → Prop} {Q Q' : VK} (h : After C F H0 own E σ H env x Z Q)
    (i : ∀ d k' v H', x = .ok d k' → RelS C F H0 own σ H' env k' → KeptS C H H' → Z' H' v d → Z H' v d ∧ (Q v H' → Q' v H')) : After C F H0 own E σ H env x Z' Q' := by
  cases x with
  | ok d k' => exact fun v H' r' kp z => (i d k' v H' rfl r' kp z).2 (h v H' r' kp (i d k' v H' rfl r' kp z).1)
  | ex c k' => exact h
  | no => exact h
theorem DE.b (h : DE C lvl sc N own ex m) : DB C lvl sc N own ex m := fun F H0 E X G => PE.imp (h F H0 E X G) fun σ H Q ⟨env, k, r, q⟩ =>
  ⟨env, k, r, q.mono fun d k' v H' _ r' kp z => ⟨z.b, fun q => q⟩⟩
theorem DF.e (h : DF C lvl sc N own ex m) : DE C lvl sc N own ex m := fun F H0 E X G => PE.imp (h F H0 E X G) fun σ H Q ⟨env, k, r, q⟩ =>
  ⟨env, k, r, q.mono fun d k' v H' _ r' kp z => ⟨z.rp r.tracked, fun q => q⟩⟩
theorem db_var {i : Nat} {x : Str} (h : okVar sc N i x = true) : DB C lvl sc N own (.Name x pos) (eVar i) := fun F H0 E X G => by
  refine PE.imp (okVar.pe G h) fun σ H Q ⟨env, k, r, q⟩ => ?_
  cases e : env[i]? with
  | none =>
    have hm : eVar i env k = .no := by unfold eVar; rw [e]
    rw [hm] at q
    exact q.elim
  | some o =>
    cases o with
    | none =>
      have hm : eVar i env k = .no := by unfold eVar; rw [e]
      rw [hm] at q
      exact q.elim
    | some d =>
      have hm : eVar i env k = .ok d k := by unfold eVar; rw [e]
      rw [hm] at q
      obtain ⟨v, e1, z⟩ := r.var _ _ e
      refine ⟨v, e1, q v H r KeptS.refl ?_⟩
      rcases z with ⟨_, z⟩ | ⟨_, z⟩
      · exact .inl z
      · exact .inr z
end

/-! ### two places -/
/-- an outcome goes on -/
def R.bind {α β : Type} (x : R α) (f : α → Int → R β) : R β := match x with
  | .ok a k => f a k
  | .ex c k => .ex c k
  | .no => .no
def R.of {α : Type} (x : Option α) (k : Int) : R α := match x with
  | some a => .ok a k
  | none => .no
def e2 (f : D → D → Option D) (a b : Ev) : Ev := fun env k => (a env k).bind fun x k1 => (b env k1).bind fun y k2 => .of (f x y) k2
def e1 (f : D → Option D) (a : Ev) : Ev := fun env k => (a env k).bind fun x k1 => .of (f x) k1

def OpJ (C : Cn) (lvl : Nat) (g : Value → Value → Sem Value) (f : D → D → Option D) : Prop := ∀ (sc : Bl) (N : List Str) (E : XK) (X : Cx), Good C lvl sc N E X →
  OpR X g fun x y H Q => ∃ O d e r, ((∀ a, O a → H a ≠ none) ∧ O C.aS) ∧ Rb C O H x d ∧ Rb C O H y e ∧ f d e = some r ∧ ∀ v H', Same H H' → Rp C O H' v r → Q v H'
def OpJF (C : Cn) (lvl : Nat) (g : Value → Value → Sem Value) (f : D → D → Option D) : Prop := ∀ (sc : Bl) (N : List Str) (E : XK) (X : Cx), Good C lvl sc N E X →
  OpR X g fun x y H Q => ∃ O d e r, ((∀ a, O a → H a ≠ none) ∧ O C.aS) ∧ Rb C O H x d ∧ Rb C O H y e ∧ f d e = some r ∧ ∀ v H', Same H H' → FrV C O H H' v r → Q v H'
section
variable {C : Cn} {lvl : Nat} {sc : Bl} {N : List Str} {own : List Nat} {pos : Pos} {a b : Expr} {ma mb : Ev}
/-- what was looked at ahead of a further expression -/
theorem Rb.after {F : Addr → Prop} {H0 H H' : Hp} {σ : St} {env : Env} {k : Int} {v : V} {d : D} (r : RelS C F H0 own σ H env k) (kp : KeptS C H H') (h : Rb C (OA F own σ) H v d) : Rb C (OA F own σ) H' v d := by
  rcases h with h | h
  · exact .inl (h.lift (r.kept kp) fun _ _ n => n)
  · exact .inr (h.step (r.kept kp) fun a o e q => kp a o q (h.neS e))
theorem FrV.back {O : Addr → Prop} {H H1 H' : Hp} {v : V} {d : D} (h : FrV C O H1 H' v d) (kp : KeptS C H H1) {x : HO} (c : H1 C.aS = some x) : FrV C O H H' v d := by
  obtain ⟨a, e, n, w⟩ := h
  refine ⟨a, e, ?_, w⟩
  cases q : H a with
  | none => rfl
  | some o => exact absurd n (kp.alive c (by rw [q]; exact fun z => by cases z))
/-- one part, then what follows -/
theorem After.bind {F : Addr → Prop} {H0 H : Hp} {E : XK} {σ : St} {env : Env} {k : Int} {m : Ev} {f : D → Int → R D} {Z Z' : Hp → V → D → Prop} {Q Q' : VK} (r : RelS C F H0 own σ H env k)
    (h : After C F H0 own E σ H env ((m env k).bind f) Z Q)
    (go : ∀ d k1 v H1, m env k = .ok d k1 → RelS C F H0 own σ H1 env k1 → KeptS C H H1 → Z' H1 v d → After C F H0 own E σ H1 env (f d k1) Z Q → Q' v H1) :
    After C F H0 own E σ H env (m env k) Z' Q' := by
  cases e : m env k with
  | ok d k1 =>
    rw [e] at h
    have h : After C F H0 own E σ H env (f d k1) Z Q := h
    intro v H1 r1 kp z
    refine go d k1 v H1 e r1 kp z ?_
    cases e2 : f d k1 with
    | ok d2 k2 =>
      rw [e2] at h
      exact fun v2 H2 r2 kp2 z2 => h v2 H2 r2 (kp.trans kp2) z2
    | ex c k2 =>
      rw [e2] at h
      exact fun H2 r2 kp2 => h H2 r2 (kp.trans kp2)
    | no =>
      rw [e2] at h
      exact h
  | ex c k1 =>
    rw [e] at h
    exact h
  | no =>
    rw [e] at h
    exact h
theorem After.some {F : Addr → Prop} {H0 H : Hp} {E : XK} {σ : St} {env : Env} {k : Int} {x : Option D} {Z : Hp → V → D → Prop} {Q : VK} (h : After C F H0 own E σ H env (R.of x k) Z Q) :
    ∃ d, x = some d ∧ ∀ v H', RelS C F H0 own σ H' env k → KeptS C H H' → Z H' v d → Q v H' := by
  cases x with
  | none => exact h.elim
  | some d => exact ⟨d, rfl, h⟩
theorem de_bin {op : Operator} {f : D → D → Option D} (ho : OpJ C lvl (binaryOp op) f) (ha : DB C lvl sc N own a ma) (hb : DB C lvl sc N own b mb) : DE C lvl sc N own (.BinOp a op b pos) (e2 f ma mb) := fun F H0 E X G =>
  PE.imp (pe_op (ho sc N E X G) (ha F H0 E X G) (hb F H0 E X G)) fun σ H Q ⟨env, k, r, q⟩ => by
    refine ⟨env, k, r, q.bind r fun d k1 v H1 _ r1 kp1 z1 q1 => ⟨env, k1, r1, q1.bind r1 fun e k2 w H2 _ r2 kp2 z2 q2 => ?_⟩⟩
    obtain ⟨x, ex, q3⟩ := q2.some
    exact ⟨_, d, e, x, ⟨r2.tracked, r2.oaS⟩, z1.after r1 kp2, z2, ex, fun v H' s z => q3 v H' (r2.same s) (.of_same s) z⟩
theorem df_bin {op : Operator} {f : D → D → Option D} (ho : OpJF C lvl (binaryOp op) f) (ha : DB C lvl sc N own a ma) (hb : DB C lvl sc N own b mb) : DF C lvl sc N own (.BinOp a op b pos) (e2 f ma mb) := fun F H0 E X G =>
  PE.imp (pe_op (ho sc N E X G) (ha F H0 E X G) (hb F H0 E X G)) fun σ H Q ⟨env, k, r, q⟩ => by
    refine ⟨env, k, r, q.bind r fun d k1 v H1 _ r1 kp1 z1 q1 => ⟨env, k1, r1, q1.bind r1 fun e k2 w H2 _ r2 kp2 z2 q2 => ?_⟩⟩
    obtain ⟨x, ex, q3⟩ := q2.some
    exact ⟨_, d, e, x, ⟨r2.tracked, r2.oaS⟩, z1.after r1 kp2, z2, ex, fun v H' s z => q3 v H' (r2.same s) (.of_same s) (z.back (kp1.trans kp2) r2.cell)⟩
end
end PL

set_option maxHeartbeats 4000000
/-! PL2: data as the library's data; sums, products, comparisons. -/
namespace PL
open PySem PySem.Spec L2
open Classical

/-! ### as the library's data -/
mutual
def D.py : D → PyData
  | .non => .none
  | .bl b => .bool b
  | .int i => .int i
  | .str x => .str x
  | .tup xs => .tuple (D.pyL xs)
  | .lst xs => .list (D.pyL xs)
  | .dct _ => .none
  | .dctT _ => .none
  | .fn _ => .none
  | .cell => .none
def D.pyL : List D → List PyData
  | [] => []
  | x :: xs => D.py x :: D.pyL xs
end
theorem D.pyL_map : ∀ xs : List D, D.pyL xs = xs.map D.py
  | [] => by rw [D.pyL]; rfl
  | x :: xs => by rw [D.pyL, D.pyL_map xs]; rfl
/-- numbers, truths, texts, none, tuples and lists of such, at most n deep -/
def Pu : Nat → D → Prop
  | _, .non => True
  | _, .bl _ => True
  | _, .int _ => True
  | _, .str _ => True
  | n + 1, .tup xs => ∀ x ∈ xs, Pu n x
  | n + 1, .lst xs => ∀ x ∈ xs, Pu n x
  | _, _ => False
section
variable {C : Cn} {O : Addr → Prop} {H H' : Hp} {v : V} {d : D}
theorem Pu.mono : ∀ {n m : Nat} {d : D}, Pu n d → n ≤ m → Pu m d
  | _, _, .non, _, _ => by simp [Pu]
  | _, _, .bl _, _, _ => by simp [Pu]
  | _, _, .int _, _, _ => by simp [Pu]
  | _, _, .str _, _, _ => by simp [Pu]
  | 0, _, .tup _, h, _ => by simp [Pu] at h
  | 0, _, .lst _, h, _ => by simp [Pu] at h
  | n + 1, 0, _, _, l => absurd l (by omega)
  | n + 1, m + 1, .tup xs, h, l => by
    rw [Pu] at h ⊢
    exact fun x hx => Pu.mono (h x hx) (by omega)
  | n + 1, m + 1, .lst xs, h, l => by
    rw [Pu] at h ⊢
    exact fun x hx => Pu.mono (h x hx) (by omega)
  | 0, _, .dct _, h, _ => by simp [Pu] at h
  | n + 1, _, .dct _, h, _ => by simp [Pu] at h
  | 0, _, .dctT _, h, _ => by simp [Pu] at h
  | n + 1, _, .dctT _, h, _ => by simp [Pu] at h
  | 0, _, .fn _, h, _ => by simp [Pu] at h
  | n + 1, _, .fn _, h, _ => by simp [Pu] at h
  | 0, _, .cell, h, _ => by simp [Pu] at h
  | n + 1, _, .cell, h, _ => by simp [Pu] at h
theorem Pu.plain : ∀ {n : Nat} {d : D}, Pu n d → d.py.plain = true ∧ d.py.depth ≤ n
  | _, .non, _ => by simp [D.py, PyData.plain, PyData.depth]
  | _, .bl _, _ => by simp [D.py, PyData.plain, PyData.depth]
  | _, .int _, _ => by simp [D.py, PyData.plain, PyData.depth]
  | _, .str _, _ => by simp [D.py, PyData.plain, PyData.depth]
  | 0, .tup _, h => by simp [Pu] at h
  | 0, .lst _, h => by simp [Pu] at h
  | n + 1, .tup xs, h => by
    rw [Pu] at h
    have : PyData.plainAll (D.pyL xs) = true ∧ PyData.depthAll (D.pyL xs) ≤ n := by
      induction xs with
      | nil => simp [D.pyL, PyData.plainAll, PyData.depthAll]
      | cons x xs ih =>
        have a := Pu.plain (h x List.mem_cons_self)
        have b := ih fun y hy => h y (List.mem_cons_of_mem _ hy)
        rw [D.pyL, PyData.plainAll, PyData.depthAll]
        exact ⟨by rw [a.1, b.1]; rfl, Nat.max_le.mpr ⟨a.2, b.2⟩⟩
    rw [D.py, PyData.plain, PyData.depth]
    exact ⟨this.1, by omega⟩
  | n + 1, .lst xs, h => by
    rw [Pu] at h
    have : PyData.plainAll (D.pyL xs) = true ∧ PyData.depthAll (D.pyL xs) ≤ n := by
      induction xs with
      | nil => simp [D.pyL, PyData.plainAll, PyData.depthAll]
      | cons x xs ih =>
        have a := Pu.plain (h x List.mem_cons_self)
        have b := ih fun y hy => h y (List.mem_cons_of_mem _ hy)
        rw [D.pyL, PyData.plainAll, PyData.depthAll]
        exact ⟨by rw [a.1, b.1]; rfl, Nat.max_le.mpr ⟨a.2, b.2⟩⟩
    rw [D.py, PyData.plain, PyData.depth]
    exact ⟨this.1, by omega⟩
  | 0, .dct _, h => by simp [Pu] at h
  | n + 1, .dct _, h => by simp [Pu] at h
  | 0, .dctT _, h => by simp [Pu] at h
  | n + 1, .dctT _, h => by simp [Pu] at h
  | 0, .fn _, h => by simp [Pu] at h
  | n + 1, .fn _, h => by simp [Pu] at h
  | 0, .cell, h => by simp [Pu] at h
  | n + 1, .cell, h => by simp [Pu] at h
mutual
theorem Rp.dp : ∀ {v : V} {d : D}, Rp C O H v d → ∀ {n : Nat}, Pu n d → Dp C.K H v d.py
  | _, _, .non, _, _ => by rw [D.py]; exact .non
  | _, _, .bl b, _, _ => by rw [D.py]; exact .bl b
  | _, _, .int i, _, _ => by rw [D.py]; exact .int i
  | _, _, .str x, _, _ => by rw [D.py]; exact .str x
  | _, _, .tup h r, 0, p => by simp [Pu] at p
  | _, _, .lst h _ r, 0, p => by simp [Pu] at p
  | _, _, .tup h r, n + 1, p => by
    rw [Pu] at p
    rw [D.py]
    exact .tup h (RpL.dp r p)
  | _, _, .lst h _ r, n + 1, p => by
    rw [Pu] at p
    rw [D.py]
    exact .lst (.inl (.inl h)) (RpL.dp r p)
  | _, _, .dct .., 0, p => by simp [Pu] at p
  | _, _, .dct .., n + 1, p => by simp [Pu] at p
  | _, _, .dctT .., 0, p => by simp [Pu] at p
  | _, _, .dctT .., n + 1, p => by simp [Pu] at p
  | _, _, .fn _, 0, p => by simp [Pu] at p
  | _, _, .fn _, n + 1, p => by simp [Pu] at p
  | _, _, .cell, 0, p => by simp [Pu] at p
  | _, _, .cell, n + 1, p => by simp [Pu] at p
theorem RpL.dp : ∀ {vs : List V} {ds : List D}, RpL C O H vs ds → ∀ {n : Nat}, (∀ x ∈ ds, Pu n x) → DpAll C.K H vs (D.pyL ds)
  | _, _, .nil, _, _ => by rw [D.pyL]; exact .nil
  | _, _, .cons h r, _, p => by
    rw [D.pyL]
    exact .cons (Rp.dp h (p _ List.mem_cons_self)) (RpL.dp r fun y hy => p y (List.mem_cons_of_mem _ hy))
end
theorem Rb.dp {n : Nat} (h : Rb C O H v d) (p : Pu n d) : Dp C.K H v d.py := by
  rcases h with h | h
  · exact h.dp p
  · cases h with
    | lst _ e r =>
      cases n with
      | zero => simp [Pu] at p
      | succ n =>
        rw [Pu] at p
        rw [D.py]
        exact .lst (.inl (.inl e)) (r.dp p)
    | dct => cases n <;> simp [Pu] at p
    | dctT => cases n <;> simp [Pu] at p
end

/-! ### new objects -/
section
variable {C : Cn} {O : Addr → Prop} {H : Hp} {p : Addr}
theorem same_new {o : HO} (h : H p = none) : Same H (upd H p o) := fun b x e => by
  rw [upd_ne (ne_of_none e h)]
  exact e
theorem frv_lst {xs : List V} {ds : List D} (h : H p = none) (hs : p ≠ C.aS) (r : RpL C O H xs ds) : FrV C O H (upd H p (.lst xs)) (.ref p) (.lst ds) :=
  ⟨p, rfl, h, .lst hs upd_same (r.lift (O' := fun b => O b ∨ b = p) (Kept.of_same (same_new h)) fun a n no z => z.elim no fun e => n (e ▸ h))⟩
theorem rp_tup {xs : List V} {ds : List D} (h : H p = none) (r : RpL C O H xs ds) : Rp C O (upd H p (.tup xs)) (.ref p) (.tup ds) :=
  .tup (.inl (.inl upd_same)) (r.same (same_new h))
theorem rp_lst {xs : List V} {ds : List D} (h : H p = none) (tr : ∀ a, O a → H a ≠ none) (r : RpL C O H xs ds) : Rp C O (upd H p (.lst xs)) (.ref p) (.lst ds) :=
  .lst upd_same (fun z => tr p z h) (r.same (same_new h))
end

/-! ### operators -/
noncomputable def fAdd : D → D → Option D
  | .int i, .int j => some (.int (i + j))
  | .str x, .str y => if x.length + y.length ≤ sizeLine then some (.str (x ++ y)) else none
  | .tup xs, .tup ys => if xs.length + ys.length ≤ sizeLine then some (.tup (xs ++ ys)) else none
  | .lst xs, .lst ys => if xs.length + ys.length ≤ sizeLine then some (.lst (xs ++ ys)) else none
  | _, _ => none
noncomputable def fSub : D → D → Option D
  | .int i, .int j => some (.int (i - j))
  | _, _ => none
noncomputable def fMul : D → D → Option D
  | .int i, .int j => if CMul i j ∨ CMulW i j then some (.int (i * j)) else none
  | .lst xs, .int k => if k < 2 ^ 63 ∧ -(2 ^ 63) ≤ k ∧ xs.length * k.toNat ≤ sizeLine then some (.lst (List.replicate k.toNat xs).flatten) else none
  | .tup xs, .int k => if -(2 ^ 63) ≤ k ∧ k ≤ 1000 ∧ xs.length ≤ 1000 then some (.tup (List.replicate k.toNat xs).flatten) else none
  | _, _ => none
noncomputable def fMod : D → D → Option D
  | .int i, .int j => if 0 < j then some (.int (i % j)) else none
  | _, _ => none
noncomputable def fFdiv : D → D → Option D
  | .int i, .int j => if CDivW i j then some (.int (i / j)) else none
  | _, _ => none
noncomputable def fPow : D → D → Option D
  | .int i, .int j => if CPow i j then some (.int (i ^ j.toNat)) else none
  | _, _ => none
def D.isNon : D → Bool
  | .non => true
  | _ => false
/-- Python's == of data -/
noncomputable def eqD (x y : D) : Bool := PyData.eqv x.py y.py
noncomputable def ltD (x y : D) : Bool := PySem.W.dataLt x.py y.py
noncomputable def fEq (x y : D) : Option D := if Pu 40 x ∧ Pu 40 y then some (.bl (eqD x y)) else none
noncomputable def fNe (x y : D) : Option D := if Pu 40 x ∧ Pu 40 y then some (.bl (!eqD x y)) else none
def CmpOk (x y : D) : Prop := Pu 40 x ∧ Pu 40 y ∧ PySem.W.alike x.py y.py = true ∧ x ≠ .non
noncomputable def fLt (x y : D) : Option D := if CmpOk x y then some (.bl (ltD x y)) else none
noncomputable def fGt (x y : D) : Option D := if CmpOk x y then some (.bl (ltD y x)) else none
noncomputable def fLe (x y : D) : Option D := if CmpOk x y then some (.bl (!ltD y x)) else none
noncomputable def fGe (x y : D) : Option D := if CmpOk x y then some (.bl (!ltD x y)) else none
/-- what a dict holds -/
def lookD {κ : Type} [DecidableEq κ] (kvs : List (κ × D)) (k : κ) : Option D := (kvs.find? fun kv => decide (kv.1 = k)).map (·.2)
def putD {κ : Type} [DecidableEq κ] (kvs : List (κ × D)) (k : κ) (v : D) : List (κ × D) :=
  if (kvs.any fun kv => decide (kv.1 = k)) = true then kvs.map (fun kv => if kv.1 = k then (kv.1, v) else kv) else kvs ++ [(k, v)]
def keyD : D → Option Key
  | .int i => some (.inl i)
  | .str x => some (.inr x)
  | _ => none
noncomputable def inD (x : D) (ys : List D) : Bool := ys.any fun y => eqD y x
noncomputable def fIn (x y : D) : Option D := match y with
  | .lst ys => if Pu 40 x ∧ Pu 40 y then some (.bl (inD x ys)) else none
  | .tup ys => if Pu 40 x ∧ Pu 40 y then some (.bl (inD x ys)) else none
  | .dct kvs => (keyD x).map fun k => .bl (lookD kvs k).isSome
  | _ => none
noncomputable def fNotIn (x y : D) : Option D := match y with
  | .lst ys => if Pu 40 x ∧ Pu 40 y then some (.bl (!inD x ys)) else none
  | .tup ys => if Pu 40 x ∧ Pu 40 y then some (.bl (!inD x ys)) else none
  | .dct kvs => (keyD x).map fun k => .bl (!(lookD kvs k).isSome)
  | _ => none
noncomputable def fIsN (x y : D) : Option D := match y with
  | .non => some (.bl x.isNon)
  | _ => none
noncomputable def fNotN (x y : D) : Option D := match y with
  | .non => some (.bl (!x.isNon))
  | _ => none
end PL

set_option maxHeartbeats 4000000
/-! PT1: a tuple taken once, or not at all. -/
namespace PL
open PySem PySem.Spec PyProof.Rows L2
theorem tup_rep_none (l : Addr) (items : Array Value) (n : Nat) (dd : Option Addr) (sl : Array (Option Value)) (x : Int) (u : Tok)
    (h0 : (decide (x < -(2 ^ 63)) || decide (x ≥ 2 ^ 63)) = false) (h1 : (items.isEmpty || x == 1) = false) (h2 : (decide (x ≤ 0) || items.isEmpty) = true) :
    Meets (Builtin.«tuple.__mul__» ⟨[.ref l, .int x u], []⟩) (fun _ R s =>
      s.heap.get? l = some { cls := .type "tuple", dict := dd, data := .seq items n, slots := sl } ∧
      R (.ok (.ret (Value.ref s.heap.objs.size))) { s with heap := s.heap.push { cls := Value.type "tuple", data := Data.seq #[] }, toks := s.toks }) :=
  .of_wp fun prog w A R s h => by
    obtain ⟨hp, g, d, tk, os⟩ := s
    obtain ⟨hl, h⟩ := h
    have f1 := AutoSeq1.idx_int
    wp_walk using wpAny_loadPart' hl
    repeat (first
      | (refine wpAny_ite_false (decide_eq_false (by rw [h0]; exact Bool.false_ne_true)) ?_; wp_walk using wpAny_loadPart' hl)
      | (refine wpAny_ite_false (decide_eq_false (by rw [h1]; exact Bool.false_ne_true)) ?_; wp_walk using wpAny_loadPart' hl)
      | (refine wpAny_ite_true (decide_eq_true h2) ?_; wp_walk using wpAny_loadPart' hl))
    exact ⟨_, rfl, h⟩
theorem tup_rep_self (l : Addr) (items : Array Value) (n : Nat) (sl : Array (Option Value)) (dd : Option Addr) (x : Int) (u : Tok)
    (h0 : (decide (x < -(2 ^ 63)) || decide (x ≥ 2 ^ 63)) = false) (h1 : (items.isEmpty || x == 1) = true) :
    Meets (Builtin.«tuple.__mul__» ⟨[.ref l, .int x u], []⟩) (fun _ R s =>
      s.heap.get? l = some { cls := .type "tuple", dict := dd, data := .seq items n, slots := sl } ∧ R (.ok (.ret (Value.ref l))) s) :=
  .of_wp fun prog w A R s h => by
    obtain ⟨hp, g, d, tk, os⟩ := s
    obtain ⟨hl, h⟩ := h
    have f1 := AutoSeq1.idx_int
    wp_walk using wpAny_loadPart' hl
    repeat (first
      | (refine wpAny_ite_false (decide_eq_false (by rw [h0]; exact Bool.false_ne_true)) ?_; wp_walk using wpAny_loadPart' hl)
      | (refine wpAny_ite_true (decide_eq_true h1) ?_; wp_walk using wpAny_loadPart' hl))
    trace_state
    exact ⟨_, rfl, h⟩
end PL

set_option maxHeartbeats 4000000
/-! PL3: the operators keep to their functions. -/
namespace PL
open PySem PySem.Spec L2
open Classical

section
variable {C : Cn} {lvl : Nat}
theorem Inv.ofG {X : Cx} {sc : Bl} {N : List Str} {E : XK} (G : Good C lvl sc N E X) : X.K = C.K := G.K
theorem RpL.rep {O : Addr → Prop} {H : Hp} {xs : List V} {ds : List D} (r : RpL C O H xs ds) : ∀ k : Nat, RpL C O H (List.replicate k xs).flatten (List.replicate k ds).flatten
  | 0 => .nil
  | k + 1 => by
    rw [List.replicate_succ, List.replicate_succ, List.flatten_cons, List.flatten_cons]
    exact r.append (RpL.rep r k)
theorem tracked_ne {O : Addr → Prop} {H : Hp} (tr : ∀ a, O a → H a ≠ none) {p : Addr} (h : H p = none) : ¬ O p := fun z => tr p z h

theorem oj_add : OpJ C lvl (binaryOp .Add) fAdd := by
  intro sc N E X G pins s σ H x y v u Q I rx ry h
  obtain ⟨O, d, e, r, ⟨tr, tS⟩, hx, hy, hf, q⟩ := h
  cases d with
  | int i =>
    cases e with
    | int j =>
      obtain rfl := Option.some.inj hf
      exact op_add pins s σ H x y v u Q I rx ry ⟨i, j, hx.intE, hy.intE, q _ H (Same.refl H) (.int _)⟩
    | _ => cases hf
  | str i =>
    cases e with
    | str j =>
      by_cases hz : i.length + j.length ≤ sizeLine
      · have hf : (if i.length + j.length ≤ sizeLine then some (D.str (i ++ j)) else none) = some r := hf
        rw [if_pos hz] at hf
        obtain rfl := Option.some.inj hf
        exact op_add_str pins s σ H x y v u Q I rx ry ⟨i, j, hx.strE, hy.strE, hz, q _ H (Same.refl H) (.str _)⟩
      · have hf : (if i.length + j.length ≤ sizeLine then some (D.str (i ++ j)) else none) = some r := hf
        rw [if_neg hz] at hf
        cases hf
    | _ => cases hf
  | tup xs =>
    cases e with
    | tup ys =>
      have hf : (if xs.length + ys.length ≤ sizeLine then some (D.tup (xs ++ ys)) else none) = some r := hf
      by_cases hz : xs.length + ys.length ≤ sizeLine
      · rw [if_pos hz] at hf
        obtain rfl := Option.some.inj hf
        obtain ⟨a, vs, e1, ha, r1⟩ := hx.tupE
        obtain ⟨b, ws, e2, hb, r2⟩ := hy.tupE
        refine op_catA pins s σ H x y v u Q I rx ry ⟨a, b, vs, ws, e1, e2, G.K ▸ ha, G.K ▸ hb, by rw [r1.length, r2.length]; exact hz, fun z => ?_, fun _ z => ?_, fun _ _ p hp => ?_⟩
        · subst z
          cases r1
          exact q _ H (Same.refl H) (.tup hb r2)
        · subst z
          cases r2
          rw [List.append_nil] at q
          exact q _ H (Same.refl H) (.tup ha r1)
        · exact q _ _ (same_new hp) (rp_tup hp (r1.append r2))
      · rw [if_neg hz] at hf
        cases hf
    | _ => cases hf
  | lst xs =>
    cases e with
    | lst ys =>
      have hf : (if xs.length + ys.length ≤ sizeLine then some (D.lst (xs ++ ys)) else none) = some r := hf
      by_cases hz : xs.length + ys.length ≤ sizeLine
      · rw [if_pos hz] at hf
        obtain rfl := Option.some.inj hf
        obtain ⟨a, vs, e1, ha, r1⟩ := hx.lstE
        obtain ⟨b, ws, e2, hb, r2⟩ := hy.lstE
        exact op_cat pins s σ H x y v u Q I rx ry ⟨a, b, vs, ws, e1, e2, ha, hb, by rw [r1.length, r2.length]; exact hz, fun p hp => q _ _ (same_new hp) (rp_lst hp tr (r1.append r2))⟩
      · rw [if_neg hz] at hf
        cases hf
    | _ => cases hf
  | _ => cases e <;> cases hf
/-- of two lists: a new one -/
noncomputable def fCat : D → D → Option D
  | .lst xs, .lst ys => if xs.length + ys.length ≤ sizeLine then some (.lst (xs ++ ys)) else none
  | _, _ => none
theorem oj_cat : OpJF C lvl (binaryOp .Add) fCat := by
  intro sc N E X G pins s σ H x y v u Q I rx ry h
  obtain ⟨O, d, e, r, ⟨tr, tS⟩, hx, hy, hf, q⟩ := h
  cases d with
  | lst xs =>
    cases e with
    | lst ys =>
      have hf : (if xs.length + ys.length ≤ sizeLine then some (D.lst (xs ++ ys)) else none) = some r := hf
      by_cases hz : xs.length + ys.length ≤ sizeLine
      · rw [if_pos hz] at hf
        obtain rfl := Option.some.inj hf
        obtain ⟨a, vs, e1, ha, r1⟩ := hx.lstE
        obtain ⟨b, ws, e2, hb, r2⟩ := hy.lstE
        refine op_cat pins s σ H x y v u Q I rx ry ⟨a, b, vs, ws, e1, e2, ha, hb, by rw [r1.length, r2.length]; exact hz, fun p hp => q _ _ (same_new hp) (frv_lst hp (fun z => tr _ tS (z ▸ hp)) (r1.append r2))⟩
      · rw [if_neg hz] at hf
        cases hf
    | _ => cases hf
  | _ => cases e <;> cases hf
theorem oj_sub : OpJ C lvl (binaryOp .Sub) fSub := by
  intro sc N E X G pins s σ H x y v u Q I rx ry h
  obtain ⟨O, d, e, r, ⟨tr, tS⟩, hx, hy, hf, q⟩ := h
  cases d with
  | int i =>
    cases e with
    | int j =>
      obtain rfl := Option.some.inj hf
      exact op_sub pins s σ H x y v u Q I rx ry ⟨i, j, hx.intE, hy.intE, q _ H (Same.refl H) (.int _)⟩
    | _ => cases hf
  | _ => cases e <;> cases hf
theorem of_if {α : Type} {c : Prop} [Decidable c] {a r : α} (h : (if c then some a else none) = some r) : c ∧ a = r := by
  by_cases hc : c
  · rw [if_pos hc] at h
    exact ⟨hc, Option.some.inj h⟩
  · rw [if_neg hc] at h
    cases h
theorem oj_mod : OpJ C lvl (binaryOp .Mod) fMod := by
  intro sc N E X G pins s σ H x y v u Q I rx ry h
  obtain ⟨O, d, e, r, ⟨tr, tS⟩, hx, hy, hf, q⟩ := h
  cases d with
  | int i =>
    cases e with
    | int j =>
      unfold fMod at hf
      obtain ⟨hc, rfl⟩ := of_if hf
      exact op_mod pins s σ H x y v u Q I rx ry ⟨i, j, hx.intE, hy.intE, hc, q _ H (Same.refl H) (.int _)⟩
    | _ => cases hf
  | _ => cases e <;> cases hf
theorem oj_fdiv : OpJ C lvl (binaryOp .FloorDiv) fFdiv := by
  intro sc N E X G pins s σ H x y v u Q I rx ry h
  obtain ⟨O, d, e, r, ⟨tr, tS⟩, hx, hy, hf, q⟩ := h
  cases d with
  | int i =>
    cases e with
    | int j =>
      unfold fFdiv at hf
      obtain ⟨hc, rfl⟩ := of_if hf
      exact op_fdivW pins s σ H x y v u Q I rx ry ⟨i, j, hx.intE, hy.intE, hc, q _ H (Same.refl H) (.int _)⟩
    | _ => cases hf
  | _ => cases e <;> cases hf
theorem oj_pow : OpJ C lvl (binaryOp .Pow) fPow := by
  intro sc N E X G pins s σ H x y v u Q I rx ry h
  obtain ⟨O, d, e, r, ⟨tr, tS⟩, hx, hy, hf, q⟩ := h
  cases d with
  | int i =>
    cases e with
    | int j =>
      unfold fPow at hf
      obtain ⟨hc, rfl⟩ := of_if hf
      exact op_pow pins s σ H x y v u Q I rx ry ⟨i, j, hx.intE, hy.intE, hc, q _ H (Same.refl H) (.int _)⟩
    | _ => cases hf
  | _ => cases e <;> cases hf
end

/-! ### a tuple, so many times -/
section
open PyProof.Rows
variable {X : Cx}
theorem op_repT1 : OpR X (binaryOp .Mult) (fun x y H Q => ∃ l k xs, x = .ref l ∧ y = .int k ∧ SqT X.K H l xs ∧ -(2 ^ 63) ≤ k ∧ k < 2 ^ 63 ∧ ((xs = [] ∨ k = 1) ∧ Q (.ref l) H ∨ (xs ≠ [] ∧ k ≤ 0) ∧ ∀ p, H p = none → Q (.ref p) (upd H p (.tup [])))) := by
  intro pins s σ H x y v u Q I rx ry h
  obtain ⟨l, k, xs, rfl, rfl, hT, b1, b2, h⟩ := h
  cases rx
  obtain ⟨t, rfl⟩ := ry
  obtain ⟨its, r, ⟨⟨cls, dd, data, sl⟩, ho, hc, n, hd⟩, hs⟩ := I.tuple hT
  simp only at hc hd
  subst hc hd
  have hle : its.length = xs.length := r.length.symm
  have b0 : (decide (k < -(2 ^ 63)) || decide (k ≥ 2 ^ 63)) = false := by
    rw [decide_eq_false (by omega), decide_eq_false (by omega)] <;> rfl
  have hemp : xs = [] ↔ its = [] := by
    constructor
    · rintro rfl
      exact List.eq_nil_of_length_eq_zero hle
    · rintro rfl
      exact List.eq_nil_of_length_eq_zero hle.symm
  rcases h with ⟨h1, q⟩ | ⟨⟨h1, h2⟩, q⟩
  · have b3 : (its.toArray.isEmpty || k == 1) = true := by
      rcases h1 with h1 | h1
      · rw [hemp.mp h1]
        rfl
      · rw [h1, Bool.or_eq_true]
        exact .inr rfl
    refine wpAny_binaryOp_repeat_ref (T := "tuple") (U := "int") (by decide) ⟨_, ho, rfl⟩ (fun s' => typeIs_int s' k t) noFill_tuple_mul F.fills_int_mul F.slot_int_rmul repeat_tuple F.slot_int_index.lookup
      (call_meets F.slot_int_rmul (typeIs_int s k t) F.entry_int_rmul (F.args_int_rmul_2 _ _) (int_rmul_tuple k t l its.toArray n dd sl)
        ⟨ho, rfl, ⟨_, ho, rfl⟩, call_meets F.slot_tuple_mul ⟨_, ho, rfl⟩ F.entry_tuple_mul (F.args_tuple_mul_2 _ _) (tup_rep_self l its.toArray n sl dd k t b0 b3) ⟨ho, ?_⟩⟩)
    exact ⟨.ref l, H, I, rfl, q⟩
  · have hn : its.toArray.isEmpty = false := by
      cases its with
      | nil => exact absurd (hemp.mpr rfl) h1
      | cons a b => rfl
    have b3 : (its.toArray.isEmpty || k == 1) = false := by
      rw [hn, Bool.false_or]
      exact beq_eq_false_iff_ne.mpr (by omega)
    have b4 : (decide (k ≤ 0) || its.toArray.isEmpty) = true := by
      rw [decide_eq_true h2]
      rfl
    refine wpAny_binaryOp_repeat_ref (T := "tuple") (U := "int") (by decide) ⟨_, ho, rfl⟩ (fun s' => typeIs_int s' k t) noFill_tuple_mul F.fills_int_mul F.slot_int_rmul repeat_tuple F.slot_int_index.lookup
      (call_meets F.slot_int_rmul (typeIs_int s k t) F.entry_int_rmul (F.args_int_rmul_2 _ _) (int_rmul_tuple k t l its.toArray n dd sl)
        ⟨ho, rfl, ⟨_, ho, rfl⟩, call_meets F.slot_tuple_mul ⟨_, ho, rfl⟩ F.entry_tuple_mul (F.args_tuple_mul_2 _ _) (tup_rep_none l its.toArray n dd sl k t b0 b3 b4) ⟨ho, ?_⟩⟩)
    refine ⟨.ref s.heap.objs.size, _, I.laid (t' := s.toks) (o := .tup []) (fun b ob q => Heap.get?_push_of_some _ q) (Nat.le_refl _) ?_, rfl, q _ (I.hok.fresh (Nat.le_refl _))⟩
    exact ⟨Nat.zero_le _, [], .nil, IsTup.new _ _⟩
end

section
variable {C : Cn} {lvl : Nat}
theorem oj_mul : OpJ C lvl (binaryOp .Mult) fMul := by
  intro sc N E X G pins s σ H x y v u Q I rx ry h
  obtain ⟨O, d, e, r, ⟨tr, tS⟩, hx, hy, hf, q⟩ := h
  cases d with
  | int i =>
    cases e with
    | int j =>
      unfold fMul at hf
      obtain ⟨hc, rfl⟩ := of_if hf
      rcases hc with hc | hc
      · exact op_mul pins s σ H x y v u Q I rx ry ⟨i, j, hx.intE, hy.intE, hc, q _ H (Same.refl H) (.int _)⟩
      · exact op_mulW pins s σ H x y v u Q I rx ry ⟨i, j, hx.intE, hy.intE, hc, q _ H (Same.refl H) (.int _)⟩
    | _ => cases hf
  | lst xs =>
    cases e with
    | int k =>
      unfold fMul at hf
      obtain ⟨⟨c1, c2, c3⟩, rfl⟩ := of_if hf
      obtain ⟨a, vs, e1, ha, r1⟩ := hx.lstE
      exact op_rep pins s σ H x y v u Q I rx ry ⟨a, k, vs, e1, hy.intE, ha, c2, c1, by rw [r1.length]; exact c3, fun p hp => q _ _ (same_new hp) (rp_lst hp tr (r1.rep _))⟩
    | _ => cases hf
  | tup xs =>
    cases e with
    | int k =>
      unfold fMul at hf
      obtain ⟨⟨c1, c2, c3⟩, rfl⟩ := of_if hf
      obtain ⟨a, vs, e1, ha, r1⟩ := hx.tupE
      have hl := r1.length
      by_cases h0 : vs = [] ∨ k = 1
      · refine op_repT1 pins s σ H x y v u Q I rx ry ⟨a, k, vs, e1, hy.intE, G.K ▸ ha, c1, by omega, .inl ⟨h0, q _ H (Same.refl H) ?_⟩⟩
        rcases h0 with h0 | h0
        · subst h0
          cases r1
          have e : (List.replicate k.toNat ([] : List D)).flatten = [] := by simp
          rw [e]
          exact .tup ha .nil
        · subst h0
          have e : (List.replicate (1 : Int).toNat xs).flatten = xs := by simp
          rw [e]
          exact .tup ha r1
      · have h1 : vs ≠ [] := fun z => h0 (.inl z)
        by_cases h2 : k ≤ 0
        · refine op_repT1 pins s σ H x y v u Q I rx ry ⟨a, k, vs, e1, hy.intE, G.K ▸ ha, c1, by omega, .inr ⟨⟨h1, h2⟩, fun p hp => q _ _ (same_new hp) ?_⟩⟩
          have e : k.toNat = 0 := by omega
          rw [e]
          exact rp_tup hp .nil
        · have h3 : k ≠ 1 := fun z => h0 (.inr z)
          exact op_repT pins s σ H x y v u Q I rx ry ⟨a, k, vs, e1, hy.intE, G.K ▸ ha, h1, by omega, c2, by rw [hl]; exact c3, fun p hp => q _ _ (same_new hp) (rp_tup hp (r1.rep _))⟩
    | _ => cases hf
  | _ => cases e <;> cases hf

/-! ### comparisons -/
theorem room_depth {X : Cx} {sc : Bl} {N : List Str} {E : XK} (G : Good C lvl sc N E X) {x y : D} (p : Pu 40 x) : X.A.units + 2 + x.py.depth < cLine := by
  have h1 := G.room.units
  have h2 := p.plain.2
  omega
theorem oj_eq : OpJ C lvl (compareOp .Eq) fEq := by
  intro sc N E X G pins s σ H x y v u Q I rx ry h
  obtain ⟨O, d, e, r, ⟨tr, tS⟩, hx, hy, hf, q⟩ := h
  unfold fEq at hf
  obtain ⟨⟨p1, p2⟩, rfl⟩ := of_if hf
  obtain ⟨as, r1⟩ := Dp.reads I d.py x v (G.K ▸ hx.dp p1) rx
  obtain ⟨bs, r2⟩ := Dp.reads I e.py y u (G.K ▸ hy.dp p2) ry
  refine PySem.SeqAt.eq_plain r1 r2 p1.plain.1 p2.plain.1 ?_ ⟨.bl _, H, I, rfl, q _ H (Same.refl H) (.bl _)⟩
  have h1 := G.room.units
  have h2 := p1.plain.2
  have h3 : min d.py.depth e.py.depth ≤ d.py.depth := Nat.min_le_left _ _
  omega
theorem oj_ne : OpJ C lvl (compareOp .NotEq) fNe := by
  intro sc N E X G pins s σ H x y v u Q I rx ry h
  obtain ⟨O, d, e, r, ⟨tr, tS⟩, hx, hy, hf, q⟩ := h
  unfold fNe at hf
  obtain ⟨⟨p1, p2⟩, rfl⟩ := of_if hf
  obtain ⟨as, r1⟩ := Dp.reads I d.py x v (G.K ▸ hx.dp p1) rx
  obtain ⟨bs, r2⟩ := Dp.reads I e.py y u (G.K ▸ hy.dp p2) ry
  refine PySem.SeqAt.ne_plain r1 r2 p1.plain.1 p2.plain.1 ?_ ⟨.bl _, H, I, rfl, q _ H (Same.refl H) (.bl _)⟩
  have h1 := G.room.units
  have h2 := p1.plain.2
  have h3 : min d.py.depth e.py.depth ≤ d.py.depth := Nat.min_le_left _ _
  omega
theorem py_non {d : D} {n : Nat} (p : Pu n d) (h : d ≠ .non) : d.py ≠ .none := by
  cases d with
  | non => exact absurd rfl h
  | dct _ => cases n <;> simp [Pu] at p
  | dctT _ => cases n <;> simp [Pu] at p
  | fn _ => cases n <;> simp [Pu] at p
  | cell => cases n <;> simp [Pu] at p
  | _ => rw [D.py]; exact fun z => by cases z
theorem oj_lt : OpJ C lvl (compareOp .Lt) fLt := by
  intro sc N E X G pins s σ H x y v u Q I rx ry h
  obtain ⟨O, d, e, r, ⟨tr, tS⟩, hx, hy, hf, q⟩ := h
  unfold fLt at hf
  obtain ⟨⟨p1, p2, al, nn⟩, rfl⟩ := of_if hf
  obtain ⟨as, r1⟩ := Dp.reads I d.py x v (G.K ▸ hx.dp p1) rx
  obtain ⟨bs, r2⟩ := Dp.reads I e.py y u (G.K ▸ hy.dp p2) ry
  refine PySem.W.lt_data r1 r2 al (py_non p1 nn) ?_ ⟨.bl _, H, I, rfl, q _ H (Same.refl H) (.bl _)⟩
  have h1 := G.room.units
  have h2 := p1.plain.2
  have h3 : min d.py.depth e.py.depth ≤ d.py.depth := Nat.min_le_left _ _
  omega
theorem oj_gt : OpJ C lvl (compareOp .Gt) fGt := by
  intro sc N E X G pins s σ H x y v u Q I rx ry h
  obtain ⟨O, d, e, r, ⟨tr, tS⟩, hx, hy, hf, q⟩ := h
  unfold fGt at hf
  obtain ⟨⟨p1, p2, al, nn⟩, rfl⟩ := of_if hf
  obtain ⟨as, r1⟩ := Dp.reads I d.py x v (G.K ▸ hx.dp p1) rx
  obtain ⟨bs, r2⟩ := Dp.reads I e.py y u (G.K ▸ hy.dp p2) ry
  refine PySem.W.gt_data r1 r2 al (py_non p1 nn) ?_ ⟨.bl _, H, I, rfl, q _ H (Same.refl H) (.bl _)⟩
  have h1 := G.room.units
  have h2 := p1.plain.2
  have h3 : min d.py.depth e.py.depth ≤ d.py.depth := Nat.min_le_left _ _
  omega
theorem oj_le : OpJ C lvl (compareOp .LtE) fLe := by
  intro sc N E X G pins s σ H x y v u Q I rx ry h
  obtain ⟨O, d, e, r, ⟨tr, tS⟩, hx, hy, hf, q⟩ := h
  unfold fLe at hf
  obtain ⟨⟨p1, p2, al, nn⟩, rfl⟩ := of_if hf
  obtain ⟨as, r1⟩ := Dp.reads I d.py x v (G.K ▸ hx.dp p1) rx
  obtain ⟨bs, r2⟩ := Dp.reads I e.py y u (G.K ▸ hy.dp p2) ry
  refine PySem.W.le_data r1 r2 al (py_non p1 nn) ?_ ⟨.bl _, H, I, rfl, q _ H (Same.refl H) (.bl _)⟩
  have h1 := G.room.units
  have h2 := p1.plain.2
  have h3 : min d.py.depth e.py.depth ≤ d.py.depth := Nat.min_le_left _ _
  omega
theorem oj_ge : OpJ C lvl (compareOp .GtE) fGe := by
  intro sc N E X G pins s σ H x y v u Q I rx ry h
  obtain ⟨O, d, e, r, ⟨tr, tS⟩, hx, hy, hf, q⟩ := h
  unfold fGe at hf
  obtain ⟨⟨p1, p2, al, nn⟩, rfl⟩ := of_if hf
  obtain ⟨as, r1⟩ := Dp.reads I d.py x v (G.K ▸ hx.dp p1) rx
  obtain ⟨bs, r2⟩ := Dp.reads I e.py y u (G.K ▸ hy.dp p2) ry
  refine PySem.W.ge_data r1 r2 al (py_non p1 nn) ?_ ⟨.bl _, H, I, rfl, q _ H (Same.refl H) (.bl _)⟩
  have h1 := G.room.units
  have h2 := p1.plain.2
  have h3 : min d.py.depth e.py.depth ≤ d.py.depth := Nat.min_le_left _ _
  omega
theorem look_rel {O : Addr → Prop} {H : Hp} {κ : Type} [DecidableEq κ] (k : κ) : ∀ {kvs : List (κ × V)} {ds : List (κ × D)}, kvs.map (·.1) = ds.map (·.1) → RpL C O H (kvs.map (·.2)) (ds.map (·.2)) →
    (valV kvs k = none ∧ lookD ds k = none) ∨ ∃ v d, valV kvs k = some v ∧ lookD ds k = some d ∧ Rp C O H v d
  | [], [], _, _ => .inl ⟨rfl, rfl⟩
  | [], _ :: _, e, _ => by simp at e
  | _ :: _, [], e, _ => by simp at e
  | (a, v) :: kvs, (b, d) :: ds, e, r => by
    rw [List.map_cons, List.map_cons] at e
    obtain ⟨e1, e2⟩ := List.cons.inj e
    have e1 : a = b := e1
    subst e1
    cases r with
    | cons h r =>
      by_cases ek : a = k
      · refine .inr ⟨v, d, valV_pos (p := (a, v)) ek, ?_, h⟩
        unfold lookD
        rw [List.find?_cons]
        simp [ek]
      · rw [valV_neg (p := (a, v)) ek]
        have e3 : lookD ((a, d) :: ds) k = lookD ds k := by
          unfold lookD
          rw [List.find?_cons]
          simp [ek]
        rw [e3]
        exact look_rel k e2 r
theorem keyD_kV {O : Addr → Prop} {H : Hp} {x : V} {d : D} {k : Key} (h : Rb C O H x d) (e : keyD d = some k) : x = kV k := by
  cases d with
  | int i =>
    obtain rfl := Option.some.inj e
    exact h.intE
  | str z =>
    obtain rfl := Option.some.inj e
    exact h.strE
  | _ => cases e
theorem inD_py (x : D) (ys : List D) : ((D.pyL ys).any fun y => PyData.eqv y x.py) = inD x ys := by
  rw [D.pyL_map, List.any_map]
  rfl
theorem oj_in : OpJ C lvl (compareOp .In) fIn := by
  intro sc N E X G pins s σ H x y v u Q I rx ry h
  obtain ⟨O, d, e, r, ⟨tr, tS⟩, hx, hy, hf, q⟩ := h
  cases e with
  | lst ys =>
    unfold fIn at hf
    obtain ⟨⟨p1, p2⟩, rfl⟩ := of_if hf
    obtain ⟨as, r1⟩ := Dp.reads I d.py x v (G.K ▸ hx.dp p1) rx
    obtain ⟨bs, r2⟩ := Dp.reads I _ y u (G.K ▸ hy.dp p2) ry
    have pp := p2.plain
    rw [D.py] at r2 pp
    rw [PyData.plain, PyData.depth] at pp
    refine PySem.SeqAt.in_list_data r2 r1 pp.1 p1.plain.1 ?_ (by rw [inD_py]; exact ⟨.bl _, H, I, rfl, q _ H (Same.refl H) (.bl _)⟩)
    have h1 := G.room.units
    have h2 := p1.plain.2
    have h3 : min (PyData.depthAll (D.pyL ys)) d.py.depth ≤ d.py.depth := Nat.min_le_right _ _
    omega
  | tup ys =>
    unfold fIn at hf
    obtain ⟨⟨p1, p2⟩, rfl⟩ := of_if hf
    obtain ⟨as, r1⟩ := Dp.reads I d.py x v (G.K ▸ hx.dp p1) rx
    obtain ⟨bs, r2⟩ := Dp.reads I _ y u (G.K ▸ hy.dp p2) ry
    have pp := p2.plain
    rw [D.py] at r2 pp
    rw [PyData.plain, PyData.depth] at pp
    refine PySem.SeqAt.in_tuple_data r2 r1 pp.1 p1.plain.1 ?_ (by rw [inD_py]; exact ⟨.bl _, H, I, rfl, q _ H (Same.refl H) (.bl _)⟩)
    have h1 := G.room.units
    have h2 := p1.plain.2
    have h3 : min (PyData.depthAll (D.pyL ys)) d.py.depth ≤ d.py.depth := Nat.min_le_right _ _
    omega
  | dct ds =>
    unfold fIn at hf
    obtain ⟨k, ek, rfl⟩ := Option.map_eq_some_iff.mp hf
    obtain ⟨a, kvs, rfl, ea, e1, r1⟩ := hy.dctE
    obtain rfl : u = Value.ref a := ry
    have g : DGet H a x (valV kvs k) := .inl ⟨kvs, k, ea, keyD_kV hx ek, rfl⟩
    have eo : (valV kvs k).isSome = (lookD ds k).isSome := by
      rcases look_rel k e1 r1 with ⟨h1, h2⟩ | ⟨v1, d1, h1, h2, _⟩ <;> rw [h1, h2] <;> rfl
    exact d_in (hu_of G.room) I g rx fun s3 I3 => ⟨.bl _, H, I3, rfl, by rw [eo]; exact q _ H (Same.refl H) (.bl _)⟩
  | _ => cases hf
theorem oj_notIn : OpJ C lvl (compareOp .NotIn) fNotIn := by
  intro sc N E X G pins s σ H x y v u Q I rx ry h
  obtain ⟨O, d, e, r, ⟨tr, tS⟩, hx, hy, hf, q⟩ := h
  cases e with
  | lst ys =>
    unfold fNotIn at hf
    obtain ⟨⟨p1, p2⟩, rfl⟩ := of_if hf
    obtain ⟨as, r1⟩ := Dp.reads I d.py x v (G.K ▸ hx.dp p1) rx
    obtain ⟨bs, r2⟩ := Dp.reads I _ y u (G.K ▸ hy.dp p2) ry
    have pp := p2.plain
    rw [D.py] at r2 pp
    rw [PyData.plain, PyData.depth] at pp
    refine PySem.SeqAt.notIn_list_data r2 r1 pp.1 p1.plain.1 ?_ (by rw [inD_py]; exact ⟨.bl _, H, I, rfl, q _ H (Same.refl H) (.bl _)⟩)
    have h1 := G.room.units
    have h2 := p1.plain.2
    have h3 : min (PyData.depthAll (D.pyL ys)) d.py.depth ≤ d.py.depth := Nat.min_le_right _ _
    omega
  | tup ys =>
    unfold fNotIn at hf
    obtain ⟨⟨p1, p2⟩, rfl⟩ := of_if hf
    obtain ⟨as, r1⟩ := Dp.reads I d.py x v (G.K ▸ hx.dp p1) rx
    obtain ⟨bs, r2⟩ := Dp.reads I _ y u (G.K ▸ hy.dp p2) ry
    have pp := p2.plain
    rw [D.py] at r2 pp
    rw [PyData.plain, PyData.depth] at pp
    refine PySem.SeqAt.notIn_tuple_data r2 r1 pp.1 p1.plain.1 ?_ (by rw [inD_py]; exact ⟨.bl _, H, I, rfl, q _ H (Same.refl H) (.bl _)⟩)
    have h1 := G.room.units
    have h2 := p1.plain.2
    have h3 : min (PyData.depthAll (D.pyL ys)) d.py.depth ≤ d.py.depth := Nat.min_le_right _ _
    omega
  | dct ds =>
    unfold fNotIn at hf
    obtain ⟨k, ek, rfl⟩ := Option.map_eq_some_iff.mp hf
    obtain ⟨a, kvs, rfl, ea, e1, r1⟩ := hy.dctE
    obtain rfl : u = Value.ref a := ry
    have g : DGet H a x (valV kvs k) := .inl ⟨kvs, k, ea, keyD_kV hx ek, rfl⟩
    have eo : (valV kvs k).isSome = (lookD ds k).isSome := by
      rcases look_rel k e1 r1 with ⟨h1, h2⟩ | ⟨v1, d1, h1, h2, _⟩ <;> rw [h1, h2] <;> rfl
    exact d_notIn (hu_of G.room) I g rx fun s3 I3 => ⟨.bl _, H, I3, rfl, by rw [eo]; exact q _ H (Same.refl H) (.bl _)⟩
  | _ => cases hf
theorem Rb.isN {O : Addr → Prop} {H : Hp} {x : V} {d : D} (h : Rb C O H x d) : decide (x = .non) = d.isNon := by
  rcases h with h | h
  · cases h <;> simp [D.isNon]
  · cases h <;> simp [D.isNon]
theorem oj_isN : OpJ C lvl (compareOp .Is) fIsN := by
  intro sc N E X G pins s σ H x y v u Q I rx ry h
  obtain ⟨O, d, e, r, ⟨tr, tS⟩, hx, hy, hf, q⟩ := h
  cases e with
  | non =>
    unfold fIsN at hf
    obtain rfl := Option.some.inj hf
    exact op_isN pins s σ H x y v u Q I rx ry ⟨hy.nonE, by rw [hx.isN]; exact q _ H (Same.refl H) (.bl _)⟩
  | _ => cases hf
theorem oj_notN : OpJ C lvl (compareOp .IsNot) fNotN := by
  intro sc N E X G pins s σ H x y v u Q I rx ry h
  obtain ⟨O, d, e, r, ⟨tr, tS⟩, hx, hy, hf, q⟩ := h
  cases e with
  | non =>
    unfold fNotN at hf
    obtain rfl := Option.some.inj hf
    refine op_notN pins s σ H x y v u Q I rx ry ⟨hy.nonE, ?_⟩
    rw [hx.isN]
    exact q _ H (Same.refl H) (.bl _)
  | _ => cases hf
end
end PL

set_option maxHeartbeats 4000000
/-! PL4: comparisons, tests, and, or, not, choices, displays. -/
namespace PL
open PySem PySem.Spec L2

/-! ### tests -/
abbrev Et := Env → Int → R Bool
def AfterT (C : Cn) (F : Addr → Prop) (H0 : Hp) (own : List Nat) (E : XK) (σ : St) (H : Hp) (env : Env) (x : R Bool) (Q : Bool → Hp → Prop) : Prop :=
  match x with
  | .ok b k' => ∀ H', RelS C F H0 own σ H' env k' → KeptS C H H' → Q b H'
  | .ex c k' => ∀ H', RelS C F H0 own σ H' env k' → KeptS C H H' → E ((C.mg c).getD .none) none H'
  | .no => False
def tEvT (C : Cn) (F : Addr → Prop) (H0 : Hp) (own : List Nat) (m : Et) (E : XK) : TT := fun σ H Q => ∃ env k, RelS C F H0 own σ H env k ∧ AfterT C F H0 own E σ H env (m env k) Q
def DT (C : Cn) (lvl : Nat) (sc : Bl) (N : List Str) (own : List Nat) (e : Expr) (m : Et) : Prop :=
  ∀ (F : Addr → Prop) (H0 : Hp) (E : XK) (X : Cx), Good C lvl sc N E X → PT X e (tEvT C F H0 own m E)
def DW (C : Cn) (lvl : Nat) (sc : Bl) (N : List Str) (own : List Nat) (e : Expr) (m : Et) : Prop :=
  ∀ (F : Addr → Prop) (H0 : Hp) (E : XK) (X : Cx), Good C lvl sc N E X → PW X e (tEvT C F H0 own m E)
/-- a truth value as a test -/
def toB : D → Int → R Bool
  | .bl b, k => .ok b k
  | _, _ => .no
def tV (m : Ev) : Et := fun env k => (m env k).bind toB
def tAnd2 (a b : Et) : Et := fun env k => (a env k).bind fun x k1 => if x = true then b env k1 else .ok false k1
def tOr2 (a b : Et) : Et := fun env k => (a env k).bind fun x k1 => if x = true then .ok true k1 else b env k1
def tNt (a : Et) : Et := fun env k => (a env k).bind fun x k1 => .ok (!x) k1
def eIf (t : Et) (a b : Ev) : Ev := fun env k => (t env k).bind fun x k1 => if x = true then a env k1 else b env k1
def eAnd2 (a b : Ev) : Ev := fun env k => (a env k).bind fun x k1 => (toB x k1).bind fun c k2 => if c = true then b env k2 else .ok (.bl false) k2
def eOr2 (a b : Ev) : Ev := fun env k => (a env k).bind fun x k1 => (toB x k1).bind fun c k2 => if c = true then .ok (.bl true) k2 else b env k2
def eNot (a : Ev) : Ev := fun env k => (a env k).bind fun x k1 => (toB x k1).bind fun c k2 => .ok (.bl (!c)) k2
/-- x op y op' z -/
def eChain (f g : D → D → Option D) (a b c : Ev) : Ev := fun env k => (a env k).bind fun x k1 => (b env k1).bind fun y k2 => (R.of (f x y) k2).bind fun r k3 => (toB r k3).bind fun t k4 =>
  if t = true then (c env k4).bind fun z k5 => .of (g y z) k5 else .ok (.bl false) k4

section
variable {C : Cn} {lvl : Nat} {sc : Bl} {N : List Str} {own : List Nat} {pos : Pos} {a b c : Expr} {ma mb mc : Ev} {ta tb : Et}
theorem de_cmp {op : CmpOp} {f : D → D → Option D} (ho : OpJ C lvl (compareOp op) f) (ha : DB C lvl sc N own a ma) (hb : DB C lvl sc N own b mb) (hm : behindInMarks op b = false) : DE C lvl sc N own (.Compare a [op] [b] pos) (e2 f ma mb) := fun F H0 E X G =>
  PE.imp (pe_cmpR (ho sc N E X G) (ha F H0 E X G) (hb F H0 E X G) hm) fun σ H Q ⟨env, k, r, q⟩ => by
    refine ⟨env, k, r, q.bind r fun d k1 v H1 _ r1 kp1 z1 q1 => ⟨env, k1, r1, q1.bind r1 fun e k2 w H2 _ r2 kp2 z2 q2 => ?_⟩⟩
    obtain ⟨x, ex, q3⟩ := q2.some
    exact ⟨_, d, e, x, ⟨r2.tracked, r2.oaS⟩, z1.after r1 kp2, z2, ex, fun v H' s z => q3 v H' (r2.same s) (.of_same s) z⟩
/-- a part, then a test -/
theorem After.bindT {F : Addr → Prop} {H0 H : Hp} {E : XK} {σ : St} {env : Env} {k : Int} {m : Ev} {f : D → Int → R Bool} {Z' : Hp → V → D → Prop} {Q : Bool → Hp → Prop} {Q' : VK} (r : RelS C F H0 own σ H env k)
    (h : AfterT C F H0 own E σ H env ((m env k).bind f) Q)
    (go : ∀ d k1 v H1, m env k = .ok d k1 → RelS C F H0 own σ H1 env k1 → KeptS C H H1 → Z' H1 v d → AfterT C F H0 own E σ H1 env (f d k1) Q → Q' v H1) :
    After C F H0 own E σ H env (m env k) Z' Q' := by
  cases e : m env k with
  | ok d k1 =>
    rw [e] at h
    have h : AfterT C F H0 own E σ H env (f d k1) Q := h
    intro v H1 r1 kp z
    refine go d k1 v H1 e r1 kp z ?_
    cases e2 : f d k1 with
    | ok d2 k2 =>
      rw [e2] at h
      exact fun H2 r2 kp2 => h H2 r2 (kp.trans kp2)
    | ex c k2 =>
      rw [e2] at h
      exact fun H2 r2 kp2 => h H2 r2 (kp.trans kp2)
    | no =>
      rw [e2] at h
      exact h
  | ex c k1 =>
    rw [e] at h
    exact h
  | no =>
    rw [e] at h
    exact h
/-- a test, then a part -/
theorem AfterT.bindE {F : Addr → Prop} {H0 H : Hp} {E : XK} {σ : St} {env : Env} {k : Int} {m : Et} {f : Bool → Int → R D} {Z : Hp → V → D → Prop} {Q : VK} {Q' : Bool → Hp → Prop} (r : RelS C F H0 own σ H env k)
    (h : After C F H0 own E σ H env ((m env k).bind f) Z Q)
    (go : ∀ d k1 H1, m env k = .ok d k1 → RelS C F H0 own σ H1 env k1 → KeptS C H H1 → After C F H0 own E σ H1 env (f d k1) Z Q → Q' d H1) :
    AfterT C F H0 own E σ H env (m env k) Q' := by
  cases e : m env k with
  | ok d k1 =>
    rw [e] at h
    have h : After C F H0 own E σ H env (f d k1) Z Q := h
    intro H1 r1 kp
    refine go d k1 H1 e r1 kp ?_
    cases e2 : f d k1 with
    | ok d2 k2 =>
      rw [e2] at h
      exact fun v H2 r2 kp2 z => h v H2 r2 (kp.trans kp2) z
    | ex c k2 =>
      rw [e2] at h
      exact fun H2 r2 kp2 => h H2 r2 (kp.trans kp2)
    | no =>
      rw [e2] at h
      exact h
  | ex c k1 =>
    rw [e] at h
    exact h
  | no =>
    rw [e] at h
    exact h
theorem AfterT.bind {F : Addr → Prop} {H0 H : Hp} {E : XK} {σ : St} {env : Env} {k : Int} {m : Et} {f : Bool → Int → R Bool} {Q Q' : Bool → Hp → Prop} (r : RelS C F H0 own σ H env k)
    (h : AfterT C F H0 own E σ H env ((m env k).bind f) Q)
    (go : ∀ d k1 H1, m env k = .ok d k1 → RelS C F H0 own σ H1 env k1 → KeptS C H H1 → AfterT C F H0 own E σ H1 env (f d k1) Q → Q' d H1) :
    AfterT C F H0 own E σ H env (m env k) Q' := by
  cases e : m env k with
  | ok d k1 =>
    rw [e] at h
    have h : AfterT C F H0 own E σ H env (f d k1) Q := h
    intro H1 r1 kp
    refine go d k1 H1 e r1 kp ?_
    cases e2 : f d k1 with
    | ok d2 k2 =>
      rw [e2] at h
      exact fun H2 r2 kp2 => h H2 r2 (kp.trans kp2)
    | ex c k2 =>
      rw [e2] at h
      exact fun H2 r2 kp2 => h H2 r2 (kp.trans kp2)
    | no =>
      rw [e2] at h
      exact h
  | ex c k1 =>
    rw [e] at h
    exact h
  | no =>
    rw [e] at h
    exact h
theorem AfterT.toB {F : Addr → Prop} {H0 H : Hp} {E : XK} {σ : St} {env : Env} {k : Int} {d : D} {Q : Bool → Hp → Prop} (h : AfterT C F H0 own E σ H env (toB d k) Q) : ∃ b, d = .bl b ∧ AfterT C F H0 own E σ H env (.ok b k) Q := by
  cases d with
  | bl b => exact ⟨b, rfl, h⟩
  | _ => exact h.elim
theorem dt_val {m : Ev} {e : Expr} (he : DE C lvl sc N own e m) (hp : ∀ (env : PySem.Env) (whole : Sem Value), isTrue e env whole = (do let v ← whole; standAt e.pos; holding [v] (truthy v))) : DT C lvl sc N own e (tV m) := fun F H0 E X G =>
  PT.imp (pt_val (he F H0 E X G) (fun wh => hp X.env wh)) fun σ H Q ⟨env, k, r, q⟩ => by
    refine ⟨env, k, r, After.bindT r q fun d k1 v H1 _ r1 kp1 z1 q1 => ?_⟩
    obtain ⟨b, rfl, q2⟩ := q1.toB
    exact ⟨b, (Rp.b z1).blE, q2 H1 r1 KeptS.refl⟩
theorem dt_cmp {op : CmpOp} {f : D → D → Option D} (ho : OpJ C lvl (compareOp op) f) (ha : DB C lvl sc N own a ma) (hb : DB C lvl sc N own b mb) (hm : behindInMarks op b = false) : DT C lvl sc N own (.Compare a [op] [b] pos) (tV (e2 f ma mb)) := fun F H0 E X G =>
  PT.imp (pt_cmpR (ho sc N E X G) (ha F H0 E X G) (hb F H0 E X G) hm) fun σ H Q ⟨env, k, r, q⟩ => by
    have q' : AfterT C F H0 own E σ H env ((ma env k).bind fun x k1 => ((mb env k1).bind fun y k2 => R.of (f x y) k2).bind toB) Q := by
      have e : tV (e2 f ma mb) env k = ((ma env k).bind fun x k1 => ((mb env k1).bind fun y k2 => R.of (f x y) k2).bind toB) := by
        unfold tV e2
        cases ma env k <;> rfl
      rw [← e]
      exact q
    refine ⟨env, k, r, After.bindT r q' fun d k1 v H1 _ r1 kp1 z1 q1 => ?_⟩
    have q1' : AfterT C F H0 own E σ H1 env ((mb env k1).bind fun y k2 => (R.of (f d y) k2).bind toB) Q := by
      cases e : mb env k1 <;> rw [e] at q1 <;> exact q1
    refine ⟨env, k1, r1, After.bindT r1 q1' fun e k2 w H2 _ r2 kp2 z2 q2 => ?_⟩
    cases ef : f d e with
    | none =>
      rw [ef] at q2
      exact q2.elim
    | some x =>
      rw [ef] at q2
      obtain ⟨bb, rfl, q3⟩ := q2.toB
      exact ⟨_, d, e, _, ⟨r2.tracked, r2.oaS⟩, z1.after r1 kp2, z2, ef, fun v H' s z => ⟨bb, (Rp.b z).blE, q3 H' (r2.same s) (.of_same s)⟩⟩
theorem dt_not (ha : DT C lvl sc N own a ta) : DT C lvl sc N own (.UnaryOp .Not a pos) (tNt ta) := fun F H0 E X G =>
  PT.imp (pt_not (ha F H0 E X G)) fun σ H Q ⟨env, k, r, q⟩ => ⟨env, k, r, q.bind r fun d k1 H1 _ r1 kp1 q1 => q1 H1 r1 KeptS.refl⟩
theorem DW.t (h : DW C lvl sc N own a ta) : DT C lvl sc N own a ta := fun F H0 E X G => (h F H0 E X G).pt
variable {rest : List Expr}
theorem dw_and1 (ha : DT C lvl sc N own a ta) : DW C lvl sc N own (.BoolOp .And [a] pos) ta := fun F H0 E X G => pw_and1 (ha F H0 E X G)
theorem dw_or1 (ha : DT C lvl sc N own a ta) : DW C lvl sc N own (.BoolOp .Or [a] pos) ta := fun F H0 E X G => pw_or1 (ha F H0 E X G)
theorem dw_and (ha : DT C lvl sc N own a ta) (hb : DW C lvl sc N own (.BoolOp .And (b :: rest) pos) tb) : DW C lvl sc N own (.BoolOp .And (a :: b :: rest) pos) (tAnd2 ta tb) := fun F H0 E X G =>
  PW.imp (pw_and (ha F H0 E X G) (hb F H0 E X G)) fun σ H Q ⟨env, k, r, q⟩ => ⟨env, k, r, q.bind r fun d k1 H1 _ r1 kp1 q1 => by
    cases d with
    | true => exact ⟨env, k1, r1, q1⟩
    | false => exact q1 H1 r1 KeptS.refl⟩
theorem dw_or (ha : DT C lvl sc N own a ta) (hb : DW C lvl sc N own (.BoolOp .Or (b :: rest) pos) tb) : DW C lvl sc N own (.BoolOp .Or (a :: b :: rest) pos) (tOr2 ta tb) := fun F H0 E X G =>
  PW.imp (pw_or (ha F H0 E X G) (hb F H0 E X G)) fun σ H Q ⟨env, k, r, q⟩ => ⟨env, k, r, q.bind r fun d k1 H1 _ r1 kp1 q1 => by
    cases d with
    | true => exact q1 H1 r1 KeptS.refl
    | false => exact ⟨env, k1, r1, q1⟩⟩

/-! ### the same as values -/
theorem After.toB {F : Addr → Prop} {H0 H : Hp} {E : XK} {σ : St} {env : Env} {k : Int} {d : D} {f : Bool → Int → R D} {Z : Hp → V → D → Prop} {Q : VK} (h : After C F H0 own E σ H env ((PL.toB d k).bind f) Z Q) : ∃ b, d = .bl b ∧ After C F H0 own E σ H env (f b k) Z Q := by
  cases d with
  | bl b => exact ⟨b, rfl, h⟩
  | _ => exact h.elim
theorem de_one {op : BoolOp} (ha : DE C lvl sc N own a ma) : DE C lvl sc N own (.BoolOp op [a] pos) ma := fun F H0 E X G => pe_one (ha F H0 E X G)
theorem de_and (ha : DE C lvl sc N own a ma) (hb : DE C lvl sc N own (.BoolOp .And (b :: rest) pos) mb) : DE C lvl sc N own (.BoolOp .And (a :: b :: rest) pos) (eAnd2 ma mb) := fun F H0 E X G =>
  PE.imp (pe_and (ha F H0 E X G) (hb F H0 E X G)) fun σ H Q ⟨env, k, r, q⟩ => by
    refine ⟨env, k, r, q.bind r fun d k1 v H1 _ r1 kp1 z1 q1 => ?_⟩
    obtain ⟨c, rfl, q2⟩ := q1.toB
    refine ⟨c, (Rp.b z1).blE, ?_⟩
    cases c with
    | true => exact ⟨env, k1, r1, q2⟩
    | false => exact q2 _ H1 r1 KeptS.refl (Rp.bl false)
theorem de_or (ha : DE C lvl sc N own a ma) (hb : DE C lvl sc N own (.BoolOp .Or (b :: rest) pos) mb) : DE C lvl sc N own (.BoolOp .Or (a :: b :: rest) pos) (eOr2 ma mb) := fun F H0 E X G =>
  PE.imp (pe_or (ha F H0 E X G) (hb F H0 E X G)) fun σ H Q ⟨env, k, r, q⟩ => by
    refine ⟨env, k, r, q.bind r fun d k1 v H1 _ r1 kp1 z1 q1 => ?_⟩
    obtain ⟨c, rfl, q2⟩ := q1.toB
    refine ⟨c, (Rp.b z1).blE, ?_⟩
    cases c with
    | true => exact q2 _ H1 r1 KeptS.refl (Rp.bl true)
    | false => exact ⟨env, k1, r1, q2⟩
theorem de_not (ha : DE C lvl sc N own a ma) : DE C lvl sc N own (.UnaryOp .Not a pos) (eNot ma) := fun F H0 E X G =>
  PE.imp (pe_not (ha F H0 E X G)) fun σ H Q ⟨env, k, r, q⟩ => by
    refine ⟨env, k, r, q.bind r fun d k1 v H1 _ r1 kp1 z1 q1 => ?_⟩
    obtain ⟨c, rfl, q2⟩ := q1.toB
    exact ⟨c, (Rp.b z1).blE, q2 _ H1 r1 KeptS.refl (Rp.bl _)⟩
theorem de_if (ht : DT C lvl sc N own c ta) (ha : DE C lvl sc N own a ma) (hb : DE C lvl sc N own b mb) : DE C lvl sc N own (.IfExp c a b pos) (eIf ta ma mb) := fun F H0 E X G =>
  PE.imp (pe_ifExp (ht F H0 E X G) (ha F H0 E X G) (hb F H0 E X G)) fun σ H Q ⟨env, k, r, q⟩ => ⟨env, k, r, AfterT.bindE r q fun d k1 H1 _ r1 kp1 q1 => by
    cases d with
    | true => exact ⟨env, k1, r1, q1⟩
    | false => exact ⟨env, k1, r1, q1⟩⟩
def fNeg : D → Option D
  | .int i => some (.int (-i))
  | _ => none
theorem de_neg (ha : DB C lvl sc N own a ma) : DE C lvl sc N own (.UnaryOp .USub a pos) (e1 fNeg ma) := fun F H0 E X G =>
  PE.imp (pe_un un_neg (ha F H0 E X G)) fun σ H Q ⟨env, k, r, q⟩ => by
    refine ⟨env, k, r, q.bind r fun d k1 v H1 _ r1 kp1 z1 q1 => ?_⟩
    obtain ⟨x, ex, q3⟩ := q1.some
    cases d with
    | int i =>
      obtain rfl := Option.some.inj ex
      exact ⟨i, z1.intE, q3 _ H1 r1 KeptS.refl (Rp.int _)⟩
    | _ => cases ex
theorem de_chain {op op' : CmpOp} {f g : D → D → Option D} (ho : OpJ C lvl (compareOp op) f) (ho' : OpJ C lvl (compareOp op') g) (ha : DB C lvl sc N own a ma) (hb : DB C lvl sc N own b mb) (hc : DB C lvl sc N own c mc)
    (hm : lastMarks [op, op'] [b, c] = false) : DE C lvl sc N own (.Compare a [op, op'] [b, c] pos) (eChain f g ma mb mc) := fun F H0 E X G =>
  PE.imp (pe_chain (ho sc N E X G) (ho' sc N E X G) (ha F H0 E X G) (hb F H0 E X G) (hc F H0 E X G) hm) fun σ H Q ⟨env, k, r, q⟩ => by
    refine ⟨env, k, r, q.bind r fun d k1 v H1 _ r1 kp1 z1 q1 => ⟨env, k1, r1, q1.bind r1 fun e k2 w H2 _ r2 kp2 z2 q2 => ?_⟩⟩
    cases ef : f d e with
    | none =>
      rw [ef] at q2
      exact q2.elim
    | some x =>
      rw [ef] at q2
      have q2' : After C F H0 own E σ H2 env ((PL.toB x k2).bind fun t k4 => if t = true then (mc env k4).bind fun z k5 => .of (g e z) k5 else .ok (.bl false) k4) _ Q := q2
      obtain ⟨t, rfl, q3⟩ := q2'.toB
      refine ⟨_, d, e, _, ⟨r2.tracked, r2.oaS⟩, z1.after r1 kp2, z2, ef, fun v H' s z => ⟨t, (Rp.b z).blE, ?_⟩⟩
      have r3 := r2.same s
      cases t with
      | true =>
        have q4 : After C F H0 own E σ H2 env ((mc env k2).bind fun z k5 => .of (g e z) k5) _ Q := q3
        rw [if_pos rfl]
        refine ⟨env, k2, r3, ?_⟩
        have q5 : After C F H0 own E σ H' env ((mc env k2).bind fun z k5 => .of (g e z) k5) (fun H' v d => Rp C (OA F own σ) H' v d) Q := by
          revert q4
          cases (mc env k2).bind fun z k5 => R.of (g e z) k5 with
          | ok d2 k6 => exact fun q4 v2 H6 r6 kp6 z6 => q4 v2 H6 r6 ((KeptS.of_same s).trans kp6) z6
          | ex c2 k6 => exact fun q4 H6 r6 kp6 => q4 H6 r6 ((KeptS.of_same s).trans kp6)
          | no => exact fun q4 => q4
        refine q5.bind r3 fun d6 k6 v6 H6 _ r6 kp6 z6 q6 => ?_
        obtain ⟨x7, ex7, q7⟩ := q6.some
        exact ⟨_, e, d6, x7, ⟨r6.tracked, r6.oaS⟩, z2.after r2 ((KeptS.of_same s).trans kp6), z6, ex7, fun v8 H8 s8 z8 => q7 v8 H8 (r6.same s8) (.of_same s8) z8⟩
      | false =>
        have q4 : After C F H0 own E σ H2 env (.ok (.bl false) k2) _ Q := q3
        rw [if_neg Bool.false_ne_true]
        exact q4 _ H' r3 (.of_same s) (Rp.bl false)
/-- a comparison of three as a test -/
theorem dt_chain {op op' : CmpOp} {f g : D → D → Option D} (ho : OpJ C lvl (compareOp op) f) (ho' : OpJ C lvl (compareOp op') g) (ha : DB C lvl sc N own a ma) (hb : DB C lvl sc N own b mb) (hc : DB C lvl sc N own c mc)
    (hm : lastMarks [op, op'] [b, c] = false) : DT C lvl sc N own (.Compare a [op, op'] [b, c] pos) (tV (eChain f g ma mb mc)) := fun F H0 E X G =>
  PT.imp (pt_chain (ho sc N E X G) (ho' sc N E X G) (ha F H0 E X G) (hb F H0 E X G) (hc F H0 E X G) hm) fun σ H Q ⟨env, k, r, q⟩ => by
    have q' : After C F H0 own E σ H env (eChain f g ma mb mc env k) (fun H' v d => Rp C (OA F own σ) H' v d) (fun v H' => ∃ t, v = .bl t ∧ Q t H') := by
      have e : tV (eChain f g ma mb mc) env k = (eChain f g ma mb mc env k).bind toB := rfl
      rw [e] at q
      exact After.bindT (Z' := fun H' v d => Rp C (OA F own σ) H' v d) r q fun d k1 v H1 _ r1 kp1 z1 q1 => by
        obtain ⟨t, rfl, q2⟩ := q1.toB
        exact ⟨t, (Rp.b z1).blE, q2 H1 r1 KeptS.refl⟩
    refine ⟨env, k, r, q'.bind r fun d k1 v H1 _ r1 kp1 z1 q1 => ⟨env, k1, r1, q1.bind r1 fun e k2 w H2 _ r2 kp2 z2 q2 => ?_⟩⟩
    cases ef : f d e with
    | none =>
      rw [ef] at q2
      exact q2.elim
    | some x =>
      rw [ef] at q2
      have q2' : After C F H0 own E σ H2 env ((PL.toB x k2).bind fun t k4 => if t = true then (mc env k4).bind fun z k5 => .of (g e z) k5 else .ok (.bl false) k4) _ _ := q2
      obtain ⟨t, rfl, q3⟩ := q2'.toB
      refine ⟨_, d, e, _, ⟨r2.tracked, r2.oaS⟩, z1.after r1 kp2, z2, ef, fun v H' s z => ⟨t, (Rp.b z).blE, ?_⟩⟩
      have r3 := r2.same s
      cases t with
      | true =>
        have q4 : After C F H0 own E σ H2 env ((mc env k2).bind fun z k5 => .of (g e z) k5) _ _ := q3
        rw [if_pos rfl]
        refine ⟨env, k2, r3, ?_⟩
        have q5 : After C F H0 own E σ H' env ((mc env k2).bind fun z k5 => .of (g e z) k5) (fun H' v d => Rp C (OA F own σ) H' v d) (fun v H' => ∃ t, v = .bl t ∧ Q t H') := by
          revert q4
          cases (mc env k2).bind fun z k5 => R.of (g e z) k5 with
          | ok d2 k6 => exact fun q4 v2 H6 r6 kp6 z6 => q4 v2 H6 r6 ((KeptS.of_same s).trans kp6) z6
          | ex c2 k6 => exact fun q4 H6 r6 kp6 => q4 H6 r6 ((KeptS.of_same s).trans kp6)
          | no => exact fun q4 => q4
        refine q5.bind r3 fun d6 k6 v6 H6 _ r6 kp6 z6 q6 => ?_
        obtain ⟨x7, ex7, q7⟩ := q6.some
        exact ⟨_, e, d6, x7, ⟨r6.tracked, r6.oaS⟩, z2.after r2 ((KeptS.of_same s).trans kp6), z6, ex7, fun v8 H8 s8 z8 => q7 v8 H8 (r6.same s8) (.of_same s8) z8⟩
      | false =>
        have q4 : After C F H0 own E σ H2 env (.ok (.bl false) k2) _ _ := q3
        rw [if_neg Bool.false_ne_true]
        exact q4 _ H' r3 (.of_same s) (Rp.bl false)
end

/-! ### lists of parts -/
abbrev Els := Env → Int → R (List D)
def eNil : Els := fun _ k => .ok [] k
def eCons (a : Ev) (r : Els) : Els := fun env k => (a env k).bind fun x k1 => (r env k1).bind fun xs k2 => .ok (x :: xs) k2
/-- *a -/
def eStar (a : Ev) (r : Els) : Els := fun env k => (a env k).bind fun x k1 => match x with
  | .lst ys => (r env k1).bind fun xs k2 => .ok (ys ++ xs) k2
  | .tup ys => (r env k1).bind fun xs k2 => .ok (ys ++ xs) k2
  | _ => .no
def AfterL (C : Cn) (F : Addr → Prop) (H0 : Hp) (own : List Nat) (E : XK) (σ : St) (H : Hp) (env : Env) (x : R (List D)) (Z : Hp → List V → List D → Prop) (Q : List V → Hp → Prop) : Prop :=
  match x with
  | .ok ds k' => ∀ vs H', RelS C F H0 own σ H' env k' → KeptS C H H' → Z H' vs ds → Q vs H'
  | .ex c k' => ∀ H', RelS C F H0 own σ H' env k' → KeptS C H H' → E ((C.mg c).getD .none) none H'
  | .no => False
inductive RbL (C : Cn) (O : Addr → Prop) (H : Hp) : List V → List D → Prop
  | nil : RbL C O H [] []
  | cons {v : V} {vs : List V} {d : D} {ds : List D} : Rb C O H v d → RbL C O H vs ds → RbL C O H (v :: vs) (d :: ds)
def tEvA (C : Cn) (F : Addr → Prop) (H0 : Hp) (own : List Nat) (m : Els) (E : XK) : TA := fun σ H Q => ∃ env k, RelS C F H0 own σ H env k ∧
  AfterL C F H0 own E σ H env (m env k) (fun H' vs ds => RpL C (OA F own σ) H' vs ds) Q
def tEvAB (C : Cn) (F : Addr → Prop) (H0 : Hp) (own : List Nat) (m : Els) (E : XK) : TA := fun σ H Q => ∃ env k, RelS C F H0 own σ H env k ∧
  AfterL C F H0 own E σ H env (m env k) (fun H' vs ds => RbL C (OA F own σ) H' vs ds) Q
def DA (C : Cn) (lvl : Nat) (sc : Bl) (N : List Str) (own : List Nat) (es : List Expr) (m : Els) : Prop :=
  ∀ (F : Addr → Prop) (H0 : Hp) (E : XK) (X : Cx), Good C lvl sc N E X → PA X es (tEvA C F H0 own m E)
def DAB (C : Cn) (lvl : Nat) (sc : Bl) (N : List Str) (own : List Nat) (es : List Expr) (m : Els) : Prop :=
  ∀ (F : Addr → Prop) (H0 : Hp) (E : XK) (X : Cx), Good C lvl sc N E X → PA X es (tEvAB C F H0 own m E)
section
variable {C : Cn} {lvl : Nat} {sc : Bl} {N : List Str} {own : List Nat} {pos : Pos} {a : Expr} {ma : Ev} {es : List Expr} {ms : Els}
/-- a part, then a list of parts -/
theorem After.bindL {F : Addr → Prop} {H0 H : Hp} {E : XK} {σ : St} {env : Env} {k : Int} {m : Ev} {f : D → Int → R (List D)} {Z : Hp → List V → List D → Prop} {Z' : Hp → V → D → Prop} {Q : List V → Hp → Prop} {Q' : VK} (r : RelS C F H0 own σ H env k)
    (h : AfterL C F H0 own E σ H env ((m env k).bind f) Z Q)
    (go : ∀ d k1 v H1, m env k = .ok d k1 → RelS C F H0 own σ H1 env k1 → KeptS C H H1 → Z' H1 v d → AfterL C F H0 own E σ H1 env (f d k1) Z Q → Q' v H1) :
    After C F H0 own E σ H env (m env k) Z' Q' := by
  cases e : m env k with
  | ok d k1 =>
    rw [e] at h
    have h : AfterL C F H0 own E σ H env (f d k1) Z Q := h
    intro v H1 r1 kp z
    refine go d k1 v H1 e r1 kp z ?_
    cases e2 : f d k1 with
    | ok d2 k2 =>
      rw [e2] at h
      exact fun v2 H2 r2 kp2 z2 => h v2 H2 r2 (kp.trans kp2) z2
    | ex c k2 =>
      rw [e2] at h
      exact fun H2 r2 kp2 => h H2 r2 (kp.trans kp2)
    | no =>
      rw [e2] at h
      exact h
  | ex c k1 =>
    rw [e] at h
    exact h
  | no =>
    rw [e] at h
    exact h
theorem AfterL.bindL {F : Addr → Prop} {H0 H : Hp} {E : XK} {σ : St} {env : Env} {k : Int} {m : Els} {f : List D → Int → R (List D)} {Z Z' : Hp → List V → List D → Prop} {Q Q' : List V → Hp → Prop} (r : RelS C F H0 own σ H env k)
    (h : AfterL C F H0 own E σ H env ((m env k).bind f) Z Q)
    (go : ∀ d k1 v H1, m env k = .ok d k1 → RelS C F H0 own σ H1 env k1 → KeptS C H H1 → Z' H1 v d → AfterL C F H0 own E σ H1 env (f d k1) Z Q → Q' v H1) :
    AfterL C F H0 own E σ H env (m env k) Z' Q' := by
  cases e : m env k with
  | ok d k1 =>
    rw [e] at h
    have h : AfterL C F H0 own E σ H env (f d k1) Z Q := h
    intro v H1 r1 kp z
    refine go d k1 v H1 e r1 kp z ?_
    cases e2 : f d k1 with
    | ok d2 k2 =>
      rw [e2] at h
      exact fun v2 H2 r2 kp2 z2 => h v2 H2 r2 (kp.trans kp2) z2
    | ex c k2 =>
      rw [e2] at h
      exact fun H2 r2 kp2 => h H2 r2 (kp.trans kp2)
    | no =>
      rw [e2] at h
      exact h
  | ex c k1 =>
    rw [e] at h
    exact h
  | no =>
    rw [e] at h
    exact h
theorem AfterL.bindE {F : Addr → Prop} {H0 H : Hp} {E : XK} {σ : St} {env : Env} {k : Int} {m : Els} {f : List D → Int → R D} {Z : Hp → V → D → Prop} {Z' : Hp → List V → List D → Prop} {Q : VK} {Q' : List V → Hp → Prop} (r : RelS C F H0 own σ H env k)
    (h : After C F H0 own E σ H env ((m env k).bind f) Z Q)
    (go : ∀ d k1 v H1, m env k = .ok d k1 → RelS C F H0 own σ H1 env k1 → KeptS C H H1 → Z' H1 v d → After C F H0 own E σ H1 env (f d k1) Z Q → Q' v H1) :
    AfterL C F H0 own E σ H env (m env k) Z' Q' := by
  cases e : m env k with
  | ok d k1 =>
    rw [e] at h
    have h : After C F H0 own E σ H env (f d k1) Z Q := h
    intro v H1 r1 kp z
    refine go d k1 v H1 e r1 kp z ?_
    cases e2 : f d k1 with
    | ok d2 k2 =>
      rw [e2] at h
      exact fun v2 H2 r2 kp2 z2 => h v2 H2 r2 (kp.trans kp2) z2
    | ex c k2 =>
      rw [e2] at h
      exact fun H2 r2 kp2 => h H2 r2 (kp.trans kp2)
    | no =>
      rw [e2] at h
      exact h
  | ex c k1 =>
    rw [e] at h
    exact h
  | no =>
    rw [e] at h
    exact h
theorem da_nil : DA C lvl sc N own [] eNil := fun F H0 E X G => PA.imp pa_nil fun σ H Q ⟨env, k, r, q⟩ => q [] H r KeptS.refl RpL.nil
theorem dab_nil : DAB C lvl sc N own [] eNil := fun F H0 E X G => PA.imp pa_nil fun σ H Q ⟨env, k, r, q⟩ => q [] H r KeptS.refl RbL.nil
theorem da_cons (ha : DE C lvl sc N own a ma) (hr : DA C lvl sc N own es ms) (hs : ∀ env : PySem.Env, starEach (a :: es) env = (false, eval a env) :: starEach es env) : DA C lvl sc N own (a :: es) (eCons ma ms) := fun F H0 E X G =>
  PA.imp (pa_cons (ha F H0 E X G) (hr F H0 E X G) (hs X.env)) fun σ H Q ⟨env, k, r, q⟩ => by
    refine ⟨env, k, r, After.bindL r q fun d k1 v H1 _ r1 kp1 z1 q1 => ⟨env, k1, r1, AfterL.bindL r1 q1 fun ds k2 vs H2 _ r2 kp2 z2 q2 => ?_⟩⟩
    exact q2 _ H2 r2 KeptS.refl (RpL.cons (z1.lift (r1.kept kp2) fun _ _ n => n) z2)
theorem dab_cons (ha : DB C lvl sc N own a ma) (hr : DAB C lvl sc N own es ms) (hs : ∀ env : PySem.Env, starEach (a :: es) env = (false, eval a env) :: starEach es env) : DAB C lvl sc N own (a :: es) (eCons ma ms) := fun F H0 E X G =>
  PA.imp (pa_cons (ha F H0 E X G) (hr F H0 E X G) (hs X.env)) fun σ H Q ⟨env, k, r, q⟩ => by
    refine ⟨env, k, r, After.bindL r q fun d k1 v H1 _ r1 kp1 z1 q1 => ⟨env, k1, r1, AfterL.bindL r1 q1 fun ds k2 vs H2 _ r2 kp2 z2 q2 => ?_⟩⟩
    exact q2 _ H2 r2 KeptS.refl (RbL.cons (z1.after r1 kp2) z2)
/-- a tuple, a list -/
noncomputable def eTup (m : Els) : Ev := fun env k => (m env k).bind fun ds k1 => if ds.length ≤ sizeLine then .ok (.tup ds) k1 else .no
noncomputable def eLst (m : Els) : Ev := fun env k => (m env k).bind fun ds k1 => if ds.length ≤ sizeLine then .ok (.lst ds) k1 else .no
theorem After.ifok {F : Addr → Prop} {H0 H : Hp} {E : XK} {σ : St} {env : Env} {k : Int} {c : Prop} [Decidable c] {d : D} {Z : Hp → V → D → Prop} {Q : VK} (h : After C F H0 own E σ H env (if c then .ok d k else .no) Z Q) :
    c ∧ ∀ v H', RelS C F H0 own σ H' env k → KeptS C H H' → Z H' v d → Q v H' := by
  by_cases hc : c
  · rw [if_pos hc] at h
    exact ⟨hc, h⟩
  · rw [if_neg hc] at h
    exact h.elim
theorem de_tup {x1 : Nat} (h : DA C lvl sc N own es ms) : DE C lvl sc N own (.Tuple es x1 pos) (eTup ms) := fun F H0 E X G =>
  PE.imp (pe_tup (h F H0 E X G)) fun σ H Q ⟨env, k, r, q⟩ => by
    refine ⟨env, k, r, AfterL.bindE r q fun ds k1 vs H1 _ r1 kp1 z1 q1 => ?_⟩
    obtain ⟨hc, q2⟩ := q1.ifok
    exact ⟨by rw [z1.length]; exact hc, fun p hp => q2 _ _ (r1.same (same_new hp)) (.of_same (same_new hp)) (rp_tup hp z1)⟩
theorem df_lst (h : DA C lvl sc N own es ms) : DF C lvl sc N own (.List es pos) (eLst ms) := fun F H0 E X G =>
  PE.imp (pe_lst (h F H0 E X G)) fun σ H Q ⟨env, k, r, q⟩ => by
    refine ⟨env, k, r, AfterL.bindE r q fun ds k1 vs H1 _ r1 kp1 z1 q1 => ?_⟩
    obtain ⟨hc, q2⟩ := q1.ifok
    exact ⟨by rw [z1.length]; exact hc, fun p hp => q2 _ _ (r1.same (same_new hp)) (.of_same (same_new hp)) ((frv_lst hp (fun z => by rw [z, r1.cell] at hp; cases hp) z1).back kp1 r1.cell)⟩
end
end PL

set_option maxHeartbeats 4000000
/-! PL5: places, parts, starred parts, built-in functions. -/
namespace PL
open PySem PySem.Spec L2 StX
open Classical

/-! ### places -/
noncomputable def fIx : D → D → Option D
  | .lst xs, .int i => atI xs i
  | .tup xs, .int i => atI xs i
  | .dct kvs, y => (keyD y).bind fun k => lookD kvs k
  | _, _ => none
def IxJ (C : Cn) (lvl : Nat) (f : D → D → Option D) : Prop := ∀ (sc : Bl) (N : List Str) (E : XK) (X : Cx), Good C lvl sc N E X →
  IxR X fun x y H Q => ∃ O d e r, ((∀ a, O a → H a ≠ none) ∧ O C.aS) ∧ Rb C O H x d ∧ Rb C O H y e ∧ f d e = some r ∧ ∀ v H', Same H H' → Rp C O H' v r → Q v H'
section
variable {C : Cn} {lvl : Nat} {sc : Bl} {N : List Str} {own : List Nat} {pos : Pos} {a b : Expr} {ma mb : Ev}
theorem atI_rel {O : Addr → Prop} {H : Hp} {vs : List V} {ds : List D} (r : RpL C O H vs ds) {i : Int} {d : D} (h : atI ds i = some d) : ∃ v, atI vs i = some v ∧ Rp C O H v d := by
  unfold atI at h ⊢
  rw [← r.length] at h
  cases e : ixN vs.length i with
  | none => rw [e] at h; cases h
  | some j =>
    rw [e] at h
    obtain ⟨v, e1, e2⟩ := r.get (i := j) (d := d) h
    exact ⟨v, e1, e2⟩
theorem ij_ix : IxJ C lvl fIx := by
  intro sc N E X G value slice pins s σ H x y v u Q I rx ry h hs
  obtain ⟨O, d, e, r, ⟨tr, tS⟩, hx, hy, hf, q⟩ := h
  cases d with
  | lst xs =>
    cases e with
    | int i =>
      obtain ⟨p, vs, e1, ha, r1⟩ := hx.lstE
      obtain ⟨z, e2, rz⟩ := atI_rel r1 hf
      exact ix_list value slice pins s σ H x y v u Q I rx ry ⟨p, vs, i, z, e1, hy.intE, .inl (.inl ha), e2, q z H (Same.refl H) rz⟩ hs
    | _ => cases hf
  | tup xs =>
    cases e with
    | int i =>
      obtain ⟨p, vs, e1, ha, r1⟩ := hx.tupE
      obtain ⟨z, e2, rz⟩ := atI_rel r1 hf
      exact ix_tup value slice pins s σ H x y v u Q I rx ry ⟨p, vs, i, z, e1, hy.intE, G.K ▸ ha, e2, q z H (Same.refl H) rz⟩ hs
    | _ => cases hf
  | dct ds =>
    have hf : ((keyD e).bind fun k => lookD ds k) = some r := hf
    obtain ⟨k, ek, el⟩ := Option.bind_eq_some_iff.mp hf
    obtain ⟨p, kvs, rfl, ea, e1, r1⟩ := hx.dctE
    rcases look_rel k e1 r1 with ⟨h1, h2⟩ | ⟨v1, d1, h1, h2, rz⟩
    · rw [h2] at el
      cases el
    · rw [h2] at el
      obtain rfl := Option.some.inj el
      obtain rfl : v = Value.ref p := rx
      have g : DGet H p y (some v1) := .inl ⟨kvs, k, ea, keyD_kV hy ek, h1.symm⟩
      obtain ⟨z, hd, vs, rel, dd⟩ := dk_rd I.hok ea
      obtain ⟨w', hw, rw'⟩ := RelO.some_of (v := v1) (o := valueAt vs k) (by rw [← h1]; exact rel.val k)
      have ek' := keyD_kV hy ek
      subst ek'
      exact PyProof.Rows.subscriptTail_builtinR (x := w') (dict_typeIs I g) PySem.F.slot_dict_getitem.lookup
        (wpAny_getItem_of (kV_is ry) dd.mapOf hw ⟨rfl, v1, H, I.tok _, rw', q v1 H (Same.refl H) rz⟩) hs
  | _ => cases e <;> cases hf
theorem de_ix {f : D → D → Option D} (hi : IxJ C lvl f) (ha : DB C lvl sc N own a ma) (hb : DB C lvl sc N own b mb) (hs : ∀ o i, subscripted b false o i = operate [o, i] (getItem o i)) : DE C lvl sc N own (.Subscript a b pos) (e2 f ma mb) := fun F H0 E X G =>
  PE.imp (pe_ix (hi sc N E X G) (ha F H0 E X G) (hb F H0 E X G) hs) fun σ H Q ⟨env, k, r, q⟩ => by
    refine ⟨env, k, r, q.bind r fun d k1 v H1 _ r1 kp1 z1 q1 => ⟨env, k1, r1, q1.bind r1 fun e k2 w H2 _ r2 kp2 z2 q2 => ?_⟩⟩
    obtain ⟨x, ex, q3⟩ := q2.some
    exact ⟨_, d, e, x, ⟨r2.tracked, r2.oaS⟩, z1.after r1 kp2, z2, ex, fun v H' s z => q3 v H' (r2.same s) (.of_same s) z⟩

/-! ### parts -/
abbrev Eo := Env → Int → R (Option Int)
def AfterO (C : Cn) (F : Addr → Prop) (H0 : Hp) (own : List Nat) (E : XK) (σ : St) (H : Hp) (env : Env) (x : R (Option Int)) (Q : Option Int → Hp → Prop) : Prop :=
  match x with
  | .ok b k' => ∀ H', RelS C F H0 own σ H' env k' → KeptS C H H' → Q b H'
  | .ex c k' => ∀ H', RelS C F H0 own σ H' env k' → KeptS C H H' → E ((C.mg c).getD .none) none H'
  | .no => False
def tEvO (C : Cn) (F : Addr → Prop) (H0 : Hp) (own : List Nat) (m : Eo) (E : XK) : TO := fun σ H Q => ∃ env k, RelS C F H0 own σ H env k ∧ AfterO C F H0 own E σ H env (m env k) Q
def DO (C : Cn) (lvl : Nat) (sc : Bl) (N : List Str) (own : List Nat) (e : Option Expr) (m : Eo) : Prop :=
  ∀ (F : Addr → Prop) (H0 : Hp) (E : XK) (X : Cx), Good C lvl sc N E X → PO X e (tEvO C F H0 own m E)
theorem PO.imp {X : Cx} {e : Option Expr} {t t' : TO} (h : PO X e t) (i : ∀ σ H Q, t' σ H Q → t σ H Q) : PO X e t' :=
  ⟨fun pins s σ H Q I q => h.run pins s σ H Q I (i σ H Q q)⟩
def oNone : Eo := fun _ k => .ok none k
def toI : D → Int → R (Option Int)
  | .int i, k => .ok (some i) k
  | _, _ => .no
def oSome (m : Ev) : Eo := fun env k => (m env k).bind toI
theorem do_none : DO C lvl sc N own none oNone := fun F H0 E X G => PO.imp po_none fun σ H Q ⟨env, k, r, q⟩ => q H r KeptS.refl
theorem do_some (ha : DE C lvl sc N own a ma) : DO C lvl sc N own (some a) (oSome ma) := fun F H0 E X G =>
  PO.imp (po_some (ha F H0 E X G)) fun σ H Q ⟨env, k, r, q⟩ => by
    refine ⟨env, k, r, ?_⟩
    have q' : AfterO C F H0 own E σ H env ((ma env k).bind toI) Q := q
    cases e : ma env k with
    | ok d k1 =>
      rw [e] at q'
      intro v H1 r1 kp z
      cases d with
      | int i => exact ⟨i, (Rp.b z).intE, q' H1 r1 kp⟩
      | _ => exact q'.elim
    | ex c k1 =>
      rw [e] at q'
      exact q'
    | no =>
      rw [e] at q'
      exact q'
/-- s[lo:hi] of lists, of tuples -/
def cutD {α : Type} (xs : List α) (lo hi : Option Int) : List α := (xs.drop (HT.sIx xs.length 0 lo)).take (HT.sIx xs.length xs.length hi - HT.sIx xs.length 0 lo)
def fCut : D → Option Int → Option Int → Option D
  | .lst xs, lo, hi => some (.lst (cutD xs lo hi))
  | .tup xs, lo, hi => some (.tup (cutD xs lo hi))
  | _, _, _ => none
theorem cut_rel {O : Addr → Prop} {H : Hp} {vs : List V} {ds : List D} (r : RpL C O H vs ds) (lo hi : Option Int) : RpL C O H (cutV vs lo hi) (cutD ds lo hi) := by
  unfold cutV cutD
  rw [r.length]
  exact (r.drop _).take _
theorem cut_whole {vs : List V} {lo hi : Option Int} (h : HT.sIx vs.length 0 lo = 0 ∧ HT.sIx vs.length vs.length hi = vs.length) : cutV vs lo hi = vs := by
  unfold cutV
  rw [h.1, h.2, List.drop_zero, Nat.sub_zero, List.take_length]
def eCut (a : Ev) (lo hi : Eo) : Ev := fun env k => (a env k).bind fun x k1 => (lo env k1).bind fun l k2 => (hi env k2).bind fun h k3 => .of (fCut x l h) k3
theorem AfterO.bindE {F : Addr → Prop} {H0 H : Hp} {E : XK} {σ : St} {env : Env} {k : Int} {m : Eo} {f : Option Int → Int → R D} {Z : Hp → V → D → Prop} {Q : VK} {Q' : Option Int → Hp → Prop} (r : RelS C F H0 own σ H env k)
    (h : After C F H0 own E σ H env ((m env k).bind f) Z Q)
    (go : ∀ d k1 H1, m env k = .ok d k1 → RelS C F H0 own σ H1 env k1 → KeptS C H H1 → After C F H0 own E σ H1 env (f d k1) Z Q → Q' d H1) :
    AfterO C F H0 own E σ H env (m env k) Q' := by
  cases e : m env k with
  | ok d k1 =>
    rw [e] at h
    have h : After C F H0 own E σ H env (f d k1) Z Q := h
    intro H1 r1 kp
    refine go d k1 H1 e r1 kp ?_
    cases e2 : f d k1 with
    | ok d2 k2 =>
      rw [e2] at h
      exact fun v H2 r2 kp2 z => h v H2 r2 (kp.trans kp2) z
    | ex c k2 =>
      rw [e2] at h
      exact fun H2 r2 kp2 => h H2 r2 (kp.trans kp2)
    | no =>
      rw [e2] at h
      exact h
  | ex c k1 =>
    rw [e] at h
    exact h
  | no =>
    rw [e] at h
    exact h
theorem de_cut {lo hi : Option Expr} {ml mh : Eo} {p2 : Pos} (ha : DB C lvl sc N own a ma) (hl : DO C lvl sc N own lo ml) (hh : DO C lvl sc N own hi mh) : DE C lvl sc N own (.Subscript a (.Slice lo hi none p2) pos) (eCut ma ml mh) := fun F H0 E X G =>
  PE.imp (pe_slice (SlR.or sl_list sl_tupA) (ha F H0 E X G) (hl F H0 E X G) (hh F H0 E X G)) fun σ H Q ⟨env, k, r, q⟩ => by
    refine ⟨env, k, r, q.bind r fun d k1 v H1 _ r1 kp1 z1 q1 => ⟨env, k1, r1, AfterO.bindE r1 q1 fun l k2 H2 _ r2 kp2 q2 => ⟨env, k2, r2, AfterO.bindE r2 q2 fun h k3 H3 _ r3 kp3 q3 => ?_⟩⟩⟩
    obtain ⟨x, ex, q4⟩ := q3.some
    have z3 : Rb C (OA F own σ) H3 v d := (z1.after r1 kp2).after r2 kp3
    cases d with
    | lst xs =>
      obtain rfl := Option.some.inj ex
      obtain ⟨p, vs, e1, hp, rr⟩ := z3.lstE
      exact .inl ⟨p, vs, e1, .inl (.inl hp), fun p' hp' => q4 _ _ (r3.same (same_new hp')) (.of_same (same_new hp')) (rp_lst hp' r3.tracked (cut_rel rr l h))⟩
    | tup xs =>
      obtain rfl := Option.some.inj ex
      obtain ⟨p, vs, e1, hp, rr⟩ := z3.tupE
      refine .inr ⟨p, vs, e1, G.K ▸ hp, fun w => ?_, fun _ p' hp' => q4 _ _ (r3.same (same_new hp')) (.of_same (same_new hp')) (rp_tup hp' (cut_rel rr l h))⟩
      have rc := cut_rel rr l h
      rw [cut_whole w] at rc
      exact q4 _ H3 r3 KeptS.refl (Rp.tup hp rc)
    | _ => cases ex

/-! ### starred -/
theorem da_star {p : Pos} {es : List Expr} {ms : Els} (ha : DE C lvl sc N own a ma) (hr : DA C lvl sc N own es ms) (hs : ∀ env : PySem.Env, starEach (.Starred a p :: es) env = (true, eval a env) :: starEach es env) :
    DA C lvl sc N own (.Starred a p :: es) (eStar ma ms) := fun F H0 E X G =>
  PA.imp (StX.pa_star (ha F H0 E X G) (hr F H0 E X G) (hs X.env)) fun σ H Q ⟨env, k, r, q⟩ => by
    refine ⟨env, k, r, After.bindL r q fun d k1 v H1 _ r1 kp1 z1 q1 => ?_⟩
    cases d with
    | lst ys =>
      obtain ⟨p, vs, e1, hp, rr⟩ := (Rp.b z1).lstE
      refine ⟨p, vs, e1, .inr (.inl (.inl hp)), env, k1, r1, AfterL.bindL r1 q1 fun ds k2 ws H2 _ r2 kp2 z2 q2 => ?_⟩
      exact q2 _ H2 r2 KeptS.refl ((rr.lift (r1.kept kp2) fun _ _ n => n).append z2)
    | tup ys =>
      obtain ⟨p, vs, e1, hp, rr⟩ := (Rp.b z1).tupE
      refine ⟨p, vs, e1, .inl (G.K ▸ hp), env, k1, r1, AfterL.bindL r1 q1 fun ds k2 ws H2 _ r2 kp2 z2 q2 => ?_⟩
      exact q2 _ H2 r2 KeptS.refl ((rr.lift (r1.kept kp2) fun _ _ n => n).append z2)
    | _ => exact q1.elim

/-! ### built-in functions -/
def CallJ (C : Cn) (lvl : Nat) (g : Value) (f : List D → Option D) : Prop := ∀ (sc : Bl) (N : List Str) (E : XK) (X : Cx), Good C lvl sc N E X →
  CallR X g fun xs H Q => ∃ O ds r, ((∀ a, O a → H a ≠ none) ∧ O C.aS) ∧ RbL C O H xs ds ∧ f ds = some r ∧ ∀ v H', Same H H' → Rp C O H' v r → Q v H'
/-- a built-in's name, not the module's own -/
def okBlt (sc : Bl) (x : Str) : Bool := (sc.names.lookup x == some .globalImplicit) && !(x == ("__name__" : Str)) && !(x == ("__debug__" : Str))
def eCallB (f : List D → Option D) (ms : Els) : Ev := fun env k => (ms env k).bind fun ds k1 => .of (f ds) k1
theorem okBlt.gl {X : Cx} {E : XK} (G : Good C lvl sc N E X) {x : Str} (h : okBlt sc x = true) : Gl X x ∧ x ≠ "__name__" ∧ (x == ("__debug__" : Str)) = false := by
  unfold okBlt at h
  simp only [Bool.and_eq_true, beq_iff_eq, Bool.not_eq_true'] at h
  obtain ⟨⟨h1, h2⟩, h3⟩ := h
  refine ⟨?_, ?_, by simpa using h3⟩
  · show X.env.scope.names.lookup x = _
    rw [G.scope]
    exact h1
  · intro e
    rw [e] at h2
    exact absurd h2 (by decide +kernel)
theorem de_callB {x : Str} {p : Pos} {id : String} {f : List D → Option D} {es : List Expr} {ms : Els} (hc : CallJ C lvl (.builtin id) f) (hg : okBlt sc x = true) (hm : C.mg x = none) (hv : bootBuiltins x = some (.builtin id)) (ha : DAB C lvl sc N own (a :: es) ms)
    (hs : ∀ env : PySem.Env, starEach (a :: es) env = (false, eval a env) :: starEach es env) (hpl : ∀ (env : PySem.Env) (p : Pos), (backTo p (starEach es env)).any (·.1) = false) :
    DE C lvl sc N own (.Call (.Name x p) (a :: es) [] pos) (eCallB f ms) := fun F H0 E X G =>
  PE.imp (pe_callB (hc sc N E X G) (okBlt.gl G hg).1 (by rw [G.mg]; exact hm) hv (ha F H0 E X G) (okBlt.gl G hg).2.1 (okBlt.gl G hg).2.2 (hs X.env) (hpl X.env _)) fun σ H Q ⟨env, k, r, q⟩ => by
    refine ⟨env, k, r, AfterL.bindE r q fun ds k1 vs H1 _ r1 kp1 z1 q1 => ?_⟩
    obtain ⟨x, ex, q2⟩ := q1.some
    exact ⟨_, ds, x, ⟨r1.tracked, r1.oaS⟩, z1, ex, fun v H' s z => q2 v H' (r1.same s) (.of_same s) z⟩
theorem de_callTy {x : Str} {p : Pos} {T : String} {f : List D → Option D} {es : List Expr} {ms : Els} (hc : CallJ C lvl (.type T) f) (hg : okBlt sc x = true) (hm : C.mg x = none) (hv : bootBuiltins x = some (.type T)) (ha : DAB C lvl sc N own (a :: es) ms)
    (hs : ∀ env : PySem.Env, starEach (a :: es) env = (false, eval a env) :: starEach es env) (hpl : ∀ (env : PySem.Env) (p : Pos), (backTo p (starEach es env)).any (·.1) = false) :
    DE C lvl sc N own (.Call (.Name x p) (a :: es) [] pos) (eCallB f ms) := fun F H0 E X G =>
  PE.imp (pe_callTy (hc sc N E X G) (okBlt.gl G hg).1 (by rw [G.mg]; exact hm) hv (ha F H0 E X G) (okBlt.gl G hg).2.1 (okBlt.gl G hg).2.2 (hs X.env) (hpl X.env _)) fun σ H Q ⟨env, k, r, q⟩ => by
    refine ⟨env, k, r, AfterL.bindE r q fun ds k1 vs H1 _ r1 kp1 z1 q1 => ?_⟩
    obtain ⟨x, ex, q2⟩ := q1.some
    exact ⟨_, ds, x, ⟨r1.tracked, r1.oaS⟩, z1, ex, fun v H' s z => q2 v H' (r1.same s) (.of_same s) z⟩
def fLen : List D → Option D
  | [.lst xs] => some (.int xs.length)
  | [.tup xs] => some (.int xs.length)
  | [.dct kvs] => some (.int kvs.length)
  | _ => none
theorem RbL.one {O : Addr → Prop} {H : Hp} {vs : List V} {d : D} (h : RbL C O H vs [d]) : ∃ v, vs = [v] ∧ Rb C O H v d := by
  cases h with
  | cons h r =>
    cases r
    exact ⟨_, rfl, h⟩
theorem RbL.two {O : Addr → Prop} {H : Hp} {vs : List V} {d e : D} (h : RbL C O H vs [d, e]) : ∃ v w, vs = [v, w] ∧ Rb C O H v d ∧ Rb C O H w e := by
  cases h with
  | cons h r =>
    obtain ⟨w, rfl, h2⟩ := r.one
    exact ⟨_, w, rfl, h, h2⟩
theorem cj_len : CallJ C lvl (.builtin "len") fLen := by
  intro sc N E X G pins s σ H xs us Q I r h
  obtain ⟨O, ds, d, ⟨tr, tS⟩, hx, hf, q⟩ := h
  match ds, hf with
  | [.lst ys], hf =>
    obtain rfl := Option.some.inj hf
    obtain ⟨v, rfl, hv⟩ := hx.one
    obtain ⟨p, vs, rfl, hp, rr⟩ := hv.lstE
    exact call_len_seq pins s σ H _ us Q I r ⟨p, vs, rfl, .inl (.inl (.inl hp)), by rw [rr.length]; exact q _ H (Same.refl H) (.int _)⟩
  | [.tup ys], hf =>
    obtain rfl := Option.some.inj hf
    obtain ⟨v, rfl, hv⟩ := hx.one
    obtain ⟨p, vs, rfl, hp, rr⟩ := hv.tupE
    exact call_len_seq pins s σ H _ us Q I r ⟨p, vs, rfl, .inr (G.K ▸ hp), by rw [rr.length]; exact q _ H (Same.refl H) (.int _)⟩
  | [.dct ys], hf =>
    obtain rfl := Option.some.inj hf
    obtain ⟨v, rfl, hv⟩ := hx.one
    obtain ⟨p, kvs, rfl, hp, e1, rr⟩ := hv.dctE
    have e2 := congrArg List.length e1
    rw [List.length_map, List.length_map] at e2
    obtain ⟨u, rfl, ru⟩ := vals1 r
    cases ru
    rw [← e2] at q
    exact d_len I hp fun t s' I' => ⟨.int kvs.length, H, I', ⟨t, rfl⟩, q _ H (Same.refl H) (.int _)⟩
  | [], hf => cases hf
  | [.non], hf => cases hf
  | [.bl _], hf => cases hf
  | [.int _], hf => cases hf
  | [.str _], hf => cases hf
  | [.dctT _], hf => cases hf
  | [.fn _], hf => cases hf
  | [.cell], hf => cases hf
  | _ :: _ :: _, hf => exact absurd hf (by simp [fLen])
end
end PL

set_option maxHeartbeats 4000000
/-! PL6: more built-in functions: numbers, sums, least and greatest, any, all, tuple, list, sorted, repr. -/
namespace PL
open PySem PySem.Spec L2
open Classical
section
variable {C : Cn} {lvl : Nat} {O : Addr → Prop} {H : Hp}
def toInts : List D → Option (List Int)
  | [] => some []
  | .int i :: r => (toInts r).map (i :: ·)
  | _ :: _ => none
def toBls : List D → Option (List Bool)
  | [] => some []
  | .bl i :: r => (toBls r).map (i :: ·)
  | _ :: _ => none
theorem toInts_map : ∀ ns : List Int, toInts (ns.map D.int) = some ns
  | [] => rfl
  | n :: ns => by rw [List.map_cons, toInts, toInts_map ns]; rfl
theorem toBls_map : ∀ ns : List Bool, toBls (ns.map D.bl) = some ns
  | [] => rfl
  | n :: ns => by rw [List.map_cons, toBls, toBls_map ns]; rfl
theorem toInts_eq : ∀ {ds : List D} {ns : List Int}, toInts ds = some ns → ds = ns.map D.int
  | [], _, h => by
    obtain rfl := Option.some.inj h
    rfl
  | .int i :: r, ns, h => by
    rw [toInts] at h
    obtain ⟨ms, h1, rfl⟩ := Option.map_eq_some_iff.mp h
    rw [toInts_eq h1]
    rfl
  | .non :: _, _, h => by cases h
  | .bl _ :: _, _, h => by cases h
  | .str _ :: _, _, h => by cases h
  | .tup _ :: _, _, h => by cases h
  | .lst _ :: _, _, h => by cases h
  | .dct _ :: _, _, h => by cases h
  | .dctT _ :: _, _, h => by cases h
  | .fn _ :: _, _, h => by cases h
  | .cell :: _, _, h => by cases h
theorem toBls_eq : ∀ {ds : List D} {ns : List Bool}, toBls ds = some ns → ds = ns.map D.bl
  | [], _, h => by
    obtain rfl := Option.some.inj h
    rfl
  | .bl i :: r, ns, h => by
    rw [toBls] at h
    obtain ⟨ms, h1, rfl⟩ := Option.map_eq_some_iff.mp h
    rw [toBls_eq h1]
    rfl
  | .non :: _, _, h => by cases h
  | .int _ :: _, _, h => by cases h
  | .str _ :: _, _, h => by cases h
  | .tup _ :: _, _, h => by cases h
  | .lst _ :: _, _, h => by cases h
  | .dct _ :: _, _, h => by cases h
  | .dctT _ :: _, _, h => by cases h
  | .fn _ :: _, _, h => by cases h
  | .cell :: _, _, h => by cases h
theorem RpL.intsE {O : Addr → Prop} {H : Hp} : ∀ {ns : List Int} {vs : List V}, RpL C O H vs (ns.map D.int) → vs = ns.map V.int
  | [], _, h => by
    cases h
    rfl
  | n :: ns, _, h => by
    cases h with
    | cons h r =>
      rw [(Rp.b h).intE, RpL.intsE r]
      rfl
theorem RpL.blsE {O : Addr → Prop} {H : Hp} : ∀ {ns : List Bool} {vs : List V}, RpL C O H vs (ns.map D.bl) → vs = ns.map V.bl
  | [], _, h => by
    cases h
    rfl
  | n :: ns, _, h => by
    cases h with
    | cons h r =>
      rw [(Rp.b h).blE, RpL.blsE r]
      rfl
/-- one argument -/
def f1 (f : D → Option D) : List D → Option D
  | [d] => f d
  | _ => none
def f2 (f : D → D → Option D) : List D → Option D
  | [d, e] => f d e
  | _ => none
theorem cj_one {g : Value} {f : D → Option D}
    (h : ∀ (sc : Bl) (N : List Str) (E : XK) (X : Cx), Good C lvl sc N E X → ∀ (pins : List (Addr × Obj)) (s : Shared) (σ : St) (H : Hp) (x : V) (u : Value) (Q : VK), L2.Inv X pins σ H s → RelV x u →
      ∀ (O : Addr → Prop) (d r : D), (∀ a, O a → H a ≠ none) → O C.aS → Rb C O H x d → f d = some r → (∀ v H', Same H H' → Rp C O H' v r → Q v H') → wpAny (model X.prog X.w) X.A (call g [u]) (EP X pins σ Q) X.xe s) : CallJ C lvl g (f1 f) := by
  intro sc N E X G pins s σ H xs us Q I r hh
  obtain ⟨O, ds, d, ⟨tr, tS⟩, hx, hf, q⟩ := hh
  match ds, hx, hf with
  | [e], hx, hf =>
    obtain ⟨v, rfl, hv⟩ := hx.one
    obtain ⟨u, rfl, ru⟩ := vals1 r
    exact h sc N E X G pins s σ H v u Q I ru O e d tr tS hv hf q
  | [], hx, hf => exact absurd hf (by simp [f1])
  | _ :: _ :: _, hx, hf => exact absurd hf (by simp [f1])
theorem cj_two {g : Value} {f : D → D → Option D}
    (h : ∀ (sc : Bl) (N : List Str) (E : XK) (X : Cx), Good C lvl sc N E X → ∀ (pins : List (Addr × Obj)) (s : Shared) (σ : St) (H : Hp) (x y : V) (us : List Value) (Q : VK), L2.Inv X pins σ H s → Vals [x, y] us →
      ∀ (O : Addr → Prop) (d e r : D), (∀ a, O a → H a ≠ none) → O C.aS → Rb C O H x d → Rb C O H y e → f d e = some r → (∀ v H', Same H H' → Rp C O H' v r → Q v H') → wpAny (model X.prog X.w) X.A (call g us) (EP X pins σ Q) X.xe s) : CallJ C lvl g (f2 f) := by
  intro sc N E X G pins s σ H xs us Q I r hh
  obtain ⟨O, ds, d, ⟨tr, tS⟩, hx, hf, q⟩ := hh
  match ds, hx, hf with
  | [e, e'], hx, hf =>
    obtain ⟨v, w, rfl, hv, hw⟩ := hx.two
    exact h sc N E X G pins s σ H v w us Q I r O e e' d tr tS hv hw hf q
  | [], hx, hf => exact absurd hf (by simp [f2])
  | [_], hx, hf => exact absurd hf (by simp [f2])
  | _ :: _ :: _ :: _, hx, hf => exact absurd hf (by simp [f2])

def fInt : D → Option D
  | .int i => some (.int i)
  | .bl b => some (.int (if b then 1 else 0))
  | _ => none
theorem cj_int : CallJ C lvl (.type "int") (f1 fInt) := cj_one fun sc N E X G pins s σ H x u Q I ru O d r tr tS hx hf q => by
  cases d with
  | int i =>
    obtain rfl := Option.some.inj hf
    exact call_int1 pins s σ H [x] [u] Q I (.cons ru .nil) (.inl ⟨i, by rw [hx.intE], q _ H (Same.refl H) (.int _)⟩)
  | bl b =>
    obtain rfl := Option.some.inj hf
    exact call_int1 pins s σ H [x] [u] Q I (.cons ru .nil) (.inr ⟨b, by rw [hx.blE], q _ H (Same.refl H) (.int _)⟩)
  | _ => cases hf
def fAbs : D → Option D
  | .int i => some (.int (if i < 0 then -i else i))
  | _ => none
theorem cj_abs : CallJ C lvl (.builtin "abs") (f1 fAbs) := cj_one fun sc N E X G pins s σ H x u Q I ru O d r tr tS hx hf q => by
  cases d with
  | int i =>
    obtain rfl := Option.some.inj hf
    exact call_abs pins s σ H [x] [u] Q I (.cons ru .nil) ⟨i, by rw [hx.intE], q _ H (Same.refl H) (.int _)⟩
  | _ => cases hf
def fMax2 : D → D → Option D
  | .int i, .int j => some (.int (if j > i then j else i))
  | _, _ => none
def fMin2 : D → D → Option D
  | .int i, .int j => some (.int (if j < i then j else i))
  | _, _ => none
theorem cj_max2 : CallJ C lvl (.builtin "max") (f2 fMax2) := cj_two fun sc N E X G pins s σ H x y us Q I ru O d e r tr tS hx hy hf q => by
  cases d with
  | int i =>
    cases e with
    | int j =>
      obtain rfl := Option.some.inj hf
      exact call_max2 G.calm pins s σ H [x, y] us Q I ru ⟨i, j, by rw [hx.intE, hy.intE], q _ H (Same.refl H) (.int _)⟩
    | _ => cases hf
  | _ => cases e <;> cases hf
theorem cj_min2 : CallJ C lvl (.builtin "min") (f2 fMin2) := cj_two fun sc N E X G pins s σ H x y us Q I ru O d e r tr tS hx hy hf q => by
  cases d with
  | int i =>
    cases e with
    | int j =>
      obtain rfl := Option.some.inj hf
      exact call_min2 G.calm pins s σ H [x, y] us Q I ru ⟨i, j, by rw [hx.intE, hy.intE], q _ H (Same.refl H) (.int _)⟩
    | _ => cases hf
  | _ => cases e <;> cases hf
def fSum : D → Option D
  | .lst xs => (toInts xs).map fun ns => .int ns.sum
  | _ => none
theorem cj_sum : CallJ C lvl (.builtin "sum") (f1 fSum) := cj_one fun sc N E X G pins s σ H x u Q I ru O d r tr tS hx hf q => by
  cases d with
  | lst xs =>
    obtain ⟨ns, h1, rfl⟩ := Option.map_eq_some_iff.mp hf
    have h2 := toInts_eq h1
    subst h2
    obtain ⟨a, vs, rfl, ha, rr⟩ := hx.lstE
    have e := rr.intsE
    subst e
    exact cr_sum G.calm pins s σ H _ [u] Q I (.cons ru .nil) ⟨a, ns, rfl, .inl (.inl ha), q _ H (Same.refl H) (.int _)⟩
  | _ => cases hf
/-- the greatest, the least -/
def maxI : List Int → Int
  | [] => 0
  | x :: xs => xs.foldl max x
def minI : List Int → Int
  | [] => 0
  | x :: xs => xs.foldl min x
theorem foldl_max (xs : List Int) : ∀ x : Int, (xs.foldl max x ∈ x :: xs) ∧ ∀ y ∈ x :: xs, y ≤ xs.foldl max x := by
  induction xs with
  | nil => exact fun x => ⟨List.mem_cons_self, fun y hy => by rw [List.mem_singleton.mp hy]; exact Int.le_refl _⟩
  | cons z zs ih =>
    intro x
    obtain ⟨h1, h2⟩ := ih (max x z)
    rw [List.foldl_cons]
    refine ⟨?_, fun y hy => ?_⟩
    · rcases List.mem_cons.mp h1 with e | e
      · rw [e]
        by_cases hh : x ≤ z
        · rw [Int.max_eq_right hh]
          exact List.mem_cons_of_mem _ List.mem_cons_self
        · rw [Int.max_eq_left (by omega)]
          exact List.mem_cons_self
      · exact List.mem_cons_of_mem _ (List.mem_cons_of_mem _ e)
    · have h3 := h2 _ List.mem_cons_self
      rcases List.mem_cons.mp hy with e | hy
      · subst e
        exact Int.le_trans (Int.le_max_left _ _) h3
      · rcases List.mem_cons.mp hy with e | hy
        · subst e
          exact Int.le_trans (Int.le_max_right _ _) h3
        · exact h2 y (List.mem_cons_of_mem _ hy)
theorem foldl_min (xs : List Int) : ∀ x : Int, (xs.foldl min x ∈ x :: xs) ∧ ∀ y ∈ x :: xs, xs.foldl min x ≤ y := by
  induction xs with
  | nil => exact fun x => ⟨List.mem_cons_self, fun y hy => by rw [List.mem_singleton.mp hy]; exact Int.le_refl _⟩
  | cons z zs ih =>
    intro x
    obtain ⟨h1, h2⟩ := ih (min x z)
    rw [List.foldl_cons]
    refine ⟨?_, fun y hy => ?_⟩
    · rcases List.mem_cons.mp h1 with e | e
      · rw [e]
        by_cases hh : x ≤ z
        · rw [Int.min_eq_left hh]
          exact List.mem_cons_self
        · rw [Int.min_eq_right (by omega)]
          exact List.mem_cons_of_mem _ List.mem_cons_self
      · exact List.mem_cons_of_mem _ (List.mem_cons_of_mem _ e)
    · have h3 := h2 _ List.mem_cons_self
      rcases List.mem_cons.mp hy with e | hy
      · subst e
        exact Int.le_trans h3 (Int.min_le_left _ _)
      · rcases List.mem_cons.mp hy with e | hy
        · subst e
          exact Int.le_trans h3 (Int.min_le_right _ _)
        · exact h2 y (List.mem_cons_of_mem _ hy)
theorem maxI_mem {ns : List Int} (h : ns ≠ []) : maxI ns ∈ ns := by
  cases ns with
  | nil => exact absurd rfl h
  | cons x xs => exact (foldl_max xs x).1
theorem maxI_le {ns : List Int} {y : Int} (h : y ∈ ns) : y ≤ maxI ns := by
  cases ns with
  | nil => cases h
  | cons x xs => exact (foldl_max xs x).2 y h
theorem minI_mem {ns : List Int} (h : ns ≠ []) : minI ns ∈ ns := by
  cases ns with
  | nil => exact absurd rfl h
  | cons x xs => exact (foldl_min xs x).1
theorem minI_le {ns : List Int} {y : Int} (h : y ∈ ns) : minI ns ≤ y := by
  cases ns with
  | nil => cases h
  | cons x xs => exact (foldl_min xs x).2 y h
def fMax1 : D → Option D
  | .lst xs => (toInts xs).bind fun ns => if ns = [] then none else some (.int (maxI ns))
  | _ => none
def fMin1 : D → Option D
  | .lst xs => (toInts xs).bind fun ns => if ns = [] then none else some (.int (minI ns))
  | _ => none
theorem cj_max1 : CallJ C lvl (.builtin "max") (f1 fMax1) := cj_one fun sc N E X G pins s σ H x u Q I ru O d r tr tS hx hf q => by
  cases d with
  | lst xs =>
    have hf : ((toInts xs).bind fun ns => if ns = [] then none else some (D.int (maxI ns))) = some r := hf
    obtain ⟨ns, h1, h2⟩ := Option.bind_eq_some_iff.mp hf
    by_cases h0 : ns = []
    · rw [if_pos h0] at h2
      cases h2
    · rw [if_neg h0] at h2
      obtain rfl := Option.some.inj h2
      have h2 := toInts_eq h1
      subst h2
      obtain ⟨a, vs, rfl, ha, rr⟩ := hx.lstE
      have e := rr.intsE
      subst e
      refine cr_max G.calm pins s σ H _ [u] Q I (.cons ru .nil) ⟨a, ns, rfl, .inl (.inl ha), List.length_pos_iff.mpr h0, fun m hm hle => ?_⟩
      have e : m = maxI ns := Int.le_antisymm (maxI_le hm) (hle _ (maxI_mem h0))
      rw [e]
      exact q _ H (Same.refl H) (.int _)
  | _ => cases hf
theorem cj_min1 : CallJ C lvl (.builtin "min") (f1 fMin1) := cj_one fun sc N E X G pins s σ H x u Q I ru O d r tr tS hx hf q => by
  cases d with
  | lst xs =>
    have hf : ((toInts xs).bind fun ns => if ns = [] then none else some (D.int (minI ns))) = some r := hf
    obtain ⟨ns, h1, h2⟩ := Option.bind_eq_some_iff.mp hf
    by_cases h0 : ns = []
    · rw [if_pos h0] at h2
      cases h2
    · rw [if_neg h0] at h2
      obtain rfl := Option.some.inj h2
      have h2 := toInts_eq h1
      subst h2
      obtain ⟨a, vs, rfl, ha, rr⟩ := hx.lstE
      have e := rr.intsE
      subst e
      refine cr_min G.calm pins s σ H _ [u] Q I (.cons ru .nil) ⟨a, ns, rfl, .inl (.inl ha), List.length_pos_iff.mpr h0, fun m hm hle => ?_⟩
      have e : m = minI ns := Int.le_antisymm (hle _ (minI_mem h0)) (minI_le hm)
      rw [e]
      exact q _ H (Same.refl H) (.int _)
  | _ => cases hf
def fAny : D → Option D
  | .lst xs => (toBls xs).map fun ns => .bl (ns.any id)
  | _ => none
def fAll : D → Option D
  | .lst xs => (toBls xs).map fun ns => .bl (ns.all id)
  | _ => none
theorem cj_any : CallJ C lvl (.builtin "any") (f1 fAny) := cj_one fun sc N E X G pins s σ H x u Q I ru O d r tr tS hx hf q => by
  cases d with
  | lst xs =>
    obtain ⟨ns, h1, rfl⟩ := Option.map_eq_some_iff.mp hf
    have h2 := toBls_eq h1
    subst h2
    obtain ⟨a, vs, rfl, ha, rr⟩ := hx.lstE
    have e := rr.blsE
    subst e
    exact cr_any G.calm pins s σ H _ [u] Q I (.cons ru .nil) ⟨a, ns, rfl, .inl (.inl ha), q _ H (Same.refl H) (.bl _)⟩
  | _ => cases hf
theorem cj_all : CallJ C lvl (.builtin "all") (f1 fAll) := cj_one fun sc N E X G pins s σ H x u Q I ru O d r tr tS hx hf q => by
  cases d with
  | lst xs =>
    obtain ⟨ns, h1, rfl⟩ := Option.map_eq_some_iff.mp hf
    have h2 := toBls_eq h1
    subst h2
    obtain ⟨a, vs, rfl, ha, rr⟩ := hx.lstE
    have e := rr.blsE
    subst e
    exact cr_all G.calm pins s σ H _ [u] Q I (.cons ru .nil) ⟨a, ns, rfl, .inl (.inl ha), q _ H (Same.refl H) (.bl _)⟩
  | _ => cases hf
def fTup : D → Option D
  | .lst xs => some (.tup xs)
  | .tup xs => some (.tup xs)
  | _ => none
theorem cj_tup : CallJ C lvl (.type "tuple") (f1 fTup) := cj_one fun sc N E X G pins s σ H x u Q I ru O d r tr tS hx hf q => by
  cases d with
  | lst xs =>
    obtain rfl := Option.some.inj hf
    obtain ⟨a, vs, rfl, ha, rr⟩ := hx.lstE
    exact call_tuple_of pins s σ H _ [u] Q I (.cons ru .nil) ⟨a, vs, rfl, .inl ⟨.inl (.inl ha), fun l hl => q _ _ (same_new hl) (rp_tup hl rr)⟩⟩
  | tup xs =>
    obtain rfl := Option.some.inj hf
    obtain ⟨a, vs, rfl, ha, rr⟩ := hx.tupE
    exact call_tuple_of pins s σ H _ [u] Q I (.cons ru .nil) ⟨a, vs, rfl, .inr ⟨G.K ▸ ha, q _ H (Same.refl H) (.tup ha rr)⟩⟩
  | _ => cases hf
end
end PL

set_option maxHeartbeats 4000000
/-! PL7: a def's promise, its call, its body. -/
namespace PL
open PySem PySem.Spec L2
open PyProof.Rows (envOfC)
open Classical

/-- a def at f keeps sp, where nothing is being shown -/
structure FnG (P : Program) (w : World) (K : PySem.W.Frag) (mg : Str → Option Value) (base : Heap) (k : Nat) (f : Addr) (fd : FuncData) (ps : List Str) (sp : Sp) : Prop where
  len : ∀ vs H Q E, sp vs H Q E → vs.length = ps.length
  run : ∀ (A : Around) (outer : List PySem.Env) (s : Shared) (H : Hp) (args : Args) (us : List Value) (vs : List V) (Q : VK) (E : XK), A.guards = some [] → Room k A → Env0 P w K mg base A outer s H → BindsTo s fd args (ps.zip us) → Vals vs us → sp vs H Q E →
    codeAny (model P w) A (.call (.ref f) args) (CR (L2N.CX P w) outer P w H s Q E) s

theorem FnG.raise {P : Program} {w : World} {K : PySem.W.Frag} {mg : Str → Option Value} {base : Heap} {j k : Nat} {f : Addr} {fd : FuncData} {ps : List Str} {sp : Sp} (G : FnG P w K mg base j f fd ps sp) (h : j ≤ k) : FnG P w K mg base k f fd ps sp :=
  ⟨G.len, fun A o s H a us vs Q E g hr => G.run A o s H a us vs Q E g (hr.mono h)⟩
theorem FnG.of {P : Program} {w : World} {K : PySem.W.Frag} {mg : Str → Option Value} {base : Heap} {k : Nat} {f : Addr} {fd : FuncData} {ps : List Str} {sp : Sp} (G : FnOk P w K mg base (L2N.CX P w) k f fd ps sp) : FnG P w K mg base k f fd ps sp :=
  ⟨G.len, fun A o s H a us vs Q E _ hr => G.run A o s H a us vs Q E hr⟩

/-- the body of a def, at each entry where nothing is being shown -/
theorem fng_of {P : Program} {w : World} {K : PySem.W.Frag} {mg : Str → Option Value} {base : Heap} {k : Nat} {f : Addr} {nm ql : Str} {par : Arguments} {bd : List Stmt} {sc : Scope} {dV kV doc pm cdv ct oc : Value} {an od : Option Addr}
    {osl : Array (Option Value)} {N ps : List Str} {sp : Sp} (lk : K.lookup f = some ⟨oc, od, .func (PySem.W.fnOf nm ql par bd sc dV kV doc pm an cdv ct), osl⟩) (hc : PySem.W.codeIn K cdv ql = true) (S : FnScope N ps sc)
    (len : ∀ vs H Q E, sp vs H Q E → vs.length = ps.length)
    (body : ∀ (A : Around) (outer : List PySem.Env) (s : Shared) (H : Hp) (vs : List V) (Q : VK) (E : XK), A.guards = some [] → Room k (A.deeper (envOfC ql sc s.heap.objs.size f cdv)) → sp vs H Q E →
      ∃ t, PSs (cxOf (L2N.CX P w) P w K mg base N ql sc f cdv A outer s H E) bd t ∧ t { nx := fun _ H' => Q .non H', rt := Q } (L2.start N vs) H) :
    FnG P w K mg base (k + 1) f (PySem.W.fnOf nm ql par bd sc dV kV doc pm an cdv ct) ps sp := by
  constructor
  · exact len
  intro A outer s H args us vs Q E hg hr e hb r h
  have nl := len _ _ _ _ h
  have here : ∀ b o, base.get? b = some o → s.heap.get? b = some o := fun b o q => (e.bs b o q).1
  have knd : ∀ y ∈ ps.zip us, sc.names.lookup y.1 = some .local ∨ (sc.names.lookup y.1 = some .cell ∧ ((cellsFrom (s.heap.objs.size + 1) sc.names []).lookup y.1).isSome = true) := by
    rintro ⟨n, v⟩ hy
    have := S.par n (List.of_mem_zip hy).1
    exact this.imp id fun q => ⟨q, PySem.W.cellsFrom_some _ _ _ (.inl q)⟩
  refine PySem.codeAny_call_function hr.depth ((e.mod.kin.keeps here) _ _ lk) rfl S.co S.gen rfl (PySem.W.codeRec_of (e.mod.kin.keeps here) hc) (hb _ _ _ _ ?_)
  refine PySem.wpAny_newFunctionEnv_cells S.kind knd fun env he s1 x => ?_
  subst he
  refine ⟨(e.mod.nolimit.keeps here).keeps x.toInCall.keep, PySem.codeAny_func ?_⟩
  obtain ⟨t, ht, hq⟩ := body A outer s H vs Q E hg (hr.deeper _) h
  have I := inv_start (CX := L2N.CX P w) (E := E) S hr.hd e nl r x
  refine wpAny_mono (ht.run [] s1 (L2.start N vs) H _ I hq) (fun fl s' z => ?_) fun _ _ z => z
  match fl, z with
  | .ret u, ⟨v, σ', H', J, rv, q⟩ => exact ⟨v, H', J.os, J.bare, J.base, J.hok, rv, q⟩
  | .next, ⟨σ', H', J, q⟩ => exact ⟨V.non, H', J.os, J.bare, J.base, J.hok, rfl, q⟩
  | .brk, ⟨_, _, _, q⟩ => exact q.elim
  | .cont, ⟨_, _, _, q⟩ => exact q.elim

/-- what a def that computes φ promises -/
def spF (C : Cn) (φ : List D → Int → R D) (n : Nat) : Sp := fun vs H Q E => ∃ O ds k, O C.aS ∧ ¬ O C.aN ∧ (∀ a, O a → H a ≠ none) ∧ H C.aS = some (.lst [.ref C.aN, .int k]) ∧ Rd H C.aN (.lst (C.ns.map V.int)) ∧ RpL C O H vs ds ∧ ds.length = n ∧
  match φ ds k with
  | .ok d k' => ∀ v H', KeptS C H H' → H' C.aS = some (.lst [.ref C.aN, .int k']) → Rp C O H' v d → Q v H'
  | .ex c k' => ∀ H', KeptS C H H' → H' C.aS = some (.lst [.ref C.aN, .int k']) → E ((C.mg c).getD .none) none H'
  | .no => False
/-- a def of the module by its name -/
structure FnR (C : Cn) (k : Nat) (x : Str) (n : Nat) (φ : List D → Int → R D) : Prop where
  ex : ∃ f fd ps, C.mg x = some (.ref f) ∧ PySem.W.keepIn C.K (.ref f) = true ∧ Binds C.K fd ps [] ∧ FnG C.P C.w C.K C.mg C.base k f fd ps (spF C φ n)
theorem FnR.raise {C : Cn} {j k : Nat} {x : Str} {n : Nat} {φ : List D → Int → R D} (h : FnR C j x n φ) (l : j ≤ k) : FnR C k x n φ := by
  obtain ⟨f, fd, ps, h1, h2, h3, h4⟩ := h.ex
  exact ⟨f, fd, ps, h1, h2, h3, h4.raise l⟩

section
variable {C : Cn} {lvl : Nat} {sc : Bl} {N : List Str} {own : List Nat} {pos : Pos} {a : Expr} {es : List Expr} {ms : Els}
theorem run_fng {X : Cx} {k : Nat} {f : Addr} {fd : FuncData} {ps : List Str} {sp : Sp} {E : XK} {pins : List (Addr × Obj)} {σ : St} {H : Hp} {s : Shared} {Q : VK} {us : List Value} {vs : List V}
    (F : FnG X.prog X.w X.K X.mg X.base k f fd ps sp) (hg : X.A.guards = some []) (hr : Room k X.A) (hb : Binds X.K fd ps []) (tk : L2N.Takes X (fun cls d _ H => E cls d H))
    (I : L2.Inv X pins σ H s) (r : Vals vs us) (h : sp vs H Q E) : wpAny (model X.prog X.w) X.A (call (.ref f) us) (EP X pins σ Q) X.xe s := by
  have b := hb s us I.kIn (by rw [List.append_nil, ← r.length]; exact F.len _ _ _ _ h)
  rw [List.append_nil] at b
  refine wpAny_call (codeAny_mono (F.run X.A X.stack s H ⟨us, []⟩ us vs Q E hg hr I.env0 b r h) fun res s' z => ?_)
  match res, z with
  | .ok (.ret u), z => exact I.after z
  | .error e, z => exact tk e s' (L2N.XE.of_call (W := fun cls d _ H => E cls d H) (σ := σ) I (fun _ _ _ q => q) z)
def eCall (φ : List D → Int → R D) (ms : Els) : Ev := fun env k => (ms env k).bind φ
/-- a def's name -/
def okDef (sc : Bl) (x : Str) : Bool := (sc.names.lookup x == some .globalImplicit) && !(x == ("__debug__" : Str))
theorem okDef.gl {X : Cx} {E : XK} (G : Good C lvl sc N E X) {x : Str} (h : okDef sc x = true) : Gl X x ∧ (x == ("__debug__" : Str)) = false := by
  unfold okDef at h
  simp only [Bool.and_eq_true, beq_iff_eq, Bool.not_eq_true'] at h
  refine ⟨?_, by simpa using h.2⟩
  show X.env.scope.names.lookup x = _
  rw [G.scope]
  exact h.1
theorem de_call {x : Str} {p : Pos} {n j : Nat} {φ : List D → Int → R D} (hf : FnR C j x n φ) (hj : j ≤ lvl) (hg : okDef sc x = true) (ha : DA C lvl sc N own (a :: es) ms) (hn : (a :: es).length = n)
    (hl : ∀ env k ds k', ms env k = .ok ds k' → ds.length = (a :: es).length)
    (hs : ∀ env : PySem.Env, starEach (a :: es) env = (false, eval a env) :: starEach es env) (hpl : ∀ (env : PySem.Env) (p : Pos), (backTo p (starEach es env)).any (·.1) = false) :
    DE C lvl sc N own (.Call (.Name x p) (a :: es) [] pos) (eCall φ ms) := fun F H0 E X G => by
  obtain ⟨f, fd, ps, e1, e2, e3, e4⟩ := hf.ex
  have gl := okDef.gl G hg
  refine ⟨fun pins s σ H Q I h => ?_⟩
  refine wpAny_Call_Name_kw (ld_glob I gl.1 (by rw [G.mg]; exact e1) ?_ gl.2)
  have F4 : FnG X.prog X.w X.K X.mg X.base lvl f fd ps (spF C φ n) := by
    rw [G.prog, G.w, G.K, G.mg, G.base]
    exact e4.raise hj
  obtain ⟨env, k, r, q⟩ := h
  have q' : tEvA C F H0 own ms E σ H (fun vs H1 => spF C φ n vs H1 Q E) := by
    refine ⟨env, k, r, AfterL.bindE r q fun ds k1 vs H1 hm r1 kp1 z1 q1 => ?_⟩
    refine ⟨OA F own σ, ds, k1, r1.oaS, ?_, r1.tracked, r1.cell, r1.nums, z1, by rw [hl _ _ _ _ hm]; exact hn, ?_⟩
    · rintro (z | ⟨i, hi, ei⟩)
      · exact r1.fN z
      · obtain ⟨b, eb, _, nb, _⟩ := r1.mine i hi
        rw [ei] at eb
        cases eb
        exact nb rfl
    · cases hφ : φ ds k1 with
      | ok d k2 =>
        rw [hφ] at q1
        exact fun v H2 kp2 c2 z2 => q1 v H2 (r1.after kp2 c2 r1.aNS) kp2 z2
      | ex c k2 =>
        rw [hφ] at q1
        exact fun H2 kp2 c2 => q1 H2 (r1.after kp2 c2 r1.aNS) kp2
      | no =>
        rw [hφ] at q1
        exact q1
  refine PySem.W.callWith_K (h₀ := X.base) I.ok.mod.kin (by rw [G.K]; exact e2) (thn ((ha F H0 E X G).run pos pins s σ H _ I q') fun us s1 ⟨vs, H1, I1, rv, q2⟩ => ⟨I1.kIn, ?_⟩) (hs X.env) (hpl X.env _)
  exact run_fng F4 G.guards G.room (by rw [G.K]; exact e3) G.takes I1 rv q2
/-- the name of a def as a value -/
theorem de_def {x : Str} {p : Pos} {f : Addr} (hm : C.mg x = some (.ref f)) (hg : okDef sc x = true) : DE C lvl sc N own (.Name x p) (eC (.fn x)) := fun F H0 E X G =>
  PE.imp (pe_glob (v := .ref f) (okDef.gl G hg).1 (by rw [G.mg]; exact hm) rfl (okDef.gl G hg).2) fun σ H Q ⟨env, k, r, h⟩ => h _ _ r KeptS.refl (Rp.fn hm)
/-- a number of the module's own -/
theorem de_num {x : Str} {p : Pos} {i : Int} {t : Tok} (hm : C.mg x = some (.int i t)) (hg : okDef sc x = true) : DE C lvl sc N own (.Name x p) (eC (.int i)) := fun F H0 E X G =>
  PE.imp (pe_glob (v := .int i) (okDef.gl G hg).1 (by rw [G.mg]; exact hm) ⟨t, rfl⟩ (okDef.gl G hg).2) fun σ H Q ⟨env, k, r, h⟩ => h _ _ r KeptS.refl (Rp.int i)
end
end PL

set_option maxHeartbeats 4000000
/-! PL8: slots stored and forgotten, targets, what is walked. -/
namespace PL
open PySem PySem.Spec L2
open Classical

def wipeE (env : Env) : List Nat → Env
  | [] => env
  | v :: vs => (wipeE env vs).set v none
theorem wipeE_length (env : Env) : ∀ vs, (wipeE env vs).length = env.length
  | [] => rfl
  | v :: vs => by rw [wipeE, List.length_set, wipeE_length env vs]
theorem wipeE_some {env : Env} {i : Nat} {d : D} : ∀ {vs : List Nat}, (wipeE env vs)[i]? = some (some d) → env[i]? = some (some d) ∧ i ∉ vs
  | [], h => ⟨h, by simp⟩
  | v :: vs, h => by
    rw [wipeE] at h
    by_cases e : v = i
    · subst e
      by_cases hl : v < (wipeE env vs).length
      · rw [List.getElem?_set_self hl] at h
        cases h
      · rw [List.getElem?_eq_none (by rw [List.length_set]; omega)] at h
        cases h
    · rw [List.getElem?_set_ne e] at h
      obtain ⟨h1, h2⟩ := wipeE_some h
      exact ⟨h1, by simp only [List.mem_cons, not_or]; exact ⟨fun z => e z.symm, h2⟩⟩
theorem wipe_keep {σ : St} {i : Nat} : ∀ {vs : List Nat}, i ∉ vs → (wipe σ vs)[i]? = σ[i]?
  | [], _ => rfl
  | v :: vs, h => by
    rw [wipe, List.getElem?_set_ne (fun e => h (by rw [e]; exact List.mem_cons_self)), wipe_keep fun z => h (List.mem_cons_of_mem _ z)]
theorem wipe_at {σ : St} {i : Nat} : ∀ {vs : List Nat}, i ∈ vs → i < σ.length → (wipe σ vs)[i]? = some none
  | v :: vs, h, hl => by
    rw [wipe]
    by_cases e : v = i
    · subst e
      rw [List.getElem?_set_self (by rw [wipe_length]; exact hl)]
    · rw [List.getElem?_set_ne e]
      exact wipe_at ((List.mem_cons.mp h).resolve_left fun z => e z.symm) hl
theorem wipe_agree {σ τ : St} {vs : List Nat} (hl : σ.length = τ.length) (h : ∀ j, j ∉ vs → τ[j]? = σ[j]?) : wipe τ vs = wipe σ vs := by
  apply List.ext_getElem?
  intro j
  by_cases hj : j ∈ vs
  · by_cases hb : j < σ.length
    · rw [wipe_at hj hb, wipe_at hj (by omega)]
    · rw [List.getElem?_eq_none (by rw [wipe_length]; omega), List.getElem?_eq_none (by rw [wipe_length]; omega)]
  · rw [wipe_keep hj, wipe_keep hj, h j hj]

section
variable {C : Cn} {F F' : Addr → Prop} {H0 H H' : Hp} {own : List Nat} {σ σ' : St} {env : Env} {k k' : Int}
theorem OA.congr {a : Addr} (h : ∀ i ∈ own, σ'[i]? = σ[i]?) : OA F own σ' a ↔ OA F own σ a := by
  unfold OA
  refine or_congr Iff.rfl ⟨fun ⟨i, hi, e⟩ => ⟨i, hi, by rw [← h i hi]; exact e⟩, fun ⟨i, hi, e⟩ => ⟨i, hi, by rw [h i hi]; exact e⟩⟩
theorem OA.eq (h : ∀ i ∈ own, σ'[i]? = σ[i]?) : OA F own σ' = OA F own σ := funext fun _ => propext (OA.congr h)
theorem OwnV.less {O O' : Addr → Prop} {v : V} {d : D} (h : OwnV C O H v d) (m : ∀ a, O' a → O a) : OwnV C O' H v d := by
  cases h with
  | lst n e r => exact .lst n e (r.less m)
  | dct n e q r => exact .dct n e q (r.less m)
  | dctT n e q r => exact .dctT n e q (r.less m)
theorem OwnV.lift {O O' : Addr → Prop} {v : V} {d : D} (h : OwnV C O H v d) (hO : ∀ a, H a ≠ none → ¬ O a → ¬ O' a) : OwnV C O' H v d := by
  cases h with
  | lst n e r => exact .lst n e (r.lift Kept.refl hO)
  | dct n e q r => exact .dct n e q (r.lift Kept.refl hO)
  | dctT n e q r => exact .dctT n e q (r.lift Kept.refl hO)
theorem RelS.wipe (r : RelS C F H0 own σ H env k) {vs : List Nat} (hv : ∀ i ∈ own, i ∉ vs) : RelS C F H0 own (wipe σ vs) H (wipeE env vs) k := by
  have eo : OA F own (L2.wipe σ vs) = OA F own σ := OA.eq fun i hi => wipe_keep (hv i hi)
  refine ⟨by rw [wipeE_length, wipe_length]; exact r.len, r.cell, r.nums, r.fS, r.fN, r.ftr, r.base, fun i d e => ?_, fun i hi => ?_, fun i hi j hj e => ?_⟩
  · obtain ⟨e1, ni⟩ := wipeE_some e
    obtain ⟨v, e2, z⟩ := r.var i d e1
    rw [eo]
    exact ⟨v, by rw [wipe_keep ni]; exact e2, z⟩
  · rw [wipe_keep (hv i hi)]
    exact r.mine i hi
  · rw [wipe_keep (hv i hi), wipe_keep (hv j hj)] at e
    exact r.inj i hi j hj e
theorem RelS.set (r : RelS C F H0 own σ H env k) {i : Nat} {v : V} {d : D} (ni : i ∉ own) (h : Rp C (OA F own σ) H v d) : RelS C F H0 own (σ.set i (some v)) H (env.set i (some d)) k := by
  have ne : ∀ j ∈ own, (σ.set i (some v))[j]? = σ[j]? := fun j hj => List.getElem?_set_ne fun (e : i = j) => ni (by rw [e]; exact hj)
  have eo : OA F own (σ.set i (some v)) = OA F own σ := OA.eq ne
  refine ⟨by rw [List.length_set, List.length_set]; exact r.len, r.cell, r.nums, r.fS, r.fN, r.ftr, r.base, fun j d' e => ?_, fun j hj => ?_, fun a ha b hb e => ?_⟩
  · rw [eo]
    by_cases hj : i = j
    · subst hj
      have hl : i < env.length := by
        by_cases hl : i < env.length
        · exact hl
        · rw [List.getElem?_eq_none (by rw [List.length_set]; omega)] at e
          cases e
      rw [List.getElem?_set_self hl] at e
      cases e
      exact ⟨v, List.getElem?_set_self (by rw [← r.len]; exact hl), .inl ⟨ni, h⟩⟩
    · rw [List.getElem?_set_ne hj] at e
      rw [List.getElem?_set_ne hj]
      exact r.var j d' e
  · rw [ne j hj]
    exact r.mine j hj
  · rw [ne a ha, ne b hb] at e
    exact r.inj a ha b hb e
/-- a new list of the def's own, in nobody's slot -/
theorem RelS.addF (r : RelS C F H0 own σ H env k) {p : Addr} {o : HO} (hp : H p = none) (h0 : H0 p = none) : RelS C (fun a => F a ∨ a = p) H0 own σ (upd H p o) env k := by
  have pS : p ≠ C.aS := fun e => by rw [e, r.cell] at hp; cases hp
  have pN : C.aN ≠ p := fun e => PL.Rd.some r.nums (e ▸ hp)
  have s := same_new (o := o) hp
  have up : ∀ a, H a ≠ none → ¬ OA F own σ a → ¬ OA (fun a => F a ∨ a = p) own σ a := fun a na no z => by
    rcases z with (z | z) | z
    · exact no (.inl z)
    · exact na (z ▸ hp)
    · exact no (.inr z)
  refine ⟨r.len, s _ _ r.cell, (Kept.of_same s).keep (Z := fun _ => False) _ _ r.nums id, .inl r.fS, fun z => z.elim r.fN pN, fun a z => ?_, fun a u e n => s _ _ (r.base a u e n), fun i d e => ?_, fun i hi => ?_, r.inj⟩
  · rcases z with z | z
    · have := r.ftr a z
      cases q : H a with
      | none => exact absurd q this
      | some u =>
        rw [s _ _ q]
        exact fun z => by cases z
    · rw [z, upd_same]
      exact fun z => by cases z
  · obtain ⟨v, e1, z⟩ := r.var i d e
    refine ⟨v, e1, ?_⟩
    rcases z with ⟨n, z⟩ | ⟨n, z⟩
    · exact .inl ⟨n, z.lift (Kept.of_same s) up⟩
    · exact .inr ⟨n, (z.lift up).step (Kept.of_same s) fun a u _ e => s a u e⟩
  · obtain ⟨a, e1, nf, nN, ha, na⟩ := r.mine i hi
    refine ⟨a, e1, fun z => z.elim nf fun e => na (e ▸ hp), nN, ha, ?_⟩
    cases q : H a with
    | none => exact absurd q na
    | some u =>
      rw [s _ _ q]
      exact fun z => by cases z
/-- such a list is changed -/
theorem RelS.putF (r : RelS C F H0 own σ H env k) {p : Addr} {xs : List V} {o : HO} (hp : F p) (h0 : H0 p = none) (hS : p ≠ C.aS) (e : H p = some (.lst xs)) : RelS C F H0 own σ (upd H p o) env k := by
  have pN : C.aN ≠ p := fun e => r.fN (e ▸ hp)
  have kp : Kept (OA F own σ) H (upd H p o) := by
    have ne : ∀ a, ¬ OA F own σ a → a ≠ p := fun a n z => n (.inl (z ▸ hp))
    refine ⟨fun a u q n => ?_, fun a ys q n => by rw [upd_ne (ne a n)]; exact q, fun a ys q => ?_, fun a o u q n => by rw [upd_ne (ne a n)]; exact q⟩
    · unfold Rd
      rw [upd_ne (ne a n)]
      exact q
    · have : a ≠ p := by
        rintro rfl
        rcases q with q | ⟨_, q⟩ <;> rw [e] at q <;> cases q
      unfold Rd
      rw [upd_ne this]
      exact q
  have oth : ∀ a u, a ≠ p → H a = some u → upd H p o a = some u := fun a u n q => by rw [upd_ne n]; exact q
  refine ⟨r.len, oth _ _ hS.symm r.cell, ?_, r.fS, r.fN, fun a z => ?_, fun a u q n => ?_, fun i d q => ?_, fun i hi => ?_, r.inj⟩
  · unfold Rd
    rw [upd_ne pN]
    exact r.nums
  · by_cases ha : a = p
    · rw [ha, upd_same]
      exact fun z => by cases z
    · rw [upd_ne ha]
      exact r.ftr a z
  · exact oth a u (fun z => by rw [z, h0] at q; cases q) (r.base a u q n)
  · obtain ⟨v, e1, z⟩ := r.var i d q
    refine ⟨v, e1, ?_⟩
    rcases z with ⟨n, z⟩ | ⟨n, z⟩
    · exact .inl ⟨n, z.lift kp fun _ _ n => n⟩
    · refine .inr ⟨n, z.step kp fun a u ev q => oth a u (fun z => ?_) q⟩
      subst z
      subst ev
      obtain ⟨b, eb, nf, _⟩ := r.mine i n
      rw [e1] at eb
      cases eb
      exact nf hp
  · obtain ⟨a, e1, nf, nN, ha, na⟩ := r.mine i hi
    exact ⟨a, e1, nf, nN, ha, by rw [upd_ne (fun (z : a = p) => nf (by rw [z]; exact hp))]; exact na⟩
theorem OA.le (h : ∀ a, F a → F' a) : ∀ a, OA F own σ a → OA F' own σ a := fun a z => z.imp (h a) id
theorem RelS.lessF (r : RelS C F' H0 own σ H env k) (h : ∀ a, F a → F' a) (hS : F C.aS) : RelS C F H0 own σ H env k := by
  refine ⟨r.len, r.cell, r.nums, hS, fun z => r.fN (h _ z), fun a z => r.ftr a (h a z), r.base, fun i d e => ?_, fun i hi => ?_, r.inj⟩
  · obtain ⟨v, e1, z⟩ := r.var i d e
    refine ⟨v, e1, ?_⟩
    rcases z with ⟨n, z⟩ | ⟨n, z⟩
    · exact .inl ⟨n, z.less (OA.le h)⟩
    · exact .inr ⟨n, z.less (OA.le h)⟩
  · obtain ⟨a, e1, nf, rest⟩ := r.mine i hi
    exact ⟨a, e1, fun z => nf (h a z), rest⟩
end

/-! ### targets -/
abbrev Pt := D → Env → Option Env
def pName (i : Nat) : Pt := fun d env => some (env.set i (some d))
def pEach : List Pt → List D → Env → Option Env
  | [], [], env => some env
  | p :: ps, d :: ds, env => (p d env).bind fun env' => pEach ps ds env'
  | _, _, _ => none
def pTup (ps : List Pt) : Pt := fun d env => match d with
  | .tup ds => pEach ps ds env
  | _ => none
/-- the reading of a target that stores within the slots vs -/
def tPt (C : Cn) (F : Addr → Prop) (H0 : Hp) (own vs : List Nat) (p : Pt) : TG := fun v σ H Q => ∃ env k d env', RelS C F H0 own σ H env k ∧ Rp C (OA F own σ) H v d ∧ p d env = some env' ∧
  ∀ σ', RelS C F H0 own σ' H env' k → σ'.length = σ.length → (∀ j, j ∉ vs → σ'[j]? = σ[j]?) → Q σ' H
def tPts (C : Cn) (F : Addr → Prop) (H0 : Hp) (own vs : List Nat) (ps : List Pt) : TGs := fun xs σ H Q => ∃ env k ds env', RelS C F H0 own σ H env k ∧ RpL C (OA F own σ) H xs ds ∧ pEach ps ds env = some env' ∧
  ∀ σ', RelS C F H0 own σ' H env' k → σ'.length = σ.length → (∀ j, j ∉ vs → σ'[j]? = σ[j]?) → Q σ' H
def DG (C : Cn) (lvl : Nat) (sc : Bl) (N : List Str) (own vs : List Nat) (tg : Expr) (p : Pt) : Prop :=
  ∀ (E : XK) (X : Cx), Good C lvl sc N E X → PG X tg (fun v σ H Q => ∃ F H0, tPt C F H0 own vs p v σ H Q)
def DGs (C : Cn) (lvl : Nat) (sc : Bl) (N : List Str) (own vs : List Nat) (tg : List Expr) (p : List Pt) : Prop :=
  ∀ (E : XK) (X : Cx), Good C lvl sc N E X → PGs X tg (fun v σ H Q => ∃ F H0, tPts C F H0 own vs p v σ H Q)
theorem PGs.imp {X : Cx} {tg : List Expr} {t t' : TGs} (h : PGs X tg t) (i : ∀ v σ H Q, t' v σ H Q → t v σ H Q) : PGs X tg t' :=
  ⟨fun pins s σ H v u Q I r q => h.run pins s σ H v u Q I r (i v σ H Q q)⟩
def okSet (sc : Bl) (N : List Str) (i : Nat) (x : Str) : Bool := (N[i]? == some x) && (sc.names.lookup x == some .local || (sc.names.lookup x == some .cell && sc.own.names.lookup x == some .cell))
section
variable {C : Cn} {lvl : Nat} {sc : Bl} {N : List Str} {own vs : List Nat} {pos : Pos}
theorem okSet.get {X : Cx} {E : XK} (G : Good C lvl sc N E X) {i : Nat} {x : Str} (h : okSet sc N i x = true) : X.N[i]? = some x ∧ L2.Loc X.env.scope x ∧ (X.fn x = true ∨ X.env.scope.names.lookup x = some .local) := by
  unfold okSet at h
  simp only [Bool.and_eq_true, Bool.or_eq_true, beq_iff_eq] at h
  obtain ⟨h1, h2⟩ := h
  rw [G.hN]
  refine ⟨h1, ?_⟩
  have e : X.env.scope.names = sc.names := by rw [G.scope]
  unfold L2.Loc
  rw [e]
  rcases h2 with h2 | ⟨h2, h3⟩
  · exact ⟨.inl h2, .inr h2⟩
  · exact ⟨.inr h2, .inl (G.fn x h3)⟩
theorem dg_name {i : Nat} {x : Str} (h : okSet sc N i x = true) (ni : i ∉ own) (iv : i ∈ vs) : DG C lvl sc N own vs (.Name x pos) (pName i) := fun E X G =>
  PG.imp (pg_name G.nd (okSet.get G h).1 (okSet.get G h).2.1 (okSet.get G h).2.2) fun v σ H Q ⟨F, H0, env, k, d, env', r, z, e, q⟩ => by
    obtain rfl := Option.some.inj e
    exact q _ (r.set ni z) (List.length_set ..) fun j nj => List.getElem?_set_ne fun (e : i = _) => nj (by rw [← e]; exact iv)
theorem dgs_nil : DGs C lvl sc N own vs [] [] := fun E X G =>
  PGs.imp pgs_nil fun xs σ H Q ⟨F, H0, env, k, ds, env', r, z, e, q⟩ => by
    cases z with
    | nil =>
      obtain rfl := Option.some.inj e
      exact ⟨rfl, q σ r rfl fun _ _ => rfl⟩
    | cons _ _ => cases e
theorem dgs_cons {t : Expr} {ts : List Expr} {p : Pt} {ps : List Pt} (h1 : DG C lvl sc N own vs t p) (h2 : DGs C lvl sc N own vs ts ps) (hvo : ∀ i ∈ own, i ∉ vs) (hs : ∀ env : PySem.Env, (assignEach (t :: ts) env).map (·.2) = assign t env :: (assignEach ts env).map (·.2)) :
    DGs C lvl sc N own vs (t :: ts) (p :: ps) := fun E X G =>
  PGs.imp (pgs_cons (h1 E X G) (h2 E X G) (hs X.env)) fun xs σ H Q ⟨F, H0, env, k, ds, env', r, z, e, q⟩ => by
    cases z with
    | nil => cases e
    | cons h t =>
      obtain ⟨env1, e1, e2⟩ := Option.bind_eq_some_iff.mp e
      refine ⟨_, _, rfl, F, H0, env, k, _, env1, r, h, e1, fun σ' r' el ag => ⟨F, H0, env1, k, _, env', r', ?_, e2, fun σ'' r'' el' ag' => q σ'' r'' (el'.trans el) fun j nj => (ag' j nj).trans (ag j nj)⟩⟩
      rw [OA.eq fun i hi => ag i (hvo i hi)]
      exact t
theorem dg_tup {ts : List Expr} {n : Nat} {ps : List Pt} (h : DGs C lvl sc N own vs ts ps) (hl : ps.length = ts.length) (hn : ∀ env : PySem.Env, (assignEach ts env).length = ts.length) (hst : ∀ env : PySem.Env, (assignEach ts env).findIdx? (·.1) = none) : DG C lvl sc N own vs (.Tuple ts n pos) (pTup ps) := fun E X G =>
  PG.imp (pg_tup G.calm (h E X G) (hn X.env) (hst X.env)) fun v σ H Q ⟨F, H0, env, k, d, env', r, z, e, q⟩ => by
    cases d with
    | tup ds =>
      obtain ⟨a, xs, rfl, ha, rr⟩ := (Rp.b z).tupE
      refine ⟨a, xs, rfl, G.K ▸ ha, ?_, F, H0, env, k, ds, env', r, rr, e, q⟩
      have ln : ∀ (ps : List Pt) (ds : List D) (env env' : Env), pEach ps ds env = some env' → ps.length = ds.length := by
        intro ps
        induction ps with
        | nil =>
          intro ds env env' e
          cases ds with
          | nil => rfl
          | cons _ _ => cases e
        | cons p ps ih =>
          intro ds env env' e
          cases ds with
          | nil => cases e
          | cons d ds =>
            obtain ⟨env1, _, e2⟩ := Option.bind_eq_some_iff.mp e
            rw [List.length_cons, List.length_cons, ih ds env1 env' e2]
      rw [rr.length, ← ln _ _ _ _ e, hl]
    | _ => cases e
end
end PL

set_option maxHeartbeats 4000000
/-! PL9: what is walked; list comprehensions. -/
namespace PL
open PySem PySem.Spec L2
open Classical

/-- the iterator J gives what ds tells, so long as H's things stay -/
def ItOk (C : Cn) (O : Addr → Prop) (J : It) (ds : List D) (H : Hp) : Prop :=
  ∀ O' H1, (∀ a, H a ≠ none → ¬ O a → ¬ O' a) → Kept O H H1 → ∀ i, (∀ d, ds[i]? = some d → J.go i H1 ∧ ∀ x H2, J.yld i H1 x H2 → Same H1 H2 ∧ Rp C O' H2 x d) ∧ (ds.length ≤ i → J.stop i H1)
def AfterG {α β : Type} (C : Cn) (F : Addr → Prop) (H0 : Hp) (own : List Nat) (E : XK) (σ : St) (H : Hp) (env : Env) (x : R α) (Z : Hp → β → α → Prop) (Q : β → Hp → Prop) : Prop :=
  match x with
  | .ok d k' => ∀ v H', RelS C F H0 own σ H' env k' → KeptS C H H' → Z H' v d → Q v H'
  | .ex c k' => ∀ H', RelS C F H0 own σ H' env k' → KeptS C H H' → E ((C.mg c).getD .none) none H'
  | .no => False
theorem After.bindG {β γ : Type} {C : Cn} {F : Addr → Prop} {H0 H : Hp} {own : List Nat} {E : XK} {σ : St} {env : Env} {k : Int} {m : Ev} {f : D → Int → R γ} {Z : Hp → β → γ → Prop} {Z' : Hp → V → D → Prop} {Q : β → Hp → Prop} {Q' : VK} (r : RelS C F H0 own σ H env k)
    (h : AfterG C F H0 own E σ H env ((m env k).bind f) Z Q)
    (go : ∀ d k1 v H1, m env k = .ok d k1 → RelS C F H0 own σ H1 env k1 → KeptS C H H1 → Z' H1 v d → AfterG C F H0 own E σ H1 env (f d k1) Z Q → Q' v H1) :
    After C F H0 own E σ H env (m env k) Z' Q' := by
  cases e : m env k with
  | ok d k1 =>
    rw [e] at h
    have h : AfterG C F H0 own E σ H env (f d k1) Z Q := h
    refine fun v H1 r1 kp z => go d k1 v H1 e r1 kp z ?_
    cases e2 : f d k1 with
    | ok d2 k2 =>
      rw [e2] at h
      exact fun v2 H2 r2 kp2 z2 => h v2 H2 r2 (kp.trans kp2) z2
    | ex c k2 =>
      rw [e2] at h
      exact fun H2 r2 kp2 => h H2 r2 (kp.trans kp2)
    | no =>
      rw [e2] at h
      exact h
  | ex c k1 =>
    rw [e] at h
    exact h
  | no =>
    rw [e] at h
    exact h
theorem AfterL.bindG {β γ : Type} {C : Cn} {F : Addr → Prop} {H0 H : Hp} {own : List Nat} {E : XK} {σ : St} {env : Env} {k : Int} {m : Els} {f : List D → Int → R γ} {Z : Hp → β → γ → Prop} {Z' : Hp → List V → List D → Prop} {Q : β → Hp → Prop} {Q' : List V → Hp → Prop} (r : RelS C F H0 own σ H env k)
    (h : AfterG C F H0 own E σ H env ((m env k).bind f) Z Q)
    (go : ∀ d k1 v H1, m env k = .ok d k1 → RelS C F H0 own σ H1 env k1 → KeptS C H H1 → Z' H1 v d → AfterG C F H0 own E σ H1 env (f d k1) Z Q → Q' v H1) :
    AfterL C F H0 own E σ H env (m env k) Z' Q' := by
  cases e : m env k with
  | ok d k1 =>
    rw [e] at h
    have h : AfterG C F H0 own E σ H env (f d k1) Z Q := h
    refine fun v H1 r1 kp z => go d k1 v H1 e r1 kp z ?_
    cases e2 : f d k1 with
    | ok d2 k2 =>
      rw [e2] at h
      exact fun v2 H2 r2 kp2 z2 => h v2 H2 r2 (kp.trans kp2) z2
    | ex c k2 =>
      rw [e2] at h
      exact fun H2 r2 kp2 => h H2 r2 (kp.trans kp2)
    | no =>
      rw [e2] at h
      exact h
  | ex c k1 =>
    rw [e] at h
    exact h
  | no =>
    rw [e] at h
    exact h
theorem AfterG.some {α β : Type} {C : Cn} {F : Addr → Prop} {H0 H : Hp} {own : List Nat} {E : XK} {σ : St} {env : Env} {k : Int} {x : Option α} {Z : Hp → β → α → Prop} {Q : β → Hp → Prop} (h : AfterG C F H0 own E σ H env (R.of x k) Z Q) :
    ∃ d, x = some d ∧ ∀ v H', RelS C F H0 own σ H' env k → KeptS C H H' → Z H' v d → Q v H' := by
  cases x with
  | none => exact h.elim
  | some d => exact ⟨d, rfl, h⟩

abbrev Its := Env → Int → R (List D)
def tEvI (C : Cn) (F : Addr → Prop) (H0 : Hp) (own : List Nat) (m : Its) (E : XK) : TI := fun σ H Rr => ∃ env k, RelS C F H0 own σ H env k ∧
  AfterG C F H0 own E σ H env (m env k) (fun H' J ds => ItOk C (OA F own σ) J ds H') Rr
def DI (C : Cn) (lvl : Nat) (sc : Bl) (N : List Str) (own : List Nat) (tg it : Expr) (m : Its) : Prop :=
  ∀ (F : Addr → Prop) (H0 : Hp) (E : XK) (X : Cx), Good C lvl sc N E X → PI X tg it (tEvI C F H0 own m E)

/-! ### lists and tuples -/
def toSeq : D → Option (List D)
  | .lst ds => some ds
  | .tup ds => some ds
  | _ => none
def iSeq (m : Ev) : Its := fun env k => (m env k).bind fun d k1 => .of (toSeq d) k1
def iSq (K : PySem.W.Frag) (tl : TE) : TI := fun σ H Rr => tl σ H fun x H1 => ∃ a, x = .ref a ∧ (((∃ xs, SqL K H1 a xs) ∧ Rr (Itl K a) H1) ∨ ((∃ xs, SqT K H1 a xs) ∧ Rr (Itt K a) H1))
theorem pi_seq {X : Cx} {tg l : Expr} {tl : TE} (hl : PE X l tl) : PI X tg l (iSq X.K tl) := by
  refine ⟨fun pins s σ H Rr I h => thn (hl.run pins s σ H _ I h) fun v s1 ⟨x, H1, I1, r1, a, e, q1⟩ => ?_⟩
  subst e
  cases r1
  rcases q1 with ⟨⟨xs, hq⟩, q⟩ | ⟨⟨xs, hq⟩, q⟩
  · obtain ⟨its, _, p, _⟩ := I1.list hq
    exact wpAny_pyIter_list p.isList (pi_one (tk := s1.toks) I1 _ (turn_list a _) ⟨_, Heap.get?_push_size _ rfl, rfl, rfl⟩ q)
  · obtain ⟨its, _, p, _⟩ := I1.tuple hq
    exact wpAny_pyIter_tuple (items := its.toArray) p (pi_one (tk := s1.toks) I1 _ (turn_tuple a _) ⟨_, Heap.get?_push_size _ rfl, rfl, rfl⟩ q)
section
variable {C : Cn} {O : Addr → Prop} {H : Hp} {a : Addr} {xs : List V} {ds : List D}
theorem itok_list (h : H a = some (.lst xs)) (no : ¬ O a) (r : RpL C O H xs ds) : ItOk C O (Itl C.K a) ds H := by
  intro O' H1 up kp i
  have e1 := kp.lst a xs h no
  have r1 : RpL C O' H1 xs ds := r.lift kp up
  have uq : ∀ ys, SqL C.K H1 a ys → (H1 a = some (.lst ys) ∨ True) := fun _ _ => .inr trivial
  refine ⟨fun d e => ?_, fun hl => ⟨xs, .inl (.inl e1), by rw [r1.length]; exact hl⟩⟩
  obtain ⟨v, ev, rv⟩ := r1.get e
  refine ⟨⟨xs, v, .inl (.inl e1), ev⟩, fun x H2 ⟨e2, y⟩ => ?_⟩
  subst e2
  have := y xs (.inl (.inl e1))
  rw [ev] at this
  cases this
  exact ⟨Same.refl _, rv⟩
theorem itok_tup (h : SqT C.K H a xs) (r : RpL C O H xs ds) : ItOk C O (Itt C.K a) ds H := by
  intro O' H1 up kp i
  have e1 := kp.sqT h
  have r1 : RpL C O' H1 xs ds := r.lift kp up
  refine ⟨fun d e => ?_, fun hl => ⟨xs, e1, by rw [r1.length]; exact hl⟩⟩
  obtain ⟨v, ev, rv⟩ := r1.get e
  refine ⟨⟨xs, v, e1, ev⟩, fun x H2 ⟨e2, y⟩ => ?_⟩
  subst e2
  have := y xs e1
  rw [ev] at this
  cases this
  exact ⟨Same.refl _, rv⟩
end
section
variable {C : Cn} {lvl : Nat} {sc : Bl} {N : List Str} {own : List Nat} {tg e : Expr} {m : Ev} {p pos : Pos}
theorem di_seq (he : DE C lvl sc N own e m) : DI C lvl sc N own tg e (iSeq m) := fun F H0 E X G =>
  PI.imp (pi_seq (he F H0 E X G)) fun σ H Rr ⟨env, k, r, q⟩ => by
    refine ⟨env, k, r, After.bindG r q fun d k1 v H1 _ r1 kp1 z1 q1 => ?_⟩
    obtain ⟨ds, ed, q2⟩ := q1.some
    cases d with
    | lst ys =>
      obtain rfl := Option.some.inj ed
      cases z1 with
      | lst hp no rr => exact ⟨_, rfl, .inl ⟨⟨_, .inl (.inl hp)⟩, q2 _ H1 r1 KeptS.refl (G.K ▸ itok_list hp no rr)⟩⟩
    | tup ys =>
      obtain rfl := Option.some.inj ed
      cases z1 with
      | tup hp rr => exact ⟨_, rfl, .inr ⟨⟨_, G.K ▸ hp⟩, q2 _ H1 r1 KeptS.refl (G.K ▸ itok_tup hp rr)⟩⟩
    | _ => cases ed

/-! ### ranges -/
def rngL (lo hi : Int) : List D := (List.range (hi - lo).toNat).map fun i => .int (lo + (i : Nat))
noncomputable def fRng : List D → Option (List D)
  | [.int j] => if -(2 ^ 62) ≤ j ∧ j < 2 ^ 62 then some (rngL 0 j) else none
  | [.int i, .int j] => if -(2 ^ 62) ≤ i ∧ i < 2 ^ 62 ∧ -(2 ^ 62) ≤ j ∧ j < 2 ^ 62 then some (rngL i j) else none
  | _ => none
noncomputable def iRng (ms : Els) : Its := fun env k => (ms env k).bind fun ds k1 => .of (fRng ds) k1
theorem itok_rng {O : Addr → Prop} {H : Hp} (lo hi : Int) : ItOk C O (Itr lo (hi - lo).toNat) (rngL lo hi) H := by
  intro O' H1 up kp i
  refine ⟨fun d e => ?_, fun hl => ?_⟩
  · unfold rngL at e
    rw [List.getElem?_map, Option.map_eq_some_iff] at e
    obtain ⟨j, e1, e2⟩ := e
    obtain ⟨hj, e3⟩ := List.getElem?_eq_some_iff.mp e1
    rw [List.length_range] at hj
    rw [List.getElem_range] at e3
    subst e3 e2
    refine ⟨hj, fun x H2 ⟨e1, e2⟩ => ?_⟩
    subst e1 e2
    exact ⟨Same.refl _, .int _⟩
  · unfold rngL at hl
    rw [List.length_map, List.length_range] at hl
    exact hl
theorem RpL.one {O : Addr → Prop} {H : Hp} {vs : List V} {d : D} (h : RpL C O H vs [d]) : ∃ v, vs = [v] ∧ Rp C O H v d := by
  cases h with
  | cons h r =>
    cases r
    exact ⟨_, rfl, h⟩
theorem RpL.two {O : Addr → Prop} {H : Hp} {vs : List V} {d e : D} (h : RpL C O H vs [d, e]) : ∃ v w, vs = [v, w] ∧ Rp C O H v d ∧ Rp C O H w e := by
  cases h with
  | cons h r =>
    obtain ⟨w, rfl, h2⟩ := r.one
    exact ⟨_, w, rfl, h, h2⟩
variable {a b : Expr}
theorem di_rng1 {ma : Ev} (hg : okBlt sc ("range" : Str) = true) (hm : C.mg "range" = none) (ha : DE C lvl sc N own a ma) (hs : ∀ env : PySem.Env, starEach [a] env = [(false, eval a env)]) :
    DI C lvl sc N own tg (.Call (.Name "range" p) [a] [] pos) (iRng (eCons ma eNil)) := fun F H0 E X G =>
  PI.imp (pi_range1 (okBlt.gl G hg).1 (by rw [G.mg]; exact hm) (da_cons ha da_nil (fun env => hs env) F H0 E X G) (hs X.env)) fun σ H Rr ⟨env, k, r, q⟩ => by
    refine ⟨env, k, r, AfterL.bindG r q fun ds k1 vs H1 e1 r1 kp1 z1 q1 => ?_⟩
    obtain ⟨es, ed, q2⟩ := q1.some
    unfold fRng at ed
    split at ed
    · rename_i j
      obtain ⟨v, rfl, z⟩ := z1.one
      split at ed
      · rename_i hb
        cases ed
        cases z
        refine ⟨j, rfl, hb.1, hb.2, q2 _ H1 r1 KeptS.refl ?_⟩
        have := itok_rng (C := C) (O := OA F own σ) (H := H1) 0 j
        rw [Int.sub_zero] at this
        exact this
      · cases ed
    · exfalso
      have := congrArg (fun x : R (List D) => match x with | .ok ds _ => ds.length | _ => 1) e1
      unfold eCons eNil at this
      cases q : ma env k <;> rw [q] at this <;> simp [R.bind] at this
    · cases ed
theorem di_rng2 {ma mb : Ev} (hg : okBlt sc ("range" : Str) = true) (hm : C.mg "range" = none) (ha : DE C lvl sc N own a ma) (hb : DE C lvl sc N own b mb) (hs : ∀ env : PySem.Env, starEach [a, b] env = [(false, eval a env), (false, eval b env)]) (hs2 : ∀ env : PySem.Env, starEach [b] env = [(false, eval b env)]) :
    DI C lvl sc N own tg (.Call (.Name "range" p) [a, b] [] pos) (iRng (eCons ma (eCons mb eNil))) := fun F H0 E X G =>
  PI.imp (pi_range2 (okBlt.gl G hg).1 (by rw [G.mg]; exact hm) (da_cons ha (da_cons hb da_nil (fun env => hs2 env)) (fun env => by rw [hs env, hs2 env]) F H0 E X G) (hs X.env) (hs2 X.env)) fun σ H Rr ⟨env, k, r, q⟩ => by
    refine ⟨env, k, r, AfterL.bindG r q fun ds k1 vs H1 e1 r1 kp1 z1 q1 => ?_⟩
    obtain ⟨es, ed, q2⟩ := q1.some
    unfold fRng at ed
    split at ed
    · exfalso
      have := congrArg (fun x : R (List D) => match x with | .ok ds _ => ds.length | _ => 2) e1
      unfold eCons eNil at this
      cases q : ma env k with
      | ok d k2 =>
        rw [q] at this
        cases q' : mb env k2 <;> simp [R.bind, q'] at this
      | ex c k2 => rw [q] at this; simp [R.bind] at this
      | no => rw [q] at this; simp [R.bind] at this
    · rename_i i j
      obtain ⟨v, w, rfl, z, z'⟩ := z1.two
      split at ed
      · rename_i hb
        cases ed
        cases z
        cases z'
        exact ⟨i, j, rfl, hb, q2 _ H1 r1 KeptS.refl (itok_rng i j)⟩
      · cases ed
    · cases ed
end
end PL

set_option maxHeartbeats 4000000
/-! PL10: list comprehensions of one clause. -/
namespace PL
open PySem PySem.Spec L2
open Classical

theorem PE.ex {X : Cx} {e : Expr} {ι : Sort _} {t : ι → TE} (h : ∀ i, PE X e (t i)) : PE X e (fun σ H Q => ∃ i, t i σ H Q) :=
  ⟨fun pins s σ H Q I ⟨i, q⟩ => (h i).run pins s σ H Q I q⟩
theorem PTs.ex {X : Cx} {e : List Expr} {ι : Sort _} {t : ι → TT} (h : ∀ i, PTs X e (t i)) : PTs X e (fun σ H Q => ∃ i, t i σ H Q) :=
  ⟨fun pins s σ H Q I ⟨i, q⟩ => (h i).run pins s σ H Q I q⟩
theorem PI.ex {X : Cx} {tg e : Expr} {ι : Sort _} {t : ι → TI} (h : ∀ i, PI X tg e (t i)) : PI X tg e (fun σ H Q => ∃ i, t i σ H Q) :=
  ⟨fun pins s σ H Q I ⟨i, q⟩ => (h i).run pins s σ H Q I q⟩
theorem PTs.imp {X : Cx} {es : List Expr} {t t' : TT} (h : PTs X es t) (i : ∀ σ H Q, t' σ H Q → t σ H Q) : PTs X es t' :=
  ⟨fun pins s σ H Q I q => h.run pins s σ H Q I (i σ H Q q)⟩

def DTs (C : Cn) (lvl : Nat) (sc : Bl) (N : List Str) (own : List Nat) (es : List Expr) (m : Et) : Prop :=
  ∀ (F : Addr → Prop) (H0 : Hp) (E : XK) (X : Cx), Good C lvl sc N E X → PTs X es (tEvT C F H0 own m E)
def tYs : Et := fun _ k => .ok true k
section
variable {C : Cn} {lvl : Nat} {sc : Bl} {N : List Str} {own : List Nat} {e : Expr} {t : Et}
theorem dts_nil : DTs C lvl sc N own [] tYs := fun F H0 E X G => PTs.imp pts_nil fun σ H Q ⟨env, k, r, q⟩ => q H r KeptS.refl
theorem dts_one (h : DT C lvl sc N own e t) : DTs C lvl sc N own [e] t := fun F H0 E X G => pts_one (h F H0 E X G)

/-- the names of the block of a comprehension -/
def blkB (sc : Bl) (scope : Scope) : Bl := ⟨relS scope sc.sc, scope, false⟩
def xNone : XK := fun _ _ _ => False
theorem Good.blk {E : XK} {X : Cx} (G : Good C lvl sc N E X) {scope : Scope} (hk : scope.kind = .function) (s : Shared) (H : Hp) (Cc : Addr) (cl : List (Str × Addr)) (fp : List Addr) :
    Good C lvl (blkB sc scope) N xNone (X.blk s H scope (compEnvC scope cl Cc X.env) fp) where
  prog := G.prog
  w := G.w
  K := G.K
  mg := G.mg
  base := G.base
  calm := G.calm
  scope := by
    have e : (compEnvC scope cl Cc X.env).scope = relS scope X.env.scope := rfl
    show (compEnvC scope cl Cc X.env).scope = _
    rw [e, G.scope]
    rfl
  kind := by
    have e : (compEnvC scope cl Cc X.env).scope = relS scope X.env.scope := rfl
    show (compEnvC scope cl Cc X.env).blockKind = _
    have ek : (relS scope X.env.scope).kind = .function := hk
    unfold Env.blockKind
    rw [e, ek]
    rfl
  fn := fun x h => by
    show (scope.names.lookup x == some .cell) = true
    rw [show scope.names.lookup x = some .cell from h]
    rfl
  hN := G.hN
  nd := G.nd
  room := G.room
  guards := G.guards
  takes := fun u s' h => by
    obtain ⟨_, _, _, _, _, _, _, _, _, _, _, _, _, _, _, _, w⟩ := h
    exact w
  top := nofun
  pass := PassesOwn.never
end

/-- what is told, if no exception -/
def nx {α : Type} : R α → Option (α × Int)
  | .ok a k => some (a, k)
  | _ => none
def lcL (p : Pt) (t : Et) (m : Ev) (vs : List Nat) (env : Env) : List D → Int → Option (List D × Int)
  | [], k => some ([], k)
  | d :: ds, k => (p d (wipeE env vs)).bind fun env1 => (nx (t env1 k)).bind fun b => if b.1 = true then (nx (m env1 b.2)).bind fun y => (lcL p t m vs env ds y.2).bind fun ys => some (y.1 :: ys.1, ys.2) else lcL p t m vs env ds b.2
noncomputable def okLst (x : Option (List D × Int)) : R D := match x with
  | some (ys, k) => if ys.length ≤ sizeLine then .ok (.lst ys) k else .no
  | none => .no
noncomputable def eLc (it : Its) (p : Pt) (t : Et) (m : Ev) (vs : List Nat) : Ev := fun env k => (it env k).bind fun ds k1 => okLst (lcL p t m vs env ds k1)
theorem nx_some {α : Type} {x : R α} {y : α × Int} (h : nx x = some y) : x = .ok y.1 y.2 := by
  cases x with
  | ok a k => cases h; rfl
  | ex c k => cases h
  | no => cases h
theorem AfterG.bindE {β γ : Type} {C : Cn} {F : Addr → Prop} {H0 H : Hp} {own : List Nat} {E : XK} {σ : St} {env : Env} {k : Int} {x : R γ} {f : γ → Int → R D} {Z : Hp → V → D → Prop} {Z' : Hp → β → γ → Prop} {Q : VK} {Q' : β → Hp → Prop}
    (h : After C F H0 own E σ H env (x.bind f) Z Q)
    (go : ∀ d k1 v H1, x = .ok d k1 → RelS C F H0 own σ H1 env k1 → KeptS C H H1 → Z' H1 v d → After C F H0 own E σ H1 env (f d k1) Z Q → Q' v H1) :
    AfterG C F H0 own E σ H env x Z' Q' := by
  cases x with
  | ok d k1 =>
    have h : After C F H0 own E σ H env (f d k1) Z Q := h
    refine fun v H1 r1 kp z => go d k1 v H1 rfl r1 kp z ?_
    cases e2 : f d k1 with
    | ok d2 k2 =>
      rw [e2] at h
      exact fun v2 H2 r2 kp2 z2 => h v2 H2 r2 (kp.trans kp2) z2
    | ex c k2 =>
      rw [e2] at h
      exact fun H2 r2 kp2 => h H2 r2 (kp.trans kp2)
    | no =>
      rw [e2] at h
      exact h
  | ex c k1 => exact h
  | no => exact h
theorem kept_put {Z : Addr → Prop} {H : Hp} {p : Addr} {xs : List V} {o : HO} (hp : Z p) (e : H p = some (.lst xs)) : Kept Z H (upd H p o) := by
  have ne : ∀ a, ¬ Z a → a ≠ p := fun a n z => n (z ▸ hp)
  refine ⟨fun a u q n => ?_, fun a ys q n => by rw [upd_ne (ne a n)]; exact q, fun a ys q => ?_, fun a o u q n => by rw [upd_ne (ne a n)]; exact q⟩
  · unfold Rd
    rw [upd_ne (ne a n)]
    exact q
  · have : a ≠ p := by
      rintro rfl
      rcases q with q | ⟨_, q⟩ <;> rw [e] at q <;> cases q
    unfold Rd
    rw [upd_ne this]
    exact q

section
variable {C : Cn} {lvl : Nat} {sc : Bl} {N : List Str} {own : List Nat} {tg iter elt : Expr} {ifs : List Expr} {scope : Scope} {pos : Pos} {ownl : List (Str × Nat)} {it : Its} {p : Pt} {t : Et} {m : Ev}
/-- within a comprehension whose new list stands at B: accD is in it -/
def LS (C : Cn) (F : Addr → Prop) (H0 : Hp) (own : List Nat) (σ : St) (env : Env) (Hs : Hp) (B : Addr) (H : Hp) (k : Int) (accD : List D) : Prop :=
  RelS C F H0 own σ H env k ∧ (∀ a o, Hs a = some o → a ≠ C.aS → a ≠ B → H a = some o) ∧ ∃ acc, H B = some (.lst acc) ∧ RpL C (OA F own σ) H acc accD
theorem kept_off {Z : Addr → Prop} {Hs H : Hp} {B : Addr} {x y : List V} (zS : Z C.aS) (zB : Z B) (e : Hs C.aS = some (.lst x)) (eB : Hs B = some (.lst y)) (h : ∀ a o, Hs a = some o → a ≠ C.aS → a ≠ B → H a = some o) : Kept Z Hs H := by
  have go : ∀ a o, Hs a = some o → ¬ Z a → H a = some o := fun a o q n => h a o q (fun z => n (z ▸ zS)) fun z => n (z ▸ zB)
  refine ⟨fun a u q n => ?_, fun a ys q n => go a _ q n, fun a ys q => ?_, fun a o u q n => go a _ q n⟩
  · rcases q with q | ⟨o, q⟩
    · exact .inl (go a _ q n)
    · exact .inr ⟨o, go a _ q n⟩
  · have n1 : a ≠ C.aS := by
      rintro rfl
      rcases q with q | ⟨_, q⟩ <;> rw [e] at q <;> cases q
    have n2 : a ≠ B := by
      rintro rfl
      rcases q with q | ⟨_, q⟩ <;> rw [eB] at q <;> cases q
    rcases q with q | ⟨o, q⟩
    · exact .inl (h a _ q n1 n2)
    · exact .inr ⟨o, h a _ q n1 n2⟩
theorem ItOk.weak {O O' : Addr → Prop} {J : It} {ds : List D} {H H' : Hp} (h : ItOk C O J ds H) (up : ∀ a, H a ≠ none → ¬ O a → ¬ O' a) (al : ∀ a, H a ≠ none → H' a ≠ none) (kp : Kept O H H') : ItOk C O' J ds H' := by
  intro O2 H2 up2 kp2
  refine h O2 H2 (fun a n z => up2 a (al a n) (up a n z)) ⟨fun a u q n => kp2.keep a u (kp.keep a u q n) (up a (PL.Rd.some q) n), fun a xs q n => kp2.lst a xs (kp.lst a xs q n) (up a (by rw [q]; exact fun z => by cases z) n), fun a xs q => kp2.tup a xs (kp.tup a xs q),
    fun a o u q n => kp2.frz a o u (kp.frz a o u q n) (up a (by rw [q]; exact fun z => by cases z) n)⟩
theorem LS.step {F : Addr → Prop} {H0 : Hp} {σ : St} {env : Env} {Hs H H' : Hp} {B : Addr} {k k' : Int} {accD : List D} (h : LS C F H0 own σ env Hs B H k accD) (kp : KeptS C H H') (c : H' C.aS = some (.lst [.ref C.aN, .int k'])) (BS : B ≠ C.aS) : LS C F H0 own σ env Hs B H' k' accD := by
  obtain ⟨r, k1, acc, ha, ra⟩ := h
  exact ⟨r.after kp c r.aNS, fun a o e n1 n2 => kp a o (k1 a o e n1 n2) n1, acc, kp B _ ha BS, ra.lift (r.kept kp) fun _ _ n => n⟩
/-- one clause's turns -/
theorem lc_in {F : Addr → Prop} {H0 : Hp} {vs : List Nat} (hno : ∀ i ∈ own, i ∉ vs) {σ : St} {env : Env} {Hs : Hp} {B : Addr} {k1 kk : Int} {acc0 ds ys : List D} {J : It} {Nx : Hp → Prop} (zB : F B) (B0 : H0 B = none) (BS : B ≠ C.aS)
    (h0 : LS C F H0 own σ env Hs B Hs k1 acc0) (z1 : ItOk C (OA F own σ) J ds Hs) (e1 : lcL p t m vs env ds k1 = some (ys, kk)) (hsz : (acc0 ++ ys).length ≤ sizeLine) (fin : ∀ H, LS C F H0 own σ env Hs B H kk (acc0 ++ ys) → Nx H) :
    ∃ W : Nat → Nat → Hp → Prop, (∃ m', W 0 m' Hs) ∧ ∀ i m' H, W i m' H → (J.stop i H ∧ Nx H) ∨ (J.go i H ∧ ∃ Nx1 : Hp → Prop, (∀ H', Nx1 H' → ∃ m2, m2 < m' ∧ W (i + 1) m2 H') ∧ ∀ x H', J.yld i H x H' →
      (fun v σ H Q => ∃ F H0, tPt C F H0 own vs p v σ H Q : TG) x (L2.wipe σ vs) H' fun σ2 H2 => L2.wipe σ2 vs = L2.wipe σ vs ∧ (fun σ H Q => ∃ F H0, tEvT C F H0 own t xNone σ H Q : TT) σ2 H2 fun b H3 =>
        if b = true then (fun σ H Q => ∃ F H0, tEv C F H0 own m xNone σ H Q : TE) σ2 H3 fun y H4 => ∃ acc, H4 B = some (.lst acc) ∧ acc.length < sizeLine ∧ Nx1 (upd H4 B (.lst (acc ++ [y]))) else Nx1 H3) := by
  have eo : OA F own (L2.wipe σ vs) = OA F own σ := OA.eq fun i hi => wipe_keep (hno i hi)
  obtain ⟨c0, hB0⟩ : (∃ x, Hs C.aS = some (.lst x)) ∧ ∃ y, Hs B = some (.lst y) := ⟨⟨_, h0.1.cell⟩, let ⟨_, _, a, ha, _⟩ := h0; ⟨a, ha⟩⟩
  obtain ⟨c0, hc0⟩ := c0
  obtain ⟨b0, hb0⟩ := hB0
  refine ⟨fun i m' H' => m' = ds.length - i ∧ i ≤ ds.length ∧ ∃ k2 accD ys', LS C F H0 own σ env Hs B H' k2 accD ∧ lcL p t m vs env (ds.drop i) k2 = some (ys', kk) ∧ accD ++ ys' = acc0 ++ ys, ⟨ds.length, by simp, Nat.zero_le _, k1, acc0, ys, h0, e1, rfl⟩, ?_⟩
  rintro i m' H' ⟨rfl, hi, k2, accD, ys', l2, e2, e3⟩
  have ok := z1 (OA F own σ) H' (fun _ _ n => n) (kept_off h0.1.oaS (.inl zB) hc0 hb0 l2.2.1) i
  by_cases hlt : i < ds.length
  · obtain ⟨go, yld⟩ := ok.1 ds[i] (List.getElem?_eq_getElem hlt)
    rw [List.drop_eq_getElem_cons hlt] at e2
    obtain ⟨env1, ep, e4⟩ := Option.bind_eq_some_iff.mp e2
    obtain ⟨⟨b, k3⟩, et, e5⟩ := Option.bind_eq_some_iff.mp e4
    have et := nx_some et
    refine .inr ⟨go, fun H'' => i + 1 ≤ ds.length ∧ ∃ k2 accD ys', LS C F H0 own σ env Hs B H'' k2 accD ∧ lcL p t m vs env (ds.drop (i + 1)) k2 = some (ys', kk) ∧ accD ++ ys' = acc0 ++ ys, fun H'' z => ⟨ds.length - (i + 1), by omega, rfl, z⟩, fun x H2 y => ?_⟩
    obtain ⟨sm, rx⟩ := yld x H2 y
    have r3 : RelS C F H0 own σ H2 env k2 := l2.1.same sm
    refine ⟨_, H0, wipeE env vs, k2, _, env1, r3.wipe hno, by rw [eo]; exact rx, ep, fun σ2 r4 el ag => ⟨wipe_agree ((wipe_length σ vs).symm.trans el.symm) fun j nj => (ag j nj).trans (wipe_keep nj), _, H0, env1, k2, r4, ?_⟩⟩
    rw [et]
    intro H3 r5 kp3
    have kq3 : KeptS C H' H3 := (KeptS.of_same sm).trans kp3
    cases b with
    | false => exact ⟨hlt, k3, accD, ys', l2.step kq3 r5.cell BS, by rw [← e5]; rfl, e3⟩
    | true =>
      obtain ⟨⟨y, k4⟩, em, e6⟩ := Option.bind_eq_some_iff.mp e5
      obtain ⟨⟨zs, k5⟩, ez, e7⟩ := Option.bind_eq_some_iff.mp e6
      obtain ⟨rfl, rfl⟩ := Prod.mk.inj (Option.some.inj e7)
      refine ⟨_, H0, env1, k3, r5, ?_⟩
      rw [nx_some em]
      intro v H4 r6 kp4 rv
      obtain ⟨r7, kq4, acc, hB4, racc4⟩ := l2.step (kq3.trans kp4) r6.cell BS
      have rv : Rp C (OA F own σ) H4 v y := rv.less fun a z => by
        have e : OA F own σ2 a ↔ OA F own σ a := OA.congr fun i hi => (ag i (hno i hi)).trans (wipe_keep (hno i hi))
        exact e.mpr z
      have kpt := kept_put (Z := OA F own σ) (o := .lst (acc ++ [v])) (.inl zB) hB4
      refine ⟨acc, hB4, ?_, hlt, k4, accD ++ [y], zs, ⟨r7.putF zB B0 BS hB4, fun a o e n1 n2 => by rw [upd_ne n2]; exact kq4 a o e n1 n2, acc ++ [v], upd_same, (racc4.append (.cons rv .nil)).lift kpt fun _ _ n => n⟩, ez, ?_⟩
      · rw [racc4.length]
        have := congrArg List.length e3
        rw [List.length_append, List.length_cons] at this
        omega
      · rw [List.append_assoc]
        exact e3
  · have e : i = ds.length := by omega
    subst e
    rw [List.drop_length] at e2
    cases e2
    rw [List.append_nil] at e3
    subst e3
    exact .inl ⟨ok.2 (Nat.le_refl _), fin H' l2⟩
/-- the new list's start: what stands there, and the end -/
theorem lc_start {F : Addr → Prop} {H0 H1 : Hp} {σ : St} {env : Env} {k1 : Int} {B : Addr} {J : It} {ds : List D} (r1 : RelS C F H0 own σ H1 env k1) (hB : H1 B = none) (z1 : ItOk C (OA F own σ) J ds H1) :
    H0 B = none ∧ B ≠ C.aS ∧ LS C (fun a => F a ∨ a = B) H0 own σ env (upd H1 B (.lst [])) B (upd H1 B (.lst [])) k1 [] ∧ ItOk C (OA (fun a => F a ∨ a = B) own σ) J ds (upd H1 B (.lst [])) ∧
      ∀ {H : Hp} {kk : Int} {ys : List D} {H' : Hp} {Q : VK}, LS C (fun a => F a ∨ a = B) H0 own σ env (upd H1 B (.lst [])) B H kk ys → KeptS C H' H1 → (∀ v H'', RelS C F H0 own σ H'' env kk → KeptS C H1 H'' → FrV C (OA F own σ) H' H'' v (.lst ys) → Q v H'') → Q (.ref B) H := by
  have BS : B ≠ C.aS := fun e => by rw [e, r1.cell] at hB; cases hB
  have B0 : H0 B = none := by
    cases q : H0 B with
    | none => rfl
    | some o =>
      have := r1.base B o q BS
      rw [hB] at this
      cases this
  have eo : ∀ a, OA (fun a => F a ∨ a = B) own σ a ↔ OA F own σ a ∨ a = B := fun a => by
    constructor
    · rintro ((z | z) | z)
      · exact .inl (.inl z)
      · exact .inr z
      · exact .inl (.inr z)
    · rintro ((z | z) | z)
      · exact .inl (.inl z)
      · exact .inr z
      · exact .inl (.inr z)
  refine ⟨B0, BS, ⟨r1.addF hB B0, fun a o e _ _ => e, [], upd_same, .nil⟩, z1.weak (fun a na no z => ((eo a).mp z).elim no fun e => na (e ▸ hB)) (fun a n => ?_) (.of_same (same_new hB)), fun {H kk ys H' Q} l kp q => ?_⟩
  · cases e : H1 a with
    | none => exact absurd e n
    | some o =>
      rw [same_new hB a o e]
      exact fun z => by cases z
  · obtain ⟨r2, kp2, acc, ha, ra⟩ := l
    have kp3 : KeptS C H1 H := fun a o e n => kp2 a o (same_new hB a o e) n fun z => by rw [z, hB] at e; cases e
    exact q _ H (r2.lessF (fun a z => .inl z) r1.fS) kp3 (FrV.back (H1 := H1) ⟨B, rfl, hB, .lst BS ha (ra.less fun b z => (eo b).mpr z)⟩ kp r1.cell)
theorem lc_reads {F : Addr → Prop} {H0 : Hp} {E : XK} {vs : List Nat} (hno : ∀ i ∈ own, i ∉ vs) {σ : St} {H : Hp} {Q : VK} (h : tEvF C F H0 own (eLc it p t m vs) E σ H Q) :
    tLc (tEvI C F H0 own it E) (fun v σ H Q => ∃ F H0, tPt C F H0 own vs p v σ H Q) (fun σ H Q => ∃ F H0, tEvT C F H0 own t xNone σ H Q) (fun σ H Q => ∃ F H0, tEv C F H0 own m xNone σ H Q) vs σ H Q := by
  obtain ⟨env, k, r, q⟩ := h
  refine ⟨env, k, r, AfterG.bindE (k := k) q fun ds k1 J H1 _ r1 kp1 z1 q1 B hB => ?_⟩
  cases e1 : lcL p t m vs env ds k1 with
  | none =>
    rw [e1] at q1
    exact q1.elim
  | some yk =>
    obtain ⟨ys, kk⟩ := yk
    rw [e1] at q1
    unfold okLst at q1
    obtain ⟨hsz, q2⟩ := q1.ifok
    obtain ⟨B0, BS, l0, zz, fin⟩ := lc_start r1 hB z1
    exact lc_in hno (.inr rfl) B0 BS l0 zz e1 hsz fun H' l => fin l kp1 q2
theorem df_lc (ok : blkC N sc.sc scope ownl = true) (hno : ∀ i ∈ own, i ∉ ownl.map (·.2)) (hi : DI C lvl sc N own tg iter it) (hg : DG C lvl (blkB sc scope) N own (ownl.map (·.2)) tg p) (ht : DTs C lvl (blkB sc scope) N own ifs t) (he : DE C lvl (blkB sc scope) N own elt m)
    (hs : ∀ (env : PySem.Env) x, foldedSetIterable iter env x = pure x) : DF C lvl sc N own (.ListComp elt [⟨tg, iter, ifs, 0⟩] scope pos) (eLc it p t m (ownl.map (·.2))) := fun F H0 E X G => by
  have ok := blkOk_by ok
  have ok : BlkOk X.N X.env.scope scope ownl := by rw [G.hN, G.scope]; exact ok
  exact PE.imp (pe_lc G.calm G.nd (hi F H0 E X G) ok (fun s H Cc cl fp => hg _ _ (G.blk ok.kind s H Cc cl fp)) (fun s H Cc cl fp => PTs.ex fun F => PTs.ex fun H0 => ht F H0 _ _ (G.blk ok.kind s H Cc cl fp))
    (fun s H Cc cl fp => PE.ex fun F => PE.ex fun H0 => he F H0 _ _ (G.blk ok.kind s H Cc cl fp)) (hs X.env)) fun σ H Q h => lc_reads hno h
end
end PL

set_option maxHeartbeats 4000000
/-! PL11: list comprehensions of two clauses. -/
namespace PL
open PySem PySem.Spec L2
open Classical

def lcL2 (p : Pt) (t : Et) (it1 : Its) (p1 : Pt) (t1 : Et) (m : Ev) (vs vs1 : List Nat) (env : Env) : List D → Int → Option (List D × Int)
  | [], k => some ([], k)
  | d :: ds, k => (p d (wipeE env vs)).bind fun env1 => (nx (t env1 k)).bind fun b => if b.1 = true then (nx (it1 env1 b.2)).bind fun es => (lcL p1 t1 m vs1 env1 es.1 es.2).bind fun zs => (lcL2 p t it1 p1 t1 m vs vs1 env ds zs.2).bind fun ys => some (zs.1 ++ ys.1, ys.2)
      else lcL2 p t it1 p1 t1 m vs vs1 env ds b.2
noncomputable def eLc2 (it : Its) (p : Pt) (t : Et) (it1 : Its) (p1 : Pt) (t1 : Et) (m : Ev) (vs vs1 : List Nat) : Ev := fun env k => (it env k).bind fun ds k1 => okLst (lcL2 p t it1 p1 t1 m vs vs1 env ds k1)

section
variable {C : Cn} {lvl : Nat} {sc : Bl} {N : List Str} {own : List Nat} {tg iter tg1 iter1 elt : Expr} {ifs ifs1 : List Expr} {scope : Scope} {pos : Pos} {ownl : List (Str × Nat)} {it it1 : Its} {p p1 : Pt} {t t1 : Et} {m : Ev}
theorem RelS.afterB {F : Addr → Prop} {H0 H H5 : Hp} {σ : St} {env : Env} {k k' : Int} {B : Addr} {acc acc' : List V} (r : RelS C F H0 own σ H env k) (zB : F B) (B0 : H0 B = none) (BS : B ≠ C.aS) (h : H B = some (.lst acc)) (h5 : H5 B = some (.lst acc'))
    (kp : ∀ a o, H a = some o → a ≠ C.aS → a ≠ B → H5 a = some o) (c : H5 C.aS = some (.lst [.ref C.aN, .int k'])) : RelS C F H0 own σ H5 env k' := by
  have r1 : RelS C F H0 own σ (upd H5 B (.lst acc)) env k' := r.after (fun a o e n => by
    by_cases hb : a = B
    · subst hb
      rw [h] at e
      cases e
      exact upd_same
    · rw [upd_ne hb]
      exact kp a o e n hb) (by rw [upd_ne BS.symm]; exact c) r.aNS
  have r2 := r1.putF zB B0 BS upd_same (o := .lst acc')
  have e : upd (upd H5 B (.lst acc)) B (.lst acc') = H5 := by
    funext a
    by_cases hb : a = B
    · rw [hb, upd_same, h5]
    · rw [upd_ne hb, upd_ne hb]
  rw [e] at r2
  exact r2
theorem lc2_reads {F : Addr → Prop} {H0 : Hp} {E : XK} {vs vs1 : List Nat} (hno : ∀ i ∈ own, i ∉ vs) (hv : ∀ i ∈ vs1, i ∈ vs) {σ : St} {H : Hp} {Q : VK} (h : tEvF C F H0 own (eLc2 it p t it1 p1 t1 m vs vs1) E σ H Q) :
    tLc2 (tEvI C F H0 own it E) (fun v σ H Q => ∃ F H0, tPt C F H0 own vs p v σ H Q) (fun σ H Q => ∃ F H0, tEvT C F H0 own t xNone σ H Q) (fun σ H Q => ∃ F H0, tEvI C F H0 own it1 xNone σ H Q)
      (fun v σ H Q => ∃ F H0, tPt C F H0 own vs1 p1 v σ H Q) (fun σ H Q => ∃ F H0, tEvT C F H0 own t1 xNone σ H Q) (fun σ H Q => ∃ F H0, tEv C F H0 own m xNone σ H Q) vs vs1 σ H Q := by
  obtain ⟨env, k, r, q⟩ := h
  refine ⟨env, k, r, AfterG.bindE (k := k) q fun ds k1 J H1 _ r1 kp1 z1 q1 B hB => ?_⟩
  cases e1 : lcL2 p t it1 p1 t1 m vs vs1 env ds k1 with
  | none =>
    rw [e1] at q1
    exact q1.elim
  | some yk =>
    obtain ⟨ys, kk⟩ := yk
    rw [e1] at q1
    unfold okLst at q1
    obtain ⟨hsz, q2⟩ := q1.ifok
    obtain ⟨B0, BS, h0, zz, fin⟩ := lc_start r1 hB z1
    generalize hHs : upd H1 B (.lst []) = Hs at h0 zz fin
    have hno1 : ∀ i ∈ own, i ∉ vs1 := fun i hi z => hno i hi (hv i z)
    generalize hF : (fun a => F a ∨ a = B) = F' at h0 zz fin
    have zB : F' B := by
      rw [← hF]
      exact .inr rfl
    have eo : OA F' own (L2.wipe σ vs) = OA F' own σ := OA.eq fun i hi => wipe_keep (hno i hi)
    obtain ⟨c0, b0, hc0, hb0⟩ : ∃ x y, Hs C.aS = some (.lst x) ∧ Hs B = some (.lst y) := ⟨_, [], h0.1.cell, by rw [← hHs]; exact upd_same⟩
    refine ⟨fun i m' H' => m' = ds.length - i ∧ i ≤ ds.length ∧ ∃ k2 accD ys', LS C F' H0 own σ env Hs B H' k2 accD ∧ lcL2 p t it1 p1 t1 m vs vs1 env (ds.drop i) k2 = some (ys', kk) ∧ accD ++ ys' = ys, ⟨ds.length, by simp, Nat.zero_le _, k1, [], ys, h0, e1, rfl⟩, ?_⟩
    rintro i m' H' ⟨rfl, hi, k2, accD, ys', l2, e2, e3⟩
    have ok := zz (OA F' own σ) H' (fun _ _ n => n) (kept_off h0.1.oaS (.inl zB) hc0 hb0 l2.2.1) i
    by_cases hlt : i < ds.length
    · obtain ⟨go, yld⟩ := ok.1 ds[i] (List.getElem?_eq_getElem hlt)
      rw [List.drop_eq_getElem_cons hlt] at e2
      obtain ⟨env1, ep, e4⟩ := Option.bind_eq_some_iff.mp e2
      obtain ⟨⟨b, k3⟩, et, e5⟩ := Option.bind_eq_some_iff.mp e4
      have et := nx_some et
      refine .inr ⟨go, fun H'' => i + 1 ≤ ds.length ∧ ∃ k2 accD ys', LS C F' H0 own σ env Hs B H'' k2 accD ∧ lcL2 p t it1 p1 t1 m vs vs1 env (ds.drop (i + 1)) k2 = some (ys', kk) ∧ accD ++ ys' = ys, fun H'' z => ⟨ds.length - (i + 1), by omega, rfl, z⟩, fun x H2 y => ?_⟩
      obtain ⟨sm, rx⟩ := yld x H2 y
      have r3 : RelS C F' H0 own σ H2 env k2 := l2.1.same sm
      refine ⟨F', H0, wipeE env vs, k2, _, env1, r3.wipe hno, by rw [eo]; exact rx, ep, fun σ2 r4 el ag => ⟨wipe_agree ((wipe_length σ vs).symm.trans el.symm) fun j nj => (ag j nj).trans (wipe_keep nj), F', H0, env1, k2, r4, ?_⟩⟩
      have eo2 : OA F' own σ2 = OA F' own σ := OA.eq fun i hi => (ag i (hno i hi)).trans (wipe_keep (hno i hi))
      rw [et]
      intro H3 r5 kp3
      have kq3 : KeptS C H' H3 := (KeptS.of_same sm).trans kp3
      cases b with
      | false => exact ⟨hlt, k3, accD, ys', l2.step kq3 r5.cell BS, by rw [← e5]; rfl, e3⟩
      | true =>
        obtain ⟨⟨es, k4⟩, em, e6⟩ := Option.bind_eq_some_iff.mp e5
        obtain ⟨⟨zs, k5⟩, ez, e7⟩ := Option.bind_eq_some_iff.mp e6
        obtain ⟨⟨ws, k6⟩, ew, e8⟩ := Option.bind_eq_some_iff.mp e7
        obtain ⟨rfl, rfl⟩ := Prod.mk.inj (Option.some.inj e8)
        refine ⟨F', H0, env1, k3, r5, ?_⟩
        rw [nx_some em]
        intro J1 H4 r6 kp4 zz1
        obtain ⟨r7, kq4, acc, hB4, racc4⟩ := l2.step (kq3.trans kp4) r6.cell BS
        refine lc_in (acc0 := accD) hno1 zB B0 BS ⟨r6, fun a o e _ _ => e, acc, hB4, by rw [eo2]; exact racc4⟩ zz1 ez ?_ fun H5 ⟨r8, kp5, acc5, hB5, racc5⟩ => ?_
        · have := congrArg List.length e3
          simp only [List.length_append] at this ⊢
          omega
        · refine ⟨hlt, k5, accD ++ zs, ws, ⟨?_, fun a o e n1 n2 => kp5 a o (kq4 a o e n1 n2) n1 n2, acc5, hB5, by rw [← eo2]; exact racc5⟩, ew, by rw [List.append_assoc]; exact e3⟩
          exact r7.afterB zB B0 BS hB4 hB5 kp5 r8.cell
    · have e : i = ds.length := by omega
      subst e
      rw [List.drop_length] at e2
      cases e2
      rw [List.append_nil] at e3
      subst e3
      exact .inl ⟨ok.2 (Nat.le_refl _), fin l2 kp1 q2⟩
theorem df_lc2 {vs1 : List Nat} (ok : blkC N sc.sc scope ownl = true) (hno : ∀ i ∈ own, i ∉ ownl.map (·.2)) (hv : ∀ i ∈ vs1, i ∈ ownl.map (·.2)) (hi : DI C lvl sc N own tg iter it) (hg : DG C lvl (blkB sc scope) N own (ownl.map (·.2)) tg p) (ht : DTs C lvl (blkB sc scope) N own ifs t)
    (hi1 : DI C lvl (blkB sc scope) N own tg1 iter1 it1) (hg1 : DG C lvl (blkB sc scope) N own vs1 tg1 p1) (ht1 : DTs C lvl (blkB sc scope) N own ifs1 t1) (he : DE C lvl (blkB sc scope) N own elt m)
    (hs : ∀ (env : PySem.Env) x, foldedSetIterable iter env x = pure x) (hs1 : ∀ (env : PySem.Env) x, foldedSetIterable iter1 env x = pure x) :
    DF C lvl sc N own (.ListComp elt [⟨tg, iter, ifs, 0⟩, ⟨tg1, iter1, ifs1, 0⟩] scope pos) (eLc2 it p t it1 p1 t1 m (ownl.map (·.2)) vs1) := fun F H0 E X G => by
  have ok := blkOk_by ok
  have ok : BlkOk X.N X.env.scope scope ownl := by rw [G.hN, G.scope]; exact ok
  exact PE.imp (pe_lc2 G.calm G.nd (hi F H0 E X G) ok hv (fun s H Cc cl fp => hg _ _ (G.blk ok.kind s H Cc cl fp)) (fun s H Cc cl fp => PTs.ex fun F => PTs.ex fun H0 => ht F H0 _ _ (G.blk ok.kind s H Cc cl fp))
    (fun s H Cc cl fp => PI.ex fun F => PI.ex fun H0 => hi1 F H0 _ _ (G.blk ok.kind s H Cc cl fp)) (fun s H Cc cl fp => hg1 _ _ (G.blk ok.kind s H Cc cl fp)) (fun s H Cc cl fp => PTs.ex fun F => PTs.ex fun H0 => ht1 F H0 _ _ (G.blk ok.kind s H Cc cl fp))
    (fun s H Cc cl fp => PE.ex fun F => PE.ex fun H0 => he F H0 _ _ (G.blk ok.kind s H Cc cl fp)) (hs X.env) hs1) fun σ H Q h => lc2_reads hno hv h
end
end PL

set_option maxHeartbeats 4000000
/-! PL12: statements. -/
namespace PL
open PySem PySem.Spec L2
open Classical

inductive Fl where
  | nx (env : Env) | rt (d : D) | bk (env : Env) | ct (env : Env)
abbrev Stm := Env → Int → R Fl

/-- what a step leaves as it is -/
structure Stp (Z : Addr → Prop) (H : Hp) (Z' : Addr → Prop) (H' : Hp) : Prop where
  kept : Kept Z H H'
  up : ∀ a, H a ≠ none → ¬ Z a → ¬ Z' a
  al : ∀ a, H a ≠ none → H' a ≠ none
theorem Stp.refl {Z : Addr → Prop} {H : Hp} : Stp Z H Z H := ⟨Kept.refl, fun _ _ n => n, fun _ n => n⟩
theorem Stp.trans {Z1 Z2 Z3 : Addr → Prop} {H1 H2 H3 : Hp} (a : Stp Z1 H1 Z2 H2) (b : Stp Z2 H2 Z3 H3) : Stp Z1 H1 Z3 H3 :=
  ⟨⟨fun x u q n => b.kept.keep x u (a.kept.keep x u q n) (a.up x (PL.Rd.some q) n), fun x xs q n => b.kept.lst x xs (a.kept.lst x xs q n) (a.up x (by rw [q]; exact fun z => by cases z) n), fun x xs q => b.kept.tup x xs (a.kept.tup x xs q),
    fun x o u q n => b.kept.frz x o u (a.kept.frz x o u q n) (a.up x (by rw [q]; exact fun z => by cases z) n)⟩, fun x n z => b.up x (a.al x n) (a.up x n z), fun x n => b.al x (a.al x n)⟩
theorem ItOk.stp {C : Cn} {O O' : Addr → Prop} {J : It} {ds : List D} {H H' : Hp} (h : ItOk C O J ds H) (s : Stp O H O' H') : ItOk C O' J ds H' := h.weak s.up s.al s.kept
/-- the frame's things stand -/
def Hold (C : Cn) (F : Addr → Prop) (H0 H : Hp) (k : Int) : Prop := ∃ own σ env, RelS C F H0 own σ H env k
section
variable {C : Cn} {F : Addr → Prop} {H0 H H' : Hp} {own own' : List Nat} {σ : St} {env : Env} {k k' : Int}
theorem RelS.hold (r : RelS C F H0 own σ H env k) : Hold C F H0 H k := ⟨_, _, _, r⟩
theorem RelS.stpE (r : RelS C F H0 own σ H env k) (r' : RelS C F H0 own σ H' env k') (h : KeptS C H H') : Stp (OA F own σ) H (OA F own σ) H' := ⟨r.kept h, fun _ _ n => n, fun _ n => h.alive r'.cell n⟩
/-- slots given up: no longer the def's own -/
theorem RelS.drop (r : RelS C F H0 own σ H env k) (h : ∀ i ∈ own', i ∈ own) : RelS C F H0 own' σ H env k := by
  have sub : ∀ a, OA F own' σ a → OA F own σ a := fun a z => z.imp id fun ⟨i, hi, e⟩ => ⟨i, h i hi, e⟩
  refine ⟨r.len, r.cell, r.nums, r.fS, r.fN, r.ftr, r.base, fun i d e => ?_, fun i hi => r.mine i (h i hi), fun i hi j hj e => r.inj i (h i hi) j (h j hj) e⟩
  obtain ⟨v, e1, z⟩ := r.var i d e
  refine ⟨v, e1, ?_⟩
  rcases z with ⟨n, z⟩ | ⟨m, z⟩
  · exact .inl ⟨fun q => n (h i q), z.less sub⟩
  · by_cases q : i ∈ own'
    · exact .inr ⟨q, z.less sub⟩
    · refine .inl ⟨q, ?_⟩
      obtain ⟨a, e2, nf, _⟩ := r.mine i m
      rw [e1] at e2
      cases e2
      refine OwnV.rp z (fun w => ?_) sub
      rcases w with w | ⟨j, hj, e3⟩
      · exact nf w
      · exact q (r.inj j (h j hj) i m (e3.trans e1.symm) ▸ hj)
theorem RelS.stpD (r : RelS C F H0 own σ H env k) (h : ∀ i ∈ own', i ∈ own) : Stp (OA F own σ) H (OA F own' σ) H :=
  ⟨Kept.refl, fun a _ n z => n (z.imp id fun ⟨i, hi, e⟩ => ⟨i, h i hi, e⟩), fun _ n => n⟩
/-- a value of the expression's own making, stored -/
theorem RelS.setF (r0 : RelS C F H0 own σ H env k) (kp : KeptS C H H') (c : H' C.aS = some (.lst [.ref C.aN, .int k'])) {i : Nat} {v : V} {d : D} (hl : i < env.length) (fr : FrV C (OA F own σ) H H' v d) (h : ∀ j ∈ own', j = i ∨ j ∈ own) :
    RelS C F H0 own' (σ.set i (some v)) H' (env.set i (some d)) k' ∧ Stp (OA F own σ) H (OA F own' (σ.set i (some v))) H' := by
  obtain ⟨p, rfl, hp, w⟩ := fr
  have pS : p ≠ C.aS := w.neS rfl
  have hs : i < σ.length := by rw [← r0.len]; exact hl
  have p0 : H0 p = none := by
    cases q : H0 p with
    | none => rfl
    | some o =>
      have := r0.base p o q pS
      rw [hp] at this
      cases this
  have pF : ¬ F p := fun z => r0.ftr p z hp
  have pO : ∀ j ∈ own, σ[j]? ≠ some (some (.ref p)) := fun j hj e => r0.tracked p (.inr ⟨j, hj, e⟩) hp
  have ne : ∀ j, j ≠ i → (σ.set i (some (.ref p)))[j]? = σ[j]? := fun j hj => List.getElem?_set_ne (Ne.symm hj)
  have sub : ∀ a, OA F own' (σ.set i (some (.ref p))) a → OA F own σ a ∨ a = p := fun a z => by
    rcases z with z | ⟨j, hj, e⟩
    · exact .inl (.inl z)
    · by_cases q : j = i
      · subst q
        rw [List.getElem?_set_self hs] at e
        cases e
        exact .inr rfl
      · rw [ne j q] at e
        exact .inl (.inr ⟨j, (h j hj).resolve_left q, e⟩)
  have up : ∀ a, H a ≠ none → ¬ OA F own σ a → ¬ OA F own' (σ.set i (some (.ref p))) a := fun a al n z => (sub a z).elim n fun e => al (e ▸ hp)
  have pnn : H' p ≠ none := by
    cases w with
    | lst _ e _ => rw [e]; exact fun z => by cases z
    | dct _ e _ _ => rw [e]; exact fun z => by cases z
    | dctT _ e _ _ => rw [e]; exact fun z => by cases z
  have kO : Kept (OA F own' (σ.set i (some (.ref p)))) H H' := kp.kept _ (.inl r0.fS) r0.cell
  refine ⟨⟨by rw [List.length_set, List.length_set]; exact r0.len, c, kp.rd r0.nums r0.aNS, r0.fS, r0.fN, fun a z => kp.alive c (r0.ftr a z), fun a o e n => kp a o (r0.base a o e n) n, fun j d' e => ?_, fun j hj => ?_, fun a ha b hb e => ?_⟩, ⟨r0.kept kp, up, fun a n => kp.alive c n⟩⟩
  · by_cases q : j = i
    · subst q
      rw [List.getElem?_set_self hl] at e
      cases e
      refine ⟨.ref p, List.getElem?_set_self hs, ?_⟩
      by_cases m : j ∈ own'
      · exact .inr ⟨m, w.less sub⟩
      · refine .inl ⟨m, OwnV.rp w (fun z => ?_) sub⟩
        rcases z with z | ⟨l, hl2, e3⟩
        · exact pF z
        · have ql : l ≠ j := fun z => m (z ▸ hl2)
          rw [ne l ql] at e3
          exact pO l ((h l hl2).resolve_left ql) e3
    · rw [List.getElem?_set_ne (Ne.symm q)] at e
      obtain ⟨v, e1, z⟩ := r0.var j d' e
      refine ⟨v, by rw [ne j q]; exact e1, ?_⟩
      rcases z with ⟨n, z⟩ | ⟨m, z⟩
      · exact .inl ⟨fun m => n ((h j m).resolve_left q), z.lift (r0.kept kp) up⟩
      · obtain ⟨a, e2, nf, nN, h0, al⟩ := r0.mine j m
        rw [e1] at e2
        cases e2
        have z2 := (z.lift up).step kO fun b o ev eb => kp b o eb (by
          cases ev
          exact r0.ownNe m e1)
        by_cases m' : j ∈ own'
        · exact .inr ⟨m', z2⟩
        · refine .inl ⟨m', OwnV.rp z2 (fun w => ?_) fun _ z => z⟩
          rcases w with w | ⟨l, hl2, e3⟩
          · exact nf w
          · by_cases q2 : l = i
            · subst q2
              rw [List.getElem?_set_self hs] at e3
              cases e3
              exact al hp
            · rw [ne l q2] at e3
              exact m' (r0.inj l ((h l hl2).resolve_left q2) j m (e3.trans e1.symm) ▸ hl2)
  · by_cases q : j = i
    · subst q
      refine ⟨p, List.getElem?_set_self hs, pF, fun e => PL.Rd.some r0.nums (e ▸ hp), p0, pnn⟩
    · obtain ⟨a, e1, nf, nN, h0, al⟩ := r0.mine j ((h j hj).resolve_left q)
      exact ⟨a, by rw [ne j q]; exact e1, nf, nN, h0, kp.alive c al⟩
  · by_cases qa : a = i
    · by_cases qb : b = i
      · rw [qa, qb]
      · exfalso
        rw [qa, List.getElem?_set_self hs, ne b qb] at e
        exact pO b ((h b hb).resolve_left qb) e.symm
    · by_cases qb : b = i
      · exfalso
        rw [qb, List.getElem?_set_self hs, ne a qa] at e
        exact pO a ((h a ha).resolve_left qa) e
      · rw [ne a qa, ne b qb] at e
        exact r0.inj a ((h a ha).resolve_left qa) b ((h b hb).resolve_left qb) e
end
end PL

set_option maxHeartbeats 4000000
/-! PL13: the judgement of statements, its plain rules. -/
namespace PL
open PySem PySem.Spec L2
open Classical

def AfterS (C : Cn) (F : Addr → Prop) (H0 : Hp) (lo own own' : List Nat) (E : XK) (σ : St) (H : Hp) (x : R Fl) (D : Ends) : Prop := match x with
  | .ok (.nx env') k' => ∀ σ' H', RelS C F H0 own' σ' H' env' k' → Stp (OA F own σ) H (OA F own' σ') H' → D.nx σ' H'
  | .ok (.rt d) k' => ∀ v H', Hold C F H0 H' k' → Rp C F H' v d → D.rt v H'
  | .ok (.bk env') k' => ∀ σ' H', RelS C F H0 lo σ' H' env' k' → Stp (OA F own σ) H (OA F lo σ') H' → D.bk σ' H'
  | .ok (.ct env') k' => ∀ σ' H', RelS C F H0 lo σ' H' env' k' → Stp (OA F own σ) H (OA F lo σ') H' → D.ct σ' H'
  | .ex c k' => ∀ H', Hold C F H0 H' k' → E ((C.mg c).getD .none) none H'
  | .no => False
def tSt (C : Cn) (F : Addr → Prop) (H0 : Hp) (lo own own' : List Nat) (m : Stm) (E : XK) : TS := fun D σ H => ∃ env k, RelS C F H0 own σ H env k ∧ AfterS C F H0 lo own own' E σ H (m env k) D
def DS (C : Cn) (lvl : Nat) (sc : Bl) (N : List Str) (lo own own' : List Nat) (st : Stmt) (m : Stm) : Prop :=
  ∀ (F : Addr → Prop) (H0 : Hp) (E : XK) (X : Cx), Good C lvl sc N E X → PS X st (tSt C F H0 lo own own' m E)
def DSs (C : Cn) (lvl : Nat) (sc : Bl) (N : List Str) (lo own own' : List Nat) (st : List Stmt) (m : Stm) : Prop :=
  ∀ (F : Addr → Prop) (H0 : Hp) (E : XK) (X : Cx), Good C lvl sc N E X → PSs X st (tSt C F H0 lo own own' m E)

def sNil : Stm := fun env k => .ok (.nx env) k
def sSeq (m1 m2 : Stm) : Stm := fun env k => (m1 env k).bind fun f k1 => match f with
  | .nx env1 => m2 env1 k1
  | f => .ok f k1
def sBrk : Stm := fun env k => .ok (.bk env) k
def sCt : Stm := fun env k => .ok (.ct env) k
def sRet (m : Ev) : Stm := fun env k => (m env k).bind fun d k1 => .ok (.rt d) k1
def sIf (t : Et) (a b : Stm) : Stm := fun env k => (t env k).bind fun x k1 => if x = true then a env k1 else b env k1
def sSet (i : Nat) (m : Ev) : Stm := fun env k => (m env k).bind fun d k1 => .ok (.nx (env.set i (some d))) k1
def sSetF (i : Nat) (m : Ev) : Stm := fun env k => (m env k).bind fun d k1 => if i < env.length then .ok (.nx (env.set i (some d))) k1 else .no
def sExpr (m : Ev) : Stm := fun env k => (m env k).bind fun _ k1 => .ok (.nx env) k1
def sAsg (m : Ev) (p : Pt) : Stm := fun env k => (m env k).bind fun d k1 => match p d env with
  | some env' => .ok (.nx env') k1
  | none => .no
def sRaise (c : Str) : Stm := fun _ k => .ex c k
def sPar (i j : Nat) (ms : Els) : Stm := fun env k => (ms env k).bind fun ds k1 => match ds with
  | [a, b] => .ok (.nx ((env.set i (some a)).set j (some b))) k1
  | _ => .no

section
variable {C : Cn} {F : Addr → Prop} {H0 H H' H2 : Hp} {lo own own' own1 own2 : List Nat} {E : XK} {σ σ2 : St} {env : Env} {k : Int} {Dn : Ends} {x : R Fl}
theorem AfterS.stp (h : AfterS C F H0 lo own own' E σ H x Dn) (s : Stp (OA F own σ) H (OA F own2 σ2) H2) : AfterS C F H0 lo own2 own' E σ2 H2 x Dn := by
  match x, h with
  | .ok (.nx _) _, h => exact fun σ' H' r s2 => h σ' H' r (s.trans s2)
  | .ok (.rt _) _, h => exact h
  | .ok (.bk _) _, h => exact fun σ' H' r s2 => h σ' H' r (s.trans s2)
  | .ok (.ct _) _, h => exact fun σ' H' r s2 => h σ' H' r (s.trans s2)
  | .ex _ _, h => exact h
/-- an expression, then the rest of a statement -/
theorem After.bindS {m : Ev} {Z' : Hp → V → D → Prop} {Q' : VK} {f : D → Int → R Fl} (r : RelS C F H0 own σ H env k) (h : AfterS C F H0 lo own own' E σ H ((m env k).bind f) Dn)
    (go : ∀ d k1 v H1, m env k = .ok d k1 → RelS C F H0 own σ H1 env k1 → KeptS C H H1 → Z' H1 v d → AfterS C F H0 lo own own' E σ H1 (f d k1) Dn → Q' v H1) :
    After C F H0 own E σ H env (m env k) Z' Q' := by
  cases e : m env k with
  | ok d k1 =>
    rw [e] at h
    exact fun v H1 r1 kp z => go d k1 v H1 e r1 kp z (AfterS.stp (x := f d k1) h (r.stpE r1 kp))
  | ex c k1 =>
    rw [e] at h
    exact fun H' r1 _ => h H' r1.hold
  | no =>
    rw [e] at h
    exact h
theorem AfterT.bindS {m : Et} {f : Bool → Int → R Fl} {Q' : Bool → Hp → Prop} (r : RelS C F H0 own σ H env k) (h : AfterS C F H0 lo own own' E σ H ((m env k).bind f) Dn)
    (go : ∀ d k1 H1, m env k = .ok d k1 → RelS C F H0 own σ H1 env k1 → KeptS C H H1 → AfterS C F H0 lo own own' E σ H1 (f d k1) Dn → Q' d H1) :
    AfterT C F H0 own E σ H env (m env k) Q' := by
  cases e : m env k with
  | ok d k1 =>
    rw [e] at h
    exact fun H1 r1 kp => go d k1 H1 e r1 kp (AfterS.stp (x := f d k1) h (r.stpE r1 kp))
  | ex c k1 =>
    rw [e] at h
    exact fun H' r1 _ => h H' r1.hold
  | no =>
    rw [e] at h
    exact h
theorem AfterL.bindS {m : Els} {f : List D → Int → R Fl} {Z' : Hp → List V → List D → Prop} {Q' : List V → Hp → Prop} (r : RelS C F H0 own σ H env k) (h : AfterS C F H0 lo own own' E σ H ((m env k).bind f) Dn)
    (go : ∀ d k1 v H1, m env k = .ok d k1 → RelS C F H0 own σ H1 env k1 → KeptS C H H1 → Z' H1 v d → AfterS C F H0 lo own own' E σ H1 (f d k1) Dn → Q' v H1) :
    AfterL C F H0 own E σ H env (m env k) Z' Q' := by
  cases e : m env k with
  | ok d k1 =>
    rw [e] at h
    exact fun v H1 r1 kp z => go d k1 v H1 e r1 kp z (AfterS.stp (x := f d k1) h (r.stpE r1 kp))
  | ex c k1 =>
    rw [e] at h
    exact fun H' r1 _ => h H' r1.hold
  | no =>
    rw [e] at h
    exact h
theorem AfterG.bindS {m : Its} {f : List D → Int → R Fl} {β : Type} {Z' : Hp → β → List D → Prop} {Q' : β → Hp → Prop} (r : RelS C F H0 own σ H env k) (h : AfterS C F H0 lo own own' E σ H ((m env k).bind f) Dn)
    (go : ∀ d k1 v H1, m env k = .ok d k1 → RelS C F H0 own σ H1 env k1 → KeptS C H H1 → Z' H1 v d → AfterS C F H0 lo own own' E σ H1 (f d k1) Dn → Q' v H1) :
    AfterG C F H0 own E σ H env (m env k) Z' Q' := by
  cases e : m env k with
  | ok d k1 =>
    rw [e] at h
    exact fun v H1 r1 kp z => go d k1 v H1 e r1 kp z (AfterS.stp (x := f d k1) h (r.stpE r1 kp))
  | ex c k1 =>
    rw [e] at h
    exact fun H' r1 _ => h H' r1.hold
  | no =>
    rw [e] at h
    exact h
end

section
variable {C : Cn} {lvl : Nat} {sc : Bl} {N : List Str} {lo own own' own1 : List Nat} {pos : Pos} {st : Stmt} {rest sa sb : List Stmt} {e c tg : Expr} {m : Ev} {ms : Els} {t : Et} {m1 m2 : Stm}
theorem dss_nil (h : ∀ i ∈ own', i ∈ own) : DSs C lvl sc N lo own own' [] sNil := fun F H0 E X G =>
  PSs.imp pss_nil fun D σ H ⟨env, k, r, q⟩ => q σ H (r.drop h) (r.stpD h)
theorem dss_cons (h1 : DS C lvl sc N lo own own1 st m1) (h2 : DSs C lvl sc N lo own1 own' rest m2) : DSs C lvl sc N lo own own' (st :: rest) (sSeq m1 m2) := fun F H0 E X G =>
  PSs.imp (pss_cons (h1 F H0 E X G) (h2 F H0 E X G)) fun D σ H ⟨env, k, r, q⟩ => by
    refine ⟨env, k, r, ?_⟩
    unfold sSeq at q
    cases e : m1 env k with
    | ok f k1 =>
      rw [e] at q
      cases f with
      | nx env1 => exact fun σ' H' r1 s1 => ⟨env1, k1, r1, AfterS.stp (x := m2 env1 k1) q s1⟩
      | rt d => exact q
      | bk env1 => exact q
      | ct env1 => exact q
    | ex c k1 =>
      rw [e] at q
      exact q
    | no =>
      rw [e] at q
      exact q
theorem dss_one (h1 : DS C lvl sc N lo own own1 st m1) (h : ∀ i ∈ own', i ∈ own1) : DSs C lvl sc N lo own own' [st] m1 := fun F H0 E X G =>
  PSs.imp (pss_one (h1 F H0 E X G)) fun D σ H ⟨env, k, r, q⟩ => by
    refine ⟨env, k, r, ?_⟩
    match m1 env k, q with
    | .ok (.nx _) _, q => exact fun σ' H' r s2 => q σ' H' (r.drop h) (s2.trans (r.stpD h))
    | .ok (.rt _) _, q => exact q
    | .ok (.bk _) _, q => exact q
    | .ok (.ct _) _, q => exact q
    | .ex _ _, q => exact q
theorem dss_drop (h : ∀ i ∈ own1, i ∈ own) (h1 : DSs C lvl sc N lo own1 own' rest m1) : DSs C lvl sc N lo own own' rest m1 := fun F H0 E X G =>
  PSs.imp (h1 F H0 E X G) fun D σ H ⟨env, k, r, q⟩ => ⟨env, k, r.drop h, q.stp (r.stpD h)⟩
theorem ds_drop (h : ∀ i ∈ own1, i ∈ own) (h1 : DS C lvl sc N lo own1 own' st m1) : DS C lvl sc N lo own own' st m1 := fun F H0 E X G =>
  PS.imp (h1 F H0 E X G) fun D σ H ⟨env, k, r, q⟩ => ⟨env, k, r.drop h, q.stp (r.stpD h)⟩
theorem ds_pass : DS C lvl sc N lo own own (.Pass pos) sNil := fun F H0 E X G => PS.imp ps_pass fun D σ H ⟨env, k, r, q⟩ => q σ H r Stp.refl
theorem ds_break (h : ∀ i ∈ lo, i ∈ own) : DS C lvl sc N lo own own' (.Break pos) sBrk := fun F H0 E X G => PS.imp ps_break fun D σ H ⟨env, k, r, q⟩ => q σ H (r.drop h) (r.stpD h)
theorem ds_cont (h : ∀ i ∈ lo, i ∈ own) : DS C lvl sc N lo own own' (.Continue pos) sCt := fun F H0 E X G => PS.imp ps_continue fun D σ H ⟨env, k, r, q⟩ => q σ H (r.drop h) (r.stpD h)
theorem ds_ret (he : DE C lvl sc N own e m) : DS C lvl sc N lo own own' (.Return (some e) pos) (sRet m) := fun F H0 E X G =>
  PS.imp (ps_ret (he F H0 E X G)) fun D σ H ⟨env, k, r, q⟩ => ⟨env, k, r, After.bindS r q fun d k1 v H1 _ r1 _ z q1 => q1 v H1 r1.hold (z.less fun a w => .inl w)⟩
theorem ds_retN : DS C lvl sc N lo own own' (.Return none pos) (sRet (eC .non)) := fun F H0 E X G =>
  PS.imp ps_retN fun D σ H ⟨env, k, r, q⟩ => q .non H r.hold Rp.non
theorem ds_if (ht : DT C lvl sc N own c t) (ha : DSs C lvl sc N lo own own' sa m1) (hb : DSs C lvl sc N lo own own' sb m2) : DS C lvl sc N lo own own' (.If c sa sb pos) (sIf t m1 m2) := fun F H0 E X G =>
  PS.imp (ps_if (ht F H0 E X G) (ha F H0 E X G) (hb F H0 E X G)) fun D σ H ⟨env, k, r, q⟩ => by
    refine ⟨env, k, r, AfterT.bindS r q fun b k1 H1 _ r1 _ q1 => ?_⟩
    cases b with
    | true => exact ⟨env, k1, r1, q1⟩
    | false => exact ⟨env, k1, r1, q1⟩
theorem ds_expr (he : DE C lvl sc N own e m) (hs : ∀ env : PySem.Env, swapsWith e none pos.line env = pure false) : DS C lvl sc N lo own own (.Expr e pos) (sExpr m) := fun F H0 E X G =>
  PS.imp (ps_expr (he F H0 E X G) (hs X.env)) fun D σ H ⟨env, k, r, q⟩ => ⟨env, k, r, After.bindS r q fun d k1 v H1 _ r1 _ z q1 => q1 σ H1 r1 Stp.refl⟩
theorem ds_set {i : Nat} {x : Str} {px : Pos} (h : okSet sc N i x = true) (ni : i ∉ own) (he : DE C lvl sc N own e m) (hs : ∀ env : PySem.Env, swapsWith e (some (.Name x px)) pos.line env = pure false) :
    DS C lvl sc N lo own own (.Assign [.Name x px] e pos) (sSet i m) := fun F H0 E X G =>
  PS.imp (ps_set G.nd (okSet.get G h).1 (okSet.get G h).2.1 (he F H0 E X G) (hs X.env) (okSet.get G h).2.2) fun D σ H ⟨env, k, r, q⟩ => ⟨env, k, r, After.bindS r q fun d k1 v H1 _ r1 _ z q1 => by
    refine q1 _ H1 (r1.set ni z) ?_
    rw [OA.eq (F := F) (σ' := σ.set i (some v)) (σ := σ) (own := own) fun j hj => List.getElem?_set_ne fun (e : i = j) => ni (by rw [e]; exact hj)]
    exact Stp.refl⟩
theorem setF_reads {F : Addr → Prop} {H0 : Hp} {E : XK} {i : Nat} (h : ∀ j ∈ own', j = i ∨ j ∈ own) {D : Ends} {σ : St} {H : Hp} (q : tSt C F H0 lo own own' (sSetF i m) E D σ H) : tEvF C F H0 own m E σ H fun v H1 => D.nx (σ.set i (some v)) H1 := by
  obtain ⟨env, k, r, q⟩ := q
  refine ⟨env, k, r, ?_⟩
  unfold sSetF at q
  cases e : m env k with
  | ok d k1 =>
    rw [e] at q
    intro v H1 r1 kp z
    have q : AfterS C F H0 lo own own' E σ H (if i < env.length then .ok (.nx (env.set i (some d))) k1 else .no) D := q
    by_cases hl : i < env.length
    · rw [if_pos hl] at q
      have := r.setF kp r1.cell hl z h
      exact q _ H1 this.1 this.2
    · rw [if_neg hl] at q
      exact q.elim
  | ex c k1 =>
    rw [e] at q
    exact fun H' r1 _ => q H' r1.hold
  | no =>
    rw [e] at q
    exact q
theorem ds_setF {i : Nat} {x : Str} {px : Pos} (h : okSet sc N i x = true) (ho : ∀ j ∈ own', j = i ∨ j ∈ own) (he : DF C lvl sc N own e m) (hs : ∀ env : PySem.Env, swapsWith e (some (.Name x px)) pos.line env = pure false) :
    DS C lvl sc N lo own own' (.Assign [.Name x px] e pos) (sSetF i m) := fun F H0 E X G =>
  PS.imp (ps_set G.nd (okSet.get G h).1 (okSet.get G h).2.1 (he F H0 E X G) (hs X.env) (okSet.get G h).2.2) fun D σ H q => setF_reads ho q
theorem ds_asg {p : Pt} {vs : List Nat} (he : DE C lvl sc N own e m) (hg : DG C lvl sc N own vs tg p) (hvo : ∀ i ∈ own, i ∉ vs) (hs : ∀ env : PySem.Env, swapsWithSole [tg] e pos.line env = pure false) (hw : ∀ env : PySem.Env, env.scope = sc.sc → env.blockKind = .function → swappedStores [tg] e env = pure none)
    (h1 : ∀ env : PySem.Env, (assignEach [tg] env).map (·.2) = [assign tg env]) : DS C lvl sc N lo own own (.Assign [tg] e pos) (sAsg m p) := fun F H0 E X G =>
  PS.imp (ps_asg (he F H0 E X G) (hg E X G) (hs X.env) (hw X.env G.scope G.kind) (h1 X.env)) fun D σ H ⟨env, k, r, q⟩ => ⟨env, k, r, After.bindS r q fun d k1 v H1 _ r1 _ z q1 => by
    cases e : p d env with
    | none =>
      rw [e] at q1
      exact q1.elim
    | some env1 =>
      rw [e] at q1
      refine ⟨F, H0, env, k1, d, env1, r1, z, e, fun σ' r2 el ag => q1 σ' H1 r2 ?_⟩
      rw [OA.eq (F := F) (σ' := σ') (σ := σ) (own := own) fun j hj => ag j (hvo j hj)]
      exact Stp.refl⟩
theorem ds_par {i j : Nat} {x y : Str} {a b : Expr} {px py pt pt2 : Pos} {kt k2 : Nat} (hi : okSet sc N i x = true) (hj : okSet sc N j y = true) (li : sc.names.lookup x = some .local) (lj : sc.names.lookup y = some .local) (hij : i ≠ j) (ni : i ∉ own) (nj : j ∉ own) (ha : DA C lvl sc N own [a, b] ms)
    (hw : ∀ env : PySem.Env, env.scope = sc.sc → env.blockKind = .function → swappedStores [.Tuple [.Name x px, .Name y py] kt pt] (.Tuple [a, b] k2 pt2) env = pure (some [x, y]))
    (hs : ∀ env : PySem.Env, swapsWithSole [.Tuple [.Name x px, .Name y py] kt pt] (.Tuple [a, b] k2 pt2) pos.line env = pure false) :
    DS C lvl sc N lo own own (.Assign [.Tuple [.Name x px, .Name y py] kt pt] (.Tuple [a, b] k2 pt2) pos) (sPar i j ms) := fun F H0 E X G =>
  PS.imp (ps_par G.calm G.nd (okSet.get G hi).1 (okSet.get G hj).1 hij (by rw [G.scope]; exact li) (by rw [G.scope]; exact lj) (ha F H0 E X G) (hw X.env G.scope G.kind) (hs X.env)) fun D σ H ⟨env, k, r, q⟩ => ⟨env, k, r, AfterL.bindS r q fun ds k1 vs H1 _ r1 _ z q1 => by
    match ds, q1 with
    | [d1, d2], q1 =>
      obtain ⟨v, w, rfl, z1, z2⟩ := z.two
      refine ⟨v, w, rfl, ?_⟩
      have e1 : OA F own (σ.set i (some v)) = OA F own σ := OA.eq fun l hl => List.getElem?_set_ne fun (e : i = l) => ni (by rw [e]; exact hl)
      have e2 : OA F own ((σ.set i (some v)).set j (some w)) = OA F own σ := (OA.eq fun l hl => List.getElem?_set_ne fun (e : j = l) => nj (by rw [e]; exact hl)).trans e1
      refine q1 _ H1 ((r1.set ni z1).set nj (by rw [e1]; exact z2)) ?_
      rw [e2]
      exact Stp.refl⟩
end
end PL

set_option maxHeartbeats 4000000
/-! PL14: loops; comprehensions stored; values without lists read from the def's own things. -/
namespace PL
open PySem PySem.Spec L2
open Classical

def forL (p : Pt) (b : Stm) : List D → Env → Int → R Fl
  | [], env, k => .ok (.nx env) k
  | d :: ds, env, k => match p d env with
    | none => .no
    | some env1 => (b env1 k).bind fun f k1 => match f with
      | .nx env2 => forL p b ds env2 k1
      | .ct env2 => forL p b ds env2 k1
      | .bk env2 => .ok (.nx env2) k1
      | .rt d => .ok (.rt d) k1
def sFor (it : Its) (p : Pt) (b : Stm) : Stm := fun env k => (it env k).bind fun ds k1 => forL p b ds env k1
def whL (c : Et) (b : Stm) : Nat → Env → Int → R Fl
  | 0, _, _ => .no
  | n + 1, env, k => (c env k).bind fun x k1 => if x = true then (b env k1).bind fun f k2 => match f with
      | .nx env2 => whL c b n env2 k2
      | .ct env2 => whL c b n env2 k2
      | .bk env2 => .ok (.nx env2) k2
      | .rt d => .ok (.rt d) k2
    else .ok (.nx env) k1
noncomputable def sWhile (c : Et) (b : Stm) : Stm := fun env k => if h : ∃ n, whL c b n env k ≠ .no then whL c b (Classical.choose h) env k else .no
theorem sWhile_ex {c : Et} {b : Stm} {env : Env} {k : Int} (h : sWhile c b env k ≠ .no) : ∃ n, sWhile c b env k = whL c b n env k := by
  unfold sWhile at h ⊢
  split
  · exact ⟨_, rfl⟩
  · rename_i q
    rw [dif_neg q] at h
    exact absurd rfl h
theorem AfterS.notNo {C : Cn} {F : Addr → Prop} {H0 H : Hp} {lo own own' : List Nat} {E : XK} {σ : St} {Dn : Ends} {x : R Fl} (h : AfterS C F H0 lo own own' E σ H x Dn) : x ≠ .no := by
  rintro rfl
  exact h

section
variable {C : Cn} {lvl : Nat} {sc : Bl} {N : List Str} {lo own own' own1 : List Nat} {pos : Pos} {tg iter c : Expr} {body : List Stmt} {it : Its} {p : Pt} {b : Stm} {t : Et}
/-- one turn of a loop: from what the whole promises to what the body must -/
theorem AfterS.turn {F : Addr → Prop} {H0 H : Hp} {E : XK} {σ : St} {Dn : Ends} {x : R Fl} {f : Fl → Int → R Fl} {N : St → Hp → Prop}
    (h : AfterS C F H0 lo own own E σ H (x.bind f) Dn) (hb : ∀ env k, f (.bk env) k = .ok (.nx env) k) (hr : ∀ d k, f (.rt d) k = .ok (.rt d) k)
    (hn : ∀ g env' k' σ' H', (g = .nx env' ∨ g = .ct env') → RelS C F H0 own σ' H' env' k' → Stp (OA F own σ) H (OA F own σ') H' → AfterS C F H0 lo own own E σ H (f g k') Dn → N σ' H') :
    AfterS C F H0 own own own E σ H x { Dn with nx := N, ct := N, bk := Dn.nx } := by
  match x, h with
  | .ok (.nx env') k', h => exact fun σ' H' r s => hn _ env' k' σ' H' (.inl rfl) r s h
  | .ok (.ct env') k', h => exact fun σ' H' r s => hn _ env' k' σ' H' (.inr rfl) r s h
  | .ok (.bk env') k', h =>
    intro σ' H' r s
    have h : AfterS C F H0 lo own own E σ H (f (.bk env') k') Dn := h
    rw [hb] at h
    exact h σ' H' r s
  | .ok (.rt d) k', h =>
    intro v H' r s
    have h : AfterS C F H0 lo own own E σ H (f (.rt d) k') Dn := h
    rw [hr] at h
    exact h v H' r s
  | .ex c k', h => exact h
theorem PSs.ex {X : Cx} {st : List Stmt} {ι : Sort _} {t : ι → TS} (h : ∀ i, PSs X st (t i)) : PSs X st (fun D σ H => ∃ i, t i D σ H) :=
  ⟨fun pins s σ H D I ⟨i, q⟩ => (h i).run pins s σ H D I q⟩
/-- the turns of a loop over what is walked -/
theorem for_core {F : Addr → Prop} {H0 H1 : Hp} {E : XK} {σ : St} {env : Env} {k1 : Int} {J : It} {ds : List D} {Dn : Ends} {vs : List Nat} (hvo : ∀ i ∈ own, i ∉ vs) (r1 : RelS C F H0 own σ H1 env k1) (z1 : ItOk C (OA F own σ) J ds H1) (q1 : AfterS C F H0 lo own own E σ H1 (forL p b ds env k1) Dn) :
    ∃ W : Nat → Nat → St → Hp → Prop, (∃ m, W 0 m σ H1) ∧ ∀ i m σ H, W i m σ H → (J.stop i H ∧ Dn.nx σ H) ∨ (J.go i H ∧ ∃ N : St → Hp → Prop, (∀ σ' H', N σ' H' → ∃ m', m' < m ∧ W (i + 1) m' σ' H') ∧ ∀ x H', J.yld i H x H' →
      (fun v σ H Q => ∃ F H0, tPt C F H0 own vs p v σ H Q : TG) x σ H' fun σ2 H2 => (fun D σ H => ∃ F H0, tSt C F H0 own own own b E D σ H : TS) { Dn with nx := N, ct := N, bk := Dn.nx } σ2 H2) := by
  refine ⟨fun i m σ' H' => m = ds.length - i ∧ i ≤ ds.length ∧ ∃ env' k', RelS C F H0 own σ' H' env' k' ∧ Stp (OA F own σ) H1 (OA F own σ') H' ∧ AfterS C F H0 lo own own E σ' H' (forL p b (ds.drop i) env' k') Dn,
    ⟨ds.length, by simp, Nat.zero_le _, env, k1, r1, Stp.refl, q1⟩, ?_⟩
  rintro i m σ' H' ⟨rfl, hi, env', k', r2, s2, q2⟩
  have ok := (z1.stp s2) (OA F own σ') H' (fun _ _ n => n) Kept.refl i
  by_cases hlt : i < ds.length
  · obtain ⟨go, yld⟩ := ok.1 ds[i] (List.getElem?_eq_getElem hlt)
    rw [List.drop_eq_getElem_cons hlt] at q2
    refine .inr ⟨go, fun σ3 H3 => i + 1 ≤ ds.length ∧ ∃ env' k', RelS C F H0 own σ3 H3 env' k' ∧ Stp (OA F own σ) H1 (OA F own σ3) H3 ∧ AfterS C F H0 lo own own E σ3 H3 (forL p b (ds.drop (i + 1)) env' k') Dn, fun σ3 H3 z => ⟨ds.length - (i + 1), by omega, rfl, z⟩, fun x H2 y => ?_⟩
    obtain ⟨sm, rx⟩ := yld x H2 y
    unfold forL at q2
    cases ep : p ds[i] env' with
    | none =>
      rw [ep] at q2
      exact q2.elim
    | some env1 =>
      rw [ep] at q2
      have s3 : Stp (OA F own σ') H' (OA F own σ') H2 := ⟨Kept.of_same sm, fun _ _ n => n, fun a n => by
        cases e : H' a with
        | none => exact absurd e n
        | some o => rw [sm a o e]; exact fun z => by cases z⟩
      refine ⟨F, H0, env', k', ds[i], env1, r2.same sm, rx, ep, fun σ3 r3 el ag => ⟨F, H0, env1, k', r3, ?_⟩⟩
      have s4 : Stp (OA F own σ') H' (OA F own σ3) H2 := by
        rw [OA.eq (F := F) (σ' := σ3) (σ := σ') (own := own) fun j hj => ag j (hvo j hj)]
        exact s3
      refine AfterS.turn (q2.stp s4) (fun _ _ => rfl) (fun _ _ => rfl) fun g env2 k2 σ4 H4 hg r4 s5 q5 => ?_
      refine ⟨hlt, env2, k2, r4, (s2.trans s4).trans s5, ?_⟩
      rcases hg with rfl | rfl
      · exact AfterS.stp (x := forL p b (ds.drop (i + 1)) env2 k2) q5 s5
      · exact AfterS.stp (x := forL p b (ds.drop (i + 1)) env2 k2) q5 s5
  · have e : i = ds.length := by omega
    subst e
    rw [List.drop_length] at q2
    exact .inl ⟨ok.2 (Nat.le_refl _), q2 σ' H' r2 Stp.refl⟩
theorem ds_for {vs : List Nat} (hi : DI C lvl sc N own tg iter it) (hg : DG C lvl sc N own vs tg p) (hvo : ∀ i ∈ own, i ∉ vs) (hb : DSs C lvl sc N own own own body b) (hs : ∀ (env : PySem.Env) x, foldedSetIterable iter env x = pure x) :
    DS C lvl sc N lo own own (.For tg iter body [] pos) (sFor it p b) := fun F H0 E X G =>
  PS.imp (ps_for G.pass G.calm (hi F H0 E X G) (hg E X G) (PSs.ex fun F => PSs.ex fun H0 => hb F H0 E X G) (hs X.env)) fun Dn σ H ⟨env, k, r, q⟩ =>
    ⟨env, k, r, AfterG.bindS r q fun ds k1 J H1 _ r1 _ z1 q1 => for_core hvo r1 z1 q1⟩
theorem ds_while (hc : DT C lvl sc N own c t) (hb : DSs C lvl sc N own own own body b) : DS C lvl sc N lo own own (.While c body [] pos) (sWhile t b) := fun F H0 E X G =>
  PS.imp (ps_while G.pass (hc F H0 E X G) (hb F H0 E X G)) fun Dn σ H ⟨env, k, r, q⟩ => by
    obtain ⟨n, en⟩ := sWhile_ex q.notNo
    rw [en] at q
    refine ⟨fun m σ' H' => ∃ env' k', RelS C F H0 own σ' H' env' k' ∧ AfterS C F H0 lo own own E σ' H' (whL t b m env' k') Dn, ⟨n, env, k, r, q⟩, ?_⟩
    rintro m σ' H' ⟨env', k', r2, q2⟩
    cases m with
    | zero => exact q2.elim
    | succ m =>
      refine ⟨env', k', r2, AfterT.bindS r2 q2 fun x k1 H1 _ r3 kp3 q3 => ?_⟩
      cases x with
      | false => exact q3 σ' H1 r3 Stp.refl
      | true =>
        refine ⟨fun σ3 H3 => ∃ env' k', RelS C F H0 own σ3 H3 env' k' ∧ AfterS C F H0 lo own own E σ3 H3 (whL t b m env' k') Dn, fun σ3 H3 z => ⟨m, Nat.lt_succ_self m, z⟩, env', k1, r3, ?_⟩
        refine AfterS.turn q3 (fun _ _ => rfl) (fun _ _ => rfl) fun g env2 k2 σ4 H4 hg r4 s5 q5 => ⟨env2, k2, r4, ?_⟩
        rcases hg with rfl | rfl
        · exact AfterS.stp (x := whL t b m env2 k2) q5 s5
        · exact AfterS.stp (x := whL t b m env2 k2) q5 s5
end

/-! ### a comprehension stored on its own line -/
def swC (sc : Bl) (y : Str) (py pos : Pos) (scope : Scope) : Bool := (sc.names.lookup y == some .local) && (py.line == pos.line) && !(scope.names.any fun q => q.1 == y && (q.2 == .local || q.2 == .cell))
theorem sw_lc {sc : Bl} {elt : Expr} {gs : List Comprehension} {scope : Scope} {pos py : Pos} {y : Str} {l : Nat} {b : Bool} (h : swC sc y py pos scope = b) (env : PySem.Env) (he : env.scope = sc.sc) (hb : env.blockKind = .function) :
    swapsWith (.ListComp elt gs scope pos) (some (.Name y py)) l env = pure b := by
  have e : env.kindOf y = sc.sc.names.lookup y := by rw [← he]; rfl
  rw [← h]
  unfold swapsWith
  simp only [hb, e]
  rfl
section
variable {C : Cn} {lvl : Nat} {sc : Bl} {N : List Str} {lo own own' : List Nat} {pos spos py : Pos} {y : Str} {i : Nat} {tg iter tg1 iter1 elt : Expr} {ifs ifs1 : List Expr} {scope : Scope} {ownl : List (Str × Nat)} {it it1 : Its} {p p1 : Pt} {t t1 : Et} {m : Ev}
theorem ds_setLc (hi0 : okSet sc N i y = true) (ho : ∀ j ∈ own', j = i ∨ j ∈ own) (ok : blkC N sc.sc scope ownl = true) (hno : ∀ i ∈ own, i ∉ ownl.map (·.2)) (hi : DI C lvl sc N own tg iter it) (hg : DG C lvl (blkB sc scope) N own (ownl.map (·.2)) tg p) (ht : DTs C lvl (blkB sc scope) N own ifs t) (he : DE C lvl (blkB sc scope) N own elt m)
    (hs : ∀ (env : PySem.Env) x, foldedSetIterable iter env x = pure x) : DS C lvl sc N lo own own' (.Assign [.Name y py] (.ListComp elt [⟨tg, iter, ifs, 0⟩] scope pos) spos) (sSetF i (eLc it p t m (ownl.map (·.2)))) := fun F H0 E X G => by
  cases hw : swC sc y py pos scope with
  | false =>
    exact PS.imp (ps_set G.nd (okSet.get G hi0).1 (okSet.get G hi0).2.1 ((df_lc ok hno hi hg ht he hs) F H0 E X G) (sw_lc hw X.env G.scope G.kind) (okSet.get G hi0).2.2) fun D σ H q => setF_reads ho q
  | true =>
    have ok := blkOk_by ok
    have ok : BlkOk X.N X.env.scope scope ownl := by rw [G.hN, G.scope]; exact ok
    have yl : X.env.scope.names.lookup y = some .local := by
      unfold swC at hw
      simp only [Bool.and_eq_true, beq_iff_eq] at hw
      rw [G.scope]
      exact hw.1.1
    exact PS.imp (ps_setLc G.calm G.nd (okSet.get G hi0).1 yl (sw_lc hw X.env G.scope G.kind) (hi F H0 E X G) ok (fun s H Cc cl fp => hg _ _ (G.blk ok.kind s H Cc cl fp)) (fun s H Cc cl fp => PTs.ex fun F => PTs.ex fun H0 => ht F H0 _ _ (G.blk ok.kind s H Cc cl fp))
      (fun s H Cc cl fp => PE.ex fun F => PE.ex fun H0 => he F H0 _ _ (G.blk ok.kind s H Cc cl fp)) (hs X.env)) fun Dn σ H q => lc_reads hno (setF_reads ho q)
theorem ds_setLc2 {vs1 : List Nat} (hi0 : okSet sc N i y = true) (ho : ∀ j ∈ own', j = i ∨ j ∈ own) (ok : blkC N sc.sc scope ownl = true) (hno : ∀ i ∈ own, i ∉ ownl.map (·.2)) (hv : ∀ i ∈ vs1, i ∈ ownl.map (·.2)) (hi : DI C lvl sc N own tg iter it) (hg : DG C lvl (blkB sc scope) N own (ownl.map (·.2)) tg p) (ht : DTs C lvl (blkB sc scope) N own ifs t)
    (hi1 : DI C lvl (blkB sc scope) N own tg1 iter1 it1) (hg1 : DG C lvl (blkB sc scope) N own vs1 tg1 p1) (ht1 : DTs C lvl (blkB sc scope) N own ifs1 t1) (he : DE C lvl (blkB sc scope) N own elt m)
    (hs : ∀ (env : PySem.Env) x, foldedSetIterable iter env x = pure x) (hs1 : ∀ (env : PySem.Env) x, foldedSetIterable iter1 env x = pure x) :
    DS C lvl sc N lo own own' (.Assign [.Name y py] (.ListComp elt [⟨tg, iter, ifs, 0⟩, ⟨tg1, iter1, ifs1, 0⟩] scope pos) spos) (sSetF i (eLc2 it p t it1 p1 t1 m (ownl.map (·.2)) vs1)) := fun F H0 E X G => by
  cases hw : swC sc y py pos scope with
  | false =>
    exact PS.imp (ps_set G.nd (okSet.get G hi0).1 (okSet.get G hi0).2.1 ((df_lc2 ok hno hv hi hg ht hi1 hg1 ht1 he hs hs1) F H0 E X G) (sw_lc hw X.env G.scope G.kind) (okSet.get G hi0).2.2) fun D σ H q => setF_reads ho q
  | true =>
    have ok := blkOk_by ok
    have ok : BlkOk X.N X.env.scope scope ownl := by rw [G.hN, G.scope]; exact ok
    have yl : X.env.scope.names.lookup y = some .local := by
      unfold swC at hw
      simp only [Bool.and_eq_true, beq_iff_eq] at hw
      rw [G.scope]
      exact hw.1.1
    exact PS.imp (ps_setLc2 G.calm G.nd (okSet.get G hi0).1 yl (sw_lc hw X.env G.scope G.kind) (hi F H0 E X G) ok hv (fun s H Cc cl fp => hg _ _ (G.blk ok.kind s H Cc cl fp)) (fun s H Cc cl fp => PTs.ex fun F => PTs.ex fun H0 => ht F H0 _ _ (G.blk ok.kind s H Cc cl fp))
      (fun s H Cc cl fp => PI.ex fun F => PI.ex fun H0 => hi1 F H0 _ _ (G.blk ok.kind s H Cc cl fp)) (fun s H Cc cl fp => hg1 _ _ (G.blk ok.kind s H Cc cl fp)) (fun s H Cc cl fp => PTs.ex fun F => PTs.ex fun H0 => ht1 F H0 _ _ (G.blk ok.kind s H Cc cl fp))
      (fun s H Cc cl fp => PE.ex fun F => PE.ex fun H0 => he F H0 _ _ (G.blk ok.kind s H Cc cl fp)) (hs X.env) hs1) fun Dn σ H q => lc2_reads hno hv (setF_reads ho q)
end

/-! ### values without lists -/
mutual
def D.flat : D → Bool
  | .tup xs => D.flatL xs
  | .lst _ => false
  | .dct _ => false
  | .dctT _ => false
  | .cell => false
  | _ => true
def D.flatL : List D → Bool
  | [] => true
  | d :: ds => d.flat && D.flatL ds
end
mutual
theorem Rp.flat {C : Cn} {O O' : Addr → Prop} {H : Hp} : ∀ {v : V} {d : D}, Rp C O H v d → d.flat = true → Rp C O' H v d
  | _, _, .non, _ => .non
  | _, _, .bl b, _ => .bl b
  | _, _, .int i, _ => .int i
  | _, _, .str x, _ => .str x
  | _, _, .tup h r, f => .tup h (RpL.flat r (by unfold D.flat at f; exact f))
  | _, _, .lst _ _ _, f => by unfold D.flat at f; cases f
  | _, _, .dct _ _ _ _, f => by unfold D.flat at f; cases f
  | _, _, .dctT _ _ _ _, f => by unfold D.flat at f; cases f
  | _, _, .fn h, _ => .fn h
  | _, _, .cell, _ => .cell
theorem RpL.flat {C : Cn} {O O' : Addr → Prop} {H : Hp} : ∀ {vs : List V} {ds : List D}, RpL C O H vs ds → D.flatL ds = true → RpL C O' H vs ds
  | _, _, .nil, _ => .nil
  | _, _, .cons h r, f => by
    unfold D.flatL at f
    rw [Bool.and_eq_true] at f
    exact .cons (Rp.flat h f.1) (RpL.flat r f.2)
end
def ePeek (m : Ev) : Ev := fun env k => (m env k).bind fun d k1 => if d.flat = true then .ok d k1 else .no
section
variable {C : Cn} {lvl : Nat} {sc : Bl} {N : List Str} {own own1 : List Nat} {e : Expr} {m : Ev} {t : Et}
theorem de_peek (h : ∀ i ∈ own1, i ∈ own) (he : DE C lvl sc N own1 e m) : DE C lvl sc N own e (ePeek m) := fun F H0 E X G =>
  PE.imp (he F H0 E X G) fun σ H Q ⟨env, k, r, q⟩ => by
    refine ⟨env, k, r.drop h, ?_⟩
    unfold ePeek at q
    cases em : m env k with
    | ok d k1 =>
      rw [em] at q
      intro v H' r1 kp z
      have q : After C F H0 own E σ H env (if d.flat = true then R.ok d k1 else R.no) _ Q := q
      by_cases hf : d.flat = true
      · rw [if_pos hf] at q
        exact q v H' (r.after kp r1.cell r.aNS) kp (z.flat hf)
      · rw [if_neg hf] at q
        exact q.elim
    | ex c k1 =>
      rw [em] at q
      exact fun H' r1 kp => q H' (r.after kp r1.cell r.aNS) kp
    | no =>
      rw [em] at q
      exact q
theorem dt_peek (h : ∀ i ∈ own1, i ∈ own) (he : DT C lvl sc N own1 e t) : DT C lvl sc N own e t := fun F H0 E X G =>
  PT.imp (he F H0 E X G) fun σ H Q ⟨env, k, r, q⟩ => by
    refine ⟨env, k, r.drop h, ?_⟩
    cases em : t env k with
    | ok d k1 =>
      rw [em] at q
      exact fun H' r1 kp => q H' (r.after kp r1.cell r.aNS) kp
    | ex c k1 =>
      rw [em] at q
      exact fun H' r1 kp => q H' (r.after kp r1.cell r.aNS) kp
    | no =>
      rw [em] at q
      exact q
end
end PL

set_option maxHeartbeats 4000000
/-! PL15: the def's own lists and dicts, made and changed. -/
namespace PL
open PySem PySem.Spec L2
open Classical

section
variable {C : Cn} {F : Addr → Prop} {H0 H : Hp} {own : List Nat} {σ : St} {env : Env} {k : Int}
theorem kept_at {Z : Addr → Prop} {p : Addr} {o : HO} (hp : Z p) (e : ∀ xs, ¬ Rd H p (.tup xs)) : Kept Z H (upd H p o) := by
  have ne : ∀ a, ¬ Z a → a ≠ p := fun a n z => n (z ▸ hp)
  refine ⟨fun a u q n => ?_, fun a ys q n => by rw [upd_ne (ne a n)]; exact q, fun a ys q => ?_, fun a o u q n => by rw [upd_ne (ne a n)]; exact q⟩
  · unfold Rd
    rw [upd_ne (ne a n)]
    exact q
  · have : a ≠ p := fun z => e ys (z ▸ q)
    unfold Rd
    rw [upd_ne this]
    exact q
theorem own_ref {O : Addr → Prop} {v : V} {d : D} (h : OwnV C O H v d) : ∃ p, v = .ref p ∧ p ≠ C.aS ∧ H p ≠ none ∧ ∀ xs, ¬ Rd H p (.tup xs) := by
  have go : ∀ {p : Addr} {u : HO}, H p = some u → (∀ xs, u ≠ .tup xs) → (∀ o x, u ≠ .frz o x) → H p ≠ none ∧ ∀ xs, ¬ Rd H p (.tup xs) := fun {p u} e n1 n2 =>
    ⟨fun z => Option.some_ne_none u (e.symm.trans z), fun xs r => r.elim (fun r => n1 xs (Option.some.inj (e.symm.trans r))) fun ⟨o, r⟩ => n2 _ _ (Option.some.inj (e.symm.trans r))⟩
  cases h with
  | lst n e _ => exact ⟨_, rfl, n, go e (fun _ z => by cases z) fun _ _ z => by cases z⟩
  | dct n e _ _ => exact ⟨_, rfl, n, go e (fun _ z => by cases z) fun _ _ z => by cases z⟩
  | dctT n e _ _ => exact ⟨_, rfl, n, go e (fun _ z => by cases z) fun _ _ z => by cases z⟩
/-- the def's own thing at slot i is changed -/
theorem RelS.putO (r : RelS C F H0 own σ H env k) {i : Nat} {p : Addr} {o : HO} {d d' : D} (hi : i ∈ own) (es : σ[i]? = some (some (.ref p))) (w0 : OwnV C (OA F own σ) H (.ref p) d) (w : OwnV C (OA F own σ) (upd H p o) (.ref p) d') :
    RelS C F H0 own σ (upd H p o) (env.set i (some d')) k ∧ Stp (OA F own σ) H (OA F own σ) (upd H p o) := by
  obtain ⟨p', e', pS, al, nt⟩ := own_ref w0
  cases e'
  obtain ⟨p', e', nf, nN, p0, _⟩ := r.mine i hi
  rw [es] at e'
  cases e'
  have kp : Kept (OA F own σ) H (upd H p o) := kept_at (.inr ⟨i, hi, es⟩) nt
  have alv : ∀ a, H a ≠ none → upd H p o a ≠ none := fun a n => by
    by_cases q : a = p
    · rw [q, upd_same]
      exact fun z => by cases z
    · rw [upd_ne q]
      exact n
  refine ⟨⟨by rw [List.length_set]; exact r.len, by rw [upd_ne pS.symm]; exact r.cell, ?_, r.fS, r.fN, fun a z => alv a (r.ftr a z), fun a u q n => ?_, fun j d1 q => ?_, fun j hj => ?_, r.inj⟩, ⟨kp, fun _ _ n => n, alv⟩⟩
  · unfold Rd
    rw [upd_ne nN.symm]
    exact r.nums
  · rw [upd_ne fun z => by rw [z, p0] at q; cases q]
    exact r.base a u q n
  · by_cases ij : i = j
    · subst ij
      by_cases hl : i < env.length
      · rw [List.getElem?_set_self hl] at q
        cases q
        exact ⟨.ref p, es, .inr ⟨hi, w⟩⟩
      · rw [List.getElem?_eq_none (by rw [List.length_set]; omega)] at q
        cases q
    · rw [List.getElem?_set_ne ij] at q
      obtain ⟨v, e1, z⟩ := r.var j d1 q
      refine ⟨v, e1, ?_⟩
      rcases z with ⟨n, z⟩ | ⟨n, z⟩
      · exact .inl ⟨n, z.lift kp fun _ _ n => n⟩
      · refine .inr ⟨n, z.step kp fun a u ev q => ?_⟩
        subst ev
        rw [upd_ne fun z => ij (r.inj i hi j n (by rw [es, e1, z]))]
        exact q
  · obtain ⟨a, e1, nf, nN, h0, al⟩ := r.mine j hj
    exact ⟨a, e1, nf, nN, h0, alv a al⟩
/-- what stands in a slot of the def's own -/
theorem RelS.ownAt (r : RelS C F H0 own σ H env k) {i : Nat} {d : D} (hi : i ∈ own) (e : env[i]? = some (some d)) : ∃ p, σ[i]? = some (some (.ref p)) ∧ OwnV C (OA F own σ) H (.ref p) d := by
  obtain ⟨v, e1, z⟩ := r.var i d e
  rcases z with ⟨n, _⟩ | ⟨_, z⟩
  · exact absurd hi n
  · obtain ⟨p, rfl, _⟩ := own_ref z
    exact ⟨p, e1, z⟩
end

/-- x.append(e) -/
noncomputable def sApp (i : Nat) (m : Ev) : Stm := fun env k => match env[i]? with
  | some (some (.lst xs)) => (m env k).bind fun d k1 => if xs.length < sizeLine then .ok (.nx (env.set i (some (.lst (xs ++ [d]))))) k1 else .no
  | _ => .no
/-- the lists in an environment's slot -/
def lstAt (env : Env) (i : Nat) : Option (List D) := match env[i]? with
  | some (some (.lst xs)) => some xs
  | _ => none
/-- x[e] = v -/
noncomputable def sPut (i : Nat) (mi mv : Ev) : Stm := fun env k => match env[i]? with
  | some (some (.dct kvs)) => (mv env k).bind fun d k1 => (mi env k1).bind fun y k2 => match keyD y with
    | some key => if kvs.length < sizeLine then .ok (.nx (env.set i (some (.dct (putD kvs key d))))) k2 else .no
    | none => .no
  | _ => .no
theorem map_put {κ : Type} [DecidableEq κ] {C : Cn} {O : Addr → Prop} {H : Hp} {key : κ} {v : V} {d : D} (h : Rp C O H v d) : ∀ {kvs : List (κ × V)} {ds : List (κ × D)}, kvs.map (·.1) = ds.map (·.1) → RpL C O H (kvs.map (·.2)) (ds.map (·.2)) →
    (kvs.map fun kv => if kv.1 = key then (kv.1, v) else kv).map (·.1) = (ds.map fun kv => if kv.1 = key then (kv.1, d) else kv).map (·.1) ∧
      RpL C O H ((kvs.map fun kv => if kv.1 = key then (kv.1, v) else kv).map (·.2)) ((ds.map fun kv => if kv.1 = key then (kv.1, d) else kv).map (·.2))
  | [], [], _, _ => ⟨rfl, .nil⟩
  | [], _ :: _, e, _ => by simp at e
  | _ :: _, [], e, _ => by simp at e
  | (a, x) :: kvs, (b, y) :: ds, e, r => by
    rw [List.map_cons, List.map_cons] at e
    obtain ⟨e1, e2⟩ := List.cons.inj e
    have e1 : a = b := e1
    subst e1
    cases r with
    | cons h1 r1 =>
      obtain ⟨q1, q2⟩ := map_put h e2 r1
      by_cases ek : a = key
      · simp only [List.map_cons, if_pos ek]
        exact ⟨by rw [q1], .cons h q2⟩
      · simp only [List.map_cons, if_neg ek]
        exact ⟨by rw [q1], .cons h1 q2⟩
theorem any_key {κ α β : Type} [DecidableEq κ] (key : κ) : ∀ {kvs : List (κ × α)} {ds : List (κ × β)}, kvs.map (·.1) = ds.map (·.1) → (kvs.any fun kv => decide (kv.1 = key)) = ds.any fun kv => decide (kv.1 = key)
  | [], [], _ => rfl
  | [], _ :: _, e => by simp at e
  | _ :: _, [], e => by simp at e
  | (a, x) :: kvs, (b, y) :: ds, e => by
    rw [List.map_cons, List.map_cons] at e
    obtain ⟨e1, e2⟩ := List.cons.inj e
    have e1 : a = b := e1
    subst e1
    rw [List.any_cons, List.any_cons, any_key key e2]
theorem put_rel {κ : Type} [DecidableEq κ] {C : Cn} {O : Addr → Prop} {H : Hp} {key : κ} {v : V} {d : D} (h : Rp C O H v d) {kvs : List (κ × V)} {ds : List (κ × D)} (e : kvs.map (·.1) = ds.map (·.1)) (r : RpL C O H (kvs.map (·.2)) (ds.map (·.2))) :
    (putK kvs key v).map (·.1) = (putD ds key d).map (·.1) ∧ RpL C O H ((putK kvs key v).map (·.2)) ((putD ds key d).map (·.2)) := by
  unfold putK putD
  rw [any_key key e]
  split
  · exact map_put h e r
  · simp only [List.map_append, List.map_cons, List.map_nil, e]
    exact ⟨trivial, r.append (.cons h .nil)⟩

section
variable {C : Cn} {lvl : Nat} {sc : Bl} {N : List Str} {lo own own' : List Nat} {pos apos cpos px : Pos} {x : Str} {i : Nat} {e ei : Expr} {m mi : Ev}
theorem ds_app (hi : i ∈ own) (h : okVar sc N i x = true) (he : DE C lvl sc N own e m) (hbase : ∀ env : PySem.Env, attributeBase (.Name x px) "append" env (eval (.Name x px) env) = eval (.Name x px) env)
    (hfew : ∀ env : PySem.Env, ((backTo cpos (starEach [e] env)).all (fun x => !x.1) && (backToKw cpos (keywordEach [] env)).all (fun x => x.1.isSome) && decide (([e] : List Expr).length + ([] : List Keyword).length + (if ([] : List Keyword).isEmpty then 0 else 1) < 30)) = true)
    (hline : (apos.endLine == cpos.line) = true) (hs : ∀ env : PySem.Env, starEach [e] env = (false, eval e env) :: starEach [] env) (hpl : ∀ env : PySem.Env, (backTo cpos (starEach [] env)).any (·.1) = false) (hsw : ∀ env : PySem.Env, swapsWith (.Call (.Attribute (.Name x px) "append" apos) [e] [] cpos) none pos.line env = pure false) :
    DS C lvl sc N lo own own (.Expr (.Call (.Attribute (.Name x px) "append" apos) [e] [] cpos) pos) (sApp i m) := fun F H0 E X G =>
  PS.imp (ps_expr (pe_bm PySem.F.plainAttrs_list PySem.F.slot_list_append PySem.F.type_list_append mt_append (okVar.pe G h) (da_cons he da_nil hs F H0 E X G) (hbase X.env) (hfew X.env) hline (hs X.env) (hpl X.env)) (hsw X.env)) fun Dn σ H ⟨env, k, r, q⟩ => by
    unfold sApp at q
    split at q
    · rename_i xs ex
      obtain ⟨p, es, w⟩ := r.ownAt hi ex
      have hp : ∃ ys, H p = some (.lst ys) := by
        cases w with
        | lst _ e _ => exact ⟨_, e⟩
      obtain ⟨ys, hp⟩ := hp
      refine ⟨.ref p, es, .inl ⟨rfl, _, SqL.of hp⟩, env, k, r, AfterL.bindS (lo := lo) (own' := own) (Dn := Dn) (m := eCons m eNil) (f := fun ds k1 => match ds with | [d] => if xs.length < sizeLine then .ok (.nx (env.set i (some (.lst (xs ++ [d]))))) k1 else .no | _ => .no) r ?_ fun ds k1 vs H1 hm r1 kp1 z1 q1 => ?_⟩
      · have e1 : (eCons m eNil env k).bind (fun ds k1 => match ds with | [d] => if xs.length < sizeLine then R.ok (Fl.nx (env.set i (some (.lst (xs ++ [d]))))) k1 else .no | _ => .no) = (m env k).bind fun d k1 => if xs.length < sizeLine then R.ok (Fl.nx (env.set i (some (.lst (xs ++ [d]))))) k1 else .no := by
          unfold eCons eNil
          cases m env k <;> rfl
        rw [e1]
        exact q
      · match ds, q1 with
        | [d], q1 =>
          obtain ⟨v, rfl, zv⟩ := z1.one
          by_cases hz : xs.length < sizeLine
          · have q1 : AfterS C F H0 lo own own E σ H1 (if xs.length < sizeLine then R.ok (Fl.nx (env.set i (some (.lst (xs ++ [d]))))) k1 else .no) Dn := q1
            rw [if_pos hz] at q1
            obtain ⟨p', es', w1⟩ := r1.ownAt hi ex
            rw [es] at es'
            cases es'
            cases w1 with
            | @lst _ zs _ pS e rr =>
              have kpt := kept_put (Z := OA F own σ) (o := .lst (zs ++ [v])) (.inr ⟨i, hi, es⟩) e
              have st := r1.putO hi es (.lst pS e rr) (.lst pS upd_same ((rr.append (.cons zv .nil)).lift kpt fun _ _ n => n))
              exact ⟨p, _, v, rfl, rfl, e, by rw [rr.length]; exact hz, q1 _ _ st.1 st.2⟩
          · have q1 : AfterS C F H0 lo own own E σ H1 (if xs.length < sizeLine then R.ok (Fl.nx (env.set i (some (.lst (xs ++ [d]))))) k1 else .no) Dn := q1
            rw [if_neg hz] at q1
            exact False.elim q1
    · exact False.elim q
theorem ds_put {pos' : Pos} (hi : i ∈ own) (h : okVar sc N i x = true) (hv : DE C lvl sc N own e m) (hk : DE C lvl sc N own ei mi) (hs : ∀ env : PySem.Env, swapsWith e (some (.Subscript (.Name x px) ei pos')) pos.line env = pure false) :
    DS C lvl sc N lo own own (.Assign [.Subscript (.Name x px) ei pos'] e pos) (sPut i mi m) := fun F H0 E X G =>
  PS.imp (ps_dput (hu_of G.room) (okVar.pe G h) (hk F H0 E X G) (hv F H0 E X G) (hs X.env)) fun Dn σ H ⟨env, k, r, q⟩ => by
    unfold sPut at q
    split at q
    · rename_i kvs hx
      obtain ⟨p, es, _⟩ := r.ownAt hi hx
      refine ⟨env, k, r, After.bindS r q fun d k1 v H1 _ r1 kp1 z1 q1 => ⟨.ref p, es, env, k1, r1, After.bindS r1 q1 fun y k2 w H2 _ r2 kp2 z2 q2 => ?_⟩⟩
      cases ek : keyD y with
      | none =>
        rw [ek] at q2
        exact False.elim q2
      | some key =>
        rw [ek] at q2
        have q2 : AfterS C F H0 lo own own E σ H2 (if kvs.length < sizeLine then R.ok (Fl.nx (env.set i (some (.dct (putD kvs key d))))) k2 else .no) Dn := q2
        by_cases hz : kvs.length < sizeLine
        · rw [if_pos hz] at q2
          obtain ⟨p', es', w1⟩ := r2.ownAt hi hx
          rw [es] at es'
          cases es'
          cases w1 with
          | @dct _ kv _ pS e e1 rr =>
            have zv : Rp C (OA F own σ) H2 v d := z1.lift (r1.kept kp2) fun _ _ n => n
            have pr := put_rel (key := key) zv e1 rr
            have kpt : Kept (OA F own σ) H2 (upd H2 p (.dK (putK kv key v))) := kept_at (.inr ⟨i, hi, es⟩) fun xs z => by
              rcases z with z | ⟨_, z⟩ <;> rw [e] at z <;> cases z
            have st := r2.putO hi es (.dct pS e e1 rr) (.dct pS upd_same pr.1 (pr.2.lift kpt fun _ _ n => n))
            refine ⟨p, _, rfl, ?_, q2 _ _ st.1 st.2⟩
            obtain rfl := keyD_kV (.inl z2) ek
            have el := congrArg List.length e1
            rw [List.length_map, List.length_map] at el
            exact DPut.k e (by omega)
        · rw [if_neg hz] at q2
          exact False.elim q2
    · exact False.elim q
end
end PL

set_option maxHeartbeats 4000000
/-! PL16: dicts: made, asked, their numbers' least and greatest. -/
namespace PL
open PySem PySem.Spec L2
open Classical

section
variable {C : Cn} {lvl : Nat} {sc : Bl} {N : List Str} {own : List Nat} {pos : Pos} {m mk mv md : Ev}
def eDnew : Ev := fun _ k => .ok (.dct []) k
theorem df_dnew : DF C lvl sc N own (.Dict [] [] pos) eDnew := fun F H0 E X G =>
  PE.imp pe_dnewK fun σ H Q ⟨env, k, r, q⟩ => fun p hp => by
    have ps : p ≠ C.aS := fun e => by rw [e, r.cell] at hp; cases hp
    exact q _ _ (r.same (same_new hp)) (.of_same (same_new hp)) ⟨p, rfl, hp, .dct ps upd_same rfl .nil⟩
/-- {a: b} -/
def eDisp1 (mk mv : Ev) : Ev := fun env k => (mk env k).bind fun y k1 => (mv env k1).bind fun d k2 => match keyD y with
  | some key => .ok (.dct [(key, d)]) k2
  | none => .no
/-- the same promise where a new thing stands already -/
theorem After.more {F : Addr → Prop} {H0 H Hm : Hp} {E : XK} {σ : St} {env : Env} {x : R D} {f : D → Int → R D} {Z Z' : Hp → V → D → Prop} {Q Q' : VK} {p : Addr} (fS : F C.aS) (kp : KeptS C H Hm)
    (h : After C F H0 own E σ H env (x.bind f) Z Q)
    (go : ∀ d k1 v H1, x = .ok d k1 → RelS C (fun a => F a ∨ a = p) H0 own σ H1 env k1 → KeptS C Hm H1 → Z' H1 v d → After C F H0 own E σ H env (f d k1) Z Q → Q' v H1) :
    After C (fun a => F a ∨ a = p) H0 own E σ Hm env x Z' Q' := by
  cases x with
  | ok d k1 => exact fun v H1 r1 kp1 z => go d k1 v H1 rfl r1 kp1 z h
  | ex c k1 => exact fun H1 r1 kp1 => h H1 (r1.lessF (fun a z => .inl z) fS) (kp.trans kp1)
  | no => exact h
theorem RelS.putFo {F : Addr → Prop} {H0 H : Hp} {σ : St} {env : Env} {k : Int} (r : RelS C F H0 own σ H env k) {p : Addr} {o : HO} (hp : F p) (h0 : H0 p = none) (hS : p ≠ C.aS) (nt : ∀ xs, ¬ Rd H p (.tup xs)) : RelS C F H0 own σ (upd H p o) env k := by
  have kp : Kept (OA F own σ) H (upd H p o) := kept_at (.inl hp) nt
  have off : ∀ a, a ≠ p → upd H p o a = H a := fun a n => upd_ne n
  have alv : ∀ a, H a ≠ none → upd H p o a ≠ none := fun a n => by
    by_cases q : a = p
    · rw [q, upd_same]
      exact fun z => nomatch z
    · rw [off a q]
      exact n
  have nN : C.aN ≠ p := fun e => r.fN (e ▸ hp)
  refine ⟨r.len, (off _ hS.symm).trans r.cell, by unfold Rd; rw [off _ nN]; exact r.nums, r.fS, r.fN, fun a z => alv a (r.ftr a z), fun a u q n => (off a fun z => by rw [z, h0] at q; cases q).trans (r.base a u q n), fun i d q => ?_, fun i hi => ?_, r.inj⟩
  · obtain ⟨v, e1, z⟩ := r.var i d q
    refine ⟨v, e1, z.imp (fun ⟨n, z⟩ => ⟨n, z.lift kp fun _ _ n => n⟩) fun ⟨n, z⟩ => ⟨n, z.step kp fun a u ev q => (off a ?_).trans q⟩⟩
    rintro rfl
    subst ev
    obtain ⟨b, eb, nf, _⟩ := r.mine i n
    rw [e1] at eb
    cases eb
    exact nf hp
  · obtain ⟨a, e1, nf, rest1, rest2, al⟩ := r.mine i hi
    exact ⟨a, e1, nf, rest1, rest2, alv a al⟩
theorem df_disp1 {ke ve : Expr} (hk : DE C lvl sc N own ke mk) (hv : DE C lvl sc N own ve mv) : DF C lvl sc N own (.Dict [some ke] [ve] pos) (eDisp1 mk mv) := fun F H0 E X G =>
  PE.imp (pe_disp (pps_cons (PE.ex fun F => PE.ex fun H0 => hk F H0 E X G) (PE.ex fun F => PE.ex fun H0 => hv F H0 E X G) pps_nil) rfl rfl (by simp) (by simp)) fun σ H Q ⟨env, k, r, q⟩ => fun p hp => by
    have ps : p ≠ C.aS := fun e => by rw [e, r.cell] at hp; cases hp
    have p0 : H0 p = none := by
      cases e : H0 p with
      | none => rfl
      | some o =>
        have := r.base p o e ps
        rw [hp] at this
        cases this
    have k0 : KeptS C H (upd H p (.dK [])) := .of_same (same_new hp)
    refine ⟨_, H0, env, k, r.addF hp p0, After.more r.fS k0 q fun y k1 v H1 _ r1 kp1 z1 q1 => ⟨_, H0, env, k1, r1, After.more r.fS (k0.trans kp1) q1 fun d k2 w H2 _ r2 kp2 z2 q2 => ?_⟩⟩
    have e2 : H2 p = some (.dK []) := kp2 _ _ (kp1 _ _ upd_same ps) ps
    cases ek : keyD y with
    | none =>
      rw [ek] at q2
      exact False.elim q2
    | some key =>
      rw [ek] at q2
      obtain rfl := keyD_kV (.inl z1) ek
      refine ⟨e2, [(key, w)], rfl, by simp, ?_⟩
      have e3 : mergeK [] [(key, w)] = [(key, w)] := rfl
      rw [e3]
      have rF : RelS C (fun a => F a ∨ a = p) H0 own σ (upd H2 p (.dK [(key, w)])) env k2 := r2.putFo (.inr rfl) p0 ps fun xs z => by
        rcases z with z | ⟨_, z⟩ <;> rw [e2] at z <;> cases z
      have kpt : Kept (OA (fun a => F a ∨ a = p) own σ) H2 (upd H2 p (.dK [(key, w)])) := kept_at (.inl (.inr rfl)) fun xs z => by
        rcases z with z | ⟨_, z⟩ <;> rw [e2] at z <;> cases z
      have kk : KeptS C H H2 := (k0.trans kp1).trans kp2
      refine q2 _ _ (rF.lessF (fun a z => .inl z) r.fS) (fun a o e n => ?_) ⟨p, rfl, hp, .dct ps upd_same rfl (.cons ((z2.lift kpt fun _ _ n => n).less fun b z => ?_) .nil)⟩
      · rw [upd_ne fun z => by rw [z, hp] at e; cases e]
        exact kk a o e n
      · rcases z with (z | z) | z
        · exact .inl (.inl z)
        · exact .inr z
        · exact .inl (.inr z)

/-- o.get(a, b) -/
def eGet2 (mo mk md : Ev) : Ev := fun env k => (mo env k).bind fun o k1 => match o with
  | .dct kvs => (mk env k1).bind fun y k2 => (md env k2).bind fun z k3 => match keyD y with
    | some key => .ok ((lookD kvs key).getD z) k3
    | none => .no
  | _ => .no
theorem de_get2 {mo : Ev} {o a b : Expr} {apos cpos : Pos} (ho : DB C lvl sc N own o mo) (ha : DE C lvl sc N own a mk) (hb : DE C lvl sc N own b md)
    (hbase : ∀ env : PySem.Env, attributeBase o "get" env (eval o env) = eval o env)
    (hfew : ∀ env : PySem.Env, ((backTo cpos (starEach [a, b] env)).all (fun x => !x.1) && (backToKw cpos (keywordEach [] env)).all (fun x => x.1.isSome) && decide (([a, b] : List Expr).length + ([] : List Keyword).length + (if ([] : List Keyword).isEmpty then 0 else 1) < 30)) = true)
    (hline : (apos.endLine == cpos.line) = true) (ht : ∀ env : PySem.Env, backTo cpos (starEach [a, b] env) = [(false, eval a env), (false, eval b env)]) :
    DE C lvl sc N own (.Call (.Attribute o "get" apos) [a, b] [] cpos) (eGet2 mo mk md) := fun F H0 E X G =>
  PE.imp (pe_dget2 (hu_of G.room) (ho F H0 E X G) (ha F H0 E X G) (hb F H0 E X G) ⟨hbase X.env, hfew X.env, hline, ht X.env⟩) fun σ H Q ⟨env, k, r, q⟩ => by
    refine ⟨env, k, r, q.bind r fun d k1 v H1 _ r1 kp1 z1 q1 => ?_⟩
    cases d with
    | dct ds =>
      obtain ⟨p, kvs, rfl, ea, e1, rr⟩ := z1.dctE
      refine ⟨p, rfl, .inl ⟨kvs, ea⟩, env, k1, r1, After.bind r1 q1 fun y k2 w H2 _ r2 kp2 z2 q2 => ⟨env, k2, r2, After.bind r2 q2 fun z k3 u H3 _ r3 kp3 z3 q3 => ?_⟩⟩
      cases ek : keyD y with
      | none =>
        rw [ek] at q3
        exact False.elim q3
      | some key =>
        rw [ek] at q3
        obtain rfl := keyD_kV (.inl z2) ek
        have zz := (z1.after r1 kp2).after r2 kp3
        obtain ⟨p', kvs', ep, ea', e1', rr'⟩ := zz.dctE
        cases ep
        refine ⟨_, .inl ⟨kvs', key, ea', rfl, rfl⟩, q3 _ H3 r3 KeptS.refl ?_⟩
        rcases look_rel key e1' rr' with ⟨h1, h2⟩ | ⟨v1, d1, h1, h2, rv⟩
        · rw [h1, h2]
          exact z3
        · rw [h1, h2]
          exact rv
    | _ => exact False.elim q1
end

/-! ### the least and the greatest of a dict's numbers -/
section
variable {X : Cx} {o : Expr} {p pos apos mpos : Pos} {td : TE}
/-- a way to find the best of what is walked -/
structure Bst (P : Program) (w : World) (nm : Str) (id : String) (best : List Int → Int) : Prop where
  boot : bootBuiltins nm = some (.builtin id)
  nn : nm ≠ "__name__"
  nd : (nm == ("__debug__" : Str)) = false
  run : ∀ (A : Around) (x : Value) (Q E : Value → Shared → Prop) (s : Shared) (val : Nat → Int) (n : Nat), wpAny (model P w) A.in1 (pyIter x) (fun it s₂ => ∃ I fp wr Pv St, it = .ref I ∧ Walks P w A.in1 I fp wr n Pv St ∧ St 0 s₂.heap ∧ (∀ b ∈ fp, b < s₂.heap.objs.size) ∧ 0 < n ∧ (∀ i v, Pv i v → ∃ t, v = .int (val i) t) ∧
      ∀ t h' tk, (∀ b o, b ∉ wr → s₂.heap.get? b = some o → h'.get? b = some o) → Q (.int (best ((List.range n).map val)) t) { s₂ with heap := h', toks := tk }) E s →
    wpAny (model P w) A (call (.builtin id) [x]) Q E s
theorem best_at {ns : List Int} {val : Nat → Int} {n j : Nat} (hj : j < n) : val j ∈ (List.range n).map val := List.mem_map.mpr ⟨j, List.mem_range.mpr hj, rfl⟩
theorem bst_min {P : Program} {w : World} : Bst P w "min" "min" minI := ⟨by decide +kernel, by decide +kernel, by decide +kernel, fun A x Q E s val n h =>
  call_min_walk (wpAny_mono h (fun it s2 ⟨I, fp, wr, Pv, St, e, W, s0, hb, hn, hv, q⟩ => ⟨I, fp, wr, n, Pv, St, _, e, W, s0, hb, hn, CmpOf.ints_lt val hv, fun v h' tk hp hk => by
    obtain ⟨t, rfl⟩ := hv _ _ hp
    obtain ⟨b1, b2⟩ := argBest_lt val (n - 1)
    have e : val (argBest (fun i j => decide (val i < val j)) (n - 1)) = minI ((List.range n).map val) := by
      refine Int.le_antisymm ?_ (minI_le (best_at (ns := []) (by omega)))
      have hm := minI_mem (ns := (List.range n).map val) (fun z => by
        have := congrArg List.length z
        rw [List.length_map, List.length_range] at this
        exact absurd this (Nat.ne_of_gt hn))
      obtain ⟨i, hi, ei⟩ := List.mem_map.mp hm
      rw [← ei]
      exact b2 i (by have := List.mem_range.mp hi; omega)
    rw [e]
    exact q t h' tk hk⟩) fun _ _ z => z)⟩
theorem bst_max {P : Program} {w : World} : Bst P w "max" "max" maxI := ⟨by decide +kernel, by decide +kernel, by decide +kernel, fun A x Q E s val n h =>
  call_max_walk (wpAny_mono h (fun it s2 ⟨I, fp, wr, Pv, St, e, W, s0, hb, hn, hv, q⟩ => ⟨I, fp, wr, n, Pv, St, _, e, W, s0, hb, hn, CmpOf.ints_gt val hv, fun v h' tk hp hk => by
    obtain ⟨t, rfl⟩ := hv _ _ hp
    obtain ⟨b1, b2⟩ := argBest_gt val (n - 1)
    have e : val (argBest (fun i j => decide (val i > val j)) (n - 1)) = maxI ((List.range n).map val) := by
      refine Int.le_antisymm (maxI_le (best_at (ns := []) (by omega))) ?_
      have hm := maxI_mem (ns := (List.range n).map val) (fun z => by
        have := congrArg List.length z
        rw [List.length_map, List.length_range] at this
        exact absurd this (Nat.ne_of_gt hn))
      obtain ⟨i, hi, ei⟩ := List.mem_map.mp hm
      rw [← ei]
      exact b2 i (by have := List.mem_range.mp hi; omega)
    rw [e]
    exact q t h' tk hk⟩) fun _ _ z => z)⟩
theorem kv_nth {κ : Type} {kvs : List (κ × V)} {vs : List (κ × Value)} (r : KV kvs vs) (i : Nat) (q : κ × Value) (e : vs[i]? = some q) : ∃ x, kvs[i]? = some (q.1, x) ∧ RelV x q.2 := by
  unfold KV at r
  induction r generalizing i with
  | nil => simp at e
  | cons h t ih =>
    cases i with
    | zero =>
      have e := Option.some.inj e
      subst e
      exact ⟨_, congrArg some (Prod.ext h.1 rfl), h.2⟩
    | succ i => exact ih i e
def tBest (best : List Int → Int) (td : TE) : TE := fun σ H Q => td σ H fun x H1 => ∃ a kvs ns, x = V.ref a ∧ Rd H1 a (.dK kvs) ∧ kvs.map (·.2) = ns.map V.int ∧ ns ≠ [] ∧ Q (.int (best ns)) H1
theorem pe_best {nm : Str} {id : String} {best : List Int → Int} (B : Bst X.prog X.w nm id best) (hc : X.calm = true) (hg : Gl X nm) (hm : X.mg nm = none) (hd : PE X o td) (hbase : attributeBase o "values" X.env (eval o X.env) = eval o X.env) (hline : (apos.endLine == mpos.line) = true)
    (hse : starEach [Expr.Call (.Attribute o "values" apos) [] [] mpos] X.env = [(false, eval (Expr.Call (.Attribute o "values" apos) [] [] mpos) X.env)]) :
    PE X (.Call (.Name nm p) [.Call (.Attribute o "values" apos) [] [] mpos] [] pos) (tBest best td) := by
  refine ⟨fun pins s σ H Q I h => wpAny_Call_Name_kw (ld_blt I hg hm B.boot ?_ B.nn B.nd)⟩
  rw [hse]
  refine PySem.callWith_builtin1 (wpAny_Call_method0_late hbase hline (thn (hd.run pins s σ H _ I h) fun v s1 ⟨x, H1, I1, r1, a, kvs, ns, ex, ha, hv, hne, q⟩ => ?_))
  subst ex
  cases r1
  obtain ⟨_, nsys, vs, rel, dof⟩ := dk_rd I1.hok ha
  obtain ⟨ep, at1⟩ := dof.dictAt
  have at2 := at1
  obtain ⟨ob, es, hob, hex, _, _, _, _⟩ := at2
  have ty : s1.TypeIs (.ref a) "dict" := ⟨ob, hob, hex.1⟩
  have la : a < s1.heap.objs.size := Heap.lt_size hob
  refine ⟨"dict", "dict.values", F.plainAttrs_dict, F.slot_dict_values, F.type_dict_values, ty, fun b e => ⟨ob, by cases e; exact hob, hex.2.1⟩, Calls.callWith_builtin rfl (PySem.evalArgs_none (call_meetsIn F.slot_dict_values ty F.entry_dict_values (F.args_dict_values_1 _) (meets_dict_values (mixKind X.prog X.w) a nsys) ⟨⟨vs, dof⟩, ?_⟩))⟩
  have len : vs.length = ns.length := by
    have := congrArg List.length hv
    rw [List.length_map, List.length_map] at this
    exact (KV.length rel).symm.trans this
  generalize hS : s1.heap.objs.size = S at la ⊢
  refine B.run _ _ _ _ _ (fun i => ns.getD i 0) vs.length (wpAny_pyIter_values (v := S) (d := a) ⟨_, by rw [← hS]; exact Heap.get?_push_size _ rfl, rfl, rfl⟩ (at1.keep fun b u e => Heap.get?_push_of_some _ e) ?_)
  have sz1 : (s1.heap.push { cls := .type "dict_values", data := .fields #[.ref a] }).objs.size = S + 1 := (Heap.size_push _ _).trans (by rw [hS])
  refine ⟨_, _, _, _, _, rfl, Walks.dictValues (knd := mixKind X.prog X.w) (A := X.A.in1) (I.ok.hd hc) _ a (by rw [sz1]; exact Nat.ne_of_lt (Nat.lt_succ_of_lt la)) vs ep, ⟨⟨_, Heap.get?_push_size _ rfl, rfl, rfl⟩, at1.keep fun b u e => Heap.get?_push_of_some _ (Heap.get?_push_of_some _ e)⟩, fun b hb => ?_, ?_, fun i v ⟨k, hk⟩ => ?_, fun t h' tk hk => ?_⟩
  · show b < (Heap.push _ _).objs.size
    rw [Heap.size_push, sz1]
    rcases List.mem_cons.mp hb with e | e
    · have e : b = (s1.heap.push { cls := .type "dict_values", data := .fields #[.ref a] }).objs.size := e
      rw [sz1] at e
      rw [e]
      exact Nat.lt_succ_self _
    · rw [List.mem_singleton.mp e]
      exact Nat.lt_succ_of_lt (Nat.lt_succ_of_lt la)
  · rw [len]
    exact List.length_pos_iff.mpr hne
  · obtain ⟨x, h1, h2⟩ := kv_nth rel i _ hk
    have e1 : (kvs.map (·.2))[i]? = some x := by rw [List.getElem?_map, h1]; rfl
    rw [hv, List.getElem?_map] at e1
    obtain ⟨j, hj, e2⟩ := Option.map_eq_some_iff.mp e1
    subst e2
    obtain ⟨t, rfl⟩ := h2
    exact ⟨t, by rw [List.getD_eq_getElem?_getD, hj]; rfl⟩
  · have e2 : (List.range vs.length).map (fun i => ns.getD i 0) = ns := by
      apply List.ext_getElem?
      intro i
      rw [List.getElem?_map, len]
      by_cases hi : i < ns.length
      · rw [List.getElem?_range hi, Option.map_some, List.getD_eq_getElem?_getD, List.getElem?_eq_getElem hi]
        rfl
      · rw [List.getElem?_eq_none (by rw [List.length_range]; omega), List.getElem?_eq_none (by omega)]
        rfl
    rw [e2]
    refine ⟨.int _, H1, I1.kept (t' := tk) fun b u e => hk b u (fun z => ?_) (Heap.get?_push_of_some _ (Heap.get?_push_of_some _ e)), ⟨t, rfl⟩, q⟩
    have e3 : b = (s1.heap.push { cls := .type "dict_values", data := .fields #[.ref a] }).objs.size := List.mem_singleton.mp z
    have e4 := Heap.lt_size e
    rw [sz1] at e3
    rw [e3, hS] at e4
    exact absurd e4 (Nat.not_lt.mpr (Nat.le_succ _))
end
section
variable {C : Cn} {lvl : Nat} {sc : Bl} {N : List Str} {own : List Nat} {m : Ev} {o : Expr} {p pos apos mpos : Pos}
def fBestV (best : List Int → Int) : D → Option D
  | .dct kvs => (toInts (kvs.map (·.2))).bind fun ns => if ns = [] then none else some (.int (best ns))
  | _ => none
theorem de_best {nm : Str} {id : String} {best : List Int → Int} (B : ∀ P w, Bst P w nm id best) (hg : okBlt sc nm = true) (hm : C.mg nm = none) (hd : DB C lvl sc N own o m) (hbase : ∀ env : PySem.Env, attributeBase o "values" env (eval o env) = eval o env) (hline : (apos.endLine == mpos.line) = true)
    (hse : ∀ env : PySem.Env, starEach [Expr.Call (.Attribute o "values" apos) [] [] mpos] env = [(false, eval (Expr.Call (.Attribute o "values" apos) [] [] mpos) env)]) :
    DE C lvl sc N own (.Call (.Name nm p) [.Call (.Attribute o "values" apos) [] [] mpos] [] pos) (e1 (fBestV best) m) := fun F H0 E X G =>
  PE.imp (pe_best (B _ _) G.calm (okBlt.gl G hg).1 (by rw [G.mg]; exact hm) (hd F H0 E X G) (hbase X.env) hline (hse X.env)) fun σ H Q ⟨env, k, r, q⟩ => by
    refine ⟨env, k, r, q.bind r fun d k1 v H1 _ r1 kp1 z1 q1 => ?_⟩
    obtain ⟨x, ex, q2⟩ := q1.some
    cases d with
    | dct ds =>
      have ex : ((toInts (ds.map (·.2))).bind fun ns => if ns = [] then none else some (D.int (best ns))) = some x := ex
      obtain ⟨ns, en, ei⟩ := Option.bind_eq_some_iff.mp ex
      by_cases h0 : ns = []
      · rw [if_pos h0] at ei
        cases ei
      · rw [if_neg h0] at ei
        cases ei
        obtain ⟨a, kvs, rfl, ea, _, rr⟩ := z1.dctE
        have e3 := toInts_eq en
        rw [e3] at rr
        exact ⟨a, kvs, ns, rfl, ea, rr.intsE, h0, q2 _ H1 r1 KeptS.refl (.int _)⟩
    | _ => cases ex
end
end PL

set_option maxHeartbeats 4000000
/-! PL17: dicts walked by their keys. -/
namespace PL
open PySem PySem.Spec L2
open Classical

/-- the dict at d locked or not, all else as it was -/
structure Lk (d : Addr) (kvs : List (Key × V)) (H H' : Hp) : Prop where
  off : ∀ a, a ≠ d → H' a = H a
  here : Rd H d (.dK kvs)
  there : Rd H' d (.dK kvs)
section
variable {C : Cn} {F : Addr → Prop} {H0 H0' H H' : Hp} {own : List Nat} {σ : St} {env : Env} {k : Int} {d : Addr} {kvs : List (Key × V)} {O : Addr → Prop}
theorem rd_uniq {u w : HO} (h : Rd H d u) (g : Rd H d w) (nu : ∀ o x, u ≠ .frz o x) (nw : ∀ o x, w ≠ .frz o x) : u = w := by
  rcases h with h | ⟨o, h⟩
  · rcases g with g | ⟨o', g⟩
    · rw [h] at g
      exact Option.some.inj g
    · rw [h] at g
      exact absurd (Option.some.inj g) (nu _ _)
  · rcases g with g | ⟨o', g⟩
    · rw [h] at g
      exact absurd (Option.some.inj g).symm (nw _ _)
    · rw [h] at g
      cases g
      rfl
theorem Lk.kr (l : Lk d kvs H H') (Z : Addr → Prop) : KeptR Z H H' := by
  have rd : ∀ a u, a ≠ d → Rd H a u → Rd H' a u := fun a u n h => by
    unfold Rd
    rw [l.off a n]
    exact h
  refine ⟨fun a ks q _ => ?_, fun a ks q _ => ?_, fun a xs q _ => ?_, fun a xs q => ?_⟩
  · by_cases e : a = d
    · subst e
      have := rd_uniq q l.here (fun _ _ => nofun) fun _ _ => nofun
      rw [this]
      exact l.there
    · exact rd a _ e q
  · by_cases e : a = d
    · subst e
      have := rd_uniq q l.here (fun _ _ => nofun) fun _ _ => nofun
      cases this
    · exact rd a _ e q
  · by_cases e : a = d
    · subst e
      have := rd_uniq (.inl q) l.here (fun _ _ => nofun) fun _ _ => nofun
      cases this
    · rw [l.off a e]
      exact q
  · by_cases e : a = d
    · subst e
      have := rd_uniq q l.here (fun _ _ => nofun) fun _ _ => nofun
      cases this
    · exact rd a _ e q
theorem Lk.neOf (l : Lk d kvs H H') {a : Addr} {u : HO} (h : Rd H a u) (nu : ∀ o x, u ≠ .frz o x) (nk : u ≠ .dK kvs) : a ≠ d := fun e => by
  subst e
  exact nk (rd_uniq h l.here nu fun _ _ => nofun)
theorem OwnV.lk {O : Addr → Prop} {v : V} {x : D} (l : Lk d kvs H H') (h : OwnV C O H v x) (n : v ≠ .ref d) : OwnV C O H' v x := by
  have al : ∀ a, H a ≠ none → ¬ O a → ¬ O a := fun _ _ n => n
  cases h with
  | lst nS e r => exact .lst nS ((l.off _ fun z => n (by rw [z])).trans e) (r.liftR (l.kr O) al)
  | dct nS e q r => exact .dct nS ((l.off _ fun z => n (by rw [z])).trans e) q (r.liftR (l.kr O) al)
  | dctT nS e q r => exact .dctT nS ((l.off _ fun z => n (by rw [z])).trans e) q (r.liftR (l.kr O) al)
theorem RelS.lk (r : RelS C F H0 own σ H env k) (l : Lk d kvs H H') (no : ¬ OA F own σ d) (b : ∀ a o, H0' a = some o → a ≠ C.aS → H' a = some o) (n0 : ∀ a, a ≠ d → H0 a = none → H0' a = none) : RelS C F H0' own σ H' env k := by
  have dS : C.aS ≠ d := l.neOf (.inl r.cell) (fun _ _ => nofun) nofun
  have dN : C.aN ≠ d := l.neOf r.nums (fun _ _ => nofun) nofun
  have al : ∀ a, H a ≠ none → H' a ≠ none := fun a n => by
    by_cases e : a = d
    · rw [e]
      exact PL.Rd.some l.there
    · rw [l.off a e]
      exact n
  refine ⟨r.len, by rw [l.off _ dS]; exact r.cell, by unfold Rd; rw [l.off _ dN]; exact r.nums, r.fS, r.fN, fun a z => al a (r.ftr a z), b, fun i x e => ?_, fun i hi => ?_, r.inj⟩
  · obtain ⟨v, e1, z⟩ := r.var i x e
    refine ⟨v, e1, z.imp (fun ⟨n, z⟩ => ⟨n, z.liftR (l.kr _) fun _ _ n => n⟩) fun ⟨n, z⟩ => ⟨n, z.lk l fun e => no (.inr ⟨i, n, by rw [e1, e]⟩)⟩⟩
  · obtain ⟨a, e1, nf, nN, h0, n⟩ := r.mine i hi
    exact ⟨a, e1, nf, nN, n0 a (fun e => no (.inr ⟨i, hi, by rw [e1, e]⟩)) h0, al a n⟩
/-- the base with the dict locked -/
noncomputable def lkB (H0 : Hp) (d : Addr) (o : HO) : Hp := fun a => if a = d ∧ H0 d ≠ none then some o else H0 a
theorem lk_lock (hd : H d = some (.dK kvs)) (od : Obj) : Lk d kvs H (upd H d (.frz od (.dK kvs))) := ⟨fun a n => upd_ne n, .inl hd, .inr ⟨od, upd_same⟩⟩
theorem lk_unlock {od : Obj} (hd : H d = some (.frz od (.dK kvs))) : Lk d kvs H (upd H d (.dK kvs)) := ⟨fun a n => upd_ne n, .inr ⟨od, hd⟩, .inl upd_same⟩
theorem RelS.lock (r : RelS C F H0 own σ H env k) (hd : H d = some (.dK kvs)) (no : ¬ OA F own σ d) (od : Obj) : RelS C F (lkB H0 d (.frz od (.dK kvs))) own σ (upd H d (.frz od (.dK kvs))) env k := by
  refine r.lk (lk_lock hd od) no (fun a o e n => ?_) fun a n h => ?_
  · unfold lkB at e
    by_cases q : a = d
    · rw [q, upd_same]
      by_cases q2 : H0 d = none
      · rw [if_neg fun z => z.2 q2, q, q2] at e
        cases e
      · rw [if_pos ⟨q, q2⟩] at e
        exact e
    · rw [if_neg fun z => q z.1] at e
      rw [upd_ne q]
      exact r.base a o e n
  · unfold lkB
    rw [if_neg fun z => n z.1]
    exact h
theorem RelS.unlock {H1 : Hp} {σ' : St} {env' : Env} {k' : Int} {od : Obj} (r0 : RelS C F H0 own σ H env k) (hd : H d = some (.dK kvs)) (r : RelS C F (lkB H0 d (.frz od (.dK kvs))) own σ' H1 env' k') (h1 : H1 d = some (.frz od (.dK kvs))) (no : ¬ OA F own σ' d) :
    RelS C F H0 own σ' (upd H1 d (.dK kvs)) env' k' := by
  refine r.lk (lk_unlock h1) no (fun a o e n => ?_) fun a n h => ?_
  · by_cases q : a = d
    · subst q
      rw [upd_same]
      have := r0.base a o e n
      rw [hd] at this
      exact this
    · rw [upd_ne q]
      refine r.base a o ?_ n
      unfold lkB
      rw [if_neg fun z => q z.1]
      exact e
  · unfold lkB at h
    rw [if_neg fun z => n z.1] at h
    exact h
theorem Stp.unlock {Z Z' : Addr → Prop} {H1 : Hp} {od : Obj} (hd : H d = some (.dK kvs)) (s : Stp Z (upd H d (.frz od (.dK kvs))) Z' H1) (h1 : H1 d = some (.frz od (.dK kvs))) : Stp Z H Z' (upd H1 d (.dK kvs)) := by
  have up : ∀ a, a ≠ d → upd H d (.frz od (.dK kvs)) a = H a := fun a n => upd_ne n
  have up1 : ∀ a, a ≠ d → upd H1 d (.dK kvs) a = H1 a := fun a n => upd_ne n
  have al : ∀ a, H a ≠ none → upd H d (.frz od (.dK kvs)) a ≠ none := fun a n => by
    by_cases e : a = d
    · rw [e, upd_same]
      exact nofun
    · rw [up a e]
      exact n
  refine ⟨⟨fun a u q n => ?_, fun a xs q n => ?_, fun a xs q => ?_, fun a o u q n => ?_⟩, fun a n => s.up a (al a n), fun a n => ?_⟩
  · by_cases e : a = d
    · subst e
      rcases q with q | ⟨o, q⟩
      · rw [hd] at q
        cases q
        exact .inl upd_same
      · rw [hd] at q
        cases q
    · have := s.kept.keep a u (by unfold Rd; rw [up a e]; exact q) n
      unfold Rd
      rw [up1 a e]
      exact this
  · have e : a ≠ d := fun z => by rw [z, hd] at q; cases q
    rw [up1 a e]
    exact s.kept.lst a xs (by rw [up a e]; exact q) n
  · have e : a ≠ d := fun z => by
      rw [z] at q
      rcases q with q | ⟨_, q⟩ <;> rw [hd] at q <;> cases q
    have := s.kept.tup a xs (by unfold Rd; rw [up a e]; exact q)
    unfold Rd
    rw [up1 a e]
    exact this
  · have e : a ≠ d := fun z => by rw [z, hd] at q; cases q
    rw [up1 a e]
    exact s.kept.frz a o u (by rw [up a e]; exact q) n
  · by_cases e : a = d
    · rw [e, upd_same]
      exact nofun
    · rw [up1 a e]
      exact s.al a (al a n)
def keyV : Key → D
  | .inl i => .int i
  | .inr x => .str x
theorem rp_key (key : Key) : Rp C O H (kV key) (keyV key) := by
  cases key with
  | inl i => exact .int i
  | inr x => exact .str x
theorem itok_keys {o : Obj} {ds : List (Key × D)} (h : H d = some (.frz o (.dK kvs))) (no : ¬ O d) (e : kvs.map (·.1) = ds.map (·.1)) : ItOk C O (Itk d o kvs) (ds.map fun q => keyV q.1) H := by
  intro O' H1 up kp i
  have e1 := kp.frz d o _ h no
  have el : kvs.length = ds.length := by
    have := congrArg List.length e
    rwa [List.length_map, List.length_map] at this
  refine ⟨fun x ex => ?_, fun hl => ⟨e1, by rw [List.length_map] at hl; omega⟩⟩
  rw [List.getElem?_map, Option.map_eq_some_iff] at ex
  obtain ⟨q, eq, rfl⟩ := ex
  have hlt : i < ds.length := (List.getElem?_eq_some_iff.mp eq).1
  refine ⟨⟨e1, by omega⟩, fun x H2 ⟨e2, key, v, e3, e4⟩ => ?_⟩
  subst e2 e4
  have e5 : (kvs.map (·.1))[i]? = some key := by rw [List.getElem?_map, e3]; rfl
  rw [e, List.getElem?_map, eq] at e5
  obtain rfl : q.1 = key := Option.some.inj e5
  exact ⟨Same.refl _, rp_key _⟩
end

def ksAt (env : Env) (i : Nat) : Option (List D) := match env[i]? with
  | some (some (.dct kvs)) => some (kvs.map fun q => keyV q.1)
  | _ => none
theorem ksAt_some {env : Env} {i : Nat} {ds : List D} (h : ksAt env i = some ds) : ∃ kvs, env[i]? = some (some (.dct kvs)) ∧ ds = kvs.map fun q => keyV q.1 := by
  unfold ksAt at h
  split at h
  · exact ⟨_, by assumption, (Option.some.inj h).symm⟩
  · cases h
/-- for .. in d; no return from within, no exception -/
def sForK (i : Nat) (p : Pt) (b : Stm) : Stm := fun env k => match ksAt env i with
  | some ds => match forL p b ds env k with
    | .ok (.nx env') k' => .ok (.nx env') k'
    | _ => .no
  | none => .no
theorem PS.or {X : Cx} {st : Stmt} {t u : TS} (h : PS X st t) (g : PS X st u) : PS X st fun D σ H => t D σ H ∨ u D σ H :=
  ⟨fun pins s σ H D I q => q.elim (h.run pins s σ H D I) (g.run pins s σ H D I)⟩
theorem PE.or {X : Cx} {e : Expr} {t u : TE} (h : PE X e t) (g : PE X e u) : PE X e fun σ H Q => t σ H Q ∨ u σ H Q :=
  ⟨fun pins s σ H Q I q => q.elim (h.run pins s σ H Q I) (g.run pins s σ H Q I)⟩
section
variable {C : Cn} {lvl : Nat} {sc : Bl} {N : List Str} {lo own : List Nat} {pos px : Pos} {tg elt : Expr} {body : List Stmt} {ifs : List Expr} {scope : Scope} {ownl : List (Str × Nat)} {p : Pt} {b : Stm} {t : Et} {m : Ev} {x : Str} {i : Nat}
theorem ds_forK {vs : List Nat} (h : okVar sc N i x = true) (ni : i ∉ own) (hg : DG C lvl sc N own vs tg p) (hvo : ∀ i ∈ own, i ∉ vs) (hb : DSs C lvl sc N own own own body b) (hs : ∀ (env : PySem.Env) z, foldedSetIterable (.Name x px) env z = pure z) :
    DS C lvl sc N lo own own (.For tg (.Name x px) body [] pos) (sForK i p b) := fun F H0 E X G => by
  have core := ps_for (pos := pos) G.pass G.calm (pi_keys (okVar.pe (pos := px) G h)) (hg E X G) (PSs.ex fun F => PSs.ex fun H0 => hb F H0 E X G) (hs X.env)
  refine PS.imp (PS.or core (ps_lock core)) fun Dn σ H ⟨env, k, r, q⟩ => ?_
  unfold sForK at q
  cases ek : ksAt env i with
  | none =>
    rw [ek] at q
    exact False.elim q
  | some ds =>
    rw [ek] at q
    have q : AfterS C F H0 lo own own E σ H (match forL p b ds env k with | .ok (.nx env') k' => .ok (.nx env') k' | _ => .no) Dn := q
    obtain ⟨kd, e1, rfl⟩ := ksAt_some ek
    obtain ⟨v, e2, z⟩ := r.var i _ e1
    rcases z with ⟨_, z⟩ | ⟨z, _⟩
    · cases z with
      | @dct d kvs _ rd no ee rr =>
        cases ef : forL p b (kd.map fun q => keyV q.1) env k with
        | ok f k' =>
          rw [ef] at q
          cases f with
          | nx env' =>
            have q : ∀ σ' H', RelS C F H0 own σ' H' env' k' → Stp (OA F own σ) H (OA F own σ') H' → Dn.nx σ' H' := q
            rcases rd with rd | ⟨o, rd⟩
            · refine .inr ⟨d, _, rd, trivial, fun od => ⟨.ref d, e2, d, od, rfl, .inl ⟨kvs, upd_same, ?_⟩⟩⟩
              refine for_core (lo := lo) (k1 := k) hvo (r.lock rd no od) (itok_keys upd_same no ee) ?_
              rw [ef]
              intro σ' H' r' s'
              have hd' : H' d = some (.frz od (.dK kvs)) := s'.kept.frz d od _ upd_same no
              have no' := s'.up d (by rw [upd_same]; exact nofun) no
              exact ⟨hd', q σ' _ (RelS.unlock r rd r' hd' no') (Stp.unlock rd s' hd')⟩
            · refine .inl ⟨.ref d, e2, d, o, rfl, .inl ⟨kvs, rd, for_core (lo := lo) (k1 := k) hvo r (itok_keys rd no ee) ?_⟩⟩
              rw [ef]
              exact q
          | rt _ => exact False.elim q
          | bk _ => exact False.elim q
          | ct _ => exact False.elim q
        | ex c k' =>
          rw [ef] at q
          exact False.elim q
        | no =>
          rw [ef] at q
          exact False.elim q
    · exact absurd z ni
/-- [.. for .. in d] -/
noncomputable def eLcK (i : Nat) (p : Pt) (t : Et) (m : Ev) (vs : List Nat) : Ev := fun env k => match ksAt env i with
  | some ds => okLst (lcL p t m vs env ds k)
  | none => .no
theorem df_lcK (h : okVar sc N i x = true) (ni : i ∉ own) (ok : blkC N sc.sc scope ownl = true) (hno : ∀ i ∈ own, i ∉ ownl.map (·.2)) (hg : DG C lvl (blkB sc scope) N own (ownl.map (·.2)) tg p) (ht : DTs C lvl (blkB sc scope) N own ifs t) (he : DE C lvl (blkB sc scope) N own elt m)
    (hs : ∀ (env : PySem.Env) z, foldedSetIterable (.Name x px) env z = pure z) : DF C lvl sc N own (.ListComp elt [⟨tg, .Name x px, ifs, 0⟩] scope pos) (eLcK i p t m (ownl.map (·.2))) := fun F H0 E X G => by
  have ok := blkOk_by ok
  have ok : BlkOk X.N X.env.scope scope ownl := by rw [G.hN, G.scope]; exact ok
  have core := pe_lc (pos := pos) G.calm G.nd (pi_keys (okVar.pe (pos := px) G h)) ok (fun s H Cc cl fp => hg _ _ (G.blk ok.kind s H Cc cl fp)) (fun s H Cc cl fp => PTs.ex fun F => PTs.ex fun H0 => ht F H0 _ _ (G.blk ok.kind s H Cc cl fp))
    (fun s H Cc cl fp => PE.ex fun F => PE.ex fun H0 => he F H0 _ _ (G.blk ok.kind s H Cc cl fp)) (hs X.env)
  refine PE.imp (PE.or core (pe_lock core)) fun σ H Q ⟨env, k, r, q⟩ => ?_
  unfold eLcK at q
  cases ek : ksAt env i with
  | none =>
    rw [ek] at q
    exact False.elim q
  | some ds =>
    rw [ek] at q
    have q : After C F H0 own E σ H env (okLst (lcL p t m (ownl.map (·.2)) env ds k)) (fun H' v d => FrV C (OA F own σ) H H' v d) Q := q
    obtain ⟨kd, e1, rfl⟩ := ksAt_some ek
    obtain ⟨v, e2, z⟩ := r.var i _ e1
    rcases z with ⟨_, z⟩ | ⟨z, _⟩
    · cases z with
      | @dct d kvs _ rd no ee rr =>
        cases ef : lcL p t m (ownl.map (·.2)) env (kd.map fun q => keyV q.1) k with
        | none =>
          rw [ef] at q
          exact False.elim q
        | some yk =>
          obtain ⟨ys, kk⟩ := yk
          rw [ef] at q
          unfold okLst at q
          obtain ⟨hsz, q2⟩ := q.ifok
          rcases rd with rd | ⟨o, rd⟩
          · have dS : d ≠ C.aS := fun e => by rw [e, r.cell] at rd; cases rd
            refine .inr ⟨d, _, rd, trivial, fun od => ⟨.ref d, e2, d, od, rfl, .inl ⟨kvs, upd_same, fun B hB => ?_⟩⟩⟩
            have r' := r.lock rd no od
            obtain ⟨B0, BS, l0, zz, fin⟩ := lc_start r' hB (itok_keys upd_same no ee)
            refine lc_in hno (.inr rfl) B0 BS l0 zz ef hsz fun H' l => fin (Q := fun v H' => H' d = some (.frz od (.dK kvs)) ∧ Q v (upd H' d (.dK kvs))) l KeptS.refl fun w H2 r2 kp2 fr => ?_
            have hd2 : H2 d = some (.frz od (.dK kvs)) := kp2 d _ upd_same dS
            refine ⟨hd2, q2 w _ (RelS.unlock r rd r2 hd2 no) (fun a o e n => ?_) ?_⟩
            · by_cases ea : a = d
              · subst ea
                rw [rd] at e
                cases e
                exact upd_same
              · rw [upd_ne ea]
                exact kp2 a o (by rw [upd_ne ea]; exact e) n
            · obtain ⟨a, rfl, ha, w⟩ := fr
              have ad : a ≠ d := fun e => by rw [e, upd_same] at ha; cases ha
              exact ⟨a, rfl, by rw [upd_ne ad] at ha; exact ha, w.lk (lk_unlock hd2) fun e => ad (by cases e; rfl)⟩
          · refine .inl ⟨.ref d, e2, d, o, rfl, .inl ⟨kvs, rd, fun B hB => ?_⟩⟩
            obtain ⟨B0, BS, l0, zz, fin⟩ := lc_start r hB (itok_keys rd no ee)
            exact lc_in hno (.inr rfl) B0 BS l0 zz ef hsz fun H' l => fin l KeptS.refl q2
    · exact absurd z ni
end
end PL

set_option maxHeartbeats 4000000
/-! PL18: lists made by calls: list, sorted. -/
namespace PL
open PySem PySem.Spec L2
open Classical
open PySem.W (alike alikeAll AllAlike Sortable dataLe dataLt SortsAt dataKind sortVals)

/-- a call that makes a thing of its own -/
def CallJF (C : Cn) (lvl : Nat) (g : Value) (f : List D → Option D) : Prop := ∀ (sc : Bl) (N : List Str) (E : XK) (X : Cx), Good C lvl sc N E X →
  CallR X g fun xs H Q => ∃ O ds r, ((∀ a, O a → H a ≠ none) ∧ O C.aS) ∧ RbL C O H xs ds ∧ f ds = some r ∧ ∀ v H', Same H H' → FrV C O H H' v r → Q v H'
section
variable {C : Cn} {lvl : Nat} {sc : Bl} {N : List Str} {own : List Nat} {pos : Pos} {a : Expr} {ms : Els}
theorem df_callB {x : Str} {p : Pos} {id : String} {f : List D → Option D} {es : List Expr} (hc : CallJF C lvl (.builtin id) f) (hg : okBlt sc x = true) (hm : C.mg x = none) (hv : bootBuiltins x = some (.builtin id)) (ha : DAB C lvl sc N own (a :: es) ms)
    (hs : ∀ env : PySem.Env, starEach (a :: es) env = (false, eval a env) :: starEach es env) (hpl : ∀ (env : PySem.Env) (p : Pos), (backTo p (starEach es env)).any (·.1) = false) :
    DF C lvl sc N own (.Call (.Name x p) (a :: es) [] pos) (eCallB f ms) := fun F H0 E X G =>
  PE.imp (pe_callB (hc sc N E X G) (okBlt.gl G hg).1 (by rw [G.mg]; exact hm) hv (ha F H0 E X G) (okBlt.gl G hg).2.1 (okBlt.gl G hg).2.2 (hs X.env) (hpl X.env _)) fun σ H Q ⟨env, k, r, q⟩ => by
    refine ⟨env, k, r, AfterL.bindE r q fun ds k1 vs H1 _ r1 kp1 z1 q1 => ?_⟩
    obtain ⟨x, ex, q2⟩ := q1.some
    exact ⟨_, ds, x, ⟨r1.tracked, r1.oaS⟩, z1, ex, fun v H' s z => q2 v H' (r1.same s) (.of_same s) (z.back kp1 r1.cell)⟩
theorem df_callTy {x : Str} {p : Pos} {T : String} {f : List D → Option D} {es : List Expr} (hc : CallJF C lvl (.type T) f) (hg : okBlt sc x = true) (hm : C.mg x = none) (hv : bootBuiltins x = some (.type T)) (ha : DAB C lvl sc N own (a :: es) ms)
    (hs : ∀ env : PySem.Env, starEach (a :: es) env = (false, eval a env) :: starEach es env) (hpl : ∀ (env : PySem.Env) (p : Pos), (backTo p (starEach es env)).any (·.1) = false) :
    DF C lvl sc N own (.Call (.Name x p) (a :: es) [] pos) (eCallB f ms) := fun F H0 E X G =>
  PE.imp (pe_callTy (hc sc N E X G) (okBlt.gl G hg).1 (by rw [G.mg]; exact hm) hv (ha F H0 E X G) (okBlt.gl G hg).2.1 (okBlt.gl G hg).2.2 (hs X.env) (hpl X.env _)) fun σ H Q ⟨env, k, r, q⟩ => by
    refine ⟨env, k, r, AfterL.bindE r q fun ds k1 vs H1 _ r1 kp1 z1 q1 => ?_⟩
    obtain ⟨x, ex, q2⟩ := q1.some
    exact ⟨_, ds, x, ⟨r1.tracked, r1.oaS⟩, z1, ex, fun v H' s z => q2 v H' (r1.same s) (.of_same s) (z.back kp1 r1.cell)⟩

/-! ### list -/
def fList : List D → Option D
  | [.lst xs] => some (.lst xs)
  | [.tup xs] => some (.lst xs)
  | [.dct kvs] => some (.lst (kvs.map fun q => keyV q.1))
  | _ => none
theorem neS {O : Addr → Prop} {H : Hp} (tr : ∀ a, O a → H a ≠ none) (hS : O C.aS) {p : Addr} (hp : H p = none) : p ≠ C.aS := fun e => tr _ hS (e ▸ hp)
theorem rpl_keys {O : Addr → Prop} {H : Hp} : ∀ {kvs : List (Key × V)} {ds : List (Key × D)}, kvs.map (·.1) = ds.map (·.1) → RpL C O H (kvs.map fun q => kV q.1) (ds.map fun q => keyV q.1)
  | [], [], _ => .nil
  | [], _ :: _, e => by simp at e
  | _ :: _, [], e => by simp at e
  | (x, v) :: kvs, (y, d) :: ds, e => by
    rw [List.map_cons, List.map_cons] at e
    obtain ⟨e1, e2⟩ := List.cons.inj e
    have e1 : x = y := e1
    subst e1
    exact .cons (rp_key x) (rpl_keys e2)
theorem cj_list : CallJF C lvl (.type "list") fList := by
  intro sc N E X G pins s σ H xs us Q I r h
  obtain ⟨O, ds, d, ⟨tr, tS⟩, hx, hf, q⟩ := h
  unfold fList at hf
  split at hf
  · cases hf
    obtain ⟨v, rfl, hv⟩ := hx.one
    obtain ⟨p, vs, rfl, hp, rr⟩ := hv.lstE
    exact call_list_of pins s σ H _ us Q I r ⟨p, vs, rfl, .inl (.inl (.inl hp)), fun l hl => q _ _ (same_new hl) (frv_lst hl (neS tr tS hl) rr)⟩
  · cases hf
    obtain ⟨v, rfl, hv⟩ := hx.one
    obtain ⟨p, vs, rfl, hp, rr⟩ := hv.tupE
    exact call_list_of pins s σ H _ us Q I r ⟨p, vs, rfl, .inr (G.K ▸ hp), fun l hl => q _ _ (same_new hl) (frv_lst hl (neS tr tS hl) rr)⟩
  · cases hf
    obtain ⟨v, rfl, hv⟩ := hx.one
    obtain ⟨p, kvs, rfl, hp, e1, _⟩ := hv.dctE
    exact call_listD G.calm pins s σ H _ us Q I r ⟨p, kvs, rfl, hp, fun l hl => q _ _ (same_new hl) (frv_lst hl (neS tr tS hl) (rpl_keys e1))⟩
  · cases hf

/-! ### sorted -/
theorem SortsAt.few {P : Program} {w : World} {A : Around} {s : Shared} {vs : List Value} {ds : List PyData} (e : PySem.W.EachIs (fun v d => ∃ as, PySem.Reads s.heap v d as) vs ds) (hal : AllAlike ds) (hn : ∀ d ∈ ds, d ≠ .none) (hl : ds.length ≤ 1) (hu : ∀ d, d ∈ ds → A.units + d.depth < cLine) :
    SortsAt P w A s (dataKind s.heap ds) vs := by
  refine ⟨fun v hv => ?_, PyProof.Rows.general', fun E x y a b Q ha hb hq => ?_, fun h2 => ?_⟩
  · obtain ⟨d, hd, as, r⟩ := e.left v hv
    exact ⟨_, PySem.W.dataKind_some hal hd r⟩
  · obtain ⟨d, as, hd, ra, rfl⟩ := PySem.W.dataKind_inv ha
    obtain ⟨d', as', hd', rb, rfl⟩ := PySem.W.dataKind_inv hb
    show wpAny _ _ (PyProof.Rows.oneLt' false x y) _ _ _
    exact PySem.W.oneLt_alike (fun h => nomatch h) ra rb (hal d hd d' hd') (hn d hd) (Nat.lt_of_le_of_lt (Nat.add_le_add_left (Nat.min_le_left _ _) _) (hu d hd)) hq
  · have := e.length
    omega
def SortOk (xs : List D) : Prop := (∀ x ∈ xs, Pu 40 x) ∧ xs.length ≤ sizeLine ∧ AllAlike (xs.map D.py) ∧ (Sortable (xs.map D.py) ∨ (xs.length ≤ 1 ∧ ∀ x ∈ xs, x.py ≠ .none))
noncomputable def sortD (xs : List D) : List D := xs.mergeSort (dataLe false D.py)
noncomputable def fSorted : List D → Option D
  | [.lst xs] => if SortOk xs then some (.lst (sortD xs)) else none
  | _ => none
theorem each_of {O : Addr → Prop} {H : Hp} {X : Cx} : ∀ {vs : List V} {us : List Value} {ds : List D}, Vals vs us → RpL C O H vs ds → PySem.W.EachIs (fun u d => ∃ v, RelV v u ∧ Rp C O H v d) us ds
  | _, _, _, .nil, .nil => .nil
  | _, _, _, .cons r rs, .cons h hs => .cons ⟨_, r, h⟩ (each_of (X := X) rs hs)
theorem each_to {O : Addr → Prop} {H : Hp} : ∀ {us : List Value} {ds : List D}, PySem.W.EachIs (fun u d => ∃ v, RelV v u ∧ Rp C O H v d) us ds → ∃ vs, Vals vs us ∧ RpL C O H vs ds
  | _, _, .nil => ⟨[], .nil, .nil⟩
  | _, _, .cons ⟨v, r, h⟩ t => by
    obtain ⟨vs, a, b⟩ := each_to t
    exact ⟨v :: vs, .cons r a, .cons h b⟩
theorem cj_sorted : CallJF C lvl (.builtin "sorted") fSorted := by
  intro sc N E X G pins s σ H xs us Q I r h
  obtain ⟨O, ds, d, ⟨tr, tS⟩, hx, hf, q⟩ := h
  unfold fSorted at hf
  split at hf
  · rename_i ys
    obtain ⟨⟨pu, hL, hal, hk⟩, rfl⟩ := of_if hf
    obtain ⟨v, rfl, hv⟩ := hx.one
    obtain ⟨p, vs, rfl, hp, rr⟩ := hv.lstE
    obtain ⟨its, rv, pl, _⟩ := I.list (SqL.of hp)
    obtain ⟨u, rfl, ru⟩ := vals1 r
    cases ru
    have hll : ys.length = its.length := by rw [← rr.length, rv.length]
    have e0 := each_of (X := X) rv rr
    have er : PySem.W.EachIs (fun u d => ∃ as, PySem.Reads s.heap u d.py as) its ys := (PySem.W.each_mem e0).mono fun u d ⟨⟨v, r1, h1⟩, hm⟩ => Dp.reads I d.py v u (G.K ▸ h1.dp (pu d hm)) r1
    have er' : PySem.W.EachIs (fun v b => ∃ as, PySem.Reads (PySem.W.sortingHeap (PySem.W.copyHeap s.heap its) (s.heap.objs.size + 1) its) v (D.py b) as) its ys := er.mono fun _ _ ⟨as, r⟩ => ⟨as, PyProof.Rows.Reads.keeps (fun _ _ => PySem.W.sorting_copy_old) r⟩
    have hu : ∀ d, d ∈ ys.map D.py → X.A.in1.in1.units + d.depth < cLine := fun d hd => by
      obtain ⟨b, hb, rfl⟩ := List.mem_map.mp hd
      have h1 := (pu b hb).plain.2
      have h2 := G.room.un
      show X.A.units + 1 + 1 + _ < _
      omega
    refine PySem.W.sorted_vals (κ := dataKind (PySem.W.sortingHeap (PySem.W.copyHeap s.heap its) (s.heap.objs.size + 1) its) (ys.map D.py)) pl.isList ?_ (by rw [← hll]; exact hL) ?_
    · have ee := PySem.W.each_map (R := fun v d => ∃ as, PySem.Reads (PySem.W.sortingHeap (PySem.W.copyHeap s.heap its) (s.heap.objs.size + 1) its) v d as) D.py er'
      rcases hk with hk | ⟨h1, hn⟩
      · exact SortsAt.data (s := { s with heap := PySem.W.sortingHeap (PySem.W.copyHeap s.heap its) (s.heap.objs.size + 1) its }) ee hal hk hu
      · refine SortsAt.few (s := { s with heap := PySem.W.sortingHeap (PySem.W.copyHeap s.heap its) (s.heap.objs.size + 1) its }) ee hal (fun d hd => ?_) (by rw [List.length_map]; exact h1) hu
        obtain ⟨b, hb, rfl⟩ := List.mem_map.mp hd
        exact hn b hb
    · obtain ⟨ws, rw1, rw2⟩ := each_to (PySem.W.sortVals_data false e0 er' hal)
      generalize hout : sortVals (dataKind (PySem.W.sortingHeap (PySem.W.copyHeap s.heap its) (s.heap.objs.size + 1) its) (ys.map D.py)) false its its = out at rw1
      obtain ⟨ep, he'⟩ := PyProof.Rows.sortedAll_at s.heap its out.toArray
      have hn : H (s.heap.objs.size + 1) = none := I.hok.fresh (Nat.le_succ _)
      have hlen : ws.length ≤ sizeLine := by
        rw [rw2.length, List.length_mergeSort]
        exact hL
      exact ⟨.ref _, upd H (s.heap.objs.size + 1) (.lst ws), I.laid (t' := s.toks) (fun _ _ => PyProof.Rows.sortedAll_old) (Nat.le_succ _) ⟨hlen, out, ep, rw1, he'⟩, rfl, q _ _ (same_new hn) (frv_lst hn (neS tr tS hn) rw2)⟩
  · cases hf
end
end PL

set_option maxHeartbeats 4000000
/-! PL19: repr, raise, a def's body. -/
namespace PL
open PySem PySem.Spec L2
open PyProof.Rows (envOfC)
open Classical

section
variable {C : Cn} {lvl : Nat} {sc : Bl} {N : List Str} {lo own own' : List Nat} {pos p p2 p3 : Pos}
theorem Pu.noDict : ∀ {n : Nat} {d : D}, Pu n d → d.py.hasDict = false
  | _, .non, _ => by simp [D.py, PyData.hasDict]
  | _, .bl _, _ => by simp [D.py, PyData.hasDict]
  | _, .int _, _ => by simp [D.py, PyData.hasDict]
  | _, .str _, _ => by simp [D.py, PyData.hasDict]
  | 0, .tup _, h => by simp [Pu] at h
  | 0, .lst _, h => by simp [Pu] at h
  | n + 1, .tup xs, h => by
    rw [Pu] at h
    have : PyData.hasDictAll (D.pyL xs) = false := by
      induction xs with
      | nil => simp [D.pyL, PyData.hasDictAll]
      | cons x xs ih =>
        rw [D.pyL, PyData.hasDictAll, Pu.noDict (h x List.mem_cons_self), ih fun y hy => h y (List.mem_cons_of_mem _ hy)]
        rfl
    rw [D.py, PyData.hasDict]
    exact this
  | n + 1, .lst xs, h => by
    rw [Pu] at h
    have : PyData.hasDictAll (D.pyL xs) = false := by
      induction xs with
      | nil => simp [D.pyL, PyData.hasDictAll]
      | cons x xs ih =>
        rw [D.pyL, PyData.hasDictAll, Pu.noDict (h x List.mem_cons_self), ih fun y hy => h y (List.mem_cons_of_mem _ hy)]
        rfl
    rw [D.py, PyData.hasDict]
    exact this
  | 0, .dct _, h => by simp [Pu] at h
  | n + 1, .dct _, h => by simp [Pu] at h
  | 0, .dctT _, h => by simp [Pu] at h
  | n + 1, .dctT _, h => by simp [Pu] at h
  | 0, .fn _, h => by simp [Pu] at h
  | n + 1, .fn _, h => by simp [Pu] at h
  | 0, .cell, h => by simp [Pu] at h
  | n + 1, .cell, h => by simp [Pu] at h
def ReprOk (d : D) : Prop := Pu 40 d ∧ d.py.showable = true ∧ d.py.shown.length ≤ sizeLine
noncomputable def fRepr : List D → Option D
  | [.lst xs] => if ReprOk (.lst xs) then some (.str (D.lst xs).py.shown) else none
  | [.tup xs] => if ReprOk (.tup xs) then some (.str (D.tup xs).py.shown) else none
  | _ => none
theorem repr_at {O : Addr → Prop} {X : Cx} {E : XK} (G : Good C lvl sc N E X) {pins : List (Addr × Obj)} {s : Shared} {σ : St} {H : Hp} {a : Addr} {d : D} {Q : VK} (I : L2.Inv X pins σ H s) (h : Rb C O H (.ref a) d) (ok : ReprOk d) (q : ∀ v H', Same H H' → Rp C O H' v (.str d.py.shown) → Q v H') :
    wpAny (model X.prog X.w) X.A (call (.builtin "repr") [.ref a]) (EP X pins σ Q) X.xe s := by
  obtain ⟨as, rd⟩ := Dp.reads I d.py (.ref a) (.ref a) (G.K ▸ h.dp ok.1) rfl
  have hd := ok.1.plain.2
  have un := G.room.un
  exact repr_of_reads' rd ok.2.1 (PyData.noDict_hsm (Pu.noDict ok.1)) G.guards (by omega) (fun _ _ e => e) (fun h' u tk hk => ⟨.str d.py.shown, H, I.kept hk, ⟨u, rfl⟩, q _ H (Same.refl H) (.str _)⟩) ok.2.2
theorem cj_repr : CallJ C lvl (.builtin "repr") fRepr := by
  intro sc N E X G pins s σ H xs us Q I r h
  obtain ⟨O, ds, d, ⟨tr, tS⟩, hx, hf, q⟩ := h
  unfold fRepr at hf
  split at hf
  · obtain ⟨ok, rfl⟩ := of_if hf
    obtain ⟨v, rfl, hv⟩ := hx.one
    obtain ⟨b, _, rfl, _, _⟩ := hv.lstE
    obtain ⟨u, rfl, ru⟩ := vals1 r
    cases ru
    exact repr_at G I hv ok q
  · obtain ⟨ok, rfl⟩ := of_if hf
    obtain ⟨v, rfl, hv⟩ := hx.one
    obtain ⟨b, _, rfl, _, _⟩ := hv.tupE
    obtain ⟨u, rfl, ru⟩ := vals1 r
    cases ru
    exact repr_at G I hv ok q
  · cases hf

/-! ### raise -/
/-- a class of exceptions of the module's own -/
def XcR (C : Cn) (x : Str) : Prop := ∃ (Ca : Addr) (B newId initId : String) (bmB : List Value), ExcBaseFacts B newId initId bmB ∧ PySem.W.excIn C.K Ca bmB newId = true ∧ C.mg x = some (.ref Ca) ∧ PySem.W.keepIn C.K (.ref Ca) = true ∧
  PySem.W.subIn C.K (.ref Ca) (.type "BaseException") = some true ∧ PySem.W.typeIn C.K (.ref Ca) = some (.type "type")
theorem ds_raise {x m : Str} {j : Nat} (h : XcR C x) (hg : okDef sc x = true) : DS C lvl sc N lo own own' (.Raise (some (.Call (.Name x p) [.Constant (.str m) j p2] [] p3)) none pos) (sRaise x) := fun F H0 E X G => by
  obtain ⟨Ca, B, n, i, bm, F1, q, gC, kC, h1, h2⟩ := h
  have gl := okDef.gl G hg
  refine PS.imp (L2N.ps_raise G.calm G.takes (L2N.pmk_own F1 (by rw [G.K]; exact q) (by rw [G.mg]; exact gC) (by rw [G.K]; exact kC) (raises_own (by rw [G.K]; exact h1) (by rw [G.K]; exact h2)) gl.1 gl.2)) fun Dn σ H ⟨env, k, r, z⟩ => ?_
  have z : ∀ H', Hold C F H0 H' k → E ((C.mg x).getD .none) none H' := z
  have := z H r.hold
  rw [gC] at this
  exact this
end

/-! ### a def's body -/
def envS (n : Nat) (ds : List D) : Env := ds.map some ++ List.replicate (n - ds.length) none
/-- what a def with the body m and n slots computes -/
def fnOf (n : Nat) (m : Stm) (ds : List D) (k : Int) : R D := (m (envS n ds) k).bind fun f k1 => match f with
  | .nx _ => .ok .non k1
  | .rt d => .ok d k1
  | _ => .no
theorem start_at {N : List Str} {vs : List V} {i : Nat} (h : i < vs.length) : (L2.start N vs)[i]? = some (vs[i]?) := by
  unfold L2.start
  rw [List.getElem?_append_left (by rw [List.length_map]; exact h), List.getElem?_map, List.getElem?_eq_getElem h]
  rfl
theorem env_at {n : Nat} {ds : List D} {i : Nat} {d : D} (h : (envS n ds)[i]? = some (some d)) : ds[i]? = some d := by
  unfold envS at h
  by_cases hi : i < ds.length
  · rw [List.getElem?_append_left (by rw [List.length_map]; exact hi), List.getElem?_map, List.getElem?_eq_getElem hi] at h
    rw [List.getElem?_eq_getElem hi]
    exact Option.some.inj h
  · rw [List.getElem?_append_right (by rw [List.length_map]; omega), List.getElem?_replicate] at h
    split at h <;> cases h
theorem rels_start {C : Cn} {O : Addr → Prop} {N : List Str} {H : Hp} {vs : List V} {ds : List D} {k : Int} (oS : O C.aS) (oN : ¬ O C.aN) (tr : ∀ a, O a → H a ≠ none) (cell : H C.aS = some (.lst [.ref C.aN, .int k])) (nums : Rd H C.aN (.lst (C.ns.map V.int))) (r : RpL C O H vs ds) :
    RelS C O H [] (L2.start N vs) H (envS N.length ds) k := by
  refine ⟨?_, cell, nums, oS, oN, tr, fun a o e _ => e, fun i d e => ?_, fun i hi => absurd hi (by simp), fun i hi => absurd hi (by simp)⟩
  · unfold envS L2.start
    rw [List.length_append, List.length_append, List.length_map, List.length_map, List.length_replicate, List.length_replicate, r.length]
  · have e1 := env_at e
    obtain ⟨v, e2, rv⟩ := r.get e1
    have hl : i < vs.length := (List.getElem?_eq_some_iff.mp e2).1
    refine ⟨v, by rw [start_at hl, e2], .inl ⟨by simp, rv.less fun a z => ?_⟩⟩
    rcases z with z | ⟨j, hj, _⟩
    · exact z
    · exact absurd hj (by simp)
section
variable {C : Cn} {k : Nat} {f : Addr} {nm ql : Str} {par : Arguments} {bd : List Stmt} {sc : Scope} {dV kV doc pm cdv ct oc : Value} {an od : Option Addr} {osl : Array (Option Value)} {N ps : List Str} {x : Str} {m : Stm}
theorem good_cx (S : FnScope N ps sc) {A : Around} {outer : List PySem.Env} {s : Shared} {H : Hp} {E : XK} (hg : A.guards = some []) (hr : Room k (A.deeper (envOfC ql sc s.heap.objs.size f cdv))) (hk : sc.kind = .function) :
    Good C k ⟨sc, sc, true⟩ N E (cxOf (L2N.CX C.P C.w) C.P C.w C.K C.mg C.base N ql sc f cdv A outer s H E) where
  prog := rfl
  w := rfl
  K := rfl
  mg := rfl
  base := rfl
  calm := rfl
  scope := rfl
  kind := by
    show (envOfC ql sc s.heap.objs.size f cdv).blockKind = _
    unfold Env.blockKind
    have e : (envOfC ql sc s.heap.objs.size f cdv).scope.kind = .function := hk
    rw [e]
    rfl
  fn := fun y h => rfl
  hN := rfl
  nd := S.nd
  room := hr
  guards := hg
  takes := L2N.takes_of rfl rfl rfl rfl
  top := fun _ => ⟨rfl, rfl⟩
  pass := passes_of rfl
theorem fnr_of {args : Arguments} (lk : C.K.lookup f = some ⟨oc, od, .func (PySem.W.fnOf nm ql par bd sc dV kV doc pm an cdv ct), osl⟩) (hc : PySem.W.codeIn C.K cdv ql = true) (S : FnScope N ps sc) (hm : C.mg x = some (.ref f)) (hk : PySem.W.keepIn C.K (.ref f) = true)
    (hb : Binds C.K (PySem.W.fnOf nm ql par bd sc dV kV doc pm an cdv ct) ps []) (h : DSs C k ⟨sc, sc, true⟩ N [] [] [] bd m) : FnR C (k + 1) x ps.length (fnOf N.length m) := by
  refine ⟨f, _, ps, hm, hk, hb, fng_of lk hc S ?_ ?_⟩
  · rintro vs H Q E ⟨O, ds, k', _, _, _, _, _, r, e, _⟩
    rw [r.length, e]
  · rintro A outer s H vs Q E hg hr ⟨O, ds, k', oS, oN, tr, cell, nums, r, e, q⟩
    refine ⟨_, h O H E _ (good_cx S hg hr S.kind), envS N.length ds, k', rels_start oS oN tr cell nums r, ?_⟩
    unfold fnOf at q
    cases em : m (envS N.length ds) k' with
    | ok fl k1 =>
      rw [em] at q
      have base : ∀ {own : List Nat} {σ : St} {env : Env} {H' : Hp} {k2 : Int}, RelS C O H own σ H' env k2 → KeptS C H H' := fun r a o e n => r.base a o e n
      cases fl with
      | nx env' => exact fun σ' H' r' _ => q .non H' (base r') r'.cell .non
      | rt d => exact fun v H' ⟨_, _, _, r'⟩ z => q v H' (base r') r'.cell z
      | bk _ => exact False.elim q
      | ct _ => exact False.elim q
    | ex c k1 =>
      rw [em] at q
      exact fun H' ⟨_, _, _, r'⟩ => q H' (fun a o e n => r'.base a o e n) r'.cell
    | no =>
      rw [em] at q
      exact q
end
end PL

set_option maxHeartbeats 4000000
/-! PL20: a comprehension where an exception is handled. -/
namespace PL
open PySem PySem.Spec L2 L2H HotX
open Classical
section
variable {X : Cx} {pins pl : List (Addr × Obj)} {σ : L2.St} {H : Hp} {s : Shared}
theorem okPn (ok : X.Ok) (l : List (Addr × Obj)) : ({ X with pn := l } : Cx).Ok :=
  { mod := ok.mod, kind := ok.kind, glob := ok.glob, blt := ok.blt, above := ok.above, inj := ok.inj, has := ok.has, cab := ok.cab, hd := ok.hd, frames := ok.frames, stk := ok.stk, exf := ok.exf, bs := ok.bs, bsz := ok.bsz, noex := ok.noex, exfs := ok.exfs, funs := ok.funs, frf := ok.frf }
theorem unPn {l : List (Addr × Obj)} (ok : ({ X with pn := l } : Cx).Ok) : X.Ok :=
  { mod := ok.mod, kind := ok.kind, glob := ok.glob, blt := ok.blt, above := ok.above, inj := ok.inj, has := ok.has, cab := ok.cab, hd := ok.hd, frames := ok.frames, stk := ok.stk, exf := ok.exf, bs := ok.bs, bsz := ok.bsz, noex := ok.noex, exfs := ok.exfs, funs := ok.funs, frf := ok.frf }
theorem invPn (I : L2.Inv X pins σ H s) {l : List (Addr × Obj)} (h : ∀ p ∈ l ++ pl, s.heap.get? p.1 = some p.2 ∧ H p.1 = none ∧ p.1 ≠ X.env.locals ∧ p.1 ∉ X.fs ∧ ∀ v, p.2.data ≠ .cell v) : L2.Inv { X with pn := l } pl σ H s :=
  { ok := okPn I.ok l, os := I.os, bare := I.bare, base := I.base, loc := I.loc, cell := I.cell, free := I.free, freeC := I.freeC, pin := h, hok := I.hok, len := I.len }
theorem unInvPn {l : List (Addr × Obj)} (I : L2.Inv { X with pn := l } pl σ H s) (h : ∀ p ∈ X.pn ++ pins, p ∈ l ++ pl) : L2.Inv X pins σ H s :=
  { ok := unPn I.ok, os := I.os, bare := I.bare, base := I.base, loc := I.loc, cell := I.cell, free := I.free, freeC := I.freeC, pin := fun p hp => I.pin p (h p hp), hok := I.hok, len := I.len }
end

/-- a block's context where an exception is handled: its object is as it was -/
theorem blk_hot {X : Cx} {s s' : Shared} {H H' : Hp} {scope : Scope} {cenv : PySem.Env} {fp : List Addr} {pins : List (Addr × Obj)} {σ σ' : L2.St} {p : Addr × Obj} (I0 : L2.Inv X pins σ H s) (hp : p ∈ X.pn) (hot : Hot1 X.A p) (nf : p.1 ∉ fp)
    (I : L2.Inv (X.blk s H scope cenv fp) [] σ' H' s') (hl : cenv.locals = s.heap.objs.size) : L2.Inv { X.blk s H scope cenv fp with pn := [p] } [] σ' H' s' := by
  obtain ⟨g, n, nl, nfs, nc⟩ := I0.pin p (List.mem_append_left _ hp)
  have lt := Heap.lt_size g
  have nst : p.1 ∉ frs X.stack := fun hm => (List.mem_cons.mp (I0.stkSub p.1 hm)).elim nl nfs
  refine invPn I fun q hq => ?_
  obtain rfl : q = p := by simpa using hq
  exact ⟨I.base.keep _ _ g n nst nf, I.base.free _ _ g n nf, by show q.1 ≠ cenv.locals; rw [hl]; exact Nat.ne_of_lt lt, nst, nc⟩

section
variable {X : Cx}
theorem lcH_core {pins : List (Addr × Obj)} {s : Shared} {σ : L2.St} {H : Hp} {Q : VK} {elt tg iter : Expr} {ifs : List Expr} {scope : Scope} {own : List (Str × Nat)} {pos pos' : Pos} {wi : TI} {g : TG} {tt : TT} {te : TE} {use : Option (Value → Sem Unit)} {Qf : Value → Shared → Prop}
    (hot : HotC X) (hN : X.N.Nodup) (I : L2.Inv X pins σ H s) (hi : PIH X tg iter wi) (ok : BlkOk X.N X.env.scope scope own)
    (hg : ∀ s H C cl fp, PG (X.blk s H scope (compEnvC scope cl C X.env) fp) tg g) (ht : ∀ s H C cl fp, PTs (X.blk s H scope (compEnvC scope cl C X.env) fp) ifs tt)
    (he : ∀ s H C cl fp, PE (X.blk s H scope (compEnvC scope cl C X.env) fp) elt te) (hs : ∀ x, foldedSetIterable iter X.env x = pure x) (h : tLc wi g tt te (own.map (·.2)) σ H Q)
    (hRR : ∀ D C s' m H', L2.Inv X pins σ H' s' → Q (.ref D) H' → s'.heap.Ns C m → FpOk X pins H' C → compPost (model X.prog X.w) X.A X.xe use Qf (.ref D) C (.ok .next) s') :
    wpAny (model X.prog X.w) X.A (comprehension (.ListComp elt [⟨tg, iter, ifs, 0⟩] scope pos) scope X.env pos' (newList []) false (eval iter X.env) use) Qf X.xe s := by
  obtain ⟨p, hot1, hpn⟩ := hot
  have fr : ∀ y ∈ scope.names, y.2 = .free → ∃ c, X.env.cells.lookup y.1 = some c := fun y hy e => I.ok.has _ ((ok.free y hy e).imp id id)
  refine wpAny_comprehension_free (use := use) rfl hs (closure_ok fr) ok.kind (fun y hy e => by rw [ok.uniq y hy, e]) (thn (hi.run pins s σ H _ I h) fun xv s1 hx => thn hx fun itv s2 h2 => ?_)
  obtain ⟨it, fp, tn, J, H2, rfl, I2, T, st2, f2, q⟩ := h2
  refine wpAny_newObj_type (newEnv_comp ?_) (by show 0 ≤ sizeLine; decide)
  generalize hD : s2.heap.objs.size = D
  have hDn : H2 D = none := I2.hok.fresh (Nat.le_of_eq hD)
  obtain ⟨W, ⟨m0, w0⟩, turn⟩ := q D hDn
  generalize hs3 : ({ s2 with heap := s2.heap.push { cls := .type "list", data := .seq ([] : List Value).toArray } } : Shared) = s3
  have h3 : s3.heap = s2.heap.push { cls := .type "list", data := .seq ([] : List Value).toArray } := by rw [← hs3]
  have I3 : L2.Inv X pins σ (upd H2 D (.lst [])) s3 := by
    subst hs3
    exact I2.laid (t' := s2.toks) (fun b o e => Heap.get?_push_of_some _ e) (Nat.le_of_eq hD) ⟨Nat.zero_le _, [], 0, .nil, by rw [← hD]; exact Heap.get?_push_size _ rfl⟩
  have sz : ∀ b ∈ fp, b < s2.heap.objs.size := fun b hb => let ⟨o, e, _⟩ := T.obj _ _ st2 b hb; Heap.lt_size e
  have f3 : ∀ b ∈ fp, FpOk X pins (upd H2 D (.lst [])) b ∧ b < s3.heap.objs.size := fun b hb => by
    refine ⟨⟨?_, (f2 b hb).2⟩, by rw [h3, Heap.size_push]; exact Nat.lt_succ_of_lt (sz b hb)⟩
    rw [upd_ne (by rw [← hD]; exact Nat.ne_of_lt (sz b hb))]
    exact (f2 b hb).1
  have st3 : tn 0 s3.heap := T.keep _ _ _ st2 fun b _ o e => by rw [h3]; exact Heap.get?_push_of_some _ e
  have I4 := block_start I3 ok hN f3
  have pg := hg s3 (upd H2 D (.lst [])) s3.heap.objs.size (cellsFrom (s3.heap.objs.size + 1) scope.names (cloFrom X.env.cells scope.names [])) fp
  have pt := ht s3 (upd H2 D (.lst [])) s3.heap.objs.size (cellsFrom (s3.heap.objs.size + 1) scope.names (cloFrom X.env.cells scope.names [])) fp
  have pe := he s3 (upd H2 D (.lst [])) s3.heap.objs.size (cellsFrom (s3.heap.objs.size + 1) scope.names (cloFrom X.env.cells scope.names [])) fp
  show codeAny _ _ (.compStart _ 0 (.ref it) (.ref D) (compEnvC scope (cellsFrom (s3.heap.objs.size + 1) scope.names (cloFrom X.env.cells scope.names [])) s3.heap.objs.size X.env)) (compPost (model X.prog X.w) X.A X.xe use Qf (.ref D) s3.heap.objs.size) { s3 with heap := pushCells (s3.heap.push { cls := .type "dict", data := .dict #[] }) scope.names }
  generalize hce : compEnvC scope (cellsFrom (s3.heap.objs.size + 1) scope.names (cloFrom X.env.cells scope.names [])) s3.heap.objs.size X.env = ce at I4 pg pt pe ⊢
  have cL : ce.locals = s3.heap.objs.size := by rw [← hce]; rfl
  have n3 : ∀ b ∈ fp, (upd H2 D (.lst [])) b = none := fun b hb => (f3 b hb).1.1
  have pnf : p.1 ∉ fp := fun hm => (f3 _ hm).1.2.2.2.2.2 p (List.mem_append_left _ hpn) rfl
  generalize hH3 : upd H2 D (.lst []) = H3 at I3 I4 pg pt pe w0 n3 f3
  generalize hs4 : ({ s3 with heap := pushCells (s3.heap.push { cls := .type "dict", data := .dict #[] }) scope.names } : Shared) = s4 at I4 ⊢
  have st4 : tn 0 s4.heap := T.keep _ _ _ st3 fun b _ o e => by rw [← hs4]; exact pushCells_keeps _ _ _ _ (Heap.get?_push_of_some _ e)
  generalize hY : X.blk s3 H3 scope ce fp = Y at I4 pg pt pe
  have toH : ∀ {σ' : L2.St} {H' : Hp} {s' : Shared}, L2.Inv Y [] σ' H' s' → L2.Inv { Y with pn := [p] } [] σ' H' s' := fun {σ' H' s'} I' => by
    subst hY
    exact blk_hot I3 hpn hot1 pnf I' cL
  have ofH : ∀ {σ' : L2.St} {H' : Hp} {s' : Shared} {pl : List (Addr × Obj)}, L2.Inv { Y with pn := [p] } pl σ' H' s' → L2.Inv Y pl σ' H' s' := fun {σ' H' s' pl} I' => unInvPn I' fun q hq => List.mem_append_right _ (by subst hY; exact hq)
  have hotY : HotC { Y with pn := [p] } := ⟨p, by subst hY; exact hot1, by simp⟩
  have stat : ∀ {σ' : L2.St} {H' : Hp} {s' : Shared}, L2.Inv Y [] σ' H' s' → (∀ b ∈ fp, H' b = none) → ∀ b ∈ fp, FpOk Y [] H' b := fun {σ' H' s'} I' hn b hb => by
    subst hY
    exact ⟨hn b hb, (I'.ok.exf b hb).1, I'.ok.exfs b hb, .inl hb, fun x c e => (I'.ok.exf b hb).2 x c e, fun q hq => absurd (show q ∈ ([] : List (Addr × Obj)) ++ [] from hq) (by simp)⟩
  have statH : ∀ {σ' : L2.St} {H' : Hp} {s' : Shared}, L2.Inv Y [] σ' H' s' → (∀ b ∈ fp, H' b = none) → ∀ b ∈ fp, FpOk { Y with pn := [p] } [] H' b := fun {σ' H' s'} I' hn b hb => by
    obtain ⟨a1, a2, a3, a4, a5, _⟩ := stat I' hn b hb
    refine ⟨a1, a2, a3, a4, a5, fun q hq z => ?_⟩
    obtain rfl : q = p := by simpa using hq
    exact pnf (z ▸ hb)
  have eP : Y.prog = X.prog := by subst hY; rfl
  have ew : Y.w = X.w := by subst hY; rfl
  have eK : Y.K = X.K := by subst hY; rfl
  have eA : Y.A = X.A := by subst hY; rfl
  have ee : Y.env = ce := by subst hY; rfl
  have eN : Y.N = X.N := by subst hY; rfl
  have loop : codeAny (model X.prog X.w) X.A (.compLoop (.ListComp elt [⟨tg, iter, ifs, 0⟩] scope pos) 0 (.ref it) (.ref D) ce) (compPost (model X.prog X.w) X.A X.xe use Qf (.ref D) s3.heap.objs.size) s4 := by
    refine compLoop_any (fun n s' => ∃ i H', L2.Inv Y [] (wipe σ (own.map (·.2))) H' s' ∧ tn i s'.heap ∧ (∀ b ∈ fp, H' b = none) ∧ W i n H') ?_ m0 ⟨0, H3, I4, st4, n3, w0⟩
    rintro n s5 ⟨i, H5, I5, st5, n5, w5⟩
    rcases turn i n H5 w5 with ⟨stop, qq⟩ | ⟨go, Nx, hNx, step⟩
    · subst hY
      have td := T.done { X.blk s3 H3 scope ce fp with pn := [p] } eP ew eK hotY i [] s5 _ H5 (fun _ _ => False) (toH I5) (statH I5 n5) st5 stop
      refine thnF td fun r s6 ⟨hr, I6⟩ => ?_
      subst hr
      have I6 := ofH I6
      have nC : H5 s3.heap.objs.size = none := by
        have z : H5 ce.locals = none := I6.free
        rw [cL] at z
        exact z
      obtain ⟨m, hn, _⟩ := I6.loc
      have hn : s6.heap.Ns ce.locals m := hn
      rw [cL] at hn
      exact hRR D _ s6 m H5 (I3.call' (ch := fp) I6.os I6.base I6.hok I6.bare fun b hb => let f := (f3 b hb).1; ⟨f.2.2.2.1, f.2.1, f.2.2.2.2.1, f.2.2.2.2.2⟩) qq hn (I3.fpOk (Nat.le_refl _) nC)
    · subst hY
      have ti := T.item { X.blk s3 H3 scope ce fp with pn := [p] } eP ew eK hotY i [] s5 _ H5 (fun _ _ => False) (toH I5) (statH I5 n5) st5 go
      refine thnF ti fun r s6 ⟨u, hr, h6⟩ => ?_
      subst hr
      refine thnF h6 fun _ s7 ⟨x, H7, I7, r7, y7, st7, n7⟩ => ?_
      have I7 := ofH I7
      have I7' := I7.pinned (stat I7 n7) (T.obj _ _ st7)
      refine thnF (pg.run _ s7 _ H7 x u _ I7' r7 (step x H7 y7)) fun _ s8 ⟨σ8, H8, I8, hw8, q8⟩ => thnF (pt.run _ s8 σ8 H8 _ I8 q8) fun b s9 ⟨H9, I9, q9⟩ => ?_
      have fin : ∀ {s' : Shared} {H' : Hp}, L2.Inv (X.blk s3 H3 scope ce fp) ([] ++ pinsAt fp s7.heap) σ8 H' s' → Nx H' → ∃ m, m < n ∧ ∃ i H', L2.Inv (X.blk s3 H3 scope ce fp) [] (wipe σ (own.map (·.2))) H' s' ∧ tn i s'.heap ∧ (∀ b ∈ fp, H' b = none) ∧ W i m H' := fun {s' H'} I' nx => by
        obtain ⟨m', hm, w'⟩ := hNx H' nx
        have at' : ∀ b ∈ fp, ∀ o, s7.heap.get? b = some o → s'.heap.get? b = some o ∧ H' b = none := fun b hb o e => let z := I'.pin (b, o) (List.mem_append_right _ (List.mem_append_right _ (mem_pinsAt hb e))); ⟨z.1, z.2.1⟩
        refine ⟨m', hm, i + 1, H', (I'.unpinned (pins := [])).weak (by rw [← hw8, wipe_length]) (fun j v e => ?_), T.keep _ _ _ st7 fun b hb o e => (at' b hb o e).1, fun b hb => ?_, w'⟩
        · rw [← hw8] at e
          exact (wipe_some e).1
        · obtain ⟨o, e, _⟩ := T.obj _ _ st7 b hb
          exact (at' b hb o e).2
      cases b with
      | false =>
        simp only [Bool.false_eq_true, if_false] at q9 ⊢
        exact fin I9 q9
      | true =>
        simp only [if_true] at q9 ⊢
        refine thnF (pe.run _ s9 σ8 H9 _ I9 q9) fun z s10 ⟨yv, H10, I10, r10, acc, hD10, hz10, nx⟩ => app_ok (X := X.blk s3 H3 scope ce fp) I10 hD10 hz10 r10 fun s11 I11 => fin I11 nx
  exact codeAny_compStart_list loop (T.self X.A 0 _ _ _ st4 loop)
theorem ps_setLcH {i : Nat} {y : Str} {py : Pos} {elt tg iter : Expr} {ifs : List Expr} {scope : Scope} {own : List (Str × Nat)} {pos spos : Pos} {wi : TI} {g : TG} {tt : TT} {te : TE} (hot : HotC X) (hN : X.N.Nodup) (hy : X.N[i]? = some y) (hyl : X.env.scope.names.lookup y = some .local)
    (hsw : swapsWith (.ListComp elt [⟨tg, iter, ifs, 0⟩] scope pos) (some (.Name y py)) spos.line X.env = pure true) (hi : PIH X tg iter wi) (ok : BlkOk X.N X.env.scope scope own)
    (hg : ∀ s H C cl fp, PG (X.blk s H scope (compEnvC scope cl C X.env) fp) tg g) (ht : ∀ s H C cl fp, PTs (X.blk s H scope (compEnvC scope cl C X.env) fp) ifs tt)
    (he : ∀ s H C cl fp, PE (X.blk s H scope (compEnvC scope cl C X.env) fp) elt te) (hs : ∀ x, foldedSetIterable iter X.env x = pure x) :
    PS X (.Assign [.Name y py] (.ListComp elt [⟨tg, iter, ifs, 0⟩] scope pos) spos) (tAsg (tLc wi g tt te (own.map (·.2))) (gName i)) := by
  refine ⟨fun pins s σ H D I h => ?_⟩
  rw [exec_Assign_Name_used _ _ _ _ hsw]
  refine wpAny_bind (wpAny_standAt (wpAny_bind ?_))
  show wpAny _ X.A (do let _ ← comprehension (.ListComp elt [⟨tg, iter, ifs, 0⟩] scope pos) scope X.env (firstIterPos [⟨tg, iter, ifs, 0⟩] pos) (newList []) false (eval iter X.env) (some (assign (.Name y py) X.env))) _ _ s
  refine wpAny_bind (thn (lcH_core (Q := fun x H1 => gName i x σ H1 D.nx) (Qf := fun _ s' => SP X pins D .next s') hot hN I hi ok hg ht he hs h fun L C s' m H' I' q hn f => ?_) fun _ s' hq => wpAny_pure (wpAny_pure hq))
  show wpAny _ _ (assign (.Name y py) X.env (.ref L)) _ _ _
  refine wpAny_assign_Name (store_ok2 (v := V.ref L) I' hN hy (.inl hyl) rfl (fun s2 I2 ⟨a, sb, ha⟩ => ?_) (.inr hyl))
  obtain ⟨f0, f1, f2, f3, f4, f5⟩ := f
  have haC : C ≠ a := ha.elim (fun z => by rw [z]; exact f1) fun z e => f4 y a z e.symm
  exact ⟨m, hn.sameBut sb haC, fun h3 sb3 => ⟨_, H', I2.turned (t' := s2.toks) (fun b o hb e => (sb3.2 b hb).trans e) f0 f1 f3 f4 f5, q⟩⟩
end
end PL

set_option maxHeartbeats 4000000
/-! PL21: the law's own def that names an exception. -/
namespace PL
open PySem PySem.Spec L2 L2H HotX
open Classical
/-- isinstance of the exception that is handled -/
theorem cr_isE {X : Cx} {p : Addr × Obj} {D : Addr} (C : ExcC X.K D) (hz : Zc (.ref D) none p.2) (hf : ∃ vs, p.2.data = .fields vs) (hp : p ∈ X.pn) : CallR X (.builtin "isinstance") (rIsE X.K D p.1) := by
  intro pins s σ H xs us Q I r h
  obtain ⟨c, cv, b, rfl, hcv, e, q⟩ := h
  cases r with
  | cons rx rr =>
    cases rr with
    | cons rt rr =>
      cases rr
      cases rx
      obtain rfl := hcv _ rt
      have g := (I.pin p (List.mem_append_left _ hp)).1
      obtain ⟨vs, hv⟩ := hf
      have J : PySem.W.InstAt s.heap p.1 p.2 D none := by
        obtain ⟨a, oc, od, oda, osl⟩ := p
        obtain ⟨h1, h2⟩ := hz
        dsimp only at h1 h2 hv
        subst h1 h2 hv
        exact ⟨g, rfl, rfl, trivial⟩
      exact PySem.W.kia_one (PySem.W.handS_kitx_exc C.hg C.hk C.hs C.hd C.ha C.hn C.ht C.hm) I.kIn J e (fun z => nomatch z) fun tk => ⟨.bl b, H, I.kept (t' := tk) fun _ _ z => z, rfl, q⟩

def isCall (c : Str) (q : Nat → Pos) : Expr := .Call (.Name "isinstance" (q 0)) [.Name "e" (q 1), .Name c (q 2)] [] (q 3)
def strE (x : Str) (q : Pos) : Expr := .Constant (.str x) 0 q
/-- the text of that def, but for its places -/
def errScL : Scope := { kind := .function, names := [(PySem.Str.ofString ".0", .local), (PySem.Str.ofString "k", .local), (PySem.Str.ofString "kinds", .free)], isGenerator := false, isCoroutine := false, more := [] }
def errComp (q : Nat → Pos) : Expr := .ListComp (.Subscript (.List [strE "refused" (q 0), strE "large" (q 1), strE "missing" (q 2), strE "paper" (q 3)] (q 4)) (.Name "k" (q 5)) (q 6))
  [⟨.Name "k" (q 7), .Call (.Name "range" (q 8)) [.Constant (.int 4) 0 (q 9)] [] (q 10), [.Subscript (.Name "kinds" (q 11)) (.Name "k" (q 12)) (q 13)], 0⟩] errScL (q 14)
def errRet (q : Nat → Pos) : Expr := .Subscript (.List [strE "odd" (q 0), .Subscript (.BinOp (.Name "names" (q 1)) .Add (.List [strE "" (q 2)] (q 3)) (q 4)) (.Constant (.int 0) 0 (q 5)) (q 6)] (q 7))
  (.Call (.Name "int" (q 8)) [.Compare (.Call (.Name "len" (q 9)) [.Name "names" (q 10)] [] (q 11)) [.Eq] [.Constant (.int 1) 0 (q 12)] (q 13)] [] (q 14)) (q 15)
def errBd (q1 q2 q3 q4 q5 q6 : Nat → Pos) (q : Nat → Pos) : List Stmt :=
  [.Assign [.Name "kinds" (q 0)] (.List [isCall "NotAllowed" q1, isCall "TooLarge" q2, isCall "Missing" q3, isCall "BadPaper" q4] (q 1)) (q 2), .Assign [.Name "names" (q 3)] (errComp q5) (q 4), .Return (some (errRet q6)) (q 5)]
def errNames : List (Str × NameKind) := [(PySem.Str.ofString "e", .local), (PySem.Str.ofString "kinds", .cell), (PySem.Str.ofString "names", .local), (PySem.Str.ofString "isinstance", .globalImplicit), (PySem.Str.ofString "NotAllowed", .globalImplicit), (PySem.Str.ofString "TooLarge", .globalImplicit),
  (PySem.Str.ofString "Missing", .globalImplicit), (PySem.Str.ofString "BadPaper", .globalImplicit), (PySem.Str.ofString "range", .globalImplicit), (PySem.Str.ofString "int", .globalImplicit), (PySem.Str.ofString "len", .globalImplicit)]
def errN : List Str := ["e", "kinds", "names", "k"]
def errStrs : List Str := ["refused", "large", "missing", "paper"]
/-- what it is called -/
def errGot (bs : List Bool) : List Str := ((List.range 4).filter fun i => bs.getD i false).map fun i => errStrs.getD i ""
def errAns (bs : List Bool) : Str := if (errGot bs).length = 1 then (errGot bs).headD "" else "odd"

structure ErrX (X : Cx) (p : Addr × Obj) (D : Addr) (bs : List Bool) : Prop where
  hot : HotC X
  hp : p ∈ X.pn
  cls : ExcC X.K D
  zc : Zc (.ref D) none p.2
  fl : ∃ vs, p.2.data = .fields vs
  nm : X.env.scope.names = errNames
  kd : X.env.scope.kind = .function
  hN : X.N = errN
  fn : ∀ x, X.fn x = true
  blt : ∀ x ∈ ([PySem.Str.ofString "isinstance", PySem.Str.ofString "range", PySem.Str.ofString "int", PySem.Str.ofString "len"] : List Str), X.mg x = none
  ask : ∀ (i : Nat) (x : Str), (["NotAllowed", "TooLarge", "Missing", "BadPaper"] : List Str)[i]? = some x → ∃ (A : Addr) (b : Bool), bs[i]? = some b ∧ X.mg x = some (.ref A) ∧ PySem.W.kitOne X.K (.ref D) (.ref A) = some b
section
variable {X : Cx} {p : Addr × Obj} {D : Addr} {bs : List Bool} {q : Nat → Pos}
theorem ErrX.gl (S : ErrX X p D bs) {x : Str} (h : errNames.lookup x = some .globalImplicit) : Gl X x := by
  show X.env.scope.names.lookup x = _
  rw [S.nm]
  exact h
theorem ErrX.vis (S : ErrX X p D bs) {x : Str} (h : errNames.lookup x = some .local ∨ errNames.lookup x = some .cell) : Vis X.env.scope x := by
  unfold Vis
  rw [S.nm]
  exact h.imp id .inl
def tIs (i : Nat) (a : Addr) (b : Bool) : TE := fun σ H Q => σ[i]? = some (some (.ref a)) ∧ Q (.bl b) H
theorem pe_is (S : ErrX X p D bs) {x : Str} {i : Nat} {b : Bool} (hx : (["NotAllowed", "TooLarge", "Missing", "BadPaper"] : List Str)[i]? = some x) (hb : bs[i]? = some b) (hl : errNames.lookup x = some .globalImplicit) (hd : (x == ("__debug__" : Str)) = false) : PE X (isCall x q) (tIs 0 p.1 b) := by
  obtain ⟨A, b', hb', hm, hk⟩ := S.ask i x hx
  rw [hb] at hb'
  cases hb'
  have h1 : PE X (.Name "e" (q 1)) (tVar 0) := pe_var (by rw [S.hN]; rfl) (S.vis (.inl (by decide +kernel)))
  have h2 : PE X (.Name x (q 2)) (tC (.ref A)) := pe_glob (S.gl hl) hm rfl hd
  refine PE.imp (pe_callB (cr_isE S.cls S.zc S.fl S.hp) (S.gl (by decide +kernel)) (S.blt _ (by decide +kernel)) (by decide +kernel) (pa_cons h1 (pa_cons h2 pa_nil))) fun σ H Q ⟨e, z⟩ => ⟨_, e, .ref A, .ref A, b, rfl, fun u h => h, hk, z⟩

/-- the first statement -/
theorem ps_err1 (S : ErrX X p D bs) {b0 b1 b2 b3 : Bool} (hb : bs = [b0, b1, b2, b3]) {q1 q2 q3 q4 : Nat → Pos} {a b c : Pos} : PS X (.Assign [.Name "kinds" a] (.List [isCall "NotAllowed" q1, isCall "TooLarge" q2, isCall "Missing" q3, isCall "BadPaper" q4] b) c)
    (fun D σ H => σ[0]? = some (some (.ref p.1)) ∧ ∀ L, H L = none → D.nx (σ.set 1 (some (.ref L))) (upd H L (.lst (bs.map V.bl)))) := by
  subst hb
  have e : PA X [isCall "NotAllowed" q1, isCall "TooLarge" q2, isCall "Missing" q3, isCall "BadPaper" q4] _ := pa_cons (pe_is S (i := 0) rfl rfl (by decide +kernel) (by decide +kernel)) (pa_cons (pe_is S (i := 1) rfl rfl (by decide +kernel) (by decide +kernel)) (pa_cons (pe_is S (i := 2) rfl rfl (by decide +kernel) (by decide +kernel)) (pa_cons (pe_is S (i := 3) rfl rfl (by decide +kernel) (by decide +kernel)) pa_nil)))
  refine PS.imp (ps_set (i := 1) (by rw [S.hN]; decide +kernel) (by rw [S.hN]; rfl) (.inr (by rw [S.nm]; decide +kernel)) (pe_lst e) rfl (.inl (S.fn _))) fun Dn σ H ⟨e0, h⟩ => ⟨e0, e0, e0, e0, ?_, fun L hL => h L hL⟩
  rw [sizeLine_eq]
  show 4 ≤ _
  omega
theorem upd_old {H : Hp} {a b : Addr} {o u : HO} (h : H b = none) (e : H a = some u) : upd H b o a = some u := by rw [upd_ne fun z => by rw [z, h] at e; cases e]; exact e
def errAcc (bs : List Bool) (n : Nat) : List V := ((List.range n).filter fun i => bs.getD i false).map fun i => V.str (errStrs.getD i "")
theorem errAcc_succ (bs : List Bool) (n : Nat) : errAcc bs (n + 1) = if bs.getD n false = true then errAcc bs n ++ [V.str (errStrs.getD n "")] else errAcc bs n := by
  unfold errAcc
  rw [List.range_succ, List.filter_append, List.map_append, List.filter_cons, List.filter_nil]
  split <;> simp
theorem errAcc_len (bs : List Bool) (n : Nat) : (errAcc bs n).length ≤ n := by
  unfold errAcc
  rw [List.length_map]
  exact Nat.le_trans (List.length_filter_le _ _) (by rw [List.length_range]; exact Nat.le_refl n)
/-- the second -/
theorem ps_err2 (S : ErrX X p D bs) (hb : bs.length = 4) {q5 : Nat → Pos} {a c : Pos} (hline : (a.line == (q5 14).line) = true) : PS X (.Assign [.Name "names" a] (errComp q5) c)
    (fun D σ H => ∃ L, σ[1]? = some (some (.ref L)) ∧ H L = some (.lst (bs.map V.bl)) ∧ 3 < σ.length ∧ ∀ M H', Same H H' → H M = none → H' M = some (.lst (errAcc bs 4)) → D.nx (σ.set 2 (some (.ref M))) H') := by
  have hblt : ∀ x ∈ ([PySem.Str.ofString "isinstance", PySem.Str.ofString "range", PySem.Str.ofString "int", PySem.Str.ofString "len"] : List Str), X.mg x = none := S.blt
  have ok : BlkOk X.N X.env.scope errScL [(PySem.Str.ofString "k", 3)] := by
    rw [S.hN]
    have : ∀ sc : Scope, sc.names = errNames → BlkOk errN sc errScL [(PySem.Str.ofString "k", 3)] := fun sc e => by
      refine ⟨rfl, by decide +kernel, fun p hp => ?_, fun y hy e2 => ?_, by decide +kernel⟩
      · obtain rfl : p = (PySem.Str.ofString "k", 3) := by simpa using hp
        rfl
      · rw [e]
        revert y
        decide +kernel
    exact this _ S.nm
  have scN : ∀ cl C, (compEnvC errScL cl C X.env).scope.names = [(PySem.Str.ofString ".0", .local), (PySem.Str.ofString "k", .local), (PySem.Str.ofString "kinds", .cell)] := fun cl C => by
    show (relS errScL X.env.scope).names = _
    unfold relS
    rw [S.kd, S.nm]
    decide +kernel
  have vk : ∀ s H C cl fp q, PE (X.blk s H errScL (compEnvC errScL cl C X.env) fp) (.Name "k" q) (tVar 3) := fun s H C cl fp q => pe_var (by show X.N[3]? = _; rw [S.hN]; rfl) (by show Vis (compEnvC errScL cl C X.env).scope _; unfold Vis; rw [scN]; exact .inl (by decide +kernel))
  have vn : ∀ s H C cl fp q, PE (X.blk s H errScL (compEnvC errScL cl C X.env) fp) (.Name "kinds" q) (tVar 1) := fun s H C cl fp q => pe_var (by show X.N[1]? = _; rw [S.hN]; rfl) (by show Vis (compEnvC errScL cl C X.env).scope _; unfold Vis; rw [scN]; exact .inr (.inl (by decide +kernel)))
  refine PS.imp (ps_setLcH (i := 2) S.hot (by rw [S.hN]; decide +kernel) (by rw [S.hN]; rfl) (by rw [S.nm]; decide +kernel) (sw_true S.kd (by rw [S.nm]; decide +kernel) hline (by decide +kernel))
    (pi_range1H (S.gl (by decide +kernel)) (S.blt _ (by decide +kernel)) (pa_cons pe_int pa_nil)) ok (fun s H C cl fp => pg_name (i := 3) (by show X.N.Nodup; rw [S.hN]; decide +kernel) (by show X.N[3]? = _; rw [S.hN]; rfl) (.inl (by show (compEnvC errScL cl C X.env).scope.names.lookup _ = _; rw [scN]; decide +kernel)) (.inr (by show (compEnvC errScL cl C X.env).scope.names.lookup _ = _; rw [scN]; decide +kernel)))
    (fun s H C cl fp => pts_one (pt_val (pe_ix (show IxR (X.blk s H errScL (compEnvC errScL cl C X.env) fp) (rIxL X.K) from ix_list) (vn s H C cl fp _) (vk s H C cl fp _) fun _ _ => rfl)))
    (fun s H C cl fp => pe_ix (show IxR (X.blk s H errScL (compEnvC errScL cl C X.env) fp) (rIxL X.K) from ix_list) (pe_lst (pa_cons pe_str (pa_cons pe_str (pa_cons pe_str (pa_cons pe_str pa_nil))))) (vk s H C cl fp _) fun _ _ => rfl) fun _ => rfl) fun Dn σ H ⟨L, e1, hL, hl, h⟩ => ?_
  refine ⟨4, rfl, by omega, by omega, fun B hB => ?_⟩
  have eB : L ≠ B := fun z => by rw [z, hB] at hL; cases hL
  refine lc_range (fun n H' => (∀ a o, H a = some o → H' a = some o) ∧ H' B = some (.lst (errAcc bs n))) ⟨fun a o e => upd_old hB e, upd_same⟩ (fun i H2 hi ⟨k2, e2⟩ => ?_) fun H2 ⟨k2, e2⟩ => h B H2 k2 hB e2
  have i4 : i < 4 := hi
  have w1 : (wipe σ ([(PySem.Str.ofString "k", 3)].map (·.2)))[1]? = some (some (.ref L)) := by
    show (σ.set 3 none)[1]? = _
    rw [List.getElem?_set_ne (by decide)]
    exact e1
  have w3 : ((wipe σ ([(PySem.Str.ofString "k", 3)].map (·.2))).set 3 (some (.int (0 + (i : Nat)))))[3]? = some (some (.int (0 + (i : Nat)))) := List.getElem?_set_self (by rw [wipe_length]; exact hl)
  refine ⟨?_, .ref L, by rw [List.getElem?_set_ne (by decide)]; exact w1, .int (0 + (i : Nat)), w3, L, _, _, .bl (bs.getD i false), rfl, rfl, SqL.of (k2 _ _ hL), ?_, bs.getD i false, rfl, ?_⟩
  · show List.set (List.set (List.set σ 3 none) 3 _) 3 none = List.set σ 3 none
    rw [List.set_set, List.set_set]
  · unfold atI ixN
    rw [if_pos (by omega), List.length_map, hb, if_pos (by omega)]
    show (bs.map V.bl)[(0 + (i : Int)).toNat]? = _
    rw [show (0 + (i : Int)).toNat = i by omega, List.getElem?_map, List.getD_eq_getElem?_getD, List.getElem?_eq_getElem (by omega)]
    rfl
  · rw [errAcc_succ]
    by_cases hbi : bs.getD i false = true
    · rw [if_pos hbi]
      show if bs.getD i false = true then _ else _
      rw [if_pos hbi]
      refine ⟨by rw [sizeLine_eq]; show 4 ≤ _; omega, fun p hp => ⟨.int (0 + (i : Nat)), w3, p, _, _, .str (errStrs.getD i ""), rfl, rfl, SqL.of upd_same, ?_, errAcc bs i, ?_, ?_, fun a o e => ?_, upd_same⟩⟩
      · match i, i4 with
        | 0, _ => decide +kernel
        | 1, _ => decide +kernel
        | 2, _ => decide +kernel
        | 3, _ => decide +kernel
      · exact upd_old hp e2
      · have := errAcc_len bs i
        rw [sizeLine_eq]
        omega
      · rw [upd_ne fun z => by rw [z, hB] at e; cases e]
        exact upd_old hp (k2 a o e)
    · rw [if_neg hbi]
      show if bs.getD i false = true then _ else _
      rw [if_neg hbi]
      exact ⟨k2, e2⟩
/-- the third -/
theorem ps_err3 (S : ErrX X p D bs) {q6 : Nat → Pos} {c : Pos} : PS X (.Return (some (errRet q6)) c)
    (fun D σ H => ∃ M, σ[2]? = some (some (.ref M)) ∧ H M = some (.lst (errAcc bs 4)) ∧ ∀ H', Same H H' → D.rt (.str (errAns bs)) H') := by
  have vn : ∀ q, PE X (.Name "names" q) (tVar 2) := fun q => pe_var (by rw [S.hN]; rfl) (S.vis (.inl (by decide +kernel)))
  refine PS.imp (ps_ret (pe_ix ix_list (pe_lst (pa_cons pe_str (pa_cons (pe_ix ix_list (pe_op op_cat (vn _) (pe_lst (pa_cons pe_str pa_nil))) pe_int fun _ _ => rfl) pa_nil))) (pe_callTy call_int1 (S.gl (by decide +kernel)) (S.blt _ (by decide +kernel)) (by decide +kernel)
    (pa_cons (pe_cmpR op_eq (pe_callB call_len_seq (S.gl (by decide +kernel)) (S.blt _ (by decide +kernel)) (by decide +kernel) (pa_cons (vn _) pa_nil)) pe_int rfl) pa_nil)) fun _ _ => rfl)) fun Dn σ H ⟨M, e2, hM, h⟩ => ?_
  have len := errAcc_len bs 4
  refine ⟨.ref M, e2, by rw [sizeLine_eq]; show 1 ≤ _; omega, fun p1 h1 => ⟨M, p1, _, _, rfl, rfl, upd_old h1 hM, upd_same, by rw [sizeLine_eq]; show (errAcc bs 4).length + 1 ≤ _; omega, fun p2 h2 => ⟨p2, _, 0, .str ((errGot bs).headD ""), rfl, rfl, SqL.of upd_same, ?_, by rw [sizeLine_eq]; show 2 ≤ _; omega, fun p3 h3 => ?_⟩⟩⟩
  · have e : errAcc bs 4 = (errGot bs).map V.str := by
      unfold errAcc errGot
      rw [List.map_map]
      rfl
    rw [e]
    unfold atI ixN
    rw [if_pos (by omega), if_pos (by rw [List.length_append, List.length_map, List.length_singleton]; omega)]
    cases errGot bs <;> rfl
  · have k3 : ∀ (o3 : HO) a o, H a = some o → upd (upd (upd H p1 (.lst [V.str (Str.ofString "")])) p2 (.lst (errAcc bs 4 ++ [V.str (Str.ofString "")]))) p3 o3 a = some o := fun o3 a o e => upd_old h3 (upd_old h2 (upd_old h1 e))
    refine ⟨.ref M, e2, M, _, rfl, .inl (SqL.of (k3 _ M _ hM)), rfl, .inr ⟨decide (V.int ((errAcc bs 4).length : Int) = V.int 1), rfl, ?_⟩⟩
    have el : (errAcc bs 4).length = (errGot bs).length := by
      unfold errAcc errGot
      rw [List.length_map, List.length_map]
    refine ⟨p3, _, _, .str (errAns bs), rfl, rfl, SqL.of upd_same, ?_, h _ (k3 _)⟩
    unfold errAns
    rw [el, dec_int]
    by_cases h1 : (errGot bs).length = 1
    · rw [if_pos h1, show (((errGot bs).length : Int) == 1) = true by rw [h1]; rfl]
      rfl
    · rw [if_neg h1, show (((errGot bs).length : Int) == 1) = false from beq_eq_false_iff_ne.mpr fun z => h1 (by exact_mod_cast z)]
      rfl
/-- the whole body -/
theorem pss_err (S : ErrX X p D bs) (hb : bs.length = 4) {q1 q2 q3 q4 q5 q6 q : Nat → Pos} (hline : ((q 3).line == (q5 14).line) = true) : PSs X (errBd q1 q2 q3 q4 q5 q6 q)
    (fun D σ H => σ[0]? = some (some (.ref p.1)) ∧ 3 < σ.length ∧ ∀ H', Same H H' → D.rt (.str (errAns bs)) H') := by
  obtain ⟨b0, b1, b2, b3, rfl⟩ : ∃ b0 b1 b2 b3, bs = [b0, b1, b2, b3] := by
    match bs, hb with
    | [b0, b1, b2, b3], _ => exact ⟨_, _, _, _, rfl⟩
  refine PSs.imp (pss_cons (ps_err1 S rfl) (pss_cons (ps_err2 S rfl hline) (pss_one (ps_err3 S)))) fun Dn σ H ⟨e0, hl, h⟩ => ⟨e0, fun L hL => ⟨L, List.getElem?_set_self (by omega), upd_same, by rw [List.length_set]; exact hl, fun M H' sm hM eM => ⟨M, List.getElem?_set_self (by rw [List.length_set]; omega), eM, fun H2 sm2 => h H2 fun a o e => sm2 a o (sm a o (upd_old hL e))⟩⟩⟩
end
end PL

set_option maxHeartbeats 4000000
/-! PL22: that def called from an except suite; try. -/
namespace PL
open PySem PySem.Spec L2 L2H HotX
open PyProof.Rows (envOfC)
open Classical

/-- a class of exceptions as that def sees it: its answers -/
structure XcE (C : Cn) (D : Addr) (bs : List Bool) : Prop where
  cls : ExcC C.K D
  four : bs.length = 4
  ask : ∀ (i : Nat) (x : Str), (["NotAllowed", "TooLarge", "Missing", "BadPaper"] : List Str)[i]? = some x → ∃ (A : Addr) (b : Bool), bs[i]? = some b ∧ C.mg x = some (.ref A) ∧ PySem.W.kitOne C.K (.ref D) (.ref A) = some b
/-- what that def at f promises -/
def ErrFn (C : Cn) (k : Nat) (f : Addr) (fd : FuncData) : Prop := ∀ (A : Around) (outer : List PySem.Env) (s : Shared) (H : Hp) (args : Args) (p : Addr × Obj) (D : Addr) (bs : List Bool) (Q : VK) (E : XK), RoomH k A → Hot1 A p → PinOk outer H s p → Env0 C.P C.w C.K C.mg C.base A outer s H →
  BindsTo s fd args [(PySem.Str.ofString "e", .ref p.1)] → XcE C D bs → Zc (.ref D) none p.2 → (∀ H', Same H H' → Q (.str (errAns bs)) H') → codeAny (model C.P C.w) A (.call (.ref f) args) (CR (L2N.CX C.P C.w) outer C.P C.w H s Q E) s
/-- that def of the module -/
def ErrR (C : Cn) (k : Nat) : Prop := ∃ f fd, C.mg "_law_error" = some (.ref f) ∧ PySem.W.keepIn C.K (.ref f) = true ∧ Binds C.K fd ["e"] [] ∧ ErrFn C k f fd
theorem errR_of {C : Cn} {k : Nat} {f : Addr} {nm ql : Str} {par : Arguments} {bd : List Stmt} {sc : Scope} {dV kV doc pm cdv ct oc : Value} {an od : Option Addr} {osl : Array (Option Value)} {q1 q2 q3 q4 q5 q6 q : Nat → Pos}
    (lk : C.K.lookup f = some ⟨oc, od, .func (PySem.W.fnOf nm ql par bd sc dV kV doc pm an cdv ct), osl⟩) (hc : PySem.W.codeIn C.K cdv ql = true) (S : FnScope errN ["e"] sc) (hm : C.mg "_law_error" = some (.ref f)) (hk : PySem.W.keepIn C.K (.ref f) = true)
    (hb : Binds C.K (PySem.W.fnOf nm ql par bd sc dV kV doc pm an cdv ct) ["e"] []) (hn : sc.names = errNames) (hbd : bd = errBd q1 q2 q3 q4 q5 q6 q) (hl : ((q 3).line == (q5 14).line) = true)
    (blt : ∀ x ∈ ([PySem.Str.ofString "isinstance", PySem.Str.ofString "range", PySem.Str.ofString "int", PySem.Str.ofString "len"] : List Str), C.mg x = none) : ErrR C (k + 1) := by
  refine ⟨f, _, hm, hk, hb, fun A outer s H args p D bs Q E hr hot hpin e hbi T hz h => ?_⟩
  subst hbd
  have here : ∀ b o, C.base.get? b = some o → s.heap.get? b = some o := fun b o z => (e.bs b o z).1
  have knd : ∀ y ∈ [(PySem.Str.ofString "e", Value.ref p.1)], sc.names.lookup y.1 = some .local ∨ (sc.names.lookup y.1 = some .cell ∧ ((cellsFrom (s.heap.objs.size + 1) sc.names []).lookup y.1).isSome = true) := fun y hy => by
    obtain rfl := List.mem_singleton.mp hy
    exact .inl (by rw [hn]; show errNames.lookup (PySem.Str.ofString "e") = _; decide +kernel)
  refine PySem.codeAny_call_function hr.depth ((e.mod.kin.keeps here) _ _ lk) rfl S.co S.gen rfl (PySem.W.codeRec_of (e.mod.kin.keeps here) hc) (hbi _ _ _ _ ?_)
  refine PySem.wpAny_newFunctionEnv_cells S.kind knd fun env he s1 x => ?_
  subst he
  refine ⟨(e.mod.nolimit.keeps here).keeps x.toInCall.keep, PySem.codeAny_func ?_⟩
  have I : L2.Inv (cxH (L2N.CX C.P C.w) C.P C.w C.K C.mg C.base errN ql sc f cdv A outer s H E p) [] (L2.start errN [V.ref p.1]) H s1 := inv_startH (ps := ["e"]) (us := [.ref p.1]) S hpin e rfl (.cons rfl .nil) x
  have SX : ErrX (cxH (L2N.CX C.P C.w) C.P C.w C.K C.mg C.base errN ql sc f cdv A outer s H E p) p D bs :=
    { hot := ⟨p, hot, List.mem_singleton.mpr rfl⟩, hp := List.mem_singleton.mpr rfl, cls := T.cls, zc := hz, fl := let ⟨_, v, e1, _⟩ := hot; ⟨v, e1⟩, nm := hn, kd := S.kind, hN := rfl, fn := fun _ => rfl, blt := blt, ask := T.ask }
  refine wpAny_mono ((pss_err SX T.four hl).run [] s1 (L2.start errN [V.ref p.1]) H { nx := fun _ H' => Q .non H', rt := Q } I ⟨rfl, by show 3 < 4; omega, h⟩) (fun fl s' z => ?_) fun _ _ z => z
  match fl, z with
  | .ret u, ⟨v, σ', H', J, rv, q⟩ => exact ⟨v, H', J.os, J.bare, J.base, J.hok, rv, q⟩
  | .next, ⟨σ', H', J, q⟩ => exact ⟨V.non, H', J.os, J.bare, J.base, J.hok, rfl, q⟩
  | .brk, ⟨_, _, _, q⟩ => exact q.elim
  | .cont, ⟨_, _, _, q⟩ => exact q.elim
/-- _law_error(e) in an except suite -/
theorem pe_err {X : Cx} {C : Cn} {k i : Nat} {p : Addr × Obj} {x : Str} {p1 p2 p3 : Pos} (hP : X.prog = C.P) (hw : X.w = C.w) (hK : X.K = C.K) (hmg : X.mg = C.mg) (hB : X.base = C.base) (R : ErrR C k) (hr : RoomH k X.A) (hot : Hot1 X.A p) (hp : p ∈ X.pn) (hg : Gl X "_law_error") (hN : X.N[i]? = some x) (hv : Vis X.env.scope x)
    (hd : (x == ("__debug__" : Str)) = false) (hcd : (x == ("__classdict__" : Str)) = false) :
    PE X (.Call (.Name "_law_error" p1) [.Name x p2] [] p3) (fun σ H Q => ∃ D bs, σ[i]? = some (some (.ref p.1)) ∧ XcE C D bs ∧ Zc (.ref D) none p.2 ∧ ∀ H', Same H H' → Q (.str (errAns bs)) H') := by
  obtain ⟨f, fd, hm, hk, hb, F⟩ := R
  refine ⟨fun pins s σ H Q I ⟨D, bs, e1, T, hz, h⟩ => wpAny_Call_Name_kw (ld_glob I hg (by rw [hmg]; exact hm) ?_ (by decide +kernel))⟩
  have ha : PA X [.Name x p2] (tCons (tVar i) tNil) := pa_cons (pe_var hN hv hd hcd) pa_nil
  refine PySem.W.callWith_K (h₀ := X.base) I.ok.mod.kin (by rw [hK]; exact hk) (thn (ha.run p3 pins s σ H (fun vs H1 => vs = [V.ref p.1] ∧ H1 = H) I ⟨.ref p.1, e1, rfl, rfl⟩) fun us s1 ⟨vs, H1, I1, r, e2, e3⟩ => ⟨I1.kIn, ?_⟩) rfl rfl
  subst e2 e3
  cases r with
  | cons r rr =>
    cases rr
    cases r
    have P1 := I1.pin p (List.mem_append_left _ hp)
    have hpin : PinOk X.stack H1 s1 p := ⟨P1.1, P1.2.1, fun hm => (List.mem_cons.mp (I1.stkSub p.1 hm)).elim P1.2.2.1 P1.2.2.2.1, P1.2.2.2.2⟩
    have b := hb s1 [.ref p.1] (by rw [← hK]; exact I1.kIn) rfl
    have run := F X.A X.stack s1 H1 ⟨[.ref p.1], []⟩ p D bs Q (fun _ _ _ => False) hr hot hpin (by rw [← hP, ← hw, ← hK, ← hmg, ← hB]; exact I1.env0) b T hz h
    rw [← hP, ← hw] at run
    refine wpAny_call (codeAny_mono run fun res s' z => ?_)
    match res, z with
    | .ok (.ret u), z => exact I1.after z
    | .error e, z =>
      obtain ⟨_, _, _, _, _, _, _, _, _, _, _, _, z⟩ := z
      exact z.elim

/-! ### try -/
theorem RelS.rebase {C : Cn} {F : Addr → Prop} {H0 H H' : Hp} {own : List Nat} {σ σ' : L2.St} {env env' : Env} {k k' : Int} (r0 : RelS C F H0 [] σ H env k) (r : RelS C F H own σ' H' env' k') : RelS C F H0 own σ' H' env' k' := by
  have n0 : ∀ a, a ≠ C.aS → H a = none → H0 a = none := fun a n h => by
    cases e : H0 a with
    | none => rfl
    | some o =>
      rw [r0.base a o e n] at h
      cases h
  refine ⟨r.len, r.cell, r.nums, r.fS, r.fN, r.ftr, fun a o e n => r.base a o (r0.base a o e n) n, r.var, fun i hi => ?_, r.inj⟩
  obtain ⟨a, e1, nf, nN, h0, al⟩ := r.mine i hi
  exact ⟨a, e1, nf, nN, n0 a (fun e => nf (e ▸ r.fS)) h0, al⟩
theorem Hold.rebase {C : Cn} {F : Addr → Prop} {H0 H H' : Hp} {σ : L2.St} {env : Env} {k k' : Int} (r0 : RelS C F H0 [] σ H env k) (h : Hold C F H H' k') : Hold C F H0 H' k' := let ⟨_, _, _, r⟩ := h; ⟨_, _, _, r0.rebase r⟩
theorem Hold.same {C : Cn} {F : Addr → Prop} {H0 H H' : Hp} {k : Int} (h : Hold C F H0 H k) (s : Same H H') : Hold C F H0 H' k := let ⟨_, _, _, r⟩ := h; ⟨_, _, _, r.same s⟩
/-- the names of the exceptions that a clause takes -/
def sTry (an : Str → Option Str) (body : Stm) : Stm := fun env k => match body env k with
  | .ex c k' => match an c with
    | some s => .ok (.rt (.str s)) k'
    | none => .no
  | r => r
/-- such a class: taken by the clause, and named so -/
def XcA (C : Cn) (cB : Value) (c s : Str) : Prop := ∃ D bs, C.mg c = some (.ref D) ∧ XcE C D bs ∧ PySem.W.exmOne C.K (.ref D) cB = some true ∧ errAns bs = s
theorem ds_try {C : Cn} {lvl k i : Nat} {sc : Bl} {N : List Str} {lo own' : List Nat} {x n : Str} {cB : Value} {an : Str → Option Str} {body : List Stmt} {b : Stm} {np p1 p2 p3 p4 p5 pos : Pos} (ht : sc.top = true) (hi : N[i]? = some n) (hl : sc.sc.names.lookup n = some .local) (hx : okDef sc x = true) (hc : C.mg x = some cB)
    (hd : (n == ("__debug__" : Str)) = false) (hcd : (n == ("__classdict__" : Str)) = false) (R : ErrR C k) (hk : k ≤ lvl) (hg : okDef sc "_law_error" = true) (ha : ∀ c s, an c = some s → XcA C cB c s) (hb : DSs C lvl sc N lo [] own' body b) :
    DS C lvl sc N lo [] own' (.Try body [.ExceptHandler (some (.Name x np)) (some n) [.Return (some (.Call (.Name "_law_error" p1) [.Name n p2] [] p3)) p4] p5] [] [] pos) (sTry an b) := fun F H0 E X G => by
  obtain ⟨hs, hf⟩ := G.top ht
  have gl := okDef.gl G hx
  refine PS.imp (L2N.ps_try_as (i := i) (c := cB) (Wout := fun cls d _ H => E cls d H) (tb := fun W D σ H => ∃ F H0, tSt C F H0 lo [] own' b (fun cls d H => ∀ σ : L2.St, σ.length = X.N.length → W cls d σ H) D σ H)
    (ts := fun a cls d Dn σ H => ∃ D bs, cls = .ref D ∧ d = none ∧ σ[i]? = some (some (.ref a)) ∧ XcE C D bs ∧ ∀ H', Same H H' → Dn.rt (.str (errAns bs)) H') hs hf G.nd (by rw [G.hN]; exact hi) (by show X.env.scope.names.lookup n = _; rw [G.scope]; exact hl) ⟨gl.1, gl.2, .inl (by rw [G.mg]; exact hc)⟩ G.takes ?_ ?_) fun Dn σ H ⟨env, k1, r, q⟩ => ?_
  · refine fun W pn xe tk ps => PSs.ex fun F => PSs.ex fun H0 => hb F H0 _ (X.tr pn xe) { prog := G.prog, w := G.w, K := G.K, mg := G.mg, base := G.base, calm := G.calm, scope := G.scope, kind := G.kind, fn := G.fn, hN := G.hN, nd := G.nd, room := G.room, guards := G.guards, top := G.top, pass := ps, takes := fun u s' z => tk u s' ?_ }
    obtain ⟨a, B, sI, pins, σ, H, cls, d, e, I, nb, up, sky, na, os, ag, w⟩ := z
    exact ⟨a, B, sI, pins, σ, H, cls, d, e, I, nb, up, sky, na, os, ag, w σ I.len⟩
  · intro a oe cls d pn hz hfl
    obtain ⟨vs, hv⟩ := hfl
    have hot : Hot1 (X.suite a ((a, oe) :: pn)).A (a, oe) := ⟨rfl, vs, hv, hz.2.2 vs hv⟩
    have rm : RoomH k (X.suite a ((a, oe) :: pn)).A := ⟨by have := G.room.dp; show X.A.depth + 3 * k + 5 < _; omega, by have := G.room.un; show X.A.units + 16 * k + 200 < _; omega⟩
    have hv : Vis (X.suite a ((a, oe) :: pn)).env.scope n := .inl (by show X.env.scope.names.lookup n = _; rw [G.scope]; exact hl)
    refine PSs.imp (pss_one (ps_ret (pe_err (p := (a, oe)) G.prog G.w G.K G.mg G.base R rm hot List.mem_cons_self (okDef.gl G hg).1 (by show X.N[i]? = _; rw [G.hN]; exact hi) hv hd hcd))) fun Dn σ H ⟨D, bs, e1, e2, e3, T, h⟩ => ?_
    subst e1 e2
    exact ⟨D, bs, e3, T, hz.zc, h⟩
  · refine ⟨F, H, env, k1, ⟨r.len, r.cell, r.nums, r.fS, r.fN, r.ftr, fun a o e _ => e, r.var, fun i hi => absurd hi (by simp), fun i hi => absurd hi (by simp)⟩, ?_⟩
    unfold sTry at q
    cases em : b env k1 with
    | ok fl k2 =>
      rw [em] at q
      cases fl with
      | nx env' => exact fun σ' H' r' s' => q σ' H' (r.rebase r') s'
      | rt d => exact fun v H' h' z => q v H' (h'.rebase r) z
      | bk env' => exact fun σ' H' r' s' => q σ' H' (r.rebase r') s'
      | ct env' => exact fun σ' H' r' s' => q σ' H' (r.rebase r') s'
    | ex c k2 =>
      rw [em] at q
      have q : AfterS C F H0 lo [] own' E σ H (match an c with | some s => .ok (.rt (.str s)) k2 | none => .no) Dn := q
      cases ea : an c with
      | none =>
        rw [ea] at q
        exact False.elim q
      | some s =>
        rw [ea] at q
        have q : ∀ v H', Hold C F H0 H' k2 → Rp C F H' v (.str s) → Dn.rt v H' := q
        obtain ⟨D, bs, hm, T, hx1, hs1⟩ := ha c s ea
        intro H' h' σ2 hl2
        rw [hm]
        refine ⟨true, by rw [G.K]; exact hx1, fun _ a _ => ⟨D, bs, rfl, rfl, List.getElem?_set_self (by rw [hl2, G.hN]; exact (List.getElem?_eq_some_iff.mp hi).1), T, fun H'' sm => q _ H'' ((h'.rebase r).same sm) (by rw [hs1]; exact .str s)⟩, nofun⟩
    | no =>
      rw [em] at q
      exact False.elim q
end PL

set_option maxHeartbeats 4000000
/-! PL23: the law's own stream of numbers. -/
namespace PL
open PySem PySem.Spec L2
open Classical
section
variable {X : Cx} {pos p p2 : Pos} {a b : Expr} {f g : L2.St → Option Int}
/-- an expression whose value is a number that the slots tell -/
def tN (f : L2.St → Option Int) : TE := fun σ H Q => ∃ n, f σ = some n ∧ Q (.int n) H
def gN (i : Nat) : L2.St → Option Int := fun σ => match σ[i]? with
  | some (some (.int n)) => some n
  | _ => none
def nK (n : Int) : L2.St → Option Int := fun _ => some n
def n1 (h : Int → Int) (f : L2.St → Option Int) : L2.St → Option Int := fun σ => (f σ).map h
def n2 (h : Int → Int → Int) (f g : L2.St → Option Int) : L2.St → Option Int := fun σ => (f σ).bind fun x => (g σ).map (h x)
theorem pn_int {i : Int} {j : Nat} : PE X (.Constant (.int i) j pos) (tN (nK i)) := PE.imp pe_int fun σ H Q ⟨n, e, q⟩ => by cases e; exact q
theorem pn_var {i : Nat} {x : Str} (h : PE X (.Name x pos) (tVar i)) : PE X (.Name x pos) (tN (gN i)) := PE.imp h fun σ H Q ⟨n, e, q⟩ => by
  unfold gN at e
  split at e
  · rename_i m em
    cases e
    exact ⟨_, em, q⟩
  · cases e
theorem pn_bin {op : Operator} {h : Int → Int → Int} {C : Int → Int → Prop} (ho : OpR X (binaryOp op) (rI C fun i j => .int (h i j))) (ha : PE X a (tN f)) (hb : PE X b (tN g)) (hc : ∀ σ x y, f σ = some x → g σ = some y → C x y) : PE X (.BinOp a op b pos) (tN (n2 h f g)) :=
  PE.imp (pe_op ho ha hb) fun σ H Q ⟨n, e, q⟩ => by
    obtain ⟨x, e1, e2⟩ := Option.bind_eq_some_iff.mp e
    obtain ⟨y, e3, rfl⟩ := Option.map_eq_some_iff.mp e2
    exact ⟨x, e1, y, e3, x, y, rfl, rfl, hc σ x y e1 e3, q⟩
theorem pn_add (ha : PE X a (tN f)) (hb : PE X b (tN g)) : PE X (.BinOp a .Add b pos) (tN (n2 (· + ·) f g)) :=
  PE.imp (pe_op op_add ha hb) fun σ H Q ⟨n, e, q⟩ => by
    obtain ⟨x, e1, e2⟩ := Option.bind_eq_some_iff.mp e
    obtain ⟨y, e3, rfl⟩ := Option.map_eq_some_iff.mp e2
    exact ⟨x, e1, y, e3, x, y, rfl, rfl, q⟩
theorem pn_mulR {c : Int} (ha : PE X a (tN f)) (hb : PE X b (tN (nK c))) (h1 : -(2 ^ 64) < c) (h2 : c < 2 ^ 64) : PE X (.BinOp a .Mult b pos) (tN (n2 (· * ·) f (nK c))) := pn_bin op_mul ha hb fun σ x y _ e => by cases e; exact .inr ⟨h1, h2⟩
theorem pn_mulL {c : Int} (ha : PE X a (tN (nK c))) (hb : PE X b (tN g)) (h1 : -(2 ^ 64) < c) (h2 : c < 2 ^ 64) : PE X (.BinOp a .Mult b pos) (tN (n2 (· * ·) (nK c) g)) := pn_bin op_mul ha hb fun σ x y e _ => by cases e; exact .inl ⟨h1, h2⟩
theorem pn_mod {c : Int} (ha : PE X a (tN f)) (hb : PE X b (tN (nK c))) (h : 0 < c) : PE X (.BinOp a .Mod b pos) (tN (n2 (· % ·) f (nK c))) := pn_bin op_mod ha hb fun σ x y _ e => by cases e; exact h
theorem pn_div {c : Int} (ha : PE X a (tN f)) (hb : PE X b (tN (nK c))) (h : 0 < c) (h2 : c < 1073741824) : PE X (.BinOp a .FloorDiv b pos) (tN (n2 (· / ·) f (nK c))) := pn_bin op_fdiv ha hb fun σ x y _ e => by cases e; exact ⟨h, h2⟩
theorem pn_pow {c d : Int} (ha : PE X a (tN (nK c))) (hb : PE X b (tN (nK d))) (h : CPow c d) : PE X (.BinOp a .Pow b pos) (tN (n2 (fun i j => i ^ j.toNat) (nK c) (nK d))) := pn_bin op_pow ha hb fun σ x y e e2 => by cases e; cases e2; exact h
theorem pn_toInt (hg : Gl X "int") (hm : X.mg "int" = none) (ha : PE X a (tN f)) (hs : starEach [a] X.env = [(false, eval a X.env)]) : PE X (.Call (.Name "int" p) [a] [] pos) (tN f) :=
  PE.imp (pe_callTy call_int1 hg hm (by decide +kernel) (pa_cons ha pa_nil hs) (by decide +kernel) (by decide +kernel) hs rfl) fun σ H Q ⟨n, e, q⟩ => ⟨n, e, .inl ⟨n, rfl, q⟩⟩
theorem pn_abs (hg : Gl X "abs") (hm : X.mg "abs" = none) (ha : PE X a (tN f)) (hs : starEach [a] X.env = [(false, eval a X.env)]) : PE X (.Call (.Name "abs" p) [a] [] pos) (tN (n1 (fun i => if i < 0 then -i else i) f)) :=
  PE.imp (pe_callB call_abs hg hm (by decide +kernel) (pa_cons ha pa_nil hs) (by decide +kernel) (by decide +kernel) hs rfl) fun σ H Q ⟨n, e, q⟩ => by
    obtain ⟨x, e1, rfl⟩ := Option.map_eq_some_iff.mp e
    exact ⟨x, e1, x, rfl, q⟩

abbrev Pd := L2.St → Hp → Prop
/-- from P to Q, or a break at B, or a return of R's -/
def T (P Q B : Pd) : TS := fun D σ H => P σ H ∧ (∀ σ' H', Q σ' H' → D.nx σ' H') ∧ ∀ σ' H', B σ' H' → D.bk σ' H'
variable {P Q B R P' : Pd} {st : Stmt} {rest sa sb : List Stmt}
theorem ts_nil : PSs X [] (T P P B) := PSs.imp pss_nil fun D σ H ⟨h, q, _⟩ => q _ _ h
theorem ts_cons (h1 : PS X st (T P Q B)) (h2 : PSs X rest (T Q R B)) : PSs X (st :: rest) (T P R B) := PSs.imp (pss_cons h1 h2) fun D σ H ⟨h, q, b⟩ => ⟨h, fun σ' H' h' => ⟨h', q, b⟩, b⟩
theorem ts_pre (h : ∀ σ H, P' σ H → P σ H) (h1 : PSs X rest (T P Q B)) : PSs X rest (T P' Q B) := PSs.imp h1 fun D σ H ⟨h', q, b⟩ => ⟨h _ _ h', q, b⟩
theorem ts_set {i : Nat} {x : Str} (hs : PS X (.Assign [.Name x p] a pos) (tAsg (tN f) (gName i))) (h : ∀ σ H, P σ H → ∃ n, f σ = some n ∧ Q (σ.set i (some (.int n))) H) : PS X (.Assign [.Name x p] a pos) (T P Q B) :=
  PS.imp hs fun D σ H ⟨hp, q, _⟩ => let ⟨n, e, z⟩ := h σ H hp; ⟨n, e, q _ _ z⟩
theorem ts_app {i : Nat} {e1 : Expr} (hs : PS X (.Expr e1 pos) (tDrop (tBM X.K "list" rAppend (tVar i) (tCons (tN f) tNil)))) (h : ∀ σ H, P σ H → ∃ n p xs, f σ = some n ∧ σ[i]? = some (some (.ref p)) ∧ H p = some (.lst xs) ∧ xs.length < sizeLine ∧ Q σ (upd H p (.lst (xs ++ [.int n])))) : PS X (.Expr e1 pos) (T P Q B) :=
  PS.imp hs fun D σ H ⟨hp, q, _⟩ => let ⟨n, l, xs, e, es, hl, hz, z⟩ := h σ H hp; ⟨.ref l, es, .inl ⟨rfl, _, SqL.of hl⟩, n, e, l, xs, .int n, rfl, rfl, hl, hz, q _ _ z⟩
theorem ts_if {c : Expr} {h : Int → Int → Bool} (ht : PT X c (tTest (tOp (rI0 fun i j => .bl (h i j)) (tN f) (tN g)))) (ha : PSs X sa (T R Q B)) (hb : PSs X sb (T P' Q B)) (hp : ∀ σ H, P σ H → ∃ x y, f σ = some x ∧ g σ = some y ∧ (h x y = true → R σ H) ∧ (h x y = false → P' σ H)) : PS X (.If c sa sb pos) (T P Q B) :=
  PS.imp (ps_if ht ha hb) fun D σ H ⟨h', q, b⟩ => by
    obtain ⟨x, y, e1, e2, h1, h2⟩ := hp σ H h'
    refine ⟨x, e1, y, e2, x, y, rfl, rfl, h x y, rfl, ?_⟩
    cases e : h x y with
    | true => exact ⟨h1 e, q, b⟩
    | false => exact ⟨h2 e, q, b⟩
theorem ts_break (h : ∀ σ H, P σ H → B σ H) : PS X (.Break pos) (T P Q B) := PS.imp ps_break fun D σ H ⟨h', _, b⟩ => b _ _ (h _ _ h')
/-- over a range of c: I by the turn -/
theorem ts_range {c : Nat} {k : Nat} {x : Str} {p3 p4 : Pos} {body : List Stmt} {I : Nat → Pd} (hp : PassesOwn (model X.prog X.w) X.A X.env X.xe) (hca : X.calm = true) (hc : (c : Int) < 2 ^ 62) (hg : Gl X "range") (hm : X.mg "range" = none) (hk : PG X (.Name x p) (gName k))
    (hb : ∀ n, n < c → PSs X body (T (fun σ H => ∃ σ0, I n σ0 H ∧ σ = σ0.set k (some (.int n))) (I (n + 1)) Q)) (h0 : ∀ σ H, P σ H → I 0 σ H) (he : ∀ σ H, I c σ H → Q σ H) :
    PS X (.For (.Name x p) (.Call (.Name "range" p2) [.Constant (.int c) 0 p3] [] p4) body [] pos) (T P Q B) := by
  refine PS.imp (ps_for hp hca (pi_range1 hg hm (pa_cons pe_int pa_nil)) hk (PSs.ex fun n : { n // n < c } => hb n.1 n.2)) fun Dn σ H ⟨h, q, _⟩ => ?_
  refine ⟨c, rfl, by omega, hc, ?_⟩
  rw [Int.toNat_natCast]
  refine for_range (lo := 0) (g := gName k) (tb := fun D σ H => ∃ i : { n // n < c }, T (fun σ H => ∃ σ0, I i.1 σ0 H ∧ σ = σ0.set k (some (.int i.1))) (I (i.1 + 1)) Q D σ H) (fun n σ H => I n σ H) (h0 σ H h) (fun n σ H hn hi => ?_) fun σ H hi => q _ _ (he σ H hi)
  refine ⟨⟨n, hn⟩, ⟨σ, hi, ?_⟩, fun σ' H' h' => h', fun σ' H' h' => q _ _ h'⟩
  rw [Int.zero_add]
end

/-! ### the text, but for its places -/
section
def nmE (x : Str) (q : Pos) : Expr := .Name x q
def inE (i : Int) (q : Pos) : Expr := .Constant (.int i) 0 q
def appS (e : Expr) (q : Nat → Pos) : Stmt := .Expr (.Call (.Attribute (.Name "numbers" (q 0)) "append" (q 1)) [e] [] (q 2)) (q 3)
def intE (e : Expr) (q : Nat → Pos) : Expr := .Call (.Name "int" (q 0)) [e] [] (q 1)
def strm1 (q1 q2 q3 : Nat → Pos) (q : Nat → Pos) : List Stmt :=
  [appS (.BinOp (intE (.Name "rest" (q 0)) q1) .Mod (inE 1009 (q 1)) (q 2)) q2, .Assign [.Name "rest" (q 3)] (.BinOp (.Name "rest" (q 4)) .FloorDiv (inE 1009 (q 5)) (q 6)) (q 7),
    .If (.Compare (.Name "rest" (q 8)) [.Eq] [inE 0 (q 9)] (q 10)) [.Break (q 11)] [] (q 12)]
def strm2 (q1 q2 q3 : Nat → Pos) (q : Nat → Pos) : List Stmt :=
  [.Assign [.Name "stirred" (q 0)] (.BinOp (intE (.BinOp (.BinOp (.BinOp (.Name "stirred" (q 1)) .Mult (inE 48271 (q 2)) (q 3)) .Add (.BinOp (inE 7 (q 4)) .Mult (.Name "k" (q 5)) (q 6)) (q 7)) .Add (inE 11 (q 8)) (q 9)) q1) .Mod (inE 2147483647 (q 10)) (q 11)) (q 12),
    appS (.BinOp (.BinOp (intE (.BinOp (.BinOp (.Name "stirred" (q 13)) .Mult (inE 69621 (q 14)) (q 15)) .Add (.Name "k" (q 16)) (q 17)) q2) .Mod (inE 2147483629 (q 18)) (q 19)) .Mod (inE 1009 (q 20)) (q 21)) q3]
def strm3 (q1 q2 q3 q4 q5 q6 q7 q8 q9 q : Nat → Pos) : List Stmt :=
  [.Assign [.Name "rest" (q 0)] (.Call (.Name "abs" (q 1)) [intE (.Name "cell" (q 2)) q1] [] (q 3)) (q 4),
    .If (.Compare (.Name "rest" (q 5)) [.GtE] [.BinOp (inE 10 (q 6)) .Pow (inE 18 (q 7)) (q 8)] (q 9)) [.For (.Name "k" (q 10)) (.Call (.Name "range" (q 11)) [inE 60 (q 12)] [] (q 13)) (strm1 q2 q3 q3 q4) [] (q 14)]
      [.Assign [.Name "stirred" (q 15)] (.BinOp (intE (.Name "rest" (q 16)) q6) .Mod (inE 2147483647 (q 17)) (q 18)) (q 19), .For (.Name "k" (q 20)) (.Call (.Name "range" (q 21)) [inE 10 (q 22)] [] (q 23)) (strm2 q7 q8 q9 q5) [] (q 24)] (q 25)]
def strm (q1 q2 q3 q4 q5 q6 q7 q8 q9 q10 q11 q : Nat → Pos) : List Stmt :=
  [.Assign [.Name "numbers" (q 0)] (.List [] (q 1)) (q 2), .For (.Name "cell" (q 3)) (.Subscript (.Name "script" (q 4)) (.Slice none (some (inE 63 (q 5))) none (q 6)) (q 7)) (strm3 q1 q2 q3 q4 q5 q6 q7 q8 q9 q10) [] (q 8),
    .If (.Compare (.Call (.Name "len" (q 9)) [.Name "numbers" (q 10)] [] (q 11)) [.Eq] [inE 0 (q 12)] (q 13)) [appS (inE 0 (q 14)) q11] [] (q 15), .Return (some (.Name "numbers" (q 16))) (q 17)]
def strmN : List Str := ["script", "numbers", "cell", "rest", "k", "stirred"]
def strmNames : List (Str × NameKind) := [(PySem.Str.ofString "script", .local), (PySem.Str.ofString "numbers", .local), (PySem.Str.ofString "cell", .local), (PySem.Str.ofString "rest", .local), (PySem.Str.ofString "k", .local), (PySem.Str.ofString "stirred", .local), (PySem.Str.ofString "abs", .globalImplicit),
  (PySem.Str.ofString "int", .globalImplicit), (PySem.Str.ofString "range", .globalImplicit), (PySem.Str.ofString "len", .globalImplicit)]
structure StX (X : Cx) : Prop where
  calm : X.calm = true
  pass : PassesOwn (model X.prog X.w) X.A X.env X.xe
  nm : X.env.scope.names = strmNames
  hN : X.N = strmN
  fn : ∀ x, X.fn x = true
  blt : ∀ x ∈ ([PySem.Str.ofString "abs", PySem.Str.ofString "int", PySem.Str.ofString "range", PySem.Str.ofString "len"] : List Str), X.mg x = none
variable {X : Cx} {P Q B : Pd} {q : Nat → Pos} {pos pos2 : Pos} {e : Expr} {f : L2.St → Option Int}
theorem StX.gl (S : StX X) {x : Str} (h : strmNames.lookup x = some .globalImplicit) : Gl X x := by
  show X.env.scope.names.lookup x = _
  rw [S.nm]
  exact h
theorem StX.var (S : StX X) {i : Nat} {x : Str} (h : strmN[i]? = some x ∧ strmNames.lookup x = some .local ∧ (x == ("__debug__" : Str)) = false ∧ (x == ("__classdict__" : Str)) = false) : PE X (.Name x pos) (tVar i) := by
  refine pe_var (by rw [S.hN]; exact h.1) (.inl (by rw [S.nm]; exact h.2.1)) h.2.2.1 h.2.2.2
theorem StX.pg (S : StX X) {i : Nat} {x : Str} (h : strmN[i]? = some x ∧ strmNames.lookup x = some .local) : PG X (.Name x pos) (gName i) :=
  pg_name (by rw [S.hN]; decide +kernel) (by rw [S.hN]; exact h.1) (.inl (by rw [S.nm]; exact h.2)) (.inl (S.fn _))
theorem StX.set (S : StX X) {i : Nat} {x : Str} (h : strmN[i]? = some x ∧ strmNames.lookup x = some .local) (he : PE X e (tN f)) (hs : swapsWith e (some (.Name x pos2)) pos.line X.env = pure false) (hq : ∀ σ H, P σ H → ∃ n, f σ = some n ∧ Q (σ.set i (some (.int n))) H) : PS X (.Assign [.Name x pos2] e pos) (T P Q B) :=
  ts_set (ps_set (by rw [S.hN]; decide +kernel) (by rw [S.hN]; exact h.1) (.inl (by rw [S.nm]; exact h.2)) he hs (.inl (S.fn _))) hq
theorem StX.int (S : StX X) {q : Nat → Pos} (he : PE X e (tN f)) (hs : starEach [e] X.env = [(false, eval e X.env)]) : PE X (intE e q) (tN f) := pn_toInt (S.gl (by decide +kernel)) (S.blt _ (by decide +kernel)) he hs
/-- what stays: the numbers at a, at most n of them, all of Hb -/
def Jn (Hb : Hp) (a : Addr) (n : Nat) : Pd := fun σ H => σ.length = 6 ∧ σ[1]? = some (some (.ref a)) ∧ Hb a = none ∧ (∀ b o, Hb b = some o → H b = some o) ∧ ∃ ns : List Int, H a = some (.lst (ns.map V.int)) ∧ ns.length ≤ n ∧ n ≤ 100000
theorem Jn.set {Hb : Hp} {a : Addr} {n i : Nat} {σ : L2.St} {H : Hp} {v : V} (h : Jn Hb a n σ H) (hi : i ≠ 1) : Jn Hb a n (σ.set i (some v)) H := by
  obtain ⟨h1, h2, h3⟩ := h
  exact ⟨by rw [List.length_set]; exact h1, by rw [List.getElem?_set_ne hi]; exact h2, h3⟩
theorem Jn.mono {Hb : Hp} {a : Addr} {n m : Nat} {σ : L2.St} {H : Hp} (h : Jn Hb a n σ H) (l : n ≤ m) (l2 : m ≤ 100000) : Jn Hb a m σ H := by
  obtain ⟨h1, h2, h3, h4, ns, h5, h6, _⟩ := h
  exact ⟨h1, h2, h3, h4, ns, h5, Nat.le_trans h6 l, l2⟩
theorem StX.app (S : StX X) {Hb : Hp} {a : Addr} {n : Nat} (he : PE X e (tN f)) (hs : starEach [e] X.env = (false, eval e X.env) :: starEach [] X.env)
    (hfew : ((backTo (q 2) (starEach [e] X.env)).all (fun x => !x.1) && (backToKw (q 2) (keywordEach [] X.env)).all (fun x => x.1.isSome) && decide (([e] : List Expr).length + ([] : List Keyword).length + (if ([] : List Keyword).isEmpty then 0 else 1) < 30)) = true) (hline : ((q 1).endLine == (q 2).line) = true)
    (hp : ∀ σ H, P σ H → Jn Hb a n σ H ∧ n < 100000 ∧ ∃ m, f σ = some m) (hq : ∀ σ H H', P σ H → Jn Hb a (n + 1) σ H' → Q σ H') : PS X (appS e q) (T P Q B) := by
  refine ts_app (ps_expr (pe_bm F.plainAttrs_list F.slot_list_append F.type_list_append mt_append (S.var (i := 1) (by decide +kernel)) (pa_cons he pa_nil hs) rfl hfew hline hs rfl) rfl) fun σ H h => ?_
  obtain ⟨⟨h1, h2, h3, h4, ns, h5, h6, h7⟩, hn, m, hm⟩ := hp σ H h
  refine ⟨m, a, ns.map V.int, hm, h2, h5, by rw [List.length_map, sizeLine_eq]; omega, hq σ H _ h ⟨h1, h2, h3, fun b o e => ?_, ns ++ [m], by rw [upd_same, List.map_append]; rfl, by rw [List.length_append, List.length_singleton]; omega, hn⟩⟩
  rw [upd_ne fun z => by rw [z, h3] at e; cases e]
  exact h4 b o e
theorem gN_set {σ : L2.St} {i : Nat} {n : Int} (h : i < σ.length) : gN i (σ.set i (some (.int n))) = some n := by
  unfold gN
  rw [List.getElem?_set_self h]
theorem gN_ne {σ : L2.St} {i j : Nat} {v : Option V} (h : j ≠ i) : gN i (σ.set j v) = gN i σ := by
  unfold gN
  rw [List.getElem?_set_ne h]
/-- the places of append calls: on one line -/
def Lin (q : Nat → Pos) : Prop := ((q 1).endLine == (q 2).line) = true
section
variable {q1 q2 q3 q4 q5 q6 q7 q8 q9 q10 q11 : Nat → Pos} {Hb : Hp} {a : Addr} {n : Nat}
def hasN (i : Nat) (σ : L2.St) : Prop := ∃ m, gN i σ = some m
theorem StX.nv (S : StX X) {i : Nat} {x : Str} (h : strmN[i]? = some x ∧ strmNames.lookup x = some .local ∧ (x == ("__debug__" : Str)) = false ∧ (x == ("__classdict__" : Str)) = false) : PE X (.Name x pos) (tN (gN i)) := pn_var (S.var h)
/-- the inner loop of great cells -/
theorem pss_strm1 (S : StX X) (h1 : Lin q2) : PSs X (strm1 q1 q2 q3 q) (T (fun σ H => Jn Hb a n σ H ∧ n < 100000 ∧ hasN 3 σ) (fun σ H => Jn Hb a (n + 1) σ H ∧ hasN 3 σ) (Jn Hb a (n + 1))) := by
  have vr : ∀ p, PE X (.Name "rest" p) (tN (gN 3)) := fun p => S.nv (by decide +kernel)
  refine ts_cons (Q := fun σ H => Jn Hb a (n + 1) σ H ∧ hasN 3 σ) (S.app (n := n) (pn_mod (S.int (vr _) rfl) pn_int (by decide)) rfl rfl h1 (fun σ H ⟨h, l, m, hm⟩ => ⟨h, l, _, by unfold n2; rw [hm]; rfl⟩) fun σ H H' ⟨_, _, m, hm⟩ h => ⟨h, m, hm⟩) ?_
  refine ts_cons (Q := fun σ H => Jn Hb a (n + 1) σ H ∧ hasN 3 σ) (S.set (i := 3) (by decide +kernel) (pn_div (vr _) pn_int (by decide) (by decide)) rfl fun σ H ⟨h, m, hm⟩ => ⟨m / 1009, by unfold n2; rw [hm]; rfl, h.set (by decide), m / 1009, gN_set (by rw [h.1]; decide)⟩) ?_
  refine ts_cons (Q := fun σ H => Jn Hb a (n + 1) σ H ∧ hasN 3 σ) (PS.imp (ps_if (pt_cmpR op_eq (vr _) pn_int rfl) (pss_one (ts_break (Q := fun _ _ => False) (P := Jn Hb a (n + 1)) (B := Jn Hb a (n + 1)) fun _ _ h => h)) pss_nil) fun D σ H ⟨⟨h, m, hm⟩, z, b⟩ => ?_) ts_nil
  refine ⟨m, hm, 0, rfl, rfl, _, rfl, ?_⟩
  cases e : decide (V.int m = V.int 0) with
  | true => exact ⟨h, fun _ _ z => z.elim, b⟩
  | false => exact z σ H ⟨h, m, hm⟩
theorem pss_strm2 (S : StX X) (h1 : Lin q3) : PSs X (strm2 q1 q2 q3 q) (T (fun σ H => Jn Hb a n σ H ∧ n < 100000 ∧ hasN 4 σ ∧ hasN 5 σ) (fun σ H => Jn Hb a (n + 1) σ H ∧ hasN 5 σ) B) := by
  have vk : ∀ p, PE X (.Name "k" p) (tN (gN 4)) := fun p => S.nv (by decide +kernel)
  have vs : ∀ p, PE X (.Name "stirred" p) (tN (gN 5)) := fun p => S.nv (by decide +kernel)
  refine ts_cons (Q := fun σ H => Jn Hb a n σ H ∧ n < 100000 ∧ hasN 4 σ ∧ hasN 5 σ) (S.set (i := 5) (by decide +kernel) (pn_mod (S.int (pn_add (pn_add (pn_mulR (vs _) pn_int (by decide) (by decide)) (pn_mulL pn_int (vk _) (by decide) (by decide))) pn_int) rfl) pn_int (by decide)) rfl fun σ H ⟨h, l, ⟨k, hk⟩, m, hm⟩ =>
    ⟨(m * 48271 + 7 * k + 11) % 2147483647, by simp only [n2, hm, hk]; rfl, h.set (by decide), l, ⟨k, by rw [gN_ne (by decide)]; exact hk⟩, _, gN_set (by rw [h.1]; decide)⟩) ?_
  refine ts_cons (S.app (n := n) (pn_mod (pn_mod (S.int (pn_add (pn_mulR (vs _) pn_int (by decide) (by decide)) (vk _)) rfl) pn_int (by decide)) pn_int (by decide)) rfl rfl h1 (fun σ H ⟨h, l, ⟨k, hk⟩, m, hm⟩ => ⟨h, l, (m * 69621 + k) % 2147483629 % 1009, by simp only [n2, hm, hk]; rfl⟩) fun σ H H' ⟨_, _, _, m, hm⟩ h => ⟨h, m, hm⟩) ts_nil
theorem pss_strm3 (S : StX X) (h1 : Lin q3) (h2 : Lin q9) : PSs X (strm3 q1 q2 q3 q4 q5 q6 q7 q8 q9 q) (T (fun σ H => Jn Hb a n σ H ∧ n + 60 ≤ 100000 ∧ hasN 2 σ) (Jn Hb a (n + 60)) B) := by
  have vr : ∀ p, PE X (.Name "rest" p) (tN (gN 3)) := fun p => S.nv (by decide +kernel)
  refine ts_cons (Q := fun σ H => Jn Hb a n σ H ∧ n + 60 ≤ 100000 ∧ hasN 3 σ) (S.set (i := 3) (by decide +kernel) (pn_abs (S.gl (by decide +kernel)) (S.blt _ (by decide +kernel)) (S.int (S.nv (i := 2) (by decide +kernel)) rfl) rfl) rfl fun σ H ⟨h, l, m, hm⟩ =>
    ⟨if m < 0 then -m else m, by unfold n1; rw [hm]; rfl, h.set (by decide), l, _, gN_set (by rw [h.1]; decide)⟩) ?_
  have pk : ∀ p, PG X (.Name "k" p) (gName 4) := fun p => S.pg (by decide +kernel)
  have gr : Gl X "range" := S.gl (by decide +kernel)
  have mr : X.mg "range" = none := S.blt _ (by decide +kernel)
  have L1 : PS X (.For (.Name "k" (q 10)) (.Call (.Name "range" (q 11)) [inE 60 (q 12)] [] (q 13)) (strm1 q2 q3 q3 q4) [] (q 14)) (T (fun σ H => Jn Hb a n σ H ∧ n + 60 ≤ 100000 ∧ hasN 3 σ) (Jn Hb a (n + 60)) B) :=
    ts_range (c := 60) (k := 4) (I := fun i σ H => Jn Hb a (n + i) σ H ∧ n + 60 ≤ 100000 ∧ hasN 3 σ) S.pass S.calm (by decide) gr mr (pk _) (fun i hi => PSs.imp (pss_strm1 (n := n + i) S h1) fun D σ H ⟨⟨σ0, ⟨g1, g2, m, g3⟩, e⟩, z, b⟩ => by
      subst e
      exact ⟨⟨g1.set (by decide), by omega, m, by rw [gN_ne (by decide)]; exact g3⟩, fun σ' H' ⟨k1, k2⟩ => z σ' H' ⟨k1, g2, k2⟩, fun σ' H' k1 => b σ' H' (k1.mono (by omega) g2)⟩) (fun σ H h => h) fun σ H h => h.1
  have L2 : PS X (.For (.Name "k" (q 20)) (.Call (.Name "range" (q 21)) [inE 10 (q 22)] [] (q 23)) (strm2 q7 q8 q9 q5) [] (q 24)) (T (fun σ H => Jn Hb a n σ H ∧ n + 60 ≤ 100000 ∧ hasN 5 σ) (Jn Hb a (n + 60)) B) :=
    ts_range (c := 10) (k := 4) (I := fun i σ H => Jn Hb a (n + i) σ H ∧ n + 60 ≤ 100000 ∧ hasN 5 σ) S.pass S.calm (by decide) gr mr (pk _) (fun i hi => PSs.imp (pss_strm2 (n := n + i) S h2) fun D σ H ⟨⟨σ0, ⟨g1, g2, m, g3⟩, e⟩, z, b⟩ => by
      subst e
      exact ⟨⟨g1.set (by decide), by omega, ⟨_, gN_set (by rw [g1.1]; decide)⟩, m, by rw [gN_ne (by decide)]; exact g3⟩, fun σ' H' ⟨k1, k2⟩ => z σ' H' ⟨k1, g2, k2⟩, b⟩) (fun σ H h => h) fun σ H h => h.1.mono (by omega) h.2.1
  refine ts_cons (Q := Jn Hb a (n + 60)) (ts_if (R := fun σ H => Jn Hb a n σ H ∧ n + 60 ≤ 100000 ∧ hasN 3 σ) (P' := fun σ H => Jn Hb a n σ H ∧ n + 60 ≤ 100000 ∧ hasN 3 σ) (h := fun i j => decide (j ≤ i)) (pt_cmpR op_ge (vr _) (pn_pow (c := 10) (d := 18) pn_int pn_int ⟨by decide, by decide, by decide⟩) rfl) (ts_cons L1 ts_nil)
    (ts_cons (Q := fun σ H => Jn Hb a n σ H ∧ n + 60 ≤ 100000 ∧ hasN 5 σ) (S.set (i := 5) (by decide +kernel) (pn_mod (S.int (vr _) rfl) pn_int (by decide)) rfl fun σ H ⟨h, l, m, hm⟩ => ⟨m % 2147483647, by unfold n2; rw [hm]; rfl, h.set (by decide), l, _, gN_set (by rw [h.1]; decide)⟩) (ts_cons L2 ts_nil))
    fun σ H ⟨h, l, m, hm⟩ => ⟨m, 10 ^ 18, hm, rfl, fun _ => ⟨h, l, m, hm⟩, fun _ => ⟨h, l, m, hm⟩⟩) ts_nil
theorem cut_small (zs : List Int) : ∃ ys : List Int, cutV (zs.map V.int) none (some 63) = ys.map V.int ∧ ys.length ≤ 63 := by
  refine ⟨(zs.drop (HT.sIx (zs.map V.int).length 0 none)).take (HT.sIx (zs.map V.int).length (zs.map V.int).length (some 63) - HT.sIx (zs.map V.int).length 0 none), ?_, ?_⟩
  · unfold cutV
    rw [List.map_take, List.map_drop]
  · rw [List.length_take, show HT.sIx (zs.map V.int).length (zs.map V.int).length (some 63) = min 63 (zs.map V.int).length from HT.sIx_nat _ _ 63]
    omega
/-- the whole: some numbers, one at least -/
theorem pss_strm (S : StX X) (h1 : Lin q3) (h2 : Lin q9) (h3 : Lin q11) : PSs X (strm q1 q2 q3 q4 q5 q6 q7 q8 q9 q10 q11 q) (fun D σ H => ∃ (l : Addr) (zs : List Int), σ = L2.start strmN [.ref l] ∧ SqL X.K H l (zs.map V.int) ∧
    ∀ (a : Addr) (ns : List Int) (H' : Hp), Same H H' → H a = none → H' a = some (.lst (ns.map V.int)) → ns ≠ [] → ns.length ≤ 4000 → D.rt (.ref a) H') := by
  have pl : PI X (.Name "cell" (q 3)) (.Subscript (.Name "script" (q 4)) (.Slice none (some (inE 63 (q 5))) none (q 6)) (q 7)) _ := pi_list (pe_slice sl_list (S.var (i := 0) (by decide +kernel)) po_none (po_some pe_int))
  have fr := ps_for (pos := q 8) S.pass S.calm pl (S.pg (i := 2) (by decide +kernel)) (PSs.ex fun x : Hp × Addr × Nat => pss_strm3 (q1 := q1) (q2 := q2) (q3 := q3) (q4 := q4) (q5 := q5) (q6 := q6) (q7 := q7) (q8 := q8) (q9 := q9) (q := q10) (Hb := x.1) (a := x.2.1) (n := x.2.2) (B := fun _ _ => False) S h1 h2)
  have s2 : PS X (.If (.Compare (.Call (.Name "len" (q 9)) [.Name "numbers" (q 10)] [] (q 11)) [.Eq] [inE 0 (q 12)] (q 13)) [appS (inE 0 (q 14)) q11] [] (q 15)) _ :=
    ps_if (pt_cmpR op_eq (pe_callB call_len_seq (S.gl (by decide +kernel)) (S.blt _ (by decide +kernel)) (by decide +kernel) (pa_cons (S.var (i := 1) (by decide +kernel)) pa_nil)) pe_int rfl)
      (pss_one (ps_expr (pe_bm F.plainAttrs_list F.slot_list_append F.type_list_append mt_append (S.var (i := 1) (by decide +kernel)) (pa_cons pe_int pa_nil) rfl rfl h3) rfl)) pss_nil
  refine PSs.imp (pss_cons (ps_set (i := 1) (by rw [S.hN]; decide +kernel) (by rw [S.hN]; rfl) (.inl (by rw [S.nm]; decide +kernel)) (pe_lst pa_nil) rfl (.inl (S.fn _))) (pss_cons fr (pss_cons s2 (pss_one (ps_ret (S.var (i := 1) (by decide +kernel))))))) fun Dn σ H ⟨l, zs, e, hl, h⟩ => ?_
  subst e
  refine ⟨by rw [sizeLine_eq]; show 0 ≤ _; omega, fun a ha => ?_⟩
  have la : SqL X.K (upd H a (.lst [])) l (zs.map V.int) := Same.seq (same_new ha) hl
  refine ⟨.ref l, rfl, 63, rfl, l, _, rfl, la, fun b hb => ⟨b, rfl, ⟨_, SqL.of upd_same⟩, ?_⟩⟩
  obtain ⟨ys, ey, ly⟩ := cut_small zs
  rw [ey]
  have ba : a ≠ b := fun z => by rw [← z, upd_same] at hb; cases hb
  have hb0 : H b = none := by rw [upd_ne ba.symm] at hb; exact hb
  have j0 : Jn (upd H b (.lst (ys.map V.int))) a 0 ((L2.start strmN [V.ref l]).set 1 (some (.ref a))) (upd (upd H a (.lst [])) b (.lst (ys.map V.int))) := by
    refine ⟨rfl, rfl, by rw [upd_ne ba]; exact ha, fun c o e => ?_, [], by rw [upd_ne ba, upd_same]; rfl, Nat.le_refl _, by omega⟩
    by_cases hc : c = b
    · rw [hc, upd_same] at e ⊢
      exact e
    · rw [upd_ne hc] at e ⊢
      rw [upd_ne fun z => by rw [z, ha] at e; cases e]
      exact e
  refine for_list (K := X.K) (a := b) (g := gName 2) (tb := fun D σ H => ∃ x : Hp × Addr × Nat, T (fun σ H => Jn x.1 x.2.1 x.2.2 σ H ∧ x.2.2 + 60 ≤ 100000 ∧ hasN 2 σ) (Jn x.1 x.2.1 (x.2.2 + 60)) (fun _ _ => False) D σ H) (D := { Dn with nx := _ }) (fun t σ H' => Jn (upd H b (.lst (ys.map V.int))) a (60 * t) σ H') j0 (fun i σ H' _ h' => SqL.of (h'.2.2.2.1 b _ upd_same)) (fun i x σ H' ex h' => ?_) fun σ H' h' => ?_
  · have hi : i < ys.length := by
      have := (List.getElem?_eq_some_iff.mp ex).1
      rwa [List.length_map] at this
    rw [List.getElem?_map] at ex
    obtain ⟨m, _, rfl⟩ := Option.map_eq_some_iff.mp ex
    exact ⟨(_, a, 60 * i), ⟨h'.set (by decide), by show 60 * i + 60 ≤ _; omega, m, gN_set (by rw [h'.1]; decide)⟩, fun σ2 H2 h2 => h2, fun _ _ z => z.elim⟩
  · rw [List.length_map] at h'
    obtain ⟨k1, k2, k3, k4, ns, k5, k6, k7⟩ := h'
    have sm : Same H H' := fun c o e => k4 c o (by rw [upd_ne fun z => by rw [z, hb0] at e; cases e]; exact e)
    refine ⟨.ref a, k2, a, _, rfl, .inl (SqL.of k5), rfl, _, rfl, ?_⟩
    rw [dec_int, List.length_map]
    cases ns with
    | nil =>
      show if ((0 : Int) == 0) = true then _ else _
      rw [if_pos (show ((0 : Int) == 0) = true from by decide)]
      refine ⟨.ref a, k2, .inl ⟨rfl, _, SqL.of k5⟩, a, _, .int 0, rfl, rfl, k5, by rw [sizeLine_eq]; show 0 < _; omega, .ref a, k2, ?_⟩
      exact h a [0] _ (fun c o e => by rw [upd_ne fun z => by rw [z, ha] at e; cases e]; exact sm c o e) ha upd_same (by simp) (by simp)
    | cons n ns =>
      rw [if_neg (by rw [List.length_cons]; intro z; have := eq_of_beq z; omega)]
      exact ⟨.ref a, k2, h a (n :: ns) H' sm ha k5 (by simp) (by omega)⟩
end
end
end PL

set_option maxHeartbeats 4000000
/-! PL24: the law's own draw; the defs of the stream and of the draw. -/
namespace PL
open PySem PySem.Spec L2
open PyProof.Rows (envOfC)
open Classical
/-- the k-th number of the stream, below m -/
def drawI (ns : List Int) (k m : Int) : Int := (ns.getD (k % ns.length).toNat 0 + k / ns.length * 389 + k * (k / ns.length) * 17) % m
def nextD (ns : List Int) : List D → Int → R D
  | [.cell, .int m], k => if 0 < m ∧ 0 ≤ k ∧ k < 2 ^ 60 ∧ ns ≠ [] ∧ ns.length ≤ 4000 then .ok (.int (drawI ns (k + 1) m)) (k + 1) else .no
  | _, _ => .no
def nextBd (q : Nat → Pos) : List Stmt :=
  [.Assign [.Subscript (.Name "state" (q 0)) (inE 1 (q 1)) (q 2)] (.BinOp (.Subscript (.Name "state" (q 3)) (inE 1 (q 4)) (q 5)) .Add (inE 1 (q 6)) (q 7)) (q 8),
    .Assign [.Name "turn" (q 9)] (.BinOp (.Subscript (.Name "state" (q 10)) (inE 1 (q 11)) (q 12)) .FloorDiv (.Call (.Name "len" (q 13)) [.Subscript (.Name "state" (q 14)) (inE 0 (q 15)) (q 16)] [] (q 17)) (q 18)) (q 19),
    .Return (some (.BinOp (.Call (.Name "int" (q 20)) [.BinOp (.BinOp (.Subscript (.Subscript (.Name "state" (q 21)) (inE 0 (q 22)) (q 23)) (.BinOp (.Subscript (.Name "state" (q 24)) (inE 1 (q 25)) (q 26)) .Mod (.Call (.Name "len" (q 27)) [.Subscript (.Name "state" (q 28)) (inE 0 (q 29)) (q 30)] [] (q 31)) (q 32)) (q 33)) .Add
      (.BinOp (.Name "turn" (q 34)) .Mult (inE 389 (q 35)) (q 36)) (q 37)) .Add (.BinOp (.BinOp (.Subscript (.Name "state" (q 38)) (inE 1 (q 39)) (q 40)) .Mult (.Name "turn" (q 41)) (q 42)) .Mult (inE 17 (q 43)) (q 44)) (q 45)] [] (q 46)) .Mod (.Name "many" (q 47)) (q 48))) (q 49)]
def nextN : List Str := ["state", "many", "turn"]
def nextNames : List (Str × NameKind) := [(PySem.Str.ofString "state", .local), (PySem.Str.ofString "many", .local), (PySem.Str.ofString "turn", .local), (PySem.Str.ofString "len", .globalImplicit), (PySem.Str.ofString "int", .globalImplicit)]
section
variable {X : Cx} {C : Cn} {q : Nat → Pos}
theorem pss_next (hK : X.K = C.K) (nm : X.env.scope.names = nextNames) (hN : X.N = nextN) (fn : ∀ x, X.fn x = true) (b1 : X.mg "len" = none) (b2 : X.mg "int" = none) : PSs X (nextBd q) (fun D σ H => ∃ m k : Int, σ = L2.start nextN [.ref C.aS, .int m] ∧ H C.aS = some (.lst [.ref C.aN, .int k]) ∧ C.aN ≠ C.aS ∧ Rd H C.aN (.lst (C.ns.map V.int)) ∧
    (0 < m ∧ 0 ≤ k ∧ k < 2 ^ 60 ∧ C.ns ≠ [] ∧ C.ns.length ≤ 4000) ∧ D.rt (.int (drawI C.ns (k + 1) m)) (upd H C.aS (.lst [.ref C.aN, .int (k + 1)]))) := by
  have vs : ∀ {i : Nat} {x : Str} {p : Pos}, (nextN[i]? = some x ∧ nextNames.lookup x = some .local ∧ (x == ("__debug__" : Str)) = false ∧ (x == ("__classdict__" : Str)) = false) → PE X (.Name x p) (tVar i) := fun h => pe_var (by rw [hN]; exact h.1) (.inl (by rw [nm]; exact h.2.1)) h.2.2.1 h.2.2.2
  have g : ∀ {x : Str}, nextNames.lookup x = some .globalImplicit → Gl X x := fun h => by
    show X.env.scope.names.lookup _ = _
    rw [nm]
    exact h
  have v0 : ∀ p, PE X (.Name "state" p) (tVar 0) := fun p => vs (by decide +kernel)
  have v1 : ∀ p, PE X (.Name "many" p) (tVar 1) := fun p => vs (by decide +kernel)
  have v2 : ∀ p, PE X (.Name "turn" p) (tVar 2) := fun p => vs (by decide +kernel)
  have at1 : ∀ p1 p2 p3, PE X (.Subscript (.Name "state" p1) (inE 1 p2) p3) (tOp (rIxL X.K) (tVar 0) (tC (.int 1))) := fun p1 p2 p3 => pe_ix ix_list (v0 _) pe_int fun _ _ => rfl
  have at0 : ∀ p1 p2 p3, PE X (.Subscript (.Name "state" p1) (inE 0 p2) p3) (tOp (rIxL X.K) (tVar 0) (tC (.int 0))) := fun p1 p2 p3 => pe_ix ix_list (v0 _) pe_int fun _ _ => rfl
  have ln : ∀ p1 p2 p3 p4 p5, PE X (.Call (.Name "len" p1) [.Subscript (.Name "state" p2) (inE 0 p3) p4] [] p5) _ := fun p1 p2 p3 p4 p5 => pe_callB call_len_seq (g (by decide +kernel)) b1 (by decide +kernel) (pa_cons (at0 p2 p3 p4) pa_nil)
  refine PSs.imp (pss_cons (ps_asg (pe_op op_add (at1 _ _ _) pe_int) (pg_sub (v0 _) pe_int set_list)) (pss_cons (ps_set (i := 2) (by rw [hN]; decide +kernel) (by rw [hN]; rfl) (.inl (by rw [nm]; decide +kernel)) (pe_op op_fdiv (at1 _ _ _) (ln _ _ _ _ _)) rfl (.inl (fn _)))
    (pss_one (ps_ret (pe_op op_mod (pe_callTy call_int1 (g (by decide +kernel)) b2 (by decide +kernel) (pa_cons (pe_op op_add (pe_op op_add (pe_ix ix_list (at0 _ _ _) (pe_op op_mod (at1 _ _ _) (ln _ _ _ _ _)) fun _ _ => rfl) (pe_op op_mul (v2 _) pe_int)) (pe_op op_mul (pe_op op_mul (at1 _ _ _) (v2 _)) pe_int)) pa_nil)) (v1 _)))))) fun Dn σ H ⟨m, k, es, hc, ne, hn, ⟨hm, hk0, hk1, hns, hl⟩, h⟩ => ?_
  subst es
  have i1 : ∀ j : Int, atI [V.ref C.aN, .int j] 1 = some (.int j) := fun j => rfl
  have i0 : ∀ j : Int, atI [V.ref C.aN, .int j] 0 = some (.ref C.aN) := fun j => rfl
  generalize hH1 : upd H C.aS (.lst [.ref C.aN, .int (k + 1)]) = H1 at h
  have c1 : H1 C.aS = some (.lst [.ref C.aN, .int (k + 1)]) := by rw [← hH1]; exact upd_same
  have n1 : Rd H1 C.aN (.lst (C.ns.map V.int)) := by
    unfold Rd
    rw [← hH1, upd_ne ne]
    exact hn
  have len0 : (0 : Int) < C.ns.length := by
    have := List.length_pos_iff.mpr hns
    omega
  have sq : SqL X.K H1 C.aN (C.ns.map V.int) := by
    rcases n1 with n1 | ⟨o, n1⟩
    · exact SqL.of n1
    · exact .inl (.inr ⟨o, n1⟩)
  refine ⟨.ref C.aS, rfl, C.aS, _, 1, .int k, rfl, rfl, SqL.of hc, i1 k, k, 1, rfl, rfl, .ref C.aS, rfl, C.aS, _, 1, 1, rfl, rfl, hc, rfl, ?_⟩
  show tSeq _ _ Dn _ (upd H C.aS (.lst [.ref C.aN, .int (k + 1)]))
  rw [hH1]
  have ll : ((C.ns.map V.int).length : Int) = C.ns.length := by rw [List.length_map]
  refine ⟨.ref C.aS, rfl, C.aS, _, 1, .int (k + 1), rfl, rfl, SqL.of c1, i1 _, .ref C.aS, rfl, C.aS, _, 0, .ref C.aN, rfl, rfl, SqL.of c1, i0 _, C.aN, _, rfl, .inl sq, k + 1, _, rfl, rfl, by rw [ll]; exact ⟨len0, by omega⟩, ?_⟩
  have hix : atI (C.ns.map V.int) ((k + 1) % C.ns.length) = some (.int (C.ns.getD ((k + 1) % C.ns.length).toNat 0)) := by
    have p0 : 0 ≤ (k + 1) % (C.ns.length : Int) := Int.emod_nonneg _ (by omega)
    have p1 : (k + 1) % (C.ns.length : Int) < C.ns.length := Int.emod_lt_of_pos _ len0
    have pt : ((k + 1) % (C.ns.length : Int)).toNat < C.ns.length := by omega
    unfold atI ixN
    rw [if_pos p0, List.length_map, if_pos p1]
    show (C.ns.map V.int)[((k + 1) % (C.ns.length : Int)).toNat]? = _
    rw [List.getElem?_map, List.getElem?_eq_getElem pt, List.getD_eq_getElem?_getD, List.getElem?_eq_getElem pt]
    rfl
  rw [ll]
  have st : ∀ v : V, (List.set (L2.start nextN [V.ref C.aS, V.int m]) 2 (some v))[0]? = some (some (V.ref C.aS)) ∧ (List.set (L2.start nextN [V.ref C.aS, V.int m]) 2 (some v))[1]? = some (some (V.int m)) ∧ (List.set (L2.start nextN [V.ref C.aS, V.int m]) 2 (some v))[2]? = some (some v) := fun v => ⟨rfl, rfl, rfl⟩
  obtain ⟨s0, s1, s2⟩ := st (.int ((k + 1) / (C.ns.length : Int)))
  refine ⟨.ref C.aS, s0, C.aS, _, 0, .ref C.aN, rfl, rfl, SqL.of c1, i0 _, .ref C.aS, s0, C.aS, _, 1, .int (k + 1), rfl, rfl, SqL.of c1, i1 _, .ref C.aS, s0, C.aS, _, 0, .ref C.aN, rfl, rfl, SqL.of c1, i0 _, C.aN, _, rfl, .inl sq, k + 1, (C.ns.map V.int).length, rfl, rfl, by rw [ll]; exact len0, ?_⟩
  rw [ll]
  refine ⟨C.aN, _, _, _, rfl, rfl, sq, hix, .int _, s2, _, 389, rfl, rfl, .inr ⟨by decide, by decide⟩, _, _, rfl, rfl, .ref C.aS, s0, C.aS, _, 1, .int (k + 1), rfl, rfl, SqL.of c1, i1 _, .int _, s2, k + 1, _, rfl, rfl, .inl ⟨by omega, by omega⟩, _, 17, rfl, rfl, .inr ⟨by decide, by decide⟩, _, _, rfl, rfl, .inl ⟨_, rfl, .int m, s1, _, m, rfl, rfl, hm, h⟩⟩
end
theorem nextD_cases (ns : List Int) (ds : List D) (k : Int) : nextD ns ds k = .no ∨ ∃ m, ds = [.cell, .int m] ∧ (0 < m ∧ 0 ≤ k ∧ k < 2 ^ 60 ∧ ns ≠ [] ∧ ns.length ≤ 4000) ∧ nextD ns ds k = .ok (.int (drawI ns (k + 1) m)) (k + 1) := by
  unfold nextD
  split
  · rename_i m
    by_cases hc : 0 < m ∧ 0 ≤ k ∧ k < 2 ^ 60 ∧ ns ≠ [] ∧ ns.length ≤ 4000
    · exact .inr ⟨m, rfl, hc, if_pos hc⟩
    · exact .inl (if_neg hc)
  · exact .inl rfl
/-- the def of the draw -/
theorem fnr_next {C : Cn} {k : Nat} {f : Addr} {nm ql : Str} {par : Arguments} {bd : List Stmt} {sc : Scope} {dV kV doc pm cdv ct oc : Value} {an od : Option Addr} {osl : Array (Option Value)} {q : Nat → Pos}
    (lk : C.K.lookup f = some ⟨oc, od, .func (PySem.W.fnOf nm ql par bd sc dV kV doc pm an cdv ct), osl⟩) (hc : PySem.W.codeIn C.K cdv ql = true) (S : FnScope nextN ["state", "many"] sc) (hm : C.mg "_law_next" = some (.ref f)) (hk : PySem.W.keepIn C.K (.ref f) = true)
    (hb : Binds C.K (PySem.W.fnOf nm ql par bd sc dV kV doc pm an cdv ct) ["state", "many"] []) (hn : sc.names = nextNames) (hbd : bd = nextBd q) (b1 : C.mg "len" = none) (b2 : C.mg "int" = none) : FnR C (k + 1) "_law_next" 2 (nextD C.ns) := by
  subst hbd
  refine ⟨f, _, ["state", "many"], hm, hk, hb, fng_of lk hc S ?_ ?_⟩
  · rintro vs H Q E ⟨O, ds, k', _, _, _, _, _, r, e, _⟩
    rw [r.length, e]
    rfl
  · rintro A outer s H vs Q E hg hr ⟨O, ds, k', oS, oN, tr, cell, nums, r, e, z⟩
    refine ⟨_, pss_next (C := C) (q := q) rfl hn rfl (fun _ => rfl) b1 b2, ?_⟩
    rcases nextD_cases C.ns ds k' with e1 | ⟨m, rfl, hc, e1⟩
    · rw [e1] at z
      exact False.elim z
    · rw [e1] at z
      obtain ⟨v, w, rfl, h1, h2⟩ := r.two
      cases h1
      cases h2
      exact ⟨m, k', rfl, cell, fun e => oN (e ▸ oS), nums, hc, z _ _ (fun a o e n => by rw [upd_ne n]; exact e) upd_same (.int _)⟩
/-- the def of the stream: some numbers -/
def spStrm (K : PySem.W.Frag) : Sp := fun vs H Q _ => ∃ (l : Addr) (zs : List Int), vs = [.ref l] ∧ SqL K H l (zs.map V.int) ∧ ∀ (a : Addr) (ns : List Int) (H' : Hp), Same H H' → H a = none → H' a = some (.lst (ns.map V.int)) → ns ≠ [] → ns.length ≤ 4000 → Q (.ref a) H'
theorem fng_strm {C : Cn} {k : Nat} {f : Addr} {nm ql : Str} {par : Arguments} {bd : List Stmt} {sc : Scope} {dV kV doc pm cdv ct oc : Value} {an od : Option Addr} {osl : Array (Option Value)} {q1 q2 q3 q4 q5 q6 q7 q8 q9 q10 q11 q : Nat → Pos}
    (lk : C.K.lookup f = some ⟨oc, od, .func (PySem.W.fnOf nm ql par bd sc dV kV doc pm an cdv ct), osl⟩) (hc : PySem.W.codeIn C.K cdv ql = true) (S : FnScope strmN ["script"] sc) (hn : sc.names = strmNames) (hbd : bd = strm q1 q2 q3 q4 q5 q6 q7 q8 q9 q10 q11 q)
    (h1 : Lin q3) (h2 : Lin q9) (h3 : Lin q11) (blt : ∀ x ∈ ([PySem.Str.ofString "abs", PySem.Str.ofString "int", PySem.Str.ofString "range", PySem.Str.ofString "len"] : List Str), C.mg x = none) :
    FnG C.P C.w C.K C.mg C.base (k + 1) f (PySem.W.fnOf nm ql par bd sc dV kV doc pm an cdv ct) ["script"] (spStrm C.K) := by
  subst hbd
  refine fng_of lk hc S ?_ ?_
  · rintro vs H Q E ⟨l, zs, rfl, _⟩
    rfl
  · rintro A outer s H vs Q E hg hr ⟨l, zs, rfl, hl, h⟩
    exact ⟨_, pss_strm { calm := rfl, pass := passes_of rfl, nm := hn, hN := rfl, fn := fun _ => rfl, blt := blt } h1 h2 h3, l, zs, rfl, hl, h⟩
end PL

set_option maxHeartbeats 4000000
/-! PL25: calls of defs that a slot holds; two things made and stored at once. -/
namespace PL
open PySem PySem.Spec L2
open Classical
section
variable {C : Cn} {lvl : Nat} {sc : Bl} {N : List Str} {lo own own' : List Nat} {pos : Pos} {a : Expr} {es : List Expr} {ms : Els}
abbrev Disp := Str → Option (Nat × (List D → Int → R D))
def eCallV (i : Nat) (disp : Disp) (ms : Els) : Ev := fun env k => match env[i]? with
  | some (some (.fn y)) => match disp y with
    | some nf => (ms env k).bind fun ds k1 => if ds.length = nf.1 then nf.2 ds k1 else .no
    | none => .no
  | _ => .no
theorem de_callV {x : Str} {p : Pos} {i j : Nat} {disp : Disp} (h : okVar sc N i x = true) (ni : i ∉ own) (hf : ∀ y n φ, disp y = some (n, φ) → FnR C j y n φ) (hj : j ≤ lvl) (ha : DA C lvl sc N own (a :: es) ms)
    (hs : ∀ env : PySem.Env, starEach (a :: es) env = (false, eval a env) :: starEach es env) (hpl : ∀ (env : PySem.Env) (p : Pos), (backTo p (starEach es env)).any (·.1) = false) :
    DE C lvl sc N own (.Call (.Name x p) (a :: es) [] pos) (eCallV i disp ms) := fun F H0 E X G => by
  refine ⟨fun pins s σ H Q I ⟨env, k, r, q⟩ => ?_⟩
  unfold eCallV at q
  split at q
  · rename_i y ey
    obtain ⟨v, e1, z⟩ := r.var i _ ey
    rcases z with ⟨_, z⟩ | ⟨m, _⟩
    · cases z with
      | @fn _ f0 hm =>
        cases ed : disp y with
        | none =>
          rw [ed] at q
          exact False.elim q
        | some nf =>
          obtain ⟨n, φ⟩ := nf
          rw [ed] at q
          obtain ⟨f, fd, ps, m1, m2, m3, m4⟩ := (hf y n φ ed).ex
          rw [hm] at m1
          cases m1
          refine wpAny_Call_Name_kw (thn ((okVar.pe (pos := p) G h).run pins s σ H (fun v H1 => v = .ref f0 ∧ H1 = H) I ⟨.ref f0, e1, rfl, rfl⟩) fun u s1 ⟨v, H1, I1, r1, q1⟩ => ?_)
          obtain ⟨rfl, rfl⟩ := q1
          cases r1
          have q' : tEvA C F H0 own ms E σ H1 (fun vs H2 => spF C φ n vs H2 Q E) := by
            refine ⟨env, k, r, AfterL.bindE r q fun ds k1 vs H2 hm r1 kp1 z1 q1 => ?_⟩
            by_cases hl : ds.length = n
            · have q1 : After C F H0 own E σ H2 env (if ds.length = n then φ ds k1 else .no) _ Q := q1
              rw [if_pos hl] at q1
              refine ⟨OA F own σ, ds, k1, r1.oaS, ?_, r1.tracked, r1.cell, r1.nums, z1, hl, ?_⟩
              · rintro (z | ⟨i, hi, ei⟩)
                · exact r1.fN z
                · obtain ⟨b, eb, _, nb, _⟩ := r1.mine i hi
                  rw [ei] at eb
                  cases eb
                  exact nb rfl
              · cases hφ : φ ds k1 with
                | ok d k2 =>
                  rw [hφ] at q1
                  exact fun v H3 kp2 c2 z2 => q1 v H3 (r1.after kp2 c2 r1.aNS) kp2 z2
                | ex c k2 =>
                  rw [hφ] at q1
                  exact fun H3 kp2 c2 => q1 H3 (r1.after kp2 c2 r1.aNS) kp2
                | no =>
                  rw [hφ] at q1
                  exact q1
            · have q1 : After C F H0 own E σ H2 env (if ds.length = n then φ ds k1 else .no) (fun H' v d => Rp C (OA F own σ) H' v d) Q := q1
              rw [if_neg hl] at q1
              exact False.elim q1
          have F4 : FnG X.prog X.w X.K X.mg X.base lvl f0 fd ps (spF C φ n) := by
            rw [G.prog, G.w, G.K, G.mg, G.base]
            exact m4.raise hj
          refine PySem.W.callWith_K (h₀ := X.base) I.ok.mod.kin (by rw [G.K]; exact m2) (thn ((ha F H0 E X G).run pos pins s1 σ H1 _ I1 q') fun us s2 ⟨vs, H2, I2, rv, q2⟩ => ⟨I2.kIn, ?_⟩) (hs X.env) (hpl X.env _)
          exact run_fng F4 G.guards G.room (by rw [G.K]; exact m3) G.takes I2 rv q2
    · exact absurd m ni
  · exact False.elim q

/-! ### a, b = (made, made) -/
/-- the same where a thing of the frame's own making stands -/
theorem RelS.more {F : Addr → Prop} {H0 H H' : Hp} {σ : L2.St} {env : Env} {k k' : Int} {p : Addr} (r : RelS C F H0 own σ H env k) (kp : KeptS C H H') (c : H' C.aS = some (.lst [.ref C.aN, .int k'])) (hp : H p = none) (al : H' p ≠ none) : RelS C (fun a => F a ∨ a = p) H0 own σ H' env k' := by
  have r1 := r.after kp c r.aNS
  have pO : ∀ a, H a ≠ none → ¬ OA F own σ a → ¬ OA (fun a => F a ∨ a = p) own σ a := fun a n no z => by
    rcases z with (z | z) | z
    · exact no (.inl z)
    · exact n (z ▸ hp)
    · exact no (.inr z)
  have kO : Kept (OA (fun a => F a ∨ a = p) own σ) H H' := kp.kept _ (.inl (.inl r.fS)) r.cell
  refine ⟨r.len, c, r1.nums, .inl r.fS, fun z => z.elim r.fN fun e => PL.Rd.some r.nums (e ▸ hp), fun a z => z.elim (fun z => kp.alive c (r.ftr a z)) fun e => e ▸ al, r1.base, fun i d e => ?_, fun i hi => ?_, r.inj⟩
  · obtain ⟨v, e1, z⟩ := r.var i d e
    refine ⟨v, e1, z.imp (fun ⟨n, z⟩ => ⟨n, z.lift (r.kept kp) pO⟩) fun ⟨m, z⟩ => ⟨m, (z.lift pO).step kO fun a o ev ea => kp a o ea ?_⟩⟩
    subst ev
    exact r.ownNe m e1
  · obtain ⟨a, e1, nf, nN, h0, n⟩ := r.mine i hi
    exact ⟨a, e1, fun z => z.elim nf fun e => n (e ▸ hp), nN, h0, kp.alive c n⟩
def sParF (i j : Nat) (ma mb : Ev) : Stm := fun env k => (ma env k).bind fun x k1 => (mb env k1).bind fun y k2 => if i < env.length ∧ j < env.length then .ok (.nx ((env.set i (some x)).set j (some y))) k2 else .no
theorem ds_parF {i j : Nat} {x y : Str} {a b : Expr} {ma mb : Ev} {px py pt pt2 : Pos} {kt k2 : Nat} (hi : okSet sc N i x = true) (hj : okSet sc N j y = true) (li : sc.names.lookup x = some .local) (lj : sc.names.lookup y = some .local) (hij : i ≠ j) (ho : ∀ l ∈ own', l = i ∨ l = j ∨ (l ∈ own ∧ l ≠ i ∧ l ≠ j)) (io : i ∉ own) (jo : j ∉ own)
    (ha : DF C lvl sc N own a ma) (hb : DF C lvl sc N own b mb)
    (hw : ∀ env : PySem.Env, env.scope = sc.sc → env.blockKind = .function → swappedStores [.Tuple [.Name x px, .Name y py] kt pt] (.Tuple [a, b] k2 pt2) env = pure (some [x, y]))
    (hs : ∀ env : PySem.Env, swapsWithSole [.Tuple [.Name x px, .Name y py] kt pt] (.Tuple [a, b] k2 pt2) pos.line env = pure false) (hsa : ∀ env : PySem.Env, starEach [a, b] env = (false, eval a env) :: starEach [b] env) (hsb : ∀ env : PySem.Env, starEach [b] env = (false, eval b env) :: starEach [] env) :
    DS C lvl sc N lo own own' (.Assign [.Tuple [.Name x px, .Name y py] kt pt] (.Tuple [a, b] k2 pt2) pos) (sParF i j ma mb) := fun F H0 E X G => by
  refine PS.imp (ps_par G.calm G.nd (okSet.get G hi).1 (okSet.get G hj).1 hij (by rw [G.scope]; exact li) (by rw [G.scope]; exact lj) (pa_cons (ha F H0 E X G) (pa_cons (PE.ex fun F => PE.ex fun H0 => hb F H0 E X G) pa_nil (hsb X.env)) (hsa X.env)) (hw X.env G.scope G.kind) (hs X.env)) fun Dn σ H ⟨env, k, r, q⟩ => ?_
  refine ⟨env, k, r, ?_⟩
  unfold sParF at q
  cases ea : ma env k with
  | ex c k1 =>
    rw [ea] at q
    exact fun H' r1 _ => q H' r1.hold
  | no =>
    rw [ea] at q
    exact q
  | ok d k1 =>
    rw [ea] at q
    intro v H1 r1 kp1 fr1
    obtain ⟨p1, rfl, hp1, w1⟩ := fr1
    obtain ⟨p1', e1, p1S, al1, _⟩ := own_ref w1
    cases e1
    have rm := r.more kp1 r1.cell hp1 al1
    refine ⟨_, H0, env, k1, rm, ?_⟩
    have q : AfterS C F H0 lo own own' E σ H ((mb env k1).bind fun y k2 => if i < env.length ∧ j < env.length then .ok (.nx ((env.set i (some d)).set j (some y))) k2 else .no) Dn := q
    cases eb : mb env k1 with
    | ex c k2 =>
      rw [eb] at q
      exact fun H' r2 _ => q H' (r2.lessF (fun a z => .inl z) r.fS).hold
    | no =>
      rw [eb] at q
      exact q
    | ok e k2 =>
      rw [eb] at q
      have q : AfterS C F H0 lo own own' E σ H (if i < env.length ∧ j < env.length then .ok (.nx ((env.set i (some d)).set j (some e))) k2 else .no) Dn := q
      by_cases hl : i < env.length ∧ j < env.length
      · rw [if_pos hl] at q
        intro w H2 r2 kp2 fr2
        refine ⟨_, _, rfl, ?_⟩
        have s1 := r.setF (own' := i :: own) kp1 r1.cell hl.1 ⟨p1, rfl, hp1, w1⟩ fun l hl => by
          rcases List.mem_cons.mp hl with e | e
          · exact .inl e
          · exact .inr e
        obtain ⟨p2, rfl, hp2, w2⟩ := fr2
        have sub : ∀ a, OA F (i :: own) (σ.set i (some (.ref p1))) a → OA (fun a => F a ∨ a = p1) own σ a := fun a z => by
          rcases z with z | ⟨l, hl2, e3⟩
          · exact .inl (.inl z)
          · by_cases el : l = i
            · subst el
              rw [List.getElem?_set_self (by rw [← r.len]; exact hl.1)] at e3
              cases e3
              exact .inl (.inr rfl)
            · rw [List.getElem?_set_ne (Ne.symm el)] at e3
              exact .inr ⟨l, (List.mem_cons.mp hl2).resolve_left el, e3⟩
        have s2 := s1.1.setF (own' := own') kp2 r2.cell (i := j) (v := .ref p2) (d := e) (by rw [List.length_set]; exact hl.2) ⟨p2, rfl, hp2, w2.less fun b z => z.imp (sub b) id⟩ fun l hl2 => by
          rcases ho l hl2 with e | e | e
          · exact .inr (e ▸ List.mem_cons_self)
          · exact .inl e
          · exact .inr (List.mem_cons_of_mem _ e.1)
        exact q _ H2 s2.1 (s1.2.trans s2.2)
      · rw [if_neg hl] at q
        exact False.elim q
end
end PL

set_option maxHeartbeats 4000000
/-! PL25R: in a range. -/
namespace PL
open PySem PySem.Spec L2 PyProof.Rows
open Classical
/-- a in range(b) -/
def fInRng (neg : Bool) : D → D → Option D
  | .int i, .int j => some (.bl (neg != decide (0 ≤ i ∧ i < j)))
  | _, _ => none
section
variable {X : Cx}
theorem cr_upTo : CallR X (.type "range") (fun vs H Q => ∃ j, vs = [V.int j] ∧ ∀ p, H p = none → Q (.ref p) (upd H p (.rng 0 j))) := by
  intro pins s σ H vs us Q I r h
  obtain ⟨j, rfl, q⟩ := h
  cases r with
  | cons r1 r2 =>
  cases r2
  obtain ⟨t, rfl⟩ := r1
  refine call_range_1 ⟨.ref s.heap.objs.size, upd H s.heap.objs.size (.rng 0 j), I.laid (t' := s.toks + 1 + 1) (fun b o e => Heap.get?_push_of_some _ e) (Nat.le_refl _) ?_, rfl, q _ (I.hok.fresh (Nat.le_refl _))⟩
  exact ⟨s.toks, t, s.toks + 1, Heap.get?_push_size _ rfl⟩
/-- i not in r -/
theorem op_notin_rng : OpR X (compareOp .NotIn) (fun x y H Q => ∃ i a lo hi, x = V.int i ∧ y = V.ref a ∧ H a = some (.rng lo hi) ∧ Q (.bl (!decide (lo ≤ i ∧ i < hi))) H) := by
  intro pins s σ H x y v u Q I rx ry h
  obtain ⟨i, a, lo, hi, rfl, rfl, ha, q⟩ := h
  obtain ⟨k, rfl⟩ := rx
  cases ry
  obtain ⟨t1, t2, t3, ho⟩ := I.hok a _ ha
  show wpAny _ _ (do return Value.bool (!(← contains (Value.ref a) (Value.int i k)))) _ _ s
  refine wpAny_bind (wpAny_contains_slot (T := "range") ⟨_, ho, rfl⟩ F.slot_range_contains (call_meets F.slot_range_contains ⟨_, ho, rfl⟩ F.entry_range_contains (F.args_range_contains_2 _ _) (q_contains a lo hi i t1 t2 t3 k) ⟨ho, wpAny_truthy_bool (wpAny_pure ⟨.bl _, H, I, rfl, ?_⟩)⟩))
  rw [place1]
  exact q
end
section
variable {C : Cn} {lvl : Nat} {sc : Bl} {N : List Str} {own : List Nat} {pos p : Pos} {a b : Expr} {ma mb : Ev}
theorem RpL.toV1 {O : Addr → Prop} {H : Hp} {vs : List V} {e : D} (h : RpL C O H vs [e]) : ∃ v, vs = [v] ∧ Rp C O H v e := h.one
theorem de_inRngAny {op : CmpOp} {neg : Bool} (ho : ∀ X : Cx, OpR X (compareOp op) (fun x y H Q => ∃ i a lo hi, x = V.int i ∧ y = V.ref a ∧ H a = some (.rng lo hi) ∧ Q (.bl (neg != decide (lo ≤ i ∧ i < hi))) H))
    (p2 : Pos) (hg : okBlt sc ("range" : Str) = true) (hm : C.mg "range" = none) (ha : DE C lvl sc N own a ma) (hb : DE C lvl sc N own b mb) (hs : ∀ env : PySem.Env, starEach [b] env = [(false, eval b env)])
    (hk : behindInMarks op (.Call (.Name "range" p) [b] [] p2) = false) : DE C lvl sc N own (.Compare a [op] [.Call (.Name "range" p) [b] [] p2] pos) (e2 (fInRng neg) ma mb) := fun F H0 E X G =>
  PE.imp (pe_cmpR (ho X) (ha F H0 E X G) (pe_callTy cr_upTo (okBlt.gl G hg).1 (by rw [G.mg]; exact hm) boot_range (pa_cons (hb F H0 E X G) pa_nil (hs X.env)) (okBlt.gl G hg).2.1 (okBlt.gl G hg).2.2 (hs X.env)) hk) fun σ H Q ⟨env, k, r, q⟩ => by
    refine ⟨env, k, r, q.bind r fun d k1 v H1 _ r1 kp1 z1 q1 => ⟨env, k1, r1, q1.bind r1 fun e k2 w H2 _ r2 kp2 z2 q2 => ?_⟩⟩
    obtain ⟨x, ex, q3⟩ := q2.some
    cases d with
    | int i =>
      cases e with
      | int j =>
        obtain rfl := Option.some.inj ex
        cases z1
        cases z2
        refine ⟨j, rfl, fun p hp => ⟨i, p, 0, j, rfl, rfl, upd_same .., ?_⟩⟩
        exact q3 _ _ (r2.same (same_new hp)) (.of_same (same_new hp)) (.bl _)
      | _ => cases ex
    | _ => cases e <;> cases ex
theorem dt_inRngAny {op : CmpOp} {neg : Bool} (ho : ∀ X : Cx, OpR X (compareOp op) (fun x y H Q => ∃ i a lo hi, x = V.int i ∧ y = V.ref a ∧ H a = some (.rng lo hi) ∧ Q (.bl (neg != decide (lo ≤ i ∧ i < hi))) H))
    (p2 : Pos) (hg : okBlt sc ("range" : Str) = true) (hm : C.mg "range" = none) (ha : DE C lvl sc N own a ma) (hb : DE C lvl sc N own b mb) (hs : ∀ env : PySem.Env, starEach [b] env = [(false, eval b env)])
    (hk : behindInMarks op (.Call (.Name "range" p) [b] [] p2) = false) : DT C lvl sc N own (.Compare a [op] [.Call (.Name "range" p) [b] [] p2] pos) (tV (e2 (fInRng neg) ma mb)) := fun F H0 E X G =>
  PT.imp (pt_cmpR (ho X) (ha F H0 E X G) (pe_callTy cr_upTo (okBlt.gl G hg).1 (by rw [G.mg]; exact hm) boot_range (pa_cons (hb F H0 E X G) pa_nil (hs X.env)) (okBlt.gl G hg).2.1 (okBlt.gl G hg).2.2 (hs X.env)) hk) fun σ H Q ⟨env, k, r, q⟩ => by
    have q' : AfterT C F H0 own E σ H env ((ma env k).bind fun x k1 => ((mb env k1).bind fun y k2 => R.of (fInRng neg x y) k2).bind toB) Q := by
      have e : tV (e2 (fInRng neg) ma mb) env k = ((ma env k).bind fun x k1 => ((mb env k1).bind fun y k2 => R.of (fInRng neg x y) k2).bind toB) := by
        unfold tV e2
        cases ma env k <;> rfl
      rw [← e]
      exact q
    refine ⟨env, k, r, After.bindT r q' fun d k1 v H1 _ r1 kp1 z1 q1 => ?_⟩
    have q1' : AfterT C F H0 own E σ H1 env ((mb env k1).bind fun y k2 => (R.of (fInRng neg d y) k2).bind toB) Q := by
      cases e : mb env k1 <;> rw [e] at q1 <;> exact q1
    refine ⟨env, k1, r1, After.bindT r1 q1' fun e k2 w H2 _ r2 kp2 z2 q2 => ?_⟩
    cases d with
    | int i =>
      cases e with
      | int j =>
        cases z1
        cases z2
        exact ⟨j, rfl, fun p hp => ⟨i, p, 0, j, rfl, rfl, upd_same .., _, rfl, q2 _ (r2.same (same_new hp)) (.of_same (same_new hp))⟩⟩
      | _ => exact q2.elim
    | _ => cases e <;> exact q2.elim
theorem in_rng_t : ∀ X : Cx, OpR X (compareOp .In) (fun x y H Q => ∃ i a lo hi, x = V.int i ∧ y = V.ref a ∧ H a = some (.rng lo hi) ∧ Q (.bl (false != decide (lo ≤ i ∧ i < hi))) H) := fun X pins s σ H x y v u Q I rx ry h => by
  obtain ⟨i, a, lo, hi, e1, e2, ha, q⟩ := h
  rw [Bool.false_bne] at q
  exact op_in_rng pins s σ H x y v u Q I rx ry ⟨i, a, lo, hi, e1, e2, ha, q⟩
theorem in_rng_f : ∀ X : Cx, OpR X (compareOp .NotIn) (fun x y H Q => ∃ i a lo hi, x = V.int i ∧ y = V.ref a ∧ H a = some (.rng lo hi) ∧ Q (.bl (true != decide (lo ≤ i ∧ i < hi))) H) := fun X pins s σ H x y v u Q I rx ry h => by
  obtain ⟨i, a, lo, hi, e1, e2, ha, q⟩ := h
  rw [Bool.true_bne] at q
  exact op_notin_rng pins s σ H x y v u Q I rx ry ⟨i, a, lo, hi, e1, e2, ha, q⟩
end
end PL

set_option maxHeartbeats 4000000
/-! PL26S: from behind. -/
namespace PL
open PySem PySem.Spec L2 PyProof.Rows HT
open Classical
section
variable {prog : Program} {w : World} {A : Around} {E : Value → Shared → Prop} {s : Shared}
theorem fm_congr {α β : Type} {f g : α → Option β} : ∀ {l : List α}, (∀ x ∈ l, f x = g x) → l.filterMap f = l.filterMap g
  | [], _ => rfl
  | x :: l, h => by
    rw [List.filterMap_cons, List.filterMap_cons, h x List.mem_cons_self, fm_congr fun y hy => h y (List.mem_cons_of_mem _ hy)]
theorem pick_back (xs : Array Value) : ((List.range xs.size).filterMap fun (m : Nat) => xs[(((xs.size : Int) - 1) + (m : Int) * (-1)).toNat]?).toArray = xs.toList.reverse.toArray := by
  have e : (List.range xs.size).filterMap (fun (m : Nat) => xs[(((xs.size : Int) - 1) + (m : Int) * (-1)).toNat]?) = ((List.range xs.size).map (fun k => xs.size - 1 - k)).filterMap (xs[·]?) := by
    rw [List.filterMap_map]
    refine fm_congr fun m hm => ?_
    have := List.mem_range.mp hm
    have e2 : (((xs.size : Int) - 1) + (m : Int) * (-1)).toNat = xs.size - 1 - m := by omega
    rw [e2]
    rfl
  rw [e, PySem.W.krv_range, List.filterMap_reverse, PySem.W.krv_all]
theorem applied_back {sl : Addr} {v1 v2 v3 : Value} {n : Nat} {Q : Int × Int × Nat → Shared → Prop} (hs : s.heap.IsSliceOf sl v1 v2 v3) (p1 : IsPart v1 none) (p2 : IsPart v2 none) (p3 : IsPart v3 (some (-1)))
    (h : Q ((n : Int) - 1, -1, n) s) : wpAny (model prog w) A (Builtin.Slice.sliceApplied (.ref sl) (pure (n : Int))) Q E s := by
  obtain ⟨os, hos, hcs, hds⟩ := id hs
  unfold Builtin.Slice.sliceApplied Builtin.Slice.sliceFields
  refine wpAny_bind (wpAny_bind (wpAny_field hos hds (x := v1) rfl (wpAny_bind (wpAny_field hos hds (x := v2) rfl (wpAny_bind (wpAny_field hos hds (x := v3) rfl (wpAny_pure ?_)))))))
  refine wpAny_bind (slicePart_ p3 ?_)
  show wpAny _ _ (if ((-1 : Int) == 0) = true then _ else _) _ _ s
  rw [if_neg (by decide)]
  refine wpAny_bind (slicePart_ p1 (wpAny_bind (slicePart_ p2 (wpAny_bind (wpAny_pure ?_)))))
  show wpAny _ _ (pure ((n : Int) - 1, (-1 : Int), Builtin.Slice.slicePlaces ((n : Int) - 1) (-1) (-1))) _ _ s
  have e : Builtin.Slice.slicePlaces ((n : Int) - 1) (-1) (-1) = n := by
    unfold Builtin.Slice.slicePlaces
    rw [if_neg (by decide)]
    by_cases hn : (n : Int) - 1 > -1
    · rw [if_pos hn, show (- -1 : Int) = 1 by decide, Int.ediv_one]
      omega
    · rw [if_neg hn]
      omega
  rw [e]
  exact wpAny_pure h
theorem tuple_back {t sl : Addr} {items : Array Value} {v1 v2 v3 : Value} {Q : Value → Shared → Prop} (ht : IsTup s.heap t items) (hs : s.heap.IsSliceOf sl v1 v2 v3) (p1 : IsPart v1 none) (p2 : IsPart v2 none) (p3 : IsPart v3 (some (-1)))
    (h : Q (.ref s.heap.objs.size) { s with heap := s.heap.push { cls := .type "tuple", data := .seq items.toList.reverse.toArray } })
    (hsz : items.size ≤ sizeLine) : wpAny (model prog w) A (getItem (.ref t) (.ref sl)) Q E s := by
  have hfit : sizeOk (.seq items.toList.reverse.toArray) := by
    show items.toList.reverse.toArray.size ≤ sizeLine
    rw [List.size_toArray, List.length_reverse, Array.length_toList]
    exact hsz
  obtain ⟨os, hos, hcs, hds⟩ := id hs
  have hTs : s.TypeIs (.ref sl) "slice" := ⟨os, hos, hcs⟩
  unfold getItem
  try with_reducible refine wpAny_holding ?_
  first | refine wpAny_bind (wpAny_pure ?_) | skip
  refine wpAny_bind (wpAny_sequenceKey ht.typeIs (by decide) ?_)
  refine wpAny_bind (wpAny_callSpecial?_slot (name := Str.ofString "__getitem__") ht.typeIs PyProof.Rows.slot_tuple_getitem (wpAny_call_entry PyProof.Rows.slot_tuple_getitem ht.typeIs entry_tuple_getitem ?_ (args_tuple_getitem _ _)))
  show wpAny _ _ (Builtin.Tuple.tupleItemsOf (.ref t) >>= _) _ _ s
  refine wpAny_bind (tupleItemsOf_ ht ?_)
  refine wpAny_bind (wpAny_typeOf hTs ?_)
  rw [if_pos (by decide)]
  refine wpAny_bind (applied_back hs p1 p2 p3 ?_)
  have hno : ¬ ((((items.size : Int) - 1) == 0 && (-1 : Int) == 1 && items.size == items.size) = true) := by
    rw [show ((-1 : Int) == 1) = false by decide, Bool.and_false, Bool.false_and]
    exact Bool.false_ne_true
  show wpAny _ _ (if (((items.size : Int) - 1) == 0 && (-1 : Int) == 1 && items.size == items.size) = true then _ else _) _ _ s
  rw [if_neg hno, pick_back]
  first
    | exact wpAny_bind (m := Builtin.Tuple.tupleExact _) (wpAny_newObj_type (wpAny_pure ⟨_, rfl, wpAny_pure h⟩) hfit)
    | exact wpAny_bind (m := Builtin.Tuple.tupleExact _) (wpAny_newObj_type (wpAny_bind (wpAny_pure (wpAny_pure ⟨_, rfl, wpAny_pure h⟩))) hfit)
    | exact wpAny_bind (wpAny_bind (m := Builtin.Tuple.tupleExact _) (wpAny_newObj_type (wpAny_pure (wpAny_pure ⟨_, rfl, wpAny_pure h⟩)) hfit))
    | exact wpAny_bind (wpAny_bind (m := Builtin.Tuple.tupleExact _) (wpAny_newObj_type (wpAny_pure ⟨_, rfl, wpAny_pure h⟩) hfit))
end
section
variable {X : Cx}
def tBack (K : PySem.W.Frag) (te : TE) : TE := fun σ H Q => te σ H fun x H1 => ∃ a xs, x = .ref a ∧ SqT K H1 a xs ∧ ∀ p, H1 p = none → Q (.ref p) (upd H1 p (.tup xs.reverse))
def tBackAny (K : PySem.W.Frag) (te : TE) : TE := fun σ H Q => te σ H fun x H1 => (∃ a xs, x = .ref a ∧ SqL K H1 a xs ∧ ∀ p, H1 p = none → Q (.ref p) (upd H1 p (.lst xs.reverse))) ∨ (∃ a xs, x = .ref a ∧ SqT K H1 a xs ∧ ∀ p, H1 p = none → Q (.ref p) (upd H1 p (.tup xs.reverse)))
theorem pe_back {e : Expr} {te : TE} {k : Nat} {p1 p2 p3 pos : Pos} (he : PE X e te) : PE X (.Subscript e (.Slice none none (some (.UnaryOp .USub (.Constant (.int 1) k p1) p2)) p3) pos) (tBackAny X.K te) := by
  refine ⟨fun pins s σ H Q I h => ?_⟩
  refine Subscript_ (thn (he.run pins s σ H _ I h) fun v s1 ⟨x, H1, I1, r1, q1⟩ => ?_)
  have hst : PO X (some (.UnaryOp .USub (.Constant (.int 1) k p1) p2)) (tPart (tUn (rU fun i => .int (-i)) (tC (.int 1)))) := po_some (pe_un un_neg pe_int)
  refine wpAny_Slice (thn (po_none.run pins s1 σ H1 (fun o H2 => o = none ∧ H2 = H1) I1 ⟨rfl, rfl⟩) fun vl s2 ⟨l, H2, I2, pl, el, e2⟩ => ?_)
  subst el e2
  refine thn (po_none.run pins s2 σ H2 (fun o H3 => o = none ∧ H3 = H2) I2 ⟨rfl, rfl⟩) fun vu s3 ⟨u, H3, I3, pu, eu, e3⟩ => ?_
  subst eu e3
  refine thn (hst.run pins s3 σ H3 (fun o H4 => o = some (-1) ∧ H4 = H3) I3 ⟨1, rfl, -1, rfl, rfl, rfl⟩) fun vs s4 ⟨o, H4, I4, ps, eo, e4⟩ => ?_
  subst eo e4
  have I5 : Inv X pins σ H4 { s4 with heap := s4.heap.push { cls := .type "slice", data := .fields #[vl, vu, vs] } } := I4.kept (t' := s4.toks) fun b ob q => Heap.get?_push_of_some _ q
  rcases q1 with ⟨a, xs, ex, hx, q⟩ | ⟨a, xs, ex, hx, q⟩
  · subst ex
    cases r1
    obtain ⟨its, r, ht, hz⟩ := I5.list hx
    have hlen := r.length
    show wpAny (model X.prog X.w) X.A (subscriptTail e (.Slice none none (some (.UnaryOp .USub (.Constant (.int 1) k p1) p2)) p3) (.ref a) (.ref s4.heap.objs.size)) (EP X pins σ Q) X.xe { s4 with heap := s4.heap.push { cls := .type "slice", data := .fields #[vl, vu, vs] } }
    refine tail_any (ops := [.ref a, .ref s4.heap.objs.size]) ht.isList.typeIs (PySem.slot_list_getitem.lookup) ?_ (by with_unfolding_all rfl)
    refine wpAny_getItem_list_slice ht.isList (Heap.IsSliceOf.new _ vl vu vs) pl pu ps (by decide) ?_ (by rw [List.size_toArray]; omega)
    rw [PySem.W.krv_pick]
    refine ⟨.ref _, _, I5.laid (t' := s4.toks) (o := .lst xs.reverse) (fun b ob q => Heap.get?_push_of_some _ q) (Nat.le_refl _) ?_, rfl, q _ (I5.hok.fresh (Nat.le_refl _))⟩
    exact ⟨by rw [List.length_reverse]; exact hz, _, 0, r.reverse, Heap.get?_push_size _ rfl⟩
  · subst ex
    cases r1
    obtain ⟨its, r, ht, hz⟩ := I5.tuple hx
    have hlen := r.length
    show wpAny (model X.prog X.w) X.A (subscriptTail e (.Slice none none (some (.UnaryOp .USub (.Constant (.int 1) k p1) p2)) p3) (.ref a) (.ref s4.heap.objs.size)) (EP X pins σ Q) X.xe { s4 with heap := s4.heap.push { cls := .type "slice", data := .fields #[vl, vu, vs] } }
    refine tail_any (ops := [.ref a, .ref s4.heap.objs.size]) ht.typeIs (PyProof.Rows.slot_tuple_getitem.lookup) ?_ (by with_unfolding_all rfl)
    refine tuple_back ht (Heap.IsSliceOf.new _ vl vu vs) pl pu ps ?_ (by rw [List.size_toArray]; omega)
    refine ⟨.ref _, _, I5.laid (t' := s4.toks) (o := .tup xs.reverse) (fun b ob q => Heap.get?_push_of_some _ q) (Nat.le_refl _) ?_, rfl, q _ (I5.hok.fresh (Nat.le_refl _))⟩
    exact ⟨by rw [List.length_reverse]; exact hz, _, r.reverse, IsTup.new _ _⟩
end
theorem RpL.back {C : Cn} {O : Addr → Prop} {H : Hp} : ∀ {vs : List V} {ds : List D}, RpL C O H vs ds → RpL C O H vs.reverse ds.reverse
  | [], _, h => by cases h; exact .nil
  | v :: vs, _, h => by
    cases h with
    | cons h r =>
      rw [List.reverse_cons, List.reverse_cons]
      exact (RpL.back r).append (.cons h .nil)
/-- a tuple, a list from behind -/
def fRevT : D → Option D
  | .tup xs => some (.tup xs.reverse)
  | .lst xs => some (.lst xs.reverse)
  | _ => none
section
variable {C : Cn} {lvl : Nat} {sc : Bl} {N : List Str} {own : List Nat} {pos p : Pos} {a b : Expr} {ma mb : Ev}
theorem de_revT {p2 p3 p4 : Pos} (ha : DB C lvl sc N own a ma) : DE C lvl sc N own (.Subscript a (.Slice none none (some (.UnaryOp .USub (.Constant (.int 1) 0 p2) p3)) p4) pos) (e1 fRevT ma) := fun F H0 E X G =>
  PE.imp (pe_back (ha F H0 E X G)) fun σ H Q ⟨env, k, r, q⟩ => by
    refine ⟨env, k, r, q.bind r fun d k1 v H1 _ r1 kp1 z1 q1 => ?_⟩
    obtain ⟨x, ex, q2⟩ := q1.some
    cases d with
    | tup ds =>
      obtain rfl := Option.some.inj ex
      obtain ⟨a, vs, rfl, ha, rr⟩ := z1.tupE
      exact .inr ⟨a, vs, rfl, G.K ▸ ha, fun p hp => q2 _ _ (r1.same (same_new hp)) (.of_same (same_new hp)) (rp_tup hp rr.back)⟩
    | lst ds =>
      obtain rfl := Option.some.inj ex
      obtain ⟨a, vs, rfl, ha, rr⟩ := z1.lstE
      exact .inl ⟨a, vs, rfl, .inl (.inl ha), fun p hp => q2 _ _ (r1.same (same_new hp)) (.of_same (same_new hp)) (rp_lst hp r1.tracked rr.back)⟩
    | _ => cases ex
end
end PL

set_option maxHeartbeats 4000000
/-! PL26T: a set of a tuple's pairs. -/
namespace PL
open PySem PySem.Spec L2 PyProof.Rows
open Classical
section
variable {P : Program} {w : World} {A : Around} {E : Value → Shared → Prop} {sh : Shared}
def emptyS (w : World) : Obj := { cls := .type "set", dict := none, data := .set #[] 0 (.fresh 0 0 (!w.params.followText "set-order")) }
theorem call_setT_tups {l : Addr} {items : Array Value} (ks : List (Addr × List Int)) {Q : Value → Shared → Prop} (hh : A.handled = none) (hl : sh.heap.IsTuple l items) (hit : items.toList = ks.map fun p => Value.ref p.1)
    (hk : ∀ p ∈ ks, IsT P w sh.heap p.2 p.1) (hfew : ks.length < 64) (hu : A.units + 3 < cLine)
    (h : ∀ (hp' : Heap) (tk : Nat) L es ep t, SetTR P w hp' sh.heap.objs.size L es ep t → Got ks ks.length L → (∀ b o, sh.heap.get? b = some o → hp'.get? b = some o) → Q (.ref sh.heap.objs.size) { sh with heap := hp', toks := tk }) :
    wpAny (model P w) A (call (.type "set") [.ref l]) Q E sh := by
  have hSz : items.size = ks.length := by
    have q := congrArg List.length hit
    rw [Array.length_toList, List.length_map] at q
    exact q
  obtain ⟨c, tl, hMro⟩ := F.called_set.mro
  have hMade := F.called_set.made
  have hSub := F.called_set.sub
  refine wpAny_call (codeAny_of_tree ?_)
  show wpAny _ _ (callAny (.type "set") _) _ _ _
  refine wpAny_pure ⟨Code.quiet_builtin _ (by decide +kernel), codeAny_builtin F.entry_type_call ?_⟩
  rw [Around.under_plain (weight_type_call_type "set" [.ref l] []) rfl]
  have hN1 := F.called_set.notType
  have hN2 := F.called_set.canCreate
  have hTc := F.typeCall_set_1 (.ref l)
  repeat (any_goals (first | assumption | wp_step))

  refine codeAny_mono (code_set_led1 (.ref l) (E := E) (Q₁ := fun obj sA => obj = .ref sh.heap.objs.size ∧ sA = { sh with heap := sh.heap.push (emptyS w) }) ⟨rfl, rfl⟩) fun r sA hr => ?_
  cases r with
  | error e => exact hr
  | ok flA =>
    cases flA with
    | ret obj =>
      obtain ⟨rfl, rfl⟩ := hr
      have hSet : (sh.heap.push (emptyS w)).get? sh.heap.objs.size = some (emptyS w) := Heap.get?_push_size _ rfl
      have hTy : Shared.TypeIs { sh with heap := sh.heap.push (emptyS w) } (.ref sh.heap.objs.size) "set" := ⟨_, hSet, rfl⟩
      have hLi := F.called_set.init.lookup
      have hBi := F.called_set.init.bind (.ref sh.heap.objs.size)
      repeat (any_goals (first | assumption | wp_step))

      refine codeAny_mono (codeAny_call_builtin (R := wants (fun r sB => r = .none ∧ ∃ hp' tk L es ep t, sB = { sh with heap := hp', toks := tk } ∧ SetTR P w hp' sh.heap.objs.size L es ep t ∧ Got ks ks.length L ∧
          (∀ b o, sh.heap.get? b = some o → hp'.get? b = some o)) E) F.called_set.init.plain F.entry_set_init (check_set_init_1 hTy ?_)) fun rB sB hrB => ?_
      · obtain ⟨oT, hol, hcl, nl, hdl⟩ := hl
        obtain ⟨oC, oDi, oDa, oSl⟩ := oT
        simp only at hcl hdl
        subst hcl; subst hdl
        have hol' : (sh.heap.push (emptyS w)).get? l = some { cls := .type "tuple", dict := oDi, data := .seq items nl, slots := oSl } := Heap.get?_push_of_some _ hol
        have hSs := F.sub_tuple_set
        have hSfz := F.sub_tuple_frozenset
        have hNd : (Value.type "tuple" == Value.type "dict") = false := by decide
        have hl1 : (sh.heap.push (emptyS w)).IsTuple l items := ⟨_, hol', rfl, nl, rfl⟩
        unfold Builtin.«set.__init__» noKeywords Builtin.Frozenset.updateFrom
        generalize hPIt : pyIter = PIt
        wp_walk
        subst hPIt

        refine wpAny_pyIter_tuple hl1 ?_
        refine wpAny_bind (wpAny_runValue ?_)
        have hLt : l < sh.heap.objs.size := Heap.lt_size hol
        have hH3 : A.in1.in1.in1.handled = none := by simp [hh]
        have hz1 : (sh.heap.push (emptyS w)).objs.size = sh.heap.objs.size + 1 := Heap.size_push ..
        have hNI : l ≠ (sh.heap.push (emptyS w)).objs.size := by
          rw [Heap.size_push]; exact Nat.ne_of_lt (Nat.lt_succ_of_lt hLt)
        have hOut : sh.heap.objs.size ∉ [(sh.heap.push (emptyS w)).objs.size, l] := by
          rw [Heap.size_push]; simp only [List.mem_cons, List.mem_singleton, List.not_mem_nil, or_false, not_or]
          exact ⟨Nat.ne_of_lt (Nat.lt_succ_self _), Nat.ne_of_gt hLt⟩
        have hVal : ∀ (i : Nat) (v : Value), items[i]? = some v → ∃ p, ks[i]? = some p ∧ v = .ref p.1 := fun i v hv => by
          have q : items.toList[i]? = some v := by rw [Array.getElem?_toList]; exact hv
          rw [hit, List.getElem?_map] at q
          cases hq : ks[i]? with
          | none => rw [hq] at q; cases q
          | some p =>
            rw [hq] at q
            exact ⟨p, rfl, (Option.some.inj q).symm⟩
        have noneOf : ∀ b, sh.heap.objs.size ≤ b → sh.heap.get? b = none := fun b hb => by
          cases q : sh.heap.get? b with
          | none => rfl
          | some o => exact absurd (Nat.lt_of_lt_of_le (Heap.lt_size q) hb) (Nat.lt_irrefl _)
        refine set_update_tups ((Walks.tuple hH3 _ l hNI items).toS) sh.heap.objs.size
          hOut ks hSz hfew hVal sh.heap hk (noneOf _ (Nat.le_refl _)) (fun b hb => noneOf b (by
            rw [List.mem_singleton.mp hb, Heap.size_push]
            exact Nat.le_succ _)) hu (items.size - 0) 0 _ (by omega) (Nat.zero_le _)
          ⟨⟨_, Heap.get?_push_size _ rfl, rfl, rfl⟩, (hl1.push _)⟩ (fun b o e => Heap.get?_push_of_some _ (Heap.get?_push_of_some _ e)) ?hS0 ?hR
        case hS0 =>
          have hGet : ((sh.heap.push (emptyS w)).push { cls := .type "tuple_iterator", data := .fields #[.ref l, .int 0 0] }).get? sh.heap.objs.size
              = some (emptyS w) := Heap.get?_push_of_some _ hSet
          exact ⟨[], #[], 0, _, setTR_fresh hGet, Got.zero ks⟩
        case hR =>
          intro s' L es ep t hm hSet' g' hkp
          obtain ⟨hp', g2, d', tk', os'⟩ := s'
          have eg : g2 = sh.gens := hm.gens
          have ed : d' = sh.drawn := hm.drawn
          have eo : os' = sh.os := hm.os
          subst eg; subst ed; subst eo
          show wpAny _ _ _ _ _ _
          refine wpAny_pure ?_
          show wpAny _ _ (ret Value.none) _ _ _
          rw [hSz] at g'
          exact wpAny_pure ⟨rfl, hp', tk', L, es, ep, t, rfl, hSet', g', hkp⟩

      · cases rB with
        | error e => exact hrB
        | ok flB =>
          cases flB with
          | ret r =>
            obtain ⟨rfl, hp', tk, L, es, ep, t, rfl, hSet', g', hk'⟩ := hrB
            repeat (any_goals (first | assumption | wp_step))
            exact h _ _ _ _ _ _ hSet' g' hk'
          | _ => exact hrB.elim
    | _ => exact hr.elim
end
end PL

set_option maxHeartbeats 4000000
/-! PL26: small rules: names of defs, numbers of the module, lengths of argument lists. -/
namespace PL
open PySem PySem.Spec L2
open Classical
section
variable {C : Cn} {lvl : Nat} {sc : Bl} {N : List Str} {lo own own' : List Nat} {pos p : Pos} {a b : Expr} {ma mb : Ev}
theorem elen_nil : ∀ (env : Env) k ds k', eNil env k = .ok ds k' → ds.length = ([] : List Expr).length := fun env k ds k' h => by cases h; rfl
theorem elen_cons {e : Expr} {es : List Expr} {m : Ev} {ms : Els} (h : ∀ env k ds k', ms env k = .ok ds k' → ds.length = es.length) : ∀ env k ds k', eCons m ms env k = .ok ds k' → ds.length = (e :: es).length := fun env k ds k' q => by
  unfold eCons at q
  cases e1 : m env k with
  | ok d k1 =>
    rw [e1] at q
    have q : ((ms env k1).bind fun xs k2 => .ok (d :: xs) k2) = R.ok ds k' := q
    cases e2 : ms env k1 with
    | ok xs k2 =>
      rw [e2] at q
      cases q
      rw [List.length_cons, List.length_cons, h _ _ _ _ e2]
    | ex c k2 => rw [e2] at q; cases q
    | no => rw [e2] at q; cases q
  | ex c k1 => rw [e1] at q; cases q
  | no => rw [e1] at q; cases q
theorem de_defR {j n : Nat} {x : Str} {φ : List D → Int → R D} (h : FnR C j x n φ) (hg : okDef sc x = true) : DE C lvl sc N own (.Name x p) (eC (.fn x)) := by
  obtain ⟨f, _, _, hm, _⟩ := h.ex
  exact de_def hm hg
theorem de_numE {x : Str} {i : Int} (h : ∃ t, C.mg x = some (.int i t)) (hg : okDef sc x = true) : DE C lvl sc N own (.Name x p) (eC (.int i)) := by
  obtain ⟨t, hm⟩ := h
  exact de_num hm hg
def errName : Str → Option Str := fun c => if c = "NotAllowed" then some "refused" else if c = "TooLarge" then some "large" else if c = "Missing" then some "missing" else if c = "BadPaper" then some "paper" else none

end
end PL

set_option maxHeartbeats 4000000
/-! PL26U: sorted(set(pairs)). -/
namespace PL
open PySem PySem.Spec L2 PyProof.Rows
open Classical
/-- pairs of numbers, put in their order, each once -/
def prLt (p q : Int × Int) : Prop := p.1 < q.1 ∨ (p.1 = q.1 ∧ p.2 < q.2)
noncomputable def insP (p : Int × Int) : List (Int × Int) → List (Int × Int)
  | [] => [p]
  | q :: r => if prLt p q then p :: q :: r else if p = q then q :: r else q :: insP p r
noncomputable def sortP (l : List (Int × Int)) : List (Int × Int) := l.foldr insP []
def prD (p : Int × Int) : D := .tup [.int p.1, .int p.2]
def prL (p : Int × Int) : List Int := [p.1, p.2]
def toPrs : List D → Option (List (Int × Int))
  | [] => some []
  | .tup [.int i, .int j] :: r => (toPrs r).map ((i, j) :: ·)
  | _ => none
def PrsOk (l : List (Int × Int)) : Prop := l.length < 64 ∧ ∀ p ∈ l, 0 ≤ p.1 ∧ 0 ≤ p.2
noncomputable def fSortSet : D → Option D
  | .lst xs => (toPrs xs).bind fun l => if PrsOk l then some (.lst ((sortP l).map prD)) else none
  | .tup xs => (toPrs xs).bind fun l => if PrsOk l then some (.lst ((sortP l).map prD)) else none
  | _ => none
theorem prLt_irr (p : Int × Int) : ¬ prLt p p := fun h => by rcases h with h | ⟨_, h⟩ <;> omega
theorem prLt_tr {p q r : Int × Int} (h : prLt p q) (g : prLt q r) : prLt p r := by
  unfold prLt at *
  omega
theorem prLt_tri (p q : Int × Int) : prLt p q ∨ p = q ∨ prLt q p := by
  obtain ⟨a, b⟩ := p
  obtain ⟨c, d⟩ := q
  rcases Int.lt_trichotomy a c with h | h | h
  · exact .inl (.inl h)
  · subst h
    rcases Int.lt_trichotomy b d with h | h | h
    · exact .inl (.inr ⟨rfl, h⟩)
    · subst h
      exact .inr (.inl rfl)
    · exact .inr (.inr (.inr ⟨rfl, h⟩))
  · exact .inr (.inr (.inl h))
theorem insP_mem (p x : Int × Int) : ∀ l, x ∈ insP p l ↔ x = p ∨ x ∈ l
  | [] => by
    unfold insP
    rw [List.mem_singleton]
    simp
  | q :: r => by
    unfold insP
    split
    · rw [List.mem_cons]
    · split
      · rename_i h
        subst h
        rw [List.mem_cons]
        constructor
        · exact .inr
        · rintro (h | h)
          · exact .inl h
          · exact h
      · rw [List.mem_cons, insP_mem p x r, List.mem_cons]
        constructor
        · rintro (h | h | h)
          · exact .inr (.inl h)
          · exact .inl h
          · exact .inr (.inr h)
        · rintro (h | h | h)
          · exact .inr (.inl h)
          · exact .inl h
          · exact .inr (.inr h)
theorem insP_asc (p : Int × Int) : ∀ l : List (Int × Int), l.Pairwise prLt → (insP p l).Pairwise prLt
  | [], _ => by
    unfold insP
    exact .cons (fun _ h => by cases h) .nil
  | q :: r, h => by
    unfold insP
    cases h with
    | cons h1 h2 =>
      split
      · rename_i c
        refine .cons (fun x hx => ?_) (.cons h1 h2)
        rcases List.mem_cons.mp hx with e | e
        · subst e; exact c
        · exact prLt_tr c (h1 x e)
      · rename_i c
        split
        · exact .cons h1 h2
        · rename_i c2
          refine .cons (fun x hx => ?_) (insP_asc p r h2)
          rcases (insP_mem p x r).mp hx with e | e
          · subst e
            rcases prLt_tri x q with z | z | z
            · exact absurd z c
            · exact absurd z c2
            · exact z
          · exact h1 x e
theorem sortP_mem (x : Int × Int) : ∀ l, x ∈ sortP l ↔ x ∈ l
  | [] => Iff.rfl
  | p :: l => by
    show x ∈ insP p (sortP l) ↔ _
    rw [insP_mem, sortP_mem x l, List.mem_cons]
theorem sortP_asc : ∀ l, (sortP l).Pairwise prLt
  | [] => .nil
  | p :: l => insP_asc p _ (sortP_asc l)
/-- one order, the same things: the same list -/
theorem asc_one : ∀ {l m : List (Int × Int)}, l.Pairwise prLt → m.Pairwise prLt → (∀ x, x ∈ l ↔ x ∈ m) → l = m
  | [], [], _, _, _ => rfl
  | [], y :: m, _, _, h => by cases (h y).mpr List.mem_cons_self
  | x :: l, [], _, _, h => by cases (h x).mp List.mem_cons_self
  | x :: l, y :: m, .cons h1 h2, .cons g1 g2, h => by
    have e : x = y := by
      rcases List.mem_cons.mp ((h x).mp List.mem_cons_self) with e | e
      · exact e
      · rcases List.mem_cons.mp ((h y).mpr List.mem_cons_self) with e2 | e2
        · exact e2.symm
        · exact absurd (prLt_tr (h1 y e2) (g1 x e)) (prLt_irr _)
    subst e
    rw [asc_one h2 g2 fun z => ?_]
    constructor
    · intro hz
      rcases List.mem_cons.mp ((h z).mp (List.mem_cons_of_mem _ hz)) with e | e
      · subst e; exact absurd (h1 _ hz) (prLt_irr _)
      · exact e
    · intro hz
      rcases List.mem_cons.mp ((h z).mpr (List.mem_cons_of_mem _ hz)) with e | e
      · subst e; exact absurd (g1 _ hz) (prLt_irr _)
      · exact e
def topP (l : List (Int × Int)) : Int := l.foldr (fun p b => p.1 + p.2 + b) 1
theorem topP_bd : ∀ {l : List (Int × Int)}, (∀ p ∈ l, 0 ≤ p.1 ∧ 0 ≤ p.2) → 1 ≤ topP l ∧ ∀ p ∈ l, p.1 < topP l ∧ p.2 < topP l
  | [], _ => ⟨Int.le_refl _, fun _ h => by cases h⟩
  | q :: l, h => by
    obtain ⟨t1, t2⟩ := topP_bd fun p hp => h p (List.mem_cons_of_mem _ hp)
    have hq := h q List.mem_cons_self
    have e : topP (q :: l) = q.1 + q.2 + topP l := rfl
    refine ⟨by omega, fun p hp => ?_⟩
    rcases List.mem_cons.mp hp with e2 | e2
    · subst e2; omega
    · have := t2 p e2
      omega
theorem code_two (B x y : Int) : TS.code B [x, y] = x * B + y := by
  show x * B ^ 1 + (y * B ^ 0 + 0) = x * B + y
  rw [Int.pow_zero, Int.pow_succ, Int.pow_zero, Int.one_mul, Int.mul_one, Int.add_zero]
theorem code_lt {B : Int} {p q : Int × Int} (h : TS.code B (prL p) ≤ TS.code B (prL q)) (ne : p ≠ q) (hp : 0 ≤ p.2 ∧ p.2 < B) (hq : 0 ≤ q.2 ∧ q.2 < B) : prLt p q := by
  obtain ⟨x, y⟩ := p
  obtain ⟨z, u⟩ := q
  unfold prL at h
  rw [code_two, code_two] at h
  simp only at h hp hq
  rcases Int.lt_trichotomy x z with c | c | c
  · exact .inl c
  · subst c
    refine .inr ⟨rfl, ?_⟩
    have : y ≠ u := fun e => ne (by rw [e])
    show y < u
    omega
  · exfalso
    have : (z + 1) * B ≤ x * B := Int.mul_le_mul_of_nonneg_right (by omega) (by omega)
    rw [Int.add_mul, Int.one_mul] at this
    omega
/-! ### in the machine -/
section
variable {X : Cx}
def rSetAny (K : PySem.W.Frag) (P : Program) (w : World) : List V → Hp → VK → Prop := fun xs H Q => ∃ (l : Addr) (ks : List (Addr × List Int)), xs = [V.ref l] ∧ (SqL K H l (ks.map fun p => V.ref p.1) ∨ SqT K H l (ks.map fun p => V.ref p.1)) ∧ (∀ p ∈ ks, SqT K H p.1 (p.2.map V.int)) ∧ ks.length < 64 ∧
  ∀ a L, H a = none → (∀ p ∈ L, p ∈ ks) → (∀ p ∈ ks, p.2 ∈ L.map (·.2)) → Q (.ref a) (upd H a (SetTO P w a L))
theorem cr_setAny (hc : X.calm = true) (hu : X.A.units + 64 < cLine) : CallR X (.type "set") (rSetAny X.K X.prog X.w) := by
  intro pins s σ H xs us Q I r h
  obtain ⟨l, ks, rfl, hl | hl, hk, hf, q⟩ := h
  · exact cr_setOfT hc hu pins s σ H _ us Q I r ⟨l, ks, rfl, hl, hk, hf, q⟩
  · rw [Vals.ref1 r]
    obtain ⟨its, rv, pl, hz⟩ := I.tuple hl
    have hnew : H s.heap.objs.size = none := I.hok.fresh (Nat.le_refl _)
    refine call_setT_tups (P := X.prog) (w := X.w) ks (I.ok.hd hc) pl (by simpa using refs_of_vals rv) (fun p hp => I.isT (hk p hp)) hf (by omega) fun h' tk L es ep t R g k => ?_
    refine ⟨.ref s.heap.objs.size, upd H s.heap.objs.size (SetTO X.prog X.w s.heap.objs.size L), I.laid (t' := tk) k (Nat.le_refl _) (setTO_new R.t0), rfl, q _ L hnew (fun p hp => List.mem_of_mem_take (g.sub p hp)) fun p hp => ?_⟩
    exact g.all p (by rw [List.take_length]; exact hp)
end
section
variable {C : Cn} {O : Addr → Prop} {H : Hp}
theorem toPrs_cons {d : D} {xs : List D} {l : List (Int × Int)} (h : toPrs (d :: xs) = some l) : ∃ i j r, d = .tup [.int i, .int j] ∧ toPrs xs = some r ∧ l = (i, j) :: r := by
  unfold toPrs at h
  split at h
  · rename_i e; cases e
  · rename_i i j r e
    cases e
    obtain ⟨m, e1, e2⟩ := Option.map_eq_some_iff.mp h
    exact ⟨i, j, m, rfl, e1, e2.symm⟩
  · cases h
theorem prs_of : ∀ {xs : List D} {vs : List V} {l : List (Int × Int)}, toPrs xs = some l → RpL C O H vs xs → ∃ ks : List (Addr × List Int), vs = ks.map (fun p => V.ref p.1) ∧ ks.map (·.2) = l.map prL ∧ ∀ p ∈ ks, SqT C.K H p.1 (p.2.map V.int)
  | [], _, l, h, r => by
    cases r
    cases h
    exact ⟨[], rfl, rfl, fun _ h => by cases h⟩
  | d :: xs, _, l, h, r => by
    obtain ⟨i, j, m, rfl, e1, rfl⟩ := toPrs_cons h
    cases r with
    | cons r1 r2 =>
      obtain ⟨ks, rfl, e2, e3⟩ := prs_of e1 r2
      cases r1 with
      | tup ha rr =>
        rename_i a ws
        obtain ⟨v, w, rfl, z1, z2⟩ := rr.two
        cases z1
        cases z2
        refine ⟨(a, [i, j]) :: ks, rfl, by rw [List.map_cons, List.map_cons, e2]; rfl, fun p hp => ?_⟩
        rcases List.mem_cons.mp hp with e | e
        · subst e; exact ha
        · exact e3 p e
theorem prs_back : ∀ {ks : List (Addr × List Int)} {l : List (Int × Int)}, ks.map (·.2) = l.map prL → (∀ p ∈ ks, SqT C.K H p.1 (p.2.map V.int)) → RpL C O H (ks.map fun p => V.ref p.1) (l.map prD)
  | [], [], _, _ => .nil
  | [], _ :: _, e, _ => by cases e
  | _ :: _, [], e, _ => by cases e
  | k :: ks, p :: l, e, h => by
    rw [List.map_cons, List.map_cons] at e
    obtain ⟨e1, e2⟩ := List.cons.inj e
    have h1 := h k List.mem_cons_self
    rw [e1] at h1
    exact .cons (.tup h1 (.cons (.int _) (.cons (.int _) .nil))) (prs_back e2 fun q hq => h q (List.mem_cons_of_mem _ hq))
end
theorem pairs_of : ∀ {L : List (Addr × List Int)} {ps : List (Int × Int)}, (∀ q ∈ L, ∃ p ∈ ps, q.2 = prL p) → ∃ l : List (Int × Int), L.map (·.2) = l.map prL ∧ ∀ x ∈ l, x ∈ ps
  | [], _, _ => ⟨[], rfl, fun _ h => by cases h⟩
  | q :: L, ps, h => by
    obtain ⟨p, hp, e⟩ := h q List.mem_cons_self
    obtain ⟨l, e1, e2⟩ := pairs_of fun x hx => h x (List.mem_cons_of_mem _ hx)
    refine ⟨p :: l, by rw [List.map_cons, List.map_cons, e1, e], fun x hx => ?_⟩
    rcases List.mem_cons.mp hx with z | z
    · subst z; exact hp
    · exact e2 x z
theorem prL_inj {p q : Int × Int} (h : prL p = prL q) : p = q := by
  obtain ⟨a, b⟩ := p
  obtain ⟨c, d⟩ := q
  unfold prL at h
  cases h
  rfl
/-- what stands in order is the pairs in their order -/
theorem sorted_is {ks L L' : List (Addr × List Int)} {l : List (Int × Int)} (hl : ks.map (·.2) = l.map prL) (hpos : ∀ p ∈ l, 0 ≤ p.1 ∧ 0 ≤ p.2) (sub : ∀ p ∈ L, p ∈ ks) (all : ∀ p ∈ ks, p.2 ∈ L.map (·.2)) (pm : L'.Perm L) (nd : (L'.map (·.2)).Nodup)
    (pw : L'.Pairwise fun q r => TS.code (topP l) q.2 ≤ TS.code (topP l) r.2) : L'.map (·.2) = (sortP l).map prL := by
  have inl : ∀ q ∈ ks, ∃ p ∈ l, q.2 = prL p := fun q hq => by
    have : q.2 ∈ ks.map (·.2) := List.mem_map_of_mem hq
    rw [hl] at this
    obtain ⟨p, hp, e⟩ := List.mem_map.mp this
    exact ⟨p, hp, e.symm⟩
  obtain ⟨m, em, hm⟩ := pairs_of fun q hq => inl q (sub q (pm.mem_iff.mp hq))
  rw [em]
  have hb := topP_bd hpos
  have ndm : m.Nodup := by
    rw [em] at nd
    exact nodup_of_map nd
  have pwm : m.Pairwise fun p q => TS.code (topP l) (prL p) ≤ TS.code (topP l) (prL q) := by
    have : (L'.map (·.2)).Pairwise fun x y => TS.code (topP l) x ≤ TS.code (topP l) y := List.pairwise_map.mpr pw
    rw [em] at this
    exact (List.pairwise_map (f := prL) (l := m) (R := fun x y => TS.code (topP l) x ≤ TS.code (topP l) y)).mp this
  have asc : m.Pairwise prLt := by
    have both := List.Pairwise.and pwm ndm
    refine List.Pairwise.imp_of_mem (fun {p q} hp hq h => ?_) both
    exact code_lt h.1 h.2 ⟨(hpos p (hm p hp)).2, (hb.2 p (hm p hp)).2⟩ ⟨(hpos q (hm q hq)).2, (hb.2 q (hm q hq)).2⟩
  rw [asc_one asc (sortP_asc l) fun x => ?_]
  rw [sortP_mem]
  refine ⟨hm x, fun hx => ?_⟩
  have h1 : prL x ∈ ks.map (·.2) := by
    rw [hl]
    exact List.mem_map_of_mem hx
  obtain ⟨q, hq, e⟩ := List.mem_map.mp h1
  have h2 := all q hq
  rw [e] at h2
  have h3 : prL x ∈ L'.map (·.2) := (pm.map (·.2)).mem_iff.mpr h2
  rw [em] at h3
  obtain ⟨y, hy, e2⟩ := List.mem_map.mp h3
  rw [← prL_inj e2]
  exact hy
section
variable {C : Cn} {lvl : Nat} {sc : Bl} {N : List Str} {own : List Nat} {pos p : Pos} {a : Expr} {ma : Ev}
theorem seq_prs {d x : D} (h : fSortSet d = some x) : ∃ xs l, (d = .lst xs ∨ d = .tup xs) ∧ toPrs xs = some l ∧ PrsOk l ∧ x = .lst ((sortP l).map prD) := by
  cases d with
  | lst xs =>
    obtain ⟨l, e1, e2⟩ := Option.bind_eq_some_iff.mp h
    obtain ⟨c, e⟩ := of_if e2
    exact ⟨xs, l, .inl rfl, e1, c, e.symm⟩
  | tup xs =>
    obtain ⟨l, e1, e2⟩ := Option.bind_eq_some_iff.mp h
    obtain ⟨c, e⟩ := of_if e2
    exact ⟨xs, l, .inr rfl, e1, c, e.symm⟩
  | _ => cases h
theorem df_sortSet {p2 p3 : Pos} (hg : okBlt sc ("sorted" : Str) = true) (hg2 : okBlt sc ("set" : Str) = true) (hm : C.mg "sorted" = none) (hm2 : C.mg "set" = none) (ha : DB C lvl sc N own a ma) (hs : ∀ env : PySem.Env, starEach [a] env = (false, eval a env) :: starEach [] env)
    (hs2 : ∀ env : PySem.Env, starEach [.Call (.Name "set" p2) [a] [] p3] env = (false, eval (.Call (.Name "set" p2) [a] [] p3) env) :: starEach [] env) (hp1 : ∀ (env : PySem.Env) (p : Pos), (backTo p (starEach [] env)).any (·.1) = false) (hp2 : ∀ (env : PySem.Env) (p : Pos), (backTo p (starEach [] env)).any (·.1) = false) :
    DF C lvl sc N own (.Call (.Name "sorted" p) [.Call (.Name "set" p2) [a] [] p3] [] pos) (e1 fSortSet ma) := fun F H0 E X G =>
  PE.imp (pe_callB (cr_sortedT G.calm) (okBlt.gl G hg).1 (by rw [G.mg]; exact hm) boot_sorted (pa_cons (pe_callTy (cr_setAny G.calm (by have := G.room.un; omega)) (okBlt.gl G hg2).1 (by rw [G.mg]; exact hm2) boot_set (pa_cons (ha F H0 E X G) pa_nil (hs X.env)) (okBlt.gl G hg2).2.1 (okBlt.gl G hg2).2.2 (hs X.env) (hp1 X.env _)) pa_nil (hs2 X.env)) (okBlt.gl G hg).2.1 (okBlt.gl G hg).2.2 (hs2 X.env) (hp2 X.env _)) fun σ H Q ⟨env, k, r, q⟩ => by
    refine ⟨env, k, r, q.bind r fun d k1 v H1 _ r1 kp1 z1 q1 => ?_⟩
    obtain ⟨x, ex, q2⟩ := q1.some
    obtain ⟨xs, l, hd, hl, ok, rfl⟩ := seq_prs ex
    have hsq : ∃ a vs, v = .ref a ∧ (SqL X.K H1 a vs ∨ SqT X.K H1 a vs) ∧ RpL C (OA F own σ) H1 vs xs := by
      rcases hd with rfl | rfl
      · obtain ⟨a, vs, rfl, ha, rr⟩ := z1.lstE
        exact ⟨a, vs, rfl, .inl (.inl (.inl ha)), rr⟩
      · obtain ⟨a, vs, rfl, ha, rr⟩ := z1.tupE
        exact ⟨a, vs, rfl, .inr (G.K ▸ ha), rr⟩
    obtain ⟨a, vs, rfl, hv, rr⟩ := hsq
    obtain ⟨ks, rfl, e2, e3⟩ := prs_of hl rr
    have hlen : ks.length = l.length := by
      have := congrArg List.length e2
      rwa [List.length_map, List.length_map] at this
    refine ⟨a, ks, rfl, hv, fun p hp => G.K ▸ e3 p hp, by rw [hlen]; exact ok.1, fun b L hb sub all => ?_⟩
    have s1 : Same H1 (upd H1 b (SetTO X.prog X.w b L)) := same_new hb
    have hsq2 : ∀ p ∈ ks, SqT C.K (upd H1 b (SetTO X.prog X.w b L)) p.1 (p.2.map V.int) := fun p hp => (Kept.of_same (Z := OA F own σ) s1).sqT (e3 p hp)
    have hB := topP_bd ok.2
    refine ⟨b, L, 2, topP l, rfl, upd_same .., fun p hp => G.K ▸ hsq2 p (sub p hp), by decide, fun p hp => ?_, fun L' c pm nd few pw hc => ?_⟩
    · have h1 : p.2 ∈ ks.map (·.2) := List.mem_map_of_mem (sub p hp)
      rw [e2] at h1
      obtain ⟨y, hy, e⟩ := List.mem_map.mp h1
      rw [← e]
      refine ⟨rfl, fun m hm => ?_⟩
      unfold prL at hm
      have b1 := ok.2 y hy
      have b2 := hB.2 y hy
      rcases List.mem_cons.mp hm with z | z
      · subst z; exact ⟨b1.1, b2.1⟩
      · rw [List.mem_singleton] at z
        subst z
        exact ⟨b1.2, b2.2⟩
    · have r2 := r1.same s1
      have e4 := sorted_is e2 ok.2 sub all pm nd pw
      have rr2 : RpL C (OA F own σ) (upd H1 b (SetTO X.prog X.w b L)) (L'.map fun q => V.ref q.1) ((sortP l).map prD) := prs_back e4 fun q hq => hsq2 q (sub q (pm.mem_iff.mp hq))
      have f2 := frv_lst (C := C) hc (neS r2.tracked r2.oaS hc) rr2
      exact q2 _ _ (r2.same (same_new hc)) ((KeptS.of_same s1).trans (.of_same (same_new hc))) ((f2.back (.of_same s1) r2.cell).back kp1 r1.cell)
end
end PL

set_option maxHeartbeats 4000000
/-! PL28: what the module's top leaves, as one look. -/
namespace PL
open PySem PySem.Spec L2 PyProof.Rows
/-- what an exception class of the module's own is: built on Exception, with no deed of its own; the four that are asked for, and the one that is caught -/
def xcB (K : PySem.W.Frag) (four : List Str) (cB : Str) (x : Str) : Bool :=
  PySem.W.excIn K (He.ga K x) [.type "Exception", .type "BaseException", .type "object"] "Exception.__new__" && (PySem.W.keepIn K (.ref (He.ga K x)) && (decide (PySem.W.subIn K (.ref (He.ga K x)) (.type "BaseException") = some true) && (decide (PySem.W.typeIn K (.ref (He.ga K x)) = some (.type "type")) &&
  (decide (PySem.W.findIn K (.ref (He.ga K x)) "__getattribute__" = some (some (.builtin "BaseException.__getattribute__"))) && (decide (PySem.W.findIn K (.ref (He.ga K x)) "__getattr__" = some none) && (PySem.W.hasDictIn K (He.ga K x) && (decide (PySem.W.findIn K (.ref (He.ga K x)) "__class__" = some (some (.builtin "object.__class__"))) &&
  (decide (PySem.W.specialIn K (.builtin "object.__class__") "__get__" = some (some (.builtin "getset_descriptor.__get__"))) && (decide (PySem.W.takesIn K (.builtin "object.__class__") = some true) && (decide (PySem.W.mroIn K (He.ga K x) (.type "object") = some true) &&
  (decide (PySem.W.exmOne K (.ref (He.ga K x)) (.ref (He.ga K cB)) = some true) && four.all fun y => decide (PySem.W.kitOne K (.ref (He.ga K x)) (.ref (He.ga K y)) = some (decide (x = y))))))))))))))
abbrev four : List Str := ["NotAllowed", "TooLarge", "Missing", "BadPaper"]
abbrev AlE : Type := He.AlD × Bool
def obsE (n : Nat) (fa : List He.Fa) (fn : List He.DefD) (ex : PySem.W.Frag → Bool) (g : Addr → Option Obj) : AlE := (He.obsD fa fn (He.frG g (He.asD g n)), ex (He.frG g (He.asD g n)))
/-- the look at the heap behind the top -/
def hookE (n : Nat) (fa : List He.Fa) (fn : List He.DefD) (ex : PySem.W.Frag → Bool) : PySem.W.Hook where
  α := AlE
  obs := fun s => obsE n fa fn ex s.heap.get?
  val := fun _ => (He.valD fn, true)
  says := fun _ h => ∃ K : PySem.W.Frag, K.In h ∧ He.SaysD fa fn K ∧ ex K = true
  of := fun _ _ e => ⟨_, He.frG_in, congrArg (fun z : AlE => z.1) e, congrArg (fun z : AlE => z.2) e⟩
  keeps := fun _ _ _ ⟨K, hK, c⟩ k => ⟨K, PySem.W.Frag.In.keeps hK k, c⟩
theorem obsE_eq {n : Nat} {fa : List He.Fa} {fn : List He.DefD} {ex : PySem.W.Frag → Bool} {g : Addr → Option Obj} {s : Shared} (h : ∀ a, g a = s.heap.get? a) : obsE n fa fn ex g = (hookE n fa fn ex).obs s := by
  have e : g = s.heap.get? := funext h
  rw [e] <;> rfl
end PL

set_option maxHeartbeats 4000000
/-! PL29: the end: the law's def is called. -/
namespace PL
open PySem PySem.Spec L2 PyProof.Rows
open Classical
theorem law_callG {P : Program} {w : World} {K : PySem.W.Frag} {mg mb : Str → Option Value} {k : Nat} {fa a : Addr} {fd : FuncData} {x : Str} {sp : Sp} {s₁ : Shared} {vs : List Value} {ns : List Int}
    (inK : K.In s₁.heap) (nsG : s₁.heap.Ns mainGlobals mg) (nsB : s₁.heap.Ns builtinsNs mb) (nsBb : ∀ x : Str, x ≠ "__name__" → mb x = bootBuiltins x) (noLim : s₁.heap.NoLimit) (noGen : s₁.gens = #[])
    (atA : s₁.heap.get? a = some { cls := .type "list", data := .seq vs.toArray }) (inA : IntsAre vs ns) (lenA : ns.length ≤ sizeLine) (rmA : Room k callerA)
    (F : ∀ base : Heap, K.In base → base.Ns mainGlobals mg → FnG P w K mg base k fa fd [x] sp) (bindA : ∀ (s : Shared) (u : Value), BindsTo s fd ⟨[u], []⟩ [(x, u)])
    (spA : ∀ H : Hp, Only H → SqL K H a (ns.map V.int) → sp [.ref a] H (fun v _ => v = .bl true) fun _ _ _ => False)
    :
    codeAny (model P w) callerA (.call (.ref fa) ⟨[.ref a], []⟩) (fun r s' => r = .ok (.ret (.bool true)) ∧ OldK s₁.heap s'.heap ∧ s'.os = s₁.os ∧ AllBare s'.gens) s₁ := by
  have relA := vals_ints inA
  have lenR := inA.length
  -- from an abstract heap in which nothing but the script may be tracked
  have heart : ∀ H : Hp, Only H → SqL K H a (ns.map V.int) → HOk P w H s₁.heap → (∀ b, H b ≠ none → b = a) → (H a ≠ none → K.lookup a = none) →
      codeAny (model P w) callerA (.call (.ref fa) ⟨[.ref a], []⟩) (fun r s' => r = .ok (.ret (.bool true)) ∧ OldK s₁.heap s'.heap ∧ s'.os = s₁.os ∧ AllBare s'.gens) s₁ := by
    intro H onlyH seqH okH onA notK
    have baseOf : ∀ {b : Addr} {o : Obj}, s₁.heap.get? b = some o → H b = none → (hidT s₁.heap H).get? b = some o := fun e n => hidT_get e n
    have notA : ∀ {b : Addr} {o : Obj} {es : Array DictEntry} {ep : Nat}, s₁.heap.get? b = some o → o.data = .dict es ep → H b = none := fun {b o es ep} e d => by
      cases q : H b with
      | none => rfl
      | some u =>
        have e' : b = a := onA b (by rw [q]; simp)
        subst e'
        rw [atA] at e; cases e
        have d' : Data.seq vs.toArray _ = Data.dict es ep := d
        cases d'
    have nsH : ∀ {b : Addr} {m : Str → Option Value}, s₁.heap.Ns b m → (hidT s₁.heap H).Ns b m := fun {b m} ⟨o, es, ep, e, d, r⟩ => ⟨o, es, ep, baseOf e (notA e d), d, r⟩
    have inB : K.In (hidT s₁.heap H) := fun b o e => baseOf (inK b o e) (by
      cases q : H b with
      | none => rfl
      | some u =>
        have e' : b = a := onA b (by rw [q]; simp)
        subst e'
        rw [notK (by rw [q]; simp)] at e; cases e)
    have modB : Mod K mg (hidT s₁.heap H) := ⟨inB, nsH nsG, ⟨mb, nsH nsB, nsBb⟩, let ⟨mc, h1, h2⟩ := noLim; ⟨mc, nsH h1, h2⟩⟩
    have env0 : Env0 P w K mg (hidT s₁.heap H) callerA [] s₁ H := ⟨rfl, modB, fun b o e => of_hidT e, Nat.le_of_eq (hidT_size _ _), trivial, fun b nsB => absurd (show b ∈ ([] : List Addr) from nsB) (by simp), okH, .of_eq noGen⟩
    refine codeAny_mono ((F _ inB (nsH nsG)).run callerA [] s₁ H ⟨[.ref a], []⟩ [.ref a] [.ref a] _ _ rfl rmA env0 (bindA s₁ (.ref a)) (.cons rfl .nil) (spA H onlyH seqH)) fun r s' h => ?_
    cases r with
    | error e =>
      obtain ⟨_, _, _, _, _, _, _, _, _, _, _, _, no⟩ := h
      exact no.elim
    | ok fl =>
      cases fl with
      | next => exact False.elim h
      | brk => exact False.elim h
      | cont => exact False.elim h
      | ret u =>
        obtain ⟨v, H', os, bareS, unS, okH', rel', q⟩ := h
        have q' : v = .bl true := q
        subst q'
        obtain rfl : u = Value.bool true := rel'
        refine ⟨rfl, OldK.of_keep fun b o e => ?_, os, bareS⟩
        cases q : H b with
        | none => exact unS.keep b o e q (by intro z; exact absurd (show b ∈ ([] : List Addr) from z) (by simp)) (by simp)
        | some u =>
          rcases onlyH b with z | ⟨ob, xs, z⟩
          · rw [q] at z; cases z
          · have zz := unS.frzs b ob _ z
            obtain ⟨ea, _⟩ := okH b _ z
            obtain ⟨eb, _⟩ := okH' b _ zz
            rw [e] at ea; cases ea
            exact eb
  cases hk : K.lookup a with
  | some o =>
    -- the script is one of the module's own objects
    have e := inK a o hk
    rw [atA] at e
    cases e
    refine heart (fun _ => none) (fun _ => .inl rfl) (.inr ⟨_, vs.toArray, _, hk, rfl, rfl, rfl, by rw [List.size_toArray, lenR]; exact lenA, by simpa using relA⟩) (fun b u z => by have z' : (none : Option HO) = some u := z; cases z') (fun b z => absurd rfl z) fun z => absurd rfl z
  | none =>
    refine heart (fun b => if b = a then some (.frz { cls := .type "list", data := .seq vs.toArray } (.lst (ns.map V.int))) else none) (fun b => ?_) (.inl (.inr ⟨{ cls := .type "list", data := .seq vs.toArray }, if_pos rfl⟩)) (fun b u z => ?_) (fun b z => ?_) fun _ => hk
    · by_cases nsB : b = a
      · exact .inr ⟨_, _, if_pos nsB⟩
      · exact .inl (if_neg nsB)
    · by_cases nsB : b = a
      · have z' := (if_pos nsB).symm.trans z
        cases z'
        subst nsB
        exact ⟨atA, by rw [List.length_map]; exact lenA, vs, _, relA, atA⟩
      · have z' := (if_neg nsB).symm.trans z
        cases z'
    · by_cases nsB : b = a
      · exact nsB
      · exact absurd (if_neg nsB) z

theorem walk_G {l : PySem.W.OpenLaw} {n k : Nat} {q : Program} {loose : List Str} {XP : (Str → Option Value) → Heap → Prop} {YP : World → Heap → Prop} {d : DefRec} {x : Str}
    (hn : l.most = some n) (hn2 : n ≤ sizeLine) (hdf : d.params.defaults = []) (hr : Room k callerA)
    (F : ∀ (w : World) (mg : Str → Option Value) (fa : Addr) (h : Heap), YP w h → h.Ns mainGlobals mg → mg d.name = some (.ref fa) →
      ∃ (K : PySem.W.Frag) (fd : FuncData) (sp : Sp), K.In h ∧ (∀ (s : Shared) (u : Value), BindsTo s fd ⟨[u], []⟩ [(x, u)]) ∧
        (∀ (H : Hp) (a : Addr) (ns : List Int), ns.length ≤ n → Only H → SqL K H a (ns.map V.int) → sp [.ref a] H (fun v _ => v = .bl true) fun _ _ _ => False) ∧
        ∀ base : Heap, K.In base → base.Ns mainGlobals mg → FnG l.prog w K mg base k fa fd [x] sp) :
    PySem.W.WalkO q loose XP YP l.row.toRowW d [] (fun f vs => PySem.call f vs) := by
  refine Att.attach_call hn hdf fun w s₀ s₁ mg mb fa o pm cd doc a vs ns G Y ho hd hcd hmg hobj hints hlen hg => ?_
  obtain ⟨K, fd, sp, inK, bd, sp1, hF⟩ := F w mg fa _ Y G.T.g hmg
  exact law_callG inK G.T.g G.T.b G.T.builtins G.T.nolimit hg hobj hints (Nat.le_trans hlen hn2) hr hF bd fun H h1 h2 => sp1 H a ns hlen h1 h2
/-- places, one by one -/
def pL : List Pos → Nat → Pos
  | [], _ => ⟨0, 0, 0, 0⟩
  | p :: _, 0 => p
  | _ :: r, n + 1 => pL r n
end PL

set_option maxHeartbeats 4000000
/-! PL30: the law's def: its numbers first, then the rest. -/
namespace PL
open PySem PySem.Spec L2
open PyProof.Rows (envOfC)
open Classical
theorem pe_fng {X : Cx} {sp : Sp} {k : Nat} {f : Addr} {fd : FuncData} {ps : List Str} {x : Str} {p pos : Pos} {a : Expr} {es : List Expr} {ta : TA} {E : XK} (F : FnG X.prog X.w X.K X.mg X.base k f fd ps sp) (hg : X.A.guards = some []) (hr : Room k X.A) (gl : Gl X x) (hm : X.mg x = some (.ref f))
    (hd : (x == ("__debug__" : Str)) = false) (kp : PySem.W.keepIn X.K (.ref f) = true) (hb : Binds X.K fd ps []) (tk : L2N.Takes X (fun cls d _ H => E cls d H)) (ha : PA X (a :: es) ta) (hs : starEach (a :: es) X.env = (false, eval a X.env) :: starEach es X.env) (hpl : (backTo pos (starEach es X.env)).any (·.1) = false) :
    PE X (.Call (.Name x p) (a :: es) [] pos) (fun σ H Q => ta σ H fun vs H1 => sp vs H1 Q E) := by
  refine ⟨fun pins s σ H Q I h => ?_⟩
  refine wpAny_Call_Name_kw (ld_glob I gl hm ?_ hd)
  refine PySem.W.callWith_K (h₀ := X.base) I.ok.mod.kin kp (thn (ha.run pos pins s σ H _ I h) fun us s1 ⟨vs, H1, I1, rv, q2⟩ => ⟨I1.kIn, ?_⟩) hs hpl
  exact run_fng F hg hr hb tk I1 rv q2
/-- state = [_law_stream(script), 0] -/
def st0 (q : Nat → Pos) : Stmt := .Assign [.Name "state" (q 0)] (.List [.Call (.Name "_law_stream" (q 1)) [.Name "script" (q 2)] [] (q 3), .Constant (.int 0) 0 (q 4)] (q 5)) (q 6)
def spLaw (K : PySem.W.Frag) : Sp := fun vs H Q _ => ∃ (l : Addr) (zs : List Int), vs = [.ref l] ∧ SqL K H l (zs.map V.int) ∧ ∀ H', Q (.bl true) H'
/-- the slots when the rest begins -/
def env0 (n : Nat) : Env := (List.replicate n none).set 1 (some .cell)
theorem env0_at {n i : Nat} {d : D} (h : (env0 n)[i]? = some (some d)) : i = 1 ∧ d = .cell := by
  unfold env0 at h
  by_cases hi : i = 1
  · subst hi
    rw [List.getElem?_set_self'] at h
    cases e : (List.replicate n (none : Option D))[1]? with
    | none => rw [e] at h; cases h
    | some x => rw [e] at h; cases h; exact ⟨rfl, rfl⟩
  · rw [List.getElem?_set_ne (fun z => hi z.symm), List.getElem?_replicate] at h
    split at h <;> cases h
theorem fng_law {P : Program} {w : World} {K : PySem.W.Frag} {mg : Str → Option Value} {base : Heap} {j k : Nat} {f f1 : Addr} {fd1 : FuncData} {nm ql : Str} {par : Arguments} {bd bt : List Stmt} {sc : Scope} {dV kV doc pm cdv ct oc : Value} {an od : Option Addr}
    {osl : Array (Option Value)} {N : List Str} {q : Nat → Pos} {m : List Int → Stm} (lk : K.lookup f = some ⟨oc, od, .func (PySem.W.fnOf nm ql par bd sc dV kV doc pm an cdv ct), osl⟩) (hc : PySem.W.codeIn K cdv ql = true) (S : FnScope N ["script"] sc) (hbd : bd = st0 q :: bt)
    (n0 : N[0]? = some ("script" : Str)) (n1 : N[1]? = some ("state" : Str)) (l0 : sc.names.lookup ("script" : Str) = some .local) (l1 : sc.names.lookup ("state" : Str) = some .local ∨ sc.names.lookup ("state" : Str) = some .cell) (g1 : sc.names.lookup ("_law_stream" : Str) = some .globalImplicit)
    (F1 : FnG P w K mg base j f1 fd1 ["script"] (spStrm K)) (hj : j ≤ k) (hm : mg "_law_stream" = some (.ref f1)) (kp : PySem.W.keepIn K (.ref f1) = true) (hb : Binds K fd1 ["script"] [])
    (body : ∀ (aS aN : Addr) (ns : List Int), DSs ⟨P, w, K, mg, base, aS, aN, ns⟩ k ⟨sc, sc, true⟩ N [] [] [] bt (m ns))
    (maths : ∀ ns : List Int, ns ≠ [] → ns.length ≤ 4000 → ∃ k', m ns (env0 N.length) 0 = .ok (.rt (.bl true)) k') :
    FnG P w K mg base (k + 1) f (PySem.W.fnOf nm ql par bd sc dV kV doc pm an cdv ct) ["script"] (spLaw K) := by
  subst hbd
  refine fng_of lk hc S ?_ ?_
  · rintro vs H Q E ⟨l, zs, rfl, _⟩
    rfl
  · rintro A outer s H vs Q E hg hr ⟨l, zs, rfl, hl, hq⟩
    have G : ∀ aS aN ns, Good ⟨P, w, K, mg, base, aS, aN, ns⟩ k ⟨sc, sc, true⟩ N E (cxOf (L2N.CX P w) P w K mg base N ql sc f cdv A outer s H E) := fun aS aN ns => good_cx (C := ⟨P, w, K, mg, base, aS, aN, ns⟩) S hg hr S.kind
    have call := pe_fng (X := cxOf (L2N.CX P w) P w K mg base N ql sc f cdv A outer s H E) (p := q 1) (pos := q 3) (E := E) (F1.raise hj) hg hr g1 hm (by decide +kernel) kp hb (G 0 0 []).takes (pa_cons (pe_var (i := 0) (pos := q 2) n0 (.inl l0) (by decide +kernel) (by decide +kernel)) pa_nil rfl) rfl rfl
    refine ⟨_, pss_cons (ps_set (i := 1) S.nd n1 l1 (pe_lst (pa_cons call (pa_cons pe_int pa_nil rfl) rfl)) rfl (.inl rfl)) (PSs.ex fun x : Addr × Addr × List Int => PSs.ex fun F => PSs.ex fun H0 => body x.1 x.2.1 x.2.2 F H0 E _ (G _ _ _)), ?_⟩
    refine ⟨.ref l, rfl, l, zs, rfl, hl, fun aN ns H1 s1 hN e1 ne len => ⟨by rw [sizeLine_eq]; show 2 ≤ _; omega, fun aS hS => ?_⟩⟩
    obtain ⟨k', hk⟩ := maths ns ne len
    have nS : aN ≠ aS := fun z => by rw [← z, e1] at hS; cases hS
    refine ⟨(aS, aN, ns), fun a => a = aS, upd H1 aS (.lst [.ref aN, .int 0]), env0 N.length, 0, ⟨?_, upd_same, .inl ?_, rfl, nS, ?_, fun a o e _ => e, fun i d e => ?_, fun i hi => absurd hi (by simp), fun i hi => absurd hi (by simp)⟩, ?_⟩
    · unfold env0 L2.start
      simp
      have : 1 ≤ N.length := (List.getElem?_eq_some_iff.mp n0).1
      omega
    · rw [upd_ne nS]; exact e1
    · rintro a rfl
      rw [upd_same]
      exact fun z => nomatch z
    · obtain ⟨rfl, rfl⟩ := env0_at e
      refine ⟨.ref aS, ?_, .inl ⟨by simp, .cell⟩⟩
      have : 1 < N.length := (List.getElem?_eq_some_iff.mp n1).1
      rw [List.getElem?_set_self (by unfold L2.start; simp; omega)]
    · show AfterS _ _ _ _ _ _ _ _ _ (m ns (env0 N.length) 0) _
      rw [hk]
      intro v H' _ z
      obtain rfl := Rb.blE (Rp.b z)
      exact hq H'
end PL

set_option maxHeartbeats 4000000
/-! PL31: from the look at the heap to the defs' promises. -/
namespace PL
open PySem PySem.Spec L2
open Classical
section
variable {C : Cn} {x : Str} {par : Arguments} {bd : List Stmt} {sc : Scope} {f : Addr} {fd : FuncData} {N ps : List Str} {k : Nat}
abbrev BindA (x : Str) (par : Arguments) (bd : List Stmt) (sc : Scope) (ps : List Str) : Prop := ∀ (kV doc pm : Value) (an : Option Addr) (cdv ct : Value) (us : List Value), us.length = ps.length → bindArgs (PySem.W.fnOf x x par bd sc .none kV doc pm an cdv ct) ⟨us, []⟩ = pure (ps.zip us)
theorem funD_ex (D : FunD C.K x x par bd sc [] [] f fd) : ∃ (oc : Value) (od : Option Addr) (kV doc pm : Value) (an : Option Addr) (cdv ct : Value) (osl : Array (Option Value)), fd = PySem.W.fnOf x x par bd sc .none kV doc pm an cdv ct ∧ C.K.lookup f = some ⟨oc, od, .func fd, osl⟩ ∧ PySem.W.codeIn C.K cdv x = true := by
  obtain ⟨oc, od, dV, kV, doc, pm, an, cdv, ct, osl, e, lk, hc, hD, _⟩ := D.ex
  rcases hD with ⟨_, rfl⟩ | ⟨z, _⟩
  · exact ⟨oc, od, kV, doc, pm, an, cdv, ct, osl, e, lk, hc⟩
  · exact absurd rfl z
theorem fnR_of_D {m : Stm} (D : FunD C.K x x par bd sc [] [] f fd) (S : FnScope N ps sc) (hm : C.mg x = some (.ref f)) (hb : BindA x par bd sc ps) (h : DSs C k ⟨sc, sc, true⟩ N [] [] [] bd m) : FnR C (k + 1) x ps.length (fnOf N.length m) := by
  have b := D.bindsN hb
  obtain ⟨oc, od, kV, doc, pm, an, cdv, ct, osl, rfl, lk, hc⟩ := funD_ex D
  exact fnr_of (args := par) lk hc S hm D.kp b h
theorem fnR_next_D {q : Nat → Pos} (D : FunD C.K "_law_next" "_law_next" par bd sc [] [] f fd) (S : FnScope nextN ["state", "many"] sc) (hm : C.mg "_law_next" = some (.ref f)) (hb : BindA "_law_next" par bd sc ["state", "many"]) (hn : sc.names = nextNames) (hbd : bd = nextBd q) (b1 : C.mg "len" = none) (b2 : C.mg "int" = none) :
    FnR C 1 "_law_next" 2 (nextD C.ns) := by
  have b := D.bindsN hb
  obtain ⟨oc, od, kV, doc, pm, an, cdv, ct, osl, rfl, lk, hc⟩ := funD_ex D
  exact fnr_next (k := 0) lk hc S hm D.kp b hn hbd b1 b2
theorem errR_of_D {q1 q2 q3 q4 q5 q6 q : Nat → Pos} (D : FunD C.K "_law_error" "_law_error" par bd sc [] [] f fd) (S : FnScope errN ["e"] sc) (hm : C.mg "_law_error" = some (.ref f)) (hb : BindA "_law_error" par bd sc ["e"]) (hn : sc.names = errNames) (hbd : bd = errBd q1 q2 q3 q4 q5 q6 q) (hl : ((q 3).line == (q5 14).line) = true)
    (blt : ∀ x ∈ ([PySem.Str.ofString "isinstance", PySem.Str.ofString "range", PySem.Str.ofString "int", PySem.Str.ofString "len"] : List Str), C.mg x = none) : ErrR C 1 := by
  have b := D.bindsN hb
  obtain ⟨oc, od, kV, doc, pm, an, cdv, ct, osl, rfl, lk, hc⟩ := funD_ex D
  exact errR_of (k := 0) lk hc S hm D.kp b hn hbd hl blt
theorem fnG_strm_D {q1 q2 q3 q4 q5 q6 q7 q8 q9 q10 q11 q : Nat → Pos} (D : FunD C.K "_law_stream" "_law_stream" par bd sc [] [] f fd) (S : FnScope strmN ["script"] sc) (hn : sc.names = strmNames) (hbd : bd = strm q1 q2 q3 q4 q5 q6 q7 q8 q9 q10 q11 q)
    (h1 : Lin q3) (h2 : Lin q9) (h3 : Lin q11) (blt : ∀ x ∈ ([PySem.Str.ofString "abs", PySem.Str.ofString "int", PySem.Str.ofString "range", PySem.Str.ofString "len"] : List Str), C.mg x = none) :
    FnG C.P C.w C.K C.mg C.base 1 f fd ["script"] (spStrm C.K) := by
  obtain ⟨oc, od, kV, doc, pm, an, cdv, ct, osl, rfl, lk, hc⟩ := funD_ex D
  exact fng_strm (k := 0) lk hc S hn hbd h1 h2 h3 blt
/-! ### exception classes -/
theorem xcB_ex {K : PySem.W.Frag} {fr : List Str} {cB x : Str} (h : xcB K fr cB x = true) : PySem.W.excIn K (He.ga K x) [.type "Exception", .type "BaseException", .type "object"] "Exception.__new__" = true ∧ PySem.W.keepIn K (.ref (He.ga K x)) = true ∧ PySem.W.subIn K (.ref (He.ga K x)) (.type "BaseException") = some true ∧
    PySem.W.typeIn K (.ref (He.ga K x)) = some (.type "type") ∧ ExcC K (He.ga K x) ∧ PySem.W.exmOne K (.ref (He.ga K x)) (.ref (He.ga K cB)) = some true ∧ ∀ y ∈ fr, PySem.W.kitOne K (.ref (He.ga K x)) (.ref (He.ga K y)) = some (decide (x = y)) := by
  unfold xcB at h
  simp only [Bool.and_eq_true, decide_eq_true_eq, List.all_eq_true] at h
  obtain ⟨h1, h2, h3, h4, h5, h6, h7, h8, h9, h10, h11, h12, h13⟩ := h
  exact ⟨h1, h2, h3, h4, ⟨h5, h6, h3, h7, h8, h9, h10, h11⟩, h12, h13⟩
theorem xcR_of {fr : List Str} {cB : Str} (h : xcB C.K fr cB x = true) (hm : C.mg x = some (.ref (He.ga C.K x))) : XcR C x := by
  obtain ⟨h1, h2, h3, h4, _⟩ := xcB_ex h
  exact ⟨_, _, _, _, _, PySem.F.excBase_Exception, h1, hm, h2, h3, h4⟩
theorem errs_of (h : ∀ x ∈ four, xcB C.K four "BeatError" x = true) (hm : ∀ x ∈ four, C.mg x = some (.ref (He.ga C.K x))) (hB : C.mg "BeatError" = some (.ref (He.ga C.K "BeatError"))) :
    ∃ cB, C.mg "BeatError" = some cB ∧ ∀ c s, errName c = some s → XcA C cB c s := by
  refine ⟨_, hB, ?_⟩
  have one : ∀ (c s : Str), c ∈ four → errAns (four.map fun y => decide (c = y)) = s → XcA C (.ref (He.ga C.K "BeatError")) c s := fun c s hc he => by
    obtain ⟨h1, h2, h3, h4, h5, h6, h7⟩ := xcB_ex (h c hc)
    refine ⟨_, _, hm c hc, ⟨h5, rfl, fun i y hy => ?_⟩, h6, he⟩
    have hy' : four[i]? = some y := hy
    have hmem := List.mem_of_getElem? hy'
    exact ⟨_, decide (c = y), by rw [List.getElem?_map, hy']; rfl, hm y hmem, h7 y hmem⟩
  intro c s hs
  unfold errName at hs
  split at hs
  · rename_i e
    cases hs
    subst e
    exact one _ _ (by decide +kernel) (by decide +kernel)
  split at hs
  · rename_i e
    cases hs
    subst e
    exact one _ _ (by decide +kernel) (by decide +kernel)
  split at hs
  · rename_i e
    cases hs
    subst e
    exact one _ _ (by decide +kernel) (by decide +kernel)
  split at hs
  · rename_i e
    cases hs
    subst e
    exact one _ _ (by decide +kernel) (by decide +kernel)
  cases hs
end
end PL

set_option maxHeartbeats 4000000
namespace PL
open PySem PySem.Spec L2
open Classical
namespace K04
abbrev topS (i : Nat) : Stmt := PySem.Challenge.pw_slowestrun_k04_whole_runs.main.body.getD i (.Pass ⟨0, 0, 0, 0⟩)
abbrev s_check_machine : Stmt := topS 10
abbrev s_check_ways : Stmt := topS 11
abbrev s_check_state : Stmt := topS 12
abbrev s_check_deeds : Stmt := topS 16
abbrev s_runs : Stmt := topS 17
abbrev s_check_run : Stmt := topS 18
abbrev s_beats_of : Stmt := topS 19
abbrev s_deeds_in : Stmt := topS 20
abbrev s_state_behind : Stmt := topS 21
abbrev s_extremes : Stmt := topS 22
abbrev s_law_error : Stmt := topS 24
abbrev s_law_next : Stmt := topS 25
abbrev s_law_stream : Stmt := topS 26
abbrev s_law_same : Stmt := topS 27
abbrev s_law_told : Stmt := topS 28
abbrev s_law_all : Stmt := topS 29
abbrev s_law_machine : Stmt := topS 30
abbrev s_law_sums : Stmt := topS 31
abbrev s_law_runs : Stmt := topS 32
abbrev s_law_is_run : Stmt := topS 33
abbrev s_law_deeds_fit : Stmt := topS 34
abbrev s_law_errors_fit : Stmt := topS 35
abbrev s_law : Stmt := topS 36
/-- what the module has written -/
structure GF (C : Cn) : Prop where
  blt : ∀ x ∈ ([PySem.Str.ofString "abs", PySem.Str.ofString "all", PySem.Str.ofString "any", PySem.Str.ofString "int", PySem.Str.ofString "isinstance", PySem.Str.ofString "len", PySem.Str.ofString "list", PySem.Str.ofString "max", PySem.Str.ofString "min", PySem.Str.ofString "range", PySem.Str.ofString "repr", PySem.Str.ofString "set", PySem.Str.ofString "sorted", PySem.Str.ofString "sum", PySem.Str.ofString "tuple"] : List Str), C.mg x = none
  x_BadPaper : XcR C "BadPaper"
  x_NotAllowed : XcR C "NotAllowed"
  x_TooLarge : XcR C "TooLarge"
  k_MAX_BEATS : ∃ t, C.mg "MAX_BEATS" = some (.int 1000 t)
  k_MAX_DEEDS : ∃ t, C.mg "MAX_DEEDS" = some (.int 12 t)
  k_MAX_LONG : ∃ t, C.mg "MAX_LONG" = some (.int 200 t)
  k_MAX_RUNS : ∃ t, C.mg "MAX_RUNS" = some (.int 5000 t)
  k_MAX_STATES : ∃ t, C.mg "MAX_STATES" = some (.int 60 t)
  errs : ∃ cB, C.mg "BeatError" = some cB ∧ ∀ c s, errName c = some s → XcA C cB c s
def n_check_machine : List Str := ["machine", "deeds", "table", "row", "ways"]
def n_check_ways : List Str := ["ways", "states", "own"]
def n_check_state : List Str := ["machine", "state"]
def n_check_deeds : List Str := ["machine", "state", "deeds", "deed"]
def n_runs : List Str := ["machine", "state", "deeds", "found", "deed", "steps", "run", "here", "own", "beats", "after", "_"]
def n_check_run : List Str := ["machine", "state", "run", "here", "step"]
def n_beats_of : List Str := ["run", "step"]
def n_deeds_in : List Str := ["run", "step"]
def n_state_behind : List Str := ["state", "run"]
def n_extremes : List Str := ["machine", "state", "deeds", "low", "high", "deed", "lows", "highs", "here", "beats", "after"]
def n_law_same : List Str := ["told", "due"]
def n_law_told : List Str := ["way", "some", "e"]
def n_law_all : List Str := ["left", "right", "rows", "one", "two"]
def n_law_machine : List Str := ["state", "deeds", "top", "sure", "states", "table", "k", "row", "deed", "ways", "j"]
def n_law_sums : List Str := ["machine", "state", "deeds", "here", "deed", "wide", "own", "beats", "after", "low", "high"]
def n_law_runs : List Str := ["machine", "state", "deeds", "found", "deed", "wide", "run", "here", "way"]
def n_law_is_run : List Str := ["machine", "state", "run", "here", "step"]
def n_law_deeds_fit : List Str := ["state", "machine", "begin", "deeds", "every", "sums", "told", "here", "own", "at", "tried", "deed", "run", "step"]
def n_law_errors_fit : List Str := ["state", "machine", "wrong", "due", "told", "states", "bad", "large", "own", "spot", "deed"]
def n_law : List Str := ["script", "state", "size", "many", "ring", "due", "two", "turn", "machine", "kept", "k", "deeds", "j"]
noncomputable def m_check_ways : Stm := (sSeq (sIf (tOr2 (tV (eCallB (f1 fAny) (eCons (eLc (iSeq (eVar 0)) (pName 2) tYs (e2 fNe (eCallB fLen (eCons (eVar 2) eNil)) (eC (.int 2))) [2]) eNil))) (tOr2 (tV (e2 fEq (eCallB fLen (eCons (eVar 0) eNil)) (eC (.int 0)))) (tV (e2 fNe (eCallB fList (eCons (eVar 0) eNil)) (e1 fSortSet (eVar 0)))))) (sRaise (PySem.Str.ofString "NotAllowed")) sNil) (sSeq (sIf (tV (eCallB (f1 fAny) (eCons (eLc (iSeq (eVar 0)) (pName 2) tYs (e2 fGt (e2 fIx (eVar 2) (eC (.int 0))) (eC (.int 1000))) [2]) eNil))) (sRaise (PySem.Str.ofString "TooLarge")) sNil) (sIf (tV (eCallB (f1 fAny) (eCons (eLc (iSeq (eVar 0)) (pName 2) tYs (eOr2 (e2 fLt (e2 fIx (eVar 2) (eC (.int 0))) (eC (.int 0))) (eNot (eChain fLe fLt (eC (.int 0)) (e2 fIx (eVar 2) (eC (.int 1))) (eVar 1)))) [2]) eNil))) (sRaise (PySem.Str.ofString "NotAllowed")) sNil)))
noncomputable def φ_check_ways : List D → Int → R D := fnOf 3 m_check_ways
noncomputable def m_beats_of : Stm := (sRet (eCallB (f1 fSum) (eCons (eLc (iSeq (eVar 0)) (pName 1) tYs (e2 fIx (eVar 1) (eC (.int 1))) [1]) eNil)))
noncomputable def φ_beats_of : List D → Int → R D := fnOf 2 m_beats_of
noncomputable def m_deeds_in : Stm := (sRet (eCallB (f1 fTup) (eCons (eLc (iSeq (eVar 0)) (pName 1) tYs (e2 fIx (eVar 1) (eC (.int 0))) [1]) eNil)))
noncomputable def φ_deeds_in : List D → Int → R D := fnOf 2 m_deeds_in
noncomputable def m_state_behind : Stm := (sRet (eIf (tV (e2 fGt (eCallB fLen (eCons (eVar 1) eNil)) (eC (.int 0)))) (e2 fIx (e2 fIx (eVar 1) (e1 fNeg (eC (.int 1)))) (eC (.int 2))) (eVar 0)))
noncomputable def φ_state_behind : List D → Int → R D := fnOf 2 m_state_behind
noncomputable def m_law_same : Stm := (sRet (e2 fEq (eCallB fRepr (eCons (eLst (eCons (eVar 0) eNil)) eNil)) (eCallB fRepr (eCons (eLst (eCons (eVar 1) eNil)) eNil))))
noncomputable def φ_law_same : List D → Int → R D := fnOf 2 m_law_same
noncomputable def m_law_all : Stm := (sSeq (sSet 2 (eLst eNil)) (sSeq (sFor (iSeq (eVar 0)) (pName 3) (sSet 2 (e2 fCat (eVar 2) (eLc (iSeq (eVar 1)) (pName 4) tYs (eTup (eCons (eVar 3) (eCons (eVar 4) eNil))) [4])))) (sRet (eVar 2))))
noncomputable def φ_law_all : List D → Int → R D := fnOf 5 m_law_all
noncomputable def m_law_sums : Stm := (sSeq (sSet 3 (eDisp1 (eVar 1) (eTup (eCons (eC (.int 0)) (eCons (eC (.int 0)) eNil))))) (sSeq (sFor (iSeq (eVar 2)) (pName 4) (sSeq (sSetF 5 eDnew) (sSeq (sForK 3 (pName 6) (sFor (iSeq (e2 fIx (e2 fIx (e2 fIx (eVar 0) (eC (.int 1))) (eVar 6)) (eVar 4))) (pTup [(pName 7), (pName 8)]) (sSeq (sPar 9 10 (eCons (e2 fAdd (e2 fIx (e2 fIx (eVar 3) (eVar 6)) (eC (.int 0))) (eVar 7)) (eCons (e2 fAdd (e2 fIx (e2 fIx (eVar 3) (eVar 6)) (eC (.int 1))) (eVar 7)) eNil))) (sPut 5 (eVar 8) (eIf (tV (e2 fIn (eVar 8) (eVar 5))) (eTup (eCons (eCallB (f2 fMin2) (eCons (eVar 9) (eCons (e2 fIx (e2 fIx (eVar 5) (eVar 8)) (eC (.int 0))) eNil))) (eCons (eCallB (f2 fMax2) (eCons (eVar 10) (eCons (e2 fIx (e2 fIx (eVar 5) (eVar 8)) (eC (.int 1))) eNil))) eNil))) (eTup (eCons (eVar 9) (eCons (eVar 10) eNil)))))))) (sSet 3 (eVar 5))))) (sRet (eVar 3))))
noncomputable def φ_law_sums : List D → Int → R D := fnOf 11 m_law_sums
noncomputable def m_law_runs : Stm := (sSeq (sSet 3 (eLst (eCons (eTup (eCons (eTup eNil) (eCons (eVar 1) eNil))) eNil))) (sSeq (sFor (iSeq (eVar 2)) (pName 4) (sSeq (sSet 5 (eLst eNil)) (sSeq (sFor (iSeq (eVar 3)) (pTup [(pName 6), (pName 7)]) (sSet 5 (e2 fCat (eVar 5) (eLc (iSeq (e2 fIx (e2 fIx (e2 fIx (eVar 0) (eC (.int 1))) (eVar 7)) (eVar 4))) (pName 8) tYs (eTup (eCons (e2 fAdd (eVar 6) (eTup (eCons (e2 fAdd (eTup (eCons (eVar 4) eNil)) (eVar 8)) eNil))) (eCons (e2 fIx (eVar 8) (eC (.int 1))) eNil))) [8])))) (sSet 3 (eVar 5))))) (sRet (eCallB fSorted (eCons (eLc (iSeq (eVar 3)) (pTup [(pName 6), (pName 7)]) tYs (eVar 6) [6, 7]) eNil)))))
noncomputable def φ_law_runs : List D → Int → R D := fnOf 9 m_law_runs
noncomputable def m_law_is_run : Stm := (sSeq (sSet 3 (eVar 1)) (sSeq (sFor (iSeq (eVar 2)) (pName 4) (sSeq (sIf (tOr2 (tV (e2 fNe (eCallB fLen (eCons (eVar 4) eNil)) (eC (.int 3)))) (tOr2 (tV (e2 (fInRng true) (e2 fIx (eVar 4) (eC (.int 0))) (e2 fIx (eVar 0) (eC (.int 0))))) (tV (e2 fNotIn (eTup (eCons (e2 fIx (eVar 4) (eC (.int 1))) (eCons (e2 fIx (eVar 4) (eC (.int 2))) eNil))) (e2 fIx (e2 fIx (e2 fIx (eVar 0) (eC (.int 1))) (eVar 3)) (e2 fIx (eVar 4) (eC (.int 0)))))))) (sRet (eC (.bl false))) sNil) (sSet 3 (e2 fIx (eVar 4) (eC (.int 2)))))) (sRet (eC (.bl true)))))
noncomputable def φ_law_is_run : List D → Int → R D := fnOf 5 m_law_is_run
noncomputable def m_check_machine : Stm := (sSeq (sAsg (eVar 0) (pTup [(pName 1), (pName 2)])) (sSeq (sIf (tOr2 (tV (e2 fGt (eVar 1) (eC (.int 12)))) (tV (e2 fGt (eCallB fLen (eCons (eVar 2) eNil)) (eC (.int 60))))) (sRaise (PySem.Str.ofString "TooLarge")) sNil) (sSeq (sIf (tOr2 (tV (e2 fLt (eVar 1) (eC (.int 1)))) (tOr2 (tV (e2 fLt (eCallB fLen (eCons (eVar 2) eNil)) (eC (.int 1)))) (tV (eCallB (f1 fAny) (eCons (eLc (iSeq (eVar 2)) (pName 3) tYs (e2 fNe (eCallB fLen (eCons (eVar 3) eNil)) (eVar 1)) [3]) eNil))))) (sRaise (PySem.Str.ofString "NotAllowed")) sNil) (sFor (iSeq (eVar 2)) (pName 3) (sFor (iSeq (eVar 3)) (pName 4) (sExpr (eCall φ_check_ways (eCons (eVar 4) (eCons (eCallB fLen (eCons (eVar 2) eNil)) eNil)))))))))
noncomputable def φ_check_machine : List D → Int → R D := fnOf 5 m_check_machine
noncomputable def m_law_machine (ns : List Int) : Stm := (sSeq (sSet 4 (e2 fAdd (eC (.int 1)) (eCall (nextD ns) (eCons (eVar 0) (eCons (eVar 2) eNil))))) (sSeq (sSetF 5 (eLst eNil)) (sSeq (sFor (iRng (eCons (eVar 4) eNil)) (pName 6) (sSeq (sSetF 7 (eLst eNil)) (sSeq (sFor (iRng (eCons (eVar 1) eNil)) (pName 8) (sSeq (sSetF 9 (eLc (iRng (eCons (eIf (tV (eVar 3)) (eC (.int 1)) (e2 fAdd (eC (.int 1)) (eCall (nextD ns) (eCons (eVar 0) (eCons (eC (.int 3)) eNil))))) eNil)) (pName 10) tYs (eTup (eCons (eCall (nextD ns) (eCons (eVar 0) (eCons (eC (.int 8)) eNil))) (eCons (eCall (nextD ns) (eCons (eVar 0) (eCons (eVar 4) eNil))) eNil))) [10])) (sApp 7 (eCallB (f1 fTup) (eCons (e1 fSortSet (eVar 9)) eNil))))) (sApp 5 (eCallB (f1 fTup) (eCons (eVar 7) eNil)))))) (sRet (eTup (eCons (eVar 1) (eCons (eCallB (f1 fTup) (eCons (eVar 5) eNil)) eNil)))))))
noncomputable def φ_law_machine (ns : List Int) : List D → Int → R D := fnOf 11 (m_law_machine ns)
noncomputable def m_check_state : Stm := (sSeq (sExpr (eCall φ_check_machine (eCons (eVar 0) eNil))) (sIf (tNt (tV (eChain fLe fLt (eC (.int 0)) (eVar 1) (eCallB fLen (eCons (e2 fIx (eVar 0) (eC (.int 1))) eNil))))) (sRaise (PySem.Str.ofString "NotAllowed")) sNil))
noncomputable def φ_check_state : List D → Int → R D := fnOf 2 m_check_state
noncomputable def m_check_deeds : Stm := (sSeq (sExpr (eCall φ_check_state (eCons (eVar 0) (eCons (eVar 1) eNil)))) (sSeq (sIf (tV (e2 fGt (eCallB fLen (eCons (eVar 2) eNil)) (eC (.int 200)))) (sRaise (PySem.Str.ofString "TooLarge")) sNil) (sIf (tNt (tV (eCallB (f1 fAll) (eCons (eLc (iSeq (eVar 2)) (pName 3) tYs (eChain fLe fLt (eC (.int 0)) (eVar 3) (e2 fIx (eVar 0) (eC (.int 0)))) [3]) eNil)))) (sRaise (PySem.Str.ofString "NotAllowed")) sNil)))
noncomputable def φ_check_deeds : List D → Int → R D := fnOf 4 m_check_deeds
noncomputable def m_check_run : Stm := (sSeq (sExpr (eCall φ_check_state (eCons (eVar 0) (eCons (eVar 1) eNil)))) (sSeq (sSet 3 (eVar 1)) (sSeq (sFor (iSeq (eVar 2)) (pName 4) (sSeq (sIf (tOr2 (tV (e2 fNe (eCallB fLen (eCons (eVar 4) eNil)) (eC (.int 3)))) (tOr2 (tNt (tV (eChain fLe fLt (eC (.int 0)) (e2 fIx (eVar 4) (eC (.int 0))) (e2 fIx (eVar 0) (eC (.int 0)))))) (tV (e2 fNotIn (eTup (eCons (e2 fIx (eVar 4) (eC (.int 1))) (eCons (e2 fIx (eVar 4) (eC (.int 2))) eNil))) (e2 fIx (e2 fIx (e2 fIx (eVar 0) (eC (.int 1))) (eVar 3)) (e2 fIx (eVar 4) (eC (.int 0)))))))) (sRaise (PySem.Str.ofString "BadPaper")) sNil) (sSet 3 (e2 fIx (eVar 4) (eC (.int 2)))))) (sRet (eC (.bl true))))))
noncomputable def φ_check_run : List D → Int → R D := fnOf 5 m_check_run
noncomputable def m_runs : Stm := (sSeq (sExpr (eCall φ_check_deeds (eCons (eVar 0) (eCons (eVar 1) (eCons (eVar 2) eNil))))) (sSeq (sSet 3 (eLst (eCons (eTup (eCons (eTup eNil) (eCons (eVar 1) eNil))) eNil))) (sSeq (sFor (iSeq (eVar 2)) (pName 4) (sSeq (sSetF 5 (eLc2 (iSeq (eVar 3)) (pTup [(pName 6), (pName 7)]) tYs (iSeq (e2 fIx (e2 fIx (e2 fIx (eVar 0) (eC (.int 1))) (eVar 7)) (eVar 4))) (pName 8) tYs (eTup (eCons (eVar 6) (eCons (eVar 8) eNil))) [6, 7, 8] [8])) (sSeq (sSetF 3 (eLc (iSeq (eVar 5)) (pTup [(pName 6), (pTup [(pName 9), (pName 10)])]) tYs (eTup (eCons (eTup (eStar (eVar 6) (eCons (eTup (eCons (eVar 4) (eCons (eVar 9) (eCons (eVar 10) eNil)))) eNil))) (eCons (eVar 10) eNil))) [6, 9, 10])) (sIf (tV (e2 fGt (eCallB fLen (eCons (eVar 3) eNil)) (eC (.int 5000)))) (sRaise (PySem.Str.ofString "TooLarge")) sNil)))) (sRet (eCallB (f1 fTup) (eCons (eCallB fSorted (eCons (eLc (iSeq (eVar 3)) (pTup [(pName 6), (pName 11)]) tYs (eVar 6) [6, 11]) eNil)) eNil))))))
noncomputable def φ_runs : List D → Int → R D := fnOf 12 m_runs
noncomputable def m_extremes : Stm := (sSeq (sExpr (eCall φ_check_deeds (eCons (eVar 0) (eCons (eVar 1) (eCons (eVar 2) eNil))))) (sSeq (sPar 3 4 (eCons (eDisp1 (eVar 1) (eC (.int 0))) (eCons (eDisp1 (eVar 1) (eC (.int 0))) eNil))) (sSeq (sFor (iSeq (eVar 2)) (pName 5) (sSeq (sParF 6 7 eDnew eDnew) (sSeq (sForK 3 (pName 8) (sFor (iSeq (e2 fIx (e2 fIx (e2 fIx (eVar 0) (eC (.int 1))) (eVar 8)) (eVar 5))) (pTup [(pName 9), (pName 10)]) (sSeq (sPut 6 (eVar 10) (eCallB (f2 fMin2) (eCons (eGet2 (eVar 6) (eVar 10) (e2 fAdd (e2 fIx (eVar 3) (eVar 8)) (eVar 9))) (eCons (e2 fAdd (e2 fIx (eVar 3) (eVar 8)) (eVar 9)) eNil)))) (sPut 7 (eVar 10) (eCallB (f2 fMax2) (eCons (eGet2 (eVar 7) (eVar 10) (e2 fAdd (e2 fIx (eVar 4) (eVar 8)) (eVar 9))) (eCons (e2 fAdd (e2 fIx (eVar 4) (eVar 8)) (eVar 9)) eNil))))))) (sPar 3 4 (eCons (eVar 6) (eCons (eVar 7) eNil)))))) (sRet (eTup (eCons (e1 (fBestV minI) (eVar 3)) (eCons (e1 (fBestV maxI) (eVar 4)) eNil)))))))
noncomputable def φ_extremes : List D → Int → R D := fnOf 11 m_extremes
/-- the defs that are handed on -/
noncomputable def disp : Disp := fun y => if y = "runs" then some (3, φ_runs) else if y = "check_run" then some (3, φ_check_run) else if y = "extremes" then some (3, φ_extremes) else none
noncomputable def m_law_told : Stm := (sTry errName (sSeq (sIf (tV (e2 fLt (eCallB fLen (eCons (eVar 1) eNil)) (eC (.int 3)))) (sRet (eTup (eCons (eC (.str (PySem.Str.ofString "told"))) (eCons (eIf (tV (e2 fEq (eCallB fLen (eCons (eVar 1) eNil)) (eC (.int 1)))) (eCallV 0 disp (eCons (e2 fIx (eVar 1) (eC (.int 0))) eNil)) (eCallV 0 disp (eCons (e2 fIx (eVar 1) (eC (.int 0))) (eCons (e2 fIx (eVar 1) (eC (.int 1))) eNil)))) eNil)))) sNil) (sSeq (sIf (tV (e2 fEq (eCallB fLen (eCons (eVar 1) eNil)) (eC (.int 3)))) (sRet (eTup (eCons (eC (.str (PySem.Str.ofString "told"))) (eCons (eCallV 0 disp (eCons (e2 fIx (eVar 1) (eC (.int 0))) (eCons (e2 fIx (eVar 1) (eC (.int 1))) (eCons (e2 fIx (eVar 1) (eC (.int 2))) eNil)))) eNil)))) sNil) (sRet (eTup (eCons (eC (.str (PySem.Str.ofString "told"))) (eCons (eIf (tV (e2 fEq (eCallB fLen (eCons (eVar 1) eNil)) (eC (.int 4)))) (eCallV 0 disp (eCons (e2 fIx (eVar 1) (eC (.int 0))) (eCons (e2 fIx (eVar 1) (eC (.int 1))) (eCons (e2 fIx (eVar 1) (eC (.int 2))) (eCons (e2 fIx (eVar 1) (eC (.int 3))) eNil))))) (eCallV 0 disp (eCons (e2 fIx (eVar 1) (eC (.int 0))) (eCons (e2 fIx (eVar 1) (eC (.int 1))) (eCons (e2 fIx (eVar 1) (eC (.int 2))) (eCons (e2 fIx (eVar 1) (eC (.int 3))) (eCons (e2 fIx (eVar 1) (eC (.int 4))) eNil))))))) eNil)))))))
noncomputable def φ_law_told : List D → Int → R D := fnOf 3 m_law_told
noncomputable def m_law_deeds_fit (ns : List Int) : Stm := (sSeq (sSet 4 (eCall φ_law_runs (eCons (eVar 1) (eCons (eVar 2) (eCons (eVar 3) eNil))))) (sSeq (sSetF 5 (eLc (iSeq (eVar 4)) (pName 12) tYs (eCallB (f1 fSum) (eCons (eLc (iSeq (eVar 12)) (pName 13) tYs (e2 fIx (eVar 13) (eC (.int 1))) [13]) eNil)) [12])) (sSeq (sSet 6 (eLst (eCons (eCall φ_runs (eCons (eVar 1) (eCons (eVar 2) (eCons (eVar 3) eNil)))) (eCons (eCall φ_extremes (eCons (eVar 1) (eCons (eVar 2) (eCons (eVar 3) eNil)))) eNil)))) (sSeq (sIf (tNt (tV (eCall φ_law_same (eCons (eVar 6) (eCons (eLst (eCons (eCallB (f1 fTup) (eCons (eVar 4) eNil)) (eCons (eTup (eCons (eCallB (f1 fMin1) (eCons (eVar 5) eNil)) (eCons (eCallB (f1 fMax1) (eCons (eVar 5) eNil)) eNil))) eNil))) eNil))))) (sRet (eC (.bl false))) sNil) (sSeq (sSet 7 (eCall φ_law_sums (eCons (eVar 1) (eCons (eVar 2) (eCons (eVar 3) eNil))))) (sSeq (sIf (tV (e2 fNe (eTup (eCons (eCallB (f1 fMin1) (eCons (eLcK 7 (pName 8) tYs (e2 fIx (e2 fIx (eVar 7) (eVar 8)) (eC (.int 0))) [8]) eNil)) (eCons (eCallB (f1 fMax1) (eCons (eLcK 7 (pName 8) tYs (e2 fIx (e2 fIx (eVar 7) (eVar 8)) (eC (.int 1))) [8]) eNil)) eNil))) (e2 fIx (eVar 6) (eC (.int 1))))) (sRet (eC (.bl false))) sNil) (sSeq (sSet 8 (e2 fIx (eVar 4) (eCall (nextD ns) (eCons (eVar 0) (eCons (eCallB fLen (eCons (eVar 4) eNil)) eNil))))) (sSeq (sIf (tNt (tV (eCall φ_law_same (eCons (eLst (eCons (eCall φ_beats_of (eCons (eVar 8) eNil)) (eCons (eCall φ_deeds_in (eCons (eVar 8) eNil)) (eCons (eCall φ_state_behind (eCons (eVar 2) (eCons (eVar 8) eNil))) eNil)))) (eCons (eLst (eCons (eCallB (f1 fSum) (eCons (eLc (iSeq (eVar 8)) (pName 13) tYs (e2 fIx (eVar 13) (eC (.int 1))) [13]) eNil)) (eCons (eCallB (f1 fTup) (eCons (eVar 3) eNil)) (eCons (eIf (tV (e2 fNe (eVar 8) (eTup eNil))) (e2 fIx (e2 fIx (eVar 8) (e1 fNeg (eC (.int 1)))) (eC (.int 2))) (eVar 2)) eNil)))) eNil))))) (sRet (eC (.bl false))) sNil) (sSeq (sSet 9 (eCall (nextD ns) (eCons (eVar 0) (eCons (e2 fAdd (eCallB fLen (eCons (eVar 8) eNil)) (eC (.int 1))) eNil)))) (sSeq (sSetF 10 (eLst (eCons (eVar 8) (eCons (e2 fAdd (eCut (eVar 8) oNone (oSome (eVar 9))) (eCut (eVar 8) (oSome (e2 fAdd (eVar 9) (eC (.int 1)))) oNone)) (eCons (e1 fRevT (eVar 8)) (eCons (e2 fAdd (eVar 8) (eTup (eCons (eTup (eCons (e2 fIx (eVar 1) (eC (.int 0))) (eCons (eC (.int 0)) (eCons (eC (.int 0)) eNil)))) eNil))) (eCons (e2 fAdd (eVar 8) (eTup (eCons (eTup (eCons (eC (.int 0)) (eCons (eC (.int 9999)) (eCons (eC (.int 0)) eNil)))) eNil))) (eCons (e2 fAdd (eVar 8) (eTup (eCons (eTup (eCons (eC (.int 0)) (eCons (eC (.int 1)) eNil))) eNil))) (eCons (e2 fAdd (eVar 8) (eTup (eCons (eTup (eCons (e1 fNeg (eC (.int 1))) (eCons (eC (.int 0)) (eCons (eC (.int 0)) eNil)))) eNil))) eNil))))))))) (sSeq (sFor (iRng (eCons (e2 fIx (eVar 1) (eC (.int 0))) eNil)) (pName 11) (sApp 10 (e2 fAdd (eVar 8) (eTup (eCons (eTup (eCons (eVar 11) (eCons (eCall (nextD ns) (eCons (eVar 0) (eCons (eC (.int 8)) eNil))) (eCons (eCall (nextD ns) (eCons (eVar 0) (eCons (eCallB fLen (eCons (e2 fIx (eVar 1) (eC (.int 1))) eNil)) eNil))) eNil)))) eNil))))) (sSeq (sIf (tV (e2 fLt (eVar 9) (eCallB fLen (eCons (eVar 8) eNil)))) (sApp 10 (e2 fAdd (e2 fAdd (eCut (eVar 8) oNone (oSome (eVar 9))) (eTup (eCons (eTup (eCons (e2 fIx (e2 fIx (eVar 8) (eVar 9)) (eC (.int 0))) (eCons (e2 fAdd (e2 fIx (e2 fIx (eVar 8) (eVar 9)) (eC (.int 1))) (eC (.int 1))) (eCons (e2 fIx (e2 fIx (eVar 8) (eVar 9)) (eC (.int 2))) eNil)))) eNil))) (eCut (eVar 8) (oSome (e2 fAdd (eVar 9) (eC (.int 1)))) oNone))) sNil) (sRet (e2 fEq (eLc (iSeq (eVar 10)) (pName 12) tYs (eCall φ_law_told (eCons (eC (.fn (PySem.Str.ofString "check_run"))) (eCons (eLst (eCons (eVar 1) (eCons (eVar 2) (eCons (eVar 12) eNil)))) eNil))) [12]) (eLc (iSeq (eVar 10)) (pName 12) tYs (e2 fIx (eLst (eCons (eC (.str (PySem.Str.ofString "paper"))) (eCons (eTup (eCons (eC (.str (PySem.Str.ofString "told"))) (eCons (eC (.bl true)) eNil))) eNil))) (eCallB (f1 fInt) (eCons (eCall φ_law_is_run (eCons (eVar 1) (eCons (eVar 2) (eCons (eVar 12) eNil)))) eNil))) [12])))))))))))))))
noncomputable def φ_law_deeds_fit (ns : List Int) : List D → Int → R D := fnOf 14 (m_law_deeds_fit ns)
noncomputable def m_law_errors_fit (ns : List Int) : Stm := (sSeq (sAsg (e2 fIx (eLst (eCons (eTup (eCons (eTup (eCons (eC (.int 13)) (eCons (eTup eNil) eNil))) (eCons (eC (.str (PySem.Str.ofString "large"))) eNil))) (eCons (eTup (eCons (eTup (eCons (eC (.int 1)) (eCons (eTup eNil) eNil))) (eCons (eC (.str (PySem.Str.ofString "refused"))) eNil))) (eCons (eTup (eCons (eTup (eCons (eC (.int 1)) (eCons (eTup (eCons (eTup (eCons (eTup (eCons (eTup (eCons (eC (.int 1)) (eCons (eC (.int 1)) eNil))) eNil)) eNil)) eNil)) eNil))) (eCons (eC (.str (PySem.Str.ofString "refused"))) eNil))) (eCons (eTup (eCons (eTup (eCons (eC (.int 1)) (eCons (eTup (eCons (eTup (eCons (eTup (eCons (eTup (eCons (eC (.int 1001)) (eCons (eC (.int 0)) eNil))) eNil)) eNil)) eNil)) eNil))) (eCons (eC (.str (PySem.Str.ofString "large"))) eNil))) eNil))))) (eCall (nextD ns) (eCons (eVar 0) (eCons (eC (.int 4)) eNil)))) (pTup [(pName 2), (pName 3)])) (sSeq (sSetF 4 (eLc (iSeq (eLst (eCons (eC (.fn (PySem.Str.ofString "runs"))) (eCons (eC (.fn (PySem.Str.ofString "extremes"))) (eCons (eC (.fn (PySem.Str.ofString "check_run"))) eNil))))) (pName 8) tYs (eCall φ_law_told (eCons (eVar 8) (eCons (eLst (eCons (eVar 2) (eCons (e1 fNeg (eC (.int 1))) (eCons (eTup (eCons (eC (.int 99)) eNil)) eNil)))) eNil))) [8])) (sSeq (sSet 5 (eCallB fLen (eCons (e2 fIx (eVar 1) (eC (.int 1))) eNil))) (sSeq (sSet 6 (e2 fCat (eLc (iSeq (eCall φ_law_all (eCons (eLst (eCons (eC (.fn (PySem.Str.ofString "runs"))) (eCons (eC (.fn (PySem.Str.ofString "extremes"))) eNil))) (eCons (eLst (eCons (e1 fNeg (eC (.int 1))) (eCons (eVar 5) eNil))) eNil)))) (pTup [(pName 8), (pName 9)]) tYs (eCall φ_law_told (eCons (eVar 8) (eCons (eLst (eCons (eVar 1) (eCons (eVar 9) (eCons (e2 fMul (eTup (eCons (eC (.int 99)) eNil)) (eC (.int 201))) eNil)))) eNil))) [8, 9]) (eLc (iSeq (eLst (eCons (e1 fNeg (eC (.int 1))) (eCons (eVar 5) eNil)))) (pName 9) tYs (eCall φ_law_told (eCons (eC (.fn (PySem.Str.ofString "check_run"))) (eCons (eLst (eCons (eVar 1) (eCons (eVar 9) (eCons (eTup eNil) eNil)))) eNil))) [9]))) (sSeq (sSet 6 (e2 fCat (eVar 6) (eLc (iSeq (eCall φ_law_all (eCons (eLst (eCons (eC (.fn (PySem.Str.ofString "runs"))) (eCons (eC (.fn (PySem.Str.ofString "extremes"))) eNil))) (eCons (eLst (eCons (e1 fNeg (eC (.int 1))) (eCons (e2 fIx (eVar 1) (eC (.int 0))) eNil))) eNil)))) (pTup [(pName 8), (pName 10)]) tYs (eCall φ_law_told (eCons (eVar 8) (eCons (eLst (eCons (eVar 1) (eCons (eC (.int 0)) (eCons (eTup (eCons (eVar 10) eNil)) eNil)))) eNil))) [8, 10]))) (sSeq (sSetF 7 (eLc (iSeq (eLst (eCons (eC (.fn (PySem.Str.ofString "runs"))) (eCons (eC (.fn (PySem.Str.ofString "extremes"))) eNil)))) (pName 8) tYs (eCall φ_law_told (eCons (eVar 8) (eCons (eLst (eCons (eVar 1) (eCons (eC (.int 0)) (eCons (e2 fMul (eTup (eCons (eC (.int 99)) eNil)) (eC (.int 201))) eNil)))) eNil))) [8])) (sRet (eAnd2 (e2 fEq (eVar 4) (e2 fMul (eLst (eCons (eVar 3) eNil)) (eC (.int 3)))) (eAnd2 (e2 fEq (eVar 6) (e2 fMul (eLst (eCons (eC (.str (PySem.Str.ofString "refused"))) eNil)) (eC (.int 10)))) (e2 fEq (eVar 7) (e2 fMul (eLst (eCons (eC (.str (PySem.Str.ofString "large"))) eNil)) (eC (.int 2)))))))))))))
noncomputable def φ_law_errors_fit (ns : List Int) : List D → Int → R D := fnOf 11 (m_law_errors_fit ns)
noncomputable def m_law (ns : List Int) : Stm := (sSeq (sAsg (eTup (eCons (e2 fAdd (eC (.int 2)) (eCall (nextD ns) (eCons (eVar 1) (eCons (eC (.int 50)) eNil)))) (eCons (eCall (nextD ns) (eCons (eVar 1) (eCons (eC (.int 201)) eNil))) eNil))) (pTup [(pName 2), (pName 3)])) (sSeq (sSet 4 (eTup (eCons (eC (.int 1)) (eCons (eCallB (f1 fTup) (eCons (eLc (iRng (eCons (eVar 2) eNil)) (pName 10) tYs (eTup (eCons (eTup (eCons (eTup (eCons (eVar 10) (eCons (e2 fMod (eCallB (f1 fInt) (eCons (e2 fAdd (eVar 10) (eC (.int 1))) eNil)) (eVar 2)) eNil))) eNil)) eNil)) [10]) eNil)) eNil)))) (sSeq (sSet 5 (eCallB (f1 fSum) (eCons (eLc (iRng (eCons (eVar 3) eNil)) (pName 10) tYs (e2 fMod (eCallB (f1 fInt) (eCons (eVar 10) eNil)) (eVar 2)) [10]) eNil))) (sSeq (sSet 6 (eTup (eCons (eC (.int 1)) (eCons (eTup (eCons (eTup (eCons (eTup (eCons (eTup (eCons (eC (.int 1)) (eCons (eC (.int 0)) eNil))) (eCons (eTup (eCons (eC (.int 2)) (eCons (eC (.int 0)) eNil))) eNil))) eNil)) eNil)) eNil)))) (sSeq (sIf (tOr2 (tV (e2 fNe (eCall φ_extremes (eCons (eVar 4) (eCons (eC (.int 0)) (eCons (e2 fMul (eTup (eCons (eC (.int 0)) eNil)) (eVar 3)) eNil)))) (eTup (eCons (eVar 5) (eCons (eVar 5) eNil))))) (tOr2 (tV (e2 fNe (eCall φ_extremes (eCons (eVar 6) (eCons (eC (.int 0)) (eCons (e2 fMul (eTup (eCons (eC (.int 0)) eNil)) (eVar 3)) eNil)))) (eTup (eCons (eVar 3) (eCons (e2 fMul (eC (.int 2)) (eVar 3)) eNil))))) (tV (e2 fNe (eCall φ_beats_of (eCons (e2 fIx (eCall φ_runs (eCons (eVar 4) (eCons (eC (.int 0)) (eCons (e2 fMul (eTup (eCons (eC (.int 0)) eNil)) (eVar 3)) eNil)))) (eC (.int 0))) eNil)) (eVar 5))))) (sRet (eC (.bl false))) sNil) (sSeq (sIf (tOr2 (tV (e2 fNe (eLst (eCons (eCall φ_law_told (eCons (eC (.fn (PySem.Str.ofString "runs"))) (eCons (eLst (eCons (eVar 6) (eCons (eC (.int 0)) (eCons (e2 fMul (eTup (eCons (eC (.int 0)) eNil)) (eC (.int 13))) eNil)))) eNil))) (eCons (eCallB fLen (eCons (eCall φ_runs (eCons (eVar 6) (eCons (eC (.int 0)) (eCons (e2 fMul (eTup (eCons (eC (.int 0)) eNil)) (eC (.int 12))) eNil)))) eNil)) eNil))) (eLst (eCons (eC (.str (PySem.Str.ofString "large"))) (eCons (eC (.int 4096)) eNil))))) (tV (e2 fNe (eC (.int 5000)) (eC (.int 5000))))) (sRet (eC (.bl false))) sNil) (sSeq (sFor (iRng (eCons (eC (.int 4)) eNil)) (pName 7) (sSeq (sSet 8 (eCall (φ_law_machine ns) (eCons (eVar 1) (eCons (e2 fAdd (eC (.int 1)) (eCall (nextD ns) (eCons (eVar 1) (eCons (eC (.int 3)) eNil)))) (eCons (eC (.int 4)) (eCons (e2 fEq (eCall (nextD ns) (eCons (eVar 1) (eCons (eC (.int 3)) eNil))) (eC (.int 0))) eNil)))))) (sSeq (sSet 9 (eCallB fRepr (eCons (eVar 8) eNil))) (sSeq (sFor (iRng (eCons (eC (.int 3)) eNil)) (pName 10) (sSeq (sSet 11 (eCallB (f1 fTup) (eCons (eLc (iRng (eCons (eCall (nextD ns) (eCons (eVar 1) (eCons (eC (.int 6)) eNil))) eNil)) (pName 12) tYs (eCall (nextD ns) (eCons (eVar 1) (eCons (e2 fIx (eVar 8) (eC (.int 0))) eNil))) [12]) eNil))) (sIf (tNt (tV (eCall (φ_law_deeds_fit ns) (eCons (eVar 1) (eCons (eVar 8) (eCons (eCall (nextD ns) (eCons (eVar 1) (eCons (eCallB fLen (eCons (e2 fIx (eVar 8) (eC (.int 1))) eNil)) eNil))) (eCons (eVar 11) eNil))))))) (sRet (eC (.bl false))) sNil))) (sIf (tOr2 (tNt (tV (eCall (φ_law_errors_fit ns) (eCons (eVar 1) (eCons (eVar 8) eNil))))) (tV (e2 fNe (eCallB fRepr (eCons (eVar 8) eNil)) (eVar 9)))) (sRet (eC (.bl false))) sNil))))) (sRet (eC (.bl true))))))))))
theorem hdisp {C : Cn} (h_runs : FnR C 5 "runs" 3 φ_runs) (h_check_run : FnR C 4 "check_run" 3 φ_check_run) (h_extremes : FnR C 5 "extremes" 3 φ_extremes) : ∀ y n φ, disp y = some (n, φ) → FnR C 5 y n φ := by
  intro y n φ h
  unfold disp at h
  split at h
  · rename_i e
    cases h
    rw [e]
    exact h_runs.raise (by decide)
  split at h
  · rename_i e
    cases h
    rw [e]
    exact h_check_run.raise (by decide)
  split at h
  · rename_i e
    cases h
    rw [e]
    exact h_extremes.raise (by decide)
  cases h
theorem d_check_machine {C : Cn} (g : GF C) (h_check_ways : FnR C 1 "check_ways" 2 φ_check_ways) : DSs C 1 ⟨defScope s_check_machine, defScope s_check_machine, true⟩ n_check_machine [] [] [] (defBody s_check_machine) m_check_machine := by
  unfold m_check_machine
  exact (dss_cons (own1 := []) (ds_asg (vs := [1, 2]) (de_var (i := 0) (by decide +kernel) (by decide +kernel)) (dg_tup (dgs_cons (dg_name (i := 1) (by decide +kernel) (by decide +kernel) (by decide +kernel)) (dgs_cons (dg_name (i := 2) (by decide +kernel) (by decide +kernel) (by decide +kernel)) dgs_nil (by decide +kernel) fun _ => rfl) (by decide +kernel) fun _ => rfl) rfl (fun _ => rfl) fun _ => rfl) (by decide +kernel) (fun _ => rfl) (fun _ _ _ => rfl) fun _ => rfl) (dss_cons (own1 := []) (ds_if (DW.t (dw_or (dt_cmp oj_gt (db_var (i := 1) (by decide +kernel)) (DE.b (de_numE g.k_MAX_DEEDS (by decide +kernel))) rfl) (dw_or1 (dt_cmp oj_gt (DE.b (de_callB cj_len (by decide +kernel) (g.blt _ (by decide +kernel)) (by decide +kernel) (dab_cons (db_var (i := 2) (by decide +kernel)) dab_nil fun _ => rfl) (fun _ => rfl) fun _ _ => rfl)) (DE.b (de_numE g.k_MAX_STATES (by decide +kernel))) rfl)))) (dss_one (own1 := []) (own' := []) (ds_raise g.x_TooLarge (by decide +kernel)) (by decide +kernel)) (dss_nil (own' := []) (by decide +kernel))) (dss_cons (own1 := []) (ds_if (DW.t (dw_or (dt_cmp oj_lt (db_var (i := 1) (by decide +kernel)) (DE.b de_int) rfl) (dw_or (dt_cmp oj_lt (DE.b (de_callB cj_len (by decide +kernel) (g.blt _ (by decide +kernel)) (by decide +kernel) (dab_cons (db_var (i := 2) (by decide +kernel)) dab_nil fun _ => rfl) (fun _ => rfl) fun _ _ => rfl)) (DE.b de_int) rfl) (dw_or1 (dt_val (de_callB cj_any (by decide +kernel) (g.blt _ (by decide +kernel)) (by decide +kernel) (dab_cons (DE.b (DF.e (df_lc (ownl := [(PySem.Str.ofString "row", 3)]) (by decide +kernel) (by decide +kernel) (di_seq (de_var (i := 2) (by decide +kernel) (by decide +kernel))) (dg_name (i := 3) (by decide +kernel) (by decide +kernel) (by decide +kernel)) dts_nil (de_cmp oj_ne (DE.b (de_callB cj_len (by decide +kernel) (g.blt _ (by decide +kernel)) (by decide +kernel) (dab_cons (db_var (i := 3) (by decide +kernel)) dab_nil fun _ => rfl) (fun _ => rfl) fun _ _ => rfl)) (db_var (i := 1) (by decide +kernel)) rfl) fun _ _ => rfl))) dab_nil fun _ => rfl) (fun _ => rfl) fun _ _ => rfl) fun _ _ => rfl))))) (dss_one (own1 := []) (own' := []) (ds_raise g.x_NotAllowed (by decide +kernel)) (by decide +kernel)) (dss_nil (own' := []) (by decide +kernel))) (dss_one (own1 := []) (own' := []) (ds_for (vs := [3]) (di_seq (de_var (i := 2) (by decide +kernel) (by decide +kernel))) (dg_name (i := 3) (by decide +kernel) (by decide +kernel) (by decide +kernel)) (by decide +kernel) (dss_one (own1 := []) (own' := []) (ds_for (vs := [4]) (di_seq (de_var (i := 3) (by decide +kernel) (by decide +kernel))) (dg_name (i := 4) (by decide +kernel) (by decide +kernel) (by decide +kernel)) (by decide +kernel) (dss_one (own1 := []) (own' := []) (ds_expr (de_call h_check_ways (by decide +kernel) (by decide +kernel) (da_cons (de_var (i := 4) (by decide +kernel) (by decide +kernel)) (da_cons (de_callB cj_len (by decide +kernel) (g.blt _ (by decide +kernel)) (by decide +kernel) (dab_cons (db_var (i := 2) (by decide +kernel)) dab_nil fun _ => rfl) (fun _ => rfl) fun _ _ => rfl) da_nil fun _ => rfl) fun _ => rfl) rfl (elen_cons (elen_cons elen_nil)) (fun _ => rfl) fun _ _ => rfl) fun _ => rfl) (by decide +kernel)) fun _ _ => rfl) (by decide +kernel)) fun _ _ => rfl) (by decide +kernel)))))
theorem d_check_ways {C : Cn} (g : GF C) : DSs C 0 ⟨defScope s_check_ways, defScope s_check_ways, true⟩ n_check_ways [] [] [] (defBody s_check_ways) m_check_ways := by
  unfold m_check_ways
  exact (dss_cons (own1 := []) (ds_if (DW.t (dw_or (dt_val (de_callB cj_any (by decide +kernel) (g.blt _ (by decide +kernel)) (by decide +kernel) (dab_cons (DE.b (DF.e (df_lc (ownl := [(PySem.Str.ofString "own", 2)]) (by decide +kernel) (by decide +kernel) (di_seq (de_var (i := 0) (by decide +kernel) (by decide +kernel))) (dg_name (i := 2) (by decide +kernel) (by decide +kernel) (by decide +kernel)) dts_nil (de_cmp oj_ne (DE.b (de_callB cj_len (by decide +kernel) (g.blt _ (by decide +kernel)) (by decide +kernel) (dab_cons (db_var (i := 2) (by decide +kernel)) dab_nil fun _ => rfl) (fun _ => rfl) fun _ _ => rfl)) (DE.b de_int) rfl) fun _ _ => rfl))) dab_nil fun _ => rfl) (fun _ => rfl) fun _ _ => rfl) fun _ _ => rfl) (dw_or (dt_cmp oj_eq (DE.b (de_callB cj_len (by decide +kernel) (g.blt _ (by decide +kernel)) (by decide +kernel) (dab_cons (db_var (i := 0) (by decide +kernel)) dab_nil fun _ => rfl) (fun _ => rfl) fun _ _ => rfl)) (DE.b de_int) rfl) (dw_or1 (dt_cmp oj_ne (DE.b (DF.e (df_callTy cj_list (by decide +kernel) (g.blt _ (by decide +kernel)) (by decide +kernel) (dab_cons (db_var (i := 0) (by decide +kernel)) dab_nil fun _ => rfl) (fun _ => rfl) fun _ _ => rfl))) (DE.b (DF.e (df_sortSet (by decide +kernel) (by decide +kernel) (g.blt _ (by decide +kernel)) (g.blt _ (by decide +kernel)) (db_var (i := 0) (by decide +kernel)) (fun _ => rfl) (fun _ => rfl) (fun _ _ => rfl) (fun _ _ => rfl)))) rfl))))) (dss_one (own1 := []) (own' := []) (ds_raise g.x_NotAllowed (by decide +kernel)) (by decide +kernel)) (dss_nil (own' := []) (by decide +kernel))) (dss_cons (own1 := []) (ds_if (dt_val (de_callB cj_any (by decide +kernel) (g.blt _ (by decide +kernel)) (by decide +kernel) (dab_cons (DE.b (DF.e (df_lc (ownl := [(PySem.Str.ofString "own", 2)]) (by decide +kernel) (by decide +kernel) (di_seq (de_var (i := 0) (by decide +kernel) (by decide +kernel))) (dg_name (i := 2) (by decide +kernel) (by decide +kernel) (by decide +kernel)) dts_nil (de_cmp oj_gt (DE.b (de_ix ij_ix (db_var (i := 2) (by decide +kernel)) (DE.b de_int) fun _ _ => rfl)) (DE.b (de_numE g.k_MAX_BEATS (by decide +kernel))) rfl) fun _ _ => rfl))) dab_nil fun _ => rfl) (fun _ => rfl) fun _ _ => rfl) fun _ _ => rfl) (dss_one (own1 := []) (own' := []) (ds_raise g.x_TooLarge (by decide +kernel)) (by decide +kernel)) (dss_nil (own' := []) (by decide +kernel))) (dss_one (own1 := []) (own' := []) (ds_if (dt_val (de_callB cj_any (by decide +kernel) (g.blt _ (by decide +kernel)) (by decide +kernel) (dab_cons (DE.b (DF.e (df_lc (ownl := [(PySem.Str.ofString "own", 2)]) (by decide +kernel) (by decide +kernel) (di_seq (de_var (i := 0) (by decide +kernel) (by decide +kernel))) (dg_name (i := 2) (by decide +kernel) (by decide +kernel) (by decide +kernel)) dts_nil (de_or (de_cmp oj_lt (DE.b (de_ix ij_ix (db_var (i := 2) (by decide +kernel)) (DE.b de_int) fun _ _ => rfl)) (DE.b de_int) rfl) (de_one (de_not (de_chain oj_le oj_lt (DE.b de_int) (DE.b (de_ix ij_ix (db_var (i := 2) (by decide +kernel)) (DE.b de_int) fun _ _ => rfl)) (db_var (i := 1) (by decide +kernel)) rfl)))) fun _ _ => rfl))) dab_nil fun _ => rfl) (fun _ => rfl) fun _ _ => rfl) fun _ _ => rfl) (dss_one (own1 := []) (own' := []) (ds_raise g.x_NotAllowed (by decide +kernel)) (by decide +kernel)) (dss_nil (own' := []) (by decide +kernel))) (by decide +kernel))))
theorem d_check_state {C : Cn} (g : GF C) (h_check_machine : FnR C 2 "check_machine" 1 φ_check_machine) : DSs C 2 ⟨defScope s_check_state, defScope s_check_state, true⟩ n_check_state [] [] [] (defBody s_check_state) m_check_state := by
  unfold m_check_state
  exact (dss_cons (own1 := []) (ds_expr (de_call h_check_machine (by decide +kernel) (by decide +kernel) (da_cons (de_var (i := 0) (by decide +kernel) (by decide +kernel)) da_nil fun _ => rfl) rfl (elen_cons elen_nil) (fun _ => rfl) fun _ _ => rfl) fun _ => rfl) (dss_one (own1 := []) (own' := []) (ds_if (dt_not (dt_chain oj_le oj_lt (DE.b de_int) (db_var (i := 1) (by decide +kernel)) (DE.b (de_callB cj_len (by decide +kernel) (g.blt _ (by decide +kernel)) (by decide +kernel) (dab_cons (DE.b (de_ix ij_ix (db_var (i := 0) (by decide +kernel)) (DE.b de_int) fun _ _ => rfl)) dab_nil fun _ => rfl) (fun _ => rfl) fun _ _ => rfl)) rfl)) (dss_one (own1 := []) (own' := []) (ds_raise g.x_NotAllowed (by decide +kernel)) (by decide +kernel)) (dss_nil (own' := []) (by decide +kernel))) (by decide +kernel)))
theorem d_check_deeds {C : Cn} (g : GF C) (h_check_state : FnR C 3 "check_state" 2 φ_check_state) : DSs C 3 ⟨defScope s_check_deeds, defScope s_check_deeds, true⟩ n_check_deeds [] [] [] (defBody s_check_deeds) m_check_deeds := by
  unfold m_check_deeds
  exact (dss_cons (own1 := []) (ds_expr (de_call h_check_state (by decide +kernel) (by decide +kernel) (da_cons (de_var (i := 0) (by decide +kernel) (by decide +kernel)) (da_cons (de_var (i := 1) (by decide +kernel) (by decide +kernel)) da_nil fun _ => rfl) fun _ => rfl) rfl (elen_cons (elen_cons elen_nil)) (fun _ => rfl) fun _ _ => rfl) fun _ => rfl) (dss_cons (own1 := []) (ds_if (dt_cmp oj_gt (DE.b (de_callB cj_len (by decide +kernel) (g.blt _ (by decide +kernel)) (by decide +kernel) (dab_cons (db_var (i := 2) (by decide +kernel)) dab_nil fun _ => rfl) (fun _ => rfl) fun _ _ => rfl)) (DE.b (de_numE g.k_MAX_LONG (by decide +kernel))) rfl) (dss_one (own1 := []) (own' := []) (ds_raise g.x_TooLarge (by decide +kernel)) (by decide +kernel)) (dss_nil (own' := []) (by decide +kernel))) (dss_one (own1 := []) (own' := []) (ds_if (dt_not (dt_val (de_callB cj_all (by decide +kernel) (g.blt _ (by decide +kernel)) (by decide +kernel) (dab_cons (DE.b (DF.e (df_lc (ownl := [(PySem.Str.ofString "deed", 3)]) (by decide +kernel) (by decide +kernel) (di_seq (de_var (i := 2) (by decide +kernel) (by decide +kernel))) (dg_name (i := 3) (by decide +kernel) (by decide +kernel) (by decide +kernel)) dts_nil (de_chain oj_le oj_lt (DE.b de_int) (db_var (i := 3) (by decide +kernel)) (DE.b (de_ix ij_ix (db_var (i := 0) (by decide +kernel)) (DE.b de_int) fun _ _ => rfl)) rfl) fun _ _ => rfl))) dab_nil fun _ => rfl) (fun _ => rfl) fun _ _ => rfl) fun _ _ => rfl)) (dss_one (own1 := []) (own' := []) (ds_raise g.x_NotAllowed (by decide +kernel)) (by decide +kernel)) (dss_nil (own' := []) (by decide +kernel))) (by decide +kernel))))
theorem d_runs {C : Cn} (g : GF C) (h_check_deeds : FnR C 4 "check_deeds" 3 φ_check_deeds) : DSs C 4 ⟨defScope s_runs, defScope s_runs, true⟩ n_runs [] [] [] (defBody s_runs) m_runs := by
  unfold m_runs
  exact (dss_cons (own1 := []) (ds_expr (de_call h_check_deeds (by decide +kernel) (by decide +kernel) (da_cons (de_var (i := 0) (by decide +kernel) (by decide +kernel)) (da_cons (de_var (i := 1) (by decide +kernel) (by decide +kernel)) (da_cons (de_var (i := 2) (by decide +kernel) (by decide +kernel)) da_nil fun _ => rfl) fun _ => rfl) fun _ => rfl) rfl (elen_cons (elen_cons (elen_cons elen_nil))) (fun _ => rfl) fun _ _ => rfl) fun _ => rfl) (dss_cons (own1 := []) (ds_set (i := 3) (by decide +kernel) (by decide +kernel) (DF.e (df_lst (da_cons (de_tup (da_cons (de_tup da_nil) (da_cons (de_var (i := 1) (by decide +kernel) (by decide +kernel)) da_nil fun _ => rfl) fun _ => rfl)) da_nil fun _ => rfl))) fun _ => rfl) (dss_cons (own1 := []) (ds_for (vs := [4]) (di_seq (de_var (i := 2) (by decide +kernel) (by decide +kernel))) (dg_name (i := 4) (by decide +kernel) (by decide +kernel) (by decide +kernel)) (by decide +kernel) (dss_cons (own1 := []) (ds_setLc2 (i := 5) (own' := []) (vs1 := [8]) (ownl := [(PySem.Str.ofString "run", 6), (PySem.Str.ofString "here", 7), (PySem.Str.ofString "own", 8)]) (by decide +kernel) (by decide +kernel) (by decide +kernel) (by decide +kernel) (by decide +kernel) (di_seq (de_var (i := 3) (by decide +kernel) (by decide +kernel))) (dg_tup (dgs_cons (dg_name (i := 6) (by decide +kernel) (by decide +kernel) (by decide +kernel)) (dgs_cons (dg_name (i := 7) (by decide +kernel) (by decide +kernel) (by decide +kernel)) dgs_nil (by decide +kernel) fun _ => rfl) (by decide +kernel) fun _ => rfl) rfl (fun _ => rfl) fun _ => rfl) dts_nil (di_seq (de_ix ij_ix (DE.b (de_ix ij_ix (DE.b (de_ix ij_ix (db_var (i := 0) (by decide +kernel)) (DE.b de_int) fun _ _ => rfl)) (db_var (i := 7) (by decide +kernel)) fun _ _ => rfl)) (db_var (i := 4) (by decide +kernel)) fun _ _ => rfl)) (dg_name (i := 8) (by decide +kernel) (by decide +kernel) (by decide +kernel)) dts_nil (de_tup (da_cons (de_var (i := 6) (by decide +kernel) (by decide +kernel)) (da_cons (de_var (i := 8) (by decide +kernel) (by decide +kernel)) da_nil fun _ => rfl) fun _ => rfl)) (fun _ _ => rfl) fun _ _ => rfl) (dss_cons (own1 := []) (ds_setLc (i := 3) (own' := []) (ownl := [(PySem.Str.ofString "run", 6), (PySem.Str.ofString "beats", 9), (PySem.Str.ofString "after", 10)]) (by decide +kernel) (by decide +kernel) (by decide +kernel) (by decide +kernel) (di_seq (de_var (i := 5) (by decide +kernel) (by decide +kernel))) (dg_tup (dgs_cons (dg_name (i := 6) (by decide +kernel) (by decide +kernel) (by decide +kernel)) (dgs_cons (dg_tup (dgs_cons (dg_name (i := 9) (by decide +kernel) (by decide +kernel) (by decide +kernel)) (dgs_cons (dg_name (i := 10) (by decide +kernel) (by decide +kernel) (by decide +kernel)) dgs_nil (by decide +kernel) fun _ => rfl) (by decide +kernel) fun _ => rfl) rfl (fun _ => rfl) fun _ => rfl) dgs_nil (by decide +kernel) fun _ => rfl) (by decide +kernel) fun _ => rfl) rfl (fun _ => rfl) fun _ => rfl) dts_nil (de_tup (da_cons (de_tup (da_star (de_var (i := 6) (by decide +kernel) (by decide +kernel)) (da_cons (de_tup (da_cons (de_var (i := 4) (by decide +kernel) (by decide +kernel)) (da_cons (de_var (i := 9) (by decide +kernel) (by decide +kernel)) (da_cons (de_var (i := 10) (by decide +kernel) (by decide +kernel)) da_nil fun _ => rfl) fun _ => rfl) fun _ => rfl)) da_nil fun _ => rfl) fun _ => rfl)) (da_cons (de_var (i := 10) (by decide +kernel) (by decide +kernel)) da_nil fun _ => rfl) fun _ => rfl)) fun _ _ => rfl) (dss_one (own1 := []) (own' := []) (ds_if (dt_cmp oj_gt (DE.b (de_callB cj_len (by decide +kernel) (g.blt _ (by decide +kernel)) (by decide +kernel) (dab_cons (db_var (i := 3) (by decide +kernel)) dab_nil fun _ => rfl) (fun _ => rfl) fun _ _ => rfl)) (DE.b (de_numE g.k_MAX_RUNS (by decide +kernel))) rfl) (dss_one (own1 := []) (own' := []) (ds_raise g.x_TooLarge (by decide +kernel)) (by decide +kernel)) (dss_nil (own' := []) (by decide +kernel))) (by decide +kernel)))) fun _ _ => rfl) (dss_one (own1 := []) (own' := []) (ds_ret (de_callTy cj_tup (by decide +kernel) (g.blt _ (by decide +kernel)) (by decide +kernel) (dab_cons (DE.b (DF.e (df_callB cj_sorted (by decide +kernel) (g.blt _ (by decide +kernel)) (by decide +kernel) (dab_cons (DE.b (DF.e (df_lc (ownl := [(PySem.Str.ofString "run", 6), (PySem.Str.ofString "_", 11)]) (by decide +kernel) (by decide +kernel) (di_seq (de_var (i := 3) (by decide +kernel) (by decide +kernel))) (dg_tup (dgs_cons (dg_name (i := 6) (by decide +kernel) (by decide +kernel) (by decide +kernel)) (dgs_cons (dg_name (i := 11) (by decide +kernel) (by decide +kernel) (by decide +kernel)) dgs_nil (by decide +kernel) fun _ => rfl) (by decide +kernel) fun _ => rfl) rfl (fun _ => rfl) fun _ => rfl) dts_nil (de_var (i := 6) (by decide +kernel) (by decide +kernel)) fun _ _ => rfl))) dab_nil fun _ => rfl) (fun _ => rfl) fun _ _ => rfl))) dab_nil fun _ => rfl) (fun _ => rfl) fun _ _ => rfl)) (by decide +kernel)))))
theorem d_check_run {C : Cn} (g : GF C) (h_check_state : FnR C 3 "check_state" 2 φ_check_state) : DSs C 3 ⟨defScope s_check_run, defScope s_check_run, true⟩ n_check_run [] [] [] (defBody s_check_run) m_check_run := by
  unfold m_check_run
  exact (dss_cons (own1 := []) (ds_expr (de_call h_check_state (by decide +kernel) (by decide +kernel) (da_cons (de_var (i := 0) (by decide +kernel) (by decide +kernel)) (da_cons (de_var (i := 1) (by decide +kernel) (by decide +kernel)) da_nil fun _ => rfl) fun _ => rfl) rfl (elen_cons (elen_cons elen_nil)) (fun _ => rfl) fun _ _ => rfl) fun _ => rfl) (dss_cons (own1 := []) (ds_set (i := 3) (by decide +kernel) (by decide +kernel) (de_var (i := 1) (by decide +kernel) (by decide +kernel)) fun _ => rfl) (dss_cons (own1 := []) (ds_for (vs := [4]) (di_seq (de_var (i := 2) (by decide +kernel) (by decide +kernel))) (dg_name (i := 4) (by decide +kernel) (by decide +kernel) (by decide +kernel)) (by decide +kernel) (dss_cons (own1 := []) (ds_if (DW.t (dw_or (dt_cmp oj_ne (DE.b (de_callB cj_len (by decide +kernel) (g.blt _ (by decide +kernel)) (by decide +kernel) (dab_cons (db_var (i := 4) (by decide +kernel)) dab_nil fun _ => rfl) (fun _ => rfl) fun _ _ => rfl)) (DE.b de_int) rfl) (dw_or (dt_not (dt_chain oj_le oj_lt (DE.b de_int) (DE.b (de_ix ij_ix (db_var (i := 4) (by decide +kernel)) (DE.b de_int) fun _ _ => rfl)) (DE.b (de_ix ij_ix (db_var (i := 0) (by decide +kernel)) (DE.b de_int) fun _ _ => rfl)) rfl)) (dw_or1 (dt_cmp oj_notIn (DE.b (de_tup (da_cons (de_ix ij_ix (db_var (i := 4) (by decide +kernel)) (DE.b de_int) fun _ _ => rfl) (da_cons (de_ix ij_ix (db_var (i := 4) (by decide +kernel)) (DE.b de_int) fun _ _ => rfl) da_nil fun _ => rfl) fun _ => rfl))) (DE.b (de_ix ij_ix (DE.b (de_ix ij_ix (DE.b (de_ix ij_ix (db_var (i := 0) (by decide +kernel)) (DE.b de_int) fun _ _ => rfl)) (db_var (i := 3) (by decide +kernel)) fun _ _ => rfl)) (DE.b (de_ix ij_ix (db_var (i := 4) (by decide +kernel)) (DE.b de_int) fun _ _ => rfl)) fun _ _ => rfl)) rfl))))) (dss_one (own1 := []) (own' := []) (ds_raise g.x_BadPaper (by decide +kernel)) (by decide +kernel)) (dss_nil (own' := []) (by decide +kernel))) (dss_one (own1 := []) (own' := []) (ds_set (i := 3) (by decide +kernel) (by decide +kernel) (de_ix ij_ix (db_var (i := 4) (by decide +kernel)) (DE.b de_int) fun _ _ => rfl) fun _ => rfl) (by decide +kernel))) fun _ _ => rfl) (dss_one (own1 := []) (own' := []) (ds_ret de_bl) (by decide +kernel)))))
theorem d_beats_of {C : Cn} (g : GF C) : DSs C 0 ⟨defScope s_beats_of, defScope s_beats_of, true⟩ n_beats_of [] [] [] (defBody s_beats_of) m_beats_of := by
  unfold m_beats_of
  exact (dss_one (own1 := []) (own' := []) (ds_ret (de_callB cj_sum (by decide +kernel) (g.blt _ (by decide +kernel)) (by decide +kernel) (dab_cons (DE.b (DF.e (df_lc (ownl := [(PySem.Str.ofString "step", 1)]) (by decide +kernel) (by decide +kernel) (di_seq (de_var (i := 0) (by decide +kernel) (by decide +kernel))) (dg_name (i := 1) (by decide +kernel) (by decide +kernel) (by decide +kernel)) dts_nil (de_ix ij_ix (db_var (i := 1) (by decide +kernel)) (DE.b de_int) fun _ _ => rfl) fun _ _ => rfl))) dab_nil fun _ => rfl) (fun _ => rfl) fun _ _ => rfl)) (by decide +kernel))
theorem d_deeds_in {C : Cn} (g : GF C) : DSs C 0 ⟨defScope s_deeds_in, defScope s_deeds_in, true⟩ n_deeds_in [] [] [] (defBody s_deeds_in) m_deeds_in := by
  unfold m_deeds_in
  exact (dss_one (own1 := []) (own' := []) (ds_ret (de_callTy cj_tup (by decide +kernel) (g.blt _ (by decide +kernel)) (by decide +kernel) (dab_cons (DE.b (DF.e (df_lc (ownl := [(PySem.Str.ofString "step", 1)]) (by decide +kernel) (by decide +kernel) (di_seq (de_var (i := 0) (by decide +kernel) (by decide +kernel))) (dg_name (i := 1) (by decide +kernel) (by decide +kernel) (by decide +kernel)) dts_nil (de_ix ij_ix (db_var (i := 1) (by decide +kernel)) (DE.b de_int) fun _ _ => rfl) fun _ _ => rfl))) dab_nil fun _ => rfl) (fun _ => rfl) fun _ _ => rfl)) (by decide +kernel))
theorem d_state_behind {C : Cn} (g : GF C) : DSs C 0 ⟨defScope s_state_behind, defScope s_state_behind, true⟩ n_state_behind [] [] [] (defBody s_state_behind) m_state_behind := by
  unfold m_state_behind
  exact (dss_one (own1 := []) (own' := []) (ds_ret (de_if (dt_cmp oj_gt (DE.b (de_callB cj_len (by decide +kernel) (g.blt _ (by decide +kernel)) (by decide +kernel) (dab_cons (db_var (i := 1) (by decide +kernel)) dab_nil fun _ => rfl) (fun _ => rfl) fun _ _ => rfl)) (DE.b de_int) rfl) (de_ix ij_ix (DE.b (de_ix ij_ix (db_var (i := 1) (by decide +kernel)) (DE.b (de_neg (DE.b de_int))) fun _ _ => rfl)) (DE.b de_int) fun _ _ => rfl) (de_var (i := 0) (by decide +kernel) (by decide +kernel)))) (by decide +kernel))
theorem d_extremes {C : Cn} (g : GF C) (h_check_deeds : FnR C 4 "check_deeds" 3 φ_check_deeds) : DSs C 4 ⟨defScope s_extremes, defScope s_extremes, true⟩ n_extremes [] [] [] (defBody s_extremes) m_extremes := by
  unfold m_extremes
  exact (dss_cons (own1 := []) (ds_expr (de_call h_check_deeds (by decide +kernel) (by decide +kernel) (da_cons (de_var (i := 0) (by decide +kernel) (by decide +kernel)) (da_cons (de_var (i := 1) (by decide +kernel) (by decide +kernel)) (da_cons (de_var (i := 2) (by decide +kernel) (by decide +kernel)) da_nil fun _ => rfl) fun _ => rfl) fun _ => rfl) rfl (elen_cons (elen_cons (elen_cons elen_nil))) (fun _ => rfl) fun _ _ => rfl) fun _ => rfl) (dss_cons (own1 := []) (ds_par (i := 3) (j := 4) (by decide +kernel) (by decide +kernel) (by decide +kernel) (by decide +kernel) (by decide +kernel) (by decide +kernel) (by decide +kernel) (da_cons (DF.e (df_disp1 (de_var (i := 1) (by decide +kernel) (by decide +kernel)) de_int)) (da_cons (DF.e (df_disp1 (de_var (i := 1) (by decide +kernel) (by decide +kernel)) de_int)) da_nil fun _ => rfl) fun _ => rfl) (by intro env h hb; unfold swappedStores Env.kindOf; rw [h, hb]; rfl) fun _ => rfl) (dss_cons (own1 := []) (ds_for (vs := [5]) (di_seq (de_var (i := 2) (by decide +kernel) (by decide +kernel))) (dg_name (i := 5) (by decide +kernel) (by decide +kernel) (by decide +kernel)) (by decide +kernel) (dss_cons (own1 := [6, 7]) (ds_parF (i := 6) (j := 7) (own' := [6, 7]) (by decide +kernel) (by decide +kernel) (by decide +kernel) (by decide +kernel) (by decide +kernel) (by decide +kernel) (by decide +kernel) (by decide +kernel) df_dnew df_dnew (by intro env h hb; unfold swappedStores Env.kindOf; rw [h, hb]; rfl) (fun _ => rfl) (fun _ => rfl) fun _ => rfl) (dss_cons (own1 := [6, 7]) (ds_forK (i := 3) (vs := [8]) (by decide +kernel) (by decide +kernel) (dg_name (i := 8) (by decide +kernel) (by decide +kernel) (by decide +kernel)) (by decide +kernel) (dss_one (own1 := [6, 7]) (own' := [6, 7]) (ds_for (vs := [9, 10]) (di_seq (de_ix ij_ix (DE.b (de_ix ij_ix (DE.b (de_ix ij_ix (db_var (i := 0) (by decide +kernel)) (DE.b de_int) fun _ _ => rfl)) (db_var (i := 8) (by decide +kernel)) fun _ _ => rfl)) (db_var (i := 5) (by decide +kernel)) fun _ _ => rfl)) (dg_tup (dgs_cons (dg_name (i := 9) (by decide +kernel) (by decide +kernel) (by decide +kernel)) (dgs_cons (dg_name (i := 10) (by decide +kernel) (by decide +kernel) (by decide +kernel)) dgs_nil (by decide +kernel) fun _ => rfl) (by decide +kernel) fun _ => rfl) rfl (fun _ => rfl) fun _ => rfl) (by decide +kernel) (dss_cons (own1 := [6, 7]) (ds_put (i := 6) (by decide +kernel) (by decide +kernel) (de_callB cj_min2 (by decide +kernel) (g.blt _ (by decide +kernel)) (by decide +kernel) (dab_cons (DE.b (de_get2 (db_var (i := 6) (by decide +kernel)) (de_var (i := 10) (by decide +kernel) (by decide +kernel)) (de_bin oj_add (DE.b (de_ix ij_ix (db_var (i := 3) (by decide +kernel)) (db_var (i := 8) (by decide +kernel)) fun _ _ => rfl)) (db_var (i := 9) (by decide +kernel))) (fun _ => rfl) (fun _ => rfl) rfl fun _ => rfl)) (dab_cons (DE.b (de_bin oj_add (DE.b (de_ix ij_ix (db_var (i := 3) (by decide +kernel)) (db_var (i := 8) (by decide +kernel)) fun _ _ => rfl)) (db_var (i := 9) (by decide +kernel)))) dab_nil fun _ => rfl) fun _ => rfl) (fun _ => rfl) fun _ _ => rfl) (de_var (i := 10) (by decide +kernel) (by decide +kernel)) fun _ => rfl) (dss_one (own1 := [6, 7]) (own' := [6, 7]) (ds_put (i := 7) (by decide +kernel) (by decide +kernel) (de_callB cj_max2 (by decide +kernel) (g.blt _ (by decide +kernel)) (by decide +kernel) (dab_cons (DE.b (de_get2 (db_var (i := 7) (by decide +kernel)) (de_var (i := 10) (by decide +kernel) (by decide +kernel)) (de_bin oj_add (DE.b (de_ix ij_ix (db_var (i := 4) (by decide +kernel)) (db_var (i := 8) (by decide +kernel)) fun _ _ => rfl)) (db_var (i := 9) (by decide +kernel))) (fun _ => rfl) (fun _ => rfl) rfl fun _ => rfl)) (dab_cons (DE.b (de_bin oj_add (DE.b (de_ix ij_ix (db_var (i := 4) (by decide +kernel)) (db_var (i := 8) (by decide +kernel)) fun _ _ => rfl)) (db_var (i := 9) (by decide +kernel)))) dab_nil fun _ => rfl) fun _ => rfl) (fun _ => rfl) fun _ _ => rfl) (de_var (i := 10) (by decide +kernel) (by decide +kernel)) fun _ => rfl) (by decide +kernel))) fun _ _ => rfl) (by decide +kernel)) fun _ _ => rfl) (dss_one (own1 := []) (own' := []) (ds_drop (own1 := []) (by decide +kernel) (ds_par (i := 3) (j := 4) (by decide +kernel) (by decide +kernel) (by decide +kernel) (by decide +kernel) (by decide +kernel) (by decide +kernel) (by decide +kernel) (da_cons (de_var (i := 6) (by decide +kernel) (by decide +kernel)) (da_cons (de_var (i := 7) (by decide +kernel) (by decide +kernel)) da_nil fun _ => rfl) fun _ => rfl) (by intro env h hb; unfold swappedStores Env.kindOf; rw [h, hb]; rfl) fun _ => rfl)) (by decide +kernel)))) fun _ _ => rfl) (dss_one (own1 := []) (own' := []) (ds_ret (de_tup (da_cons (de_best (fun _ _ => bst_min) (by decide +kernel) (g.blt _ (by decide +kernel)) (db_var (i := 3) (by decide +kernel)) (fun _ => rfl) rfl fun _ => rfl) (da_cons (de_best (fun _ _ => bst_max) (by decide +kernel) (g.blt _ (by decide +kernel)) (db_var (i := 4) (by decide +kernel)) (fun _ => rfl) rfl fun _ => rfl) da_nil fun _ => rfl) fun _ => rfl))) (by decide +kernel)))))
theorem d_law_same {C : Cn} (g : GF C) : DSs C 0 ⟨defScope s_law_same, defScope s_law_same, true⟩ n_law_same [] [] [] (defBody s_law_same) m_law_same := by
  unfold m_law_same
  exact (dss_one (own1 := []) (own' := []) (ds_ret (de_cmp oj_eq (DE.b (de_callB cj_repr (by decide +kernel) (g.blt _ (by decide +kernel)) (by decide +kernel) (dab_cons (DE.b (DF.e (df_lst (da_cons (de_var (i := 0) (by decide +kernel) (by decide +kernel)) da_nil fun _ => rfl)))) dab_nil fun _ => rfl) (fun _ => rfl) fun _ _ => rfl)) (DE.b (de_callB cj_repr (by decide +kernel) (g.blt _ (by decide +kernel)) (by decide +kernel) (dab_cons (DE.b (DF.e (df_lst (da_cons (de_var (i := 1) (by decide +kernel) (by decide +kernel)) da_nil fun _ => rfl)))) dab_nil fun _ => rfl) (fun _ => rfl) fun _ _ => rfl)) rfl)) (by decide +kernel))
theorem d_law_told {C : Cn} (g : GF C) (h_runs : FnR C 5 "runs" 3 φ_runs) (h_check_run : FnR C 4 "check_run" 3 φ_check_run) (h_extremes : FnR C 5 "extremes" 3 φ_extremes) (h_law_error : ErrR C 1) : DSs C 5 ⟨defScope s_law_told, defScope s_law_told, true⟩ n_law_told [] [] [] (defBody s_law_told) m_law_told := by
  obtain ⟨cB, vB, hE⟩ := g.errs
  unfold m_law_told
  exact (dss_one (own1 := []) (own' := []) (ds_try (i := 2) (cB := cB) rfl (by decide +kernel) (by decide +kernel) (by decide +kernel) vB (by decide +kernel) (by decide +kernel) h_law_error (by decide +kernel) (by decide +kernel) hE (dss_cons (own1 := []) (ds_if (dt_cmp oj_lt (DE.b (de_callB cj_len (by decide +kernel) (g.blt _ (by decide +kernel)) (by decide +kernel) (dab_cons (db_var (i := 1) (by decide +kernel)) dab_nil fun _ => rfl) (fun _ => rfl) fun _ _ => rfl)) (DE.b de_int) rfl) (dss_one (own1 := []) (own' := []) (ds_ret (de_tup (da_cons de_str (da_cons (de_if (dt_cmp oj_eq (DE.b (de_callB cj_len (by decide +kernel) (g.blt _ (by decide +kernel)) (by decide +kernel) (dab_cons (db_var (i := 1) (by decide +kernel)) dab_nil fun _ => rfl) (fun _ => rfl) fun _ _ => rfl)) (DE.b de_int) rfl) (de_callV (i := 0) (by decide +kernel) (by decide +kernel) (hdisp h_runs h_check_run h_extremes) (by decide +kernel) (da_cons (de_ix ij_ix (db_var (i := 1) (by decide +kernel)) (DE.b de_int) fun _ _ => rfl) da_nil fun _ => rfl) (fun _ => rfl) fun _ _ => rfl) (de_callV (i := 0) (by decide +kernel) (by decide +kernel) (hdisp h_runs h_check_run h_extremes) (by decide +kernel) (da_cons (de_ix ij_ix (db_var (i := 1) (by decide +kernel)) (DE.b de_int) fun _ _ => rfl) (da_cons (de_ix ij_ix (db_var (i := 1) (by decide +kernel)) (DE.b de_int) fun _ _ => rfl) da_nil fun _ => rfl) fun _ => rfl) (fun _ => rfl) fun _ _ => rfl)) da_nil fun _ => rfl) fun _ => rfl))) (by decide +kernel)) (dss_nil (own' := []) (by decide +kernel))) (dss_cons (own1 := []) (ds_if (dt_cmp oj_eq (DE.b (de_callB cj_len (by decide +kernel) (g.blt _ (by decide +kernel)) (by decide +kernel) (dab_cons (db_var (i := 1) (by decide +kernel)) dab_nil fun _ => rfl) (fun _ => rfl) fun _ _ => rfl)) (DE.b de_int) rfl) (dss_one (own1 := []) (own' := []) (ds_ret (de_tup (da_cons de_str (da_cons (de_callV (i := 0) (by decide +kernel) (by decide +kernel) (hdisp h_runs h_check_run h_extremes) (by decide +kernel) (da_cons (de_ix ij_ix (db_var (i := 1) (by decide +kernel)) (DE.b de_int) fun _ _ => rfl) (da_cons (de_ix ij_ix (db_var (i := 1) (by decide +kernel)) (DE.b de_int) fun _ _ => rfl) (da_cons (de_ix ij_ix (db_var (i := 1) (by decide +kernel)) (DE.b de_int) fun _ _ => rfl) da_nil fun _ => rfl) fun _ => rfl) fun _ => rfl) (fun _ => rfl) fun _ _ => rfl) da_nil fun _ => rfl) fun _ => rfl))) (by decide +kernel)) (dss_nil (own' := []) (by decide +kernel))) (dss_one (own1 := []) (own' := []) (ds_ret (de_tup (da_cons de_str (da_cons (de_if (dt_cmp oj_eq (DE.b (de_callB cj_len (by decide +kernel) (g.blt _ (by decide +kernel)) (by decide +kernel) (dab_cons (db_var (i := 1) (by decide +kernel)) dab_nil fun _ => rfl) (fun _ => rfl) fun _ _ => rfl)) (DE.b de_int) rfl) (de_callV (i := 0) (by decide +kernel) (by decide +kernel) (hdisp h_runs h_check_run h_extremes) (by decide +kernel) (da_cons (de_ix ij_ix (db_var (i := 1) (by decide +kernel)) (DE.b de_int) fun _ _ => rfl) (da_cons (de_ix ij_ix (db_var (i := 1) (by decide +kernel)) (DE.b de_int) fun _ _ => rfl) (da_cons (de_ix ij_ix (db_var (i := 1) (by decide +kernel)) (DE.b de_int) fun _ _ => rfl) (da_cons (de_ix ij_ix (db_var (i := 1) (by decide +kernel)) (DE.b de_int) fun _ _ => rfl) da_nil fun _ => rfl) fun _ => rfl) fun _ => rfl) fun _ => rfl) (fun _ => rfl) fun _ _ => rfl) (de_callV (i := 0) (by decide +kernel) (by decide +kernel) (hdisp h_runs h_check_run h_extremes) (by decide +kernel) (da_cons (de_ix ij_ix (db_var (i := 1) (by decide +kernel)) (DE.b de_int) fun _ _ => rfl) (da_cons (de_ix ij_ix (db_var (i := 1) (by decide +kernel)) (DE.b de_int) fun _ _ => rfl) (da_cons (de_ix ij_ix (db_var (i := 1) (by decide +kernel)) (DE.b de_int) fun _ _ => rfl) (da_cons (de_ix ij_ix (db_var (i := 1) (by decide +kernel)) (DE.b de_int) fun _ _ => rfl) (da_cons (de_ix ij_ix (db_var (i := 1) (by decide +kernel)) (DE.b de_int) fun _ _ => rfl) da_nil fun _ => rfl) fun _ => rfl) fun _ => rfl) fun _ => rfl) fun _ => rfl) (fun _ => rfl) fun _ _ => rfl)) da_nil fun _ => rfl) fun _ => rfl))) (by decide +kernel))))) (by decide +kernel))
theorem d_law_all {C : Cn} (g : GF C) : DSs C 0 ⟨defScope s_law_all, defScope s_law_all, true⟩ n_law_all [] [] [] (defBody s_law_all) m_law_all := by
  unfold m_law_all
  exact (dss_cons (own1 := []) (ds_set (i := 2) (by decide +kernel) (by decide +kernel) (DF.e (df_lst da_nil)) fun _ => rfl) (dss_cons (own1 := []) (ds_for (vs := [3]) (di_seq (de_var (i := 0) (by decide +kernel) (by decide +kernel))) (dg_name (i := 3) (by decide +kernel) (by decide +kernel) (by decide +kernel)) (by decide +kernel) (dss_one (own1 := []) (own' := []) (ds_set (i := 2) (by decide +kernel) (by decide +kernel) (DF.e (df_bin oj_cat (db_var (i := 2) (by decide +kernel)) (DE.b (DF.e (df_lc (ownl := [(PySem.Str.ofString "two", 4)]) (by decide +kernel) (by decide +kernel) (di_seq (de_var (i := 1) (by decide +kernel) (by decide +kernel))) (dg_name (i := 4) (by decide +kernel) (by decide +kernel) (by decide +kernel)) dts_nil (de_tup (da_cons (de_var (i := 3) (by decide +kernel) (by decide +kernel)) (da_cons (de_var (i := 4) (by decide +kernel) (by decide +kernel)) da_nil fun _ => rfl) fun _ => rfl)) fun _ _ => rfl))))) fun _ => rfl) (by decide +kernel)) fun _ _ => rfl) (dss_one (own1 := []) (own' := []) (ds_ret (de_var (i := 2) (by decide +kernel) (by decide +kernel))) (by decide +kernel))))
theorem d_law_machine {C : Cn} (g : GF C) (h_law_next : FnR C 1 "_law_next" 2 (nextD C.ns)) : DSs C 1 ⟨defScope s_law_machine, defScope s_law_machine, true⟩ n_law_machine [] [] [] (defBody s_law_machine) (m_law_machine C.ns) := by
  unfold m_law_machine
  exact (dss_cons (own1 := []) (ds_set (i := 4) (by decide +kernel) (by decide +kernel) (de_bin oj_add (DE.b de_int) (DE.b (de_call h_law_next (by decide +kernel) (by decide +kernel) (da_cons (de_var (i := 0) (by decide +kernel) (by decide +kernel)) (da_cons (de_var (i := 2) (by decide +kernel) (by decide +kernel)) da_nil fun _ => rfl) fun _ => rfl) rfl (elen_cons (elen_cons elen_nil)) (fun _ => rfl) fun _ _ => rfl))) fun _ => rfl) (dss_cons (own1 := [5]) (ds_setF (i := 5) (own' := [5]) (by decide +kernel) (by decide +kernel) (df_lst da_nil) fun _ => rfl) (dss_cons (own1 := [5]) (ds_for (vs := [6]) (di_rng1 (by decide +kernel) (g.blt _ (by decide +kernel)) (de_var (i := 4) (by decide +kernel) (by decide +kernel)) fun _ => rfl) (dg_name (i := 6) (by decide +kernel) (by decide +kernel) (by decide +kernel)) (by decide +kernel) (dss_cons (own1 := [5, 7]) (ds_setF (i := 7) (own' := [5, 7]) (by decide +kernel) (by decide +kernel) (df_lst da_nil) fun _ => rfl) (dss_cons (own1 := [5, 7]) (ds_for (vs := [8]) (di_rng1 (by decide +kernel) (g.blt _ (by decide +kernel)) (de_var (i := 1) (by decide +kernel) (by decide +kernel)) fun _ => rfl) (dg_name (i := 8) (by decide +kernel) (by decide +kernel) (by decide +kernel)) (by decide +kernel) (dss_cons (own1 := [5, 7]) (ds_setLc (i := 9) (own' := [5, 7]) (ownl := [(PySem.Str.ofString "j", 10)]) (by decide +kernel) (by decide +kernel) (by decide +kernel) (by decide +kernel) (di_rng1 (by decide +kernel) (g.blt _ (by decide +kernel)) (de_if (dt_val (de_var (i := 3) (by decide +kernel) (by decide +kernel)) fun _ _ => rfl) de_int (de_bin oj_add (DE.b de_int) (DE.b (de_call h_law_next (by decide +kernel) (by decide +kernel) (da_cons (de_var (i := 0) (by decide +kernel) (by decide +kernel)) (da_cons de_int da_nil fun _ => rfl) fun _ => rfl) rfl (elen_cons (elen_cons elen_nil)) (fun _ => rfl) fun _ _ => rfl)))) fun _ => rfl) (dg_name (i := 10) (by decide +kernel) (by decide +kernel) (by decide +kernel)) dts_nil (de_tup (da_cons (de_call h_law_next (by decide +kernel) (by decide +kernel) (da_cons (de_var (i := 0) (by decide +kernel) (by decide +kernel)) (da_cons de_int da_nil fun _ => rfl) fun _ => rfl) rfl (elen_cons (elen_cons elen_nil)) (fun _ => rfl) fun _ _ => rfl) (da_cons (de_call h_law_next (by decide +kernel) (by decide +kernel) (da_cons (de_var (i := 0) (by decide +kernel) (by decide +kernel)) (da_cons (de_var (i := 4) (by decide +kernel) (by decide +kernel)) da_nil fun _ => rfl) fun _ => rfl) rfl (elen_cons (elen_cons elen_nil)) (fun _ => rfl) fun _ _ => rfl) da_nil fun _ => rfl) fun _ => rfl)) fun _ _ => rfl) (dss_one (own1 := [5, 7]) (own' := [5, 7]) (ds_app (i := 7) (by decide +kernel) (by decide +kernel) (de_callTy cj_tup (by decide +kernel) (g.blt _ (by decide +kernel)) (by decide +kernel) (dab_cons (DE.b (DF.e (df_sortSet (by decide +kernel) (by decide +kernel) (g.blt _ (by decide +kernel)) (g.blt _ (by decide +kernel)) (db_var (i := 9) (by decide +kernel)) (fun _ => rfl) (fun _ => rfl) (fun _ _ => rfl) (fun _ _ => rfl)))) dab_nil fun _ => rfl) (fun _ => rfl) fun _ _ => rfl) (fun _ => rfl) (fun _ => rfl) rfl (fun _ => rfl) (fun _ => rfl) fun _ => rfl) (by decide +kernel))) fun _ _ => rfl) (dss_one (own1 := [5, 7]) (own' := [5]) (ds_app (i := 5) (by decide +kernel) (by decide +kernel) (de_callTy cj_tup (by decide +kernel) (g.blt _ (by decide +kernel)) (by decide +kernel) (dab_cons (db_var (i := 7) (by decide +kernel)) dab_nil fun _ => rfl) (fun _ => rfl) fun _ _ => rfl) (fun _ => rfl) (fun _ => rfl) rfl (fun _ => rfl) (fun _ => rfl) fun _ => rfl) (by decide +kernel)))) fun _ _ => rfl) (dss_one (own1 := []) (own' := []) (ds_ret (de_tup (da_cons (de_var (i := 1) (by decide +kernel) (by decide +kernel)) (da_cons (de_callTy cj_tup (by decide +kernel) (g.blt _ (by decide +kernel)) (by decide +kernel) (dab_cons (db_var (i := 5) (by decide +kernel)) dab_nil fun _ => rfl) (fun _ => rfl) fun _ _ => rfl) da_nil fun _ => rfl) fun _ => rfl))) (by decide +kernel)))))
theorem d_law_sums {C : Cn} (g : GF C) : DSs C 0 ⟨defScope s_law_sums, defScope s_law_sums, true⟩ n_law_sums [] [] [] (defBody s_law_sums) m_law_sums := by
  unfold m_law_sums
  exact (dss_cons (own1 := []) (ds_set (i := 3) (by decide +kernel) (by decide +kernel) (DF.e (df_disp1 (de_var (i := 1) (by decide +kernel) (by decide +kernel)) (de_tup (da_cons de_int (da_cons de_int da_nil fun _ => rfl) fun _ => rfl)))) fun _ => rfl) (dss_cons (own1 := []) (ds_for (vs := [4]) (di_seq (de_var (i := 2) (by decide +kernel) (by decide +kernel))) (dg_name (i := 4) (by decide +kernel) (by decide +kernel) (by decide +kernel)) (by decide +kernel) (dss_cons (own1 := [5]) (ds_setF (i := 5) (own' := [5]) (by decide +kernel) (by decide +kernel) df_dnew fun _ => rfl) (dss_cons (own1 := [5]) (ds_forK (i := 3) (vs := [6]) (by decide +kernel) (by decide +kernel) (dg_name (i := 6) (by decide +kernel) (by decide +kernel) (by decide +kernel)) (by decide +kernel) (dss_one (own1 := [5]) (own' := [5]) (ds_for (vs := [7, 8]) (di_seq (de_ix ij_ix (DE.b (de_ix ij_ix (DE.b (de_ix ij_ix (db_var (i := 0) (by decide +kernel)) (DE.b de_int) fun _ _ => rfl)) (db_var (i := 6) (by decide +kernel)) fun _ _ => rfl)) (db_var (i := 4) (by decide +kernel)) fun _ _ => rfl)) (dg_tup (dgs_cons (dg_name (i := 7) (by decide +kernel) (by decide +kernel) (by decide +kernel)) (dgs_cons (dg_name (i := 8) (by decide +kernel) (by decide +kernel) (by decide +kernel)) dgs_nil (by decide +kernel) fun _ => rfl) (by decide +kernel) fun _ => rfl) rfl (fun _ => rfl) fun _ => rfl) (by decide +kernel) (dss_cons (own1 := [5]) (ds_par (i := 9) (j := 10) (by decide +kernel) (by decide +kernel) (by decide +kernel) (by decide +kernel) (by decide +kernel) (by decide +kernel) (by decide +kernel) (da_cons (de_bin oj_add (DE.b (de_ix ij_ix (DE.b (de_ix ij_ix (db_var (i := 3) (by decide +kernel)) (db_var (i := 6) (by decide +kernel)) fun _ _ => rfl)) (DE.b de_int) fun _ _ => rfl)) (db_var (i := 7) (by decide +kernel))) (da_cons (de_bin oj_add (DE.b (de_ix ij_ix (DE.b (de_ix ij_ix (db_var (i := 3) (by decide +kernel)) (db_var (i := 6) (by decide +kernel)) fun _ _ => rfl)) (DE.b de_int) fun _ _ => rfl)) (db_var (i := 7) (by decide +kernel))) da_nil fun _ => rfl) fun _ => rfl) (by intro env h hb; unfold swappedStores Env.kindOf; rw [h, hb]; rfl) fun _ => rfl) (dss_one (own1 := [5]) (own' := [5]) (ds_put (i := 5) (by decide +kernel) (by decide +kernel) (de_if (dt_cmp oj_in (db_var (i := 8) (by decide +kernel)) (db_var (i := 5) (by decide +kernel)) rfl) (de_tup (da_cons (de_callB cj_min2 (by decide +kernel) (g.blt _ (by decide +kernel)) (by decide +kernel) (dab_cons (db_var (i := 9) (by decide +kernel)) (dab_cons (DE.b (de_ix ij_ix (DE.b (de_ix ij_ix (db_var (i := 5) (by decide +kernel)) (db_var (i := 8) (by decide +kernel)) fun _ _ => rfl)) (DE.b de_int) fun _ _ => rfl)) dab_nil fun _ => rfl) fun _ => rfl) (fun _ => rfl) fun _ _ => rfl) (da_cons (de_callB cj_max2 (by decide +kernel) (g.blt _ (by decide +kernel)) (by decide +kernel) (dab_cons (db_var (i := 10) (by decide +kernel)) (dab_cons (DE.b (de_ix ij_ix (DE.b (de_ix ij_ix (db_var (i := 5) (by decide +kernel)) (db_var (i := 8) (by decide +kernel)) fun _ _ => rfl)) (DE.b de_int) fun _ _ => rfl)) dab_nil fun _ => rfl) fun _ => rfl) (fun _ => rfl) fun _ _ => rfl) da_nil fun _ => rfl) fun _ => rfl)) (de_tup (da_cons (de_var (i := 9) (by decide +kernel) (by decide +kernel)) (da_cons (de_var (i := 10) (by decide +kernel) (by decide +kernel)) da_nil fun _ => rfl) fun _ => rfl))) (de_var (i := 8) (by decide +kernel) (by decide +kernel)) fun _ => rfl) (by decide +kernel))) fun _ _ => rfl) (by decide +kernel)) fun _ _ => rfl) (dss_one (own1 := []) (own' := []) (ds_drop (own1 := []) (by decide +kernel) (ds_set (i := 3) (by decide +kernel) (by decide +kernel) (de_var (i := 5) (by decide +kernel) (by decide +kernel)) fun _ => rfl)) (by decide +kernel)))) fun _ _ => rfl) (dss_one (own1 := []) (own' := []) (ds_ret (de_var (i := 3) (by decide +kernel) (by decide +kernel))) (by decide +kernel))))
theorem d_law_runs {C : Cn} (g : GF C) : DSs C 0 ⟨defScope s_law_runs, defScope s_law_runs, true⟩ n_law_runs [] [] [] (defBody s_law_runs) m_law_runs := by
  unfold m_law_runs
  exact (dss_cons (own1 := []) (ds_set (i := 3) (by decide +kernel) (by decide +kernel) (DF.e (df_lst (da_cons (de_tup (da_cons (de_tup da_nil) (da_cons (de_var (i := 1) (by decide +kernel) (by decide +kernel)) da_nil fun _ => rfl) fun _ => rfl)) da_nil fun _ => rfl))) fun _ => rfl) (dss_cons (own1 := []) (ds_for (vs := [4]) (di_seq (de_var (i := 2) (by decide +kernel) (by decide +kernel))) (dg_name (i := 4) (by decide +kernel) (by decide +kernel) (by decide +kernel)) (by decide +kernel) (dss_cons (own1 := []) (ds_set (i := 5) (by decide +kernel) (by decide +kernel) (DF.e (df_lst da_nil)) fun _ => rfl) (dss_cons (own1 := []) (ds_for (vs := [6, 7]) (di_seq (de_var (i := 3) (by decide +kernel) (by decide +kernel))) (dg_tup (dgs_cons (dg_name (i := 6) (by decide +kernel) (by decide +kernel) (by decide +kernel)) (dgs_cons (dg_name (i := 7) (by decide +kernel) (by decide +kernel) (by decide +kernel)) dgs_nil (by decide +kernel) fun _ => rfl) (by decide +kernel) fun _ => rfl) rfl (fun _ => rfl) fun _ => rfl) (by decide +kernel) (dss_one (own1 := []) (own' := []) (ds_set (i := 5) (by decide +kernel) (by decide +kernel) (DF.e (df_bin oj_cat (db_var (i := 5) (by decide +kernel)) (DE.b (DF.e (df_lc (ownl := [(PySem.Str.ofString "way", 8)]) (by decide +kernel) (by decide +kernel) (di_seq (de_ix ij_ix (DE.b (de_ix ij_ix (DE.b (de_ix ij_ix (db_var (i := 0) (by decide +kernel)) (DE.b de_int) fun _ _ => rfl)) (db_var (i := 7) (by decide +kernel)) fun _ _ => rfl)) (db_var (i := 4) (by decide +kernel)) fun _ _ => rfl)) (dg_name (i := 8) (by decide +kernel) (by decide +kernel) (by decide +kernel)) dts_nil (de_tup (da_cons (de_bin oj_add (db_var (i := 6) (by decide +kernel)) (DE.b (de_tup (da_cons (de_bin oj_add (DE.b (de_tup (da_cons (de_var (i := 4) (by decide +kernel) (by decide +kernel)) da_nil fun _ => rfl))) (db_var (i := 8) (by decide +kernel))) da_nil fun _ => rfl)))) (da_cons (de_ix ij_ix (db_var (i := 8) (by decide +kernel)) (DE.b de_int) fun _ _ => rfl) da_nil fun _ => rfl) fun _ => rfl)) fun _ _ => rfl))))) fun _ => rfl) (by decide +kernel)) fun _ _ => rfl) (dss_one (own1 := []) (own' := []) (ds_set (i := 3) (by decide +kernel) (by decide +kernel) (de_var (i := 5) (by decide +kernel) (by decide +kernel)) fun _ => rfl) (by decide +kernel)))) fun _ _ => rfl) (dss_one (own1 := []) (own' := []) (ds_ret (DF.e (df_callB cj_sorted (by decide +kernel) (g.blt _ (by decide +kernel)) (by decide +kernel) (dab_cons (DE.b (DF.e (df_lc (ownl := [(PySem.Str.ofString "run", 6), (PySem.Str.ofString "here", 7)]) (by decide +kernel) (by decide +kernel) (di_seq (de_var (i := 3) (by decide +kernel) (by decide +kernel))) (dg_tup (dgs_cons (dg_name (i := 6) (by decide +kernel) (by decide +kernel) (by decide +kernel)) (dgs_cons (dg_name (i := 7) (by decide +kernel) (by decide +kernel) (by decide +kernel)) dgs_nil (by decide +kernel) fun _ => rfl) (by decide +kernel) fun _ => rfl) rfl (fun _ => rfl) fun _ => rfl) dts_nil (de_var (i := 6) (by decide +kernel) (by decide +kernel)) fun _ _ => rfl))) dab_nil fun _ => rfl) (fun _ => rfl) fun _ _ => rfl))) (by decide +kernel))))
theorem d_law_is_run {C : Cn} (g : GF C) : DSs C 0 ⟨defScope s_law_is_run, defScope s_law_is_run, true⟩ n_law_is_run [] [] [] (defBody s_law_is_run) m_law_is_run := by
  unfold m_law_is_run
  exact (dss_cons (own1 := []) (ds_set (i := 3) (by decide +kernel) (by decide +kernel) (de_var (i := 1) (by decide +kernel) (by decide +kernel)) fun _ => rfl) (dss_cons (own1 := []) (ds_for (vs := [4]) (di_seq (de_var (i := 2) (by decide +kernel) (by decide +kernel))) (dg_name (i := 4) (by decide +kernel) (by decide +kernel) (by decide +kernel)) (by decide +kernel) (dss_cons (own1 := []) (ds_if (DW.t (dw_or (dt_cmp oj_ne (DE.b (de_callB cj_len (by decide +kernel) (g.blt _ (by decide +kernel)) (by decide +kernel) (dab_cons (db_var (i := 4) (by decide +kernel)) dab_nil fun _ => rfl) (fun _ => rfl) fun _ _ => rfl)) (DE.b de_int) rfl) (dw_or (dt_inRngAny in_rng_f _ (by decide +kernel) (g.blt _ (by decide +kernel)) (de_ix ij_ix (db_var (i := 4) (by decide +kernel)) (DE.b de_int) fun _ _ => rfl) (de_ix ij_ix (db_var (i := 0) (by decide +kernel)) (DE.b de_int) fun _ _ => rfl) (fun _ => rfl) rfl) (dw_or1 (dt_cmp oj_notIn (DE.b (de_tup (da_cons (de_ix ij_ix (db_var (i := 4) (by decide +kernel)) (DE.b de_int) fun _ _ => rfl) (da_cons (de_ix ij_ix (db_var (i := 4) (by decide +kernel)) (DE.b de_int) fun _ _ => rfl) da_nil fun _ => rfl) fun _ => rfl))) (DE.b (de_ix ij_ix (DE.b (de_ix ij_ix (DE.b (de_ix ij_ix (db_var (i := 0) (by decide +kernel)) (DE.b de_int) fun _ _ => rfl)) (db_var (i := 3) (by decide +kernel)) fun _ _ => rfl)) (DE.b (de_ix ij_ix (db_var (i := 4) (by decide +kernel)) (DE.b de_int) fun _ _ => rfl)) fun _ _ => rfl)) rfl))))) (dss_one (own1 := []) (own' := []) (ds_ret de_bl) (by decide +kernel)) (dss_nil (own' := []) (by decide +kernel))) (dss_one (own1 := []) (own' := []) (ds_set (i := 3) (by decide +kernel) (by decide +kernel) (de_ix ij_ix (db_var (i := 4) (by decide +kernel)) (DE.b de_int) fun _ _ => rfl) fun _ => rfl) (by decide +kernel))) fun _ _ => rfl) (dss_one (own1 := []) (own' := []) (ds_ret de_bl) (by decide +kernel))))
theorem d_law_deeds_fit {C : Cn} (g : GF C) (h_runs : FnR C 5 "runs" 3 φ_runs) (h_check_run : FnR C 4 "check_run" 3 φ_check_run) (h_beats_of : FnR C 1 "beats_of" 1 φ_beats_of) (h_deeds_in : FnR C 1 "deeds_in" 1 φ_deeds_in) (h_state_behind : FnR C 1 "state_behind" 2 φ_state_behind) (h_extremes : FnR C 5 "extremes" 3 φ_extremes) (h_law_next : FnR C 1 "_law_next" 2 (nextD C.ns)) (h_law_same : FnR C 1 "_law_same" 2 φ_law_same) (h_law_told : FnR C 6 "_law_told" 2 φ_law_told) (h_law_sums : FnR C 1 "_law_sums" 3 φ_law_sums) (h_law_runs : FnR C 1 "_law_runs" 3 φ_law_runs) (h_law_is_run : FnR C 1 "_law_is_run" 3 φ_law_is_run) : DSs C 6 ⟨defScope s_law_deeds_fit, defScope s_law_deeds_fit, true⟩ n_law_deeds_fit [] [] [] (defBody s_law_deeds_fit) (m_law_deeds_fit C.ns) := by
  unfold m_law_deeds_fit
  exact (dss_cons (own1 := []) (ds_set (i := 4) (by decide +kernel) (by decide +kernel) (de_call h_law_runs (by decide +kernel) (by decide +kernel) (da_cons (de_var (i := 1) (by decide +kernel) (by decide +kernel)) (da_cons (de_var (i := 2) (by decide +kernel) (by decide +kernel)) (da_cons (de_var (i := 3) (by decide +kernel) (by decide +kernel)) da_nil fun _ => rfl) fun _ => rfl) fun _ => rfl) rfl (elen_cons (elen_cons (elen_cons elen_nil))) (fun _ => rfl) fun _ _ => rfl) fun _ => rfl) (dss_cons (own1 := []) (ds_setLc (i := 5) (own' := []) (ownl := [(PySem.Str.ofString "run", 12)]) (by decide +kernel) (by decide +kernel) (by decide +kernel) (by decide +kernel) (di_seq (de_var (i := 4) (by decide +kernel) (by decide +kernel))) (dg_name (i := 12) (by decide +kernel) (by decide +kernel) (by decide +kernel)) dts_nil (de_callB cj_sum (by decide +kernel) (g.blt _ (by decide +kernel)) (by decide +kernel) (dab_cons (DE.b (DF.e (df_lc (ownl := [(PySem.Str.ofString "step", 13)]) (by decide +kernel) (by decide +kernel) (di_seq (de_var (i := 12) (by decide +kernel) (by decide +kernel))) (dg_name (i := 13) (by decide +kernel) (by decide +kernel) (by decide +kernel)) dts_nil (de_ix ij_ix (db_var (i := 13) (by decide +kernel)) (DE.b de_int) fun _ _ => rfl) fun _ _ => rfl))) dab_nil fun _ => rfl) (fun _ => rfl) fun _ _ => rfl) fun _ _ => rfl) (dss_cons (own1 := []) (ds_set (i := 6) (by decide +kernel) (by decide +kernel) (DF.e (df_lst (da_cons (de_call h_runs (by decide +kernel) (by decide +kernel) (da_cons (de_var (i := 1) (by decide +kernel) (by decide +kernel)) (da_cons (de_var (i := 2) (by decide +kernel) (by decide +kernel)) (da_cons (de_var (i := 3) (by decide +kernel) (by decide +kernel)) da_nil fun _ => rfl) fun _ => rfl) fun _ => rfl) rfl (elen_cons (elen_cons (elen_cons elen_nil))) (fun _ => rfl) fun _ _ => rfl) (da_cons (de_call h_extremes (by decide +kernel) (by decide +kernel) (da_cons (de_var (i := 1) (by decide +kernel) (by decide +kernel)) (da_cons (de_var (i := 2) (by decide +kernel) (by decide +kernel)) (da_cons (de_var (i := 3) (by decide +kernel) (by decide +kernel)) da_nil fun _ => rfl) fun _ => rfl) fun _ => rfl) rfl (elen_cons (elen_cons (elen_cons elen_nil))) (fun _ => rfl) fun _ _ => rfl) da_nil fun _ => rfl) fun _ => rfl))) fun _ => rfl) (dss_cons (own1 := []) (ds_if (dt_not (dt_val (de_call h_law_same (by decide +kernel) (by decide +kernel) (da_cons (de_var (i := 6) (by decide +kernel) (by decide +kernel)) (da_cons (DF.e (df_lst (da_cons (de_callTy cj_tup (by decide +kernel) (g.blt _ (by decide +kernel)) (by decide +kernel) (dab_cons (db_var (i := 4) (by decide +kernel)) dab_nil fun _ => rfl) (fun _ => rfl) fun _ _ => rfl) (da_cons (de_tup (da_cons (de_callB cj_min1 (by decide +kernel) (g.blt _ (by decide +kernel)) (by decide +kernel) (dab_cons (db_var (i := 5) (by decide +kernel)) dab_nil fun _ => rfl) (fun _ => rfl) fun _ _ => rfl) (da_cons (de_callB cj_max1 (by decide +kernel) (g.blt _ (by decide +kernel)) (by decide +kernel) (dab_cons (db_var (i := 5) (by decide +kernel)) dab_nil fun _ => rfl) (fun _ => rfl) fun _ _ => rfl) da_nil fun _ => rfl) fun _ => rfl)) da_nil fun _ => rfl) fun _ => rfl))) da_nil fun _ => rfl) fun _ => rfl) rfl (elen_cons (elen_cons elen_nil)) (fun _ => rfl) fun _ _ => rfl) fun _ _ => rfl)) (dss_one (own1 := []) (own' := []) (ds_ret de_bl) (by decide +kernel)) (dss_nil (own' := []) (by decide +kernel))) (dss_cons (own1 := []) (ds_set (i := 7) (by decide +kernel) (by decide +kernel) (de_call h_law_sums (by decide +kernel) (by decide +kernel) (da_cons (de_var (i := 1) (by decide +kernel) (by decide +kernel)) (da_cons (de_var (i := 2) (by decide +kernel) (by decide +kernel)) (da_cons (de_var (i := 3) (by decide +kernel) (by decide +kernel)) da_nil fun _ => rfl) fun _ => rfl) fun _ => rfl) rfl (elen_cons (elen_cons (elen_cons elen_nil))) (fun _ => rfl) fun _ _ => rfl) fun _ => rfl) (dss_cons (own1 := []) (ds_if (dt_cmp oj_ne (DE.b (de_tup (da_cons (de_callB cj_min1 (by decide +kernel) (g.blt _ (by decide +kernel)) (by decide +kernel) (dab_cons (DE.b (DF.e (df_lcK (i := 7) (ownl := [(PySem.Str.ofString "own", 8)]) (by decide +kernel) (by decide +kernel) (by decide +kernel) (by decide +kernel) (dg_name (i := 8) (by decide +kernel) (by decide +kernel) (by decide +kernel)) dts_nil (de_ix ij_ix (DE.b (de_ix ij_ix (db_var (i := 7) (by decide +kernel)) (db_var (i := 8) (by decide +kernel)) fun _ _ => rfl)) (DE.b de_int) fun _ _ => rfl) fun _ _ => rfl))) dab_nil fun _ => rfl) (fun _ => rfl) fun _ _ => rfl) (da_cons (de_callB cj_max1 (by decide +kernel) (g.blt _ (by decide +kernel)) (by decide +kernel) (dab_cons (DE.b (DF.e (df_lcK (i := 7) (ownl := [(PySem.Str.ofString "own", 8)]) (by decide +kernel) (by decide +kernel) (by decide +kernel) (by decide +kernel) (dg_name (i := 8) (by decide +kernel) (by decide +kernel) (by decide +kernel)) dts_nil (de_ix ij_ix (DE.b (de_ix ij_ix (db_var (i := 7) (by decide +kernel)) (db_var (i := 8) (by decide +kernel)) fun _ _ => rfl)) (DE.b de_int) fun _ _ => rfl) fun _ _ => rfl))) dab_nil fun _ => rfl) (fun _ => rfl) fun _ _ => rfl) da_nil fun _ => rfl) fun _ => rfl))) (DE.b (de_ix ij_ix (db_var (i := 6) (by decide +kernel)) (DE.b de_int) fun _ _ => rfl)) rfl) (dss_one (own1 := []) (own' := []) (ds_ret de_bl) (by decide +kernel)) (dss_nil (own' := []) (by decide +kernel))) (dss_cons (own1 := []) (ds_set (i := 8) (by decide +kernel) (by decide +kernel) (de_ix ij_ix (db_var (i := 4) (by decide +kernel)) (DE.b (de_call h_law_next (by decide +kernel) (by decide +kernel) (da_cons (de_var (i := 0) (by decide +kernel) (by decide +kernel)) (da_cons (de_callB cj_len (by decide +kernel) (g.blt _ (by decide +kernel)) (by decide +kernel) (dab_cons (db_var (i := 4) (by decide +kernel)) dab_nil fun _ => rfl) (fun _ => rfl) fun _ _ => rfl) da_nil fun _ => rfl) fun _ => rfl) rfl (elen_cons (elen_cons elen_nil)) (fun _ => rfl) fun _ _ => rfl)) fun _ _ => rfl) fun _ => rfl) (dss_cons (own1 := []) (ds_if (dt_not (dt_val (de_call h_law_same (by decide +kernel) (by decide +kernel) (da_cons (DF.e (df_lst (da_cons (de_call h_beats_of (by decide +kernel) (by decide +kernel) (da_cons (de_var (i := 8) (by decide +kernel) (by decide +kernel)) da_nil fun _ => rfl) rfl (elen_cons elen_nil) (fun _ => rfl) fun _ _ => rfl) (da_cons (de_call h_deeds_in (by decide +kernel) (by decide +kernel) (da_cons (de_var (i := 8) (by decide +kernel) (by decide +kernel)) da_nil fun _ => rfl) rfl (elen_cons elen_nil) (fun _ => rfl) fun _ _ => rfl) (da_cons (de_call h_state_behind (by decide +kernel) (by decide +kernel) (da_cons (de_var (i := 2) (by decide +kernel) (by decide +kernel)) (da_cons (de_var (i := 8) (by decide +kernel) (by decide +kernel)) da_nil fun _ => rfl) fun _ => rfl) rfl (elen_cons (elen_cons elen_nil)) (fun _ => rfl) fun _ _ => rfl) da_nil fun _ => rfl) fun _ => rfl) fun _ => rfl))) (da_cons (DF.e (df_lst (da_cons (de_callB cj_sum (by decide +kernel) (g.blt _ (by decide +kernel)) (by decide +kernel) (dab_cons (DE.b (DF.e (df_lc (ownl := [(PySem.Str.ofString "step", 13)]) (by decide +kernel) (by decide +kernel) (di_seq (de_var (i := 8) (by decide +kernel) (by decide +kernel))) (dg_name (i := 13) (by decide +kernel) (by decide +kernel) (by decide +kernel)) dts_nil (de_ix ij_ix (db_var (i := 13) (by decide +kernel)) (DE.b de_int) fun _ _ => rfl) fun _ _ => rfl))) dab_nil fun _ => rfl) (fun _ => rfl) fun _ _ => rfl) (da_cons (de_callTy cj_tup (by decide +kernel) (g.blt _ (by decide +kernel)) (by decide +kernel) (dab_cons (db_var (i := 3) (by decide +kernel)) dab_nil fun _ => rfl) (fun _ => rfl) fun _ _ => rfl) (da_cons (de_if (dt_cmp oj_ne (db_var (i := 8) (by decide +kernel)) (DE.b (de_tup da_nil)) rfl) (de_ix ij_ix (DE.b (de_ix ij_ix (db_var (i := 8) (by decide +kernel)) (DE.b (de_neg (DE.b de_int))) fun _ _ => rfl)) (DE.b de_int) fun _ _ => rfl) (de_var (i := 2) (by decide +kernel) (by decide +kernel))) da_nil fun _ => rfl) fun _ => rfl) fun _ => rfl))) da_nil fun _ => rfl) fun _ => rfl) rfl (elen_cons (elen_cons elen_nil)) (fun _ => rfl) fun _ _ => rfl) fun _ _ => rfl)) (dss_one (own1 := []) (own' := []) (ds_ret de_bl) (by decide +kernel)) (dss_nil (own' := []) (by decide +kernel))) (dss_cons (own1 := []) (ds_set (i := 9) (by decide +kernel) (by decide +kernel) (de_call h_law_next (by decide +kernel) (by decide +kernel) (da_cons (de_var (i := 0) (by decide +kernel) (by decide +kernel)) (da_cons (de_bin oj_add (DE.b (de_callB cj_len (by decide +kernel) (g.blt _ (by decide +kernel)) (by decide +kernel) (dab_cons (db_var (i := 8) (by decide +kernel)) dab_nil fun _ => rfl) (fun _ => rfl) fun _ _ => rfl)) (DE.b de_int)) da_nil fun _ => rfl) fun _ => rfl) rfl (elen_cons (elen_cons elen_nil)) (fun _ => rfl) fun _ _ => rfl) fun _ => rfl) (dss_cons (own1 := [10]) (ds_setF (i := 10) (own' := [10]) (by decide +kernel) (by decide +kernel) (df_lst (da_cons (de_var (i := 8) (by decide +kernel) (by decide +kernel)) (da_cons (de_bin oj_add (DE.b (de_cut (db_var (i := 8) (by decide +kernel)) do_none (do_some (de_var (i := 9) (by decide +kernel) (by decide +kernel))))) (DE.b (de_cut (db_var (i := 8) (by decide +kernel)) (do_some (de_bin oj_add (db_var (i := 9) (by decide +kernel)) (DE.b de_int))) do_none))) (da_cons (de_revT (db_var (i := 8) (by decide +kernel))) (da_cons (de_bin oj_add (db_var (i := 8) (by decide +kernel)) (DE.b (de_tup (da_cons (de_tup (da_cons (de_ix ij_ix (db_var (i := 1) (by decide +kernel)) (DE.b de_int) fun _ _ => rfl) (da_cons de_int (da_cons de_int da_nil fun _ => rfl) fun _ => rfl) fun _ => rfl)) da_nil fun _ => rfl)))) (da_cons (de_bin oj_add (db_var (i := 8) (by decide +kernel)) (DE.b (de_tup (da_cons (de_tup (da_cons de_int (da_cons de_int (da_cons de_int da_nil fun _ => rfl) fun _ => rfl) fun _ => rfl)) da_nil fun _ => rfl)))) (da_cons (de_bin oj_add (db_var (i := 8) (by decide +kernel)) (DE.b (de_tup (da_cons (de_tup (da_cons de_int (da_cons de_int da_nil fun _ => rfl) fun _ => rfl)) da_nil fun _ => rfl)))) (da_cons (de_bin oj_add (db_var (i := 8) (by decide +kernel)) (DE.b (de_tup (da_cons (de_tup (da_cons (de_neg (DE.b de_int)) (da_cons de_int (da_cons de_int da_nil fun _ => rfl) fun _ => rfl) fun _ => rfl)) da_nil fun _ => rfl)))) da_nil fun _ => rfl) fun _ => rfl) fun _ => rfl) fun _ => rfl) fun _ => rfl) fun _ => rfl) fun _ => rfl)) fun _ => rfl) (dss_cons (own1 := [10]) (ds_for (vs := [11]) (di_rng1 (by decide +kernel) (g.blt _ (by decide +kernel)) (de_ix ij_ix (db_var (i := 1) (by decide +kernel)) (DE.b de_int) fun _ _ => rfl) fun _ => rfl) (dg_name (i := 11) (by decide +kernel) (by decide +kernel) (by decide +kernel)) (by decide +kernel) (dss_one (own1 := [10]) (own' := [10]) (ds_app (i := 10) (by decide +kernel) (by decide +kernel) (de_bin oj_add (db_var (i := 8) (by decide +kernel)) (DE.b (de_tup (da_cons (de_tup (da_cons (de_var (i := 11) (by decide +kernel) (by decide +kernel)) (da_cons (de_call h_law_next (by decide +kernel) (by decide +kernel) (da_cons (de_var (i := 0) (by decide +kernel) (by decide +kernel)) (da_cons de_int da_nil fun _ => rfl) fun _ => rfl) rfl (elen_cons (elen_cons elen_nil)) (fun _ => rfl) fun _ _ => rfl) (da_cons (de_call h_law_next (by decide +kernel) (by decide +kernel) (da_cons (de_var (i := 0) (by decide +kernel) (by decide +kernel)) (da_cons (de_callB cj_len (by decide +kernel) (g.blt _ (by decide +kernel)) (by decide +kernel) (dab_cons (DE.b (de_ix ij_ix (db_var (i := 1) (by decide +kernel)) (DE.b de_int) fun _ _ => rfl)) dab_nil fun _ => rfl) (fun _ => rfl) fun _ _ => rfl) da_nil fun _ => rfl) fun _ => rfl) rfl (elen_cons (elen_cons elen_nil)) (fun _ => rfl) fun _ _ => rfl) da_nil fun _ => rfl) fun _ => rfl) fun _ => rfl)) da_nil fun _ => rfl)))) (fun _ => rfl) (fun _ => rfl) rfl (fun _ => rfl) (fun _ => rfl) fun _ => rfl) (by decide +kernel)) fun _ _ => rfl) (dss_cons (own1 := [10]) (ds_if (dt_cmp oj_lt (db_var (i := 9) (by decide +kernel)) (DE.b (de_callB cj_len (by decide +kernel) (g.blt _ (by decide +kernel)) (by decide +kernel) (dab_cons (db_var (i := 8) (by decide +kernel)) dab_nil fun _ => rfl) (fun _ => rfl) fun _ _ => rfl)) rfl) (dss_one (own1 := [10]) (own' := [10]) (ds_app (i := 10) (by decide +kernel) (by decide +kernel) (de_bin oj_add (DE.b (de_bin oj_add (DE.b (de_cut (db_var (i := 8) (by decide +kernel)) do_none (do_some (de_var (i := 9) (by decide +kernel) (by decide +kernel))))) (DE.b (de_tup (da_cons (de_tup (da_cons (de_ix ij_ix (DE.b (de_ix ij_ix (db_var (i := 8) (by decide +kernel)) (db_var (i := 9) (by decide +kernel)) fun _ _ => rfl)) (DE.b de_int) fun _ _ => rfl) (da_cons (de_bin oj_add (DE.b (de_ix ij_ix (DE.b (de_ix ij_ix (db_var (i := 8) (by decide +kernel)) (db_var (i := 9) (by decide +kernel)) fun _ _ => rfl)) (DE.b de_int) fun _ _ => rfl)) (DE.b de_int)) (da_cons (de_ix ij_ix (DE.b (de_ix ij_ix (db_var (i := 8) (by decide +kernel)) (db_var (i := 9) (by decide +kernel)) fun _ _ => rfl)) (DE.b de_int) fun _ _ => rfl) da_nil fun _ => rfl) fun _ => rfl) fun _ => rfl)) da_nil fun _ => rfl))))) (DE.b (de_cut (db_var (i := 8) (by decide +kernel)) (do_some (de_bin oj_add (db_var (i := 9) (by decide +kernel)) (DE.b de_int))) do_none))) (fun _ => rfl) (fun _ => rfl) rfl (fun _ => rfl) (fun _ => rfl) fun _ => rfl) (by decide +kernel)) (dss_nil (own' := [10]) (by decide +kernel))) (dss_one (own1 := []) (own' := []) (ds_drop (own1 := []) (by decide +kernel) (ds_ret (de_cmp oj_eq (DE.b (DF.e (df_lc (ownl := [(PySem.Str.ofString "run", 12)]) (by decide +kernel) (by decide +kernel) (di_seq (de_var (i := 10) (by decide +kernel) (by decide +kernel))) (dg_name (i := 12) (by decide +kernel) (by decide +kernel) (by decide +kernel)) dts_nil (de_call h_law_told (by decide +kernel) (by decide +kernel) (da_cons (de_defR (h_check_run) (by decide +kernel)) (da_cons (DF.e (df_lst (da_cons (de_var (i := 1) (by decide +kernel) (by decide +kernel)) (da_cons (de_var (i := 2) (by decide +kernel) (by decide +kernel)) (da_cons (de_var (i := 12) (by decide +kernel) (by decide +kernel)) da_nil fun _ => rfl) fun _ => rfl) fun _ => rfl))) da_nil fun _ => rfl) fun _ => rfl) rfl (elen_cons (elen_cons elen_nil)) (fun _ => rfl) fun _ _ => rfl) fun _ _ => rfl))) (DE.b (DF.e (df_lc (ownl := [(PySem.Str.ofString "run", 12)]) (by decide +kernel) (by decide +kernel) (di_seq (de_var (i := 10) (by decide +kernel) (by decide +kernel))) (dg_name (i := 12) (by decide +kernel) (by decide +kernel) (by decide +kernel)) dts_nil (de_ix ij_ix (DE.b (DF.e (df_lst (da_cons de_str (da_cons (de_tup (da_cons de_str (da_cons de_bl da_nil fun _ => rfl) fun _ => rfl)) da_nil fun _ => rfl) fun _ => rfl)))) (DE.b (de_callTy cj_int (by decide +kernel) (g.blt _ (by decide +kernel)) (by decide +kernel) (dab_cons (DE.b (de_call h_law_is_run (by decide +kernel) (by decide +kernel) (da_cons (de_var (i := 1) (by decide +kernel) (by decide +kernel)) (da_cons (de_var (i := 2) (by decide +kernel) (by decide +kernel)) (da_cons (de_var (i := 12) (by decide +kernel) (by decide +kernel)) da_nil fun _ => rfl) fun _ => rfl) fun _ => rfl) rfl (elen_cons (elen_cons (elen_cons elen_nil))) (fun _ => rfl) fun _ _ => rfl)) dab_nil fun _ => rfl) (fun _ => rfl) fun _ _ => rfl)) fun _ _ => rfl) fun _ _ => rfl))) rfl))) (by decide +kernel))))))))))))))
theorem d_law_errors_fit {C : Cn} (g : GF C) (h_runs : FnR C 5 "runs" 3 φ_runs) (h_check_run : FnR C 4 "check_run" 3 φ_check_run) (h_extremes : FnR C 5 "extremes" 3 φ_extremes) (h_law_next : FnR C 1 "_law_next" 2 (nextD C.ns)) (h_law_told : FnR C 6 "_law_told" 2 φ_law_told) (h_law_all : FnR C 1 "_law_all" 2 φ_law_all) : DSs C 6 ⟨defScope s_law_errors_fit, defScope s_law_errors_fit, true⟩ n_law_errors_fit [] [] [] (defBody s_law_errors_fit) (m_law_errors_fit C.ns) := by
  unfold m_law_errors_fit
  exact (dss_cons (own1 := []) (ds_asg (vs := [2, 3]) (de_ix ij_ix (DE.b (DF.e (df_lst (da_cons (de_tup (da_cons (de_tup (da_cons de_int (da_cons (de_tup da_nil) da_nil fun _ => rfl) fun _ => rfl)) (da_cons de_str da_nil fun _ => rfl) fun _ => rfl)) (da_cons (de_tup (da_cons (de_tup (da_cons de_int (da_cons (de_tup da_nil) da_nil fun _ => rfl) fun _ => rfl)) (da_cons de_str da_nil fun _ => rfl) fun _ => rfl)) (da_cons (de_tup (da_cons (de_tup (da_cons de_int (da_cons (de_tup (da_cons (de_tup (da_cons (de_tup (da_cons (de_tup (da_cons de_int (da_cons de_int da_nil fun _ => rfl) fun _ => rfl)) da_nil fun _ => rfl)) da_nil fun _ => rfl)) da_nil fun _ => rfl)) da_nil fun _ => rfl) fun _ => rfl)) (da_cons de_str da_nil fun _ => rfl) fun _ => rfl)) (da_cons (de_tup (da_cons (de_tup (da_cons de_int (da_cons (de_tup (da_cons (de_tup (da_cons (de_tup (da_cons (de_tup (da_cons de_int (da_cons de_int da_nil fun _ => rfl) fun _ => rfl)) da_nil fun _ => rfl)) da_nil fun _ => rfl)) da_nil fun _ => rfl)) da_nil fun _ => rfl) fun _ => rfl)) (da_cons de_str da_nil fun _ => rfl) fun _ => rfl)) da_nil fun _ => rfl) fun _ => rfl) fun _ => rfl) fun _ => rfl)))) (DE.b (de_call h_law_next (by decide +kernel) (by decide +kernel) (da_cons (de_var (i := 0) (by decide +kernel) (by decide +kernel)) (da_cons de_int da_nil fun _ => rfl) fun _ => rfl) rfl (elen_cons (elen_cons elen_nil)) (fun _ => rfl) fun _ _ => rfl)) fun _ _ => rfl) (dg_tup (dgs_cons (dg_name (i := 2) (by decide +kernel) (by decide +kernel) (by decide +kernel)) (dgs_cons (dg_name (i := 3) (by decide +kernel) (by decide +kernel) (by decide +kernel)) dgs_nil (by decide +kernel) fun _ => rfl) (by decide +kernel) fun _ => rfl) rfl (fun _ => rfl) fun _ => rfl) (by decide +kernel) (fun _ => rfl) (fun _ _ _ => rfl) fun _ => rfl) (dss_cons (own1 := []) (ds_setLc (i := 4) (own' := []) (ownl := [(PySem.Str.ofString "own", 8)]) (by decide +kernel) (by decide +kernel) (by decide +kernel) (by decide +kernel) (di_seq (DF.e (df_lst (da_cons (de_defR (h_runs) (by decide +kernel)) (da_cons (de_defR (h_extremes) (by decide +kernel)) (da_cons (de_defR (h_check_run) (by decide +kernel)) da_nil fun _ => rfl) fun _ => rfl) fun _ => rfl)))) (dg_name (i := 8) (by decide +kernel) (by decide +kernel) (by decide +kernel)) dts_nil (de_call h_law_told (by decide +kernel) (by decide +kernel) (da_cons (de_var (i := 8) (by decide +kernel) (by decide +kernel)) (da_cons (DF.e (df_lst (da_cons (de_var (i := 2) (by decide +kernel) (by decide +kernel)) (da_cons (de_neg (DE.b de_int)) (da_cons (de_tup (da_cons de_int da_nil fun _ => rfl)) da_nil fun _ => rfl) fun _ => rfl) fun _ => rfl))) da_nil fun _ => rfl) fun _ => rfl) rfl (elen_cons (elen_cons elen_nil)) (fun _ => rfl) fun _ _ => rfl) fun _ _ => rfl) (dss_cons (own1 := []) (ds_set (i := 5) (by decide +kernel) (by decide +kernel) (de_callB cj_len (by decide +kernel) (g.blt _ (by decide +kernel)) (by decide +kernel) (dab_cons (DE.b (de_ix ij_ix (db_var (i := 1) (by decide +kernel)) (DE.b de_int) fun _ _ => rfl)) dab_nil fun _ => rfl) (fun _ => rfl) fun _ _ => rfl) fun _ => rfl) (dss_cons (own1 := []) (ds_set (i := 6) (by decide +kernel) (by decide +kernel) (DF.e (df_bin oj_cat (DE.b (DF.e (df_lc (ownl := [(PySem.Str.ofString "own", 8), (PySem.Str.ofString "spot", 9)]) (by decide +kernel) (by decide +kernel) (di_seq (de_call h_law_all (by decide +kernel) (by decide +kernel) (da_cons (DF.e (df_lst (da_cons (de_defR (h_runs) (by decide +kernel)) (da_cons (de_defR (h_extremes) (by decide +kernel)) da_nil fun _ => rfl) fun _ => rfl))) (da_cons (DF.e (df_lst (da_cons (de_neg (DE.b de_int)) (da_cons (de_var (i := 5) (by decide +kernel) (by decide +kernel)) da_nil fun _ => rfl) fun _ => rfl))) da_nil fun _ => rfl) fun _ => rfl) rfl (elen_cons (elen_cons elen_nil)) (fun _ => rfl) fun _ _ => rfl)) (dg_tup (dgs_cons (dg_name (i := 8) (by decide +kernel) (by decide +kernel) (by decide +kernel)) (dgs_cons (dg_name (i := 9) (by decide +kernel) (by decide +kernel) (by decide +kernel)) dgs_nil (by decide +kernel) fun _ => rfl) (by decide +kernel) fun _ => rfl) rfl (fun _ => rfl) fun _ => rfl) dts_nil (de_call h_law_told (by decide +kernel) (by decide +kernel) (da_cons (de_var (i := 8) (by decide +kernel) (by decide +kernel)) (da_cons (DF.e (df_lst (da_cons (de_var (i := 1) (by decide +kernel) (by decide +kernel)) (da_cons (de_var (i := 9) (by decide +kernel) (by decide +kernel)) (da_cons (de_bin oj_mul (DE.b (de_tup (da_cons de_int da_nil fun _ => rfl))) (DE.b de_int)) da_nil fun _ => rfl) fun _ => rfl) fun _ => rfl))) da_nil fun _ => rfl) fun _ => rfl) rfl (elen_cons (elen_cons elen_nil)) (fun _ => rfl) fun _ _ => rfl) fun _ _ => rfl))) (DE.b (DF.e (df_lc (ownl := [(PySem.Str.ofString "spot", 9)]) (by decide +kernel) (by decide +kernel) (di_seq (DF.e (df_lst (da_cons (de_neg (DE.b de_int)) (da_cons (de_var (i := 5) (by decide +kernel) (by decide +kernel)) da_nil fun _ => rfl) fun _ => rfl)))) (dg_name (i := 9) (by decide +kernel) (by decide +kernel) (by decide +kernel)) dts_nil (de_call h_law_told (by decide +kernel) (by decide +kernel) (da_cons (de_defR (h_check_run) (by decide +kernel)) (da_cons (DF.e (df_lst (da_cons (de_var (i := 1) (by decide +kernel) (by decide +kernel)) (da_cons (de_var (i := 9) (by decide +kernel) (by decide +kernel)) (da_cons (de_tup da_nil) da_nil fun _ => rfl) fun _ => rfl) fun _ => rfl))) da_nil fun _ => rfl) fun _ => rfl) rfl (elen_cons (elen_cons elen_nil)) (fun _ => rfl) fun _ _ => rfl) fun _ _ => rfl))))) fun _ => rfl) (dss_cons (own1 := []) (ds_set (i := 6) (by decide +kernel) (by decide +kernel) (DF.e (df_bin oj_cat (db_var (i := 6) (by decide +kernel)) (DE.b (DF.e (df_lc (ownl := [(PySem.Str.ofString "own", 8), (PySem.Str.ofString "deed", 10)]) (by decide +kernel) (by decide +kernel) (di_seq (de_call h_law_all (by decide +kernel) (by decide +kernel) (da_cons (DF.e (df_lst (da_cons (de_defR (h_runs) (by decide +kernel)) (da_cons (de_defR (h_extremes) (by decide +kernel)) da_nil fun _ => rfl) fun _ => rfl))) (da_cons (DF.e (df_lst (da_cons (de_neg (DE.b de_int)) (da_cons (de_ix ij_ix (db_var (i := 1) (by decide +kernel)) (DE.b de_int) fun _ _ => rfl) da_nil fun _ => rfl) fun _ => rfl))) da_nil fun _ => rfl) fun _ => rfl) rfl (elen_cons (elen_cons elen_nil)) (fun _ => rfl) fun _ _ => rfl)) (dg_tup (dgs_cons (dg_name (i := 8) (by decide +kernel) (by decide +kernel) (by decide +kernel)) (dgs_cons (dg_name (i := 10) (by decide +kernel) (by decide +kernel) (by decide +kernel)) dgs_nil (by decide +kernel) fun _ => rfl) (by decide +kernel) fun _ => rfl) rfl (fun _ => rfl) fun _ => rfl) dts_nil (de_call h_law_told (by decide +kernel) (by decide +kernel) (da_cons (de_var (i := 8) (by decide +kernel) (by decide +kernel)) (da_cons (DF.e (df_lst (da_cons (de_var (i := 1) (by decide +kernel) (by decide +kernel)) (da_cons de_int (da_cons (de_tup (da_cons (de_var (i := 10) (by decide +kernel) (by decide +kernel)) da_nil fun _ => rfl)) da_nil fun _ => rfl) fun _ => rfl) fun _ => rfl))) da_nil fun _ => rfl) fun _ => rfl) rfl (elen_cons (elen_cons elen_nil)) (fun _ => rfl) fun _ _ => rfl) fun _ _ => rfl))))) fun _ => rfl) (dss_cons (own1 := []) (ds_setLc (i := 7) (own' := []) (ownl := [(PySem.Str.ofString "own", 8)]) (by decide +kernel) (by decide +kernel) (by decide +kernel) (by decide +kernel) (di_seq (DF.e (df_lst (da_cons (de_defR (h_runs) (by decide +kernel)) (da_cons (de_defR (h_extremes) (by decide +kernel)) da_nil fun _ => rfl) fun _ => rfl)))) (dg_name (i := 8) (by decide +kernel) (by decide +kernel) (by decide +kernel)) dts_nil (de_call h_law_told (by decide +kernel) (by decide +kernel) (da_cons (de_var (i := 8) (by decide +kernel) (by decide +kernel)) (da_cons (DF.e (df_lst (da_cons (de_var (i := 1) (by decide +kernel) (by decide +kernel)) (da_cons de_int (da_cons (de_bin oj_mul (DE.b (de_tup (da_cons de_int da_nil fun _ => rfl))) (DE.b de_int)) da_nil fun _ => rfl) fun _ => rfl) fun _ => rfl))) da_nil fun _ => rfl) fun _ => rfl) rfl (elen_cons (elen_cons elen_nil)) (fun _ => rfl) fun _ _ => rfl) fun _ _ => rfl) (dss_one (own1 := []) (own' := []) (ds_ret (de_and (de_cmp oj_eq (db_var (i := 4) (by decide +kernel)) (DE.b (de_bin oj_mul (DE.b (DF.e (df_lst (da_cons (de_var (i := 3) (by decide +kernel) (by decide +kernel)) da_nil fun _ => rfl)))) (DE.b de_int))) rfl) (de_and (de_cmp oj_eq (db_var (i := 6) (by decide +kernel)) (DE.b (de_bin oj_mul (DE.b (DF.e (df_lst (da_cons de_str da_nil fun _ => rfl)))) (DE.b de_int))) rfl) (de_one (de_cmp oj_eq (db_var (i := 7) (by decide +kernel)) (DE.b (de_bin oj_mul (DE.b (DF.e (df_lst (da_cons de_str da_nil fun _ => rfl)))) (DE.b de_int))) rfl))))) (by decide +kernel))))))))
theorem d_law {C : Cn} (g : GF C) (h_runs : FnR C 5 "runs" 3 φ_runs) (h_beats_of : FnR C 1 "beats_of" 1 φ_beats_of) (h_extremes : FnR C 5 "extremes" 3 φ_extremes) (h_law_next : FnR C 1 "_law_next" 2 (nextD C.ns)) (h_law_told : FnR C 6 "_law_told" 2 φ_law_told) (h_law_machine : FnR C 2 "_law_machine" 4 (φ_law_machine C.ns)) (h_law_deeds_fit : FnR C 7 "_law_deeds_fit" 4 (φ_law_deeds_fit C.ns)) (h_law_errors_fit : FnR C 7 "_law_errors_fit" 2 (φ_law_errors_fit C.ns)) : DSs C 7 ⟨defScope s_law, defScope s_law, true⟩ n_law [] [] [] (defBody s_law).tail (m_law C.ns) := by
  unfold m_law
  exact (dss_cons (own1 := []) (ds_asg (vs := [2, 3]) (de_tup (da_cons (de_bin oj_add (DE.b de_int) (DE.b (de_call h_law_next (by decide +kernel) (by decide +kernel) (da_cons (de_var (i := 1) (by decide +kernel) (by decide +kernel)) (da_cons de_int da_nil fun _ => rfl) fun _ => rfl) rfl (elen_cons (elen_cons elen_nil)) (fun _ => rfl) fun _ _ => rfl))) (da_cons (de_call h_law_next (by decide +kernel) (by decide +kernel) (da_cons (de_var (i := 1) (by decide +kernel) (by decide +kernel)) (da_cons de_int da_nil fun _ => rfl) fun _ => rfl) rfl (elen_cons (elen_cons elen_nil)) (fun _ => rfl) fun _ _ => rfl) da_nil fun _ => rfl) fun _ => rfl)) (dg_tup (dgs_cons (dg_name (i := 2) (by decide +kernel) (by decide +kernel) (by decide +kernel)) (dgs_cons (dg_name (i := 3) (by decide +kernel) (by decide +kernel) (by decide +kernel)) dgs_nil (by decide +kernel) fun _ => rfl) (by decide +kernel) fun _ => rfl) rfl (fun _ => rfl) fun _ => rfl) (by decide +kernel) (fun _ => rfl) (by intro env h hb; unfold swappedStores Env.kindOf; rw [h, hb]; rfl) fun _ => rfl) (dss_cons (own1 := []) (ds_set (i := 4) (by decide +kernel) (by decide +kernel) (de_tup (da_cons de_int (da_cons (de_callTy cj_tup (by decide +kernel) (g.blt _ (by decide +kernel)) (by decide +kernel) (dab_cons (DE.b (DF.e (df_lc (ownl := [(PySem.Str.ofString "k", 10)]) (by decide +kernel) (by decide +kernel) (di_rng1 (by decide +kernel) (g.blt _ (by decide +kernel)) (de_var (i := 2) (by decide +kernel) (by decide +kernel)) fun _ => rfl) (dg_name (i := 10) (by decide +kernel) (by decide +kernel) (by decide +kernel)) dts_nil (de_tup (da_cons (de_tup (da_cons (de_tup (da_cons (de_var (i := 10) (by decide +kernel) (by decide +kernel)) (da_cons (de_bin oj_mod (DE.b (de_callTy cj_int (by decide +kernel) (g.blt _ (by decide +kernel)) (by decide +kernel) (dab_cons (DE.b (de_bin oj_add (db_var (i := 10) (by decide +kernel)) (DE.b de_int))) dab_nil fun _ => rfl) (fun _ => rfl) fun _ _ => rfl)) (db_var (i := 2) (by decide +kernel))) da_nil fun _ => rfl) fun _ => rfl)) da_nil fun _ => rfl)) da_nil fun _ => rfl)) fun _ _ => rfl))) dab_nil fun _ => rfl) (fun _ => rfl) fun _ _ => rfl) da_nil fun _ => rfl) fun _ => rfl)) fun _ => rfl) (dss_cons (own1 := []) (ds_set (i := 5) (by decide +kernel) (by decide +kernel) (de_callB cj_sum (by decide +kernel) (g.blt _ (by decide +kernel)) (by decide +kernel) (dab_cons (DE.b (DF.e (df_lc (ownl := [(PySem.Str.ofString "k", 10)]) (by decide +kernel) (by decide +kernel) (di_rng1 (by decide +kernel) (g.blt _ (by decide +kernel)) (de_var (i := 3) (by decide +kernel) (by decide +kernel)) fun _ => rfl) (dg_name (i := 10) (by decide +kernel) (by decide +kernel) (by decide +kernel)) dts_nil (de_bin oj_mod (DE.b (de_callTy cj_int (by decide +kernel) (g.blt _ (by decide +kernel)) (by decide +kernel) (dab_cons (db_var (i := 10) (by decide +kernel)) dab_nil fun _ => rfl) (fun _ => rfl) fun _ _ => rfl)) (db_var (i := 2) (by decide +kernel))) fun _ _ => rfl))) dab_nil fun _ => rfl) (fun _ => rfl) fun _ _ => rfl) fun _ => rfl) (dss_cons (own1 := []) (ds_set (i := 6) (by decide +kernel) (by decide +kernel) (de_tup (da_cons de_int (da_cons (de_tup (da_cons (de_tup (da_cons (de_tup (da_cons (de_tup (da_cons de_int (da_cons de_int da_nil fun _ => rfl) fun _ => rfl)) (da_cons (de_tup (da_cons de_int (da_cons de_int da_nil fun _ => rfl) fun _ => rfl)) da_nil fun _ => rfl) fun _ => rfl)) da_nil fun _ => rfl)) da_nil fun _ => rfl)) da_nil fun _ => rfl) fun _ => rfl)) fun _ => rfl) (dss_cons (own1 := []) (ds_if (DW.t (dw_or (dt_cmp oj_ne (DE.b (de_call h_extremes (by decide +kernel) (by decide +kernel) (da_cons (de_var (i := 4) (by decide +kernel) (by decide +kernel)) (da_cons de_int (da_cons (de_bin oj_mul (DE.b (de_tup (da_cons de_int da_nil fun _ => rfl))) (db_var (i := 3) (by decide +kernel))) da_nil fun _ => rfl) fun _ => rfl) fun _ => rfl) rfl (elen_cons (elen_cons (elen_cons elen_nil))) (fun _ => rfl) fun _ _ => rfl)) (DE.b (de_tup (da_cons (de_var (i := 5) (by decide +kernel) (by decide +kernel)) (da_cons (de_var (i := 5) (by decide +kernel) (by decide +kernel)) da_nil fun _ => rfl) fun _ => rfl))) rfl) (dw_or (dt_cmp oj_ne (DE.b (de_call h_extremes (by decide +kernel) (by decide +kernel) (da_cons (de_var (i := 6) (by decide +kernel) (by decide +kernel)) (da_cons de_int (da_cons (de_bin oj_mul (DE.b (de_tup (da_cons de_int da_nil fun _ => rfl))) (db_var (i := 3) (by decide +kernel))) da_nil fun _ => rfl) fun _ => rfl) fun _ => rfl) rfl (elen_cons (elen_cons (elen_cons elen_nil))) (fun _ => rfl) fun _ _ => rfl)) (DE.b (de_tup (da_cons (de_var (i := 3) (by decide +kernel) (by decide +kernel)) (da_cons (de_bin oj_mul (DE.b de_int) (db_var (i := 3) (by decide +kernel))) da_nil fun _ => rfl) fun _ => rfl))) rfl) (dw_or1 (dt_cmp oj_ne (DE.b (de_call h_beats_of (by decide +kernel) (by decide +kernel) (da_cons (de_ix ij_ix (DE.b (de_call h_runs (by decide +kernel) (by decide +kernel) (da_cons (de_var (i := 4) (by decide +kernel) (by decide +kernel)) (da_cons de_int (da_cons (de_bin oj_mul (DE.b (de_tup (da_cons de_int da_nil fun _ => rfl))) (db_var (i := 3) (by decide +kernel))) da_nil fun _ => rfl) fun _ => rfl) fun _ => rfl) rfl (elen_cons (elen_cons (elen_cons elen_nil))) (fun _ => rfl) fun _ _ => rfl)) (DE.b de_int) fun _ _ => rfl) da_nil fun _ => rfl) rfl (elen_cons elen_nil) (fun _ => rfl) fun _ _ => rfl)) (db_var (i := 5) (by decide +kernel)) rfl))))) (dss_one (own1 := []) (own' := []) (ds_ret de_bl) (by decide +kernel)) (dss_nil (own' := []) (by decide +kernel))) (dss_cons (own1 := []) (ds_if (DW.t (dw_or (dt_cmp oj_ne (DE.b (DF.e (df_lst (da_cons (de_call h_law_told (by decide +kernel) (by decide +kernel) (da_cons (de_defR (h_runs) (by decide +kernel)) (da_cons (DF.e (df_lst (da_cons (de_var (i := 6) (by decide +kernel) (by decide +kernel)) (da_cons de_int (da_cons (de_bin oj_mul (DE.b (de_tup (da_cons de_int da_nil fun _ => rfl))) (DE.b de_int)) da_nil fun _ => rfl) fun _ => rfl) fun _ => rfl))) da_nil fun _ => rfl) fun _ => rfl) rfl (elen_cons (elen_cons elen_nil)) (fun _ => rfl) fun _ _ => rfl) (da_cons (de_callB cj_len (by decide +kernel) (g.blt _ (by decide +kernel)) (by decide +kernel) (dab_cons (DE.b (de_call h_runs (by decide +kernel) (by decide +kernel) (da_cons (de_var (i := 6) (by decide +kernel) (by decide +kernel)) (da_cons de_int (da_cons (de_bin oj_mul (DE.b (de_tup (da_cons de_int da_nil fun _ => rfl))) (DE.b de_int)) da_nil fun _ => rfl) fun _ => rfl) fun _ => rfl) rfl (elen_cons (elen_cons (elen_cons elen_nil))) (fun _ => rfl) fun _ _ => rfl)) dab_nil fun _ => rfl) (fun _ => rfl) fun _ _ => rfl) da_nil fun _ => rfl) fun _ => rfl)))) (DE.b (DF.e (df_lst (da_cons de_str (da_cons de_int da_nil fun _ => rfl) fun _ => rfl)))) rfl) (dw_or1 (dt_cmp oj_ne (DE.b (de_numE g.k_MAX_RUNS (by decide +kernel))) (DE.b de_int) rfl)))) (dss_one (own1 := []) (own' := []) (ds_ret de_bl) (by decide +kernel)) (dss_nil (own' := []) (by decide +kernel))) (dss_cons (own1 := []) (ds_for (vs := [7]) (di_rng1 (by decide +kernel) (g.blt _ (by decide +kernel)) de_int fun _ => rfl) (dg_name (i := 7) (by decide +kernel) (by decide +kernel) (by decide +kernel)) (by decide +kernel) (dss_cons (own1 := []) (ds_set (i := 8) (by decide +kernel) (by decide +kernel) (de_call h_law_machine (by decide +kernel) (by decide +kernel) (da_cons (de_var (i := 1) (by decide +kernel) (by decide +kernel)) (da_cons (de_bin oj_add (DE.b de_int) (DE.b (de_call h_law_next (by decide +kernel) (by decide +kernel) (da_cons (de_var (i := 1) (by decide +kernel) (by decide +kernel)) (da_cons de_int da_nil fun _ => rfl) fun _ => rfl) rfl (elen_cons (elen_cons elen_nil)) (fun _ => rfl) fun _ _ => rfl))) (da_cons de_int (da_cons (de_cmp oj_eq (DE.b (de_call h_law_next (by decide +kernel) (by decide +kernel) (da_cons (de_var (i := 1) (by decide +kernel) (by decide +kernel)) (da_cons de_int da_nil fun _ => rfl) fun _ => rfl) rfl (elen_cons (elen_cons elen_nil)) (fun _ => rfl) fun _ _ => rfl)) (DE.b de_int) rfl) da_nil fun _ => rfl) fun _ => rfl) fun _ => rfl) fun _ => rfl) rfl (elen_cons (elen_cons (elen_cons (elen_cons elen_nil)))) (fun _ => rfl) fun _ _ => rfl) fun _ => rfl) (dss_cons (own1 := []) (ds_set (i := 9) (by decide +kernel) (by decide +kernel) (de_callB cj_repr (by decide +kernel) (g.blt _ (by decide +kernel)) (by decide +kernel) (dab_cons (db_var (i := 8) (by decide +kernel)) dab_nil fun _ => rfl) (fun _ => rfl) fun _ _ => rfl) fun _ => rfl) (dss_cons (own1 := []) (ds_for (vs := [10]) (di_rng1 (by decide +kernel) (g.blt _ (by decide +kernel)) de_int fun _ => rfl) (dg_name (i := 10) (by decide +kernel) (by decide +kernel) (by decide +kernel)) (by decide +kernel) (dss_cons (own1 := []) (ds_set (i := 11) (by decide +kernel) (by decide +kernel) (de_callTy cj_tup (by decide +kernel) (g.blt _ (by decide +kernel)) (by decide +kernel) (dab_cons (DE.b (DF.e (df_lc (ownl := [(PySem.Str.ofString "j", 12)]) (by decide +kernel) (by decide +kernel) (di_rng1 (by decide +kernel) (g.blt _ (by decide +kernel)) (de_call h_law_next (by decide +kernel) (by decide +kernel) (da_cons (de_var (i := 1) (by decide +kernel) (by decide +kernel)) (da_cons de_int da_nil fun _ => rfl) fun _ => rfl) rfl (elen_cons (elen_cons elen_nil)) (fun _ => rfl) fun _ _ => rfl) fun _ => rfl) (dg_name (i := 12) (by decide +kernel) (by decide +kernel) (by decide +kernel)) dts_nil (de_call h_law_next (by decide +kernel) (by decide +kernel) (da_cons (de_var (i := 1) (by decide +kernel) (by decide +kernel)) (da_cons (de_ix ij_ix (db_var (i := 8) (by decide +kernel)) (DE.b de_int) fun _ _ => rfl) da_nil fun _ => rfl) fun _ => rfl) rfl (elen_cons (elen_cons elen_nil)) (fun _ => rfl) fun _ _ => rfl) fun _ _ => rfl))) dab_nil fun _ => rfl) (fun _ => rfl) fun _ _ => rfl) fun _ => rfl) (dss_one (own1 := []) (own' := []) (ds_if (dt_not (dt_val (de_call h_law_deeds_fit (by decide +kernel) (by decide +kernel) (da_cons (de_var (i := 1) (by decide +kernel) (by decide +kernel)) (da_cons (de_var (i := 8) (by decide +kernel) (by decide +kernel)) (da_cons (de_call h_law_next (by decide +kernel) (by decide +kernel) (da_cons (de_var (i := 1) (by decide +kernel) (by decide +kernel)) (da_cons (de_callB cj_len (by decide +kernel) (g.blt _ (by decide +kernel)) (by decide +kernel) (dab_cons (DE.b (de_ix ij_ix (db_var (i := 8) (by decide +kernel)) (DE.b de_int) fun _ _ => rfl)) dab_nil fun _ => rfl) (fun _ => rfl) fun _ _ => rfl) da_nil fun _ => rfl) fun _ => rfl) rfl (elen_cons (elen_cons elen_nil)) (fun _ => rfl) fun _ _ => rfl) (da_cons (de_var (i := 11) (by decide +kernel) (by decide +kernel)) da_nil fun _ => rfl) fun _ => rfl) fun _ => rfl) fun _ => rfl) rfl (elen_cons (elen_cons (elen_cons (elen_cons elen_nil)))) (fun _ => rfl) fun _ _ => rfl) fun _ _ => rfl)) (dss_one (own1 := []) (own' := []) (ds_ret de_bl) (by decide +kernel)) (dss_nil (own' := []) (by decide +kernel))) (by decide +kernel))) fun _ _ => rfl) (dss_one (own1 := []) (own' := []) (ds_if (DW.t (dw_or (dt_not (dt_val (de_call h_law_errors_fit (by decide +kernel) (by decide +kernel) (da_cons (de_var (i := 1) (by decide +kernel) (by decide +kernel)) (da_cons (de_var (i := 8) (by decide +kernel) (by decide +kernel)) da_nil fun _ => rfl) fun _ => rfl) rfl (elen_cons (elen_cons elen_nil)) (fun _ => rfl) fun _ _ => rfl) fun _ _ => rfl)) (dw_or1 (dt_cmp oj_ne (DE.b (de_callB cj_repr (by decide +kernel) (g.blt _ (by decide +kernel)) (by decide +kernel) (dab_cons (db_var (i := 8) (by decide +kernel)) dab_nil fun _ => rfl) (fun _ => rfl) fun _ _ => rfl)) (db_var (i := 9) (by decide +kernel)) rfl)))) (dss_one (own1 := []) (own' := []) (ds_ret de_bl) (by decide +kernel)) (dss_nil (own' := []) (by decide +kernel))) (by decide +kernel))))) fun _ _ => rfl) (dss_one (own1 := []) (own' := []) (ds_ret de_bl) (by decide +kernel)))))))))
end K04
end PL

set_option maxHeartbeats 4000000
/-! PM0: mirrors worked out: plain rules. -/
namespace PL
open PySem PySem.Spec L2
open Classical
section
variable {α β : Type} {k : Int} {env : Env}
@[simp] theorem R.bind_ok (a : α) (k : Int) (f : α → Int → R β) : (R.ok a k).bind f = f a k := rfl
@[simp] theorem R.bind_ex (c : Str) (k : Int) (f : α → Int → R β) : (R.ex c k : R α).bind f = .ex c k := rfl
@[simp] theorem R.of_some (a : α) (k : Int) : R.of (some a) k = .ok a k := rfl
theorem sl_small {n : Nat} (h : n ≤ 1000000) : n ≤ sizeLine := by rw [sizeLine_eq]; omega
/-! ### numbers compared -/
theorem pu_int (n : Nat) (i : Int) : Pu n (.int i) := by cases n <;> simp [Pu]
theorem cmp_int (i j : Int) : CmpOk (.int i) (.int j) := ⟨pu_int _ _, pu_int _ _, by simp [D.py]; rfl, by simp⟩
theorem eq_int (i j : Int) : fEq (.int i) (.int j) = some (.bl (decide (i = j))) := by
  unfold fEq
  rw [if_pos ⟨pu_int _ _, pu_int _ _⟩]
  congr 2
theorem ne_int (i j : Int) : fNe (.int i) (.int j) = some (.bl (!decide (i = j))) := by
  unfold fNe
  rw [if_pos ⟨pu_int _ _, pu_int _ _⟩]
  congr 2
theorem ltD_int (i j : Int) : ltD (.int i) (.int j) = decide (i < j) := by
  show PySem.W.dataLt (D.py (.int i)) (D.py (.int j)) = _
  rw [show D.py (.int i) = .int i by simp [D.py], show D.py (.int j) = .int j by simp [D.py]]
  exact PySem.W.dataLt_int i j
theorem lt_int (i j : Int) : fLt (.int i) (.int j) = some (.bl (decide (i < j))) := by
  unfold fLt
  rw [if_pos (cmp_int i j)]
  rw [ltD_int]
theorem gt_int (i j : Int) : fGt (.int i) (.int j) = some (.bl (decide (j < i))) := by
  unfold fGt
  rw [if_pos (cmp_int i j)]
  rw [ltD_int]
theorem le_int (i j : Int) : fLe (.int i) (.int j) = some (.bl (!decide (j < i))) := by
  unfold fLe
  rw [if_pos (cmp_int i j)]
  rw [ltD_int]
theorem ge_int (i j : Int) : fGe (.int i) (.int j) = some (.bl (!decide (i < j))) := by
  unfold fGe
  rw [if_pos (cmp_int i j)]
  rw [ltD_int]
/-! ### comprehensions, loops -/
/-- [f(x) for x in xs] -/
theorem lcL_map {γ : Type} {p : Pt} {t : Et} {m : Ev} {vs : List Nat} {g f : γ → D} : ∀ {xs : List γ}, (∀ x ∈ xs, ∃ e, p (g x) (wipeE env vs) = some e ∧ t e k = .ok true k ∧ m e k = .ok (f x) k) → lcL p t m vs env (xs.map g) k = some (xs.map f, k)
  | [], _ => rfl
  | x :: xs, h => by
    obtain ⟨e, h1, h2, h3⟩ := h x List.mem_cons_self
    have ih := lcL_map (p := p) (t := t) (m := m) (vs := vs) (g := g) (f := f) (xs := xs) fun y hy => h y (List.mem_cons_of_mem _ hy)
    rw [List.map_cons, List.map_cons]
    unfold lcL
    simp only [h1, h2, h3, nx, ih, Option.bind_some, if_true]
/-- [f(x, y) for x in xs for y in ys(x)] -/
theorem lcL2_map {γ δ : Type} {p p1 : Pt} {t t1 : Et} {it1 : Its} {m : Ev} {vs vs1 : List Nat} {g : γ → D} {g1 : γ → δ → D} {f : γ → δ → D} {ys : γ → List δ} : ∀ {xs : List γ},
    (∀ x ∈ xs, ∃ e, p (g x) (wipeE env vs) = some e ∧ t e k = .ok true k ∧ it1 e k = .ok ((ys x).map (g1 x)) k ∧ ∀ y ∈ ys x, ∃ e1, p1 (g1 x y) (wipeE e vs1) = some e1 ∧ t1 e1 k = .ok true k ∧ m e1 k = .ok (f x y) k) →
    lcL2 p t it1 p1 t1 m vs vs1 env (xs.map g) k = some (xs.flatMap fun x => (ys x).map (f x), k)
  | [], _ => rfl
  | x :: xs, h => by
    obtain ⟨e, h1, h2, h3, h4⟩ := h x List.mem_cons_self
    have ih := lcL2_map (p := p) (p1 := p1) (t := t) (t1 := t1) (it1 := it1) (m := m) (vs := vs) (vs1 := vs1) (g := g) (g1 := g1) (f := f) (ys := ys) (xs := xs) fun y hy => h y (List.mem_cons_of_mem _ hy)
    have one := lcL_map (env := e) (k := k) (p := p1) (t := t1) (m := m) (vs := vs1) (g := g1 x) (f := f x) (xs := ys x) h4
    rw [List.map_cons, List.flatMap_cons]
    unfold lcL2
    simp only [h1, h2, h3, nx, ih, one, Option.bind_some, if_true]
/-- a loop that goes through: E tells the slots from what is carried -/
theorem forL_fold {γ σ : Type} {p : Pt} {b : Stm} {g : γ → D} {E : σ → Env} {K : σ → Int} {step : σ → γ → σ} : ∀ {xs : List γ} {s : σ},
    (∀ s x, x ∈ xs → ∃ e, p (g x) (E s) = some e ∧ b e (K s) = .ok (.nx (E (step s x))) (K (step s x))) → forL p b (xs.map g) (E s) (K s) = .ok (.nx (E (xs.foldl step s))) (K (xs.foldl step s))
  | [], s, _ => rfl
  | x :: xs, s, h => by
    obtain ⟨e, h1, h2⟩ := h s x List.mem_cons_self
    rw [List.map_cons, List.foldl_cons]
    unfold forL
    rw [h1]
    show ((b e (K s)).bind fun f k1 => _) = _
    rw [h2]
    exact forL_fold fun s y hy => h s y (List.mem_cons_of_mem _ hy)
/-- the same where what is carried keeps to I -/
theorem forL_inv {γ σ : Type} {p : Pt} {b : Stm} {g : γ → D} {E : σ → Env} {K : σ → Int} {step : σ → γ → σ} (I : σ → Prop) : ∀ {xs : List γ} {s : σ}, I s →
    (∀ s x, I s → x ∈ xs → I (step s x) ∧ ∃ e, p (g x) (E s) = some e ∧ b e (K s) = .ok (.nx (E (step s x))) (K (step s x))) → I (xs.foldl step s) ∧ forL p b (xs.map g) (E s) (K s) = .ok (.nx (E (xs.foldl step s))) (K (xs.foldl step s))
  | [], s, i, _ => ⟨i, rfl⟩
  | x :: xs, s, i, h => by
    obtain ⟨i2, e, h1, h2⟩ := h s x i List.mem_cons_self
    obtain ⟨i3, h3⟩ := forL_inv (p := p) (b := b) (g := g) (E := E) (K := K) (step := step) I (xs := xs) i2 fun s y hs hy => h s y hs (List.mem_cons_of_mem _ hy)
    rw [List.map_cons, List.foldl_cons]
    refine ⟨i3, ?_⟩
    unfold forL
    rw [h1]
    show ((b e (K s)).bind fun f k1 => _) = _
    rw [h2]
    exact h3
theorem okLst_some {ys : List D} (h : ys.length ≤ sizeLine) : okLst (some (ys, k)) = .ok (.lst ys) k := if_pos h
theorem toBls_mapB {γ : Type} (f : γ → Bool) (xs : List γ) : toBls (xs.map fun x => D.bl (f x)) = some (xs.map f) := by
  have := toBls_map (xs.map f)
  rw [List.map_map] at this
  exact this
theorem toInts_mapI {γ : Type} (f : γ → Int) (xs : List γ) : toInts (xs.map fun x => D.int (f x)) = some (xs.map f) := by
  have := toInts_map (xs.map f)
  rw [List.map_map] at this
  exact this
end
end PL

set_option maxHeartbeats 4000000
/-! MK04a: k04: machines as plain lists; what the checks answer. -/
namespace PL
open PySem PySem.Spec L2
open Classical
section
variable {k : Int} {env : Env}
theorem eLc_name {γ : Type} {it : Its} {i : Nat} {m : Ev} {g f : γ → D} {xs : List γ} (hit : it env k = .ok (xs.map g) k) (hl : xs.length ≤ sizeLine) (h : ∀ x ∈ xs, m ((wipeE env [i]).set i (some (g x))) k = .ok (f x) k) :
    eLc it (pName i) tYs m [i] env k = .ok (.lst (xs.map f)) k := by
  unfold eLc
  rw [hit]
  show okLst (lcL (pName i) tYs m [i] env (xs.map g) k) = _
  rw [lcL_map (g := g) (f := f) fun x hx => ⟨_, rfl, rfl, h x hx⟩, okLst_some (by rw [List.length_map]; exact hl)]
theorem iSeq_tup {m : Ev} {ds : List D} (h : m env k = .ok (.tup ds) k) : iSeq m env k = .ok ds k := by
  unfold iSeq
  rw [h]
  rfl
theorem iSeq_lst {m : Ev} {ds : List D} (h : m env k = .ok (.lst ds) k) : iSeq m env k = .ok ds k := by
  unfold iSeq
  rw [h]
  rfl
theorem any_no {γ : Type} {f : γ → Bool} {xs : List γ} (h : ∀ x ∈ xs, f x = false) : f1 fAny [.lst (xs.map fun x => D.bl (f x))] = some (.bl false) := by
  show ((toBls (xs.map fun x => D.bl (f x))).map fun ns => D.bl (ns.any id)) = _
  rw [toBls_mapB, Option.map_some]
  congr 2
  rw [List.any_map]
  exact List.any_eq_false.mpr fun x hx => by simp [h x hx]
theorem all_yes {γ : Type} {f : γ → Bool} {xs : List γ} (h : ∀ x ∈ xs, f x = true) : f1 fAll [.lst (xs.map fun x => D.bl (f x))] = some (.bl true) := by
  show ((toBls (xs.map fun x => D.bl (f x))).map fun ns => D.bl (ns.all id)) = _
  rw [toBls_mapB, Option.map_some]
  congr 2
  rw [List.all_map]
  exact List.all_eq_true.mpr fun x hx => by simp [h x hx]
theorem toPrs_map : ∀ ws : List (Int × Int), toPrs (ws.map prD) = some ws
  | [] => rfl
  | (i, j) :: ws => by
    rw [List.map_cons]
    show (toPrs (ws.map prD)).map ((i, j) :: ·) = _
    rw [toPrs_map ws]
    rfl
theorem sortP_of {ws : List (Int × Int)} (h : ws.Pairwise prLt) : sortP ws = ws := asc_one (sortP_asc ws) h fun x => sortP_mem x ws
theorem pu_pr (n : Nat) (w : Int × Int) : Pu (n + 1) (prD w) := by
  unfold prD
  rw [Pu]
  intro x hx
  rcases List.mem_cons.mp hx with e | e
  · subst e; exact pu_int _ _
  · rw [List.mem_singleton] at e; subst e; exact pu_int _ _
theorem eqD_refl {n : Nat} {x : D} (h : Pu n x) : eqD x x = true := PySem.SeqAt.eqv_refl_plain _ h.plain.1
theorem ne_refl {x : D} (h : Pu 40 x) : fNe x x = some (.bl false) := by
  unfold fNe
  rw [if_pos ⟨h, h⟩, eqD_refl h]
  rfl
theorem eq_refl {x : D} (h : Pu 40 x) : fEq x x = some (.bl true) := by
  unfold fEq
  rw [if_pos ⟨h, h⟩, eqD_refl h]
end
namespace K04
abbrev Way := Int × Int
def waysD (ws : List Way) : D := .tup (ws.map prD)
def rowD (r : List (List Way)) : D := .tup (r.map waysD)
def tblD (t : List (List (List Way))) : D := .tup (t.map rowD)
def macD (d : Int) (t : List (List (List Way))) : D := .tup [.int d, tblD t]
structure WaysOk (n : Nat) (ws : List Way) : Prop where
  ne : ws ≠ []
  asc : ws.Pairwise prLt
  few : ws.length < 64
  bd : ∀ w ∈ ws, 0 ≤ w.1 ∧ w.1 ≤ 1000 ∧ 0 ≤ w.2 ∧ w.2 < n
theorem check_ways {n : Nat} {ws : List Way} {k : Int} (W : WaysOk n ws) : φ_check_ways [waysD ws, .int n] k = .ok .non k := by
  have hl : ws.length ≤ sizeLine := sl_small (by have := W.few; omega)
  have it : iSeq (eVar 0) [some (waysD ws), some (.int n), none] k = .ok (ws.map prD) k := iSeq_tup rfl
  have A := eLc_name (i := 2) (m := e2 fNe (eCallB fLen (eCons (eVar 2) eNil)) (eC (.int 2))) (f := fun _ => .bl false) it hl fun w hw => by
    show R.of (fNe (.int 2) (.int 2)) k = _
    rw [ne_int]
    rfl
  have B := eLc_name (i := 2) (m := e2 fGt (e2 fIx (eVar 2) (eC (.int 0))) (eC (.int 1000))) (f := fun w => .bl false) it hl fun w hw => by
    show R.of (fGt (.int w.1) (.int 1000)) k = _
    rw [gt_int, decide_eq_false (by have := (W.bd w hw).2.1; omega)]
    rfl
  have Cc := eLc_name (i := 2) (m := eOr2 (e2 fLt (e2 fIx (eVar 2) (eC (.int 0))) (eC (.int 0))) (eNot (eChain fLe fLt (eC (.int 0)) (e2 fIx (eVar 2) (eC (.int 1))) (eVar 1)))) (f := fun w => .bl false) it hl fun w hw => by
    obtain ⟨b1, b2, b3, b4⟩ := W.bd w hw
    have e1 : e2 fLt (e2 fIx (eVar 2) (eC (.int 0))) (eC (.int 0)) [some (waysD ws), some (.int n), some (prD w)] k = .ok (.bl false) k := by
      show R.of (fLt (.int w.1) (.int 0)) k = _
      rw [lt_int, decide_eq_false (by omega)]
      rfl
    have e2' : eChain fLe fLt (eC (.int 0)) (e2 fIx (eVar 2) (eC (.int 1))) (eVar 1) [some (waysD ws), some (.int n), some (prD w)] k = .ok (.bl true) k := by
      show ((R.of (fLe (.int 0) (.int w.2)) k).bind fun r k3 => (toB r k3).bind fun t k4 => if t = true then R.of (fLt (.int w.2) (.int n)) k4 else .ok (.bl false) k4) = _
      rw [le_int, decide_eq_false (by omega), lt_int, decide_eq_true b4]
      rfl
    show eOr2 (e2 fLt (e2 fIx (eVar 2) (eC (.int 0))) (eC (.int 0))) (eNot (eChain fLe fLt (eC (.int 0)) (e2 fIx (eVar 2) (eC (.int 1))) (eVar 1))) [some (waysD ws), some (.int n), some (prD w)] k = _
    simp only [eOr2, eNot, e1, e2', R.bind_ok, toB]
    rfl
  have pl : Pu 40 (.lst (ws.map prD)) := by
    rw [Pu]
    intro x hx
    obtain ⟨w, _, rfl⟩ := List.mem_map.mp hx
    exact pu_pr 38 w
  have sr : fSortSet (waysD ws) = some (.lst (ws.map prD)) := by
    show ((toPrs (ws.map prD)).bind fun l => if PrsOk l then some (D.lst ((sortP l).map prD)) else none) = _
    rw [toPrs_map]
    show (if PrsOk ws then some (D.lst ((sortP ws).map prD)) else none) = _
    rw [if_pos ⟨W.few, fun w hw => ⟨(W.bd w hw).1, (W.bd w hw).2.2.1⟩⟩, sortP_of W.asc]
  have no : f1 fAny [.lst (ws.map fun _ => D.bl false)] = some (.bl false) := any_no (f := fun _ : Way => false) fun _ _ => rfl
  have len0 : fEq (.int ((ws.map prD).length : Nat)) (.int 0) = some (.bl false) := by
    rw [eq_int, List.length_map, decide_eq_false]
    have := List.length_pos_iff.mpr W.ne
    omega
  have nl : e2 fNe (eCallB fList (eCons (eVar 0) eNil)) (e1 fSortSet (eVar 0)) [some (waysD ws), some (.int n), none] k = .ok (.bl false) k := by
    show ((R.of (fSortSet (waysD ws)) k).bind fun y k2 => R.of (fNe (.lst (ws.map prD)) y) k2) = _
    rw [sr]
    show R.of (fNe (.lst (ws.map prD)) (.lst (ws.map prD))) k = _
    rw [ne_refl pl]
    rfl
  have l0 : e2 fEq (eCallB fLen (eCons (eVar 0) eNil)) (eC (.int 0)) [some (waysD ws), some (.int n), none] k = .ok (.bl false) k := by
    show R.of (fEq (.int ((ws.map prD).length : Nat)) (.int 0)) k = _
    rw [len0]
    rfl
  have a1 : ∀ m, eLc (iSeq (eVar 0)) (pName 2) tYs m [2] [some (waysD ws), some (.int n), none] k = .ok (.lst (ws.map fun _ => D.bl false)) k → eCallB (f1 fAny) (eCons (eLc (iSeq (eVar 0)) (pName 2) tYs m [2]) eNil) [some (waysD ws), some (.int n), none] k = .ok (.bl false) k := fun m h => by
    simp only [eCallB, eCons, eNil, h, R.bind_ok, no, R.of_some]
  show (m_check_ways [some (waysD ws), some (.int n), none] k).bind _ = _
  unfold m_check_ways
  simp only [sSeq, sIf, tOr2, a1 _ A, a1 _ B, a1 _ Cc, tV, l0, nl, R.bind_ok, toB, sNil, Bool.false_eq_true, if_false, if_true]
end K04
end PL

set_option maxHeartbeats 4000000
/-! MK04b: k04: machines, states, deeds that are taken. -/
namespace PL
open PySem PySem.Spec L2
open Classical
theorem eCons_ok {a : Ev} {r : Els} {env : Env} {k k1 k2 : Int} {x : D} {xs : List D} (h : a env k = .ok x k1) (g : r env k1 = .ok xs k2) : eCons a r env k = .ok (x :: xs) k2 := by
  unfold eCons
  rw [h]
  show ((r env k1).bind fun xs k2 => R.ok (x :: xs) k2) = _
  rw [g]
  rfl
theorem eCall_ok {φ : List D → Int → R D} {ms : Els} {env : Env} {k k1 : Int} {xs : List D} (h : ms env k = .ok xs k1) : eCall φ ms env k = φ xs k1 := by
  unfold eCall
  rw [h]
  rfl
namespace K04
abbrev Tbl := List (List (List Way))
structure MacOk (d : Int) (t : Tbl) : Prop where
  d1 : 1 ≤ d
  d2 : d ≤ 12
  t1 : 1 ≤ t.length
  t2 : t.length ≤ 60
  row : ∀ r ∈ t, (r.length : Int) = d
  ways : ∀ r ∈ t, ∀ ws ∈ r, WaysOk t.length ws
theorem check_machine {d : Int} {t : Tbl} {k : Int} (M : MacOk d t) : φ_check_machine [macD d t] k = .ok .non k := by
  have hl : t.length ≤ sizeLine := sl_small (by have := M.t2; omega)
  have no : f1 fAny [.lst (t.map fun _ => D.bl false)] = some (.bl false) := any_no (f := fun _ : List (List Way) => false) fun _ _ => rfl
  have len : ∀ a b, eCallB fLen (eCons (eVar 2) eNil) [some (macD d t), some (.int d), some (tblD t), a, b] k = .ok (.int t.length) k := fun a b => by
    show R.of (some (D.int ((t.map rowD).length : Nat))) k = _
    rw [List.length_map]
    rfl
  have c1 : e2 fGt (eVar 1) (eC (.int 12)) [some (macD d t), some (.int d), some (tblD t), none, none] k = .ok (.bl false) k := by
    show R.of (fGt (.int d) (.int 12)) k = _
    rw [gt_int, decide_eq_false (by have := M.d2; omega)]
    rfl
  have c2 : e2 fGt (eCallB fLen (eCons (eVar 2) eNil)) (eC (.int 60)) [some (macD d t), some (.int d), some (tblD t), none, none] k = .ok (.bl false) k := by
    unfold e2
    rw [len]
    show R.of (fGt (.int t.length) (.int 60)) k = _
    rw [gt_int, decide_eq_false (by have := M.t2; omega)]
    rfl
  have c3 : e2 fLt (eVar 1) (eC (.int 1)) [some (macD d t), some (.int d), some (tblD t), none, none] k = .ok (.bl false) k := by
    show R.of (fLt (.int d) (.int 1)) k = _
    rw [lt_int, decide_eq_false (by have := M.d1; omega)]
    rfl
  have c4 : e2 fLt (eCallB fLen (eCons (eVar 2) eNil)) (eC (.int 1)) [some (macD d t), some (.int d), some (tblD t), none, none] k = .ok (.bl false) k := by
    unfold e2
    rw [len]
    show R.of (fLt (.int t.length) (.int 1)) k = _
    rw [lt_int, decide_eq_false (by have := M.t1; omega)]
    rfl
  have it : iSeq (eVar 2) [some (macD d t), some (.int d), some (tblD t), none, none] k = .ok (t.map rowD) k := iSeq_tup rfl
  have A := eLc_name (i := 3) (m := e2 fNe (eCallB fLen (eCons (eVar 3) eNil)) (eVar 1)) (f := fun _ => .bl false) it hl fun r hr => by
    show R.of (fNe (.int ((r.map waysD).length : Nat)) (.int d)) k = _
    rw [ne_int, List.length_map, M.row r hr]
    simp
  have c5 : eCallB (f1 fAny) (eCons (eLc (iSeq (eVar 2)) (pName 3) tYs (e2 fNe (eCallB fLen (eCons (eVar 3) eNil)) (eVar 1)) [3]) eNil) [some (macD d t), some (.int d), some (tblD t), none, none] k = .ok (.bl false) k := by
    simp only [eCallB, eCons, eNil, A, R.bind_ok, no, R.of_some]
  have inner : ∀ (r : List (List Way)), r ∈ t → ∀ s : Option D, forL (pName 4) (sExpr (eCall φ_check_ways (eCons (eVar 4) (eCons (eCallB fLen (eCons (eVar 2) eNil)) eNil)))) (r.map waysD) [some (macD d t), some (.int d), some (tblD t), some (rowD r), s] k =
      .ok (.nx [some (macD d t), some (.int d), some (tblD t), some (rowD r), r.foldl (fun _ ws => some (waysD ws)) s]) k := fun r hr s =>
    forL_fold (E := fun s => [some (macD d t), some (.int d), some (tblD t), some (rowD r), s]) (K := fun _ => k) (step := fun _ ws => some (waysD ws)) fun s ws hw => ⟨_, rfl, by
      show sExpr _ [some (macD d t), some (.int d), some (tblD t), some (rowD r), some (waysD ws)] k = _
      have e : eCons (eVar 4) (eCons (eCallB fLen (eCons (eVar 2) eNil)) eNil) [some (macD d t), some (.int d), some (tblD t), some (rowD r), some (waysD ws)] k = .ok [waysD ws, .int t.length] k := eCons_ok rfl (eCons_ok (len _ _) rfl)
      unfold sExpr eCall
      rw [e]
      show (φ_check_ways [waysD ws, .int t.length] k).bind _ = _
      rw [check_ways (M.ways r hr ws hw)]
      rfl⟩
  have outer := forL_fold (p := pName 3) (b := sFor (iSeq (eVar 3)) (pName 4) (sExpr (eCall φ_check_ways (eCons (eVar 4) (eCons (eCallB fLen (eCons (eVar 2) eNil)) eNil))))) (g := rowD) (xs := t) (s := ((none : Option D), (none : Option D)))
    (E := fun s => [some (macD d t), some (.int d), some (tblD t), s.1, s.2]) (K := fun _ => k) (step := fun s r => (some (rowD r), r.foldl (fun _ ws => some (waysD ws)) s.2)) fun s r hr => ⟨_, rfl, by
      show forL (pName 4) _ (r.map waysD) [some (macD d t), some (.int d), some (tblD t), some (rowD r), s.2] k = _
      exact inner r hr s.2⟩
  show (m_check_machine [some (macD d t), none, none, none, none] k).bind _ = _
  unfold m_check_machine
  have s1 : sAsg (eVar 0) (pTup [(pName 1), (pName 2)]) [some (macD d t), none, none, none, none] k = .ok (.nx [some (macD d t), some (.int d), some (tblD t), none, none]) k := rfl
  simp only [sSeq, s1, R.bind_ok, sIf, tOr2, tV, c1, c2, c3, c4, c5, toB, sNil, Bool.false_eq_true, if_false, if_true]
  unfold sFor
  rw [it]
  show ((forL (pName 3) _ (t.map rowD) [some (macD d t), some (.int d), some (tblD t), none, none] k).bind _) = _
  have o2 : forL (pName 3) (fun env k => (iSeq (eVar 3) env k).bind fun ds k1 => forL (pName 4) (sExpr (eCall φ_check_ways (eCons (eVar 4) (eCons (eCallB fLen (eCons (eVar 2) eNil)) eNil)))) ds env k1) (t.map rowD) [some (macD d t), some (.int d), some (tblD t), none, none] k = _ := outer
  rw [o2]
  rfl
end K04
end PL

set_option maxHeartbeats 4000000
/-! MK04c: k04: states and deeds that are taken, or not. -/
namespace PL
open PySem PySem.Spec L2
open Classical
theorem chain_ii {a b c : Ev} {env : Env} {k : Int} {x y z : Int} (ha : a env k = .ok (.int x) k) (hb : b env k = .ok (.int y) k) (hc : c env k = .ok (.int z) k) : eChain fLe fLt a b c env k = .ok (.bl (decide (x ≤ y ∧ y < z))) k := by
  unfold eChain
  simp only [ha, hb, R.bind_ok, le_int, R.of_some, toB]
  by_cases h : y < x
  · rw [decide_eq_true h, decide_eq_false (p := x ≤ y ∧ y < z) (by omega)]
    rfl
  · rw [decide_eq_false h]
    show (c env k).bind _ = _
    rw [hc]
    show R.of (fLt (.int y) (.int z)) k = _
    rw [lt_int]
    congr 2
    simp
    omega
theorem all_dec {γ : Type} (p : γ → Prop) [∀ x, Decidable (p x)] (xs : List γ) [Decidable (∀ x ∈ xs, p x)] : f1 fAll [.lst (xs.map fun x => D.bl (decide (p x)))] = some (.bl (decide (∀ x ∈ xs, p x))) := by
  show ((toBls (xs.map fun x => D.bl (decide (p x)))).map fun ns => D.bl (ns.all id)) = _
  rw [toBls_mapB, Option.map_some]
  congr 2
  rw [List.all_map, Bool.eq_iff_iff, List.all_eq_true]
  simp
namespace K04
theorem check_state {d s : Int} {t : Tbl} {k : Int} (M : MacOk d t) : φ_check_state [macD d t, .int s] k = if 0 ≤ s ∧ s < t.length then .ok .non k else .ex "NotAllowed" k := by
  have len : eCallB fLen (eCons (e2 fIx (eVar 0) (eC (.int 1))) eNil) [some (macD d t), some (.int s)] k = .ok (.int t.length) k := by
    show R.of (some (D.int ((t.map rowD).length : Nat))) k = _
    rw [List.length_map]
    rfl
  have c := chain_ii (a := eC (.int 0)) (b := eVar 1) (x := 0) (y := s) (env := [some (macD d t), some (.int s)]) (k := k) rfl rfl len
  have e1 : sExpr (eCall φ_check_machine (eCons (eVar 0) eNil)) [some (macD d t), some (.int s)] k = .ok (.nx [some (macD d t), some (.int s)]) k := by
    unfold sExpr
    rw [eCall_ok (eCons_ok rfl rfl), check_machine M]
    rfl
  show (m_check_state [some (macD d t), some (.int s)] k).bind _ = _
  unfold m_check_state
  simp only [sSeq, e1, R.bind_ok, sIf, tNt, tV, c, toB, sNil]
  by_cases h : 0 ≤ s ∧ s < t.length
  · rw [if_pos h, decide_eq_true h]
    rfl
  · rw [if_neg h, decide_eq_false h]
    rfl
def intsD (ns : List Int) : D := .tup (ns.map .int)
theorem check_deeds {d s : Int} {t : Tbl} {ds : List Int} {k : Int} (M : MacOk d t) (hl : ds.length ≤ 1000000) : φ_check_deeds [macD d t, .int s, intsD ds] k =
    if 0 ≤ s ∧ s < t.length then (if 200 < ds.length then .ex "TooLarge" k else if ∀ x ∈ ds, 0 ≤ x ∧ x < d then .ok .non k else .ex "NotAllowed" k) else .ex "NotAllowed" k := by
  have e1 : sExpr (eCall φ_check_state (eCons (eVar 0) (eCons (eVar 1) eNil))) [some (macD d t), some (.int s), some (intsD ds), none] k = (if 0 ≤ s ∧ s < t.length then .ok (.nx [some (macD d t), some (.int s), some (intsD ds), none]) k else .ex "NotAllowed" k) := by
    unfold sExpr
    rw [eCall_ok (eCons_ok rfl (eCons_ok rfl rfl)), check_state M]
    by_cases h : 0 ≤ s ∧ s < t.length
    · rw [if_pos h, if_pos h]
      rfl
    · rw [if_neg h, if_neg h]
      rfl
  have c2 : e2 fGt (eCallB fLen (eCons (eVar 2) eNil)) (eC (.int 200)) [some (macD d t), some (.int s), some (intsD ds), none] k = .ok (.bl (decide (200 < ds.length))) k := by
    show R.of (fGt (.int ((ds.map D.int).length : Nat)) (.int 200)) k = _
    rw [gt_int, List.length_map]
    congr 2
    simp
    omega
  have A := eLc_name (i := 3) (m := eChain fLe fLt (eC (.int 0)) (eVar 3) (e2 fIx (eVar 0) (eC (.int 0)))) (g := D.int) (xs := ds) (f := fun x => .bl (decide (0 ≤ x ∧ x < d))) (it := iSeq (eVar 2)) (env := [some (macD d t), some (.int s), some (intsD ds), none]) (k := k) (iSeq_tup rfl) (sl_small hl) fun x hx =>
    chain_ii (x := 0) (y := x) (z := d) rfl rfl rfl
  have c3 : eCallB (f1 fAll) (eCons (eLc (iSeq (eVar 2)) (pName 3) tYs (eChain fLe fLt (eC (.int 0)) (eVar 3) (e2 fIx (eVar 0) (eC (.int 0)))) [3]) eNil) [some (macD d t), some (.int s), some (intsD ds), none] k = .ok (.bl (decide (∀ x ∈ ds, 0 ≤ x ∧ x < d))) k := by
    simp only [eCallB, eCons, eNil, A, R.bind_ok]
    rw [all_dec (fun x : Int => 0 ≤ x ∧ x < d) ds]
    rfl
  show (m_check_deeds [some (macD d t), some (.int s), some (intsD ds), none] k).bind _ = _
  unfold m_check_deeds
  by_cases h : 0 ≤ s ∧ s < t.length
  · rw [if_pos h] at e1 ⊢
    simp only [sSeq, e1, R.bind_ok, sIf, tNt, tV, c2, toB, sNil]
    by_cases h2 : 200 < ds.length
    · rw [if_pos h2, decide_eq_true h2]
      rfl
    · rw [if_neg h2, decide_eq_false h2]
      simp only [Bool.false_eq_true, if_false, R.bind_ok, c3, toB]
      by_cases h3 : ∀ x ∈ ds, 0 ≤ x ∧ x < d
      · rw [if_pos h3, decide_eq_true h3]
        rfl
      · rw [if_neg h3, decide_eq_false h3]
        rfl
  · rw [if_neg h] at e1 ⊢
    simp only [sSeq, e1, R.bind_ex]
end K04
end PL

set_option maxHeartbeats 4000000
/-! MK04d: k04: all runs. -/
namespace PL
open PySem PySem.Spec L2
open Classical
theorem atI_in {α : Type} {xs : List α} {i : Int} {x : α} (h0 : 0 ≤ i) (hx : xs[i.toNat]? = some x) : atI xs i = some x := by
  have hl : i.toNat < xs.length := (List.getElem?_eq_some_iff.mp hx).1
  unfold atI ixN
  rw [if_pos h0, if_pos (by omega)]
  exact hx
theorem fl_congr {α β : Type} {f g : α → List β} : ∀ {l : List α}, (∀ x ∈ l, f x = g x) → l.flatMap f = l.flatMap g
  | [], _ => rfl
  | x :: l, h => by
    rw [List.flatMap_cons, List.flatMap_cons, h x List.mem_cons_self, fl_congr fun y hy => h y (List.mem_cons_of_mem _ hy)]
namespace K04
abbrev Step := Int × Int × Int
abbrev Run := List Step
def stepD (s : Step) : D := .tup [.int s.1, .int s.2.1, .int s.2.2]
def runD (r : Run) : D := .tup (r.map stepD)
def pairD (x : Run × Int) : D := .tup [runD x.1, .int x.2]
def waysAt (t : Tbl) (h deed : Int) : List Way := (t.getD h.toNat []).getD deed.toNat []
def goOn (t : Tbl) (deed : Int) (f : List (Run × Int)) : List (Run × Int) := f.flatMap fun x => (waysAt t x.2 deed).map fun w => (x.1 ++ [(deed, w.1, w.2)], w.2)
/-- all runs, or too many of them -/
def runsO (t : Tbl) : List Int → List (Run × Int) → Option (List (Run × Int))
  | [], f => some f
  | deed :: r, f => if 5000 < (goOn t deed f).length then none else runsO t r (goOn t deed f)
theorem row_at {t : Tbl} {h : Int} (h0 : 0 ≤ h) (h1 : h < t.length) : t[h.toNat]? = some (t.getD h.toNat []) := by
  have : h.toNat < t.length := by omega
  rw [List.getD_eq_getElem?_getD, List.getElem?_eq_getElem this]
  rfl
theorem fIx_tbl {t : Tbl} {h : Int} (h0 : 0 ≤ h) (h1 : h < t.length) : fIx (tblD t) (.int h) = some (rowD (t.getD h.toNat [])) := atI_in h0 (by rw [List.getElem?_map, row_at h0 h1]; rfl)
theorem row_mem {t : Tbl} {h : Int} (h0 : 0 ≤ h) (h1 : h < t.length) : t.getD h.toNat [] ∈ t := List.mem_of_getElem? (row_at h0 h1)
theorem way_at {d : Int} {t : Tbl} {h x : Int} (M : MacOk d t) (h0 : 0 ≤ h) (h1 : h < t.length) (x0 : 0 ≤ x) (x1 : x < d) : (t.getD h.toNat [])[x.toNat]? = some (waysAt t h x) := by
  have hr := M.row _ (row_mem h0 h1)
  have : x.toNat < (t.getD h.toNat []).length := by omega
  unfold waysAt
  rw [List.getD_eq_getElem?_getD (l := t.getD h.toNat []), List.getElem?_eq_getElem this]
  rfl
theorem fIx_row {d : Int} {t : Tbl} {h x : Int} (M : MacOk d t) (h0 : 0 ≤ h) (h1 : h < t.length) (x0 : 0 ≤ x) (x1 : x < d) : fIx (rowD (t.getD h.toNat [])) (.int x) = some (waysD (waysAt t h x)) := atI_in x0 (by rw [List.getElem?_map, way_at M h0 h1 x0 x1]; rfl)
theorem waysAt_ok {d : Int} {t : Tbl} {h x : Int} (M : MacOk d t) (h0 : 0 ≤ h) (h1 : h < t.length) (x0 : 0 ≤ x) (x1 : x < d) : WaysOk t.length (waysAt t h x) := M.ways _ (row_mem h0 h1) _ (List.mem_of_getElem? (way_at M h0 h1 x0 x1))
/-- what has been found so far: within bounds -/
structure FOk (t : Tbl) (j : Nat) (f : List (Run × Int)) : Prop where
  few : f.length ≤ 5000
  ok : ∀ x ∈ f, 0 ≤ x.2 ∧ x.2 < t.length ∧ x.1.length ≤ j
theorem flat_len {α β : Type} (f : α → List β) (n : Nat) : ∀ {l : List α}, (∀ x ∈ l, (f x).length ≤ n) → (l.flatMap f).length ≤ l.length * n
  | [], _ => by simp
  | x :: l, h => by
    rw [List.flatMap_cons, List.length_append, List.length_cons, Nat.succ_mul]
    have := flat_len f n fun y hy => h y (List.mem_cons_of_mem x hy)
    have := h x List.mem_cons_self
    omega
theorem goOn_len {d : Int} {t : Tbl} {x : Int} {j : Nat} {f : List (Run × Int)} (M : MacOk d t) (F : FOk t j f) (x0 : 0 ≤ x) (x1 : x < d) : (goOn t x f).length ≤ 320000 := by
  have := flat_len (fun y : Run × Int => (waysAt t y.2 x).map fun w => (y.1 ++ [(x, w.1, w.2)], w.2)) 64 (l := f) fun y hy => by
    rw [List.length_map]
    exact Nat.le_of_lt (waysAt_ok M (F.ok y hy).1 (F.ok y hy).2.1 x0 x1).few
  have h2 := F.few
  show ((f.flatMap _).length : Nat) ≤ _
  omega
theorem goOn_ok {d : Int} {t : Tbl} {x : Int} {j : Nat} {f : List (Run × Int)} (M : MacOk d t) (F : FOk t j f) (x0 : 0 ≤ x) (x1 : x < d) (h : (goOn t x f).length ≤ 5000) : FOk t (j + 1) (goOn t x f) := by
  refine ⟨h, fun z hz => ?_⟩
  obtain ⟨y, hy, hz⟩ := List.mem_flatMap.mp hz
  obtain ⟨w, hw, rfl⟩ := List.mem_map.mp hz
  obtain ⟨b1, b2, b3, b4⟩ := (waysAt_ok M (F.ok y hy).1 (F.ok y hy).2.1 x0 x1).bd w hw
  refine ⟨b3, b4, ?_⟩
  rw [List.length_append]
  have := (F.ok y hy).2.2
  show y.1.length + 1 ≤ j + 1
  omega
section
variable {d s x : Int} {t : Tbl} {j : Nat} {f : List (Run × Int)} {k : Int} {dd : D} {b : Option D}
def stepsD (t : Tbl) (x : Int) (f : List (Run × Int)) : List D := f.flatMap fun y => (waysAt t y.2 x).map fun w => .tup [runD y.1, prD w]
theorem steps_eq (M : MacOk d t) (F : FOk t j f) (x0 : 0 ≤ x) (x1 : x < d) (hj : j ≤ 1000) :
    eLc2 (iSeq (eVar 3)) (pTup [(pName 6), (pName 7)]) tYs (iSeq (e2 fIx (e2 fIx (e2 fIx (eVar 0) (eC (.int 1))) (eVar 7)) (eVar 4))) (pName 8) tYs (eTup (eCons (eVar 6) (eCons (eVar 8) eNil))) [6, 7, 8] [8]
      [some (macD d t), some (.int s), some dd, some (.lst (f.map pairD)), some (.int x), b, none, none, none, none, none, none] k = .ok (.lst (stepsD t x f)) k := by
  have hl : (stepsD t x f).length ≤ sizeLine := by
    have := flat_len (fun y : Run × Int => (waysAt t y.2 x).map fun w => D.tup [runD y.1, prD w]) 64 (l := f) fun y hy => by
      rw [List.length_map]
      exact Nat.le_of_lt (waysAt_ok M (F.ok y hy).1 (F.ok y hy).2.1 x0 x1).few
    have h2 := F.few
    refine sl_small ?_
    show ((f.flatMap _).length : Nat) ≤ _
    omega
  unfold eLc2
  show okLst (lcL2 _ _ _ _ _ _ _ _ _ (f.map pairD) k) = _
  have := lcL2_map (k := k) (env := [some (macD d t), some (.int s), some dd, some (.lst (f.map pairD)), some (.int x), b, none, none, none, none, none, none]) (p := pTup [(pName 6), (pName 7)]) (t := tYs) (it1 := iSeq (e2 fIx (e2 fIx (e2 fIx (eVar 0) (eC (.int 1))) (eVar 7)) (eVar 4))) (p1 := pName 8) (t1 := tYs)
    (m := eTup (eCons (eVar 6) (eCons (eVar 8) eNil))) (vs := [6, 7, 8]) (vs1 := [8]) (g := pairD) (g1 := fun _ w => prD w) (ys := fun y => waysAt t y.2 x) (f := fun y w => .tup [runD y.1, prD w]) (xs := f) fun y hy => ⟨_, rfl, rfl, iSeq_tup (ds := (waysAt t y.2 x).map prD) (by
      show ((R.of (fIx (tblD t) (.int y.2)) k).bind fun r k2 => R.of (fIx r (.int x)) k2) = _
      rw [fIx_tbl (F.ok y hy).1 (F.ok y hy).2.1]
      show R.of (fIx (rowD _) (.int x)) k = _
      rw [fIx_row M (F.ok y hy).1 (F.ok y hy).2.1 x0 x1]
      rfl), fun w hw => ⟨_, rfl, rfl, by
        show (if 2 ≤ sizeLine then R.ok (D.tup [runD y.1, prD w]) k else .no) = _
        rw [if_pos (sl_small (by omega))]⟩⟩
  rw [this]
  exact okLst_some hl
/-- the runs, each a deed longer -/
theorem found_eq (M : MacOk d t) (F : FOk t j f) (x0 : 0 ≤ x) (x1 : x < d) (hj : j ≤ 1000) {e3 : Option D} :
    eLc (iSeq (eVar 5)) (pTup [(pName 6), (pTup [(pName 9), (pName 10)])]) tYs (eTup (eCons (eTup (eStar (eVar 6) (eCons (eTup (eCons (eVar 4) (eCons (eVar 9) (eCons (eVar 10) eNil)))) eNil))) (eCons (eVar 10) eNil))) [6, 9, 10]
      [some (macD d t), some (.int s), some dd, e3, some (.int x), some (.lst (stepsD t x f)), none, none, none, none, none, none] k = .ok (.lst ((goOn t x f).map pairD)) k := by
  have hl : ((goOn t x f).map pairD).length ≤ sizeLine := by
    rw [List.length_map]
    exact sl_small (by have := goOn_len M F x0 x1; omega)
  have ex : stepsD t x f = (f.flatMap fun y => (waysAt t y.2 x).map fun w => (y, w)).map fun q => D.tup [runD q.1.1, prD q.2] := by
    unfold stepsD
    rw [List.map_flatMap]
    refine fl_congr fun y _ => ?_
    rw [List.map_map]
    rfl
  have eg : (goOn t x f).map pairD = (f.flatMap fun y => (waysAt t y.2 x).map fun w => (y, w)).map fun q : (Run × Int) × Way => pairD (q.1.1 ++ [(x, q.2.1, q.2.2)], q.2.2) := by
    unfold goOn
    rw [List.map_flatMap, List.map_flatMap]
    refine fl_congr fun y _ => ?_
    rw [List.map_map, List.map_map]
    rfl
  unfold eLc
  show okLst (lcL _ _ _ _ _ (stepsD t x f) k) = _
  rw [ex, lcL_map (f := fun q : (Run × Int) × Way => pairD (q.1.1 ++ [(x, q.2.1, q.2.2)], q.2.2)) fun q hq => ⟨_, rfl, rfl, ?_⟩, ← eg]
  · exact okLst_some hl
  · obtain ⟨y, hy, hq⟩ := List.mem_flatMap.mp hq
    obtain ⟨w, hw, rfl⟩ := List.mem_map.mp hq
    have l1 := (F.ok y hy).2.2
    have one : eTup (eCons (eVar 4) (eCons (eVar 9) (eCons (eVar 10) eNil))) [some (macD d t), some (.int s), some dd, e3, some (.int x), some (.lst (stepsD t x f)), some (runD y.1), none, none, some (.int w.1), some (.int w.2), none] k = .ok (stepD (x, w.1, w.2)) k := by
      show (if 3 ≤ sizeLine then R.ok (D.tup [.int x, .int w.1, .int w.2]) k else .no) = _
      rw [if_pos (sl_small (by omega))]
      rfl
    have two : eTup (eStar (eVar 6) (eCons (eTup (eCons (eVar 4) (eCons (eVar 9) (eCons (eVar 10) eNil)))) eNil)) [some (macD d t), some (.int s), some dd, e3, some (.int x), some (.lst (stepsD t x f)), some (runD y.1), none, none, some (.int w.1), some (.int w.2), none] k = .ok (runD (y.1 ++ [(x, w.1, w.2)])) k := by
      unfold eTup eStar
      show (((eCons (eTup (eCons (eVar 4) (eCons (eVar 9) (eCons (eVar 10) eNil)))) eNil [some (macD d t), some (.int s), some dd, e3, some (.int x), some (.lst (stepsD t x f)), some (runD y.1), none, none, some (.int w.1), some (.int w.2), none] k).bind fun xs k2 => R.ok (y.1.map stepD ++ xs) k2).bind _) = _
      rw [eCons_ok one rfl]
      show (if (y.1.map stepD ++ [stepD (x, w.1, w.2)]).length ≤ sizeLine then R.ok (D.tup (y.1.map stepD ++ [stepD (x, w.1, w.2)])) k else .no) = _
      rw [if_pos (sl_small (by rw [List.length_append, List.length_map]; show y.1.length + 1 ≤ _; omega))]
      show R.ok (D.tup (y.1.map stepD ++ [stepD (x, w.1, w.2)])) k = R.ok (D.tup ((y.1 ++ [(x, w.1, w.2)]).map stepD)) k
      rw [List.map_append]
      rfl
    show eTup (eCons (eTup (eStar (eVar 6) (eCons (eTup (eCons (eVar 4) (eCons (eVar 9) (eCons (eVar 10) eNil)))) eNil))) (eCons (eVar 10) eNil)) [some (macD d t), some (.int s), some dd, e3, some (.int x), some (.lst _), some (runD y.1), none, none, some (.int w.1), some (.int w.2), none] k = _
    rw [← ex]
    rw [eTup.eq_def]
    show ((eCons _ (eCons (eVar 10) eNil) _ k).bind _) = _
    rw [eCons_ok two (eCons_ok (k2 := k) (xs := []) rfl rfl)]
    show (if 2 ≤ sizeLine then R.ok (D.tup [runD (y.1 ++ [(x, w.1, w.2)]), .int w.2]) k else .no) = _
    rw [if_pos (sl_small (by omega))]
    rfl
end
end K04
end PL

set_option maxHeartbeats 4000000
/-! MK04e: k04: runs. -/
namespace PL
open PySem PySem.Spec L2
open Classical
theorem sSeq_nx {m1 m2 : Stm} {env e1 : Env} {k k1 : Int} (h : m1 env k = .ok (.nx e1) k1) : sSeq m1 m2 env k = m2 e1 k1 := by
  unfold sSeq
  rw [h]
  rfl
namespace K04
section
variable {d s : Int} {t : Tbl} {k : Int} {dd : D}
noncomputable def runsBody : Stm := (sSeq (sSetF 5 (eLc2 (iSeq (eVar 3)) (pTup [(pName 6), (pName 7)]) tYs (iSeq (e2 fIx (e2 fIx (e2 fIx (eVar 0) (eC (.int 1))) (eVar 7)) (eVar 4))) (pName 8) tYs (eTup (eCons (eVar 6) (eCons (eVar 8) eNil))) [6, 7, 8] [8])) (sSeq (sSetF 3 (eLc (iSeq (eVar 5)) (pTup [(pName 6), (pTup [(pName 9), (pName 10)])]) tYs (eTup (eCons (eTup (eStar (eVar 6) (eCons (eTup (eCons (eVar 4) (eCons (eVar 9) (eCons (eVar 10) eNil)))) eNil))) (eCons (eVar 10) eNil))) [6, 9, 10])) (sIf (tV (e2 fGt (eCallB fLen (eCons (eVar 3) eNil)) (eC (.int 5000)))) (sRaise (PySem.Str.ofString "TooLarge")) sNil)))
theorem runs_turn (M : MacOk d t) {x : Int} {j : Nat} {f : List (Run × Int)} {b : Option D} (F : FOk t j f) (x0 : 0 ≤ x) (x1 : x < d) (hj : j ≤ 1000) :
    runsBody [some (macD d t), some (.int s), some dd, some (.lst (f.map pairD)), some (.int x), b, none, none, none, none, none, none] k =
      if 5000 < (goOn t x f).length then .ex "TooLarge" k else .ok (.nx [some (macD d t), some (.int s), some dd, some (.lst ((goOn t x f).map pairD)), some (.int x), some (.lst (stepsD t x f)), none, none, none, none, none, none]) k := by
  have c : e2 fGt (eCallB fLen (eCons (eVar 3) eNil)) (eC (.int 5000)) [some (macD d t), some (.int s), some dd, some (.lst ((goOn t x f).map pairD)), some (.int x), some (.lst (stepsD t x f)), none, none, none, none, none, none] k = .ok (.bl (decide (5000 < (goOn t x f).length))) k := by
    show R.of (fGt (.int (((goOn t x f).map pairD).length : Nat)) (.int 5000)) k = _
    rw [gt_int, List.length_map]
    congr 2
    simp
    omega
  have s1 := steps_eq (s := s) (k := k) (dd := dd) (b := b) M F x0 x1 hj
  have s2 := found_eq (s := s) (k := k) (dd := dd) (e3 := some (.lst (f.map pairD))) M F x0 x1 hj
  unfold runsBody
  unfold sSeq sSetF
  rw [s1]
  show ((sSeq (sSetF 3 _) _) [some (macD d t), some (.int s), some dd, some (.lst (f.map pairD)), some (.int x), some (.lst (stepsD t x f)), none, none, none, none, none, none] k) = _
  unfold sSeq sSetF
  rw [s2]
  show (sIf _ _ _ [some (macD d t), some (.int s), some dd, some (.lst ((goOn t x f).map pairD)), some (.int x), some (.lst (stepsD t x f)), none, none, none, none, none, none] k) = _
  unfold sIf tV
  rw [c]
  by_cases h : 5000 < (goOn t x f).length
  · rw [if_pos h, decide_eq_true h]
    rfl
  · rw [if_neg h, decide_eq_false h]
    rfl
theorem runs_loop (M : MacOk d t) : ∀ {ds : List Int} {j : Nat} {f : List (Run × Int)} {a b : Option D}, FOk t j f → (∀ x ∈ ds, 0 ≤ x ∧ x < d) → j + ds.length ≤ 1000 →
    match runsO t ds f with
    | some f' => FOk t (j + ds.length) f' ∧ ∃ a' b', forL (pName 4) runsBody (ds.map .int) [some (macD d t), some (.int s), some dd, some (.lst (f.map pairD)), a, b, none, none, none, none, none, none] k = .ok (.nx [some (macD d t), some (.int s), some dd, some (.lst (f'.map pairD)), a', b', none, none, none, none, none, none]) k
    | none => forL (pName 4) runsBody (ds.map .int) [some (macD d t), some (.int s), some dd, some (.lst (f.map pairD)), a, b, none, none, none, none, none, none] k = .ex "TooLarge" k
  | [], j, f, a, b, F, _, _ => ⟨F, a, b, rfl⟩
  | x :: ds, j, f, a, b, F, hx, hj => by
    obtain ⟨x0, x1⟩ := hx x List.mem_cons_self
    rw [List.length_cons] at hj
    have turn := runs_turn (s := s) (k := k) (dd := dd) (b := b) M F x0 x1 (by omega)
    unfold runsO
    by_cases h : 5000 < (goOn t x f).length
    · rw [if_pos h] at turn ⊢
      show forL (pName 4) runsBody (.int x :: ds.map .int) _ k = _
      unfold forL
      show ((runsBody [some (macD d t), some (.int s), some dd, some (.lst (f.map pairD)), some (.int x), b, none, none, none, none, none, none] k).bind _) = _
      rw [turn]
      rfl
    · rw [if_neg h] at turn ⊢
      have F2 := goOn_ok M F x0 x1 (by omega)
      have ih := runs_loop M (ds := ds) (a := some (.int x)) (b := some (.lst (stepsD t x f))) F2 (fun y hy => hx y (List.mem_cons_of_mem _ hy)) (by omega)
      have go : forL (pName 4) runsBody ((x :: ds).map .int) [some (macD d t), some (.int s), some dd, some (.lst (f.map pairD)), a, b, none, none, none, none, none, none] k = forL (pName 4) runsBody (ds.map .int) [some (macD d t), some (.int s), some dd, some (.lst ((goOn t x f).map pairD)), some (.int x), some (.lst (stepsD t x f)), none, none, none, none, none, none] k := by
        show forL (pName 4) runsBody (.int x :: ds.map .int) _ k = _
        rw [forL.eq_def]
        show ((runsBody [some (macD d t), some (.int s), some dd, some (.lst (f.map pairD)), some (.int x), b, none, none, none, none, none, none] k).bind _) = _
        rw [turn]
        rfl
      rw [go]
      cases e : runsO t ds (goOn t x f) with
      | none => rw [e] at ih; exact ih
      | some f' =>
        rw [e] at ih
        obtain ⟨i1, a', b', i2⟩ := ih
        refine ⟨?_, a', b', i2⟩
        rw [List.length_cons, show j + (ds.length + 1) = j + 1 + ds.length by omega]
        exact i1
end
/-- all runs have as many steps as there are deeds -/
theorem runsO_len {t : Tbl} : ∀ {ds : List Int} {j : Nat} {f f' : List (Run × Int)}, (∀ x ∈ f, x.1.length = j) → runsO t ds f = some f' → ∀ x ∈ f', x.1.length = j + ds.length
  | [], j, f, f', h, e => by
    cases e
    exact h
  | x :: ds, j, f, f', h, e => by
    unfold runsO at e
    split at e
    · cases e
    · rw [List.length_cons, show j + (ds.length + 1) = j + 1 + ds.length by omega]
      refine runsO_len (f := goOn t x f) (fun z hz => ?_) e
      obtain ⟨y, hy, hz⟩ := List.mem_flatMap.mp hz
      obtain ⟨w, hw, rfl⟩ := List.mem_map.mp hz
      rw [List.length_append, h y hy]
      rfl
theorem py_step (a : Step) : (stepD a).py = .tuple [.int a.1, .int a.2.1, .int a.2.2] := by simp [stepD, D.py, D.pyL]
theorem py_run (r : Run) : (runD r).py = .tuple (r.map fun a => (stepD a).py) := by
  unfold runD
  rw [D.py, D.pyL_map, List.map_map]
  rfl
theorem alike_steps : ∀ a b : Run, PySem.W.alikeAll (a.map fun a => (stepD a).py) (b.map fun a => (stepD a).py) = true
  | [], _ => by simp [PySem.W.alikeAll]
  | _ :: _, [] => by simp [PySem.W.alikeAll]
  | x :: a, y :: b => by
    rw [List.map_cons, List.map_cons, PySem.W.alikeAll, alike_steps a b, Bool.and_true, py_step, py_step]
    simp [PySem.W.alike, PySem.W.alikeAll]
theorem alike_runs (a b : Run) : PySem.W.alike (runD a).py (runD b).py = true := by
  rw [py_run, py_run, PySem.W.alike]
  exact alike_steps a b
theorem pu_step (n : Nat) (a : Step) : Pu (n + 1) (stepD a) := by
  unfold stepD
  rw [Pu]
  intro x hx
  rcases List.mem_cons.mp hx with e | hx
  · subst e; exact pu_int _ _
  rcases List.mem_cons.mp hx with e | hx
  · subst e; exact pu_int _ _
  · rw [List.mem_singleton] at hx; subst hx; exact pu_int _ _
theorem pu_run (n : Nat) (r : Run) : Pu (n + 2) (runD r) := by
  unfold runD
  rw [Pu]
  intro x hx
  obtain ⟨a, _, rfl⟩ := List.mem_map.mp hx
  exact pu_step _ _
theorem sort_runs {rs : List Run} (hl : rs.length ≤ 1000000) (h : rs.length ≤ 1 ∨ ∀ r ∈ rs, r ≠ []) : SortOk (rs.map runD) := by
  refine ⟨fun x hx => ?_, by rw [List.length_map]; exact sl_small hl, fun x hx y hy => ?_, ?_⟩
  · obtain ⟨r, _, rfl⟩ := List.mem_map.mp hx
    exact pu_run 38 r
  · obtain ⟨a, ha, rfl⟩ := List.mem_map.mp hx
    obtain ⟨b, hb, rfl⟩ := List.mem_map.mp hy
    obtain ⟨r, _, rfl⟩ := List.mem_map.mp ha
    obtain ⟨q, _, rfl⟩ := List.mem_map.mp hb
    exact alike_runs r q
  · rcases h with h | h
    · refine .inr ⟨by rw [List.length_map]; exact h, fun x hx => ?_⟩
      obtain ⟨r, _, rfl⟩ := List.mem_map.mp hx
      rw [py_run]
      exact fun z => nomatch z
    · refine .inl (.inl fun x hx => ?_)
      obtain ⟨a, ha, rfl⟩ := List.mem_map.mp hx
      obtain ⟨r, hr, rfl⟩ := List.mem_map.mp ha
      rw [py_run]
      cases r with
      | nil => exact absurd rfl (h _ hr)
      | cons y z => exact ⟨_, _, rfl⟩
/-- what runs answers -/
theorem runs_eq {d s : Int} {t : Tbl} {ds : List Int} {k : Int} (M : MacOk d t) (s0 : 0 ≤ s) (s1 : s < t.length) (hl : ds.length ≤ 200) (hd : ∀ x ∈ ds, 0 ≤ x ∧ x < d) :
    φ_runs [macD d t, .int s, intsD ds] k = match runsO t ds [([], s)] with
      | some f => .ok (.tup (sortD (f.map fun y => runD y.1))) k
      | none => .ex "TooLarge" k := by
  have F0 : FOk t 0 [(([] : Run), s)] := ⟨(by show 1 ≤ 5000; omega), fun x hx => by
    rw [List.mem_singleton] at hx
    subst hx
    exact ⟨s0, s1, Nat.le_refl _⟩⟩
  have loop := runs_loop (s := s) (k := k) (dd := intsD ds) M (a := none) (b := none) F0 hd (by omega)
  have e1 : sExpr (eCall φ_check_deeds (eCons (eVar 0) (eCons (eVar 1) (eCons (eVar 2) eNil)))) [some (macD d t), some (.int s), some (intsD ds), none, none, none, none, none, none, none, none, none] k = .ok (.nx [some (macD d t), some (.int s), some (intsD ds), none, none, none, none, none, none, none, none, none]) k := by
    unfold sExpr
    rw [eCall_ok (eCons_ok rfl (eCons_ok rfl (eCons_ok rfl rfl))), check_deeds M (by omega), if_pos ⟨s0, s1⟩, if_neg (by omega), if_pos hd]
    rfl
  have e2' : sSet 3 (eLst (eCons (eTup (eCons (eTup eNil) (eCons (eVar 1) eNil))) eNil)) [some (macD d t), some (.int s), some (intsD ds), none, none, none, none, none, none, none, none, none] k = .ok (.nx [some (macD d t), some (.int s), some (intsD ds), some (.lst ([(([] : Run), s)].map pairD)), none, none, none, none, none, none, none, none]) k := by
    have a1 : eTup eNil [some (macD d t), some (.int s), some (intsD ds), none, none, none, none, none, none, none, none, none] k = .ok (.tup []) k := by
      show (if 0 ≤ sizeLine then R.ok (D.tup []) k else .no) = _
      rw [if_pos (sl_small (by omega))]
    have a2 : eTup (eCons (eTup eNil) (eCons (eVar 1) eNil)) [some (macD d t), some (.int s), some (intsD ds), none, none, none, none, none, none, none, none, none] k = .ok (.tup [.tup [], .int s]) k := by
      rw [eTup.eq_def]
      show ((eCons _ (eCons (eVar 1) eNil) _ k).bind _) = _
      rw [eCons_ok a1 (eCons_ok (k2 := k) (xs := []) rfl rfl)]
      show (if 2 ≤ sizeLine then R.ok (D.tup [.tup [], .int s]) k else .no) = _
      rw [if_pos (sl_small (by omega))]
    unfold sSet eLst
    rw [eCons_ok a2 rfl]
    show ((if 1 ≤ sizeLine then R.ok (D.lst [.tup [.tup [], .int s]]) k else .no).bind _) = _
    rw [if_pos (sl_small (by omega))]
    rfl
  show (m_runs [some (macD d t), some (.int s), some (intsD ds), none, none, none, none, none, none, none, none, none] k).bind _ = _
  have unf : m_runs = sSeq (sExpr (eCall φ_check_deeds (eCons (eVar 0) (eCons (eVar 1) (eCons (eVar 2) eNil))))) (sSeq (sSet 3 (eLst (eCons (eTup (eCons (eTup eNil) (eCons (eVar 1) eNil))) eNil))) (sSeq (sFor (iSeq (eVar 2)) (pName 4) runsBody) (sRet (eCallB (f1 fTup) (eCons (eCallB fSorted (eCons (eLc (iSeq (eVar 3)) (pTup [(pName 6), (pName 11)]) tYs (eVar 6) [6, 11]) eNil)) eNil))))) := rfl
  rw [unf]
  rw [sSeq_nx e1, sSeq_nx e2']
  have it : iSeq (eVar 2) [some (macD d t), some (.int s), some (intsD ds), some (.lst ([(([] : Run), s)].map pairD)), none, none, none, none, none, none, none, none] k = .ok (ds.map .int) k := iSeq_tup rfl
  cases e : runsO t ds [([], s)] with
  | none =>
    rw [e] at loop
    have loop : forL (pName 4) runsBody (ds.map .int) [some (macD d t), some (.int s), some (intsD ds), some (.lst ([(([] : Run), s)].map pairD)), none, none, none, none, none, none, none, none] k = .ex "TooLarge" k := loop
    have sf : sFor (iSeq (eVar 2)) (pName 4) runsBody [some (macD d t), some (.int s), some (intsD ds), some (.lst ([(([] : Run), s)].map pairD)), none, none, none, none, none, none, none, none] k = .ex "TooLarge" k := by
      unfold sFor
      rw [it]
      exact loop
    unfold sSeq
    rw [sf]
    rfl
  | some f =>
    rw [e] at loop
    obtain ⟨F, a', b', loop⟩ := loop
    have sf : sFor (iSeq (eVar 2)) (pName 4) runsBody [some (macD d t), some (.int s), some (intsD ds), some (.lst ([(([] : Run), s)].map pairD)), none, none, none, none, none, none, none, none] k = .ok (.nx [some (macD d t), some (.int s), some (intsD ds), some (.lst (f.map pairD)), a', b', none, none, none, none, none, none]) k := by
      unfold sFor
      rw [it]
      exact loop
    rw [sSeq_nx sf]
    have lens := runsO_len (t := t) (ds := ds) (j := 0) (f := [([], s)]) (fun x hx => by rw [List.mem_singleton] at hx; subst hx; rfl) e
    have so : SortOk (f.map fun y => runD y.1) := by
      have := sort_runs (rs := f.map (·.1)) (by rw [List.length_map]; have := F.few; omega) (by
        cases ds with
        | nil => cases e; exact .inl (Nat.le_refl 1)
        | cons x r =>
          refine .inr fun q hq => ?_
          obtain ⟨y, hy, rfl⟩ := List.mem_map.mp hq
          intro z
          have := lens y hy
          rw [z, List.length_cons] at this
          simp at this)
      rw [List.map_map] at this
      exact this
    have lc : eLc (iSeq (eVar 3)) (pTup [(pName 6), (pName 11)]) tYs (eVar 6) [6, 11] [some (macD d t), some (.int s), some (intsD ds), some (.lst (f.map pairD)), a', b', none, none, none, none, none, none] k = .ok (.lst (f.map fun y => runD y.1)) k := by
      unfold eLc
      show okLst (lcL _ _ _ _ _ (f.map pairD) k) = _
      rw [lcL_map (g := pairD) (f := fun y : Run × Int => runD y.1) fun y hy => ⟨_, rfl, rfl, rfl⟩, okLst_some (by rw [List.length_map]; exact sl_small (by have := F.few; omega))]
    show ((sRet (eCallB (f1 fTup) (eCons (eCallB fSorted (eCons (eLc (iSeq (eVar 3)) (pTup [(pName 6), (pName 11)]) tYs (eVar 6) [6, 11]) eNil)) eNil)) [some (macD d t), some (.int s), some (intsD ds), some (.lst (f.map pairD)), a', b', none, none, none, none, none, none] k).bind _) = _
    have srt : eCallB fSorted (eCons (eLc (iSeq (eVar 3)) (pTup [(pName 6), (pName 11)]) tYs (eVar 6) [6, 11]) eNil) [some (macD d t), some (.int s), some (intsD ds), some (.lst (f.map pairD)), a', b', none, none, none, none, none, none] k = .ok (.lst (sortD (f.map fun y => runD y.1))) k := by
      unfold eCallB
      rw [eCons_ok lc rfl]
      show R.of (if SortOk _ then some (D.lst (sortD _)) else none) k = _
      rw [if_pos so]
      rfl
    unfold sRet
    rw [eCallB.eq_def]
    show (((eCons _ eNil _ k).bind _).bind _).bind _ = _
    rw [eCons_ok srt rfl]
    rfl
end K04
end PL

set_option maxHeartbeats 4000000
/-! MK04f: k04: the law's own runs. -/
namespace PL
open PySem PySem.Spec L2
open Classical
theorem e2_ok {f : D → D → Option D} {a b : Ev} {env : Env} {k k1 k2 : Int} {x y r : D} (h : a env k = .ok x k1) (g : b env k1 = .ok y k2) (e : f x y = some r) : e2 f a b env k = .ok r k2 := by
  unfold e2
  rw [h]
  show ((b env k1).bind fun y k2 => R.of (f x y) k2) = _
  rw [g]
  show R.of (f x y) k2 = _
  rw [e]
  rfl
theorem eTup_ok {ms : Els} {env : Env} {k k1 : Int} {ds : List D} (h : ms env k = .ok ds k1) (l : ds.length ≤ 1000000) : eTup ms env k = .ok (.tup ds) k1 := by
  unfold eTup
  rw [h]
  exact if_pos (sl_small l)
theorem eLst_ok {ms : Els} {env : Env} {k k1 : Int} {ds : List D} (h : ms env k = .ok ds k1) (l : ds.length ≤ 1000000) : eLst ms env k = .ok (.lst ds) k1 := by
  unfold eLst
  rw [h]
  exact if_pos (sl_small l)
theorem eCallB_ok {f : List D → Option D} {ms : Els} {env : Env} {k k1 : Int} {ds : List D} {r : D} (h : ms env k = .ok ds k1) (e : f ds = some r) : eCallB f ms env k = .ok r k1 := by
  unfold eCallB
  rw [h]
  show R.of (f ds) k1 = _
  rw [e]
  rfl
theorem sSet_ok {i : Nat} {m : Ev} {env : Env} {k k1 : Int} {d : D} (h : m env k = .ok d k1) : sSet i m env k = .ok (.nx (env.set i (some d))) k1 := by
  unfold sSet
  rw [h]
  rfl
theorem sRet_ok {m : Ev} {env : Env} {k k1 : Int} {d : D} (h : m env k = .ok d k1) : sRet m env k = .ok (.rt d) k1 := by
  unfold sRet
  rw [h]
  rfl
theorem add_tup {xs ys : List D} (h : xs.length + ys.length ≤ 1000000) : fAdd (.tup xs) (.tup ys) = some (.tup (xs ++ ys)) := if_pos (sl_small h)
theorem cat_lst {xs ys : List D} (h : xs.length + ys.length ≤ 1000000) : fCat (.lst xs) (.lst ys) = some (.lst (xs ++ ys)) := if_pos (sl_small h)
namespace K04
section
variable {d s x : Int} {t : Tbl} {j : Nat} {f : List (Run × Int)} {k : Int} {dd : D}
noncomputable def lawIn : Stm := (sSet 5 (e2 fCat (eVar 5) (eLc (iSeq (e2 fIx (e2 fIx (e2 fIx (eVar 0) (eC (.int 1))) (eVar 7)) (eVar 4))) (pName 8) tYs (eTup (eCons (e2 fAdd (eVar 6) (eTup (eCons (e2 fAdd (eTup (eCons (eVar 4) eNil)) (eVar 8)) eNil))) (eCons (e2 fIx (eVar 8) (eC (.int 1))) eNil))) [8])))
def nextOf (t : Tbl) (x : Int) (y : Run × Int) : List (Run × Int) := (waysAt t y.2 x).map fun w => (y.1 ++ [(x, w.1, w.2)], w.2)
theorem law_in (M : MacOk d t) (x0 : 0 ≤ x) (x1 : x < d) {wide : List (Run × Int)} {y : Run × Int} {e3 : Option D} (y0 : 0 ≤ y.2) (y1 : y.2 < t.length) (yl : y.1.length ≤ 1000) (hw : wide.length + 64 ≤ 1000000) :
    lawIn [some (macD d t), some (.int s), some dd, e3, some (.int x), some (.lst (wide.map pairD)), some (runD y.1), some (.int y.2), none] k = .ok (.nx [some (macD d t), some (.int s), some dd, e3, some (.int x), some (.lst ((wide ++ nextOf t x y).map pairD)), some (runD y.1), some (.int y.2), none]) k := by
  have W := waysAt_ok M y0 y1 x0 x1
  have it : iSeq (e2 fIx (e2 fIx (e2 fIx (eVar 0) (eC (.int 1))) (eVar 7)) (eVar 4)) [some (macD d t), some (.int s), some dd, e3, some (.int x), some (.lst (wide.map pairD)), some (runD y.1), some (.int y.2), none] k = .ok ((waysAt t y.2 x).map prD) k := iSeq_tup (by
    show ((R.of (fIx (tblD t) (.int y.2)) k).bind fun r k2 => R.of (fIx r (.int x)) k2) = _
    rw [fIx_tbl y0 y1]
    show R.of (fIx (rowD _) (.int x)) k = _
    rw [fIx_row M y0 y1 x0 x1]
    rfl)
  have A := eLc_name (i := 8) (m := eTup (eCons (e2 fAdd (eVar 6) (eTup (eCons (e2 fAdd (eTup (eCons (eVar 4) eNil)) (eVar 8)) eNil))) (eCons (e2 fIx (eVar 8) (eC (.int 1))) eNil))) (f := fun w => pairD (y.1 ++ [(x, w.1, w.2)], w.2)) it (sl_small (by have := W.few; omega)) fun w _ => by
    show eTup _ [some (macD d t), some (.int s), some dd, e3, some (.int x), some (.lst (wide.map pairD)), some (runD y.1), some (.int y.2), some (prD w)] k = _
    have a1 : e2 fAdd (eTup (eCons (eVar 4) eNil)) (eVar 8) [some (macD d t), some (.int s), some dd, e3, some (.int x), some (.lst (wide.map pairD)), some (runD y.1), some (.int y.2), some (prD w)] k = .ok (stepD (x, w.1, w.2)) k := by
      exact e2_ok (eTup_ok (eCons_ok rfl rfl) (by show 1 ≤ _; omega)) rfl (add_tup (by show 1 + 2 ≤ _; omega))
    have a2 : eTup (eCons (e2 fAdd (eTup (eCons (eVar 4) eNil)) (eVar 8)) eNil) [some (macD d t), some (.int s), some dd, e3, some (.int x), some (.lst (wide.map pairD)), some (runD y.1), some (.int y.2), some (prD w)] k = .ok (.tup [stepD (x, w.1, w.2)]) k := by
      exact eTup_ok (eCons_ok a1 rfl) (by show 1 ≤ _; omega)
    have a3 : e2 fAdd (eVar 6) (eTup (eCons (e2 fAdd (eTup (eCons (eVar 4) eNil)) (eVar 8)) eNil)) [some (macD d t), some (.int s), some dd, e3, some (.int x), some (.lst (wide.map pairD)), some (runD y.1), some (.int y.2), some (prD w)] k = .ok (runD (y.1 ++ [(x, w.1, w.2)])) k := by
      have := e2_ok (k := k) (a := eVar 6) (x := runD y.1) (f := fAdd) rfl a2 (add_tup (xs := y.1.map stepD) (by rw [List.length_map]; show y.1.length + 1 ≤ _; omega))
      rw [this]
      show R.ok (D.tup (y.1.map stepD ++ [stepD (x, w.1, w.2)])) k = R.ok (D.tup ((y.1 ++ [(x, w.1, w.2)]).map stepD)) k
      rw [List.map_append]
      rfl
    exact eTup_ok (eCons_ok a3 (eCons_ok (k2 := k) (xs := []) (x := .int w.2) (k1 := k) rfl rfl)) (by show 2 ≤ _; omega)
  have e : (wide.map pairD) ++ ((waysAt t y.2 x).map fun w => pairD (y.1 ++ [(x, w.1, w.2)], w.2)) = (wide ++ nextOf t x y).map pairD := by
    unfold nextOf
    rw [List.map_append, List.map_map]
    rfl
  unfold lawIn
  rw [sSet_ok (e2_ok (k1 := k) (x := .lst (wide.map pairD)) rfl A (cat_lst (by rw [List.length_map, List.length_map]; have := W.few; omega))), e]
  rfl
theorem law_inner (M : MacOk d t) (x0 : 0 ≤ x) (x1 : x < d) {e3 : Option D} : ∀ {f : List (Run × Int)} {wide : List (Run × Int)} {a b : Option D}, (∀ y ∈ f, 0 ≤ y.2 ∧ y.2 < t.length ∧ y.1.length ≤ 1000) → wide.length + f.length * 64 ≤ 1000000 →
    ∃ a' b', forL (pTup [(pName 6), (pName 7)]) lawIn (f.map pairD) [some (macD d t), some (.int s), some dd, e3, some (.int x), some (.lst (wide.map pairD)), a, b, none] k = .ok (.nx [some (macD d t), some (.int s), some dd, e3, some (.int x), some (.lst ((wide ++ goOn t x f).map pairD)), a', b', none]) k
  | [], wide, a, b, _, _ => ⟨a, b, by
    show R.ok _ k = _
    unfold goOn
    rw [List.flatMap_nil, List.append_nil]⟩
  | y :: f, wide, a, b, h, hl => by
    obtain ⟨y0, y1, yl⟩ := h y List.mem_cons_self
    rw [List.length_cons, Nat.succ_mul] at hl
    have one := law_in (s := s) (dd := dd) (k := k) (e3 := e3) M x0 x1 y0 y1 yl (wide := wide) (by omega)
    have ln : (nextOf t x y).length ≤ 64 := by
      unfold nextOf
      rw [List.length_map]
      exact Nat.le_of_lt (waysAt_ok M y0 y1 x0 x1).few
    obtain ⟨a', b', ih⟩ := law_inner M x0 x1 (e3 := e3) (f := f) (wide := wide ++ nextOf t x y) (a := some (runD y.1)) (b := some (.int y.2)) (fun z hz => h z (List.mem_cons_of_mem _ hz)) (by rw [List.length_append]; omega)
    refine ⟨a', b', ?_⟩
    show forL _ lawIn (pairD y :: f.map pairD) _ k = _
    rw [forL.eq_def]
    show ((lawIn [some (macD d t), some (.int s), some dd, e3, some (.int x), some (.lst (wide.map pairD)), some (runD y.1), some (.int y.2), none] k).bind _) = _
    rw [one]
    show forL _ lawIn (f.map pairD) _ k = _
    rw [ih, List.append_assoc]
    rfl
end
end K04
end PL

set_option maxHeartbeats 4000000
/-! MK04g: k04: the law's own runs, whole; what is a run. -/
namespace PL
open PySem PySem.Spec L2
open Classical
theorem sFor_ok {it : Its} {p : Pt} {b : Stm} {env : Env} {k k1 : Int} {ds : List D} (h : it env k = .ok ds k1) : sFor it p b env k = forL p b ds env k1 := by
  unfold sFor
  rw [h]
  rfl
theorem forL_nx {p : Pt} {b : Stm} {d : D} {ds : List D} {env e1 e2 : Env} {k k1 : Int} (h : p d env = some e1) (g : b e1 k = .ok (.nx e2) k1) : forL p b (d :: ds) env k = forL p b ds e2 k1 := by
  rw [forL.eq_def]
  simp only [h, g, R.bind_ok]
namespace K04
section
variable {d s : Int} {t : Tbl} {k : Int}
noncomputable def lawTurn : Stm := (sSeq (sSet 5 (eLst eNil)) (sSeq (sFor (iSeq (eVar 3)) (pTup [(pName 6), (pName 7)]) lawIn) (sSet 3 (eVar 5))))
theorem law_turn (M : MacOk d t) {x : Int} {dd : D} {j : Nat} {f : List (Run × Int)} {e5 a b : Option D} (x0 : 0 ≤ x) (x1 : x < d) (F : FOk t j f) (hj : j ≤ 1000) :
    ∃ a' b', lawTurn [some (macD d t), some (.int s), some dd, some (.lst (f.map pairD)), some (.int x), e5, a, b, none] k = .ok (.nx [some (macD d t), some (.int s), some dd, some (.lst ((goOn t x f).map pairD)), some (.int x), some (.lst ((goOn t x f).map pairD)), a', b', none]) k := by
  obtain ⟨a', b', h⟩ := law_inner (s := s) (dd := dd) (k := k) M x0 x1 (e3 := some (.lst (f.map pairD))) (f := f) (wide := []) (a := a) (b := b) (fun y hy => ⟨(F.ok y hy).1, (F.ok y hy).2.1, Nat.le_trans (F.ok y hy).2.2 hj⟩) (by have := F.few; show 0 + _ ≤ _; omega)
  refine ⟨a', b', ?_⟩
  unfold lawTurn
  rw [sSeq_nx (sSet_ok (eLst_ok (k1 := k) (ds := []) rfl (by show 0 ≤ _; omega)))]
  have sf : sFor (iSeq (eVar 3)) (pTup [(pName 6), (pName 7)]) lawIn [some (macD d t), some (.int s), some dd, some (.lst (f.map pairD)), some (.int x), some (.lst []), a, b, none] k = .ok (.nx [some (macD d t), some (.int s), some dd, some (.lst (f.map pairD)), some (.int x), some (.lst ((goOn t x f).map pairD)), a', b', none]) k := by
    rw [sFor_ok (ds := f.map pairD) (k1 := k) (iSeq_lst rfl)]
    exact h
  show sSeq (sFor (iSeq (eVar 3)) (pTup [(pName 6), (pName 7)]) lawIn) _ [some (macD d t), some (.int s), some dd, some (.lst (f.map pairD)), some (.int x), some (.lst []), a, b, none] k = _
  rw [sSeq_nx sf]
  rfl
theorem law_loop (M : MacOk d t) {dd : D} : ∀ {ds : List Int} {j : Nat} {f f' : List (Run × Int)} {c e5 a b : Option D}, FOk t j f → (∀ x ∈ ds, 0 ≤ x ∧ x < d) → j + ds.length ≤ 1000 → runsO t ds f = some f' →
    ∃ c' e' a' b', forL (pName 4) lawTurn (ds.map .int) [some (macD d t), some (.int s), some dd, some (.lst (f.map pairD)), c, e5, a, b, none] k = .ok (.nx [some (macD d t), some (.int s), some dd, some (.lst (f'.map pairD)), c', e', a', b', none]) k
  | [], j, f, f', c, e5, a, b, F, _, _, e => by
    cases e
    exact ⟨c, e5, a, b, rfl⟩
  | x :: ds, j, f, f', c, e5, a, b, F, hx, hj, e => by
    obtain ⟨x0, x1⟩ := hx x List.mem_cons_self
    rw [List.length_cons] at hj
    unfold runsO at e
    split at e
    · cases e
    · rename_i hle
      obtain ⟨a1, b1, turn⟩ := law_turn (s := s) (k := k) (dd := dd) (e5 := e5) (a := a) (b := b) M x0 x1 F (by omega)
      obtain ⟨c', e', a', b', ih⟩ := law_loop M (dd := dd) (ds := ds) (c := some (.int x)) (e5 := some (.lst ((goOn t x f).map pairD))) (a := a1) (b := b1) (goOn_ok M F x0 x1 (by omega)) (fun y hy => hx y (List.mem_cons_of_mem _ hy)) (by omega) e
      refine ⟨c', e', a', b', ?_⟩
      rw [List.map_cons, forL_nx (e1 := [some (macD d t), some (.int s), some dd, some (.lst (f.map pairD)), some (.int x), e5, a, b, none]) rfl turn]
      exact ih
/-- what the law's own runs are -/
theorem law_runs {ds : List Int} {f : List (Run × Int)} (M : MacOk d t) (s0 : 0 ≤ s) (s1 : s < t.length) (hl : ds.length ≤ 200) (hd : ∀ x ∈ ds, 0 ≤ x ∧ x < d) (e : runsO t ds [([], s)] = some f) :
    φ_law_runs [macD d t, .int s, intsD ds] k = .ok (.lst (sortD (f.map fun y => runD y.1))) k := by
  have F0 : FOk t 0 [(([] : Run), s)] := ⟨(by show 1 ≤ 5000; omega), fun x hx => by
    rw [List.mem_singleton] at hx
    subst hx
    exact ⟨s0, s1, Nat.le_refl _⟩⟩
  have loopR := runs_loop (s := s) (k := k) (dd := intsD ds) M (a := none) (b := none) F0 hd (by omega)
  rw [e] at loopR
  have F := loopR.1
  obtain ⟨c', e', a', b', loop⟩ := law_loop (s := s) (k := k) (dd := intsD ds) M (c := none) (e5 := none) (a := none) (b := none) F0 hd (by omega) e
  have lens := runsO_len (t := t) (ds := ds) (j := 0) (f := [([], s)]) (fun x hx => by rw [List.mem_singleton] at hx; subst hx; rfl) e
  have so : SortOk (f.map fun y => runD y.1) := by
    have := sort_runs (rs := f.map (·.1)) (by rw [List.length_map]; have := F.few; omega) (by
      cases ds with
      | nil => cases e; exact .inl (Nat.le_refl 1)
      | cons x r =>
        refine .inr fun q hq => ?_
        obtain ⟨y, hy, rfl⟩ := List.mem_map.mp hq
        intro z
        have := lens y hy
        rw [z, List.length_cons] at this
        simp at this)
    rw [List.map_map] at this
    exact this
  have e2' : sSet 3 (eLst (eCons (eTup (eCons (eTup eNil) (eCons (eVar 1) eNil))) eNil)) [some (macD d t), some (.int s), some (intsD ds), none, none, none, none, none, none] k = .ok (.nx [some (macD d t), some (.int s), some (intsD ds), some (.lst ([(([] : Run), s)].map pairD)), none, none, none, none, none]) k :=
    sSet_ok (eLst_ok (ds := [.tup [.tup [], .int s]]) (eCons_ok (k2 := k) (eTup_ok (ds := [.tup [], .int s]) (eCons_ok (eTup_ok (ds := []) rfl (by show 0 ≤ _; omega)) rfl) (by show 2 ≤ _; omega)) rfl) (by show 1 ≤ _; omega))
  show (m_law_runs [some (macD d t), some (.int s), some (intsD ds), none, none, none, none, none, none] k).bind _ = _
  have unf : m_law_runs = sSeq (sSet 3 (eLst (eCons (eTup (eCons (eTup eNil) (eCons (eVar 1) eNil))) eNil))) (sSeq (sFor (iSeq (eVar 2)) (pName 4) lawTurn) (sRet (eCallB fSorted (eCons (eLc (iSeq (eVar 3)) (pTup [(pName 6), (pName 7)]) tYs (eVar 6) [6, 7]) eNil)))) := rfl
  have sf : sFor (iSeq (eVar 2)) (pName 4) lawTurn [some (macD d t), some (.int s), some (intsD ds), some (.lst ([(([] : Run), s)].map pairD)), none, none, none, none, none] k = .ok (.nx [some (macD d t), some (.int s), some (intsD ds), some (.lst (f.map pairD)), c', e', a', b', none]) k := by
    rw [sFor_ok (ds := ds.map .int) (k1 := k) (iSeq_tup rfl)]
    exact loop
  have lc : eLc (iSeq (eVar 3)) (pTup [(pName 6), (pName 7)]) tYs (eVar 6) [6, 7] [some (macD d t), some (.int s), some (intsD ds), some (.lst (f.map pairD)), c', e', a', b', none] k = .ok (.lst (f.map fun y => runD y.1)) k := by
    unfold eLc
    show okLst (lcL _ _ _ _ _ (f.map pairD) k) = _
    rw [lcL_map (g := pairD) (f := fun y : Run × Int => runD y.1) fun y hy => ⟨_, rfl, rfl, rfl⟩, okLst_some (by rw [List.length_map]; exact sl_small (by have := F.few; omega))]
  rw [unf, sSeq_nx e2', sSeq_nx sf, sRet_ok (eCallB_ok (eCons_ok lc rfl) (if_pos so))]
  rfl
end
end K04
end PL

set_option maxHeartbeats 4000000
/-! MK04h: k04: what is a run. -/
namespace PL
open PySem PySem.Spec L2
open Classical
theorem eqv_pr (p q : Int × Int) : eqD (prD p) (prD q) = decide (p = q) := by
  obtain ⟨a, b⟩ := p
  obtain ⟨c, d⟩ := q
  unfold eqD prD
  simp only [D.py, D.pyL, PyData.eqv, PyData.eqvAll, Bool.and_true]
  rw [Bool.eq_iff_iff]
  simp
theorem notIn_pr (p : Int × Int) (ws : List (Int × Int)) : fNotIn (prD p) (.tup (ws.map prD)) = some (.bl (!decide (p ∈ ws))) := by
  have hp : Pu 40 (.tup (ws.map prD)) := by
    rw [Pu]
    intro x hx
    obtain ⟨w, _, rfl⟩ := List.mem_map.mp hx
    exact pu_pr 38 w
  show (if Pu 40 (prD p) ∧ Pu 40 (.tup (ws.map prD)) then some (D.bl (!inD (prD p) (ws.map prD))) else none) = _
  rw [if_pos ⟨pu_pr 39 p, hp⟩]
  congr 3
  unfold inD
  rw [List.any_map, Bool.eq_iff_iff, List.any_eq_true, decide_eq_true_eq]
  constructor
  · rintro ⟨q, hq, e⟩
    have e : eqD (prD q) (prD p) = true := e
    rw [eqv_pr, decide_eq_true_eq] at e
    rw [← e]
    exact hq
  · intro h
    refine ⟨p, h, ?_⟩
    show eqD (prD p) (prD p) = true
    rw [eqv_pr, decide_eq_true rfl]
namespace K04
def iStepD (l : List Int) : D := .tup (l.map .int)
def iRunD (r : List (List Int)) : D := .tup (r.map iStepD)
section
variable {d s h : Int} {t : Tbl} {k : Int} {x y z : D}
noncomputable def cTest : Et := (tOr2 (tV (e2 fNe (eCallB fLen (eCons (eVar 4) eNil)) (eC (.int 3)))) (tOr2 (tNt (tV (eChain fLe fLt (eC (.int 0)) (e2 fIx (eVar 4) (eC (.int 0))) (e2 fIx (eVar 0) (eC (.int 0)))))) (tV (e2 fNotIn (eTup (eCons (e2 fIx (eVar 4) (eC (.int 1))) (eCons (e2 fIx (eVar 4) (eC (.int 2))) eNil))) (e2 fIx (e2 fIx (e2 fIx (eVar 0) (eC (.int 1))) (eVar 3)) (e2 fIx (eVar 4) (eC (.int 0))))))))
noncomputable def lTest : Et := (tOr2 (tV (e2 fNe (eCallB fLen (eCons (eVar 4) eNil)) (eC (.int 3)))) (tOr2 (tV (e2 (fInRng true) (e2 fIx (eVar 4) (eC (.int 0))) (e2 fIx (eVar 0) (eC (.int 0))))) (tV (e2 fNotIn (eTup (eCons (e2 fIx (eVar 4) (eC (.int 1))) (eCons (e2 fIx (eVar 4) (eC (.int 2))) eNil))) (e2 fIx (e2 fIx (e2 fIx (eVar 0) (eC (.int 1))) (eVar 3)) (e2 fIx (eVar 4) (eC (.int 0))))))))
/-- no step: seen by both -/
def bad (d : Int) (t : Tbl) (h : Int) : List Int → Bool
  | [a, b, c] => !(decide (0 ≤ a ∧ a < d) && decide ((b, c) ∈ waysAt t h a))
  | _ => true
theorem bad3 (d : Int) (t : Tbl) (h a b c : Int) : bad d t h [a, b, c] = !(decide (0 ≤ a ∧ a < d) && decide ((b, c) ∈ waysAt t h a)) := rfl
theorem len3 (l : List Int) : e2 fNe (eCallB fLen (eCons (eVar 4) eNil)) (eC (.int 3)) [some (macD d t), some x, some y, some (.int h), some (iStepD l)] k = .ok (.bl (!decide (l.length = 3))) k := by
  refine e2_ok (k1 := k) (x := .int ((l.map D.int).length : Nat)) rfl rfl ?_
  rw [ne_int, List.length_map]
  congr 2
  rw [Bool.eq_iff_iff]
  simp
  omega
theorem in_eq (M : MacOk d t) (h0 : 0 ≤ h) (h1 : h < t.length) {a b c : Int} (a0 : 0 ≤ a) (a1 : a < d) : e2 fNotIn (eTup (eCons (e2 fIx (eVar 4) (eC (.int 1))) (eCons (e2 fIx (eVar 4) (eC (.int 2))) eNil))) (e2 fIx (e2 fIx (e2 fIx (eVar 0) (eC (.int 1))) (eVar 3)) (e2 fIx (eVar 4) (eC (.int 0))))
    [some (macD d t), some x, some y, some (.int h), some (iStepD [a, b, c])] k = .ok (.bl (!decide ((b, c) ∈ waysAt t h a))) k :=
  e2_ok (eTup_ok (ds := [.int b, .int c]) (eCons_ok (k1 := k) rfl (eCons_ok (k1 := k) (k2 := k) rfl rfl)) (by show 2 ≤ _; omega)) (e2_ok (e2_ok (k1 := k) (k2 := k) (x := tblD t) rfl rfl (fIx_tbl h0 h1)) (k2 := k) (y := .int a) rfl (fIx_row M h0 h1 a0 a1)) (notIn_pr (b, c) _)
theorem cTest_eq (M : MacOk d t) (h0 : 0 ≤ h) (h1 : h < t.length) (l : List Int) : cTest [some (macD d t), some x, some y, some (.int h), some (iStepD l)] k = .ok (bad d t h l) k := by
  unfold cTest
  by_cases hl : l.length = 3
  · obtain ⟨a, b, c, rfl⟩ : ∃ a b c, l = [a, b, c] := by
      match l, hl with
      | [a, b, c], _ => exact ⟨a, b, c, rfl⟩
    have ch := chain_ii (a := eC (.int 0)) (b := e2 fIx (eVar 4) (eC (.int 0))) (c := e2 fIx (eVar 0) (eC (.int 0))) (x := 0) (y := a) (z := d) (env := [some (macD d t), some x, some y, some (.int h), some (iStepD [a, b, c])]) (k := k) rfl rfl rfl
    simp only [tOr2, tV, tNt, len3, ch, R.bind_ok, toB, hl, decide_true, Bool.not_true, Bool.false_eq_true, if_false]
    by_cases ha : 0 ≤ a ∧ a < d
    · rw [decide_eq_true ha]
      simp only [Bool.not_true, Bool.false_eq_true, if_false, in_eq M h0 h1 ha.1 ha.2, R.bind_ok, toB]
      rw [bad3, decide_eq_true ha, Bool.true_and]
    · rw [bad3, decide_eq_false ha]
      rfl
  · have hb : bad d t h l = true := by
      unfold bad
      split
      · exact absurd rfl hl
      · rfl
    simp only [tOr2, tV, len3, R.bind_ok, toB, decide_eq_false hl, Bool.not_false, if_true, hb]
theorem lTest_eq (M : MacOk d t) (h0 : 0 ≤ h) (h1 : h < t.length) (l : List Int) : lTest [some (macD d t), some x, some y, some (.int h), some (iStepD l)] k = .ok (bad d t h l) k := by
  unfold lTest
  by_cases hl : l.length = 3
  · obtain ⟨a, b, c, rfl⟩ : ∃ a b c, l = [a, b, c] := by
      match l, hl with
      | [a, b, c], _ => exact ⟨a, b, c, rfl⟩
    have ch : e2 (fInRng true) (e2 fIx (eVar 4) (eC (.int 0))) (e2 fIx (eVar 0) (eC (.int 0))) [some (macD d t), some x, some y, some (.int h), some (iStepD [a, b, c])] k = .ok (.bl (true != decide (0 ≤ a ∧ a < d))) k := e2_ok (k1 := k) (k2 := k) (x := .int a) (y := .int d) rfl rfl rfl
    simp only [tOr2, tV, len3, ch, R.bind_ok, toB, hl, decide_true, Bool.not_true, Bool.false_eq_true, if_false]
    by_cases ha : 0 ≤ a ∧ a < d
    · rw [decide_eq_true ha]
      simp only [bne_self_eq_false, Bool.false_eq_true, if_false, in_eq M h0 h1 ha.1 ha.2, R.bind_ok, toB]
      rw [bad3, decide_eq_true ha, Bool.true_and]
    · rw [bad3, decide_eq_false ha]
      rfl
  · have hb : bad d t h l = true := by
      unfold bad
      split
      · exact absurd rfl hl
      · rfl
    simp only [tOr2, tV, len3, R.bind_ok, toB, decide_eq_false hl, Bool.not_false, if_true, hb]
end
end K04
end PL

set_option maxHeartbeats 4000000
/-! MK04i: k04: check_run and the law's own judge say the same. -/
namespace PL
open PySem PySem.Spec L2
open Classical
namespace K04
/-- a run that goes through -/
noncomputable def isRun (d : Int) (t : Tbl) : Int → List (List Int) → Bool
  | _, [] => true
  | h, l :: r => if bad d t h l = true then false else isRun d t (l.getD 2 0) r
section
variable {d s h : Int} {t : Tbl} {k : Int} {x y z : D}
theorem not_bad (M : MacOk d t) (h0 : 0 ≤ h) (h1 : h < t.length) {l : List Int} (e : bad d t h l = false) : ∃ a b c, l = [a, b, c] ∧ 0 ≤ c ∧ c < t.length := by
  unfold bad at e
  split at e
  · rename_i a b c
    simp only [Bool.not_eq_false', Bool.and_eq_true, decide_eq_true_eq] at e
    obtain ⟨⟨a0, a1⟩, hm⟩ := e
    exact ⟨a, b, c, rfl, ((waysAt_ok M h0 h1 a0 a1).bd _ hm).2.2⟩
  · cases e
noncomputable def crBody : Stm := sSeq (sIf cTest (sRaise (PySem.Str.ofString "BadPaper")) sNil) (sSet 3 (e2 fIx (eVar 4) (eC (.int 2))))
noncomputable def lrBody : Stm := sSeq (sIf lTest (sRet (eC (.bl false))) sNil) (sSet 3 (e2 fIx (eVar 4) (eC (.int 2))))
theorem set_here {a b c : Int} : sSet 3 (e2 fIx (eVar 4) (eC (.int 2))) [some (macD d t), some x, some y, some (.int h), some (iStepD [a, b, c])] k = .ok (.nx [some (macD d t), some x, some y, some (.int c), some (iStepD [a, b, c])]) k :=
  sSet_ok (e2_ok (k1 := k) (k2 := k) (x := iStepD [a, b, c]) (y := .int 2) rfl rfl (atI_in (by omega) rfl))
theorem cr_loop (M : MacOk d t) : ∀ {r : List (List Int)} {h : Int} {e4 : Option D}, 0 ≤ h → h < t.length →
    if isRun d t h r = true then ∃ h' e', forL (pName 4) crBody (r.map iStepD) [some (macD d t), some x, some y, some (.int h), e4] k = .ok (.nx [some (macD d t), some x, some y, some (.int h'), e']) k
    else forL (pName 4) crBody (r.map iStepD) [some (macD d t), some x, some y, some (.int h), e4] k = .ex "BadPaper" k
  | [], h, e4, _, _ => by
    unfold isRun
    rw [if_pos rfl]
    exact ⟨h, e4, rfl⟩
  | l :: r, h, e4, h0, h1 => by
    have ct := cTest_eq (k := k) (x := x) (y := y) M h0 h1 l
    unfold isRun
    by_cases hb : bad d t h l = true
    · rw [if_pos hb, if_neg (by decide)]
      rw [hb] at ct
      have bd : crBody [some (macD d t), some x, some y, some (.int h), some (iStepD l)] k = .ex "BadPaper" k := by
        unfold crBody sSeq sIf
        rw [ct]
        rfl
      rw [List.map_cons, forL.eq_def]
      show ((crBody [some (macD d t), some x, some y, some (.int h), some (iStepD l)] k).bind _) = _
      rw [bd]
      rfl
    · have hb' : bad d t h l = false := by simpa using hb
      rw [if_neg hb]
      rw [hb'] at ct
      obtain ⟨a, b, c, rfl, c0, c1⟩ := not_bad M h0 h1 hb'
      have bd : crBody [some (macD d t), some x, some y, some (.int h), some (iStepD [a, b, c])] k = .ok (.nx [some (macD d t), some x, some y, some (.int c), some (iStepD [a, b, c])]) k := by
        unfold crBody
        have i1 : sIf cTest (sRaise (PySem.Str.ofString "BadPaper")) sNil [some (macD d t), some x, some y, some (.int h), some (iStepD [a, b, c])] k = .ok (.nx [some (macD d t), some x, some y, some (.int h), some (iStepD [a, b, c])]) k := by
          unfold sIf
          rw [ct]
          rfl
        rw [sSeq_nx i1, set_here]
      have ih := cr_loop M (r := r) (h := c) (e4 := some (iStepD [a, b, c])) c0 c1
      rw [List.map_cons, forL_nx (e1 := [some (macD d t), some x, some y, some (.int h), some (iStepD [a, b, c])]) rfl bd]
      exact ih
theorem lr_loop (M : MacOk d t) : ∀ {r : List (List Int)} {h : Int} {e4 : Option D}, 0 ≤ h → h < t.length →
    if isRun d t h r = true then ∃ h' e', forL (pName 4) lrBody (r.map iStepD) [some (macD d t), some x, some y, some (.int h), e4] k = .ok (.nx [some (macD d t), some x, some y, some (.int h'), e']) k
    else forL (pName 4) lrBody (r.map iStepD) [some (macD d t), some x, some y, some (.int h), e4] k = .ok (.rt (.bl false)) k
  | [], h, e4, _, _ => by
    unfold isRun
    rw [if_pos rfl]
    exact ⟨h, e4, rfl⟩
  | l :: r, h, e4, h0, h1 => by
    have ct := lTest_eq (k := k) (x := x) (y := y) M h0 h1 l
    unfold isRun
    by_cases hb : bad d t h l = true
    · rw [if_pos hb, if_neg (by decide)]
      rw [hb] at ct
      have bd : lrBody [some (macD d t), some x, some y, some (.int h), some (iStepD l)] k = .ok (.rt (.bl false)) k := by
        unfold lrBody sSeq sIf
        rw [ct]
        rfl
      rw [List.map_cons, forL.eq_def]
      show ((lrBody [some (macD d t), some x, some y, some (.int h), some (iStepD l)] k).bind _) = _
      rw [bd]
      rfl
    · have hb' : bad d t h l = false := by simpa using hb
      rw [if_neg hb]
      rw [hb'] at ct
      obtain ⟨a, b, c, rfl, c0, c1⟩ := not_bad M h0 h1 hb'
      have bd : lrBody [some (macD d t), some x, some y, some (.int h), some (iStepD [a, b, c])] k = .ok (.nx [some (macD d t), some x, some y, some (.int c), some (iStepD [a, b, c])]) k := by
        unfold lrBody
        have i1 : sIf lTest (sRet (eC (.bl false))) sNil [some (macD d t), some x, some y, some (.int h), some (iStepD [a, b, c])] k = .ok (.nx [some (macD d t), some x, some y, some (.int h), some (iStepD [a, b, c])]) k := by
          unfold sIf
          rw [ct]
          rfl
        rw [sSeq_nx i1, set_here]
      have ih := lr_loop M (r := r) (h := c) (e4 := some (iStepD [a, b, c])) c0 c1
      rw [List.map_cons, forL_nx (e1 := [some (macD d t), some x, some y, some (.int h), some (iStepD [a, b, c])]) rfl bd]
      exact ih
theorem law_is_run (M : MacOk d t) (h0 : 0 ≤ s) (h1 : s < t.length) (r : List (List Int)) : φ_law_is_run [macD d t, .int s, iRunD r] k = .ok (.bl (isRun d t s r)) k := by
  have L := lr_loop (x := .int s) (y := iRunD r) (k := k) M (r := r) (e4 := none) h0 h1
  have unf : m_law_is_run = sSeq (sSet 3 (eVar 1)) (sSeq (sFor (iSeq (eVar 2)) (pName 4) lrBody) (sRet (eC (.bl true)))) := rfl
  have s1 : sSet 3 (eVar 1) [some (macD d t), some (.int s), some (iRunD r), none, none] k = .ok (.nx [some (macD d t), some (.int s), some (iRunD r), some (.int s), none]) k := sSet_ok (k1 := k) (d := .int s) rfl
  have sf : sFor (iSeq (eVar 2)) (pName 4) lrBody [some (macD d t), some (.int s), some (iRunD r), some (.int s), none] k = forL (pName 4) lrBody (r.map iStepD) [some (macD d t), some (.int s), some (iRunD r), some (.int s), none] k := sFor_ok (iSeq_tup rfl)
  show (m_law_is_run [some (macD d t), some (.int s), some (iRunD r), none, none] k).bind _ = _
  rw [unf, sSeq_nx s1]
  by_cases hr : isRun d t s r = true
  · rw [if_pos hr] at L
    obtain ⟨h', e', L⟩ := L
    rw [L] at sf
    rw [sSeq_nx sf, hr]
    rfl
  · rw [if_neg hr] at L
    rw [L] at sf
    have hr' : isRun d t s r = false := by simpa using hr
    unfold sSeq
    rw [sf, hr']
    rfl
theorem check_run (M : MacOk d t) (r : List (List Int)) : φ_check_run [macD d t, .int s, iRunD r] k = if 0 ≤ s ∧ s < t.length then (if isRun d t s r = true then .ok (.bl true) k else .ex "BadPaper" k) else .ex "NotAllowed" k := by
  have unf : m_check_run = sSeq (sExpr (eCall φ_check_state (eCons (eVar 0) (eCons (eVar 1) eNil)))) (sSeq (sSet 3 (eVar 1)) (sSeq (sFor (iSeq (eVar 2)) (pName 4) crBody) (sRet (eC (.bl true))))) := rfl
  have e1 : sExpr (eCall φ_check_state (eCons (eVar 0) (eCons (eVar 1) eNil))) [some (macD d t), some (.int s), some (iRunD r), none, none] k = (if 0 ≤ s ∧ s < t.length then .ok (.nx [some (macD d t), some (.int s), some (iRunD r), none, none]) k else .ex "NotAllowed" k) := by
    unfold sExpr
    rw [eCall_ok (eCons_ok rfl (eCons_ok rfl rfl)), check_state M]
    by_cases h : 0 ≤ s ∧ s < t.length
    · rw [if_pos h, if_pos h]
      rfl
    · rw [if_neg h, if_neg h]
      rfl
  show (m_check_run [some (macD d t), some (.int s), some (iRunD r), none, none] k).bind _ = _
  rw [unf]
  by_cases h : 0 ≤ s ∧ s < t.length
  · rw [if_pos h] at e1 ⊢
    have L := cr_loop (x := .int s) (y := iRunD r) (k := k) M (r := r) (e4 := none) h.1 h.2
    have s1 : sSet 3 (eVar 1) [some (macD d t), some (.int s), some (iRunD r), none, none] k = .ok (.nx [some (macD d t), some (.int s), some (iRunD r), some (.int s), none]) k := sSet_ok (k1 := k) (d := .int s) rfl
    have sf : sFor (iSeq (eVar 2)) (pName 4) crBody [some (macD d t), some (.int s), some (iRunD r), some (.int s), none] k = forL (pName 4) crBody (r.map iStepD) [some (macD d t), some (.int s), some (iRunD r), some (.int s), none] k := sFor_ok (iSeq_tup rfl)
    rw [sSeq_nx e1, sSeq_nx s1]
    by_cases hr : isRun d t s r = true
    · rw [if_pos hr] at L ⊢
      obtain ⟨h', e', L⟩ := L
      rw [L] at sf
      rw [sSeq_nx sf]
      rfl
    · rw [if_neg hr] at L ⊢
      rw [L] at sf
      unfold sSeq
      rw [sf]
      rfl
  · rw [if_neg h] at e1 ⊢
    unfold sSeq
    rw [e1]
    rfl
end
end K04
end PL

set_option maxHeartbeats 4000000
/-! MK04j: k04: the small ones. -/
namespace PL
open PySem PySem.Spec L2
open Classical
theorem sum_ints {γ : Type} (f : γ → Int) (xs : List γ) : f1 fSum [.lst (xs.map fun x => D.int (f x))] = some (.int (xs.map f).sum) := by
  show (toInts (xs.map fun x => D.int (f x))).map _ = _
  rw [toInts_mapI]
  rfl
theorem fnOf_rt {n : Nat} {m : Stm} {ds : List D} {k k1 : Int} {d : D} (h : m (envS n ds) k = .ok (.rt d) k1) : fnOf n m ds k = .ok d k1 := by
  unfold fnOf
  rw [h]
  rfl
theorem fnOf_ex {n : Nat} {m : Stm} {ds : List D} {k k1 : Int} {c : Str} (h : m (envS n ds) k = .ex c k1) : fnOf n m ds k = .ex c k1 := by
  unfold fnOf
  rw [h]
  rfl
theorem atI_last {α : Type} {xs : List α} {x : α} (h : xs.getLast? = some x) : atI xs (-1) = some x := by
  have hl : xs ≠ [] := fun z => by rw [z] at h; cases h
  have hp := List.length_pos_iff.mpr hl
  unfold atI ixN
  rw [if_neg (by omega), if_pos (by omega)]
  show xs[((-1 : Int) + xs.length).toNat]? = _
  rw [show ((-1 : Int) + xs.length).toNat = xs.length - 1 by omega, ← List.getLast?_eq_getElem?]
  exact h
namespace K04
section
variable {s : Int} {k : Int}
def beatsR (r : Run) : Int := (r.map fun a => a.2.1).sum
def lastR (s : Int) (r : Run) : Int := match r.getLast? with
  | some a => a.2.2
  | none => s
theorem beats_of (r : Run) (hl : r.length ≤ 1000000) : φ_beats_of [runD r] k = .ok (.int (beatsR r)) k := by
  have A := eLc_name (i := 1) (m := e2 fIx (eVar 1) (eC (.int 1))) (g := stepD) (xs := r) (f := fun a => .int a.2.1) (it := iSeq (eVar 0)) (env := [some (runD r), none]) (k := k) (iSeq_tup rfl) (sl_small hl) fun a _ =>
    e2_ok (k1 := k) (k2 := k) (x := stepD a) (y := .int 1) rfl rfl (atI_in (by omega) rfl)
  exact fnOf_rt (sRet_ok (eCallB_ok (eCons_ok A rfl) (sum_ints (fun a : Step => a.2.1) r)))
theorem deeds_in (r : Run) (hl : r.length ≤ 1000000) : φ_deeds_in [runD r] k = .ok (intsD (r.map (·.1))) k := by
  have A := eLc_name (i := 1) (m := e2 fIx (eVar 1) (eC (.int 0))) (g := stepD) (xs := r) (f := fun a => .int a.1) (it := iSeq (eVar 0)) (env := [some (runD r), none]) (k := k) (iSeq_tup rfl) (sl_small hl) fun a _ =>
    e2_ok (k1 := k) (k2 := k) (x := stepD a) (y := .int 0) rfl rfl (atI_in (by omega) rfl)
  refine fnOf_rt (sRet_ok (eCallB_ok (eCons_ok A rfl) ?_))
  show some (D.tup (r.map fun a => D.int a.1)) = some (D.tup ((r.map (·.1)).map .int))
  rw [List.map_map]
  rfl
theorem state_behind (r : Run) : φ_state_behind [.int s, runD r] k = .ok (.int (lastR s r)) k := by
  have c : e2 fGt (eCallB fLen (eCons (eVar 1) eNil)) (eC (.int 0)) [some (.int s), some (runD r)] k = .ok (.bl (decide (0 < (r.length : Int)))) k := by
    refine e2_ok (k1 := k) (k2 := k) (x := .int ((r.map stepD).length : Nat)) (y := .int 0) rfl rfl ?_
    rw [gt_int, List.length_map]
  refine fnOf_rt (sRet_ok ?_)
  show eIf _ _ _ [some (.int s), some (runD r)] k = _
  unfold eIf tV
  rw [c]
  cases e : r.getLast? with
  | none =>
    have hr : r = [] := List.getLast?_eq_none_iff.mp e
    subst hr
    rfl
  | some a =>
    have hr : r ≠ [] := fun z => by rw [z] at e; cases e
    have hp := List.length_pos_iff.mpr hr
    rw [decide_eq_true (by omega)]
    show e2 fIx (e2 fIx (eVar 1) (e1 fNeg (eC (.int 1)))) (eC (.int 2)) [some (.int s), some (runD r)] k = _
    have hl : atI (r.map stepD) (-1) = some (stepD a) := atI_last (by rw [List.getLast?_map, e]; rfl)
    have a1 : e2 fIx (eVar 1) (e1 fNeg (eC (.int 1))) [some (.int s), some (runD r)] k = .ok (stepD a) k := e2_ok (k1 := k) (k2 := k) (x := runD r) (y := .int (-1)) rfl rfl hl
    rw [e2_ok (k2 := k) (y := .int 2) (r := .int a.2.2) a1 rfl (atI_in (by omega) rfl)]
    unfold lastR
    rw [e]
end
end K04
end PL

set_option maxHeartbeats 4000000
/-! MK04k: k04: what is told. -/
namespace PL
open PySem PySem.Spec L2
open Classical
namespace K04
/-- what is told of an outcome -/
def told : R D → R D
  | .ok d k => .ok (.tup [.str "told", d]) k
  | .ex c k => match errName c with
    | some s => .ok (.str s) k
    | none => .no
  | .no => .no
theorem law_told3 {y : Str} {φ : List D → Int → R D} {a b c : D} {k : Int} (h : disp y = some (3, φ)) : φ_law_told [.fn y, .lst [a, b, c]] k = told (φ [a, b, c] k) := by
  have l3 : ∀ n, e2 fLt (eCallB fLen (eCons (eVar 1) eNil)) (eC (.int n)) [some (.fn y), some (.lst [a, b, c]), none] k = .ok (.bl (decide ((3 : Int) < n))) k := fun n => e2_ok (k1 := k) (k2 := k) (x := .int 3) (y := .int n) rfl rfl (lt_int 3 n)
  have q3 : ∀ n, e2 fEq (eCallB fLen (eCons (eVar 1) eNil)) (eC (.int n)) [some (.fn y), some (.lst [a, b, c]), none] k = .ok (.bl (decide ((3 : Int) = n))) k := fun n => e2_ok (k1 := k) (k2 := k) (x := .int 3) (y := .int n) rfl rfl (eq_int 3 n)
  have args : eCons (e2 fIx (eVar 1) (eC (.int 0))) (eCons (e2 fIx (eVar 1) (eC (.int 1))) (eCons (e2 fIx (eVar 1) (eC (.int 2))) eNil)) [some (.fn y), some (.lst [a, b, c]), none] k = .ok [a, b, c] k :=
    eCons_ok (k1 := k) rfl (eCons_ok (k1 := k) rfl (eCons_ok (k1 := k) (k2 := k) rfl rfl))
  have call : eCallV 0 disp (eCons (e2 fIx (eVar 1) (eC (.int 0))) (eCons (e2 fIx (eVar 1) (eC (.int 1))) (eCons (e2 fIx (eVar 1) (eC (.int 2))) eNil))) [some (.fn y), some (.lst [a, b, c]), none] k = φ [a, b, c] k := by
    unfold eCallV
    show (match disp y with | some nf => (eCons _ _ _ k).bind fun ds k1 => if ds.length = nf.1 then nf.2 ds k1 else .no | none => .no) = _
    rw [h]
    show ((eCons (e2 fIx (eVar 1) (eC (.int 0))) (eCons (e2 fIx (eVar 1) (eC (.int 1))) (eCons (e2 fIx (eVar 1) (eC (.int 2))) eNil)) [some (.fn y), some (.lst [a, b, c]), none] k).bind fun ds k1 => if ds.length = 3 then φ ds k1 else .no) = _
    rw [args]
    rfl
  have i1 : ∀ m, sIf (tV (e2 fLt (eCallB fLen (eCons (eVar 1) eNil)) (eC (.int 3)))) m sNil [some (.fn y), some (.lst [a, b, c]), none] k = .ok (.nx [some (.fn y), some (.lst [a, b, c]), none]) k := fun m => by
    unfold sIf tV
    rw [l3]
    rfl
  have body : ∀ m, sSeq (sIf (tV (e2 fEq (eCallB fLen (eCons (eVar 1) eNil)) (eC (.int 3)))) (sRet (eTup (eCons (eC (.str (PySem.Str.ofString "told"))) (eCons (eCallV 0 disp (eCons (e2 fIx (eVar 1) (eC (.int 0))) (eCons (e2 fIx (eVar 1) (eC (.int 1))) (eCons (e2 fIx (eVar 1) (eC (.int 2))) eNil)))) eNil)))) sNil) m [some (.fn y), some (.lst [a, b, c]), none] k =
      (φ [a, b, c] k).bind fun d k1 => .ok (.rt (.tup [.str "told", d])) k1 := fun m => by
    unfold sSeq sIf tV
    rw [q3]
    show ((sRet (eTup (eCons (eC (.str (PySem.Str.ofString "told"))) (eCons (eCallV 0 disp (eCons (e2 fIx (eVar 1) (eC (.int 0))) (eCons (e2 fIx (eVar 1) (eC (.int 1))) (eCons (e2 fIx (eVar 1) (eC (.int 2))) eNil)))) eNil))) [some (.fn y), some (.lst [a, b, c]), none] k).bind _) = _
    cases e : φ [a, b, c] k with
    | ok d k1 =>
      rw [e] at call
      rw [sRet_ok (eTup_ok (eCons_ok (k1 := k) (x := .str "told") rfl (eCons_ok call rfl)) (by show 2 ≤ _; omega))]
      rfl
    | ex cc k1 =>
      rw [e] at call
      simp only [sRet, eTup, eCons, eC, R.bind_ok, R.bind_ex] at call ⊢
      rw [call]
      rfl
    | no =>
      rw [e] at call
      simp only [sRet, eTup, eCons, eC, R.bind_ok] at call ⊢
      rw [call]
      rfl
  unfold φ_law_told fnOf
  show (m_law_told [some (.fn y), some (.lst [a, b, c]), none] k).bind _ = _
  unfold m_law_told sTry
  rw [sSeq_nx (i1 _), body]
  cases e : φ [a, b, c] k with
  | ok d k1 => rfl
  | ex cc k1 =>
    show (match (R.ex cc k1 : R Fl) with | .ex c k' => _ | r => r : R Fl).bind _ = told (.ex cc k1)
    unfold told
    cases e2 : errName cc with
    | none => simp only [e2]; rfl
    | some s => simp only [e2]; rfl
  | no => rfl
theorem disp_check : disp "check_run" = some (3, φ_check_run) := by
  unfold disp
  rw [if_neg (by decide +kernel), if_pos rfl]
theorem disp_runs : disp "runs" = some (3, φ_runs) := by
  unfold disp
  rw [if_pos rfl]
theorem disp_ext : disp "extremes" = some (3, φ_extremes) := by
  unfold disp
  rw [if_neg (by decide +kernel), if_neg (by decide +kernel), if_pos rfl]
end K04
end PL

set_option maxHeartbeats 4000000
/-! MK04l: k04: tables of states with their least and greatest sums. -/
namespace PL
open PySem PySem.Spec L2
open Classical
namespace K04
abbrev Tab := List (Int × Int × Int)
def lowD (tb : Tab) : List (Key × D) := tb.map fun e => (.inl e.1, .int e.2.1)
def highD (tb : Tab) : List (Key × D) := tb.map fun e => (.inl e.1, .int e.2.2)
def getT (tb : Tab) (a : Int) : Option (Int × Int × Int) := tb.find? fun e => decide (e.1 = a)
/-- a sum more at the state a -/
def putT (tb : Tab) (a lo hi : Int) : Tab := match getT tb a with
  | some c => tb.map fun e => if e.1 = a then (a, min c.2.1 lo, max c.2.2 hi) else e
  | none => tb ++ [(a, lo, hi)]
theorem look_low (tb : Tab) (a : Int) : lookD (lowD tb) (.inl a) = (getT tb a).map fun e => .int e.2.1 := by
  unfold lookD lowD getT
  rw [List.find?_map, Option.map_map]
  congr 1
  congr 1
  funext e
  simp
theorem look_high (tb : Tab) (a : Int) : lookD (highD tb) (.inl a) = (getT tb a).map fun e => .int e.2.2 := by
  unfold lookD highD getT
  rw [List.find?_map, Option.map_map]
  congr 1
  congr 1
  funext e
  simp
theorem any_get (tb : Tab) (a : Int) : (tb.any fun e => decide (e.1 = a)) = (getT tb a).isSome := by
  unfold getT
  induction tb with
  | nil => rfl
  | cons e tb ih =>
    rw [List.any_cons, List.find?_cons]
    cases decide (e.1 = a) with
    | true => rfl
    | false => rw [Bool.false_or, ih]
theorem put_low (tb : Tab) (a lo hi : Int) : putD (lowD tb) (.inl a) (.int (min (((getT tb a).map fun e => e.2.1).getD lo) lo)) = lowD (putT tb a lo hi) := by
  unfold putD putT
  have ha : ((lowD tb).any fun kv => decide (kv.1 = .inl a)) = (getT tb a).isSome := by
    rw [← any_get]
    unfold lowD
    rw [List.any_map]
    congr 1
    funext e
    simp
  rw [ha]
  cases e : getT tb a with
  | none =>
    rw [if_neg (by simp)]
    unfold lowD
    rw [List.map_append]
    simp
  | some c =>
    rw [if_pos (show (some c).isSome = true from rfl)]
    unfold lowD
    rw [List.map_map, List.map_map]
    refine List.map_congr_left fun q _ => ?_
    by_cases hq : q.1 = a
    · simp [hq]
    · simp [hq]
theorem put_high (tb : Tab) (a lo hi : Int) : putD (highD tb) (.inl a) (.int (max (((getT tb a).map fun e => e.2.2).getD hi) hi)) = highD (putT tb a lo hi) := by
  unfold putD putT
  have ha : ((highD tb).any fun kv => decide (kv.1 = .inl a)) = (getT tb a).isSome := by
    rw [← any_get]
    unfold highD
    rw [List.any_map]
    congr 1
    funext e
    simp
  rw [ha]
  cases e : getT tb a with
  | none =>
    rw [if_neg (by simp)]
    unfold highD
    rw [List.map_append]
    simp
  | some c =>
    rw [if_pos (show (some c).isSome = true from rfl)]
    unfold highD
    rw [List.map_map, List.map_map]
    refine List.map_congr_left fun q _ => ?_
    by_cases hq : q.1 = a
    · simp [hq]
    · simp [hq]
end K04
end PL

set_option maxHeartbeats 4000000
/-! MK04m: k04: extremes, a way more. -/
namespace PL
open PySem PySem.Spec L2
open Classical
theorem sPut_ok {i : Nat} {mi mv : Ev} {env : Env} {k : Int} {kvs : List (Key × D)} {d : D} {a : Int} (he : env[i]? = some (some (.dct kvs))) (hv : mv env k = .ok d k) (hi : mi env k = .ok (.int a) k) (hl : kvs.length ≤ 1000000) :
    sPut i mi mv env k = .ok (.nx (env.set i (some (.dct (putD kvs (.inl a) d))))) k := by
  have hz : kvs.length < sizeLine := by rw [sizeLine_eq]; omega
  unfold sPut
  rw [he]
  show ((mv env k).bind _) = _
  rw [hv]
  show ((mi env k).bind _) = _
  rw [hi]
  show (if kvs.length < sizeLine then _ else _) = _
  rw [if_pos hz]
theorem eGet2_ok {mo mk md : Ev} {env : Env} {k : Int} {kvs : List (Key × D)} {a : Int} {z : D} (ho : mo env k = .ok (.dct kvs) k) (hk : mk env k = .ok (.int a) k) (hd : md env k = .ok z k) : eGet2 mo mk md env k = .ok ((lookD kvs (.inl a)).getD z) k := by
  unfold eGet2
  rw [ho]
  show ((mk env k).bind _) = _
  rw [hk]
  show ((md env k).bind _) = _
  rw [hd]
  rfl
theorem min2 (i j : Int) : f2 fMin2 [.int i, .int j] = some (.int (min i j)) := by
  show some (D.int (if j < i then j else i)) = _
  congr 2
  split <;> omega
theorem max2 (i j : Int) : f2 fMax2 [.int i, .int j] = some (.int (max i j)) := by
  show some (D.int (if j > i then j else i)) = _
  congr 2
  split <;> omega
namespace K04
section
variable {m x ds dd : D} {k : Int}
noncomputable def exIn : Stm := (sSeq (sPut 6 (eVar 10) (eCallB (f2 fMin2) (eCons (eGet2 (eVar 6) (eVar 10) (e2 fAdd (e2 fIx (eVar 3) (eVar 8)) (eVar 9))) (eCons (e2 fAdd (e2 fIx (eVar 3) (eVar 8)) (eVar 9)) eNil)))) (sPut 7 (eVar 10) (eCallB (f2 fMax2) (eCons (eGet2 (eVar 7) (eVar 10) (e2 fAdd (e2 fIx (eVar 4) (eVar 8)) (eVar 9))) (eCons (e2 fAdd (e2 fIx (eVar 4) (eVar 8)) (eVar 9)) eNil)))))
theorem getD_min (acc : Tab) (a v : Int) : ((lookD (lowD acc) (.inl a)).getD (.int v)) = .int (((getT acc a).map fun e => e.2.1).getD v) := by
  rw [look_low]
  cases getT acc a <;> rfl
theorem getD_max (acc : Tab) (a v : Int) : ((lookD (highD acc) (.inl a)).getD (.int v)) = .int (((getT acc a).map fun e => e.2.2).getD v) := by
  rw [look_high]
  cases getT acc a <;> rfl
theorem ex_in {tb acc : Tab} {h : Int} {e : Int × Int × Int} {w : Way} (he : getT tb h = some e) (hl : acc.length ≤ 1000000) :
    exIn [some m, some x, some ds, some (.dct (lowD tb)), some (.dct (highD tb)), some dd, some (.dct (lowD acc)), some (.dct (highD acc)), some (.int h), some (.int w.1), some (.int w.2)] k =
      .ok (.nx [some m, some x, some ds, some (.dct (lowD tb)), some (.dct (highD tb)), some dd, some (.dct (lowD (putT acc w.2 (e.2.1 + w.1) (e.2.2 + w.1)))), some (.dct (highD (putT acc w.2 (e.2.1 + w.1) (e.2.2 + w.1)))), some (.int h), some (.int w.1), some (.int w.2)]) k := by
  have lo : ∀ a6 a7, e2 fAdd (e2 fIx (eVar 3) (eVar 8)) (eVar 9) [some m, some x, some ds, some (.dct (lowD tb)), some (.dct (highD tb)), some dd, a6, a7, some (.int h), some (.int w.1), some (.int w.2)] k = .ok (.int (e.2.1 + w.1)) k := fun a6 a7 =>
    e2_ok (k1 := k) (k2 := k) (x := .int e.2.1) (y := .int w.1) (e2_ok (k1 := k) (k2 := k) (x := .dct (lowD tb)) (y := .int h) rfl rfl (by show lookD (lowD tb) (.inl h) = _; rw [look_low, he]; rfl)) rfl rfl
  have hi : ∀ a6 a7, e2 fAdd (e2 fIx (eVar 4) (eVar 8)) (eVar 9) [some m, some x, some ds, some (.dct (lowD tb)), some (.dct (highD tb)), some dd, a6, a7, some (.int h), some (.int w.1), some (.int w.2)] k = .ok (.int (e.2.2 + w.1)) k := fun a6 a7 =>
    e2_ok (k1 := k) (k2 := k) (x := .int e.2.2) (y := .int w.1) (e2_ok (k1 := k) (k2 := k) (x := .dct (highD tb)) (y := .int h) rfl rfl (by show lookD (highD tb) (.inl h) = _; rw [look_high, he]; rfl)) rfl rfl
  have p1 := sPut_ok (i := 6) (mi := eVar 10) (a := w.2) (kvs := lowD acc) (k := k) (env := [some m, some x, some ds, some (.dct (lowD tb)), some (.dct (highD tb)), some dd, some (.dct (lowD acc)), some (.dct (highD acc)), some (.int h), some (.int w.1), some (.int w.2)]) rfl
    (eCallB_ok (f := f2 fMin2) (eCons_ok (eGet2_ok (mo := eVar 6) (mk := eVar 10) (a := w.2) (kvs := lowD acc) rfl rfl (lo _ _)) (eCons_ok (r := eNil) (k2 := k) (xs := []) (lo _ _) rfl)) (by rw [getD_min]; exact min2 _ _)) rfl (by unfold lowD; rw [List.length_map]; exact hl)
  rw [put_low (hi := e.2.2 + w.1)] at p1
  have p2 := sPut_ok (i := 7) (mi := eVar 10) (a := w.2) (kvs := highD acc) (k := k) (env := [some m, some x, some ds, some (.dct (lowD tb)), some (.dct (highD tb)), some dd, some (.dct (lowD (putT acc w.2 (e.2.1 + w.1) (e.2.2 + w.1)))), some (.dct (highD acc)), some (.int h), some (.int w.1), some (.int w.2)]) rfl
    (eCallB_ok (f := f2 fMax2) (eCons_ok (eGet2_ok (mo := eVar 7) (mk := eVar 10) (a := w.2) (kvs := highD acc) rfl rfl (hi _ _)) (eCons_ok (r := eNil) (k2 := k) (xs := []) (hi _ _) rfl)) (by rw [getD_max]; exact max2 _ _)) rfl (by unfold highD; rw [List.length_map]; exact hl)
  rw [put_high (lo := e.2.1 + w.1)] at p2
  unfold exIn
  rw [sSeq_nx p1]
  exact p2
end
end K04
end PL

set_option maxHeartbeats 4000000
/-! MK04n: k04: extremes, a deed more. -/
namespace PL
open PySem PySem.Spec L2
open Classical
namespace K04
def wayT (e : Int × Int × Int) (acc : Tab) (ws : List Way) : Tab := ws.foldl (fun acc w => putT acc w.2 (e.2.1 + w.1) (e.2.2 + w.1)) acc
def turnT (t : Tbl) (deed : Int) (tb : Tab) : Tab := tb.foldl (fun acc e => wayT e acc (waysAt t e.1 deed)) []
theorem putT_len (tb : Tab) (a lo hi : Int) : (putT tb a lo hi).length ≤ tb.length + 1 := by
  unfold putT
  split
  · rw [List.length_map]; omega
  · rw [List.length_append]; show tb.length + 1 ≤ _; omega
theorem wayT_len (e : Int × Int × Int) : ∀ (ws : List Way) (acc : Tab), (wayT e acc ws).length ≤ acc.length + ws.length
  | [], acc => Nat.le_refl _
  | w :: ws, acc => by
    have h1 := wayT_len e ws (putT acc w.2 (e.2.1 + w.1) (e.2.2 + w.1))
    have h2 := putT_len acc w.2 (e.2.1 + w.1) (e.2.2 + w.1)
    show (wayT e (putT acc w.2 (e.2.1 + w.1) (e.2.2 + w.1)) ws).length ≤ _
    rw [List.length_cons]
    omega
theorem getT_mem : ∀ {tb : Tab} {e : Int × Int × Int}, (tb.map (·.1)).Nodup → e ∈ tb → getT tb e.1 = some e
  | c :: tb, e, nd, h => by
    unfold getT
    rw [List.find?_cons]
    rw [List.map_cons, List.nodup_cons] at nd
    rcases List.mem_cons.mp h with z | z
    · subst z
      rw [decide_eq_true rfl]
    · have : c.1 ≠ e.1 := fun q => nd.1 (q ▸ List.mem_map_of_mem z)
      rw [decide_eq_false this]
      exact getT_mem nd.2 z
section
variable {m x ds : D} {k d : Int} {t : Tbl}
theorem ex_ways {tb : Tab} {dd : D} {h : Int} {e : Int × Int × Int} (he : getT tb h = some e) : ∀ {ws : List Way} {acc : Tab} {b a : Option D}, acc.length + ws.length ≤ 1000000 →
    ∃ b' a', forL (pTup [(pName 9), (pName 10)]) exIn (ws.map prD) [some m, some x, some ds, some (.dct (lowD tb)), some (.dct (highD tb)), some dd, some (.dct (lowD acc)), some (.dct (highD acc)), some (.int h), b, a] k =
      .ok (.nx [some m, some x, some ds, some (.dct (lowD tb)), some (.dct (highD tb)), some dd, some (.dct (lowD (wayT e acc ws))), some (.dct (highD (wayT e acc ws))), some (.int h), b', a']) k
  | [], acc, b, a, _ => ⟨b, a, rfl⟩
  | w :: ws, acc, b, a, hl => by
    rw [List.length_cons] at hl
    have one := ex_in (m := m) (x := x) (ds := ds) (dd := dd) (k := k) (w := w) (acc := acc) he (by omega)
    have pl := putT_len acc w.2 (e.2.1 + w.1) (e.2.2 + w.1)
    obtain ⟨b', a', ih⟩ := ex_ways (dd := dd) he (ws := ws) (acc := putT acc w.2 (e.2.1 + w.1) (e.2.2 + w.1)) (b := some (.int w.1)) (a := some (.int w.2)) (by omega)
    refine ⟨b', a', ?_⟩
    rw [List.map_cons, forL_nx (e1 := [some m, some x, some ds, some (.dct (lowD tb)), some (.dct (highD tb)), some dd, some (.dct (lowD acc)), some (.dct (highD acc)), some (.int h), some (.int w.1), some (.int w.2)]) rfl one]
    exact ih
noncomputable def exHere : Stm := sFor (iSeq (e2 fIx (e2 fIx (e2 fIx (eVar 0) (eC (.int 1))) (eVar 8)) (eVar 5))) (pTup [(pName 9), (pName 10)]) exIn
theorem ex_heres (M : MacOk d t) {deed : Int} (x0 : 0 ≤ deed) (x1 : deed < d) {tb : Tab} (nd : (tb.map (·.1)).Nodup) (bd : ∀ e ∈ tb, 0 ≤ e.1 ∧ e.1 < t.length) : ∀ {l : Tab} {acc : Tab} {h b a : Option D}, (∀ e ∈ l, e ∈ tb) → acc.length + l.length * 64 ≤ 1000000 →
    ∃ h' b' a', forL (pName 8) exHere (l.map fun e => .int e.1) [some (macD d t), some x, some ds, some (.dct (lowD tb)), some (.dct (highD tb)), some (.int deed), some (.dct (lowD acc)), some (.dct (highD acc)), h, b, a] k =
      .ok (.nx [some (macD d t), some x, some ds, some (.dct (lowD tb)), some (.dct (highD tb)), some (.int deed), some (.dct (lowD (l.foldl (fun acc e => wayT e acc (waysAt t e.1 deed)) acc))), some (.dct (highD (l.foldl (fun acc e => wayT e acc (waysAt t e.1 deed)) acc))), h', b', a']) k
  | [], acc, h, b, a, _, _ => ⟨h, b, a, rfl⟩
  | e :: l, acc, h, b, a, sub, hl => by
    rw [List.length_cons, Nat.succ_mul] at hl
    have me := sub e List.mem_cons_self
    obtain ⟨h0, h1⟩ := bd e me
    have W := waysAt_ok M h0 h1 x0 x1
    have few := W.few
    obtain ⟨b1, a1, one⟩ := ex_ways (m := macD d t) (x := x) (ds := ds) (dd := .int deed) (k := k) (getT_mem nd me) (ws := waysAt t e.1 deed) (acc := acc) (b := b) (a := a) (by omega)
    have wl := wayT_len e (waysAt t e.1 deed) acc
    obtain ⟨h', b', a', ih⟩ := ex_heres M x0 x1 nd bd (l := l) (acc := wayT e acc (waysAt t e.1 deed)) (h := some (.int e.1)) (b := b1) (a := a1) (fun y hy => sub y (List.mem_cons_of_mem _ hy)) (by omega)
    refine ⟨h', b', a', ?_⟩
    have turn : exHere [some (macD d t), some x, some ds, some (.dct (lowD tb)), some (.dct (highD tb)), some (.int deed), some (.dct (lowD acc)), some (.dct (highD acc)), some (.int e.1), b, a] k =
        .ok (.nx [some (macD d t), some x, some ds, some (.dct (lowD tb)), some (.dct (highD tb)), some (.int deed), some (.dct (lowD (wayT e acc (waysAt t e.1 deed)))), some (.dct (highD (wayT e acc (waysAt t e.1 deed)))), some (.int e.1), b1, a1]) k := by
      unfold exHere
      rw [sFor_ok (ds := (waysAt t e.1 deed).map prD) (k1 := k) (iSeq_tup (e2_ok (k1 := k) (k2 := k) (y := .int deed) (e2_ok (k1 := k) (k2 := k) (x := tblD t) (y := .int e.1) rfl rfl (fIx_tbl h0 h1)) rfl (fIx_row M h0 h1 x0 x1)))]
      exact one
    rw [List.map_cons, forL_nx (e1 := [some (macD d t), some x, some ds, some (.dct (lowD tb)), some (.dct (highD tb)), some (.int deed), some (.dct (lowD acc)), some (.dct (highD acc)), some (.int e.1), b, a]) rfl turn]
    exact ih
end
end K04
end PL

set_option maxHeartbeats 4000000
/-! MK04o: k04: extremes, whole. -/
namespace PL
open PySem PySem.Spec L2
open Classical
theorem nodup_few : ∀ (n : Nat) (l : List Int), l.Nodup → (∀ x ∈ l, 0 ≤ x ∧ x < n) → l.length ≤ n
  | 0, l, _, h => by
    cases l with
    | nil => exact Nat.le_refl _
    | cons x l =>
      have := h x List.mem_cons_self
      omega
  | n + 1, l, nd, h => by
    by_cases hn : (n : Int) ∈ l
    · have e := List.length_erase_of_mem hn
      have := nodup_few n (l.erase (n : Int)) (nd.erase _) fun x hx => by
        have hx' := (nd.mem_erase_iff).mp hx
        have := h x hx'.2
        have := hx'.1
        omega
      omega
    · have := nodup_few n l nd fun x hx => by
        have h1 := h x hx
        have : x ≠ n := fun z => hn (z ▸ hx)
        omega
      omega
namespace K04
structure TabOk (n : Nat) (tb : Tab) : Prop where
  nd : (tb.map (·.1)).Nodup
  bd : ∀ e ∈ tb, 0 ≤ e.1 ∧ e.1 < n
theorem TabOk.few {n : Nat} {tb : Tab} (T : TabOk n tb) : tb.length ≤ n := by
  have := nodup_few n (tb.map (·.1)) T.nd fun x hx => by
    obtain ⟨e, he, rfl⟩ := List.mem_map.mp hx
    exact T.bd e he
  rwa [List.length_map] at this
theorem getT_none {tb : Tab} {a : Int} (h : getT tb a = none) : a ∉ tb.map (·.1) := fun hm => by
  obtain ⟨e, he, rfl⟩ := List.mem_map.mp hm
  have := List.find?_eq_none.mp h e he
  simp at this
theorem putT_ok {n : Nat} {tb : Tab} {a lo hi : Int} (T : TabOk n tb) (a0 : 0 ≤ a) (a1 : a < n) : TabOk n (putT tb a lo hi) := by
  unfold putT
  split
  · rename_i c _
    have e : (tb.map fun e => if e.1 = a then (a, min c.2.1 lo, max c.2.2 hi) else e).map (·.1) = tb.map (·.1) := by
      rw [List.map_map]
      refine List.map_congr_left fun e _ => ?_
      by_cases h : e.1 = a
      · simp [h]
      · simp [h]
    refine ⟨by rw [e]; exact T.nd, fun q hq => ?_⟩
    have : q.1 ∈ tb.map (·.1) := by
      rw [← e]
      exact List.mem_map_of_mem hq
    obtain ⟨r, hr, e2⟩ := List.mem_map.mp this
    rw [← e2]
    exact T.bd r hr
  · rename_i hn
    refine ⟨?_, fun q hq => ?_⟩
    · rw [List.map_append, List.nodup_append]
      refine ⟨T.nd, by simp, fun x hx y hy => ?_⟩
      rw [List.map_cons, List.map_nil, List.mem_singleton] at hy
      subst hy
      exact fun z => getT_none hn (z ▸ hx)
    · rcases List.mem_append.mp hq with h | h
      · exact T.bd q h
      · rw [List.mem_singleton] at h
        subst h
        exact ⟨a0, a1⟩
theorem wayT_ok {n : Nat} {e : Int × Int × Int} : ∀ {ws : List Way} {acc : Tab}, TabOk n acc → (∀ w ∈ ws, 0 ≤ w.2 ∧ w.2 < n) → TabOk n (wayT e acc ws)
  | [], _, T, _ => T
  | w :: ws, acc, T, h => wayT_ok (ws := ws) (putT_ok T (h w List.mem_cons_self).1 (h w List.mem_cons_self).2) fun q hq => h q (List.mem_cons_of_mem _ hq)
theorem turnT_ok {d : Int} {t : Tbl} {deed : Int} {tb : Tab} (M : MacOk d t) (x0 : 0 ≤ deed) (x1 : deed < d) (T : TabOk t.length tb) : TabOk t.length (turnT t deed tb) := by
  unfold turnT
  suffices h : ∀ (l : Tab) (acc : Tab), (∀ e ∈ l, e ∈ tb) → TabOk t.length acc → TabOk t.length (l.foldl (fun acc e => wayT e acc (waysAt t e.1 deed)) acc) from h tb [] (fun _ h => h) ⟨by simp, fun _ h => by cases h⟩
  intro l
  induction l with
  | nil => intro acc _ h; exact h
  | cons e l ih =>
    intro acc sub h
    have me := sub e List.mem_cons_self
    exact ih _ (fun y hy => sub y (List.mem_cons_of_mem _ hy)) (wayT_ok h fun w hw => ((waysAt_ok M (T.bd e me).1 (T.bd e me).2 x0 x1).bd w hw).2.2)
end K04
end PL

set_option maxHeartbeats 4000000
/-! MK04p: k04: what extremes answers. -/
namespace PL
open PySem PySem.Spec L2
open Classical
theorem e1_ok {f : D → Option D} {a : Ev} {env : Env} {k k1 : Int} {x r : D} (h : a env k = .ok x k1) (e : f x = some r) : e1 f a env k = .ok r k1 := by
  unfold e1
  rw [h]
  show R.of (f x) k1 = _
  rw [e]
  rfl
theorem sForK_ok {i : Nat} {p : Pt} {b : Stm} {env env' : Env} {k k' : Int} {ds : List D} (h : ksAt env i = some ds) (g : forL p b ds env k = .ok (.nx env') k') : sForK i p b env k = .ok (.nx env') k' := by
  unfold sForK
  rw [h]
  simp only [g]
theorem sParF_ok {i j : Nat} {ma mb : Ev} {env : Env} {k : Int} {x y : D} (h : ma env k = .ok x k) (g : mb env k = .ok y k) (hi : i < env.length) (hj : j < env.length) : sParF i j ma mb env k = .ok (.nx ((env.set i (some x)).set j (some y))) k := by
  unfold sParF
  simp only [h, g, R.bind_ok]
  rw [if_pos ⟨hi, hj⟩]
namespace K04
section
variable {x ds : D} {k d s : Int} {t : Tbl}
noncomputable def exTurn : Stm := (sSeq (sParF 6 7 eDnew eDnew) (sSeq (sForK 3 (pName 8) exHere) (sPar 3 4 (eCons (eVar 6) (eCons (eVar 7) eNil)))))
theorem ex_turn (M : MacOk d t) {deed : Int} (x0 : 0 ≤ deed) (x1 : deed < d) {tb : Tab} (T : TabOk t.length tb) {e6 e7 h b a : Option D} :
    ∃ f6 f7 h' b' a', exTurn [some (macD d t), some x, some ds, some (.dct (lowD tb)), some (.dct (highD tb)), some (.int deed), e6, e7, h, b, a] k =
      .ok (.nx [some (macD d t), some x, some ds, some (.dct (lowD (turnT t deed tb))), some (.dct (highD (turnT t deed tb))), some (.int deed), f6, f7, h', b', a']) k := by
  obtain ⟨h', b', a', w⟩ := ex_heres (x := x) (ds := ds) (k := k) M x0 x1 T.nd T.bd (l := tb) (acc := []) (h := h) (b := b) (a := a) (fun _ h => h) (by have := T.few; have := M.t2; show 0 + _ ≤ _; omega)
  refine ⟨some (.dct (lowD (turnT t deed tb))), some (.dct (highD (turnT t deed tb))), h', b', a', ?_⟩
  have p1 : sParF 6 7 eDnew eDnew [some (macD d t), some x, some ds, some (.dct (lowD tb)), some (.dct (highD tb)), some (.int deed), e6, e7, h, b, a] k = .ok (.nx [some (macD d t), some x, some ds, some (.dct (lowD tb)), some (.dct (highD tb)), some (.int deed), some (.dct []), some (.dct []), h, b, a]) k := by
    exact sParF_ok rfl rfl (by show 6 < 11; omega) (by show 7 < 11; omega)
  have p2 : sForK 3 (pName 8) exHere [some (macD d t), some x, some ds, some (.dct (lowD tb)), some (.dct (highD tb)), some (.int deed), some (.dct []), some (.dct []), h, b, a] k = .ok (.nx [some (macD d t), some x, some ds, some (.dct (lowD tb)), some (.dct (highD tb)), some (.int deed), some (.dct (lowD (turnT t deed tb))), some (.dct (highD (turnT t deed tb))), h', b', a']) k := by
    have ks : ksAt [some (macD d t), some x, some ds, some (.dct (lowD tb)), some (.dct (highD tb)), some (.int deed), some (.dct []), some (.dct []), h, b, a] 3 = some (tb.map fun e => .int e.1) := by
      show some ((lowD tb).map fun q => keyV q.1) = _
      unfold lowD
      rw [List.map_map]
      rfl
    exact sForK_ok ks w
  unfold exTurn
  rw [sSeq_nx p1, sSeq_nx p2]
  rfl
theorem ex_loop (M : MacOk d t) : ∀ {l : List Int} {tb : Tab} {c e6 e7 h b a : Option D}, (∀ z ∈ l, 0 ≤ z ∧ z < d) → TabOk t.length tb →
    TabOk t.length (l.foldl (fun tb z => turnT t z tb) tb) ∧ ∃ c' e6' e7' h' b' a', forL (pName 5) exTurn (l.map .int) [some (macD d t), some x, some ds, some (.dct (lowD tb)), some (.dct (highD tb)), c, e6, e7, h, b, a] k =
      .ok (.nx [some (macD d t), some x, some ds, some (.dct (lowD (l.foldl (fun tb z => turnT t z tb) tb))), some (.dct (highD (l.foldl (fun tb z => turnT t z tb) tb))), c', e6', e7', h', b', a']) k
  | [], tb, c, e6, e7, h, b, a, _, T => ⟨T, c, e6, e7, h, b, a, rfl⟩
  | z :: l, tb, c, e6, e7, h, b, a, hz, T => by
    obtain ⟨z0, z1⟩ := hz z List.mem_cons_self
    obtain ⟨f6, f7, h1, b1, a1, one⟩ := ex_turn (x := x) (ds := ds) (k := k) M z0 z1 T (e6 := e6) (e7 := e7) (h := h) (b := b) (a := a)
    obtain ⟨T2, c', e6', e7', h', b', a', ih⟩ := ex_loop M (l := l) (tb := turnT t z tb) (c := some (.int z)) (e6 := f6) (e7 := f7) (h := h1) (b := b1) (a := a1) (fun y hy => hz y (List.mem_cons_of_mem _ hy)) (turnT_ok M z0 z1 T)
    refine ⟨T2, c', e6', e7', h', b', a', ?_⟩
    rw [List.map_cons, forL_nx (e1 := [some (macD d t), some x, some ds, some (.dct (lowD tb)), some (.dct (highD tb)), some (.int z), e6, e7, h, b, a]) rfl one]
    exact ih
theorem best_low {tb : Tab} (h : tb ≠ []) (best : List Int → Int) : fBestV best (.dct (lowD tb)) = some (.int (best (tb.map (·.2.1)))) := by
  show ((toInts ((lowD tb).map (·.2))).bind fun ns => if ns = [] then none else some (D.int (best ns))) = _
  have e : (lowD tb).map (·.2) = tb.map fun e => D.int e.2.1 := by
    unfold lowD
    rw [List.map_map]
    rfl
  rw [e, toInts_mapI (fun e : Int × Int × Int => e.2.1)]
  show (if tb.map (fun e => e.2.1) = [] then none else some (D.int (best (tb.map fun e => e.2.1)))) = _
  rw [if_neg (by simpa using h)]
theorem best_high {tb : Tab} (h : tb ≠ []) (best : List Int → Int) : fBestV best (.dct (highD tb)) = some (.int (best (tb.map (·.2.2)))) := by
  show ((toInts ((highD tb).map (·.2))).bind fun ns => if ns = [] then none else some (D.int (best ns))) = _
  have e : (highD tb).map (·.2) = tb.map fun e => D.int e.2.2 := by
    unfold highD
    rw [List.map_map]
    rfl
  rw [e, toInts_mapI (fun e : Int × Int × Int => e.2.2)]
  show (if tb.map (fun e => e.2.2) = [] then none else some (D.int (best (tb.map fun e => e.2.2)))) = _
  rw [if_neg (by simpa using h)]
/-- the table after the deeds -/
def tabOf (t : Tbl) (s : Int) (l : List Int) : Tab := l.foldl (fun tb z => turnT t z tb) [(s, 0, 0)]
theorem extremes_eq {l : List Int} (M : MacOk d t) (s0 : 0 ≤ s) (s1 : s < t.length) (hl : l.length ≤ 200) (hd : ∀ z ∈ l, 0 ≤ z ∧ z < d) (ne : tabOf t s l ≠ []) :
    φ_extremes [macD d t, .int s, intsD l] k = .ok (.tup [.int (minI ((tabOf t s l).map (·.2.1))), .int (maxI ((tabOf t s l).map (·.2.2)))]) k := by
  have T0 : TabOk t.length [(s, 0, 0)] := ⟨by simp, fun e he => by
    rw [List.mem_singleton] at he
    subst he
    exact ⟨s0, s1⟩⟩
  obtain ⟨_, c', e6', e7', h', b', a', loop⟩ := ex_loop (x := .int s) (ds := intsD l) (k := k) M (l := l) (tb := [(s, 0, 0)]) (c := none) (e6 := none) (e7 := none) (h := none) (b := none) (a := none) hd T0
  have unf : m_extremes = sSeq (sExpr (eCall φ_check_deeds (eCons (eVar 0) (eCons (eVar 1) (eCons (eVar 2) eNil))))) (sSeq (sPar 3 4 (eCons (eDisp1 (eVar 1) (eC (.int 0))) (eCons (eDisp1 (eVar 1) (eC (.int 0))) eNil))) (sSeq (sFor (iSeq (eVar 2)) (pName 5) exTurn) (sRet (eTup (eCons (e1 (fBestV minI) (eVar 3)) (eCons (e1 (fBestV maxI) (eVar 4)) eNil)))))) := rfl
  have q1 : sExpr (eCall φ_check_deeds (eCons (eVar 0) (eCons (eVar 1) (eCons (eVar 2) eNil)))) [some (macD d t), some (.int s), some (intsD l), none, none, none, none, none, none, none, none] k = .ok (.nx [some (macD d t), some (.int s), some (intsD l), none, none, none, none, none, none, none, none]) k := by
    unfold sExpr
    rw [eCall_ok (eCons_ok rfl (eCons_ok rfl (eCons_ok rfl rfl))), check_deeds M (by omega), if_pos ⟨s0, s1⟩, if_neg (by omega), if_pos hd]
    rfl
  have q2 : sPar 3 4 (eCons (eDisp1 (eVar 1) (eC (.int 0))) (eCons (eDisp1 (eVar 1) (eC (.int 0))) eNil)) [some (macD d t), some (.int s), some (intsD l), none, none, none, none, none, none, none, none] k = .ok (.nx [some (macD d t), some (.int s), some (intsD l), some (.dct (lowD [(s, 0, 0)])), some (.dct (highD [(s, 0, 0)])), none, none, none, none, none, none]) k := rfl
  have q3 : sFor (iSeq (eVar 2)) (pName 5) exTurn [some (macD d t), some (.int s), some (intsD l), some (.dct (lowD [(s, 0, 0)])), some (.dct (highD [(s, 0, 0)])), none, none, none, none, none, none] k = .ok (.nx [some (macD d t), some (.int s), some (intsD l), some (.dct (lowD (tabOf t s l))), some (.dct (highD (tabOf t s l))), c', e6', e7', h', b', a']) k := by
    rw [sFor_ok (ds := l.map .int) (k1 := k) (iSeq_tup rfl)]
    exact loop
  refine fnOf_rt ?_
  show m_extremes [some (macD d t), some (.int s), some (intsD l), none, none, none, none, none, none, none, none] k = _
  rw [unf, sSeq_nx q1, sSeq_nx q2, sSeq_nx q3]
  exact sRet_ok (eTup_ok (eCons_ok (k1 := k) (e1_ok (k1 := k) (x := .dct (lowD (tabOf t s l))) rfl (best_low ne minI)) (eCons_ok (k1 := k) (k2 := k) (xs := []) (e1_ok (k1 := k) (x := .dct (highD (tabOf t s l))) rfl (best_high ne maxI)) rfl)) (by show 2 ≤ _; omega))
end
end K04
end PL

set_option maxHeartbeats 4000000
/-! MK04q: k04: a table tells the least and the greatest of what is put in. -/
namespace PL
open Classical
namespace K04
/-- the table tells of each state the least and the greatest sum -/
structure RelT (S : Int → Int → Prop) (tb : Tab) : Prop where
  up : ∀ a v, S a v → ∃ e ∈ tb, e.1 = a ∧ e.2.1 ≤ v ∧ v ≤ e.2.2
  lo : ∀ e ∈ tb, S e.1 e.2.1
  hi : ∀ e ∈ tb, S e.1 e.2.2
theorem putT_rel {S P : Int → Int → Prop} {n : Nat} {tb : Tab} {a lo hi : Int} (T : TabOk n tb) (R : RelT S tb) (h : ∀ b v, P b v → b = a ∧ lo ≤ v ∧ v ≤ hi) (hl : P a lo) (hh : P a hi) : RelT (fun b v => S b v ∨ P b v) (putT tb a lo hi) := by
  unfold putT
  split
  · rename_i c hc
    have cm : c ∈ tb := List.mem_of_find?_eq_some hc
    have ca : c.1 = a := by
      have := List.find?_some hc
      simpa using this
    have one : ∀ e ∈ tb, e.1 = a → e = c := fun e he ea => by
      have := getT_mem T.nd he
      rw [ea] at this
      exact Option.some.inj (this.symm.trans hc)
    have new : (a, min c.2.1 lo, max c.2.2 hi) ∈ tb.map fun e => if e.1 = a then (a, min c.2.1 lo, max c.2.2 hi) else e := List.mem_map.mpr ⟨c, cm, if_pos ca⟩
    refine ⟨fun b v s => ?_, fun e he => ?_, fun e he => ?_⟩
    · rcases s with s | s
      · obtain ⟨e, he, e1, e2, e3⟩ := R.up b v s
        by_cases ea : e.1 = a
        · have := one e he ea
          subst this
          exact ⟨_, new, ea.symm.trans e1, by show min _ _ ≤ v; omega, by show v ≤ max _ _; omega⟩
        · exact ⟨e, List.mem_map.mpr ⟨e, he, if_neg ea⟩, e1, e2, e3⟩
      · obtain ⟨rfl, h1, h2⟩ := h b v s
        exact ⟨_, new, rfl, by show min _ _ ≤ v; omega, by show v ≤ max _ _; omega⟩
    · obtain ⟨q, hq, rfl⟩ := List.mem_map.mp he
      by_cases qa : q.1 = a
      · rw [if_pos qa]
        show S a (min c.2.1 lo) ∨ P a (min c.2.1 lo)
        by_cases hm : c.2.1 ≤ lo
        · rw [show min c.2.1 lo = c.2.1 by omega, ← ca]
          exact .inl (R.lo c cm)
        · rw [show min c.2.1 lo = lo by omega]
          exact .inr hl
      · rw [if_neg qa]
        exact .inl (R.lo q hq)
    · obtain ⟨q, hq, rfl⟩ := List.mem_map.mp he
      by_cases qa : q.1 = a
      · rw [if_pos qa]
        show S a (max c.2.2 hi) ∨ P a (max c.2.2 hi)
        by_cases hm : hi ≤ c.2.2
        · rw [show max c.2.2 hi = c.2.2 by omega, ← ca]
          exact .inl (R.hi c cm)
        · rw [show max c.2.2 hi = hi by omega]
          exact .inr hh
      · rw [if_neg qa]
        exact .inl (R.hi q hq)
  · refine ⟨fun b v s => ?_, fun e he => ?_, fun e he => ?_⟩
    · rcases s with s | s
      · obtain ⟨e, he, q⟩ := R.up b v s
        exact ⟨e, List.mem_append_left _ he, q⟩
      · obtain ⟨rfl, h1, h2⟩ := h b v s
        exact ⟨_, List.mem_append_right _ (List.mem_singleton.mpr rfl), rfl, h1, h2⟩
    · rcases List.mem_append.mp he with z | z
      · exact .inl (R.lo e z)
      · rw [List.mem_singleton] at z
        subst z
        exact .inr hl
    · rcases List.mem_append.mp he with z | z
      · exact .inl (R.hi e z)
      · rw [List.mem_singleton] at z
        subst z
        exact .inr hh
end K04
end PL

set_option maxHeartbeats 4000000
/-! MK04r: k04: the tables tell of all runs. -/
namespace PL
open Classical
namespace K04
theorem RelT.congr {S S' : Int → Int → Prop} {tb : Tab} (R : RelT S tb) (h : ∀ a v, S a v ↔ S' a v) : RelT S' tb :=
  ⟨fun a v s => R.up a v ((h a v).mpr s), fun e he => (h _ _).mp (R.lo e he), fun e he => (h _ _).mp (R.hi e he)⟩
theorem RelT.in {S : Int → Int → Prop} {n : Nat} {tb : Tab} {e : Int × Int × Int} {u : Int} (T : TabOk n tb) (R : RelT S tb) (he : e ∈ tb) (s : S e.1 u) : e.2.1 ≤ u ∧ u ≤ e.2.2 := by
  obtain ⟨q, hq, q1, q2, q3⟩ := R.up _ _ s
  have h1 := getT_mem T.nd hq
  have h2 := getT_mem T.nd he
  rw [q1] at h1
  obtain rfl := Option.some.inj (h1.symm.trans h2)
  exact ⟨q2, q3⟩
theorem wayT_rel {S0 : Int → Int → Prop} {n : Nat} {tb : Tab} {e : Int × Int × Int} (T0 : TabOk n tb) (R0 : RelT S0 tb) (he : e ∈ tb) : ∀ {ws : List Way} {acc : Tab} {S : Int → Int → Prop}, TabOk n acc → (∀ w ∈ ws, 0 ≤ w.2 ∧ w.2 < n) → RelT S acc →
    RelT (fun b v => S b v ∨ ∃ w ∈ ws, ∃ u, S0 e.1 u ∧ b = w.2 ∧ v = u + w.1) (wayT e acc ws)
  | [], acc, S, T, _, R => R.congr fun a v => by simp
  | w :: ws, acc, S, T, h, R => by
    obtain ⟨w0, w1⟩ := h w List.mem_cons_self
    have one := putT_rel (P := fun b v => ∃ u, S0 e.1 u ∧ b = w.2 ∧ v = u + w.1) (a := w.2) (lo := e.2.1 + w.1) (hi := e.2.2 + w.1) T R (fun b v ⟨u, hu, hb, hv⟩ => by
      have := R0.in T0 he hu
      exact ⟨hb, by omega, by omega⟩) ⟨_, R0.lo e he, rfl, rfl⟩ ⟨_, R0.hi e he, rfl, rfl⟩
    refine (wayT_rel T0 R0 he (ws := ws) (putT_ok T w0 w1) (fun q hq => h q (List.mem_cons_of_mem _ hq)) one).congr fun b v => ?_
    constructor
    · rintro ((s | s) | ⟨q, hq, s⟩)
      · exact .inl s
      · exact .inr ⟨w, List.mem_cons_self, s⟩
      · exact .inr ⟨q, List.mem_cons_of_mem _ hq, s⟩
    · rintro (s | ⟨q, hq, s⟩)
      · exact .inl (.inl s)
      · rcases List.mem_cons.mp hq with z | z
        · subst z
          exact .inl (.inr s)
        · exact .inr ⟨q, z, s⟩
theorem turnT_rel {S0 : Int → Int → Prop} {d : Int} {t : Tbl} {deed : Int} {tb : Tab} (M : MacOk d t) (x0 : 0 ≤ deed) (x1 : deed < d) (T : TabOk t.length tb) (R : RelT S0 tb) :
    RelT (fun b v => ∃ a u, S0 a u ∧ ∃ w ∈ waysAt t a deed, b = w.2 ∧ v = u + w.1) (turnT t deed tb) := by
  unfold turnT
  have go : ∀ (l acc : Tab) (S : Int → Int → Prop), (∀ e ∈ l, e ∈ tb) → TabOk t.length acc → RelT S acc → RelT (fun b v => S b v ∨ ∃ e ∈ l, ∃ w ∈ waysAt t e.1 deed, ∃ u, S0 e.1 u ∧ b = w.2 ∧ v = u + w.1) (l.foldl (fun acc e => wayT e acc (waysAt t e.1 deed)) acc) := by
    intro l
    induction l with
    | nil => exact fun acc S _ _ h => h.congr fun a v => by simp
    | cons e l ih =>
      intro acc S sub hT h
      have me := sub e List.mem_cons_self
      have wb : ∀ w ∈ waysAt t e.1 deed, 0 ≤ w.2 ∧ w.2 < t.length := fun w hw => ((waysAt_ok M (T.bd e me).1 (T.bd e me).2 x0 x1).bd w hw).2.2
      refine (ih _ _ (fun y hy => sub y (List.mem_cons_of_mem _ hy)) (wayT_ok hT wb) (wayT_rel T R me hT wb h)).congr fun b v => ?_
      constructor
      · rintro ((s | s) | ⟨q, hq, s⟩)
        · exact .inl s
        · exact .inr ⟨e, List.mem_cons_self, s⟩
        · exact .inr ⟨q, List.mem_cons_of_mem _ hq, s⟩
      · rintro (s | ⟨q, hq, s⟩)
        · exact .inl (.inl s)
        · rcases List.mem_cons.mp hq with z | z
          · subst z
            exact .inl (.inr s)
          · exact .inr ⟨q, z, s⟩
  refine (go tb [] (fun _ _ => False) (fun e h => h) ⟨by simp, fun e (h : e ∈ ([] : Tab)) => absurd h (by simp)⟩ ⟨fun _ _ h => h.elim, fun e (h : e ∈ ([] : Tab)) => absurd h (by simp), fun e (h : e ∈ ([] : Tab)) => absurd h (by simp)⟩).congr fun b v => ?_
  constructor
  · rintro (s | ⟨e, he, w, hw, u, hu, s⟩)
    · exact s.elim
    · exact ⟨e.1, u, hu, w, hw, s⟩
  · rintro ⟨a, u, hu, w, hw, s⟩
    obtain ⟨e, he, ea, _⟩ := R.up a u hu
    subst ea
    exact .inr ⟨e, he, w, hw, u, hu, s⟩
end K04
end PL

set_option maxHeartbeats 4000000
/-! MK04s: k04: the table of extremes and all runs. -/
namespace PL
open Classical
namespace K04
def sumsOf (f : List (Run × Int)) (b v : Int) : Prop := ∃ y ∈ f, y.2 = b ∧ beatsR y.1 = v
theorem beatsR_add (r : Run) (x a b : Int) : beatsR (r ++ [(x, a, b)]) = beatsR r + a := by
  unfold beatsR
  rw [List.map_append, List.sum_append]
  simp
theorem goOn_sums (t : Tbl) (x : Int) (f : List (Run × Int)) (b v : Int) : sumsOf (goOn t x f) b v ↔ ∃ a u, sumsOf f a u ∧ ∃ w ∈ waysAt t a x, b = w.2 ∧ v = u + w.1 := by
  constructor
  · rintro ⟨z, hz, z1, z2⟩
    obtain ⟨y, hy, hz⟩ := List.mem_flatMap.mp hz
    obtain ⟨w, hw, rfl⟩ := List.mem_map.mp hz
    refine ⟨y.2, beatsR y.1, ⟨y, hy, rfl, rfl⟩, w, hw, z1.symm, ?_⟩
    rw [← z2, beatsR_add]
  · rintro ⟨a, u, ⟨y, hy, rfl, rfl⟩, w, hw, rfl, rfl⟩
    exact ⟨_, List.mem_flatMap.mpr ⟨y, hy, List.mem_map.mpr ⟨w, hw, rfl⟩⟩, rfl, beatsR_add _ _ _ _⟩
theorem tab_rel {d : Int} {t : Tbl} (M : MacOk d t) : ∀ {l : List Int} {f f' : List (Run × Int)} {tb : Tab}, (∀ z ∈ l, 0 ≤ z ∧ z < d) → TabOk t.length tb → RelT (sumsOf f) tb → runsO t l f = some f' → RelT (sumsOf f') (l.foldl (fun tb z => turnT t z tb) tb)
  | [], f, f', tb, _, _, R, e => by
    cases e
    exact R
  | z :: l, f, f', tb, hz, T, R, e => by
    obtain ⟨z0, z1⟩ := hz z List.mem_cons_self
    unfold runsO at e
    split at e
    · cases e
    · exact tab_rel M (l := l) (tb := turnT t z tb) (fun y hy => hz y (List.mem_cons_of_mem _ hy)) (turnT_ok M z0 z1 T) ((turnT_rel M z0 z1 T R).congr fun b v => (goOn_sums t z f b v).symm) e
theorem tabOf_rel {d s : Int} {t : Tbl} {l : List Int} {f : List (Run × Int)} (M : MacOk d t) (s0 : 0 ≤ s) (s1 : s < t.length) (hd : ∀ z ∈ l, 0 ≤ z ∧ z < d) (e : runsO t l [([], s)] = some f) : RelT (sumsOf f) (tabOf t s l) := by
  refine tab_rel M hd ⟨by simp, fun q hq => ?_⟩ ⟨fun a v h => ?_, fun q hq => ?_, fun q hq => ?_⟩ e
  · rw [List.mem_singleton] at hq
    subst hq
    exact ⟨s0, s1⟩
  · obtain ⟨y, hy, h1, h2⟩ := h
    rw [List.mem_singleton] at hy
    subst hy
    have h3 : (0 : Int) = v := h2
    exact ⟨_, List.mem_singleton.mpr rfl, h1, by show (0 : Int) ≤ v; omega, by show v ≤ (0 : Int); omega⟩
  · rw [List.mem_singleton] at hq
    subst hq
    exact ⟨_, List.mem_singleton.mpr rfl, rfl, rfl⟩
  · rw [List.mem_singleton] at hq
    subst hq
    exact ⟨_, List.mem_singleton.mpr rfl, rfl, rfl⟩
end K04
end PL

set_option maxHeartbeats 4000000
/-! MK04t: k04: least and greatest. -/
namespace PL
open Classical
namespace K04
theorem rel_ne {f : List (Run × Int)} {tb : Tab} (R : RelT (sumsOf f) tb) (h : f ≠ []) : tb ≠ [] := by
  cases f with
  | nil => exact absurd rfl h
  | cons y f =>
    obtain ⟨e, he, _⟩ := R.up y.2 (beatsR y.1) ⟨y, List.mem_cons_self, rfl, rfl⟩
    intro z
    rw [z] at he
    cases he
theorem rel_min {f : List (Run × Int)} {tb : Tab} (R : RelT (sumsOf f) tb) (h : f ≠ []) : minI (tb.map (·.2.1)) = minI (f.map fun y => beatsR y.1) := by
  have ht : tb.map (·.2.1) ≠ [] := by simpa using rel_ne R h
  have hf : (f.map fun y => beatsR y.1) ≠ [] := by simpa using h
  obtain ⟨e, he, e1⟩ := List.mem_map.mp (minI_mem ht)
  obtain ⟨y, hy, y1⟩ := List.mem_map.mp (minI_mem hf)
  obtain ⟨q, hq, _, q2⟩ := R.lo e he
  obtain ⟨c, hc, _, c2, _⟩ := R.up y.2 (beatsR y.1) ⟨y, hy, rfl, rfl⟩
  have h1 : minI (f.map fun y => beatsR y.1) ≤ beatsR q.1 := minI_le (List.mem_map.mpr ⟨q, hq, rfl⟩)
  have h2 : minI (tb.map (·.2.1)) ≤ c.2.1 := minI_le (List.mem_map.mpr ⟨c, hc, rfl⟩)
  omega
theorem rel_max {f : List (Run × Int)} {tb : Tab} (R : RelT (sumsOf f) tb) (h : f ≠ []) : maxI (tb.map (·.2.2)) = maxI (f.map fun y => beatsR y.1) := by
  have ht : tb.map (·.2.2) ≠ [] := by simpa using rel_ne R h
  have hf : (f.map fun y => beatsR y.1) ≠ [] := by simpa using h
  obtain ⟨e, he, e1⟩ := List.mem_map.mp (maxI_mem ht)
  obtain ⟨y, hy, y1⟩ := List.mem_map.mp (maxI_mem hf)
  obtain ⟨q, hq, _, q2⟩ := R.hi e he
  obtain ⟨c, hc, _, _, c2⟩ := R.up y.2 (beatsR y.1) ⟨y, hy, rfl, rfl⟩
  have h1 : beatsR q.1 ≤ maxI (f.map fun y => beatsR y.1) := maxI_le (List.mem_map.mpr ⟨q, hq, rfl⟩)
  have h2 : c.2.2 ≤ maxI (tb.map (·.2.2)) := maxI_le (List.mem_map.mpr ⟨c, hc, rfl⟩)
  omega
end K04
end PL

set_option maxHeartbeats 4000000
/-! MK04u: k04: there are runs; what extremes answers, by all runs. -/
namespace PL
open PySem
open Classical
namespace K04
theorem goOn_ne {d : Int} {t : Tbl} {x : Int} {j : Nat} {f : List (Run × Int)} (M : MacOk d t) (F : FOk t j f) (x0 : 0 ≤ x) (x1 : x < d) (h : f ≠ []) : goOn t x f ≠ [] := by
  cases f with
  | nil => exact absurd rfl h
  | cons y f =>
    have W := waysAt_ok M (F.ok y List.mem_cons_self).1 (F.ok y List.mem_cons_self).2.1 x0 x1
    intro z
    unfold goOn at z
    rw [List.flatMap_cons, List.append_eq_nil_iff, List.map_eq_nil_iff] at z
    exact W.ne z.1
theorem runsO_ne {d : Int} {t : Tbl} (M : MacOk d t) : ∀ {l : List Int} {j : Nat} {f f' : List (Run × Int)}, FOk t j f → (∀ z ∈ l, 0 ≤ z ∧ z < d) → f ≠ [] → runsO t l f = some f' → f' ≠ []
  | [], j, f, f', _, _, h, e => by
    cases e
    exact h
  | z :: l, j, f, f', F, hz, h, e => by
    obtain ⟨z0, z1⟩ := hz z List.mem_cons_self
    unfold runsO at e
    split at e
    · cases e
    · rename_i hle
      exact runsO_ne M (goOn_ok M F z0 z1 (by omega)) (fun y hy => hz y (List.mem_cons_of_mem _ hy)) (goOn_ne M F z0 z1 h) e
theorem start_ok {s : Int} {t : Tbl} (s0 : 0 ≤ s) (s1 : s < t.length) : FOk t 0 [(([] : Run), s)] := ⟨(by show 1 ≤ 5000; omega), fun x hx => by
    rw [List.mem_singleton] at hx
    subst hx
    exact ⟨s0, s1, Nat.le_refl _⟩⟩
/-- least and greatest of all runs -/
theorem extremes_runs {d s k : Int} {t : Tbl} {l : List Int} {f : List (Run × Int)} (M : MacOk d t) (s0 : 0 ≤ s) (s1 : s < t.length) (hl : l.length ≤ 200) (hd : ∀ z ∈ l, 0 ≤ z ∧ z < d) (e : runsO t l [([], s)] = some f) :
    φ_extremes [macD d t, .int s, intsD l] k = .ok (.tup [.int (minI (f.map fun y => beatsR y.1)), .int (maxI (f.map fun y => beatsR y.1))]) k := by
  have R := tabOf_rel M s0 s1 hd e
  have ne := runsO_ne M (start_ok s0 s1) hd (by simp) e
  rw [extremes_eq M s0 s1 hl hd (rel_ne R ne), rel_min R ne, rel_max R ne]
end K04
end PL

set_option maxHeartbeats 4000000
/-! MK04v: k04: the same data, the same text. -/
namespace PL
open PySem PySem.Spec L2
open Classical
namespace K04
theorem law_same_eq {a : D} {k : Int} (h : ReprOk (.lst [a])) : φ_law_same [a, a] k = .ok (.bl true) k := by
  have one : ∀ i, i = 0 ∨ i = 1 → eCallB fRepr (eCons (eLst (eCons (eVar i) eNil)) eNil) [some a, some a] k = .ok (.str (D.lst [a]).py.shown) k := by
    intro i hi
    have l : eLst (eCons (eVar i) eNil) [some a, some a] k = .ok (.lst [a]) k := eLst_ok (eCons_ok (k1 := k) (k2 := k) (xs := []) (by rcases hi with rfl | rfl <;> rfl) rfl) (by show 1 ≤ _; omega)
    exact eCallB_ok (eCons_ok (k2 := k) (xs := []) l rfl) (if_pos h)
  exact fnOf_rt (sRet_ok (e2_ok (one 0 (.inl rfl)) (one 1 (.inr rfl)) (eq_refl (by simp [Pu]))))
end K04
end PL

set_option maxHeartbeats 4000000
/-! MK04w: k04: all pairs. -/
namespace PL
open PySem PySem.Spec L2
open Classical
namespace K04
section
variable {k : Int}
noncomputable def allIn : Stm := (sSet 2 (e2 fCat (eVar 2) (eLc (iSeq (eVar 1)) (pName 4) tYs (eTup (eCons (eVar 3) (eCons (eVar 4) eNil))) [4])))
def pairsD (xs ys : List D) : List D := xs.flatMap fun a => ys.map fun b => .tup [a, b]
theorem all_loop {l : D} {ys : List D} (hy : ys.length ≤ 1000) : ∀ {xs acc : List D} {a : Option D}, acc.length + xs.length * 1000 ≤ 1000000 →
    ∃ a', forL (pName 3) allIn xs [some l, some (.lst ys), some (.lst acc), a, none] k = .ok (.nx [some l, some (.lst ys), some (.lst (acc ++ pairsD xs ys)), a', none]) k
  | [], acc, a, _ => ⟨a, by unfold pairsD; rw [List.flatMap_nil, List.append_nil]; rfl⟩
  | x :: xs, acc, a, h => by
    rw [List.length_cons, Nat.succ_mul] at h
    have A := eLc_name (i := 4) (m := eTup (eCons (eVar 3) (eCons (eVar 4) eNil))) (g := id) (xs := ys) (f := fun b => .tup [x, b]) (it := iSeq (eVar 1)) (env := [some l, some (.lst ys), some (.lst acc), some x, none]) (k := k) (by rw [List.map_id]; exact iSeq_lst rfl) (sl_small (by omega)) fun b _ =>
      eTup_ok (eCons_ok (k1 := k) rfl (eCons_ok (k1 := k) (k2 := k) (xs := []) rfl rfl)) (by show 2 ≤ _; omega)
    have one : allIn [some l, some (.lst ys), some (.lst acc), some x, none] k = .ok (.nx [some l, some (.lst ys), some (.lst (acc ++ ys.map fun b => .tup [x, b])), some x, none]) k :=
      sSet_ok (e2_ok (k1 := k) (x := .lst acc) rfl A (cat_lst (by rw [List.length_map]; omega)))
    obtain ⟨a', ih⟩ := all_loop (l := l) hy (xs := xs) (acc := acc ++ ys.map fun b => .tup [x, b]) (a := some x) (by rw [List.length_append, List.length_map]; omega)
    refine ⟨a', ?_⟩
    rw [forL_nx (e1 := [some l, some (.lst ys), some (.lst acc), some x, none]) rfl one, ih, List.append_assoc]
    rfl
theorem law_all {xs ys : List D} (hx : xs.length ≤ 1000) (hy : ys.length ≤ 1000) : φ_law_all [.lst xs, .lst ys] k = .ok (.lst (pairsD xs ys)) k := by
  obtain ⟨a', loop⟩ := all_loop (l := .lst xs) (k := k) hy (xs := xs) (acc := []) (a := none) (by show 0 + _ ≤ _; omega)
  have unf : m_law_all = sSeq (sSet 2 (eLst eNil)) (sSeq (sFor (iSeq (eVar 0)) (pName 3) allIn) (sRet (eVar 2))) := rfl
  have s1 : sSet 2 (eLst eNil) [some (.lst xs), some (.lst ys), none, none, none] k = .ok (.nx [some (.lst xs), some (.lst ys), some (.lst []), none, none]) k := sSet_ok (eLst_ok (ds := []) rfl (by show 0 ≤ _; omega))
  have sf : sFor (iSeq (eVar 0)) (pName 3) allIn [some (.lst xs), some (.lst ys), some (.lst []), none, none] k = .ok (.nx [some (.lst xs), some (.lst ys), some (.lst (pairsD xs ys)), a', none]) k := by
    rw [sFor_ok (ds := xs) (k1 := k) (iSeq_lst rfl), loop, List.nil_append]
  refine fnOf_rt ?_
  show m_law_all [some (.lst xs), some (.lst ys), none, none, none] k = _
  rw [unf, sSeq_nx s1, sSeq_nx sf]
  rfl
end
end K04
end PL

set_option maxHeartbeats 4000000
/-! PM1: data whose shown text is short. -/
namespace PL
open PySem PySem.Spec L2
open Classical
theorem shown_int30 {i : Int} (h : i.natAbs < 10 ^ 29) : (PyData.shown (.int i)).length ≤ 30 := by
  have e := int_text_length_le10 (k := 29) (by decide) h
  show (Str.ofString (toString i)).length ≤ 30
  rw [PyProof.Rows.ofString_length]
  exact e
/-- at most n deep, at most w parts, small numbers, no text -/
structure Sm (n w : Nat) (d : D) : Prop where
  pu : Pu n d
  sh : d.py.showable = true
  lv : d.py.leavesShort 30 = true
  bk : d.py.bulk + 1 ≤ w
structure SmL (n w : Nat) (ds : List D) : Prop where
  pu : ∀ x ∈ ds, Pu n x
  sh : PyData.showableAll (D.pyL ds) = true
  lv : PyData.leavesShortAll 30 (D.pyL ds) = true
  bk : PyData.bulkAll (D.pyL ds) ≤ w
section
variable {n w a b : Nat} {d : D} {ds : List D}
theorem Sm.mono {n' w' : Nat} (h : Sm n w d) (hn : n ≤ n') (hw : w ≤ w') : Sm n' w' d := ⟨h.pu.mono hn, h.sh, h.lv, Nat.le_trans h.bk hw⟩
theorem sm_int {i : Int} (h : i.natAbs < 10 ^ 29) : Sm n 1 (.int i) := ⟨pu_int _ _, by
  rw [D.py, PyData.showable, decide_eq_true_eq]
  have : i.natAbs.log2 ≤ 99 := by
    by_cases z : i.natAbs = 0
    · rw [z]; decide
    · have h2 := Nat.log2_self_le z
      refine Nat.le_of_lt_succ ((Nat.pow_lt_pow_iff_right (a := 2) (by decide)).mp (Nat.lt_of_le_of_lt h2 (Nat.lt_trans h (by decide))))
  omega, by
  rw [D.py, PyData.leavesShort, decide_eq_true_eq]
  exact shown_int30 h, by rw [D.py, PyData.bulk]; omega⟩
theorem sm_bl {x : Bool} : Sm n 1 (.bl x) := ⟨by cases n <;> simp [Pu], by rw [D.py, PyData.showable], by rw [D.py, PyData.leavesShort], by rw [D.py, PyData.bulk]; omega⟩
theorem sm_non : Sm n 1 .non := ⟨by cases n <;> simp [Pu], by rw [D.py, PyData.showable], by rw [D.py, PyData.leavesShort], by rw [D.py, PyData.bulk]; omega⟩
theorem sm_str {x : Str} (h : (x.cps.toList.all fun c => decide (c < 16 ^ 8)) = true) (hl : x.cps.size < w) : Sm n w (.str x) := ⟨by cases n <;> simp [Pu], by rw [D.py, PyData.showable], by rw [D.py, PyData.leavesShort]; exact h, by rw [D.py, PyData.bulk]; omega⟩
theorem sml_nil : SmL n 0 [] := ⟨by simp, by rw [D.pyL, PyData.showableAll], by rw [D.pyL, PyData.leavesShortAll], by rw [D.pyL, PyData.bulkAll]; omega⟩
theorem sml_cons (h : Sm n a d) (g : SmL n b ds) : SmL n (a + b) (d :: ds) := ⟨fun x hx => by
  rcases List.mem_cons.mp hx with e | e
  · subst e; exact h.pu
  · exact g.pu x e, by rw [D.pyL, PyData.showableAll, h.sh, g.sh]; rfl, by rw [D.pyL, PyData.leavesShortAll, h.lv, g.lv]; rfl, by
    rw [D.pyL, PyData.bulkAll]
    have := h.bk
    have := g.bk
    omega⟩
theorem SmL.mono {w' : Nat} (h : SmL n w ds) (hw : w ≤ w') : SmL n w' ds := ⟨h.pu, h.sh, h.lv, Nat.le_trans h.bk hw⟩
theorem sml_all : ∀ {ds : List D}, (∀ x ∈ ds, Sm n w x) → SmL n (ds.length * w) ds
  | [], _ => by rw [List.length_nil, Nat.zero_mul]; exact sml_nil
  | d :: ds, h => (sml_cons (h d List.mem_cons_self) (sml_all fun x hx => h x (List.mem_cons_of_mem _ hx))).mono (by rw [List.length_cons, Nat.succ_mul]; omega)
theorem sm_tup (h : SmL n w ds) : Sm (n + 1) (w + 1) (.tup ds) := ⟨by rw [Pu]; exact h.pu, by rw [D.py, PyData.showable]; exact h.sh, by rw [D.py, PyData.leavesShort]; exact h.lv, by rw [D.py, PyData.bulk]; have := h.bk; omega⟩
theorem sm_lst (h : SmL n w ds) : Sm (n + 1) (w + 1) (.lst ds) := ⟨by rw [Pu]; exact h.pu, by rw [D.py, PyData.showable]; exact h.sh, by rw [D.py, PyData.leavesShort]; exact h.lv, by rw [D.py, PyData.bulk]; have := h.bk; omega⟩
theorem sm_tups {l : Nat} (h : ∀ x ∈ ds, Sm n w x) (hl : ds.length ≤ l) : Sm (n + 1) (l * w + 1) (.tup ds) := sm_tup ((sml_all h).mono (Nat.mul_le_mul_right _ hl))
theorem sm_lsts {l : Nat} (h : ∀ x ∈ ds, Sm n w x) (hl : ds.length ≤ l) : Sm (n + 1) (l * w + 1) (.lst ds) := sm_lst ((sml_all h).mono (Nat.mul_le_mul_right _ hl))
/-- may be shown -/
theorem Sm.repr (h : Sm n w d) (hn : n ≤ 40) (hw : w ≤ 500000) : ReprOk d := ⟨h.pu.mono hn, h.sh, by
  have h1 := PyData.shown_le_bulk 30 (by decide) d.py h.lv
  have h2 := h.bk
  rw [sizeLine_eq]
  omega⟩
end
end PL

set_option maxHeartbeats 4000000
/-! PM2: mirrors worked out by what holds behind them. -/
namespace PL
open PySem PySem.Spec L2 PyProof.Rows
open Classical
/-- behind the outcome x: P, or E of an exception -/
def W {α : Type} (x : R α) (P : α → Int → Prop) (E : Str → Int → Prop) : Prop := match x with
  | .ok a k => P a k
  | .ex c k => E c k
  | .no => False
def nE : Str → Int → Prop := fun _ _ => False
/-- the option tells r, and P of it -/
def Val {α : Type} (o : Option α) (P : α → Prop) : Prop := ∃ r, o = some r ∧ P r
def Len (ds : List D) (q : Prop) : Prop := ds.length ≤ 1000000 ∧ q
def AsBl (d : D) (P : Bool → Prop) : Prop := ∃ x, d = .bl x ∧ P x
def AsInt (d : D) (P : Int → Prop) : Prop := ∃ x, d = .int x ∧ P x
def AsDct (d : D) (P : List (Key × D) → Prop) : Prop := ∃ x, d = .dct x ∧ P x
def AsTwo (ds : List D) (P : D → D → Prop) : Prop := ∃ x y, ds = [x, y] ∧ P x y
theorem val {α : Type} {o : Option α} {r : α} {P : α → Prop} (e : o = some r) (h : P r) : Val o P := ⟨r, e, h⟩
theorem valG {α : Type} {o : Option α} {P : α → Prop} (h : Val o P) : Val o P := h
theorem len {ds : List D} {q : Prop} (e : ds.length ≤ 1000000) (h : q) : Len ds q := ⟨e, h⟩
theorem as_bl {x : Bool} {P : Bool → Prop} (h : P x) : AsBl (.bl x) P := ⟨x, rfl, h⟩
theorem as_int {x : Int} {P : Int → Prop} (h : P x) : AsInt (.int x) P := ⟨x, rfl, h⟩
theorem as_dct {x : List (Key × D)} {P : List (Key × D) → Prop} (h : P x) : AsDct (.dct x) P := ⟨x, rfl, h⟩
theorem as_two {x y : D} {P : D → D → Prop} (h : P x y) : AsTwo [x, y] P := ⟨x, y, rfl, h⟩
section
variable {α β γ : Type} {k k1 : Int} {env env1 : Env} {E : Str → Int → Prop}
theorem W.mono {x : R α} {P P' : α → Int → Prop} {E' : Str → Int → Prop} (h : W x P E) (i : ∀ a k, P a k → P' a k) (j : ∀ c k, E c k → E' c k) : W x P' E' := by
  cases x with
  | ok a k => exact i a k h
  | ex c k => exact j c k h
  | no => exact h
theorem W.weak {x : R α} {P : α → Int → Prop} (h : W x P nE) : W x P E := h.mono (fun _ _ h => h) fun _ _ h => h.elim
theorem W.imp {x : R α} {P P' : α → Int → Prop} (h : W x P E) (i : ∀ a k, P a k → P' a k) : W x P' E := h.mono i fun _ _ h => h
theorem W.go {x : R α} {P P' : α → Int → Prop} (h : W x P nE) (i : ∀ a k, P a k → P' a k) : W x P' E := h.mono i fun _ _ h => h.elim
theorem W_eq {x : R α} {a : α} {P : α → Int → Prop} (h : x = .ok a k) (p : P a k) : W x P E := by rw [h]; exact p
theorem W_exc {x : R α} {c : Str} {P : α → Int → Prop} (h : x = .ex c k) (p : E c k) : W x P E := by rw [h]; exact p
theorem W.ok_of {x : R α} {a : α} (h : W x (fun b j => b = a ∧ j = k) nE) : x = .ok a k := by
  cases x with
  | ok b j => obtain ⟨rfl, rfl⟩ := h; rfl
  | ex c k => exact h.elim
  | no => exact h.elim
theorem W.ex_of {x : R α} {c : Str} (h : W x (fun _ _ => False) fun b j => b = c ∧ j = k) : x = .ex c k := by
  cases x with
  | ok b j => exact h.elim
  | ex b j => obtain ⟨rfl, rfl⟩ := h; rfl
  | no => exact h.elim
theorem W.some_of {x : R α} {P : α → Int → Prop} (h : W x P nE) : ∃ a j, x = .ok a j ∧ P a j := by
  cases x with
  | ok b j => exact ⟨b, j, rfl, h⟩
  | ex c k => exact h.elim
  | no => exact h.elim
theorem W_bind {x : R α} {f : α → Int → R β} {P : β → Int → Prop} (h : W x (fun a k => W (f a k) P E) E) : W (x.bind f) P E := by
  cases x with
  | ok a k => exact h
  | ex c k => exact h
  | no => exact h
theorem W_of {o : Option α} {P : α → Int → Prop} (h : Val (o) fun r => P r k) : W (R.of o k) P E := by
  obtain ⟨r, rfl, h⟩ := h
  exact h

/-! ### expressions -/
variable {P : D → Int → Prop} {a b c : Ev} {ms : Els} {t u : Et}
theorem w_c {d : D} (h : P d k) : W (eC d env k) P E := h
theorem w_var {i : Nat} {d : D} (e : env[i]? = some (some d)) (h : P d k) : W (eVar i env k) P E := by
  unfold eVar
  rw [e]
  exact h
theorem w_varG {i : Nat} (h : W (eVar i env k) P E) : W (eVar i env k) P E := h
theorem w_e1 {f : D → Option D} (h : W (a env k) (fun x k1 => Val (f x) fun r => P r k1) E) : W (e1 f a env k) P E := W_bind (h.imp fun _ _ z => W_of z)
theorem w_e2 {f : D → D → Option D} (h : W (a env k) (fun x k1 => W (b env k1) (fun y k2 => Val (f x y) fun r => P r k2) E) E) : W (e2 f a b env k) P E := W_bind (h.imp fun _ _ z => W_bind (z.imp fun _ _ z => W_of z))
theorem w_eif (h : W (t env k) (fun x k1 => (x = true → W (a env k1) P E) ∧ (x = false → W (b env k1) P E)) E) : W (eIf t a b env k) P E := W_bind (h.imp fun x k1 z => by
  cases x with
  | true => exact z.1 rfl
  | false => exact z.2 rfl)
theorem w_and2 (h : W (a env k) (fun x k1 => AsBl x fun c => (c = true → W (b env k1) P E) ∧ (c = false → P (.bl false) k1)) E) : W (eAnd2 a b env k) P E := W_bind (h.imp fun x k1 ⟨c, e, z⟩ => by
  subst e
  cases c with
  | true => exact z.1 rfl
  | false => exact z.2 rfl)
theorem w_or2 (h : W (a env k) (fun x k1 => AsBl x fun c => (c = true → P (.bl true) k1) ∧ (c = false → W (b env k1) P E)) E) : W (eOr2 a b env k) P E := W_bind (h.imp fun x k1 ⟨c, e, z⟩ => by
  subst e
  cases c with
  | true => exact z.1 rfl
  | false => exact z.2 rfl)
theorem w_not (h : W (a env k) (fun x k1 => AsBl x fun c => P (.bl (!c)) k1) E) : W (eNot a env k) P E := W_bind (h.imp fun x k1 ⟨c, e, z⟩ => by
  subst e
  exact z)
theorem w_chain {f g : D → D → Option D} (h : W (a env k) (fun x k1 => W (b env k1) (fun y k2 => Val (f x y) fun d => AsBl d fun s => (s = true → W (c env k2) (fun z k3 => Val (g y z) fun r => P r k3) E) ∧ (s = false → P (.bl false) k2)) E) E) :
    W (eChain f g a b c env k) P E := W_bind (h.imp fun x k1 h => W_bind (h.imp fun y k2 ⟨d, e, s, e2, z⟩ => by
  rw [e]
  subst e2
  cases s with
  | true =>
    show W ((c env k2).bind fun z k5 => R.of (g y z) k5) P E
    exact W_bind ((z.1 rfl).imp fun _ _ z => W_of z)
  | false => exact z.2 rfl))
variable {PB : Bool → Int → Prop}
theorem w_tV (h : W (a env k) (fun d k1 => AsBl d fun x => PB x k1) E) : W (tV a env k) PB E := W_bind (h.imp fun x k1 ⟨c, e, z⟩ => by
  subst e
  exact z)
theorem w_tOr2 (h : W (t env k) (fun x k1 => (x = true → PB true k1) ∧ (x = false → W (u env k1) PB E)) E) : W (tOr2 t u env k) PB E := W_bind (h.imp fun x k1 z => by
  cases x with
  | true => exact z.1 rfl
  | false => exact z.2 rfl)
theorem w_tAnd2 (h : W (t env k) (fun x k1 => (x = true → W (u env k1) PB E) ∧ (x = false → PB false k1)) E) : W (tAnd2 t u env k) PB E := W_bind (h.imp fun x k1 z => by
  cases x with
  | true => exact z.1 rfl
  | false => exact z.2 rfl)
theorem w_tNt (h : W (t env k) (fun x k1 => PB (!x) k1) E) : W (tNt t env k) PB E := W_bind h
theorem w_tYs (h : PB true k) : W (tYs env k) PB E := h
variable {PL : List D → Int → Prop}
theorem w_nil (h : PL [] k) : W (eNil env k) PL E := h
theorem w_cons (h : W (a env k) (fun x k1 => W (ms env k1) (fun xs k2 => PL (x :: xs) k2) E) E) : W (eCons a ms env k) PL E := W_bind (h.imp fun _ _ z => W_bind z)
theorem w_star (h : W (a env k) (fun x k1 => Val (toSeq x) fun ys => W (ms env k1) (fun xs k2 => PL (ys ++ xs) k2) E) E) : W (eStar a ms env k) PL E := W_bind (h.imp fun x k1 ⟨ys, e, z⟩ => by
  cases x with
  | lst zs => cases e; exact W_bind z
  | tup zs => cases e; exact W_bind z
  | _ => cases e)
theorem w_tup (h : W (ms env k) (fun ds k1 => Len ds (P (.tup ds) k1)) E) : W (eTup ms env k) P E := W_bind (h.imp fun ds k1 z => by
  rw [if_pos (sl_small z.1)]
  exact z.2)
theorem w_lst (h : W (ms env k) (fun ds k1 => Len ds (P (.lst ds) k1)) E) : W (eLst ms env k) P E := W_bind (h.imp fun ds k1 z => by
  rw [if_pos (sl_small z.1)]
  exact z.2)
theorem w_callB {f : List D → Option D} (h : W (ms env k) (fun ds k1 => Val (f ds) fun r => P r k1) E) : W (eCallB f ms env k) P E := W_bind (h.imp fun _ _ z => W_of z)
theorem w_call {φ : List D → Int → R D} (h : W (ms env k) (fun ds k1 => W (φ ds k1) P E) E) : W (eCall φ ms env k) P E := W_bind h
theorem w_callV {i n : Nat} {y : Str} {φ : List D → Int → R D} {disp : Disp} (e : env[i]? = some (some (.fn y))) (hd : disp y = some (n, φ)) (h : W (ms env k) (fun ds k1 => ds.length = n ∧ W (φ ds k1) P E) E) : W (eCallV i disp ms env k) P E := by
  unfold eCallV
  rw [e]
  simp only [hd]
  refine W_bind (h.imp fun ds k1 z => ?_)
  rw [if_pos z.1]
  exact z.2
variable {PO : Option Int → Int → Prop}
theorem w_oNone (h : PO none k) : W (oNone env k) PO E := h
theorem w_oSome (h : W (a env k) (fun d k1 => AsInt d fun i => PO (some i) k1) E) : W (oSome a env k) PO E := W_bind (h.imp fun x k1 ⟨c, e, z⟩ => by
  subst e
  exact z)
theorem w_cut {lo hi : Eo} (h : W (a env k) (fun x k1 => W (lo env k1) (fun l k2 => W (hi env k2) (fun h k3 => Val (fCut x l h) fun r => P r k3) E) E) E) : W (eCut a lo hi env k) P E :=
  W_bind (h.imp fun _ _ z => W_bind (z.imp fun _ _ z => W_bind (z.imp fun _ _ z => W_of z)))
theorem w_iSeq (h : W (a env k) (fun d k1 => Val (toSeq d) fun ds => PL ds k1) E) : W (iSeq a env k) PL E := W_bind (h.imp fun _ _ z => W_of z)
theorem w_iRng (h : W (ms env k) (fun ds k1 => Val (fRng ds) fun l => PL l k1) E) : W (iRng ms env k) PL E := W_bind (h.imp fun _ _ z => W_of z)
theorem w_disp1 {mk mv : Ev} (h : W (mk env k) (fun y k1 => W (mv env k1) (fun d k2 => Val (keyD y) fun key => P (.dct [(key, d)]) k2) E) E) : W (eDisp1 mk mv env k) P E :=
  W_bind (h.imp fun _ _ z => W_bind (z.imp fun _ _ ⟨key, e, z⟩ => by rw [e]; exact z))
theorem w_dnew (h : P (.dct []) k) : W (eDnew env k) P E := h
theorem w_get2 {mo mk md : Ev} (h : W (mo env k) (fun o k1 => AsDct o fun kvs => W (mk env k1) (fun y k2 => W (md env k2) (fun z k3 => Val (keyD y) fun key => P ((lookD kvs key).getD z) k3) E) E) E) : W (eGet2 mo mk md env k) P E :=
  W_bind (h.imp fun o k1 ⟨kvs, e, z⟩ => by
    subst e
    exact W_bind (z.imp fun _ _ z => W_bind (z.imp fun _ _ ⟨key, e, z⟩ => by rw [e]; exact z)))

/-! ### comprehensions -/
def LC (o : Option (List D × Int)) (P : D → Int → Prop) : Prop := ∃ ys k, o = some (ys, k) ∧ ys.length ≤ 1000000 ∧ P (.lst ys) k
variable {p p1 : Pt} {it it1 : Its} {vs vs1 : List Nat} {m : Ev}
theorem LC.w {o : Option (List D × Int)} (h : LC o P) : W (okLst o) P E := by
  obtain ⟨ys, k, rfl, l, h⟩ := h
  show W (if ys.length ≤ sizeLine then R.ok (D.lst ys) k else .no) P E
  rw [if_pos (sl_small l)]
  exact h
theorem w_lc (h : W (it env k) (fun ds k1 => LC (lcL p t m vs env ds k1) P) E) : W (eLc it p t m vs env k) P E := W_bind (h.imp fun _ _ z => z.w)
theorem w_lc2 {t1 : Et} (h : W (it env k) (fun ds k1 => LC (lcL2 p t it1 p1 t1 m vs vs1 env ds k1) P) E) : W (eLc2 it p t it1 p1 t1 m vs vs1 env k) P E := W_bind (h.imp fun _ _ z => z.w)
theorem w_lcK {i : Nat} {ds : List D} (e : ksAt env i = some ds) (h : LC (lcL p t m vs env ds k) P) : W (eLcK i p t m vs env k) P E := by
  unfold eLcK
  rw [e]
  exact h.w
/-- the same number stays -/
theorem lc_map {g f : γ → D} {xs : List γ} (hl : xs.length ≤ 1000000) (h : ∀ x ∈ xs, ∃ e, p (g x) (wipeE env vs) = some e ∧ W (m e k) (fun d j => d = f x ∧ j = k) nE) (q : P (.lst (xs.map f)) k) : LC (lcL p tYs m vs env (xs.map g) k) P :=
  ⟨xs.map f, k, lcL_map fun x hx => by
    obtain ⟨e, h1, h2⟩ := h x hx
    exact ⟨e, h1, rfl, h2.ok_of⟩, by rw [List.length_map]; exact hl, q⟩
theorem lcL_go {g : γ → D} {all : List γ} (J : List γ → List D → Int → Prop) : ∀ {xs pre : List γ} {ys : List D} {k : Int}, pre ++ xs = all → J pre ys k →
    (∀ pre x post ys k, all = pre ++ x :: post → J pre ys k → ∃ e, p (g x) (wipeE env vs) = some e ∧ W (t e k) (fun b k1 => (b = true → W (m e k1) (fun d k2 => J (pre ++ [x]) (ys ++ [d]) k2) nE) ∧ (b = false → J (pre ++ [x]) ys k1)) nE) →
    ∃ zs k2, lcL p t m vs env (xs.map g) k = some (zs, k2) ∧ J all (ys ++ zs) k2
  | [], pre, ys, k, e, j, _ => by
    rw [List.append_nil] at e
    subst e
    exact ⟨[], k, rfl, by rw [List.append_nil]; exact j⟩
  | x :: xs, pre, ys, k, e, j, h => by
    obtain ⟨e1, hp, ht⟩ := h pre x xs ys k e.symm j
    obtain ⟨b, k1, et, ht⟩ := ht.some_of
    have e' : (pre ++ [x]) ++ xs = all := by rw [List.append_assoc]; exact e
    cases b with
    | false =>
      obtain ⟨zs, k2, h1, h2⟩ := lcL_go J (xs := xs) e' (ht.2 rfl) h
      refine ⟨zs, k2, ?_, h2⟩
      rw [List.map_cons]
      unfold lcL
      simp only [hp, et, nx, Option.bind_some, Bool.false_eq_true, if_false, h1]
    | true =>
      obtain ⟨d, k3, em, hm⟩ := (ht.1 rfl).some_of
      obtain ⟨zs, k2, h1, h2⟩ := lcL_go J (xs := xs) e' hm h
      refine ⟨d :: zs, k2, ?_, by rw [List.append_assoc] at h2; exact h2⟩
      rw [List.map_cons]
      unfold lcL
      simp only [hp, et, em, nx, Option.bind_some, if_true, h1]
/-- J tells of what has been gone through and what has been made -/
theorem lc_inv {g : γ → D} {xs : List γ} (J : List γ → List D → Int → Prop) (j0 : J [] [] k)
    (h : ∀ pre x post ys k, xs = pre ++ x :: post → J pre ys k → ∃ e, p (g x) (wipeE env vs) = some e ∧ W (t e k) (fun b k1 => (b = true → W (m e k1) (fun d k2 => J (pre ++ [x]) (ys ++ [d]) k2) nE) ∧ (b = false → J (pre ++ [x]) ys k1)) nE)
    (q : ∀ ys k, J xs ys k → ys.length ≤ 1000000 ∧ P (.lst ys) k) : LC (lcL p t m vs env (xs.map g) k) P := by
  obtain ⟨zs, k2, h1, h2⟩ := lcL_go J (xs := xs) (pre := []) (ys := []) rfl j0 h
  exact ⟨zs, k2, h1, q _ _ h2⟩
theorem lc2_map {δ : Type} {t1 : Et} {g : γ → D} {g1 : γ → δ → D} {f : γ → δ → D} {ys : γ → List δ} {xs : List γ} (h : ∀ x ∈ xs, ∃ e, p (g x) (wipeE env vs) = some e ∧ W (it1 e k) (fun l j => l = (ys x).map (g1 x) ∧ j = k) nE ∧
      ∀ y ∈ ys x, ∃ e1, p1 (g1 x y) (wipeE e vs1) = some e1 ∧ W (m e1 k) (fun d j => d = f x y ∧ j = k) nE) (hl : (xs.flatMap fun x => (ys x).map (f x)).length ≤ 1000000) (q : P (.lst (xs.flatMap fun x => (ys x).map (f x))) k) : LC (lcL2 p tYs it1 p1 tYs m vs vs1 env (xs.map g) k) P :=
  ⟨_, k, lcL2_map (g1 := g1) (ys := ys) fun x hx => by
    obtain ⟨e, h1, h2, h3⟩ := h x hx
    exact ⟨e, h1, rfl, h2.ok_of, fun y hy => by
      obtain ⟨e1, h4, h5⟩ := h3 y hy
      exact ⟨e1, h4, rfl, h5.ok_of⟩⟩, hl, q⟩

def LCa (acc : List D) (o : Option (List D × Int)) (P : D → Int → Prop) : Prop := ∃ ys k, o = some (ys, k) ∧ (acc ++ ys).length ≤ 1000000 ∧ P (.lst (acc ++ ys)) k
theorem lca_nil {acc : List D} (hl : acc.length ≤ 1000000) (h : P (.lst acc) k) : LCa acc (lcL p t m vs env [] k) P := ⟨[], k, rfl, by rw [List.append_nil]; exact hl, by rw [List.append_nil]; exact h⟩
theorem lca_cons {acc ds : List D} {d : D} {e : Env} (hp : p d (wipeE env vs) = some e) (h : W (t e k) (fun b k1 => (b = true → W (m e k1) (fun y k2 => LCa (acc ++ [y]) (lcL p t m vs env ds k2) P) nE) ∧ (b = false → LCa acc (lcL p t m vs env ds k1) P)) nE) :
    LCa acc (lcL p t m vs env (d :: ds) k) P := by
  obtain ⟨b, k1, et, ht⟩ := h.some_of
  cases b with
  | false =>
    obtain ⟨ys, k2, h1, h2⟩ := ht.2 rfl
    refine ⟨ys, k2, ?_, h2⟩
    unfold lcL
    simp only [hp, et, nx, Option.bind_some, Bool.false_eq_true, if_false, h1]
  | true =>
    obtain ⟨y, k3, em, ys, k2, h1, h2, h3⟩ := (ht.1 rfl).some_of
    rw [List.append_assoc] at h2 h3
    refine ⟨y :: ys, k2, ?_, h2, h3⟩
    unfold lcL
    simp only [hp, et, em, nx, Option.bind_some, if_true, h1]
theorem lca_consG {acc ds : List D} {d : D} (h : LCa acc (lcL p t m vs env (d :: ds) k) P) : LCa acc (lcL p t m vs env (d :: ds) k) P := h
theorem lc_nil (h : P (.lst []) k) : LC (lcL p t m vs env [] k) P := ⟨[], k, rfl, Nat.zero_le _, h⟩
theorem lc_cons {ds : List D} {d : D} (h : LCa [] (lcL p t m vs env (d :: ds) k) P) : LC (lcL p t m vs env (d :: ds) k) P := h
/-! ### statements -/
variable {PF : Fl → Int → Prop} {s1 s2 : Stm}
def thenS (m : Stm) (f : Fl) (k : Int) : R Fl := match f with
  | .nx e => m e k
  | f => .ok f k
theorem w_seq (h : W (s1 env k) (fun f k1 => W (thenS s2 f k1) PF E) E) : W (sSeq s1 s2 env k) PF E := W_bind (h.imp fun f k1 z => by
  cases f with
  | nx e => exact z
  | rt d => exact z
  | bk e => exact z
  | ct e => exact z)
theorem w_then_nx {e : Env} (h : W (s2 e k) PF E) : W (thenS s2 (.nx e) k) PF E := h
theorem w_then_rt {d : D} (h : PF (.rt d) k) : W (thenS s2 (.rt d) k) PF E := h
theorem w_then_bk {e : Env} (h : PF (.bk e) k) : W (thenS s2 (.bk e) k) PF E := h
theorem w_then_ct {e : Env} (h : PF (.ct e) k) : W (thenS s2 (.ct e) k) PF E := h
theorem w_sNil (h : PF (.nx env) k) : W (sNil env k) PF E := h
theorem w_sBrk (h : PF (.bk env) k) : W (sBrk env k) PF E := h
theorem w_sCt (h : PF (.ct env) k) : W (sCt env k) PF E := h
theorem w_sRet (h : W (a env k) (fun d k1 => PF (.rt d) k1) E) : W (sRet a env k) PF E := W_bind h
theorem w_sIf (h : W (t env k) (fun x k1 => (x = true → W (s1 env k1) PF E) ∧ (x = false → W (s2 env k1) PF E)) E) : W (sIf t s1 s2 env k) PF E := W_bind (h.imp fun x k1 z => by
  cases x with
  | true => exact z.1 rfl
  | false => exact z.2 rfl)
theorem w_sSet {i : Nat} (h : W (a env k) (fun d k1 => PF (.nx (env.set i (some d))) k1) E) : W (sSet i a env k) PF E := W_bind h
theorem w_sSetF {i : Nat} (hi : i < env.length) (h : W (a env k) (fun d k1 => PF (.nx (env.set i (some d))) k1) E) : W (sSetF i a env k) PF E := W_bind (h.imp fun d k1 z => by
  rw [if_pos hi]
  exact z)
theorem w_sExpr (h : W (a env k) (fun _ k1 => PF (.nx env) k1) E) : W (sExpr a env k) PF E := W_bind h
theorem w_sAsg (h : W (a env k) (fun d k1 => Val (p d env) fun e => PF (.nx e) k1) E) : W (sAsg a p env k) PF E := W_bind (h.imp fun d k1 ⟨e, h1, z⟩ => by
  rw [h1]
  exact z)
theorem w_sRaise {c : Str} (h : E c k) : W (sRaise c env k) PF E := h
theorem w_sPar {i j : Nat} (h : W (ms env k) (fun ds k1 => AsTwo ds fun x y => PF (.nx ((env.set i (some x)).set j (some y))) k1) E) : W (sPar i j ms env k) PF E := W_bind (h.imp fun d k1 ⟨x, y, h1, z⟩ => by
  subst h1
  exact z)
theorem w_sParF {i j : Nat} (hi : i < env.length ∧ j < env.length) (h : W (a env k) (fun x k1 => W (b env k1) (fun y k2 => PF (.nx ((env.set i (some x)).set j (some y))) k2) E) E) : W (sParF i j a b env k) PF E := W_bind (h.imp fun x k1 z => W_bind (z.imp fun y k2 z => by
  rw [if_pos hi]
  exact z))
theorem w_sApp {i : Nat} {xs : List D} (e : env[i]? = some (some (.lst xs))) (hl : xs.length < 1000000) (h : W (a env k) (fun d k1 => PF (.nx (env.set i (some (.lst (xs ++ [d]))))) k1) E) : W (sApp i a env k) PF E := by
  unfold sApp
  rw [e]
  refine W_bind (h.imp fun d k1 z => ?_)
  rw [if_pos (show xs.length < sizeLine by rw [sizeLine_eq]; omega)]
  exact z
theorem w_sPut {i : Nat} {kvs : List (Key × D)} (e : env[i]? = some (some (.dct kvs))) (hl : kvs.length < 1000000) (h : W (b env k) (fun d k1 => W (a env k1) (fun y k2 => Val (keyD y) fun key => PF (.nx (env.set i (some (.dct (putD kvs key d))))) k2) E) E) : W (sPut i a b env k) PF E := by
  unfold sPut
  rw [e]
  refine W_bind (h.imp fun d k1 z => W_bind (z.imp fun y k2 ⟨key, e2, z⟩ => ?_))
  simp only [e2]
  rw [if_pos (show kvs.length < sizeLine by rw [sizeLine_eq]; omega)]
  exact z
/-- what a turn of a loop comes to -/
def lpP (J : Env → Int → Prop) (P : Fl → Int → Prop) (f : Fl) (k : Int) : Prop := match f with
  | .nx e => J e k
  | .ct e => J e k
  | .bk e => P (.nx e) k
  | .rt d => P (.rt d) k
theorem lp_nx {J : Env → Int → Prop} {e : Env} (h : J e k) : lpP J PF (.nx e) k := h
theorem lp_ct {J : Env → Int → Prop} {e : Env} (h : J e k) : lpP J PF (.ct e) k := h
theorem lp_bk {J : Env → Int → Prop} {e : Env} (h : PF (.nx e) k) : lpP J PF (.bk e) k := h
theorem lp_rt {J : Env → Int → Prop} {d : D} (h : PF (.rt d) k) : lpP J PF (.rt d) k := h
theorem forL_go {g : γ → D} {all : List γ} {b : Stm} (I : List γ → Env → Int → Prop) : ∀ {xs pre : List γ} {env : Env} {k : Int}, pre ++ xs = all → I pre env k →
    (∀ pre x post env k, all = pre ++ x :: post → I pre env k → ∃ e, p (g x) env = some e ∧ W (b e k) (fun f k1 => lpP (I (pre ++ [x])) PF f k1) E) → (∀ env k, I all env k → PF (.nx env) k) → W (forL p b (xs.map g) env k) PF E
  | [], pre, env, k, e, i, _, q => by
    rw [List.append_nil] at e
    subst e
    exact q _ _ i
  | x :: xs, pre, env, k, e, i, h, q => by
    obtain ⟨e1, hp, hb⟩ := h pre x xs env k e.symm i
    have e' : (pre ++ [x]) ++ xs = all := by rw [List.append_assoc]; exact e
    rw [List.map_cons]
    unfold forL
    rw [hp]
    refine W_bind (hb.imp fun f k1 z => ?_)
    cases f with
    | nx e2 => exact forL_go I (xs := xs) e' z h q
    | ct e2 => exact forL_go I (xs := xs) e' z h q
    | bk e2 => exact z
    | rt d => exact z
theorem w_for {b : Stm} (h : W (it env k) (fun ds k1 => W (forL p b ds env k1) PF E) E) : W (sFor it p b env k) PF E := W_bind h
/-- I tells of what has been gone through -/
theorem for_inv {g : γ → D} {xs : List γ} {b : Stm} (I : List γ → Env → Int → Prop) (i0 : I [] env k)
    (h : ∀ pre x post env k, xs = pre ++ x :: post → I pre env k → ∃ e, p (g x) env = some e ∧ W (b e k) (fun f k1 => lpP (I (pre ++ [x])) PF f k1) E) (q : ∀ env k, I xs env k → PF (.nx env) k) : W (forL p b (xs.map g) env k) PF E :=
  forL_go I (pre := []) rfl i0 h q
theorem w_forK {i : Nat} {ds : List D} {b : Stm} (e : ksAt env i = some ds) (h : W (forL p b ds env k) (fun f k1 => ∃ e, f = .nx e ∧ PF (.nx e) k1) nE) : W (sForK i p b env k) PF E := by
  unfold sForK
  rw [e]
  obtain ⟨f, j, e2, e3, rfl, h⟩ := h.some_of
  simp only [e2]
  exact h
theorem forL_nil {b : Stm} (h : PF (.nx env) k) : W (forL p b [] env k) PF E := h
theorem forL_consG {b : Stm} {d : D} {ds : List D} (h : W (forL p b (d :: ds) env k) PF E) : W (forL p b (d :: ds) env k) PF E := h
theorem forL_cons {b : Stm} {d : D} {ds : List D} {e : Env} (hp : p d env = some e) (h : W (b e k) (fun f k1 => lpP (fun e2 k2 => W (forL p b ds e2 k2) PF E) PF f k1) E) : W (forL p b (d :: ds) env k) PF E := by
  unfold forL
  rw [hp]
  refine W_bind (h.imp fun f k1 z => ?_)
  cases f with
  | nx e => exact z
  | ct e => exact z
  | bk e => exact z
  | rt d => exact z
def fnP (P : D → Int → Prop) (f : Fl) (k : Int) : Prop := match f with
  | .nx _ => P .non k
  | .rt d => P d k
  | _ => False
theorem fn_nx {e : Env} (h : P .non k) : fnP P (.nx e) k := h
theorem fn_rt {d : D} (h : P d k) : fnP P (.rt d) k := h
theorem w_fn {n : Nat} {ds : List D} (e : envS n ds = env) (h : W (s1 env k) (fun f k1 => fnP P f k1) E) : W (fnOf n s1 ds k) P E := by
  subst e
  refine W_bind (h.imp fun f k1 z => ?_)
  cases f with
  | nx e => exact z
  | rt d => exact z
  | bk e => exact z.elim
  | ct e => exact z.elim
theorem w_try {an : Str → Option Str} (h : W (s1 env k) PF fun c k1 => ∃ s, an c = some s ∧ PF (.rt (.str s)) k1) : W (sTry an s1 env k) PF E := by
  unfold sTry
  cases e : s1 env k with
  | ok f k1 =>
    rw [e] at h
    exact h
  | ex c k1 =>
    rw [e] at h
    obtain ⟨s, e2, z⟩ := h
    simp only [e2]
    exact z
  | no =>
    rw [e] at h
    exact h.elim
theorem br_t {x : Bool} {A B : Prop} (h : x = true) (a : A) : (x = true → A) ∧ (x = false → B) := ⟨fun _ => a, (fun z => by rw [h] at z; cases z)⟩
theorem br_f {x : Bool} {A B : Prop} (h : x = false) (b : B) : (x = true → A) ∧ (x = false → B) := ⟨(fun z => by rw [h] at z; cases z), fun _ => b⟩
theorem br_tt {A B : Prop} (a : A) : (true = true → A) ∧ (true = false → B) := br_t rfl a
theorem br_ff {A B : Prop} (b : B) : (false = true → A) ∧ (false = false → B) := br_f rfl b
/-! ### numbers that are drawn -/
structure Bud (ns : List Int) (n : Nat) (k : Int) : Prop where
  k0 : 0 ≤ k
  k1 : k + n < 2 ^ 60
  ne : ns ≠ []
  few : ns.length ≤ 4000
theorem Bud.less {ns : List Int} {n m : Nat} (h : Bud ns n k) (l : m ≤ n) : Bud ns m k := ⟨h.k0, by have := h.k1; omega, h.ne, h.few⟩
theorem w_next {ns : List Int} {m : Int} {n : Nat} (B : Bud ns (n + 1) k) (hm : 0 < m) (h : ∀ v k', 0 ≤ v → v < m → Bud ns n k' → P (.int v) k') : W (nextD ns [.cell, .int m] k) P E := by
  have b0 := B.k0
  have b1 := B.k1
  show W (if 0 < m ∧ 0 ≤ k ∧ k < 2 ^ 60 ∧ ns ≠ [] ∧ ns.length ≤ 4000 then R.ok (D.int (drawI ns (k + 1) m)) (k + 1) else .no) P E
  rw [if_pos ⟨hm, b0, by omega, B.ne, B.few⟩]
  exact h _ _ (Int.emod_nonneg _ (by omega)) (Int.emod_lt_of_pos _ hm) ⟨by omega, by omega, B.ne, B.few⟩
end
theorem add_int (i j : Int) : fAdd (.int i) (.int j) = some (.int (i + j)) := rfl
theorem mn2 (i j : Int) : f2 fMin2 [.int i, .int j] = some (.int (min i j)) := by
  show some (D.int (if j < i then j else i)) = _
  congr 2
  split <;> omega
theorem mx2 (i j : Int) : f2 fMax2 [.int i, .int j] = some (.int (max i j)) := by
  show some (D.int (if j > i then j else i)) = _
  congr 2
  split <;> omega
theorem sub_int (i j : Int) : fSub (.int i) (.int j) = some (.int (i - j)) := rfl
theorem mul_int {i j : Int} (h : (-(2 ^ 64) < i ∧ i < 2 ^ 64) ∨ (-(2 ^ 64) < j ∧ j < 2 ^ 64)) : fMul (.int i) (.int j) = some (.int (i * j)) := if_pos (.inl h)
theorem mod_int {i j : Int} (h : 0 < j) : fMod (.int i) (.int j) = some (.int (i % j)) := if_pos h
theorem mul_lst {xs : List D} {n : Int} (h0 : 0 ≤ n) (h1 : n ≤ 1000) (h2 : xs.length ≤ 1000) : fMul (.lst xs) (.int n) = some (.lst (List.replicate n.toNat xs).flatten) := by
  show (if n < 2 ^ 63 ∧ -(2 ^ 63) ≤ n ∧ xs.length * n.toNat ≤ sizeLine then _ else _) = _
  have : xs.length * n.toNat ≤ 1000 * 1000 := Nat.mul_le_mul h2 (by omega)
  rw [if_pos ⟨by omega, by omega, sl_small (by omega)⟩]
theorem mul_tup {xs : List D} {n : Int} (h0 : 0 ≤ n) (h1 : n ≤ 1000) (h2 : xs.length ≤ 1000) : fMul (.tup xs) (.int n) = some (.tup (List.replicate n.toNat xs).flatten) := by
  show (if -(2 ^ 63) ≤ n ∧ n ≤ 1000 ∧ xs.length ≤ 1000 then _ else _) = _
  rw [if_pos ⟨by omega, by omega, h2⟩]
theorem mul_one {d : D} {n : Int} (h0 : 0 ≤ n) (h1 : n ≤ 1000) : fMul (.tup [d]) (.int n) = some (.tup (List.replicate n.toNat d)) := by
  rw [mul_tup h0 h1 (by simp)]
  congr 2
  generalize n.toNat = j
  induction j with
  | zero => rfl
  | succ j ih => rw [List.replicate_succ, List.flatten_cons, ih]; rfl
theorem mul_onel {d : D} {n : Int} (h0 : 0 ≤ n) (h1 : n ≤ 1000) : fMul (.lst [d]) (.int n) = some (.lst (List.replicate n.toNat d)) := by
  rw [mul_lst h0 h1 (by simp)]
  congr 2
  generalize n.toNat = j
  induction j with
  | zero => rfl
  | succ j ih => rw [List.replicate_succ, List.flatten_cons, ih]; rfl
theorem rng1 {j : Int} (h0 : 0 ≤ j) (h : j < 2 ^ 40) : fRng [.int j] = some ((List.range j.toNat).map fun i => .int (i : Nat)) := by
  show (if -(2 ^ 62) ≤ j ∧ j < 2 ^ 62 then some (rngL 0 j) else none) = _
  rw [if_pos (by omega)]
  unfold rngL
  congr 1
  rw [show j - 0 = j by omega]
  exact List.map_congr_left fun i _ => by rw [Int.zero_add]
end PL

set_option maxHeartbeats 4000000
/-! MK04x: k04: drawn machines. -/
namespace PL
open PySem PySem.Spec L2 PyProof.Rows
open Classical
local macro_rules | `(tactic| walk_at "w1") => `(tactic| first
  | (with_reducible refine w_seq ?_)
  | (with_reducible refine w_then_nx ?_)
  | (with_reducible refine w_then_rt ?_)
  | (with_reducible refine w_then_bk ?_)
  | (with_reducible refine w_then_ct ?_)
  | (with_reducible refine w_c ?_)
  | ((with_reducible refine w_varG ?_); refine w_var rfl ?_)
  | (with_reducible refine w_e2 ?_)
  | (with_reducible refine w_e1 ?_)
  | (with_reducible refine w_nil ?_)
  | (with_reducible refine w_cons ?_)
  | (with_reducible refine w_star ?_)
  | (with_reducible refine w_call ?_)
  | (with_reducible refine w_callB ?_)
  | (with_reducible refine w_tup ?_)
  | (with_reducible refine w_lst ?_)
  | (with_reducible refine w_and2 ?_)
  | (with_reducible refine w_or2 ?_)
  | (with_reducible refine w_not ?_)
  | (with_reducible refine w_chain ?_)
  | (with_reducible refine w_tV ?_)
  | (with_reducible refine w_tOr2 ?_)
  | (with_reducible refine w_tAnd2 ?_)
  | (with_reducible refine w_tNt ?_)
  | (with_reducible refine w_tYs ?_)
  | (with_reducible refine w_cut ?_)
  | (with_reducible refine w_oNone ?_)
  | (with_reducible refine w_oSome ?_)
  | (with_reducible refine w_iSeq ?_)
  | (with_reducible refine w_iRng ?_)
  | (with_reducible refine w_lc ?_)
  | (with_reducible refine w_lc2 ?_)
  | (with_reducible refine w_disp1 ?_)
  | (with_reducible refine w_dnew ?_)
  | (with_reducible refine w_get2 ?_)
  | (with_reducible refine w_sNil ?_)
  | (with_reducible refine w_sBrk ?_)
  | (with_reducible refine w_sCt ?_)
  | (with_reducible refine w_sRet ?_)
  | (with_reducible refine w_sIf ?_)
  | (with_reducible refine w_sSet ?_)
  | ((with_reducible refine w_sSetF ?_ ?_); focus (simp only [List.length_set, envS, List.length_append, List.length_map, List.length_replicate, List.length_cons, List.length_nil] <;> omega))
  | (with_reducible refine w_sExpr ?_)
  | (with_reducible refine w_sAsg ?_)
  | (with_reducible refine w_sRaise ?_)
  | (with_reducible refine w_sPar ?_)
  | ((with_reducible refine w_sParF ?_ ?_); focus (constructor <;> (simp only [List.length_set, envS, List.length_append, List.length_map, List.length_replicate, List.length_cons, List.length_nil] <;> omega)))
  | (with_reducible refine w_for ?_)
  | (with_reducible refine forL_nil ?_)
  | ((with_reducible refine forL_consG ?_); refine forL_cons rfl ?_)
  | (with_reducible refine lc_nil ?_)
  | (with_reducible refine lc_cons ?_)
  | ((with_reducible refine lca_consG ?_); refine lca_cons rfl ?_)
  | ((with_reducible refine lca_nil ?_ ?_); focus (simp only [List.length_append, List.length_cons, List.length_nil] <;> omega))
  | (with_reducible refine lp_nx ?_)
  | (with_reducible refine lp_ct ?_)
  | (with_reducible refine lp_bk ?_)
  | (with_reducible refine lp_rt ?_)
  | (with_reducible refine fn_nx ?_)
  | (with_reducible refine fn_rt ?_)
  | (with_reducible refine val (add_int _ _) ?_)
  | (with_reducible refine val (mn2 _ _) ?_)
  | (with_reducible refine val (mx2 _ _) ?_)
  | (with_reducible refine val (sub_int _ _) ?_)
  | (with_reducible refine val (lt_int _ _) ?_)
  | (with_reducible refine val (gt_int _ _) ?_)
  | (with_reducible refine val (le_int _ _) ?_)
  | (with_reducible refine val (ge_int _ _) ?_)
  | (with_reducible refine val (eq_int _ _) ?_)
  | (with_reducible refine val (ne_int _ _) ?_)
  | (with_reducible refine val (mod_int (by omega)) ?_)
  | (with_reducible refine val (mul_int (by omega)) ?_)
  | (with_reducible refine val (rng1 (by omega) (by omega)) ?_)
  | (with_reducible refine val (mul_one (by omega) (by omega)) ?_)
  | (with_reducible refine val (mul_onel (by omega) (by omega)) ?_)
  | (with_reducible refine br_tt ?_)
  | (with_reducible refine br_ff ?_)
  | (with_reducible refine as_bl ?_)
  | (with_reducible refine as_int ?_)
  | (with_reducible refine as_dct ?_)
  | (with_reducible refine as_two ?_)
  | ((with_reducible refine valG ?_); refine val rfl ?_)
  | ((with_reducible refine len ?_ ?_); focus (simp only [List.length_cons, List.length_nil] <;> omega)))
local macro_rules | `(tactic| walk_at "w") => `(tactic| repeat walk_at "w1")
theorem insP_len (p : Int × Int) : ∀ l, (insP p l).length ≤ l.length + 1
  | [] => Nat.le_refl _
  | q :: r => by
    unfold insP
    split
    · exact Nat.le_refl _
    · split
      · exact Nat.le_succ _
      · have := insP_len p r
        rw [List.length_cons, List.length_cons]
        omega
theorem sortP_len : ∀ l, (sortP l).length ≤ l.length
  | [] => Nat.le_refl _
  | p :: l => by
    have h1 := insP_len p (sortP l)
    have h2 := sortP_len l
    show (insP p (sortP l)).length ≤ _
    rw [List.length_cons]
    omega
theorem sortSet_l {l : List (Int × Int)} (h : PrsOk l) : fSortSet (.lst (l.map prD)) = some (.lst ((sortP l).map prD)) := by
  show ((toPrs (l.map prD)).bind fun l => if PrsOk l then some (D.lst ((sortP l).map prD)) else none) = _
  rw [toPrs_map, Option.bind_some, if_pos h]
namespace K04
structure MacS (d : Int) (t : Tbl) : Prop extends MacOk d t where
  d3 : d ≤ 3
  t4 : t.length ≤ 4
  w3 : ∀ r ∈ t, ∀ ws ∈ r, ws.length ≤ 3 ∧ ∀ w ∈ ws, w.1 ≤ 7
structure RowS (n : Nat) (d : Int) (r : List (List Way)) : Prop where
  len : (r.length : Int) = d
  ok : ∀ ws ∈ r, WaysOk n ws ∧ ws.length ≤ 3 ∧ ∀ w ∈ ws, w.1 ≤ 7
variable {ns : List Int} {k : Int} {P : D → Int → Prop} {E : Str → Int → Prop}
theorem split_lt {n : Nat} {pre post : List Nat} {x : Nat} (e : List.range n = pre ++ x :: post) : x = pre.length ∧ pre.length < n := by
  have hl : n = pre.length + (post.length + 1) := by
    have := congrArg List.length e
    rw [List.length_range, List.length_append, List.length_cons] at this
    exact this
  have h1 : (List.range n)[pre.length]? = some x := by
    rw [e, List.getElem?_append_right (Nat.le_refl _), Nat.sub_self]
    rfl
  have hlt : pre.length < n := by omega
  rw [List.getElem?_range hlt] at h1
  exact ⟨(Option.some.inj h1).symm, hlt⟩
theorem w_machine {d : Int} {sure : Bool} {n : Nat} (d1 : 1 ≤ d) (d3 : d ≤ 3) (B : Bud ns (n + 100) k) (h : ∀ t k', Bud ns n k' → MacS d t → P (macD d t) k') : W (φ_law_machine ns [.cell, .int d, .int 4, .bl sure] k) P E := by
  refine w_fn rfl ?_
  unfold m_law_machine
  walk_at "w"
  refine w_next (B.less (m := 99 + n + 1) (by omega)) (by omega) fun s k1 s0 s1 B => ?_
  walk_at "w"
  refine for_inv (I := fun pre env k => ∃ rows e6 e7 e8 e9, env = [some .cell, some (.int d), some (.int 4), some (.bl sure), some (.int (1 + s)), some (.lst (rows.map rowD)), e6, e7, e8, e9, none] ∧ rows.length = pre.length ∧
    Bud ns (n + 21 * (4 - pre.length)) k ∧ ∀ r ∈ rows, RowS (1 + s).toNat d r) ⟨[], none, none, none, none, rfl, rfl, B.less (by show n + 84 ≤ _; omega), by simp⟩ ?_ ?_
  · rintro pre x post env k2 es ⟨rows, e6, e7, e8, e9, rfl, hl, B, hr⟩
    obtain ⟨rfl, hlt⟩ := split_lt es
    refine ⟨_, rfl, ?_⟩
    walk_at "w"
    refine for_inv (I := fun pre2 env k => ∃ ws e8 e9, env = [some .cell, some (.int d), some (.int 4), some (.bl sure), some (.int (1 + s)), some (.lst (rows.map rowD)), some (.int pre.length), some (.lst (ws.map waysD)), e8, e9, none] ∧ ws.length = pre2.length ∧
      Bud ns (n + 21 * (3 - pre.length) + 7 * (3 - pre2.length)) k ∧ ∀ w ∈ ws, WaysOk (1 + s).toNat w ∧ w.length ≤ 3 ∧ ∀ q ∈ w, q.1 ≤ 7) ⟨[], e8, e9, rfl, rfl, B.less (by simp; omega), by simp⟩ ?_ ?_
    · rintro pre2 x post2 env k3 es2 ⟨ws, e8, e9, rfl, hl2, B, hw⟩
      obtain ⟨rfl, hlt2⟩ := split_lt es2
      refine ⟨_, rfl, ?_⟩
      walk_at "w"
      refine (W.go (P := fun x k' => ∃ m : Int, x = .int m ∧ 1 ≤ m ∧ m ≤ 3 ∧ Bud ns (n + 21 * (3 - pre.length) + 7 * (2 - pre2.length) + 6) k') (w_eif ?_) ?_)
      · walk_at "w"
        cases sure with
        | true =>
          walk_at "w"
          exact ⟨1, rfl, by omega, by omega, B.less (by omega)⟩
        | false =>
          walk_at "w"
          refine w_next (B.less (m := n + 21 * (3 - pre.length) + 7 * (2 - pre2.length) + 6 + 1) (by omega)) (by omega) fun v k4 v0 v1 B => ?_
          walk_at "w"
          exact ⟨_, rfl, by omega, by omega, B⟩
      rintro _ k4 ⟨m, rfl, m1, m3, B⟩
      walk_at "w"
      refine lc_inv (J := fun pre3 ys k => ∃ l : List Way, ys = l.map prD ∧ l.length = pre3.length ∧ Bud ns (n + 21 * (3 - pre.length) + 7 * (2 - pre2.length) + 2 * (3 - pre3.length)) k ∧ ∀ w ∈ l, 0 ≤ w.1 ∧ w.1 ≤ 7 ∧ 0 ≤ w.2 ∧ w.2 < 1 + s) ⟨[], rfl, rfl, B, by simp⟩ ?_ ?_
      · rintro pre3 x post3 _ k5 es3 ⟨l, rfl, ll, B, hb⟩
        obtain ⟨rfl, hlt3⟩ := split_lt es3
        refine ⟨_, rfl, ?_⟩
        walk_at "w"
        refine w_next (B.less (m := n + 21 * (3 - pre.length) + 7 * (2 - pre2.length) + 2 * (2 - pre3.length) + 1 + 1) (by omega)) (by omega) fun v k6 v0 v1 B => ?_
        walk_at "w"
        refine w_next B (by omega) fun u k7 u0 u1 B => ?_
        walk_at "w"
        refine ⟨l ++ [(v, u)], by rw [List.map_append]; rfl, by rw [List.length_append, List.length_append, ll]; rfl, B.less (by rw [List.length_append]; show _ + 2 * (3 - (pre3.length + 1)) ≤ _; omega), fun w hw => ?_⟩
        rcases List.mem_append.mp hw with z | z
        · exact hb w z
        · rw [List.mem_singleton] at z
          subst z
          exact ⟨v0, by show v ≤ 7; omega, u0, u1⟩
      · rintro _ k5 ⟨l, rfl, ll, B, hb⟩
        rw [List.length_range] at ll
        refine ⟨by rw [List.length_map]; omega, ?_⟩
        walk_at "w"
        have few := sortP_len l
        refine w_sApp (xs := ws.map waysD) rfl (by rw [List.length_map]; omega) ?_
        walk_at "w"
        refine val (sortSet_l ⟨by omega, fun p hp => ⟨(hb p hp).1, (hb p hp).2.2.1⟩⟩) ?_
        walk_at "w"
        refine ⟨ws ++ [sortP l], _, _, by rw [List.map_append]; rfl, by rw [List.length_append, List.length_append, hl2]; rfl, B.less (by rw [List.length_append, List.length_range]; show _ + 7 * (3 - (pre2.length + 1)) ≤ _; omega), fun w hw' => ?_⟩
        rcases List.mem_append.mp hw' with z | z
        · exact hw w z
        · rw [List.mem_singleton] at z
          subst z
          refine ⟨⟨fun z => ?_, sortP_asc l, by omega, fun w hw => ?_⟩, by omega, fun q hq => (hb q ((sortP_mem q l).mp hq)).2.1⟩
          · have hz : l ≠ [] := fun e => by rw [e] at ll; simp at ll; omega
            obtain ⟨x, hx⟩ := List.exists_mem_of_ne_nil l hz
            have := (sortP_mem x l).mpr hx
            rw [z] at this
            cases this
          · obtain ⟨b1, b2, b3, b4⟩ := hb w ((sortP_mem w l).mp hw)
            exact ⟨b1, by omega, b3, by omega⟩
    · rintro env k3 ⟨ws, e8, e9, rfl, hl2, B, hw⟩
      rw [List.length_range] at hl2
      walk_at "w"
      refine w_sApp (xs := rows.map rowD) rfl (by rw [List.length_map]; omega) ?_
      walk_at "w"
      refine ⟨rows ++ [ws], _, _, _, _, by rw [List.map_append]; rfl, by rw [List.length_append, List.length_append, hl]; rfl, B.less (by rw [List.length_append, List.length_range]; show _ + 21 * (4 - (pre.length + 1)) ≤ _; omega), fun r hr' => ?_⟩
      rcases List.mem_append.mp hr' with z | z
      · exact hr r z
      · rw [List.mem_singleton] at z
        subst z
        exact ⟨by omega, hw⟩
  · rintro env k2 ⟨rows, e6, e7, e8, e9, rfl, hl, B, hr⟩
    rw [List.length_range] at hl
    walk_at "w"
    refine h rows _ (B.less (by omega)) ⟨⟨d1, by omega, by omega, by omega, fun r hr' => (hr r hr').len, fun r hr' ws hw => ?_⟩, d3, by omega, fun r hr' ws hw => ((hr r hr').ok ws hw).2⟩
    have := ((hr r hr').ok ws hw).1
    rw [show rows.length = (1 + s).toNat by omega]
    exact this
end K04
end PL

set_option maxHeartbeats 4000000
/-! MK04y: k04: sums state by state. -/
namespace PL
open PySem PySem.Spec L2 PyProof.Rows
open Classical
local macro_rules | `(tactic| walk_at "w1") => `(tactic| first
  | (with_reducible refine w_seq ?_)
  | (with_reducible refine w_then_nx ?_)
  | (with_reducible refine w_then_rt ?_)
  | (with_reducible refine w_then_bk ?_)
  | (with_reducible refine w_then_ct ?_)
  | (with_reducible refine w_c ?_)
  | ((with_reducible refine w_varG ?_); refine w_var rfl ?_)
  | (with_reducible refine w_e2 ?_)
  | (with_reducible refine w_e1 ?_)
  | (with_reducible refine w_nil ?_)
  | (with_reducible refine w_cons ?_)
  | (with_reducible refine w_star ?_)
  | (with_reducible refine w_call ?_)
  | (with_reducible refine w_callB ?_)
  | (with_reducible refine w_tup ?_)
  | (with_reducible refine w_lst ?_)
  | (with_reducible refine w_and2 ?_)
  | (with_reducible refine w_or2 ?_)
  | (with_reducible refine w_not ?_)
  | (with_reducible refine w_chain ?_)
  | (with_reducible refine w_tV ?_)
  | (with_reducible refine w_tOr2 ?_)
  | (with_reducible refine w_tAnd2 ?_)
  | (with_reducible refine w_tNt ?_)
  | (with_reducible refine w_tYs ?_)
  | (with_reducible refine w_cut ?_)
  | (with_reducible refine w_oNone ?_)
  | (with_reducible refine w_oSome ?_)
  | (with_reducible refine w_iSeq ?_)
  | (with_reducible refine w_iRng ?_)
  | (with_reducible refine w_lc ?_)
  | (with_reducible refine w_lc2 ?_)
  | (with_reducible refine w_disp1 ?_)
  | (with_reducible refine w_dnew ?_)
  | (with_reducible refine w_get2 ?_)
  | (with_reducible refine w_sNil ?_)
  | (with_reducible refine w_sBrk ?_)
  | (with_reducible refine w_sCt ?_)
  | (with_reducible refine w_sRet ?_)
  | (with_reducible refine w_sIf ?_)
  | (with_reducible refine w_sSet ?_)
  | ((with_reducible refine w_sSetF ?_ ?_); focus (simp only [List.length_set, envS, List.length_append, List.length_map, List.length_replicate, List.length_cons, List.length_nil] <;> omega))
  | (with_reducible refine w_sExpr ?_)
  | (with_reducible refine w_sAsg ?_)
  | (with_reducible refine w_sRaise ?_)
  | (with_reducible refine w_sPar ?_)
  | ((with_reducible refine w_sParF ?_ ?_); focus (constructor <;> (simp only [List.length_set, envS, List.length_append, List.length_map, List.length_replicate, List.length_cons, List.length_nil] <;> omega)))
  | (with_reducible refine w_for ?_)
  | (with_reducible refine forL_nil ?_)
  | ((with_reducible refine forL_consG ?_); refine forL_cons rfl ?_)
  | (with_reducible refine lc_nil ?_)
  | (with_reducible refine lc_cons ?_)
  | ((with_reducible refine lca_consG ?_); refine lca_cons rfl ?_)
  | ((with_reducible refine lca_nil ?_ ?_); focus (simp only [List.length_append, List.length_cons, List.length_nil] <;> omega))
  | (with_reducible refine lp_nx ?_)
  | (with_reducible refine lp_ct ?_)
  | (with_reducible refine lp_bk ?_)
  | (with_reducible refine lp_rt ?_)
  | (with_reducible refine fn_nx ?_)
  | (with_reducible refine fn_rt ?_)
  | (with_reducible refine val (add_int _ _) ?_)
  | (with_reducible refine val (mn2 _ _) ?_)
  | (with_reducible refine val (mx2 _ _) ?_)
  | (with_reducible refine val (sub_int _ _) ?_)
  | (with_reducible refine val (lt_int _ _) ?_)
  | (with_reducible refine val (gt_int _ _) ?_)
  | (with_reducible refine val (le_int _ _) ?_)
  | (with_reducible refine val (ge_int _ _) ?_)
  | (with_reducible refine val (eq_int _ _) ?_)
  | (with_reducible refine val (ne_int _ _) ?_)
  | (with_reducible refine val (mod_int (by omega)) ?_)
  | (with_reducible refine val (mul_int (by omega)) ?_)
  | (with_reducible refine val (rng1 (by omega) (by omega)) ?_)
  | (with_reducible refine val (mul_one (by omega) (by omega)) ?_)
  | (with_reducible refine val (mul_onel (by omega) (by omega)) ?_)
  | (with_reducible refine br_tt ?_)
  | (with_reducible refine br_ff ?_)
  | (with_reducible refine as_bl ?_)
  | (with_reducible refine as_int ?_)
  | (with_reducible refine as_dct ?_)
  | (with_reducible refine as_two ?_)
  | ((with_reducible refine valG ?_); refine val rfl ?_)
  | ((with_reducible refine len ?_ ?_); focus (simp only [List.length_cons, List.length_nil] <;> omega)))
local macro_rules | `(tactic| walk_at "w") => `(tactic| repeat walk_at "w1")
namespace K04
def prsD (tb : Tab) : List (Key × D) := tb.map fun e => (.inl e.1, .tup [.int e.2.1, .int e.2.2])
theorem look_prs (tb : Tab) (a : Int) : lookD (prsD tb) (.inl a) = (getT tb a).map fun e => .tup [.int e.2.1, .int e.2.2] := by
  unfold lookD prsD getT
  rw [List.find?_map, Option.map_map]
  congr 1
  congr 1
  funext e
  simp
theorem any_prs (tb : Tab) (a : Int) : ((prsD tb).any fun kv => decide (kv.1 = .inl a)) = (getT tb a).isSome := by
  rw [← any_get]
  unfold prsD
  rw [List.any_map]
  congr 1
  funext e
  simp
theorem put_prs_new {tb : Tab} {a : Int} (lo hi : Int) (h : getT tb a = none) : putD (prsD tb) (.inl a) (.tup [.int lo, .int hi]) = prsD (putT tb a lo hi) := by
  unfold putD putT
  rw [any_prs, h, if_neg (by simp)]
  unfold prsD
  rw [List.map_append]
  simp
theorem put_prs_old {tb : Tab} {a : Int} {c : Int × Int × Int} (lo hi : Int) (h : getT tb a = some c) : putD (prsD tb) (.inl a) (.tup [.int (min lo c.2.1), .int (max hi c.2.2)]) = prsD (putT tb a lo hi) := by
  unfold putD putT
  rw [any_prs, h, if_pos (show (some c).isSome = true from rfl)]
  unfold prsD
  simp only
  rw [List.map_map, List.map_map]
  refine List.map_congr_left fun q _ => ?_
  by_cases hq : q.1 = a
  · simp [hq, Int.min_comm, Int.max_comm]
  · simp [hq]
theorem tabs_ok {d : Int} {t : Tbl} (M : MacOk d t) : ∀ {l : List Int} {tb : Tab}, (∀ z ∈ l, 0 ≤ z ∧ z < d) → TabOk t.length tb → TabOk t.length (l.foldl (fun tb z => turnT t z tb) tb)
  | [], _, _, T => T
  | z :: l, tb, hz, T => tabs_ok M (l := l) (fun y hy => hz y (List.mem_cons_of_mem _ hy)) (turnT_ok M (hz z List.mem_cons_self).1 (hz z List.mem_cons_self).2 T)
theorem heres_ok {d : Int} {t : Tbl} {deed : Int} {tb : Tab} (M : MacOk d t) (x0 : 0 ≤ deed) (x1 : deed < d) (T : TabOk t.length tb) : ∀ {l acc : Tab}, (∀ e ∈ l, e ∈ tb) → TabOk t.length acc → TabOk t.length (l.foldl (fun acc e => wayT e acc (waysAt t e.1 deed)) acc)
  | [], _, _, h => h
  | e :: l, acc, sub, h => heres_ok M x0 x1 T (l := l) (fun y hy => sub y (List.mem_cons_of_mem _ hy)) (wayT_ok h fun w hw => ((waysAt_ok M (T.bd e (sub e List.mem_cons_self)).1 (T.bd e (sub e List.mem_cons_self)).2 x0 x1).bd w hw).2.2)
theorem in_prs (tb : Tab) (a : Int) : fIn (.int a) (.dct (prsD tb)) = some (.bl (getT tb a).isSome) := by
  show some (D.bl (lookD (prsD tb) (.inl a)).isSome) = _
  rw [look_prs]
  cases getT tb a <;> rfl
theorem ix_prs {tb : Tab} {a : Int} {c : Int × Int × Int} (h : getT tb a = some c) : fIx (.dct (prsD tb)) (.int a) = some (.tup [.int c.2.1, .int c.2.2]) := by
  show lookD (prsD tb) (.inl a) = _
  rw [look_prs, h]
  rfl
variable {k d s : Int} {t : Tbl} {P : D → Int → Prop} {E : Str → Int → Prop}
theorem w_sums {l : List Int} (M : MacOk d t) (s0 : 0 ≤ s) (s1 : s < t.length) (hd : ∀ z ∈ l, 0 ≤ z ∧ z < d) (h : P (.dct (prsD (tabOf t s l))) k) : W (φ_law_sums [macD d t, .int s, intsD l] k) P E := by
  have T0 : TabOk t.length [(s, 0, 0)] := ⟨by simp, fun e he => by
    rw [List.mem_singleton] at he
    subst he
    exact ⟨s0, s1⟩⟩
  refine w_fn rfl ?_
  unfold m_law_sums
  walk_at "w"
  refine for_inv (g := D.int) (xs := l) (I := fun pre env j => ∃ e4 e5 e6 e7 e8 e9 e10, env = [some (macD d t), some (.int s), some (intsD l), some (.dct (prsD (pre.foldl (fun tb z => turnT t z tb) [(s, 0, 0)]))), e4, e5, e6, e7, e8, e9, e10] ∧ k = j)
    ⟨none, none, none, none, none, none, none, rfl, rfl⟩ ?_ ?_
  · rintro pre x post env _ es ⟨e4, e5, e6, e7, e8, e9, e10, rfl, rfl⟩
    obtain ⟨x0, x1⟩ := hd x (by rw [es]; simp)
    have T := tabs_ok M (l := pre) (fun y hy => hd y (by rw [es]; simp [hy])) T0
    generalize htb : pre.foldl (fun tb z => turnT t z tb) [(s, 0, 0)] = tb at T
    have hn : (pre ++ [x]).foldl (fun tb z => turnT t z tb) [(s, 0, 0)] = turnT t x tb := by rw [List.foldl_append, htb]; rfl
    refine ⟨_, rfl, ?_⟩
    walk_at "w"
    refine w_forK (ds := tb.map fun e => .int e.1) ?_ ?_
    · show some ((prsD tb).map fun q => keyV q.1) = _
      unfold prsD
      rw [List.map_map]
      rfl
    refine for_inv (I := fun pre2 env j => ∃ e6 e7 e8 e9 e10, env = [some (macD d t), some (.int s), some (intsD l), some (.dct (prsD tb)), some (.int x), some (.dct (prsD (pre2.foldl (fun acc e => wayT e acc (waysAt t e.1 x)) []))), e6, e7, e8, e9, e10] ∧ k = j)
      ⟨e6, e7, e8, e9, e10, rfl, rfl⟩ ?_ ?_
    · rintro pre2 e post2 env _ es2 ⟨f6, f7, f8, f9, f10, rfl, rfl⟩
      have me : e ∈ tb := by rw [es2]; simp
      obtain ⟨a0, a1⟩ := T.bd e me
      have ge := getT_mem T.nd me
      have Ta := heres_ok M x0 x1 T (l := pre2) (acc := []) (fun y hy => by rw [es2]; simp [hy]) ⟨by simp, fun _ h => by cases h⟩
      simp only [List.foldl_append, List.foldl_cons, List.foldl_nil]
      generalize pre2.foldl (fun acc e => wayT e acc (waysAt t e.1 x)) [] = acc at Ta
      have Wk := waysAt_ok M a0 a1 x0 x1
      refine ⟨_, rfl, ?_⟩
      walk_at "w"
      refine val (fIx_tbl a0 a1) ?_
      walk_at "w"
      refine val (fIx_row M a0 a1 x0 x1) ?_
      walk_at "w"
      refine for_inv (I := fun pre3 env j => ∃ f7 f8 f9 f10, env = [some (macD d t), some (.int s), some (intsD l), some (.dct (prsD tb)), some (.int x), some (.dct (prsD (wayT e acc pre3))), some (.int e.1), f7, f8, f9, f10] ∧ k = j)
        ⟨f7, f8, f9, f10, rfl, rfl⟩ ?_ ?_
      · rintro pre3 w post3 env _ es3 ⟨g7, g8, g9, g10, rfl, rfl⟩
        have mw : ∀ q ∈ pre3, q ∈ waysAt t e.1 x := fun q hq => by rw [es3]; simp [hq]
        have Tw := wayT_ok (e := e) (ws := pre3) Ta fun q hq => ((Wk.bd q (mw q hq)).2.2)
        have hn2 : wayT e acc (pre3 ++ [w]) = putT (wayT e acc pre3) w.2 (e.2.1 + w.1) (e.2.2 + w.1) := by unfold wayT; rw [List.foldl_append]; rfl
        rw [hn2]
        generalize wayT e acc pre3 = acc2 at Tw
        have few := Tw.few
        have t2 := M.t2
        refine ⟨_, rfl, ?_⟩
        walk_at "w"
        refine val (ix_prs ge) ?_
        walk_at "w"
        refine val (ix_prs ge) ?_
        walk_at "w"
        refine w_sPut (kvs := prsD acc2) rfl (by unfold prsD; rw [List.length_map]; omega) ?_
        cases g : getT acc2 w.2 with
        | none =>
          refine w_eif ?_
          walk_at "w"
          refine br_f (by rw [look_prs, g]; rfl) ?_
          walk_at "w"
          exact ⟨_, _, _, _, by rw [← put_prs_new _ _ g]; rfl, rfl⟩
        | some c =>
          refine w_eif ?_
          walk_at "w"
          refine br_t (by rw [look_prs, g]; rfl) ?_
          walk_at "w"
          refine val (ix_prs g) ?_
          walk_at "w"
          refine val (ix_prs g) ?_
          walk_at "w"
          exact ⟨_, _, _, _, by rw [← put_prs_old _ _ g]; rfl, rfl⟩
      · rintro env _ ⟨g7, g8, g9, g10, rfl, rfl⟩
        walk_at "w"
        exact ⟨_, _, _, _, _, rfl, rfl⟩
    · rintro env _ ⟨g6, g7, g8, g9, g10, rfl, rfl⟩
      refine ⟨_, rfl, ?_⟩
      walk_at "w"
      rw [hn]
      exact ⟨_, _, _, _, _, _, _, rfl, rfl⟩
  · rintro env _ ⟨g4, g5, g6, g7, g8, g9, g10, rfl, rfl⟩
    walk_at "w"
    exact h
end K04
end PL

set_option maxHeartbeats 4000000
/-! MK04z: k04: errors. -/
namespace PL
open PySem PySem.Spec L2 PyProof.Rows
open Classical
local macro_rules | `(tactic| walk_at "w1") => `(tactic| first
  | (with_reducible refine w_seq ?_)
  | (with_reducible refine w_then_nx ?_)
  | (with_reducible refine w_then_rt ?_)
  | (with_reducible refine w_then_bk ?_)
  | (with_reducible refine w_then_ct ?_)
  | (with_reducible refine w_c ?_)
  | ((with_reducible refine w_varG ?_); refine w_var rfl ?_)
  | (with_reducible refine w_e2 ?_)
  | (with_reducible refine w_e1 ?_)
  | (with_reducible refine w_nil ?_)
  | (with_reducible refine w_cons ?_)
  | (with_reducible refine w_star ?_)
  | (with_reducible refine w_call ?_)
  | (with_reducible refine w_callB ?_)
  | (with_reducible refine w_tup ?_)
  | (with_reducible refine w_lst ?_)
  | (with_reducible refine w_and2 ?_)
  | (with_reducible refine w_or2 ?_)
  | (with_reducible refine w_not ?_)
  | (with_reducible refine w_chain ?_)
  | (with_reducible refine w_tV ?_)
  | (with_reducible refine w_tOr2 ?_)
  | (with_reducible refine w_tAnd2 ?_)
  | (with_reducible refine w_tNt ?_)
  | (with_reducible refine w_tYs ?_)
  | (with_reducible refine w_cut ?_)
  | (with_reducible refine w_oNone ?_)
  | (with_reducible refine w_oSome ?_)
  | (with_reducible refine w_iSeq ?_)
  | (with_reducible refine w_iRng ?_)
  | (with_reducible refine w_lc ?_)
  | (with_reducible refine w_lc2 ?_)
  | (with_reducible refine w_disp1 ?_)
  | (with_reducible refine w_dnew ?_)
  | (with_reducible refine w_get2 ?_)
  | (with_reducible refine w_sNil ?_)
  | (with_reducible refine w_sBrk ?_)
  | (with_reducible refine w_sCt ?_)
  | (with_reducible refine w_sRet ?_)
  | (with_reducible refine w_sIf ?_)
  | (with_reducible refine w_sSet ?_)
  | ((with_reducible refine w_sSetF ?_ ?_); focus (simp only [List.length_set, envS, List.length_append, List.length_map, List.length_replicate, List.length_cons, List.length_nil] <;> omega))
  | (with_reducible refine w_sExpr ?_)
  | (with_reducible refine w_sAsg ?_)
  | (with_reducible refine w_sRaise ?_)
  | (with_reducible refine w_sPar ?_)
  | ((with_reducible refine w_sParF ?_ ?_); focus (constructor <;> (simp only [List.length_set, envS, List.length_append, List.length_map, List.length_replicate, List.length_cons, List.length_nil] <;> omega)))
  | (with_reducible refine w_for ?_)
  | (with_reducible refine forL_nil ?_)
  | ((with_reducible refine forL_consG ?_); refine forL_cons rfl ?_)
  | (with_reducible refine lc_nil ?_)
  | (with_reducible refine lc_cons ?_)
  | ((with_reducible refine lca_consG ?_); refine lca_cons rfl ?_)
  | ((with_reducible refine lca_nil ?_ ?_); focus (simp only [List.length_append, List.length_cons, List.length_nil] <;> omega))
  | (with_reducible refine lp_nx ?_)
  | (with_reducible refine lp_ct ?_)
  | (with_reducible refine lp_bk ?_)
  | (with_reducible refine lp_rt ?_)
  | (with_reducible refine fn_nx ?_)
  | (with_reducible refine fn_rt ?_)
  | (with_reducible refine val (add_int _ _) ?_)
  | (with_reducible refine val (mn2 _ _) ?_)
  | (with_reducible refine val (mx2 _ _) ?_)
  | (with_reducible refine val (sub_int _ _) ?_)
  | (with_reducible refine val (lt_int _ _) ?_)
  | (with_reducible refine val (gt_int _ _) ?_)
  | (with_reducible refine val (le_int _ _) ?_)
  | (with_reducible refine val (ge_int _ _) ?_)
  | (with_reducible refine val (eq_int _ _) ?_)
  | (with_reducible refine val (ne_int _ _) ?_)
  | (with_reducible refine val (mod_int (by omega)) ?_)
  | (with_reducible refine val (mul_int (by omega)) ?_)
  | (with_reducible refine val (rng1 (by omega) (by omega)) ?_)
  | (with_reducible refine val (mul_one (by omega) (by omega)) ?_)
  | (with_reducible refine val (mul_onel (by omega) (by omega)) ?_)
  | (with_reducible refine br_tt ?_)
  | (with_reducible refine br_ff ?_)
  | (with_reducible refine as_bl ?_)
  | (with_reducible refine as_int ?_)
  | (with_reducible refine as_dct ?_)
  | (with_reducible refine as_two ?_)
  | ((with_reducible refine valG ?_); refine val rfl ?_)
  | ((with_reducible refine len ?_ ?_); focus (simp only [List.length_cons, List.length_nil] <;> omega)))
local macro_rules | `(tactic| walk_at "w") => `(tactic| repeat walk_at "w1")
section
variable {k : Int} {env : Env} {p : Pt} {m : Ev} {vs : List Nat} {P : D → Int → Prop}
theorem lc_all {ds : List D} (f : D → D) (hl : ds.length ≤ 1000000) (h : ∀ x ∈ ds, ∃ e, p x (wipeE env vs) = some e ∧ W (m e k) (fun d j => d = f x ∧ j = k) nE) (q : P (.lst (ds.map f)) k) : LC (lcL p tYs m vs env ds k) P := by
  have := lc_map (g := id) (xs := ds) (f := f) (p := p) (m := m) (vs := vs) (env := env) (k := k) (P := P) hl h q
  rwa [List.map_id] at this
end
namespace K04
section
variable {k : Int} {m s ds : D} {c : Str} {P : D → Int → Prop} {E : Str → Int → Prop}
theorem state_ex (h : φ_check_machine [m] k = .ex c k) : φ_check_state [m, s] k = .ex c k := by
  apply W.ex_of
  refine w_fn rfl ?_
  unfold m_check_state
  walk_at "w"
  exact W_exc h ⟨rfl, rfl⟩
theorem deeds_ex (h : φ_check_state [m, s] k = .ex c k) : φ_check_deeds [m, s, ds] k = .ex c k := by
  apply W.ex_of
  refine w_fn rfl ?_
  unfold m_check_deeds
  walk_at "w"
  exact W_exc h ⟨rfl, rfl⟩
theorem runs_ex (h : φ_check_deeds [m, s, ds] k = .ex c k) : φ_runs [m, s, ds] k = .ex c k := by
  apply W.ex_of
  refine w_fn rfl ?_
  unfold m_runs
  walk_at "w"
  exact W_exc h ⟨rfl, rfl⟩
theorem ext_ex (h : φ_check_deeds [m, s, ds] k = .ex c k) : φ_extremes [m, s, ds] k = .ex c k := by
  apply W.ex_of
  refine w_fn rfl ?_
  unfold m_extremes
  walk_at "w"
  exact W_exc h ⟨rfl, rfl⟩
theorem run_ex (h : φ_check_state [m, s] k = .ex c k) : φ_check_run [m, s, ds] k = .ex c k := by
  apply W.ex_of
  refine w_fn rfl ?_
  unfold m_check_run
  walk_at "w"
  exact W_exc h ⟨rfl, rfl⟩
theorem told_ex {y x : Str} {φ : List D → Int → R D} (hd : disp y = some (3, φ)) (h : φ [m, s, ds] k = .ex c k) (e : errName c = some x) (p : P (.str x) k) : W (φ_law_told [.fn y, .lst [m, s, ds]] k) P E := by
  rw [law_told3 hd, h]
  unfold told
  simp only [e]
  exact p
theorem told_ok {y : Str} {φ : List D → Int → R D} {d : D} (hd : disp y = some (3, φ)) (h : φ [m, s, ds] k = .ok d k) (p : P (.tup [.str "told", d]) k) : W (φ_law_told [.fn y, .lst [m, s, ds]] k) P E := by
  rw [law_told3 hd, h]
  exact p
theorem err_ref : errName "NotAllowed" = some "refused" := by decide +kernel
theorem err_large : errName "TooLarge" = some "large" := by decide +kernel
theorem err_paper : errName "BadPaper" = some "paper" := by decide +kernel
theorem mbad1 : φ_check_machine [.tup [.int 13, .tup []]] k = .ex "TooLarge" k := by
  apply W.ex_of
  refine w_fn rfl ?_
  unfold m_check_machine
  walk_at "w"
  refine br_t rfl ?_
  walk_at "w"
  exact ⟨rfl, rfl⟩
theorem mbad2 : φ_check_machine [.tup [.int 1, .tup []]] k = .ex "NotAllowed" k := by
  apply W.ex_of
  refine w_fn rfl ?_
  unfold m_check_machine
  walk_at "w"
  refine br_f rfl ?_
  walk_at "w"
  refine br_f rfl ?_
  walk_at "w"
  refine br_f rfl ?_
  walk_at "w"
  refine br_t rfl ?_
  walk_at "w"
  exact ⟨rfl, rfl⟩
theorem sortSet_t {l : List (Int × Int)} (h : PrsOk l) : fSortSet (.tup (l.map prD)) = some (.lst ((sortP l).map prD)) := by
  show ((toPrs (l.map prD)).bind fun l => if PrsOk l then some (D.lst ((sortP l).map prD)) else none) = _
  rw [toPrs_map, Option.bind_some, if_pos h]
theorem ways3 : φ_check_ways [.tup [.tup [.int 1, .int 1]], .int 1] k = .ex "NotAllowed" k := by
  apply W.ex_of
  refine w_fn rfl ?_
  unfold m_check_ways
  walk_at "w"
  refine br_f rfl ?_
  walk_at "w"
  refine br_f rfl ?_
  walk_at "w"
  refine val (sortSet_t (l := [(1, 1)]) ⟨by simp, by simp⟩) ?_
  walk_at "w"
  rw [show sortP [(1, 1)] = [(1, 1)] from rfl]
  refine val (ne_refl (by simp [Pu, prD])) ?_
  walk_at "w"
  refine br_f rfl ?_
  walk_at "w"
  refine br_f rfl ?_
  walk_at "w"
  refine br_t rfl ?_
  walk_at "w"
  refine br_t rfl ?_
  walk_at "w"
  exact ⟨rfl, rfl⟩
theorem mbad3 : φ_check_machine [.tup [.int 1, .tup [.tup [.tup [.tup [.int 1, .int 1]]]]]] k = .ex "NotAllowed" k := by
  apply W.ex_of
  refine w_fn rfl ?_
  unfold m_check_machine
  walk_at "w"
  refine br_f rfl ?_
  walk_at "w"
  refine br_f rfl ?_
  walk_at "w"
  refine br_f rfl ?_
  walk_at "w"
  refine br_f rfl ?_
  walk_at "w"
  refine br_f rfl ?_
  walk_at "w"
  exact W_exc ways3 ⟨rfl, rfl⟩
theorem ways4 : φ_check_ways [.tup [.tup [.int 1001, .int 0]], .int 1] k = .ex "TooLarge" k := by
  apply W.ex_of
  refine w_fn rfl ?_
  unfold m_check_ways
  walk_at "w"
  refine br_f rfl ?_
  walk_at "w"
  refine br_f rfl ?_
  walk_at "w"
  refine val (sortSet_t (l := [(1001, 0)]) ⟨by simp, by simp⟩) ?_
  walk_at "w"
  rw [show sortP [(1001, 0)] = [(1001, 0)] from rfl]
  refine val (ne_refl (by simp [Pu, prD])) ?_
  walk_at "w"
  refine br_t rfl ?_
  walk_at "w"
  exact ⟨rfl, rfl⟩
theorem mbad4 : φ_check_machine [.tup [.int 1, .tup [.tup [.tup [.tup [.int 1001, .int 0]]]]]] k = .ex "TooLarge" k := by
  apply W.ex_of
  refine w_fn rfl ?_
  unfold m_check_machine
  walk_at "w"
  refine br_f rfl ?_
  walk_at "w"
  refine br_f rfl ?_
  walk_at "w"
  refine br_f rfl ?_
  walk_at "w"
  refine br_f rfl ?_
  walk_at "w"
  refine br_f rfl ?_
  walk_at "w"
  exact W_exc ways4 ⟨rfl, rfl⟩
theorem all_ex {m d : D} {x : Str} (h : φ_check_machine [m] k = .ex c k) (e : errName c = some x) {y : D} (hy : y ∈ ([.fn "runs", .fn "extremes", .fn "check_run"] : List D)) : W (φ_law_told [y, .lst [m, .int (-1), .tup [d]]] k) (fun d j => d = .str x ∧ j = k) nE := by
  simp only [List.mem_cons, List.not_mem_nil, or_false] at hy
  rcases hy with rfl | rfl | rfl
  · exact told_ex disp_runs (runs_ex (deeds_ex (state_ex h))) e ⟨rfl, rfl⟩
  · exact told_ex disp_ext (ext_ex (deeds_ex (state_ex h))) e ⟨rfl, rfl⟩
  · exact told_ex disp_check (run_ex (state_ex h)) e ⟨rfl, rfl⟩
def n99 : D := .tup (List.replicate 201 (.int 99))
theorem n99_eq : n99 = intsD (List.replicate 201 99) := by
  unfold n99 intsD
  rw [List.map_replicate]
theorem no_state {d s : Int} {t : Tbl} {l : List Int} (M : MacOk d t) (hs : ¬ (0 ≤ s ∧ s < t.length)) (hl : l.length ≤ 1000000) : φ_check_deeds [macD d t, .int s, intsD l] k = .ex "NotAllowed" k := by
  rw [check_deeds M hl, if_neg hs]
theorem no_stater {d s : Int} {t : Tbl} (M : MacOk d t) (hs : ¬ (0 ≤ s ∧ s < t.length)) : φ_check_state [macD d t, .int s] k = .ex "NotAllowed" k := by
  rw [check_state M, if_neg hs]
theorem no_deed {d s x : Int} {t : Tbl} (M : MacOk d t) (hs : 0 ≤ s ∧ s < t.length) (hx : ¬ (0 ≤ x ∧ x < d)) : φ_check_deeds [macD d t, .int s, .tup [.int x]] k = .ex "NotAllowed" k := by
  have := check_deeds (s := s) (ds := [x]) (k := k) M (by simp)
  rw [if_pos hs, if_neg (by simp), if_neg (by simpa using hx)] at this
  exact this
theorem no_long {d s : Int} {t : Tbl} (M : MacOk d t) (hs : 0 ≤ s ∧ s < t.length) : φ_check_deeds [macD d t, .int s, n99] k = .ex "TooLarge" k := by
  rw [n99_eq, check_deeds M (by simp), if_pos hs, if_pos (by simp)]
theorem all22 {a b c d : D} : φ_law_all [.lst [a, b], .lst [c, d]] k = .ok (.lst [.tup [a, c], .tup [a, d], .tup [b, c], .tup [b, d]]) k := law_all (xs := [a, b]) (ys := [c, d]) (by simp) (by simp)
theorem eq_reps {n : Nat} {x : Str} : fEq (.lst (List.replicate n (.str x))) (.lst (List.replicate n (.str x))) = some (.bl true) := eq_refl (by
  rw [Pu]
  intro y hy
  rw [(List.mem_replicate.mp hy).2]
  simp [Pu])
theorem w_errors {ns : List Int} {n : Nat} {d : Int} {t : Tbl} (M : MacOk d t) (B : Bud ns (n + 1) k) (h : ∀ k', Bud ns n k' → P (.bl true) k') : W (φ_law_errors_fit ns [.cell, macD d t] k) P E := by
  have t1 := M.t1
  have d1 := M.d1
  refine w_fn rfl ?_
  unfold m_law_errors_fit
  walk_at "w"
  refine w_next B (by omega) fun v k1 v0 v1 B => ?_
  walk_at "w"
  have pick : ∃ (w : D) (c x : Str), fIx (.lst [.tup [.tup [.int 13, .tup []], .str "large"], .tup [.tup [.int 1, .tup []], .str "refused"], .tup [.tup [.int 1, .tup [.tup [.tup [.tup [.int 1, .int 1]]]]], .str "refused"], .tup [.tup [.int 1, .tup [.tup [.tup [.tup [.int 1001, .int 0]]]]], .str "large"]]) (.int v) = some (.tup [w, .str x]) ∧ φ_check_machine [w] k1 = .ex c k1 ∧ errName c = some x := by
    rcases (show v = 0 ∨ v = 1 ∨ v = 2 ∨ v = 3 by omega) with rfl | rfl | rfl | rfl
    · exact ⟨_, _, _, rfl, mbad1, err_large⟩
    · exact ⟨_, _, _, rfl, mbad2, err_ref⟩
    · exact ⟨_, _, _, rfl, mbad3, err_ref⟩
    · exact ⟨_, _, _, rfl, mbad4, err_large⟩
  obtain ⟨w, c, x, hw, hc, hx⟩ := pick
  refine val hw ?_
  walk_at "w"
  refine told_ex disp_runs (runs_ex (deeds_ex (state_ex hc))) hx ?_
  walk_at "w"
  refine told_ex disp_ext (ext_ex (deeds_ex (state_ex hc))) hx ?_
  walk_at "w"
  refine told_ex disp_check (run_ex (state_ex hc)) hx ?_
  walk_at "w"
  refine W_eq all22 ?_
  walk_at "w"
  have s1 : ¬ (0 ≤ (-1 : Int) ∧ (-1 : Int) < t.length) := by omega
  have s2 : ¬ (0 ≤ (((t.map rowD).length : Nat) : Int) ∧ (((t.map rowD).length : Nat) : Int) < t.length) := by rw [List.length_map]; omega
  have h0 : 0 ≤ (0 : Int) ∧ (0 : Int) < t.length := by omega
  have dx1 : ¬ (0 ≤ (-1 : Int) ∧ (-1 : Int) < d) := by omega
  have dx2 : ¬ (0 ≤ d ∧ d < d) := by omega
  have l201 : (List.replicate 201 (99 : Int)).length ≤ 1000000 := by simp
  have q1 := no_state (k := k1) M s1 l201
  have q2 := no_state (k := k1) M s2 l201
  rw [← n99_eq] at q1 q2
  have e1 : e1 fNeg (eC (.int 1)) = eC (.int (-1)) := rfl
  refine told_ex disp_runs (runs_ex q1) err_ref ?_
  walk_at "w"
  refine told_ex disp_runs (runs_ex q2) err_ref ?_
  walk_at "w"
  refine told_ex disp_ext (ext_ex q1) err_ref ?_
  walk_at "w"
  refine told_ex disp_ext (ext_ex q2) err_ref ?_
  walk_at "w"
  refine told_ex disp_check (run_ex (no_stater M s1)) err_ref ?_
  walk_at "w"
  refine told_ex disp_check (run_ex (no_stater M s2)) err_ref ?_
  walk_at "w"
  refine W_eq all22 ?_
  walk_at "w"
  refine told_ex disp_runs (runs_ex (no_deed M h0 dx1)) err_ref ?_
  walk_at "w"
  refine told_ex disp_runs (runs_ex (no_deed M h0 dx2)) err_ref ?_
  walk_at "w"
  refine told_ex disp_ext (ext_ex (no_deed M h0 dx1)) err_ref ?_
  walk_at "w"
  refine told_ex disp_ext (ext_ex (no_deed M h0 dx2)) err_ref ?_
  walk_at "w"
  have q3 := no_long (k := k1) M h0
  refine told_ex disp_runs (runs_ex q3) err_large ?_
  walk_at "w"
  refine told_ex disp_ext (ext_ex q3) err_large ?_
  walk_at "w"
  refine val (eq_reps (n := 3) (x := x)) ?_
  walk_at "w"
  refine val (eq_reps (n := 10)) ?_
  walk_at "w"
  refine val (eq_reps (n := 2)) ?_
  walk_at "w"
  exact h _ B
end
end K04
end PL

set_option maxHeartbeats 4000000
/-! NK04a: k04: what holds of each run that is found. -/
namespace PL
open PySem PySem.Spec L2 PyProof.Rows
open Classical
theorem minI_congr {a b : List Int} (h : ∀ v, v ∈ a ↔ v ∈ b) (ha : a ≠ []) : minI a = minI b := by
  have hb : b ≠ [] := by
    obtain ⟨x, hx⟩ := List.exists_mem_of_ne_nil a ha
    exact List.ne_nil_of_mem ((h x).mp hx)
  have h1 := minI_le ((h _).mpr (minI_mem hb))
  have h2 := minI_le ((h _).mp (minI_mem ha))
  omega
theorem maxI_congr {a b : List Int} (h : ∀ v, v ∈ a ↔ v ∈ b) (ha : a ≠ []) : maxI a = maxI b := by
  have hb : b ≠ [] := by
    obtain ⟨x, hx⟩ := List.exists_mem_of_ne_nil a ha
    exact List.ne_nil_of_mem ((h x).mp hx)
  have h1 := maxI_le ((h _).mpr (maxI_mem hb))
  have h2 := maxI_le ((h _).mp (maxI_mem ha))
  omega
namespace K04
theorem runD_inj {a b : Run} (h : runD a = runD b) : a = b := by
  unfold runD at h
  have h2 : a.map stepD = b.map stepD := by simpa using h
  refine List.map_inj_right (f := stepD) (fun x y e => ?_) |>.mp h2
  obtain ⟨x1, x2, x3⟩ := x
  obtain ⟨y1, y2, y3⟩ := y
  unfold stepD at e
  simp at e
  obtain ⟨rfl, rfl, rfl⟩ := e
  rfl
theorem runs_back : ∀ {xs : List D}, (∀ x ∈ xs, ∃ r, runD r = x) → ∃ rs : List Run, rs.map runD = xs
  | [], _ => ⟨[], rfl⟩
  | x :: xs, h => by
    obtain ⟨r, rfl⟩ := h x List.mem_cons_self
    obtain ⟨rs, e⟩ := runs_back (xs := xs) fun y hy => h y (List.mem_cons_of_mem _ hy)
    exact ⟨r :: rs, by rw [List.map_cons, e]⟩
theorem sortD_perm (xs : List D) : (sortD xs).Perm xs := List.mergeSort_perm _ _
/-- the sorted runs -/
theorem sorted_runs (f : List (Run × Int)) : ∃ rs : List Run, rs.map runD = sortD (f.map fun y => runD y.1) ∧ rs.length = f.length ∧ ∀ r, r ∈ rs ↔ ∃ y ∈ f, y.1 = r := by
  have hp := sortD_perm (f.map fun y => runD y.1)
  obtain ⟨rs, e⟩ := runs_back (xs := sortD (f.map fun y => runD y.1)) fun x hx => by
    obtain ⟨y, _, rfl⟩ := List.mem_map.mp (hp.mem_iff.mp hx)
    exact ⟨_, rfl⟩
  refine ⟨rs, e, ?_, fun r => ?_⟩
  · have := hp.length_eq
    rw [← e, List.length_map, List.length_map] at this
    exact this
  · constructor
    · intro h
      have : runD r ∈ f.map fun y => runD y.1 := hp.mem_iff.mp (e ▸ List.mem_map_of_mem h)
      obtain ⟨y, hy, e2⟩ := List.mem_map.mp this
      exact ⟨y, hy, runD_inj e2⟩
    · rintro ⟨y, hy, rfl⟩
      have : runD y.1 ∈ rs.map runD := e ▸ hp.mem_iff.mpr (List.mem_map.mpr ⟨y, hy, rfl⟩)
      obtain ⟨r, hr, e2⟩ := List.mem_map.mp this
      rw [← runD_inj e2]
      exact hr
structure RunOk (t : Tbl) (done : List Int) (y : Run × Int) : Prop where
  deeds : y.1.map (·.1) = done
  y0 : 0 ≤ y.2
  y1 : y.2 < t.length
  bd : ∀ st ∈ y.1, 0 ≤ st.1 ∧ st.1 < 100 ∧ 0 ≤ st.2.1 ∧ st.2.1 ≤ 1000 ∧ 0 ≤ st.2.2 ∧ st.2.2 < 100
theorem goOn_all {d : Int} {t : Tbl} {z : Int} {done : List Int} {f : List (Run × Int)} (M : MacOk d t) (h : ∀ y ∈ f, RunOk t done y) (z0 : 0 ≤ z) (z1 : z < d) : ∀ y ∈ goOn t z f, RunOk t (done ++ [z]) y := by
  intro y hy
  obtain ⟨x, hx, hy⟩ := List.mem_flatMap.mp hy
  obtain ⟨w, hw, rfl⟩ := List.mem_map.mp hy
  have R := h x hx
  obtain ⟨b1, b2, b3, b4⟩ := (waysAt_ok M R.y0 R.y1 z0 z1).bd w hw
  refine ⟨by rw [List.map_append, R.deeds]; rfl, b3, b4, fun st hst => ?_⟩
  rcases List.mem_append.mp hst with e | e
  · exact R.bd st e
  · rw [List.mem_singleton] at e
    subst e
    have := M.d2
    have := M.t2
    exact ⟨z0, by show z < 100; omega, b1, b2, b3, by show w.2 < 100; omega⟩
theorem runsO_all {d : Int} {t : Tbl} (M : MacOk d t) : ∀ {l done : List Int} {f f' : List (Run × Int)}, (∀ y ∈ f, RunOk t done y) → (∀ z ∈ l, 0 ≤ z ∧ z < d) → runsO t l f = some f' → ∀ y ∈ f', RunOk t (done ++ l) y
  | [], done, f, f', h, _, e => by
    cases e
    rw [List.append_nil]
    exact h
  | z :: l, done, f, f', h, hz, e => by
    unfold runsO at e
    split at e
    · cases e
    · have := runsO_all M (goOn_all M h (hz z List.mem_cons_self).1 (hz z List.mem_cons_self).2) (fun y hy => hz y (List.mem_cons_of_mem _ hy)) e
      rw [List.append_assoc] at this
      exact this
theorem run0 {s : Int} {t : Tbl} (s0 : 0 ≤ s) (s1 : s < t.length) : ∀ y ∈ [(([] : Run), s)], RunOk t [] y := fun y hy => by
  rw [List.mem_singleton] at hy
  subst hy
  exact ⟨rfl, s0, s1, fun st h => by cases h⟩
/-- few ways: few runs -/
theorem runsO_few {d : Int} {t : Tbl} (M : MacS d t) : ∀ {l done : List Int} {f : List (Run × Int)}, (∀ y ∈ f, RunOk t done y) → (∀ z ∈ l, 0 ≤ z ∧ z < d) → f.length * 3 ^ l.length ≤ 5000 → ∃ f', runsO t l f = some f'
  | [], _, f, _, _, _ => ⟨f, rfl⟩
  | z :: l, done, f, h, hz, hl => by
    obtain ⟨z0, z1⟩ := hz z List.mem_cons_self
    have few : (goOn t z f).length ≤ f.length * 3 := flat_len _ 3 fun y hy => by
      rw [List.length_map]
      exact (M.w3 _ (row_mem (h y hy).y0 (h y hy).y1) _ (List.mem_of_getElem? (way_at M.toMacOk (h y hy).y0 (h y hy).y1 z0 z1))).1
    rw [List.length_cons, Nat.pow_succ] at hl
    have p3 : 1 ≤ 3 ^ l.length := Nat.one_le_pow _ _ (by decide)
    have h1 : (goOn t z f).length * 3 ^ l.length ≤ f.length * 3 * 3 ^ l.length := Nat.mul_le_mul_right _ few
    have e : f.length * 3 * 3 ^ l.length = f.length * (3 ^ l.length * 3) := by rw [Nat.mul_assoc, Nat.mul_comm 3]
    have h2 : (goOn t z f).length * 1 ≤ (goOn t z f).length * 3 ^ l.length := Nat.mul_le_mul_left _ p3
    unfold runsO
    rw [if_neg (by omega)]
    exact runsO_few M (goOn_all M.toMacOk h z0 z1) (fun y hy => hz y (List.mem_cons_of_mem _ hy)) (by omega)
/-- a run as lists of numbers -/
def toI3 (r : Run) : List (List Int) := r.map fun s => [s.1, s.2.1, s.2.2]
theorem iRun_of (r : Run) : runD r = iRunD (toI3 r) := by
  unfold runD iRunD toI3
  rw [List.map_map]
  rfl
theorem sm_run {r : Run} (h : ∀ st ∈ r, 0 ≤ st.1 ∧ st.1 < 100 ∧ 0 ≤ st.2.1 ∧ st.2.1 ≤ 1000 ∧ 0 ≤ st.2.2 ∧ st.2.2 < 100) (hl : r.length ≤ 5) : Sm 2 21 (runD r) := by
  unfold runD
  refine (sm_tups (n := 1) (w := 4) (l := 5) (fun x hx => ?_) (by rw [List.length_map]; exact hl)).mono (Nat.le_refl _) (by omega)
  obtain ⟨st, hst, rfl⟩ := List.mem_map.mp hx
  have b := h st hst
  unfold stepD
  exact (sm_tup (sml_cons (sm_int (by omega)) (sml_cons (sm_int (by omega)) (sml_cons (sm_int (by omega)) sml_nil)))).mono (Nat.le_refl _) (by omega)
end K04
end PL

set_option maxHeartbeats 4000000
/-! NK04b: k04: deeds_fit. -/
namespace PL
open PySem PySem.Spec L2 PyProof.Rows
open Classical
local macro_rules | `(tactic| walk_at "w1") => `(tactic| first
  | (with_reducible refine w_seq ?_)
  | (with_reducible refine w_then_nx ?_)
  | (with_reducible refine w_then_rt ?_)
  | (with_reducible refine w_then_bk ?_)
  | (with_reducible refine w_then_ct ?_)
  | (with_reducible refine w_c ?_)
  | ((with_reducible refine w_varG ?_); refine w_var rfl ?_)
  | (with_reducible refine w_e2 ?_)
  | (with_reducible refine w_e1 ?_)
  | (with_reducible refine w_nil ?_)
  | (with_reducible refine w_cons ?_)
  | (with_reducible refine w_star ?_)
  | (with_reducible refine w_call ?_)
  | (with_reducible refine w_callB ?_)
  | (with_reducible refine w_tup ?_)
  | (with_reducible refine w_lst ?_)
  | (with_reducible refine w_and2 ?_)
  | (with_reducible refine w_or2 ?_)
  | (with_reducible refine w_not ?_)
  | (with_reducible refine w_chain ?_)
  | (with_reducible refine w_tV ?_)
  | (with_reducible refine w_tOr2 ?_)
  | (with_reducible refine w_tAnd2 ?_)
  | (with_reducible refine w_tNt ?_)
  | (with_reducible refine w_tYs ?_)
  | (with_reducible refine w_cut ?_)
  | (with_reducible refine w_oNone ?_)
  | (with_reducible refine w_oSome ?_)
  | (with_reducible refine w_iSeq ?_)
  | (with_reducible refine w_iRng ?_)
  | (with_reducible refine w_lc ?_)
  | (with_reducible refine w_lc2 ?_)
  | (with_reducible refine w_disp1 ?_)
  | (with_reducible refine w_dnew ?_)
  | (with_reducible refine w_get2 ?_)
  | (with_reducible refine w_sNil ?_)
  | (with_reducible refine w_sBrk ?_)
  | (with_reducible refine w_sCt ?_)
  | (with_reducible refine w_sRet ?_)
  | (with_reducible refine w_sIf ?_)
  | (with_reducible refine w_sSet ?_)
  | ((with_reducible refine w_sSetF ?_ ?_); focus (simp only [List.length_set, envS, List.length_append, List.length_map, List.length_replicate, List.length_cons, List.length_nil] <;> omega))
  | (with_reducible refine w_sExpr ?_)
  | (with_reducible refine w_sAsg ?_)
  | (with_reducible refine w_sRaise ?_)
  | (with_reducible refine w_sPar ?_)
  | ((with_reducible refine w_sParF ?_ ?_); focus (constructor <;> (simp only [List.length_set, envS, List.length_append, List.length_map, List.length_replicate, List.length_cons, List.length_nil] <;> omega)))
  | (with_reducible refine w_for ?_)
  | (with_reducible refine forL_nil ?_)
  | ((with_reducible refine forL_consG ?_); refine forL_cons rfl ?_)
  | (with_reducible refine lc_nil ?_)
  | (with_reducible refine lc_cons ?_)
  | ((with_reducible refine lca_consG ?_); refine lca_cons rfl ?_)
  | ((with_reducible refine lca_nil ?_ ?_); focus (simp only [List.length_append, List.length_cons, List.length_nil] <;> omega))
  | (with_reducible refine lp_nx ?_)
  | (with_reducible refine lp_ct ?_)
  | (with_reducible refine lp_bk ?_)
  | (with_reducible refine lp_rt ?_)
  | (with_reducible refine fn_nx ?_)
  | (with_reducible refine fn_rt ?_)
  | (with_reducible refine val (add_int _ _) ?_)
  | (with_reducible refine val (mn2 _ _) ?_)
  | (with_reducible refine val (mx2 _ _) ?_)
  | (with_reducible refine val (sub_int _ _) ?_)
  | (with_reducible refine val (lt_int _ _) ?_)
  | (with_reducible refine val (gt_int _ _) ?_)
  | (with_reducible refine val (le_int _ _) ?_)
  | (with_reducible refine val (ge_int _ _) ?_)
  | (with_reducible refine val (eq_int _ _) ?_)
  | (with_reducible refine val (ne_int _ _) ?_)
  | (with_reducible refine val (mod_int (by omega)) ?_)
  | (with_reducible refine val (mul_int (by omega)) ?_)
  | (with_reducible refine val (rng1 (by omega) (by omega)) ?_)
  | (with_reducible refine val (mul_one (by omega) (by omega)) ?_)
  | (with_reducible refine val (mul_onel (by omega) (by omega)) ?_)
  | (with_reducible refine br_tt ?_)
  | (with_reducible refine br_ff ?_)
  | (with_reducible refine as_bl ?_)
  | (with_reducible refine as_int ?_)
  | (with_reducible refine as_dct ?_)
  | (with_reducible refine as_two ?_)
  | ((with_reducible refine valG ?_); refine val rfl ?_)
  | ((with_reducible refine len ?_ ?_); focus (simp only [List.length_cons, List.length_nil] <;> omega)))
local macro_rules | `(tactic| walk_at "w") => `(tactic| repeat walk_at "w1")
theorem cutD_map {α β : Type} (g : α → β) (xs : List α) (lo hi : Option Int) : cutD (xs.map g) lo hi = (cutD xs lo hi).map g := by
  unfold cutD
  rw [List.length_map, List.map_take, List.map_drop]
theorem min1 {γ : Type} {f : γ → Int} {xs : List γ} (h : xs ≠ []) : f1 fMin1 [.lst (xs.map fun x => D.int (f x))] = some (.int (minI (xs.map f))) := by
  show ((toInts (xs.map fun x => D.int (f x))).bind fun ns => if ns = [] then none else some (D.int (minI ns))) = _
  rw [toInts_mapI]
  show (if xs.map f = [] then none else some (D.int (minI (xs.map f)))) = _
  rw [if_neg (by simpa using h)]
theorem max1 {γ : Type} {f : γ → Int} {xs : List γ} (h : xs ≠ []) : f1 fMax1 [.lst (xs.map fun x => D.int (f x))] = some (.int (maxI (xs.map f))) := by
  show ((toInts (xs.map fun x => D.int (f x))).bind fun ns => if ns = [] then none else some (D.int (maxI ns))) = _
  rw [toInts_mapI]
  show (if xs.map f = [] then none else some (D.int (maxI (xs.map f)))) = _
  rw [if_neg (by simpa using h)]
namespace K04
theorem cut_iRun (q : List (List Int)) (lo hi : Option Int) : fCut (iRunD q) lo hi = some (iRunD (cutD q lo hi)) := by
  show some (D.tup (cutD (q.map iStepD) lo hi)) = _
  rw [cutD_map]
  rfl
theorem add_iRun {a b : List (List Int)} (h : a.length + b.length ≤ 1000000) : fAdd (iRunD a) (iRunD b) = some (iRunD (a ++ b)) := by
  show fAdd (.tup _) (.tup _) = _
  rw [add_tup (by rw [List.length_map, List.length_map]; exact h), ← List.map_append]
  rfl
theorem rev_iRun (q : List (List Int)) : fRevT (iRunD q) = some (iRunD q.reverse) := by
  show some (D.tup (q.map iStepD).reverse) = _
  rw [← List.map_reverse]
  rfl
theorem cut_len {α : Type} (xs : List α) (lo hi : Option Int) : (cutD xs lo hi).length ≤ xs.length := by
  unfold cutD
  rw [List.length_take, List.length_drop]
  omega
theorem beats_bd {r : Run} (h : ∀ st ∈ r, 0 ≤ st.2.1 ∧ st.2.1 ≤ 1000) : 0 ≤ beatsR r ∧ beatsR r ≤ 1000 * r.length := by
  induction r with
  | nil => unfold beatsR; simp
  | cons x r ih =>
    obtain ⟨h1, h2⟩ := ih fun y hy => h y (List.mem_cons_of_mem _ hy)
    obtain ⟨h3, h4⟩ := h x List.mem_cons_self
    unfold beatsR at *
    rw [List.map_cons, List.sum_cons, List.length_cons]
    omega
theorem ne_unit (r : Run) : fNe (runD r) (.tup []) = some (.bl (!decide (r = []))) := by
  unfold fNe
  rw [if_pos ⟨pu_run 38 r, by simp [Pu]⟩]
  congr 3
  unfold eqD runD
  cases r with
  | nil => simp [D.py, D.pyL, PyData.eqv, PyData.eqvAll]
  | cons x r => simp [D.py, D.pyL, PyData.eqv, PyData.eqvAll]
section
variable {k d s : Int} {t : Tbl} {l ns : List Int} {n : Nat} {P : D → Int → Prop} {E : Str → Int → Prop}
theorem w_deeds (M : MacS d t) (s0 : 0 ≤ s) (s1 : s < t.length) (hl : l.length ≤ 5) (hd : ∀ z ∈ l, 0 ≤ z ∧ z < d) (B : Bud ns (n + 20) k) (h : ∀ k', Bud ns n k' → P (.bl true) k') : W (φ_law_deeds_fit ns [.cell, macD d t, .int s, intsD l] k) P E := by
  have M0 := M.toMacOk
  have d1 := M0.d1
  have d3 := M.d3
  have t1 := M0.t1
  have t4 := M.t4
  obtain ⟨f, ef⟩ := runsO_few (l := l) M (run0 s0 s1) hd (by
    have : 3 ^ l.length ≤ 3 ^ 5 := Nat.pow_le_pow_right (by decide) hl
    simp
    omega)
  have ok := runsO_all M0 (run0 s0 s1) hd ef
  rw [List.nil_append] at ok
  have fne := runsO_ne M0 (start_ok s0 s1) hd (by simp) ef
  obtain ⟨rs, ers, lrs, mrs⟩ := sorted_runs f
  have rok : ∀ r ∈ rs, r.map (·.1) = l ∧ r.length ≤ 5 ∧ ∀ st ∈ r, 0 ≤ st.1 ∧ st.1 < 100 ∧ 0 ≤ st.2.1 ∧ st.2.1 ≤ 1000 ∧ 0 ≤ st.2.2 ∧ st.2.2 < 100 := fun r hr => by
    obtain ⟨y, hy, rfl⟩ := (mrs r).mp hr
    have R := ok y hy
    refine ⟨R.deeds, ?_, R.bd⟩
    rw [← List.length_map (f := fun x : Step => x.1), R.deeds]
    exact hl
  have rne : rs ≠ [] := fun z => by
    rw [z] at lrs
    exact fne (List.length_eq_zero_iff.mp lrs.symm)
  have F := (runs_loop (s := s) (k := k) (dd := intsD l) (ds := l) M0 (a := none) (b := none) (start_ok s0 s1) hd (by omega))
  rw [ef] at F
  have few := F.1.few
  clear F
  have rle : rs.length ≤ 5000 := by omega
  have e1 : φ_law_runs [macD d t, .int s, intsD l] k = .ok (.lst (rs.map runD)) k := by rw [law_runs M0 s0 s1 (by omega) hd ef, ers]
  have e2' : φ_runs [macD d t, .int s, intsD l] k = .ok (.tup (rs.map runD)) k := by
    have := runs_eq (k := k) M0 s0 s1 (by omega) hd
    rw [ef] at this
    rw [this, ers]
  have mm : ∀ v, v ∈ rs.map beatsR ↔ v ∈ f.map fun y => beatsR y.1 := fun v => by
    constructor
    · intro hv
      obtain ⟨r, hr, rfl⟩ := List.mem_map.mp hv
      obtain ⟨y, hy, rfl⟩ := (mrs r).mp hr
      exact List.mem_map.mpr ⟨y, hy, rfl⟩
    · intro hv
      obtain ⟨y, hy, rfl⟩ := List.mem_map.mp hv
      exact List.mem_map.mpr ⟨y.1, (mrs _).mpr ⟨y, hy, rfl⟩, rfl⟩
  have bne : rs.map beatsR ≠ [] := by simpa using rne
  have emin := minI_congr mm bne
  have emax := maxI_congr mm bne
  have R := tabOf_rel M0 s0 s1 hd ef
  have tne := rel_ne R fne
  have tmin := (rel_min R fne).trans emin.symm
  have tmax := (rel_max R fne).trans emax.symm
  have e3 : φ_extremes [macD d t, .int s, intsD l] k = .ok (.tup [.int (minI (rs.map beatsR)), .int (maxI (rs.map beatsR))]) k := by
    rw [extremes_runs M0 s0 s1 (by omega) hd ef, emin, emax]
  have bb : ∀ v ∈ rs.map beatsR, 0 ≤ v ∧ v ≤ 5000 := fun v hv => by
    obtain ⟨r, hr, rfl⟩ := List.mem_map.mp hv
    obtain ⟨_, h2, h3⟩ := rok r hr
    have := beats_bd (r := r) fun st hst => ⟨(h3 st hst).2.2.1, (h3 st hst).2.2.2.1⟩
    omega
  have bmin := bb _ (minI_mem bne)
  have bmax := bb _ (maxI_mem bne)
  have rep1 : ReprOk (.lst [.lst [.tup (rs.map runD), .tup [.int (minI (rs.map beatsR)), .int (maxI (rs.map beatsR))]]]) :=
    Sm.repr (n := 5) (w := 110000) ((sm_lst (sml_cons (sm_lst (sml_cons (sm_tups (n := 2) (w := 21) (l := 5000) (fun x hx => by
      obtain ⟨r, hr, rfl⟩ := List.mem_map.mp hx
      exact sm_run (rok r hr).2.2 (rok r hr).2.1) (by rw [List.length_map]; exact rle)) (sml_cons (sm_tup (sml_cons (sm_int (by omega)) (sml_cons (sm_int (by omega)) sml_nil))) sml_nil))) sml_nil)).mono (Nat.le_refl _) (by omega)) (by omega) (by omega)
  refine w_fn rfl ?_
  unfold m_law_deeds_fit
  walk_at "w"
  refine W_eq e1 ?_
  walk_at "w"
  refine lc_map (g := runD) (f := fun r => .int (beatsR r)) (by omega) (fun r hr => ⟨_, rfl, ?_⟩) ?_
  · walk_at "w"
    refine lc_map (g := stepD) (f := fun st => .int st.2.1) (by have := (rok r hr).2.1; omega) (fun st _ => ⟨_, rfl, ?_⟩) ?_
    · walk_at "w"
      exact ⟨rfl, rfl⟩
    refine val (sum_ints _ _) ?_
    exact ⟨rfl, rfl⟩
  walk_at "w"
  refine W_eq e2' ?_
  walk_at "w"
  refine W_eq e3 ?_
  walk_at "w"
  refine val (min1 rne) ?_
  walk_at "w"
  refine val (max1 rne) ?_
  walk_at "w"
  refine W_eq (law_same_eq rep1) ?_
  walk_at "w"
  refine br_f rfl ?_
  walk_at "w"
  refine w_sums M0 s0 s1 hd ?_
  walk_at "w"
  have tn := tabs_ok M0 hd (tb := [(s, 0, 0)]) ⟨by simp, fun e he => by
    rw [List.mem_singleton] at he
    subst he
    exact ⟨s0, s1⟩⟩
  have tl : (tabOf t s l).length ≤ 1000000 := by have := tn.few; show List.length (List.foldl _ _ _) ≤ _; omega
  have tnd : ((tabOf t s l).map (·.1)).Nodup := tn.nd
  have hk : ∀ env : Env, env[7]? = some (some (.dct (prsD (tabOf t s l)))) → ksAt env 7 = some ((tabOf t s l).map fun e => .int e.1) := fun env he => by
    unfold ksAt
    rw [he]
    show some ((prsD (tabOf t s l)).map fun q => keyV q.1) = _
    unfold prsD
    rw [List.map_map]
    rfl
  refine w_lcK (hk _ rfl) (lc_map (g := fun e => .int e.1) (f := fun e => .int e.2.1) tl (fun e he => ⟨_, rfl, ?_⟩) ?_)
  · walk_at "w"
    refine val (ix_prs (getT_mem tnd he)) ?_
    walk_at "w"
    exact ⟨rfl, rfl⟩
  walk_at "w"
  refine val (min1 tne) ?_
  walk_at "w"
  refine w_lcK (hk _ rfl) (lc_map (g := fun e => .int e.1) (f := fun e => .int e.2.2) tl (fun e he => ⟨_, rfl, ?_⟩) ?_)
  · walk_at "w"
    refine val (ix_prs (getT_mem tnd he)) ?_
    walk_at "w"
    exact ⟨rfl, rfl⟩
  walk_at "w"
  refine val (max1 tne) ?_
  walk_at "w"
  rw [tmin, tmax]
  refine val (ne_refl (by simp [Pu])) ?_
  walk_at "w"
  refine w_next (B.less (m := n + 19 + 1) (by omega)) (by rw [List.length_map]; have := List.length_pos_iff.mpr rne; omega) fun v k1 v0 v1 B => ?_
  walk_at "w"
  rw [List.length_map] at v1
  obtain ⟨own, hown⟩ : ∃ own, rs[v.toNat]? = some own := ⟨_, List.getElem?_eq_getElem (by omega)⟩
  have mown := List.mem_of_getElem? hown
  obtain ⟨o1, o2, o3⟩ := rok own mown
  refine val (r := runD own) (atI_in v0 (by rw [List.getElem?_map, hown]; rfl)) ?_
  walk_at "w"
  refine W_eq (beats_of own (by omega)) ?_
  walk_at "w"
  refine W_eq (deeds_in own (by omega)) ?_
  walk_at "w"
  refine W_eq (state_behind own) ?_
  walk_at "w"
  refine lc_map (g := stepD) (f := fun st => .int st.2.1) (by omega) (fun st _ => ⟨_, rfl, ?_⟩) ?_
  · walk_at "w"
    exact ⟨rfl, rfl⟩
  walk_at "w"
  refine val (sum_ints _ _) ?_
  walk_at "w"
  refine (W.go (P := fun x k' => x = .int (lastR s own) ∧ k1 = k') (w_eif ?_) ?_)
  · walk_at "w"
    refine val (ne_unit own) ?_
    walk_at "w"
    cases e : own.getLast? with
    | none =>
      have hr : own = [] := List.getLast?_eq_none_iff.mp e
      subst hr
      refine br_f rfl ?_
      walk_at "w"
      exact ⟨rfl, rfl⟩
    | some a =>
      have hr : own ≠ [] := fun z => by rw [z] at e; cases e
      refine br_t (by simp [hr]) ?_
      walk_at "w"
      refine val (r := stepD a) (atI_last (by rw [List.getLast?_map, e]; rfl)) ?_
      walk_at "w"
      unfold lastR
      rw [e]
      exact ⟨rfl, rfl⟩
  rintro _ _ ⟨rfl, rfl⟩
  walk_at "w"
  rw [o1]
  have bo := beats_bd (r := own) fun st hst => ⟨(o3 st hst).2.2.1, (o3 st hst).2.2.2.1⟩
  have lo : 0 ≤ lastR s own ∧ lastR s own < 100 := by
    unfold lastR
    cases e : own.getLast? with
    | none => exact ⟨s0, by show s < 100; omega⟩
    | some a =>
      have := o3 a (List.mem_of_getLast? e)
      exact ⟨this.2.2.2.2.1, this.2.2.2.2.2⟩
  have rep2 : ReprOk (.lst [.lst [.int (beatsR own), intsD l, .int (lastR s own)]]) :=
    Sm.repr (n := 5) (w := 100) ((sm_lst (sml_cons (sm_lst (sml_cons (n := 3) (sm_int (by omega)) (sml_cons (sm_tups (n := 2) (w := 1) (l := 5) (fun x hx => by
      obtain ⟨z, hz, rfl⟩ := List.mem_map.mp hx
      have := hd z hz
      exact sm_int (by omega)) (by rw [List.length_map]; exact hl)) (sml_cons (sm_int (by omega)) sml_nil)))) sml_nil)).mono (by omega) (by omega)) (by omega) (by omega)
  refine W_eq (law_same_eq rep2) ?_
  walk_at "w"
  refine br_f rfl ?_
  walk_at "w"
  refine w_next (B.less (m := n + 18 + 1) (by omega)) (by omega) fun v2 k2 v20 v21 B => ?_
  rw [iRun_of own]
  rw [List.length_map] at v21
  have hq : (toI3 own).length ≤ 5 := by unfold toI3; rw [List.length_map]; exact o2
  have hql : (toI3 own).length = own.length := by unfold toI3; rw [List.length_map]
  generalize hqe : toI3 own = q at hq hql
  walk_at "w"
  have cl := fun lo hi => cut_len q lo hi
  rw [cutD_map, cutD_map]
  refine val (add_iRun (a := cutD q none (some v2)) (b := cutD q (some (v2 + 1)) none) (by have h1 := cl none (some v2); have h2 := cl (some (v2 + 1)) none; omega)) ?_
  walk_at "w"
  refine val (add_iRun (a := q) (b := [[d, 0, 0]]) (by show _ + 1 ≤ _; omega)) ?_
  walk_at "w"
  refine val (add_iRun (a := q) (b := [[0, 9999, 0]]) (by show _ + 1 ≤ _; omega)) ?_
  walk_at "w"
  refine val (add_iRun (a := q) (b := [[0, 1]]) (by show _ + 1 ≤ _; omega)) ?_
  walk_at "w"
  refine val (add_iRun (a := q) (b := [[-1, 0, 0]]) (by show _ + 1 ≤ _; omega)) ?_
  walk_at "w"
  rw [← List.map_reverse]
  generalize hv4 : some (D.lst (List.map runD rs)) = c4
  generalize some (D.lst (List.map (fun r => D.int (beatsR r)) rs)) = c5
  generalize some (D.lst [D.tup (List.map runD rs), D.tup [D.int (minI (List.map beatsR rs)), D.int (maxI (List.map beatsR rs))]]) = c6
  generalize some (D.dct (prsD (tabOf t s l))) = c7
  have fin : ∀ (qs : List (List (List Int))) (e11 : Option D) (k3 : Int), qs.length ≤ 20 → Bud ns n k3 → W (sRet (e2 fEq (eLc (iSeq (eVar 10)) (pName 12) tYs (eCall φ_law_told (eCons (eC (D.fn (PySem.Str.ofString "check_run"))) (eCons (eLst (eCons (eVar 1) (eCons (eVar 2) (eCons (eVar 12) eNil)))) eNil))) [12])
      (eLc (iSeq (eVar 10)) (pName 12) tYs (e2 fIx (eLst (eCons (eC (D.str (PySem.Str.ofString "paper"))) (eCons (eTup (eCons (eC (D.str (PySem.Str.ofString "told"))) (eCons (eC (D.bl true)) eNil))) eNil))) (eCallB (f1 fInt) (eCons (eCall φ_law_is_run (eCons (eVar 1) (eCons (eVar 2) (eCons (eVar 12) eNil)))) eNil))) [12]))
      [some .cell, some (macD d t), some (.int s), some (intsD l), c4, c5, c6, c7, some (iRunD q), some (.int v2), some (.lst (qs.map iRunD)), e11, none, none] k3) (fun f k1 => fnP P f k1) E := by
    intro qs e11 k3 hqs B
    walk_at "w"
    refine lc_map (g := iRunD) (f := fun r => if isRun d t s r = true then .tup [.str "told", .bl true] else .str "paper") (by omega) (fun r _ => ⟨_, rfl, ?_⟩) ?_
    · walk_at "w"
      by_cases hr : isRun d t s r = true
      · refine told_ok disp_check (d := .bl true) (by rw [check_run M0 r, if_pos ⟨s0, s1⟩, if_pos hr]) ⟨?_, rfl⟩
        rw [if_pos hr]
      · refine told_ex disp_check (c := "BadPaper") (by rw [check_run M0 r, if_pos ⟨s0, s1⟩, if_neg hr]) err_paper ⟨?_, rfl⟩
        rw [if_neg hr]
    walk_at "w"
    refine lc_map (g := iRunD) (f := fun r => if isRun d t s r = true then .tup [.str "told", .bl true] else .str "paper") (by omega) (fun r _ => ⟨_, rfl, ?_⟩) ?_
    · walk_at "w"
      refine W_eq (law_is_run M0 s0 s1 r) ?_
      walk_at "w"
      cases isRun d t s r with
      | true => exact ⟨_, rfl, rfl, rfl⟩
      | false => exact ⟨_, rfl, rfl, rfl⟩
    refine val (eq_refl ?_) (h _ B)
    rw [Pu]
    intro x hx
    obtain ⟨r, _, rfl⟩ := List.mem_map.mp hx
    split <;> simp [Pu]
  refine for_inv (I := fun pre env k => ∃ (qs : List (List (List Int))) (e11 : Option D), env = [some .cell, some (macD d t), some (.int s), some (intsD l), c4, c5, c6, c7, some (iRunD q), some (.int v2), some (.lst (qs.map iRunD)), e11, none, none] ∧ qs.length ≤ 7 + pre.length ∧ Bud ns (n + 2 * (3 - pre.length)) k)
    ⟨[q, cutD q none (some v2) ++ cutD q (some (v2 + 1)) none, q.reverse, q ++ [[d, 0, 0]], q ++ [[0, 9999, 0]], q ++ [[0, 1]], q ++ [[-1, 0, 0]]], none, rfl, Nat.le_refl _, B.less (by show n + 6 ≤ _; omega)⟩ ?_ ?_
  · rintro pre x post env k3 es ⟨qs, e11, rfl, hqs, B⟩
    obtain ⟨rfl, hlt⟩ := split_lt es
    refine ⟨_, rfl, ?_⟩
    refine w_sApp (xs := qs.map iRunD) rfl (by rw [List.length_map]; omega) ?_
    walk_at "w"
    refine w_next (B.less (m := n + 2 * (2 - pre.length) + 1 + 1) (by omega)) (by omega) fun v3 k3 _ _ B => ?_
    walk_at "w"
    refine w_next B (by rw [List.length_map]; omega) fun v4 k4 _ _ B => ?_
    walk_at "w"
    refine val (add_iRun (a := q) (b := [[(pre.length : Int), v3, v4]]) (by show _ + 1 ≤ _; omega)) ?_
    walk_at "w"
    refine ⟨qs ++ [q ++ [[(pre.length : Int), v3, v4]]], _, by rw [List.map_append]; rfl, by rw [List.length_append, List.length_append]; show _ + 1 ≤ 7 + (_ + 1); omega, B.less (by rw [List.length_append]; show _ + 2 * (3 - (pre.length + 1)) ≤ _; omega)⟩
  · rintro env k3 ⟨qs, e11, rfl, hqs, B⟩
    rw [List.length_range] at hqs
    walk_at "w"
    rw [List.length_map]
    by_cases hlt : v2 < q.length
    · refine br_t (decide_eq_true hlt) ?_
      refine w_sApp (xs := qs.map iRunD) rfl (by rw [List.length_map]; omega) ?_
      walk_at "w"
      obtain ⟨st, hst⟩ : ∃ st, own[v2.toNat]? = some st := ⟨_, List.getElem?_eq_getElem (by omega)⟩
      have hq2 : q[v2.toNat]? = some [st.1, st.2.1, st.2.2] := by
        rw [← hqe]
        unfold toI3
        rw [List.getElem?_map, hst]
        rfl
      have ix : fIx (iRunD q) (.int v2) = some (iStepD [st.1, st.2.1, st.2.2]) := atI_in v20 (by rw [List.getElem?_map, hq2]; rfl)
      refine val ix ?_
      walk_at "w"
      refine val ix ?_
      walk_at "w"
      refine val ix ?_
      walk_at "w"
      rw [cutD_map]
      have h1 := cl none (some v2)
      have h2 := cl (some (v2 + 1)) none
      refine val (add_iRun (a := cutD q none (some v2)) (b := [[st.1, st.2.1 + 1, st.2.2]]) (by show _ + 1 ≤ _; omega)) ?_
      walk_at "w"
      rw [cutD_map]
      refine val (add_iRun (a := cutD q none (some v2) ++ [[st.1, st.2.1 + 1, st.2.2]]) (b := cutD q (some (v2 + 1)) none) (by rw [List.length_append]; show _ + 1 + _ ≤ _; omega)) ?_
      walk_at "w1"
      have := fin (qs ++ [cutD q none (some v2) ++ [[st.1, st.2.1 + 1, st.2.2]] ++ cutD q (some (v2 + 1)) none]) e11 k3 (by rw [List.length_append]; show _ + 1 ≤ _; omega) (B.less (by omega))
      rw [List.map_append] at this
      exact this
    · refine br_f (decide_eq_false hlt) ?_
      walk_at "w1"
      walk_at "w1"
      exact fin qs e11 k3 (by omega) (B.less (by omega))
end
end K04
end PL

set_option maxHeartbeats 4000000
/-! NK04c: k04: the law. -/
namespace PL
open PySem PySem.Spec L2 PyProof.Rows
open Classical
local macro_rules | `(tactic| walk_at "w1") => `(tactic| first
  | (with_reducible refine w_seq ?_)
  | (with_reducible refine w_then_nx ?_)
  | (with_reducible refine w_then_rt ?_)
  | (with_reducible refine w_then_bk ?_)
  | (with_reducible refine w_then_ct ?_)
  | (with_reducible refine w_c ?_)
  | ((with_reducible refine w_varG ?_); refine w_var rfl ?_)
  | (with_reducible refine w_e2 ?_)
  | (with_reducible refine w_e1 ?_)
  | (with_reducible refine w_nil ?_)
  | (with_reducible refine w_cons ?_)
  | (with_reducible refine w_star ?_)
  | (with_reducible refine w_call ?_)
  | (with_reducible refine w_callB ?_)
  | (with_reducible refine w_tup ?_)
  | (with_reducible refine w_lst ?_)
  | (with_reducible refine w_and2 ?_)
  | (with_reducible refine w_or2 ?_)
  | (with_reducible refine w_not ?_)
  | (with_reducible refine w_chain ?_)
  | (with_reducible refine w_tV ?_)
  | (with_reducible refine w_tOr2 ?_)
  | (with_reducible refine w_tAnd2 ?_)
  | (with_reducible refine w_tNt ?_)
  | (with_reducible refine w_tYs ?_)
  | (with_reducible refine w_cut ?_)
  | (with_reducible refine w_oNone ?_)
  | (with_reducible refine w_oSome ?_)
  | (with_reducible refine w_iSeq ?_)
  | (with_reducible refine w_iRng ?_)
  | (with_reducible refine w_lc ?_)
  | (with_reducible refine w_lc2 ?_)
  | (with_reducible refine w_disp1 ?_)
  | (with_reducible refine w_dnew ?_)
  | (with_reducible refine w_get2 ?_)
  | (with_reducible refine w_sNil ?_)
  | (with_reducible refine w_sBrk ?_)
  | (with_reducible refine w_sCt ?_)
  | (with_reducible refine w_sRet ?_)
  | (with_reducible refine w_sIf ?_)
  | (with_reducible refine w_sSet ?_)
  | ((with_reducible refine w_sSetF ?_ ?_); focus (simp only [List.length_set, envS, List.length_append, List.length_map, List.length_replicate, List.length_cons, List.length_nil] <;> omega))
  | (with_reducible refine w_sExpr ?_)
  | (with_reducible refine w_sAsg ?_)
  | (with_reducible refine w_sRaise ?_)
  | (with_reducible refine w_sPar ?_)
  | ((with_reducible refine w_sParF ?_ ?_); focus (constructor <;> (simp only [List.length_set, envS, List.length_append, List.length_map, List.length_replicate, List.length_cons, List.length_nil] <;> omega)))
  | (with_reducible refine w_for ?_)
  | (with_reducible refine forL_nil ?_)
  | ((with_reducible refine forL_consG ?_); refine forL_cons rfl ?_)
  | (with_reducible refine lc_nil ?_)
  | (with_reducible refine lc_cons ?_)
  | ((with_reducible refine lca_consG ?_); refine lca_cons rfl ?_)
  | ((with_reducible refine lca_nil ?_ ?_); focus (simp only [List.length_append, List.length_cons, List.length_nil] <;> omega))
  | (with_reducible refine lp_nx ?_)
  | (with_reducible refine lp_ct ?_)
  | (with_reducible refine lp_bk ?_)
  | (with_reducible refine lp_rt ?_)
  | (with_reducible refine fn_nx ?_)
  | (with_reducible refine fn_rt ?_)
  | (with_reducible refine val (add_int _ _) ?_)
  | (with_reducible refine val (mn2 _ _) ?_)
  | (with_reducible refine val (mx2 _ _) ?_)
  | (with_reducible refine val (sub_int _ _) ?_)
  | (with_reducible refine val (lt_int _ _) ?_)
  | (with_reducible refine val (gt_int _ _) ?_)
  | (with_reducible refine val (le_int _ _) ?_)
  | (with_reducible refine val (ge_int _ _) ?_)
  | (with_reducible refine val (eq_int _ _) ?_)
  | (with_reducible refine val (ne_int _ _) ?_)
  | (with_reducible refine val (mod_int (by omega)) ?_)
  | (with_reducible refine val (mul_int (by omega)) ?_)
  | (with_reducible refine val (rng1 (by omega) (by omega)) ?_)
  | (with_reducible refine val (mul_one (by omega) (by omega)) ?_)
  | (with_reducible refine val (mul_onel (by omega) (by omega)) ?_)
  | (with_reducible refine br_tt ?_)
  | (with_reducible refine br_ff ?_)
  | (with_reducible refine as_bl ?_)
  | (with_reducible refine as_int ?_)
  | (with_reducible refine as_dct ?_)
  | (with_reducible refine as_two ?_)
  | ((with_reducible refine valG ?_); refine val rfl ?_)
  | ((with_reducible refine len ?_ ?_); focus (simp only [List.length_cons, List.length_nil] <;> omega)))
local macro_rules | `(tactic| walk_at "w") => `(tactic| repeat walk_at "w1")
namespace K04
/-! ### a ring -/
def ringT (size : Nat) : Tbl := (List.range size).map fun (i : Nat) => [[((i : Int), ((i : Int) + 1) % (size : Int))]]
theorem ring_len (size : Nat) : (ringT size).length = size := by unfold ringT; rw [List.length_map, List.length_range]
theorem ring_at {size : Nat} {h : Nat} (hh : h < size) : waysAt (ringT size) h 0 = [((h : Int), ((h : Int) + 1) % (size : Int))] := by
  have e : (ringT size).getD ((h : Int)).toNat [] = [[((h : Int), ((h : Int) + 1) % (size : Int))]] := by
    unfold ringT
    rw [List.getD_eq_getElem?_getD, List.getElem?_map, show ((h : Int)).toNat = h by omega, List.getElem?_range hh]
    rfl
  unfold waysAt
  rw [e]
  rfl
theorem ring_ok {size : Nat} (h2 : 2 ≤ size) (h5 : size ≤ 51) : MacOk 1 (ringT size) := by
  have hm : ∀ r ∈ ringT size, ∃ i, i < size ∧ r = [[((i : Int), ((i : Int) + 1) % (size : Int))]] := fun r hr => by
    obtain ⟨i, hi, rfl⟩ := List.mem_map.mp hr
    exact ⟨i, List.mem_range.mp hi, rfl⟩
  refine ⟨by decide, by decide, by rw [ring_len]; omega, by rw [ring_len]; omega, fun r hr => ?_, fun r hr ws hw => ?_⟩
  · obtain ⟨i, hi, rfl⟩ := hm r hr
    rfl
  · obtain ⟨i, hi, rfl⟩ := hm r hr
    rw [List.mem_singleton] at hw
    subst hw
    refine ⟨by simp, by simp, by simp, fun w hw => ?_⟩
    rw [List.mem_singleton] at hw
    subst hw
    have h1 := Int.emod_nonneg ((i : Int) + 1) (show (size : Int) ≠ 0 by omega)
    have h3 := Int.emod_lt_of_pos ((i : Int) + 1) (show (0 : Int) < size by omega)
    rw [ring_len]
    exact ⟨by show (0 : Int) ≤ i; omega, by show (i : Int) ≤ 1000; omega, h1, h3⟩
def dueR (size : Nat) (n : Nat) : Int := ((List.range n).map fun (k : Nat) => (k : Int) % (size : Int)).sum
theorem dueR_succ (size n : Nat) : dueR size (n + 1) = dueR size n + (n : Int) % (size : Int) := by
  unfold dueR
  rw [List.range_succ, List.map_append, List.sum_append]
  simp
/-- one run, beat by beat -/
theorem ring_runs {size : Nat} (h2 : 2 ≤ size) : ∀ (n j : Nat) (r : Run), beatsR r = dueR size j → ∃ r', runsO (ringT size) (List.replicate n 0) [(r, (j : Int) % (size : Int))] = some [(r', ((j + n : Nat) : Int) % (size : Int))] ∧ beatsR r' = dueR size (j + n)
  | 0, j, r, h => ⟨r, rfl, h⟩
  | n + 1, j, r, h => by
    have hm : (j : Int) % (size : Int) = ((j % size : Nat) : Int) := by omega
    have hlt : j % size < size := Nat.mod_lt _ (by omega)
    have g : goOn (ringT size) 0 [(r, (j : Int) % (size : Int))] = [(r ++ [(0, (j : Int) % (size : Int), ((j + 1 : Nat) : Int) % (size : Int))], ((j + 1 : Nat) : Int) % (size : Int))] := by
      have e : ((j : Int) % (size : Int) + 1) % (size : Int) = ((j + 1 : Nat) : Int) % (size : Int) := by
        rw [Int.emod_add_emod]
        rfl
      unfold goOn
      rw [List.flatMap_cons, List.flatMap_nil, List.append_nil]
      show (waysAt (ringT size) ((j : Int) % (size : Int)) 0).map _ = _
      rw [hm, ring_at hlt, ← hm, List.map_cons, List.map_nil, e]
    obtain ⟨r', e1, e2⟩ := ring_runs h2 n (j + 1) (r ++ [(0, (j : Int) % (size : Int), ((j + 1 : Nat) : Int) % (size : Int))]) (by rw [beatsR_add, h, dueR_succ])
    refine ⟨r', ?_, by rw [show j + (n + 1) = j + 1 + n by omega]; exact e2⟩
    rw [List.replicate_succ]
    unfold runsO
    rw [g, if_neg (by simp), e1, show j + (n + 1) = j + 1 + n by omega]
/-! ### two ways -/
def twoT : Tbl := [[[(1, 0), (2, 0)]]]
theorem two_ok : MacOk 1 twoT := by
  refine ⟨by decide, by decide, by decide, by decide, fun r hr => ?_, fun r hr ws hw => ?_⟩
  · unfold twoT at hr
    rw [List.mem_singleton] at hr
    subst hr
    rfl
  · unfold twoT at hr
    rw [List.mem_singleton] at hr
    subst hr
    rw [List.mem_singleton] at hw
    subst hw
    refine ⟨by simp, by simp [prLt], by simp, fun w hw => ?_⟩
    rcases List.mem_cons.mp hw with e | e
    · subst e; exact ⟨by decide, by decide, by decide, by decide⟩
    · rw [List.mem_singleton] at e; subst e; exact ⟨by decide, by decide, by decide, by decide⟩
theorem two_tab : ∀ n : Nat, tabOf twoT 0 (List.replicate n 0) = [(0, (n : Int), 2 * (n : Int))]
  | 0 => rfl
  | n + 1 => by
    have ih := two_tab n
    unfold tabOf at *
    rw [List.replicate_succ', List.foldl_append, ih]
    show turnT twoT 0 [(0, (n : Int), 2 * (n : Int))] = _
    show [((0 : Int), min ((n : Int) + 1) ((n : Int) + 2), max (2 * (n : Int) + 1) (2 * (n : Int) + 2))] = _
    congr 2
    rw [show min ((n : Int) + 1) ((n : Int) + 2) = (n : Int) + 1 by omega, show max (2 * (n : Int) + 1) (2 * (n : Int) + 2) = 2 * ((n : Int) + 1) by omega]
    rfl
theorem two_step {f : List (Run × Int)} (h : ∀ y ∈ f, y.2 = 0) : (goOn twoT 0 f).length = f.length * 2 ∧ ∀ y ∈ goOn twoT 0 f, y.2 = 0 := by
  induction f with
  | nil => exact ⟨rfl, fun y hy => by cases hy⟩
  | cons x f ih =>
    obtain ⟨h1, h2⟩ := ih fun y hy => h y (List.mem_cons_of_mem _ hy)
    have hx := h x List.mem_cons_self
    have e : goOn twoT 0 (x :: f) = (x.1 ++ [(0, 1, 0)], 0) :: (x.1 ++ [(0, 2, 0)], 0) :: goOn twoT 0 f := by
      unfold goOn
      rw [List.flatMap_cons, hx]
      rfl
    rw [e]
    refine ⟨by rw [List.length_cons, List.length_cons, List.length_cons, h1]; omega, fun y hy => ?_⟩
    rcases List.mem_cons.mp hy with z | z
    · subst z; rfl
    · rcases List.mem_cons.mp z with z | z
      · subst z; rfl
      · exact h2 y z
theorem two_few : ∀ (n : Nat) (f : List (Run × Int)), (∀ y ∈ f, y.2 = 0) → f.length * 2 ^ n ≤ 5000 → ∃ f', runsO twoT (List.replicate n 0) f = some f' ∧ f'.length = f.length * 2 ^ n
  | 0, f, _, _ => ⟨f, rfl, by simp⟩
  | n + 1, f, h, hl => by
    obtain ⟨h1, h2⟩ := two_step h
    have e : f.length * 2 ^ (n + 1) = (goOn twoT 0 f).length * 2 ^ n := by rw [h1, Nat.pow_succ, Nat.mul_assoc, Nat.mul_comm 2]
    have p : (goOn twoT 0 f).length * 1 ≤ (goOn twoT 0 f).length * 2 ^ n := Nat.mul_le_mul_left _ (Nat.one_le_pow _ _ (by decide))
    obtain ⟨f', e1, e2⟩ := two_few n (goOn twoT 0 f) h2 (by omega)
    refine ⟨f', ?_, by rw [e, e2]⟩
    rw [List.replicate_succ]
    unfold runsO
    rw [if_neg (by omega), e1]
theorem two_many : ∀ (n : Nat) (f : List (Run × Int)), (∀ y ∈ f, y.2 = 0) → f.length ≤ 5000 → 5000 < f.length * 2 ^ n → runsO twoT (List.replicate n 0) f = none
  | 0, f, _, h1, h2 => by
    rw [Nat.pow_zero, Nat.mul_one] at h2
    omega
  | n + 1, f, h, hl, hm => by
    obtain ⟨h1, h2⟩ := two_step h
    have e : f.length * 2 ^ (n + 1) = (goOn twoT 0 f).length * 2 ^ n := by rw [h1, Nat.pow_succ, Nat.mul_assoc, Nat.mul_comm 2]
    rw [List.replicate_succ]
    unfold runsO
    split
    · rfl
    · exact two_many n (goOn twoT 0 f) h2 (by omega) (by omega)
theorem ints_rep (n : Nat) : D.tup (List.replicate n (.int 0)) = intsD (List.replicate n 0) := by
  unfold intsD
  rw [List.map_replicate]
theorem zeros {n : Nat} : ∀ z ∈ List.replicate n (0 : Int), 0 ≤ z ∧ z < 1 := fun z hz => by
  rw [(List.mem_replicate.mp hz).2]
  decide
theorem ring_ext {size many : Nat} {k : Int} (h2 : 2 ≤ size) (h5 : size ≤ 51) (hm : many ≤ 200) : φ_extremes [macD 1 (ringT size), .int 0, .tup (List.replicate many (.int 0))] k = .ok (.tup [.int (dueR size many), .int (dueR size many)]) k := by
  obtain ⟨r', e1, e2⟩ := ring_runs h2 many 0 [] rfl
  have e0 : (((0 : Nat) : Int) % (size : Int)) = 0 := by simp
  rw [e0] at e1
  rw [ints_rep, extremes_runs (ring_ok h2 h5) (by decide) (by rw [ring_len]; omega) (by simp; exact hm) zeros e1]
  rw [Nat.zero_add] at e2
  rw [List.map_cons, List.map_nil, e2]
  rfl
theorem ring_beats {size many : Nat} {k : Int} (h2 : 2 ≤ size) (h5 : size ≤ 51) (hm : many ≤ 200) : ∃ r : Run, φ_runs [macD 1 (ringT size), .int 0, .tup (List.replicate many (.int 0))] k = .ok (.tup [runD r]) k ∧ beatsR r = dueR size many ∧ r.length = many := by
  obtain ⟨r', e1, e2⟩ := ring_runs h2 many 0 [] rfl
  have e0 : (((0 : Nat) : Int) % (size : Int)) = 0 := by simp
  rw [e0] at e1
  rw [Nat.zero_add] at e2
  refine ⟨r', ?_, e2, ?_⟩
  · have := runs_eq (k := k) (ring_ok h2 h5) (s := 0) (by decide) (by rw [ring_len]; omega) (ds := List.replicate many 0) (by simp; exact hm) zeros
    rw [e1] at this
    rw [ints_rep, this]
    simp only [List.map_cons, List.map_nil]
    rw [show sortD [runD r'] = [runD r'] by unfold sortD; simp]
  · have := runsO_len (t := ringT size) (ds := List.replicate many 0) (j := 0) (f := [([], 0)]) (fun x hx => by rw [List.mem_singleton] at hx; subst hx; rfl) e1 _ (List.mem_singleton.mpr rfl)
    simpa using this
theorem two_ext {many : Nat} {k : Int} (hm : many ≤ 200) : φ_extremes [macD 1 twoT, .int 0, .tup (List.replicate many (.int 0))] k = .ok (.tup [.int many, .int (2 * many)]) k := by
  have tt := two_tab many
  rw [ints_rep, extremes_eq two_ok (by decide) (by decide) (by simp; exact hm) zeros (by rw [tt]; simp), tt]
  rfl
theorem two13 {k : Int} : φ_runs [macD 1 twoT, .int 0, .tup (List.replicate 13 (.int 0))] k = .ex "TooLarge" k := by
  have := runs_eq (k := k) two_ok (s := 0) (by decide) (by decide) (ds := List.replicate 13 0) (by simp) zeros
  rw [two_many 13 [([], 0)] (fun y hy => by rw [List.mem_singleton] at hy; subst hy; rfl) (by simp) (by simp)] at this
  exact this
theorem two12 {k : Int} : ∃ ds : List D, φ_runs [macD 1 twoT, .int 0, .tup (List.replicate 12 (.int 0))] k = .ok (.tup ds) k ∧ ds.length = 4096 := by
  have := runs_eq (k := k) two_ok (s := 0) (by decide) (by decide) (ds := List.replicate 12 0) (by simp) zeros
  obtain ⟨f', e1, e2⟩ := two_few 12 [([], 0)] (fun y hy => by rw [List.mem_singleton] at hy; subst hy; rfl) (by simp)
  rw [e1] at this
  refine ⟨_, this, ?_⟩
  rw [(sortD_perm _).length_eq, List.length_map, e2]
  rfl
theorem rep_mac {d : Int} {t : Tbl} (M : MacS d t) : ReprOk (macD d t) := by
  have d1 := M.d1
  have d3 := M.d3
  have t4 := M.t4
  refine Sm.repr (n := 10) (w := 1000) ((sm_tup (sml_cons (n := 5) (sm_int (by omega)) (sml_cons (sm_tups (n := 4) (w := 40) (l := 4) (fun x hx => ?_) (by rw [List.length_map]; exact t4)) sml_nil))).mono (by omega) (by omega)) (by omega) (by omega)
  obtain ⟨r, hr, rfl⟩ := List.mem_map.mp hx
  refine (sm_tups (n := 3) (w := 13) (l := 3) (fun y hy => ?_) (by rw [List.length_map]; have := M.row r hr; omega)).mono (Nat.le_refl _) (by omega)
  obtain ⟨ws, hw, rfl⟩ := List.mem_map.mp hy
  refine (sm_tups (n := 2) (w := 4) (l := 3) (fun z hz => ?_) (by rw [List.length_map]; exact (M.w3 r hr ws hw).1)).mono (Nat.le_refl _) (by omega)
  obtain ⟨w, hw2, rfl⟩ := List.mem_map.mp hz
  have b := (M.ways r hr ws hw).bd w hw2
  exact (sm_tup (sml_cons (n := 1) (sm_int (by omega)) (sml_cons (sm_int (by omega)) sml_nil))).mono (Nat.le_refl _) (by omega)
theorem repr_mac {d : Int} {t : Tbl} (M : MacS d t) : fRepr [macD d t] = some (.str (macD d t).py.shown) := by
  show (if ReprOk (.tup [.int d, tblD t]) then some (D.str (D.tup [.int d, tblD t]).py.shown) else none) = _
  rw [if_pos (show ReprOk (.tup [.int d, tblD t]) from rep_mac M)]
  rfl
section
variable {k : Int} {ns : List Int} {P : D → Int → Prop} {E : Str → Int → Prop}
theorem law_holds (h0 : ns ≠ []) (h1 : ns.length ≤ 4000) : ∃ k', m_law ns (env0 n_law.length) 0 = .ok (.rt (.bl true)) k' := by
  suffices h : W (m_law ns (env0 n_law.length) 0) (fun f _ => f = .rt (.bl true)) nE by
    obtain ⟨f, k', e, rfl⟩ := h.some_of
    exact ⟨k', e⟩
  have B : Bud ns 2000 0 := ⟨by decide, by decide, h0, h1⟩
  unfold m_law
  walk_at "w"
  refine w_next (B.less (m := 1999 + 1) (by omega)) (by omega) fun z k1 z0 z1 B => ?_
  obtain ⟨size, hs⟩ := Int.eq_ofNat_of_zero_le (show 0 ≤ 2 + z by omega)
  have h2 : 2 ≤ size := by omega
  have h5 : size ≤ 51 := by omega
  walk_at "w1"
  rw [hs]
  walk_at "w"
  refine w_next (B.less (m := 1998 + 1) (by omega)) (by omega) fun m k2 m0 m1 B => ?_
  obtain ⟨many, rfl⟩ := Int.eq_ofNat_of_zero_le m0
  have hm : many ≤ 200 := by omega
  walk_at "w"
  refine lc_map (g := fun (i : Nat) => .int i) (f := fun (i : Nat) => rowD [[((i : Int), ((i : Int) + 1) % (size : Int))]]) (by rw [List.length_range]; omega) (fun i _ => ⟨_, rfl, ?_⟩) ?_
  · walk_at "w"
    exact ⟨rfl, rfl⟩
  walk_at "w"
  refine lc_map (g := fun (i : Nat) => .int i) (f := fun (i : Nat) => .int ((i : Int) % (size : Int))) (by rw [List.length_range]; omega) (fun i _ => ⟨_, rfl, ?_⟩) ?_
  · walk_at "w"
    exact ⟨rfl, rfl⟩
  walk_at "w"
  refine val (sum_ints _ _) ?_
  walk_at "w"
  simp only [Int.toNat_natCast]
  have em : D.tup [.int 1, .tup ((List.range size).map fun (i : Nat) => rowD [[((i : Int), ((i : Int) + 1) % (size : Int))]])] = macD 1 (ringT size) := by
    unfold macD tblD ringT
    rw [List.map_map]
    rfl
  rw [em]
  refine W_eq (ring_ext h2 h5 hm) ?_
  walk_at "w"
  refine val (ne_refl (x := .tup [.int (dueR size many), .int (dueR size many)]) (by simp [Pu])) ?_
  walk_at "w"
  simp only [Int.toNat_natCast]
  refine W_eq (two_ext hm) ?_
  walk_at "w"
  refine val (ne_refl (by simp [Pu])) ?_
  walk_at "w"
  simp only [Int.toNat_natCast]
  obtain ⟨r, e1, e2, e3⟩ := ring_beats (k := k2) h2 h5 hm
  refine W_eq e1 ?_
  walk_at "w"
  refine W_eq (beats_of r (by omega)) ?_
  walk_at "w"
  rw [e2]
  refine br_f (by show (!decide (dueR size many = dueR size many)) = false; simp) ?_
  walk_at "w"
  refine told_ex disp_runs two13 err_large ?_
  walk_at "w"
  obtain ⟨ds, e4, e5⟩ := two12 (k := k2)
  refine W_eq e4 ?_
  walk_at "w"
  rw [e5]
  refine val (ne_refl (x := .lst [.str "large", .int 4096]) (by simp [Pu])) ?_
  walk_at "w"
  refine br_f rfl ?_
  walk_at "w"
  refine for_inv (I := fun pre env k => ∃ c2 c3 c4 c5 c6 c7 c8 c9 c10 c11 : Option D, env = [none, some .cell, c2, c3, c4, c5, c6, c7, c8, c9, c10, c11, none] ∧ Bud ns (200 * (4 - pre.length)) k)
    ⟨_, _, _, _, _, _, _, _, _, _, rfl, B.less (by show 800 ≤ _; omega)⟩ ?_ ?_
  · rintro pre x post env k3 es ⟨c2, c3, c4, c5, c6, c7, c8, c9, c10, c11, rfl, B⟩
    obtain ⟨rfl, hlt⟩ := split_lt es
    have hlt : pre.length < 4 := hlt
    have B : Bud ns (200 * (3 - pre.length) + 200) k3 := B.less (by omega)
    have hb : 200 * (4 - (pre ++ [pre.length]).length) = 200 * (3 - pre.length) := by rw [List.length_append]; show 200 * (4 - (pre.length + 1)) = _; omega
    rw [hb]
    generalize 200 * (3 - pre.length) = b at B
    refine ⟨_, rfl, ?_⟩
    walk_at "w"
    refine w_next (B.less (m := b + 199 + 1) (by omega)) (by omega) fun v k4 v0 v1 B => ?_
    walk_at "w"
    refine w_next (B.less (m := b + 198 + 1) (by omega)) (by omega) fun v2 k5 _ _ B => ?_
    walk_at "w"
    refine w_machine (n := b + 98) (by omega) (by omega) (B.less (by omega)) fun t k6 B M => ?_
    walk_at "w"
    refine val (repr_mac M) ?_
    walk_at "w"
    refine for_inv (I := fun pre2 env k => ∃ c10 c11 : Option D, env = [none, some .cell, c2, c3, c4, c5, c6, some (.int pre.length), some (macD (1 + v) t), some (.str (macD (1 + v) t).py.shown), c10, c11, none] ∧ Bud ns (b + 1 + 30 * (3 - pre2.length)) k)
      ⟨_, _, rfl, B.less (by show b + 1 + 90 ≤ _; omega)⟩ ?_ ?_
    · rintro pre2 x post2 env k7 es2 ⟨c10, c11, rfl, B⟩
      obtain ⟨rfl, hlt2⟩ := split_lt es2
      have hlt2 : pre2.length < 3 := hlt2
      have B : Bud ns (b + 1 + 30 * (2 - pre2.length) + 29 + 1) k7 := B.less (by omega)
      refine ⟨_, rfl, ?_⟩
      walk_at "w"
      refine w_next B (by omega) fun u k8 u0 u1 B => ?_
      walk_at "w"
      refine lc_inv (J := fun pre3 ys k => ∃ l : List Int, ys = l.map .int ∧ l.length = pre3.length ∧ Bud ns (b + 1 + 30 * (2 - pre2.length) + 24 + (5 - pre3.length)) k ∧ ∀ z ∈ l, 0 ≤ z ∧ z < 1 + v) ⟨[], rfl, rfl, B, by simp⟩ ?_ ?_
      · rintro pre3 x post3 _ k9 es3 ⟨l, rfl, hl, B, hz⟩
        obtain ⟨rfl, hlt3⟩ := split_lt es3
        refine ⟨_, rfl, ?_⟩
        walk_at "w"
        refine w_next (B.less (m := b + 1 + 30 * (2 - pre2.length) + 24 + (4 - pre3.length) + 1) (by omega)) (by omega) fun y k9 y0 y1 B => ?_
        refine ⟨l ++ [y], by rw [List.map_append]; rfl, by rw [List.length_append, List.length_append, hl]; rfl, B.less (by rw [List.length_append]; show _ + (5 - (pre3.length + 1)) ≤ _; omega), fun q hq => ?_⟩
        rcases List.mem_append.mp hq with e | e
        · exact hz q e
        · rw [List.mem_singleton] at e
          subst e
          exact ⟨y0, y1⟩
      · rintro _ k9 ⟨l, rfl, hl, B, hz⟩
        rw [List.length_range] at hl
        refine ⟨by rw [List.length_map]; omega, ?_⟩
        walk_at "w"
        have t1 := M.t1
        refine w_next (B.less (m := b + 1 + 30 * (2 - pre2.length) + 23 + 1) (by omega)) (by rw [List.length_map]; omega) fun s k10 s0 s1 B => ?_
        rw [List.length_map] at s1
        walk_at "w"
        refine w_deeds (n := b + 1 + 30 * (2 - pre2.length)) M s0 s1 (by omega) hz (B.less (by omega)) fun k11 B => ?_
        walk_at "w"
        refine br_f rfl ?_
        walk_at "w"
        exact ⟨_, _, rfl, B.less (by rw [List.length_append]; show _ + 30 * (3 - (pre2.length + 1)) ≤ _; omega)⟩
    · rintro env k7 ⟨c10, c11, rfl, B⟩
      walk_at "w"
      refine w_errors (n := b) M.toMacOk (B.less (by omega)) fun k8 B => ?_
      walk_at "w"
      refine br_f rfl ?_
      walk_at "w"
      refine val (repr_mac M) ?_
      walk_at "w"
      refine val (ne_refl (by simp [Pu])) ?_
      walk_at "w"
      exact ⟨_, _, _, _, _, _, _, _, _, _, rfl, B⟩
  · rintro env k3 ⟨c2, c3, c4, c5, c6, c7, c8, c9, c10, c11, rfl, B⟩
    walk_at "w"
    rfl
end
end K04
end PL

set_option maxHeartbeats 0
namespace PL
open PySem PySem.Spec PyProof.Rows L2
namespace K04
abbrev fnS : List (Str × Nat) := [(PySem.Str.ofString "check_machine", 10), (PySem.Str.ofString "check_ways", 11), (PySem.Str.ofString "check_state", 12), (PySem.Str.ofString "check_deeds", 16), (PySem.Str.ofString "runs", 17), (PySem.Str.ofString "check_run", 18), (PySem.Str.ofString "beats_of", 19), (PySem.Str.ofString "deeds_in", 20), (PySem.Str.ofString "state_behind", 21), (PySem.Str.ofString "extremes", 22), (PySem.Str.ofString "_law_error", 24), (PySem.Str.ofString "_law_next", 25), (PySem.Str.ofString "_law_stream", 26), (PySem.Str.ofString "_law_same", 27), (PySem.Str.ofString "_law_told", 28), (PySem.Str.ofString "_law_all", 29), (PySem.Str.ofString "_law_machine", 30), (PySem.Str.ofString "_law_sums", 31), (PySem.Str.ofString "_law_runs", 32), (PySem.Str.ofString "_law_is_run", 33), (PySem.Str.ofString "_law_deeds_fit", 34), (PySem.Str.ofString "_law_errors_fit", 35), (PySem.Str.ofString "law", 36)]
def dd (x : Str) (i : Nat) : He.DefD := ⟨(x, none), x, x, defArgs (topS i), defBody (topS i), defScope (topS i), [], []⟩
def fn : List He.DefD := [dd "check_machine" 10, dd "check_ways" 11, dd "check_state" 12, dd "check_deeds" 16, dd "runs" 17, dd "check_run" 18, dd "beats_of" 19, dd "deeds_in" 20, dd "state_behind" 21, dd "extremes" 22, dd "_law_error" 24, dd "_law_next" 25, dd "_law_stream" 26, dd "_law_same" 27, dd "_law_told" 28, dd "_law_all" 29, dd "_law_machine" 30, dd "_law_sums" 31, dd "_law_runs" 32, dd "_law_is_run" 33, dd "_law_deeds_fit" 34, dd "_law_errors_fit" 35, dd "law" 36]
abbrev blts : List Str := [PySem.Str.ofString "abs", PySem.Str.ofString "all", PySem.Str.ofString "any", PySem.Str.ofString "int", PySem.Str.ofString "isinstance", PySem.Str.ofString "len", PySem.Str.ofString "list", PySem.Str.ofString "max", PySem.Str.ofString "min", PySem.Str.ofString "range", PySem.Str.ofString "repr", PySem.Str.ofString "set", PySem.Str.ofString "sorted", PySem.Str.ofString "sum", PySem.Str.ofString "tuple"]
abbrev glos : List Str := [PySem.Str.ofString "check_machine", PySem.Str.ofString "check_ways", PySem.Str.ofString "check_state", PySem.Str.ofString "check_deeds", PySem.Str.ofString "runs", PySem.Str.ofString "check_run", PySem.Str.ofString "beats_of", PySem.Str.ofString "deeds_in", PySem.Str.ofString "state_behind", PySem.Str.ofString "extremes", PySem.Str.ofString "_law_error", PySem.Str.ofString "_law_next", PySem.Str.ofString "_law_stream", PySem.Str.ofString "_law_same", PySem.Str.ofString "_law_told", PySem.Str.ofString "_law_all", PySem.Str.ofString "_law_machine", PySem.Str.ofString "_law_sums", PySem.Str.ofString "_law_runs", PySem.Str.ofString "_law_is_run", PySem.Str.ofString "_law_deeds_fit", PySem.Str.ofString "_law_errors_fit", PySem.Str.ofString "law", PySem.Str.ofString "BeatError", PySem.Str.ofString "NotAllowed", PySem.Str.ofString "TooLarge", PySem.Str.ofString "Missing", PySem.Str.ofString "BadPaper"]
def fa : List He.Fa := glos.map He.Fa.glo ++ (blts.map He.Fa.free ++ [He.Fa.int "MAX_BEATS" 1000, He.Fa.int "MAX_DEEDS" 12, He.Fa.int "MAX_LONG" 200, He.Fa.int "MAX_RUNS" 5000, He.Fa.int "MAX_STATES" 60])
def ex (K : PySem.W.Frag) : Bool := four.all fun x => xcB K four "BeatError" x
abbrev R : PySem.W.OpenRow := PySem.W.OpenLaw.row PySem.Challenge.rw_slowestrun_k04_whole_runs
abbrev hk : PySem.W.Hook := hookE 3 fa fn ex
def ob (s : PySem.W.SharedT) : AlE := obsE 3 fa fn ex (HandSHeadRun.getT s)
theorem ob_eq (s : PySem.W.SharedT) : ob s = hk.obs s.abs := obsE_eq (HandSHeadRun.getT_eq s)
def loose0 : List Str := [PySem.Str.ofString "BeatError", PySem.Str.ofString "NotAllowed", PySem.Str.ofString "TooLarge", PySem.Str.ofString "Missing", PySem.Str.ofString "BadPaper", PySem.Str.ofString "MAX_DEEDS", PySem.Str.ofString "MAX_STATES", PySem.Str.ofString "MAX_BEATS", PySem.Str.ofString "check_machine", PySem.Str.ofString "check_ways", PySem.Str.ofString "check_state", PySem.Str.ofString "MAX_LONG", PySem.Str.ofString "MAX_RUNS", PySem.Str.ofString "check_deeds", PySem.Str.ofString "runs", PySem.Str.ofString "check_run", PySem.Str.ofString "beats_of", PySem.Str.ofString "deeds_in", PySem.Str.ofString "state_behind", PySem.Str.ofString "extremes", PySem.Str.ofString "_law_error", PySem.Str.ofString "_law_next", PySem.Str.ofString "_law_stream", PySem.Str.ofString "_law_same", PySem.Str.ofString "_law_told", PySem.Str.ofString "_law_all", PySem.Str.ofString "_law_machine", PySem.Str.ofString "_law_sums", PySem.Str.ofString "_law_runs", PySem.Str.ofString "_law_is_run"]
def loose1 : List Str := [PySem.Str.ofString "_law_deeds_fit", PySem.Str.ofString "_law_errors_fit"]
def loose : List Str := loose0 ++ loose1
theorem run (w : World) : HandSHeadRun.RunEq R (PySem.W.view R.prog [36]) hk ob 2000 loose w := by
  intro os
  kernel_rfl
theorem sc_check_machine : FnScope n_check_machine ["machine"] (defScope s_check_machine) := ⟨rfl, rfl, rfl, by decide +kernel, rfl, by decide +kernel, by decide +kernel⟩
theorem sc_check_ways : FnScope n_check_ways ["ways", "states"] (defScope s_check_ways) := ⟨rfl, rfl, rfl, by decide +kernel, rfl, by decide +kernel, by decide +kernel⟩
theorem sc_check_state : FnScope n_check_state ["machine", "state"] (defScope s_check_state) := ⟨rfl, rfl, rfl, by decide +kernel, rfl, by decide +kernel, by decide +kernel⟩
theorem sc_check_deeds : FnScope n_check_deeds ["machine", "state", "deeds"] (defScope s_check_deeds) := ⟨rfl, rfl, rfl, by decide +kernel, rfl, by decide +kernel, by decide +kernel⟩
theorem sc_runs : FnScope n_runs ["machine", "state", "deeds"] (defScope s_runs) := ⟨rfl, rfl, rfl, by decide +kernel, rfl, by decide +kernel, by decide +kernel⟩
theorem sc_check_run : FnScope n_check_run ["machine", "state", "run"] (defScope s_check_run) := ⟨rfl, rfl, rfl, by decide +kernel, rfl, by decide +kernel, by decide +kernel⟩
theorem sc_beats_of : FnScope n_beats_of ["run"] (defScope s_beats_of) := ⟨rfl, rfl, rfl, by decide +kernel, rfl, by decide +kernel, by decide +kernel⟩
theorem sc_deeds_in : FnScope n_deeds_in ["run"] (defScope s_deeds_in) := ⟨rfl, rfl, rfl, by decide +kernel, rfl, by decide +kernel, by decide +kernel⟩
theorem sc_state_behind : FnScope n_state_behind ["state", "run"] (defScope s_state_behind) := ⟨rfl, rfl, rfl, by decide +kernel, rfl, by decide +kernel, by decide +kernel⟩
theorem sc_extremes : FnScope n_extremes ["machine", "state", "deeds"] (defScope s_extremes) := ⟨rfl, rfl, rfl, by decide +kernel, rfl, by decide +kernel, by decide +kernel⟩
theorem sc_law_same : FnScope n_law_same ["told", "due"] (defScope s_law_same) := ⟨rfl, rfl, rfl, by decide +kernel, rfl, by decide +kernel, by decide +kernel⟩
theorem sc_law_told : FnScope n_law_told ["way", "some"] (defScope s_law_told) := ⟨rfl, rfl, rfl, by decide +kernel, rfl, by decide +kernel, by decide +kernel⟩
theorem sc_law_all : FnScope n_law_all ["left", "right"] (defScope s_law_all) := ⟨rfl, rfl, rfl, by decide +kernel, rfl, by decide +kernel, by decide +kernel⟩
theorem sc_law_machine : FnScope n_law_machine ["state", "deeds", "top", "sure"] (defScope s_law_machine) := ⟨rfl, rfl, rfl, by decide +kernel, rfl, by decide +kernel, by decide +kernel⟩
theorem sc_law_sums : FnScope n_law_sums ["machine", "state", "deeds"] (defScope s_law_sums) := ⟨rfl, rfl, rfl, by decide +kernel, rfl, by decide +kernel, by decide +kernel⟩
theorem sc_law_runs : FnScope n_law_runs ["machine", "state", "deeds"] (defScope s_law_runs) := ⟨rfl, rfl, rfl, by decide +kernel, rfl, by decide +kernel, by decide +kernel⟩
theorem sc_law_is_run : FnScope n_law_is_run ["machine", "state", "run"] (defScope s_law_is_run) := ⟨rfl, rfl, rfl, by decide +kernel, rfl, by decide +kernel, by decide +kernel⟩
theorem sc_law_deeds_fit : FnScope n_law_deeds_fit ["state", "machine", "begin", "deeds"] (defScope s_law_deeds_fit) := ⟨rfl, rfl, rfl, by decide +kernel, rfl, by decide +kernel, by decide +kernel⟩
theorem sc_law_errors_fit : FnScope n_law_errors_fit ["state", "machine"] (defScope s_law_errors_fit) := ⟨rfl, rfl, rfl, by decide +kernel, rfl, by decide +kernel, by decide +kernel⟩
theorem sc_law : FnScope n_law ["script"] (defScope s_law) := ⟨rfl, rfl, rfl, by decide +kernel, rfl, by decide +kernel, by decide +kernel⟩
theorem sc_law_next : FnScope nextN ["state", "many"] (defScope s_law_next) := ⟨rfl, rfl, rfl, by decide +kernel, rfl, by decide +kernel, by decide +kernel⟩
theorem sc_law_error : FnScope errN ["e"] (defScope s_law_error) := ⟨rfl, rfl, rfl, by decide +kernel, rfl, by decide +kernel, by decide +kernel⟩
theorem sc_law_stream : FnScope strmN ["script"] (defScope s_law_stream) := ⟨rfl, rfl, rfl, by decide +kernel, rfl, by decide +kernel, by decide +kernel⟩
theorem bd_error : ∃ q1 q2 q3 q4 q5 q6 q : Nat → Pos, defBody s_law_error = errBd q1 q2 q3 q4 q5 q6 q ∧ ((q 3).line == (q5 14).line) = true :=
  ⟨(pL [_, _, _, _]), (pL [_, _, _, _]), (pL [_, _, _, _]), (pL [_, _, _, _]), (pL [_, _, _, _, _, _, _, _, _, _, _, _, _, _, _]), (pL [_, _, _, _, _, _, _, _, _, _, _, _, _, _, _, _]), (pL [_, _, _, _, _, _]), rfl, rfl⟩
theorem bd_next : ∃ q : Nat → Pos, defBody s_law_next = nextBd q := ⟨(pL [_, _, _, _, _, _, _, _, _, _, _, _, _, _, _, _, _, _, _, _, _, _, _, _, _, _, _, _, _, _, _, _, _, _, _, _, _, _, _, _, _, _, _, _, _, _, _, _, _, _]), rfl⟩
theorem bd_stream : ∃ q1 q2 q3 q4 q5 q6 q7 q8 q9 q10 q11 q : Nat → Pos, defBody s_law_stream = strm q1 q2 q3 q4 q5 q6 q7 q8 q9 q10 q11 q ∧ Lin q3 ∧ Lin q9 ∧ Lin q11 :=
  ⟨(pL [_, _]), (pL [_, _]), (pL [_, _, _, _]), (pL [_, _, _, _, _, _, _, _, _, _, _, _, _]), (pL [_, _, _, _, _, _, _, _, _, _, _, _, _, _, _, _, _, _, _, _, _, _]), (pL [_, _]), (pL [_, _]), (pL [_, _]), (pL [_, _, _, _]), (pL [_, _, _, _, _, _, _, _, _, _, _, _, _, _, _, _, _, _, _, _, _, _, _, _, _, _]), (pL [_, _, _, _]), (pL [_, _, _, _, _, _, _, _, _, _, _, _, _, _, _, _, _, _]), rfl, rfl, rfl, rfl⟩
theorem bd_law : ∃ q : Nat → Pos, defBody s_law = st0 q :: (defBody s_law).tail := ⟨(pL [_, _, _, _, _, _, _]), rfl⟩
section
variable {C : Cn} {h : Heap}
theorem all_fa (c : He.SaysD fa fn C.K) {f : He.Fa} (hf : f ∈ fa) : f.ok C.K = true :=
  List.all_eq_true.mp (He.ba (show ((fa.all fun f => f.ok C.K) && fn.all fun d => d.ok C.K) = true from congrArg (fun z : He.AlD => z.1) c)).1 f hf
theorem glo_of (X : C.K.In h) (G : h.Ns mainGlobals C.mg) (c : He.SaysD fa fn C.K) {x : Str} (hx : x ∈ glos) : C.mg x = some (.ref (He.ga C.K x)) := He.glo_ok X G (all_fa c (List.mem_append_left _ (List.mem_map_of_mem hx)))
theorem blt_of (X : C.K.In h) (G : h.Ns mainGlobals C.mg) (c : He.SaysD fa fn C.K) : ∀ x ∈ blts, C.mg x = none := fun x hx => He.free_ok X G (all_fa c (List.mem_append_right _ (List.mem_append_left _ (List.mem_map_of_mem hx))))
theorem gf_of (X : C.K.In h) (G : h.Ns mainGlobals C.mg) (c : He.SaysD fa fn C.K) (e : ex C.K = true) : GF C where
  blt := blt_of X G c
  x_BadPaper := xcR_of (List.all_eq_true.mp e _ (by decide +kernel)) (glo_of X G c (by decide +kernel))
  x_NotAllowed := xcR_of (List.all_eq_true.mp e _ (by decide +kernel)) (glo_of X G c (by decide +kernel))
  x_TooLarge := xcR_of (List.all_eq_true.mp e _ (by decide +kernel)) (glo_of X G c (by decide +kernel))
  k_MAX_BEATS := He.int_ok X G (all_fa c (List.mem_append_right _ (List.mem_append_right _ (List.mem_of_getElem? (i := 0) rfl))))
  k_MAX_DEEDS := He.int_ok X G (all_fa c (List.mem_append_right _ (List.mem_append_right _ (List.mem_of_getElem? (i := 1) rfl))))
  k_MAX_LONG := He.int_ok X G (all_fa c (List.mem_append_right _ (List.mem_append_right _ (List.mem_of_getElem? (i := 2) rfl))))
  k_MAX_RUNS := He.int_ok X G (all_fa c (List.mem_append_right _ (List.mem_append_right _ (List.mem_of_getElem? (i := 3) rfl))))
  k_MAX_STATES := He.int_ok X G (all_fa c (List.mem_append_right _ (List.mem_append_right _ (List.mem_of_getElem? (i := 4) rfl))))
  errs := errs_of (fun x hx => List.all_eq_true.mp e x hx) (fun x hx => glo_of X G c (List.mem_append_right [PySem.Str.ofString "check_machine", PySem.Str.ofString "check_ways", PySem.Str.ofString "check_state", PySem.Str.ofString "check_deeds", PySem.Str.ofString "runs", PySem.Str.ofString "check_run", PySem.Str.ofString "beats_of", PySem.Str.ofString "deeds_in", PySem.Str.ofString "state_behind", PySem.Str.ofString "extremes", PySem.Str.ofString "_law_error", PySem.Str.ofString "_law_next", PySem.Str.ofString "_law_stream", PySem.Str.ofString "_law_same", PySem.Str.ofString "_law_told", PySem.Str.ofString "_law_all", PySem.Str.ofString "_law_machine", PySem.Str.ofString "_law_sums", PySem.Str.ofString "_law_runs", PySem.Str.ofString "_law_is_run", PySem.Str.ofString "_law_deeds_fit", PySem.Str.ofString "_law_errors_fit", PySem.Str.ofString "law", PySem.Str.ofString "BeatError"] hx)) (glo_of X G c (by decide +kernel))
/-- the promises of all the defs that the law calls -/
theorem law_ds (X : C.K.In h) (G : h.Ns mainGlobals C.mg) (c : He.SaysD fa fn C.K) (e : ex C.K = true) : DSs C 7 ⟨defScope s_law, defScope s_law, true⟩ n_law [] [] [] (defBody s_law).tail (m_law C.ns) := by
  have g := gf_of X G c e
  obtain ⟨fd_check_ways, F_check_ways⟩ := c.def_ 1 (d := dd "check_ways" 11) rfl
  have h_check_ways : FnR C 1 "check_ways" 2 φ_check_ways := fnR_of_D F_check_ways sc_check_ways (glo_of X G c (by decide +kernel)) (fun _ _ _ _ _ _ us hl => match us, hl with | [_, _], _ => rfl) (d_check_ways g )
  obtain ⟨fd_beats_of, F_beats_of⟩ := c.def_ 6 (d := dd "beats_of" 19) rfl
  have h_beats_of : FnR C 1 "beats_of" 1 φ_beats_of := fnR_of_D F_beats_of sc_beats_of (glo_of X G c (by decide +kernel)) (fun _ _ _ _ _ _ us hl => match us, hl with | [_], _ => rfl) (d_beats_of g )
  obtain ⟨fd_deeds_in, F_deeds_in⟩ := c.def_ 7 (d := dd "deeds_in" 20) rfl
  have h_deeds_in : FnR C 1 "deeds_in" 1 φ_deeds_in := fnR_of_D F_deeds_in sc_deeds_in (glo_of X G c (by decide +kernel)) (fun _ _ _ _ _ _ us hl => match us, hl with | [_], _ => rfl) (d_deeds_in g )
  obtain ⟨fd_state_behind, F_state_behind⟩ := c.def_ 8 (d := dd "state_behind" 21) rfl
  have h_state_behind : FnR C 1 "state_behind" 2 φ_state_behind := fnR_of_D F_state_behind sc_state_behind (glo_of X G c (by decide +kernel)) (fun _ _ _ _ _ _ us hl => match us, hl with | [_, _], _ => rfl) (d_state_behind g )
  obtain ⟨fd_law_error, F_law_error⟩ := c.def_ 10 (d := dd "_law_error" 24) rfl
  obtain ⟨q1, q2, q3, q4, q5, q6, q, hq, hl⟩ := bd_error
  have h_law_error : ErrR C 1 := errR_of_D F_law_error sc_law_error (glo_of X G c (by decide +kernel)) (fun _ _ _ _ _ _ us hl => match us, hl with | [_], _ => rfl) rfl hq hl (fun x hx => blt_of X G c x (by revert x; decide +kernel))
  obtain ⟨fd_law_next, F_law_next⟩ := c.def_ 11 (d := dd "_law_next" 25) rfl
  obtain ⟨q, hq⟩ := bd_next
  have h_law_next : FnR C 1 "_law_next" 2 (nextD C.ns) := fnR_next_D F_law_next sc_law_next (glo_of X G c (by decide +kernel)) (fun _ _ _ _ _ _ us hl => match us, hl with | [_, _], _ => rfl) rfl hq (blt_of X G c _ (by decide +kernel)) (blt_of X G c _ (by decide +kernel))
  obtain ⟨fd_law_same, F_law_same⟩ := c.def_ 13 (d := dd "_law_same" 27) rfl
  have h_law_same : FnR C 1 "_law_same" 2 φ_law_same := fnR_of_D F_law_same sc_law_same (glo_of X G c (by decide +kernel)) (fun _ _ _ _ _ _ us hl => match us, hl with | [_, _], _ => rfl) (d_law_same g )
  obtain ⟨fd_law_all, F_law_all⟩ := c.def_ 15 (d := dd "_law_all" 29) rfl
  have h_law_all : FnR C 1 "_law_all" 2 φ_law_all := fnR_of_D F_law_all sc_law_all (glo_of X G c (by decide +kernel)) (fun _ _ _ _ _ _ us hl => match us, hl with | [_, _], _ => rfl) (d_law_all g )
  obtain ⟨fd_law_sums, F_law_sums⟩ := c.def_ 17 (d := dd "_law_sums" 31) rfl
  have h_law_sums : FnR C 1 "_law_sums" 3 φ_law_sums := fnR_of_D F_law_sums sc_law_sums (glo_of X G c (by decide +kernel)) (fun _ _ _ _ _ _ us hl => match us, hl with | [_, _, _], _ => rfl) (d_law_sums g )
  obtain ⟨fd_law_runs, F_law_runs⟩ := c.def_ 18 (d := dd "_law_runs" 32) rfl
  have h_law_runs : FnR C 1 "_law_runs" 3 φ_law_runs := fnR_of_D F_law_runs sc_law_runs (glo_of X G c (by decide +kernel)) (fun _ _ _ _ _ _ us hl => match us, hl with | [_, _, _], _ => rfl) (d_law_runs g )
  obtain ⟨fd_law_is_run, F_law_is_run⟩ := c.def_ 19 (d := dd "_law_is_run" 33) rfl
  have h_law_is_run : FnR C 1 "_law_is_run" 3 φ_law_is_run := fnR_of_D F_law_is_run sc_law_is_run (glo_of X G c (by decide +kernel)) (fun _ _ _ _ _ _ us hl => match us, hl with | [_, _, _], _ => rfl) (d_law_is_run g )
  obtain ⟨fd_check_machine, F_check_machine⟩ := c.def_ 0 (d := dd "check_machine" 10) rfl
  have h_check_machine : FnR C 2 "check_machine" 1 φ_check_machine := fnR_of_D F_check_machine sc_check_machine (glo_of X G c (by decide +kernel)) (fun _ _ _ _ _ _ us hl => match us, hl with | [_], _ => rfl) (d_check_machine g h_check_ways)
  obtain ⟨fd_law_machine, F_law_machine⟩ := c.def_ 16 (d := dd "_law_machine" 30) rfl
  have h_law_machine : FnR C 2 "_law_machine" 4 (φ_law_machine C.ns) := fnR_of_D F_law_machine sc_law_machine (glo_of X G c (by decide +kernel)) (fun _ _ _ _ _ _ us hl => match us, hl with | [_, _, _, _], _ => rfl) (d_law_machine g h_law_next)
  obtain ⟨fd_check_state, F_check_state⟩ := c.def_ 2 (d := dd "check_state" 12) rfl
  have h_check_state : FnR C 3 "check_state" 2 φ_check_state := fnR_of_D F_check_state sc_check_state (glo_of X G c (by decide +kernel)) (fun _ _ _ _ _ _ us hl => match us, hl with | [_, _], _ => rfl) (d_check_state g h_check_machine)
  obtain ⟨fd_check_deeds, F_check_deeds⟩ := c.def_ 3 (d := dd "check_deeds" 16) rfl
  have h_check_deeds : FnR C 4 "check_deeds" 3 φ_check_deeds := fnR_of_D F_check_deeds sc_check_deeds (glo_of X G c (by decide +kernel)) (fun _ _ _ _ _ _ us hl => match us, hl with | [_, _, _], _ => rfl) (d_check_deeds g h_check_state)
  obtain ⟨fd_check_run, F_check_run⟩ := c.def_ 5 (d := dd "check_run" 18) rfl
  have h_check_run : FnR C 4 "check_run" 3 φ_check_run := fnR_of_D F_check_run sc_check_run (glo_of X G c (by decide +kernel)) (fun _ _ _ _ _ _ us hl => match us, hl with | [_, _, _], _ => rfl) (d_check_run g h_check_state)
  obtain ⟨fd_runs, F_runs⟩ := c.def_ 4 (d := dd "runs" 17) rfl
  have h_runs : FnR C 5 "runs" 3 φ_runs := fnR_of_D F_runs sc_runs (glo_of X G c (by decide +kernel)) (fun _ _ _ _ _ _ us hl => match us, hl with | [_, _, _], _ => rfl) (d_runs g h_check_deeds)
  obtain ⟨fd_extremes, F_extremes⟩ := c.def_ 9 (d := dd "extremes" 22) rfl
  have h_extremes : FnR C 5 "extremes" 3 φ_extremes := fnR_of_D F_extremes sc_extremes (glo_of X G c (by decide +kernel)) (fun _ _ _ _ _ _ us hl => match us, hl with | [_, _, _], _ => rfl) (d_extremes g h_check_deeds)
  obtain ⟨fd_law_told, F_law_told⟩ := c.def_ 14 (d := dd "_law_told" 28) rfl
  have h_law_told : FnR C 6 "_law_told" 2 φ_law_told := fnR_of_D F_law_told sc_law_told (glo_of X G c (by decide +kernel)) (fun _ _ _ _ _ _ us hl => match us, hl with | [_, _], _ => rfl) (d_law_told g h_runs h_check_run h_extremes h_law_error)
  obtain ⟨fd_law_deeds_fit, F_law_deeds_fit⟩ := c.def_ 20 (d := dd "_law_deeds_fit" 34) rfl
  have h_law_deeds_fit : FnR C 7 "_law_deeds_fit" 4 (φ_law_deeds_fit C.ns) := fnR_of_D F_law_deeds_fit sc_law_deeds_fit (glo_of X G c (by decide +kernel)) (fun _ _ _ _ _ _ us hl => match us, hl with | [_, _, _, _], _ => rfl) (d_law_deeds_fit g h_runs h_check_run h_beats_of h_deeds_in h_state_behind h_extremes h_law_next h_law_same h_law_told h_law_sums h_law_runs h_law_is_run)
  obtain ⟨fd_law_errors_fit, F_law_errors_fit⟩ := c.def_ 21 (d := dd "_law_errors_fit" 35) rfl
  have h_law_errors_fit : FnR C 7 "_law_errors_fit" 2 (φ_law_errors_fit C.ns) := fnR_of_D F_law_errors_fit sc_law_errors_fit (glo_of X G c (by decide +kernel)) (fun _ _ _ _ _ _ us hl => match us, hl with | [_, _], _ => rfl) (d_law_errors_fit g h_runs h_check_run h_extremes h_law_next h_law_told h_law_all)
  exact d_law g h_runs h_beats_of h_extremes h_law_next h_law_told h_law_machine h_law_deeds_fit h_law_errors_fit
end
theorem law_fn {w : World} {K : PySem.W.Frag} {h : Heap} {mg : Str → Option Value} {f : Addr} (X : K.In h) (G : h.Ns mainGlobals mg) (c : He.SaysD fa fn K) (e : ex K = true) (hf : mg ("law" : Str) = some (.ref f))
    (maths : ∀ ns : List Int, ns ≠ [] → ns.length ≤ 4000 → ∃ k', m_law ns (env0 n_law.length) 0 = .ok (.rt (.bl true)) k') :
    ∃ fd : FuncData, (∀ (s : Shared) (u : Value), BindsTo s fd ⟨[u], []⟩ [("script", u)]) ∧ ∀ base : Heap, FnG PySem.Challenge.pw_slowestrun_k04_whole_runs w K mg base 8 f fd ["script"] (spLaw K) := by
  obtain ⟨fdS, FS⟩ := c.def_ 12 (d := dd "_law_stream" 26) rfl
  obtain ⟨fd, F⟩ := c.def_ 22 (d := dd "law" 36) rfl
  have glo : ∀ {x : Str}, x ∈ glos → mg x = some (.ref (He.ga K x)) := fun hx => glo_of (C := ⟨PySem.Challenge.pw_slowestrun_k04_whole_runs, w, K, mg, h, 0, 0, []⟩) X G c hx
  have z := hf.symm.trans (glo (by decide +kernel))
  cases z
  have bS := FS.bindsN (ps := ["script"]) (fun _ _ _ _ _ _ us hl => match us, hl with | [_], _ => rfl)
  have bL := F.bindsA (ps := ["script"]) (fun _ _ _ _ _ _ us hl => match us, hl with | [_], _ => rfl)
  refine ⟨fd, fun s v => bL s [v] rfl, fun base => ?_⟩
  obtain ⟨q1, q2, q3, q4, q5, q6, q7, q8, q9, q10, q11, q, hq, l3, l9, l11⟩ := bd_stream
  obtain ⟨q0, hq0⟩ := bd_law
  have G1 := fnG_strm_D (C := ⟨PySem.Challenge.pw_slowestrun_k04_whole_runs, w, K, mg, base, 0, 0, []⟩) FS sc_law_stream rfl hq l3 l9 l11 (fun x hx => blt_of (C := ⟨PySem.Challenge.pw_slowestrun_k04_whole_runs, w, K, mg, base, 0, 0, []⟩) X G c x (by revert x; decide +kernel))
  obtain ⟨oc, od, kV, doc, pm, an, cdv, ct, osl, rfl, lk, hcd⟩ := funD_ex (C := ⟨PySem.Challenge.pw_slowestrun_k04_whole_runs, w, K, mg, base, 0, 0, []⟩) F
  exact fng_law (m := m_law) lk hcd sc_law hq0 rfl rfl (by decide +kernel) (by decide +kernel) (by decide +kernel) G1 (by decide +kernel) (glo (by decide +kernel)) FS.kp bS (fun aS aN ns => law_ds (C := ⟨PySem.Challenge.pw_slowestrun_k04_whole_runs, w, K, mg, base, aS, aN, ns⟩) X G c e) maths
end K04
end PL
open PySem PySem.W PySem.Calls PyProof.Rows
theorem PL.K04.fin (maths : ∀ ns : List Int, ns ≠ [] → ns.length ≤ 4000 → ∃ k', PL.K04.m_law ns (PL.env0 PL.K04.n_law.length) 0 = .ok (.rt (.bl true)) k') : PySem.Challenge.rw_slowestrun_k04_whole_runs.Holds := by
  w_on; o_law
  refine HandSHeadRun.head_any (r := OpenLaw.row PySem.Challenge.rw_slowestrun_k04_whole_runs) (q := view (OpenLaw.row PySem.Challenge.rw_slowestrun_k04_whole_runs).prog [36]) (H := PL.K04.hk) (ob := PL.K04.ob) (M := 2000) (loose := PL.K04.loose) (d := HandSHeadRun.topDef (OpenLaw.row PySem.Challenge.rw_slowestrun_k04_whole_runs).prog 36) (kwd := []) PL.K04.ob_eq
    (by kernel_rfl) (fun s => by kernel_rfl) PL.K04.run (by kernel_rfl) (by kernel_rfl) (by kernel_rfl) (by rfl) (by decide +kernel) (by decide +kernel) ⟨rfl, rfl, rfl, rfl, rfl, by decide +kernel⟩ ?hw ?hc
  case hw => w_witness2
  case hc =>
    refine PL.walk_G (l := PySem.Challenge.rw_slowestrun_k04_whole_runs) (n := 63) (k := 8) (x := "script") rfl (by decide) (by kernel_rfl) ⟨rfl, by decide, by decide⟩ ?F
    intro w mg fa h Y G hmg0
    obtain ⟨K, KX, c, e⟩ := Y
    have hmg : mg ("law" : PySem.Str) = some (.ref fa) := by
      have z : (HandSHeadRun.topDef (OpenLaw.row PySem.Challenge.rw_slowestrun_k04_whole_runs).prog 36).name = ("law" : PySem.Str) := by kernel_rfl
      rw [← z]
      exact hmg0
    obtain ⟨fd, hb, hF⟩ := PL.K04.law_fn (w := w) KX G c e hmg maths
    exact ⟨K, fd, PL.spLaw K, KX, hb, fun H a ns hl _ hS => ⟨a, ns, rfl, hS, fun _ => rfl⟩, fun base _ _ => hF base⟩

theorem PySem.Challenge.cw_slowestrun_k04_whole_runs_holds : PySem.Challenge.rw_slowestrun_k04_whole_runs.Holds := by
  exact PL.K04.fin fun ns h0 h1 => PL.K04.law_holds h0 h1
