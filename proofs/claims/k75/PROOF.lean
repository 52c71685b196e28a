import PyProof.Rows.All
import Wide.All
import OpenK.AllK
import Wide.FinOn
import HandS.ForMost
import HandS.IsInst
import HandS.TupAny
import HandS.Deep
import HandS.Exc
import HandS.TryOnly
import KE.DataCmp
import KE.DataEq
import KE.DataFind
import KE.DataAny
import KE.DataIsa
import KE.DataMinMax
import KE.SortData
import KE.DatumIndex
import HandS.Wide
import HandS.TupMul
import HandS.TupLe
import HandS.Style
import PyProof.StrLawsRepr
import PyProof.Rows.RegStrFacts
import PyProof.ReprRoads
import HandS.Zip
import HandS.Defaults
import HandS.More
import HandS.HeadHook1
import HandS.HeadHook2
import HandS.Ends
import HandS.HeadEnd
import KE.KDictKeyed
import KE.KDictSum
import HandS.TupSets
import HandS.ExcIs
import HandS.Small
import HandS.ExcBuiltin
import HandS.SetFor
import HandS.Strs
import HandS.Text
import HandS.Replace
import KE.KeyNested
import HandS.DictComp
import KE.GoesZip
import PyProof.EqKinds
import PyProof.FactsAll.dict
import HandS.Head2
import PySem.Challenge.RW_landtogether_k75_whole_greatest_turn_wor
set_option Elab.async false
set_option linter.all false
set_option maxRecDepth 100000
set_option maxHeartbeats 0
/-! the value layer: data by value, environments of slots, one kind of reading -/
namespace Z
open PySem PySem.Spec PyProof.Rows L2

abbrev D := PyData

/-- an error: its class's name, its one field -/
structure Err where
  cls : Str
  arg : Option (Str × D)

/-- a slot: nothing known, a value, a list that the frame alone may change -/
inductive Sl where
  | no | val (d : D) | own (ds : List D) | exc (a : Addr)
abbrev VEnv := List Sl

inductive Res (α : Type) where
  | ok (a : α) | err (e : Err) (env : VEnv) | stuck
def Res.bind {α β : Type} (r : Res α) (k : α → Res β) : Res β := match r with
  | .ok a => k a
  | .err e env => .err e env
  | .stuck => .stuck
instance : Monad Res where
  pure := .ok
  bind := Res.bind
theorem Res.bind_ok {α β : Type} (a : α) (k : α → Res β) : (Res.ok a >>= k) = k a := rfl
theorem Res.bind_err {α β : Type} (e : Err) (env : VEnv) (k : α → Res β) : ((Res.err e env : Res α) >>= k) = .err e env := rfl
theorem Res.bind_stuck {α β : Type} (k : α → Res β) : ((Res.stuck : Res α) >>= k) = .stuck := rfl
def ofO {α : Type} : Option α → Res α
  | some a => .ok a
  | none => .stuck

/-! ### a value stands for data -/
mutual
inductive RD (H : Hp) (av : List Addr) : V → D → Prop
  | non : RD H av .non .none
  | bl (b : Bool) : RD H av (.bl b) (.bool b)
  | int (i : Int) : RD H av (.int i) (.int i)
  | str (x : Str) : RD H av (.str x) (.str x)
  | lst {a : Addr} {xs : List V} {ds : List D} : H a = some (.lst xs) → a ∉ av → RDs H av xs ds → RD H av (.ref a) (.list ds)
  | tup {a : Addr} {xs : List V} {ds : List D} : H a = some (.tup xs) → a ∉ av → RDs H av xs ds → RD H av (.ref a) (.tuple ds)
  | dct {a : Addr} : H a = some (.dK []) → a ∉ av → RD H av (.ref a) (.dict [])
inductive RDs (H : Hp) (av : List Addr) : List V → List D → Prop
  | nil : RDs H av [] []
  | cons {v : V} {vs : List V} {d : D} {ds : List D} : RD H av v d → RDs H av vs ds → RDs H av (v :: vs) (d :: ds)
end

section
variable {K : PySem.W.Frag} {H H' : Hp} {av av' : List Addr}
mutual
theorem RD.mono (k : ∀ a o, H a = some o → a ∉ av → H' a = some o) (n : ∀ a, a ∈ av' → a ∈ av ∨ H a = none) : ∀ {d : D} {v : V}, RD H av v d → RD H' av' v d
  | .none, _, h => by cases h; exact .non
  | .bool b, _, h => by cases h; exact .bl b
  | .int i, _, h => by cases h; exact .int i
  | .str x, _, h => by cases h; exact .str x
  | .list ds, _, h => by
    cases h with
    | lst e ne r =>
      refine .lst (k _ _ e ne) (fun z => ?_) (RDs.mono k n r)
      rcases n _ z with q | q
      · exact ne q
      · rw [e] at q; cases q
  | .tuple ds, _, h => by
    cases h with
    | tup e ne r =>
      refine .tup (k _ _ e ne) (fun z => ?_) (RDs.mono k n r)
      rcases n _ z with q | q
      · exact ne q
      · rw [e] at q; cases q
  | .dict _, _, h => by
    cases h with
    | dct e ne =>
      refine .dct (k _ _ e ne) (fun z => ?_)
      rcases n _ z with q | q
      · exact ne q
      · rw [e] at q; cases q
theorem RDs.mono (k : ∀ a o, H a = some o → a ∉ av → H' a = some o) (n : ∀ a, a ∈ av' → a ∈ av ∨ H a = none) : ∀ {ds : List D} {vs : List V}, RDs H av vs ds → RDs H' av' vs ds
  | [], _, h => by cases h; exact .nil
  | d :: ds, _, h => by
    cases h with
    | cons h1 h2 => exact .cons (RD.mono k n h1) (RDs.mono k n h2)
end
theorem RDs.length : ∀ {vs : List V} {ds : List D}, RDs H av vs ds → vs.length = ds.length
  | _, _, .nil => rfl
  | _, _, .cons _ t => congrArg (· + 1) t.length
theorem RDs.get : ∀ {vs : List V} {ds : List D} {i : Nat} {d : D}, RDs H av vs ds → ds[i]? = some d → ∃ v, vs[i]? = some v ∧ RD H av v d
  | _, _, _, _, .nil, e => by simp at e
  | _, _, 0, _, .cons r _, e => by simp at e; subst e; exact ⟨_, rfl, r⟩
  | _, _, i + 1, d, .cons _ t, e => by
    obtain ⟨v, h1, h2⟩ := RDs.get (i := i) (d := d) t (by simpa using e)
    exact ⟨v, by simpa using h1, h2⟩
theorem RDs.append : ∀ {vs ws : List V} {ds es : List D}, RDs H av vs ds → RDs H av ws es → RDs H av (vs ++ ws) (ds ++ es)
  | _, _, _, _, .nil, s => s
  | _, _, _, _, .cons r t, s => .cons r (RDs.append t s)
theorem RDs.take : ∀ {vs : List V} {ds : List D} (n : Nat), RDs H av vs ds → RDs H av (vs.take n) (ds.take n)
  | _, _, 0, _ => .nil
  | _, _, _ + 1, .nil => .nil
  | _, _, n + 1, .cons r t => .cons r (RDs.take n t)
theorem RDs.drop : ∀ {vs : List V} {ds : List D} (n : Nat), RDs H av vs ds → RDs H av (vs.drop n) (ds.drop n)
  | _, _, 0, r => r
  | _, _, _ + 1, .nil => .nil
  | _, _, n + 1, .cons _ t => RDs.drop n t
theorem RDs.reverse : ∀ {vs : List V} {ds : List D}, RDs H av vs ds → RDs H av vs.reverse ds.reverse
  | _, _, .nil => .nil
  | _, _, .cons r t => by
    rw [List.reverse_cons, List.reverse_cons]
    exact t.reverse.append (.cons r .nil)
theorem RDs.set {v : V} {d : D} (r : RD H av v d) : ∀ {vs : List V} {ds : List D} (i : Nat), RDs H av vs ds → RDs H av (vs.set i v) (ds.set i d)
  | _, _, _, .nil => .nil
  | _, _, 0, .cons _ t => .cons r t
  | _, _, i + 1, .cons q t => .cons q (RDs.set r i t)
theorem RDs.replicate {vs : List V} {ds : List D} (r : RDs H av vs ds) : ∀ n, RDs H av (List.replicate n vs).flatten (List.replicate n ds).flatten
  | 0 => .nil
  | n + 1 => by
    simp only [List.replicate_succ, List.flatten_cons]
    exact r.append (RDs.replicate r n)
theorem RDs.ints : ∀ {ns : List Int}, RDs H av (ns.map V.int) (ns.map PyData.int)
  | [] => .nil
  | i :: ns => .cons (.int i) RDs.ints
theorem RDs.of_ints : ∀ {ns : List Int} {vs : List V}, RDs H av vs (ns.map PyData.int) → vs = ns.map V.int
  | [], _, h => by cases h; rfl
  | i :: ns, _, h => by
    cases h with
    | cons h1 h2 => cases h1; rw [List.map_cons, RDs.of_ints h2]
theorem RDs.of_bools : ∀ {ns : List Bool} {vs : List V}, RDs H av vs (ns.map PyData.bool) → vs = ns.map V.bl
  | [], _, h => by cases h; rfl
  | i :: ns, _, h => by
    cases h with
    | cons h1 h2 => cases h1; rw [List.map_cons, RDs.of_bools h2]
theorem RDs.of_strs : ∀ {ns : List Str} {vs : List V}, RDs H av vs (ns.map PyData.str) → vs = ns.map V.str
  | [], _, h => by cases h; rfl
  | i :: ns, _, h => by
    cases h with
    | cons h1 h2 => cases h1; rw [List.map_cons, RDs.of_strs h2]
theorem RD.same (h : RD H av v d) (s : Same H H') : RD H' av v d := h.mono (fun a o e _ => s a o e) fun a z => .inl z
theorem RDs.same (h : RDs H av vs ds) (s : Same H H') : RDs H' av vs ds := h.mono (fun a o e _ => s a o e) fun a z => .inl z
end

/-- as RD, but the list itself may be one of the protected ones -/
inductive RB (H : Hp) (av : List Addr) : V → D → Prop
  | of {v : V} {d : D} : RD H av v d → RB H av v d
  | own {a : Addr} {xs : List V} {ds : List D} : H a = some (.lst xs) → RDs H av xs ds → RB H av (.ref a) (.list ds)
section
variable {K : PySem.W.Frag} {H H' : Hp} {av av' : List Addr}
theorem RB.list {v : V} {ds : List D} (h : RB H av v (.list ds)) : ∃ a xs, v = .ref a ∧ H a = some (.lst xs) ∧ RDs H av xs ds := by
  cases h with
  | of h => cases h with
    | lst e _ r => exact ⟨_, _, rfl, e, r⟩
  | own e r => exact ⟨_, _, rfl, e, r⟩
theorem RB.tuple {v : V} {ds : List D} (h : RB H av v (.tuple ds)) : ∃ a xs, v = .ref a ∧ H a = some (.tup xs) ∧ a ∉ av ∧ RDs H av xs ds := by
  cases h with
  | of h => cases h with
    | tup e n r => exact ⟨_, _, rfl, e, n, r⟩
theorem RB.int {v : V} {i : Int} (h : RB H av v (.int i)) : v = .int i := by
  cases h with
  | of h => cases h; rfl
theorem RB.str {v : V} {i : Str} (h : RB H av v (.str i)) : v = .str i := by
  cases h with
  | of h => cases h; rfl
theorem RB.bool {v : V} {i : Bool} (h : RB H av v (.bool i)) : v = .bl i := by
  cases h with
  | of h => cases h; rfl
theorem RB.none {v : V} (h : RB H av v .none) : v = .non := by
  cases h with
  | of h => cases h; rfl
mutual
theorem RD.dp : ∀ {d : D} {v : V}, d.canLay0 = true → RD H av v d → Dp K H v d
  | .none, _, _, h => by cases h; exact .non
  | .bool b, _, _, h => by cases h; exact .bl b
  | .int i, _, _, h => by cases h; exact .int i
  | .str x, _, _, h => by cases h; exact .str x
  | .list ds, _, c, h => by
    cases h with
    | lst e ne r => exact .lst (SqL.of e) (RDs.dp (by simpa [PyData.canLay0] using c) r)
  | .tuple ds, _, c, h => by
    cases h with
    | tup e ne r => exact .tup (SqT.of e) (RDs.dp (by simpa [PyData.canLay0] using c) r)
  | .dict _, _, c, _ => by simp [PyData.canLay0] at c
theorem RDs.dp : ∀ {ds : List D} {vs : List V}, PyData.canLayAll0 ds = true → RDs H av vs ds → DpAll K H vs ds
  | [], _, _, h => by cases h; exact .nil
  | d :: ds, _, c, h => by
    cases h with
    | cons h1 h2 =>
      have c' : d.canLay0 = true ∧ PyData.canLayAll0 ds = true := by simpa [PyData.canLayAll0] using c
      exact .cons (RD.dp c'.1 h1) (RDs.dp c'.2 h2)
end
end

end Z

namespace Z
open PySem PySem.Spec PyProof.Rows L2

/-- what is fixed in a frame: the wish about exceptions, the callers' protected addresses, the in-and-out list (always slot 0) -/
structure Fm where
  W : WX
  bs : List Addr
  io : Option Addr

/-- changed at os alone; os grows by new addresses alone -/
def Ext (os : List Addr) (H H' : Hp) : Prop := ∀ a o, H a = some o → a ∉ os → H' a = some o
def Sub (H : Hp) (os os' : List Addr) : Prop := ∀ a, a ∈ os' → a ∈ os ∨ H a = none
theorem Ext.refl {os : List Addr} {H : Hp} : Ext os H H := fun _ _ e _ => e
theorem Sub.refl {os : List Addr} {H : Hp} : Sub H os os := fun _ h => .inl h
theorem Ext.of_same {os : List Addr} {H H' : Hp} (s : Same H H') : Ext os H H' := fun a o e _ => s a o e
theorem Ext.trans {os os1 : List Addr} {H H1 H2 : Hp} (a : Ext os H H1) (s : Sub H os os1) (b : Ext os1 H1 H2) : Ext os H H2 := fun c o e n => by
  refine b c o (a c o e n) fun z => ?_
  rcases s c z with q | q
  · exact n q
  · rw [e] at q; cases q
theorem Ext.none {os : List Addr} {H H' : Hp} (x : Ext os H H') {a : Addr} (n : a ∉ os) (e : H' a = none) : H a = none := by
  cases q : H a with
  | none => rfl
  | some o => rw [x a o q n] at e; cases e
theorem Sub.trans {os os1 os2 : List Addr} {H H1 : Hp} (x : Ext os H H1) (a : Sub H os os1) (b : Sub H1 os1 os2) : Sub H os os2 := fun c z => by
  rcases b c z with q | q
  · exact a c q
  · by_cases n : c ∈ os
    · exact .inl n
    · exact .inr (x.none n q)
theorem Same.ext {H H' : Hp} (e : ∀ a o, H a = some o → H' a = some o) : Same H H' := e
theorem same_upd {H : Hp} {p : Addr} {o : HO} (n : H p = none) : Same H (upd H p o) := fun a u e => by rw [upd_ne (ne_of_none e n)]; exact e

structure ERel (φ : Fm) (env : VEnv) (σ : L2.St) (H : Hp) (os : List Addr) : Prop where
  len : env.length = σ.length
  val : ∀ (i : Nat) (d : D), env[i]? = some (.val d) → ∃ v, σ[i]? = some (some v) ∧ RD H (φ.bs ++ os) v d
  own : ∀ (i : Nat) (ds : List D), env[i]? = some (.own ds) → ∃ a vs, σ[i]? = some (some (.ref a)) ∧ a ∈ os ∧ H a = some (.lst vs) ∧ RDs H (φ.bs ++ os) vs ds
  dist : ∀ (i j : Nat) (a : Addr) (ds es : List D), env[i]? = some (.own ds) → env[j]? = some (.own es) → σ[i]? = some (some (.ref a)) → σ[j]? = some (some (.ref a)) → i = j
  trk : ∀ a ∈ φ.bs ++ os, ∃ o, H a = some o
  disj : ∀ a ∈ os, a ∉ φ.bs
  io : ∀ a, φ.io = some a → a ∈ os ∧ σ[0]? = some (some (.ref a)) ∧ ∃ ds, env[0]? = some (.own ds)
  exc : ∀ (i : Nat) (a : Addr), env[i]? = some (.exc a) → σ[i]? = some (some (.ref a))
theorem exc_set2 {env : VEnv} {σ : L2.St} (e : ∀ (i : Nat) (a : Addr), env[i]? = some (.exc a) → σ[i]? = some (some (.ref a))) (i : Nat) {s : Sl} (o : Option V) (hs : ∀ a, s ≠ .exc a) : ∀ (j : Nat) (a : Addr), (env.set i s)[j]? = some (.exc a) → (σ.set i o)[j]? = some (some (.ref a)) := fun j a q => by
  by_cases hj : i = j
  · subst hj
    by_cases hi : i < env.length
    · rw [List.getElem?_set_self hi] at q; cases q; exact absurd rfl (hs a)
    · rw [List.getElem?_eq_none (by simpa using hi)] at q; cases q
  · rw [List.getElem?_set_ne hj] at q ⊢; exact e j a q
theorem exc_set1 {env : VEnv} {σ : L2.St} (e : ∀ (i : Nat) (a : Addr), env[i]? = some (.exc a) → σ[i]? = some (some (.ref a))) (i : Nat) {s : Sl} (hs : ∀ a, s ≠ .exc a) : ∀ (j : Nat) (a : Addr), (env.set i s)[j]? = some (.exc a) → σ[j]? = some (some (.ref a)) := fun j a q => by
  by_cases hj : i = j
  · subst hj
    by_cases hi : i < env.length
    · rw [List.getElem?_set_self hi] at q; cases q; exact absurd rfl (hs a)
    · rw [List.getElem?_eq_none (by simpa using hi)] at q; cases q
  · rw [List.getElem?_set_ne hj] at q; exact e j a q

section
variable {φ : Fm} {env env' : VEnv} {σ σ' : L2.St} {H H' : Hp} {os os' : List Addr}
theorem mono_bs (x : Ext os H H') (s : Sub H os os') : (∀ a o, H a = some o → a ∉ φ.bs ++ os → H' a = some o) ∧ ∀ a, a ∈ φ.bs ++ os' → a ∈ φ.bs ++ os ∨ H a = none :=
  ⟨fun a o e n => x a o e fun z => n (List.mem_append_right _ z), fun a z => (List.mem_append.mp z).elim (fun q => .inl (List.mem_append_left _ q)) fun q => (s a q).elim (fun w => .inl (List.mem_append_right _ w)) .inr⟩
theorem RD.step {v : V} {d : D} (h : RD H (φ.bs ++ os) v d) (x : Ext os H H') (s : Sub H os os') : RD H' (φ.bs ++ os') v d := h.mono (mono_bs x s).1 (mono_bs x s).2
theorem RDs.step {v : List V} {d : List D} (h : RDs H (φ.bs ++ os) v d) (x : Ext os H H') (s : Sub H os os') : RDs H' (φ.bs ++ os') v d := h.mono (mono_bs x s).1 (mono_bs x s).2
theorem ERel.same (h : ERel φ env σ H os) (s : Same H H') : ERel φ env σ H' os where
  len := h.len
  val := fun i d e => let ⟨v, e1, r⟩ := h.val i d e; ⟨v, e1, r.same s⟩
  own := fun i ds e => let ⟨a, vs, e1, m, e2, r⟩ := h.own i ds e; ⟨a, vs, e1, m, s _ _ e2, r.same s⟩
  dist := h.dist
  trk := fun a m => let ⟨o, e⟩ := h.trk a m; ⟨o, s _ _ e⟩
  disj := h.disj
  io := h.io
  exc := h.exc
end

/-- an exception stands for an error -/
def IsErr (mg : Str → Option Value) (x : Err) (cls : Value) (dd : Option Addr) (H : Hp) : Prop :=
  ∃ C, cls = .ref C ∧ mg x.cls = some (.ref C) ∧ match x.arg with
    | none => dd = none
    | some (f, d) => ∃ a v, dd = some a ∧ H a = some (.xd [(f, v)]) ∧ RD H [] v d

abbrev Rl (α β : Type) := Hp → List Addr → β → α → Prop
def OutR {α β : Type} (X : Cx) (φ : Fm) (rel : Rl α β) (os : List Addr) (σ : L2.St) (H : Hp) (r : Res (α × VEnv)) (Q : β → Hp → Prop) : Prop := match r with
  | .ok p => ∀ v H' os', Ext os H H' → Sub H os os' → ERel φ p.2 σ H' os' → rel H' (φ.bs ++ os') v p.1 → Q v H'
  | .err x e' => ∀ H' os' cls dd, Ext os H H' → Sub H os os' → ERel φ e' σ H' os' → IsErr X.mg x cls dd H' → φ.W cls dd σ H'
  | .stuck => False
def tR {α β : Type} (X : Cx) (φ : Fm) (rel : Rl α β) (f : VEnv → Res (α × VEnv)) (σ : L2.St) (H : Hp) (Q : β → Hp → Prop) : Prop :=
  ∃ env os, ERel φ env σ H os ∧ OutR X φ rel os σ H (f env) Q

section
variable {X : Cx} {φ : Fm} {env env' : VEnv} {σ σ' : L2.St} {H H' : Hp} {os os' : List Addr} {α β γ δ : Type}
theorem OutR.later {rel : Rl α β} {r : Res (α × VEnv)} {Q : β → Hp → Prop} (x : Ext os H H') (s : Sub H os os') (h : OutR X φ rel os σ H r Q) : OutR X φ rel os' σ H' r Q := by
  cases r with
  | ok p => exact fun v H2 os2 x2 s2 => h v H2 os2 (x.trans s x2) (s.trans x s2)
  | err e en => exact fun H2 os2 cls dd x2 s2 => h H2 os2 cls dd (x.trans s x2) (s.trans x s2)
  | stuck => exact h
theorem OutR.bind {relA : Rl α β} {relC : Rl γ δ} {r : Res (α × VEnv)} {k : α × VEnv → Res (γ × VEnv)} {Q : δ → Hp → Prop}
    (h : OutR X φ relC os σ H (r >>= k) Q) :
    OutR X φ relA os σ H r (fun v H1 => ∃ d env1 os1, Ext os H H1 ∧ Sub H os os1 ∧ ERel φ env1 σ H1 os1 ∧ relA H1 (φ.bs ++ os1) v d ∧ OutR X φ relC os1 σ H1 (k (d, env1)) Q) := by
  cases r with
  | ok p => exact fun v H1 os1 x s e rl => ⟨p.1, p.2, os1, x, s, e, rl, OutR.later (r := k p) x s h⟩
  | err e en => exact h
  | stuck => exact h.elim
/-- the value is there -/
theorem OutR.ret {rel : Rl α β} {d : α} {Q : β → Hp → Prop} (h : OutR X φ rel os σ H (.ok (d, env)) Q) (v : β) (x : Same H H') (e : ERel φ env σ H os) (r : rel H' (φ.bs ++ os) v d) : Q v H' :=
  h v H' os (Ext.of_same x) Sub.refl (e.same x) r
end

/-! ### judgements -/
abbrev Ev := VEnv → Res (D × VEnv)
abbrev Te := VEnv → Res (Bool × VEnv)
abbrev Ar := VEnv → Res (List D × VEnv)
abbrev rD : Rl D V := fun H av v d => RD H av v d
abbrev rDs : Rl (List D) (List V) := fun H av v d => RDs H av v d
abbrev rB : Rl Bool Bool := fun _ _ b d => b = d
/-- an operand: a value, or a slot that is read when the operation runs -/
abbrev Opd := D ⊕ Nat
abbrev Oe := VEnv → Res (Opd × VEnv)
def rd (o : Opd) (env : VEnv) : Option D := match o with
  | .inl d => some d
  | .inr i => match env.getD i .no with
    | .val d => some d
    | .own ds => some (.list ds)
    | _ => none
def rO (σ : L2.St) : Rl Opd V := fun H av v o => match o with
  | .inl d => RD H av v d
  | .inr i => σ[i]? = some (some v)
structure JE (X : Cx) (φ : Fm) (e : Expr) (f : Ev) : Prop where
  j : PE X e (tR X φ (rD) f)
structure JO (X : Cx) (φ : Fm) (e : Expr) (f : Oe) : Prop where
  j : PE X e (fun σ => tR X φ (rO σ) f σ)
structure JT (X : Cx) (φ : Fm) (e : Expr) (f : Te) : Prop where
  j : PT X e (tR X φ rB f)
structure JA (X : Cx) (φ : Fm) (es : List Expr) (f : Ar) : Prop where
  j : PA X es (tR X φ (rDs) f)

/-- consequence -/
theorem _root_.L2.PE.imp {X : Cx} {e : Expr} {t t' : TE} (h : PE X e t) (k : ∀ σ H Q, t' σ H Q → t σ H Q) : PE X e t' := ⟨fun pins s σ H Q I q => h.run pins s σ H Q I (k σ H Q q)⟩
theorem _root_.L2.PT.imp {X : Cx} {e : Expr} {t t' : TT} (h : PT X e t) (k : ∀ σ H Q, t' σ H Q → t σ H Q) : PT X e t' := ⟨fun pins s σ H Q I q => h.run pins s σ H Q I (k σ H Q q)⟩
theorem _root_.L2.PA.imp {X : Cx} {e : List Expr} {t t' : TA} (h : PA X e t) (k : ∀ σ H Q, t' σ H Q → t σ H Q) : PA X e t' := ⟨fun pos pins s σ H Q I q => h.run pos pins s σ H Q I (k σ H Q q)⟩
theorem _root_.L2.PS.imp {X : Cx} {e : Stmt} {t t' : TS} (h : PS X e t) (k : ∀ D σ H, t' D σ H → t D σ H) : PS X e t' := ⟨fun pins s σ H D I q => h.run pins s σ H D I (k D σ H q)⟩
theorem _root_.L2.PSs.imp {X : Cx} {e : List Stmt} {t t' : TS} (h : PSs X e t) (k : ∀ D σ H, t' D σ H → t D σ H) : PSs X e t' := ⟨fun pins s σ H D I q => h.run pins s σ H D I (k D σ H q)⟩

section
variable {X : Cx} {φ : Fm} {env : VEnv} {σ : L2.St} {H : Hp} {os : List Addr} {v : V} {d : D}
/-- an operand's value, as the environment has it now -/
theorem rd_rb {o : Opd} (e : ERel φ env σ H os) (h : rO σ H (φ.bs ++ os) v o) (q : rd o env = some d) : RB H (φ.bs ++ os) v d := by
  cases o with
  | inl d' =>
    have q' : d' = d := Option.some.inj q
    subst q'
    exact .of h
  | inr i =>
    have h' : σ[i]? = some (some v) := h
    have q1 : (match env.getD i .no with
      | .val d => some d
      | .own ds => some (.list ds)
      | _ => none) = some d := q
    rw [List.getD_eq_getElem?_getD] at q1
    cases z : env[i]? with
    | none => rw [z] at q1; cases q1
    | some s =>
      rw [z] at q1
      cases s with
      | no => cases q1
      | exc _ => cases q1
      | val d' =>
        have q' : d' = d := Option.some.inj q1
        subst q'
        obtain ⟨v', e1, r⟩ := e.val i _ z
        rw [h'] at e1; cases e1
        exact .of r
      | own ds =>
        have q' : PyData.list ds = d := Option.some.inj q1
        subst q'
        obtain ⟨a, vs, e1, m, e2, r⟩ := e.own i _ z
        rw [h'] at e1; cases e1
        exact .own e2 r
theorem rO.step {os' : List Addr} {H' : Hp} {o : Opd} (h : rO σ H (φ.bs ++ os) v o) (x : Ext os H H') (s : Sub H os os') : rO σ H' (φ.bs ++ os') v o := by
  cases o with
  | inl d => exact RD.step (φ := φ) h x s
  | inr i => exact h
end
end Z

namespace Z
open PySem PySem.Spec PyProof.Rows L2

theorem ofO_bind {α β : Type} {o : Option α} {k : α → Res β} : (ofO o >>= k) = match o with
  | some a => k a
  | none => .stuck := by cases o <;> rfl

theorem OutR.opt {X : Cx} {φ : Fm} {σ : L2.St} {H : Hp} {os : List Addr} {α β γ : Type} {rel : Rl α β} {o : Option γ} {k : γ → Res (α × VEnv)} {Q : β → Hp → Prop} (h : OutR X φ rel os σ H (ofO o >>= k) Q) : ∃ a, o = some a ∧ OutR X φ rel os σ H (k a) Q := by
  cases o with
  | none => exact h.elim
  | some a => exact ⟨a, rfl, h⟩
/-! ### constants, names -/
def xC (d : D) : Ev := fun e => .ok (d, e)
def xVar (i : Nat) : Ev := fun e => match e.getD i .no with
  | .val d => .ok (d, e)
  | _ => .stuck
/-- an own list is handed on: from now on it stands still -/
def xFrz (i : Nat) : Ev := fun e => match e.getD i .no with
  | .val d => .ok (d, e)
  | .own ds => .ok (.list ds, e.set i (.val (.list ds)))
  | _ => .stuck
def oV (i : Nat) : Oe := fun e => match e.getD i .no with
  | .val _ => .ok (.inr i, e)
  | .own _ => .ok (.inr i, e)
  | _ => .stuck
def oE (f : Ev) : Oe := fun e => f e >>= fun p => .ok (.inl p.1, p.2)

section
variable {X : Cx} {φ : Fm} {pos : Pos}
theorem getD_val {env : VEnv} {i : Nat} {s : Sl} (h : env.getD i .no = s) (n : s ≠ .no) : env[i]? = some s := by
  rw [List.getD_eq_getElem?_getD] at h
  cases z : env[i]? with
  | none => rw [z] at h; exact absurd h.symm n
  | some t => rw [z] at h; exact congrArg some h
theorem z_int {i j} : JE X φ (.Constant (.int i) j pos) (xC (.int i)) := ⟨pe_int.imp fun σ H Q ⟨env, os, e, h⟩ => h.ret (.int i) (Same.refl H) e (.int i)⟩
theorem z_bl {i j} : JE X φ (.Constant (.bool i) j pos) (xC (.bool i)) := ⟨pe_bl.imp fun σ H Q ⟨env, os, e, h⟩ => h.ret (.bl i) (Same.refl H) e (.bl i)⟩
theorem z_non {j} : JE X φ (.Constant .none j pos) (xC .none) := ⟨pe_non.imp fun σ H Q ⟨env, os, e, h⟩ => h.ret .non (Same.refl H) e .non⟩
theorem z_str {i j} : JE X φ (.Constant (.str i) j pos) (xC (.str i)) := ⟨pe_str.imp fun σ H Q ⟨env, os, e, h⟩ => h.ret (.str i) (Same.refl H) e (.str i)⟩
/-- a module's constant: an int, a text, a bool -/
theorem z_glob {x : Str} {v : V} {d : D} {u : Value} (hg : Gl X x) (hm : X.mg x = some u) (r : RelV v u) (rd : ∀ H av, RD H av v d) (hd : (x == ("__debug__" : Str)) = false := by decide) : JE X φ (.Name x pos) (xC d) :=
  ⟨(pe_glob hg hm r hd).imp fun σ H Q ⟨env, os, e, h⟩ => h.ret v (Same.refl H) e (rd _ _)⟩
theorem z_var (i : Nat) {x : Str} (hN : X.N[i]? = some x := by rfl) (hv : Vis X.env.scope x := by first | exact Or.inl rfl | exact Or.inr (Or.inl rfl) | exact Or.inr (Or.inr rfl)) (hd : (x == ("__debug__" : Str)) = false := by decide)
    (hcd : (x == ("__classdict__" : Str)) = false := by decide) : JE X φ (.Name x pos) (xVar i) := ⟨(pe_var hN hv hd hcd).imp fun σ H Q ⟨env, os, e, h⟩ => by
  unfold xVar at h
  cases z : env.getD i .no with
  | no => rw [z] at h; exact h.elim
  | exc _ => rw [z] at h; exact h.elim
  | own ds => rw [z] at h; exact h.elim
  | val d =>
    rw [z] at h
    obtain ⟨v, e1, r⟩ := e.val i d (getD_val z (fun q => by cases q))
    exact ⟨v, e1, h.ret v (Same.refl H) e r⟩⟩
theorem erel_frz {env : VEnv} {σ : L2.St} {H : Hp} {os : List Addr} {i : Nat} {ds : List D} (e : ERel φ env σ H os) (z : env[i]? = some (.own ds)) (hio : i ≠ 0 ∨ φ.io = none) :
    ∃ v os', σ[i]? = some (some v) ∧ Sub H os os' ∧ ERel φ (env.set i (.val (.list ds))) σ H os' ∧ RD H (φ.bs ++ os') v (.list ds) := by
  obtain ⟨a, vs, e1, m, e2, r⟩ := e.own i ds z
  have sub : ∀ b, b ∈ φ.bs ++ os.filter (· ≠ a) → b ∈ φ.bs ++ os ∨ H b = none := fun b q => .inl ((List.mem_append.mp q).elim (fun w => List.mem_append_left _ w) fun w => List.mem_append_right _ (List.mem_filter.mp w).1)
  have rr : RD H (φ.bs ++ os.filter (· ≠ a)) (.ref a) (.list ds) := by
    refine .lst e2 (fun q => ?_) (r.mono (fun _ _ q _ => q) sub)
    rcases List.mem_append.mp q with q | q
    · exact e.disj a m q
    · have := (List.mem_filter.mp q).2
      simp at this
  have hi : i < env.length := (List.getElem?_eq_some_iff.mp z).1
  refine ⟨_, os.filter (· ≠ a), e1, fun b q => .inl (List.mem_filter.mp q).1, ⟨by rw [List.length_set]; exact e.len, fun j d q => ?_, fun j es q => ?_, fun j k b es fs q1 q2 => ?_, fun b q => e.trk b ?_, fun b q => e.disj b (List.mem_filter.mp q).1, fun b q => ?_, exc_set1 e.exc i (fun _ q => by cases q)⟩, rr⟩
  · by_cases hj : i = j
    · subst hj
      rw [List.getElem?_set_self hi] at q
      cases q
      exact ⟨_, e1, rr⟩
    · rw [List.getElem?_set_ne hj] at q
      obtain ⟨v, w1, w2⟩ := e.val j d q
      exact ⟨v, w1, w2.mono (fun _ _ q _ => q) sub⟩
  · by_cases hj : i = j
    · subst hj
      rw [List.getElem?_set_self hi] at q
      cases q
    · rw [List.getElem?_set_ne hj] at q
      obtain ⟨b, ws, w1, w2, w3, w4⟩ := e.own j es q
      refine ⟨b, ws, w1, List.mem_filter.mpr ⟨w2, ?_⟩, w3, w4.mono (fun _ _ q _ => q) sub⟩
      have : b ≠ a := fun y => hj (e.dist i j a ds es z q e1 (by rw [w1, y]))
      simpa using this
  · by_cases hj : i = j
    · subst hj
      rw [List.getElem?_set_self hi] at q1
      cases q1
    · by_cases hk : i = k
      · subst hk
        rw [List.getElem?_set_self hi] at q2
        cases q2
      · rw [List.getElem?_set_ne hj] at q1
        rw [List.getElem?_set_ne hk] at q2
        exact e.dist j k b es fs q1 q2
  · rcases List.mem_append.mp q with q | q
    · exact List.mem_append_left _ q
    · exact List.mem_append_right _ (List.mem_filter.mp q).1
  · rcases hio with hio | hio
    · obtain ⟨w1, w2, es, w3⟩ := e.io b q
      refine ⟨List.mem_filter.mpr ⟨w1, ?_⟩, w2, es, by rw [List.getElem?_set_ne hio]; exact w3⟩
      have : b ≠ a := fun y => hio (e.dist i 0 a ds es z w3 e1 (by rw [w2, y]))
      simpa using this
    · rw [hio] at q; cases q
theorem z_frz (i : Nat) {x : Str} (hio : i ≠ 0 ∨ φ.io = none) (hN : X.N[i]? = some x := by rfl) (hv : Vis X.env.scope x := by first | exact Or.inl rfl | exact Or.inr (Or.inl rfl) | exact Or.inr (Or.inr rfl)) (hd : (x == ("__debug__" : Str)) = false := by decide)
    (hcd : (x == ("__classdict__" : Str)) = false := by decide) : JE X φ (.Name x pos) (xFrz i) := ⟨(pe_var hN hv hd hcd).imp fun σ H Q ⟨env, os, e, h⟩ => by
  unfold xFrz at h
  cases z : env.getD i .no with
  | no => rw [z] at h; exact h.elim
  | exc _ => rw [z] at h; exact h.elim
  | own ds =>
    rw [z] at h
    obtain ⟨v, os', e1, s, e', r⟩ := erel_frz e (getD_val z (fun q => by cases q)) hio
    exact ⟨v, e1, h v H os' Ext.refl s e' r⟩
  | val d =>
    rw [z] at h
    obtain ⟨v, e1, r⟩ := e.val i d (getD_val z (fun q => by cases q))
    exact ⟨v, e1, h.ret v (Same.refl H) e r⟩⟩
theorem o_var (i : Nat) {x : Str} (hN : X.N[i]? = some x := by rfl) (hv : Vis X.env.scope x := by first | exact Or.inl rfl | exact Or.inr (Or.inl rfl) | exact Or.inr (Or.inr rfl)) (hd : (x == ("__debug__" : Str)) = false := by decide)
    (hcd : (x == ("__classdict__" : Str)) = false := by decide) : JO X φ (.Name x pos) (oV i) := ⟨(pe_var hN hv hd hcd).imp fun σ H Q ⟨env, os, e, h⟩ => by
  unfold oV at h
  cases z : env.getD i .no with
  | no => rw [z] at h; exact h.elim
  | exc _ => rw [z] at h; exact h.elim
  | own ds =>
    rw [z] at h
    obtain ⟨a, vs, e1, m, e2, r⟩ := e.own i ds (getD_val z (fun q => by cases q))
    exact ⟨_, e1, h.ret _ (Same.refl H) e e1⟩
  | val d =>
    rw [z] at h
    obtain ⟨v, e1, r⟩ := e.val i d (getD_val z (fun q => by cases q))
    exact ⟨v, e1, h.ret v (Same.refl H) e e1⟩⟩
theorem o_exp {ex : Expr} {f : Ev} (h : JE X φ ex f) : JO X φ ex (oE f) := ⟨h.j.imp fun σ H Q ⟨env, os, e, h⟩ => ⟨env, os, e, by
  have h' := OutR.bind (relA := rD) (r := f env) h
  cases q : f env with
  | ok p =>
    rw [q] at h'
    intro v H' os' x s e' r
    obtain ⟨d, env1, os1, x1, s1, e1, r1, o⟩ := h' v H' os' x s e' r
    exact o.ret v (Same.refl _) e1 (show RD _ _ _ _ from r1)
  | err a b => rw [q] at h'; exact h'
  | stuck => rw [q] at h'; exact h'⟩⟩
end

/-! ### two operands -/
def xBin (op : D → D → Option D) (f g : Oe) : Ev := fun e => f e >>= fun p => g p.2 >>= fun q => ofO (rd p.1 q.2) >>= fun a => ofO (rd q.1 q.2) >>= fun b => ofO (op a b) >>= fun z => .ok (z, q.2)
def xUn (op : D → Option D) (f : Oe) : Ev := fun e => f e >>= fun p => ofO (rd p.1 p.2) >>= fun a => ofO (op a) >>= fun z => .ok (z, p.2)
def tBin (op : D → D → Option Bool) (f g : Oe) : Te := fun e => f e >>= fun p => g p.2 >>= fun q => ofO (rd p.1 q.2) >>= fun a => ofO (rd q.1 q.2) >>= fun b => ofO (op a b) >>= fun z => .ok (z, q.2)
/-- the operation on values does what op says on data -/
def OpS (r : R2) (op : D → D → Option D) : Prop := ∀ {x y : V} {d1 d2 z : D} {H : Hp} {av : List Addr} {Q : VK}, (∀ a ∈ av, ∃ o, H a = some o) → RB H av x d1 → RB H av y d2 → op d1 d2 = some z →
  (∀ v H', Same H H' → RD H' av v z → Q v H') → r x y H Q
def UnS (r : V → Hp → VK → Prop) (op : D → Option D) : Prop := ∀ {x : V} {d1 z : D} {H : Hp} {av : List Addr} {Q : VK}, (∀ a ∈ av, ∃ o, H a = some o) → RB H av x d1 → op d1 = some z →
  (∀ v H', Same H H' → RD H' av v z → Q v H') → r x H Q
section
variable {X : Cx} {φ : Fm} {pos : Pos} {a b : Expr} {f g : Oe}
/-- the core: both operands, then what is asked of their values -/
theorem bin_core {γ δ : Type} {relC : Rl γ δ} {R : V → V → Hp → Prop} {σ : L2.St} {H : Hp} {Q : δ → Hp → Prop} {k : D → D → VEnv → Res (γ × VEnv)}
    (hk : ∀ x y d1 d2 H2 env2 os2, ERel φ env2 σ H2 os2 → RB H2 (φ.bs ++ os2) x d1 → RB H2 (φ.bs ++ os2) y d2 → OutR X φ relC os2 σ H2 (k d1 d2 env2) Q → R x y H2)
    (h : tR X φ relC (fun e => f e >>= fun p => g p.2 >>= fun q => ofO (rd p.1 q.2) >>= fun a => ofO (rd q.1 q.2) >>= fun b => k a b q.2) σ H Q) :
    tR X φ (rO σ) f σ H fun x H1 => tR X φ (rO σ) g σ H1 fun y H2 => R x y H2 := by
  obtain ⟨env, os, e, h⟩ := h
  refine ⟨env, os, e, ?_⟩
  have h1 := OutR.bind (relA := rO σ) h
  cases q : f env with
  | stuck => rw [q] at h1; exact h1
  | err x y => rw [q] at h1; exact h1
  | ok p =>
    rw [q] at h1
    intro x H1 os1 x1 s1 e1 r1
    obtain ⟨o, env1, os1', xx, ss, ee, rr, h2⟩ := h1 x H1 os1 x1 s1 e1 r1
    refine ⟨env1, os1', ee, ?_⟩
    have h3 := OutR.bind (relA := rO σ) h2
    show OutR X φ (rO σ) os1' σ H1 (g env1) _
    cases q2 : g env1 with
    | stuck => simp only [q2] at h3; exact h3
    | err x y => simp only [q2] at h3; exact h3
    | ok p2 =>
      simp only [q2] at h3
      intro y H2 os2 x2 s2 e2 r2
      obtain ⟨o2, env2, os2', xx2, ss2, ee2, rr2, h4⟩ := h3 y H2 os2 x2 s2 e2 r2
      have r1' : rO σ H2 (φ.bs ++ os2') x o := rO.step rr xx2 ss2
      simp only [ofO_bind] at h4
      cases d1e : rd o env2 with
      | none => simp only [d1e] at h4; exact h4.elim
      | some d1 =>
        simp only [d1e] at h4
        cases d2e : rd o2 env2 with
        | none => simp only [d2e] at h4; exact h4.elim
        | some d2 =>
          simp only [d2e] at h4
          exact hk x y d1 d2 H2 env2 os2' ee2 (rd_rb ee2 r1' d1e) (rd_rb ee2 rr2 d2e) h4
theorem z_bin {op : Operator} {r : R2} {opD : D → D → Option D} (ho : OpR X (binaryOp op) r) (hs : OpS r opD) (ha : JO X φ a f) (hb : JO X φ b g) : JE X φ (.BinOp a op b pos) (xBin opD f g) :=
  ⟨(pe_op ho ha.j hb.j).imp fun σ H Q h => bin_core (X := X) (R := fun x y H2 => r x y H2 Q) (fun x y d1 d2 H2 env2 os2 e2 r1 r2 h4 => by
    obtain ⟨d, z, h5⟩ := OutR.opt h4
    exact hs e2.trk r1 r2 z fun v H' sm rv => OutR.ret h5 v sm e2 rv) h⟩
theorem z_cmp {op : CmpOp} {r : R2} {opD : D → D → Option D} (ho : OpR X (compareOp op) r) (hs : OpS r opD) (ha : JO X φ a f) (hb : JO X φ b g) (hm : behindInMarks op b = false) : JE X φ (.Compare a [op] [b] pos) (xBin opD f g) :=
  ⟨(pe_cmpR ho ha.j hb.j hm).imp fun σ H Q h => bin_core (X := X) (R := fun x y H2 => r x y H2 Q) (fun x y d1 d2 H2 env2 os2 e2 r1 r2 h4 => by
    obtain ⟨d, z, h5⟩ := OutR.opt h4
    exact hs e2.trk r1 r2 z fun v H' sm rv => OutR.ret h5 v sm e2 rv) h⟩
end
end Z

namespace Z
open PySem PySem.Spec PyProof.Rows L2

section
variable {X : Cx} {φ : Fm} {σ : L2.St} {H : Hp} {α β γ δ : Type}
theorem seq_core {relA : Rl α β} {relC : Rl γ δ} {f : VEnv → Res (α × VEnv)} {k : α × VEnv → Res (γ × VEnv)} {Q : δ → Hp → Prop} {R : β → Hp → Prop}
    (hk : ∀ v d H1 env1 os1, ERel φ env1 σ H1 os1 → relA H1 (φ.bs ++ os1) v d → OutR X φ relC os1 σ H1 (k (d, env1)) Q → R v H1)
    (h : tR X φ relC (fun e => f e >>= k) σ H Q) : tR X φ relA f σ H R := by
  obtain ⟨env, os, e, h⟩ := h
  refine ⟨env, os, e, ?_⟩
  have h1 := OutR.bind (relA := relA) (r := f env) h
  show OutR X φ relA os σ H (f env) _
  cases q : f env with
  | stuck => simp only [q] at h1; exact h1
  | err x y => simp only [q] at h1; exact h1
  | ok p =>
    simp only [q] at h1
    intro v H1 os1 x1 s1 e1 r1
    obtain ⟨d, env1, os1', xx, ss, ee, rr, h2⟩ := h1 v H1 os1 x1 s1 e1 r1
    exact hk v d H1 env1 os1' ee rr h2
/-- also how the heap came -/
theorem seq_core2 {relA : Rl α β} {relC : Rl γ δ} {f : VEnv → Res (α × VEnv)} {k : α × VEnv → Res (γ × VEnv)} {Q : δ → Hp → Prop} {R : β → Hp → Prop} {env : VEnv} {os : List Addr}
    (e : ERel φ env σ H os) (h : OutR X φ relC os σ H (f env >>= k) Q)
    (hk : ∀ v d H1 env1 os1, Ext os H H1 → Sub H os os1 → ERel φ env1 σ H1 os1 → relA H1 (φ.bs ++ os1) v d → OutR X φ relC os1 σ H1 (k (d, env1)) Q → R v H1) : tR X φ relA f σ H R := by
  refine ⟨env, os, e, ?_⟩
  have h1 := OutR.bind (relA := relA) (r := f env) h
  show OutR X φ relA os σ H (f env) _
  cases q : f env with
  | stuck => simp only [q] at h1; exact h1
  | err x y => simp only [q] at h1; exact h1
  | ok p =>
    simp only [q] at h1
    intro v H1 os1 x1 s1 e1 r1
    obtain ⟨d, env1, os1', xx, ss, ee, rr, h2⟩ := h1 v H1 os1 x1 s1 e1 r1
    exact hk v d H1 env1 os1' xx ss ee rr h2
end

/-! ### tests -/
def OpB (r : R2) (op : D → D → Option Bool) : Prop := OpS r fun a b => (op a b).map PyData.bool
abbrev bD (op : D → D → Option Bool) : D → D → Option D := fun a b => (op a b).map PyData.bool
def tV (f : Ev) : Te := fun e => f e >>= fun p => match p.1 with
  | .bool b => .ok (b, p.2)
  | _ => .stuck
def tAndZ (f g : Te) : Te := fun e => f e >>= fun p => if p.1 = true then g p.2 else .ok (false, p.2)
def tOrZ (f g : Te) : Te := fun e => f e >>= fun p => if p.1 = true then .ok (true, p.2) else g p.2
def tNotZ (f : Te) : Te := fun e => f e >>= fun p => .ok (!p.1, p.2)
def xAnd (f g : Ev) : Ev := fun e => f e >>= fun p => match p.1 with
  | .bool true => g p.2
  | .bool false => .ok (.bool false, p.2)
  | _ => .stuck
def xOr (f g : Ev) : Ev := fun e => f e >>= fun p => match p.1 with
  | .bool true => .ok (.bool true, p.2)
  | .bool false => g p.2
  | _ => .stuck
def xNot (f : Ev) : Ev := fun e => f e >>= fun p => match p.1 with
  | .bool b => .ok (.bool (!b), p.2)
  | _ => .stuck
def xIf (t : Te) (f g : Ev) : Ev := fun e => t e >>= fun p => if p.1 = true then f p.2 else g p.2
def xTest (t : Te) : Ev := fun e => t e >>= fun p => .ok (.bool p.1, p.2)

theorem OpB.ap {r : R2} {op : D → D → Option Bool} (hs : OpB r op) {x y : V} {d1 d2 : D} {b : Bool} {H : Hp} {av : List Addr} {Q : VK} (trk : ∀ a ∈ av, ∃ o, H a = some o) (r1 : RB H av x d1) (r2 : RB H av y d2) (z : op d1 d2 = some b)
    (q : ∀ H', Same H H' → Q (.bl b) H') : r x y H Q := by
  refine hs (z := .bool b) trk r1 r2 ?_ fun v H' sm rv => ?_
  · show (op d1 d2).map PyData.bool = _
    rw [z]; rfl
  · cases rv
    exact q H' sm
structure JW (X : Cx) (φ : Fm) (e : Expr) (f : Te) : Prop where
  j : PW X e (tR X φ rB f)
section
variable {X : Cx} {φ : Fm} {pos : Pos} {a b c e : Expr} {rest : List Expr}
theorem t_cmp {f g : Oe} {op : CmpOp} {r : R2} {opB : D → D → Option Bool} (ho : OpR X (compareOp op) r) (hs : OpB r opB) (ha : JO X φ a f) (hb : JO X φ b g) (hm : behindInMarks op b = false) : JT X φ (.Compare a [op] [b] pos) (tBin opB f g) :=
  ⟨(pt_cmpR ho ha.j hb.j hm).imp fun σ H Q h => bin_core (X := X) (relC := rB) (k := fun a b e => ofO (opB a b) >>= fun z => .ok (z, e)) (R := fun x y H2 => r x y H2 fun x H' => ∃ k, x = .bl k ∧ Q k H') (fun x y d1 d2 H2 env2 os2 e2 r1 r2 h4 => by
    obtain ⟨d, z, h5⟩ := OutR.opt h4
    exact hs.ap e2.trk r1 r2 z fun H' sm => ⟨d, rfl, OutR.ret h5 d sm e2 rfl⟩) h⟩
theorem t_val {f : Ev} (h : JE X φ e f) (he : ∀ whole, isTrue e X.env whole = (do let v ← whole; standAt e.pos; holding [v] (truthy v)) := by intro _; rfl) : JT X φ e (tV f) :=
  ⟨(pt_val h.j he).imp fun σ H Q h => seq_core (relA := rD) (fun v d H1 env1 os1 e1 r1 h2 => by
    cases d with
    | bool k => cases r1; exact ⟨k, rfl, OutR.ret h2 k (Same.refl _) e1 rfl⟩
    | none => exact h2.elim
    | int _ => exact h2.elim
    | str _ => exact h2.elim
    | list _ => exact h2.elim
    | tuple _ => exact h2.elim
    | dict _ => exact h2.elim) h⟩
theorem w_and1 {f : Te} (h : JT X φ a f) : JW X φ (.BoolOp .And [a] pos) f := ⟨pw_and1 h.j⟩
theorem w_or1 {f : Te} (h : JT X φ a f) : JW X φ (.BoolOp .Or [a] pos) f := ⟨pw_or1 h.j⟩
theorem _root_.L2.PW.imp {X : Cx} {e : Expr} {t t' : TT} (h : PW X e t) (k : ∀ σ H Q, t' σ H Q → t σ H Q) : PW X e t' := ⟨fun w pins s σ H Q I q => h.run w pins s σ H Q I (k σ H Q q)⟩
theorem w_and {f g : Te} (h : JT X φ a f) (h' : JW X φ (.BoolOp .And (b :: rest) pos) g) : JW X φ (.BoolOp .And (a :: b :: rest) pos) (tAndZ f g) :=
  ⟨(pw_and h.j h'.j).imp fun σ H Q h => seq_core (X := X) (relA := rB) (fun v d H1 env1 os1 e1 r1 h2 => by
    have r1 : v = d := r1
    subst r1
    cases v with
    | true => exact ⟨env1, os1, e1, h2⟩
    | false => exact OutR.ret h2 false (Same.refl _) e1 rfl) h⟩
theorem w_or {f g : Te} (h : JT X φ a f) (h' : JW X φ (.BoolOp .Or (b :: rest) pos) g) : JW X φ (.BoolOp .Or (a :: b :: rest) pos) (tOrZ f g) :=
  ⟨(pw_or h.j h'.j).imp fun σ H Q h => seq_core (X := X) (relA := rB) (fun v d H1 env1 os1 e1 r1 h2 => by
    have r1 : v = d := r1
    subst r1
    cases v with
    | false => exact ⟨env1, os1, e1, h2⟩
    | true => exact OutR.ret h2 true (Same.refl _) e1 rfl) h⟩
theorem t_w {f : Te} (h : JW X φ e f) : JT X φ e f := ⟨h.j.pt⟩
theorem t_not {f : Te} (h : JT X φ a f) : JT X φ (.UnaryOp .Not a pos) (tNotZ f) :=
  ⟨(pt_not h.j).imp fun σ H Q h => seq_core (X := X) (relA := rB) (fun v d H1 env1 os1 e1 r1 h2 => by
    have r1 : v = d := r1
    subst r1
    exact OutR.ret h2 (!v) (Same.refl _) e1 rfl) h⟩
theorem z_one {op} {f : Ev} (h : JE X φ a f) : JE X φ (.BoolOp op [a] pos) f := ⟨pe_one h.j⟩
theorem z_and {f g : Ev} (h : JE X φ a f) (h' : JE X φ (.BoolOp .And (b :: rest) pos) g) : JE X φ (.BoolOp .And (a :: b :: rest) pos) (xAnd f g) :=
  ⟨(pe_and h.j h'.j).imp fun σ H Q h => seq_core (X := X) (relA := rD) (fun v d H1 env1 os1 e1 r1 h2 => by
    cases d with
    | bool k =>
      cases r1
      refine ⟨k, rfl, ?_⟩
      cases k with
      | true => exact ⟨env1, os1, e1, h2⟩
      | false => exact OutR.ret h2 (.bl false) (Same.refl _) e1 (.bl false)
    | none => exact h2.elim
    | int _ => exact h2.elim
    | str _ => exact h2.elim
    | list _ => exact h2.elim
    | tuple _ => exact h2.elim
    | dict _ => exact h2.elim) h⟩
theorem z_or {f g : Ev} (h : JE X φ a f) (h' : JE X φ (.BoolOp .Or (b :: rest) pos) g) : JE X φ (.BoolOp .Or (a :: b :: rest) pos) (xOr f g) :=
  ⟨(pe_or h.j h'.j).imp fun σ H Q h => seq_core (X := X) (relA := rD) (fun v d H1 env1 os1 e1 r1 h2 => by
    cases d with
    | bool k =>
      cases r1
      refine ⟨k, rfl, ?_⟩
      cases k with
      | false => exact ⟨env1, os1, e1, h2⟩
      | true => exact OutR.ret h2 (.bl true) (Same.refl _) e1 (.bl true)
    | none => exact h2.elim
    | int _ => exact h2.elim
    | str _ => exact h2.elim
    | list _ => exact h2.elim
    | tuple _ => exact h2.elim
    | dict _ => exact h2.elim) h⟩
theorem z_not {f : Ev} (h : JE X φ a f) : JE X φ (.UnaryOp .Not a pos) (xNot f) :=
  ⟨(pe_not h.j).imp fun σ H Q h => seq_core (X := X) (relA := rD) (fun v d H1 env1 os1 e1 r1 h2 => by
    cases d with
    | bool k => cases r1; exact ⟨k, rfl, OutR.ret h2 (.bl (!k)) (Same.refl _) e1 (.bl (!k))⟩
    | none => exact h2.elim
    | int _ => exact h2.elim
    | str _ => exact h2.elim
    | list _ => exact h2.elim
    | tuple _ => exact h2.elim
    | dict _ => exact h2.elim) h⟩
theorem z_if {t : Te} {f g : Ev} (hc : JT X φ c t) (h : JE X φ a f) (h' : JE X φ b g) : JE X φ (.IfExp c a b pos) (xIf t f g) :=
  ⟨(pe_ifExp hc.j h.j h'.j).imp fun σ H Q h => seq_core (X := X) (relA := rB) (fun v d H1 env1 os1 e1 r1 h2 => by
    have r1 : v = d := r1
    subst r1
    cases v with
    | true => exact ⟨env1, os1, e1, h2⟩
    | false => exact ⟨env1, os1, e1, h2⟩) h⟩
theorem z_un {f : Oe} {op : UnaryOp} {r : V → Hp → VK → Prop} {opD : D → Option D} (ho : UnR X (unaryOp op) r) (hs : UnS r opD) (ha : JO X φ a f) : JE X φ (.UnaryOp op a pos) (xUn opD f) :=
  ⟨(pe_un ho ha.j).imp fun σ H Q h => seq_core (X := X) (relA := rO σ) (fun v o H1 env1 os1 e1 r1 h2 => by
    obtain ⟨d, z, h3⟩ := OutR.opt h2
    obtain ⟨y, z2, h4⟩ := OutR.opt h3
    exact hs e1.trk (rd_rb e1 r1 z) z2 fun v' H' sm rv => OutR.ret h4 v' sm e1 rv) h⟩
/-- a op b op' c, the middle asked once -/
def tChain3 (op op' : D → D → Option Bool) (f g k : Oe) : Te := fun e => f e >>= fun p => g p.2 >>= fun q => ofO (rd p.1 q.2) >>= fun a => ofO (rd q.1 q.2) >>= fun b => ofO (op a b) >>= fun z =>
  if z = true then (k q.2 >>= fun r => ofO (rd q.1 r.2) >>= fun b' => ofO (rd r.1 r.2) >>= fun c => ofO (op' b' c) >>= fun w => .ok (w, r.2)) else .ok (false, q.2)
theorem chain_core {op op' : D → D → Option Bool} {f g k : Oe} {r r' : R2} {σ : L2.St} {H : Hp} {Q : Bool → Hp → Prop} {QT : VK} (hs : OpB r op) (hs' : OpB r' op')
    (h : tR X φ rB (tChain3 op op' f g k) σ H Q) (hq : ∀ b H, Q b H → QT (.bl b) H) :
    tChain r r' (fun σ => tR X φ (rO σ) f σ) (fun σ => tR X φ (rO σ) g σ) (fun σ => tR X φ (rO σ) k σ) σ H QT := by
  obtain ⟨env, os, e, h⟩ := h
  refine seq_core2 (relA := rO σ) e h fun x o1 H1 env1 os1 x1 s1 e1 r1 h1 => ?_
  refine seq_core2 (relA := rO σ) e1 h1 fun y o2 H2 env2 os2 x2 s2 e2 r2 h2 => ?_
  obtain ⟨d1, z1, h3⟩ := OutR.opt h2
  obtain ⟨d2, z2, h4⟩ := OutR.opt h3
  obtain ⟨b, z3, h5⟩ := OutR.opt h4
  have r1' := rO.step r1 x2 s2
  refine hs.ap e2.trk (rd_rb e2 r1' z1) (rd_rb e2 r2 z2) z3 fun H3 sm => ⟨b, rfl, ?_⟩
  cases b with
  | false => exact hq _ _ (OutR.ret h5 false sm e2 rfl)
  | true =>
    rw [if_pos rfl]
    have e3 := e2.same sm
    have h6 := OutR.later (Ext.of_same sm) Sub.refl h5
    refine seq_core2 (relA := rO σ) e3 h6 fun w o3 H4 env4 os4 x4 s4 e4 r4 h7 => ?_
    obtain ⟨d2', z4, h8⟩ := OutR.opt h7
    obtain ⟨d3, z5, h9⟩ := OutR.opt h8
    obtain ⟨b2, z6, h10⟩ := OutR.opt h9
    have r2' := rO.step (rO.step r2 (Ext.of_same sm) (Sub.refl (os := os2))) x4 s4
    exact hs'.ap e4.trk (rd_rb e4 r2' z4) (rd_rb e4 r4 z5) z6 fun H5 sm5 => hq _ _ (OutR.ret h10 b2 sm5 e4 rfl)
theorem t_chain {op op' : CmpOp} {opB opB' : D → D → Option Bool} {f g k : Oe} {r r' : R2} (ho : OpR X (compareOp op) r) (hs : OpB r opB) (ho' : OpR X (compareOp op') r') (hs' : OpB r' opB') (ha : JO X φ a f) (hb : JO X φ b g) (hc : JO X φ c k)
    (hm : lastMarks [op, op'] [b, c] = false := by with_unfolding_all rfl) : JT X φ (.Compare a [op, op'] [b, c] pos) (tChain3 opB opB' f g k) :=
  ⟨(pt_chain ho ho' ha.j hb.j hc.j hm).imp fun σ H Q h => chain_core (QT := fun x H' => ∃ k, x = .bl k ∧ Q k H') hs hs' h fun b H q => ⟨b, rfl, q⟩⟩
theorem z_chain {op op' : CmpOp} {opB opB' : D → D → Option Bool} {f g k : Oe} {r r' : R2} (ho : OpR X (compareOp op) r) (hs : OpB r opB) (ho' : OpR X (compareOp op') r') (hs' : OpB r' opB') (ha : JO X φ a f) (hb : JO X φ b g) (hc : JO X φ c k)
    (hm : lastMarks [op, op'] [b, c] = false := by with_unfolding_all rfl) : JE X φ (.Compare a [op, op'] [b, c] pos) (xTest (tChain3 opB opB' f g k)) :=
  ⟨(pe_chain ho ho' ha.j hb.j hc.j hm).imp fun σ H Q h => chain_core (X := X) (Q := fun b H => Q (.bl b) H) hs hs' (seq_core (X := X) (relA := rB) (fun v d H1 env1 os1 e1 r1 h2 => by
    have r1 : v = d := r1
    subst r1
    exact OutR.ret h2 (.bl v) (Same.refl _) e1 (.bl v)) h) fun b H q => q⟩
end
end Z

namespace Z
open PySem PySem.Spec PyProof.Rows L2

section
variable {X : Cx} {pins : List (Addr × Obj)} {σ : L2.St} {H : Hp} {s : Shared} {av : List Addr}
mutual
theorem RD.reads (I : Inv X pins σ H s) : ∀ (d : D) (v : V) (u : Value), RD H av v d → RelV v u → ∃ as, Reads s.heap u d as
  | .none, _, _, h, r => by cases h; cases r; exact ⟨_, .none⟩
  | .bool b, _, _, h, r => by cases h; cases r; exact ⟨_, .bool b⟩
  | .int i, _, _, h, r => by cases h; obtain ⟨t, rfl⟩ := r; exact ⟨_, .int i t⟩
  | .str x, _, _, h, r => by cases h; obtain ⟨t, rfl⟩ := r; exact ⟨_, .str x t⟩
  | .list ds, _, _, h, r => by
    cases h with
    | lst e ne q =>
      cases r
      obtain ⟨its, rv, ⟨o, n, ho, hc, _, hd⟩, _⟩ := I.list (SqL.of e)
      obtain ⟨as, hr⟩ := RDs.reads I ds _ its q rv
      exact ⟨_, .list ho hc hd hr⟩
  | .tuple ds, _, _, h, r => by
    cases h with
    | tup e ne q =>
      cases r
      obtain ⟨its, rv, ⟨o, ho, hc, n, hd⟩, _⟩ := I.tuple (SqT.of e)
      obtain ⟨as, hr⟩ := RDs.reads I ds _ its q rv
      exact ⟨_, .tuple ho hc hd hr⟩
  | .dict kvs, _, _, h, r => by
    cases h with
    | dct e ne =>
      cases r
      obtain ⟨_, _, vs, hkv, o, es, ep, ho, hx, hd, hq⟩ := I.hok _ _ e
      cases hkv
      have e0 : es.toList = [] := by
        generalize es.toList = l at hq
        cases l with
        | nil => rfl
        | cons a b => cases hq.2.1
      exact ⟨_, .dict (kvs := []) ho hx.1 hd (by rw [e0]; exact .nil) (by rw [e0]; exact .nil)⟩
theorem RDs.reads (I : Inv X pins σ H s) : ∀ (ds : List D) (vs : List V) (us : List Value), RDs H av vs ds → Vals vs us → ∃ as, ReadsAll s.heap us ds as
  | [], _, _, h, r => by cases h; cases r; exact ⟨_, .nil⟩
  | d :: ds, _, _, h, r => by
    cases h with
    | cons h1 h2 =>
      cases r with
      | cons r1 r2 =>
        obtain ⟨as, q1⟩ := RD.reads I d _ _ h1 r1
        obtain ⟨bs, q2⟩ := RDs.reads I ds _ _ h2 r2
        exact ⟨_, .cons q1 q2⟩
end
theorem RB.reads (I : Inv X pins σ H s) {d : D} {v : V} {u : Value} (h : RB H av v d) (r : RelV v u) : ∃ as, Reads s.heap u d as := by
  cases h with
  | of h => exact h.reads I d v u r
  | own e q =>
    cases r
    obtain ⟨its, rv, ⟨o, n, ho, hc, _, hd⟩, _⟩ := I.list (SqL.of e)
    obtain ⟨as, hr⟩ := RDs.reads I _ _ its q rv
    exact ⟨_, .list ho hc hd hr⟩
end
/-- operations that tell a scalar of data: rules by what the library says over Reads -/
def rTell (op : D → D → Option Bool) : R2 := fun x y H Q => ∃ d1 d2 av b, RB H av x d1 ∧ RB H av y d2 ∧ op d1 d2 = some b ∧ Q (.bl b) H
theorem rTell_s {op : D → D → Option Bool} : OpB (rTell op) op := fun {x y d1 d2 z H av Q} trk r1 r2 e q => by
  have e' : (op d1 d2).map PyData.bool = some z := e
  cases w : op d1 d2 with
  | none => rw [w] at e'; cases e'
  | some b =>
    rw [w] at e'
    cases e'
    exact ⟨d1, d2, av, b, r1, r2, w, q (.bl b) H (Same.refl H) (.bl b)⟩
theorem op_tell {X : Cx} {f : Value → Value → Sem Value} {op : D → D → Option Bool}
    (h : ∀ (M : Model) (E : Value → Shared → Prop) (Q : Value → Shared → Prop) (s : Shared) (u1 u2 : Value) (d1 d2 : D) (as bs : List Addr) (b : Bool), M = model X.prog X.w → Reads s.heap u1 d1 as → Reads s.heap u2 d2 bs → op d1 d2 = some b → Q (.bool b) s → wpAny M X.A (f u1 u2) Q E s) :
    OpR X f (rTell op) := by
  intro pins s σ H x y v u Q I rx ry q
  obtain ⟨d1, d2, av, b, r1, r2, e, q⟩ := q
  obtain ⟨as, R1⟩ := r1.reads I rx
  obtain ⟨bs, R2⟩ := r2.reads I ry
  exact h _ _ _ s v u d1 d2 as bs b rfl R1 R2 e ⟨.bl b, H, I, rfl, q⟩

def shape (d : D) : Bool := d.plain && decide (d.depth ≤ 60)
def eqD : D → D → Option Bool
  | .int i, .int j => some (decide (i = j))
  | a, b => if shape a && shape b then some (PyData.eqv a b) else none
def neD : D → D → Option Bool
  | .int i, .int j => some (!decide (i = j))
  | a, b => if shape a && shape b then some (!PyData.eqv a b) else none
def isNone : D → Bool
  | .none => true
  | _ => false
def okLt (a b : D) : Bool := PySem.W.alike a b && !isNone a && decide (a.depth ≤ 60)
def ltD : D → D → Option Bool
  | .int i, .int j => some (decide (i < j))
  | a, b => if okLt a b then some (PySem.W.dataLt a b) else none
def leD : D → D → Option Bool
  | .int i, .int j => some (decide (i ≤ j))
  | a, b => if okLt a b then some (!PySem.W.dataLt b a) else none
def gtD : D → D → Option Bool
  | .int i, .int j => some (decide (j < i))
  | a, b => if okLt a b then some (PySem.W.dataLt b a) else none
def geD : D → D → Option Bool
  | .int i, .int j => some (decide (j ≤ i))
  | a, b => if okLt a b then some (!PySem.W.dataLt a b) else none
section
variable {X : Cx}
theorem shape_of {a b : D} (h : (shape a && shape b) = true) : a.plain = true ∧ b.plain = true ∧ a.depth ≤ 60 := by
  simp only [shape, Bool.and_eq_true, decide_eq_true_eq] at h
  exact ⟨h.1.1, h.2.1, h.1.2⟩
theorem eqD_gen {a b : D} {k : Bool} (h : eqD a b = some k) : (∃ i j, a = .int i ∧ b = .int j ∧ k = decide (i = j)) ∨ ((shape a && shape b) = true ∧ k = PyData.eqv a b) := by
  unfold eqD at h
  split at h
  · exact .inl ⟨_, _, rfl, rfl, (Option.some.inj h).symm⟩
  · split at h
    · next hs => exact .inr ⟨hs, (Option.some.inj h).symm⟩
    · cases h
theorem neD_gen {a b : D} {k : Bool} (h : neD a b = some k) : (∃ i j, a = .int i ∧ b = .int j ∧ k = !decide (i = j)) ∨ ((shape a && shape b) = true ∧ k = !PyData.eqv a b) := by
  unfold neD at h
  split at h
  · exact .inl ⟨_, _, rfl, rfl, (Option.some.inj h).symm⟩
  · split at h
    · next hs => exact .inr ⟨hs, (Option.some.inj h).symm⟩
    · cases h
theorem shape_int (i : Int) : shape (.int i) = true := rfl
theorem eqv_int (i j : Int) : PyData.eqv (.int i) (.int j) = decide (i = j) := by
  show (i == j) = _
  rw [Bool.beq_eq_decide_eq]
theorem o_eq (hu : X.A.units + 64 < cLine) : OpR X (compareOp .Eq) (rTell eqD) := op_tell fun M E Q s u1 u2 d1 d2 as bs b hM R1 R2 e q => by
  subst hM
  have k : (shape d1 && shape d2) = true ∧ b = PyData.eqv d1 d2 := by
    rcases eqD_gen e with ⟨i, j, rfl, rfl, rfl⟩ | h
    · exact ⟨rfl, (eqv_int i j).symm⟩
    · exact h
  obtain ⟨p1, p2, dp⟩ := shape_of k.1
  rw [k.2] at q
  exact PySem.SeqAt.eq_plain R1 R2 p1 p2 (by omega) q
theorem o_ne (hu : X.A.units + 64 < cLine) : OpR X (compareOp .NotEq) (rTell neD) := op_tell fun M E Q s u1 u2 d1 d2 as bs b hM R1 R2 e q => by
  subst hM
  have k : (shape d1 && shape d2) = true ∧ b = !PyData.eqv d1 d2 := by
    rcases neD_gen e with ⟨i, j, rfl, rfl, rfl⟩ | h
    · exact ⟨rfl, by rw [eqv_int i j]⟩
    · exact h
  obtain ⟨p1, p2, dp⟩ := shape_of k.1
  rw [k.2] at q
  exact PySem.SeqAt.ne_plain R1 R2 p1 p2 (by omega) q
theorem okLt_of {a b : D} (h : okLt a b = true) : PySem.W.alike a b = true ∧ a ≠ .none ∧ a.depth ≤ 60 := by
  simp only [okLt, Bool.and_eq_true, decide_eq_true_eq, Bool.not_eq_true'] at h
  exact ⟨h.1.1, fun z => by rw [z] at h; exact absurd h.1.2 (by simp [isNone]), h.2⟩
theorem okLt_int (i j : Int) : okLt (.int i) (.int j) = true := rfl
theorem o_lt (hu : X.A.units + 64 < cLine) : OpR X (compareOp .Lt) (rTell ltD) := op_tell fun M E Q s u1 u2 d1 d2 as bs b hM R1 R2 e q => by
  subst hM
  have k : okLt d1 d2 = true ∧ b = PySem.W.dataLt d1 d2 := by
    unfold ltD at e
    split at e
    · exact ⟨rfl, by rw [PySem.W.dataLt_int]; exact (Option.some.inj e).symm⟩
    · split at e
      · next h => exact ⟨h, (Option.some.inj e).symm⟩
      · cases e
  obtain ⟨p1, p2, dp⟩ := okLt_of k.1
  rw [k.2] at q
  exact PySem.W.lt_data R1 R2 p1 p2 (by omega) q
theorem o_gt (hu : X.A.units + 64 < cLine) : OpR X (compareOp .Gt) (rTell gtD) := op_tell fun M E Q s u1 u2 d1 d2 as bs b hM R1 R2 e q => by
  subst hM
  have k : okLt d1 d2 = true ∧ b = PySem.W.dataLt d2 d1 := by
    unfold gtD at e
    split at e
    · exact ⟨rfl, by rw [PySem.W.dataLt_int]; exact (Option.some.inj e).symm⟩
    · split at e
      · next h => exact ⟨h, (Option.some.inj e).symm⟩
      · cases e
  obtain ⟨p1, p2, dp⟩ := okLt_of k.1
  rw [k.2] at q
  exact PySem.W.gt_data R1 R2 p1 p2 (by omega) q
theorem o_le (hu : X.A.units + 64 < cLine) : OpR X (compareOp .LtE) (rTell leD) := op_tell fun M E Q s u1 u2 d1 d2 as bs b hM R1 R2 e q => by
  subst hM
  have k : okLt d1 d2 = true ∧ b = !PySem.W.dataLt d2 d1 := by
    unfold leD at e
    split at e
    · exact ⟨rfl, by rw [PySem.W.dataLt_int, PySem.W.not_lt_int]; exact (Option.some.inj e).symm⟩
    · split at e
      · next h => exact ⟨h, (Option.some.inj e).symm⟩
      · cases e
  obtain ⟨p1, p2, dp⟩ := okLt_of k.1
  rw [k.2] at q
  exact PySem.W.le_data R1 R2 p1 p2 (by omega) q
theorem o_ge (hu : X.A.units + 64 < cLine) : OpR X (compareOp .GtE) (rTell geD) := op_tell fun M E Q s u1 u2 d1 d2 as bs b hM R1 R2 e q => by
  subst hM
  have k : okLt d1 d2 = true ∧ b = !PySem.W.dataLt d1 d2 := by
    unfold geD at e
    split at e
    · exact ⟨rfl, by rw [PySem.W.dataLt_int, PySem.W.not_lt_int]; exact (Option.some.inj e).symm⟩
    · split at e
      · next h => exact ⟨h, (Option.some.inj e).symm⟩
      · cases e
  obtain ⟨p1, p2, dp⟩ := okLt_of k.1
  rw [k.2] at q
  exact PySem.W.ge_data R1 R2 p1 p2 (by omega) q
end
end Z

namespace Z
open PySem PySem.Spec PyProof.Rows L2

/-! ### in, is -/
def inD : D → D → Option Bool
  | x, .list xs => if shape x && shape (.list xs) then some (xs.any fun y => PyData.eqv y x) else none
  | x, .tuple xs => if shape x && shape (.tuple xs) then some (xs.any fun y => PyData.eqv y x) else none
  | .str a, .str b => some (!(Builtin.Str.occurrences b a 0 b.length 1).isEmpty)
  | _, _ => none
def notInD (x y : D) : Option Bool := (inD x y).map (!·)
def isND (x : D) (y : D) : Option Bool := match y with
  | .none => some (isNone x)
  | .bool b => (match x with
    | .bool a => some (decide (a = b))
    | _ => none)
  | _ => none
def notND (x : D) (y : D) : Option Bool := match y with
  | .none => some (!isNone x)
  | .bool b => (match x with
    | .bool a => some (!decide (a = b))
    | _ => none)
  | _ => none
theorem OpB.or_l {r r' : R2} {op : D → D → Option Bool} (h : OpB r op) : OpB (fun x y H Q => r x y H Q ∨ r' x y H Q) op := fun a b c d e => .inl (h a b c d e)
section
variable {X : Cx}
theorem shape_list {x : D} {xs : List D} (h : (shape x && shape (.list xs)) = true) : x.plain = true ∧ PyData.plainAll xs = true ∧ x.depth ≤ 60 := by
  simp only [shape, Bool.and_eq_true, decide_eq_true_eq, PyData.plain] at h
  exact ⟨h.1.1, h.2.1, h.1.2⟩
theorem shape_tuple {x : D} {xs : List D} (h : (shape x && shape (.tuple xs)) = true) : x.plain = true ∧ PyData.plainAll xs = true ∧ x.depth ≤ 60 := by
  simp only [shape, Bool.and_eq_true, decide_eq_true_eq, PyData.plain] at h
  exact ⟨h.1.1, h.2.1, h.1.2⟩
def rInZ (op : D → D → Option Bool) (neg : Bool) : R2 := fun x y H Q => rTell op x y H Q ∨ ∃ i j, x = .str i ∧ y = .str j ∧ Q (.bl (if neg = true then !(!(Builtin.Str.occurrences j i 0 j.length 1).isEmpty) else !(Builtin.Str.occurrences j i 0 j.length 1).isEmpty)) H
def inSeq : D → D → Option Bool
  | x, .list xs => if shape x && shape (.list xs) then some (xs.any fun y => PyData.eqv y x) else none
  | x, .tuple xs => if shape x && shape (.tuple xs) then some (xs.any fun y => PyData.eqv y x) else none
  | _, _ => none
theorem o_inSeq (hu : X.A.units + 64 < cLine) : OpR X (compareOp .In) (rTell inSeq) := op_tell fun M E Q s u1 u2 d1 d2 as bs b hM R1 R2 e q => by
  subst hM
  unfold inSeq at e
  split at e
  · split at e
    · next h =>
      obtain ⟨p1, p2, dp⟩ := shape_list h
      cases e
      exact PySem.SeqAt.in_list_data R2 R1 p2 p1 (by omega) q
    · cases e
  · split at e
    · next h =>
      obtain ⟨p1, p2, dp⟩ := shape_tuple h
      cases e
      exact PySem.SeqAt.in_tuple_data R2 R1 p2 p1 (by omega) q
    · cases e
  · cases e
theorem o_notInSeq (hu : X.A.units + 64 < cLine) : OpR X (compareOp .NotIn) (rTell fun x y => (inSeq x y).map (!·)) := op_tell fun M E Q s u1 u2 d1 d2 as bs b hM R1 R2 e q => by
  subst hM
  unfold inSeq at e
  split at e
  · split at e
    · next h =>
      obtain ⟨p1, p2, dp⟩ := shape_list h
      cases e
      exact PySem.SeqAt.notIn_list_data R2 R1 p2 p1 (by omega) q
    · cases e
  · split at e
    · next h =>
      obtain ⟨p1, p2, dp⟩ := shape_tuple h
      cases e
      exact PySem.SeqAt.notIn_tuple_data R2 R1 p2 p1 (by omega) q
    · cases e
  · cases e
abbrev rIn' : R2 := fun x y H Q => rTell inSeq x y H Q ∨ ∃ i j, x = .str i ∧ y = .str j ∧ Q (.bl (!(Builtin.Str.occurrences j i 0 j.length 1).isEmpty)) H
abbrev rNotIn' : R2 := fun x y H Q => rTell (fun x y => (inSeq x y).map (!·)) x y H Q ∨ ∃ i j, x = .str i ∧ y = .str j ∧ Q (.bl (!(!(Builtin.Str.occurrences j i 0 j.length 1).isEmpty))) H
theorem o_in (hu : X.A.units + 64 < cLine) : OpR X (compareOp .In) rIn' := (o_inSeq hu).or op_in_str
theorem o_notIn (hu : X.A.units + 64 < cLine) : OpR X (compareOp .NotIn) rNotIn' := (o_notInSeq hu).or op_notin_str
theorem inD_cases {x y : D} {b : Bool} (h : inD x y = some b) : inSeq x y = some b ∨ ∃ i j, x = .str i ∧ y = .str j ∧ b = !(Builtin.Str.occurrences j i 0 j.length 1).isEmpty := by
  unfold inD at h
  split at h
  · exact .inl h
  · exact .inl h
  · exact .inr ⟨_, _, rfl, rfl, (Option.some.inj h).symm⟩
  · cases h
theorem s_in : OpB rIn' inD := fun {x y d1 d2 z H av Q} trk r1 r2 e q => by
  have e' : (inD d1 d2).map PyData.bool = some z := e
  cases w : inD d1 d2 with
  | none => rw [w] at e'; cases e'
  | some b =>
    rw [w] at e'
    cases e'
    rcases inD_cases w with k | ⟨i, j, rfl, rfl, rfl⟩
    · exact .inl ⟨d1, d2, av, b, r1, r2, k, q (.bl b) H (Same.refl H) (.bl b)⟩
    · exact .inr ⟨i, j, r1.str, r2.str, q (.bl _) H (Same.refl H) (.bl _)⟩
theorem s_notIn : OpB rNotIn' notInD := fun {x y d1 d2 z H av Q} trk r1 r2 e q => by
  have e' : ((inD d1 d2).map (!·)).map PyData.bool = some z := e
  cases w : inD d1 d2 with
  | none => rw [w] at e'; cases e'
  | some b =>
    rw [w] at e'
    cases e'
    rcases inD_cases w with k | ⟨i, j, rfl, rfl, rfl⟩
    · exact .inl ⟨d1, d2, av, !b, r1, r2, by show (inSeq d1 d2).map (!·) = _; rw [k]; rfl, q (.bl _) H (Same.refl H) (.bl _)⟩
    · exact .inr ⟨i, j, r1.str, r2.str, q (.bl _) H (Same.refl H) (.bl _)⟩
abbrev rIsN : R2 := fun x y H Q => y = .non ∧ Q (.bl (decide (x = .non))) H
abbrev rNotN : R2 := fun x y H Q => y = .non ∧ Q (.bl (!decide (x = .non))) H
theorem isNone_rb {H : Hp} {av : List Addr} {x : V} {d : D} (r : RB H av x d) : decide (x = .non) = isNone d := by
  cases r with
  | of r => cases r <;> simp [isNone]
  | own e r => simp [isNone]
abbrev rIsNB : R2 := fun x y H Q => rIsN x y H Q ∨ rIsB x y H Q
abbrev rNotNB : R2 := fun x y H Q => rNotN x y H Q ∨ rNotB x y H Q
theorem s_isN : OpB rIsNB isND := fun {x y d1 d2 z H av Q} trk r1 r2 e q => by
  cases d2 with
  | none => cases e; exact .inl ⟨r2.none, by rw [isNone_rb r1]; exact q (.bl _) H (Same.refl H) (.bl _)⟩
  | bool b =>
    cases d1 with
    | bool a => cases e; exact .inr ⟨a, b, r1.bool, r2.bool, q (.bl _) H (Same.refl H) (.bl _)⟩
    | none => cases e
    | int _ => cases e
    | str _ => cases e
    | list _ => cases e
    | tuple _ => cases e
    | dict _ => cases e
  | int _ => cases e
  | str _ => cases e
  | list _ => cases e
  | tuple _ => cases e
  | dict _ => cases e
theorem s_notN : OpB rNotNB notND := fun {x y d1 d2 z H av Q} trk r1 r2 e q => by
  cases d2 with
  | none => cases e; exact .inl ⟨r2.none, by rw [isNone_rb r1]; exact q (.bl _) H (Same.refl H) (.bl _)⟩
  | bool b =>
    cases d1 with
    | bool a => cases e; exact .inr ⟨a, b, r1.bool, r2.bool, q (.bl _) H (Same.refl H) (.bl _)⟩
    | none => cases e
    | int _ => cases e
    | str _ => cases e
    | list _ => cases e
    | tuple _ => cases e
    | dict _ => cases e
  | int _ => cases e
  | str _ => cases e
  | list _ => cases e
  | tuple _ => cases e
  | dict _ => cases e
theorem op_isNB : OpR X (compareOp .Is) rIsNB := op_isN.or op_isBl
theorem op_notNB : OpR X (compareOp .IsNot) rNotNB := op_notN.or op_notBl
end

/-! ### arithmetic -/
def small (i : Int) : Bool := decide (i.natAbs < 2 ^ 64)
def addD : D → D → Option D
  | .int i, .int j => some (.int (i + j))
  | .str i, .str j => if i.length + j.length ≤ sizeLine then some (.str (i ++ j)) else none
  | .tuple xs, .tuple ys => if xs.length + ys.length ≤ sizeLine then some (.tuple (xs ++ ys)) else none
  | .list xs, .list ys => if xs.length + ys.length ≤ sizeLine then some (.list (xs ++ ys)) else none
  | _, _ => none
def subD : D → D → Option D
  | .int i, .int j => some (.int (i - j))
  | _, _ => none
def mulD : D → D → Option D
  | .int i, .int j => if small i || small j || decide (i.natAbs.log2 + j.natAbs.log2 < 1000000) then some (.int (i * j)) else none
  | .list xs, .int k => if decide (-(2 ^ 63) ≤ k) && decide (k < 2 ^ 63) && decide (xs.length * k.toNat ≤ sizeLine) then some (.list (List.replicate k.toNat xs).flatten) else none
  | .tuple xs, .int k => if !xs.isEmpty && decide (2 ≤ k) && decide (k ≤ 1000) && decide (xs.length ≤ 1000) then some (.tuple (List.replicate k.toNat xs).flatten) else none
  | _, _ => none
def divD : D → D → Option D
  | .int i, .int j => if decide (j ≠ 0) && decide (j.natAbs < 1073741824) then some (.int (i.fdiv j)) else if decide (0 < j) && decide (j.natAbs.log2 < 9000) then some (.int (i / j)) else none
  | _, _ => none
def modD : D → D → Option D
  | .int i, .int j => if j = 0 then none else some (.int (i.fmod j))
  | _, _ => none
def powD : D → D → Option D
  | .int i, .int j => if decide (0 ≤ j) && decide (j ≤ 1000000) && small i then some (.int (i ^ j.toNat)) else none
  | _, _ => none
def negD : D → Option D
  | .int i => some (.int (-i))
  | _ => none
section
variable {X : Cx}
abbrev rAddS : R2 := fun x y H Q => ∃ i j, x = .str i ∧ y = .str j ∧ i.length + j.length ≤ sizeLine ∧ Q (.str (i ++ j)) H
abbrev rAddZ (K : PySem.W.Frag) : R2 := fun x y H Q => rI0 (fun i j => .int (i + j)) x y H Q ∨ (rAddS x y H Q ∨ (rCatA K x y H Q ∨ rCat x y H Q))
theorem o_add : OpR X (binaryOp .Add) (rAddZ X.K) := op_add.or (op_add_str.or (op_catA.or op_cat))
theorem new_ref {av : List Addr} {H : Hp} {p : Addr} (trk : ∀ a ∈ av, ∃ o, H a = some o) (n : H p = none) : p ∉ av := fun m => by
  obtain ⟨o, e⟩ := trk p m
  rw [n] at e; cases e
theorem RDs.nil_iff {H : Hp} {av : List Addr} {vs : List V} {ds : List D} (r : RDs H av vs ds) : vs = [] ↔ ds = [] := by
  cases r with
  | nil => simp
  | cons _ _ => simp
theorem s_add {K : PySem.W.Frag} : OpS (rAddZ K) addD := fun {x y d1 d2 z H av Q} trk r1 r2 e q => by
  unfold addD at e
  split at e
  · cases e; exact .inl ⟨_, _, r1.int, r2.int, q _ H (Same.refl H) (.int _)⟩
  · split at e
    · next h => cases e; exact .inr (.inl ⟨_, _, r1.str, r2.str, h, q _ H (Same.refl H) (.str _)⟩)
    · cases e
  · split at e
    · next xs ys h =>
      cases e
      obtain ⟨a, vs, rfl, e1, n1, q1⟩ := r1.tuple
      obtain ⟨b, ws, rfl, e2, n2, q2⟩ := r2.tuple
      refine .inr (.inr (.inl ⟨a, b, vs, ws, rfl, rfl, SqT.of e1, SqT.of e2, by rw [q1.length, q2.length]; exact h, fun h0 => ?_, fun h0 h1 => ?_, fun h0 h1 p n => ?_⟩))
      · exact q _ H (Same.refl H) (by rw [q1.nil_iff.mp h0]; exact .tup e2 n2 q2)
      · exact q _ H (Same.refl H) (by rw [q2.nil_iff.mp h1, List.append_nil]; exact .tup e1 n1 q1)
      · exact q _ _ (same_upd n) (.tup upd_same (new_ref trk n) ((q1.same (same_upd n)).append (q2.same (same_upd n))))
    · cases e
  · split at e
    · next xs ys h =>
      cases e
      obtain ⟨a, vs, rfl, e1, q1⟩ := r1.list
      obtain ⟨b, ws, rfl, e2, q2⟩ := r2.list
      exact .inr (.inr (.inr ⟨a, b, vs, ws, rfl, rfl, e1, e2, by rw [q1.length, q2.length]; exact h, fun p n => q _ _ (same_upd n) (.lst upd_same (new_ref trk n) ((q1.same (same_upd n)).append (q2.same (same_upd n))))⟩))
    · cases e
  · cases e
theorem o_sub : OpR X (binaryOp .Sub) (rI0 fun i j => .int (i - j)) := op_sub
theorem s_sub : OpS (rI0 fun i j => .int (i - j)) subD := fun {x y d1 d2 z H av Q} trk r1 r2 e q => by
  unfold subD at e
  split at e
  · cases e; exact ⟨_, _, r1.int, r2.int, q _ H (Same.refl H) (.int _)⟩
  · cases e
abbrev rMulZ (K : PySem.W.Frag) : R2 := fun x y H Q => rI CMul (fun i j => .int (i * j)) x y H Q ∨ (rI CMulW (fun i j => .int (i * j)) x y H Q ∨ (rRep x y H Q ∨ rRepT K x y H Q))
theorem o_mul : OpR X (binaryOp .Mult) (rMulZ X.K) := op_mul.or (op_mulW.or (op_rep.or op_repT))
theorem small_of {i : Int} (h : small i = true) : -(2 ^ 64) < i ∧ i < 2 ^ 64 := by
  have h' := of_decide_eq_true h
  omega
theorem s_mul {K : PySem.W.Frag} : OpS (rMulZ K) mulD := fun {x y d1 d2 z H av Q} trk r1 r2 e q => by
  unfold mulD at e
  split at e
  · split at e
    · next i j h =>
      cases e
      simp only [Bool.or_eq_true, decide_eq_true_eq] at h
      rcases h with (h | h) | h
      · exact .inl ⟨_, _, r1.int, r2.int, .inl (small_of h), q _ H (Same.refl H) (.int _)⟩
      · exact .inl ⟨_, _, r1.int, r2.int, .inr (small_of h), q _ H (Same.refl H) (.int _)⟩
      · exact .inr (.inl ⟨_, _, r1.int, r2.int, h, q _ H (Same.refl H) (.int _)⟩)
    · cases e
  · split at e
    · next xs k h =>
      cases e
      simp only [Bool.and_eq_true, decide_eq_true_eq] at h
      obtain ⟨a, vs, rfl, e1, q1⟩ := r1.list
      exact .inr (.inr (.inl ⟨a, k, vs, rfl, r2.int, e1, h.1.1, h.1.2, by rw [q1.length]; exact h.2, fun p n => q _ _ (same_upd n) (.lst upd_same (new_ref trk n) ((q1.same (same_upd n)).replicate _))⟩))
    · cases e
  · split at e
    · next xs k h =>
      cases e
      simp only [Bool.and_eq_true, decide_eq_true_eq, Bool.not_eq_true'] at h
      obtain ⟨a, vs, rfl, e1, n1, q1⟩ := r1.tuple
      have hne : vs ≠ [] := fun z => by
        have := q1.nil_iff.mp z
        rw [this] at h
        exact absurd h.1.1.1 (by simp)
      exact .inr (.inr (.inr ⟨a, k, vs, rfl, r2.int, SqT.of e1, hne, h.1.1.2, h.1.2, by rw [q1.length]; exact h.2, fun p n => q _ _ (same_upd n) (.tup upd_same (new_ref trk n) ((q1.same (same_upd n)).replicate _))⟩))
    · cases e
  · cases e
abbrev rDivZ : R2 := fun x y H Q => rI CDivN (fun i j => .int (i.fdiv j)) x y H Q ∨ rI CDivW (fun i j => .int (i / j)) x y H Q
theorem o_div : OpR X (binaryOp .FloorDiv) rDivZ := op_fdivN.or op_fdivW
theorem s_div : OpS rDivZ divD := fun {x y d1 d2 z H av Q} trk r1 r2 e q => by
  unfold divD at e
  split at e
  · split at e
    · next i j h =>
      cases e
      simp only [Bool.and_eq_true, decide_eq_true_eq] at h
      exact .inl ⟨_, _, r1.int, r2.int, h, q _ H (Same.refl H) (.int _)⟩
    · split at e
      · next i j h0 h =>
        cases e
        simp only [Bool.and_eq_true, decide_eq_true_eq] at h
        exact .inr ⟨_, _, r1.int, r2.int, h, q _ H (Same.refl H) (.int _)⟩
      · cases e
  · cases e
theorem o_mod : OpR X (binaryOp .Mod) (rI (fun _ j => j ≠ 0) fun i j => .int (i.fmod j)) := op_modN
theorem s_mod : OpS (rI (fun _ j => j ≠ 0) fun i j => .int (i.fmod j)) modD := fun {x y d1 d2 z H av Q} trk r1 r2 e q => by
  unfold modD at e
  split at e
  · split at e
    · cases e
    · next i j h => cases e; exact ⟨_, _, r1.int, r2.int, h, q _ H (Same.refl H) (.int _)⟩
  · cases e
theorem o_pow : OpR X (binaryOp .Pow) (rI CPow fun i j => .int (i ^ j.toNat)) := op_pow
theorem s_pow : OpS (rI CPow fun i j => .int (i ^ j.toNat)) powD := fun {x y d1 d2 z H av Q} trk r1 r2 e q => by
  unfold powD at e
  split at e
  · split at e
    · next i j h =>
      cases e
      simp only [Bool.and_eq_true, decide_eq_true_eq, small] at h
      exact ⟨_, _, r1.int, r2.int, ⟨h.1.1, h.1.2, h.2⟩, q _ H (Same.refl H) (.int _)⟩
    · cases e
  · cases e
theorem o_neg : UnR X (unaryOp .USub) (rU fun i => .int (-i)) := un_neg
theorem s_neg : UnS (rU fun i => .int (-i)) negD := fun {x d1 z H av Q} trk r1 e q => by
  unfold negD at e
  split at e
  · cases e; exact ⟨_, r1.int, q _ H (Same.refl H) (.int _)⟩
  · cases e
end
end Z

namespace Z
open PySem PySem.Spec PyProof.Rows L2

/-! ### argument lists, displays -/
def arNil : Ar := fun e => .ok ([], e)
def arCons (f : Ev) (g : Ar) : Ar := fun e => f e >>= fun p => g p.2 >>= fun q => .ok (p.1 :: q.1, q.2)
def xTup (f : Ar) : Ev := fun e => f e >>= fun p => if p.1.length ≤ sizeLine then .ok (.tuple p.1, p.2) else .stuck
def xLst (f : Ar) : Ev := fun e => f e >>= fun p => if p.1.length ≤ sizeLine then .ok (.list p.1, p.2) else .stuck
section
variable {X : Cx} {φ : Fm} {pos : Pos} {e : Expr} {es : List Expr}
theorem a_nil : JA X φ [] arNil := ⟨pa_nil.imp fun σ H Q ⟨env, os, e, h⟩ => OutR.ret h [] (Same.refl H) e .nil⟩
theorem a_cons {f : Ev} {g : Ar} (h1 : JE X φ e f) (h2 : JA X φ es g) (hs : starEach (e :: es) X.env = (false, eval e X.env) :: starEach es X.env := by rfl) : JA X φ (e :: es) (arCons f g) :=
  ⟨(pa_cons h1.j h2.j hs).imp fun σ H Q h => by
    obtain ⟨env, os, e, h⟩ := h
    refine seq_core2 (relA := rD) e h fun v d H1 env1 os1 x1 s1 e1 r1 h1 => ?_
    refine seq_core2 (relA := rDs) e1 h1 fun vs ds H2 env2 os2 x2 s2 e2 r2 h2 => ?_
    exact OutR.ret h2 (v :: vs) (Same.refl _) e2 (.cons (RD.step r1 x2 s2) r2)⟩
theorem z_tup {f : Ar} {x1} (h : JA X φ es f) : JE X φ (.Tuple es x1 pos) (xTup f) :=
  ⟨(pe_tup h.j).imp fun σ H Q h => by
    obtain ⟨env, os, e, h⟩ := h
    refine seq_core2 (relA := rDs) e h fun vs ds H1 env1 os1 x1 s1 e1 r1 h1 => ?_
    by_cases hz : ds.length ≤ sizeLine
    · rw [if_pos hz] at h1
      exact ⟨by rw [r1.length]; exact hz, fun p n => OutR.ret h1 _ (same_upd n) e1 (.tup upd_same (new_ref e1.trk n) (r1.same (same_upd n)))⟩
    · rw [if_neg hz] at h1; exact h1.elim⟩
theorem z_lst {f : Ar} (h : JA X φ es f) : JE X φ (.List es pos) (xLst f) :=
  ⟨(pe_lst h.j).imp fun σ H Q h => by
    obtain ⟨env, os, e, h⟩ := h
    refine seq_core2 (relA := rDs) e h fun vs ds H1 env1 os1 x1 s1 e1 r1 h1 => ?_
    by_cases hz : ds.length ≤ sizeLine
    · rw [if_pos hz] at h1
      exact ⟨by rw [r1.length]; exact hz, fun p n => OutR.ret h1 _ (same_upd n) e1 (.lst upd_same (new_ref e1.trk n) (r1.same (same_upd n)))⟩
    · rw [if_neg hz] at h1; exact h1.elim⟩
/-- {} -/
theorem z_dict0 : JE X φ (.Dict [] [] pos) (xC (.dict [])) := ⟨pe_dnewK.imp fun σ H Q ⟨env, os, e, h⟩ => fun p n => OutR.ret h (.ref p) (same_upd n) e (.dct upd_same (new_ref e.trk n))⟩
end

/-! ### subscripts -/
def ixD : D → D → Option D
  | .list xs, .int i => atI xs i
  | .tuple xs, .int i => atI xs i
  | .str z, .int i => if z.length ≤ sizeLine then (atI z.cps.toList i).map fun c => .str ⟨#[c]⟩ else none
  | _, _ => none
def cutG {α : Type} (xs : List α) (lo hi : Option Int) : List α := (xs.drop (HT.sIx xs.length 0 lo)).take (HT.sIx xs.length xs.length hi - HT.sIx xs.length 0 lo)
def cutD (lo hi : Option Int) : D → Option D
  | .list xs => some (.list (cutG xs lo hi))
  | .tuple xs => some (.tuple (cutG xs lo hi))
  | .str z => if z.length ≤ sizeLine then some (.str (cutS z lo hi)) else none
  | _ => none
section
variable {X : Cx} {φ : Fm} {pos p2 : Pos} {a b : Expr} {f g : Oe}
theorem RDs.atI {H : Hp} {av : List Addr} {vs : List V} {ds : List D} {i : Int} {d : D} (r : RDs H av vs ds) (h : L2.atI ds i = some d) : ∃ v, L2.atI vs i = some v ∧ RD H av v d := by
  unfold L2.atI at h ⊢
  rw [r.length]
  cases z : ixN ds.length i with
  | none => rw [z] at h; cases h
  | some j =>
    rw [z] at h
    obtain ⟨v, e, q⟩ := r.get (i := j) (d := d) h
    exact ⟨v, e, q⟩
theorem s_ix {K : PySem.W.Frag} : OpS (rIx K) ixD := fun {x y d1 d2 z H av Q} trk r1 r2 e q => by
  unfold ixD at e
  split at e
  · obtain ⟨p, vs, rfl, e1, q1⟩ := r1.list
    obtain ⟨v, e2, q2⟩ := q1.atI e
    exact .inl ⟨p, vs, _, v, rfl, r2.int, SqL.of e1, e2, q v H (Same.refl H) q2⟩
  · obtain ⟨p, vs, rfl, e1, n1, q1⟩ := r1.tuple
    obtain ⟨v, e2, q2⟩ := q1.atI e
    exact .inr (.inl ⟨p, vs, _, v, rfl, r2.int, SqT.of e1, e2, q v H (Same.refl H) q2⟩)
  · split at e
    · next s i hz =>
      cases w : L2.atI s.cps.toList i with
      | none => rw [w] at e; cases e
      | some c =>
        rw [w] at e
        cases e
        exact .inr (.inr ⟨s, i, c, r1.str, r2.int, hz, w, q _ H (Same.refl H) (.str _)⟩)
    · cases e
  · cases e
theorem z_ix (ha : JO X φ a f) (hb : JO X φ b g) (hs : PlainIx b) : JE X φ (.Subscript a b pos) (xBin ixD f g) :=
  ⟨(pe_ix ix_seq ha.j hb.j hs).imp fun σ H Q h => bin_core (X := X) (R := fun x y H2 => rIx X.K x y H2 Q) (fun x y d1 d2 H2 env2 os2 e2 r1 r2 h4 => by
    obtain ⟨d, z, h5⟩ := OutR.opt h4
    exact s_ix e2.trk r1 r2 z fun v H' sm rv => OutR.ret h5 v sm e2 rv) h⟩

abbrev Pt := VEnv → Res (Option Int × VEnv)
def ptNo : Pt := fun e => .ok (none, e)
def ptSome (f : Ev) : Pt := fun e => f e >>= fun p => match p.1 with
  | .int i => .ok (some i, p.2)
  | _ => .stuck
abbrev rP : Rl (Option Int) (Option Int) := fun _ _ b d => b = d
structure JP (X : Cx) (φ : Fm) (e : Option Expr) (f : Pt) : Prop where
  j : PO X e (tR X φ rP f)
theorem _root_.L2.PO.imp {X : Cx} {e : Option Expr} {t t' : TO} (h : PO X e t) (k : ∀ σ H Q, t' σ H Q → t σ H Q) : PO X e t' := ⟨fun pins s σ H Q I q => h.run pins s σ H Q I (k σ H Q q)⟩
theorem p_none : JP X φ none ptNo := ⟨po_none.imp fun σ H Q ⟨env, os, e, h⟩ => OutR.ret h none (Same.refl H) e rfl⟩
theorem p_some {f : Ev} (h : JE X φ a f) : JP X φ (some a) (ptSome f) := ⟨(po_some h.j).imp fun σ H Q h => seq_core (X := X) (relA := rD) (fun v d H1 env1 os1 e1 r1 h2 => by
  cases d with
  | int k => cases r1; exact ⟨k, rfl, OutR.ret h2 (some k) (Same.refl _) e1 rfl⟩
  | none => exact h2.elim
  | bool _ => exact h2.elim
  | str _ => exact h2.elim
  | list _ => exact h2.elim
  | tuple _ => exact h2.elim
  | dict _ => exact h2.elim) h⟩
def xSl (f : Oe) (lo hi : Pt) : Ev := fun e => f e >>= fun p => lo p.2 >>= fun l => hi l.2 >>= fun u => ofO (rd p.1 u.2) >>= fun a => ofO (cutD l.1 u.1 a) >>= fun z => .ok (z, u.2)
def rSlZ (K : PySem.W.Frag) : V → Option Int → Option Int → Hp → VK → Prop := fun x lo hi H Q => rSlL K x lo hi H Q ∨ (rSlA K x lo hi H Q ∨ rSlS x lo hi H Q)
theorem RDs.cut {H : Hp} {av : List Addr} {vs : List V} {ds : List D} (r : RDs H av vs ds) (lo hi : Option Int) : RDs H av (cutV vs lo hi) (cutG ds lo hi) := by
  unfold cutV cutG
  rw [r.length]
  exact (r.drop _).take _
theorem cut_whole {α : Type} (xs : List α) (lo hi : Option Int) (h : HT.sIx xs.length 0 lo = 0 ∧ HT.sIx xs.length xs.length hi = xs.length) : cutG xs lo hi = xs := by
  unfold cutG
  rw [h.1, h.2]
  simp
theorem s_cut {K : PySem.W.Frag} {x : V} {lo hi : Option Int} {d z : D} {H : Hp} {av : List Addr} {Q : VK} (trk : ∀ a ∈ av, ∃ o, H a = some o) (r1 : RB H av x d) (e : cutD lo hi d = some z)
    (q : ∀ v H', Same H H' → RD H' av v z → Q v H') : rSlZ K x lo hi H Q := by
  unfold cutD at e
  split at e
  · cases e
    obtain ⟨p, vs, rfl, e1, q1⟩ := r1.list
    exact .inl ⟨p, vs, rfl, SqL.of e1, fun p n => q _ _ (same_upd n) (.lst upd_same (new_ref trk n) ((q1.cut lo hi).same (same_upd n)))⟩
  · next xs =>
    cases e
    obtain ⟨p, vs, rfl, e1, n1, q1⟩ := r1.tuple
    refine .inr (.inl ⟨p, vs, rfl, SqT.of e1, fun h0 => ?_, fun _ p n => q _ _ (same_upd n) (.tup upd_same (new_ref trk n) ((q1.cut lo hi).same (same_upd n)))⟩)
    refine q _ H (Same.refl H) ?_
    rw [cut_whole xs lo hi (by rw [← q1.length]; exact h0)]
    exact .tup e1 n1 q1
  · split at e
    · next s hz => cases e; exact .inr (.inr ⟨s, r1.str, hz, q _ H (Same.refl H) (.str _)⟩)
    · cases e
  · cases e
theorem z_slice {lo hi : Option Expr} {fl fu : Pt} (ha : JO X φ a f) (hl : JP X φ lo fl) (hu : JP X φ hi fu) : JE X φ (.Subscript a (.Slice lo hi none p2) pos) (xSl f fl fu) :=
  ⟨(pe_slice (r := rSlZ X.K) (sl_list.or (sl_tupA.or sl_str)) ha.j hl.j hu.j).imp fun σ H Q h => by
    obtain ⟨env, os, e, h⟩ := h
    refine seq_core2 (relA := rO σ) e h fun x o H1 env1 os1 x1 s1 e1 r1 h1 => ?_
    refine seq_core2 (relA := rP) e1 h1 fun l l' H2 env2 os2 x2 s2 e2 r2 h2 => ?_
    refine seq_core2 (relA := rP) e2 h2 fun u u' H3 env3 os3 x3 s3 e3 r3 h3 => ?_
    have r2 : l = l' := r2
    have r3 : u = u' := r3
    subst r2 r3
    obtain ⟨d, z, h4⟩ := OutR.opt h3
    obtain ⟨y, z2, h5⟩ := OutR.opt h4
    have r1' := rO.step (rO.step r1 x2 s2) x3 s3
    exact s_cut e3.trk (rd_rb e3 r1' z) z2 fun v' H' sm rv => OutR.ret h5 v' sm e3 rv⟩
end
end Z

namespace Z
open PySem PySem.Spec PySem.Calls PyProof.Rows PyProof.V L2

abbrev rCl := List V → Hp → VK → Prop
def C1S (r : rCl) (op : D → Option D) : Prop := ∀ {x : V} {d z : D} {H : Hp} {av : List Addr} {Q : VK}, (∀ a ∈ av, ∃ o, H a = some o) → RB H av x d → op d = some z → (∀ v H', Same H H' → RD H' av v z → Q v H') → r [x] H Q
def C2S (r : rCl) (op : D → D → Option D) : Prop := ∀ {x y : V} {d e z : D} {H : Hp} {av : List Addr} {Q : VK}, (∀ a ∈ av, ∃ o, H a = some o) → RB H av x d → RB H av y e → op d e = some z → (∀ v H', Same H H' → RD H' av v z → Q v H') → r [x, y] H Q
section
variable {X : Cx} {φ : Fm} {pos p : Pos} {a b : Expr} {f g : Oe}
theorem one_core {r : rCl} {op : D → Option D} (hs : C1S r op) {σ : L2.St} {H : Hp} {Q : VK} (h : tR X φ rD (xUn op f) σ H Q) : tR X φ (rO σ) f σ H fun x H1 => r [x] H1 Q :=
  seq_core (X := X) (relA := rO σ) (fun v o H1 env1 os1 e1 r1 h2 => by
    obtain ⟨d, z, h3⟩ := OutR.opt h2
    obtain ⟨y, z2, h4⟩ := OutR.opt h3
    exact hs e1.trk (rd_rb e1 r1 z) z2 fun v' H' sm rv => OutR.ret h4 v' sm e1 rv) h
/-- f(a), f a built-in function -/
theorem z_b1 {x : Str} {id : String} {r : rCl} {op : D → Option D} (hc : CallR X (.builtin id) r) (hs : C1S r op) (hg : Gl X x) (hm : X.mg x = none) (hv : bootBuiltins x = some (.builtin id)) (ha : JO X φ a f) (hn : x ≠ "__name__" := by decide)
    (hdb : (x == ("__debug__" : Str)) = false := by decide) (he : starEach [a] X.env = (false, eval a X.env) :: starEach [] X.env := by rfl) (hpl : (backTo pos (starEach [] X.env)).any (·.1) = false := by rfl) : JE X φ (.Call (.Name x p) [a] [] pos) (xUn op f) :=
  ⟨(pe_callB hc hg hm hv (pa_cons ha.j pa_nil he) hn hdb he hpl).imp fun σ H Q h => one_core hs h⟩
theorem z_t1 {x : Str} {id : String} {r : rCl} {op : D → Option D} (hc : CallR X (.type id) r) (hs : C1S r op) (hg : Gl X x) (hm : X.mg x = none) (hv : bootBuiltins x = some (.type id)) (ha : JO X φ a f) (hn : x ≠ "__name__" := by decide)
    (hdb : (x == ("__debug__" : Str)) = false := by decide) (he : starEach [a] X.env = (false, eval a X.env) :: starEach [] X.env := by rfl) (hpl : (backTo pos (starEach [] X.env)).any (·.1) = false := by rfl) : JE X φ (.Call (.Name x p) [a] [] pos) (xUn op f) :=
  ⟨(pe_callTy hc hg hm hv (pa_cons ha.j pa_nil he) hn hdb he hpl).imp fun σ H Q h => one_core hs h⟩
theorem two_core {r : rCl} {op : D → D → Option D} (hs : C2S r op) {σ : L2.St} {H : Hp} {Q : VK} (h : tR X φ rD (xBin op f g) σ H Q) : tR X φ (rO σ) f σ H fun x H1 => tR X φ (rO σ) g σ H1 fun y H2 => r [x, y] H2 Q :=
  bin_core (X := X) (relC := rD) (k := fun a b e => ofO (op a b) >>= fun z => .ok (z, e)) (R := fun x y H2 => r [x, y] H2 Q) (fun x y d1 d2 H2 env2 os2 e2 r1 r2 h4 => by
    obtain ⟨d, z, h5⟩ := OutR.opt h4
    exact hs e2.trk r1 r2 z fun v H' sm rv => OutR.ret h5 v sm e2 rv) h
theorem z_b2 {x : Str} {id : String} {r : rCl} {op : D → D → Option D} (hc : CallR X (.builtin id) r) (hs : C2S r op) (hg : Gl X x) (hm : X.mg x = none) (hv : bootBuiltins x = some (.builtin id)) (ha : JO X φ a f) (hb : JO X φ b g) (hn : x ≠ "__name__" := by decide)
    (hdb : (x == ("__debug__" : Str)) = false := by decide) (hb1 : starEach [b] X.env = (false, eval b X.env) :: starEach [] X.env := by rfl) (he : starEach [a, b] X.env = (false, eval a X.env) :: starEach [b] X.env := by rfl) (hpl : (backTo pos (starEach [b] X.env)).any (·.1) = false := by rfl) :
    JE X φ (.Call (.Name x p) [a, b] [] pos) (xBin op f g) :=
  ⟨(pe_callB hc hg hm hv (pa_cons ha.j (pa_cons hb.j pa_nil hb1) he) hn hdb he hpl).imp fun σ H Q h => two_core hs h⟩
end

/-! ### what they say on data -/
def lenD : D → Option D
  | .list xs => some (.int xs.length)
  | .tuple xs => some (.int xs.length)
  | .str z => if z.length ≤ sizeLine then some (.int z.length) else none
  | _ => none
def absD : D → Option D
  | .int i => some (.int (if i < 0 then -i else i))
  | _ => none
def intD : D → Option D
  | .int i => some (.int i)
  | .bool k => some (.int (if k then 1 else 0))
  | _ => none
def boolsOf : List D → Option (List Bool)
  | [] => some []
  | .bool b :: r => (boolsOf r).map (b :: ·)
  | _ => none
def intsOf : List D → Option (List Int)
  | [] => some []
  | .int b :: r => (intsOf r).map (b :: ·)
  | _ => none
theorem boolsOf_eq : ∀ {ds : List D} {bs : List Bool}, boolsOf ds = some bs → ds = bs.map .bool
  | [], _, h => by cases h; rfl
  | .bool b :: r, _, h => by
    have h' : (boolsOf r).map (b :: ·) = some _ := h
    cases z : boolsOf r with
    | none => rw [z] at h'; cases h'
    | some bs => rw [z] at h'; cases h'; rw [boolsOf_eq z]; rfl
  | .none :: _, _, h => by cases h
  | .int _ :: _, _, h => by cases h
  | .str _ :: _, _, h => by cases h
  | .list _ :: _, _, h => by cases h
  | .tuple _ :: _, _, h => by cases h
  | .dict _ :: _, _, h => by cases h
theorem intsOf_eq : ∀ {ds : List D} {bs : List Int}, intsOf ds = some bs → ds = bs.map .int
  | [], _, h => by cases h; rfl
  | .int b :: r, _, h => by
    have h' : (intsOf r).map (b :: ·) = some _ := h
    cases z : intsOf r with
    | none => rw [z] at h'; cases h'
    | some bs => rw [z] at h'; cases h'; rw [intsOf_eq z]; rfl
  | .none :: _, _, h => by cases h
  | .bool _ :: _, _, h => by cases h
  | .str _ :: _, _, h => by cases h
  | .list _ :: _, _, h => by cases h
  | .tuple _ :: _, _, h => by cases h
  | .dict _ :: _, _, h => by cases h
theorem boolsOf_map : ∀ bs : List Bool, boolsOf (bs.map .bool) = some bs
  | [] => rfl
  | b :: bs => by simp [boolsOf, boolsOf_map bs]
theorem intsOf_map : ∀ bs : List Int, intsOf (bs.map .int) = some bs
  | [] => rfl
  | b :: bs => by simp [intsOf, intsOf_map bs]
def allD : D → Option D
  | .list xs => (boolsOf xs).map fun bs => .bool (bs.all id)
  | _ => none
def anyD : D → Option D
  | .list xs => (boolsOf xs).map fun bs => .bool (bs.any id)
  | _ => none
def sumD : D → Option D
  | .list xs => (intsOf xs).map fun bs => .int bs.sum
  | .tuple xs => (intsOf xs).map fun bs => .int bs.sum
  | _ => none
def maxI : List Int → Option Int
  | [] => none
  | x :: r => some (r.foldl max x)
def minI : List Int → Option Int
  | [] => none
  | x :: r => some (r.foldl min x)
def maxD' : D → Option D
  | .list xs => (intsOf xs).bind fun bs => (maxI bs).map .int
  | _ => none
def minD' : D → Option D
  | .list xs => (intsOf xs).bind fun bs => (minI bs).map .int
  | _ => none
def tupD : D → Option D
  | .list xs => some (.tuple xs)
  | .tuple xs => some (.tuple xs)
  | _ => none
def lstD : D → Option D
  | .list xs => some (.list xs)
  | .tuple xs => some (.list xs)
  | _ => none
section
variable {X : Cx}
theorem b_len : CallR X (.builtin "len") (fun xs H Q => ∃ x n, xs = [x] ∧ LenV X.K x H n ∧ Q (.int n) H) := call_len
theorem s_len {K : PySem.W.Frag} : C1S (fun xs H Q => ∃ x n, xs = [x] ∧ LenV K x H n ∧ Q (.int n) H) lenD := fun {x d z H av Q} trk r e q => by
  unfold lenD at e
  split at e
  · cases e
    obtain ⟨a, vs, rfl, e1, q1⟩ := r.list
    exact ⟨_, vs.length, rfl, .inl ⟨vs, SqL.of e1, rfl⟩, q _ H (Same.refl H) (by rw [q1.length]; exact .int _)⟩
  · cases e
    obtain ⟨a, vs, rfl, e1, _, q1⟩ := r.tuple
    exact ⟨_, vs.length, rfl, .inr ⟨vs, SqT.of e1, rfl⟩, q _ H (Same.refl H) (by rw [q1.length]; exact .int _)⟩
  · split at e
    · next s hz =>
      cases e
      rw [r.str]
      exact ⟨_, s.length, rfl, ⟨hz, rfl⟩, q _ H (Same.refl H) (.int _)⟩
    · cases e
  · cases e
theorem s_abs : C1S (fun xs H Q => ∃ i, xs = [.int i] ∧ Q (.int (if i < 0 then -i else i)) H) absD := fun {x d z H av Q} trk r e q => by
  unfold absD at e
  split at e
  · cases e; rw [r.int]; exact ⟨_, rfl, q _ H (Same.refl H) (.int _)⟩
  · cases e
theorem s_int : C1S (fun xs H Q => (∃ i, xs = [.int i] ∧ Q (.int i) H) ∨ ∃ k, xs = [.bl k] ∧ Q (.int (if k then 1 else 0)) H) intD := fun {x d z H av Q} trk r e q => by
  unfold intD at e
  split at e
  · cases e; rw [r.int]; exact .inl ⟨_, rfl, q _ H (Same.refl H) (.int _)⟩
  · cases e; rw [r.bool]; exact .inr ⟨_, rfl, q _ H (Same.refl H) (.int _)⟩
  · cases e
theorem s_all {K : PySem.W.Frag} : C1S (rAll K) allD := fun {x d z H av Q} trk r e q => by
  unfold allD at e
  split at e
  · next xs =>
    cases w : boolsOf xs with
    | none => rw [w] at e; cases e
    | some bs =>
      rw [w] at e
      cases e
      obtain ⟨a, vs, rfl, e1, q1⟩ := r.list
      rw [boolsOf_eq w] at q1
      have := q1.of_bools
      subst this
      exact ⟨a, bs, rfl, SqL.of e1, q _ H (Same.refl H) (.bl _)⟩
  · cases e
theorem s_any {K : PySem.W.Frag} : C1S (rAny K) anyD := fun {x d z H av Q} trk r e q => by
  unfold anyD at e
  split at e
  · next xs =>
    cases w : boolsOf xs with
    | none => rw [w] at e; cases e
    | some bs =>
      rw [w] at e
      cases e
      obtain ⟨a, vs, rfl, e1, q1⟩ := r.list
      rw [boolsOf_eq w] at q1
      have := q1.of_bools
      subst this
      exact ⟨a, bs, rfl, SqL.of e1, q _ H (Same.refl H) (.bl _)⟩
  · cases e
/-- sum(t) of a tuple of ints -/
def rSumT (K : PySem.W.Frag) : rCl := fun vs H Q => ∃ (a : Addr) (ns : List Int), vs = [V.ref a] ∧ SqT K H a (ns.map V.int) ∧ Q (.int ns.sum) H
theorem cr_sumT (hc : X.calm = true) : CallR X (.builtin "sum") (rSumT X.K) := by
  intro pins s σ H vs us Q I r h
  obtain ⟨a, ns, rfl, hs, q⟩ := h
  obtain ⟨its, rv, ht, _⟩ := I.tuple hs
  rw [Vals.ref1 r]
  have hi := rv.ints
  obtain ⟨xs, hx⟩ := hi.allInts.items
  have hn : numsOf its.toArray.toList = ns := by rw [show its.toArray.toList = its from rfl, hi.numsOf]
  rw [hx] at ht hn
  rw [nums_intItems] at hn
  refine PySem.W.ktm_sumG (I.ok.hd hc) (show s.heap.IsTuple a (intItems xs) from ht) fun h' tk t' hk => ⟨.int _, H, I.kept hk, ⟨t', ?_⟩, q⟩
  rw [preSum_eq, List.take_of_length_le (by simp), hn]
abbrev rSumZ (K : PySem.W.Frag) : rCl := fun xs H Q => rSum K xs H Q ∨ rSumT K xs H Q
theorem b_sum (hc : X.calm = true) : CallR X (.builtin "sum") (rSumZ X.K) := (cr_sum hc).or (cr_sumT hc)
theorem s_sum {K : PySem.W.Frag} : C1S (rSumZ K) sumD := fun {x d z H av Q} trk r e q => by
  unfold sumD at e
  split at e
  · next xs =>
    cases w : intsOf xs with
    | none => rw [w] at e; cases e
    | some bs =>
      rw [w] at e
      cases e
      obtain ⟨a, vs, rfl, e1, q1⟩ := r.list
      rw [intsOf_eq w] at q1
      have := q1.of_ints
      subst this
      exact .inl ⟨a, bs, rfl, SqL.of e1, q _ H (Same.refl H) (.int _)⟩
  · next xs =>
    cases w : intsOf xs with
    | none => rw [w] at e; cases e
    | some bs =>
      rw [w] at e
      cases e
      obtain ⟨a, vs, rfl, e1, _, q1⟩ := r.tuple
      rw [intsOf_eq w] at q1
      have := q1.of_ints
      subst this
      exact .inr ⟨a, bs, rfl, SqT.of e1, q _ H (Same.refl H) (.int _)⟩
  · cases e
theorem foldl_max_mem : ∀ (r : List Int) (x : Int), r.foldl max x = x ∨ r.foldl max x ∈ r
  | [], x => .inl rfl
  | y :: r, x => by
    rw [List.foldl_cons]
    rcases foldl_max_mem r (max x y) with h | h
    · rw [h]
      by_cases hxy : x ≤ y
      · rw [Int.max_eq_right hxy]; exact .inr List.mem_cons_self
      · rw [Int.max_eq_left (by omega)]; exact .inl rfl
    · exact .inr (List.mem_cons_of_mem _ h)
theorem foldl_max_ge : ∀ (r : List Int) (x : Int), x ≤ r.foldl max x ∧ ∀ y ∈ r, y ≤ r.foldl max x
  | [], x => ⟨Int.le_refl x, by simp⟩
  | y :: r, x => by
    rw [List.foldl_cons]
    obtain ⟨h1, h2⟩ := foldl_max_ge r (max x y)
    refine ⟨by omega, fun z hz => ?_⟩
    rcases List.mem_cons.mp hz with rfl | hz
    · omega
    · exact h2 z hz
theorem foldl_min_mem : ∀ (r : List Int) (x : Int), r.foldl min x = x ∨ r.foldl min x ∈ r
  | [], x => .inl rfl
  | y :: r, x => by
    rw [List.foldl_cons]
    rcases foldl_min_mem r (min x y) with h | h
    · rw [h]
      by_cases hxy : x ≤ y
      · rw [Int.min_eq_left hxy]; exact .inl rfl
      · rw [Int.min_eq_right (by omega)]; exact .inr List.mem_cons_self
    · exact .inr (List.mem_cons_of_mem _ h)
theorem foldl_min_le : ∀ (r : List Int) (x : Int), r.foldl min x ≤ x ∧ ∀ y ∈ r, r.foldl min x ≤ y
  | [], x => ⟨Int.le_refl x, by simp⟩
  | y :: r, x => by
    rw [List.foldl_cons]
    obtain ⟨h1, h2⟩ := foldl_min_le r (min x y)
    refine ⟨by omega, fun z hz => ?_⟩
    rcases List.mem_cons.mp hz with rfl | hz
    · omega
    · exact h2 z hz
theorem s_max {K : PySem.W.Frag} : C1S (rMax K) maxD' := fun {x d z H av Q} trk r e q => by
  unfold maxD' at e
  split at e
  · next xs =>
    cases w : intsOf xs with
    | none => rw [w] at e; cases e
    | some bs =>
      rw [w] at e
      cases bs with
      | nil => cases e
      | cons n ns =>
        cases e
        obtain ⟨a, vs, rfl, e1, q1⟩ := r.list
        rw [intsOf_eq w] at q1
        have := q1.of_ints
        subst this
        refine ⟨a, n :: ns, rfl, SqL.of e1, by simp, fun m hm hg => ?_⟩
        obtain ⟨h1, h2⟩ := foldl_max_ge ns n
        have hmem : ns.foldl max n ∈ n :: ns := (foldl_max_mem ns n).elim (fun e => by rw [e]; exact List.mem_cons_self) (List.mem_cons_of_mem _)
        have h3 := hg _ hmem
        have h4 : m ≤ ns.foldl max n := (List.mem_cons.mp hm).elim (fun e => e ▸ h1) (h2 m)
        rw [Int.le_antisymm h4 h3]
        exact q _ H (Same.refl H) (.int _)
  · cases e
theorem s_min {K : PySem.W.Frag} : C1S (rMin K) minD' := fun {x d z H av Q} trk r e q => by
  unfold minD' at e
  split at e
  · next xs =>
    cases w : intsOf xs with
    | none => rw [w] at e; cases e
    | some bs =>
      rw [w] at e
      cases bs with
      | nil => cases e
      | cons n ns =>
        cases e
        obtain ⟨a, vs, rfl, e1, q1⟩ := r.list
        rw [intsOf_eq w] at q1
        have := q1.of_ints
        subst this
        refine ⟨a, n :: ns, rfl, SqL.of e1, by simp, fun m hm hg => ?_⟩
        obtain ⟨h1, h2⟩ := foldl_min_le ns n
        have hmem : ns.foldl min n ∈ n :: ns := (foldl_min_mem ns n).elim (fun e => by rw [e]; exact List.mem_cons_self) (List.mem_cons_of_mem _)
        have h3 := hg _ hmem
        have h4 : ns.foldl min n ≤ m := (List.mem_cons.mp hm).elim (fun e => e ▸ h1) (h2 m)
        rw [Int.le_antisymm h3 h4]
        exact q _ H (Same.refl H) (.int _)
  · cases e
theorem s_tuple {K : PySem.W.Frag} : C1S (fun xs H Q => ∃ p ys, xs = [.ref p] ∧ ((SqL K H p ys ∧ ∀ l, H l = none → Q (.ref l) (upd H l (.tup ys))) ∨ (SqT K H p ys ∧ Q (.ref p) H))) tupD := fun {x d z H av Q} trk r e q => by
  unfold tupD at e
  split at e
  · cases e
    obtain ⟨a, vs, rfl, e1, q1⟩ := r.list
    exact ⟨a, vs, rfl, .inl ⟨SqL.of e1, fun l n => q _ _ (same_upd n) (.tup upd_same (new_ref trk n) (q1.same (same_upd n)))⟩⟩
  · cases e
    obtain ⟨a, vs, rfl, e1, n1, q1⟩ := r.tuple
    exact ⟨a, vs, rfl, .inr ⟨SqT.of e1, q _ H (Same.refl H) (.tup e1 n1 q1)⟩⟩
  · cases e
theorem s_list {K : PySem.W.Frag} : C1S (fun xs H Q => ∃ p ys, xs = [.ref p] ∧ (SqL K H p ys ∨ SqT K H p ys) ∧ ∀ l, H l = none → Q (.ref l) (upd H l (.lst ys))) lstD := fun {x d z H av Q} trk r e q => by
  unfold lstD at e
  split at e
  · cases e
    obtain ⟨a, vs, rfl, e1, q1⟩ := r.list
    exact ⟨a, vs, rfl, .inl (SqL.of e1), fun l n => q _ _ (same_upd n) (.lst upd_same (new_ref trk n) (q1.same (same_upd n)))⟩
  · cases e
    obtain ⟨a, vs, rfl, e1, n1, q1⟩ := r.tuple
    exact ⟨a, vs, rfl, .inr (SqT.of e1), fun l n => q _ _ (same_upd n) (.lst upd_same (new_ref trk n) (q1.same (same_upd n)))⟩
  · cases e
/-! repr -/
mutual
/-- a bound of the length of what is shown -/
def shownMost : D → Nat
  | .none => 4
  | .bool _ => 5
  | .int _ => 1921
  | .str x => 10 * x.length + 2
  | .list xs => shownMostAll xs + 2
  | .tuple xs => shownMostAll xs + 3
  | .dict _ => 0
def shownMostAll : List D → Nat
  | [] => 0
  | x :: xs => shownMost x + 2 + shownMostAll xs
end
mutual
def mayShow : D → Bool
  | .none => true
  | .bool _ => true
  | .int i => decide (i.natAbs.log2 < 1920)
  | .str x => x.cps.toList.all fun c => decide (c < 4294967296)
  | .list xs => mayShowAll xs
  | .tuple xs => mayShowAll xs
  | .dict _ => false
def mayShowAll : List D → Bool
  | [] => true
  | x :: xs => mayShow x && mayShowAll xs
end
def reprD (d : D) : Option D := if mayShow d && decide (d.depth ≤ 60) && decide (shownMost d ≤ sizeLine) then some (.str d.shown) else none
end
end Z

namespace Z
open PySem PySem.Spec PySem.Calls PyProof.Rows PyProof.V L2
theorem listText_len (ts : List Str) : (listText ts).length ≤ piled ts + 2 := by
  unfold listText
  cases ts with
  | nil => decide
  | cons t r =>
    have h := textFrom_length_pos r 1 (("[" : Str) ++ (if 0 > 0 then ", " else "" : String) ++ t) (by decide)
    show (textFrom 1 (("[" : Str) ++ (if 0 > 0 then ", " else "" : String) ++ t) r ++ ("]" : Str)).length ≤ _
    rw [Str.length_append, h, Str.length_append, Str.length_append, piled_cons]
    have e1 : ("[" : Str).length = 1 := by decide
    have e2 : ("]" : Str).length = 1 := by decide
    have e3 : (Str.ofString (if 0 > 0 then ", " else "" : String)).length = 0 := by decide
    rw [e1, e2, e3]
    omega
theorem tupleText_len (ts : List Str) : (tupleText ts).length ≤ piled ts + 3 := by
  unfold tupleText
  rw [Str.length_append, Str.length_append]
  have e1 : ("(" : Str).length = 1 := by decide
  have e2 : (Str.ofString (if (ts.length == 1) = true then ",)" else ")" : String)).length ≤ 2 := by split <;> decide
  have e3 : (Str.join ", " ts).length ≤ piled ts := by
    cases ts with
    | nil => decide
    | cons t r => have := join_length_add (t :: r) (by simp); omega
  omega
mutual
theorem shown_le : ∀ d : D, mayShow d = true → d.shown.length ≤ shownMost d
  | .none, _ => by decide
  | .bool b, _ => by cases b <;> decide
  | .int i, h => int_text_len_1921 (of_decide_eq_true h)
  | .str x, h => StrLaws.reprText_len x fun c hc => by
    have := List.all_eq_true.mp h c hc
    simpa using this
  | .list xs, h => by
    have := shown_leAll xs h
    have := listText_len (PyData.shownAll xs)
    show (listText (PyData.shownAll xs)).length ≤ shownMostAll xs + 2
    omega
  | .tuple xs, h => by
    have := shown_leAll xs h
    have := tupleText_len (PyData.shownAll xs)
    show (tupleText (PyData.shownAll xs)).length ≤ shownMostAll xs + 3
    omega
  | .dict _, h => by cases h
theorem shown_leAll : ∀ xs : List D, mayShowAll xs = true → piled (PyData.shownAll xs) ≤ shownMostAll xs
  | [], _ => by decide
  | x :: xs, h => by
    have h' : mayShow x = true ∧ mayShowAll xs = true := by simpa [mayShowAll] using h
    have h1 := shown_le x h'.1
    have h2 := shown_leAll xs h'.2
    show piled (x.shown :: PyData.shownAll xs) ≤ shownMost x + 2 + shownMostAll xs
    rw [piled_cons]
    omega
end
mutual
theorem showable_of : ∀ d : D, mayShow d = true → d.showable = true ∧ d.hasDict = false
  | .none, _ => ⟨rfl, rfl⟩
  | .bool b, _ => ⟨rfl, rfl⟩
  | .int i, h => ⟨h, rfl⟩
  | .str x, h => ⟨rfl, rfl⟩
  | .list xs, h => by
    have := showable_all xs h
    exact ⟨by simpa [PyData.showable] using this.1, by simpa [PyData.hasDict] using this.2⟩
  | .tuple xs, h => by
    have := showable_all xs h
    exact ⟨by simpa [PyData.showable] using this.1, by simpa [PyData.hasDict] using this.2⟩
  | .dict _, h => by cases h
theorem showable_all : ∀ xs : List D, mayShowAll xs = true → PyData.showableAll xs = true ∧ PyData.hasDictAll xs = false
  | [], _ => ⟨rfl, rfl⟩
  | x :: xs, h => by
    have h' : mayShow x = true ∧ mayShowAll xs = true := by simpa [mayShowAll] using h
    obtain ⟨a1, a2⟩ := showable_of x h'.1
    obtain ⟨b1, b2⟩ := showable_all xs h'.2
    exact ⟨by simp [PyData.showableAll, a1, b1], by simp [PyData.hasDictAll, a2, b2]⟩
end
section
variable {X : Cx}
def rRepr : rCl := fun xs H Q => ∃ x d av, xs = [x] ∧ RB H av x d ∧ ∃ z, reprD d = some z ∧ Q (.str d.shown) H
theorem s_repr : C1S rRepr reprD := fun {x d z H av Q} trk r e q => by
  refine ⟨x, d, av, rfl, r, z, e, ?_⟩
  unfold reprD at e
  split at e
  · cases e; exact q _ H (Same.refl H) (.str _)
  · cases e
theorem b_repr (hu : X.A.units + 64 < cLine) (hg : X.A.guards = some []) : CallR X (.builtin "repr") rRepr := by
  intro pins s σ H vs us Q I r h
  obtain ⟨x, d, av, rfl, rb, z, e, q⟩ := h
  obtain ⟨u, rfl, rv⟩ := vals1 r
  obtain ⟨as, R⟩ := rb.reads I rv
  unfold reprD at e
  split at e
  · next hk =>
    simp only [Bool.and_eq_true, decide_eq_true_eq] at hk
    obtain ⟨⟨h1, h2⟩, h3⟩ := hk
    have hl := Nat.le_trans (shown_le d h1) h3
    obtain ⟨h4, h5⟩ := showable_of d h1
    have byRef : ∀ a, u = .ref a → wpAny (model X.prog X.w) X.A (call (.builtin "repr") [u]) (EP X pins σ Q) X.xe s := fun a ea => by
      subst ea
      exact repr_of_reads' R h4 (PyData.noDict_hsm h5) hg (by omega) (fun _ _ e => e) (fun h' u' tk hk => ⟨.str d.shown, H, I.kept hk, ⟨_, rfl⟩, q⟩) hl
    cases R with
    | none => exact P.repr_of_none ⟨.str _, H, I.tok _, ⟨_, rfl⟩, q⟩
    | bool b => exact P.repr_of_bool ⟨.str _, H, I.tok _, ⟨_, rfl⟩, by cases b <;> exact q⟩
    | int i t => exact P.repr_of_int (of_decide_eq_true h1) ⟨.str _, H, I.tok _, ⟨_, rfl⟩, q⟩
    | str y t => exact P.repr_of_str ⟨.str _, H, I.tok _, ⟨_, rfl⟩, q⟩ hl
    | list h1 h2 h3 h4 => exact byRef _ rfl
    | tuple h1 h2 h3 h4 => exact byRef _ rfl
    | dict h1 h2 h3 h4 h5 => exact byRef _ rfl
  · cases e
end
end Z

namespace Z
open PySem PySem.Spec PySem.Calls PyProof.Rows PyProof.V L2
/-- the built-in classes asked of -/
inductive Tn where
  | int | bool | str | tuple | list | dict
def Tn.name : Tn → String
  | .int => "int" | .bool => "bool" | .str => "str" | .tuple => "tuple" | .list => "list" | .dict => "dict"
def tyName : D → String
  | .none => "NoneType" | .bool _ => "bool" | .int _ => "int" | .str _ => "str" | .list _ => "list" | .tuple _ => "tuple" | .dict _ => "dict"
def isiD : Tn → D → Bool
  | .int, .int _ => true
  | .int, .bool _ => true
  | .bool, .bool _ => true
  | .str, .str _ => true
  | .tuple, .tuple _ => true
  | .list, .list _ => true
  | .dict, .dict _ => true
  | _, _ => false
theorem kitB_isi (T : Tn) (d : D) : kitB (tyName d) T.name = some (isiD T d) := by
  cases d <;> cases T <;> (dsimp only [tyName, Tn.name, isiD]; decide +kernel)
theorem RB.tyOf {K : PySem.W.Frag} {H : Hp} {av : List Addr} {x : V} {d : D} (r : RB H av x d) : TyOf K H x (.type (tyName d)) := by
  cases r with
  | of r =>
    cases r with
    | non => exact .non
    | bl b => exact .bl b
    | int i => exact .int i
    | str x => exact .str x
    | lst e _ _ => exact .lst e
    | tup e _ _ => exact .tup e
    | dct e _ => exact .dK e
  | own e _ => exact .lst e
def rIsiD : rCl := fun xs H Q => ∃ x d av T, xs = [x, .ty (Tn.name T)] ∧ RB H av x d ∧ Q (.bl (isiD T d)) H
def rIsiL : rCl := fun xs H Q => ∃ (x : V) (d : D) (av : List Addr) (p : Addr) (Ts : List Tn), xs = [x, .ref p] ∧ H p = some (.tup (Ts.map fun T => V.ty (Tn.name T))) ∧ RB H av x d ∧ Q (.bl (Ts.any fun T => isiD T d)) H
theorem kitAny_isi {K : PySem.W.Frag} (d : D) : ∀ Ts : List Tn, PySem.W.kitAny K (.type (tyName d)) (Ts.map fun T => .type T.name) = some (Ts.any fun T => isiD T d)
  | [] => rfl
  | T :: Ts => by
    rw [List.map_cons, List.any_cons]
    exact kitAny_cons (kit_ty (kitB_isi T d)) (fun e => by rw [e]; exact kitAny_isi d Ts) fun e => by rw [e]; rfl
section
variable {X : Cx} {φ : Fm} {pos p p2 : Pos} {a : Expr} {f : Oe}
theorem b_isi : CallR X (.builtin "isinstance") rIsiD := by
  intro pins s σ H vs us Q I r h
  obtain ⟨x, d, av, T, rfl, rb, q⟩ := h
  exact call_isi pins s σ H _ us Q I r ⟨x, .ty T.name, _, _, _, rfl, .ty _, .base rb.tyOf, kit_ty (kitB_isi T d), q⟩
theorem paired_ty : ∀ Ts : List Tn, Paired ClsV (Ts.map fun T => V.ty (Tn.name T)) (Ts.map fun T => Value.type T.name)
  | [] => .nil
  | T :: Ts => .cons (.ty _) (paired_ty Ts)
theorem b_isiL : CallR X (.builtin "isinstance") rIsiL := by
  intro pins s σ H vs us Q I r h
  obtain ⟨x, d, av, p, Ts, rfl, e, rb, q⟩ := h
  exact call_isiT pins s σ H _ us Q I r ⟨x, p, _, _, _, _, rfl, e, paired_ty Ts, .base rb.tyOf, kitAny_isi d Ts, q⟩
/-- the name of a built-in class -/
structure JN (X : Cx) (e : Expr) (T : Tn) : Prop where
  j : PE X e (tC (.ty T.name))
theorem n_ty {x : Str} {T : Tn} (hg : Gl X x) (hm : X.mg x = none) (hv : bootBuiltins x = some (.type T.name)) (hn : x ≠ "__name__" := by decide) (hd : (x == ("__debug__" : Str)) = false := by decide) : JN X (.Name x pos) T :=
  ⟨pe_bltn hg hm hv rfl hn hd⟩
theorem z_isi {c : Expr} {T : Tn} (hg : Gl X "isinstance") (hm : X.mg "isinstance" = none) (ha : JO X φ a f) (hc : JN X c T) (hb1 : starEach [c] X.env = (false, eval c X.env) :: starEach [] X.env := by rfl) (he : starEach [a, c] X.env = (false, eval a X.env) :: starEach [c] X.env := by rfl)
    (hpl : (backTo pos (starEach [c] X.env)).any (·.1) = false := by rfl) : JE X φ (.Call (.Name "isinstance" p) [a, c] [] pos) (xUn (fun d => some (.bool (isiD T d))) f) :=
  ⟨(pe_callB b_isi hg hm (by decide +kernel) (pa_cons ha.j (pa_cons hc.j pa_nil hb1) he) (by decide) (by decide) he hpl).imp fun σ H Q h =>
    seq_core (X := X) (relA := rO σ) (fun v o H1 env1 os1 e1 r1 h2 => by
      obtain ⟨d, z, h3⟩ := OutR.opt h2
      exact ⟨v, d, _, T, rfl, rd_rb e1 r1 z, OutR.ret h3 (.bl _) (Same.refl _) e1 (.bl _)⟩) h⟩
structure JNs (X : Cx) (es : List Expr) (Ts : List Tn) : Prop where
  j : PA X es (fun _ H Q => Q (Ts.map fun T => V.ty (Tn.name T)) H)
theorem ns_nil : JNs X [] [] := ⟨pa_nil.imp fun _ _ _ h => h⟩
theorem ns_cons {c : Expr} {cs : List Expr} {T : Tn} {Ts : List Tn} (h : JN X c T) (h' : JNs X cs Ts) (hs : starEach (c :: cs) X.env = (false, eval c X.env) :: starEach cs X.env := by rfl) : JNs X (c :: cs) (T :: Ts) := ⟨(pa_cons h.j h'.j hs).imp fun _ _ _ h => h⟩
theorem z_isiL {cs : List Expr} {k : Nat} {Ts : List Tn} (hg : Gl X "isinstance") (hm : X.mg "isinstance" = none) (ha : JO X φ a f) (hc : JNs X cs Ts) (hl : Ts.length ≤ sizeLine) (hb1 : starEach [.Tuple cs k p2] X.env = (false, eval (.Tuple cs k p2) X.env) :: starEach [] X.env := by rfl)
    (he : starEach [a, .Tuple cs k p2] X.env = (false, eval a X.env) :: starEach [.Tuple cs k p2] X.env := by rfl)
    (hpl : (backTo pos (starEach [.Tuple cs k p2] X.env)).any (·.1) = false := by rfl) : JE X φ (.Call (.Name "isinstance" p) [a, .Tuple cs k p2] [] pos) (xUn (fun d => some (.bool (Ts.any fun T => isiD T d))) f) :=
  ⟨(pe_callB b_isiL hg hm (by decide +kernel) (pa_cons ha.j (pa_cons (pe_tup hc.j) pa_nil hb1) he) (by decide) (by decide) he hpl).imp fun σ H Q h =>
    seq_core (X := X) (relA := rO σ) (fun v o H1 env1 os1 e1 r1 h2 => by
      obtain ⟨d, z, h3⟩ := OutR.opt h2
      refine ⟨by rw [List.length_map]; exact hl, fun q n => ?_⟩
      have sm := same_upd (o := .tup (Ts.map fun T => V.ty (Tn.name T))) n
      have rb := rd_rb e1 r1 z
      have rb' : RB (upd H1 q (.tup (Ts.map fun T => V.ty (Tn.name T)))) (φ.bs ++ os1) v d := by
        cases rb with
        | of r => exact .of (r.same sm)
        | own e r => exact .own (sm _ _ e) (r.same sm)
      exact ⟨v, d, _, q, Ts, rfl, upd_same, rb', OutR.ret h3 (.bl _) sm e1 (.bl _)⟩) h⟩
end
end Z

namespace Z
open PySem PySem.Spec PyProof.Rows L2

/-- while the protected addresses alone change, the walked thing yields the data ds one by one -/
structure Yl (J : It) (H1 : Hp) (av : List Addr) (ds : List D) : Prop where
  go : ∀ (i : Nat) (H : Hp) (av' : List Addr) (d : D), (∀ a o, H1 a = some o → a ∉ av → H a = some o) → (∀ a ∈ av', a ∈ av ∨ H1 a = none) → (∀ a ∈ av', ∃ o, H a = some o) → ds[i]? = some d →
    J.go i H ∧ ∀ x H', J.yld i H x H' → Same H H' ∧ RD H' av' x d
  stop : ∀ (i : Nat) (H : Hp), (∀ a o, H1 a = some o → a ∉ av → H a = some o) → ds.length ≤ i → J.stop i H
abbrev rI : Rl (List D) It := fun H av J ds => Yl J H av ds
abbrev Sr := VEnv → Res (List D × VEnv)
structure JI (X : Cx) (φ : Fm) (tg iter : Expr) (f : Sr) : Prop where
  j : PI X tg iter (fun σ H R => tR X φ rI f σ H fun J H1 => R J H1)
theorem _root_.L2.PI.imp {X : Cx} {tg e : Expr} {t t' : TI} (h : PI X tg e t) (k : ∀ σ H Q, t' σ H Q → t σ H Q) : PI X tg e t' := ⟨fun pins s σ H Q I q => h.run pins s σ H Q I (k σ H Q q)⟩
theorem PI_or {X : Cx} {tg e : Expr} {t t' : TI} (h : PI X tg e t) (h' : PI X tg e t') : PI X tg e (fun σ H R => t σ H R ∨ t' σ H R) := ⟨fun pins s σ H Q I q => q.elim (h.run pins s σ H Q I) (h'.run pins s σ H Q I)⟩

theorem yl_list {K : PySem.W.Frag} {H : Hp} {av : List Addr} {a : Addr} {vs : List V} {ds : List D} (e : H a = some (.lst vs)) (n : a ∉ av) (r : RDs H av vs ds) : Yl (Itl K a) H av ds where
  go := fun i H2 av' d k s t hd => by
    obtain ⟨v, hv, rv⟩ := r.get hd
    have e2 := k _ _ e n
    refine ⟨⟨vs, v, SqL.of e2, hv⟩, fun x H' y => ?_⟩
    obtain ⟨rfl, y⟩ := y
    have := y vs (SqL.of e2)
    rw [hv] at this
    cases this
    exact ⟨Same.refl _, rv.mono k s⟩
  stop := fun i H2 k h => ⟨vs, SqL.of (k _ _ e n), by rw [r.length]; exact h⟩
theorem yl_tup {K : PySem.W.Frag} {H : Hp} {av : List Addr} {a : Addr} {vs : List V} {ds : List D} (e : H a = some (.tup vs)) (n : a ∉ av) (r : RDs H av vs ds) : Yl (Itt K a) H av ds where
  go := fun i H2 av' d k s t hd => by
    obtain ⟨v, hv, rv⟩ := r.get hd
    have e2 := k _ _ e n
    refine ⟨⟨vs, v, SqT.of e2, hv⟩, fun x H' y => ?_⟩
    obtain ⟨rfl, y⟩ := y
    have := y vs (SqT.of e2)
    rw [hv] at this
    cases this
    exact ⟨Same.refl _, rv.mono k s⟩
  stop := fun i H2 k h => ⟨vs, SqT.of (k _ _ e n), by rw [r.length]; exact h⟩
def rangeL (lo : Int) : Nat → List D
  | 0 => []
  | n + 1 => .int lo :: rangeL (lo + 1) n
theorem rangeL_length : ∀ (n : Nat) (lo : Int), (rangeL lo n).length = n
  | 0, _ => rfl
  | n + 1, lo => congrArg (· + 1) (rangeL_length n (lo + 1))
theorem rangeL_get : ∀ (n : Nat) (lo : Int) (i : Nat) (d : D), (rangeL lo n)[i]? = some d → d = .int (lo + i)
  | 0, _, _, _, h => by simp [rangeL] at h
  | n + 1, lo, 0, d, h => by simp [rangeL] at h; rw [← h]; simp
  | n + 1, lo, i + 1, d, h => by
    have := rangeL_get n (lo + 1) i d (by simpa [rangeL] using h)
    rw [this]
    congr 1
    push_cast
    omega
theorem yl_range {H : Hp} {av : List Addr} (lo : Int) (n : Nat) : Yl (Itr lo n) H av (rangeL lo n) where
  go := fun i H2 av' d k s t hd => by
    have hi : i < n := by
      have := (List.getElem?_eq_some_iff.mp hd).1
      rw [rangeL_length] at this
      exact this
    refine ⟨hi, fun x H' y => ?_⟩
    obtain ⟨rfl, rfl⟩ := y
    rw [rangeL_get n lo i d hd]
    exact ⟨Same.refl _, .int _⟩
  stop := fun i H2 k h => by rw [rangeL_length] at h; exact h
def enumL (k : Int) : List D → List D
  | [] => []
  | d :: r => .tuple [.int k, d] :: enumL (k + 1) r
theorem enumL_length : ∀ (ds : List D) (k : Int), (enumL k ds).length = ds.length
  | [], _ => rfl
  | d :: r, k => congrArg (· + 1) (enumL_length r (k + 1))
theorem enumL_get : ∀ (ds : List D) (k : Int) (i : Nat) (d : D), (enumL k ds)[i]? = some d → ∃ e, ds[i]? = some e ∧ d = .tuple [.int (k + i), e]
  | [], _, _, _, h => by simp [enumL] at h
  | a :: r, k, 0, d, h => by simp [enumL] at h; exact ⟨a, rfl, by rw [← h]; simp⟩
  | a :: r, k, i + 1, d, h => by
    obtain ⟨e, h1, h2⟩ := enumL_get r (k + 1) i d (by simpa [enumL] using h)
    refine ⟨e, by simpa using h1, ?_⟩
    rw [h2]
    congr 3
    push_cast
    omega
theorem yl_enum {K : PySem.W.Frag} {H : Hp} {av : List Addr} {a : Addr} {vs : List V} {ds : List D} (e : H a = some (.lst vs)) (n : a ∉ av) (r : RDs H av vs ds) : Yl (Ite K a) H av (enumL 0 ds) where
  go := fun i H2 av' d k s t hd => by
    obtain ⟨b, h1, rfl⟩ := enumL_get ds 0 i d hd
    obtain ⟨v, hv, rv⟩ := r.get h1
    have e2 := k _ _ e n
    refine ⟨⟨vs, v, SqL.of e2, hv⟩, fun x H' y => ?_⟩
    obtain ⟨T, w, rfl, nT, rfl, y⟩ := y
    have := y vs (SqL.of e2)
    rw [hv] at this
    cases this
    have sm := same_upd (o := .tup [.int (i : Nat), v]) nT
    exact ⟨sm, .tup upd_same (new_ref t nT) (.cons (by simpa using RD.int (H := upd H2 T _) (av := av') (i : Nat)) (.cons ((rv.mono k s).same sm) .nil))⟩
  stop := fun i H2 k h => ⟨vs, SqL.of (k _ _ e n), by rw [r.length]; rw [enumL_length] at h; exact h⟩
def zipL : List D → List D → List D
  | a :: r, b :: s => .tuple [a, b] :: zipL r s
  | _, _ => []
theorem zipL_get : ∀ (xs ys : List D) (i : Nat) (d : D), (zipL xs ys)[i]? = some d → ∃ a b, xs[i]? = some a ∧ ys[i]? = some b ∧ d = .tuple [a, b]
  | [], _, _, _, h => by simp [zipL] at h
  | _ :: _, [], _, _, h => by simp [zipL] at h
  | a :: r, b :: s, 0, d, h => by simp [zipL] at h; exact ⟨a, b, rfl, rfl, h.symm⟩
  | a :: r, b :: s, i + 1, d, h => by
    obtain ⟨x, y, h1, h2, h3⟩ := zipL_get r s i d (by simpa [zipL] using h)
    exact ⟨x, y, by simpa using h1, by simpa using h2, h3⟩
theorem zipL_len : ∀ (xs ys : List D) (i : Nat), (zipL xs ys).length ≤ i → xs.length ≤ i ∨ ys.length ≤ i
  | [], _, _, _ => .inl (Nat.zero_le _)
  | _ :: _, [], _, _ => .inr (Nat.zero_le _)
  | _ :: _, _ :: _, 0, h => by simp [zipL] at h
  | a :: r, b :: s, i + 1, h => by
    rcases zipL_len r s i (by simpa [zipL] using h) with q | q
    · exact .inl (by simpa using q)
    · exact .inr (by simpa using q)
theorem yl_zipL {K : PySem.W.Frag} {H : Hp} {av : List Addr} {a b : Addr} {vs ws : List V} {ds es : List D} (e : H a = some (.lst vs)) (n : a ∉ av) (r : RDs H av vs ds) (e' : H b = some (.lst ws)) (n' : b ∉ av) (r' : RDs H av ws es) : Yl (Itz K a b) H av (zipL ds es) where
  go := fun i H2 av' d k s t hd => by
    obtain ⟨p, q, h1, h2, rfl⟩ := zipL_get ds es i d hd
    obtain ⟨v, hv, rv⟩ := r.get h1
    obtain ⟨w, hw, rw'⟩ := r'.get h2
    have e2 := k _ _ e n
    have e3 := k _ _ e' n'
    refine ⟨⟨vs, ws, v, w, SqL.of e2, SqL.of e3, hv, hw⟩, fun x H' y => ?_⟩
    obtain ⟨T, v', w', rfl, nT, rfl, y1, y2⟩ := y
    have q1 := y1 vs (SqL.of e2)
    have q2 := y2 ws (SqL.of e3)
    rw [hv] at q1
    rw [hw] at q2
    cases q1
    cases q2
    have sm := same_upd (o := .tup [v, w]) nT
    exact ⟨sm, .tup upd_same (new_ref t nT) (.cons ((rv.mono k s).same sm) (.cons ((rw'.mono k s).same sm) .nil))⟩
  stop := fun i H2 k h => ⟨vs, ws, SqL.of (k _ _ e n), SqL.of (k _ _ e' n'), by rw [r.length, r'.length]; exact zipL_len ds es i h⟩
theorem yl_zipT {K : PySem.W.Frag} {H : Hp} {av : List Addr} {a b : Addr} {vs ws : List V} {ds es : List D} (e : H a = some (.tup vs)) (n : a ∉ av) (r : RDs H av vs ds) (e' : H b = some (.tup ws)) (n' : b ∉ av) (r' : RDs H av ws es) : Yl (RZ.ItzT K a b) H av (zipL ds es) where
  go := fun i H2 av' d k s t hd => by
    obtain ⟨p, q, h1, h2, rfl⟩ := zipL_get ds es i d hd
    obtain ⟨v, hv, rv⟩ := r.get h1
    obtain ⟨w, hw, rw'⟩ := r'.get h2
    have e2 := k _ _ e n
    have e3 := k _ _ e' n'
    refine ⟨⟨vs, ws, v, w, SqT.of e2, SqT.of e3, hv, hw⟩, fun x H' y => ?_⟩
    obtain ⟨T, v', w', rfl, nT, rfl, y1, y2⟩ := y
    have q1 := y1 vs (SqT.of e2)
    have q2 := y2 ws (SqT.of e3)
    rw [hv] at q1
    rw [hw] at q2
    cases q1
    cases q2
    have sm := same_upd (o := .tup [v, w]) nT
    exact ⟨sm, .tup upd_same (new_ref t nT) (.cons ((rv.mono k s).same sm) (.cons ((rw'.mono k s).same sm) .nil))⟩
  stop := fun i H2 k h => ⟨vs, ws, SqT.of (k _ _ e n), SqT.of (k _ _ e' n'), by rw [r.length, r'.length]; exact zipL_len ds es i h⟩
def signs (z : Str) : List D := z.cps.toList.map fun c => .str ⟨#[c]⟩
theorem yl_str {H : Hp} {av : List Addr} (z : Str) : Yl (Its z) H av (signs z) where
  go := fun i H2 av' d k s t hd => by
    unfold signs at hd
    rw [List.getElem?_map] at hd
    cases w : z.cps.toList[i]? with
    | none => rw [w] at hd; cases hd
    | some c =>
      rw [w] at hd
      cases hd
      have hi : i < z.cps.size := by
        have := (List.getElem?_eq_some_iff.mp w).1
        simpa using this
      refine ⟨hi, fun x H' y => ?_⟩
      obtain ⟨rfl, c', e, rfl⟩ := y
      have e' : z.cps[i]? = some c := by rw [← Array.getElem?_toList]; exact w
      rw [e'] at e
      cases e
      exact ⟨Same.refl _, .str _⟩
  stop := fun i H2 k h => by
    unfold signs at h
    rw [List.length_map] at h
    show z.cps.size ≤ i
    simpa using h

def seqOf : D → Option (List D)
  | .list xs => some xs
  | .tuple xs => some xs
  | .str z => some (signs z)
  | _ => none
def srSeq (f : Ev) : Sr := fun e => f e >>= fun p => ofO (seqOf p.1) >>= fun ds => .ok (ds, p.2)
def rangeOf : List D → Option (List D)
  | [.int j] => if decide (-(2 ^ 62) ≤ j) && decide (j < 2 ^ 62) then some (rangeL 0 j.toNat) else none
  | [.int i, .int j] => if (decide (-(2 ^ 62) ≤ i) && decide (i < 2 ^ 62)) && (decide (-(2 ^ 62) ≤ j) && decide (j < 2 ^ 62)) then some (rangeL i (j - i).toNat) else none
  | _ => none
def srR1 (f : Ev) : Sr := fun e => f e >>= fun p => ofO (rangeOf [p.1]) >>= fun ds => .ok (ds, p.2)
def srR2 (f g : Ev) : Sr := fun e => f e >>= fun p => g p.2 >>= fun q => ofO (rangeOf [p.1, q.1]) >>= fun ds => .ok (ds, q.2)
def enumOf : D → Option (List D)
  | .list xs => some (enumL 0 xs)
  | _ => none
def srEnum (f : Ev) : Sr := fun e => f e >>= fun p => ofO (enumOf p.1) >>= fun ds => .ok (ds, p.2)
def zipOf : D → D → Option (List D)
  | .list xs, .list ys => some (zipL xs ys)
  | .tuple xs, .tuple ys => some (zipL xs ys)
  | _, _ => none
def srZip (f g : Ev) : Sr := fun e => f e >>= fun p => g p.2 >>= fun q => ofO (zipOf p.1 q.1) >>= fun ds => .ok (ds, q.2)
section
variable {X : Cx} {φ : Fm} {tg e a b : Expr} {pos p tpos : Pos}
/-- what a computation gives, whatever is asked behind it -/
theorem tR_ok {α γ δ : Type} {relC : Rl γ δ} {f : VEnv → Res (α × VEnv)} {k : α × VEnv → Res (γ × VEnv)} {σ : L2.St} {H : Hp} {Q : δ → Hp → Prop} {P : Prop}
    (h : tR X φ relC (fun e => f e >>= k) σ H Q) (hok : ∀ env os q, ERel φ env σ H os → f env = .ok q → OutR X φ relC os σ H (k q) Q → P) (herr : ∀ env os x en, ERel φ env σ H os → f env = .err x en → OutR X φ relC os σ H (.err x en) Q → P) : P := by
  obtain ⟨env, os, e, h⟩ := h
  have h : OutR X φ relC os σ H (f env >>= k) Q := h
  cases w : f env with
  | stuck => rw [w] at h; exact h.elim
  | err x en => rw [w] at h; exact herr env os x en e w h
  | ok q => rw [w] at h; exact hok env os q e w h
theorem i_seq {f : Ev} (h : JE X φ e f) : JI X φ tg e (srSeq f) :=
  ⟨(PI_or (pi_list (tg := tg) h.j) (PI_or (pi_tup h.j) (pi_str h.j))).imp fun σ H R h => tR_ok h (fun env os q er w h2 => by
    obtain ⟨ds, hz, h3⟩ := OutR.opt h2
    obtain ⟨d, env1⟩ := q
    have go : ∀ (R2 : V → Hp → Prop), (∀ v H1 os1, Ext os H H1 → Sub H os os1 → ERel φ env1 σ H1 os1 → RD H1 (φ.bs ++ os1) v d → R2 v H1) → tR X φ rD f σ H R2 := fun R2 k => ⟨env, os, er, by rw [w]; exact k⟩
    cases d with
    | list xs =>
      have hz' : xs = ds := Option.some.inj hz
      subst hz'
      refine .inl (go _ fun v H1 os1 x s e1 r => ?_)
      cases r with
      | lst e2 n q => exact ⟨_, rfl, ⟨_, SqL.of e2⟩, h3 _ H1 os1 x s e1 (yl_list e2 n q)⟩
    | tuple xs =>
      have hz' : xs = ds := Option.some.inj hz
      subst hz'
      refine .inr (.inl (go _ fun v H1 os1 x s e1 r => ?_))
      cases r with
      | tup e2 n q => exact ⟨_, rfl, ⟨_, SqT.of e2⟩, h3 _ H1 os1 x s e1 (yl_tup e2 n q)⟩
    | str z =>
      have hz' : signs z = ds := Option.some.inj hz
      subst hz'
      refine .inr (.inr (go _ fun v H1 os1 x s e1 r => ?_))
      cases r
      exact ⟨z, rfl, h3 _ H1 os1 x s e1 (yl_str z)⟩
    | none => cases hz
    | bool _ => cases hz
    | int _ => cases hz
    | dict _ => cases hz) fun env os x en er w h2 => .inl ⟨env, os, er, by rw [w]; exact h2⟩⟩
theorem rangeOf_one {j : Int} {ds : List D} (h : rangeOf [.int j] = some ds) : (-(2 ^ 62) ≤ j ∧ j < 2 ^ 62) ∧ ds = rangeL 0 j.toNat := by
  unfold rangeOf at h
  simp only at h
  split at h
  · next c => cases h; simp only [Bool.and_eq_true, decide_eq_true_eq] at c; exact ⟨c, rfl⟩
  · cases h
theorem rangeOf_two {i j : Int} {ds : List D} (h : rangeOf [.int i, .int j] = some ds) : (-(2 ^ 62) ≤ i ∧ i < 2 ^ 62 ∧ -(2 ^ 62) ≤ j ∧ j < 2 ^ 62) ∧ ds = rangeL i (j - i).toNat := by
  unfold rangeOf at h
  simp only at h
  split at h
  · next c => cases h; simp only [Bool.and_eq_true, decide_eq_true_eq] at c; exact ⟨⟨c.1.1, c.1.2, c.2.1, c.2.2⟩, rfl⟩
  · cases h
theorem rangeOf_int1 {d : D} {ds : List D} (h : rangeOf [d] = some ds) : ∃ j, d = .int j := by
  cases d with
  | int j => exact ⟨j, rfl⟩
  | none => cases h
  | bool _ => cases h
  | str _ => cases h
  | list _ => cases h
  | tuple _ => cases h
  | dict _ => cases h
theorem rangeOf_int2 {d d' : D} {ds : List D} (h : rangeOf [d, d'] = some ds) : ∃ i j, d = .int i ∧ d' = .int j := by
  unfold rangeOf at h
  split at h
  · next e => simp at e
  · next i j e => simp at e; exact ⟨i, j, e.1, e.2⟩
  · cases h
theorem zipOf_cases {d d' : D} {l : List D} (h : zipOf d d' = some l) : (∃ xs ys, d = .list xs ∧ d' = .list ys ∧ l = zipL xs ys) ∨ ∃ xs ys, d = .tuple xs ∧ d' = .tuple ys ∧ l = zipL xs ys := by
  unfold zipOf at h
  split at h
  · exact .inl ⟨_, _, rfl, rfl, (Option.some.inj h).symm⟩
  · exact .inr ⟨_, _, rfl, rfl, (Option.some.inj h).symm⟩
  · cases h
theorem RD.asList {H : Hp} {av : List Addr} {v : V} {ds : List D} (h : RD H av v (.list ds)) : ∃ a xs, v = .ref a ∧ H a = some (.lst xs) ∧ a ∉ av ∧ RDs H av xs ds := by
  cases h with
  | lst e n q => exact ⟨_, _, rfl, e, n, q⟩
theorem RD.asTup {H : Hp} {av : List Addr} {v : V} {ds : List D} (h : RD H av v (.tuple ds)) : ∃ a xs, v = .ref a ∧ H a = some (.tup xs) ∧ a ∉ av ∧ RDs H av xs ds := by
  cases h with
  | tup e n q => exact ⟨_, _, rfl, e, n, q⟩
theorem i_range1 {f : Ev} (hg : Gl X "range") (hm : X.mg "range" = none) (ha : JE X φ a f) (hs : starEach [a] X.env = [(false, eval a X.env)] := by rfl) : JI X φ tg (.Call (.Name "range" p) [a] [] pos) (srR1 f) :=
  ⟨(pi_range1 (tg := tg) hg hm (pa_cons ha.j pa_nil hs) hs).imp fun σ H R h => seq_core (X := X) (relA := rD) (fun v d H1 env1 os1 e1 r1 h2 => by
    obtain ⟨l, hz, h3⟩ := OutR.opt h2
    obtain ⟨j, rfl⟩ := rangeOf_int1 hz
    cases r1
    obtain ⟨c, rfl⟩ := rangeOf_one hz
    exact ⟨j, rfl, c.1, c.2, OutR.ret h3 _ (Same.refl _) e1 (yl_range 0 j.toNat)⟩) h⟩
theorem i_range2 {f g : Ev} (hg : Gl X "range") (hm : X.mg "range" = none) (ha : JE X φ a f) (hb : JE X φ b g) (hs : starEach [a, b] X.env = [(false, eval a X.env), (false, eval b X.env)] := by rfl) (hs2 : starEach [b] X.env = [(false, eval b X.env)] := by rfl) : JI X φ tg (.Call (.Name "range" p) [a, b] [] pos) (srR2 f g) :=
  ⟨(pi_range2 (tg := tg) hg hm (pa_cons ha.j (pa_cons hb.j pa_nil hs2) (by rw [hs, hs2])) hs hs2).imp fun σ H R h => by
    obtain ⟨env, os, e, h⟩ := h
    refine seq_core2 (relA := rD) e h fun v d H1 env1 os1 x1 s1 e1 r1 h1 => ?_
    refine seq_core2 (relA := rD) e1 h1 fun v' d' H2 env2 os2 x2 s2 e2 r2 h2 => ?_
    obtain ⟨l, hz, h3⟩ := OutR.opt h2
    obtain ⟨i, j, rfl, rfl⟩ := rangeOf_int2 hz
    cases r1
    cases r2
    obtain ⟨c, rfl⟩ := rangeOf_two hz
    exact ⟨i, j, rfl, c, OutR.ret h3 _ (Same.refl _) e2 (yl_range i (j - i).toNat)⟩⟩
theorem i_enum {f : Ev} {elts : List Expr} {kk : Nat} (hg : Gl X "enumerate") (hm : X.mg "enumerate" = none) (ha : JE X φ a f) (hs : starEach [a] X.env = [(false, eval a X.env)] := by rfl) : JI X φ (.Tuple elts kk tpos) (.Call (.Name "enumerate" p) [a] [] pos) (srEnum f) :=
  ⟨(pi_enum hg hm (pa_cons ha.j pa_nil hs) hs).imp fun σ H R h => seq_core (X := X) (relA := rD) (fun v d H1 env1 os1 e1 r1 h2 => by
    obtain ⟨l, hz, h3⟩ := OutR.opt h2
    cases d with
    | list xs =>
      have hz' : enumL 0 xs = l := Option.some.inj hz
      subst hz'
      cases r1 with
      | lst e2 n q => exact ⟨_, _, rfl, SqL.of e2, OutR.ret h3 _ (Same.refl _) e1 (yl_enum e2 n q)⟩
    | none => cases hz
    | bool _ => cases hz
    | int _ => cases hz
    | str _ => cases hz
    | tuple _ => cases hz
    | dict _ => cases hz) h⟩
theorem i_zip {f g : Ev} {elts : List Expr} {kk : Nat} (hg : Gl X "zip") (hm : X.mg "zip" = none) (ha : JE X φ a f) (hb : JE X φ b g) (hs2 : starEach [b] X.env = (false, eval b X.env) :: starEach [] X.env := by rfl) (hs : starEach [a, b] X.env = (false, eval a X.env) :: starEach [b] X.env := by rfl)
    (hpl : (backTo pos (starEach [b] X.env)).any (·.1) = false := by rfl) : JI X φ (.Tuple elts kk tpos) (.Call (.Name "zip" p) [a, b] [] pos) (srZip f g) :=
  ⟨(RZ.pi_zipA hg hm (pa_cons ha.j (pa_cons hb.j pa_nil hs2) hs) hs hpl).imp fun σ H R h => by
    obtain ⟨env, os, e, h⟩ := h
    refine seq_core2 (relA := rD) e h fun v d H1 env1 os1 x1 s1 e1 r1 h1 => ?_
    refine seq_core2 (relA := rD) e1 h1 fun v' d' H2 env2 os2 x2 s2 e2 r2 h2 => ?_
    obtain ⟨l, hz, h3⟩ := OutR.opt h2
    have r1' := RD.step r1 x2 s2
    rcases zipOf_cases hz with ⟨xs, ys, rfl, rfl, rfl⟩ | ⟨xs, ys, rfl, rfl, rfl⟩
    · obtain ⟨a1, vs1, rfl, k1, n1, q1⟩ := r1'.asList
      obtain ⟨a2, vs2, rfl, k2, n2, q2⟩ := r2.asList
      exact ⟨_, _, _, _, rfl, .inl ⟨SqL.of k1, SqL.of k2, OutR.ret h3 _ (Same.refl _) e2 (yl_zipL k1 n1 q1 k2 n2 q2)⟩⟩
    · obtain ⟨a1, vs1, rfl, k1, n1, q1⟩ := r1'.asTup
      obtain ⟨a2, vs2, rfl, k2, n2, q2⟩ := r2.asTup
      exact ⟨_, _, _, _, rfl, .inr ⟨SqT.of k1, SqT.of k2, OutR.ret h3 _ (Same.refl _) e2 (yl_zipT k1 n1 q1 k2 n2 q2)⟩⟩⟩
end
end Z

namespace Z
open PySem PySem.Spec PyProof.Rows L2

/-! ### targets -/
abbrev Sv := D → VEnv → Option VEnv
/-- a plain name's slot -/
def svName (i : Nat) : Sv := fun d e => if i < e.length then some (e.set i (.val d)) else none
def svAll : List Sv → List D → VEnv → Option VEnv
  | [], [], e => some e
  | f :: fs, d :: ds, e => (f d e).bind (svAll fs ds)
  | _, _, _ => none
def svTup (fs : List Sv) : Sv := fun d e => match d with
  | .tuple ds => svAll fs ds e
  | _ => none
/-- the target's rule sets the environment's slots is as sv says -/
def GS (φ : Fm) (g : TG) (is : List Nat) (sv : Sv) : Prop := ∀ {v : V} {d : D} {env env' : VEnv} {σ : L2.St} {H : Hp} {os : List Addr} {Q : L2.St → Hp → Prop}, ERel φ env σ H os → RD H (φ.bs ++ os) v d → sv d env = some env' →
  (∀ σ', (∀ j, j ∉ is → σ'[j]? = σ[j]?) → σ'.length = σ.length → ERel φ env' σ' H os → Q σ' H) → g v σ H Q
def GSs (φ : Fm) (g : TGs) (is : List Nat) (fs : List Sv) : Prop := ∀ {vs : List V} {ds : List D} {env env' : VEnv} {σ : L2.St} {H : Hp} {os : List Addr} {Q : L2.St → Hp → Prop}, ERel φ env σ H os → RDs H (φ.bs ++ os) vs ds → svAll fs ds env = some env' →
  (∀ σ', (∀ j, j ∉ is → σ'[j]? = σ[j]?) → σ'.length = σ.length → ERel φ env' σ' H os → Q σ' H) → g vs σ H Q
section
variable {φ : Fm} {env env' : VEnv} {σ σ' : L2.St} {H H' : Hp} {os os' : List Addr}
theorem erel_set {i : Nat} {v : V} {d : D} (e : ERel φ env σ H os) (hio : i ≠ 0 ∨ φ.io = none) (hi : i < env.length) (r : RD H (φ.bs ++ os) v d) : ERel φ (env.set i (.val d)) (σ.set i (some v)) H os := by
  have hiσ : i < σ.length := by rw [← e.len]; exact hi
  refine ⟨by rw [List.length_set, List.length_set]; exact e.len, fun j d' q => ?_, fun j es q => ?_, fun j k b es fs q1 q2 q3 q4 => ?_, e.trk, e.disj, fun b q => ?_, exc_set2 e.exc i _ (fun _ q => by cases q)⟩
  · by_cases hj : i = j
    · subst hj
      rw [List.getElem?_set_self hi] at q
      cases q
      exact ⟨v, by rw [List.getElem?_set_self hiσ], r⟩
    · rw [List.getElem?_set_ne hj] at q ⊢
      exact e.val j d' q
  · by_cases hj : i = j
    · subst hj
      rw [List.getElem?_set_self hi] at q
      cases q
    · rw [List.getElem?_set_ne hj] at q ⊢
      exact e.own j es q
  · by_cases hj : i = j
    · subst hj
      rw [List.getElem?_set_self hi] at q1
      cases q1
    · by_cases hk : i = k
      · subst hk
        rw [List.getElem?_set_self hi] at q2
        cases q2
      · rw [List.getElem?_set_ne hj] at q1 q3
        rw [List.getElem?_set_ne hk] at q2 q4
        exact e.dist j k b es fs q1 q2 q3 q4
  · rcases hio with hio | hio
    · obtain ⟨w1, w2, es, w3⟩ := e.io b q
      exact ⟨w1, by rw [List.getElem?_set_ne hio]; exact w2, es, by rw [List.getElem?_set_ne hio]; exact w3⟩
    · rw [hio] at q; cases q
theorem gs_name {i : Nat} (hio : i ≠ 0 ∨ φ.io = none) : GS φ (gName i) [i] (svName i) := fun {v d env env' σ H os Q} e r h k => by
  unfold svName at h
  split at h
  · next hi =>
    cases h
    exact k _ (fun j hj => List.getElem?_set_ne (by intro z; exact hj (by simp [z]))) (List.length_set ..) (erel_set e hio hi r)
  · cases h
theorem gss_nil : GSs φ gNil [] [] := fun {vs ds env env' σ H os Q} e r h k => by
  cases r with
  | nil => cases h; exact ⟨rfl, k σ (fun _ _ => rfl) rfl e⟩
  | cons _ _ => cases h
theorem gss_cons {g : TG} {gs : TGs} {is js : List Nat} {sv : Sv} {fs : List Sv} (h1 : GS φ g is sv) (h2 : GSs φ gs js fs) : GSs φ (gCons g gs) (is ++ js) (sv :: fs) := fun {vs ds env env' σ H os Q} e r h k => by
  cases r with
  | nil => cases h
  | @cons v vs d ds r rs =>
    have h' : (sv d env).bind (svAll fs ds) = some env' := h
    cases w : sv d env with
    | none => rw [w] at h'; cases h'
    | some env1 =>
      rw [w] at h'
      exact ⟨v, vs, rfl, h1 e r w fun σ1 a1 b1 e1 => h2 e1 rs h' fun σ2 a2 b2 e2 => k σ2 (fun j hj => (a2 j fun z => hj (List.mem_append_right _ z)).trans (a1 j fun z => hj (List.mem_append_left _ z))) (b2.trans b1) e2⟩
theorem gss_len {gs : TGs} : ∀ {fs : List Sv} {ds : List D} {e e' : VEnv}, svAll fs ds e = some e' → ds.length = fs.length
  | [], [], _, _, _ => rfl
  | [], _ :: _, _, _, h => by cases h
  | _ :: _, [], _, _, h => by cases h
  | f :: fs, d :: ds, e, e', h => by
    have h' : (f d e).bind (svAll fs ds) = some e' := h
    cases w : f d e with
    | none => rw [w] at h'; cases h'
    | some e1 => rw [w] at h'; exact congrArg (· + 1) (gss_len (gs := gs) h')
theorem gs_tup {K : PySem.W.Frag} {n : Nat} {gs : TGs} {is : List Nat} {fs : List Sv} (hn : fs.length = n) (h : GSs φ gs is fs) : GS φ (gTup K n gs) is (svTup fs) := fun {v d env env' σ H os Q} e r hs k => by
  unfold svTup at hs
  split at hs
  · cases r with
    | tup e1 n1 q =>
      exact ⟨_, _, rfl, SqT.of e1, by rw [q.length, gss_len (gs := gs) hs, hn], h e q hs k⟩
  · cases hs
structure JG (X : Cx) (φ : Fm) (tg : Expr) (is : List Nat) (sv : Sv) : Prop where
  j : ∃ g, PG X tg g ∧ GS φ g is sv
structure JGs (X : Cx) (φ : Fm) (tgs : List Expr) (is : List Nat) (fs : List Sv) : Prop where
  j : ∃ g, PGs X tgs g ∧ GSs φ g is fs

/-! ### the slots of a comprehension -/
def wipeE (env : VEnv) : List Nat → VEnv
  | [] => env
  | v :: vs => (wipeE env vs).set v .no
theorem wipeE_len (env : VEnv) : ∀ vs, (wipeE env vs).length = env.length
  | [] => rfl
  | v :: vs => by unfold wipeE; rw [List.length_set, wipeE_len env vs]
theorem wipeE_in (env : VEnv) {j : Nat} : ∀ {vs : List Nat}, j ∈ vs → j < env.length → (wipeE env vs)[j]? = some .no
  | [], h, _ => by cases h
  | v :: vs, h, hl => by
    unfold wipeE
    by_cases e : v = j
    · subst e; rw [List.getElem?_set_self (by rw [wipeE_len]; exact hl)]
    · rw [List.getElem?_set_ne e]
      exact wipeE_in env ((List.mem_cons.mp h).resolve_left fun z => e z.symm) hl
theorem wipeE_out (env : VEnv) {j : Nat} : ∀ {vs : List Nat}, j ∉ vs → (wipeE env vs)[j]? = env[j]?
  | [], _ => rfl
  | v :: vs, h => by
    unfold wipeE
    rw [List.getElem?_set_ne (fun e => h (by simp [e]))]
    exact wipeE_out env fun z => h (List.mem_cons_of_mem _ z)
theorem wipeS_out (σ : L2.St) {j : Nat} : ∀ {vs : List Nat}, j ∉ vs → (wipe σ vs)[j]? = σ[j]?
  | [], _ => rfl
  | v :: vs, h => by
    unfold wipe
    rw [List.getElem?_set_ne (fun e => h (by simp [e]))]
    exact wipeS_out σ fun z => h (List.mem_cons_of_mem _ z)
theorem wipeS_in (σ : L2.St) {j : Nat} : ∀ {vs : List Nat}, j ∈ vs → j < σ.length → (wipe σ vs)[j]? = some none
  | [], h, _ => by cases h
  | v :: vs, h, hl => by
    unfold wipe
    by_cases e : v = j
    · subst e; rw [List.getElem?_set_self (by rw [wipe_length]; exact hl)]
    · rw [List.getElem?_set_ne e]
      exact wipeS_in σ ((List.mem_cons.mp h).resolve_left fun z => e z.symm) hl
theorem wipe_eq {σ σ2 : L2.St} {vs : List Nat} (h : ∀ j, j ∉ vs → σ2[j]? = σ[j]?) (hl : σ2.length = σ.length) : wipe σ2 vs = wipe σ vs := by
  refine List.ext_getElem? fun j => ?_
  by_cases hj : j ∈ vs
  · by_cases hlt : j < σ.length
    · rw [wipeS_in σ2 hj (by omega), wipeS_in σ hj hlt]
    · rw [List.getElem?_eq_none (by rw [wipe_length]; omega), List.getElem?_eq_none (by rw [wipe_length]; omega)]
  · rw [wipeS_out σ2 hj, wipeS_out σ hj, h j hj]
/-- forgetting slots, on both sides or on the environment's alone -/
theorem erel_forget (e : ERel φ env σ H os) (hl' : env'.length = env.length) (hs' : σ'.length = σ.length) (vs : List Nat) (h0 : 0 ∉ vs ∨ φ.io = none) (h1 : ∀ j, j ∉ vs → env'[j]? = env[j]?) (h2 : ∀ j, j ∉ vs → σ'[j]? = σ[j]?) (h3 : ∀ j s, j ∈ vs → env'[j]? = some s → s = .no) :
    ERel φ env' σ' H os where
  len := by rw [hl', hs']; exact e.len
  val := fun i d q => by
    by_cases hi : i ∈ vs
    · have := h3 i _ hi q; cases this
    · rw [h1 i hi] at q
      rw [h2 i hi]
      exact e.val i d q
  own := fun i ds q => by
    by_cases hi : i ∈ vs
    · have := h3 i _ hi q; cases this
    · rw [h1 i hi] at q
      rw [h2 i hi]
      exact e.own i ds q
  dist := fun i j a ds es q1 q2 q3 q4 => by
    by_cases hi : i ∈ vs
    · have := h3 i _ hi q1; cases this
    · by_cases hj : j ∈ vs
      · have := h3 j _ hj q2; cases this
      · rw [h1 i hi] at q1
        rw [h1 j hj] at q2
        rw [h2 i hi] at q3
        rw [h2 j hj] at q4
        exact e.dist i j a ds es q1 q2 q3 q4
  trk := e.trk
  disj := e.disj
  io := fun a q => by
    rcases h0 with h0 | h0
    · obtain ⟨w1, w2, es, w3⟩ := e.io a q
      exact ⟨w1, by rw [h2 0 h0]; exact w2, es, by rw [h1 0 h0]; exact w3⟩
    · rw [h0] at q; cases q
  exc := fun i a q => by
    by_cases hi : i ∈ vs
    · have := h3 i _ hi q; cases this
    · rw [h1 i hi] at q
      rw [h2 i hi]
      exact e.exc i a q
theorem wipeE_no {vs : List Nat} {j : Nat} {s : Sl} (hj : j ∈ vs) (q : (wipeE env vs)[j]? = some s) : s = .no := by
  have hl : j < env.length := by
    have := (List.getElem?_eq_some_iff.mp q).1
    rw [wipeE_len] at this
    exact this
  rw [wipeE_in env hj hl] at q
  cases q
  rfl
theorem erel_wipe (e : ERel φ env σ H os) (vs : List Nat) (h0 : 0 ∉ vs ∨ φ.io = none) : ERel φ (wipeE env vs) (wipe σ vs) H os :=
  erel_forget e (wipeE_len _ _) (wipe_length _ _) vs h0 (fun _ h => wipeE_out env h) (fun _ h => wipeS_out σ h) fun _ _ hj q => wipeE_no hj q
end
end Z

namespace Z
open PySem PySem.Spec PyProof.Rows L2

/-- what must not raise -/
def nx {α : Type} : Res α → Res α
  | .ok a => .ok a
  | _ => .stuck
def compGo (own : List Nat) (sv : Sv) (ts : Te) (el : Ev) : List D → VEnv → Res (List D × VEnv)
  | [], e => .ok ([], e)
  | d :: r, e => ofO (sv d e) >>= fun e1 => nx (ts e1) >>= fun b => if b.1 = true then nx (el b.2) >>= fun y => compGo own sv ts el r (wipeE y.2 own) >>= fun z => .ok (y.1 :: z.1, z.2) else compGo own sv ts el r (wipeE b.2 own)
def compAll (own : List Nat) (sv : Sv) (ts : Te) (el : Ev) (p : List D × VEnv) : Res (D × VEnv) :=
  if p.1.length ≤ sizeLine then (compGo own sv ts el p.1 (wipeE p.2 own) >>= fun z => .ok (.list z.1, wipeE z.2 own)) else .stuck
def xComp (src : Sr) (own : List Nat) (sv : Sv) (ts : Te) (el : Ev) : Ev := fun e => src e >>= compAll own sv ts el
def teYes : Te := fun e => .ok (true, e)

/-- the frame within: nothing is raised, D stands apart -/
abbrev Fm.in_ (φ : Fm) (D : Addr) : Fm := ⟨fun _ _ _ _ => False, D :: φ.bs, φ.io⟩
section
variable {φ : Fm} {env env' : VEnv} {σ σ' : L2.St} {H H' : Hp} {os os' : List Addr} {D : Addr}
theorem ERel.enter (e : ERel φ env σ H os) {o : HO} (n : H D = none) : ERel (φ.in_ D) env σ (upd H D o) os := by
  have sm := same_upd (o := o) n
  have e2 := e.same sm
  have nD : D ∉ φ.bs ++ os := new_ref e.trk n
  have up : ∀ a, a ∈ (φ.in_ D).bs ++ os → a ∈ φ.bs ++ os ∨ H a = none := fun a m => by
    rcases List.mem_append.mp m with m | m
    · rcases List.mem_cons.mp m with rfl | m
      · exact .inr n
      · exact .inl (List.mem_append_left _ m)
    · exact .inl (List.mem_append_right _ m)
  have st : ∀ a u, H a = some u → a ∉ φ.bs ++ os → upd H D o a = some u := fun a u h _ => sm a u h
  refine ⟨e.len, fun i d q => ?_, fun i ds q => ?_, e.dist, fun a m => ?_, fun a m z => ?_, fun a q => e.io a q, e.exc⟩
  · obtain ⟨v, h1, h2⟩ := e.val i d q
    exact ⟨v, h1, h2.mono st up⟩
  · obtain ⟨a, vs, h1, h2, h3, h4⟩ := e.own i ds q
    exact ⟨a, vs, h1, h2, sm _ _ h3, h4.mono st up⟩
  · rcases List.mem_append.mp m with m | m
    · rcases List.mem_cons.mp m with rfl | m
      · exact ⟨o, upd_same⟩
      · exact e2.trk a (List.mem_append_left _ m)
    · exact e2.trk a (List.mem_append_right _ m)
  · rcases List.mem_cons.mp z with rfl | z
    · exact nD (List.mem_append_right _ m)
    · exact e.disj a m z
theorem RD.out {v : V} {d : Z.D} (h : RD H ((φ.in_ D).bs ++ os) v d) : RD H (φ.bs ++ os) v d := h.mono (fun _ _ e _ => e) fun a m => .inl (List.mem_cons_of_mem _ m)
theorem RDs.out {v : List V} {d : List Z.D} (h : RDs H ((φ.in_ D).bs ++ os) v d) : RDs H (φ.bs ++ os) v d := h.mono (fun _ _ e _ => e) fun a m => .inl (List.mem_cons_of_mem _ m)
theorem ERel.leave (e : ERel (φ.in_ D) env σ H os) : ERel φ env σ H os where
  len := e.len
  val := fun i d q => let ⟨v, h1, h2⟩ := e.val i d q; ⟨v, h1, h2.out⟩
  own := fun i ds q => let ⟨a, vs, h1, h2, h3, h4⟩ := e.own i ds q; ⟨a, vs, h1, h2, h3, h4.out⟩
  dist := e.dist
  trk := fun a m => e.trk a (List.mem_cons_of_mem _ m)
  disj := fun a m z => e.disj a m (List.mem_cons_of_mem _ z)
  io := fun a q => e.io a q
  exc := e.exc
/-- the list that stands apart is changed -/
theorem RD.apart {v : V} {d : Z.D} {o : HO} (h : RD H ((φ.in_ D).bs ++ os) v d) : RD (upd H D o) ((φ.in_ D).bs ++ os) v d :=
  h.mono (fun a u e n => by rw [upd_ne (fun z => n (by rw [z]; exact List.mem_append_left _ List.mem_cons_self))]; exact e) fun a m => .inl m
theorem RDs.apart {v : List V} {d : List Z.D} {o : HO} (h : RDs H ((φ.in_ D).bs ++ os) v d) : RDs (upd H D o) ((φ.in_ D).bs ++ os) v d :=
  h.mono (fun a u e n => by rw [upd_ne (fun z => n (by rw [z]; exact List.mem_append_left _ List.mem_cons_self))]; exact e) fun a m => .inl m
theorem ERel.apart {o : HO} (e : ERel (φ.in_ D) env σ H os) : ERel (φ.in_ D) env σ (upd H D o) os where
  len := e.len
  val := fun i d q => let ⟨v, h1, h2⟩ := e.val i d q; ⟨v, h1, h2.apart⟩
  own := fun i ds q => let ⟨a, vs, h1, h2, h3, h4⟩ := e.own i ds q; ⟨a, vs, h1, h2, by rw [upd_ne (fun z => e.disj a h2 (by rw [z]; exact List.mem_cons_self))]; exact h3, h4.apart⟩
  dist := e.dist
  trk := fun a m => by
    by_cases h : a = D
    · subst h; exact ⟨o, upd_same⟩
    · rw [upd_ne h]; exact e.trk a m
  disj := e.disj
  io := fun a q => e.io a q
  exc := e.exc
end

structure JTs (X : Cx) (φ : Fm) (es : List Expr) (f : Te) : Prop where
  j : PTs X es (tR X φ rB f)
section
variable {X : Cx} {φ : Fm} {σ : L2.St} {H1 : Hp} {os1 : List Addr} {own is : List Nat} {sv : Sv} {ts : Te} {el : Ev}
theorem _root_.L2.PTs.imp {X : Cx} {es : List Expr} {t t' : TT} (h : PTs X es t) (k : ∀ σ H Q, t' σ H Q → t σ H Q) : PTs X es t' := ⟨fun pins s σ H Q I q => h.run pins s σ H Q I (k σ H Q q)⟩
theorem ts_nil : JTs X φ [] teYes := ⟨pts_nil.imp fun σ H Q ⟨env, os, e, h⟩ => OutR.ret h true (Same.refl H) e rfl⟩
theorem ts_one {c : Expr} {f : Te} (h : JT X φ c f) : JTs X φ [c] f := ⟨pts_one h.j⟩
/-- the turns of a comprehension -/
theorem comp_turns {g : TG} {tt : TT} {te : TE} {J : It} {ds : List D} {e1 : VEnv} {Q : VK} (h0 : 0 ∉ own ∨ φ.io = none) (hsub : ∀ j ∈ is, j ∈ own)
    (hg : ∀ D, GS (φ.in_ D) g is sv) (ht : ∀ D σ H Q, tR X (φ.in_ D) rB ts σ H Q → tt σ H Q) (he : ∀ D σ H Q, tR X (φ.in_ D) rD el σ H Q → te σ H Q)
    (er : ERel φ e1 σ H1 os1) (y : Yl J H1 (φ.bs ++ os1) ds) (hout : OutR X φ rD os1 σ H1 (compAll own sv ts el (ds, e1)) Q) (D : Addr) (hD : H1 D = none) :
    ∃ W : Nat → Nat → Hp → Prop, (∃ m, W 0 m (upd H1 D (.lst []))) ∧ ∀ i m H, W i m H →
      (J.stop i H ∧ Q (.ref D) H) ∨ (J.go i H ∧ ∃ Nx : Hp → Prop, (∀ H', Nx H' → ∃ m', m' < m ∧ W (i + 1) m' H') ∧ ∀ x H', J.yld i H x H' → g x (wipe σ own) H' fun σ2 H2 => wipe σ2 own = wipe σ own ∧ tt σ2 H2 fun b H3 =>
        if b = true then te σ2 H3 fun y H4 => ∃ acc, H4 D = some (.lst acc) ∧ acc.length < sizeLine ∧ Nx (upd H4 D (.lst (acc ++ [y]))) else Nx H3) := by
  have hz : ds.length ≤ sizeLine := by
    by_cases hz : ds.length ≤ sizeLine
    · exact hz
    · exfalso
      unfold compAll at hout
      rw [if_neg hz] at hout
      exact hout
  have hout2 : OutR X φ rD os1 σ H1 (compGo own sv ts el ds (wipeE e1 own) >>= fun z => .ok (.list z.1, wipeE z.2 own)) Q := by
    unfold compAll at hout
    rw [if_pos hz] at hout
    exact hout
  have nD : D ∉ φ.bs ++ os1 := new_ref er.trk hD
  let IW : Nat → Hp → Prop := fun i H => ∃ e os acc vs, ERel (φ.in_ D) e (wipe σ own) H os ∧ Ext os1 H1 H ∧ Sub H1 os1 os ∧ H D = some (.lst vs) ∧ RDs H ((φ.in_ D).bs ++ os) vs acc ∧ acc.length ≤ i ∧
    OutR X φ rD os1 σ H1 (compGo own sv ts el (ds.drop i) e >>= fun z => .ok (.list (acc ++ z.1), wipeE z.2 own)) Q
  refine ⟨fun i m H => m = ds.length - i ∧ i ≤ ds.length ∧ IW i H, ⟨ds.length, by simp, Nat.zero_le _, wipeE e1 own, os1, [], [], ?_, ?_, Sub.refl, upd_same, .nil, Nat.le_refl _, ?_⟩, ?_⟩
  · exact (erel_wipe er own h0).enter hD
  · exact Ext.of_same (same_upd hD)
  · rw [List.drop_zero]; simpa using hout2
  rintro i m H ⟨rfl, hi, e, os, acc, vs, ee, ex, sb, hDH, rv, hacc, ho⟩
  have keepH : ∀ a o, H1 a = some o → a ∉ φ.bs ++ os1 → H a = some o := fun a o h n => ex a o h fun z => n (List.mem_append_right _ z)
  by_cases hlt : i < ds.length
  · refine .inr ?_
    have hav : ∀ a ∈ (φ.in_ D).bs ++ os, a ∈ φ.bs ++ os1 ∨ H1 a = none := fun a m => by
      rcases List.mem_append.mp m with m | m
      · rcases List.mem_cons.mp m with rfl | m
        · exact .inr hD
        · exact .inl (List.mem_append_left _ m)
      · rcases sb a m with q | q
        · exact .inl (List.mem_append_right _ q)
        · exact .inr q
    obtain ⟨go, yl⟩ := y.go i H ((φ.in_ D).bs ++ os) ds[i] keepH hav ee.trk (by simp [hlt])
    have hdrop : ds.drop i = ds[i] :: ds.drop (i + 1) := List.drop_eq_getElem_cons hlt
    rw [hdrop] at ho
    refine ⟨go, IW (i + 1), fun H' w => ⟨ds.length - (i + 1), by omega, rfl, hlt, w⟩, fun x H2 hy => ?_⟩
    obtain ⟨sm, rx⟩ := yl x H2 hy
    have ho' : OutR X φ rD os1 σ H1 ((ofO (sv ds[i] e) >>= fun e1 => nx (ts e1) >>= fun b => if b.1 = true then nx (el b.2) >>= fun y => compGo own sv ts el (ds.drop (i + 1)) (wipeE y.2 own) >>= fun z => .ok (y.1 :: z.1, z.2) else compGo own sv ts el (ds.drop (i + 1)) (wipeE b.2 own)) >>= fun z => .ok (.list (acc ++ z.1), wipeE z.2 own)) Q := ho
    cases w1 : sv ds[i] e with
    | none => rw [w1] at ho'; exact ho'.elim
    | some e2 =>
      rw [w1] at ho'
      refine hg D (ee.same sm) rx w1 fun σ2 a2 b2 ee2 => ?_
      have hw : wipe σ2 own = wipe σ own := wipe_eq (fun j hj => (a2 j fun z => hj (hsub j z)).trans (wipeS_out σ hj)) (by rw [b2, wipe_length])
      refine ⟨hw, ht D _ _ _ ⟨e2, os, ee2, ?_⟩⟩
      have ho2 : OutR X φ rD os1 σ H1 ((nx (ts e2) >>= fun b => if b.1 = true then nx (el b.2) >>= fun y => compGo own sv ts el (ds.drop (i + 1)) (wipeE y.2 own) >>= fun z => .ok (y.1 :: z.1, z.2) else compGo own sv ts el (ds.drop (i + 1)) (wipeE b.2 own)) >>= fun z => .ok (.list (acc ++ z.1), wipeE z.2 own)) Q := ho'
      have back : ∀ {e4 : VEnv} {σ4 : L2.St} {H4 : Hp} {os4 : List Addr}, σ4 = σ2 → ERel (φ.in_ D) e4 σ4 H4 os4 → ERel (φ.in_ D) (wipeE e4 own) (wipe σ own) H4 os4 := fun {e4 σ4 H4 os4} h4 h => by
        subst h4
        rw [← hw]
        exact erel_wipe h own h0
      cases w2 : ts e2 with
      | stuck => rw [w2] at ho2; exact ho2.elim
      | err _ _ => rw [w2] at ho2; exact ho2.elim
      | ok b =>
        obtain ⟨b, e3⟩ := b
        rw [w2] at ho2
        intro v H3 os3 x3 s3 ee3 rv3
        have rv3 : v = b := rv3
        subst rv3
        have x13 : Ext os1 H1 H3 := (ex.trans sb (Ext.of_same sm)).trans sb (x3)
        have sb13 : Sub H1 os1 os3 := sb.trans (ex.trans sb (Ext.of_same sm)) s3
        have DO : D ∉ os := fun z => ee.disj D z List.mem_cons_self
        have hD3 : H3 D = some (.lst vs) := x3 D _ (sm D _ hDH) DO
        have rv' : RDs H3 ((φ.in_ D).bs ++ os3) vs acc := RDs.step (φ := φ.in_ D) (rv.same sm) x3 s3
        cases v with
        | false =>
          rw [if_neg Bool.false_ne_true]
          exact ⟨wipeE e3 own, os3, acc, vs, back rfl ee3, x13, sb13, hD3, rv', by omega, ho2⟩
        | true =>
          rw [if_pos rfl]
          refine he D _ _ _ ⟨e3, os3, ee3, ?_⟩
          have ho3 : OutR X φ rD os1 σ H1 ((nx (el e3) >>= fun y => compGo own sv ts el (ds.drop (i + 1)) (wipeE y.2 own) >>= fun z => .ok (y.1 :: z.1, z.2)) >>= fun z => .ok (.list (acc ++ z.1), wipeE z.2 own)) Q := ho2
          cases w3 : el e3 with
          | stuck => rw [w3] at ho3; exact ho3.elim
          | err _ _ => rw [w3] at ho3; exact ho3.elim
          | ok yy =>
            obtain ⟨yd, e4⟩ := yy
            rw [w3] at ho3
            intro yv H4 os4 x4 s4 ee4 ry
            have DO3 : D ∉ os3 := fun z => ee3.disj D z List.mem_cons_self
            have hD4 : H4 D = some (.lst vs) := x4 D _ hD3 DO3
            have hlen : vs.length = acc.length := rv.length
            refine ⟨vs, hD4, by omega, wipeE e4 own, os4, acc ++ [yd], vs ++ [yv], (back rfl ee4).apart, ?_, sb13.trans x13 s4, upd_same, ?_, by simp; omega, ?_⟩
            · intro a o h n
              have := x13.trans sb13 x4 a o h n
              rw [upd_ne (ne_of_none h hD)]
              exact this
            · exact ((RDs.step (φ := φ.in_ D) rv' x4 s4).append (.cons ry .nil)).apart
            · have ho4 : OutR X φ rD os1 σ H1 ((compGo own sv ts el (ds.drop (i + 1)) (wipeE e4 own) >>= fun z => .ok (yd :: z.1, z.2)) >>= fun z => .ok (.list (acc ++ z.1), wipeE z.2 own)) Q := ho3
              have e5 : ((compGo own sv ts el (ds.drop (i + 1)) (wipeE e4 own) >>= fun z => .ok (yd :: z.1, z.2)) >>= fun z => (.ok (.list (acc ++ z.1), wipeE z.2 own) : Res (Z.D × VEnv))) = (compGo own sv ts el (ds.drop (i + 1)) (wipeE e4 own) >>= fun z => .ok (.list ((acc ++ [yd]) ++ z.1), wipeE z.2 own)) := by
                cases compGo own sv ts el (ds.drop (i + 1)) (wipeE e4 own) with
                | ok z => show Res.ok _ = Res.ok _; simp
                | err _ _ => rfl
                | stuck => rfl
              rw [← e5]
              exact ho4
  · have hi' : i = ds.length := by omega
    subst hi'
    refine .inl ⟨y.stop _ H keepH (Nat.le_refl _), ?_⟩
    have hd0 : ds.drop ds.length = [] := by simp
    rw [hd0] at ho
    have ho' : OutR X φ rD os1 σ H1 (.ok (.list (acc ++ []), wipeE e own)) Q := ho
    have er2 : ERel φ (wipeE e own) σ H os := erel_forget (ee.leave) (wipeE_len _ _) (wipe_length σ own).symm own h0 (fun _ h => wipeE_out e h) (fun _ h => (wipeS_out σ h).symm) fun _ _ hj q => wipeE_no hj q
    refine ho' (.ref D) H os ex sb er2 ?_
    rw [List.append_nil]
    refine .lst hDH (fun z => ?_) rv.out
    rcases List.mem_append.mp z with z | z
    · exact nD (List.mem_append_left _ z)
    · exact ee.disj D z List.mem_cons_self
theorem z_comp {elt tg iter : Expr} {ifs : List Expr} {scope : Scope} {ow : List (Str × Nat)} {pos : Pos} {src : Sr} (hc : X.calm = true) (hN : X.N.Nodup) (h0 : 0 ∉ ow.map (·.2) ∨ φ.io = none) (hi : JI X φ tg iter src) (ok : BlkOk X.N X.env.scope scope ow) (hsub : ∀ j ∈ is, j ∈ ow.map (·.2))
    {g : TG} (hgr : ∀ bs, GS ⟨fun _ _ _ _ => False, bs, φ.io⟩ g is sv)
    (hg : ∀ (s : Shared) (H : Hp) (C : Addr) (cl : List (Str × Addr)) (fp : List Addr), PG (X.blk s H scope (compEnvC scope cl C X.env) fp) tg g)
    (ht : ∀ (s : Shared) (H : Hp) (C : Addr) (cl : List (Str × Addr)) (fp : List Addr) (bs : List Addr), JTs (X.blk s H scope (compEnvC scope cl C X.env) fp) ⟨fun _ _ _ _ => False, bs, φ.io⟩ ifs ts)
    (he : ∀ (s : Shared) (H : Hp) (C : Addr) (cl : List (Str × Addr)) (fp : List Addr) (bs : List Addr), JE (X.blk s H scope (compEnvC scope cl C X.env) fp) ⟨fun _ _ _ _ => False, bs, φ.io⟩ elt el)
    (hs : ∀ x, foldedSetIterable iter X.env x = pure x := by intro _; rfl) : JE X φ (.ListComp elt [⟨tg, iter, ifs, 0⟩] scope pos) (xComp src (ow.map (·.2)) sv ts el) := by
  -- one reading for all the frames within
  refine ⟨(pe_lc (g := g) (tt := fun σ H Q => ∃ D, tR X (φ.in_ D) rB ts σ H Q) (te := fun σ H Q => ∃ D, tR X (φ.in_ D) rD el σ H Q) hc hN hi.j ok hg (fun s H C cl fp => ?_) (fun s H C cl fp => ?_) hs).imp fun σ H Q h => ?_⟩
  · exact ⟨fun pins s' σ H' Q I ⟨D, q⟩ => (ht s H C cl fp (D :: φ.bs)).j.run pins s' σ H' Q I q⟩
  · exact ⟨fun pins s' σ H' Q I ⟨D, q⟩ => (he s H C cl fp (D :: φ.bs)).j.run pins s' σ H' Q I q⟩
  · obtain ⟨env, os, e, h⟩ := h
    refine seq_core2 (relA := rI) e h fun J ds H1 env1 os1 x1 s1 e1 yl h1 => fun D hD => ?_
    exact comp_turns (tt := fun σ H Q => ∃ D, tR X (φ.in_ D) rB ts σ H Q) (te := fun σ H Q => ∃ D, tR X (φ.in_ D) rD el σ H Q) h0 hsub (fun D => hgr (D :: φ.bs)) (fun D σ H Q q => ⟨D, q⟩) (fun D σ H Q q => ⟨D, q⟩) e1 yl h1 D hD
end
end Z

namespace Z
open PySem PySem.Spec PyProof.Rows L2

/-- how a statement ends -/
inductive Fw where
  | nx (e : VEnv) | rt (d : D) (e : VEnv) | bk (e : VEnv) | ct (e : VEnv)
abbrev Sm := VEnv → Res Fw
def OutS (X : Cx) (φ : Fm) (os : List Addr) (H : Hp) (r : Res Fw) (E : Ends) : Prop := match r with
  | .ok (.nx e') => ∀ σ' H' os', Ext os H H' → Sub H os os' → ERel φ e' σ' H' os' → E.nx σ' H'
  | .ok (.bk e') => ∀ σ' H' os', Ext os H H' → Sub H os os' → ERel φ e' σ' H' os' → E.bk σ' H'
  | .ok (.ct e') => ∀ σ' H' os', Ext os H H' → Sub H os os' → ERel φ e' σ' H' os' → E.ct σ' H'
  | .ok (.rt d e') => ∀ v σ' H' os', Ext os H H' → Sub H os os' → ERel φ e' σ' H' os' → RD H' (φ.bs ++ os') v d → E.rt v H'
  | .err x e' => ∀ σ' H' os' cls dd, Ext os H H' → Sub H os os' → ERel φ e' σ' H' os' → IsErr X.mg x cls dd H' → φ.W cls dd σ' H'
  | .stuck => False
def tS (X : Cx) (φ : Fm) (f : Sm) : TS := fun E σ H => ∃ env os, ERel φ env σ H os ∧ OutS X φ os H (f env) E
structure JS (X : Cx) (φ : Fm) (st : Stmt) (f : Sm) : Prop where
  j : PS X st (tS X φ f)
structure JSs (X : Cx) (φ : Fm) (sts : List Stmt) (f : Sm) : Prop where
  j : PSs X sts (tS X φ f)
section
variable {X : Cx} {φ : Fm} {env env' : VEnv} {σ σ' : L2.St} {H H' : Hp} {os os' : List Addr} {E : Ends}
theorem OutS.later {r : Res Fw} (x : Ext os H H') (s : Sub H os os') (h : OutS X φ os H r E) : OutS X φ os' H' r E := by
  cases r with
  | ok w =>
    cases w with
    | nx e => exact fun σ2 H2 os2 x2 s2 => h σ2 H2 os2 (x.trans s x2) (s.trans x s2)
    | bk e => exact fun σ2 H2 os2 x2 s2 => h σ2 H2 os2 (x.trans s x2) (s.trans x s2)
    | ct e => exact fun σ2 H2 os2 x2 s2 => h σ2 H2 os2 (x.trans s x2) (s.trans x s2)
    | rt d e => exact fun v σ2 H2 os2 x2 s2 => h v σ2 H2 os2 (x.trans s x2) (s.trans x s2)
  | err e en => exact fun σ2 H2 os2 cls dd x2 s2 => h σ2 H2 os2 cls dd (x.trans s x2) (s.trans x s2)
  | stuck => exact h
theorem OutS.opt {γ : Type} {o : Option γ} {k : γ → Res Fw} (h : OutS X φ os H (ofO o >>= k) E) : ∃ a, o = some a ∧ OutS X φ os H (k a) E := by
  cases o with
  | none => exact h.elim
  | some a => exact ⟨a, rfl, h⟩
theorem OutS.ret {e' : VEnv} (h : OutS X φ os H (.ok (.nx e')) E) (x : Same H H') (e : ERel φ e' σ' H' os) : E.nx σ' H' := h σ' H' os (Ext.of_same x) Sub.refl e
/-- an expression within a statement -/
theorem stm_core {α β : Type} {relA : Rl α β} {f : VEnv → Res (α × VEnv)} {k : α × VEnv → Res Fw} {R : β → Hp → Prop}
    (e : ERel φ env σ H os) (h : OutS X φ os H (f env >>= k) E)
    (hk : ∀ v d H1 env1 os1, Ext os H H1 → Sub H os os1 → ERel φ env1 σ H1 os1 → relA H1 (φ.bs ++ os1) v d → OutS X φ os1 H1 (k (d, env1)) E → R v H1) : tR X φ relA f σ H R := by
  refine ⟨env, os, e, ?_⟩
  cases q : f env with
  | stuck => rw [q] at h; exact h.elim
  | err x y => rw [q] at h; exact fun H2 os2 cls dd => h σ H2 os2 cls dd
  | ok p =>
    rw [q] at h
    intro v H1 os1 x1 s1 e1 r1
    exact hk v p.1 H1 p.2 os1 x1 s1 e1 r1 (OutS.later (r := k p) x1 s1 h)
end

def sNext : Sm := fun e => .ok (.nx e)
def sSeq (f g : Sm) : Sm := fun e => f e >>= fun w => match w with
  | .nx e1 => g e1
  | .rt d e1 => .ok (.rt d e1)
  | .bk e1 => .ok (.bk e1)
  | .ct e1 => .ok (.ct e1)
def sRet (f : Ev) : Sm := fun e => f e >>= fun p => .ok (.rt p.1 p.2)
def sRetN : Sm := fun e => .ok (.rt .none e)
def sBreak : Sm := fun e => .ok (.bk e)
def sCont : Sm := fun e => .ok (.ct e)
def sIf (t : Te) (f g : Sm) : Sm := fun e => t e >>= fun p => if p.1 = true then f p.2 else g p.2
def sDrop (f : Ev) : Sm := fun e => f e >>= fun p => .ok (.nx p.2)
def sAsg (f : Ev) (sv : Sv) : Sm := fun e => f e >>= fun p => ofO (sv p.1 p.2) >>= fun e' => .ok (.nx e')
section
variable {X : Cx} {φ : Fm} {pos : Pos} {st : Stmt} {rest : List Stmt} {e c : Expr} {f g : Sm}
theorem ss_nil : JSs X φ [] sNext := ⟨pss_nil.imp fun E σ H ⟨env, os, e, h⟩ => h σ H os Ext.refl Sub.refl e⟩
theorem seq_out {env : VEnv} {σ : L2.St} {H : Hp} {os : List Addr} {E : Ends} (e : ERel φ env σ H os) (h : OutS X φ os H (sSeq f g env) E) : OutS X φ os H (f env) { E with nx := tS X φ g E } := by
  have h' : OutS X φ os H (f env >>= fun w => match w with
    | .nx e1 => g e1
    | .rt d e1 => .ok (.rt d e1)
    | .bk e1 => .ok (.bk e1)
    | .ct e1 => .ok (.ct e1)) E := h
  cases q : f env with
  | stuck => rw [q] at h'; exact h'.elim
  | err x y => rw [q] at h'; exact h'
  | ok w =>
    rw [q] at h'
    cases w with
    | nx e1 => exact fun σ1 H1 os1 x s e2 => ⟨e1, os1, e2, OutS.later (r := g e1) x s h'⟩
    | rt d e1 => exact h'
    | bk e1 => exact h'
    | ct e1 => exact h'
theorem ss_cons (h1 : JS X φ st f) (h2 : JSs X φ rest g) : JSs X φ (st :: rest) (sSeq f g) := ⟨(pss_cons h1.j h2.j).imp fun E σ H ⟨env, os, e, h⟩ => ⟨env, os, e, seq_out e h⟩⟩
theorem ss_one (h1 : JS X φ st f) : JSs X φ [st] f := ⟨pss_one h1.j⟩
theorem s_pass : JS X φ (.Pass pos) sNext := ⟨ps_pass.imp fun E σ H ⟨env, os, e, h⟩ => h σ H os Ext.refl Sub.refl e⟩
theorem s_break : JS X φ (.Break pos) sBreak := ⟨ps_break.imp fun E σ H ⟨env, os, e, h⟩ => h σ H os Ext.refl Sub.refl e⟩
theorem s_cont : JS X φ (.Continue pos) sCont := ⟨ps_continue.imp fun E σ H ⟨env, os, e, h⟩ => h σ H os Ext.refl Sub.refl e⟩
theorem s_retN : JS X φ (.Return none pos) sRetN := ⟨ps_retN.imp fun E σ H ⟨env, os, e, h⟩ => h .non σ H os Ext.refl Sub.refl e .non⟩
theorem s_ret {fe : Ev} (h : JE X φ e fe) : JS X φ (.Return (some e) pos) (sRet fe) := ⟨(ps_ret h.j).imp fun E σ H ⟨env, os, e, h⟩ => stm_core (relA := rD) e h fun v d H1 env1 os1 x1 s1 e1 r1 h1 => h1 v σ H1 os1 Ext.refl Sub.refl e1 r1⟩
theorem s_expr {fe : Ev} (h : JE X φ e fe) (hs : swapsWith e none pos.line X.env = pure false := by rfl) : JS X φ (.Expr e pos) (sDrop fe) := ⟨(ps_expr h.j hs).imp fun E σ H ⟨env, os, e, h⟩ => stm_core (relA := rD) e h fun v d H1 env1 os1 x1 s1 e1 r1 h1 => h1 σ H1 os1 Ext.refl Sub.refl e1⟩
theorem s_if {t : Te} {a b : List Stmt} (hc : JT X φ c t) (ha : JSs X φ a f) (hb : JSs X φ b g) : JS X φ (.If c a b pos) (sIf t f g) := ⟨(ps_if hc.j ha.j hb.j).imp fun E σ H ⟨env, os, e, h⟩ => stm_core (relA := rB) e h fun v d H1 env1 os1 x1 s1 e1 r1 h1 => by
  have r1 : v = d := r1
  subst r1
  cases v with
  | true => exact ⟨env1, os1, e1, h1⟩
  | false => exact ⟨env1, os1, e1, h1⟩⟩
/-- target = value -/
theorem s_asg {fe : Ev} {tg : Expr} {is : List Nat} {sv : Sv} (h : JE X φ e fe) (hg : JG X φ tg is sv) (hs : swapsWithSole [tg] e pos.line X.env = pure false := by rfl) (hw : swappedStores [tg] e X.env = pure none := by rfl)
    (h1 : (assignEach [tg] X.env).map (·.2) = [assign tg X.env] := by rfl) : JS X φ (.Assign [tg] e pos) (sAsg fe sv) := by
  obtain ⟨g, pg, gs⟩ := hg.j
  exact ⟨(ps_asg h.j pg hs hw h1).imp fun E σ H ⟨env, os, e, h⟩ => stm_core (relA := rD) e h fun v d H1 env1 os1 x1 s1 e1 r1 h1 => by
    obtain ⟨e2, z, h2⟩ := OutS.opt h1
    exact gs e1 r1 z fun σ' _ _ e3 => OutS.ret h2 (Same.refl _) e3⟩
theorem s_set {i : Nat} {x : Str} {fe : Ev} {pos' : Pos} (hio : i ≠ 0 ∨ φ.io = none) (hN : X.N.Nodup) (hi : X.N[i]? = some x) (hx : Loc X.env.scope x) (h : JE X φ e fe) (hs : swapsWith e (some (.Name x pos')) pos.line X.env = pure false := by rfl)
    (hf : X.fn x = true ∨ X.env.scope.names.lookup x = some .local := by first | exact .inl rfl | exact .inr rfl | assumption) : JS X φ (.Assign [.Name x pos'] e pos) (sAsg fe (svName i)) :=
  ⟨(ps_set hN hi hx h.j hs hf).imp fun E σ H ⟨env, os, e, h⟩ => stm_core (relA := rD) e h fun v d H1 env1 os1 x1 s1 e1 r1 h1 => by
    obtain ⟨e2, z, h2⟩ := OutS.opt h1
    exact gs_name (φ := φ) hio e1 r1 z fun σ' _ _ e3 => OutS.ret h2 (Same.refl _) e3⟩
end

/-! ### loops -/
def forGo (fg : List Nat) (sv : Sv) (body : Sm) : List D → VEnv → Res Fw
  | [], e => .ok (.nx e)
  | d :: r, e => ofO (sv d e) >>= fun e1 => body e1 >>= fun w => match w with
    | .nx e2 => forGo fg sv body r (wipeE e2 fg)
    | .ct e2 => forGo fg sv body r (wipeE e2 fg)
    | .bk e2 => .ok (.nx (wipeE e2 fg))
    | .rt d e2 => .ok (.rt d e2)
def sFor (src : Sr) (fg : List Nat) (sv : Sv) (body : Sm) : Sm := fun e => src e >>= fun p => forGo fg sv body p.1 (wipeE p.2 fg)
def whileGo (fg : List Nat) (t : Te) (body : Sm) : Nat → VEnv → Res Fw
  | 0, _ => .stuck
  | n + 1, e => t e >>= fun p => if p.1 = true then (body p.2 >>= fun w => match w with
    | .nx e2 => whileGo fg t body n (wipeE e2 fg)
    | .ct e2 => whileGo fg t body n (wipeE e2 fg)
    | .bk e2 => .ok (.nx (wipeE e2 fg))
    | .rt d e2 => .ok (.rt d e2)) else .ok (.nx (wipeE p.2 fg))
def sWhile (fuel : Nat) (fg : List Nat) (t : Te) (body : Sm) : Sm := fun e => whileGo fg t body fuel (wipeE e fg)
section
variable {X : Cx} {φ : Fm} {pos : Pos} {env : VEnv} {σ : L2.St} {H : Hp} {os : List Addr}
theorem erel_lose (e : ERel φ env σ H os) (fg : List Nat) (h0 : 0 ∉ fg ∨ φ.io = none) : ERel φ (wipeE env fg) σ H os :=
  erel_forget e (wipeE_len _ _) rfl fg h0 (fun _ h => wipeE_out env h) (fun _ _ => rfl) fun _ _ hj q => wipeE_no hj q
theorem s_for {tg iter : Expr} {body : List Stmt} {src : Sr} {is : List Nat} {sv : Sv} {f : Sm} (fg : List Nat) (h0 : 0 ∉ fg ∨ φ.io = none) (hp : PassesOwn (model X.prog X.w) X.A X.env X.xe) (hc : X.calm = true) (hi : JI X φ tg iter src) (hg : JG X φ tg is sv) (hb : JSs X φ body f)
    (hs : ∀ x, foldedSetIterable iter X.env x = pure x := by intro _; rfl) : JS X φ (.For tg iter body [] pos) (sFor src fg sv f) := by
  obtain ⟨g, pg, gs⟩ := hg.j
  refine ⟨(ps_for hp hc hi.j pg hb.j hs).imp fun E σ H ⟨env, os, e, h⟩ => stm_core (relA := rI) e h fun J ds H1 env1 os1 x1 s1 e1 yl h1 => ?_⟩
  let IW : Nat → L2.St → Hp → Prop := fun i σ H => ∃ e os, ERel φ e σ H os ∧ Ext os1 H1 H ∧ Sub H1 os1 os ∧ OutS X φ os1 H1 (forGo fg sv f (ds.drop i) e) E
  refine ⟨fun i m σ H => m = ds.length - i ∧ i ≤ ds.length ∧ IW i σ H, ⟨ds.length, by simp, Nat.zero_le _, wipeE env1 fg, os1, erel_lose e1 fg h0, Ext.refl, Sub.refl, by rw [List.drop_zero]; exact h1⟩, ?_⟩
  rintro i m σ2 H2 ⟨rfl, hle, e2, os2, er2, ex, sb, ho⟩
  have keepH : ∀ a o, H1 a = some o → a ∉ φ.bs ++ os1 → H2 a = some o := fun a o h n => ex a o h fun z => n (List.mem_append_right _ z)
  by_cases hlt : i < ds.length
  · obtain ⟨go, yy⟩ := yl.go i H2 (φ.bs ++ os2) ds[i] keepH (mono_bs ex sb).2 er2.trk (by simp [hlt])
    rw [List.drop_eq_getElem_cons hlt] at ho
    refine .inr ⟨go, IW (i + 1), fun σ' H' w => ⟨ds.length - (i + 1), by omega, rfl, hlt, w⟩, fun x H3 hy => ?_⟩
    obtain ⟨sm, rx⟩ := yy x H3 hy
    have ho' : OutS X φ os1 H1 (ofO (sv ds[i] e2) >>= fun e1 => f e1 >>= fun w => match w with
      | .nx e2 => forGo fg sv f (ds.drop (i + 1)) (wipeE e2 fg)
      | .ct e2 => forGo fg sv f (ds.drop (i + 1)) (wipeE e2 fg)
      | .bk e2 => .ok (.nx (wipeE e2 fg))
      | .rt d e2 => .ok (.rt d e2)) E := ho
    obtain ⟨e3, w1, ho2⟩ := OutS.opt ho'
    refine gs (er2.same sm) rx w1 fun σ3 _ _ er3 => ⟨e3, os2, er3, ?_⟩
    have x13 : Ext os1 H1 H3 := ex.trans sb (Ext.of_same sm)
    cases q : f e3 with
    | stuck => rw [q] at ho2; exact ho2.elim
    | err x y => rw [q] at ho2; exact fun σ' H' os' cls dd x4 s4 => ho2 σ' H' os' cls dd (x13.trans sb x4) (sb.trans x13 s4)
    | ok w =>
      rw [q] at ho2
      cases w with
      | nx e4 => exact fun σ' H' os' x4 s4 e5 => ⟨wipeE e4 fg, os', erel_lose e5 fg h0, x13.trans sb x4, sb.trans x13 s4, ho2⟩
      | ct e4 => exact fun σ' H' os' x4 s4 e5 => ⟨wipeE e4 fg, os', erel_lose e5 fg h0, x13.trans sb x4, sb.trans x13 s4, ho2⟩
      | bk e4 => exact fun σ' H' os' x4 s4 e5 => ho2 σ' H' os' (x13.trans sb x4) (sb.trans x13 s4) (erel_lose e5 fg h0)
      | rt d e4 => exact fun v σ' H' os' x4 s4 => ho2 v σ' H' os' (x13.trans sb x4) (sb.trans x13 s4)
  · have hi' : i = ds.length := by omega
    subst hi'
    refine .inl ⟨yl.stop _ H2 keepH (Nat.le_refl _), ?_⟩
    have hd0 : ds.drop ds.length = [] := by simp
    rw [hd0] at ho
    exact ho σ2 H2 os2 ex sb er2
theorem s_while {c : Expr} {body : List Stmt} {t : Te} {f : Sm} (fuel : Nat) (fg : List Nat) (h0 : 0 ∉ fg ∨ φ.io = none) (hp : PassesOwn (model X.prog X.w) X.A X.env X.xe) (hc : JT X φ c t) (hb : JSs X φ body f) : JS X φ (.While c body [] pos) (sWhile fuel fg t f) := by
  refine ⟨(ps_while hp hc.j hb.j).imp fun E σ1 H1 ⟨env1, os1, e1, h1⟩ => ?_⟩
  refine ⟨fun m σ H => ∃ e os, ERel φ e σ H os ∧ Ext os1 H1 H ∧ Sub H1 os1 os ∧ OutS X φ os1 H1 (whileGo fg t f m e) E, ⟨fuel, wipeE env1 fg, os1, erel_lose e1 fg h0, Ext.refl, Sub.refl, h1⟩, ?_⟩
  rintro m σ2 H2 ⟨e2, os2, er2, ex, sb, ho⟩
  cases m with
  | zero => exact ho.elim
  | succ m =>
    have ho' : OutS X φ os1 H1 (t e2 >>= fun p => if p.1 = true then (f p.2 >>= fun w => match w with
      | .nx e2 => whileGo fg t f m (wipeE e2 fg)
      | .ct e2 => whileGo fg t f m (wipeE e2 fg)
      | .bk e2 => .ok (.nx (wipeE e2 fg))
      | .rt d e2 => .ok (.rt d e2)) else .ok (.nx (wipeE p.2 fg))) E := ho
    refine ⟨e2, os2, er2, ?_⟩
    cases q : t e2 with
    | stuck => rw [q] at ho'; exact ho'.elim
    | err x y => rw [q] at ho'; exact fun H' os' cls dd x4 s4 => ho' σ2 H' os' cls dd (ex.trans sb x4) (sb.trans ex s4)
    | ok p =>
      obtain ⟨b, e3⟩ := p
      rw [q] at ho'
      intro v H3 os3 x3 s3 er3 rv
      have rv : v = b := rv
      subst rv
      have x13 := ex.trans sb x3
      have s13 := sb.trans ex s3
      cases v with
      | false =>
        rw [if_neg Bool.false_ne_true]
        exact ho' σ2 H3 os3 x13 s13 (erel_lose er3 fg h0)
      | true =>
        rw [if_pos rfl]
        refine ⟨fun σ H => ∃ e os, ERel φ e σ H os ∧ Ext os1 H1 H ∧ Sub H1 os1 os ∧ OutS X φ os1 H1 (whileGo fg t f m e) E, fun σ' H' w => ⟨m, Nat.lt_succ_self m, w⟩, e3, os3, er3, ?_⟩
        have ho2 : OutS X φ os1 H1 (f e3 >>= fun w => match w with
          | .nx e2 => whileGo fg t f m (wipeE e2 fg)
          | .ct e2 => whileGo fg t f m (wipeE e2 fg)
          | .bk e2 => .ok (.nx (wipeE e2 fg))
          | .rt d e2 => .ok (.rt d e2)) E := ho'
        cases q : f e3 with
        | stuck => rw [q] at ho2; exact ho2.elim
        | err x y => rw [q] at ho2; exact fun σ' H' os' cls dd x4 s4 => ho2 σ' H' os' cls dd (x13.trans s13 x4) (s13.trans x13 s4)
        | ok w =>
          rw [q] at ho2
          cases w with
          | nx e4 => exact fun σ' H' os' x4 s4 e5 => ⟨wipeE e4 fg, os', erel_lose e5 fg h0, x13.trans s13 x4, s13.trans x13 s4, ho2⟩
          | ct e4 => exact fun σ' H' os' x4 s4 e5 => ⟨wipeE e4 fg, os', erel_lose e5 fg h0, x13.trans s13 x4, s13.trans x13 s4, ho2⟩
          | bk e4 => exact fun σ' H' os' x4 s4 e5 => ho2 σ' H' os' (x13.trans s13 x4) (s13.trans x13 s4) (erel_lose e5 fg h0)
          | rt d e4 => exact fun v σ' H' os' x4 s4 => ho2 v σ' H' os' (x13.trans s13 x4) (s13.trans x13 s4)
end
end Z

namespace Z
open PySem PySem.Spec PyProof.Rows L2

/-! ### fresh lists -/
abbrev Ef := VEnv → Res (List D × VEnv)
def OutF (X : Cx) (φ : Fm) (os : List Addr) (σ : L2.St) (H : Hp) (r : Res (List D × VEnv)) (Q : VK) : Prop := match r with
  | .ok p => ∀ a vs H' os', Ext os H H' → Sub H os os' → (a ∈ os ∨ H a = none) → a ∉ φ.bs → ERel (φ.in_ a) p.2 σ H' os' → H' a = some (.lst vs) → RDs H' ((φ.in_ a).bs ++ os') vs p.1 → Q (.ref a) H'
  | .err x e' => ∀ H' os' cls dd, Ext os H H' → Sub H os os' → ERel φ e' σ H' os' → IsErr X.mg x cls dd H' → φ.W cls dd σ H'
  | .stuck => False
structure JF (X : Cx) (φ : Fm) (e : Expr) (f : Ef) : Prop where
  j : PE X e (fun σ H Q => ∃ env os, ERel φ env σ H os ∧ OutF X φ os σ H (f env) Q)
section
variable {X : Cx} {φ : Fm} {env env' : VEnv} {σ σ' : L2.St} {H H' : Hp} {os os' : List Addr}
theorem fresh_back (x : Ext os H H') (s : Sub H os os') {a : Addr} (n : a ∈ os' ∨ H' a = none) : a ∈ os ∨ H a = none := by
  rcases n with n | n
  · exact s a n
  · by_cases m : a ∈ os
    · exact .inl m
    · exact .inr (x.none m n)
theorem OutF.later {r : Res (List D × VEnv)} {Q : VK} (x : Ext os H H') (s : Sub H os os') (h : OutF X φ os σ H r Q) : OutF X φ os' σ H' r Q := by
  cases r with
  | ok p => exact fun a vs H2 os2 x2 s2 h0 => h a vs H2 os2 (x.trans s x2) (s.trans x s2) (fresh_back x s h0)
  | err e en => exact fun H2 os2 cls dd x2 s2 => h H2 os2 cls dd (x.trans s x2) (s.trans x s2)
  | stuck => exact h
/-- a part of a fresh list's making -/
theorem fr_core {α β : Type} {relA : Rl α β} {f : VEnv → Res (α × VEnv)} {k : α × VEnv → Res (List D × VEnv)} {R : β → Hp → Prop} {Q : VK}
    (e : ERel φ env σ H os) (h : OutF X φ os σ H (f env >>= k) Q)
    (hk : ∀ v d H1 env1 os1, Ext os H H1 → Sub H os os1 → ERel φ env1 σ H1 os1 → relA H1 (φ.bs ++ os1) v d → OutF X φ os1 σ H1 (k (d, env1)) Q → R v H1) : tR X φ relA f σ H R := by
  refine ⟨env, os, e, ?_⟩
  cases q : f env with
  | stuck => rw [q] at h; exact h.elim
  | err x y => rw [q] at h; exact h
  | ok p =>
    rw [q] at h
    intro v H1 os1 x1 s1 e1 r1
    exact hk v p.1 H1 p.2 os1 x1 s1 e1 r1 (OutF.later (r := k p) x1 s1 h)
theorem OutF.opt {γ : Type} {o : Option γ} {k : γ → Res (List D × VEnv)} {Q : VK} (h : OutF X φ os σ H (ofO o >>= k) Q) : ∃ a, o = some a ∧ OutF X φ os σ H (k a) Q := by
  cases o with
  | none => exact h.elim
  | some a => exact ⟨a, rfl, h⟩
/-- a fresh list as a plain value -/
theorem z_fr {e : Expr} {f : Ef} (h : JF X φ e f) : JE X φ e (fun e => f e >>= fun p => .ok (.list p.1, p.2)) := ⟨h.j.imp fun σ H Q ⟨env, os, e, h⟩ => ⟨env, os, e, by
  have h : OutR X φ rD os σ H (f env >>= fun p => .ok (.list p.1, p.2)) Q := h
  cases q : f env with
  | stuck => rw [q] at h; exact h.elim
  | err x y => rw [q] at h; exact h
  | ok p =>
    rw [q] at h
    intro a vs H' os' x s _ nb e' ha r
    refine h (.ref a) H' os' x s e'.leave (.lst ha (fun z => ?_) r.out)
    rcases List.mem_append.mp z with z | z
    · exact nb z
    · exact e'.disj a z List.mem_cons_self⟩⟩
/-- a slot takes a fresh list -/
theorem erel_setOwn {i : Nat} {a : Addr} {vs : List V} {ds : List D} (e : ERel (φ.in_ a) env σ H os) (hio : i ≠ 0 ∨ φ.io = none) (hi : i < env.length) (ha : H a = some (.lst vs)) (r : RDs H ((φ.in_ a).bs ++ os) vs ds) (hb : a ∉ φ.bs) :
    ERel φ (env.set i (.own ds)) (σ.set i (some (.ref a))) H (a :: os) := by
  have hiσ : i < σ.length := by rw [← e.len]; exact hi
  have mv : ∀ b, b ∈ φ.bs ++ (a :: os) → b ∈ (φ.in_ a).bs ++ os ∨ H b = none := fun b m => by
    rcases List.mem_append.mp m with m | m
    · exact .inl (List.mem_append_left _ (List.mem_cons_of_mem _ m))
    · rcases List.mem_cons.mp m with rfl | m
      · exact .inl (List.mem_append_left _ List.mem_cons_self)
      · exact .inl (List.mem_append_right _ m)
  have st : ∀ b o, H b = some o → b ∉ (φ.in_ a).bs ++ os → H b = some o := fun b o h _ => h
  have ano : a ∉ os := fun z => e.disj a z List.mem_cons_self
  refine ⟨by rw [List.length_set, List.length_set]; exact e.len, fun j d q => ?_, fun j es q => ?_, fun j k b es fs q1 q2 q3 q4 => ?_, fun b m => ?_, fun b m => ?_, fun b q => ?_, exc_set2 e.exc i _ (fun _ q => by cases q)⟩
  · by_cases hj : i = j
    · subst hj
      rw [List.getElem?_set_self hi] at q
      cases q
    · rw [List.getElem?_set_ne hj] at q ⊢
      obtain ⟨v, h1, h2⟩ := e.val j d q
      exact ⟨v, h1, h2.mono st mv⟩
  · by_cases hj : i = j
    · subst hj
      rw [List.getElem?_set_self hi] at q
      cases q
      exact ⟨a, vs, by rw [List.getElem?_set_self hiσ], List.mem_cons_self, ha, r.mono st mv⟩
    · rw [List.getElem?_set_ne hj] at q ⊢
      obtain ⟨b, ws, h1, h2, h3, h4⟩ := e.own j es q
      exact ⟨b, ws, h1, List.mem_cons_of_mem _ h2, h3, h4.mono st mv⟩
  · by_cases hj : i = j
    · by_cases hk : i = k
      · exact hj.symm.trans hk
      · exfalso
        subst hj
        rw [List.getElem?_set_self hiσ] at q3
        cases q3
        rw [List.getElem?_set_ne hk] at q2 q4
        obtain ⟨b, ws, h1, h2, _, _⟩ := e.own k fs q2
        rw [q4] at h1
        cases h1
        exact ano h2
    · by_cases hk : i = k
      · exfalso
        subst hk
        rw [List.getElem?_set_self hiσ] at q4
        cases q4
        rw [List.getElem?_set_ne hj] at q1 q3
        obtain ⟨b, ws, h1, h2, _, _⟩ := e.own j es q1
        rw [q3] at h1
        cases h1
        exact ano h2
      · rw [List.getElem?_set_ne hj] at q1 q3
        rw [List.getElem?_set_ne hk] at q2 q4
        exact e.dist j k b es fs q1 q2 q3 q4
  · rcases List.mem_append.mp m with m | m
    · exact e.trk b (List.mem_append_left _ (List.mem_cons_of_mem _ m))
    · rcases List.mem_cons.mp m with rfl | m
      · exact ⟨_, ha⟩
      · exact e.trk b (List.mem_append_right _ m)
  · rcases List.mem_cons.mp m with rfl | m
    · exact hb
    · exact fun z => e.disj b m (List.mem_cons_of_mem _ z)
  · rcases hio with hio | hio
    · obtain ⟨w1, w2, es, w3⟩ := e.io b q
      exact ⟨List.mem_cons_of_mem _ w1, by rw [List.getElem?_set_ne hio]; exact w2, es, by rw [List.getElem?_set_ne hio]; exact w3⟩
    · rw [hio] at q; cases q
/-- an own list changes -/
theorem erel_own {i : Nat} {a : Addr} {vs' : List V} {ds ds' : List D} (e : ERel φ env σ H os) (h1 : env[i]? = some (.own ds)) (h2 : σ[i]? = some (some (.ref a))) (r : RDs H (φ.bs ++ os) vs' ds') :
    a ∈ os ∧ ERel φ (env.set i (.own ds')) σ (upd H a (.lst vs')) os := by
  obtain ⟨a', vs, k1, k2, k3, k4⟩ := e.own i ds h1
  rw [h2] at k1
  cases k1
  have hi : i < env.length := (List.getElem?_eq_some_iff.mp h1).1
  have am : a ∈ φ.bs ++ os := List.mem_append_right _ k2
  have st : ∀ b o, H b = some o → b ∉ φ.bs ++ os → upd H a (.lst vs') b = some o := fun b o h n => by rw [upd_ne (fun z => n (by rw [z]; exact am))]; exact h
  have mv : ∀ b, b ∈ φ.bs ++ os → b ∈ φ.bs ++ os ∨ H b = none := fun b m => .inl m
  refine ⟨k2, by rw [List.length_set]; exact e.len, fun j d q => ?_, fun j es q => ?_, fun j k b es fs q1 q2 q3 q4 => ?_, fun b m => ?_, e.disj, fun b q => ?_, exc_set1 e.exc i (fun _ q => by cases q)⟩
  · by_cases hj : i = j
    · subst hj
      rw [List.getElem?_set_self hi] at q
      cases q
    · rw [List.getElem?_set_ne hj] at q
      obtain ⟨v, w1, w2⟩ := e.val j d q
      exact ⟨v, w1, w2.mono st mv⟩
  · by_cases hj : i = j
    · subst hj
      rw [List.getElem?_set_self hi] at q
      cases q
      exact ⟨a, vs', h2, k2, upd_same, r.mono st mv⟩
    · rw [List.getElem?_set_ne hj] at q
      obtain ⟨b, ws, w1, w2, w3, w4⟩ := e.own j es q
      have hne : b ≠ a := fun z => hj (e.dist i j a ds es h1 q h2 (by rw [w1, z]))
      exact ⟨b, ws, w1, w2, by rw [upd_ne hne]; exact w3, w4.mono st mv⟩
  · have own_of : ∀ (j : Nat) (es : List D), (env.set i (.own ds'))[j]? = some (.own es) → ∃ es', env[j]? = some (.own es') := fun j es q => by
      by_cases hj : i = j
      · subst hj; exact ⟨ds, h1⟩
      · rw [List.getElem?_set_ne hj] at q; exact ⟨es, q⟩
    obtain ⟨es', y1⟩ := own_of j es q1
    obtain ⟨fs', y2⟩ := own_of k fs q2
    exact e.dist j k b es' fs' y1 y2 q3 q4
  · by_cases hb : b = a
    · exact ⟨_, by rw [hb]; exact upd_same⟩
    · rw [upd_ne hb]; exact e.trk b m
  · obtain ⟨w1, w2, es, w3⟩ := e.io b q
    refine ⟨w1, w2, ?_⟩
    by_cases hj : i = 0
    · subst hj; exact ⟨ds', by rw [List.getElem?_set_self hi]⟩
    · exact ⟨es, by rw [List.getElem?_set_ne hj]; exact w3⟩
end

/-! ### makings of fresh lists -/
def fLst (f : Ar) : Ef := fun e => f e >>= fun p => if p.1.length ≤ sizeLine then .ok (p.1, p.2) else .stuck
def fComp (src : Sr) (own : List Nat) (sv : Sv) (ts : Te) (el : Ev) : Ef := fun e => src e >>= fun p => compAll own sv ts el p >>= fun q => match q.1 with
  | .list xs => .ok (xs, q.2)
  | _ => .stuck
/-- a fresh list of one operand, of two -/
def f1 (op : D → Option (List D)) (f : Oe) : Ef := fun e => f e >>= fun p => ofO (rd p.1 p.2) >>= fun a => ofO (op a) >>= fun z => .ok (z, p.2)
def f2 (op : D → D → Option (List D)) (f g : Oe) : Ef := fun e => f e >>= fun p => g p.2 >>= fun q => ofO (rd p.1 q.2) >>= fun a => ofO (rd q.1 q.2) >>= fun b => ofO (op a b) >>= fun z => .ok (z, q.2)
def F1S (r : rCl) (op : D → Option (List D)) : Prop := ∀ {x : V} {d : D} {ds : List D} {H : Hp} {av : List Addr} {Q : VK}, RB H av x d → op d = some ds → (∀ a vs, H a = none → RDs H av vs ds → Q (.ref a) (upd H a (.lst vs))) → r [x] H Q
def F2S (r : R2) (op : D → D → Option (List D)) : Prop := ∀ {x y : V} {d e : D} {ds : List D} {H : Hp} {av : List Addr} {Q : VK}, RB H av x d → RB H av y e → op d e = some ds → (∀ a vs, H a = none → RDs H av vs ds → Q (.ref a) (upd H a (.lst vs))) → r x y H Q
section
variable {X : Cx} {φ : Fm} {pos p : Pos} {a b : Expr} {es : List Expr} {f g : Oe}
theorem fr_new {σ : L2.St} {H : Hp} {os : List Addr} {env : VEnv} {vs : List V} {ds : List D} {Q : VK} (e : ERel φ env σ H os) (r : RDs H (φ.bs ++ os) vs ds) (h : OutF X φ os σ H (.ok (ds, env)) Q) (q : Addr) (n : H q = none) : Q (.ref q) (upd H q (.lst vs)) := by
  refine h q vs _ os (Ext.of_same (same_upd n)) Sub.refl (.inr n) (fun z => new_ref e.trk n (List.mem_append_left _ z)) (e.enter n) upd_same ?_
  refine r.mono (fun a u h _ => same_upd n _ _ h) fun a m => ?_
  rcases List.mem_append.mp m with m | m
  · rcases List.mem_cons.mp m with rfl | m
    · exact .inr n
    · exact .inl (List.mem_append_left _ m)
  · exact .inl (List.mem_append_right _ m)
theorem f_lst {k : Ar} (h : JA X φ es k) : JF X φ (.List es pos) (fLst k) := ⟨(pe_lst h.j).imp fun σ H Q ⟨env, os, e, h⟩ =>
  fr_core (relA := rDs) e h fun vs ds H1 env1 os1 x1 s1 e1 r1 h1 => by
    by_cases hz : ds.length ≤ sizeLine
    · rw [if_pos hz] at h1
      exact ⟨by rw [r1.length]; exact hz, fun q n => fr_new e1 r1 h1 q n⟩
    · rw [if_neg hz] at h1; exact h1.elim⟩
theorem f1_core {r : rCl} {op : D → Option (List D)} (hs : F1S r op) {σ : L2.St} {H : Hp} {os : List Addr} {env : VEnv} {Q : VK} (e : ERel φ env σ H os) (h : OutF X φ os σ H (f1 op f env) Q) : tR X φ (rO σ) f σ H fun x H1 => r [x] H1 Q :=
  fr_core (relA := rO σ) e h fun v o H1 env1 os1 x1 s1 e1 r1 h1 => by
    obtain ⟨d, z, h2⟩ := OutF.opt h1
    obtain ⟨ds, z2, h3⟩ := OutF.opt h2
    exact hs (rd_rb e1 r1 z) z2 fun q vs n rv => fr_new e1 rv h3 q n
theorem f_t1 {x : Str} {id : String} {r : rCl} {op : D → Option (List D)} (hc : CallR X (.type id) r) (hs : F1S r op) (hg : Gl X x) (hm : X.mg x = none) (hv : bootBuiltins x = some (.type id)) (ha : JO X φ a f) (hn : x ≠ "__name__" := by decide)
    (hdb : (x == ("__debug__" : Str)) = false := by decide) (he : starEach [a] X.env = (false, eval a X.env) :: starEach [] X.env := by rfl) (hpl : (backTo pos (starEach [] X.env)).any (·.1) = false := by rfl) : JF X φ (.Call (.Name x p) [a] [] pos) (f1 op f) :=
  ⟨(pe_callTy hc hg hm hv (pa_cons ha.j pa_nil he) hn hdb he hpl).imp fun σ H Q ⟨env, os, e, h⟩ => f1_core hs e h⟩
theorem f_b1 {x : Str} {id : String} {r : rCl} {op : D → Option (List D)} (hc : CallR X (.builtin id) r) (hs : F1S r op) (hg : Gl X x) (hm : X.mg x = none) (hv : bootBuiltins x = some (.builtin id)) (ha : JO X φ a f) (hn : x ≠ "__name__" := by decide)
    (hdb : (x == ("__debug__" : Str)) = false := by decide) (he : starEach [a] X.env = (false, eval a X.env) :: starEach [] X.env := by rfl) (hpl : (backTo pos (starEach [] X.env)).any (·.1) = false := by rfl) : JF X φ (.Call (.Name x p) [a] [] pos) (f1 op f) :=
  ⟨(pe_callB hc hg hm hv (pa_cons ha.j pa_nil he) hn hdb he hpl).imp fun σ H Q ⟨env, os, e, h⟩ => f1_core hs e h⟩
theorem f_bin {op : Operator} {r : R2} {opD : D → D → Option (List D)} (ho : OpR X (binaryOp op) r) (hs : F2S r opD) (ha : JO X φ a f) (hb : JO X φ b g) : JF X φ (.BinOp a op b pos) (f2 opD f g) :=
  ⟨(pe_op ho ha.j hb.j).imp fun σ H Q ⟨env, os, e, h⟩ => fr_core (relA := rO σ) e h fun v o H1 env1 os1 x1 s1 e1 r1 h1 =>
    fr_core (relA := rO σ) e1 h1 fun v2 o2 H2 env2 os2 x2 s2 e2 r2 h2 => by
      obtain ⟨d, z, h3⟩ := OutF.opt h2
      obtain ⟨d2, z2, h4⟩ := OutF.opt h3
      obtain ⟨ds, z3, h5⟩ := OutF.opt h4
      exact hs (rd_rb e2 (rO.step r1 x2 s2) z) (rd_rb e2 r2 z2) z3 fun q vs n rv => fr_new e2 rv h5 q n⟩
def lstF : D → Option (List D)
  | .list xs => some xs
  | .tuple xs => some xs
  | _ => none
theorem s_lstF {K : PySem.W.Frag} : F1S (fun xs H Q => ∃ p ys, xs = [.ref p] ∧ (SqL K H p ys ∨ SqT K H p ys) ∧ ∀ l, H l = none → Q (.ref l) (upd H l (.lst ys))) lstF := fun {x d ds H av Q} r e q => by
  unfold lstF at e
  split at e
  · cases e
    obtain ⟨a, vs, rfl, e1, q1⟩ := r.list
    exact ⟨a, vs, rfl, .inl (SqL.of e1), fun l n => q l vs n q1⟩
  · cases e
    obtain ⟨a, vs, rfl, e1, n1, q1⟩ := r.tuple
    exact ⟨a, vs, rfl, .inr (SqT.of e1), fun l n => q l vs n q1⟩
  · cases e
def catF : D → D → Option (List D)
  | .list xs, .list ys => if xs.length + ys.length ≤ sizeLine then some (xs ++ ys) else none
  | _, _ => none
theorem s_catF {K : PySem.W.Frag} : F2S (rAddZ K) catF := fun {x y d e ds H av Q} r1 r2 h q => by
  unfold catF at h
  split at h
  · split at h
    · next hz =>
      cases h
      obtain ⟨a, vs, rfl, e1, q1⟩ := r1.list
      obtain ⟨b, ws, rfl, e2, q2⟩ := r2.list
      exact .inr (.inr (.inr ⟨a, b, vs, ws, rfl, rfl, e1, e2, by rw [q1.length, q2.length]; exact hz, fun p n => q p _ n (q1.append q2)⟩))
    · cases h
  · cases h
/-! ### a slot takes a fresh list -/
def sOwn (f : Ef) (i : Nat) : Sm := fun e => f e >>= fun p => if i < p.2.length then .ok (.nx (p.2.set i (.own p.1))) else .stuck
theorem own_core {σ : L2.St} {H : Hp} {os : List Addr} {env : VEnv} {E : Ends} {k : Ef} {i : Nat} (hio : i ≠ 0 ∨ φ.io = none) (e : ERel φ env σ H os) (h : OutS X φ os H (sOwn k i env) E) :
    ∃ env os, ERel φ env σ H os ∧ OutF X φ os σ H (k env) (fun v H1 => E.nx (σ.set i (some v)) H1) := by
  refine ⟨env, os, e, ?_⟩
  have h : OutS X φ os H (k env >>= fun p => if i < p.2.length then .ok (.nx (p.2.set i (.own p.1))) else .stuck) E := h
  cases q : k env with
  | stuck => rw [q] at h; exact h.elim
  | err x y => rw [q] at h; exact fun H2 os2 cls dd => h σ H2 os2 cls dd
  | ok p =>
    rw [q] at h
    intro a vs H' os' x s n nb e' ha r
    have h : OutS X φ os H (if i < p.2.length then .ok (.nx (p.2.set i (.own p.1))) else .stuck) E := h
    by_cases hi : i < p.2.length
    · rw [if_pos hi] at h
      refine h _ H' (a :: os') x (fun b m => ?_) (erel_setOwn e' hio hi ha r nb)
      rcases List.mem_cons.mp m with rfl | m
      · exact n
      · exact s b m
    · rw [if_neg hi] at h; exact h.elim
theorem s_setOwn {i : Nat} {x : Str} {e : Expr} {k : Ef} {pos' : Pos} (hio : i ≠ 0 ∨ φ.io = none) (hN : X.N.Nodup) (hi : X.N[i]? = some x) (hx : Loc X.env.scope x) (h : JF X φ e k) (hs : swapsWith e (some (.Name x pos')) pos.line X.env = pure false := by rfl)
    (hf : X.fn x = true ∨ X.env.scope.names.lookup x = some .local := by first | exact .inl rfl | exact .inr rfl | assumption) : JS X φ (.Assign [.Name x pos'] e pos) (sOwn k i) :=
  ⟨(ps_set hN hi hx h.j hs hf).imp fun E σ H ⟨env, os, e, h⟩ => own_core hio e h⟩
end
end Z

namespace Z
open PySem PySem.Spec PyProof.Rows L2

/-! ### a def's promise, where no repr is under way -/
structure FnG (P : Program) (w : World) (K : PySem.W.Frag) (mg : Str → Option Value) (base : Heap) (k : Nat) (f : Addr) (n : Nat) (sp : Sp) : Prop where
  len : ∀ vs H Q E, sp vs H Q E → vs.length = n
  go : ∀ (A : Around) (outer : List Env) (s : Shared) (H : Hp) (us : List Value) (vs : List V) (Q : VK) (E : XK), Room k A → A.guards = some [] → Env0 P w K mg base A outer s H → Vals vs us → sp vs H Q E →
    codeAny (model P w) A (.call (.ref f) ⟨us, []⟩) (CR (L2.CX P w) outer P w H s Q E) s
/-- by the name that the module gives it -/
structure Fn (P : Program) (w : World) (K : PySem.W.Frag) (mg : Str → Option Value) (base : Heap) (k : Nat) (x : Str) (n : Nat) (sp : Sp) : Prop where
  ex : ∃ f, mg x = some (.ref f) ∧ PySem.W.keepIn K (.ref f) = true ∧ FnG P w K mg base k f n sp
section
variable {P : Program} {w : World} {K : PySem.W.Frag} {mg : Str → Option Value} {base : Heap} {k j n : Nat} {f : Addr} {sp sp' : Sp} {x : Str}
theorem FnG.mono (F : FnG P w K mg base j f n sp) (h : j ≤ k) : FnG P w K mg base k f n sp := ⟨F.len, fun A outer s H us vs Q E r => F.go A outer s H us vs Q E (r.mono h)⟩
theorem Fn.mono (F : Fn P w K mg base j x n sp) (h : j ≤ k) : Fn P w K mg base k x n sp := let ⟨f, a, b, c⟩ := F.ex; ⟨f, a, b, c.mono h⟩
theorem Fn.imp (F : Fn P w K mg base k x n sp) (h : ∀ vs H Q E, sp' vs H Q E → sp vs H Q E) : Fn P w K mg base k x n sp' :=
  let ⟨f, a, b, c⟩ := F.ex; ⟨f, a, b, fun vs H Q E q => c.len vs H Q E (h _ _ _ _ q), fun A outer s H us vs Q E r g e v q => c.go A outer s H us vs Q E r g e v (h _ _ _ _ q)⟩
/-- the context of a def's body -/
abbrev bodyX (P : Program) (w : World) (K : PySem.W.Frag) (mg : Str → Option Value) (base : Heap) (N : List Str) (qual : Str) (scope : Scope) (f : Addr) (cdv : Value) (A : Around) (outer : List Env) (s : Shared) (H : Hp) (E : XK) : Cx :=
  cxOf (L2.CX P w) P w K mg base N qual scope f cdv A outer s H E
/-- what every body may count on -/
structure In (k : Nat) (X : Cx) (W : WX) : Prop where
  room : Room k X.A
  gu : X.A.guards = some []
  calm : X.calm = true
  takes : Takes X W
theorem In.mono {X : Cx} {W : WX} (I : In k X W) (h : j ≤ k) : In j X W := ⟨I.room.mono h, I.gu, I.calm, I.takes⟩
/-- a comprehension's block -/
theorem In.blk {X : Cx} {W W' : WX} {s : Shared} {H : Hp} {scope : Scope} {cenv : Env} {fp : List Addr} (I : In k X W) (h : ∀ c d σ H, ¬ W' c d σ H) : In k (X.blk s H scope cenv fp) W' :=
  ⟨I.room, I.gu, I.calm, fun u s' ⟨_, _, _, _, _, _, _, _, _, _, _, _, _, _, _, _, w⟩ => h _ _ _ _ w⟩
theorem fn_core {qual : Str} {params : Arguments} {body : List Stmt} {scope : Scope} {N ps : List Str} {fd : FuncData} (D : FunD K x qual params body scope [] [] f fd) (S : FnScope N ps scope) (hmg : mg x = some (.ref f)) (len : ∀ vs H Q E, sp vs H Q E → vs.length = ps.length)
    (hb : ∀ (kV doc pm : Value) (an : Option Addr) (cdv ct : Value) (us : List Value), us.length = ps.length → bindArgs (PySem.W.fnOf x qual params body scope .none kV doc pm an cdv ct) ⟨us, []⟩ = pure (ps.zip us))
    (hbody : ∀ (cdv : Value) (A : Around) (outer : List Env) (s : Shared) (H : Hp) (vs : List V) (Q : VK) (E : XK), In k (bodyX P w K mg base N qual scope f cdv A outer s H E) (fun cls d _ H => E cls d H) →
      PassesOwn (model P w) (bodyX P w K mg base N qual scope f cdv A outer s H E).A (bodyX P w K mg base N qual scope f cdv A outer s H E).env (bodyX P w K mg base N qual scope f cdv A outer s H E).xe → sp vs H Q E →
      ∃ t, PSs (bodyX P w K mg base N qual scope f cdv A outer s H E) body t ∧ t { nx := fun _ H' => Q .non H', rt := Q } (L2.start N vs) H) : Fn P w K mg base (k + 1) x ps.length sp := by
  have bA := FunD.bindsA D hb
  refine ⟨f, hmg, D.kp, len, fun A outer s H us vs Q E hr hgu e0 r q => ?_⟩
  obtain ⟨oc, od, dV, kV, doc, pm, an, cdv, ct, osl, rfl, lk, hcd, _, _⟩ := D.ex
  have lv := len _ _ _ _ q
  have lu : us.length = ps.length := by rw [← r.length]; exact lv
  have kin : K.In s.heap := e0.mod.kin.keeps fun b o z => (e0.bs b o z).1
  refine codeAny_call_function hr.depth (kin _ _ lk) rfl S.co S.gen rfl (PySem.W.codeRec_of kin hcd) (bA s us lu _ _ _ _ ?_)
  refine wpAny_newFunctionEnv_cells S.kind (fun y hy => ?_) fun env he s1 x1 => ?_
  · obtain ⟨y1, y2⟩ := y
    rcases S.par y1 (List.of_mem_zip hy).1 with z | z
    · exact .inl z
    · exact .inr ⟨z, PySem.W.cellsFrom_some _ _ _ (.inl z)⟩
  · subst he
    refine ⟨(e0.mod.nolimit.keeps fun b o z => (e0.bs b o z).1).keeps x1.toInCall.keep, codeAny_func ?_⟩
    have I : Inv (bodyX P w K mg base N qual scope f cdv A outer s H E) [] (L2.start N vs) H s1 := inv_start S hr.hd e0 lv r x1
    obtain ⟨t, ht, hq⟩ := hbody cdv A outer s H vs Q E ⟨hr.deeper _, hgu, rfl, takes_of rfl rfl rfl rfl⟩ (passes_of rfl) q
    refine wpAny_mono (ht.run [] s1 _ H _ I hq) (fun fl s' z => ?_) fun e s' z => z
    cases fl with
    | ret u => exact let ⟨v, σ', H', J, rv, q⟩ := z; ⟨v, H', J.os, J.bare, J.base, J.hok, rv, q⟩
    | next => exact let ⟨σ', H', J, q⟩ := z; ⟨.non, H', J.os, J.bare, J.base, J.hok, rfl, q⟩
    | brk => exact let ⟨_, _, _, q⟩ := z; q.elim
    | cont => exact let ⟨_, _, _, q⟩ := z; q.elim
end

/-! ### promises by data -/
/-- what a def answers -/
def outP (mg : Str → Option Value) (H : Hp) (av : List Addr) (r : Res D) (Q : VK) (E : XK) : Prop := match r with
  | .ok d => ∀ v H', Same H H' → RD H' av v d → Q v H'
  | .err x _ => ∀ cls dd H', Same H H' → IsErr mg x cls dd H' → E cls dd H'
  | .stuck => False
def spP (mg : Str → Option Value) (n : Nat) (F : List D → Res D) : Sp := fun vs H Q E => ∃ ds av, vs.length = n ∧ (∀ a ∈ av, ∃ o, H a = some o) ∧ RDs H av vs ds ∧ outP mg H av (F ds) Q E
def fnEnd (r : Res Fw) : Res D := match r with
  | .ok (.nx _) => .ok .none
  | .ok (.rt d _) => .ok d
  | .ok _ => .stuck
  | .err x _ => .err x []
  | .stuck => .stuck
def envP (n : Nat) (ds : List D) : VEnv := ds.map .val ++ List.replicate (n - ds.length) .no
/-- the function of a def's body: n slots -/
def fnP (n : Nat) (f : Sm) (ds : List D) : Res D := fnEnd (f (envP n ds))
/-- with the in-and-out list ahead -/
def outI (mg : Str → Option Value) (H : Hp) (a : Addr) (av : List Addr) (r : Res (D × List D)) (Q : VK) : Prop := match r with
  | .ok p => ∀ v H' us, Ext [a] H H' → H' a = some (.lst us) → RDs H' av us p.2 → RD H' av v p.1 → Q v H'
  | _ => False
def spI (mg : Str → Option Value) (n : Nat) (F : List D → List D → Res (D × List D)) : Sp := fun vs H Q E => ∃ a us xs rest ds av, vs = .ref a :: rest ∧ rest.length = n ∧ a ∈ av ∧ (∀ b ∈ av, ∃ o, H b = some o) ∧ H a = some (.lst us) ∧ RDs H av us xs ∧ RDs H av rest ds ∧
  outI mg H a av (F xs ds) Q
def ownAt (e : VEnv) (i : Nat) : Option (List D) := match e.getD i .no with
  | .own xs => some xs
  | _ => none
def fnEndI (r : Res Fw) : Res (D × List D) := match r with
  | .ok (.nx e) => (match ownAt e 0 with
    | some xs => .ok (.none, xs)
    | none => .stuck)
  | .ok (.rt d e) => (match ownAt e 0 with
    | some xs => .ok (d, xs)
    | none => .stuck)
  | _ => .stuck
def envI (n : Nat) (xs : List D) (ds : List D) : VEnv := .own xs :: (ds.map .val ++ List.replicate (n - (ds.length + 1)) .no)
def fnI (n : Nat) (f : Sm) (xs ds : List D) : Res (D × List D) := fnEndI (f (envI n xs ds))
theorem ownAt_some {e : VEnv} {i : Nat} {xs : List D} (h : ownAt e i = some xs) : e[i]? = some (.own xs) := by
  unfold ownAt at h
  cases z : e.getD i .no with
  | own ys => rw [z] at h; cases h; exact getD_val z (fun q => by cases q)
  | no => rw [z] at h; cases h
  | exc _ => rw [z] at h; cases h
  | val d => rw [z] at h; cases h
theorem RDs.getV {H : Hp} {av : List Addr} : ∀ {vs : List V} {ds : List D} {i : Nat} {d : D}, RDs H av vs ds → (ds.map Sl.val)[i]? = some (.val d) → ∃ v, (vs.map some)[i]? = some (some v) ∧ RD H av v d := fun {vs ds i d} r e => by
  rw [List.getElem?_map] at e
  cases z : ds[i]? with
  | none => rw [z] at e; cases e
  | some d' =>
    rw [z] at e
    cases e
    obtain ⟨v, h1, h2⟩ := r.get z
    exact ⟨v, by rw [List.getElem?_map, h1]; rfl, h2⟩
theorem envP_noex {n : Nat} {ds : List D} (i : Nat) (a : Addr) : (envP n ds)[i]? ≠ some (.exc a) := fun q => by
  unfold envP at q
  by_cases hi : i < (ds.map Sl.val).length
  · rw [List.getElem?_append_left hi, List.getElem?_map] at q
    cases z : ds[i]? with
    | none => rw [z] at q; cases q
    | some d => rw [z] at q; cases q
  · rw [List.getElem?_append_right (Nat.le_of_not_lt hi), List.getElem?_replicate] at q
    split at q <;> cases q
theorem start_rel {φ : Fm} {H : Hp} {N : List Str} {vs : List V} {ds : List D} (hio : φ.io = none) (r : RDs H φ.bs vs ds) (t : ∀ a ∈ φ.bs, ∃ o, H a = some o) (hl : vs.length ≤ N.length) : ERel φ (envP N.length ds) (L2.start N vs) H [] := by
  have noex := envP_noex (n := N.length) (ds := ds)
  have nov : ∀ (i : Nat) (es : List D), (envP N.length ds)[i]? ≠ some (.own es) := fun i es q => by
    unfold envP at q
    by_cases hi : i < (ds.map Sl.val).length
    · rw [List.getElem?_append_left hi, List.getElem?_map] at q
      cases z : ds[i]? with
      | none => rw [z] at q; cases q
      | some d => rw [z] at q; cases q
    · rw [List.getElem?_append_right (Nat.le_of_not_lt hi), List.getElem?_replicate] at q
      split at q <;> cases q
  refine ⟨?_, fun i d q => ?_, fun i es q => absurd q (nov i es), fun i j a es fs q _ _ _ => absurd q (nov i es), fun a m => t a (by simpa using m), fun a m => absurd m (by simp), fun a q => absurd (hio.symm.trans q) (by simp), fun i a q => absurd q (noex i a)⟩
  · unfold envP L2.start
    rw [List.length_append, List.length_append, List.length_map, List.length_map, List.length_replicate, List.length_replicate, r.length]
  · rw [List.append_nil]
    unfold envP at q
    unfold L2.start
    by_cases hi : i < (ds.map Sl.val).length
    · rw [List.getElem?_append_left hi] at q
      obtain ⟨v, h1, h2⟩ := r.getV q
      refine ⟨v, ?_, h2⟩
      rw [List.getElem?_append_left (by rw [List.length_map, r.length]; simpa using hi)]
      exact h1
    · rw [List.getElem?_append_right (Nat.le_of_not_lt hi), List.getElem?_replicate] at q
      split at q <;> cases q
section
variable {P : Program} {w : World} {K : PySem.W.Frag} {mg : Str → Option Value} {base : Heap} {k j n : Nat} {f : Addr} {x : Str}
/-- a plain def by its body -/
theorem fn_pure {qual : Str} {params : Arguments} {body : List Stmt} {scope : Scope} {N ps : List Str} {fd : FuncData} {g : Sm} (D : FunD K x qual params body scope [] [] f fd) (S : FnScope N ps scope) (hmg : mg x = some (.ref f)) (hpn : ps.length ≤ N.length)
    (hb : ∀ (kV doc pm : Value) (an : Option Addr) (cdv ct : Value) (us : List Value), us.length = ps.length → bindArgs (PySem.W.fnOf x qual params body scope .none kV doc pm an cdv ct) ⟨us, []⟩ = pure (ps.zip us))
    (hbody : ∀ (cdv : Value) (A : Around) (outer : List Env) (s : Shared) (H : Hp) (E : XK) (bs : List Addr), In k (bodyX P w K mg base N qual scope f cdv A outer s H E) (fun cls d _ H => E cls d H) →
      PassesOwn (model P w) (bodyX P w K mg base N qual scope f cdv A outer s H E).A (bodyX P w K mg base N qual scope f cdv A outer s H E).env (bodyX P w K mg base N qual scope f cdv A outer s H E).xe →
      JSs (bodyX P w K mg base N qual scope f cdv A outer s H E) ⟨fun cls d _ H => E cls d H, bs, none⟩ body g) : Fn P w K mg base (k + 1) x ps.length (spP mg ps.length (fnP N.length g)) := by
  refine fn_core D S hmg (fun vs H Q E ⟨_, _, h, _⟩ => h) hb fun cdv A outer s H vs Q E I po ⟨ds, av, hl, ht, r, ho⟩ => ⟨_, (hbody cdv A outer s H E av I po).j, envP N.length ds, [], start_rel rfl r ht (by omega), ?_⟩
  unfold fnP at ho
  cases q : g (envP N.length ds) with
  | stuck => rw [q] at ho; exact ho.elim
  | err e en =>
    rw [q] at ho
    intro σ' H' os' cls dd x1 _ _ ie
    exact ho cls dd H' (fun a o h => x1 a o h (by simp)) ie
  | ok fw =>
    rw [q] at ho
    have le : ∀ {H' : Hp} {os' : List Addr} {v : V} {d : Z.D}, RD H' (av ++ os') v d → RD H' av v d := fun h => h.mono (fun _ _ e _ => e) fun a m => .inl (List.mem_append_left _ m)
    cases fw with
    | nx e => exact fun σ' H' os' x1 _ _ => ho .non H' (fun a o h => x1 a o h (by simp)) .non
    | rt d e => exact fun v σ' H' os' x1 _ _ rv => ho v H' (fun a o h => x1 a o h (by simp)) (le rv)
    | bk e => exact ho.elim
    | ct e => exact ho.elim
theorem start_relI {φ : Fm} {H : Hp} {N : List Str} {a : Addr} {us vs : List V} {xs ds : List D} (hio : φ.io = some a) (ha : H a = some (.lst us)) (r1 : RDs H (φ.bs ++ [a]) us xs) (r : RDs H (φ.bs ++ [a]) vs ds) (t : ∀ a ∈ φ.bs, ∃ o, H a = some o) (n : a ∉ φ.bs) (hl : vs.length + 1 ≤ N.length) :
    ERel φ (envI N.length xs ds) (L2.start N (.ref a :: vs)) H [a] := by
  have noex : ∀ (i : Nat) (b : Addr), (envI N.length xs ds)[i]? ≠ some (.exc b) := fun i b q => by
    unfold envI at q
    cases i with
    | zero => simp at q
    | succ i =>
      rw [List.getElem?_cons_succ] at q
      by_cases hi : i < (ds.map Sl.val).length
      · rw [List.getElem?_append_left hi, List.getElem?_map] at q
        cases z : ds[i]? with
        | none => rw [z] at q; cases q
        | some d => rw [z] at q; cases q
      · rw [List.getElem?_append_right (Nat.le_of_not_lt hi), List.getElem?_replicate] at q
        split at q <;> cases q
  have only : ∀ (i : Nat) (es : List D), (envI N.length xs ds)[i]? = some (.own es) → i = 0 ∧ es = xs := fun i es q => by
    unfold envI at q
    cases i with
    | zero => simp at q; exact ⟨rfl, q.symm⟩
    | succ i =>
      rw [List.getElem?_cons_succ] at q
      by_cases hi : i < (ds.map Sl.val).length
      · rw [List.getElem?_append_left hi, List.getElem?_map] at q
        cases z : ds[i]? with
        | none => rw [z] at q; cases q
        | some d => rw [z] at q; cases q
      · rw [List.getElem?_append_right (Nat.le_of_not_lt hi), List.getElem?_replicate] at q
        split at q <;> cases q
  refine ⟨?_, fun i d q => ?_, fun i es q => ?_, fun i j b es fs q1 q2 _ _ => (only i es q1).1.trans (only j fs q2).1.symm, fun b m => ?_, fun b m => ?_, fun b q => ?_, fun i b q => absurd q (noex i b)⟩
  · unfold envI L2.start
    rw [List.length_cons, List.length_append, List.length_append, List.length_map, List.length_map, List.length_replicate, List.length_replicate, List.length_cons, r.length]
    omega
  · unfold envI at q
    unfold L2.start
    cases i with
    | zero => simp at q
    | succ i =>
      rw [List.getElem?_cons_succ] at q
      rw [List.map_cons, List.cons_append, List.getElem?_cons_succ]
      by_cases hi : i < (ds.map Sl.val).length
      · rw [List.getElem?_append_left hi] at q
        obtain ⟨v, h1, h2⟩ := r.getV q
        refine ⟨v, ?_, h2⟩
        rw [List.getElem?_append_left (by rw [List.length_map, r.length]; simpa using hi)]
        exact h1
      · rw [List.getElem?_append_right (Nat.le_of_not_lt hi), List.getElem?_replicate] at q
        split at q <;> cases q
  · obtain ⟨rfl, rfl⟩ := only i es q
    exact ⟨a, us, rfl, List.mem_singleton.mpr rfl, ha, r1⟩
  · rcases List.mem_append.mp m with m | m
    · exact t b m
    · rw [List.mem_singleton.mp m]; exact ⟨_, ha⟩
  · rw [List.mem_singleton.mp m]; exact n
  · rw [hio] at q
    cases q
    exact ⟨List.mem_singleton.mpr rfl, rfl, xs, rfl⟩
/-- a def with the in-and-out list ahead -/
theorem fn_io {qual : Str} {params : Arguments} {body : List Stmt} {scope : Scope} {N ps : List Str} {fd : FuncData} {g : Sm} {m : Nat} (D : FunD K x qual params body scope [] [] f fd) (S : FnScope N ps scope) (hmg : mg x = some (.ref f)) (hpn : ps.length ≤ N.length) (hm : ps.length = m + 1)
    (hb : ∀ (kV doc pm : Value) (an : Option Addr) (cdv ct : Value) (us : List Value), us.length = ps.length → bindArgs (PySem.W.fnOf x qual params body scope .none kV doc pm an cdv ct) ⟨us, []⟩ = pure (ps.zip us))
    (hbody : ∀ (cdv : Value) (A : Around) (outer : List Env) (s : Shared) (H : Hp) (E : XK) (bs : List Addr) (a : Addr), In k (bodyX P w K mg base N qual scope f cdv A outer s H E) (fun _ _ _ _ => False) →
      PassesOwn (model P w) (bodyX P w K mg base N qual scope f cdv A outer s H E).A (bodyX P w K mg base N qual scope f cdv A outer s H E).env (bodyX P w K mg base N qual scope f cdv A outer s H E).xe →
      JSs (bodyX P w K mg base N qual scope f cdv A outer s H E) ⟨fun _ _ _ _ => False, bs, some a⟩ body g) : Fn P w K mg base (k + 1) x ps.length (spI mg m (fnI N.length g)) := by
  refine fn_core D S hmg (fun vs H Q E ⟨a, us, xs, rest, ds, av, h, h2, _⟩ => by rw [h, List.length_cons, h2, hm]) hb fun cdv A outer s H vs Q E I po ⟨a, us, xs, rest, ds, av, hv, hl, ha, ht, hu, r1, r, ho⟩ => ?_
  subst hv
  have mv : ∀ b, b ∈ av.filter (· ≠ a) ++ [a] → b ∈ av ∨ H b = none := fun b m => .inl ((List.mem_append.mp m).elim (fun q => (List.mem_filter.mp q).1) fun q => by rw [List.mem_singleton.mp q]; exact ha)
  have nb : a ∉ av.filter (· ≠ a) := fun q => by
    have := (List.mem_filter.mp q).2
    simp at this
  refine ⟨_, (hbody cdv A outer s H E (av.filter (· ≠ a)) a ⟨I.room, I.gu, I.calm, I.takes.imp fun _ _ _ _ z => z.elim⟩ po).j, envI N.length xs ds, [a], start_relI rfl hu (r1.mono (fun _ _ e _ => e) mv) (r.mono (fun _ _ e _ => e) mv) (fun b q => ht b (List.mem_filter.mp q).1) nb (by omega), ?_⟩
  unfold fnI at ho
  have back : ∀ {H' : Hp} {os' : List Addr}, a ∈ os' → ∀ b, b ∈ av → b ∈ av.filter (· ≠ a) ++ os' ∨ H' b = none := fun {H' os'} m b q => by
    by_cases hb : b = a
    · rw [hb]; exact .inl (List.mem_append_right _ m)
    · exact .inl (List.mem_append_left _ (List.mem_filter.mpr ⟨q, by simpa using hb⟩))
  cases q : g (envI N.length xs ds) with
  | stuck => rw [q] at ho; exact ho.elim
  | err e en => rw [q] at ho; exact ho.elim
  | ok fw =>
    rw [q] at ho
    cases fw with
    | nx e =>
      have ho : outI mg H a av (match ownAt e 0 with
        | some xs => .ok (.none, xs)
        | none => .stuck) Q := ho
      cases z : ownAt e 0 with
      | none => rw [z] at ho; exact ho.elim
      | some ys =>
        rw [z] at ho
        intro σ' H' os' x1 s1 e1
        obtain ⟨i1, i2, es, i3⟩ := e1.io a rfl
        obtain ⟨a', ws, o1, o2, o3, o4⟩ := e1.own 0 ys (ownAt_some z)
        rw [i2] at o1
        cases o1
        exact ho .non H' ws x1 o3 (o4.mono (fun _ _ e _ => e) (back i1)) .non
    | rt d e =>
      have ho : outI mg H a av (match ownAt e 0 with
        | some xs => .ok (d, xs)
        | none => .stuck) Q := ho
      cases z : ownAt e 0 with
      | none => rw [z] at ho; exact ho.elim
      | some ys =>
        rw [z] at ho
        intro v σ' H' os' x1 s1 e1 rv
        obtain ⟨i1, i2, es, i3⟩ := e1.io a rfl
        obtain ⟨a', ws, o1, o2, o3, o4⟩ := e1.own 0 ys (ownAt_some z)
        rw [i2] at o1
        cases o1
        exact ho v H' ws x1 o3 (o4.mono (fun _ _ e _ => e) (back i1)) (rv.mono (fun _ _ e _ => e) (back i1))
    | bk e => exact ho.elim
    | ct e => exact ho.elim
end

/-! ### calls -/
def xCall (F : List D → Res D) (args : Ar) : Ev := fun e => args e >>= fun p => match F p.1 with
  | .ok d => .ok (d, p.2)
  | .err x _ => .err x p.2
  | .stuck => .stuck
/-- slot i holds the in-and-out list -/
def xCallI (i : Nat) (F : List D → List D → Res (D × List D)) (args : Ar) : Ev := fun e => ofO (ownAt e i) >>= fun _ => args e >>= fun p => ofO (ownAt p.2 i) >>= fun xs => match F xs p.1 with
  | .ok q => .ok (q.1, p.2.set i (.own q.2))
  | _ => .stuck
section
variable {X : Cx} {φ : Fm} {k j n : Nat} {x : Str} {p pos : Pos} {e : Expr} {es : List Expr} {F : List D → Res D} {a : Ar}
/-- a def that runs, in a state of ours -/
theorem go_fn {sp : Sp} {f : Addr} {pins : List (Addr × Obj)} {σ : L2.St} {H : Hp} {s : Shared} {Q : VK} {us : List Value} {vs : List V} (Fg : FnG X.prog X.w X.K X.mg X.base k f n sp) (I : In k X φ.W) (Iv : Inv X pins σ H s) (r : Vals vs us) (h : sp vs H Q (fun cls d H => φ.W cls d σ H)) :
    wpAny (model X.prog X.w) X.A (call (.ref f) us) (EP X pins σ Q) X.xe s := by
  refine wpAny_call (codeAny_mono (Fg.go X.A X.stack s H us vs Q _ I.room I.gu Iv.env0 r h) fun z s' hz => ?_)
  cases z with
  | error y => exact I.takes y s' (XE.of_call Iv (fun _ _ _ q => q) hz)
  | ok fl =>
    cases fl with
    | ret u => exact Iv.after hz
    | next => exact hz.elim
    | brk => exact hz.elim
    | cont => exact hz.elim
theorem call_core {fa : Expr} {fs : List Expr} {t : TA} {sp : Sp} (Fn : Fn X.prog X.w X.K X.mg X.base j x n sp) (hj : j ≤ k) (I : In k X φ.W) (hg : Gl X x) (ha : PA X (fa :: fs) t) (hdb : (x == ("__debug__" : Str)) = false := by decide)
    (he : starEach (fa :: fs) X.env = (false, eval fa X.env) :: starEach fs X.env := by rfl) (hpl : (backTo pos (starEach fs X.env)).any (·.1) = false := by rfl) :
    PE X (.Call (.Name x p) (fa :: fs) [] pos) (fun σ H Q => t σ H fun vs H1 => sp vs H1 Q (fun cls d H => φ.W cls d σ H)) := by
  obtain ⟨f, hm, hk, Fg⟩ := (Fn.mono hj).ex
  refine ⟨fun pins s σ H Q Iv h => wpAny_Call_Name_kw (ld_glob Iv hg hm ?_ hdb)⟩
  refine PySem.W.callWith_K (h₀ := X.base) Iv.ok.mod.kin hk (thn (ha.run pos pins s σ H _ Iv h) fun us s1 ⟨vs, H1, I1, r, q⟩ => ⟨I1.kIn, ?_⟩) he hpl
  exact go_fn Fg I I1 r q
theorem call_core0 {sp : Sp} (Fn : Fn X.prog X.w X.K X.mg X.base j x n sp) (hj : j ≤ k) (I : In k X φ.W) (hg : Gl X x) (hdb : (x == ("__debug__" : Str)) = false := by decide) :
    PE X (.Call (.Name x p) [] [] pos) (fun σ H Q => sp [] H Q (fun cls d H => φ.W cls d σ H)) := by
  obtain ⟨f, hm, hk, Fg⟩ := (Fn.mono hj).ex
  exact ⟨fun pins s σ H Q Iv h => wpAny_Call_Name_kw (ld_glob Iv hg hm (PySem.W.callWith_K0 Iv.kIn hk (go_fn (us := []) (vs := []) Fg I Iv .nil h)) hdb)⟩
theorem call_end {σ : L2.St} {H : Hp} {os : List Addr} {env : VEnv} {vs : List V} {ds : List D} {Q : VK} (e : ERel φ env σ H os) (hl : ds.length = n) (r : RDs H (φ.bs ++ os) vs ds)
    (h : OutR X φ rD os σ H (match F ds with
      | .ok d => .ok (d, env)
      | .err x _ => .err x env
      | .stuck => .stuck) Q) : spP X.mg n F vs H Q (fun cls d H => φ.W cls d σ H) := by
  refine ⟨ds, φ.bs ++ os, by rw [r.length, hl], e.trk, r, ?_⟩
  cases q : F ds with
  | stuck => rw [q] at h; exact h.elim
  | err y z => rw [q] at h; exact fun cls dd H' sm ie => h H' os cls dd (Ext.of_same sm) Sub.refl (e.same sm) ie
  | ok d => rw [q] at h; exact fun v H' sm rv => h v H' os (Ext.of_same sm) Sub.refl (e.same sm) rv
theorem z_call (Fn : Fn X.prog X.w X.K X.mg X.base j x n (spP X.mg n F)) (hj : j ≤ k) (I : In k X φ.W) (hg : Gl X x) (ha : JA X φ (e :: es) a) (hn : ∀ env p, a env = .ok p → p.1.length = n) (hdb : (x == ("__debug__" : Str)) = false := by decide)
    (he : starEach (e :: es) X.env = (false, eval e X.env) :: starEach es X.env := by rfl) (hpl : (backTo pos (starEach es X.env)).any (·.1) = false := by rfl) : JE X φ (.Call (.Name x p) (e :: es) [] pos) (xCall F a) :=
  ⟨(call_core Fn hj I hg ha.j hdb he hpl).imp fun σ H Q ⟨env, os, e, h⟩ => by
    have h : OutR X φ rD os σ H (a env >>= fun p => match F p.1 with
      | .ok d => .ok (d, p.2)
      | .err x _ => .err x p.2
      | .stuck => .stuck) Q := h
    refine ⟨env, os, e, ?_⟩
    cases q : a env with
    | stuck => rw [q] at h; exact h.elim
    | err y z => rw [q] at h; exact h
    | ok pr =>
      rw [q] at h
      intro vs H1 os1 x1 s1 e1 r1
      exact call_end e1 (hn env pr q) r1 (OutR.later (r := match F pr.1 with
        | .ok d => .ok (d, pr.2)
        | .err x _ => .err x pr.2
        | .stuck => .stuck) x1 s1 h)⟩
theorem z_call0 (Fn : Fn X.prog X.w X.K X.mg X.base j x 0 (spP X.mg 0 F)) (hj : j ≤ k) (I : In k X φ.W) (hg : Gl X x) (hdb : (x == ("__debug__" : Str)) = false := by decide) : JE X φ (.Call (.Name x p) [] [] pos) (xCall F arNil) :=
  ⟨(call_core0 Fn hj I hg hdb).imp fun σ H Q ⟨env, os, e, h⟩ => call_end (env := env) (ds := []) e rfl .nil h⟩
/-- the in-and-out list changes -/
theorem erel_io {env : VEnv} {σ : L2.St} {H H' : Hp} {os : List Addr} {i : Nat} {b : Addr} {vs' : List V} {ds ds' : List D} (e : ERel φ env σ H os) (h1 : env[i]? = some (.own ds)) (h2 : σ[i]? = some (some (.ref b))) (x : Ext [b] H H') (hb : H' b = some (.lst vs')) (r : RDs H' (φ.bs ++ os) vs' ds') :
    ERel φ (env.set i (.own ds')) σ H' os := by
  obtain ⟨b', vs, k1, k2, k3, k4⟩ := e.own i ds h1
  rw [h2] at k1
  cases k1
  have hi : i < env.length := (List.getElem?_eq_some_iff.mp h1).1
  have am : b ∈ φ.bs ++ os := List.mem_append_right _ k2
  have st : ∀ c o, H c = some o → c ∉ φ.bs ++ os → H' c = some o := fun c o h n => x c o h (by rw [List.mem_singleton]; exact fun z => n (by rw [z]; exact am))
  have mv : ∀ c, c ∈ φ.bs ++ os → c ∈ φ.bs ++ os ∨ H c = none := fun c m => .inl m
  have own_of : ∀ (j : Nat) (es : List D), (env.set i (.own ds'))[j]? = some (.own es) → ∃ es', env[j]? = some (.own es') := fun j es q => by
    by_cases hj : i = j
    · subst hj; exact ⟨ds, h1⟩
    · rw [List.getElem?_set_ne hj] at q; exact ⟨es, q⟩
  refine ⟨by rw [List.length_set]; exact e.len, fun j d q => ?_, fun j es q => ?_, fun j k c es fs q1 q2 q3 q4 => ?_, fun c m => ?_, e.disj, fun c q => ?_, exc_set1 e.exc i (fun _ q => by cases q)⟩
  · by_cases hj : i = j
    · subst hj
      rw [List.getElem?_set_self hi] at q
      cases q
    · rw [List.getElem?_set_ne hj] at q
      obtain ⟨v, w1, w2⟩ := e.val j d q
      exact ⟨v, w1, w2.mono st mv⟩
  · by_cases hj : i = j
    · subst hj
      rw [List.getElem?_set_self hi] at q
      cases q
      exact ⟨b, vs', h2, k2, hb, r⟩
    · rw [List.getElem?_set_ne hj] at q
      obtain ⟨c, ws, w1, w2, w3, w4⟩ := e.own j es q
      have hne : c ≠ b := fun z => hj (e.dist i j b ds es h1 q h2 (by rw [w1, z]))
      exact ⟨c, ws, w1, w2, x c _ w3 (by rw [List.mem_singleton]; exact hne), w4.mono st mv⟩
  · obtain ⟨es', y1⟩ := own_of j es q1
    obtain ⟨fs', y2⟩ := own_of k fs q2
    exact e.dist j k c es' fs' y1 y2 q3 q4
  · by_cases hc : c = b
    · rw [hc]; exact ⟨_, hb⟩
    · obtain ⟨o, ho⟩ := e.trk c m
      exact ⟨o, x c o ho (by rw [List.mem_singleton]; exact hc)⟩
  · obtain ⟨w1, w2, es, w3⟩ := e.io c q
    refine ⟨w1, w2, ?_⟩
    by_cases hj : i = 0
    · subst hj; exact ⟨ds', by rw [List.getElem?_set_self hi]⟩
    · exact ⟨es, by rw [List.getElem?_set_ne hj]; exact w3⟩
theorem z_callI {i m : Nat} {y : Str} {py : Pos} {F : List D → List D → Res (D × List D)} (Fn : Fn X.prog X.w X.K X.mg X.base j x n (spI X.mg m F)) (hj : j ≤ k) (I : In k X φ.W) (hg : Gl X x) (ha : JA X φ es a) (hn : ∀ env p, a env = .ok p → p.1.length = m)
    (hN : X.N[i]? = some y := by rfl) (hv : Vis X.env.scope y := by first | exact Or.inl rfl | exact Or.inr (Or.inl rfl) | exact Or.inr (Or.inr rfl)) (hd : (y == ("__debug__" : Str)) = false := by decide) (hcd : (y == ("__classdict__" : Str)) = false := by decide)
    (hdb : (x == ("__debug__" : Str)) = false := by decide) (he : starEach (Expr.Name y py :: es) X.env = (false, eval (Expr.Name y py) X.env) :: starEach es X.env := by rfl) (hpl : (backTo pos (starEach es X.env)).any (·.1) = false := by rfl) :
    JE X φ (.Call (.Name x p) (.Name y py :: es) [] pos) (xCallI i F a) :=
  ⟨(call_core Fn hj I hg (pa_cons (pe_var hN hv hd hcd) ha.j he) hdb he hpl).imp fun σ H Q ⟨env, os, e, h⟩ => by
    obtain ⟨xs0, z0, h⟩ := OutR.opt (k := fun _ => a env >>= fun p => ofO (ownAt p.2 i) >>= fun xs => match F xs p.1 with
      | .ok q => .ok (q.1, p.2.set i (.own q.2))
      | _ => .stuck) h
    obtain ⟨b, _, hb, _⟩ := e.own i xs0 (ownAt_some z0)
    refine ⟨_, hb, env, os, e, ?_⟩
    cases q : a env with
    | stuck => rw [q] at h; exact h.elim
    | err y z => rw [q] at h; exact h
    | ok pr =>
      rw [q] at h
      intro vs H1 os1 x1 s1 e1 r1
      obtain ⟨xs, z1, h1⟩ := OutR.opt (k := fun xs => match F xs pr.1 with
        | .ok q => .ok (q.1, pr.2.set i (.own q.2))
        | _ => .stuck) h
      obtain ⟨b', us, hb', bm, hu, ru⟩ := e1.own i xs (ownAt_some z1)
      rw [hb] at hb'
      cases hb'
      refine ⟨b, us, xs, vs, pr.1, φ.bs ++ os1, rfl, by rw [r1.length, hn env pr q], List.mem_append_right _ bm, e1.trk, hu, ru, r1, ?_⟩
      cases fq : F xs pr.1 with
      | stuck => rw [fq] at h1; exact h1.elim
      | err _ _ => rw [fq] at h1; exact h1.elim
      | ok pq =>
        rw [fq] at h1
        intro v H' us' x2 hu' ru' rv
        have x3 : Ext os1 H1 H' := fun c o ho hc => x2 c o ho (by rw [List.mem_singleton]; exact fun z => hc (by rw [z]; exact bm))
        exact h1 v H' os1 (x1.trans s1 x3) s1 (erel_io e1 (ownAt_some z1) hb x2 hu' ru') rv⟩
end
end Z

namespace Z
open PySem PySem.Spec PyProof.Rows L2

/-- the end of a comprehension: its list at D -/
def outC (φ : Fm) (own : List Nat) (os1 : List Addr) (σ : L2.St) (H1 : Hp) (D : Addr) (r : Res (List Z.D × VEnv)) (Q : VK) : Prop := match r with
  | .ok z => ∀ H os vs, Ext os1 H1 H → Sub H1 os1 os → ERel (φ.in_ D) (wipeE z.2 own) σ H os → H D = some (.lst vs) → RDs H ((φ.in_ D).bs ++ os) vs z.1 → Q (.ref D) H
  | _ => False
section
variable {X : Cx} {φ : Fm} {σ : L2.St} {H1 : Hp} {os1 : List Addr} {own is : List Nat} {sv : Sv} {ts : Te} {el : Ev}
/-- the turns of a comprehension -/
theorem comp_loop {g : TG} {tt : TT} {te : TE} {J : It} {ds : List D} {e1 : VEnv} {Q : VK} (h0 : 0 ∉ own ∨ φ.io = none) (hsub : ∀ j ∈ is, j ∈ own)
    (hg : ∀ D, GS (φ.in_ D) g is sv) (ht : ∀ D σ H Q, tR X (φ.in_ D) rB ts σ H Q → tt σ H Q) (he : ∀ D σ H Q, tR X (φ.in_ D) rD el σ H Q → te σ H Q)
    (er : ERel φ e1 σ H1 os1) (y : Yl J H1 (φ.bs ++ os1) ds) (hz : ds.length ≤ sizeLine) (D : Addr) (hD : H1 D = none)
    (hout : outC φ own os1 σ H1 D (compGo own sv ts el ds (wipeE e1 own)) Q) :
    ∃ W : Nat → Nat → Hp → Prop, (∃ m, W 0 m (upd H1 D (.lst []))) ∧ ∀ i m H, W i m H →
      (J.stop i H ∧ Q (.ref D) H) ∨ (J.go i H ∧ ∃ Nx : Hp → Prop, (∀ H', Nx H' → ∃ m', m' < m ∧ W (i + 1) m' H') ∧ ∀ x H', J.yld i H x H' → g x (wipe σ own) H' fun σ2 H2 => wipe σ2 own = wipe σ own ∧ tt σ2 H2 fun b H3 =>
        if b = true then te σ2 H3 fun y H4 => ∃ acc, H4 D = some (.lst acc) ∧ acc.length < sizeLine ∧ Nx (upd H4 D (.lst (acc ++ [y]))) else Nx H3) := by
  have nD : D ∉ φ.bs ++ os1 := new_ref er.trk hD
  let IW : Nat → Hp → Prop := fun i H => ∃ e os acc vs, ERel (φ.in_ D) e (wipe σ own) H os ∧ Ext os1 H1 H ∧ Sub H1 os1 os ∧ H D = some (.lst vs) ∧ RDs H ((φ.in_ D).bs ++ os) vs acc ∧ acc.length ≤ i ∧
    outC φ own os1 σ H1 D (compGo own sv ts el (ds.drop i) e >>= fun z => .ok (acc ++ z.1, z.2)) Q
  refine ⟨fun i m H => m = ds.length - i ∧ i ≤ ds.length ∧ IW i H, ⟨ds.length, by simp, Nat.zero_le _, wipeE e1 own, os1, [], [], ?_, ?_, Sub.refl, upd_same, .nil, Nat.le_refl _, ?_⟩, ?_⟩
  · exact (erel_wipe er own h0).enter hD
  · exact Ext.of_same (same_upd hD)
  · rw [List.drop_zero]
    cases q : compGo own sv ts el ds (wipeE e1 own) with
    | ok z => rw [q] at hout; exact hout
    | err _ _ => rw [q] at hout; exact hout
    | stuck => rw [q] at hout; exact hout
  rintro i m H ⟨rfl, hi, e, os, acc, vs, ee, ex, sb, hDH, rv, hacc, ho⟩
  have keepH : ∀ a o, H1 a = some o → a ∉ φ.bs ++ os1 → H a = some o := fun a o h n => ex a o h fun z => n (List.mem_append_right _ z)
  by_cases hlt : i < ds.length
  · refine .inr ?_
    have hav : ∀ a ∈ (φ.in_ D).bs ++ os, a ∈ φ.bs ++ os1 ∨ H1 a = none := fun a m => by
      rcases List.mem_append.mp m with m | m
      · rcases List.mem_cons.mp m with rfl | m
        · exact .inr hD
        · exact .inl (List.mem_append_left _ m)
      · rcases sb a m with q | q
        · exact .inl (List.mem_append_right _ q)
        · exact .inr q
    obtain ⟨go, yl⟩ := y.go i H ((φ.in_ D).bs ++ os) ds[i] keepH hav ee.trk (by simp [hlt])
    have hdrop : ds.drop i = ds[i] :: ds.drop (i + 1) := List.drop_eq_getElem_cons hlt
    rw [hdrop] at ho
    refine ⟨go, IW (i + 1), fun H' w => ⟨ds.length - (i + 1), by omega, rfl, hlt, w⟩, fun x H2 hy => ?_⟩
    obtain ⟨sm, rx⟩ := yl x H2 hy
    have ho' : outC φ own os1 σ H1 D ((ofO (sv ds[i] e) >>= fun e1 => nx (ts e1) >>= fun b => if b.1 = true then nx (el b.2) >>= fun y => compGo own sv ts el (ds.drop (i + 1)) (wipeE y.2 own) >>= fun z => .ok (y.1 :: z.1, z.2) else compGo own sv ts el (ds.drop (i + 1)) (wipeE b.2 own)) >>= fun z => .ok (acc ++ z.1, z.2)) Q := ho
    cases w1 : sv ds[i] e with
    | none => rw [w1] at ho'; exact ho'.elim
    | some e2 =>
      rw [w1] at ho'
      refine hg D (ee.same sm) rx w1 fun σ2 a2 b2 ee2 => ?_
      have hw : wipe σ2 own = wipe σ own := wipe_eq (fun j hj => (a2 j fun z => hj (hsub j z)).trans (wipeS_out σ hj)) (by rw [b2, wipe_length])
      refine ⟨hw, ht D _ _ _ ⟨e2, os, ee2, ?_⟩⟩
      have ho2 : outC φ own os1 σ H1 D ((nx (ts e2) >>= fun b => if b.1 = true then nx (el b.2) >>= fun y => compGo own sv ts el (ds.drop (i + 1)) (wipeE y.2 own) >>= fun z => .ok (y.1 :: z.1, z.2) else compGo own sv ts el (ds.drop (i + 1)) (wipeE b.2 own)) >>= fun z => .ok (acc ++ z.1, z.2)) Q := ho'
      have back : ∀ {e4 : VEnv} {σ4 : L2.St} {H4 : Hp} {os4 : List Addr}, σ4 = σ2 → ERel (φ.in_ D) e4 σ4 H4 os4 → ERel (φ.in_ D) (wipeE e4 own) (wipe σ own) H4 os4 := fun {e4 σ4 H4 os4} h4 h => by
        subst h4
        rw [← hw]
        exact erel_wipe h own h0
      cases w2 : ts e2 with
      | stuck => rw [w2] at ho2; exact ho2.elim
      | err _ _ => rw [w2] at ho2; exact ho2.elim
      | ok b =>
        obtain ⟨b, e3⟩ := b
        rw [w2] at ho2
        intro v H3 os3 x3 s3 ee3 rv3
        have rv3 : v = b := rv3
        subst rv3
        have x13 : Ext os1 H1 H3 := (ex.trans sb (Ext.of_same sm)).trans sb (x3)
        have sb13 : Sub H1 os1 os3 := sb.trans (ex.trans sb (Ext.of_same sm)) s3
        have DO : D ∉ os := fun z => ee.disj D z List.mem_cons_self
        have hD3 : H3 D = some (.lst vs) := x3 D _ (sm D _ hDH) DO
        have rv' : RDs H3 ((φ.in_ D).bs ++ os3) vs acc := RDs.step (φ := φ.in_ D) (rv.same sm) x3 s3
        cases v with
        | false =>
          rw [if_neg Bool.false_ne_true]
          exact ⟨wipeE e3 own, os3, acc, vs, back rfl ee3, x13, sb13, hD3, rv', by omega, ho2⟩
        | true =>
          rw [if_pos rfl]
          refine he D _ _ _ ⟨e3, os3, ee3, ?_⟩
          have ho3 : outC φ own os1 σ H1 D ((nx (el e3) >>= fun y => compGo own sv ts el (ds.drop (i + 1)) (wipeE y.2 own) >>= fun z => .ok (y.1 :: z.1, z.2)) >>= fun z => .ok (acc ++ z.1, z.2)) Q := ho2
          cases w3 : el e3 with
          | stuck => rw [w3] at ho3; exact ho3.elim
          | err _ _ => rw [w3] at ho3; exact ho3.elim
          | ok yy =>
            obtain ⟨yd, e4⟩ := yy
            rw [w3] at ho3
            intro yv H4 os4 x4 s4 ee4 ry
            have DO3 : D ∉ os3 := fun z => ee3.disj D z List.mem_cons_self
            have hD4 : H4 D = some (.lst vs) := x4 D _ hD3 DO3
            have hlen : vs.length = acc.length := rv.length
            refine ⟨vs, hD4, by omega, wipeE e4 own, os4, acc ++ [yd], vs ++ [yv], (back rfl ee4).apart, ?_, sb13.trans x13 s4, upd_same, ?_, by simp; omega, ?_⟩
            · intro a o h n
              have := x13.trans sb13 x4 a o h n
              rw [upd_ne (ne_of_none h hD)]
              exact this
            · exact ((RDs.step (φ := φ.in_ D) rv' x4 s4).append (.cons ry .nil)).apart
            · have ho4 : outC φ own os1 σ H1 D ((compGo own sv ts el (ds.drop (i + 1)) (wipeE e4 own) >>= fun z => .ok (yd :: z.1, z.2)) >>= fun z => .ok (acc ++ z.1, z.2)) Q := ho3
              have e5 : ((compGo own sv ts el (ds.drop (i + 1)) (wipeE e4 own) >>= fun z => .ok (yd :: z.1, z.2)) >>= fun z => (.ok (acc ++ z.1, z.2) : Res (List Z.D × VEnv))) = (compGo own sv ts el (ds.drop (i + 1)) (wipeE e4 own) >>= fun z => .ok ((acc ++ [yd]) ++ z.1, z.2)) := by
                cases compGo own sv ts el (ds.drop (i + 1)) (wipeE e4 own) with
                | ok z => show Res.ok _ = Res.ok _; simp
                | err _ _ => rfl
                | stuck => rfl
              rw [← e5]
              exact ho4
  · have hi' : i = ds.length := by omega
    subst hi'
    refine .inl ⟨y.stop _ H keepH (Nat.le_refl _), ?_⟩
    have hd0 : ds.drop ds.length = [] := by simp
    rw [hd0] at ho
    have ho' : outC φ own os1 σ H1 D (.ok (acc ++ [], e)) Q := ho
    rw [List.append_nil] at ho'
    have er2 : ERel (φ.in_ D) (wipeE e own) σ H os := erel_forget ee (wipeE_len _ _) (wipe_length σ own).symm own h0 (fun _ h => wipeE_out e h) (fun _ h => (wipeS_out σ h).symm) fun _ _ hj q => wipeE_no hj q
    exact ho' H os vs ex sb er2 hDH rv

theorem nx_noerr {α : Type} {r : Res α} {x : Err} {e : VEnv} : nx r ≠ .err x e := by cases r <;> simp [nx]
theorem compGo_noerr {x : Err} {en : VEnv} : ∀ {ds : List Z.D} {e : VEnv}, compGo own sv ts el ds e ≠ .err x en
  | [], e => by simp [compGo]
  | d :: r, e => fun h => by
    have h : (ofO (sv d e) >>= fun e1 => nx (ts e1) >>= fun b => if b.1 = true then nx (el b.2) >>= fun y => compGo own sv ts el r (wipeE y.2 own) >>= fun z => .ok (y.1 :: z.1, z.2) else compGo own sv ts el r (wipeE b.2 own)) = .err x en := h
    cases w : sv d e with
    | none => rw [w] at h; cases h
    | some e1 =>
      rw [w] at h
      have h : (nx (ts e1) >>= fun b => if b.1 = true then nx (el b.2) >>= fun y => compGo own sv ts el r (wipeE y.2 own) >>= fun z => .ok (y.1 :: z.1, z.2) else compGo own sv ts el r (wipeE b.2 own)) = .err x en := h
      cases w1 : nx (ts e1) with
      | err _ _ => exact nx_noerr w1
      | stuck => rw [w1] at h; cases h
      | ok b =>
        rw [w1] at h
        have h : (if b.1 = true then nx (el b.2) >>= fun y => compGo own sv ts el r (wipeE y.2 own) >>= fun z => .ok (y.1 :: z.1, z.2) else compGo own sv ts el r (wipeE b.2 own)) = .err x en := h
        split at h
        · cases w2 : nx (el b.2) with
          | err _ _ => exact nx_noerr w2
          | stuck => rw [w2] at h; cases h
          | ok y =>
            rw [w2] at h
            have h : (compGo own sv ts el r (wipeE y.2 own) >>= fun z => .ok (y.1 :: z.1, z.2)) = .err x en := h
            cases w3 : compGo own sv ts el r (wipeE y.2 own) with
            | err _ _ => exact compGo_noerr w3
            | stuck => rw [w3] at h; cases h
            | ok z => rw [w3] at h; cases h
        · exact compGo_noerr h

def fCompL (src : Sr) (own : List Nat) (sv : Sv) (ts : Te) (el : Ev) : Ef := fun e => src e >>= fun p => if p.1.length ≤ sizeLine then (compGo own sv ts el p.1 (wipeE p.2 own) >>= fun z => .ok (z.1, wipeE z.2 own)) else .stuck
theorem lc_read {src : Sr} {g : TG} {σ : L2.St} {H : Hp} {os : List Addr} {env : VEnv} {Q : VK} (h0 : 0 ∉ own ∨ φ.io = none) (hsub : ∀ j ∈ is, j ∈ own) (hgr : ∀ bs, GS ⟨fun _ _ _ _ => False, bs, φ.io⟩ g is sv) (e : ERel φ env σ H os)
    (h : OutF X φ os σ H (fCompL src own sv ts el env) Q) : tLc (tR X φ rI src) g (fun σ H Q => ∃ D, tR X (φ.in_ D) rB ts σ H Q) (fun σ H Q => ∃ D, tR X (φ.in_ D) rD el σ H Q) own σ H Q := by
  refine fr_core (relA := rI) e h fun J ds H1 env1 os1 x1 s1 e1 yl h1 => fun D hD => ?_
  by_cases hz : ds.length ≤ sizeLine
  · have h1 : OutF X φ os1 σ H1 (if ds.length ≤ sizeLine then (compGo own sv ts el ds (wipeE env1 own) >>= fun z => .ok (z.1, wipeE z.2 own)) else .stuck) Q := h1
    rw [if_pos hz] at h1
    refine comp_loop (X := X) (tt := fun σ H Q => ∃ D, tR X (φ.in_ D) rB ts σ H Q) (te := fun σ H Q => ∃ D, tR X (φ.in_ D) rD el σ H Q) h0 hsub (fun D => hgr (D :: φ.bs)) (fun D σ H Q q => ⟨D, q⟩) (fun D σ H Q q => ⟨D, q⟩) e1 yl hz D hD ?_
    cases q : compGo own sv ts el ds (wipeE env1 own) with
    | stuck => rw [q] at h1; exact h1.elim
    | err a b => exact (compGo_noerr q).elim
    | ok z =>
      rw [q] at h1
      intro H2 os2 vs x2 s2 e2 hd rv
      exact h1 D vs H2 os2 x2 s2 (.inr hD) (fun m => new_ref e1.trk hD (List.mem_append_left _ m)) e2 hd rv
  · have h1 : OutF X φ os1 σ H1 (if ds.length ≤ sizeLine then (compGo own sv ts el ds (wipeE env1 own) >>= fun z => .ok (z.1, wipeE z.2 own)) else .stuck) Q := h1
    rw [if_neg hz] at h1; exact h1.elim
end
/-- the sources and parts of a comprehension -/
structure CompOk (X : Cx) (φ : Fm) (elt tg iter : Expr) (ifs : List Expr) (scope : Scope) (ow : List (Str × Nat)) (src : Sr) (sv : Sv) (ts : Te) (el : Ev) : Prop where
  h0 : 0 ∉ ow.map (·.2) ∨ φ.io = none
  hi : JI X φ tg iter src
  ok : BlkOk X.N X.env.scope scope ow
  hg : ∃ (is : List Nat) (g : TG), (∀ j ∈ is, j ∈ ow.map (·.2)) ∧ (∀ bs, GS ⟨fun _ _ _ _ => False, bs, φ.io⟩ g is sv) ∧ ∀ (s : Shared) (H : Hp) (C : Addr) (cl : List (Str × Addr)) (fp : List Addr), PG (X.blk s H scope (compEnvC scope cl C X.env) fp) tg g
  ht : ∀ (s : Shared) (H : Hp) (C : Addr) (cl : List (Str × Addr)) (fp : List Addr) (bs : List Addr), JTs (X.blk s H scope (compEnvC scope cl C X.env) fp) ⟨fun _ _ _ _ => False, bs, φ.io⟩ ifs ts
  he : ∀ (s : Shared) (H : Hp) (C : Addr) (cl : List (Str × Addr)) (fp : List Addr) (bs : List Addr), JE (X.blk s H scope (compEnvC scope cl C X.env) fp) ⟨fun _ _ _ _ => False, bs, φ.io⟩ elt el
section
variable {X : Cx} {φ : Fm} {elt tg iter : Expr} {ifs : List Expr} {scope : Scope} {ow : List (Str × Nat)} {pos : Pos} {src : Sr} {sv : Sv} {ts : Te} {el : Ev}
theorem f_comp (hc : X.calm = true) (hN : X.N.Nodup) (C : CompOk X φ elt tg iter ifs scope ow src sv ts el) (hs : ∀ x, foldedSetIterable iter X.env x = pure x := by intro _; rfl) :
    JF X φ (.ListComp elt [⟨tg, iter, ifs, 0⟩] scope pos) (fCompL src (ow.map (·.2)) sv ts el) := by
  obtain ⟨is, g, hsub, hgr, hg⟩ := C.hg
  refine ⟨(pe_lc (g := g) (tt := fun σ H Q => ∃ D, tR X (φ.in_ D) rB ts σ H Q) (te := fun σ H Q => ∃ D, tR X (φ.in_ D) rD el σ H Q) hc hN C.hi.j C.ok hg (fun s H C1 cl fp => ?_) (fun s H C1 cl fp => ?_) hs).imp fun σ H Q h => ?_⟩
  · exact ⟨fun pins s' σ H' Q I ⟨D, q⟩ => (C.ht s H C1 cl fp (D :: φ.bs)).j.run pins s' σ H' Q I q⟩
  · exact ⟨fun pins s' σ H' Q I ⟨D, q⟩ => (C.he s H C1 cl fp (D :: φ.bs)).j.run pins s' σ H' Q I q⟩
  · obtain ⟨env, os, e, h⟩ := h
    exact lc_read C.h0 hsub hgr e h
/-- as a plain value -/
theorem z_compF (hc : X.calm = true) (hN : X.N.Nodup) (C : CompOk X φ elt tg iter ifs scope ow src sv ts el) (hs : ∀ x, foldedSetIterable iter X.env x = pure x := by intro _; rfl) :
    JE X φ (.ListComp elt [⟨tg, iter, ifs, 0⟩] scope pos) (fun e => fCompL src (ow.map (·.2)) sv ts el e >>= fun p => .ok (.list p.1, p.2)) := z_fr (f_comp hc hN C hs)
/-- name = [..], the slot owns it -/
theorem s_ownComp {i : Nat} {y : Str} {py spos : Pos} (hc : X.calm = true) (hN : X.N.Nodup) (hio : i ≠ 0 ∨ φ.io = none) (hy : X.N[i]? = some y) (hyl : X.env.scope.names.lookup y = some .local) (C : CompOk X φ elt tg iter ifs scope ow src sv ts el)
    (hsw : swapsWith (.ListComp elt [⟨tg, iter, ifs, 0⟩] scope pos) (some (.Name y py)) spos.line X.env = pure true) (hs : ∀ x, foldedSetIterable iter X.env x = pure x := by intro _; rfl) :
    JS X φ (.Assign [.Name y py] (.ListComp elt [⟨tg, iter, ifs, 0⟩] scope pos) spos) (sOwn (fCompL src (ow.map (·.2)) sv ts el) i) := by
  obtain ⟨is, g, hsub, hgr, hg⟩ := C.hg
  refine ⟨(ps_setLc (g := g) (tt := fun σ H Q => ∃ D, tR X (φ.in_ D) rB ts σ H Q) (te := fun σ H Q => ∃ D, tR X (φ.in_ D) rD el σ H Q) hc hN hy hyl hsw C.hi.j C.ok hg (fun s H C1 cl fp => ?_) (fun s H C1 cl fp => ?_) hs).imp fun E σ H h => ?_⟩
  · exact ⟨fun pins s' σ H' Q I ⟨D, q⟩ => (C.ht s H C1 cl fp (D :: φ.bs)).j.run pins s' σ H' Q I q⟩
  · exact ⟨fun pins s' σ H' Q I ⟨D, q⟩ => (C.he s H C1 cl fp (D :: φ.bs)).j.run pins s' σ H' Q I q⟩
  · obtain ⟨env, os, e, h⟩ := h
    obtain ⟨env, os, e, h⟩ := own_core hio e h
    exact lc_read C.h0 hsub hgr e h
/-- name = [..], a plain value -/
theorem s_asgComp {i : Nat} {y : Str} {py spos : Pos} (hc : X.calm = true) (hN : X.N.Nodup) (hio : i ≠ 0 ∨ φ.io = none) (hy : X.N[i]? = some y) (hyl : X.env.scope.names.lookup y = some .local) (C : CompOk X φ elt tg iter ifs scope ow src sv ts el)
    (hsw : swapsWith (.ListComp elt [⟨tg, iter, ifs, 0⟩] scope pos) (some (.Name y py)) spos.line X.env = pure true) (hs : ∀ x, foldedSetIterable iter X.env x = pure x := by intro _; rfl) :
    JS X φ (.Assign [.Name y py] (.ListComp elt [⟨tg, iter, ifs, 0⟩] scope pos) spos) (sAsg (fun e => fCompL src (ow.map (·.2)) sv ts el e >>= fun p => .ok (.list p.1, p.2)) (svName i)) := by
  obtain ⟨is, g, hsub, hgr, hg⟩ := C.hg
  refine ⟨(ps_setLc (g := g) (tt := fun σ H Q => ∃ D, tR X (φ.in_ D) rB ts σ H Q) (te := fun σ H Q => ∃ D, tR X (φ.in_ D) rD el σ H Q) hc hN hy hyl hsw C.hi.j C.ok hg (fun s H C1 cl fp => ?_) (fun s H C1 cl fp => ?_) hs).imp fun E σ H h => ?_⟩
  · exact ⟨fun pins s' σ H' Q I ⟨D, q⟩ => (C.ht s H C1 cl fp (D :: φ.bs)).j.run pins s' σ H' Q I q⟩
  · exact ⟨fun pins s' σ H' Q I ⟨D, q⟩ => (C.he s H C1 cl fp (D :: φ.bs)).j.run pins s' σ H' Q I q⟩
  · obtain ⟨env, os, e, h⟩ := h
    have h : OutS X φ os H ((fCompL src (ow.map (·.2)) sv ts el env >>= fun p => .ok (.list p.1, p.2)) >>= fun p => ofO (svName i p.1 p.2) >>= fun e' => .ok (.nx e')) E := h
    refine lc_read C.h0 hsub hgr e ?_
    cases q : fCompL src (ow.map (·.2)) sv ts el env with
    | stuck => rw [q] at h; exact h.elim
    | err x y => rw [q] at h; exact fun H2 os2 cls dd => h σ H2 os2 cls dd
    | ok p =>
      rw [q] at h
      intro a vs H' os' x s _ nb e' ha r
      have h : OutS X φ os H (ofO (svName i (.list p.1) p.2) >>= fun e' => .ok (.nx e')) E := h
      obtain ⟨e2, z, h2⟩ := OutS.opt h
      have rv : RD H' (φ.bs ++ os') (.ref a) (.list p.1) := .lst ha (fun z => (List.mem_append.mp z).elim nb fun z => e'.disj a z List.mem_cons_self) r.out
      exact gs_name (φ := φ) hio e'.leave rv z fun σ' _ _ e3 => OutS.later (r := .ok (.nx e2)) x s h2 σ' H' os' Ext.refl Sub.refl e3
end
end Z

namespace Z
open PySem PySem.Spec PyProof.Rows L2

/-! ### methods of a list that the frame owns -/
def xOwnM (i : Nat) (op : List D → List D → Option (D × List D)) (f : Ar) : Ev := fun e => ofO (ownAt e i) >>= fun _ => f e >>= fun p => ofO (ownAt p.2 i) >>= fun xs => ofO (op xs p.1) >>= fun q => .ok (q.1, p.2.set i (.own q.2))
def MS (r : V → List V → Hp → VK → Prop) (op : List D → List D → Option (D × List D)) : Prop := ∀ {a : Addr} {vs ws : List V} {xs ds : List D} {q : D × List D} {H : Hp} {av : List Addr} {Q : VK}, a ∈ av → H a = some (.lst vs) → RDs H av vs xs → RDs H av ws ds → op xs ds = some q →
  (∀ v vs', RD H av v q.1 → RDs H av vs' q.2 → Q v (upd H a (.lst vs'))) → r (.ref a) ws H Q
section
variable {X : Cx} {φ : Fm} {i : Nat} {x : Str} {p apos cpos pos : Pos} {e : Expr} {es : List Expr} {f : Ar} {name : Str} {id : String} {r : V → List V → Hp → VK → Prop} {op : List D → List D → Option (D × List D)}
theorem own_read {env : VEnv} {σ : L2.St} {H : Hp} {os : List Addr} {xs : List D} (e : ERel φ env σ H os) (h : ownAt env i = some xs) : ∃ a vs, σ[i]? = some (some (.ref a)) ∧ a ∈ os ∧ H a = some (.lst vs) ∧ RDs H (φ.bs ++ os) vs xs := e.own i xs (ownAt_some h)
theorem meth_end {σ : L2.St} {H : Hp} {os : List Addr} {env : VEnv} {ws : List V} {ds : List D} {Q : VK} {a : Addr} (hs : MS r op) (e : ERel φ env σ H os) (h1 : σ[i]? = some (some (.ref a))) (rw' : RDs H (φ.bs ++ os) ws ds)
    (h : OutR X φ rD os σ H (ofO (ownAt env i) >>= fun xs => ofO (op xs ds) >>= fun q => .ok (q.1, env.set i (.own q.2))) Q) : r (.ref a) ws H Q := by
  obtain ⟨xs, z1, h⟩ := OutR.opt h
  obtain ⟨q, z2, h⟩ := OutR.opt h
  obtain ⟨a', vs, k1, k2, k3, k4⟩ := own_read e z1
  rw [h1] at k1
  cases k1
  refine hs (List.mem_append_right _ k2) k3 k4 rw' z2 fun v vs' rv rvs => ?_
  have e' := (erel_own e (ownAt_some z1) h1 rvs).2
  refine h v _ os (fun b o hb hn => ?_) Sub.refl e' (rv.mono (fun b o hb hn => ?_) fun b m => .inl m)
  · rw [upd_ne (fun z => hn (by rw [z]; exact k2))]; exact hb
  · rw [upd_ne (fun z => hn (by rw [z]; exact List.mem_append_right _ k2))]; exact hb
theorem tyV_lst {K : PySem.W.Frag} {H : Hp} {a : Addr} {vs : List V} (h : H a = some (.lst vs)) : tyV K "list" (.ref a) H := .inl ⟨rfl, vs, SqL.of h⟩
/-- xs.m(e, ..) -/
theorem z_ownM (pa : PlainAttrs "list") (slot : Slot "list" name id) (hty : typeOf (.builtin id) = pure (.type "method_descriptor")) (hm : MtR X id r) (hs : MS r op) (hf : JA X φ (e :: es) f)
    (hN : X.N[i]? = some x := by rfl) (hv : Vis X.env.scope x := by first | exact Or.inl rfl | exact Or.inr (Or.inl rfl) | exact Or.inr (Or.inr rfl)) (hd : (x == ("__debug__" : Str)) = false := by decide) (hcd : (x == ("__classdict__" : Str)) = false := by decide)
    (hbase : attributeBase (.Name x p) name X.env (eval (.Name x p) X.env) = eval (.Name x p) X.env := by rfl)
    (hfew : ((backTo cpos (starEach (e :: es) X.env)).all (fun x => !x.1) && (backToKw cpos (keywordEach [] X.env)).all (fun x => x.1.isSome)
      && decide ((e :: es).length + ([] : List Keyword).length + (if ([] : List Keyword).isEmpty then 0 else 1) < 30)) = true := by rfl)
    (hline : (apos.endLine == cpos.line) = true := by rfl) (hst : starEach (e :: es) X.env = (false, eval e X.env) :: starEach es X.env := by rfl) (hplain : (backTo cpos (starEach es X.env)).any (·.1) = false := by rfl) :
    JE X φ (.Call (.Attribute (.Name x p) name apos) (e :: es) [] cpos) (xOwnM i op f) :=
  ⟨(pe_bm pa slot hty hm (pe_var hN hv hd hcd) hf.j hbase hfew hline hst hplain).imp fun σ H Q ⟨env, os, e, h⟩ => by
    have h : OutR X φ rD os σ H (ofO (ownAt env i) >>= fun _ => f env >>= fun p => ofO (ownAt p.2 i) >>= fun xs => ofO (op xs p.1) >>= fun q => .ok (q.1, p.2.set i (.own q.2))) Q := h
    obtain ⟨xs, z, h⟩ := OutR.opt h
    obtain ⟨a, vs, k1, k2, k3, k4⟩ := own_read e z
    refine ⟨.ref a, k1, tyV_lst k3, ?_⟩
    exact seq_core2 (relA := rDs) e h fun ws ds H1 env1 os1 x1 s1 e1 r1 h1 => meth_end hs e1 k1 r1 h1⟩
/-- xs.m() -/
theorem z_ownM0 (pa : PlainAttrs "list") (slot : Slot "list" name id) (hty : typeOf (.builtin id) = pure (.type "method_descriptor")) (hm : MtR X id r) (hs : MS r op)
    (hN : X.N[i]? = some x := by rfl) (hv : Vis X.env.scope x := by first | exact Or.inl rfl | exact Or.inr (Or.inl rfl) | exact Or.inr (Or.inr rfl)) (hd : (x == ("__debug__" : Str)) = false := by decide) (hcd : (x == ("__classdict__" : Str)) = false := by decide)
    (hbase : attributeBase (.Name x p) name X.env (eval (.Name x p) X.env) = eval (.Name x p) X.env := by rfl) (hline : (apos.endLine == cpos.line) = true := by rfl) :
    JE X φ (.Call (.Attribute (.Name x p) name apos) [] [] cpos) (xOwnM i op arNil) :=
  ⟨(pe_bm0 pa slot hty hm (pe_var hN hv hd hcd) hbase hline).imp fun σ H Q ⟨env, os, e, h⟩ => by
    have h : OutR X φ rD os σ H (ofO (ownAt env i) >>= fun _ => ofO (ownAt env i) >>= fun xs => ofO (op xs []) >>= fun q => .ok (q.1, env.set i (.own q.2))) Q := h
    obtain ⟨xs, z, h⟩ := OutR.opt h
    obtain ⟨a, vs, k1, k2, k3, k4⟩ := own_read e z
    exact ⟨.ref a, k1, tyV_lst k3, meth_end (ds := []) hs e k1 .nil h⟩⟩
def appendD : List D → List D → Option (D × List D)
  | xs, [d] => if xs.length < sizeLine then some (.none, xs ++ [d]) else none
  | _, _ => none
theorem s_append : MS rAppend appendD := fun {a vs ws xs ds q H av Q} m ha rv rd hop k => by
  unfold appendD at hop
  split at hop
  · split at hop
    · next hz =>
      cases hop
      cases rd with
      | cons r1 r2 =>
        cases r2
        exact ⟨a, vs, _, rfl, rfl, ha, by rw [rv.length]; exact hz, k _ _ .non (rv.append (.cons r1 .nil))⟩
    · cases hop
  · cases hop
def extendD : List D → List D → Option (D × List D)
  | xs, [.list ys] => if xs.length + ys.length ≤ sizeLine then some (.none, xs ++ ys) else none
  | _, _ => none
theorem s_extend : MS rExtend extendD := fun {a vs ws xs ds q H av Q} m ha rv rd hop k => by
  unfold extendD at hop
  split at hop
  · split at hop
    · next hz =>
      cases hop
      cases rd with
      | cons r1 r2 =>
        cases r2
        cases r1 with
        | lst e1 n1 q1 => exact ⟨a, _, vs, _, rfl, rfl, ha, e1, by rw [rv.length, q1.length]; exact hz, k _ _ .non (rv.append q1)⟩
    · cases hop
  · cases hop
def popAtD : List D → List D → Option (D × List D)
  | xs, [.int i] => if -(2 ^ 63) ≤ i ∧ i < 2 ^ 63 then (match seqIndex? i xs.length with
    | some k => (match xs[k]? with
      | some y => some (y, xs.eraseIdx k)
      | none => none)
    | none => none) else none
  | _, _ => none
theorem RDs.eraseIdx {H : Hp} {av : List Addr} : ∀ {vs : List V} {ds : List D} (k : Nat), RDs H av vs ds → RDs H av (vs.eraseIdx k) (ds.eraseIdx k)
  | _, _, k, .nil => .nil
  | _, _, 0, .cons _ t => t
  | _, _, k + 1, .cons r t => .cons r (RDs.eraseIdx k t)
theorem s_popAt : MS rPopAt popAtD := fun {a vs ws xs ds q H av Q} m ha rv rd hop k => by
  unfold popAtD at hop
  split at hop
  · next i =>
    split at hop
    · next hb =>
      split at hop
      · next j hj =>
        split at hop
        · next y hy =>
          cases hop
          cases rd with
          | cons r1 r2 =>
            cases r2
            cases r1
            obtain ⟨u, hu, ru⟩ := rv.get hy
            exact ⟨a, vs, i, j, u, rfl, rfl, ha, hb.1, hb.2, by rw [rv.length]; exact hj, hu, k _ _ ru (rv.eraseIdx j)⟩
        · cases hop
      · cases hop
    · cases hop
  · cases hop
def popD : List D → List D → Option (D × List D)
  | xs, [] => (match xs[xs.length - 1]? with
    | some y => some (y, xs.dropLast)
    | none => none)
  | _, _ => none
theorem RDs.dropLast {H : Hp} {av : List Addr} {vs : List V} {ds : List D} (r : RDs H av vs ds) : RDs H av vs.dropLast ds.dropLast := by
  rw [List.dropLast_eq_take, List.dropLast_eq_take, r.length]
  exact r.take _
theorem s_pop : MS rPop popD := fun {a vs ws xs ds q H av Q} m ha rv rd hop k => by
  unfold popD at hop
  split at hop
  · split at hop
    · next y hy =>
      cases hop
      cases rd
      obtain ⟨u, hu, ru⟩ := rv.get hy
      exact ⟨a, vs, u, rfl, rfl, ha, by rw [rv.length]; exact hu, k _ _ ru rv.dropLast⟩
    · cases hop
  · cases hop
def insertD : List D → List D → Option (D × List D)
  | xs, [.int i, d] => if xs.length < sizeLine ∧ 0 ≤ i ∧ i < 2 ^ 63 then some (.none, xs.take i.toNat ++ [d] ++ xs.drop i.toNat) else none
  | _, _ => none
abbrev rInsert : V → List V → Hp → VK → Prop := fun x vs H Q => ∃ (l : Addr) (xs : List V) (i : Int) (y : V), x = .ref l ∧ vs = [.int i, y] ∧ H l = some (.lst xs) ∧ xs.length < sizeLine ∧ 0 ≤ i ∧ i < 2 ^ 63 ∧
    Q .non (upd H l (.lst (xs.take i.toNat ++ [y] ++ xs.drop i.toNat)))
theorem s_insert : MS rInsert insertD := fun {a vs ws xs ds q H av Q} m ha rv rd hop k => by
  unfold insertD at hop
  split at hop
  · split at hop
    · next hz =>
      cases hop
      cases rd with
      | cons r1 r2 =>
        cases r2 with
        | cons r2 r3 =>
          cases r3
          cases r1
          exact ⟨a, vs, _, _, rfl, rfl, ha, by rw [rv.length]; exact hz.1, hz.2.1, hz.2.2, k _ _ .non (((rv.take _).append (.cons r2 .nil)).append (rv.drop _))⟩
    · cases hop
  · cases hop
theorem z_append (hf : JA X φ [e] f) (hN : X.N[i]? = some x := by rfl) (hv : Vis X.env.scope x := by first | exact Or.inl rfl | exact Or.inr (Or.inl rfl) | exact Or.inr (Or.inr rfl)) (hd : (x == ("__debug__" : Str)) = false := by decide) (hcd : (x == ("__classdict__" : Str)) = false := by decide)
    (hbase : attributeBase (.Name x p) "append" X.env (eval (.Name x p) X.env) = eval (.Name x p) X.env := by rfl)
    (hfew : ((backTo cpos (starEach [e] X.env)).all (fun x => !x.1) && (backToKw cpos (keywordEach [] X.env)).all (fun x => x.1.isSome)
      && decide ([e].length + ([] : List Keyword).length + (if ([] : List Keyword).isEmpty then 0 else 1) < 30)) = true := by rfl)
    (hline : (apos.endLine == cpos.line) = true := by rfl) (hst : starEach [e] X.env = (false, eval e X.env) :: starEach [] X.env := by rfl) (hplain : (backTo cpos (starEach [] X.env)).any (·.1) = false := by rfl) :
    JE X φ (.Call (.Attribute (.Name x p) "append" apos) [e] [] cpos) (xOwnM i appendD f) := z_ownM PySem.F.plainAttrs_list PySem.F.slot_list_append PySem.F.type_list_append mt_append s_append hf hN hv hd hcd hbase hfew hline hst hplain
theorem z_extend (hf : JA X φ [e] f) (hN : X.N[i]? = some x := by rfl) (hv : Vis X.env.scope x := by first | exact Or.inl rfl | exact Or.inr (Or.inl rfl) | exact Or.inr (Or.inr rfl)) (hd : (x == ("__debug__" : Str)) = false := by decide) (hcd : (x == ("__classdict__" : Str)) = false := by decide)
    (hbase : attributeBase (.Name x p) "extend" X.env (eval (.Name x p) X.env) = eval (.Name x p) X.env := by rfl)
    (hfew : ((backTo cpos (starEach [e] X.env)).all (fun x => !x.1) && (backToKw cpos (keywordEach [] X.env)).all (fun x => x.1.isSome)
      && decide ([e].length + ([] : List Keyword).length + (if ([] : List Keyword).isEmpty then 0 else 1) < 30)) = true := by rfl)
    (hline : (apos.endLine == cpos.line) = true := by rfl) (hst : starEach [e] X.env = (false, eval e X.env) :: starEach [] X.env := by rfl) (hplain : (backTo cpos (starEach [] X.env)).any (·.1) = false := by rfl) :
    JE X φ (.Call (.Attribute (.Name x p) "extend" apos) [e] [] cpos) (xOwnM i extendD f) := z_ownM PySem.F.plainAttrs_list PySem.F.slot_list_extend PySem.F.type_list_extend mt_extend s_extend hf hN hv hd hcd hbase hfew hline hst hplain
theorem z_insert {e2 : Expr} (hf : JA X φ [e, e2] f) (hN : X.N[i]? = some x := by rfl) (hv : Vis X.env.scope x := by first | exact Or.inl rfl | exact Or.inr (Or.inl rfl) | exact Or.inr (Or.inr rfl)) (hd : (x == ("__debug__" : Str)) = false := by decide) (hcd : (x == ("__classdict__" : Str)) = false := by decide)
    (hbase : attributeBase (.Name x p) "insert" X.env (eval (.Name x p) X.env) = eval (.Name x p) X.env := by rfl)
    (hfew : ((backTo cpos (starEach [e, e2] X.env)).all (fun x => !x.1) && (backToKw cpos (keywordEach [] X.env)).all (fun x => x.1.isSome)
      && decide ([e, e2].length + ([] : List Keyword).length + (if ([] : List Keyword).isEmpty then 0 else 1) < 30)) = true := by rfl)
    (hline : (apos.endLine == cpos.line) = true := by rfl) (hst : starEach [e, e2] X.env = (false, eval e X.env) :: starEach [e2] X.env := by rfl) (hplain : (backTo cpos (starEach [e2] X.env)).any (·.1) = false := by rfl) :
    JE X φ (.Call (.Attribute (.Name x p) "insert" apos) [e, e2] [] cpos) (xOwnM i insertD f) := z_ownM PySem.F.plainAttrs_list PySem.F.slot_list_insert PySem.F.type_list_insert mt_insert s_insert hf hN hv hd hcd hbase hfew hline hst hplain
theorem z_popAt (hf : JA X φ [e] f) (hN : X.N[i]? = some x := by rfl) (hv : Vis X.env.scope x := by first | exact Or.inl rfl | exact Or.inr (Or.inl rfl) | exact Or.inr (Or.inr rfl)) (hd : (x == ("__debug__" : Str)) = false := by decide) (hcd : (x == ("__classdict__" : Str)) = false := by decide)
    (hbase : attributeBase (.Name x p) "pop" X.env (eval (.Name x p) X.env) = eval (.Name x p) X.env := by rfl)
    (hfew : ((backTo cpos (starEach [e] X.env)).all (fun x => !x.1) && (backToKw cpos (keywordEach [] X.env)).all (fun x => x.1.isSome)
      && decide ([e].length + ([] : List Keyword).length + (if ([] : List Keyword).isEmpty then 0 else 1) < 30)) = true := by rfl)
    (hline : (apos.endLine == cpos.line) = true := by rfl) (hst : starEach [e] X.env = (false, eval e X.env) :: starEach [] X.env := by rfl) (hplain : (backTo cpos (starEach [] X.env)).any (·.1) = false := by rfl) :
    JE X φ (.Call (.Attribute (.Name x p) "pop" apos) [e] [] cpos) (xOwnM i popAtD f) := z_ownM PySem.F.plainAttrs_list PySem.F.slot_list_pop PySem.F.type_list_pop mt_popAt s_popAt hf hN hv hd hcd hbase hfew hline hst hplain
theorem z_pop (hN : X.N[i]? = some x := by rfl) (hv : Vis X.env.scope x := by first | exact Or.inl rfl | exact Or.inr (Or.inl rfl) | exact Or.inr (Or.inr rfl)) (hd : (x == ("__debug__" : Str)) = false := by decide) (hcd : (x == ("__classdict__" : Str)) = false := by decide)
    (hbase : attributeBase (.Name x p) "pop" X.env (eval (.Name x p) X.env) = eval (.Name x p) X.env := by rfl) (hline : (apos.endLine == cpos.line) = true := by rfl) :
    JE X φ (.Call (.Attribute (.Name x p) "pop" apos) [] [] cpos) (xOwnM i popD arNil) := z_ownM0 PySem.F.plainAttrs_list PySem.F.slot_list_pop PySem.F.type_list_pop mt_pop s_pop hN hv hd hcd hbase hline
end

/-! ### x[i] = e -/
def sSetIx (i : Nat) (fe fi : Ev) : Sm := fun e => fe e >>= fun p => ofO (ownAt p.2 i) >>= fun _ => fi p.2 >>= fun q => ofO (ownAt q.2 i) >>= fun xs => match q.1 with
  | .int k => ofO (ixN xs.length k) >>= fun j => .ok (.nx (q.2.set i (.own (xs.set j p.1))))
  | _ => .stuck
section
variable {X : Cx} {φ : Fm} {i : Nat} {x : Str} {p pos tpos : Pos} {e ei : Expr} {fe fi : Ev}
theorem s_setIx (he : JE X φ e fe) (hi : JE X φ ei fi)
    (hN : X.N[i]? = some x := by rfl) (hv : Vis X.env.scope x := by first | exact Or.inl rfl | exact Or.inr (Or.inl rfl) | exact Or.inr (Or.inr rfl)) (hd : (x == ("__debug__" : Str)) = false := by decide) (hcd : (x == ("__classdict__" : Str)) = false := by decide)
    (ha : ∀ v, assign (.Subscript (.Name x p) ei tpos) X.env v = (do
      let ov ← holding [v] (eval (.Name x p) X.env)
      let iv ← holding [v, ov] (eval ei X.env)
      standAt tpos
      holding [v, ov, iv] (setItem ov iv v)
      release [v, ov, iv] []) := by intro _; rfl)
    (hs : swapsWithSole [.Subscript (.Name x p) ei tpos] e pos.line X.env = pure false := by rfl) (hw : swappedStores [.Subscript (.Name x p) ei tpos] e X.env = pure none := by rfl)
    (h1 : (assignEach [.Subscript (.Name x p) ei tpos] X.env).map (·.2) = [assign (.Subscript (.Name x p) ei tpos) X.env] := by rfl) :
    JS X φ (.Assign [.Subscript (.Name x p) ei tpos] e pos) (sSetIx i fe fi) :=
  ⟨(ps_asg he.j (pg_sub (pe_var hN hv hd hcd) hi.j set_list ha) hs hw h1).imp fun E σ H ⟨env, os, e, h⟩ => by
    refine stm_core (relA := rD) e h fun v d H1 env1 os1 x1 s1 e1 r1 h1 => ?_
    have h1 : OutS X φ os1 H1 (ofO (ownAt env1 i) >>= fun _ => fi env1 >>= fun q => ofO (ownAt q.2 i) >>= fun xs => match q.1 with
      | .int k => ofO (ixN xs.length k) >>= fun j => .ok (.nx (q.2.set i (.own (xs.set j d))))
      | _ => .stuck) E := h1
    obtain ⟨xs, z, h1⟩ := OutS.opt h1
    obtain ⟨a, vs, k1, k2, k3, k4⟩ := own_read e1 z
    refine ⟨.ref a, k1, stm_core (relA := rD) e1 h1 fun iv di H2 env2 os2 x2 s2 e2 r2 h2 => ?_⟩
    obtain ⟨ys, z2, h2⟩ := OutS.opt h2
    obtain ⟨a', ws, m1, m2, m3, m4⟩ := own_read e2 z2
    rw [k1] at m1
    cases m1
    cases di with
    | int k =>
      have h2 : OutS X φ os2 H2 (ofO (ixN ys.length k) >>= fun j => .ok (.nx (env2.set i (.own (ys.set j d))))) E := h2
      obtain ⟨j, z3, h3⟩ := OutS.opt h2
      cases r2
      refine ⟨a, ws, k, j, rfl, rfl, m3, by rw [m4.length]; exact z3, ?_⟩
      have e' := (erel_own e2 (ownAt_some z2) k1 (m4.set (RD.step r1 x2 s2) j)).2
      refine h3 σ _ os2 (fun b o hb hn => ?_) Sub.refl e'
      rw [upd_ne (fun z => hn (by rw [z]; exact m2))]; exact hb
    | _ => exact h2.elim⟩
/-! ### x += e, ints -/
def sAug (i : Nat) (op : Int → Int → Int) (f : Ev) : Sm := fun e => match e.getD i .no with
  | .val (.int a) => f e >>= fun p => (match p.1 with
    | .int b => ofO (svName i (.int (op a b)) p.2) >>= fun e' => .ok (.nx e')
    | _ => .stuck)
  | _ => .stuck
theorem s_aug {op : Operator} {g : Int → Int → Int} {pos' : Pos} (ho : PIp X op (ipI g)) (hio : i ≠ 0 ∨ φ.io = none) (hN : X.N.Nodup) (hi : X.N[i]? = some x) (hx : Loc X.env.scope x) (he : JE X φ e fe)
    (hf : X.fn x = true ∨ X.env.scope.names.lookup x = some .local := by first | exact .inl rfl | exact .inr rfl | assumption) : JS X φ (.AugAssign (.Name x pos') op e pos) (sAug i g fe) :=
  ⟨(ps_aug hN hi hx he.j ho hf).imp fun E σ H ⟨env, os, e, h⟩ => by
    unfold sAug at h
    cases z : env.getD i .no with
    | no => rw [z] at h; exact h.elim
    | exc _ => rw [z] at h; exact h.elim
    | own ds => rw [z] at h; exact h.elim
    | val d =>
      rw [z] at h
      cases d with
      | int a =>
        obtain ⟨v, k1, k2⟩ := e.val i _ (getD_val z (fun q => by cases q))
        cases k2
        refine ⟨.int a, k1, stm_core (relA := rD) e h fun v d H1 env1 os1 x1 s1 e1 r1 h1 => ?_⟩
        cases d with
        | int b =>
          have h1 : OutS X φ os1 H1 (ofO (svName i (.int (g a b)) env1) >>= fun e' => .ok (.nx e')) E := h1
          obtain ⟨e2, z2, h2⟩ := OutS.opt h1
          cases r1
          exact ⟨a, b, rfl, rfl, gs_name (φ := φ) hio e1 (.int _) z2 fun σ' _ _ e3 => OutS.ret h2 (Same.refl _) e3⟩
        | _ => exact h1.elim
      | _ => exact h.elim⟩
end

/-! ### a, b = e1, e2 -/
def sPar (i j : Nat) (f : Ar) : Sm := fun e => f e >>= fun p => match p.1 with
  | [a, b] => ofO (svAll [svName i, svName j] [a, b] p.2) >>= fun e' => .ok (.nx e')
  | _ => .stuck
def sPar3 (i j l : Nat) (f : Ar) : Sm := fun e => f e >>= fun p => match p.1 with
  | [a, b, c] => ofO (svAll [svName i, svName j, svName l] [a, b, c] p.2) >>= fun e' => .ok (.nx e')
  | _ => .stuck
section
variable {X : Cx} {φ : Fm} {i j l : Nat} {x y z : Str} {a b c : Expr} {f : Ar} {px py pz pt pos : Pos} {kt k2 pt2}
theorem svAll2 {i j : Nat} {da db : D} {e1 e2 : VEnv} (h : svAll [svName i, svName j] [da, db] e1 = some e2) : i < e1.length ∧ j < e1.length ∧ e2 = (e1.set i (.val da)).set j (.val db) := by
  simp only [svAll, svName] at h
  by_cases h1 : i < e1.length
  · rw [if_pos h1] at h
    simp only [Option.bind_some, List.length_set] at h
    by_cases h2 : j < e1.length
    · rw [if_pos h2] at h
      simp only [Option.bind_some, Option.some.injEq] at h
      exact ⟨h1, h2, h.symm⟩
    · rw [if_neg h2] at h; cases h
  · rw [if_neg h1] at h; cases h
theorem s_par (hc : X.calm = true) (hN : X.N.Nodup) (hio : φ.io = none ∨ (i ≠ 0 ∧ j ≠ 0)) (ha : JA X φ [a, b] f) (hi : X.N[i]? = some x := by rfl) (hj : X.N[j]? = some y := by rfl) (hij : i ≠ j := by decide)
    (hx : X.env.scope.names.lookup x = some .local := by rfl) (hy : X.env.scope.names.lookup y = some .local := by rfl)
    (hw : swappedStores [.Tuple [.Name x px, .Name y py] kt pt] (.Tuple [a, b] k2 pt2) X.env = pure (some [x, y]) := by rfl)
    (hs : swapsWithSole [.Tuple [.Name x px, .Name y py] kt pt] (.Tuple [a, b] k2 pt2) pos.line X.env = pure false := by rfl) :
    JS X φ (.Assign [.Tuple [.Name x px, .Name y py] kt pt] (.Tuple [a, b] k2 pt2) pos) (sPar i j f) :=
  ⟨(ps_par hc hN hi hj hij hx hy ha.j hw hs).imp fun E σ H ⟨env, os, e, h⟩ => stm_core (relA := rDs) e h fun vs ds H1 env1 os1 x1 s1 e1 r1 h1 => by
    match ds, r1 with
    | [da, db], .cons (v := v) ra (.cons (v := w) rb .nil) =>
      have h1 : OutS X φ os1 H1 (ofO (svAll [svName i, svName j] [da, db] env1) >>= fun e' => .ok (.nx e')) E := h1
      obtain ⟨e2, z2, h2⟩ := OutS.opt h1
      obtain ⟨l1, l2, rfl⟩ := svAll2 z2
      have q1 := erel_set (i := i) e1 (hio.elim .inr fun h => .inl h.1) l1 ra
      have q2 := erel_set (i := j) q1 (hio.elim .inr fun h => .inl h.2) (by rw [List.length_set]; exact l2) rb
      exact ⟨v, w, rfl, OutS.ret h2 (Same.refl _) q2⟩
    | [], .nil => exact h1.elim
    | [_], .cons _ .nil => exact h1.elim
    | _ :: _ :: _ :: _, .cons _ (.cons _ (.cons _ _)) => exact h1.elim⟩
theorem svAll3 {i j l : Nat} {da db dc : D} {e1 e2 : VEnv} (h : svAll [svName i, svName j, svName l] [da, db, dc] e1 = some e2) : i < e1.length ∧ j < e1.length ∧ l < e1.length ∧ e2 = ((e1.set i (.val da)).set j (.val db)).set l (.val dc) := by
  have h' : (svName i da e1).bind (svAll [svName j, svName l] [db, dc]) = some e2 := h
  unfold svName at h'
  by_cases h1 : i < e1.length
  · rw [if_pos h1] at h'
    have h2 := svAll2 (show svAll [svName j, svName l] [db, dc] (e1.set i (.val da)) = some e2 from h')
    rw [List.length_set] at h2
    exact ⟨h1, h2.1, h2.2.1, h2.2.2⟩
  · rw [if_neg h1] at h'; cases h'
theorem s_par3 (hc : X.calm = true) (hN : X.N.Nodup) (hio : φ.io = none ∨ (i ≠ 0 ∧ j ≠ 0 ∧ l ≠ 0)) (ha : JA X φ [a, b, c] f) (hi : X.N[i]? = some x := by rfl) (hj : X.N[j]? = some y := by rfl) (hl : X.N[l]? = some z := by rfl) (hij : i ≠ j := by decide) (hil : i ≠ l := by decide) (hjl : j ≠ l := by decide)
    (hx : X.env.scope.names.lookup x = some .local := by rfl) (hy : X.env.scope.names.lookup y = some .local := by rfl) (hz : X.env.scope.names.lookup z = some .local := by rfl)
    (hw : swappedStores [.Tuple [.Name x px, .Name y py, .Name z pz] kt pt] (.Tuple [a, b, c] k2 pt2) X.env = pure (some [x, y, z]) := by rfl)
    (hs : swapsWithSole [.Tuple [.Name x px, .Name y py, .Name z pz] kt pt] (.Tuple [a, b, c] k2 pt2) pos.line X.env = pure false := by rfl) :
    JS X φ (.Assign [.Tuple [.Name x px, .Name y py, .Name z pz] kt pt] (.Tuple [a, b, c] k2 pt2) pos) (sPar3 i j l f) :=
  ⟨(ps_par3 hc hN hi hj hl hij hil hjl hx hy hz ha.j hw hs).imp fun E σ H ⟨env, os, e, h⟩ => stm_core (relA := rDs) e h fun vs ds H1 env1 os1 x1 s1 e1 r1 h1 => by
    match ds, r1 with
    | [da, db, dc], .cons (v := v) ra (.cons (v := w) rb (.cons (v := u) rc .nil)) =>
      have h1 : OutS X φ os1 H1 (ofO (svAll [svName i, svName j, svName l] [da, db, dc] env1) >>= fun e' => .ok (.nx e')) E := h1
      obtain ⟨e2, z2, h2⟩ := OutS.opt h1
      obtain ⟨l1, l2, l3, rfl⟩ := svAll3 z2
      have q1 := erel_set (i := i) e1 (hio.elim .inr fun h => .inl h.1) l1 ra
      have q2 := erel_set (i := j) q1 (hio.elim .inr fun h => .inl h.2.1) (by rw [List.length_set]; exact l2) rb
      have q3 := erel_set (i := l) q2 (hio.elim .inr fun h => .inl h.2.2) (by rw [List.length_set, List.length_set]; exact l3) rc
      exact ⟨v, w, u, rfl, OutS.ret h2 (Same.refl _) q3⟩
    | [], .nil => exact h1.elim
    | [_], .cons _ .nil => exact h1.elim
    | [_, _], .cons _ (.cons _ .nil) => exact h1.elim
    | _ :: _ :: _ :: _ :: _, .cons _ (.cons _ (.cons _ (.cons _ _))) => exact h1.elim⟩
end
end Z

namespace Z
open PySem PySem.Spec PyProof.Rows L2 PySem.Calls
section
variable {prog : Program} {w : World} {A : Around} {E : Value → Shared → Prop} {s : Shared}
theorem rev_adjust (n : Nat) : Builtin.Slice.sliceAdjust none none (-1) (n : Int) = ((n : Int) - 1, -1) := by
  unfold Builtin.Slice.sliceAdjust
  simp
theorem rev_places (n : Nat) : Builtin.Slice.slicePlaces ((n : Int) - 1) (-1) (-1) = n := by
  unfold Builtin.Slice.slicePlaces
  rw [if_neg (by decide)]
  by_cases h : (n : Int) - 1 > -1
  · rw [if_pos h]
    show (((n : Int) - 1 - -1 - 1) / (- -1) + 1).toNat = n
    simp
  · rw [if_neg h]
    have : n = 0 := by omega
    subst this; rfl
theorem rev_pick (xs : Array Value) : ((List.range xs.size).filterMap fun (m : Nat) => xs[((xs.size : Int) - 1 + (m : Int) * -1).toNat]?).toArray = xs.toList.reverse.toArray := by
  congr 1
  have aux : ∀ (l : List Value) , (List.range l.length).filterMap (fun (m : Nat) => l[((l.length : Int) - 1 + (m : Int) * -1).toNat]?) = l.reverse := by
    intro l
    have e : (List.range l.length).filterMap (fun (m : Nat) => l[((l.length : Int) - 1 + (m : Int) * -1).toNat]?) = (List.range l.length).filterMap (fun (m : Nat) => l.reverse[m]?) := by
      have gen : ∀ (ms : List Nat), (∀ m ∈ ms, m < l.length) → ms.filterMap (fun (m : Nat) => l[((l.length : Int) - 1 + (m : Int) * -1).toNat]?) = ms.filterMap (fun (m : Nat) => l.reverse[m]?) := by
        intro ms
        induction ms with
        | nil => intro _; rfl
        | cons m ms ih =>
          intro hm
          have hlt := hm m List.mem_cons_self
          have e0 : l[((l.length : Int) - 1 + (m : Int) * -1).toNat]? = l.reverse[m]? := by
            rw [List.getElem?_reverse hlt]
            congr 1
            omega
          rw [List.filterMap_cons, List.filterMap_cons, e0, ih fun k hk => hm k (List.mem_cons_of_mem _ hk)]
      exact gen _ fun m hm => List.mem_range.mp hm
    rw [e]
    have e2 : l.length = l.reverse.length := (List.length_reverse).symm
    rw [e2]
    generalize l.reverse = r
    refine List.ext_getElem? fun i => ?_
    have : (List.range r.length).filterMap (fun m => r[m]?) = r := by
      have : ∀ (k : Nat), (List.range' k (r.length - k)).filterMap (fun m => r[m]?) = r.drop k := by
        intro k
        induction hk : r.length - k generalizing k with
        | zero => rw [List.drop_eq_nil_of_le (by omega)]; rfl
        | succ j ih =>
          rw [List.range'_succ, List.filterMap_cons]
          have hlt : k < r.length := by omega
          rw [List.getElem?_eq_getElem hlt, List.drop_eq_getElem_cons hlt]
          simp only
          rw [ih (k + 1) (by omega)]
      have h0 := this 0
      rw [List.range_eq_range']
      simpa using h0
    rw [this]
  have := aux xs.toList
  simpa using this
theorem rev_applied {sl : Addr} {vl : Tok} {n : Nat} {Q : Int × Int × Nat → Shared → Prop} (hs : s.heap.IsSliceOf sl .none .none (.int (-1) vl)) (h : Q ((n : Int) - 1, -1, n) s) :
    wpAny (model prog w) A (Builtin.Slice.sliceApplied (.ref sl) (pure (n : Int))) Q E s := by
  obtain ⟨os, hos, hcs, hds⟩ := id hs
  unfold Builtin.Slice.sliceApplied Builtin.Slice.sliceFields
  refine wpAny_bind (wpAny_bind (wpAny_field hos hds (x := .none) rfl (wpAny_bind (wpAny_field hos hds (x := .none) rfl (wpAny_bind (wpAny_field hos hds (x := .int (-1) vl) rfl (wpAny_pure ?_)))))))
  refine wpAny_bind (slicePart_int ?_)
  show wpAny _ _ (if ((-1 : Int) == 0) = true then _ else _) _ _ s
  rw [if_neg (by decide)]
  refine wpAny_bind (slicePart_none (wpAny_bind (slicePart_none (wpAny_bind (wpAny_pure ?_)))))
  show wpAny _ _ (match Builtin.Slice.sliceAdjust none none (-1) (n : Int) with | (lo, hi) => pure (lo, (-1 : Int), Builtin.Slice.slicePlaces lo hi (-1))) _ _ s
  rw [rev_adjust]
  show wpAny _ _ (pure ((n : Int) - 1, (-1 : Int), Builtin.Slice.slicePlaces ((n : Int) - 1) (-1) (-1))) _ _ s
  rw [rev_places]
  exact wpAny_pure h
theorem rev_getItem {t sl : Addr} {items : Array Value} {tk : Tok} {Q : Value → Shared → Prop} (ht : IsTup s.heap t items) (hs : s.heap.IsSliceOf sl .none .none (.int (-1) tk))
    (h : Q (.ref s.heap.objs.size) { s with heap := s.heap.push { cls := .type "tuple", data := .seq items.toList.reverse.toArray } })
    (hsz : items.size ≤ sizeLine) : wpAny (model prog w) A (getItem (.ref t) (.ref sl)) Q E s := by
  have fits : sizeOk (.seq items.toList.reverse.toArray) := by
    show items.toList.reverse.toArray.size ≤ sizeLine
    rw [List.size_toArray, List.length_reverse, Array.length_toList]
    exact hsz
  obtain ⟨os, hos, hcs, hds⟩ := id hs
  have hTs : s.TypeIs (.ref sl) "slice" := ⟨os, hos, hcs⟩
  unfold getItem
  try with_reducible refine wpAny_holding ?_
  first | refine wpAny_bind (wpAny_pure ?_) | skip
  refine wpAny_bind (wpAny_sequenceKey ht.typeIs (by decide) ?_)
  refine wpAny_bind (wpAny_callSpecial?_slot (name := Str.ofString "__getitem__") ht.typeIs PyProof.Rows.slot_tuple_getitem
    (wpAny_call_entry PyProof.Rows.slot_tuple_getitem ht.typeIs entry_tuple_getitem ?_ (args_tuple_getitem _ _)))
  show wpAny _ _ (Builtin.Tuple.tupleItemsOf (.ref t) >>= _) _ _ s
  refine wpAny_bind (tupleItemsOf_ ht ?_)
  refine wpAny_bind (wpAny_typeOf hTs ?_)
  rw [if_pos (by decide)]
  refine wpAny_bind (rev_applied (n := items.size) hs ?_)
  have no : ¬ ((((items.size : Int) - 1 == 0) && (-1 : Int) == 1 && items.size == items.size) = true) := by simp
  show wpAny _ _ (if (((items.size : Int) - 1 == 0) && (-1 : Int) == 1 && items.size == items.size) = true then _ else _) _ _ s
  rw [if_neg no, rev_pick]
  first
    | exact wpAny_bind (m := Builtin.Tuple.tupleExact _) (wpAny_newObj_type (wpAny_pure ⟨_, rfl, wpAny_pure h⟩) fits)
    | exact wpAny_bind (m := Builtin.Tuple.tupleExact _) (wpAny_newObj_type (wpAny_bind (wpAny_pure (wpAny_pure ⟨_, rfl, wpAny_pure h⟩))) fits)
    | exact wpAny_bind (wpAny_bind (m := Builtin.Tuple.tupleExact _) (wpAny_newObj_type (wpAny_pure (wpAny_pure ⟨_, rfl, wpAny_pure h⟩)) fits))
    | exact wpAny_bind (wpAny_bind (m := Builtin.Tuple.tupleExact _) (wpAny_newObj_type (wpAny_pure ⟨_, rfl, wpAny_pure h⟩) fits))
end
/-- e[::-1], e a tuple -/
def tRevT (K : PySem.W.Frag) (te : TE) : TE := fun σ H Q => te σ H fun x H1 => ∃ a xs, x = .ref a ∧ SqT K H1 a xs ∧ ∀ p, H1 p = none → Q (.ref p) (upd H1 p (.tup xs.reverse))
theorem pe_revT {X : Cx} {e : Expr} {te : TE} {k : Nat} {p1 p2 p3 pos : Pos} (he : PE X e te) : PE X (.Subscript e (.Slice none none (some (.UnaryOp .USub (.Constant (.int 1) k p1) p2)) p3) pos) (tRevT X.K te) := by
  refine ⟨fun pins s σ H Q I h => Subscript_ (thn (he.run pins s σ H _ I h) fun v s1 ⟨x, H1, I1, r1, a, xs, ex, hx, q⟩ => ?_)⟩
  subst ex
  cases r1
  have hst : PO X (some (.UnaryOp .USub (.Constant (.int 1) k p1) p2)) (tPart (tUn (rU fun i => .int (-i)) (tC (.int 1)))) := po_some (pe_un un_neg pe_int)
  refine wpAny_Slice (thn (po_none.run pins s1 σ H1 (fun o H2 => o = none ∧ H2 = H1) I1 ⟨rfl, rfl⟩) fun vl s2 ⟨l, H2, I2, pl, el, e2⟩ => ?_)
  subst el e2
  refine thn (po_none.run pins s2 σ H2 (fun o H3 => o = none ∧ H3 = H2) I2 ⟨rfl, rfl⟩) fun vu s3 ⟨u, H3, I3, pu, eu, e3⟩ => ?_
  subst eu e3
  refine thn (hst.run pins s3 σ H3 (fun o H4 => o = some (-1) ∧ H4 = H3) I3 ⟨1, rfl, -1, rfl, rfl, rfl⟩) fun vs s4 ⟨o, H4, I4, ps, eo, e4⟩ => ?_
  subst eo e4
  cases pl
  cases pu
  cases ps with
  | int i t =>
  have I5 : Inv X pins σ H4 { s4 with heap := s4.heap.push { cls := .type "slice", data := .fields #[.none, .none, .int (-1) t] } } := I4.kept (t' := s4.toks) fun b ob q => Heap.get?_push_of_some _ q
  obtain ⟨its, r, ht, hz⟩ := I5.tuple hx
  have hlen := r.length
  show wpAny (model X.prog X.w) X.A (subscriptTail e (.Slice none none (some (.UnaryOp .USub (.Constant (.int 1) k p1) p2)) p3) (.ref a) (.ref s4.heap.objs.size)) (EP X pins σ Q) X.xe { s4 with heap := s4.heap.push { cls := .type "slice", data := .fields #[.none, .none, .int (-1) t] } }
  refine tail_any (ops := [.ref a, .ref s4.heap.objs.size]) ht.typeIs (PyProof.Rows.slot_tuple_getitem.lookup) ?_ (by with_unfolding_all rfl)
  refine rev_getItem ht (Heap.IsSliceOf.new _ .none .none (.int (-1) t)) ?_ (by rw [List.size_toArray]; omega)
  refine ⟨.ref _, _, I5.laid (t' := s4.toks) (o := .tup xs.reverse) (fun b ob q => Heap.get?_push_of_some _ q) (Nat.le_refl _) ?_, rfl, q _ (I5.hok.fresh (Nat.le_refl _))⟩
  exact ⟨by rw [List.length_reverse]; exact hz, _, r.reverse, ⟨_, Heap.get?_push_size _ rfl, rfl, 0, by simp⟩⟩
def revTD : D → Option D
  | .tuple xs => some (.tuple xs.reverse)
  | _ => none
def revLD : D → Option D
  | .list xs => some (.list xs.reverse)
  | _ => none
section
variable {X : Cx} {φ : Fm} {e : Expr} {f : Oe} {k : Nat} {p1 p2 p3 pos : Pos}
theorem un_core {op : D → Option D} {R : V → Hp → Prop} {σ : L2.St} {H : Hp} {Q : VK}
    (hk : ∀ x d H2 env2 os2, ERel φ env2 σ H2 os2 → RB H2 (φ.bs ++ os2) x d → OutR X φ rD os2 σ H2 (ofO (op d) >>= fun z => .ok (z, env2)) Q → R x H2)
    (h : tR X φ rD (xUn op f) σ H Q) : tR X φ (rO σ) f σ H R := by
  obtain ⟨env, os, e, h⟩ := h
  refine seq_core2 (relA := rO σ) e h fun x o H1 env1 os1 x1 s1 e1 r1 h1 => ?_
  obtain ⟨d, z, h2⟩ := OutR.opt h1
  exact hk x d H1 env1 os1 e1 (rd_rb e1 r1 z) h2
theorem z_revT (h : JO X φ e f) : JE X φ (.Subscript e (.Slice none none (some (.UnaryOp .USub (.Constant (.int 1) k p1) p2)) p3) pos) (xUn revTD f) :=
  ⟨(pe_revT h.j).imp fun σ H Q h => un_core (X := X) (fun x d H2 env2 os2 e2 r2 h2 => by
    cases d with
    | tuple xs =>
      obtain ⟨p, vs, rfl, e1, n1, q1⟩ := r2.tuple
      exact ⟨p, vs, rfl, SqT.of e1, fun q n => OutR.ret h2 _ (same_upd n) e2 (.tup upd_same (new_ref e2.trk n) (q1.reverse.same (same_upd n)))⟩
    | _ => exact h2.elim) h⟩
theorem z_revL (h : JO X φ e f) : JE X φ (.Subscript e (.Slice none none (some (.UnaryOp .USub (.Constant (.int 1) k p1) p2)) p3) pos) (xUn revLD f) :=
  ⟨(pe_revL h.j).imp fun σ H Q h => un_core (X := X) (fun x d H2 env2 os2 e2 r2 h2 => by
    cases d with
    | list xs =>
      obtain ⟨p, vs, rfl, e1, q1⟩ := r2.list
      exact ⟨p, vs, rfl, SqL.of e1, fun q n => OutR.ret h2 _ (same_upd n) e2 (.lst upd_same (new_ref e2.trk n) (q1.reverse.same (same_upd n)))⟩
    | _ => exact h2.elim) h⟩
end
end Z

namespace Z
open PySem PySem.Spec PyProof.Rows L2

/-! ### the module's facts by places in a row -/
structure Top (fa : List He.Fa) (fn : List He.DefD) (K : PySem.W.Frag) (mg : Str → Option Value) : Prop where
  c : He.SaysD fa fn K
  h : ∃ h : Heap, K.In h ∧ h.Ns mainGlobals mg
section
variable {fa : List He.Fa} {fn : List He.DefD} {K : PySem.W.Frag} {mg : Str → Option Value}
theorem Top.glo (T : Top fa fn K mg) (i : Nat) {x : Str} (h : fa[i]? = some (.glo x) := by rfl) : mg x = some (.ref (He.ga K x)) := let ⟨_, X, G⟩ := T.h; He.glo_ok X G (T.c.fact i h)
theorem Top.free (T : Top fa fn K mg) (i : Nat) {x : Str} (h : fa[i]? = some (.free x) := by rfl) : mg x = none := let ⟨_, X, G⟩ := T.h; He.free_ok X G (T.c.fact i h)
theorem Top.int (T : Top fa fn K mg) (i : Nat) {x : Str} {n : Int} (h : fa[i]? = some (.int x n) := by rfl) : ∃ t, mg x = some (.int n t) := let ⟨_, X, G⟩ := T.h; He.int_ok X G (T.c.fact i h)
theorem Top.str (T : Top fa fn K mg) (i : Nat) {x z : Str} (h : fa[i]? = some (.str x z) := by rfl) : ∃ t, mg x = some (.str z t) := let ⟨_, X, G⟩ := T.h; He.str_ok X G (T.c.fact i h)
end
theorem boot_abs : bootBuiltins "abs" = some (.builtin "abs") := by decide +kernel
theorem boot_all : bootBuiltins "all" = some (.builtin "all") := by decide +kernel
theorem boot_any : bootBuiltins "any" = some (.builtin "any") := by decide +kernel
theorem boot_sum : bootBuiltins "sum" = some (.builtin "sum") := by decide +kernel
theorem boot_max : bootBuiltins "max" = some (.builtin "max") := by decide +kernel
theorem boot_min : bootBuiltins "min" = some (.builtin "min") := by decide +kernel
theorem boot_repr : bootBuiltins "repr" = some (.builtin "repr") := by decide +kernel
theorem boot_lenZ : bootBuiltins "len" = some (.builtin "len") := by decide +kernel
theorem boot_int : bootBuiltins "int" = some (.type "int") := by decide +kernel
theorem boot_tuple : bootBuiltins "tuple" = some (.type "tuple") := by decide +kernel
theorem boot_list : bootBuiltins "list" = some (.type "list") := by decide +kernel

section
variable {X : Cx} {φ : Fm} {k : Nat} {W : WX} {p pos : Pos} {a b c : Expr} {f g h : Oe}
theorem z_gint {x : Str} {n : Int} (hm : ∃ t, X.mg x = some (.int n t)) (hg : Gl X x := by rfl) (hd : (x == ("__debug__" : Str)) = false := by decide) : JE X φ (.Name x pos) (xC (.int n)) := let ⟨t, e⟩ := hm; z_glob (v := .int n) hg e ⟨t, rfl⟩ (fun _ _ => .int n) hd
theorem z_gstr {x z : Str} (hm : ∃ t, X.mg x = some (.str z t)) (hg : Gl X x := by rfl) (hd : (x == ("__debug__" : Str)) = false := by decide) : JE X φ (.Name x pos) (xC (.str z)) := let ⟨t, e⟩ := hm; z_glob (v := .str z) hg e ⟨t, rfl⟩ (fun _ _ => .str z) hd
/-! calls of built-ins -/
theorem z_len (I : In k X W) (hm : X.mg "len" = none) (ha : JO X φ a f) (hg : Gl X "len" := by rfl) (he : starEach [a] X.env = (false, eval a X.env) :: starEach [] X.env := by rfl) (hpl : (backTo pos (starEach [] X.env)).any (·.1) = false := by rfl) : JE X φ (.Call (.Name "len" p) [a] [] pos) (xUn lenD f) := z_b1 b_len s_len hg hm boot_lenZ ha (by decide) (by decide) he hpl
theorem z_abs (I : In k X W) (hm : X.mg "abs" = none) (ha : JO X φ a f) (hg : Gl X "abs" := by rfl) (he : starEach [a] X.env = (false, eval a X.env) :: starEach [] X.env := by rfl) (hpl : (backTo pos (starEach [] X.env)).any (·.1) = false := by rfl) : JE X φ (.Call (.Name "abs" p) [a] [] pos) (xUn absD f) := z_b1 call_abs s_abs hg hm boot_abs ha (by decide) (by decide) he hpl
theorem z_all (I : In k X W) (hm : X.mg "all" = none) (ha : JO X φ a f) (hg : Gl X "all" := by rfl) (he : starEach [a] X.env = (false, eval a X.env) :: starEach [] X.env := by rfl) (hpl : (backTo pos (starEach [] X.env)).any (·.1) = false := by rfl) : JE X φ (.Call (.Name "all" p) [a] [] pos) (xUn allD f) := z_b1 (cr_all I.calm) s_all hg hm boot_all ha (by decide) (by decide) he hpl
theorem z_any (I : In k X W) (hm : X.mg "any" = none) (ha : JO X φ a f) (hg : Gl X "any" := by rfl) (he : starEach [a] X.env = (false, eval a X.env) :: starEach [] X.env := by rfl) (hpl : (backTo pos (starEach [] X.env)).any (·.1) = false := by rfl) : JE X φ (.Call (.Name "any" p) [a] [] pos) (xUn anyD f) := z_b1 (cr_any I.calm) s_any hg hm boot_any ha (by decide) (by decide) he hpl
theorem z_sum (I : In k X W) (hm : X.mg "sum" = none) (ha : JO X φ a f) (hg : Gl X "sum" := by rfl) (he : starEach [a] X.env = (false, eval a X.env) :: starEach [] X.env := by rfl) (hpl : (backTo pos (starEach [] X.env)).any (·.1) = false := by rfl) : JE X φ (.Call (.Name "sum" p) [a] [] pos) (xUn sumD f) := z_b1 (b_sum I.calm) s_sum hg hm boot_sum ha (by decide) (by decide) he hpl
theorem z_max (I : In k X W) (hm : X.mg "max" = none) (ha : JO X φ a f) (hg : Gl X "max" := by rfl) (he : starEach [a] X.env = (false, eval a X.env) :: starEach [] X.env := by rfl) (hpl : (backTo pos (starEach [] X.env)).any (·.1) = false := by rfl) : JE X φ (.Call (.Name "max" p) [a] [] pos) (xUn maxD' f) := z_b1 (cr_max I.calm) s_max hg hm boot_max ha (by decide) (by decide) he hpl
theorem z_min (I : In k X W) (hm : X.mg "min" = none) (ha : JO X φ a f) (hg : Gl X "min" := by rfl) (he : starEach [a] X.env = (false, eval a X.env) :: starEach [] X.env := by rfl) (hpl : (backTo pos (starEach [] X.env)).any (·.1) = false := by rfl) : JE X φ (.Call (.Name "min" p) [a] [] pos) (xUn minD' f) := z_b1 (cr_min I.calm) s_min hg hm boot_min ha (by decide) (by decide) he hpl
theorem z_repr (I : In k X W) (hm : X.mg "repr" = none) (ha : JO X φ a f) (hg : Gl X "repr" := by rfl) (he : starEach [a] X.env = (false, eval a X.env) :: starEach [] X.env := by rfl) (hpl : (backTo pos (starEach [] X.env)).any (·.1) = false := by rfl) : JE X φ (.Call (.Name "repr" p) [a] [] pos) (xUn reprD f) := z_b1 (b_repr I.room.units I.gu) s_repr hg hm boot_repr ha (by decide) (by decide) he hpl
theorem z_intT (I : In k X W) (hm : X.mg "int" = none) (ha : JO X φ a f) (hg : Gl X "int" := by rfl) (he : starEach [a] X.env = (false, eval a X.env) :: starEach [] X.env := by rfl) (hpl : (backTo pos (starEach [] X.env)).any (·.1) = false := by rfl) : JE X φ (.Call (.Name "int" p) [a] [] pos) (xUn intD f) := z_t1 call_int1 s_int hg hm boot_int ha (by decide) (by decide) he hpl
theorem z_tupT (I : In k X W) (hm : X.mg "tuple" = none) (ha : JO X φ a f) (hg : Gl X "tuple" := by rfl) (he : starEach [a] X.env = (false, eval a X.env) :: starEach [] X.env := by rfl) (hpl : (backTo pos (starEach [] X.env)).any (·.1) = false := by rfl) : JE X φ (.Call (.Name "tuple" p) [a] [] pos) (xUn tupD f) := z_t1 call_tuple_of s_tuple hg hm boot_tuple ha (by decide) (by decide) he hpl
theorem z_lstT (I : In k X W) (hm : X.mg "list" = none) (ha : JO X φ a f) (hg : Gl X "list" := by rfl) (he : starEach [a] X.env = (false, eval a X.env) :: starEach [] X.env := by rfl) (hpl : (backTo pos (starEach [] X.env)).any (·.1) = false := by rfl) : JE X φ (.Call (.Name "list" p) [a] [] pos) (xUn lstD f) := z_t1 call_list_of s_list hg hm boot_list ha (by decide) (by decide) he hpl
theorem f_list (I : In k X W) (hm : X.mg "list" = none) (ha : JO X φ a f) (hg : Gl X "list" := by rfl) (he : starEach [a] X.env = (false, eval a X.env) :: starEach [] X.env := by rfl) (hpl : (backTo pos (starEach [] X.env)).any (·.1) = false := by rfl) : JF X φ (.Call (.Name "list" p) [a] [] pos) (f1 lstF f) := f_t1 call_list_of s_lstF hg hm boot_list ha (by decide) (by decide) he hpl
theorem f_cat (I : In k X W) (ha : JO X φ a f) (hb : JO X φ b g) : JF X φ (.BinOp a .Add b pos) (f2 catF f g) := f_bin o_add s_catF ha hb
/-! operators -/
theorem z_add (I : In k X W) (ha : JO X φ a f) (hb : JO X φ b g) : JE X φ (.BinOp a .Add b pos) (xBin addD f g) := z_bin o_add s_add ha hb
theorem z_sub (I : In k X W) (ha : JO X φ a f) (hb : JO X φ b g) : JE X φ (.BinOp a .Sub b pos) (xBin subD f g) := z_bin o_sub s_sub ha hb
theorem z_mul (I : In k X W) (ha : JO X φ a f) (hb : JO X φ b g) : JE X φ (.BinOp a .Mult b pos) (xBin mulD f g) := z_bin o_mul s_mul ha hb
theorem z_div (I : In k X W) (ha : JO X φ a f) (hb : JO X φ b g) : JE X φ (.BinOp a .FloorDiv b pos) (xBin divD f g) := z_bin o_div s_div ha hb
theorem z_mod (I : In k X W) (ha : JO X φ a f) (hb : JO X φ b g) : JE X φ (.BinOp a .Mod b pos) (xBin modD f g) := z_bin o_mod s_mod ha hb
theorem z_pow (I : In k X W) (ha : JO X φ a f) (hb : JO X φ b g) : JE X φ (.BinOp a .Pow b pos) (xBin powD f g) := z_bin o_pow s_pow ha hb
theorem z_neg (I : In k X W) (ha : JO X φ a f) : JE X φ (.UnaryOp .USub a pos) (xUn negD f) := z_un o_neg s_neg ha
/-! comparisons -/
theorem z_eq (I : In k X W) (ha : JO X φ a f) (hb : JO X φ b g) (hm : behindInMarks .Eq b = false := by rfl) : JE X φ (.Compare a [.Eq] [b] pos) (xBin (bD eqD) f g) := z_cmp (o_eq I.room.units) rTell_s ha hb hm
theorem z_ne (I : In k X W) (ha : JO X φ a f) (hb : JO X φ b g) (hm : behindInMarks .NotEq b = false := by rfl) : JE X φ (.Compare a [.NotEq] [b] pos) (xBin (bD neD) f g) := z_cmp (o_ne I.room.units) rTell_s ha hb hm
theorem z_lt (I : In k X W) (ha : JO X φ a f) (hb : JO X φ b g) (hm : behindInMarks .Lt b = false := by rfl) : JE X φ (.Compare a [.Lt] [b] pos) (xBin (bD ltD) f g) := z_cmp (o_lt I.room.units) rTell_s ha hb hm
theorem z_le (I : In k X W) (ha : JO X φ a f) (hb : JO X φ b g) (hm : behindInMarks .LtE b = false := by rfl) : JE X φ (.Compare a [.LtE] [b] pos) (xBin (bD leD) f g) := z_cmp (o_le I.room.units) rTell_s ha hb hm
theorem z_gt (I : In k X W) (ha : JO X φ a f) (hb : JO X φ b g) (hm : behindInMarks .Gt b = false := by rfl) : JE X φ (.Compare a [.Gt] [b] pos) (xBin (bD gtD) f g) := z_cmp (o_gt I.room.units) rTell_s ha hb hm
theorem z_ge (I : In k X W) (ha : JO X φ a f) (hb : JO X φ b g) (hm : behindInMarks .GtE b = false := by rfl) : JE X φ (.Compare a [.GtE] [b] pos) (xBin (bD geD) f g) := z_cmp (o_ge I.room.units) rTell_s ha hb hm
theorem z_in (I : In k X W) (ha : JO X φ a f) (hb : JO X φ b g) (hm : behindInMarks .In b = false := by rfl) : JE X φ (.Compare a [.In] [b] pos) (xBin (bD inD) f g) := z_cmp (o_in I.room.units) s_in ha hb hm
theorem z_nin (I : In k X W) (ha : JO X φ a f) (hb : JO X φ b g) (hm : behindInMarks .NotIn b = false := by rfl) : JE X φ (.Compare a [.NotIn] [b] pos) (xBin (bD notInD) f g) := z_cmp (o_notIn I.room.units) s_notIn ha hb hm
theorem z_is (I : In k X W) (ha : JO X φ a f) (hb : JO X φ b g) (hm : behindInMarks .Is b = false := by rfl) : JE X φ (.Compare a [.Is] [b] pos) (xBin (bD isND) f g) := z_cmp op_isNB s_isN ha hb hm
theorem z_nis (I : In k X W) (ha : JO X φ a f) (hb : JO X φ b g) (hm : behindInMarks .IsNot b = false := by rfl) : JE X φ (.Compare a [.IsNot] [b] pos) (xBin (bD notND) f g) := z_cmp op_notNB s_notN ha hb hm
/-- an operator and what it says -/
structure Cmp (X : Cx) (op : CmpOp) (opB : D → D → Option Bool) : Prop where
  j : ∃ r, OpR X (compareOp op) r ∧ OpB r opB
theorem c_eq (I : In k X W) : Cmp X .Eq eqD := ⟨_, o_eq I.room.units, rTell_s⟩
theorem c_ne (I : In k X W) : Cmp X .NotEq neD := ⟨_, o_ne I.room.units, rTell_s⟩
theorem c_lt (I : In k X W) : Cmp X .Lt ltD := ⟨_, o_lt I.room.units, rTell_s⟩
theorem c_le (I : In k X W) : Cmp X .LtE leD := ⟨_, o_le I.room.units, rTell_s⟩
theorem c_gt (I : In k X W) : Cmp X .Gt gtD := ⟨_, o_gt I.room.units, rTell_s⟩
theorem c_ge (I : In k X W) : Cmp X .GtE geD := ⟨_, o_ge I.room.units, rTell_s⟩

theorem t_ch {op op' : CmpOp} {opB opB' : D → D → Option Bool} (c1 : Cmp X op opB) (c2 : Cmp X op' opB') (ha : JO X φ a f) (hb : JO X φ b g) (hc : JO X φ c h)
    (hm : lastMarks [op, op'] [b, c] = false := by with_unfolding_all rfl) : JT X φ (.Compare a [op, op'] [b, c] pos) (tChain3 opB opB' f g h) := let ⟨_, o1, s1⟩ := c1.j; let ⟨_, o2, s2⟩ := c2.j; t_chain o1 s1 o2 s2 ha hb hc hm
theorem z_ch {op op' : CmpOp} {opB opB' : D → D → Option Bool} (c1 : Cmp X op opB) (c2 : Cmp X op' opB') (ha : JO X φ a f) (hb : JO X φ b g) (hc : JO X φ c h)
    (hm : lastMarks [op, op'] [b, c] = false := by with_unfolding_all rfl) : JE X φ (.Compare a [op, op'] [b, c] pos) (xTest (tChain3 opB opB' f g h)) := let ⟨_, o1, s1⟩ := c1.j; let ⟨_, o2, s2⟩ := c2.j; z_chain o1 s1 o2 s2 ha hb hc hm
theorem pgn {i : Nat} {x : Str} (hN : X.N.Nodup) (_ : Nat) (hi : X.N[i]? = some x := by rfl) (hx : Loc X.env.scope x := by first | exact .inl rfl | exact .inr rfl) (hf : X.fn x = true ∨ X.env.scope.names.lookup x = some .local := by first | exact .inl rfl | exact .inr rfl | assumption) : PG X (.Name x pos) (gName i) := pg_name hN hi hx hf
theorem ln_n : ∀ env p, arNil env = .ok p → p.1.length = 0 := fun env p h => by cases h; rfl
theorem ln_c {f : Ev} {g : Ar} {n : Nat} (hg : ∀ env p, g env = .ok p → p.1.length = n) : ∀ env p, arCons f g env = .ok p → p.1.length = n + 1 := fun env p h => by
  have h : (f env >>= fun p => g p.2 >>= fun q => .ok (p.1 :: q.1, q.2)) = .ok p := h
  cases q : f env with
  | stuck => rw [q] at h; cases h
  | err _ _ => rw [q] at h; cases h
  | ok a =>
    rw [q] at h
    have h : (g a.2 >>= fun q => .ok (a.1 :: q.1, q.2)) = .ok p := h
    cases q2 : g a.2 with
    | stuck => rw [q2] at h; cases h
    | err _ _ => rw [q2] at h; cases h
    | ok b => rw [q2] at h; cases h; exact congrArg (· + 1) (hg _ _ q2)
theorem t_cm {op : CmpOp} {opB : D → D → Option Bool} (c1 : Cmp X op opB) (ha : JO X φ a f) (hb : JO X φ b g) (hm : behindInMarks op b = false := by rfl) : JT X φ (.Compare a [op] [b] pos) (tBin opB f g) := let ⟨_, o1, s1⟩ := c1.j; t_cmp o1 s1 ha hb hm
theorem c_in (I : In k X W) : Cmp X .In inD := ⟨_, o_in I.room.units, s_in⟩
theorem c_nin (I : In k X W) : Cmp X .NotIn notInD := ⟨_, o_notIn I.room.units, s_notIn⟩
theorem c_is (I : In k X W) : Cmp X .Is isND := ⟨_, op_isNB, s_isN⟩
theorem c_nis (I : In k X W) : Cmp X .IsNot notND := ⟨_, op_notNB, s_notN⟩
/-- a comprehension's block, by looking -/
def blkB (N : List Str) (sc scope : Scope) (own : List (Str × Nat)) : Bool :=
  decide (scope.kind = .function) && (scope.names.all fun y => scope.names.lookup y.1 == some y.2) && (own.all fun p => N[p.2]? == some p.1) &&
  (scope.names.all fun y => y.2 != .free || (sc.names.lookup y.1 == some .cell || sc.names.lookup y.1 == some .free)) &&
  (scope.names.all fun y => !(y.2 == .local || y.2 == .cell) || ((own.map (·.1)).contains y.1 || !N.contains y.1))
theorem blk_of {N : List Str} {sc scope : Scope} {own : List (Str × Nat)} (h : blkB N sc scope own = true) : BlkOk N sc scope own := by
  unfold blkB at h
  simp only [Bool.and_eq_true, List.all_eq_true, decide_eq_true_eq, beq_iff_eq, Bool.or_eq_true, bne_iff_ne, ne_eq, Bool.not_eq_true', List.contains_iff_mem, decide_eq_false_iff_not] at h
  obtain ⟨⟨⟨⟨h1, h2⟩, h3⟩, h4⟩, h5⟩ := h
  refine ⟨h1, h2, h3, fun y hy e => ?_, fun y hy e => ?_⟩
  · rcases h4 y hy with q | q
    · exact absurd e q
    · exact q
  · rcases h5 y hy with q | q
    · rcases e with e | e
      · rw [e] at q; simp at q
      · rw [e] at q; simp at q
    · rcases q with q | q
      · exact .inl q
      · refine .inr fun m => ?_
        have : N.contains y.1 = true := by simpa using m
        rw [this] at q; cases q
theorem k_call {n j : Nat} {x : Str} {e : Expr} {es : List Expr} {F : List D → Res D} {a : Ar} (Fn : Fn X.prog X.w X.K X.mg X.base j x n (spP X.mg n F)) (hj : j ≤ k) (I : In k X φ.W) (ha : JA X φ (e :: es) a) (hn : ∀ env p, a env = .ok p → p.1.length = n) (hg : Gl X x := by rfl) (hdb : (x == ("__debug__" : Str)) = false := by decide)
    (he : starEach (e :: es) X.env = (false, eval e X.env) :: starEach es X.env := by rfl) (hpl : (backTo pos (starEach es X.env)).any (·.1) = false := by rfl) : JE X φ (.Call (.Name x p) (e :: es) [] pos) (xCall F a) := z_call Fn hj I hg ha hn hdb he hpl
theorem k_call0 {j : Nat} {x : Str} {F : List D → Res D} (Fn : Fn X.prog X.w X.K X.mg X.base j x 0 (spP X.mg 0 F)) (hj : j ≤ k) (I : In k X φ.W) (hg : Gl X x := by rfl) (hdb : (x == ("__debug__" : Str)) = false := by decide) : JE X φ (.Call (.Name x p) [] [] pos) (xCall F arNil) := z_call0 Fn hj I hg hdb
theorem k_callI {i m j n : Nat} {x y : Str} {py : Pos} {es : List Expr} {a : Ar} {F : List D → List D → Res (D × List D)} (Fn : Fn X.prog X.w X.K X.mg X.base j x n (spI X.mg m F)) (hj : j ≤ k) (I : In k X φ.W) (ha : JA X φ es a) (hn : ∀ env p, a env = .ok p → p.1.length = m) (hg : Gl X x := by rfl)
    (hN : X.N[i]? = some y := by rfl) (hv : Vis X.env.scope y := by first | exact Or.inl rfl | exact Or.inr (Or.inl rfl) | exact Or.inr (Or.inr rfl)) (hd : (y == ("__debug__" : Str)) = false := by decide) (hcd : (y == ("__classdict__" : Str)) = false := by decide)
    (hdb : (x == ("__debug__" : Str)) = false := by decide) (he : starEach (Expr.Name y py :: es) X.env = (false, eval (Expr.Name y py) X.env) :: starEach es X.env := by rfl) (hpl : (backTo pos (starEach es X.env)).any (·.1) = false := by rfl) :
    JE X φ (.Call (.Name x p) (.Name y py :: es) [] pos) (xCallI i F a) := z_callI Fn hj I hg ha hn hN hv hd hcd hdb he hpl
theorem k_isi {T : Tn} {x : Str} {p2 : Pos} (hm : X.mg "isinstance" = none) (hm2 : X.mg x = none) (ha : JO X φ a f) (hv : bootBuiltins x = some (.type T.name) := by decide +kernel) (hg : Gl X "isinstance" := by rfl) (hg2 : Gl X x := by rfl) (hn : x ≠ "__name__" := by decide) (hd : (x == ("__debug__" : Str)) = false := by decide)
    (hb1 : starEach [.Name x p2] X.env = (false, eval (.Name x p2) X.env) :: starEach [] X.env := by rfl) (he : starEach [a, .Name x p2] X.env = (false, eval a X.env) :: starEach [.Name x p2] X.env := by rfl)
    (hpl : (backTo pos (starEach [.Name x p2] X.env)).any (·.1) = false := by rfl) : JE X φ (.Call (.Name "isinstance" p) [a, .Name x p2] [] pos) (xUn (fun d => some (.bool (isiD T d))) f) := z_isi hg hm ha (n_ty hg2 hm2 hv hn hd) hb1 he hpl
theorem k_ty {T : Tn} {x : Str} (hm : X.mg x = none) (hv : bootBuiltins x = some (.type T.name) := by decide +kernel) (hg : Gl X x := by rfl) (hn : x ≠ "__name__" := by decide) (hd : (x == ("__debug__" : Str)) = false := by decide) : JN X (.Name x pos) T := n_ty hg hm hv hn hd
theorem k_isiL {cs : List Expr} {kk : Nat} {Ts : List Tn} {p2 : Pos} (hm : X.mg "isinstance" = none) (ha : JO X φ a f) (hc : JNs X cs Ts) (hl : Ts.length ≤ sizeLine := by decide) (hg : Gl X "isinstance" := by rfl) (hb1 : starEach [.Tuple cs kk p2] X.env = (false, eval (.Tuple cs kk p2) X.env) :: starEach [] X.env := by rfl)
    (he : starEach [a, .Tuple cs kk p2] X.env = (false, eval a X.env) :: starEach [.Tuple cs kk p2] X.env := by rfl)
    (hpl : (backTo pos (starEach [.Tuple cs kk p2] X.env)).any (·.1) = false := by rfl) : JE X φ (.Call (.Name "isinstance" p) [a, .Tuple cs kk p2] [] pos) (xUn (fun d => some (.bool (Ts.any fun T => isiD T d))) f) := z_isiL hg hm ha hc hl hb1 he hpl
section
variable {tg : Expr} {f g : Ev}
theorem k_range1 (hm : X.mg "range" = none) (ha : JE X φ a f) (hg : Gl X "range" := by rfl) (hs : starEach [a] X.env = [(false, eval a X.env)] := by rfl) : JI X φ tg (.Call (.Name "range" p) [a] [] pos) (srR1 f) := i_range1 hg hm ha hs
theorem k_range2 (hm : X.mg "range" = none) (ha : JE X φ a f) (hb : JE X φ b g) (hg : Gl X "range" := by rfl) (hs : starEach [a, b] X.env = [(false, eval a X.env), (false, eval b X.env)] := by rfl) (hs2 : starEach [b] X.env = [(false, eval b X.env)] := by rfl) : JI X φ tg (.Call (.Name "range" p) [a, b] [] pos) (srR2 f g) := i_range2 hg hm ha hb hs hs2
theorem k_enum {elts : List Expr} {kk : Nat} {tpos : Pos} (hm : X.mg "enumerate" = none) (ha : JE X φ a f) (hg : Gl X "enumerate" := by rfl) (hs : starEach [a] X.env = [(false, eval a X.env)] := by rfl) : JI X φ (.Tuple elts kk tpos) (.Call (.Name "enumerate" p) [a] [] pos) (srEnum f) := i_enum hg hm ha hs
theorem k_zip {elts : List Expr} {kk : Nat} {tpos : Pos} (hm : X.mg "zip" = none) (ha : JE X φ a f) (hb : JE X φ b g) (hg : Gl X "zip" := by rfl) (hs2 : starEach [b] X.env = (false, eval b X.env) :: starEach [] X.env := by rfl) (hs : starEach [a, b] X.env = (false, eval a X.env) :: starEach [b] X.env := by rfl)
    (hpl : (backTo pos (starEach [b] X.env)).any (·.1) = false := by rfl) : JI X φ (.Tuple elts kk tpos) (.Call (.Name "zip" p) [a, b] [] pos) (srZip f g) := i_zip hg hm ha hb hs2 hs hpl
end
theorem noW : ∀ (c : Value) (d : Option Addr) (σ : L2.St) (H : Hp), ¬ (fun _ _ _ _ => False : WX) c d σ H := fun _ _ _ _ h => h
/-- nothing is asked of a statement that is not reached -/
def sStuck : Sm := fun _ => .stuck
theorem s_stuck {st : Stmt} : JS X φ st sStuck := ⟨⟨fun _ _ _ _ _ _ ⟨_, _, _, h⟩ => h.elim⟩⟩
def xStuck : Ev := fun _ => .stuck
theorem z_stuck {e : Expr} : JE X φ e xStuck := ⟨⟨fun _ _ _ _ _ _ ⟨_, _, _, h⟩ => h.elim⟩⟩
end
/-- how many turns a while may have -/
@[irreducible] def fuelZ : Nat := 2000
theorem fuel_lt {n : Nat} (h : n < 2000) : n < fuelZ := by unfold fuelZ; exact h
end Z

namespace Z
open PySem PySem.Spec PyProof.Rows L2
/-! ### what the parts give, by values -/
section
variable {e e1 e2 e3 : VEnv} {d d2 d3 a b c z : D} {ds es : List D} {o o2 o3 : Opd} {k l : Bool}
theorem ev_nil : arNil e = .ok ([], e) := rfl
theorem ev_cons {f : Ev} {g : Ar} (h1 : f e = .ok (d, e1)) (h2 : g e1 = .ok (ds, e2)) : arCons f g e = .ok (d :: ds, e2) := by
  unfold arCons; rw [h1]; simp only [Res.bind_ok]; rw [h2]; rfl
theorem ev_tup {f : Ar} (h : f e = .ok (ds, e1)) (hz : ds.length ≤ sizeLine) : xTup f e = .ok (.tuple ds, e1) := by
  unfold xTup; rw [h]; exact if_pos hz
theorem ev_lst {f : Ar} (h : f e = .ok (ds, e1)) (hz : ds.length ≤ sizeLine) : xLst f e = .ok (.list ds, e1) := by
  unfold xLst; rw [h]; exact if_pos hz
theorem ev_flst {f : Ar} (h : f e = .ok (ds, e1)) (hz : ds.length ≤ sizeLine) : fLst f e = .ok (ds, e1) := by
  unfold fLst; rw [h]; exact if_pos hz
theorem ev_oE {f : Ev} (h : f e = .ok (d, e1)) : oE f e = .ok (.inl d, e1) := by
  unfold oE; rw [h]; rfl
theorem ev_bin {op : D → D → Option D} {f g : Oe} (h1 : f e = .ok (o, e1)) (h2 : g e1 = .ok (o2, e2)) (r1 : rd o e2 = some a) (r2 : rd o2 e2 = some b) (hz : op a b = some z) : xBin op f g e = .ok (z, e2) := by
  unfold xBin; rw [h1]; simp only [Res.bind_ok]; rw [h2]; simp only [Res.bind_ok]; rw [r1]; simp only [ofO, Res.bind_ok]; rw [r2]; simp only [Res.bind_ok]; rw [hz]; rfl
theorem ev_tbin {op : D → D → Option Bool} {f g : Oe} (h1 : f e = .ok (o, e1)) (h2 : g e1 = .ok (o2, e2)) (r1 : rd o e2 = some a) (r2 : rd o2 e2 = some b) (hz : op a b = some k) : tBin op f g e = .ok (k, e2) := by
  unfold tBin; rw [h1]; simp only [Res.bind_ok]; rw [h2]; simp only [Res.bind_ok]; rw [r1]; simp only [ofO, Res.bind_ok]; rw [r2]; simp only [Res.bind_ok]; rw [hz]; rfl
theorem ev_un {op : D → Option D} {f : Oe} (h1 : f e = .ok (o, e1)) (r1 : rd o e1 = some a) (hz : op a = some z) : xUn op f e = .ok (z, e1) := by
  unfold xUn; rw [h1]; simp only [Res.bind_ok]; rw [r1]; simp only [ofO, Res.bind_ok]; rw [hz]; rfl
theorem ev_call {F : List D → Res D} {f : Ar} (h1 : f e = .ok (ds, e1)) (hF : F ds = .ok z) : xCall F f e = .ok (z, e1) := by
  unfold xCall; rw [h1]; simp only [Res.bind_ok]; rw [hF]
theorem ev_callI {i : Nat} {F : List D → List D → Res (D × List D)} {f : Ar} {xs ys zs : List D} (h0 : ownAt e i = some xs) (h1 : f e = .ok (ds, e1)) (h2 : ownAt e1 i = some ys) (hF : F ys ds = .ok (z, zs)) : xCallI i F f e = .ok (z, e1.set i (.own zs)) := by
  unfold xCallI; rw [h0]; simp only [ofO, Res.bind_ok]; rw [h1]; simp only [Res.bind_ok]; rw [h2]; simp only [Res.bind_ok]; rw [hF]
theorem ev_test {t : Te} (h : t e = .ok (k, e1)) : xTest t e = .ok (.bool k, e1) := by
  unfold xTest; rw [h]; rfl
theorem ev_tv {f : Ev} (h : f e = .ok (.bool k, e1)) : tV f e = .ok (k, e1) := by
  unfold tV; rw [h]; rfl
theorem ev_chain {p q : D → D → Option Bool} {f g h : Oe} (h1 : f e = .ok (o, e1)) (h2 : g e1 = .ok (o2, e2)) (r1 : rd o e2 = some a) (r2 : rd o2 e2 = some b) (hp : p a b = some true) (h3 : h e2 = .ok (o3, e3)) (r3 : rd o2 e3 = some b) (r4 : rd o3 e3 = some c) (hq : q b c = some k) : tChain3 p q f g h e = .ok (k, e3) := by
  unfold tChain3
  rw [h1]; simp only [Res.bind_ok]; rw [h2]; simp only [Res.bind_ok, r1, r2, hp, ofO, if_true, h3, r3, r4, hq]
theorem ev_chain0 {p q : D → D → Option Bool} {f g h : Oe} (h1 : f e = .ok (o, e1)) (h2 : g e1 = .ok (o2, e2)) (r1 : rd o e2 = some a) (r2 : rd o2 e2 = some b) (hp : p a b = some false) : tChain3 p q f g h e = .ok (false, e2) := by
  unfold tChain3
  rw [h1]; simp only [Res.bind_ok]; rw [h2]; simp only [Res.bind_ok, r1, r2, hp, ofO, Bool.false_eq_true, if_false]
theorem ev_set {f : Ev} {i : Nat} (h : f e = .ok (d, e1)) (hi : i < e1.length) : sAsg f (svName i) e = .ok (.nx (e1.set i (.val d))) := by
  unfold sAsg; rw [h]; simp only [Res.bind_ok]; unfold svName; rw [if_pos hi]; rfl
theorem ev_seq {f g : Sm} (h : f e = .ok (.nx e1)) : sSeq f g e = g e1 := by
  unfold sSeq; rw [h]; rfl
theorem ev_seqR {f g : Sm} (h : f e = .ok (.rt d e1)) : sSeq f g e = .ok (.rt d e1) := by
  unfold sSeq; rw [h]; rfl
theorem ev_if1 {t : Te} {f g : Sm} (h : t e = .ok (true, e1)) : sIf t f g e = f e1 := by
  unfold sIf; rw [h]; rfl
theorem ev_if0 {t : Te} {f g : Sm} (h : t e = .ok (false, e1)) : sIf t f g e = g e1 := by
  unfold sIf; rw [h]; rfl
theorem ev_ret {f : Ev} (h : f e = .ok (d, e1)) : sRet f e = .ok (.rt d e1) := by
  unfold sRet; rw [h]; rfl
theorem ev_drop {f : Ev} (h : f e = .ok (d, e1)) : sDrop f e = .ok (.nx e1) := by
  unfold sDrop; rw [h]; rfl
theorem ev_not {t : Te} (h : t e = .ok (k, e1)) : tNotZ t e = .ok (!k, e1) := by
  unfold tNotZ; rw [h]; rfl
theorem ev_xnot {f : Ev} (h : f e = .ok (.bool k, e1)) : xNot f e = .ok (.bool (!k), e1) := by
  unfold xNot; rw [h]; rfl
theorem ev_and1 {t u : Te} {r : Res (Bool × VEnv)} (h : t e = .ok (true, e1)) (h2 : u e1 = r) : tAndZ t u e = r := by
  unfold tAndZ; rw [h]; exact h2
theorem ev_and0 {t u : Te} (h : t e = .ok (false, e1)) : tAndZ t u e = .ok (false, e1) := by
  unfold tAndZ; rw [h]; rfl
theorem ev_or1 {t u : Te} (h : t e = .ok (true, e1)) : tOrZ t u e = .ok (true, e1) := by
  unfold tOrZ; rw [h]; rfl
theorem ev_or0 {t u : Te} {r : Res (Bool × VEnv)} (h : t e = .ok (false, e1)) (h2 : u e1 = r) : tOrZ t u e = r := by
  unfold tOrZ; rw [h]; exact h2
theorem ev_xand1 {f g : Ev} {r : Res (D × VEnv)} (h : f e = .ok (.bool true, e1)) (h2 : g e1 = r) : xAnd f g e = r := by
  unfold xAnd; rw [h]; exact h2
theorem ev_xand0 {f g : Ev} (h : f e = .ok (.bool false, e1)) : xAnd f g e = .ok (.bool false, e1) := by
  unfold xAnd; rw [h]; rfl
theorem ev_xif1 {t : Te} {f g : Ev} {r : Res (D × VEnv)} (h : t e = .ok (true, e1)) (h2 : f e1 = r) : xIf t f g e = r := by
  unfold xIf; rw [h]; exact h2
theorem ev_xif0 {t : Te} {f g : Ev} {r : Res (D × VEnv)} (h : t e = .ok (false, e1)) (h2 : g e1 = r) : xIf t f g e = r := by
  unfold xIf; rw [h]; exact h2
/-! comprehensions -/
theorem comp_map {own : List Nat} {sv : Sv} {el : Ev} {f : D → D} : ∀ {ds : List D} {e : VEnv}, (∀ d ∈ ds, ∃ e1 e2, sv d e = some e1 ∧ el e1 = .ok (f d, e2) ∧ wipeE e2 own = e) → compGo own sv teYes el ds e = .ok (ds.map f, e)
  | [], e, _ => rfl
  | d :: ds, e, h => by
    obtain ⟨e1, e2, h1, h2, h3⟩ := h d List.mem_cons_self
    show (ofO (sv d e) >>= fun e1 => nx (teYes e1) >>= fun b => if b.1 = true then nx (el b.2) >>= fun y => compGo own sv teYes el ds (wipeE y.2 own) >>= fun z => .ok (y.1 :: z.1, z.2) else compGo own sv teYes el ds (wipeE b.2 own)) = _
    rw [h1]
    show (nx (el e1) >>= fun y => compGo own sv teYes el ds (wipeE y.2 own) >>= fun z => .ok (y.1 :: z.1, z.2)) = _
    rw [h2]
    show (compGo own sv teYes el ds (wipeE e2 own) >>= fun z => .ok (f d :: z.1, z.2)) = _
    rw [h3, comp_map fun d m => h d (List.mem_cons_of_mem _ m)]
    rfl
theorem ev_comp {src : Sr} {own : List Nat} {sv : Sv} {el : Ev} {f : D → D} (h1 : src e = .ok (ds, e1)) (hz : ds.length ≤ sizeLine) (hw : wipeE (wipeE e1 own) own = wipeE e1 own) (h : ∀ d ∈ ds, ∃ e2 e3, sv d (wipeE e1 own) = some e2 ∧ el e2 = .ok (f d, e3) ∧ wipeE e3 own = wipeE e1 own) :
    fCompL src own sv teYes el e = .ok (ds.map f, wipeE e1 own) := by
  unfold fCompL
  rw [h1]
  show (if ds.length ≤ sizeLine then (compGo own sv teYes el ds (wipeE e1 own) >>= fun z => .ok (z.1, wipeE z.2 own)) else .stuck) = _
  rw [if_pos hz, comp_map h]
  show Res.ok (ds.map f, wipeE (wipeE e1 own) own) = _
  rw [hw]
theorem ev_fr {f : Ef} (h : f e = .ok (ds, e1)) : (f e >>= fun p => (.ok (.list p.1, p.2) : Res (D × VEnv))) = .ok (.list ds, e1) := by rw [h]; rfl
end
end Z

namespace Z
open PySem PySem.Spec PyProof.Rows L2

/-! ### the script, the first list -/
def spHand (K : PySem.W.Frag) (F : List Int → List D) : Sp := fun vs H Q _ => ∃ (a : Addr) (ns : List Int), vs = [.ref a] ∧ SqL K H a (ns.map V.int) ∧ ns.length ≤ 63 ∧ ∀ b ws H', Same H H' → H b = none → H' b = some (.lst ws) → RDs H' [b] ws (F ns) → Q (.ref b) H'
theorem SqL.same {K : PySem.W.Frag} {H H' : Hp} {a : Addr} {xs : List V} (s : Same H H') (h : SqL K H a xs) : SqL K H' a xs := by
  rcases h with (h | ⟨o, h⟩) | h
  · exact .inl (.inl (s _ _ h))
  · exact .inl (.inr ⟨o, s _ _ h⟩)
  · exact .inr h
theorem cut63 {xs : List V} (h : xs.length ≤ 63) : cutV xs none (some 63) = xs := by
  unfold cutV
  have h1 : HT.sIx xs.length 0 none = 0 := rfl
  have h2 : HT.sIx xs.length xs.length (some 63) = xs.length := by
    unfold HT.sIx
    simp
    omega
  rw [h1, h2]
  simp
theorem yl_fresh {K : PySem.W.Frag} {H : Hp} {p : Addr} {ns : List Int} (n : H p = none) : Yl (Itl K p) (upd H p (.lst (ns.map V.int))) [] (ns.map PyData.int) := yl_list upd_same (by simp) RDs.ints
section
variable {X : Cx} {φ : Fm} {k : Nat} {fr : Ef} {el : Ev}
/-- what the two statements do -/
theorem hand_read {te : TE} {tj : TE} {H : Hp} {a : Addr} {ns : List Int} {cells out : List D} {e2 e3 : VEnv} {Q : VK}
    (hbs : φ.bs = []) (hio : φ.io = none) (hte : ∀ D σ H Q, tR X (φ.in_ D) rD el σ H Q → te σ H Q) (htj : ∀ σ H Q, (∃ env os, ERel φ env σ H os ∧ OutF X φ os σ H (fr env) Q) → tj σ H Q)
    (hS : SqL X.K H a (ns.map V.int)) (hl : ns.length ≤ 63)
    (hc : compGo [2] (svName 2) teYes el (ns.map PyData.int) [.no, .no, .no] = .ok (cells, e2)) (hw : wipeE e2 [2] = [.no, .no, .no]) (hr : fr [.no, .own cells, .no] = .ok (out, e3))
    (hq : ∀ b ws H', Same H H' → H b = none → H' b = some (.lst ws) → RDs H' [b] ws out → Q (.ref b) H') :
    tSeq (tAsg (tLc (iList X.K (tSl (rSlL X.K) (tVar 0) (fun σ H Q => Q none H) (tPart (tC (.int 63))))) (gName 2) (fun σ H Q => ∃ D, tR X (φ.in_ D) rB teYes σ H Q) te [2]) (gName 1)) (tRet tj) { nx := fun _ H' => Q .non H', rt := Q } [some (.ref a), none, none] H := by
  refine ⟨.ref a, rfl, 63, rfl, a, ns.map V.int, rfl, hS, fun p hp => ⟨p, rfl, ⟨_, SqL.of upd_same⟩, ?_⟩⟩
  rw [cut63 (by simpa using hl)]
  intro D hD
  have pD : D ≠ p := fun z => by rw [z, upd_same] at hD; cases hD
  have hDH : H D = none := by rw [upd_ne pD] at hD; exact hD
  have er : ERel φ [.no, .no, .no] [some (.ref a), none, none] (upd H p (.lst (ns.map V.int))) [] := by
    refine ⟨rfl, fun i d q => ?_, fun i ds q => ?_, fun i j a ds es q => ?_, fun b m => ?_, fun b m => absurd m (by simp), fun b q => absurd (hio.symm.trans q) (by simp), fun i b q => ?_⟩
    · match i, q with
      | 0, q => cases q
      | 1, q => cases q
      | 2, q => cases q
      | n + 3, q => simp at q
    · match i, q with
      | 0, q => cases q
      | 1, q => cases q
      | 2, q => cases q
      | n + 3, q => simp at q
    · match i, q with
      | 0, q => cases q
      | 1, q => cases q
      | 2, q => cases q
      | n + 3, q => simp at q
    · rw [hbs] at m; cases m
    · match i, q with
      | 0, q => cases q
      | 1, q => cases q
      | 2, q => cases q
      | n + 3, q => simp at q
  refine comp_loop (X := X) (φ := φ) (Q := fun x H1 => gName 1 x [some (.ref a), none, none] H1 (tRet tj { nx := fun _ H' => Q .non H', rt := Q })) (is := [2]) (tt := fun σ H Q => ∃ D, tR X (φ.in_ D) rB teYes σ H Q) (te := te) (.inr hio) (fun j h => h) (fun D => gs_name (.inl (by decide))) (fun D σ H Q q => ⟨D, q⟩) hte er (by rw [hbs]; exact yl_fresh (K := X.K) hp) (by rw [List.length_map]; exact Nat.le_trans hl (by decide)) D hD ?_
  have hw0 : wipeE [.no, .no, .no] [2] = ([.no, .no, .no] : VEnv) := rfl
  rw [hw0, hc]
  intro H2 os2 vs x2 s2 e2' hd rv
  rw [hw] at e2'
  refine htj _ H2 Q ⟨[.no, .own cells, .no], D :: os2, erel_setOwn (i := 1) e2' (.inl (by decide)) (by decide) hd rv (by rw [hbs]; simp), ?_⟩
  rw [hr]
  intro b ws H3 os3 x3 s3 n3 nb3 e3' h3 r3
  have same2 : Same H H2 := fun c o h => x2 c o (same_upd hp c o h) (by simp)
  have noneOs2 : ∀ c, c ∈ os2 → H c = none := fun c m => by
    rcases s2 c m with z | z
    · cases z
    · cases w : H c with
      | none => rfl
      | some o => rw [same_upd hp c o w] at z; cases z
  have same3 : Same H H3 := fun c o h => x3 c o (same2 c o h) fun m => by
    rcases List.mem_cons.mp m with rfl | m
    · rw [hDH] at h; cases h
    · rw [noneOs2 c m] at h; cases h
  refine hq b ws H3 same3 ?_ h3 (r3.mono (fun _ _ e _ => e) fun c m => .inl (by rw [List.mem_singleton.mp m]; exact List.mem_append_left _ List.mem_cons_self))
  rcases n3 with m | m
  · rcases List.mem_cons.mp m with rfl | m
    · exact hDH
    · exact noneOs2 b m
  · cases w : H b with
    | none => rfl
    | some o => rw [same2 b o w] at m; cases m
end
theorem hand_ps {X : Cx} {φ : Fm} {y x : Str} {py lp rp pos spos : Pos} {elt tg iter : Expr} {es : List Expr} {scope : Scope} {wi : TI} {el : Ev} {fr : Ef} (hφ : φ = ⟨fun _ _ _ _ => False, [], none⟩) (hc : X.calm = true) (hN : X.N.Nodup) (hi : PI X tg iter wi) (hy : X.N[1]? = some y) (hyl : X.env.scope.names.lookup y = some .local)
    (hsw : swapsWith (.ListComp elt [⟨tg, iter, [], 0⟩] scope pos) (some (.Name y py)) spos.line X.env = pure true) (ok : BlkOk X.N X.env.scope scope [(x, 2)]) (hg : ∀ (s : Shared) (H : Hp) (C : Addr) (cl : List (Str × Addr)) (fp : List Addr), PG (X.blk s H scope (compEnvC scope cl C X.env) fp) tg (gName 2))
    (he : ∀ (s : Shared) (H : Hp) (C : Addr) (cl : List (Str × Addr)) (fp : List Addr) (bs : List Addr), JE (X.blk s H scope (compEnvC scope cl C X.env) fp) ⟨fun _ _ _ _ => False, bs, none⟩ elt el) (hr : JF X φ (.List es lp) fr) (hs : ∀ x, foldedSetIterable iter X.env x = pure x := by intro _; rfl) :
    PSs X [.Assign [.Name y py] (.ListComp elt [⟨tg, iter, [], 0⟩] scope pos) spos, .Return (some (.List es lp)) rp] (tSeq (tAsg (tLc wi (gName 2) (fun σ H Q => ∃ D, tR X (φ.in_ D) rB teYes σ H Q) (fun σ H Q => ∃ D, tR X (φ.in_ D) rD el σ H Q) [2]) (gName 1)) (tRet (fun σ H Q => ∃ env os, ERel φ env σ H os ∧ OutF X φ os σ H (fr env) Q))) := by
  subst hφ
  refine pss_cons (ps_setLc (own := [(x, 2)]) hc hN hy hyl hsw hi ok hg (fun s H C cl fp => ?_) (fun s H C cl fp => ?_) hs) (pss_one (ps_ret hr.j))
  · exact ⟨fun pins s' σ H' Q I ⟨D, q⟩ => (ts_nil (φ := ⟨fun _ _ _ _ => False, [D], none⟩)).j.run pins s' σ H' Q I q⟩
  · exact ⟨fun pins s' σ H' Q I ⟨D, q⟩ => (he s H C cl fp [D]).j.run pins s' σ H' Q I q⟩
theorem compGo_ints {el : Ev} {f : Int → Int} (h : ∀ i, el [.no, .no, .val (.int i)] = .ok (.int (f i), [.no, .no, .val (.int i)])) : ∀ ns : List Int, compGo [2] (svName 2) teYes el (ns.map PyData.int) [.no, .no, .no] = .ok ((ns.map f).map PyData.int, [.no, .no, .no])
  | [] => rfl
  | i :: ns => by
    show (ofO (svName 2 (PyData.int i) [.no, .no, .no]) >>= fun e1 => nx (teYes e1) >>= fun b => if b.1 = true then nx (el b.2) >>= fun y => compGo [2] (svName 2) teYes el (ns.map PyData.int) (wipeE y.2 [2]) >>= fun z => .ok (y.1 :: z.1, z.2) else compGo [2] (svName 2) teYes el (ns.map PyData.int) (wipeE b.2 [2])) = _
    have e1 : svName 2 (PyData.int i) [.no, .no, .no] = some [.no, .no, .val (.int i)] := rfl
    rw [e1]
    show (nx (el [.no, .no, .val (.int i)]) >>= fun y => compGo [2] (svName 2) teYes el (ns.map PyData.int) (wipeE y.2 [2]) >>= fun z => .ok (y.1 :: z.1, z.2)) = _
    rw [h i]
    show (compGo [2] (svName 2) teYes el (ns.map PyData.int) [.no, .no, .no] >>= fun z => .ok (PyData.int (f i) :: z.1, z.2)) = _
    rw [compGo_ints h ns]
    rfl
def absZ (i : Int) : Int := if i < 0 then -i else i
def handD (c m : Int) (ns : List Int) : List D := [.list ((ns.map absZ).map PyData.int), .int 0, .int 0, .int (c + m * (ns.length : Int)), .int 0]
theorem hand_out {c m : Int} (hm : small m = true) (ns : List Int) : (fLst (arCons (xFrz 1) (arCons (xC (.int 0)) (arCons (xC (.int 0)) (arCons (xBin addD (oE (xC (.int c))) (oE (xBin mulD (oE (xC (.int m))) (oE (xUn lenD (oV 1)))))) (arCons (xC (.int 0)) arNil)))))) [.no, .own ((ns.map absZ).map PyData.int), .no] = .ok (handD c m ns, [.no, .val (.list ((ns.map absZ).map PyData.int)), .no]) := by
  have h1 : mulD (.int m) (.int (((ns.map absZ).map PyData.int).length : Int)) = some (.int (m * (ns.length : Int))) := by
    unfold mulD
    simp only [hm, Bool.true_or, List.length_map]
    rfl
  have h2 : xBin mulD (oE (xC (.int m))) (oE (xUn lenD (oV 1))) [.no, .val (.list ((ns.map absZ).map PyData.int)), .no] = .ok (.int (m * (ns.length : Int)), [.no, .val (.list ((ns.map absZ).map PyData.int)), .no]) := by
    show (ofO (mulD (.int m) (.int (((ns.map absZ).map PyData.int).length : Int))) >>= fun z => .ok (z, _)) = _
    rw [h1]
    rfl
  have h3 : xBin addD (oE (xC (.int c))) (oE (xBin mulD (oE (xC (.int m))) (oE (xUn lenD (oV 1))))) [.no, .val (.list ((ns.map absZ).map PyData.int)), .no] = .ok (.int (c + m * (ns.length : Int)), [.no, .val (.list ((ns.map absZ).map PyData.int)), .no]) := by
    show ((xBin mulD (oE (xC (.int m))) (oE (xUn lenD (oV 1))) [.no, .val (.list ((ns.map absZ).map PyData.int)), .no] >>= fun p => .ok (Sum.inl p.1, p.2)) >>= fun q => ofO (rd q.1 q.2) >>= fun b => ofO (addD (.int c) b) >>= fun z => .ok (z, q.2)) = _
    rw [h2]
    rfl
  exact ev_flst (ev_cons rfl (ev_cons rfl (ev_cons rfl (ev_cons h3 (ev_cons rfl ev_nil))))) (show 5 ≤ sizeLine by decide)
/-! ### the law's def -/
def spLaw (K : PySem.W.Frag) : Sp := fun vs H Q _ => ∃ (a : Addr) (ns : List Int), vs = [.ref a] ∧ SqL K H a (ns.map V.int) ∧ ns.length ≤ 63 ∧ ∀ H', Q (.bl true) H'
section
variable {X : Cx} {φ : Fm} {k : Nat} {g : Sm}
def lawEnv (n : Nat) (hand : List D) : VEnv := .no :: .own hand :: List.replicate n .no
theorem law_read {P : XK} {m : Nat} {H : Hp} {a : Addr} {ns : List Int} {F : List Int → List D} {Q : VK} {e' : VEnv} {N : List Str} (hbs : φ.bs = []) (hio : φ.io = none) (hN : N.length = m + 2) (hS : SqL X.K H a (ns.map V.int)) (hl : ns.length ≤ 63)
    (hg : g (lawEnv m (F ns)) = .ok (.rt (.bool true) e')) (hq : ∀ H', Q (.bl true) H') {tcall : TE} (hcall : ∀ σ H Q, (σ[0]? = some (some (.ref a)) ∧ spHand X.K F [.ref a] H Q P) → tcall σ H Q) :
    tSeq (tAsg tcall (gName 1)) (tS X φ g) { nx := fun _ H' => Q .non H', rt := Q } (L2.start N [.ref a]) H := by
  have st : L2.start N [V.ref a] = some (.ref a) :: none :: List.replicate m none := by
    unfold L2.start
    have : N.length - [V.ref a].length = m + 1 := by rw [hN]; rfl
    rw [this]; rfl
  rw [st]
  refine hcall _ _ _ ⟨rfl, a, ns, rfl, hS, hl, fun b ws H' sm nb hb rv => ?_⟩
  refine ⟨lawEnv m (F ns), [b], ?_, ?_⟩
  · have only : ∀ (i : Nat) (es : List D), (lawEnv m (F ns))[i]? = some (.own es) → i = 1 ∧ es = F ns := fun i es q => by
      unfold lawEnv at q
      match i, q with
      | 0, q => cases q
      | 1, q => cases q; exact ⟨rfl, rfl⟩
      | j + 2, q =>
        rw [List.getElem?_cons_succ, List.getElem?_cons_succ, List.getElem?_replicate] at q
        split at q <;> cases q
    refine ⟨?_, fun i d q => ?_, fun i es q => ?_, fun i j b es fs q1 q2 _ _ => (only i es q1).1.trans (only j fs q2).1.symm, fun c m => ?_, fun c m => ?_, (fun c q => by rw [hio] at q; cases q), fun i b q => ?_⟩
    · unfold lawEnv; simp
    · exfalso
      unfold lawEnv at q
      match i, q with
      | 0, q => cases q
      | 1, q => cases q
      | j + 2, q =>
        rw [List.getElem?_cons_succ, List.getElem?_cons_succ, List.getElem?_replicate] at q
        split at q <;> cases q
    · obtain ⟨rfl, rfl⟩ := only i es q
      refine ⟨b, ws, rfl, List.mem_singleton.mpr rfl, hb, ?_⟩
      rw [hbs]; exact rv
    · rw [hbs] at m
      rw [List.mem_singleton.mp m]
      exact ⟨_, hb⟩
    · rw [hbs]; simp
    · exfalso
      unfold lawEnv at q
      match i, q with
      | 0, q => cases q
      | 1, q => cases q
      | j + 2, q =>
        rw [List.getElem?_cons_succ, List.getElem?_cons_succ, List.getElem?_replicate] at q
        split at q <;> cases q
  · rw [hg]
    intro v σ' H2 os' _ _ _ r
    cases r
    exact hq H2
end
/-! ### the law's promise at its call -/
theorem law_end {P : Program} {w : World} {K : PySem.W.Frag} {mg mb : Str → Option Value} {k : Nat} {fa a : Addr} {s₁ : Shared} {vs : List Value} {ns : List Int}
    (KX : K.In s₁.heap) (hns : s₁.heap.Ns mainGlobals mg) (hb : s₁.heap.Ns builtinsNs mb) (hbb : ∀ x : Str, x ≠ "__name__" → mb x = bootBuiltins x) (hlim : s₁.heap.NoLimit) (hg : s₁.gens = #[])
    (ha : s₁.heap.get? a = some { cls := .type "list", data := .seq vs.toArray }) (hi : IntsAre vs ns) (hl : ns.length ≤ 63) (hr : Room k callerA)
    (F : ∀ base : Heap, K.In base → base.Ns mainGlobals mg → FnG P w K mg base k fa 1 (spLaw K)) :
    codeAny (model P w) callerA (.call (.ref fa) ⟨[.ref a], []⟩) (fun r s' => r = .ok (.ret (.bool true)) ∧ OldK s₁.heap s'.heap ∧ s'.os = s₁.os ∧ AllBare s'.gens) s₁ := by
  have rv := vals_ints hi
  have lenV := hi.length
  have hl2 : ns.length ≤ sizeLine := Nat.le_trans hl (by decide)
  suffices core : ∃ H : Hp, Only H ∧ SqL K H a (ns.map V.int) ∧ HOk P w H s₁.heap ∧ (∀ b, H b ≠ none → b = a ∧ K.lookup a = none) by
    obtain ⟨H, hO, hS, hok, hA⟩ := core
    have plain : ∀ {b : Addr} {o : Obj} {es : Array DictEntry} {ep : Nat}, s₁.heap.get? b = some o → o.data = .dict es ep → H b = none := fun {b o es ep} e d => by
      cases q : H b with
      | none => rfl
      | some u =>
        obtain ⟨rfl, _⟩ := hA b (by rw [q]; exact fun z => nomatch z)
        rw [ha] at e
        cases e
        have d' : Data.seq vs.toArray _ = Data.dict es ep := d
        cases d'
    have nsT : ∀ {b : Addr} {m : Str → Option Value}, s₁.heap.Ns b m → (hidT s₁.heap H).Ns b m := fun {b m} ⟨o, es, ep, e, d, r⟩ => ⟨o, es, ep, hidT_get e (plain e d), d, r⟩
    have KT : K.In (hidT s₁.heap H) := fun b o e => hidT_get (KX b o e) (by
      cases q : H b with
      | none => rfl
      | some u =>
        obtain ⟨rfl, z⟩ := hA b (by rw [q]; exact fun z => nomatch z)
        rw [z] at e; cases e)
    have E0 : Env0 P w K mg (hidT s₁.heap H) callerA [] s₁ H :=
      ⟨rfl, ⟨KT, nsT hns, ⟨mb, nsT hb, hbb⟩, let ⟨mc, h1, h2⟩ := hlim; ⟨mc, nsT h1, h2⟩⟩, fun b o e => of_hidT e, Nat.le_of_eq (hidT_size _ _), trivial, fun b hb => absurd (show b ∈ ([] : List Addr) from hb) (by simp), hok, .of_eq hg⟩
    refine codeAny_mono ((F _ KT (nsT hns)).go callerA [] s₁ H [.ref a] [.ref a] (fun v _ => v = .bl true) (fun _ _ _ => False) hr rfl E0 (.cons rfl .nil) ⟨a, ns, rfl, hS, hl, fun _ => rfl⟩) fun r s' h => ?_
    cases r with
    | error e =>
      obtain ⟨_, _, _, _, _, _, _, _, _, _, _, _, z⟩ := h
      exact z.elim
    | ok fl =>
      cases fl with
      | next => exact False.elim h
      | brk => exact False.elim h
      | cont => exact False.elim h
      | ret u =>
        obtain ⟨v, H', os, bare, un, hok', r', q⟩ := h
        have q' : v = .bl true := q
        subst q'
        have r' : u = Value.bool true := r'
        subst r'
        refine ⟨rfl, OldK.of_keep fun b o e => ?_, os, bare⟩
        cases q : H b with
        | none => exact un.keep b o e q (fun z => absurd (show b ∈ ([] : List Addr) from z) (by simp)) (by simp)
        | some u =>
          rcases hO b with z | ⟨ob, xs, z⟩
          · rw [q] at z; cases z
          · obtain ⟨e1, _⟩ := hok b _ z
            obtain ⟨e2, _⟩ := hok' b _ (un.frzs b ob _ z)
            rw [e] at e1; cases e1
            exact e2
  cases hk : K.lookup a with
  | some o =>
    have e := KX a o hk
    rw [ha] at e
    cases e
    exact ⟨fun _ => none, fun _ => .inl rfl, .inr ⟨_, vs.toArray, _, hk, rfl, rfl, rfl, by rw [List.size_toArray, lenV]; exact hl2, by simpa using rv⟩, fun b u z => (nomatch (show (none : Option HO) = some u from z)), fun b z => absurd rfl z⟩
  | none =>
    refine ⟨fun b => if b = a then some (.frz { cls := .type "list", data := .seq vs.toArray } (.lst (ns.map V.int))) else none, fun b => ?_, .inl (.inr ⟨{ cls := .type "list", data := .seq vs.toArray }, if_pos rfl⟩), fun b u z => ?_, fun b z => ?_⟩
    · by_cases hb : b = a
      · exact .inr ⟨_, _, if_pos hb⟩
      · exact .inl (if_neg hb)
    · by_cases hb : b = a
      · have z' := (if_pos hb).symm.trans z
        cases z'
        subst hb
        exact ⟨ha, by rw [List.length_map]; exact hl2, vs, _, rv, ha⟩
      · have z' := (if_neg hb).symm.trans z
        cases z'
    · by_cases hb : b = a
      · exact ⟨hb, rfl⟩
      · exact absurd (if_neg hb) z
/-- what the head leaves to be shown -/
theorem walkG {l : PySem.W.OpenLaw} {k : Nat} {q : Program} {loose : List Str} {XP : (Str → Option Value) → Heap → Prop} {YP : World → Heap → Prop} {d : DefRec}
    (hn : l.most = some 63) (hdf : d.params.defaults = []) (hr : Room k callerA)
    (F : ∀ (w : World) (mg : Str → Option Value) (fa : Addr) (h : Heap), YP w h → h.Ns mainGlobals mg → mg d.name = some (.ref fa) → ∃ K : PySem.W.Frag, K.In h ∧ ∀ base : Heap, K.In base → base.Ns mainGlobals mg → FnG l.prog w K mg base k fa 1 (spLaw K)) :
    PySem.W.WalkO q loose XP YP l.row.toRowW d [] (fun f vs => PySem.call f vs) :=
  Att.attach_call hn hdf fun w s₀ s₁ mg mb fa o pm cd doc a vs ns G Y ho hd hcd hmg hobj hints hlen hg =>
    let ⟨K, KX, hF⟩ := F w mg fa _ Y G.T.g hmg
    law_end KX G.T.g G.T.b G.T.builtins G.T.nolimit hg hobj hints hlen hr hF
end Z

namespace Z
open PySem PySem.Spec PyProof.Rows L2 PySem.Calls

/-! ### sorted(dict(pairs)), keys tuples of ints -/
def tD (k : List Int) : D := .tuple (k.map PyData.int)
def keysOf : List D → Option (List (List Int))
  | [] => some []
  | d :: r => match d with
    | .tuple [.tuple k, _] => (intsOf k).bind fun ks => (keysOf r).map (ks :: ·)
    | _ => none
/-- the first of each key -/
def firstsA {α : Type} (acc : List (List Int × α)) : List (List Int × α) → List (List Int × α)
  | [] => acc
  | x :: r => firstsA (if acc.any (fun y => decide (y.1 = x.1)) then acc else acc ++ [x]) r
def sdD : D → Option D
  | .list ps => match keysOf ps with
    | some ks => if ks.all (fun k => !k.isEmpty) && decide (ps.length ≤ 100000) then some (.list (((firstsA [] (ks.map fun k => (k, ()))).map fun x => tD x.1).mergeSort (PySem.W.dataLe false id))) else none
    | none => none
  | _ => none
theorem firstsA_map {α β : Type} (f : α → β) : ∀ (l acc : List (List Int × α)), (firstsA acc l).map (fun x => (x.1, f x.2)) = firstsA (acc.map fun x => (x.1, f x.2)) (l.map fun x => (x.1, f x.2))
  | [], acc => rfl
  | x :: r, acc => by
    show (firstsA (if acc.any (fun y => decide (y.1 = x.1)) then acc else acc ++ [x]) r).map _ = firstsA (if (acc.map fun x => (x.1, f x.2)).any (fun y => decide (y.1 = x.1)) then _ else _) _
    rw [firstsA_map f r, List.any_map]
    show _ = firstsA (if acc.any (fun y => decide (y.1 = x.1)) then _ else _) _
    by_cases h : acc.any (fun y => decide (y.1 = x.1)) = true
    · rw [if_pos h, if_pos h]
    · rw [if_neg h, if_neg h, List.map_append]; rfl
theorem firstsA_mem {α : Type} : ∀ (l acc : List (List Int × α)) (x : List Int × α), x ∈ firstsA acc l → x ∈ acc ∨ x ∈ l
  | [], acc, x, h => .inl h
  | y :: r, acc, x, h => by
    rcases firstsA_mem r _ x h with q | q
    · split at q
      · exact .inl q
      · rcases List.mem_append.mp q with q | q
        · exact .inl q
        · exact .inr (by rw [List.mem_singleton.mp q]; exact List.mem_cons_self)
    · exact .inr (List.mem_cons_of_mem _ q)
theorem firstsA_len {α : Type} : ∀ (l acc : List (List Int × α)), (firstsA acc l).length ≤ acc.length + l.length
  | [], acc => Nat.le_refl _
  | y :: r, acc => by
    refine Nat.le_trans (firstsA_len r _) ?_
    split <;> simp <;> omega
theorem find_any {α : Type} (p : α → Bool) : ∀ l : List α, (l.find? p).isSome = l.any p
  | [] => rfl
  | x :: l => by
    rw [List.find?_cons, List.any_cons]
    cases h : p x with
    | true => rfl
    | false => simpa using find_any p l
theorem stored_firsts : ∀ (ps acc : List (List Int × Addr × Value)), (PySem.storedAllH acc ps).map (fun x => (x.1, x.2.1)) = firstsA (acc.map fun x => (x.1, x.2.1)) (ps.map fun x => (x.1, x.2.1))
  | [], acc => rfl
  | p :: ps, acc => by
    show (PySem.storedAllH (PySem.storedH acc p.1 p.2.1 p.2.2) ps).map _ = firstsA (if (acc.map fun x => (x.1, x.2.1)).any (fun y => decide (y.1 = p.1)) then _ else _) _
    rw [stored_firsts ps]
    congr 1
    have hany : (acc.map fun x => (x.1, x.2.1)).any (fun y => decide (y.1 = p.1)) = (PySem.atKey acc p.1).isSome := by
      rw [List.any_map]
      unfold PySem.atKey
      rw [Option.isSome_map, find_any]
      rfl
    rw [hany]
    unfold PySem.storedH
    by_cases h : (PySem.atKey acc p.1).isSome = true
    · rw [if_pos h, if_pos h, List.map_map]
      refine List.map_congr_left fun x _ => ?_
      show ((PySem.putAt p.1 p.2.2 x).1, (PySem.putAt p.1 p.2.2 x).2.1) = _
      unfold PySem.putAt
      split <;> rfl
    · rw [if_neg h, if_neg h, List.map_append]; rfl

/-- at d: a dict of these entries -/
def dictO (d : Addr) (es : Array DictEntry) (ep : Nat) : HO := .ext fun h => h.DictRaw d es ep ∧ (d == sysModules) = false
theorem dictO_ok {P : Program} {w : World} {H : Hp} {h : Heap} {d : Addr} {es : Array DictEntry} {ep : Nat} (e : h.DictRaw d es ep) (n : (d == sysModules) = false) : ObjOk P w H h d (dictO d es ep) := by
  refine ⟨⟨e, n⟩, ?_, fun h1 h2 k1 k2 => ⟨k1.1.at k2, k1.2⟩⟩
  obtain ⟨o, ho, _⟩ := e
  exact ⟨o, ho⟩
theorem dictO_at {P : Program} {w : World} {H : Hp} {h : Heap} {d : Addr} {es : Array DictEntry} {ep : Nat} (hok : HOk P w H h) (e : H d = some (dictO d es ep)) : h.DictRaw d es ep ∧ (d == sysModules) = false := (show ObjOk P w H h d (dictO d es ep) from hok d _ e).1
section
variable {X : Cx}
/-- a pair as it stands: where, the key, where the key stands, the value -/
abbrev PairV := Addr × List Int × Addr × V
def rDictKeys (K : PySem.W.Frag) : rCl := fun vs H Q => ∃ (l : Addr) (its : List PairV), vs = [.ref l] ∧ H l = some (.lst (its.map fun t => V.ref t.1)) ∧ (∀ t ∈ its, H t.1 = some (.tup [.ref t.2.2.1, t.2.2.2]) ∧ H t.2.2.1 = some (.tup (t.2.1.map V.int))) ∧ its.length ≤ 100000 ∧
  ∀ d es ep, H d = none → es.toList.map (·.key) = (firstsA [] (its.map fun t => (t.2.1, t.2.2.1))).map (fun x => Value.ref x.2) → Q (.ref d) (upd H d (dictO d es ep))
theorem items_pairs {P : Program} {w : World} {H : Hp} {h : Heap} (hok : HOk P w H h) : ∀ {its : List PairV} {us : List Value}, Vals (its.map fun t => V.ref t.1) us → (∀ t ∈ its, H t.1 = some (.tup [.ref t.2.2.1, t.2.2.2]) ∧ H t.2.2.1 = some (.tup (t.2.1.map V.int))) →
    ∃ ps : List (List Int × Addr × Value), ps.map (fun x => (x.1, x.2.1)) = its.map (fun t => (t.2.1, t.2.2.1)) ∧ ps.length = its.length ∧ ∀ j (k v : Value), (ps.map fun x => (Value.ref x.2.1, x.2.2))[j]? = some (k, v) → us[j]? = some (.ref ((its.map (·.1)).getD j 0)) ∧ PySem.PairAt h ((its.map (·.1)).getD j 0) k v
  | [], _, _, _ => ⟨[], rfl, rfl, fun j k v e => by simp at e⟩
  | t :: its, u0 :: us, .cons r rr, hh => by
    obtain ⟨ps, e1, e2, e3⟩ := items_pairs hok rr fun t m => hh t (List.mem_cons_of_mem _ m)
    obtain ⟨h1, h2⟩ := hh t List.mem_cons_self
    obtain ⟨_, vs, rv, p1⟩ := (show ObjOk P w H h t.1 (.tup [.ref t.2.2.1, t.2.2.2]) from hok _ _ h1)
    cases r
    obtain ⟨u1, u2, rfl, r1, r2⟩ : ∃ u1 u2, vs = [u1, u2] ∧ RelV (.ref t.2.2.1) u1 ∧ RelV t.2.2.2 u2 := by
      cases rv with
      | cons a b => cases b with
        | cons a' b' => cases b'; exact ⟨_, _, rfl, a, a'⟩
    cases r1
    refine ⟨(t.2.1, t.2.2.1, u2) :: ps, by rw [List.map_cons, List.map_cons, e1], by rw [List.length_cons, List.length_cons, e2], fun j k v e => ?_⟩
    cases j with
    | zero =>
      simp at e
      obtain ⟨rfl, rfl⟩ := e
      have p2 : IsTup h t.1 #[Value.ref t.2.2.1, u2] := by simpa using p1
      exact ⟨rfl, .inl p2⟩
    | succ j =>
      have := e3 j k v (by simpa using e)
      simpa using this
theorem call_dictKeys (hc : X.calm = true) (hu : X.A.units + 64 < cLine) : CallR X (.type "dict") (rDictKeys X.K) := by
  intro pins s σ H vs us Q I r h
  obtain ⟨l, its, rfl, hl, hp, hz, q⟩ := h
  rw [Vals.ref1 r]
  obtain ⟨hz2, li, n, rv, hob⟩ := (show ObjOk X.prog X.w H s.heap l (.lst (its.map fun t => V.ref t.1)) from I.hok l _ hl)
  obtain ⟨ps, e1, e2, e3⟩ := items_pairs I.hok rv hp
  have lit : li.length = its.length := by have := rv.length; rw [List.length_map] at this; exact this.symm
  have P := PySem.PairArg.list (prog := X.prog) (w := X.w) l li.toArray (fun j => (its.map (·.1)).getD j 0) (ps.map fun x => (Value.ref x.2.1, x.2.2))
  have keys : ∀ x ∈ ps, H x.2.1 = some (.tup (x.1.map V.int)) := fun x m => by
    have : (x.1, x.2.1) ∈ its.map (fun t => (t.2.1, t.2.2.1)) := by rw [← e1]; exact List.mem_map.mpr ⟨x, m, rfl⟩
    obtain ⟨t, mt, et⟩ := List.mem_map.mp this
    have h2 := (hp t mt).2
    have a1 : t.2.1 = x.1 := congrArg (·.1) et
    have a2 : t.2.2.1 = x.2.1 := congrArg (·.2) et
    rw [a1, a2] at h2
    exact h2
  have hI : ∀ x ∈ ps, IsTupleKey (intKind X.prog X.w) s.heap x.1 x.2.1 := fun x m => I.isT (SqT.of (keys x m))
  refine PySem.call_dict_pairsH (knd := tupleKind (intKind X.prog X.w)) (ps := ps) P (I.ok.hd hc) (show X.A.in1.in1.units < cLine by show X.A.units + 1 + 1 < cLine; omega) ⟨⟨_, n, hob, rfl, rfl, rfl⟩, ?_⟩ ⟨by rw [List.length_map], fun i key v e => ?_⟩ (fun h' k x m => ?_) (by rw [List.length_map, e2]; exact Nat.le_trans hz (by rw [sizeLine_eq]; decide)) fun h' tk hd hk => ?_
  · refine ⟨by rw [List.size_toArray, lit, List.length_map, e2], fun j k v e => ?_⟩
    obtain ⟨a, b⟩ := e3 j k v e
    exact ⟨by rw [← Array.getElem?_toList]; simpa using a, b⟩
  · have e : (ps.map fun x => (Value.ref x.2.1, x.2.2))[i]? = some (key, v) := e
    rw [List.getElem?_map] at e
    cases z : ps[i]? with
    | none => rw [z] at e; cases e
    | some x =>
      rw [z] at e
      cases e
      exact ⟨x.1, x.2.1, rfl, rfl⟩
  · obtain ⟨o, its2, n2, h1, h2, h3, h4⟩ := hI x m
    exact ⟨o, its2, n2, k _ o (Nat.ne_of_lt (Heap.lt_size h1)) (by simp) h1, h2, h3, h4⟩
  · obtain ⟨es, ep, raw, hs, hx⟩ := hd.raw
    refine ⟨.ref s.heap.objs.size, upd H s.heap.objs.size (dictO s.heap.objs.size es ep), I.laid (t' := tk) (fun b o e => hk b o (by simp) e) (Nat.le_refl _) (dictO_ok raw (beq_eq_false_iff_ne.mpr (Nat.ne_of_gt I.big))), rfl, q _ es ep (I.hok.fresh (Nat.le_refl _)) ?_⟩
    have st := stored_firsts ps []
    rw [e1] at st
    show es.toList.map (·.key) = (firstsA (([] : List (List Int × Addr × Value)).map fun x => (x.1, x.2.1)) (its.map fun t => (t.2.1, t.2.2.1))).map (fun x => Value.ref x.2)
    rw [← st, List.map_map]
    refine List.ext_getElem? fun i => ?_
    rw [List.getElem?_map, List.getElem?_map, Array.getElem?_toList]
    by_cases hi : i < es.size
    · obtain ⟨y, y1, y2, _⟩ := hx i hi
      rw [Array.getElem?_eq_getElem hi, y1, Option.map_some, Option.map_some, y2]
      rfl
    · rw [Array.getElem?_eq_none (by omega), List.getElem?_eq_none (by omega)]; rfl
def rSortKeys (K : PySem.W.Frag) : rCl := fun vs H Q => ∃ (d : Addr) (es : Array DictEntry) (ep : Nat) (ks : List (List Int × Addr)), vs = [.ref d] ∧ H d = some (dictO d es ep) ∧ es.toList.map (·.key) = ks.map (fun x => Value.ref x.2) ∧ (∀ x ∈ ks, x.1 ≠ [] ∧ H x.2 = some (.tup (x.1.map V.int))) ∧ ks.length ≤ 100000 ∧
  ∀ (p : Addr) (out : List (List Int × Addr)), H p = none → (∀ x ∈ out, x ∈ ks) → out.map (fun x => tD x.1) = (ks.map fun x => tD x.1).mergeSort (PySem.W.dataLe false id) → Q (.ref p) (upd H p (.lst (out.map fun x => V.ref x.2)))
theorem each_out {ks : List (List Int × Addr)} : ∀ {out : List Value} {ds : List D}, PySem.W.EachIs (fun v d => ∃ x ∈ ks, v = Value.ref x.2 ∧ d = tD x.1) out ds → ∃ o : List (List Int × Addr), (∀ x ∈ o, x ∈ ks) ∧ out = o.map (fun x => Value.ref x.2) ∧ ds = o.map (fun x => tD x.1)
  | _, _, .nil => ⟨[], fun x m => absurd m (by simp), rfl, rfl⟩
  | _, _, .cons ⟨x, m, e1, e2⟩ t => by
    obtain ⟨o, h1, h2, h3⟩ := each_out t
    exact ⟨x :: o, fun y my => (List.mem_cons.mp my).elim (fun z => by rw [z]; exact m) (h1 y), by rw [e1, h2]; rfl, by rw [e2, h3]; rfl⟩
theorem each_in {ks0 : List (List Int × Addr)} : ∀ (ks : List (List Int × Addr)), (∀ x ∈ ks, x ∈ ks0) → PySem.W.EachIs (fun v d => ∃ x ∈ ks0, v = Value.ref x.2 ∧ d = tD x.1) (ks.map fun x => Value.ref x.2) (ks.map fun x => tD x.1)
  | [], _ => .nil
  | x :: ks, h => .cons ⟨x, h x List.mem_cons_self, rfl, rfl⟩ (each_in ks fun y m => h y (List.mem_cons_of_mem _ m))
theorem vals_out {o : List (List Int × Addr)} : Vals (o.map fun x => V.ref x.2) (o.map fun x => Value.ref x.2) := by
  induction o with
  | nil => exact .nil
  | cons x o ih => exact .cons rfl ih
theorem readsAll_ints {h : Heap} : ∀ {k : List Int} {vs : List Value} {as : List Addr}, ReadsAll h vs (k.map PyData.int) as → as = []
  | [], _, _, r => by cases r; rfl
  | i :: k, _, _, r => by
    cases r with
    | cons a b =>
      cases a
      rw [readsAll_ints b]; rfl
theorem reads_tD {h : Heap} {v : Value} {k : List Int} {as : List Addr} (r : Reads h v (tD k) as) : as = [] := by
  cases r with
  | tuple _ _ _ h4 => exact readsAll_ints h4
theorem call_sortKeys (hc : X.calm = true) (hu : X.A.units + 64 < cLine) : CallR X (.builtin "sorted") (rSortKeys X.K) := by
  intro pins s σ H vs us Q I r h
  obtain ⟨d, es, ep, ks, rfl, hd, hk, hks, hz, q⟩ := h
  rw [Vals.ref1 r]
  obtain ⟨raw, big⟩ := dictO_at I.hok hd
  have hn : es.size = ks.length := by
    have := congrArg List.length hk
    rw [List.length_map, List.length_map, Array.length_toList] at this
    exact this
  have h16 : es.size ≤ sizeLine := by rw [hn, sizeLine_eq]; exact Nat.le_trans hz (by decide)
  refine Calls.call_function_entry PyProof.Rows.kind_sorted PyProof.Rows.plain_sorted PyProof.Rows.entry_sorted (PyProof.Rows.args_sorted1 _) ?_
  unfold Builtin.«sorted»
  refine wpAny_bind (m := checkCount "sorted" 1 1 _) (wpAny_pure ?_)
  refine wpAny_bind (PySem.W.kdu_collect (A := X.A.in1) (PySem.KdlSrc.rawDict (prog := X.prog) (w := X.w) big) (I.ok.hd hc) raw h16 fun h' tk acc hkp hacc => ?_)
  have hal : acc.toList = ks.map (fun x => Value.ref x.2) := by
    rw [← hk]
    refine List.ext_getElem? fun i => ?_
    rw [List.getElem?_map, Array.getElem?_toList, Array.getElem?_toList]
    by_cases hi : i < es.size
    · have hi' : i < acc.size := by rw [hacc.1]; exact hi
      obtain ⟨_, hv⟩ := hacc.2 i acc[i] (Array.getElem?_eq_getElem hi')
      rw [Array.getElem?_eq_getElem hi', Array.getElem?_eq_getElem hi, hv]
      rfl
    · rw [Array.getElem?_eq_none (by rw [hacc.1]; omega), Array.getElem?_eq_none (by omega)]; rfl
  have I1 : Inv X pins σ H { s with heap := h', toks := tk } := I.kept hkp
  refine wpAny_bind (wpAny_newList ?_ (by rw [hal, List.length_map, ← hn]; exact h16))
  have hoL : (h'.push (seqObj "list" acc.toList.toArray 0)).get? h'.objs.size = some (seqObj "list" acc.toList.toArray 0) := Heap.get?_push_size _ rfl
  show wpAny _ _ _ _ _ { s with heap := h'.push (seqObj "list" acc.toList.toArray 0), toks := tk }
  have er : PySem.W.EachIs (fun v b => ∃ as, Reads (h'.push (seqObj "list" acc.toList.toArray 0)) v (id b) as ∧ h'.objs.size ∉ as) acc.toList (ks.map fun x => tD x.1) := by
    rw [hal]
    refine (each_in ks fun x m => m).mono fun v b ⟨x, m, e1, e2⟩ => ?_
    subst e1 e2
    obtain ⟨as, rr⟩ := RB.reads I1 (av := []) (.of (RD.tup (hks x m).2 (by simp) RDs.ints)) (show RelV (.ref x.2) (.ref x.2) from rfl)
    refine ⟨as, PyProof.Rows.Reads.keeps (fun b o e => Heap.get?_push_of_some _ e) rr, fun z => ?_⟩
    rw [reads_tD rr] at z
    cases z
  refine wpAny_bind (wpAny_holding (PySem.W.list_sort_data (enc := id) (bs := ks.map fun x => tD x.1) (R := fun v d => ∃ x ∈ ks, v = Value.ref x.2 ∧ d = tD x.1) (s := { s with heap := h'.push (seqObj "list" acc.toList.toArray 0), toks := tk }) hoL (by rw [hal]; exact each_in ks fun x m => m) er ?_ ?_ (by rw [List.length_map, ← hn]; exact h16) (fun b m => ?_) fun out ho eo => ?_))
  · intro a ma b mb
    rw [List.map_id] at ma mb
    obtain ⟨x, _, rfl⟩ := List.mem_map.mp ma
    obtain ⟨y, _, rfl⟩ := List.mem_map.mp mb
    show PySem.W.alike (.tuple _) (.tuple _) = true
    rw [PySem.W.alike]
    exact PySem.W.alike_ints _ _
  · refine .inl fun a ma => ?_
    rw [List.map_id] at ma
    obtain ⟨x, mx, rfl⟩ := List.mem_map.mp ma
    obtain ⟨y, r, e⟩ := List.exists_cons_of_ne_nil (hks x mx).1
    exact ⟨.int y, r.map PyData.int, by unfold tD; rw [e]; rfl⟩
  · obtain ⟨x, _, rfl⟩ := List.mem_map.mp m
    show X.A.units + 1 + 1 + (tD x.1).depth < cLine
    have : (tD x.1).depth ≤ 1 := by
      unfold tD
      rw [PyData.depth, PySem.W.depth_ints]
      exact Nat.le_refl _
    omega
  · obtain ⟨o, h1, h2, h3⟩ := each_out eo
    obtain ⟨e', he'⟩ := PyProof.Rows.sortedHeap_at (vs := acc.toList) (out := out.toArray) hoL
    have hlen : (o.map fun x => V.ref x.2).length ≤ sizeLine := by
      have : out.length = o.length := by rw [h2, List.length_map]
      rw [List.length_map, ← this, ho, List.length_map, ← hn]; exact h16
    refine wpAny_pure ⟨_, rfl, .ref h'.objs.size, upd H h'.objs.size (.lst (o.map fun x => V.ref x.2)), I1.laid (t' := tk) (fun b u e => ?_) (Nat.le_refl _)
      (show ObjOk X.prog X.w _ _ _ (.lst (o.map fun x => V.ref x.2)) from ⟨hlen, out, e', by rw [h2]; exact vals_out, he'⟩), rfl, q _ o (I1.hok.fresh (Nat.le_refl _)) h1 h3.symm⟩
    have hb : b < h'.objs.size := Heap.lt_size e
    rw [PyProof.Rows.sortedHeap_old (Nat.ne_of_lt hb) (by rw [size_push']; exact Nat.lt_succ_of_lt hb)]
    exact Heap.get?_push_of_some _ e
end
theorem pairs_of {H : Hp} {av : List Addr} : ∀ {vs : List V} {ds : List D} {ks : List (List Int)}, RDs H av vs ds → keysOf ds = some ks → ∃ its : List PairV, vs = its.map (fun t => V.ref t.1) ∧ (∀ t ∈ its, (H t.1 = some (.tup [.ref t.2.2.1, t.2.2.2]) ∧ H t.2.2.1 = some (.tup (t.2.1.map V.int))) ∧ t.2.2.1 ∉ av) ∧ its.map (·.2.1) = ks
  | _, _, ks, .nil, h => by cases h; exact ⟨[], rfl, fun t m => absurd m (by simp), rfl⟩
  | _, _, ks, .cons (v := v) (vs := vs) (d := d) (ds := ds) r rr, h => by
    unfold keysOf at h
    split at h
    · next kd vd =>
      cases hk : intsOf kd with
      | none => rw [hk] at h; cases h
      | some k =>
        rw [hk] at h
        cases hr : keysOf ds with
        | none => rw [hr] at h; cases h
        | some kr =>
          rw [hr] at h
          have h : some (k :: kr) = some ks := h
          cases h
          obtain ⟨its, e1, e2, e3⟩ := pairs_of rr hr
          have ek := intsOf_eq hk
          subst ek
          cases r with
          | tup ha hn q =>
            cases q with
            | cons q1 q2 =>
              cases q2 with
              | cons q2 q3 =>
                cases q3
                cases q1 with
                | tup hb hn2 q4 =>
                  have q5 := RDs.of_ints q4
                  subst q5
                  exact ⟨(_, k, _, _) :: its, by rw [e1]; rfl, fun t m => (List.mem_cons.mp m).elim (fun z => by rw [z]; exact ⟨⟨ha, hb⟩, hn2⟩) (e2 t), by rw [List.map_cons, e3]⟩
    · cases h
section
variable {X : Cx} {φ : Fm} {k : Nat} {W : WX} {p p2 pos pos2 : Pos} {a : Expr} {f : Oe}
theorem boot_sorted : bootBuiltins "sorted" = some (.builtin "sorted") := by decide +kernel
theorem boot_dict : bootBuiltins "dict" = some (.type "dict") := by decide +kernel
theorem z_sdict (I : In k X W) (hm1 : X.mg "sorted" = none) (hm2 : X.mg "dict" = none) (ha : JO X φ a f) (hg1 : Gl X "sorted" := by rfl) (hg2 : Gl X "dict" := by rfl)
    (he2 : starEach [a] X.env = (false, eval a X.env) :: starEach [] X.env := by rfl) (hpl2 : (backTo pos2 (starEach [] X.env)).any (·.1) = false := by rfl)
    (he : starEach [.Call (.Name "dict" p2) [a] [] pos2] X.env = (false, eval (.Call (.Name "dict" p2) [a] [] pos2) X.env) :: starEach [] X.env := by rfl) (hpl : (backTo pos (starEach [] X.env)).any (·.1) = false := by rfl) :
    JE X φ (.Call (.Name "sorted" p) [.Call (.Name "dict" p2) [a] [] pos2] [] pos) (xUn sdD f) :=
  ⟨(pe_callB (call_sortKeys I.calm I.room.units) hg1 hm1 boot_sorted (pa_cons (pe_callTy (call_dictKeys I.calm I.room.units) hg2 hm2 boot_dict (pa_cons ha.j pa_nil he2) (by decide) (by decide) he2 hpl2) pa_nil he) (by decide) (by decide) he hpl).imp fun σ H Q h => un_core (X := X) (fun x d H1 env1 os1 e1 r1 h1 => by
    show rDictKeys X.K [x] H1 fun y H2 => rSortKeys X.K [y] H2 Q
    cases d with
    | list ps =>
      obtain ⟨z, hz, h2⟩ := OutR.opt h1
      unfold sdD at hz
      cases hk : keysOf ps with
      | none => simp only [hk] at hz; cases hz
      | some ks =>
        simp only [hk] at hz
        split at hz
        · next hcond =>
          cases hz
          obtain ⟨c1, c2⟩ := Bool.and_eq_true_iff.mp hcond
          have c2 := of_decide_eq_true c2
          obtain ⟨l, vs, rfl, e2, q1⟩ := r1.list
          obtain ⟨its, w1, w2, w3⟩ := pairs_of q1 hk
          have li : its.length = ps.length := by rw [← q1.length, w1, List.length_map]
          refine ⟨l, its, rfl, by rw [e2, w1], fun t m => (w2 t m).1, by rw [li]; exact c2, fun d es ep hd hkeys => ?_⟩
          have sm : Same H1 (upd H1 d (dictO d es ep)) := same_upd hd
          have mem : ∀ x ∈ firstsA [] (its.map fun t => (t.2.1, t.2.2.1)), ∃ t ∈ its, x = (t.2.1, t.2.2.1) := fun x m => by
            rcases firstsA_mem _ _ x m with q | q
            · cases q
            · obtain ⟨t, mt, et⟩ := List.mem_map.mp q
              exact ⟨t, mt, et.symm⟩
          refine ⟨d, es, ep, firstsA [] (its.map fun t => (t.2.1, t.2.2.1)), rfl, upd_same, hkeys, fun x m => ?_, ?_, fun p out hp hout heq => ?_⟩
          · obtain ⟨t, mt, rfl⟩ := mem x m
            refine ⟨?_, sm _ _ (w2 t mt).1.2⟩
            have : t.2.1 ∈ ks := by rw [← w3]; exact List.mem_map.mpr ⟨t, mt, rfl⟩
            have := List.all_eq_true.mp c1 _ this
            intro z
            have z' : t.2.1 = [] := z
            rw [z'] at this
            cases this
          · refine Nat.le_trans (firstsA_len _ _) ?_
            rw [List.length_map, li]
            simpa using c2
          · have sm2 : Same H1 (upd (upd H1 d (dictO d es ep)) p (.lst (out.map fun x => V.ref x.2))) := sm.trans (same_upd hp)
            refine OutR.ret h2 (.ref p) sm2 e1 (.lst upd_same (fun z => ?_) ?_)
            · obtain ⟨o, ho⟩ := e1.trk p z
              rw [sm _ _ ho] at hp; cases hp
            · have eq2 : ((firstsA [] (ks.map fun k => (k, ()))).map fun x => tD x.1) = (firstsA [] (its.map fun t => (t.2.1, t.2.2.1))).map fun x => tD x.1 := by
                have := firstsA_map (fun _ : Addr => ()) (its.map fun t => (t.2.1, t.2.2.1)) []
                rw [List.map_map] at this
                have e4 : (its.map ((fun x : List Int × Addr => (x.1, ())) ∘ fun t => (t.2.1, t.2.2.1))) = ks.map fun k => (k, ()) := by rw [← w3, List.map_map]; rfl
                rw [e4] at this
                rw [← (show firstsA (([] : List (List Int × Addr)).map fun x => (x.1, ())) (ks.map fun k => (k, ())) = firstsA [] (ks.map fun k => (k, ())) from rfl), ← this, List.map_map]
                rfl
              rw [eq2, ← heq]
              have gen : ∀ (o : List (List Int × Addr)), (∀ x ∈ o, x ∈ firstsA [] (its.map fun t => (t.2.1, t.2.2.1))) → RDs (upd (upd H1 d (dictO d es ep)) p (.lst (out.map fun x => V.ref x.2))) (φ.bs ++ os1) (o.map fun x => V.ref x.2) (o.map fun x => tD x.1) := fun o => by
                induction o with
                | nil => intro _; exact .nil
                | cons x o ih =>
                  intro ho
                  obtain ⟨t, mt, ex⟩ := mem x (ho x List.mem_cons_self)
                  refine .cons ?_ (ih fun y my => ho y (List.mem_cons_of_mem _ my))
                  rw [ex]
                  exact .tup (sm2 _ _ (w2 t mt).1.2) (w2 t mt).2 RDs.ints
              exact gen out hout
        · cases hz
    | _ => exact h1.elim) h⟩
end
end Z

namespace Z
open PySem PySem.Spec PyProof.Rows L2

/-! ### own classes of errors: all of them right below RayError, which is right below ValueError -/
def rayS : Str := "RayError"
def exOne (K : PySem.W.Frag) (ex : List Str) (x : Str) : Bool :=
  (He.Fa.exc x).ok K && (He.Fa.glo x).ok K &&
  He.eqO (PySem.W.findIn K (.ref (He.ga K x)) "__getattribute__") (some (some (.builtin "BaseException.__getattribute__"))) &&
  He.eqO (PySem.W.findIn K (.ref (He.ga K x)) "__getattr__") (some none) &&
  PySem.W.hasDictIn K (He.ga K x) &&
  He.eqO (PySem.W.findIn K (.ref (He.ga K x)) "__class__") (some (some (.builtin "object.__class__"))) &&
  decide (PySem.W.mroIn K (He.ga K x) (.type "object") = some true) &&
  decide (PySem.W.exmOne K (.ref (He.ga K x)) (.ref (He.ga K rayS)) = some true) &&
  decide (PySem.W.kitOne K (.ref (He.ga K x)) (.type "ValueError") = some true) &&
  ex.all fun y => decide (PySem.W.kitOne K (.ref (He.ga K x)) (.ref (He.ga K y)) = some (decide (x = y)))
def exChk (ex : List Str) (K : PySem.W.Frag) : Bool := (He.Fa.glo rayS).ok K &&
  (He.eqO (PySem.W.specialIn K (.builtin "object.__class__") "__get__") (some (some (.builtin "getset_descriptor.__get__"))) && decide (PySem.W.takesIn K (.builtin "object.__class__") = some true)) && ex.all (exOne K ex)
/-- all that is asked of an own class -/
structure ExK (K : PySem.W.Frag) (mg : Str → Option Value) (ex : List Str) (x : Str) : Prop where
  m : mg x = some (.ref (He.ga K x))
  q : PySem.W.excIn K (He.ga K x) He.veBase "ValueError.__new__" = true
  k : PySem.W.keepIn K (.ref (He.ga K x)) = true
  s : PySem.W.subIn K (.ref (He.ga K x)) (.type "BaseException") = some true
  t : PySem.W.typeIn K (.ref (He.ga K x)) = some (.type "type")
  c : ExcC K (He.ga K x)
  r : PySem.W.exmOne K (.ref (He.ga K x)) (.ref (He.ga K rayS)) = some true
  v : PySem.W.kitOne K (.ref (He.ga K x)) (.type "ValueError") = some true
  o : ∀ y ∈ ex, PySem.W.kitOne K (.ref (He.ga K x)) (.ref (He.ga K y)) = some (decide (x = y))
structure Exs (ex : List Str) (K : PySem.W.Frag) (mg : Str → Option Value) : Prop where
  ray : mg rayS = some (.ref (He.ga K rayS))
  a : ∀ x ∈ ex, ExK K mg ex x
theorem exs_of {ex : List Str} {K : PySem.W.Frag} {mg : Str → Option Value} {h : Heap} (X : K.In h) (G : h.Ns mainGlobals mg) (c : exChk ex K = true) : Exs ex K mg := by
  unfold exChk at c
  obtain ⟨c, c3⟩ := He.ba c
  obtain ⟨c1, c2⟩ := He.ba c
  obtain ⟨c4, c5⟩ := He.ba c2
  refine ⟨He.glo_ok X G c1, fun x hx => ?_⟩
  have d := List.all_eq_true.mp c3 x hx
  unfold exOne at d
  obtain ⟨d, d10⟩ := He.ba d
  obtain ⟨d, d9⟩ := He.ba d
  obtain ⟨d, d8⟩ := He.ba d
  obtain ⟨d, d7⟩ := He.ba d
  obtain ⟨d, d6⟩ := He.ba d
  obtain ⟨d, d5⟩ := He.ba d
  obtain ⟨d, d4⟩ := He.ba d
  obtain ⟨d, d3⟩ := He.ba d
  obtain ⟨d1, d2⟩ := He.ba d
  obtain ⟨e1, e2, e3, e4⟩ := He.exc_ok d1
  exact ⟨He.glo_ok X G d2, e1, e2, e3, e4, ⟨He.eqO_ok d3, He.eqO_ok d4, e3, d5, He.eqO_ok d6, He.eqO_ok c4, of_decide_eq_true c5, of_decide_eq_true d7⟩, of_decide_eq_true d8, of_decide_eq_true d9, fun y hy => of_decide_eq_true (List.all_eq_true.mp d10 y hy)⟩

/-! ### the head's look -/
def hookE (n : Nat) (fa : List He.Fa) (fn : List He.DefD) (ex : List Str) : PySem.W.Hook where
  α := He.AlD × Bool
  obs := fun s => (He.obsDG n fa fn s.heap.get?, exChk ex (He.frG s.heap.get? (He.asD s.heap.get? n)))
  val := fun _ => (He.valD fn, true)
  says := fun _ h => ∃ K : PySem.W.Frag, K.In h ∧ He.SaysD fa fn K ∧ exChk ex K = true
  of := fun _ _ e => ⟨_, He.frG_in, congrArg (fun z : He.AlD × Bool => z.1) e, congrArg (fun z : He.AlD × Bool => z.2) e⟩
  keeps := fun _ _ _ ⟨K, hK, c⟩ k => ⟨K, PySem.W.Frag.In.keeps hK k, c⟩
def obsE (n : Nat) (fa : List He.Fa) (fn : List He.DefD) (ex : List Str) (g : Addr → Option Obj) : He.AlD × Bool := (He.obsDG n fa fn g, exChk ex (He.frG g (He.asD g n)))
theorem obsE_eq {n : Nat} {fa : List He.Fa} {fn : List He.DefD} {ex : List Str} {g : Addr → Option Obj} {s : Shared} (h : ∀ a, g a = s.heap.get? a) : obsE n fa fn ex g = (hookE n fa fn ex).obs s := by
  have e : g = s.heap.get? := funext h
  rw [e] <;> rfl

/-! ### raise X() -/
def sRaise (x : Str) : Sm := fun e => .err ⟨x, none⟩ e
section
variable {X : Cx} {φ : Fm} {k : Nat} {W : WX} {p pos pos' : Pos} {ex : List Str}
theorem pmk_own0 {x : Str} (S : ExK X.K X.mg ex x) (hg : Gl X x) (hdb : (x == ("__debug__" : Str)) = false := by decide) : PMk X (.Call (.Name x p) [] [] pos) (fun _ H Q => Q (.ref (He.ga X.K x)) none H) := by
  intro pins s σ H Q I h
  refine wpAny_Call_Name_kw (ld_glob I hg S.m ?_ hdb)
  refine PySem.W.callWith_K0 I.kIn S.k ?_
  show wpAny _ _ (call (.ref (He.ga X.K x)) []) _ _ _
  obtain ⟨bm, N, nm, qn, bs, hdct, sn, sub, ab, col, dd, k0, k1, k2, k3, k5, mN, hC, hN, hni, T⟩ := exc_obj I.kIn S.q
  refine wpAny_call_exc_subT PySem.F.excBase_ValueError T hC hN hni (fun h' e hm => ?_) (by show 0 ≤ sizeLine; exact Nat.zero_le _)
  exact mk_of I hm (raises_own S.s S.t) h (I.hok.gone hm.new)
theorem s_raise0 {x : Str} (I : In k X φ.W) (E : Exs ex X.K X.mg) (hx : x ∈ ex := by decide) (hg : Gl X x := by rfl) (hdb : (x == ("__debug__" : Str)) = false := by decide) : JS X φ (.Raise (some (.Call (.Name x p) [] [] pos)) none pos') (sRaise x) :=
  ⟨(ps_raise I.calm I.takes (pmk_own0 (E.a x hx) hg hdb)).imp fun D σ H ⟨env, os, e, h⟩ => h σ H os _ _ Ext.refl Sub.refl e ⟨_, rfl, (E.a x hx).m, rfl⟩⟩

/-! ### try: .. except RayError as n: .. -/
/-- what does not hang on where the error lies -/
noncomputable def allA (f : Addr → Res Fw) : Res Fw := open Classical in if h : ∃ r, ∀ a, f a = r then h.choose else .stuck
theorem allA_eq {f : Addr → Res Fw} {r : Res Fw} (h : ∀ a, f a = r) : allA f = r := by
  have hx : ∃ r, ∀ a, f a = r := ⟨r, h⟩
  unfold allA
  rw [dif_pos hx]
  exact (hx.choose_spec 0).symm.trans (h 0)
theorem allA_at {f : Addr → Res Fw} (a : Addr) : allA f = .stuck ∨ f a = allA f := by
  by_cases hx : ∃ r, ∀ a, f a = r
  · obtain ⟨r, h⟩ := hx
    exact .inr ((h a).trans (allA_eq h).symm)
  · unfold allA
    rw [dif_neg hx]
    exact .inl rfl
def postE (i : Nat) (r : Res Fw) : Res Fw := match r with
  | .ok (.nx e) => .ok (.nx (e.set i .no))
  | .ok (.bk e) => .ok (.bk (e.set i .no))
  | .ok (.ct e) => .ok (.ct (e.set i .no))
  | .ok (.rt d e) => .ok (.rt d (e.set i .no))
  | _ => .stuck
noncomputable def sTry (i : Nat) (ex : List Str) (fb : Sm) (fs : Err → Addr → Sm) : Sm := fun e => match fb e with
  | .err x e1 => if x.cls ∈ ex then allA (fun a => postE i (fs x a (e1.set i (.exc a)))) else .stuck
  | r => r
theorem ERel.re {φ ψ : Fm} {env : VEnv} {σ : L2.St} {H : Hp} {os : List Addr} (e : ERel φ env σ H os) (h1 : φ.bs = ψ.bs) (h2 : φ.io = ψ.io) : ERel ψ env σ H os := by
  obtain ⟨W, bs, io⟩ := φ
  obtain ⟨W', bs', io'⟩ := ψ
  dsimp only at h1 h2
  subst h1 h2
  exact ⟨e.len, e.val, e.own, e.dist, e.trk, e.disj, e.io, e.exc⟩
theorem erel_exc {φ : Fm} {i : Nat} {a : Addr} {env : VEnv} {σ : L2.St} {H : Hp} {os : List Addr} (hio : i ≠ 0 ∨ φ.io = none) (e : ERel φ env σ H os) : ERel φ (env.set i (.exc a)) (σ.set i (some (.ref a))) H os := by
  have back : ∀ {j : Nat} {sl : Sl}, (env.set i (.exc a))[j]? = some sl → (∀ b, sl ≠ .exc b) → j ≠ i ∧ env[j]? = some sl := fun {j sl} q n => by
    by_cases hj : i = j
    · subst hj
      by_cases hi : i < env.length
      · rw [List.getElem?_set_self hi] at q; cases q; exact absurd rfl (n a)
      · rw [List.getElem?_eq_none (by simpa using hi)] at q; cases q
    · rw [List.getElem?_set_ne hj] at q; exact ⟨Ne.symm hj, q⟩
  have fwd : ∀ {j : Nat} {z : Option V}, j ≠ i → σ[j]? = some z → (σ.set i (some (.ref a)))[j]? = some z := fun {j z} n q => by rw [List.getElem?_set_ne (Ne.symm n)]; exact q
  have bwd : ∀ {j : Nat} {z : Option V}, j ≠ i → (σ.set i (some (.ref a)))[j]? = some z → σ[j]? = some z := fun {j z} n q => by rw [List.getElem?_set_ne (Ne.symm n)] at q; exact q
  refine ⟨by rw [List.length_set, List.length_set]; exact e.len, fun j d q => ?_, fun j ds q => ?_, fun j l b ds es q1 q2 q3 q4 => ?_, e.trk, e.disj, fun b q => ?_, fun j b q => ?_⟩
  · obtain ⟨n, q⟩ := back q (fun b z => by cases z)
    obtain ⟨v, w1, w2⟩ := e.val j d q
    exact ⟨v, fwd n w1, w2⟩
  · obtain ⟨n, q⟩ := back q (fun b z => by cases z)
    obtain ⟨b, vs, w1, w2⟩ := e.own j ds q
    exact ⟨b, vs, fwd n w1, w2⟩
  · obtain ⟨n1, q1⟩ := back q1 (fun b z => by cases z)
    obtain ⟨n2, q2⟩ := back q2 (fun b z => by cases z)
    exact e.dist j l b ds es q1 q2 (bwd n1 q3) (bwd n2 q4)
  · obtain ⟨w1, w2, ds, w3⟩ := e.io b q
    rcases hio with hi | hi
    · exact ⟨w1, fwd (Ne.symm hi) w2, ds, by rw [List.getElem?_set_ne hi]; exact w3⟩
    · rw [hi] at q; cases q
  · by_cases hj : i = j
    · subst hj
      by_cases hi : i < env.length
      · rw [List.getElem?_set_self hi] at q
        cases q
        rw [List.getElem?_set_self (by rw [← e.len]; exact hi)]
      · rw [List.getElem?_eq_none (by simpa using hi)] at q; cases q
    · rw [List.getElem?_set_ne hj] at q ⊢
      exact e.exc j b q
theorem erel_no {i : Nat} {env : VEnv} {σ : L2.St} {H : Hp} {os : List Addr} {o : Option V} (hio : i ≠ 0 ∨ φ.io = none) (e : ERel φ env σ H os) : ERel φ (env.set i .no) (σ.set i o) H os := by
  have back : ∀ {j : Nat} {sl : Sl}, (env.set i .no)[j]? = some sl → sl ≠ .no → j ≠ i ∧ env[j]? = some sl := fun {j sl} q n => by
    by_cases hj : i = j
    · subst hj
      by_cases hi : i < env.length
      · rw [List.getElem?_set_self hi] at q; cases q; exact absurd rfl n
      · rw [List.getElem?_eq_none (by simpa using hi)] at q; cases q
    · rw [List.getElem?_set_ne hj] at q; exact ⟨Ne.symm hj, q⟩
  have fwd : ∀ {j : Nat} {z : Option V}, j ≠ i → σ[j]? = some z → (σ.set i o)[j]? = some z := fun {j z} n q => by rw [List.getElem?_set_ne (Ne.symm n)]; exact q
  have bwd : ∀ {j : Nat} {z : Option V}, j ≠ i → (σ.set i o)[j]? = some z → σ[j]? = some z := fun {j z} n q => by rw [List.getElem?_set_ne (Ne.symm n)] at q; exact q
  refine ⟨by rw [List.length_set, List.length_set]; exact e.len, fun j d q => ?_, fun j ds q => ?_, fun j l a ds es q1 q2 q3 q4 => ?_, e.trk, e.disj, fun a q => ?_, exc_set2 e.exc i o (fun _ q => by cases q)⟩
  · obtain ⟨n, q⟩ := back q (fun z => by cases z)
    obtain ⟨v, w1, w2⟩ := e.val j d q
    exact ⟨v, fwd n w1, w2⟩
  · obtain ⟨n, q⟩ := back q (fun z => by cases z)
    obtain ⟨a, vs, w1, w2⟩ := e.own j ds q
    exact ⟨a, vs, fwd n w1, w2⟩
  · obtain ⟨n1, q1⟩ := back q1 (fun z => by cases z)
    obtain ⟨n2, q2⟩ := back q2 (fun z => by cases z)
    exact e.dist j l a ds es q1 q2 (bwd n1 q3) (bwd n2 q4)
  · obtain ⟨w1, w2, ds, w3⟩ := e.io a q
    rcases hio with hi | hi
    · exact ⟨w1, fwd (Ne.symm hi) w2, ds, by rw [List.getElem?_set_ne hi]; exact w3⟩
    · rw [hi] at q; cases q
theorem s_try {i : Nat} {n : Str} {body suite : List Stmt} {b₀ : Stmt} {np : Pos} {fb : Sm} {fs : Err → Addr → Sm} (E : Exs ex X.K X.mg) (I : In k X φ.W) (hio : i ≠ 0 ∨ φ.io = none) (hN : X.N.Nodup)
    (hb : ∀ (W : WX) (pn : List (Addr × Obj)) (xe : Value → Shared → Prop), In k (X.tr pn xe) W → PassesOwn (model X.prog X.w) X.A X.env xe → JSs (X.tr pn xe) ⟨W, φ.bs, φ.io⟩ body fb)
    (hsu : ∀ (x : Err) (a : Addr) (oe : Obj) (d : Option Addr) (pn : List (Addr × Obj)), x.cls ∈ ex → (x.arg = none → d = none) → Zc (.ref (He.ga X.K x.cls)) d oe → (∃ vs, oe.data = .fields vs) → JSs (X.suite a ((a, oe) :: pn)) ⟨fun _ _ _ _ => False, φ.bs, φ.io⟩ (b₀ :: suite) (fs x a))
    (hi : X.N[i]? = some n := by rfl) (hln : X.env.kindOf n = some .local := by rfl) (hg : Gl X rayS := by rfl) (hs : X.stack = X.env :: X.outer := by rfl) (hf : X.env.frame = some X.env.locals := by rfl) :
    JS X φ (.Try body [.ExceptHandler (some (.Name rayS np)) (some n) (b₀ :: suite) pos'] [] [] pos) (sTry i ex fb fs) := by
  refine ⟨(ps_try_as (Wout := φ.W) (tb := fun W => tS X ⟨W, φ.bs, φ.io⟩ fb) (ts := fun a cls d D σ H => ∃ x : Err, cls = .ref (He.ga X.K x.cls) ∧ x.cls ∈ ex ∧ (x.arg = none → d = none) ∧ tS X ⟨fun _ _ _ _ => False, φ.bs, φ.io⟩ (fs x a) D σ H) hs hf hN hi hln ⟨hg, by decide, .inl E.ray⟩ I.takes (fun W pn xe tk po => (hb W pn xe ⟨I.room, I.gu, I.calm, tk⟩ po).j)
    (fun a oe cls d pn hz hfl => ⟨fun pins s σ H D J ⟨x, h1, h2, h3, q⟩ => by
      subst h1
      exact (hsu x a oe d pn h2 h3 hz hfl).j.run pins s σ H D J q⟩)).imp fun D σ H ⟨env, os, e, h⟩ => ?_⟩
  refine ⟨env, os, e.re rfl rfl, ?_⟩
  have h : OutS X φ os H (match fb env with
    | .err x e1 => if x.cls ∈ ex then allA (fun a => postE i (fs x a (e1.set i (.exc a)))) else .stuck
    | r => r) D := h
  cases q : fb env with
  | stuck => rw [q] at h; exact h.elim
  | ok w =>
    rw [q] at h
    cases w with
    | nx e1 => exact fun σ1 H1 os1 x s e2 => h σ1 H1 os1 x s (e2.re rfl rfl)
    | rt d e1 => exact fun v σ1 H1 os1 x s e2 => h v σ1 H1 os1 x s (e2.re rfl rfl)
    | bk e1 => exact fun σ1 H1 os1 x s e2 => h σ1 H1 os1 x s (e2.re rfl rfl)
    | ct e1 => exact fun σ1 H1 os1 x s e2 => h σ1 H1 os1 x s (e2.re rfl rfl)
  | err x e1 =>
    rw [q] at h
    intro σ1 H1 os1 cls dd x1 s1 er1 ie
    have h : OutS X φ os H (if x.cls ∈ ex then allA (fun a => postE i (fs x a (e1.set i (.exc a)))) else .stuck) D := h
    by_cases hx : x.cls ∈ ex
    · rw [if_pos hx] at h
      obtain ⟨C, c1, c2, c3⟩ := ie
      have k := E.a x.cls hx
      rw [k.m] at c2
      cases c2
      refine ⟨true, by rw [c1]; exact k.r, fun _ a na => ?_, fun z => by cases z⟩
      refine ⟨x, c1, hx, fun z => ?_, e1.set i (.exc a), os1, erel_exc hio (er1.re rfl rfl), ?_⟩
      · rw [z] at c3; exact c3
      · rcases allA_at (f := fun a => postE i (fs x a (e1.set i (.exc a)))) a with z | z
        · rw [z] at h; exact h.elim
        · rw [← z] at h
          have h2 := OutS.later x1 s1 h
          have h3 : OutS X φ os1 H1 (postE i (fs x a (e1.set i (.exc a)))) D := h2
          cases z2 : fs x a (e1.set i (.exc a)) with
          | stuck => rw [z2] at h3; exact h3.elim
          | err y e2 => rw [z2] at h3; exact h3.elim
          | ok w =>
            rw [z2] at h3
            cases w with
            | nx e2 => exact fun σ2 H2 os2 x2 s2 er2 => h3 (σ2.set i none) H2 os2 x2 s2 (erel_no hio (er2.re rfl rfl))
            | bk e2 => exact fun σ2 H2 os2 x2 s2 er2 => h3 (σ2.set i none) H2 os2 x2 s2 (erel_no hio (er2.re rfl rfl))
            | ct e2 => exact fun σ2 H2 os2 x2 s2 er2 => h3 (σ2.set i none) H2 os2 x2 s2 (erel_no hio (er2.re rfl rfl))
            | rt d e2 => exact fun v σ2 H2 os2 x2 s2 er2 => h3 v (σ2.set i none) H2 os2 x2 s2 (erel_no hio (er2.re rfl rfl))
    · rw [if_neg hx] at h; exact h.elim
/-! ### in a suite: isinstance(n, C) -/
def xIsB (x : Err) (a : Addr) (i : Nat) (b : Bool) : Ev := fun e => match e.getD i .no with
  | .exc c => if c = a ∧ x.arg = none then .ok (.bool b, e) else .stuck
  | _ => .stuck
def xIsE (x : Err) (a : Addr) (i : Nat) (y : Str) : Ev := xIsB x a i (decide (x.cls = y))
def xIsV (x : Err) (a : Addr) (i : Nat) : Ev := xIsB x a i true
section
variable {a : Addr} {oe : Obj} {d : Option Addr} {pn : List (Addr × Obj)} {x : Err} {i : Nat} {n y : Str} {pn1 py : Pos}
theorem isE_core {c : V} {cv : Value} {b : Bool} {tc : TE} {e2 : Expr} (E : Exs ex X.K X.mg) (hx : x.cls ∈ ex) (hd : x.arg = none → d = none) (hz : Zc (.ref (He.ga X.K x.cls)) d oe) (hf : ∃ vs, oe.data = .fields vs) (h2 : PE (X.suite a ((a, oe) :: pn)) e2 tc) (ht : ∀ σ H Q, Q c H → tc σ H Q)
    (hc : ∀ u, RelV c u → u = cv) (hk : PySem.W.kitOne X.K (.ref (He.ga X.K x.cls)) cv = some b) (hm : X.mg "isinstance" = none) (hN : X.N[i]? = some n) (hv : Vis X.env.scope n) (hdn : (n == ("__debug__" : Str)) = false) (hcd : (n == ("__classdict__" : Str)) = false) (hg : Gl X "isinstance")
    (hb1 : starEach [e2] X.env = (false, eval e2 X.env) :: starEach [] X.env) (he : starEach [.Name n pn1, e2] X.env = (false, eval (.Name n pn1) X.env) :: starEach [e2] X.env) (hpl : (backTo pos (starEach [e2] X.env)).any (·.1) = false) :
    JE (X.suite a ((a, oe) :: pn)) φ (.Call (.Name "isinstance" p) [.Name n pn1, e2] [] pos) (xIsB x a i b) := by
  by_cases ha : x.arg = none
  · have hd0 := hd ha
    subst hd0
    refine ⟨(pe_callB (X := X.suite a ((a, oe) :: pn)) (call_isE (E.a x.cls hx).c hz hf) hg hm (by decide +kernel) (pa_cons (pe_var hN hv hdn hcd) (pa_cons h2 pa_nil hb1) he) (by decide) (by decide) he hpl).imp fun σ H Q ⟨env, os, e, h⟩ => ?_⟩
    unfold xIsB at h
    cases z : env.getD i .no with
    | exc a' =>
      rw [z] at h
      have h9 : OutR X φ rD os σ H (if a' = a ∧ x.arg = none then .ok (.bool b, env) else .stuck) Q := h
      clear h
      by_cases hq : a' = a ∧ x.arg = none
      · rw [if_pos hq] at h9
        obtain ⟨rfl, _⟩ := hq
        exact ⟨.ref a', e.exc i a' (getD_val z (fun q => by cases q)), ht _ _ _ ⟨c, cv, b, rfl, hc, hk, OutR.ret (rel := rD) h9 (V.bl b) (Same.refl H) e (RD.bl b)⟩⟩
      · rw [if_neg hq] at h9; exact h9.elim
    | no => rw [z] at h; exact h.elim
    | val _ => rw [z] at h; exact h.elim
    | own _ => rw [z] at h; exact h.elim
  · refine ⟨⟨fun _ _ _ _ _ _ ⟨env, os, e, h⟩ => ?_⟩⟩
    unfold xIsB at h
    cases z : env.getD i .no with
    | exc a' => rw [z] at h; simp only [ha, and_false, if_false] at h; exact h.elim
    | no => rw [z] at h; exact h.elim
    | val _ => rw [z] at h; exact h.elim
    | own _ => rw [z] at h; exact h.elim
theorem z_isE (E : Exs ex X.K X.mg) (hx : x.cls ∈ ex) (hd : x.arg = none → d = none) (hz : Zc (.ref (He.ga X.K x.cls)) d oe) (hf : ∃ vs, oe.data = .fields vs) (hy : y ∈ ex := by decide) (hm : X.mg "isinstance" = none) (hN : X.N[i]? = some n := by rfl) (hv : Vis X.env.scope n := by first | exact Or.inl rfl | exact Or.inr (Or.inl rfl) | exact Or.inr (Or.inr rfl))
    (hdn : (n == ("__debug__" : Str)) = false := by decide) (hcd : (n == ("__classdict__" : Str)) = false := by decide) (hdy : (y == ("__debug__" : Str)) = false := by decide) (hg : Gl X "isinstance" := by rfl) (hgy : Gl X y := by rfl)
    (hb1 : starEach [.Name y py] X.env = (false, eval (.Name y py) X.env) :: starEach [] X.env := by rfl) (he : starEach [.Name n pn1, .Name y py] X.env = (false, eval (.Name n pn1) X.env) :: starEach [.Name y py] X.env := by rfl) (hpl : (backTo pos (starEach [.Name y py] X.env)).any (·.1) = false := by rfl) :
    JE (X.suite a ((a, oe) :: pn)) φ (.Call (.Name "isinstance" p) [.Name n pn1, .Name y py] [] pos) (xIsE x a i y) :=
  isE_core (c := .ref (He.ga X.K y)) E hx hd hz hf (pe_glob (X := X.suite a ((a, oe) :: pn)) (v := .ref (He.ga X.K y)) hgy (E.a y hy).m rfl hdy) (fun _ _ _ q => q) (fun u r => r) ((E.a x.cls hx).o y hy) hm hN hv hdn hcd hg hb1 he hpl
theorem z_isV (E : Exs ex X.K X.mg) (hx : x.cls ∈ ex) (hd : x.arg = none → d = none) (hz : Zc (.ref (He.ga X.K x.cls)) d oe) (hf : ∃ vs, oe.data = .fields vs) (hm : X.mg "isinstance" = none) (hmv : X.mg "ValueError" = none) (hN : X.N[i]? = some n := by rfl) (hv : Vis X.env.scope n := by first | exact Or.inl rfl | exact Or.inr (Or.inl rfl) | exact Or.inr (Or.inr rfl))
    (hdn : (n == ("__debug__" : Str)) = false := by decide) (hcd : (n == ("__classdict__" : Str)) = false := by decide) (hg : Gl X "isinstance" := by rfl) (hgy : Gl X "ValueError" := by rfl)
    (hb1 : starEach [.Name "ValueError" py] X.env = (false, eval (.Name "ValueError" py) X.env) :: starEach [] X.env := by rfl) (he : starEach [.Name n pn1, .Name "ValueError" py] X.env = (false, eval (.Name n pn1) X.env) :: starEach [.Name "ValueError" py] X.env := by rfl) (hpl : (backTo pos (starEach [.Name "ValueError" py] X.env)).any (·.1) = false := by rfl) :
    JE (X.suite a ((a, oe) :: pn)) φ (.Call (.Name "isinstance" p) [.Name n pn1, .Name "ValueError" py] [] pos) (xIsV x a i) :=
  isE_core (c := .ty "ValueError") E hx hd hz hf (pe_bltn (X := X.suite a ((a, oe) :: pn)) (v := .ty "ValueError") hgy hmv boot_ValueError rfl (by decide) (by decide)) (fun _ _ _ q => q) (fun u r => r) (E.a x.cls hx).v hm hN hv hdn hcd hg hb1 he hpl
end
end
/-- the module's facts, with the own classes of errors -/
structure TopX (fa : List He.Fa) (fn : List He.DefD) (ex : List Str) (K : PySem.W.Frag) (mg : Str → Option Value) : Prop extends Top fa fn K mg where
  e : Exs ex K mg
end Z

namespace Z
open PySem PySem.Spec PyProof.Rows L2

/-! ### a, b = e1, e2 where some of them are fresh lists that the slots own -/
inductive Ow where
  | v (d : D) | f (ds : List D)
abbrev Aw := VEnv → Res (List Ow × VEnv)
inductive RWs (H : Hp) (av : List Addr) : List Addr → List V → List Ow → Prop
  | nil : RWs H av [] [] []
  | v {fr vs ws v d} : RD H av v d → RWs H av fr vs ws → RWs H av fr (v :: vs) (.v d :: ws)
  | f {fr vs ws a us ds} : H a = some (.lst us) → RDs H av us ds → RWs H av fr vs ws → RWs H av (a :: fr) (.ref a :: vs) (.f ds :: ws)
theorem RWs.mono {H : Hp} {av av' fr : List Addr} {vs : List V} {ws : List Ow} (n : ∀ a, a ∈ av' → a ∈ av ∨ H a = none) (h : RWs H av fr vs ws) : RWs H av' fr vs ws := by
  induction h with
  | nil => exact .nil
  | v r _ ih => exact .v (r.mono (fun _ _ e _ => e) n) ih
  | f e r _ ih => exact .f e (r.mono (fun _ _ e _ => e) n) ih
theorem RWs.length {H : Hp} {av fr : List Addr} {vs : List V} {ws : List Ow} (h : RWs H av fr vs ws) : vs.length = ws.length := by
  induction h with
  | nil => rfl
  | v _ _ ih => exact congrArg (· + 1) ih
  | f _ _ _ ih => exact congrArg (· + 1) ih
def Fm.ins (φ : Fm) (fr : List Addr) : Fm := ⟨φ.W, fr ++ φ.bs, φ.io⟩
/-- bs counts as a set -/
theorem ERel.bsq {φ ψ : Fm} {env : VEnv} {σ : L2.St} {H : Hp} {os : List Addr} (e : ERel φ env σ H os) (h1 : ∀ a, a ∈ ψ.bs ↔ a ∈ φ.bs) (h2 : φ.io = ψ.io) : ERel ψ env σ H os := by
  have mv : ∀ a, a ∈ ψ.bs ++ os → a ∈ φ.bs ++ os := fun a m => (List.mem_append.mp m).elim (fun q => List.mem_append_left _ ((h1 a).mp q)) fun q => List.mem_append_right _ q
  refine ⟨e.len, fun i d q => ?_, fun i ds q => ?_, e.dist, fun a m => e.trk a (mv a m), fun a m z => e.disj a m ((h1 a).mp z), fun a q => e.io a (h2.trans q), e.exc⟩
  · obtain ⟨v, w1, w2⟩ := e.val i d q
    exact ⟨v, w1, w2.mono (fun _ _ e _ => e) fun a m => .inl (mv a m)⟩
  · obtain ⟨a, vs, w1, w2, w3, w4⟩ := e.own i ds q
    exact ⟨a, vs, w1, w2, w3, w4.mono (fun _ _ e _ => e) fun a m => .inl (mv a m)⟩
def OutW (X : Cx) (φ : Fm) (os : List Addr) (σ : L2.St) (H : Hp) (r : Res (List Ow × VEnv)) (Q : List V → Hp → Prop) : Prop := match r with
  | .ok p => ∀ fr vs H' os', Ext os H H' → Sub H os os' → (∀ a ∈ fr, (a ∈ os ∨ H a = none) ∧ a ∉ φ.bs) → fr.Nodup → ERel (φ.ins fr) p.2 σ H' os' → RWs H' ((φ.ins fr).bs ++ os') fr vs p.1 → Q vs H'
  | .err x e' => ∀ H' os' cls dd, Ext os H H' → Sub H os os' → ERel φ e' σ H' os' → IsErr X.mg x cls dd H' → φ.W cls dd σ H'
  | .stuck => False
structure JAw (X : Cx) (φ : Fm) (es : List Expr) (f : Aw) : Prop where
  j : PA X es (fun σ H Q => ∃ env os, ERel φ env σ H os ∧ OutW X φ os σ H (f env) Q)
def awNil : Aw := fun e => .ok ([], e)
def awV (f : Ev) (g : Aw) : Aw := fun e => f e >>= fun p => g p.2 >>= fun q => .ok (.v p.1 :: q.1, q.2)
def awF (f : Ef) (g : Aw) : Aw := fun e => f e >>= fun p => g p.2 >>= fun q => .ok (.f p.1 :: q.1, q.2)
def setW : List Nat → List Ow → VEnv → Option VEnv
  | [], [], e => some e
  | i :: is, w :: ws, e => if i < e.length then setW is ws (e.set i (match w with
    | .v d => .val d
    | .f ds => .own ds)) else none
  | _, _, _ => none
def sParW (is : List Nat) (f : Aw) : Sm := fun e => f e >>= fun p => ofO (setW is p.1 p.2) >>= fun e' => .ok (.nx e')
abbrev Fm.add (φ : Fm) (D : Addr) : Fm := ⟨φ.W, D :: φ.bs, φ.io⟩
section
variable {X : Cx} {φ : Fm} {e : Expr} {es : List Expr} {f : Ev} {g : Aw} {h : Ef}
theorem aw_nil : JAw X φ [] awNil := ⟨pa_nil.imp fun σ H Q ⟨env, os, e, h⟩ => by
  have h : OutW X φ os σ H (.ok ([], env)) Q := h
  exact h [] [] H os Ext.refl Sub.refl (fun a m => absurd m (by simp)) List.nodup_nil (e.re rfl rfl) .nil⟩
theorem OutW.later {os os' : List Addr} {H H' : Hp} {σ : L2.St} {r : Res (List Ow × VEnv)} {Q : List V → Hp → Prop} (x : Ext os H H') (s : Sub H os os') (h : OutW X φ os σ H r Q) : OutW X φ os' σ H' r Q := by
  cases r with
  | ok p => exact fun fr vs H2 os2 x2 s2 h0 => h fr vs H2 os2 (x.trans s x2) (s.trans x s2) fun a m => ⟨fresh_back x s (h0 a m).1, (h0 a m).2⟩
  | err e en => exact fun H2 os2 cls dd x2 s2 => h H2 os2 cls dd (x.trans s x2) (s.trans x s2)
  | stuck => exact h
theorem aw_val (h1 : JE X φ e f) (h2 : JAw X φ es g) (hs : starEach (e :: es) X.env = (false, eval e X.env) :: starEach es X.env := by rfl) : JAw X φ (e :: es) (awV f g) := ⟨(pa_cons h1.j h2.j hs).imp fun σ H Q ⟨env, os, e, h⟩ => by
  have h : OutW X φ os σ H (f env >>= fun p => g p.2 >>= fun q => .ok (.v p.1 :: q.1, q.2)) Q := h
  refine ⟨env, os, e, ?_⟩
  cases q : f env with
  | stuck => rw [q] at h; exact h.elim
  | err x y => rw [q] at h; exact h
  | ok p =>
    rw [q] at h
    intro v H1 os1 x1 s1 e1 r1
    have h : OutW X φ os σ H (g p.2 >>= fun q => .ok (.v p.1 :: q.1, q.2)) Q := h
    refine ⟨p.2, os1, e1, ?_⟩
    cases q2 : g p.2 with
    | stuck => rw [q2] at h; exact h.elim
    | err x y => rw [q2] at h; exact OutW.later (r := .err x y) x1 s1 h
    | ok p2 =>
      rw [q2] at h
      intro fr vs H2 os2 x2 s2 n nd e2 r2
      have h : OutW X φ os σ H (.ok (.v p.1 :: p2.1, p2.2)) Q := h
      have mb := mono_bs (φ := φ) x2 s2
      have r1' : RD H2 ((φ.ins fr).bs ++ os2) v p.1 := r1.mono mb.1 fun a m => by
        rcases List.mem_append.mp m with m | m
        · rcases List.mem_append.mp m with m | m
          · exact (n a m).1.elim (fun q => .inl (List.mem_append_right _ q)) .inr
          · exact .inl (List.mem_append_left _ m)
        · exact mb.2 a (List.mem_append_right _ m)
      exact h fr (v :: vs) H2 os2 (x1.trans s1 x2) (s1.trans x1 s2) (fun a m => ⟨fresh_back x1 s1 (n a m).1, (n a m).2⟩) nd e2 (.v r1' r2)⟩
theorem aw_own {fe : Ef} (h1 : JF X φ e fe) (h2 : ∀ a, JAw X (φ.add a) es g) (hs : starEach (e :: es) X.env = (false, eval e X.env) :: starEach es X.env := by rfl) : JAw X φ (e :: es) (awF fe g) :=
  have tl : PA X es (fun σ H Q => ∃ a env os, ERel (φ.add a) env σ H os ∧ OutW X (φ.add a) os σ H (g env) Q) := ⟨fun pos pins s σ H Q I ⟨a, q⟩ => (h2 a).j.run pos pins s σ H Q I q⟩
  ⟨(pa_cons h1.j tl hs).imp fun σ H Q ⟨env, os, e, h⟩ => by
  have h : OutW X φ os σ H (fe env >>= fun p => g p.2 >>= fun q => .ok (.f p.1 :: q.1, q.2)) Q := h
  refine ⟨env, os, e, ?_⟩
  cases q : fe env with
  | stuck => rw [q] at h; exact h.elim
  | err x y => rw [q] at h; exact h
  | ok p =>
    rw [q] at h
    intro a us H1 os1 x1 s1 n0 nb e1 ha r1
    have h : OutW X φ os σ H (g p.2 >>= fun q => .ok (.f p.1 :: q.1, q.2)) Q := h
    refine ⟨a, p.2, os1, e1.re rfl rfl, ?_⟩
    have ano : a ∉ os1 := fun z => e1.disj a z List.mem_cons_self
    cases q2 : g p.2 with
    | stuck => rw [q2] at h; exact h.elim
    | err x y =>
      rw [q2] at h
      exact fun H2 os2 cls dd x2 s2 e2 ie => h H2 os2 cls dd (x1.trans s1 x2) (s1.trans x1 s2) ((ERel.leave (e2.re (ψ := φ.in_ a) rfl rfl)).re rfl rfl) ie
    | ok p2 =>
      rw [q2] at h
      intro fr vs H2 os2 x2 s2 n nd e2 r2
      have h : OutW X φ os σ H (.ok (.f p.1 :: p2.1, p2.2)) Q := h
      have mq : ∀ b, b ∈ (φ.ins (a :: fr)).bs ↔ b ∈ ((φ.add a).ins fr).bs := fun b => by
        show b ∈ (a :: fr) ++ φ.bs ↔ b ∈ fr ++ (a :: φ.bs)
        simp only [List.mem_append, List.mem_cons]
        constructor
        · rintro ((z | z) | z)
          · exact .inr (.inl z)
          · exact .inl z
          · exact .inr (.inr z)
        · rintro (z | z | z)
          · exact .inl (.inr z)
          · exact .inl (.inl z)
          · exact .inr z
      have mq2 : ∀ b, b ∈ (φ.ins (a :: fr)).bs ++ os2 → b ∈ ((φ.add a).ins fr).bs ++ os2 := fun b m => (List.mem_append.mp m).elim (fun z => List.mem_append_left _ ((mq b).mp z)) fun z => List.mem_append_right _ z
      refine h (a :: fr) (.ref a :: vs) H2 os2 (x1.trans s1 x2) (s1.trans x1 s2) (fun b m => ?_) (List.nodup_cons.mpr ⟨fun z => (n a z).2 List.mem_cons_self, nd⟩) (e2.bsq mq rfl) (.f (x2 a _ ha ano) ?_ (r2.mono fun b m => .inl (mq2 b m)))
      · rcases List.mem_cons.mp m with rfl | m
        · exact ⟨n0, nb⟩
        · exact ⟨fresh_back x1 s1 (n b m).1, fun z => (n b m).2 (List.mem_cons_of_mem _ z)⟩
      · have mb := mono_bs (φ := φ.in_ a) x2 s2
        refine r1.mono mb.1 fun b m => ?_
        rcases List.mem_append.mp (mq2 b m) with z | z
        · rcases List.mem_append.mp z with z | z
          · exact (n b z).1.elim (fun q => .inl (List.mem_append_right _ q)) .inr
          · exact .inl (List.mem_append_left _ z)
        · exact mb.2 b (List.mem_append_right _ z)⟩
/-- the slots take them -/
theorem setW_ok {H : Hp} {av fr : List Addr} {vs : List V} {ws : List Ow} (r : RWs H av fr vs ws) : ∀ {is : List Nat} {env env' : VEnv} {σ : L2.St} {os : List Addr}, (∀ i ∈ is, i ≠ 0 ∨ φ.io = none) → fr.Nodup → (∀ a ∈ fr, a ∉ φ.bs) → (∀ a, a ∈ (φ.ins fr).bs ++ os → a ∈ av) → ERel (φ.ins fr) env σ H os → setW is ws env = some env' →
    ∃ os', vs.length = is.length ∧ ERel φ env' ((is.zip vs).foldl (fun σ p => σ.set p.1 (some p.2)) σ) H os' ∧ (∀ a, a ∈ os' → a ∈ os ∨ a ∈ fr) := by
  induction r with
  | nil =>
    intro is env env' σ os hio nd nb hav e h
    cases is with
    | nil => cases h; exact ⟨os, rfl, e.re rfl rfl, fun a m => .inl m⟩
    | cons i is => cases h
  | v r rr ih =>
    intro is env env' σ os hio nd nb hav e h
    cases is with
    | nil => cases h
    | cons i is =>
      unfold setW at h
      split at h
      · next hi =>
        have e2 := erel_set (i := i) e (hio i List.mem_cons_self) hi (r.mono (fun _ _ e _ => e) fun a m => .inl (hav a m))
        obtain ⟨os', l, e3, m⟩ := ih (fun j m => hio j (List.mem_cons_of_mem _ m)) nd nb hav e2 h
        exact ⟨os', by simp [l], e3, m⟩
      · cases h
  | f ha r rr ih =>
    rename_i fr vs ws a us ds
    intro is env env' σ os hio nd nb hav e h
    cases is with
    | nil => cases h
    | cons i is =>
      unfold setW at h
      split at h
      · next hi =>
        obtain ⟨n1, n2⟩ := List.nodup_cons.mp nd
        have nb' : a ∉ (φ.ins fr).bs := fun z => (List.mem_append.mp z).elim n1 (nb a List.mem_cons_self)
        have e2 := erel_setOwn (φ := φ.ins fr) (i := i) (a := a) (e.re rfl rfl) (hio i List.mem_cons_self) hi ha (r.mono (fun _ _ e _ => e) fun a m => .inl (hav a m)) nb'
        obtain ⟨os', l, e3, m⟩ := ih (fun j m => hio j (List.mem_cons_of_mem _ m)) n2 (fun b m => nb b (List.mem_cons_of_mem _ m)) (fun b m => hav b (by
          rcases List.mem_append.mp m with m | m
          · rcases List.mem_append.mp m with m | m
            · exact List.mem_append_left _ (List.mem_append_left _ (List.mem_cons_of_mem _ m))
            · exact List.mem_append_left _ (List.mem_append_right _ m)
          · rcases List.mem_cons.mp m with rfl | m
            · exact List.mem_append_left _ (List.mem_append_left _ List.mem_cons_self)
            · exact List.mem_append_right _ m)) e2 h
        refine ⟨os', by simp [l], e3, fun b mb => ?_⟩
        rcases m b mb with q | q
        · rcases List.mem_cons.mp q with rfl | q
          · exact .inr List.mem_cons_self
          · exact .inl q
        · exact .inr (List.mem_cons_of_mem _ q)
      · cases h
theorem par_core {is : List Nat} {env : VEnv} {σ : L2.St} {H : Hp} {os : List Addr} {E : Ends} {R : List V → Hp → Prop} (hio : ∀ i ∈ is, i ≠ 0 ∨ φ.io = none) (e : ERel φ env σ H os) (h : OutS X φ os H (sParW is g env) E)
    (hR : ∀ vs H1, vs.length = is.length → E.nx ((is.zip vs).foldl (fun σ p => σ.set p.1 (some p.2)) σ) H1 → R vs H1) : ∃ env os, ERel φ env σ H os ∧ OutW X φ os σ H (g env) R := by
  have h : OutS X φ os H (g env >>= fun p => ofO (setW is p.1 p.2) >>= fun e' => .ok (.nx e')) E := h
  refine ⟨env, os, e, ?_⟩
  cases q : g env with
  | stuck => rw [q] at h; exact h.elim
  | err x y => rw [q] at h; exact fun H2 os2 cls dd => h σ H2 os2 cls dd
  | ok p =>
    rw [q] at h
    intro fr vs H1 os1 x1 s1 n nd e1 r1
    have h : OutS X φ os H (ofO (setW is p.1 p.2) >>= fun e' => .ok (.nx e')) E := h
    obtain ⟨e2, z, h2⟩ := OutS.opt h
    obtain ⟨os2, l, e3, m⟩ := setW_ok (φ := φ) r1 hio nd (fun a m => (n a m).2) (fun a m => m) e1 z
    exact hR vs H1 l (h2 _ H1 os2 x1 (fun a ma => (m a ma).elim (fun q => s1 a q) fun q => (n a q).1) e3)
end
section
variable {X : Cx} {φ : Fm} {i j l : Nat} {x y z : Str} {a b c : Expr} {f : Aw} {px py pz pt pos : Pos} {kt k2 pt2}
theorem s_parW2 (hc : X.calm = true) (hN : X.N.Nodup) (hio : φ.io = none ∨ (i ≠ 0 ∧ j ≠ 0)) (ha : JAw X φ [a, b] f) (hi : X.N[i]? = some x := by rfl) (hj : X.N[j]? = some y := by rfl) (hij : i ≠ j := by decide)
    (hx : X.env.scope.names.lookup x = some .local := by rfl) (hy : X.env.scope.names.lookup y = some .local := by rfl)
    (hw : swappedStores [.Tuple [.Name x px, .Name y py] kt pt] (.Tuple [a, b] k2 pt2) X.env = pure (some [x, y]) := by rfl)
    (hs : swapsWithSole [.Tuple [.Name x px, .Name y py] kt pt] (.Tuple [a, b] k2 pt2) pos.line X.env = pure false := by rfl) :
    JS X φ (.Assign [.Tuple [.Name x px, .Name y py] kt pt] (.Tuple [a, b] k2 pt2) pos) (sParW [i, j] f) :=
  ⟨(ps_par hc hN hi hj hij hx hy ha.j hw hs).imp fun E σ H ⟨env, os, e, h⟩ => par_core (is := [i, j]) (fun m hm => by
    rcases hio with q | q
    · exact .inr q
    · simp at hm; rcases hm with rfl | rfl
      · exact .inl q.1
      · exact .inl q.2) e h fun vs H1 hl h1 => by
    match vs, hl, h1 with
    | [v, w], _, h1 => exact ⟨v, w, rfl, h1⟩⟩
theorem s_parW3 (hc : X.calm = true) (hN : X.N.Nodup) (hio : φ.io = none ∨ (i ≠ 0 ∧ j ≠ 0 ∧ l ≠ 0)) (ha : JAw X φ [a, b, c] f) (hi : X.N[i]? = some x := by rfl) (hj : X.N[j]? = some y := by rfl) (hl : X.N[l]? = some z := by rfl) (hij : i ≠ j := by decide) (hil : i ≠ l := by decide) (hjl : j ≠ l := by decide)
    (hx : X.env.scope.names.lookup x = some .local := by rfl) (hy : X.env.scope.names.lookup y = some .local := by rfl) (hz : X.env.scope.names.lookup z = some .local := by rfl)
    (hw : swappedStores [.Tuple [.Name x px, .Name y py, .Name z pz] kt pt] (.Tuple [a, b, c] k2 pt2) X.env = pure (some [x, y, z]) := by rfl)
    (hs : swapsWithSole [.Tuple [.Name x px, .Name y py, .Name z pz] kt pt] (.Tuple [a, b, c] k2 pt2) pos.line X.env = pure false := by rfl) :
    JS X φ (.Assign [.Tuple [.Name x px, .Name y py, .Name z pz] kt pt] (.Tuple [a, b, c] k2 pt2) pos) (sParW [i, j, l] f) :=
  ⟨(ps_par3 hc hN hi hj hl hij hil hjl hx hy hz ha.j hw hs).imp fun E σ H ⟨env, os, e, h⟩ => par_core (is := [i, j, l]) (fun m hm => by
    rcases hio with q | q
    · exact .inr q
    · simp at hm; rcases hm with rfl | rfl | rfl
      · exact .inl q.1
      · exact .inl q.2.1
      · exact .inl q.2.2) e h fun vs H1 hl h1 => by
    match vs, hl, h1 with
    | [v, w, u], _, h1 => exact ⟨v, w, u, rfl, h1⟩⟩
/-- the same where a target is shared with a comprehension: a tuple is built and taken apart, from the left -/
theorem ps_parU {es tgs : List Expr} {ta : TA} {t : TGs} {n : Nat} (hc : X.calm = true) (ha : PA X es ta) (hg : PGs X tgs t) (hz : n ≤ sizeLine)
    (hw : swappedStores [.Tuple tgs kt pt] (.Tuple es k2 pt2) X.env = pure none) (hs : swapsWithSole [.Tuple tgs kt pt] (.Tuple es k2 pt2) pos.line X.env = pure false)
    (hn : (assignEach tgs X.env).length = n) (hst : (assignEach tgs X.env).findIdx? (·.1) = none) (h1 : (assignEach [.Tuple tgs kt pt] X.env).map (·.2) = [assign (.Tuple tgs kt pt) X.env]) :
    PS X (.Assign [.Tuple tgs kt pt] (.Tuple es k2 pt2) pos) (fun D σ H => ta σ H fun vs H1 => vs.length = n ∧ t vs σ H1 D.nx) := by
  refine ⟨fun pins s σ H D I h => ?_⟩
  refine wpAny_Assign_stores (Tuple_ (thn (ha.run _ pins s σ H _ I h) fun us s1 ⟨vs, H1, I1, r1, hl, q1⟩ => ?_)) hs hw
  refine wpAny_newObj_type ?_ (by show us.toArray.size ≤ sizeLine; rw [List.size_toArray, ← r1.length, hl]; exact hz)
  have I2 : Inv X pins σ H1 { s1 with heap := s1.heap.push { cls := .type "tuple", data := .seq us.toArray } } := I1.kept (t' := s1.toks) fun b o e => Heap.get?_push_of_some _ e
  rw [h1]
  refine assign_Tuple_tuple (items := us.toArray) (I.ok.hd hc) (IsTup.new s1.heap _) (by rw [hn, List.size_toArray, ← r1.length, hl]) hst fun h' hx => ?_
  have I3 := I2.kept (h' := h') (t' := s1.toks) fun b o e => hx b o (Nat.ne_of_lt (Heap.lt_size e)) e
  exact thn (hg.run pins _ σ H1 vs _ _ I3 r1 q1) fun _ s3 q => q
theorem s_parW2C (hc : X.calm = true) (hN : X.N.Nodup) (hio : φ.io = none ∨ (i ≠ 0 ∧ j ≠ 0)) (hgx : PG X (.Name x px) (gName i)) (hgy : PG X (.Name y py) (gName j)) (ha : JAw X φ [a, b] f)
    (hpx : (assignEach [.Name x px, .Name y py] X.env).map (·.2) = assign (.Name x px) X.env :: (assignEach [.Name y py] X.env).map (·.2) := by rfl)
    (hpy : (assignEach [.Name y py] X.env).map (·.2) = assign (.Name y py) X.env :: (assignEach [] X.env).map (·.2) := by rfl)
    (hw : swappedStores [.Tuple [.Name x px, .Name y py] kt pt] (.Tuple [a, b] k2 pt2) X.env = pure none := by rfl)
    (hs : swapsWithSole [.Tuple [.Name x px, .Name y py] kt pt] (.Tuple [a, b] k2 pt2) pos.line X.env = pure false := by rfl)
    (hn : (assignEach [.Name x px, .Name y py] X.env).length = 2 := by rfl) (hst : (assignEach [.Name x px, .Name y py] X.env).findIdx? (·.1) = none := by rfl)
    (h1 : (assignEach [.Tuple [.Name x px, .Name y py] kt pt] X.env).map (·.2) = [assign (.Tuple [.Name x px, .Name y py] kt pt) X.env] := by rfl) :
    JS X φ (.Assign [.Tuple [.Name x px, .Name y py] kt pt] (.Tuple [a, b] k2 pt2) pos) (sParW [i, j] f) :=
  ⟨(ps_parU hc ha.j (pgs_cons hgx (pgs_cons hgy pgs_nil hpy) hpx) (by decide) hw hs hn hst h1).imp fun E σ H ⟨env, os, e, h⟩ => par_core (is := [i, j]) (fun m hm => by
    rcases hio with q | q
    · exact .inr q
    · simp at hm; rcases hm with rfl | rfl
      · exact .inl q.1
      · exact .inl q.2) e h fun vs H1 hl h1 => by
    match vs, hl, h1 with
    | [v, w], _, h1 => exact ⟨rfl, v, [w], rfl, w, [], rfl, rfl, h1⟩⟩
theorem s_parW3C (hc : X.calm = true) (hN : X.N.Nodup) (hio : φ.io = none ∨ (i ≠ 0 ∧ j ≠ 0 ∧ l ≠ 0)) (hgx : PG X (.Name x px) (gName i)) (hgy : PG X (.Name y py) (gName j)) (hgz : PG X (.Name z pz) (gName l)) (ha : JAw X φ [a, b, c] f)
    (hpx : (assignEach [.Name x px, .Name y py, .Name z pz] X.env).map (·.2) = assign (.Name x px) X.env :: (assignEach [.Name y py, .Name z pz] X.env).map (·.2) := by rfl)
    (hpy : (assignEach [.Name y py, .Name z pz] X.env).map (·.2) = assign (.Name y py) X.env :: (assignEach [.Name z pz] X.env).map (·.2) := by rfl)
    (hpz : (assignEach [.Name z pz] X.env).map (·.2) = assign (.Name z pz) X.env :: (assignEach [] X.env).map (·.2) := by rfl)
    (hw : swappedStores [.Tuple [.Name x px, .Name y py, .Name z pz] kt pt] (.Tuple [a, b, c] k2 pt2) X.env = pure none := by rfl)
    (hs : swapsWithSole [.Tuple [.Name x px, .Name y py, .Name z pz] kt pt] (.Tuple [a, b, c] k2 pt2) pos.line X.env = pure false := by rfl)
    (hn : (assignEach [.Name x px, .Name y py, .Name z pz] X.env).length = 3 := by rfl) (hst : (assignEach [.Name x px, .Name y py, .Name z pz] X.env).findIdx? (·.1) = none := by rfl)
    (h1 : (assignEach [.Tuple [.Name x px, .Name y py, .Name z pz] kt pt] X.env).map (·.2) = [assign (.Tuple [.Name x px, .Name y py, .Name z pz] kt pt) X.env] := by rfl) :
    JS X φ (.Assign [.Tuple [.Name x px, .Name y py, .Name z pz] kt pt] (.Tuple [a, b, c] k2 pt2) pos) (sParW [i, j, l] f) :=
  ⟨(ps_parU hc ha.j (pgs_cons hgx (pgs_cons hgy (pgs_cons hgz pgs_nil hpz) hpy) hpx) (by decide) hw hs hn hst h1).imp fun E σ H ⟨env, os, e, h⟩ => par_core (is := [i, j, l]) (fun m hm => by
    rcases hio with q | q
    · exact .inr q
    · simp at hm; rcases hm with rfl | rfl | rfl
      · exact .inl q.1
      · exact .inl q.2.1
      · exact .inl q.2.2) e h fun vs H1 hl h1 => by
    match vs, hl, h1 with
    | [v, w, u], _, h1 => exact ⟨rfl, v, [w, u], rfl, w, [u], rfl, u, [], rfl, rfl, h1⟩⟩
end
end Z

namespace Z
open PySem PySem.Spec PyProof.Rows L2

/-! ### min, max of a list of alike data -/
def okMM (ds : List D) : Bool := ds.all (fun a => !isNone a && decide (a.depth ≤ 60) && ds.all fun b => PySem.W.alike a b)
def mnD : D → Option D
  | .list (x :: xs) => if okMM (x :: xs) then some (PySem.W.minD x xs) else none
  | _ => none
def mxD : D → Option D
  | .list (x :: xs) => if okMM (x :: xs) then some (PySem.W.maxD x xs) else none
  | _ => none
theorem depthAll_le {n : Nat} : ∀ {ds : List D}, (∀ x ∈ ds, x.depth ≤ n) → PyData.depthAll ds ≤ n
  | [], _ => Nat.zero_le _
  | x :: ds, h => Nat.max_le.mpr ⟨h x List.mem_cons_self, depthAll_le fun y m => h y (List.mem_cons_of_mem _ m)⟩
theorem okMM_of {ds : List D} (h : okMM ds = true) : PySem.W.AlikeAll ds ∧ PyData.depthAll ds ≤ 60 := by
  have h := List.all_eq_true.mp h
  have one : ∀ x ∈ ds, x ≠ .none ∧ x.depth ≤ 60 ∧ ∀ y ∈ ds, PySem.W.alike x y = true := fun x m => by
    have := h x m
    simp only [Bool.and_eq_true, Bool.not_eq_true', decide_eq_true_eq, List.all_eq_true] at this
    exact ⟨fun z => by rw [z] at this; exact absurd this.1.1 (by simp [isNone]), this.1.2, this.2⟩
  exact ⟨⟨fun x m => (one x m).2.2, fun x m => (one x m).1⟩, depthAll_le fun x m => (one x m).2.1⟩
theorem RDs.at_val {H : Hp} {av : List Addr} : ∀ {vs : List V} {ds : List D} {us : List Value} {i : Nat} {u : Value}, RDs H av vs ds → Vals vs us → us[i]? = some u → ∃ v d, vs[i]? = some v ∧ ds[i]? = some d ∧ RD H av v d ∧ RelV v u
  | _, _, _, i, u, .nil, .nil, e => by simp at e
  | _, _, _, 0, u, .cons r _, .cons q _, e => by simp at e; subst e; exact ⟨_, _, rfl, rfl, r, q⟩
  | _, _, _, i + 1, u, .cons _ rr, .cons _ qq, e => by
    obtain ⟨v, d, h1, h2, h3, h4⟩ := RDs.at_val (i := i) rr qq (by simpa using e)
    exact ⟨v, d, by simpa using h1, by simpa using h2, h3, h4⟩
def rPick (f : D → List D → D) : rCl := fun vs H Q => ∃ (a : Addr) (xs : List V) (d : D) (ds : List D) (av : List Addr), vs = [.ref a] ∧ H a = some (.lst xs) ∧ RDs H av xs (d :: ds) ∧ okMM (d :: ds) = true ∧ ∀ v, RD H av v (f d ds) → Q v H
section
variable {X : Cx} {φ : Fm} {k : Nat} {W : WX} {p pos : Pos} {a : Expr} {f : Oe}
theorem cr_minD (hc : X.calm = true) (hu : X.A.units + 64 < cLine) : CallR X (.builtin "min") (rPick PySem.W.minD) := by
  intro pins s σ H vs us Q I r h
  obtain ⟨a, xs, d, ds, av, rfl, ha, rd, ok, q⟩ := h
  rw [Vals.ref1 r]
  obtain ⟨its, rv, pl, hz⟩ := I.list (SqL.of ha)
  obtain ⟨as, hr⟩ := RDs.reads I _ _ its rd rv
  obtain ⟨al, dp⟩ := okMM_of ok
  refine PySem.W.min_list_data (I.ok.hd hc) pl.isList (by simpa using hr) al (by omega) fun i u h' tk bs hi hm hk => ?_
  obtain ⟨v, di, _, _, h3, h4⟩ := RDs.at_val rd rv (i := i) (u := u) (by simpa using hi)
  obtain ⟨cs, r3⟩ := h3.reads I _ _ _ h4
  have e := (Reads.unique (PyProof.Rows.Reads.keeps hk r3) _ _ hm).1
  subst e
  exact ⟨v, H, I.kept (t' := tk) hk, h4, q v h3⟩
theorem cr_maxD (hc : X.calm = true) (hu : X.A.units + 64 < cLine) : CallR X (.builtin "max") (rPick PySem.W.maxD) := by
  intro pins s σ H vs us Q I r h
  obtain ⟨a, xs, d, ds, av, rfl, ha, rd, ok, q⟩ := h
  rw [Vals.ref1 r]
  obtain ⟨its, rv, pl, hz⟩ := I.list (SqL.of ha)
  obtain ⟨as, hr⟩ := RDs.reads I _ _ its rd rv
  obtain ⟨al, dp⟩ := okMM_of ok
  refine PySem.W.max_list_data (I.ok.hd hc) pl.isList (by simpa using hr) al (by omega) fun i u h' tk bs hi hm hk => ?_
  obtain ⟨v, di, _, _, h3, h4⟩ := RDs.at_val rd rv (i := i) (u := u) (by simpa using hi)
  obtain ⟨cs, r3⟩ := h3.reads I _ _ _ h4
  have e := (Reads.unique (PyProof.Rows.Reads.keeps hk r3) _ _ hm).1
  subst e
  exact ⟨v, H, I.kept (t' := tk) hk, h4, q v h3⟩
theorem s_pick {fl : D → List D → D} {op : D → Option D} (h1 : ∀ x xs, op (.list (x :: xs)) = if okMM (x :: xs) = true then some (fl x xs) else none) (h2 : ∀ d z, op d = some z → ∃ x xs, d = .list (x :: xs)) : C1S (rPick fl) op := fun {x d z H av Q} trk r e q => by
  obtain ⟨y, ys, rfl⟩ := h2 d z e
  rw [h1] at e
  split at e
  · next ok =>
    cases e
    obtain ⟨a, vs, rfl, e1, q1⟩ := r.list
    exact ⟨a, vs, y, ys, av, rfl, e1, q1, ok, fun v rv => q v H (Same.refl H) rv⟩
  · cases e
theorem z_minD (I : In k X W) (hm : X.mg "min" = none) (ha : JO X φ a f) (hg : Gl X "min" := by rfl) (he : starEach [a] X.env = (false, eval a X.env) :: starEach [] X.env := by rfl) (hpl : (backTo pos (starEach [] X.env)).any (·.1) = false := by rfl) : JE X φ (.Call (.Name "min" p) [a] [] pos) (xUn mnD f) :=
  z_b1 (cr_minD I.calm I.room.units) (s_pick (fun _ _ => rfl) fun d z h => by
    unfold mnD at h
    split at h
    · exact ⟨_, _, rfl⟩
    · cases h) hg hm boot_min ha (by decide) (by decide) he hpl
theorem z_maxD (I : In k X W) (hm : X.mg "max" = none) (ha : JO X φ a f) (hg : Gl X "max" := by rfl) (he : starEach [a] X.env = (false, eval a X.env) :: starEach [] X.env := by rfl) (hpl : (backTo pos (starEach [] X.env)).any (·.1) = false := by rfl) : JE X φ (.Call (.Name "max" p) [a] [] pos) (xUn mxD f) :=
  z_b1 (cr_maxD I.calm I.room.units) (s_pick (fun _ _ => rfl) fun d z h => by
    unfold mxD at h
    split at h
    · exact ⟨_, _, rfl⟩
    · cases h) hg hm boot_max ha (by decide) (by decide) he hpl

/-! ### methods that tell: o.m(e) -/
def tyD : String → D → Bool
  | "list", .list _ => true
  | "str", .str _ => true
  | _, _ => false
def xMeth (T : String) (op : D → List D → Option D) (f : Oe) (g : Ar) : Ev := fun e => f e >>= fun p => ofO ((rd p.1 p.2).bind fun d => if tyD T d = true then some d else none) >>= fun _ => g p.2 >>= fun q => ofO (rd p.1 q.2) >>= fun a => ofO (op a q.1) >>= fun z => .ok (z, q.2)
def MVS (r : V → List V → Hp → VK → Prop) (op : D → List D → Option D) : Prop := ∀ {x : V} {ws : List V} {d z : D} {ds : List D} {H : Hp} {av : List Addr} {Q : VK}, (∀ a ∈ av, ∃ o, H a = some o) → RB H av x d → RDs H av ws ds → op d ds = some z → (∀ v H', Same H H' → RD H' av v z → Q v H') → r x ws H Q
theorem tyV_of {K : PySem.W.Frag} {T : String} {H : Hp} {av : List Addr} {x : V} {d : D} (r : RB H av x d) (h : tyD T d = true) : tyV K T x H := by
  unfold tyD at h
  split at h
  · obtain ⟨a, vs, rfl, e, _⟩ := r.list
    exact tyV_lst e
  · rw [r.str]
    exact rfl
  · cases h
theorem z_meth {T name id : String} {r : V → List V → Hp → VK → Prop} {op : D → List D → Option D} {g : Ar} {o e : Expr} {es : List Expr} {apos cpos : Pos} (pa : PlainAttrs T) (slot : Slot T name id) (hty : typeOf (.builtin id) = pure (.type "method_descriptor")) (hm : MtR X id r) (hs : MVS r op) (ho : JO X φ o f) (hf : JA X φ (e :: es) g)
    (hbase : attributeBase o name X.env (eval o X.env) = eval o X.env)
    (hfew : ((backTo cpos (starEach (e :: es) X.env)).all (fun x => !x.1) && (backToKw cpos (keywordEach [] X.env)).all (fun x => x.1.isSome)
      && decide ((e :: es).length + ([] : List Keyword).length + (if ([] : List Keyword).isEmpty then 0 else 1) < 30)) = true)
    (hline : (apos.endLine == cpos.line) = true) (hst : starEach (e :: es) X.env = (false, eval e X.env) :: starEach es X.env) (hplain : (backTo cpos (starEach es X.env)).any (·.1) = false) :
    JE X φ (.Call (.Attribute o name apos) (e :: es) [] cpos) (xMeth T op f g) :=
  ⟨(pe_bm pa slot hty hm ho.j hf.j hbase hfew hline hst hplain).imp fun σ H Q ⟨env, os, e, h⟩ => by
    have h : OutR X φ rD os σ H (f env >>= fun p => ofO ((rd p.1 p.2).bind fun d => if tyD T d = true then some d else none) >>= fun _ => g p.2 >>= fun q => ofO (rd p.1 q.2) >>= fun a => ofO (op a q.1) >>= fun z => .ok (z, q.2)) Q := h
    refine seq_core2 (relA := rO σ) e h fun x o H1 env1 os1 x1 s1 e1 r1 h1 => ?_
    obtain ⟨d0, z0, h2⟩ := OutR.opt h1
    obtain ⟨d, z1, z2⟩ := Option.bind_eq_some_iff.mp z0
    split at z2
    · next ty =>
      cases z2
      refine ⟨tyV_of (rd_rb e1 r1 z1) ty, ?_⟩
      refine seq_core2 (relA := rDs) e1 h2 fun ws ds H2 env2 os2 x2 s2 e2 r2 h3 => ?_
      obtain ⟨d2, w1, h4⟩ := OutR.opt h3
      obtain ⟨z, w2, h5⟩ := OutR.opt h4
      exact hs e2.trk (rd_rb e2 (rO.step r1 x2 s2) w1) r2 w2 fun v H' sm rv => OutR.ret h5 v sm e2 rv
    · cases z2⟩
def firstAt (ds : List D) (d : D) : Option Nat := ds.findIdx? fun z => PyData.eqv z d
def indexD : D → List D → Option D
  | .list ds, [d] => if SeqAt.shaped (.list ds) && SeqAt.shaped d then (match firstAt ds d with
    | some j => some (.int (j : Nat))
    | none => none) else none
  | _, _ => none
theorem RB.dpl {K : PySem.W.Frag} {H : Hp} {av : List Addr} {v : V} {ds : List D} (h : RB H av v (.list ds)) (c : (PyData.list ds).canLay0 = true) : ∃ a, v = .ref a ∧ Dp K H (.ref a) (.list ds) := by
  obtain ⟨a, vs, rfl, e, r⟩ := h.list
  exact ⟨a, rfl, .lst (SqL.of e) (RDs.dp (by simpa [PyData.canLay0] using c) r)⟩
theorem s_index {K : PySem.W.Frag} : MVS (rIndexD K) indexD := fun {x ws d z ds H av Q} trk r rs e q => by
  unfold indexD at e
  split at e
  · next xs y =>
    split at e
    · next hs =>
      obtain ⟨h1, h2⟩ := Bool.and_eq_true_iff.mp hs
      split at e
      · next j hj =>
        cases e
        obtain ⟨hlt, hp, hno⟩ := List.findIdx?_eq_some_iff_getElem.mp hj
        obtain ⟨a, rfl, dp⟩ := r.dpl (K := K) (SeqAt.canLay_of_shaped h1)
        cases rs with
        | cons r1 r2 =>
          cases r2
          refine ⟨a, _, y, xs, j, xs[j], rfl, rfl, dp, RD.dp (SeqAt.canLay_of_shaped h2) r1, h1, h2, List.getElem?_eq_getElem hlt, hp, fun m z' hm hz => ?_, q _ H (Same.refl H) (.int _)⟩
          have := hno m hm
          have hz2 : xs[m]'(by omega) = z' := by
            obtain ⟨_, e⟩ := List.getElem?_eq_some_iff.mp hz
            exact e
          rw [hz2] at this
          simpa using this
      · cases e
    · cases e
  · cases e
section
variable {o e : Expr} {apos cpos : Pos} {g : Ar}
theorem z_index (I : In k X W) (ho : JO X φ o f) (hf : JA X φ [e] g) (hbase : attributeBase o "index" X.env (eval o X.env) = eval o X.env := by rfl)
    (hfew : ((backTo cpos (starEach [e] X.env)).all (fun x => !x.1) && (backToKw cpos (keywordEach [] X.env)).all (fun x => x.1.isSome)
      && decide ([e].length + ([] : List Keyword).length + (if ([] : List Keyword).isEmpty then 0 else 1) < 30)) = true := by rfl)
    (hline : (apos.endLine == cpos.line) = true := by rfl) (hst : starEach [e] X.env = (false, eval e X.env) :: starEach [] X.env := by rfl) (hplain : (backTo cpos (starEach [] X.env)).any (·.1) = false := by rfl) :
    JE X φ (.Call (.Attribute o "index" apos) [e] [] cpos) (xMeth "list" indexD f g) := z_meth PySem.F.plainAttrs_list PySem.F.slot_list_index PySem.F.type_list_index (mt_indexD (by have := I.room.un; omega)) s_index ho hf hbase hfew hline hst hplain
end
end
end Z

namespace Z
open PySem PySem.Spec PyProof.Rows L2 PySem.Calls

/-! ### keys that are tuples, nested -/
mutual
def nk : D → Option NestedKey
  | .none => some .none
  | .bool b => some (.num (if b = true then 1 else 0))
  | .int i => some (.num i)
  | .str x => some (.text x)
  | .tuple ds => (nks ds).map .tup
  | _ => none
def nks : List D → Option (List NestedKey)
  | [] => some []
  | d :: ds => match nk d, nks ds with
    | some k, some ks => some (k :: ks)
    | _, _ => none
end
section
variable {X : Cx} {pins : List (Addr × Obj)} {σ : L2.St} {H : Hp} {s : Shared} {av : List Addr}
mutual
theorem RD.nested (I : Inv X pins σ H s) : ∀ {d : D} {v : V} {u : Value} {k : NestedKey}, RD H av v d → RelV v u → nk d = some k → NestedIs s.heap k u
  | .none, _, _, _, h, r, e => by cases h; cases r; cases e; exact .none
  | .bool b, _, _, _, h, r, e => by cases h; cases r; cases e; exact .bool rfl
  | .int i, _, _, _, h, r, e => by cases h; obtain ⟨t, rfl⟩ := r; cases e; exact .int i t
  | .str x, _, _, _, h, r, e => by cases h; obtain ⟨t, rfl⟩ := r; cases e; exact .text x t
  | .list ds, _, _, _, h, r, e => by cases e
  | .tuple ds, _, _, _, h, r, e => by
    cases h with
    | tup e1 ne q =>
      cases r
      obtain ⟨its, rv, ⟨o, ho, hc, n, hd⟩, _⟩ := I.tuple (SqT.of e1)
      obtain ⟨ks, e2, rfl⟩ := Option.map_eq_some_iff.mp (show (nks ds).map NestedKey.tup = some _ from e)
      exact .tup ho hc hd (by simpa using RDs.nested I q rv e2)
  | .dict kvs, _, _, _, h, r, e => by cases e
theorem RDs.nested (I : Inv X pins σ H s) : ∀ {ds : List D} {vs : List V} {us : List Value} {ks : List NestedKey}, RDs H av vs ds → Vals vs us → nks ds = some ks → NestedAll s.heap ks us
  | [], _, _, _, h, r, e => by cases h; cases r; cases e; exact .nil
  | d :: ds, _, _, _, h, r, e => by
    cases h with
    | cons h1 h2 =>
      cases r with
      | cons r1 r2 =>
        have e : (match nk d, nks ds with
          | some k, some ks => some (k :: ks)
          | _, _ => none) = some _ := e
        split at e
        · next k ks e1 e2 => cases e; exact .cons (RD.nested I h1 r1 e1) (RDs.nested I h2 r2 e2)
        · cases e
end
end
/-- at b stands the key of d -/
def NK (H : Hp) (k : NestedKey) (b : Addr) (d : D) : Prop := nk d = some k ∧ k.depth ≤ 8 ∧ RD H [] (.ref b) d
theorem NK.same {H H' : Hp} {k : NestedKey} {b : Addr} {d : D} (h : NK H k b d) (s : Same H H') : NK H' k b d := ⟨h.1, h.2.1, h.2.2.same s⟩
abbrev KX := NestedKey × Addr × Value
section
variable {X : Cx} {pins : List (Addr × Obj)} {σ : L2.St} {H : Hp} {s : Shared} {E : Value → Shared → Prop}
theorem NK.is (I : Inv X pins σ H s) {k : NestedKey} {b : Addr} {d : D} (h : NK H k b d) : (nestedKind X.prog X.w).is s.heap k b := ⟨h.2.2.nested I (show RelV (.ref b) (.ref b) from rfl) h.1, h.2.1⟩
/-- d[k] = v in a comprehension -/
theorem d_dictSetN {D : Addr} {es : Array DictEntry} {ep : Nat} {xs : List KX} {k : NestedKey} {b : Addr} {kd : Z.D} {r : Value} {Q : Unit → Shared → Prop} (hu : X.A.units + 64 < cLine) (I : Inv X pins σ H s) (hD : H D = some (dictO D es ep)) (he : es.toList = xs.map (entryOfKey (nestedKind X.prog X.w)))
    (hn : (xs.map (·.1)).Nodup) (hk : ∀ x ∈ xs, ∃ d, NK H x.1 x.2.1 d) (hb : NK H k b kd) (hz : xs.length ≤ sizeLine)
    (h : ∀ s' es' ep', es'.toList = (storedH xs k b r).map (entryOfKey (nestedKind X.prog X.w)) → ((storedH xs k b r).map (·.1)).Nodup → Inv X pins σ (upd H D (dictO D es' ep')) s' → Q () s') : wpAny (model X.prog X.w) X.A (dictSet D (.ref b) r) Q E s := by
  obtain ⟨⟨o, ho, hx, hd⟩, big⟩ := dictO_at I.hok hD
  refine wpAny_dictSet_heap (knd := nestedKind X.prog X.w) (hsz := hz) (show X.A.units + 8 < cLine by omega) (hb.is I) ⟨o, es, ep, ho, hx, hd, he, fun x m => let ⟨d, hd⟩ := hk x m; hd.is I, hn⟩ fun h' hm hs => ?_
  obtain ⟨o', es', ep', ho', hx', hd', he', _, hn'⟩ := hm
  exact h _ es' ep' he' hn' (d_write I (by rw [hD]; exact True.intro) hs ⟨_, ho'⟩ (dictO_ok ⟨o', ho', hx', hd'⟩ big))
end
/-! ### sorted(keys) -/
def nonTup : D → Bool
  | .tuple _ => false
  | _ => true
def neTup : D → Bool
  | .tuple (_ :: _) => true
  | _ => false
def okSort (ds : List D) : Bool := okMM ds && (ds.all neTup || ds.all nonTup)
theorem okSort_of {ds : List D} (h : okSort ds = true) : PySem.W.AllAlike ds ∧ PySem.W.Sortable ds ∧ ∀ d ∈ ds, d.depth ≤ 60 := by
  obtain ⟨h1, h2⟩ := Bool.and_eq_true_iff.mp h
  obtain ⟨a, b⟩ := okMM_of h1
  have dep : ∀ {ds : List D} {d : D}, d ∈ ds → d.depth ≤ PyData.depthAll ds := fun {ds d} m => by
    induction ds with
    | nil => cases m
    | cons x ds ih =>
      rcases List.mem_cons.mp m with rfl | m
      · exact Nat.le_max_left _ _
      · exact Nat.le_trans (ih m) (Nat.le_max_right _ _)
  refine ⟨fun d m d' m' => a.1 d m d' m', ?_, fun d m => Nat.le_trans (dep m) b⟩
  rcases Bool.or_eq_true_iff.mp h2 with q | q
  · refine .inl fun d m => ?_
    have := List.all_eq_true.mp q d m
    unfold neTup at this
    split at this
    · exact ⟨_, _, rfl⟩
    · cases this
  · refine .inr fun d m => ⟨a.2 d m, fun xs z => ?_⟩
    have := List.all_eq_true.mp q d m
    rw [z] at this
    cases this
def rSortK : rCl := fun vs H Q => ∃ (d : Addr) (es : Array DictEntry) (ep : Nat) (ks : List (D × Addr)), vs = [.ref d] ∧ H d = some (dictO d es ep) ∧ es.toList.map (·.key) = ks.map (fun x => Value.ref x.2) ∧ (∀ x ∈ ks, RD H [] (.ref x.2) x.1) ∧ okSort (ks.map (·.1)) = true ∧ ks.length ≤ 100000 ∧
  ∀ (p : Addr) (out : List (D × Addr)), H p = none → (∀ x ∈ out, x ∈ ks) → out.map (·.1) = (ks.map (·.1)).mergeSort (PySem.W.dataLe false id) → Q (.ref p) (upd H p (.lst (out.map fun x => V.ref x.2)))
theorem eachK_out {ks : List (D × Addr)} : ∀ {out : List Value} {ds : List D}, PySem.W.EachIs (fun v d => ∃ x ∈ ks, v = Value.ref x.2 ∧ d = x.1) out ds → ∃ o : List (D × Addr), (∀ x ∈ o, x ∈ ks) ∧ out = o.map (fun x => Value.ref x.2) ∧ ds = o.map (·.1)
  | _, _, .nil => ⟨[], fun x m => absurd m (by simp), rfl, rfl⟩
  | _, _, .cons ⟨x, m, e1, e2⟩ t => by
    obtain ⟨o, h1, h2, h3⟩ := eachK_out t
    exact ⟨x :: o, fun y my => (List.mem_cons.mp my).elim (fun z => by rw [z]; exact m) (h1 y), by rw [e1, h2]; rfl, by rw [e2, h3]; rfl⟩
theorem eachK_in {ks0 : List (D × Addr)} : ∀ (ks : List (D × Addr)), (∀ x ∈ ks, x ∈ ks0) → PySem.W.EachIs (fun v d => ∃ x ∈ ks0, v = Value.ref x.2 ∧ d = x.1) (ks.map fun x => Value.ref x.2) (ks.map (·.1))
  | [], _ => .nil
  | x :: ks, h => .cons ⟨x, h x List.mem_cons_self, rfl, rfl⟩ (eachK_in ks fun y m => h y (List.mem_cons_of_mem _ m))
theorem valsK {o : List (D × Addr)} : Vals (o.map fun x => V.ref x.2) (o.map fun x => Value.ref x.2) := by
  induction o with
  | nil => exact .nil
  | cons x o ih => exact .cons rfl ih
section
variable {X : Cx}
theorem reads_there {h : Heap} {v : Value} {d : D} {as : List Addr} (r : Reads h v d as) : ∀ a ∈ as, ∃ o, h.get? a = some o := by
  refine Reads.rec (motive_1 := fun v d as _ => ∀ a ∈ as, ∃ o, h.get? a = some o) (motive_2 := fun vs ds as _ => ∀ a ∈ as, ∃ o, h.get? a = some o) ?_ ?_ ?_ ?_ ?_ ?_ ?_ ?_ ?_ r
  · intro a m; cases m
  · intro _ a m; cases m
  · intro _ _ a m; cases m
  · intro _ _ a m; cases m
  · intro a o vs n xs as ho _ _ _ ih b m
    rcases List.mem_cons.mp m with rfl | m
    · exact ⟨_, ho⟩
    · exact ih b m
  · intro a o vs n xs as ho _ _ _ ih b m
    exact ih b m
  · intro a o es n kvs as bs ho _ _ _ _ ih1 ih2 b m
    rcases List.mem_append.mp m with m | m
    · rcases List.mem_cons.mp m with rfl | m
      · exact ⟨_, ho⟩
      · exact ih1 b m
    · exact ih2 b m
  · intro a m; cases m
  · intro v vs d ds as bs _ _ ih1 ih2 a m
    rcases List.mem_append.mp m with m | m
    · exact ih1 a m
    · exact ih2 a m
theorem call_sortK (hc : X.calm = true) (hu : X.A.units + 64 < cLine) : CallR X (.builtin "sorted") rSortK := by
  intro pins s σ H vs us Q I r h
  obtain ⟨d, es, ep, ks, rfl, hd, hk, hks, hok, hz, q⟩ := h
  rw [Vals.ref1 r]
  obtain ⟨raw, big⟩ := dictO_at I.hok hd
  obtain ⟨al, so, dp⟩ := okSort_of hok
  have hn : es.size = ks.length := by
    have := congrArg List.length hk
    rw [List.length_map, List.length_map, Array.length_toList] at this
    exact this
  have h16 : es.size ≤ sizeLine := by rw [hn, sizeLine_eq]; exact Nat.le_trans hz (by decide)
  refine Calls.call_function_entry PyProof.Rows.kind_sorted PyProof.Rows.plain_sorted PyProof.Rows.entry_sorted (PyProof.Rows.args_sorted1 _) ?_
  unfold Builtin.«sorted»
  refine wpAny_bind (m := checkCount "sorted" 1 1 _) (wpAny_pure ?_)
  refine wpAny_bind (PySem.W.kdu_collect (A := X.A.in1) (PySem.KdlSrc.rawDict (prog := X.prog) (w := X.w) big) (I.ok.hd hc) raw h16 fun h' tk acc hkp hacc => ?_)
  have hal : acc.toList = ks.map (fun x => Value.ref x.2) := by
    rw [← hk]
    refine List.ext_getElem? fun i => ?_
    rw [List.getElem?_map, Array.getElem?_toList, Array.getElem?_toList]
    by_cases hi : i < es.size
    · have hi' : i < acc.size := by rw [hacc.1]; exact hi
      obtain ⟨_, hv⟩ := hacc.2 i acc[i] (Array.getElem?_eq_getElem hi')
      rw [Array.getElem?_eq_getElem hi', Array.getElem?_eq_getElem hi, hv]
      rfl
    · rw [Array.getElem?_eq_none (by rw [hacc.1]; omega), Array.getElem?_eq_none (by omega)]; rfl
  have I1 : Inv X pins σ H { s with heap := h', toks := tk } := I.kept hkp
  refine wpAny_bind (wpAny_newList ?_ (by rw [hal, List.length_map, ← hn]; exact h16))
  have hoL : (h'.push (seqObj "list" acc.toList.toArray 0)).get? h'.objs.size = some (seqObj "list" acc.toList.toArray 0) := Heap.get?_push_size _ rfl
  show wpAny _ _ _ _ _ { s with heap := h'.push (seqObj "list" acc.toList.toArray 0), toks := tk }
  have er : PySem.W.EachIs (fun v b => ∃ as, Reads (h'.push (seqObj "list" acc.toList.toArray 0)) v (id b) as ∧ h'.objs.size ∉ as) acc.toList (ks.map (·.1)) := by
    rw [hal]
    refine (eachK_in ks fun x m => m).mono fun v b ⟨x, m, e1, e2⟩ => ?_
    subst e1 e2
    obtain ⟨as, rr⟩ := (hks x m).reads I1 _ _ _ (show RelV (.ref x.2) (.ref x.2) from rfl)
    refine ⟨as, PyProof.Rows.Reads.keeps (fun b o e => Heap.get?_push_of_some _ e) rr, fun z => ?_⟩
    obtain ⟨o, ho⟩ := reads_there rr _ z
    exact Nat.lt_irrefl _ (Heap.lt_size ho)
  refine wpAny_bind (wpAny_holding (PySem.W.list_sort_data (enc := id) (bs := ks.map (·.1)) (R := fun v d => ∃ x ∈ ks, v = Value.ref x.2 ∧ d = x.1) (s := { s with heap := h'.push (seqObj "list" acc.toList.toArray 0), toks := tk }) hoL (by rw [hal]; exact eachK_in ks fun x m => m) er (by rw [List.map_id]; exact al) (by rw [List.map_id]; exact so) (by rw [List.length_map, ← hn]; exact h16) (fun b m => ?_) fun out ho eo => ?_))
  · have := dp b m
    show X.A.units + 1 + 1 + b.depth < cLine
    omega
  · obtain ⟨o, h1, h2, h3⟩ := eachK_out eo
    obtain ⟨e', he'⟩ := PyProof.Rows.sortedHeap_at (vs := acc.toList) (out := out.toArray) hoL
    have hlen : (o.map fun x => V.ref x.2).length ≤ sizeLine := by
      have : out.length = o.length := by rw [h2, List.length_map]
      rw [List.length_map, ← this, ho, List.length_map, ← hn]; exact h16
    refine wpAny_pure ⟨_, rfl, .ref h'.objs.size, upd H h'.objs.size (.lst (o.map fun x => V.ref x.2)), I1.laid (t' := tk) (fun b u e => ?_) (Nat.le_refl _)
      (show ObjOk X.prog X.w _ _ _ (.lst (o.map fun x => V.ref x.2)) from ⟨hlen, out, e', by rw [h2]; exact valsK, he'⟩), rfl, q _ o (I1.hok.fresh (Nat.le_refl _)) h1 h3.symm⟩
    have hb : b < h'.objs.size := Heap.lt_size e
    rw [PyProof.Rows.sortedHeap_old (Nat.ne_of_lt hb) (by rw [size_push']; exact Nat.lt_succ_of_lt hb)]
    exact Heap.get?_push_of_some _ e
end
/-! ### {k: v for target in iter if ..}, keys tuples -/
/-- what the reading asks at the end of a turn: the pair is laid into the dict at D -/
def PutN (X : Cx) (D : Addr) (y : V) (H : Hp) (Nx : Hp → Prop) : Prop := ∃ (es : Array DictEntry) (ep : Nat) (xs : List KX) (k : NestedKey) (b : Addr) (kd : Z.D), y = .ref b ∧ H D = some (dictO D es ep) ∧ es.toList = xs.map (entryOfKey (nestedKind X.prog X.w)) ∧ (xs.map (·.1)).Nodup ∧
  (∀ x ∈ xs, ∃ d, NK H x.1 x.2.1 d) ∧ NK H k b kd ∧ xs.length < sizeLine ∧
  ∀ (r : Value) (es' : Array DictEntry) (ep' : Nat), es'.toList = (storedH xs k b r).map (entryOfKey (nestedKind X.prog X.w)) → ((storedH xs k b r).map (·.1)).Nodup → Nx (upd H D (dictO D es' ep'))
def tDcN (X : Cx) (wi : TI) (g : TG) (tt : TT) (tk tv : TE) (vs : List Nat) : TE := fun σ H Q => wi σ H fun J H1 => ∀ D, H1 D = none → ∃ W : Nat → Nat → Hp → Prop, (∃ m, W 0 m (upd H1 D (dictO D #[] 0))) ∧ ∀ i m H, W i m H →
  (J.stop i H ∧ Q (.ref D) H) ∨ (J.go i H ∧ ∃ Nx : Hp → Prop, (∀ H', Nx H' → ∃ m', m' < m ∧ W (i + 1) m' H') ∧ ∀ x H', J.yld i H x H' → g x (wipe σ vs) H' fun σ2 H2 => wipe σ2 vs = wipe σ vs ∧ tt σ2 H2 fun b H3 =>
    if b = true then tk σ2 H3 fun y H4 => tv σ2 H4 fun _ H5 => PutN X D y H5 Nx else Nx H3)
section
variable {X : Cx} {pins : List (Addr × Obj)} {σ : L2.St} {H : Hp} {s : Shared}
theorem put_run {Y : Cx} {D : Addr} {y : V} {u r : Value} {Nx : Hp → Prop} {E : Value → Shared → Prop} {Q : Unit → Shared → Prop} (hp : Y.prog = X.prog) (hw : Y.w = X.w) (hu : Y.A.units + 64 < cLine) (I : Inv Y pins σ H s) (ry : RelV y u) (p : PutN X D y H Nx)
    (h : ∀ s' H', Inv Y pins σ H' s' → Nx H' → Q () s') : wpAny (model Y.prog Y.w) Y.A (dictSet D u r) Q E s := by
  obtain ⟨es, ep, xs, k, b, kd, rfl, hD, he, hn, hk, hb, hz, nx⟩ := p
  cases ry
  rw [← hp, ← hw] at he nx
  exact d_dictSetN hu I hD he hn hk hb (Nat.le_of_lt hz) fun s' es' ep' a b I' => h s' _ I' (nx r es' ep' a b)
theorem free_has {scope : Scope} {own : List (Str × Nat)} (I : Inv X pins σ H s) (ok : BlkOk X.N X.env.scope scope own) : ∀ y ∈ scope.names, y.2 = .free → ∃ c, X.env.cells.lookup y.1 = some c :=
  fun y hy e => (ok.free y hy e).elim (fun k => I.ok.has _ (.inl k)) fun k => I.ok.has _ (.inr k)
theorem pe_dcN {kx vx tg iter : Expr} {ifs : List Expr} {scope : Scope} {own : List (Str × Nat)} {pos : Pos} {wi : TI} {g : TG} {tt : TT} {tk tv : TE} (hc : X.calm = true) (hu : X.A.units + 64 < cLine) (hN : X.N.Nodup) (hi : PI X tg iter wi) (ok : BlkOk X.N X.env.scope scope own)
    (hB : ∀ (s : Shared) (H : Hp) (C : Addr) (cl : List (Str × Addr)) (fp : List Addr), PG (X.blk s H scope (compEnvC scope cl C X.env) fp) tg g ∧ PTs (X.blk s H scope (compEnvC scope cl C X.env) fp) ifs tt ∧ PE (X.blk s H scope (compEnvC scope cl C X.env) fp) kx tk ∧ PE (X.blk s H scope (compEnvC scope cl C X.env) fp) vx tv)
    (hs : ∀ x, foldedSetIterable iter X.env x = pure x := by intro _; rfl) : PE X (.DictComp kx vx [⟨tg, iter, ifs, 0⟩] scope pos) (tDcN X wi g tt tk tv (own.map (·.2))) := by
  refine ⟨fun pins s σ H Q I h => ?_⟩
  rw [arm_eval_DictComp]
  refine wpAny_comprehension_free rfl hs (closure_ok (free_has I ok)) ok.kind (fun y hy e => by rw [ok.uniq y hy, e]) (thn (hi.run pins s σ H _ I h) fun _ s1 a1 => thn a1 fun _ s2 ⟨it, fp, tn, J, H2, eit, I2, T, t0, fok, q⟩ => ?_)
  subst eit
  refine wpAny_newObj_type (newEnv_comp ?_)
  -- D: where the dict stands; one: the state behind its making
  let D := s2.heap.objs.size
  let h3 := s2.heap.push { cls := .type "dict", data := .dict #[] }
  let one : Shared := { s2 with heap := h3 }
  let H3 : Hp := upd H2 D (dictO D #[] 0)
  obtain ⟨W, ⟨m0, w0⟩, turn⟩ := q D (I2.hok.fresh (Nat.le_refl _))
  have old : ∀ b o, s2.heap.get? b = some o → h3.get? b = some o := fun b o e => Heap.get?_push_of_some _ e
  have I3 : Inv X pins σ H3 one := I2.laid (t' := s2.toks) old (Nat.le_refl _) (dictO_ok ⟨_, Heap.get?_push_size _ rfl, ⟨rfl, rfl, rfl⟩, rfl⟩ (beq_eq_false_iff_ne.mpr (Nat.ne_of_gt I2.big)))
  have lt3 : ∀ b ∈ fp, b < D := fun b hb => let ⟨_, e, _⟩ := T.obj _ _ t0 b hb; Heap.lt_size e
  have f3 : ∀ b ∈ fp, FpOk X pins H3 b ∧ b < h3.objs.size := fun b hb =>
    ⟨⟨by show upd H2 D _ b = none; rw [upd_ne (Nat.ne_of_lt (lt3 b hb))]; exact (fok b hb).1, (fok b hb).2⟩, by show b < (s2.heap.push _).objs.size; rw [Heap.size_push]; exact Nat.lt_succ_of_lt (lt3 b hb)⟩
  have I4 := block_start I3 ok hN f3
  obtain ⟨pg, pt, pk, pv⟩ := hB one H3 one.heap.objs.size (cellsFrom (one.heap.objs.size + 1) scope.names (cloFrom X.env.cells scope.names [])) fp
  let ce := compEnvC scope (cellsFrom (one.heap.objs.size + 1) scope.names (cloFrom X.env.cells scope.names [])) one.heap.objs.size X.env
  let Y := X.blk one H3 scope ce fp
  let four : Shared := { one with heap := pushCells (h3.push { cls := .type "dict", data := .dict #[] }) scope.names }
  have t4 : tn 0 four.heap := T.keep _ _ _ t0 fun b _ o e => pushCells_keeps _ _ _ _ (Heap.get?_push_of_some _ (old b o e))
  have calmFp : ∀ {σ' : L2.St} {H' : Hp} {s' : Shared}, Inv Y [] σ' H' s' → (∀ b ∈ fp, H' b = none) → ∀ b ∈ fp, FpOk Y [] H' b := fun I' hn b hb =>
    ⟨hn b hb, (I'.ok.exf b hb).1, I'.ok.exfs b hb, .inl hb, (I'.ok.exf b hb).2, fun p hp => absurd hp (by simp [Y, Cx.blk])⟩
  have loop : codeAny (model X.prog X.w) X.A (.compLoop (.DictComp kx vx [⟨tg, iter, ifs, 0⟩] scope pos) 0 (.ref it) (.ref D) ce) (compPost (model X.prog X.w) X.A X.xe none (EP X pins σ Q) (.ref D) one.heap.objs.size) four := by
    refine compLoop_anyD (fun n s' => ∃ i H', Inv Y [] (wipe σ (own.map (·.2))) H' s' ∧ tn i s'.heap ∧ (∀ b ∈ fp, H' b = none) ∧ W i n H') ?_ m0 ⟨0, H3, I4, t4, fun b hb => (f3 b hb).1.1, w0⟩
    rintro n s5 ⟨i, H5, I5, t5, n5, w5⟩
    rcases turn i n H5 w5 with ⟨stop, done⟩ | ⟨go, Nx, nxt, step⟩
    · refine thnF (T.done Y rfl rfl rfl hc i [] s5 _ H5 (fun _ _ => False) I5 (calmFp I5 n5) t5 stop) fun r s6 ⟨er, I6⟩ => ?_
      subst er
      have I7 : Inv X pins σ H5 s6 := I3.call' (ch := fp) I6.os I6.base I6.hok I6.bare fun b hb => let f := (f3 b hb).1; ⟨f.2.2.2.1, f.2.1, f.2.2.2.2.1, f.2.2.2.2.2⟩
      obtain ⟨m, hn, _⟩ := I6.loc
      have free : H5 one.heap.objs.size = none := I6.free
      obtain ⟨f0, f1, f2, f3', f4, f5⟩ := I3.fpOk (Nat.le_refl _) free
      exact ⟨m, hn, fun h'' sb => ⟨.ref D, H5, I7.turned (t' := s6.toks) (fun b o hb e => (sb.2 b hb).trans e) f0 f1 f3' f4 f5, rfl, done⟩⟩
    · refine thnF (T.item Y rfl rfl rfl hc i [] s5 _ H5 (fun _ _ => False) I5 (calmFp I5 n5) t5 go) fun r s6 ⟨u, er, a6⟩ => ?_
      subst er
      refine thnF a6 fun _ s7 ⟨x, H7, I7, rx, y7, t7, n7⟩ => ?_
      refine thnF (pg.run _ s7 _ H7 x u _ (I7.pinned (calmFp I7 n7) (T.obj _ _ t7)) rx (step x H7 y7)) fun _ s8 ⟨σ8, H8, I8, w8, q8⟩ => ?_
      refine thnF (pt.run _ s8 σ8 H8 _ I8 q8) fun b s9 ⟨H9, I9, q9⟩ => ?_
      have next : ∀ s' H', Inv Y ([] ++ pinsAt fp s7.heap) σ8 H' s' → Nx H' → ∃ m, m < n ∧ ∃ i H', Inv Y [] (wipe σ (own.map (·.2))) H' s' ∧ tn i s'.heap ∧ (∀ b ∈ fp, H' b = none) ∧ W i m H' := fun s' H' I' nx => by
        obtain ⟨m', lt, w'⟩ := nxt H' nx
        have there : ∀ b ∈ fp, ∀ o, s7.heap.get? b = some o → s'.heap.get? b = some o ∧ H' b = none := fun b hb o e =>
          let z := I'.pin (b, o) (List.mem_append_right _ (List.mem_append_right _ (mem_pinsAt hb e)))
          ⟨z.1, z.2.1⟩
        refine ⟨m', lt, i + 1, H', (I'.unpinned (pins := [])).weak (by rw [← w8, wipe_length]) (fun j v e => (wipe_some (by rw [w8]; exact e)).1), T.keep _ _ _ t7 fun b hb o e => (there b hb o e).1, fun b hb => ?_, w'⟩
        obtain ⟨o, e, _⟩ := T.obj _ _ t7 b hb
        exact (there b hb o e).2
      cases b with
      | false => exact next s9 H9 I9 q9
      | true =>
        refine thnF (pk.run _ s9 σ8 H9 _ I9 q9) fun kv s10 ⟨yk, H10, I10, rk, q10⟩ => ?_
        refine thnF (pv.run _ s10 σ8 H10 _ I10 q10) fun vv s11 ⟨yv, H11, I11, rv, put⟩ => ?_
        exact put_run (X := X) (Y := Y) rfl rfl hu I11 rk put next
  exact codeAny_compStart_dict loop (T.self X.A 0 _ _ _ t4 loop)
end
/-! ### the turns of any comprehension -/
def outG (Acc : Addr → Hp → List Addr → List D → Prop) (φ : Fm) (own : List Nat) (os1 : List Addr) (σ : L2.St) (H1 : Hp) (D : Addr) (r : Res (List Z.D × VEnv)) (Q : VK) : Prop := match r with
  | .ok z => ∀ H os, Ext os1 H1 H → Sub H1 os1 os → ERel (φ.in_ D) (wipeE z.2 own) σ H os → Acc D H ((φ.in_ D).bs ++ os) z.1 → Q (.ref D) H
  | _ => False
section
variable {X : Cx} {φ : Fm} {σ : L2.St} {H1 : Hp} {os1 : List Addr} {own is : List Nat} {sv : Sv} {ts : Te} {el : Ev}
theorem comp_loopG {Acc : Addr → Hp → List Addr → List Z.D → Prop} {o0 : HO} {Put : V → Hp → (Hp → Prop) → Prop} {g : TG} {tt : TT} {te : TE} {J : It} {ds : List D} {e1 : VEnv} {Q : VK} (h0 : 0 ∉ own ∨ φ.io = none) (hsub : ∀ j ∈ is, j ∈ own)
    (hg : ∀ D, GS (φ.in_ D) g is sv) (ht : ∀ D σ H Q, tR X (φ.in_ D) rB ts σ H Q → tt σ H Q) (he : ∀ D σ H Q, tR X (φ.in_ D) rD el σ H Q → te σ H Q)
    (er : ERel φ e1 σ H1 os1) (y : Yl J H1 (φ.bs ++ os1) ds) (hz : ds.length ≤ sizeLine) (D : Addr) (hD : H1 D = none)
    (k0 : ∀ H av, H D = some o0 → Acc D H av []) (k1 : ∀ H H' os os' acc, Acc D H ((φ.in_ D).bs ++ os) acc → Ext os H H' → Sub H os os' → D ∉ os → Acc D H' ((φ.in_ D).bs ++ os') acc)
    (k2 : ∀ H os acc yv yd (Nx : Hp → Prop), Acc D H ((φ.in_ D).bs ++ os) acc → RD H ((φ.in_ D).bs ++ os) yv yd → (∃ e4 e5, el e4 = .ok (yd, e5)) → acc.length < sizeLine → (∀ o, Acc D (upd H D o) ((φ.in_ D).bs ++ os) (acc ++ [yd]) → Nx (upd H D o)) → Put yv H Nx)
    (hout : outG Acc φ own os1 σ H1 D (compGo own sv ts el ds (wipeE e1 own)) Q) :
    ∃ W : Nat → Nat → Hp → Prop, (∃ m, W 0 m (upd H1 D o0)) ∧ ∀ i m H, W i m H →
      (J.stop i H ∧ Q (.ref D) H) ∨ (J.go i H ∧ ∃ Nx : Hp → Prop, (∀ H', Nx H' → ∃ m', m' < m ∧ W (i + 1) m' H') ∧ ∀ x H', J.yld i H x H' → g x (wipe σ own) H' fun σ2 H2 => wipe σ2 own = wipe σ own ∧ tt σ2 H2 fun b H3 =>
        if b = true then te σ2 H3 fun y H4 => Put y H4 Nx else Nx H3) := by
  have nD : D ∉ φ.bs ++ os1 := new_ref er.trk hD
  let IW : Nat → Hp → Prop := fun i H => ∃ e os acc, ERel (φ.in_ D) e (wipe σ own) H os ∧ Ext os1 H1 H ∧ Sub H1 os1 os ∧ Acc D H ((φ.in_ D).bs ++ os) acc ∧ acc.length ≤ i ∧
    outG Acc φ own os1 σ H1 D (compGo own sv ts el (ds.drop i) e >>= fun z => .ok (acc ++ z.1, z.2)) Q
  refine ⟨fun i m H => m = ds.length - i ∧ i ≤ ds.length ∧ IW i H, ⟨ds.length, by simp, Nat.zero_le _, wipeE e1 own, os1, [], ?_, ?_, Sub.refl, k0 _ _ upd_same, Nat.le_refl _, ?_⟩, ?_⟩
  · exact (erel_wipe er own h0).enter hD
  · exact Ext.of_same (same_upd hD)
  · rw [List.drop_zero]
    cases q : compGo own sv ts el ds (wipeE e1 own) with
    | ok z => rw [q] at hout; exact hout
    | err _ _ => rw [q] at hout; exact hout
    | stuck => rw [q] at hout; exact hout
  rintro i m H ⟨rfl, hi, e, os, acc, ee, ex, sb, rv, hacc, ho⟩
  have keepH : ∀ a o, H1 a = some o → a ∉ φ.bs ++ os1 → H a = some o := fun a o h n => ex a o h fun z => n (List.mem_append_right _ z)
  by_cases hlt : i < ds.length
  · refine .inr ?_
    have hav : ∀ a ∈ (φ.in_ D).bs ++ os, a ∈ φ.bs ++ os1 ∨ H1 a = none := fun a m => by
      rcases List.mem_append.mp m with m | m
      · rcases List.mem_cons.mp m with rfl | m
        · exact .inr hD
        · exact .inl (List.mem_append_left _ m)
      · rcases sb a m with q | q
        · exact .inl (List.mem_append_right _ q)
        · exact .inr q
    obtain ⟨go, yl⟩ := y.go i H ((φ.in_ D).bs ++ os) ds[i] keepH hav ee.trk (by simp [hlt])
    have hdrop : ds.drop i = ds[i] :: ds.drop (i + 1) := List.drop_eq_getElem_cons hlt
    rw [hdrop] at ho
    refine ⟨go, IW (i + 1), fun H' w => ⟨ds.length - (i + 1), by omega, rfl, hlt, w⟩, fun x H2 hy => ?_⟩
    obtain ⟨sm, rx⟩ := yl x H2 hy
    have ho' : outG Acc φ own os1 σ H1 D ((ofO (sv ds[i] e) >>= fun e1 => nx (ts e1) >>= fun b => if b.1 = true then nx (el b.2) >>= fun y => compGo own sv ts el (ds.drop (i + 1)) (wipeE y.2 own) >>= fun z => .ok (y.1 :: z.1, z.2) else compGo own sv ts el (ds.drop (i + 1)) (wipeE b.2 own)) >>= fun z => .ok (acc ++ z.1, z.2)) Q := ho
    cases w1 : sv ds[i] e with
    | none => rw [w1] at ho'; exact ho'.elim
    | some e2 =>
      rw [w1] at ho'
      refine hg D (ee.same sm) rx w1 fun σ2 a2 b2 ee2 => ?_
      have hw : wipe σ2 own = wipe σ own := wipe_eq (fun j hj => (a2 j fun z => hj (hsub j z)).trans (wipeS_out σ hj)) (by rw [b2, wipe_length])
      refine ⟨hw, ht D _ _ _ ⟨e2, os, ee2, ?_⟩⟩
      have ho2 : outG Acc φ own os1 σ H1 D ((nx (ts e2) >>= fun b => if b.1 = true then nx (el b.2) >>= fun y => compGo own sv ts el (ds.drop (i + 1)) (wipeE y.2 own) >>= fun z => .ok (y.1 :: z.1, z.2) else compGo own sv ts el (ds.drop (i + 1)) (wipeE b.2 own)) >>= fun z => .ok (acc ++ z.1, z.2)) Q := ho'
      have back : ∀ {e4 : VEnv} {σ4 : L2.St} {H4 : Hp} {os4 : List Addr}, σ4 = σ2 → ERel (φ.in_ D) e4 σ4 H4 os4 → ERel (φ.in_ D) (wipeE e4 own) (wipe σ own) H4 os4 := fun {e4 σ4 H4 os4} h4 h => by
        subst h4
        rw [← hw]
        exact erel_wipe h own h0
      cases w2 : ts e2 with
      | stuck => rw [w2] at ho2; exact ho2.elim
      | err _ _ => rw [w2] at ho2; exact ho2.elim
      | ok b =>
        obtain ⟨b, e3⟩ := b
        rw [w2] at ho2
        intro v H3 os3 x3 s3 ee3 rv3
        have rv3 : v = b := rv3
        subst rv3
        have x13 : Ext os1 H1 H3 := (ex.trans sb (Ext.of_same sm)).trans sb (x3)
        have sb13 : Sub H1 os1 os3 := sb.trans (ex.trans sb (Ext.of_same sm)) s3
        have DO : D ∉ os := fun z => ee.disj D z List.mem_cons_self
        have rv' : Acc D H3 ((φ.in_ D).bs ++ os3) acc := k1 _ _ _ _ _ rv (Ext.trans (Ext.of_same sm) Sub.refl x3) (Sub.trans (Ext.of_same sm) Sub.refl s3) DO
        cases v with
        | false =>
          rw [if_neg Bool.false_ne_true]
          exact ⟨wipeE e3 own, os3, acc, back rfl ee3, x13, sb13, rv', by omega, ho2⟩
        | true =>
          rw [if_pos rfl]
          refine he D _ _ _ ⟨e3, os3, ee3, ?_⟩
          have ho3 : outG Acc φ own os1 σ H1 D ((nx (el e3) >>= fun y => compGo own sv ts el (ds.drop (i + 1)) (wipeE y.2 own) >>= fun z => .ok (y.1 :: z.1, z.2)) >>= fun z => .ok (acc ++ z.1, z.2)) Q := ho2
          cases w3 : el e3 with
          | stuck => rw [w3] at ho3; exact ho3.elim
          | err _ _ => rw [w3] at ho3; exact ho3.elim
          | ok yy =>
            obtain ⟨yd, e4⟩ := yy
            rw [w3] at ho3
            intro yv H4 os4 x4 s4 ee4 ry
            have DO3 : D ∉ os3 := fun z => ee3.disj D z List.mem_cons_self
            refine k2 H4 os4 acc yv yd _ (k1 _ _ _ _ _ rv' x4 s4 DO3) ry ⟨_, _, w3⟩ (by omega) fun o1 hA => ⟨wipeE e4 own, os4, acc ++ [yd], (back rfl ee4).apart, ?_, sb13.trans x13 s4, hA, by simp; omega, ?_⟩
            · intro a o h n
              have := x13.trans sb13 x4 a o h n
              rw [upd_ne (ne_of_none h hD)]
              exact this
            · have ho4 : outG Acc φ own os1 σ H1 D ((compGo own sv ts el (ds.drop (i + 1)) (wipeE e4 own) >>= fun z => .ok (yd :: z.1, z.2)) >>= fun z => .ok (acc ++ z.1, z.2)) Q := ho3
              have e5 : ((compGo own sv ts el (ds.drop (i + 1)) (wipeE e4 own) >>= fun z => .ok (yd :: z.1, z.2)) >>= fun z => (.ok (acc ++ z.1, z.2) : Res (List Z.D × VEnv))) = (compGo own sv ts el (ds.drop (i + 1)) (wipeE e4 own) >>= fun z => .ok ((acc ++ [yd]) ++ z.1, z.2)) := by
                cases compGo own sv ts el (ds.drop (i + 1)) (wipeE e4 own) with
                | ok z => show Res.ok _ = Res.ok _; simp
                | err _ _ => rfl
                | stuck => rfl
              rw [← e5]
              exact ho4
  · have hi' : i = ds.length := by omega
    subst hi'
    refine .inl ⟨y.stop _ H keepH (Nat.le_refl _), ?_⟩
    have hd0 : ds.drop ds.length = [] := by simp
    rw [hd0] at ho
    have ho' : outG Acc φ own os1 σ H1 D (.ok (acc ++ [], e)) Q := ho
    rw [List.append_nil] at ho'
    have er2 : ERel (φ.in_ D) (wipeE e own) σ H os := erel_forget ee (wipeE_len _ _) (wipe_length σ own).symm own h0 (fun _ h => wipeE_out e h) (fun _ h => (wipeS_out σ h).symm) fun _ _ hj q => wipeE_no hj q
    exact ho' H os ex sb er2 rv

end
/-! ### sorted({k: v for ..}) -/
def keyOk (d : D) : Bool := match d with
  | .tuple _ => (match nk d with
    | some k => decide (k.depth ≤ 8)
    | none => false)
  | _ => false
def insK (acc : List D) (d : D) : List D := if acc.any (fun y => decide (nk y = nk d)) then acc else acc ++ [d]
def firstsK (ks : List D) : List D := ks.foldl insK []
theorem firstsK_snoc (ks : List D) (d : D) : firstsK (ks ++ [d]) = insK (firstsK ks) d := by
  unfold firstsK
  rw [List.foldl_append]; rfl
inductive KDs (H : Hp) (av : List Addr) : List KX → List D → Prop
  | nil : KDs H av [] []
  | cons {x xs d ds} : nk d = some x.1 → x.1.depth ≤ 8 → RD H av (.ref x.2.1) d → KDs H av xs ds → KDs H av (x :: xs) (d :: ds)
section
variable {H H' : Hp} {av av' : List Addr}
theorem KDs.mono (k : ∀ a o, H a = some o → a ∉ av → H' a = some o) (n : ∀ a, a ∈ av' → a ∈ av ∨ H a = none) {xs : List KX} {ds : List D} (h : KDs H av xs ds) : KDs H' av' xs ds := by
  induction h with
  | nil => exact .nil
  | cons a b c _ ih => exact .cons a b (c.mono k n) ih
theorem KDs.length {xs : List KX} {ds : List D} (h : KDs H av xs ds) : xs.length = ds.length := by
  induction h with
  | nil => rfl
  | cons _ _ _ _ ih => exact congrArg (· + 1) ih
theorem KDs.nk {xs : List KX} {ds : List D} (h : KDs H av xs ds) : ∀ x ∈ xs, ∃ d, NK H x.1 x.2.1 d := by
  induction h with
  | nil => intro x m; cases m
  | cons a b c _ ih =>
    intro y m
    rcases List.mem_cons.mp m with rfl | m
    · exact ⟨_, a, b, c.mono (fun _ _ e _ => e) fun _ m => by cases m⟩
    · exact ih y m
theorem KDs.any {k : NestedKey} {xs : List KX} {ds : List D} (h : KDs H av xs ds) : (atKey xs k).isSome = ds.any (fun y => decide (Z.nk y = some k)) := by
  unfold atKey
  rw [Option.isSome_map, find_any]
  induction h with
  | nil => rfl
  | cons a b c _ ih =>
    rw [List.any_cons, List.any_cons, ih, a]
    congr 1
    rw [Bool.eq_iff_iff]
    simp
theorem KDs.put {k : NestedKey} {r : Value} {xs : List KX} {ds : List D} (h : KDs H av xs ds) : KDs H av (xs.map (putAt k r)) ds := by
  induction h with
  | nil => exact .nil
  | cons a b c _ ih =>
    have e1 : ∀ x : KX, (putAt k r x).1 = x.1 ∧ (putAt k r x).2.1 = x.2.1 := fun x => by unfold putAt; split <;> exact ⟨rfl, rfl⟩
    exact .cons (by rw [(e1 _).1]; exact a) (by rw [(e1 _).1]; exact b) (by rw [(e1 _).2]; exact c) ih
theorem KDs.append {xs ys : List KX} {ds es : List D} (h : KDs H av xs ds) (h2 : KDs H av ys es) : KDs H av (xs ++ ys) (ds ++ es) := by
  induction h with
  | nil => exact h2
  | cons a b c _ ih => exact .cons a b c ih
theorem KDs.stored {k : NestedKey} {b : Addr} {d : D} {r : Value} {xs : List KX} {ds : List D} (h : KDs H av xs ds) (e : Z.nk d = some k) (dp : k.depth ≤ 8) (q : RD H av (.ref b) d) : KDs H av (storedH xs k b r) (insK ds d) := by
  unfold storedH insK
  rw [h.any, e]
  by_cases c : (ds.any fun y => decide (Z.nk y = some k)) = true
  · rw [if_pos c, if_pos c]; exact h.put
  · rw [if_neg c, if_neg c]; exact h.append (.cons e dp q .nil)
end
theorem insK_len (acc : List D) (d : D) : (insK acc d).length ≤ acc.length + 1 := by
  unfold insK; split <;> simp
theorem firstsK_len : ∀ ks : List D, (firstsK ks).length ≤ ks.length := fun ks => by
  have gen : ∀ (ks acc : List D), (ks.foldl insK acc).length ≤ acc.length + ks.length := fun ks => by
    induction ks with
    | nil => intro acc; exact Nat.le_refl _
    | cons k ks ih =>
      intro acc
      have h1 := ih (insK acc k)
      have h2 := insK_len acc k
      rw [List.foldl_cons, List.length_cons]
      omega
  have := gen ks []
  simpa [firstsK] using this
/-- the dict of a comprehension: its keys -/
def AccK (P : Program) (w : World) (D : Addr) (H : Hp) (av : List Addr) (acc : List Z.D) : Prop := ∃ (es : Array DictEntry) (ep : Nat) (xs : List KX), H D = some (dictO D es ep) ∧ es.toList = xs.map (entryOfKey (nestedKind P w)) ∧ (xs.map (·.1)).Nodup ∧ KDs H av xs (firstsK acc) ∧ ∀ d ∈ acc, keyOk d = true
theorem keyOk_of {d : D} (h : keyOk d = true) : ∃ k, nk d = some k ∧ k.depth ≤ 8 ∧ ∃ ds, d = .tuple ds := by
  unfold keyOk at h
  split at h
  · split at h
    · next k e => exact ⟨k, e, of_decide_eq_true h, _, rfl⟩
    · cases h
  · cases h
def xKey (el : Ev) : Ev := fun e => el e >>= fun p => if keyOk p.1 = true then .ok p else .stuck
def srtK (ks : List D) : Option D := if (okSort (firstsK ks) && decide (ks.length ≤ 100000)) = true then some (.list ((firstsK ks).mergeSort (PySem.W.dataLe false id))) else none
def xSortC (src : Sr) (own : List Nat) (sv : Sv) (ts : Te) (el : Ev) : Ev := fun e => src e >>= fun p => if p.1.length ≤ 100000 then (compGo own sv ts (xKey el) p.1 (wipeE p.2 own) >>= fun z => ofO (srtK z.1) >>= fun d => .ok (d, wipeE z.2 own)) else .stuck
theorem xKey_ok {el : Ev} {e e' : VEnv} {d : D} (h : xKey el e = .ok (d, e')) : keyOk d = true ∧ el e = .ok (d, e') := by
  have h : (el e >>= fun p => if keyOk p.1 = true then .ok p else .stuck) = .ok (d, e') := h
  cases q : el e with
  | stuck => rw [q] at h; cases h
  | err _ _ => rw [q] at h; cases h
  | ok p =>
    rw [q] at h
    have h : (if keyOk p.1 = true then .ok p else .stuck : Res (D × VEnv)) = .ok (d, e') := h
    split at h
    · next k => cases h; exact ⟨k, rfl⟩
    · cases h
section
variable {X : Cx} {φ : Fm} {kx tg iter vx : Expr} {ifs : List Expr} {scope : Scope} {ow : List (Str × Nat)} {pos cpos p : Pos} {src : Sr} {sv : Sv} {ts : Te} {el : Ev} {dv : D}
theorem tR_key {H : Hp} {σ : L2.St} {Q : VK} {φ : Fm} (h : tR X φ rD (xKey el) σ H Q) : tR X φ rD el σ H Q := by
  obtain ⟨env, os, e, h⟩ := h
  refine ⟨env, os, e, ?_⟩
  have h : OutR X φ rD os σ H (el env >>= fun p => if keyOk p.1 = true then .ok p else .stuck) Q := h
  cases q : el env with
  | stuck => rw [q] at h; exact h.elim
  | err x y => rw [q] at h; exact h
  | ok p =>
    rw [q] at h
    have h : OutR X φ rD os σ H (if keyOk p.1 = true then .ok p else .stuck) Q := h
    split at h
    · exact h
    · exact h.elim
theorem accK_new {P : Program} {w : World} {D : Addr} (H : Hp) (av : List Addr) (h : H D = some (dictO D #[] 0)) : AccK P w D H av [] := ⟨#[], 0, [], h, rfl, List.nodup_nil, .nil, fun _ m => by cases m⟩
theorem accK_push {D : Addr} {H : Hp} {av : List Addr} {acc : List Z.D} {yv : V} {yd : Z.D} {Nx : Hp → Prop} (hD : D ∈ av) (h : AccK X.prog X.w D H av acc) (r : RD H av yv yd) (ok : keyOk yd = true) (hz : acc.length < sizeLine)
    (k : ∀ o, AccK X.prog X.w D (upd H D o) av (acc ++ [yd]) → Nx (upd H D o)) : PutN X D yv H Nx := by
  obtain ⟨es, ep, xs, h1, h2, h3, h4, h5⟩ := h
  obtain ⟨kk, e1, e2, ds, rfl⟩ := keyOk_of ok
  cases r with
  | tup q1 q2 q3 =>
    rename_i b vs
    have r : RD H av (.ref b) (.tuple ds) := .tup q1 q2 q3
    refine ⟨es, ep, xs, kk, b, .tuple ds, rfl, h1, h2, h3, h4.nk, ⟨e1, e2, r.mono (fun _ _ e _ => e) fun _ m => by cases m⟩, ?_, fun rr es' ep' a1 a2 => k _ ⟨es', ep', _, upd_same, a1, a2, ?_, ?_⟩⟩
    · rw [h4.length]; exact Nat.lt_of_le_of_lt (firstsK_len acc) hz
    · rw [firstsK_snoc]
      exact (h4.stored e1 e2 r).mono (fun a o e n => by rw [upd_ne (fun z => n (by rw [z]; exact hD))]; exact e) fun a m => .inl m
    · intro d m
      rcases List.mem_append.mp m with m | m
      · exact h5 d m
      · rw [List.mem_singleton.mp m]; exact ok
theorem keysOfXs {P : Program} {w : World} {es : Array DictEntry} {xs : List KX} (h : es.toList = xs.map (entryOfKey (nestedKind P w))) : es.toList.map (·.key) = xs.map (fun x => Value.ref x.2.1) := by
  rw [h, List.map_map]; rfl
theorem KDs.pairs {H : Hp} {av : List Addr} {xs : List KX} {ds : List Z.D} (h : KDs H av xs ds) : ∃ ks : List (Z.D × Addr), ks.map (·.1) = ds ∧ ks.map (·.2) = xs.map (fun x => x.2.1) ∧ ∀ x ∈ ks, RD H av (.ref x.2) x.1 := by
  induction h with
  | nil => exact ⟨[], rfl, rfl, fun _ m => by cases m⟩
  | @cons x xs d ds a b c _ ih =>
    obtain ⟨ks, h1, h2, h3⟩ := ih
    exact ⟨(d, x.2.1) :: ks, by rw [List.map_cons, h1], by rw [List.map_cons, List.map_cons, h2], fun y m => (List.mem_cons.mp m).elim (fun z => by rw [z]; exact c) (h3 y)⟩
theorem z_sortC {k : Nat} {W : WX} {j : Nat} {dpos : Pos} (I : In k X W) (hN : X.N.Nodup) (hm : X.mg "sorted" = none) (C : CompOk X φ kx tg iter ifs scope ow src sv ts el) (hg : Gl X "sorted" := by rfl)
    (hs : ∀ x, foldedSetIterable iter X.env x = pure x := by intro _; rfl)
    (he : starEach [.DictComp kx (.Constant (.bool true) j cpos) [⟨tg, iter, ifs, 0⟩] scope dpos] X.env = (false, eval (.DictComp kx (.Constant (.bool true) j cpos) [⟨tg, iter, ifs, 0⟩] scope dpos) X.env) :: starEach [] X.env := by rfl)
    (hpl : (backTo pos (starEach [] X.env)).any (·.1) = false := by rfl) :
    JE X φ (.Call (.Name "sorted" p) [.DictComp kx (.Constant (.bool true) j cpos) [⟨tg, iter, ifs, 0⟩] scope dpos] [] pos) (xSortC src (ow.map (·.2)) sv ts el) := by
  obtain ⟨is, g, hsub, hgr, hgg⟩ := C.hg
  refine ⟨(pe_callB (call_sortK I.calm I.room.units) hg hm boot_sorted (pa_cons (pe_dcN (g := g) (tt := fun σ H Q => ∃ D, tR X (φ.in_ D) rB ts σ H Q) (tk := fun σ H Q => ∃ D, tR X (φ.in_ D) rD (xKey el) σ H Q) (tv := tC (.bl true)) I.calm I.room.units hN C.hi.j C.ok (fun s H C1 cl fp => ⟨hgg s H C1 cl fp, ?_, ?_, pe_bl⟩) hs) pa_nil he) (by decide) (by decide) he hpl).imp fun σ H Q h => ?_⟩
  · exact ⟨fun pins s' σ H' Q I ⟨D, q⟩ => (C.ht s H C1 cl fp (D :: φ.bs)).j.run pins s' σ H' Q I q⟩
  · exact ⟨fun pins s' σ H' Q I ⟨D, q⟩ => (C.he s H C1 cl fp (D :: φ.bs)).j.run pins s' σ H' Q I (tR_key q)⟩
  · obtain ⟨env, os, e, h⟩ := h
    refine seq_core2 (relA := rI) e h fun J ds H1 env1 os1 x1 s1 e1 yl h1 => fun D hD => ?_
    have h1 : OutR X φ rD os1 σ H1 (if ds.length ≤ 100000 then (compGo (ow.map (·.2)) sv ts (xKey el) ds (wipeE env1 (ow.map (·.2))) >>= fun z => ofO (srtK z.1) >>= fun d => .ok (d, wipeE z.2 (ow.map (·.2)))) else .stuck) Q := h1
    by_cases hz : ds.length ≤ 100000
    · rw [if_pos hz] at h1
      refine comp_loopG (X := X) (Acc := AccK X.prog X.w) (Put := PutN X D) (Q := fun v H2 => rSortK [v] H2 Q) (tt := fun σ H Q => ∃ D, tR X (φ.in_ D) rB ts σ H Q) (te := fun σ H Q => ∃ D, tR X (φ.in_ D) rD (xKey el) σ H Q) C.h0 hsub (fun D => hgr (D :: φ.bs)) (fun D σ H Q q => ⟨D, q⟩) (fun D σ H Q q => ⟨D, q⟩) e1 yl (Nat.le_trans hz (by rw [sizeLine_eq]; decide)) D hD (fun H av h => accK_new H av h) ?_ ?_ ?_
      · intro H H' os os' acc ⟨es, ep, xs, a1, a2, a3, a4, a5⟩ x s n
        have mb := mono_bs (φ := φ.in_ D) x s
        exact ⟨es, ep, xs, x D _ a1 n, a2, a3, a4.mono mb.1 mb.2, a5⟩
      · intro H os acc yv yd Nx hA r ⟨e4, e5, w⟩ hz k
        exact accK_push (List.mem_append_left _ List.mem_cons_self) hA r (xKey_ok w).1 hz k
      · cases q : compGo (ow.map (·.2)) sv ts (xKey el) ds (wipeE env1 (ow.map (·.2))) with
        | stuck => rw [q] at h1; exact h1.elim
        | err a b => exact (compGo_noerr q).elim
        | ok z =>
          rw [q] at h1
          intro H2 os2 x2 s2 e2 ⟨es, ep, xs, a1, a2, a3, a4, a5⟩
          obtain ⟨d, z1, h2⟩ := OutR.opt (show OutR X φ rD os1 σ H1 (ofO (srtK z.1) >>= fun d => .ok (d, wipeE z.2 (ow.map (·.2)))) Q from h1)
          unfold srtK at z1
          split at z1
          · next hok =>
            cases z1
            obtain ⟨hok1, hok2⟩ := Bool.and_eq_true_iff.mp hok
            have hok2 := of_decide_eq_true hok2
            obtain ⟨ks, b1, b2, b3⟩ := a4.pairs
            refine ⟨D, es, ep, ks, rfl, a1, ?_, fun x m => (b3 x m).mono (fun _ _ e _ => e) (fun _ q => by cases q), by rw [b1]; exact hok1, ?_, fun p out hp hout heq => ?_⟩
            · rw [keysOfXs a2]
              have := congrArg (List.map Value.ref) b2
              rw [List.map_map, List.map_map] at this
              exact this.symm
            · have l1 := congrArg List.length b1
              rw [List.length_map] at l1
              have := firstsK_len z.1
              omega
            · have sm : Same H2 (upd H2 p (.lst (out.map fun x => V.ref x.2))) := same_upd hp
              have el := e2.leave
              refine h2 (.ref p) _ os2 (x2.trans s2 (Ext.of_same sm)) s2 (el.same sm) (.lst upd_same (fun z => ?_) ?_)
              · obtain ⟨o, ho⟩ := el.trk p z
                rw [hp] at ho; cases ho
              · rw [← b1, ← heq]
                have gen : ∀ o : List (Z.D × Addr), (∀ x ∈ o, x ∈ ks) → RDs (upd H2 p (.lst (out.map fun x => V.ref x.2))) (φ.bs ++ os2) (o.map fun x => V.ref x.2) (o.map (·.1)) := fun o => by
                  induction o with
                  | nil => intro _; exact .nil
                  | cons x o ih =>
                    intro ho
                    refine .cons ?_ (ih fun y my => ho y (List.mem_cons_of_mem _ my))
                    exact RD.same ((b3 x (ho x List.mem_cons_self)).mono (fun _ _ e _ => e) fun a m => .inl ((List.mem_append.mp m).elim (fun q => List.mem_append_left _ (List.mem_cons_of_mem _ q)) fun q => List.mem_append_right _ q)) sm
                exact gen out hout
          · cases z1
    · rw [if_neg hz] at h1; exact h1.elim
end
end Z

namespace Z
open PySem PySem.Spec PyProof.Rows L2
/-! ### comprehensions with two fors -/
def comp2Go (own own1 : List Nat) (sv : Sv) (ts : Te) (src1 : Sr) (sv1 : Sv) (ts1 : Te) (el : Ev) : List D → VEnv → Res (List D × VEnv)
  | [], e => .ok ([], e)
  | d :: r, e => ofO (sv d e) >>= fun e1 => nx (ts e1) >>= fun b => if b.1 = true then nx (src1 b.2) >>= fun p => compGo own1 sv1 ts1 el p.1 (wipeE p.2 own1) >>= fun y => comp2Go own own1 sv ts src1 sv1 ts1 el r (wipeE y.2 own) >>= fun z => .ok (y.1 ++ z.1, z.2) else comp2Go own own1 sv ts src1 sv1 ts1 el r (wipeE b.2 own)
def outC2 (φ : Fm) (own : List Nat) (os1 : List Addr) (σ : L2.St) (H1 : Hp) (D : Addr) (r : Res (List Z.D × VEnv)) (Q : VK) : Prop := match r with
  | .ok z => z.1.length ≤ sizeLine ∧ ∀ H os vs, Ext os1 H1 H → Sub H1 os1 os → ERel (φ.in_ D) (wipeE z.2 own) σ H os → H D = some (.lst vs) → RDs H ((φ.in_ D).bs ++ os) vs z.1 → Q (.ref D) H
  | _ => False
section
variable {X : Cx} {φ : Fm} {σ σ2 : L2.St} {H0 H1 : Hp} {os0 os1 : List Addr} {own own1 is is1 : List Nat} {sv sv1 : Sv} {ts ts1 : Te} {el : Ev} {src1 : Sr}
/-- the inner turns, from a list begun already -/
theorem comp_in {g1 : TG} {tt1 : TT} {te : TE} {J1 : It} {ds1 acc0 : List D} {vs0 : List V} {e1 : VEnv} {D : Addr} {Nx : Hp → Prop} (G : List Z.D → VEnv → Prop) (hG : ∀ acc e, G acc e → acc.length ≤ sizeLine) (h0 : 0 ∉ own1 ∨ φ.io = none) (hsub : ∀ j ∈ is1, j ∈ own1)
    (hg : GS (φ.in_ D) g1 is1 sv1) (ht : ∀ σ H Q, tR X (φ.in_ D) rB ts1 σ H Q → tt1 σ H Q) (he : ∀ σ H Q, tR X (φ.in_ D) rD el σ H Q → te σ H Q)
    (er : ERel (φ.in_ D) e1 σ2 H0 os0) (y : Yl J1 H0 ((φ.in_ D).bs ++ os0) ds1) (hD : H0 D = some (.lst vs0)) (rv0 : RDs H0 ((φ.in_ D).bs ++ os0) vs0 acc0)
    (st : match compGo own1 sv1 ts1 el ds1 (wipeE e1 own1) with
      | .ok z => G (acc0 ++ z.1) z.2
      | _ => False)
    (hNx : ∀ H os e acc vs, ERel (φ.in_ D) e (wipe σ2 own1) H os → Ext (D :: os0) H0 H → Sub H0 os0 os → H D = some (.lst vs) → RDs H ((φ.in_ D).bs ++ os) vs acc → G acc e → Nx H) :
    ∃ W1 : Nat → Nat → Hp → Prop, (∃ m, W1 0 m H0) ∧ ∀ j k H, W1 j k H →
      (J1.stop j H ∧ Nx H) ∨ (J1.go j H ∧ ∃ Nx1 : Hp → Prop, (∀ H', Nx1 H' → ∃ k', k' < k ∧ W1 (j + 1) k' H') ∧ ∀ x H', J1.yld j H x H' → g1 x (wipe σ2 own1) H' fun σ3 H5 => wipe σ3 own1 = wipe σ2 own1 ∧ tt1 σ3 H5 fun b H6 =>
        if b = true then te σ3 H6 fun y H7 => ∃ acc, H7 D = some (.lst acc) ∧ acc.length < sizeLine ∧ Nx1 (upd H7 D (.lst (acc ++ [y]))) else Nx1 H6) := by
  have DO0 : D ∉ os0 := fun z => er.disj D z List.mem_cons_self
  let IW : Nat → Hp → Prop := fun i H => ∃ e os acc vs, ERel (φ.in_ D) e (wipe σ2 own1) H os ∧ Ext (D :: os0) H0 H ∧ Sub H0 os0 os ∧ H D = some (.lst vs) ∧ RDs H ((φ.in_ D).bs ++ os) vs acc ∧
    match compGo own1 sv1 ts1 el (ds1.drop i) e with
      | .ok z => G (acc ++ z.1) z.2
      | _ => False
  refine ⟨fun i m H => m = ds1.length - i ∧ i ≤ ds1.length ∧ IW i H, ⟨ds1.length, by simp, Nat.zero_le _, wipeE e1 own1, os0, acc0, vs0, erel_wipe er own1 h0, Ext.refl, Sub.refl, hD, rv0, ?_⟩, ?_⟩
  · rw [List.drop_zero]; exact st
  rintro i m H ⟨rfl, hi, e, os, acc, vs, ee, ex, sb, hDH, rv, ho⟩
  have keepH : ∀ a o, H0 a = some o → a ∉ (φ.in_ D).bs ++ os0 → H a = some o := fun a o h n => ex a o h fun z => n (by
    rcases List.mem_cons.mp z with rfl | z
    · exact List.mem_append_left _ List.mem_cons_self
    · exact List.mem_append_right _ z)
  have hav : ∀ a ∈ (φ.in_ D).bs ++ os, a ∈ (φ.in_ D).bs ++ os0 ∨ H0 a = none := fun a m => by
    rcases List.mem_append.mp m with m | m
    · exact .inl (List.mem_append_left _ m)
    · rcases sb a m with q | q
      · exact .inl (List.mem_append_right _ q)
      · exact .inr q
  by_cases hlt : i < ds1.length
  · refine .inr ?_
    obtain ⟨go, yl⟩ := y.go i H ((φ.in_ D).bs ++ os) ds1[i] keepH hav ee.trk (by simp [hlt])
    have hdrop : ds1.drop i = ds1[i] :: ds1.drop (i + 1) := List.drop_eq_getElem_cons hlt
    rw [hdrop] at ho
    refine ⟨go, IW (i + 1), fun H' w => ⟨ds1.length - (i + 1), by omega, rfl, hlt, w⟩, fun x H2 hy => ?_⟩
    obtain ⟨sm, rx⟩ := yl x H2 hy
    have ho1 : match (ofO (sv1 ds1[i] e) >>= fun e1 => nx (ts1 e1) >>= fun b => if b.1 = true then nx (el b.2) >>= fun y => compGo own1 sv1 ts1 el (ds1.drop (i + 1)) (wipeE y.2 own1) >>= fun z => .ok (y.1 :: z.1, z.2) else compGo own1 sv1 ts1 el (ds1.drop (i + 1)) (wipeE b.2 own1)) with
      | .ok z => G (acc ++ z.1) z.2
      | _ => False := ho
    cases w1 : sv1 ds1[i] e with
    | none => rw [w1] at ho1; exact ho1.elim
    | some e2 =>
      rw [w1] at ho1
      refine hg (ee.same sm) rx w1 fun σ3 a2 b2 ee2 => ?_
      have hw : wipe σ3 own1 = wipe σ2 own1 := wipe_eq (fun j hj => (a2 j fun z => hj (hsub j z)).trans (wipeS_out σ2 hj)) (by rw [b2, wipe_length])
      refine ⟨hw, ht _ _ _ ⟨e2, os, ee2, ?_⟩⟩
      have ho2 : match (nx (ts1 e2) >>= fun b => if b.1 = true then nx (el b.2) >>= fun y => compGo own1 sv1 ts1 el (ds1.drop (i + 1)) (wipeE y.2 own1) >>= fun z => .ok (y.1 :: z.1, z.2) else compGo own1 sv1 ts1 el (ds1.drop (i + 1)) (wipeE b.2 own1)) with
        | .ok z => G (acc ++ z.1) z.2
        | _ => False := ho1
      have back : ∀ {e4 : VEnv} {σ4 : L2.St} {H4 : Hp} {os4 : List Addr}, σ4 = σ3 → ERel (φ.in_ D) e4 σ4 H4 os4 → ERel (φ.in_ D) (wipeE e4 own1) (wipe σ2 own1) H4 os4 := fun {e4 σ4 H4 os4} h4 h => by
        subst h4
        rw [← hw]
        exact erel_wipe h own1 h0
      have DO : D ∉ os := fun z => ee.disj D z List.mem_cons_self
      have exw : ∀ {Ha Hb : Hp}, Ext os Ha Hb → Ext (D :: os) Ha Hb := fun {Ha Hb} w a o h n => w a o h fun z => n (List.mem_cons_of_mem _ z)
      have sbw : Sub H0 (D :: os0) (D :: os) := fun a m => by
        rcases List.mem_cons.mp m with rfl | m
        · exact .inl List.mem_cons_self
        · exact (sb a m).imp (List.mem_cons_of_mem _) id
      cases w2 : ts1 e2 with
      | stuck => rw [w2] at ho2; exact ho2.elim
      | err _ _ => rw [w2] at ho2; exact ho2.elim
      | ok b =>
        obtain ⟨b, e3⟩ := b
        rw [w2] at ho2
        intro v H3 os3 x3 s3 ee3 rv3
        have rv3 : v = b := rv3
        subst rv3
        have x13 : Ext (D :: os0) H0 H3 := Ext.trans (os1 := D :: os) (ex.trans sbw (Ext.of_same sm)) sbw (exw x3)
        have sb13 : Sub H0 os0 os3 := fun a m => by
          rcases s3 a m with q | q
          · exact sb a q
          · by_cases n : a ∈ D :: os0
            · rcases List.mem_cons.mp n with rfl | n
              · rw [sm _ _ hDH] at q; cases q
              · exact .inl n
            · exact .inr ((ex.trans sbw (Ext.of_same sm)).none n q)
        have hD3 : H3 D = some (.lst vs) := x3 D _ (sm D _ hDH) DO
        have rv' : RDs H3 ((φ.in_ D).bs ++ os3) vs acc := RDs.step (φ := φ.in_ D) (rv.same sm) x3 s3
        cases v with
        | false =>
          rw [if_neg Bool.false_ne_true]
          exact ⟨wipeE e3 own1, os3, acc, vs, back rfl ee3, x13, sb13, hD3, rv', ho2⟩
        | true =>
          rw [if_pos rfl]
          refine he _ _ _ ⟨e3, os3, ee3, ?_⟩
          have ho3 : match (nx (el e3) >>= fun y => compGo own1 sv1 ts1 el (ds1.drop (i + 1)) (wipeE y.2 own1) >>= fun z => .ok (y.1 :: z.1, z.2)) with
            | .ok z => G (acc ++ z.1) z.2
            | _ => False := ho2
          cases w3 : el e3 with
          | stuck => rw [w3] at ho3; exact ho3.elim
          | err _ _ => rw [w3] at ho3; exact ho3.elim
          | ok yy =>
            obtain ⟨yd, e4⟩ := yy
            rw [w3] at ho3
            intro yv H4 os4 x4 s4 ee4 ry
            have DO3 : D ∉ os3 := fun z => ee3.disj D z List.mem_cons_self
            have hD4 : H4 D = some (.lst vs) := x4 D _ hD3 DO3
            have hlen : vs.length = acc.length := rv.length
            have ho4 : match (compGo own1 sv1 ts1 el (ds1.drop (i + 1)) (wipeE e4 own1) >>= fun z => (.ok (yd :: z.1, z.2) : Res (List Z.D × VEnv))) with
              | .ok z => G (acc ++ z.1) z.2
              | _ => False := ho3
            have ho5 : acc.length < sizeLine ∧ match compGo own1 sv1 ts1 el (ds1.drop (i + 1)) (wipeE e4 own1) with
              | .ok z => G ((acc ++ [yd]) ++ z.1) z.2
              | _ => False := by
              cases q : compGo own1 sv1 ts1 el (ds1.drop (i + 1)) (wipeE e4 own1) with
              | ok z =>
                rw [q] at ho4
                have ho4 : G (acc ++ (yd :: z.1)) z.2 := ho4
                refine ⟨?_, ?_⟩
                · have := hG _ _ ho4
                  rw [List.length_append, List.length_cons] at this
                  omega
                · show G ((acc ++ [yd]) ++ z.1) z.2
                  rw [List.append_assoc]; exact ho4
              | err _ _ => rw [q] at ho4; exact ho4.elim
              | stuck => rw [q] at ho4; exact ho4.elim
            refine ⟨vs, hD4, by omega, wipeE e4 own1, os4, acc ++ [yd], vs ++ [yv], (back rfl ee4).apart, ?_, ?_, upd_same, ?_, ho5.2⟩
            · intro a o h n
              have nD : a ≠ D := fun z => n (by rw [z]; exact List.mem_cons_self)
              have n3 : a ∉ D :: os3 := fun z => by
                rcases List.mem_cons.mp z with z | z
                · exact nD z
                · rcases sb13 a z with q | q
                  · exact n (List.mem_cons_of_mem _ q)
                  · rw [h] at q; cases q
              have := x4 a o (x13 a o h n) fun z => n3 (List.mem_cons_of_mem _ z)
              rw [upd_ne nD]
              exact this
            · intro a m
              rcases s4 a m with q | q
              · exact sb13 a q
              · by_cases n : a ∈ D :: os0
                · rcases List.mem_cons.mp n with rfl | n
                  · rw [hD3] at q; cases q
                  · exact .inl n
                · exact .inr (x13.none n q)
            · exact ((RDs.step (φ := φ.in_ D) rv' x4 s4).append (.cons ry .nil)).apart
  · have hi' : i = ds1.length := by omega
    subst hi'
    refine .inl ⟨y.stop _ H keepH (Nat.le_refl _), ?_⟩
    have hd0 : ds1.drop ds1.length = [] := by simp
    rw [hd0] at ho
    have ho' : G (acc ++ []) e := ho
    rw [List.append_nil] at ho'
    exact hNx H os e acc vs ee ex sb hDH rv ho'
theorem wipe_wipe {σ : L2.St} {vs ws : List Nat} (h : ∀ i ∈ ws, i ∈ vs) : wipe (wipe σ ws) vs = wipe σ vs :=
  wipe_eq (fun j hj => wipeS_out σ fun z => hj (h j z)) (wipe_length _ _)
/-- the outer turns -/
theorem comp_loop2 {g g1 : TG} {tt tt1 : TT} {te : TE} {wi1 : TI} {J : It} {ds : List D} {e1 : VEnv} {Q : VK} (h0 : 0 ∉ own ∨ φ.io = none) (hsub : ∀ j ∈ is, j ∈ own) (hsub1 : ∀ j ∈ is1, j ∈ own1) (hoo : ∀ j ∈ own1, j ∈ own)
    (hg : ∀ D, GS (φ.in_ D) g is sv) (ht : ∀ D σ H Q, tR X (φ.in_ D) rB ts σ H Q → tt σ H Q) (hi1 : ∀ D σ H R, tR X (φ.in_ D) rI src1 σ H R → wi1 σ H R) (hg1 : ∀ D, GS (φ.in_ D) g1 is1 sv1) (ht1 : ∀ D σ H Q, tR X (φ.in_ D) rB ts1 σ H Q → tt1 σ H Q) (he : ∀ D σ H Q, tR X (φ.in_ D) rD el σ H Q → te σ H Q)
    (er : ERel φ e1 σ H1 os1) (y : Yl J H1 (φ.bs ++ os1) ds) (D : Addr) (hD : H1 D = none)
    (hout : outC2 φ own os1 σ H1 D (comp2Go own own1 sv ts src1 sv1 ts1 el ds (wipeE e1 own)) Q) :
    ∃ W : Nat → Nat → Hp → Prop, (∃ m, W 0 m (upd H1 D (.lst []))) ∧ ∀ i m H, W i m H →
      (J.stop i H ∧ Q (.ref D) H) ∨ (J.go i H ∧ ∃ Nx : Hp → Prop, (∀ H', Nx H' → ∃ m', m' < m ∧ W (i + 1) m' H') ∧ ∀ x H', J.yld i H x H' → g x (wipe σ own) H' fun σ2 H2 => wipe σ2 own = wipe σ own ∧ tt σ2 H2 fun b H3 =>
        if b = true then wi1 σ2 H3 fun J1 H4 => ∃ W1 : Nat → Nat → Hp → Prop, (∃ m, W1 0 m H4) ∧ ∀ j k H, W1 j k H →
          (J1.stop j H ∧ Nx H) ∨ (J1.go j H ∧ ∃ Nx1 : Hp → Prop, (∀ H', Nx1 H' → ∃ k', k' < k ∧ W1 (j + 1) k' H') ∧ ∀ x H', J1.yld j H x H' → g1 x (wipe σ2 own1) H' fun σ3 H5 => wipe σ3 own1 = wipe σ2 own1 ∧ tt1 σ3 H5 fun b H6 =>
            if b = true then te σ3 H6 fun y H7 => ∃ acc, H7 D = some (.lst acc) ∧ acc.length < sizeLine ∧ Nx1 (upd H7 D (.lst (acc ++ [y]))) else Nx1 H6)
        else Nx H3) := by
  have h01 : 0 ∉ own1 ∨ φ.io = none := h0.imp (fun z q => z (hoo 0 q)) id
  let R : List Z.D → VEnv → List Z.D → Prop := fun acc e r => outC2 φ own os1 σ H1 D (comp2Go own own1 sv ts src1 sv1 ts1 el r e >>= fun z => .ok (acc ++ z.1, z.2)) Q
  have hR : ∀ acc e r, R acc e r → acc.length ≤ sizeLine := fun acc e r h => by
    have h : outC2 φ own os1 σ H1 D (comp2Go own own1 sv ts src1 sv1 ts1 el r e >>= fun z => .ok (acc ++ z.1, z.2)) Q := h
    cases q : comp2Go own own1 sv ts src1 sv1 ts1 el r e with
    | ok z =>
      rw [q] at h
      have : (acc ++ z.1).length ≤ sizeLine := h.1
      rw [List.length_append] at this
      omega
    | err _ _ => rw [q] at h; exact h.elim
    | stuck => rw [q] at h; exact h.elim
  let IW : Nat → Hp → Prop := fun i H => ∃ e os acc vs, ERel (φ.in_ D) e (wipe σ own) H os ∧ Ext os1 H1 H ∧ Sub H1 os1 os ∧ H D = some (.lst vs) ∧ RDs H ((φ.in_ D).bs ++ os) vs acc ∧ R acc e (ds.drop i)
  refine ⟨fun i m H => m = ds.length - i ∧ i ≤ ds.length ∧ IW i H, ⟨ds.length, by simp, Nat.zero_le _, wipeE e1 own, os1, [], [], (erel_wipe er own h0).enter hD, Ext.of_same (same_upd hD), Sub.refl, upd_same, .nil, ?_⟩, ?_⟩
  · rw [List.drop_zero]
    show outC2 φ own os1 σ H1 D (comp2Go own own1 sv ts src1 sv1 ts1 el ds (wipeE e1 own) >>= fun z => .ok ([] ++ z.1, z.2)) Q
    cases q : comp2Go own own1 sv ts src1 sv1 ts1 el ds (wipeE e1 own) with
    | ok z => rw [q] at hout; exact hout
    | err _ _ => rw [q] at hout; exact hout
    | stuck => rw [q] at hout; exact hout
  rintro i m H ⟨rfl, hi, e, os, acc, vs, ee, ex, sb, hDH, rv, ho⟩
  have keepH : ∀ a o, H1 a = some o → a ∉ φ.bs ++ os1 → H a = some o := fun a o h n => ex a o h fun z => n (List.mem_append_right _ z)
  by_cases hlt : i < ds.length
  · refine .inr ?_
    have hav : ∀ a ∈ (φ.in_ D).bs ++ os, a ∈ φ.bs ++ os1 ∨ H1 a = none := fun a m => by
      rcases List.mem_append.mp m with m | m
      · rcases List.mem_cons.mp m with rfl | m
        · exact .inr hD
        · exact .inl (List.mem_append_left _ m)
      · rcases sb a m with q | q
        · exact .inl (List.mem_append_right _ q)
        · exact .inr q
    obtain ⟨go, yl⟩ := y.go i H ((φ.in_ D).bs ++ os) ds[i] keepH hav ee.trk (by simp [hlt])
    have hdrop : ds.drop i = ds[i] :: ds.drop (i + 1) := List.drop_eq_getElem_cons hlt
    rw [hdrop] at ho
    refine ⟨go, IW (i + 1), fun H' w => ⟨ds.length - (i + 1), by omega, rfl, hlt, w⟩, fun x H2 hy => ?_⟩
    obtain ⟨sm, rx⟩ := yl x H2 hy
    have ho1 : outC2 φ own os1 σ H1 D ((ofO (sv ds[i] e) >>= fun e1 => nx (ts e1) >>= fun b => if b.1 = true then nx (src1 b.2) >>= fun p => compGo own1 sv1 ts1 el p.1 (wipeE p.2 own1) >>= fun y => comp2Go own own1 sv ts src1 sv1 ts1 el (ds.drop (i + 1)) (wipeE y.2 own) >>= fun z => .ok (y.1 ++ z.1, z.2) else comp2Go own own1 sv ts src1 sv1 ts1 el (ds.drop (i + 1)) (wipeE b.2 own)) >>= fun z => .ok (acc ++ z.1, z.2)) Q := ho
    cases w1 : sv ds[i] e with
    | none => rw [w1] at ho1; exact ho1.elim
    | some e2 =>
      rw [w1] at ho1
      refine hg D (ee.same sm) rx w1 fun σ2 a2 b2 ee2 => ?_
      have hw : wipe σ2 own = wipe σ own := wipe_eq (fun j hj => (a2 j fun z => hj (hsub j z)).trans (wipeS_out σ hj)) (by rw [b2, wipe_length])
      refine ⟨hw, ht D _ _ _ ⟨e2, os, ee2, ?_⟩⟩
      have ho2 : outC2 φ own os1 σ H1 D ((nx (ts e2) >>= fun b => if b.1 = true then nx (src1 b.2) >>= fun p => compGo own1 sv1 ts1 el p.1 (wipeE p.2 own1) >>= fun y => comp2Go own own1 sv ts src1 sv1 ts1 el (ds.drop (i + 1)) (wipeE y.2 own) >>= fun z => .ok (y.1 ++ z.1, z.2) else comp2Go own own1 sv ts src1 sv1 ts1 el (ds.drop (i + 1)) (wipeE b.2 own)) >>= fun z => .ok (acc ++ z.1, z.2)) Q := ho1
      cases w2 : ts e2 with
      | stuck => rw [w2] at ho2; exact ho2.elim
      | err _ _ => rw [w2] at ho2; exact ho2.elim
      | ok b =>
        obtain ⟨b, e3⟩ := b
        rw [w2] at ho2
        intro v H3 os3 x3 s3 ee3 rv3
        have rv3 : v = b := rv3
        subst rv3
        have x13 : Ext os1 H1 H3 := (ex.trans sb (Ext.of_same sm)).trans sb x3
        have sb13 : Sub H1 os1 os3 := sb.trans (ex.trans sb (Ext.of_same sm)) s3
        have DO : D ∉ os := fun z => ee.disj D z List.mem_cons_self
        have hD3 : H3 D = some (.lst vs) := x3 D _ (sm D _ hDH) DO
        have rv' : RDs H3 ((φ.in_ D).bs ++ os3) vs acc := RDs.step (φ := φ.in_ D) (rv.same sm) x3 s3
        cases v with
        | false =>
          rw [if_neg Bool.false_ne_true]
          refine ⟨wipeE e3 own, os3, acc, vs, ?_, x13, sb13, hD3, rv', ho2⟩
          rw [← hw]; exact erel_wipe ee3 own h0
        | true =>
          rw [if_pos rfl]
          refine hi1 D _ _ _ ⟨e3, os3, ee3, ?_⟩
          have ho3 : outC2 φ own os1 σ H1 D ((nx (src1 e3) >>= fun p => compGo own1 sv1 ts1 el p.1 (wipeE p.2 own1) >>= fun y => comp2Go own own1 sv ts src1 sv1 ts1 el (ds.drop (i + 1)) (wipeE y.2 own) >>= fun z => .ok (y.1 ++ z.1, z.2)) >>= fun z => .ok (acc ++ z.1, z.2)) Q := ho2
          cases w3 : src1 e3 with
          | stuck => rw [w3] at ho3; exact ho3.elim
          | err _ _ => rw [w3] at ho3; exact ho3.elim
          | ok pp =>
            obtain ⟨ds1, e4⟩ := pp
            rw [w3] at ho3
            intro J1 H4 os4 x4 s4 ee4 yl1
            have DO3 : D ∉ os3 := fun z => ee3.disj D z List.mem_cons_self
            have hD4 : H4 D = some (.lst vs) := x4 D _ hD3 DO3
            have x14 : Ext os1 H1 H4 := x13.trans sb13 x4
            have sb14 : Sub H1 os1 os4 := sb13.trans x13 s4
            have st : match compGo own1 sv1 ts1 el ds1 (wipeE e4 own1) with
              | .ok z => R (acc ++ z.1) (wipeE z.2 own) (ds.drop (i + 1))
              | _ => False := by
              have ho4 : outC2 φ own os1 σ H1 D ((compGo own1 sv1 ts1 el ds1 (wipeE e4 own1) >>= fun y => comp2Go own own1 sv ts src1 sv1 ts1 el (ds.drop (i + 1)) (wipeE y.2 own) >>= fun z => .ok (y.1 ++ z.1, z.2)) >>= fun z => .ok (acc ++ z.1, z.2)) Q := ho3
              cases q : compGo own1 sv1 ts1 el ds1 (wipeE e4 own1) with
              | stuck => rw [q] at ho4; exact ho4.elim
              | err _ _ => rw [q] at ho4; exact ho4.elim
              | ok z =>
                rw [q] at ho4
                have ho4 : outC2 φ own os1 σ H1 D ((comp2Go own own1 sv ts src1 sv1 ts1 el (ds.drop (i + 1)) (wipeE z.2 own) >>= fun z2 => .ok (z.1 ++ z2.1, z2.2)) >>= fun z2 => .ok (acc ++ z2.1, z2.2)) Q := ho4
                show outC2 φ own os1 σ H1 D (comp2Go own own1 sv ts src1 sv1 ts1 el (ds.drop (i + 1)) (wipeE z.2 own) >>= fun z2 => .ok ((acc ++ z.1) ++ z2.1, z2.2)) Q
                cases q2 : comp2Go own own1 sv ts src1 sv1 ts1 el (ds.drop (i + 1)) (wipeE z.2 own) with
                | stuck => rw [q2] at ho4; exact ho4.elim
                | err _ _ => rw [q2] at ho4; exact ho4.elim
                | ok z2 =>
                  rw [q2] at ho4
                  have ho4 : outC2 φ own os1 σ H1 D (.ok (acc ++ (z.1 ++ z2.1), z2.2)) Q := ho4
                  rw [← List.append_assoc] at ho4
                  exact ho4
            refine comp_in (X := X) (φ := φ) (own1 := own1) (sv1 := sv1) (ts1 := ts1) (el := el) (fun acc e => R acc (wipeE e own) (ds.drop (i + 1))) (fun acc e h => hR _ _ _ h) h01 hsub1 (hg1 D) (ht1 D) (he D) ee4 yl1 hD4 (RDs.step (φ := φ.in_ D) rv' x4 s4) st fun H os e acc vs k1 k2 k3 k4 k5 k6 => ?_
            have hww : wipe (wipe σ2 own1) own = wipe σ own := (wipe_wipe hoo).trans hw
            refine ⟨wipeE e own, os, acc, vs, ?_, ?_, ?_, k4, k5, k6⟩
            · rw [← hww]; exact erel_wipe k1 own h0
            · intro a o h n
              have nD : a ≠ D := fun z => by rw [z, hD] at h; cases h
              refine k2 a o (x14 a o h n) fun z => ?_
              rcases List.mem_cons.mp z with z | z
              · exact nD z
              · rcases sb14 a z with q | q
                · exact n q
                · rw [h] at q; cases q
            · exact sb14.trans x14 k3
  · have hi' : i = ds.length := by omega
    subst hi'
    refine .inl ⟨y.stop _ H keepH (Nat.le_refl _), ?_⟩
    have hd0 : ds.drop ds.length = [] := by simp
    rw [hd0] at ho
    have ho' : outC2 φ own os1 σ H1 D (.ok (acc ++ [], e)) Q := ho
    rw [List.append_nil] at ho'
    have er2 : ERel (φ.in_ D) (wipeE e own) σ H os := erel_forget ee (wipeE_len _ _) (wipe_length σ own).symm own h0 (fun _ h => wipeE_out e h) (fun _ h => (wipeS_out σ h).symm) fun _ _ hj q => wipeE_no hj q
    exact ho'.2 H os vs ex sb er2 hDH rv
def fComp2L (src : Sr) (own own1 : List Nat) (sv : Sv) (ts : Te) (src1 : Sr) (sv1 : Sv) (ts1 : Te) (el : Ev) : Ef := fun e => src e >>= fun p => comp2Go own own1 sv ts src1 sv1 ts1 el p.1 (wipeE p.2 own) >>= fun z => if z.1.length ≤ sizeLine then .ok (z.1, wipeE z.2 own) else .stuck
theorem comp2Go_noerr {x : Err} {en : VEnv} : ∀ {ds : List Z.D} {e : VEnv}, comp2Go own own1 sv ts src1 sv1 ts1 el ds e ≠ .err x en
  | [], e => by simp [comp2Go]
  | d :: r, e => fun h => by
    have h : (ofO (sv d e) >>= fun e1 => nx (ts e1) >>= fun b => if b.1 = true then nx (src1 b.2) >>= fun p => compGo own1 sv1 ts1 el p.1 (wipeE p.2 own1) >>= fun y => comp2Go own own1 sv ts src1 sv1 ts1 el r (wipeE y.2 own) >>= fun z => .ok (y.1 ++ z.1, z.2) else comp2Go own own1 sv ts src1 sv1 ts1 el r (wipeE b.2 own)) = .err x en := h
    cases w : sv d e with
    | none => rw [w] at h; cases h
    | some e1 =>
      rw [w] at h
      have h : (nx (ts e1) >>= fun b => if b.1 = true then nx (src1 b.2) >>= fun p => compGo own1 sv1 ts1 el p.1 (wipeE p.2 own1) >>= fun y => comp2Go own own1 sv ts src1 sv1 ts1 el r (wipeE y.2 own) >>= fun z => .ok (y.1 ++ z.1, z.2) else comp2Go own own1 sv ts src1 sv1 ts1 el r (wipeE b.2 own)) = .err x en := h
      cases w1 : nx (ts e1) with
      | err _ _ => exact nx_noerr w1
      | stuck => rw [w1] at h; cases h
      | ok b =>
        rw [w1] at h
        have h : (if b.1 = true then nx (src1 b.2) >>= fun p => compGo own1 sv1 ts1 el p.1 (wipeE p.2 own1) >>= fun y => comp2Go own own1 sv ts src1 sv1 ts1 el r (wipeE y.2 own) >>= fun z => .ok (y.1 ++ z.1, z.2) else comp2Go own own1 sv ts src1 sv1 ts1 el r (wipeE b.2 own)) = .err x en := h
        split at h
        · cases w2 : nx (src1 b.2) with
          | err _ _ => exact nx_noerr w2
          | stuck => rw [w2] at h; cases h
          | ok p =>
            rw [w2] at h
            have h : (compGo own1 sv1 ts1 el p.1 (wipeE p.2 own1) >>= fun y => comp2Go own own1 sv ts src1 sv1 ts1 el r (wipeE y.2 own) >>= fun z => .ok (y.1 ++ z.1, z.2)) = .err x en := h
            cases w3 : compGo own1 sv1 ts1 el p.1 (wipeE p.2 own1) with
            | err _ _ => exact compGo_noerr w3
            | stuck => rw [w3] at h; cases h
            | ok y =>
              rw [w3] at h
              have h : (comp2Go own own1 sv ts src1 sv1 ts1 el r (wipeE y.2 own) >>= fun z => .ok (y.1 ++ z.1, z.2)) = .err x en := h
              cases w4 : comp2Go own own1 sv ts src1 sv1 ts1 el r (wipeE y.2 own) with
              | err _ _ => exact comp2Go_noerr w4
              | stuck => rw [w4] at h; cases h
              | ok z => rw [w4] at h; cases h
        · exact comp2Go_noerr h
theorem lc2_read {src : Sr} {g g1 : TG} {σ : L2.St} {H : Hp} {os : List Addr} {env : VEnv} {Q : VK} (h0 : 0 ∉ own ∨ φ.io = none) (hsub : ∀ j ∈ is, j ∈ own) (hsub1 : ∀ j ∈ is1, j ∈ own1) (hoo : ∀ j ∈ own1, j ∈ own) (hgr : ∀ bs, GS ⟨fun _ _ _ _ => False, bs, φ.io⟩ g is sv) (hgr1 : ∀ bs, GS ⟨fun _ _ _ _ => False, bs, φ.io⟩ g1 is1 sv1) (e : ERel φ env σ H os)
    (h : OutF X φ os σ H (fComp2L src own own1 sv ts src1 sv1 ts1 el env) Q) : tLc2 (tR X φ rI src) g (fun σ H Q => ∃ D, tR X (φ.in_ D) rB ts σ H Q) (fun σ H Q => ∃ D, tR X (φ.in_ D) rI src1 σ H Q) g1 (fun σ H Q => ∃ D, tR X (φ.in_ D) rB ts1 σ H Q) (fun σ H Q => ∃ D, tR X (φ.in_ D) rD el σ H Q) own own1 σ H Q := by
  refine fr_core (relA := rI) e h fun J ds H1 env1 os1 x1 s1 e1 yl h1 => fun D hD => ?_
  have h1 : OutF X φ os1 σ H1 (comp2Go own own1 sv ts src1 sv1 ts1 el ds (wipeE env1 own) >>= fun z => if z.1.length ≤ sizeLine then .ok (z.1, wipeE z.2 own) else .stuck) Q := h1
  refine comp_loop2 (X := X) (src1 := src1) (tt := fun σ H Q => ∃ D, tR X (φ.in_ D) rB ts σ H Q) (wi1 := fun σ H Q => ∃ D, tR X (φ.in_ D) rI src1 σ H Q) (tt1 := fun σ H Q => ∃ D, tR X (φ.in_ D) rB ts1 σ H Q) (te := fun σ H Q => ∃ D, tR X (φ.in_ D) rD el σ H Q) h0 hsub hsub1 hoo (fun D => hgr (D :: φ.bs)) (fun D σ H Q q => ⟨D, q⟩) (fun D σ H Q q => ⟨D, q⟩) (fun D => hgr1 (D :: φ.bs)) (fun D σ H Q q => ⟨D, q⟩) (fun D σ H Q q => ⟨D, q⟩) e1 yl D hD ?_
  cases q : comp2Go own own1 sv ts src1 sv1 ts1 el ds (wipeE env1 own) with
  | stuck => rw [q] at h1; exact h1.elim
  | err a b => exact (comp2Go_noerr q).elim
  | ok z =>
    rw [q] at h1
    have h1 : OutF X φ os1 σ H1 (if z.1.length ≤ sizeLine then .ok (z.1, wipeE z.2 own) else .stuck) Q := h1
    by_cases hz : z.1.length ≤ sizeLine
    · rw [if_pos hz] at h1
      refine ⟨hz, fun H2 os2 vs x2 s2 e2 hd rv => ?_⟩
      exact h1 D vs H2 os2 x2 s2 (.inr hD) (fun m => new_ref e1.trk hD (List.mem_append_left _ m)) e2 hd rv
    · rw [if_neg hz] at h1; exact h1.elim
end
/-- the sources and parts of a comprehension with two fors; ow1: the second target's names -/
structure CompOk2 (X : Cx) (φ : Fm) (elt tg iter : Expr) (ifs : List Expr) (tg1 iter1 : Expr) (ifs1 : List Expr) (scope : Scope) (ow ow1 : List (Str × Nat)) (src : Sr) (sv : Sv) (ts : Te) (src1 : Sr) (sv1 : Sv) (ts1 : Te) (el : Ev) : Prop where
  h0 : 0 ∉ ow.map (·.2) ∨ φ.io = none
  hoo : ∀ j ∈ ow1.map (·.2), j ∈ ow.map (·.2)
  hi : JI X φ tg iter src
  ok : BlkOk X.N X.env.scope scope ow
  hg : ∃ (is : List Nat) (g : TG), (∀ j ∈ is, j ∈ ow.map (·.2)) ∧ (∀ bs, GS ⟨fun _ _ _ _ => False, bs, φ.io⟩ g is sv) ∧ ∀ (s : Shared) (H : Hp) (C : Addr) (cl : List (Str × Addr)) (fp : List Addr), PG (X.blk s H scope (compEnvC scope cl C X.env) fp) tg g
  ht : ∀ (s : Shared) (H : Hp) (C : Addr) (cl : List (Str × Addr)) (fp : List Addr) (bs : List Addr), JTs (X.blk s H scope (compEnvC scope cl C X.env) fp) ⟨fun _ _ _ _ => False, bs, φ.io⟩ ifs ts
  hi1 : ∀ (s : Shared) (H : Hp) (C : Addr) (cl : List (Str × Addr)) (fp : List Addr) (bs : List Addr), JI (X.blk s H scope (compEnvC scope cl C X.env) fp) ⟨fun _ _ _ _ => False, bs, φ.io⟩ tg1 iter1 src1
  hg1 : ∃ (is : List Nat) (g : TG), (∀ j ∈ is, j ∈ ow1.map (·.2)) ∧ (∀ bs, GS ⟨fun _ _ _ _ => False, bs, φ.io⟩ g is sv1) ∧ ∀ (s : Shared) (H : Hp) (C : Addr) (cl : List (Str × Addr)) (fp : List Addr), PG (X.blk s H scope (compEnvC scope cl C X.env) fp) tg1 g
  ht1 : ∀ (s : Shared) (H : Hp) (C : Addr) (cl : List (Str × Addr)) (fp : List Addr) (bs : List Addr), JTs (X.blk s H scope (compEnvC scope cl C X.env) fp) ⟨fun _ _ _ _ => False, bs, φ.io⟩ ifs1 ts1
  he : ∀ (s : Shared) (H : Hp) (C : Addr) (cl : List (Str × Addr)) (fp : List Addr) (bs : List Addr), JE (X.blk s H scope (compEnvC scope cl C X.env) fp) ⟨fun _ _ _ _ => False, bs, φ.io⟩ elt el
section
variable {X : Cx} {φ : Fm} {elt tg iter tg1 iter1 : Expr} {ifs ifs1 : List Expr} {scope : Scope} {ow ow1 : List (Str × Nat)} {pos : Pos} {src src1 : Sr} {sv sv1 : Sv} {ts ts1 : Te} {el : Ev}
theorem f_comp2 (hc : X.calm = true) (hN : X.N.Nodup) (C : CompOk2 X φ elt tg iter ifs tg1 iter1 ifs1 scope ow ow1 src sv ts src1 sv1 ts1 el) (hs : ∀ x, foldedSetIterable iter X.env x = pure x := by intro _; rfl) (hs1 : ∀ env x, foldedSetIterable iter1 env x = pure x := by intro _ _; rfl) :
    JF X φ (.ListComp elt [⟨tg, iter, ifs, 0⟩, ⟨tg1, iter1, ifs1, 0⟩] scope pos) (fComp2L src (ow.map (·.2)) (ow1.map (·.2)) sv ts src1 sv1 ts1 el) := by
  obtain ⟨is, g, hsub, hgr, hg⟩ := C.hg
  obtain ⟨is1, g1, hsub1, hgr1, hg1⟩ := C.hg1
  refine ⟨(pe_lc2 (g := g) (g1 := g1) (vs1 := ow1.map (·.2)) (tt := fun σ H Q => ∃ D, tR X (φ.in_ D) rB ts σ H Q) (wi1 := fun σ H Q => ∃ D, tR X (φ.in_ D) rI src1 σ H Q) (tt1 := fun σ H Q => ∃ D, tR X (φ.in_ D) rB ts1 σ H Q) (te := fun σ H Q => ∃ D, tR X (φ.in_ D) rD el σ H Q) hc hN C.hi.j C.ok C.hoo hg (fun s H C1 cl fp => ?_) (fun s H C1 cl fp => ?_) hg1 (fun s H C1 cl fp => ?_) (fun s H C1 cl fp => ?_) hs hs1).imp fun σ H Q h => ?_⟩
  · exact ⟨fun pins s' σ H' Q I ⟨D, q⟩ => (C.ht s H C1 cl fp (D :: φ.bs)).j.run pins s' σ H' Q I q⟩
  · exact ⟨fun pins s' σ H' Q I ⟨D, q⟩ => (C.hi1 s H C1 cl fp (D :: φ.bs)).j.run pins s' σ H' Q I q⟩
  · exact ⟨fun pins s' σ H' Q I ⟨D, q⟩ => (C.ht1 s H C1 cl fp (D :: φ.bs)).j.run pins s' σ H' Q I q⟩
  · exact ⟨fun pins s' σ H' Q I ⟨D, q⟩ => (C.he s H C1 cl fp (D :: φ.bs)).j.run pins s' σ H' Q I q⟩
  · obtain ⟨env, os, e, h⟩ := h
    exact lc2_read C.h0 hsub hsub1 C.hoo hgr hgr1 e h
theorem z_comp2F (hc : X.calm = true) (hN : X.N.Nodup) (C : CompOk2 X φ elt tg iter ifs tg1 iter1 ifs1 scope ow ow1 src sv ts src1 sv1 ts1 el) (hs : ∀ x, foldedSetIterable iter X.env x = pure x := by intro _; rfl) (hs1 : ∀ env x, foldedSetIterable iter1 env x = pure x := by intro _ _; rfl) :
    JE X φ (.ListComp elt [⟨tg, iter, ifs, 0⟩, ⟨tg1, iter1, ifs1, 0⟩] scope pos) (fun e => fComp2L src (ow.map (·.2)) (ow1.map (·.2)) sv ts src1 sv1 ts1 el e >>= fun p => .ok (.list p.1, p.2)) := z_fr (f_comp2 hc hN C hs hs1)
/-- name = [..], a plain value -/
theorem s_asgComp2 {i : Nat} {y : Str} {py spos : Pos} (hc : X.calm = true) (hN : X.N.Nodup) (hio : i ≠ 0 ∨ φ.io = none) (hy : X.N[i]? = some y) (hyl : X.env.scope.names.lookup y = some .local) (C : CompOk2 X φ elt tg iter ifs tg1 iter1 ifs1 scope ow ow1 src sv ts src1 sv1 ts1 el)
    (hsw : swapsWith (.ListComp elt [⟨tg, iter, ifs, 0⟩, ⟨tg1, iter1, ifs1, 0⟩] scope pos) (some (.Name y py)) spos.line X.env = pure true) (hs : ∀ x, foldedSetIterable iter X.env x = pure x := by intro _; rfl) (hs1 : ∀ env x, foldedSetIterable iter1 env x = pure x := by intro _ _; rfl) :
    JS X φ (.Assign [.Name y py] (.ListComp elt [⟨tg, iter, ifs, 0⟩, ⟨tg1, iter1, ifs1, 0⟩] scope pos) spos) (sAsg (fun e => fComp2L src (ow.map (·.2)) (ow1.map (·.2)) sv ts src1 sv1 ts1 el e >>= fun p => .ok (.list p.1, p.2)) (svName i)) := by
  obtain ⟨is, g, hsub, hgr, hg⟩ := C.hg
  obtain ⟨is1, g1, hsub1, hgr1, hg1⟩ := C.hg1
  refine ⟨(ps_setLc2 (g := g) (g1 := g1) (vs1 := ow1.map (·.2)) (tt := fun σ H Q => ∃ D, tR X (φ.in_ D) rB ts σ H Q) (wi1 := fun σ H Q => ∃ D, tR X (φ.in_ D) rI src1 σ H Q) (tt1 := fun σ H Q => ∃ D, tR X (φ.in_ D) rB ts1 σ H Q) (te := fun σ H Q => ∃ D, tR X (φ.in_ D) rD el σ H Q) hc hN hy hyl hsw C.hi.j C.ok C.hoo hg (fun s H C1 cl fp => ?_) (fun s H C1 cl fp => ?_) hg1 (fun s H C1 cl fp => ?_) (fun s H C1 cl fp => ?_) hs hs1).imp fun E σ H h => ?_⟩
  · exact ⟨fun pins s' σ H' Q I ⟨D, q⟩ => (C.ht s H C1 cl fp (D :: φ.bs)).j.run pins s' σ H' Q I q⟩
  · exact ⟨fun pins s' σ H' Q I ⟨D, q⟩ => (C.hi1 s H C1 cl fp (D :: φ.bs)).j.run pins s' σ H' Q I q⟩
  · exact ⟨fun pins s' σ H' Q I ⟨D, q⟩ => (C.ht1 s H C1 cl fp (D :: φ.bs)).j.run pins s' σ H' Q I q⟩
  · exact ⟨fun pins s' σ H' Q I ⟨D, q⟩ => (C.he s H C1 cl fp (D :: φ.bs)).j.run pins s' σ H' Q I q⟩
  · obtain ⟨env, os, e, h⟩ := h
    have h : OutS X φ os H ((fComp2L src (ow.map (·.2)) (ow1.map (·.2)) sv ts src1 sv1 ts1 el env >>= fun p => .ok (.list p.1, p.2)) >>= fun p => ofO (svName i p.1 p.2) >>= fun e' => .ok (.nx e')) E := h
    refine lc2_read C.h0 hsub hsub1 C.hoo hgr hgr1 e ?_
    cases q : fComp2L src (ow.map (·.2)) (ow1.map (·.2)) sv ts src1 sv1 ts1 el env with
    | stuck => rw [q] at h; exact h.elim
    | err x y => rw [q] at h; exact fun H2 os2 cls dd => h σ H2 os2 cls dd
    | ok p =>
      rw [q] at h
      intro a vs H' os' x s _ nb e' ha r
      have h : OutS X φ os H (ofO (svName i (.list p.1) p.2) >>= fun e' => .ok (.nx e')) E := h
      obtain ⟨e2, z, h2⟩ := OutS.opt h
      have rv : RD H' (φ.bs ++ os') (.ref a) (.list p.1) := .lst ha (fun z => (List.mem_append.mp z).elim nb fun z => e'.disj a z List.mem_cons_self) r.out
      exact gs_name (φ := φ) hio e'.leave rv z fun σ' _ _ e3 => OutS.later (r := .ok (.nx e2)) x s h2 σ' H' os' Ext.refl Sub.refl e3
end
end Z

namespace Z
open PySem PySem.W PySem.Spec PyProof.Rows L2
/-! ### zip of two texts of plain signs -/
def asciiS (z : Str) : Bool := z.cps.all (· < 128)
def ItzS (x y : Str) : It :=
  ⟨fun i _ => i < x.cps.size ∧ i < y.cps.size,
    fun i H v H' => ∃ T c d, v = .ref T ∧ H T = none ∧ H' = upd H T (.tup [.str ⟨#[c]⟩, .str ⟨#[d]⟩]) ∧ x.cps[i]? = some c ∧ y.cps[i]? = some d,
    fun i _ => x.cps.size ≤ i ∨ y.cps.size ≤ i⟩
abbrev ZsSt (x y : Str) (t1 t2 : Tok) (z TI TO i1 i2 : Addr) (i : Nat) (h : Heap) : Prop := IsZip h z TI TO .none ∧ IsTupOf2 h TI (.ref i1) (.ref i2) ∧ (∃ a b, IsTupOf2 h TO a b) ∧ h.IsStrIter i1 "str_ascii_iterator" x t1 i ∧ h.IsStrIter i2 "str_ascii_iterator" y t2 i ∧ i ≤ x.cps.size ∧ i ≤ y.cps.size
theorem turn_zipS {P : Program} {w : World} {K : PySem.W.Frag} {elts : List Expr} {kk : Nat} {tpos : Pos} {x y : Str} {t1 t2 : Tok} {z TI TO i1 i2 : Addr} (S : ZipSep2 z TI TO i1 i2 [i1] [i2]) :
    Turn P w K (.Tuple elts kk tpos) (ItzS x y) [z, TI, TO, i1, i2] z (ZsSt x y t1 t2 z TI TO i1 i2) where
  mem := by simp
  obj := fun i h st c hc => by
    obtain ⟨hz, hTI, ⟨a, b, hTO⟩, ⟨o1, e1, _, d1⟩, ⟨o2, e2, _, d2⟩, _⟩ := st
    rcases (by simpa using hc : c = z ∨ c = TI ∨ c = TO ∨ c = i1 ∨ c = i2) with rfl | rfl | rfl | rfl | rfl
    · exact ⟨_, hz, fun v q => nomatch q⟩
    · exact ⟨_, hTI, fun v q => nomatch q⟩
    · exact ⟨_, hTO, fun v q => nomatch q⟩
    · exact ⟨o1, e1, fun v q => by rw [d1] at q; cases q⟩
    · exact ⟨o2, e2, fun v q => by rw [d2] at q; cases q⟩
  keep := fun i h h' st k => by
    obtain ⟨hz, hTI, ⟨a, b, hTO⟩, ⟨o1, e1, r1⟩, ⟨o2, e2, r2⟩, l1, l2⟩ := st
    exact ⟨k z (by simp) _ hz, k TI (by simp) _ hTI, ⟨a, b, k TO (by simp) _ hTO⟩, ⟨o1, k i1 (by simp) _ e1, r1⟩, ⟨o2, k i2 (by simp) _ e2, r2⟩, l1, l2⟩
  item := by
    intro X hP hw hK hc i pins s σ H E I hf st hg
    subst hP hw hK
    obtain ⟨hz, hTI, ⟨a, b, hTO⟩, h1, h2, _, _⟩ := st
    obtain ⟨l1, l2⟩ := hg
    have zl : z < s.heap.objs.size := Heap.lt_size hz
    have hh := I.ok.hd hc
    refine wpAny_pyNext_zipD2_item S (Draws.strAscii (A := X.A.in1) hh i1 x t1) (Draws.strAscii (A := X.A.in1) hh i2 y t2) hz hTI hTO h1 h2 l1 l2 fun u1 u2 h' tk p1 p2 z' TO' n1 n2 hT hsz hk => ?_
    obtain ⟨c, v1, hc1, rfl⟩ := p1
    obtain ⟨d, v2, hd1, rfl⟩ := p2
    refine ⟨_, rfl, wpAny_letOwnedTupleGo_zip (s := { s with heap := h', toks := tk }) z' fun h2' z2' sb => ?_⟩
    have tup : h2'.get? s.heap.objs.size = some { cls := .type "tuple", data := .seq #[.str ⟨#[c]⟩ v1, .str ⟨#[d]⟩ v2] } := (sb.2 _ (Nat.ne_of_gt zl)).trans hT
    have new : ObjOk X.prog X.w (upd H s.heap.objs.size (.tup [.str ⟨#[c]⟩, .str ⟨#[d]⟩])) h2' s.heap.objs.size (.tup [.str ⟨#[c]⟩, .str ⟨#[d]⟩]) :=
      ⟨by show 2 ≤ sizeLine; decide, [.str ⟨#[c]⟩ v1, .str ⟨#[d]⟩ v2], .cons ⟨v1, rfl⟩ (.cons ⟨v2, rfl⟩ .nil), ⟨_, tup, rfl, _, rfl⟩⟩
    have I1 : Inv X pins σ (upd H s.heap.objs.size (.tup [.str ⟨#[c]⟩, .str ⟨#[d]⟩])) { s with heap := h2', toks := tk } :=
      I.turnedNew (t' := tk) (ch := [z, TI, TO, i1, i2]) (fun q o hb e => (sb.2 q (fun e' => hb (by simp [e']))).trans (hk q o (fun e' => hb (by simp [e'])) (fun e' => hb (by simp [e'])) (fun e' => hb (by simp [e'])) (fun e' => hb (by simp [e'])) e)) hf (Nat.le_refl _) new
    refine ⟨.ref s.heap.objs.size, _, I1, rfl, ⟨_, c, d, rfl, I.hok.fresh (Nat.le_refl _), rfl, hc1, hd1⟩, ⟨z2', ?_, ⟨.str ⟨#[c]⟩ v1, .str ⟨#[d]⟩ v2, ?_⟩, ?_, ?_, l1, l2⟩, fun q hq => ?_⟩
    · exact (sb.2 _ S.TIz).trans (hk _ _ S.TIz S.TITO S.TIi1 S.TIi2 hTI)
    · exact (sb.2 _ S.TOz).trans TO'
    · exact n1.extBut sb.extBut S.zi1.symm
    · exact n2.extBut sb.extBut S.zi2.symm
    · have lt : q < s.heap.objs.size := by
        rcases (by simpa using hq : q = z ∨ q = TI ∨ q = TO ∨ q = i1 ∨ q = i2) with rfl | rfl | rfl | rfl | rfl
        · exact zl
        · exact Heap.lt_size hTI
        · exact Heap.lt_size hTO
        · obtain ⟨_, e, _⟩ := h1; exact Heap.lt_size e
        · obtain ⟨_, e, _⟩ := h2; exact Heap.lt_size e
      rw [upd_ne (Nat.ne_of_lt lt)]
      exact (hf q hq).1
  done := by
    intro X hP hw hK hc i pins s σ H E I hf st hg
    subst hP hw hK
    obtain ⟨hz, hTI, ⟨a, b, hTO⟩, h1, h2, l1, l2⟩ := st
    have hh := I.ok.hd hc
    refine wpAny_pyNext_zipD2_end S (Draws.strAscii (A := X.A.in1) hh i1 x t1) (Draws.strAscii (A := X.A.in1) hh i2 y t2) hz hTI hTO h1 h2 l1 l2 (by rcases hg with q | q; exact .inl (by omega); exact .inr (by omega)) fun h' tk hk => ?_
    exact ⟨rfl, I.turnedL (t' := tk) (ch := [z, TI, TO, i1, i2]) (fun q o hb e =>
      hk q o (fun e' => hb (by simp [e'])) (fun e' => hb (by simp [e'])) (fun e' => hb (by simp [e'])) (fun e' => hb (by simp [e'])) e) hf⟩
  self := fun A i s Q E st h => wpAny_pyIter_zip st.1 h
abbrev zsH1 (h : Heap) (x : Str) (t : Tok) : Heap := h.push { cls := .type "str_ascii_iterator", data := .fields #[.str x t, .int 0 0] }
abbrev zsH2 (h : Heap) (x y : Str) (t u : Tok) : Heap := (zsH1 h x t).push { cls := .type "str_ascii_iterator", data := .fields #[.str y u, .int 0 0] }
abbrev zsH3 (h : Heap) (x y : Str) (t u : Tok) : Heap := (zsH2 h x y t u).push { cls := .type "tuple", data := .seq #[.ref h.objs.size, .ref (zsH1 h x t).objs.size] }
abbrev zsH4 (h : Heap) (x y : Str) (t u : Tok) : Heap := (zsH3 h x y t u).push { cls := .type "tuple", data := .seq #[.none, .none] }
abbrev zsH5 (h : Heap) (x y : Str) (t u : Tok) : Heap := (zsH4 h x y t u).push { cls := .type "zip", data := .fields #[.none, .bool false, .bool false, .ref (zsH2 h x y t u).objs.size, .ref (zsH3 h x y t u).objs.size] }
theorem zs_new (x y : Str) (t u : Tok) : Meets (Builtin.«zip.__new__» ⟨[.type "zip", .str x t, .str y u], []⟩) (fun _ R s => asciiS x = true ∧ asciiS y = true ∧ R (.ok (.ret (.ref (zsH4 s.heap x y t u).objs.size))) { s with heap := zsH5 s.heap x y t u }) :=
  .of_wp fun prog w A R s h => by
    obtain ⟨hp, g, d, tk, os⟩ := s
    obtain ⟨a1, a2, h⟩ := h
    have hsub := sub_zip
    have b1 : x.cps.all (· < 128) = true := a1
    have b2 : y.cps.all (· < 128) = true := a2
    wp_walk using wpAny_pyIter_ascii b1, wpAny_pyIter_ascii b2
    exact ⟨_, rfl, h⟩
theorem call_zipS {prog : Program} {w : World} {A : Around} {E : Value → Shared → Prop} {s : Shared} {x y : Str} {t u : Tok} {Q : Value → Shared → Prop} (a1 : asciiS x = true) (a2 : asciiS y = true)
    (h : ∀ h', ZsSt x y t u (s.heap.objs.size + 4) (s.heap.objs.size + 2) (s.heap.objs.size + 3) s.heap.objs.size (s.heap.objs.size + 1) 0 h' → (∀ c o, s.heap.get? c = some o → h'.get? c = some o) → Q (.ref (s.heap.objs.size + 4)) { s with heap := h' }) :
    wpAny (model prog w) A (call (.type "zip") [.str x t, .str y u]) Q E s := by
  refine callType_new F.called_zip (by decide) (F.typeCall_zip_2 _ _) (F.newCall_zip_2 _ _) (fun obj => F.args_object_init_3 obj _ _) F.entry_zip_new (zs_new x y t u) ⟨a1, a2, ?_⟩
  have z1 : (zsH1 s.heap x t).objs.size = s.heap.objs.size + 1 := Heap.size_push ..
  have z2 : (zsH2 s.heap x y t u).objs.size = s.heap.objs.size + 2 := by rw [Heap.size_push, z1]
  have z3 : (zsH3 s.heap x y t u).objs.size = s.heap.objs.size + 3 := by rw [Heap.size_push, z2]
  have z4 : (zsH4 s.heap x y t u).objs.size = s.heap.objs.size + 4 := by rw [Heap.size_push, z3]
  have g5 : (zsH5 s.heap x y t u).get? (zsH4 s.heap x y t u).objs.size = some _ := Heap.get?_push_size _ rfl
  have g4 : (zsH5 s.heap x y t u).get? (zsH3 s.heap x y t u).objs.size = some _ := Heap.get?_push_of_some _ (Heap.get?_push_size _ rfl)
  have g3 : (zsH5 s.heap x y t u).get? (zsH2 s.heap x y t u).objs.size = some _ := Heap.get?_push_of_some _ (Heap.get?_push_of_some _ (Heap.get?_push_size _ rfl))
  have g2 : (zsH5 s.heap x y t u).get? (zsH1 s.heap x t).objs.size = some _ := Heap.get?_push_of_some _ (Heap.get?_push_of_some _ (Heap.get?_push_of_some _ (Heap.get?_push_size _ rfl)))
  have g1 : (zsH5 s.heap x y t u).get? s.heap.objs.size = some _ := Heap.get?_push_of_some _ (Heap.get?_push_of_some _ (Heap.get?_push_of_some _ (Heap.get?_push_of_some _ (Heap.get?_push_size _ rfl))))
  show _ ∧ _
  rw [z2, z3, z4] at g5
  rw [z1, z2] at g3
  rw [z3] at g4
  rw [z1] at g2
  rw [z4]
  exact ⟨⟨_, g5, rfl⟩, h _ ⟨g5, g3, ⟨_, _, g4⟩, ⟨_, g1, rfl, rfl⟩, ⟨_, g2, rfl, rfl⟩, Nat.zero_le _, Nat.zero_le _⟩ fun c o e =>
    Heap.get?_push_of_some _ (Heap.get?_push_of_some _ (Heap.get?_push_of_some _ (Heap.get?_push_of_some _ (Heap.get?_push_of_some _ e))))⟩
theorem sep5 (n : Nat) : ZipSep2 (n + 4) (n + 2) (n + 3) n (n + 1) [n] [n + 1] := by
  constructor <;> first | (simp; done) | (simp <;> omega) | omega
theorem ge5 {n c : Nat} (h : c ∈ [n + 4, n + 2, n + 3, n, n + 1]) : n ≤ c := by
  simp at h
  omega
def iZipS (ta : TA) : TI := fun σ H R => ta σ H fun vs H1 => ∃ x y, vs = [.str x, .str y] ∧ asciiS x = true ∧ asciiS y = true ∧ R (ItzS x y) H1
theorem pi_zipS {X : Cx} {e e2 : Expr} {ta : TA} {p pos tpos : Pos} {elts : List Expr} {kk : Nat} (hg : Gl X "zip") (hm : X.mg "zip" = none) (ha : PA X [e, e2] ta)
    (hs : starEach [e, e2] X.env = (false, eval e X.env) :: starEach [e2] X.env := by rfl) (hpl : (backTo pos (starEach [e2] X.env)).any (·.1) = false := by rfl) :
    PI X (.Tuple elts kk tpos) (.Call (.Name "zip" p) [e, e2] [] pos) (iZipS ta) := by
  refine ⟨fun pins s σ H R I h => ?_⟩
  refine Call_ (ld_blt I hg hm PyProof.Rows.boot_zip (PyProof.Rows.callWith_type1 (thn (ha.run pos pins s σ H _ I h) fun us s1 ⟨vs, H1, I1, r1, x, y, ex, a1, a2, q⟩ => ?_) hs hpl))
  subst ex
  cases r1 with
  | cons r rr =>
    cases rr with
    | cons r' rr =>
      cases rr
      obtain ⟨t, rfl⟩ := r
      obtain ⟨u, rfl⟩ := r'
      refine call_zipS a1 a2 fun h' st hk => wpAny_pyIter_zip st.1 ?_
      have I2 : Inv X pins σ H1 { s1 with heap := h' } := I1.kept (t' := s1.toks) hk
      refine ⟨s1.heap.objs.size + 4, [s1.heap.objs.size + 4, s1.heap.objs.size + 2, s1.heap.objs.size + 3, s1.heap.objs.size, s1.heap.objs.size + 1], _, _, H1, rfl, I2, turn_zipS (sep5 _), st, fun c hcm => ?_, q⟩
      have hle : s1.heap.objs.size ≤ c := ge5 hcm
      exact I1.fpOk hle (I1.hok.fresh hle)
theorem signs_get {z : Str} {i : Nat} {d : D} (h : (signs z)[i]? = some d) : ∃ c, z.cps[i]? = some c ∧ d = .str ⟨#[c]⟩ := by
  unfold signs at h
  rw [List.getElem?_map, Array.getElem?_toList] at h
  cases q : z.cps[i]? with
  | none => rw [q] at h; cases h
  | some c => rw [q] at h; cases h; exact ⟨c, rfl, rfl⟩
theorem signs_len (z : Str) : (signs z).length = z.cps.size := by unfold signs; rw [List.length_map, Array.length_toList]
theorem yl_zipS {H : Hp} {av : List Addr} (x y : Str) : Yl (ItzS x y) H av (zipL (signs x) (signs y)) where
  go := fun i H2 av' d k s t hd => by
    obtain ⟨p, q, h1, h2, rfl⟩ := zipL_get _ _ i d hd
    obtain ⟨c, c1, rfl⟩ := signs_get h1
    obtain ⟨d, d1, rfl⟩ := signs_get h2
    refine ⟨⟨(Array.getElem?_eq_some_iff.mp c1).1, (Array.getElem?_eq_some_iff.mp d1).1⟩, fun v H' yy => ?_⟩
    obtain ⟨T, c', d', rfl, nT, rfl, e1, e2⟩ := yy
    rw [c1] at e1
    rw [d1] at e2
    cases e1
    cases e2
    exact ⟨same_upd nT, .tup upd_same (new_ref t nT) (.cons (.str _) (.cons (.str _) .nil))⟩
  stop := fun i H2 k h => by
    have := zipL_len _ _ i h
    rw [signs_len, signs_len] at this
    exact this
def zipSD : D → D → Option (List D)
  | .str a, .str b => if asciiS a && asciiS b then some (zipL (signs a) (signs b)) else none
  | _, _ => none
theorem zipSD_cases {d d' : D} {l : List D} (h : zipSD d d' = some l) : ∃ a b, d = .str a ∧ d' = .str b ∧ asciiS a = true ∧ asciiS b = true ∧ l = zipL (signs a) (signs b) := by
  unfold zipSD at h
  split at h
  · split at h
    · next c => cases h; exact ⟨_, _, rfl, rfl, (Bool.and_eq_true_iff.mp c).1, (Bool.and_eq_true_iff.mp c).2, rfl⟩
    · cases h
  · cases h
def srZipS (f g : Ev) : Sr := fun e => f e >>= fun p => g p.2 >>= fun q => ofO (zipSD p.1 q.1) >>= fun ds => .ok (ds, q.2)
section
variable {X : Cx} {φ : Fm} {a b : Expr} {p pos tpos : Pos} {f g : Ev} {k : Nat} {W : WX}
theorem k_zipS {elts : List Expr} {kk : Nat} (hm : X.mg "zip" = none) (ha : JE X φ a f) (hb : JE X φ b g) (hg : Gl X "zip" := by rfl) (hs2 : starEach [b] X.env = (false, eval b X.env) :: starEach [] X.env := by rfl) (hs : starEach [a, b] X.env = (false, eval a X.env) :: starEach [b] X.env := by rfl)
    (hpl : (backTo pos (starEach [b] X.env)).any (·.1) = false := by rfl) : JI X φ (.Tuple elts kk tpos) (.Call (.Name "zip" p) [a, b] [] pos) (srZipS f g) :=
  ⟨(pi_zipS hg hm (pa_cons ha.j (pa_cons hb.j pa_nil hs2) hs) hs hpl).imp fun σ H R h => by
    obtain ⟨env, os, e, h⟩ := h
    refine seq_core2 (relA := rD) e h fun v d H1 env1 os1 x1 s1 e1 r1 h1 => ?_
    refine seq_core2 (relA := rD) e1 h1 fun v' d' H2 env2 os2 x2 s2 e2 r2 h2 => ?_
    obtain ⟨l, hz, h3⟩ := OutR.opt h2
    obtain ⟨a', b', rfl, rfl, c1, c2, rfl⟩ := zipSD_cases hz
    cases r1
    cases r2
    exact ⟨a', b', rfl, c1, c2, OutR.ret h3 _ (Same.refl _) e2 (yl_zipS a' b')⟩⟩
/-! text.index(sign) -/
def sindexD : D → List D → Option D
  | .str a, [.str b] => match Builtin.Str.occurrences a b 0 a.length 1 with
    | i :: _ => some (.int (i : Nat))
    | [] => none
  | _, _ => none
theorem s_sindex : MVS (fun x xs H Q => ∃ a b i rest, x = .str a ∧ xs = [.str b] ∧ Builtin.Str.occurrences a b 0 a.length 1 = i :: rest ∧ Q (.int (i : Nat)) H) sindexD := fun {x ws d z ds H av Q} trk r rs e q => by
  unfold sindexD at e
  split at e
  · next a b =>
    split at e
    · next i rest ho =>
      cases e
      have hx := r.str
      cases rs with
      | cons r1 r2 =>
        cases r2
        cases r1
        exact ⟨a, b, i, rest, hx, rfl, ho, q _ H (Same.refl H) (.int _)⟩
    · cases e
  · cases e
variable {o e : Expr} {apos cpos : Pos} {fo : Oe} {ga : Ar}
theorem z_sindex (I : In k X W) (ho : JO X φ o fo) (hf : JA X φ [e] ga) (hbase : attributeBase o "index" X.env (eval o X.env) = eval o X.env := by rfl)
    (hfew : ((backTo cpos (starEach [e] X.env)).all (fun x => !x.1) && (backToKw cpos (keywordEach [] X.env)).all (fun x => x.1.isSome)
      && decide ([e].length + ([] : List Keyword).length + (if ([] : List Keyword).isEmpty then 0 else 1) < 30)) = true := by rfl)
    (hline : (apos.endLine == cpos.line) = true := by rfl) (hst : starEach [e] X.env = (false, eval e X.env) :: starEach [] X.env := by rfl) (hplain : (backTo cpos (starEach [] X.env)).any (·.1) = false := by rfl) :
    JE X φ (.Call (.Attribute o "index" apos) [e] [] cpos) (xMeth "str" sindexD fo ga) := z_meth PySem.F.plainAttrs_str PySem.F.slot_str_index PySem.F.type_str_index mt_sindex s_sindex ho hf hbase hfew hline hst hplain
end
section
variable {X : Cx} {φ : Fm}
theorem ss_stuck {body : List Stmt} : JSs X φ body sStuck := ⟨⟨fun _ _ _ _ _ _ ⟨_, _, _, h⟩ => h.elim⟩⟩
end
end Z

namespace Z
open PySem PySem.Spec PyProof.Rows L2
/-! ### an own list that is read through within an expression whose value is plain: it stays owned -/
def scalD : D → Bool
  | .none => true
  | .bool _ => true
  | .int _ => true
  | .str _ => true
  | _ => false
def keepS : Sl → Sl → Sl
  | .val _, .val d => .val d
  | .exc a, _ => .exc a
  | _, _ => .no
def keepE : VEnv → VEnv → VEnv
  | [], _ => []
  | s :: r, [] => keepS s .no :: keepE r []
  | s :: r, t :: q => keepS s t :: keepE r q
theorem keepE_len : ∀ e1 e0 : VEnv, (keepE e1 e0).length = e1.length
  | [], _ => rfl
  | s :: r, [] => by rw [keepE, List.length_cons, List.length_cons, keepE_len]
  | s :: r, t :: q => by rw [keepE, List.length_cons, List.length_cons, keepE_len]
theorem keepE_get : ∀ (e1 e0 : VEnv) (i : Nat), e0.length = e1.length → (keepE e1 e0)[i]? = match e1[i]?, e0[i]? with
    | some s, some t => some (keepS s t)
    | _, _ => none
  | [], _, _, h => by
    have : (‹VEnv› : VEnv).length = 0 := h
    simp [keepE]
  | s :: r, [], _, h => by simp at h
  | s :: r, t :: q, 0, h => by simp [keepE]
  | s :: r, t :: q, i + 1, h => by
    have ih := keepE_get r q i (by simpa using h)
    simpa [keepE] using ih
/-- the expression f sees slot i as plain data; behind it the slot is what it was -/
def xKeep (i : Nat) (f : Ev) : Ev := fun e => match e.getD i .no with
  | .own ds => f (e.set i (.val (.list ds))) >>= fun p => if scalD p.1 = true then .ok (p.1, (keepE p.2 e).set i (.own ds)) else .stuck
  | .val _ => f e
  | _ => .stuck
section
variable {X : Cx} {φ : Fm} {env env' : VEnv} {σ : L2.St} {H H' : Hp} {os : List Addr} {e : Expr} {f : Ev}
theorem RD.scal {av av' : List Addr} {v : V} {d : D} (h : RD H av v d) (s : scalD d = true) : RD H av' v d := by
  cases h with
  | non => exact .non
  | bl b => exact .bl b
  | int i => exact .int i
  | str x => exact .str x
  | lst _ _ _ => cases s
  | tup _ _ _ => cases s
  | dct _ _ => cases s
theorem z_keep {i : Nat} (hio0 : φ.io = none) (h : JE X φ e f) : JE X φ e (xKeep i f) := ⟨h.j.imp fun σ H Q ⟨env, os, er, h⟩ => by
  have hio : i ≠ 0 ∨ φ.io = none := .inr hio0
  unfold xKeep at h
  cases z : env.getD i .no with
  | no => rw [z] at h; exact h.elim
  | exc _ => rw [z] at h; exact h.elim
  | val d => rw [z] at h; exact ⟨env, os, er, h⟩
  | own ds =>
    rw [z] at h
    have h : OutR X φ rD os σ H (f (env.set i (.val (.list ds))) >>= fun p => if scalD p.1 = true then .ok (p.1, (keepE p.2 env).set i (.own ds)) else .stuck) Q := h
    have zi := getD_val z (fun q => by cases q)
    obtain ⟨a, vs, sa, ma, ha, ra⟩ := er.own i ds zi
    -- without a
    let os' := os.filter fun b => decide (b ≠ a)
    have mem' : ∀ b, b ∈ os' ↔ b ∈ os ∧ b ≠ a := fun b => by simp [os']
    have sub' : Sub H os os' := fun b m => .inl ((mem' b).mp m).1
    have hi : i < env.length := (List.getElem?_eq_some_iff.mp zi).1
    have na : a ∉ φ.bs ++ os' := fun m => by
      rcases List.mem_append.mp m with m | m
      · exact er.disj a ma m
      · exact ((mem' a).mp m).2 rfl
    have mono' : ∀ b, b ∈ φ.bs ++ os' → b ∈ φ.bs ++ os ∨ H b = none := fun b m => by
      rcases List.mem_append.mp m with m | m
      · exact .inl (List.mem_append_left _ m)
      · exact .inl (List.mem_append_right _ ((mem' b).mp m).1)
    have er' : ERel φ (env.set i (.val (.list ds))) σ H os' := by
      refine ⟨by rw [List.length_set]; exact er.len, fun j d q => ?_, fun j es q => ?_, fun j l b es fs q1 q2 q3 q4 => ?_, fun b m => ?_, fun b m => er.disj b ((mem' b).mp m).1, fun b q => ?_, fun j b q => ?_⟩
      · by_cases hj : i = j
        · subst hj
          rw [List.getElem?_set_self hi] at q
          cases q
          exact ⟨.ref a, sa, .lst ha na (ra.mono (fun _ _ e _ => e) mono')⟩
        · rw [List.getElem?_set_ne hj] at q
          obtain ⟨v, w1, w2⟩ := er.val j d q
          exact ⟨v, w1, w2.mono (fun _ _ e _ => e) mono'⟩
      · by_cases hj : i = j
        · subst hj; rw [List.getElem?_set_self hi] at q; cases q
        · rw [List.getElem?_set_ne hj] at q
          obtain ⟨b, ws, w1, w2, w3, w4⟩ := er.own j es q
          exact ⟨b, ws, w1, (mem' b).mpr ⟨w2, fun e => by subst e; exact hj (er.dist i j b ds es zi q sa w1)⟩, w3, w4.mono (fun _ _ e _ => e) mono'⟩
      · by_cases hj : i = j
        · subst hj; rw [List.getElem?_set_self hi] at q1; cases q1
        · by_cases hl : i = l
          · subst hl; rw [List.getElem?_set_self hi] at q2; cases q2
          · rw [List.getElem?_set_ne hj] at q1
            rw [List.getElem?_set_ne hl] at q2
            exact er.dist j l b es fs q1 q2 q3 q4
      · rcases List.mem_append.mp m with m | m
        · exact er.trk b (List.mem_append_left _ m)
        · exact er.trk b (List.mem_append_right _ ((mem' b).mp m).1)
      · obtain ⟨w1, w2, es, w3⟩ := er.io b q
        rcases hio with hi0 | hi0
        · refine ⟨(mem' b).mpr ⟨w1, fun e => ?_⟩, w2, es, by rw [List.getElem?_set_ne hi0]; exact w3⟩
          subst e
          exact hi0 (er.dist i 0 b ds es zi w3 sa w2)
        · rw [hi0] at q; cases q
      · by_cases hj : i = j
        · subst hj; rw [List.getElem?_set_self hi] at q; cases q
        · rw [List.getElem?_set_ne hj] at q
          exact er.exc j b q
    refine ⟨_, os', er', ?_⟩
    have exw : ∀ {H2 : Hp}, Ext os' H H2 → Ext os H H2 := fun {H2} x b o h n => x b o h fun m => n ((mem' b).mp m).1
    cases q : f (env.set i (.val (.list ds))) with
    | stuck => rw [q] at h; exact h.elim
    | err x en =>
      rw [q] at h
      exact fun H2 os2 cls dd x2 s2 => h H2 os2 cls dd (exw x2) (fun b m => (s2 b m).imp (fun w => ((mem' b).mp w).1) id)
    | ok p =>
      obtain ⟨d, e1⟩ := p
      rw [q] at h
      have h : OutR X φ rD os σ H (if scalD d = true then .ok (d, (keepE e1 env).set i (.own ds)) else .stuck) Q := h
      by_cases hs : scalD d = true
      · rw [if_pos hs] at h
        intro v H2 os2 x2 s2 e2 r2
        have aH2 : H2 a = some (.lst vs) := x2 a _ ha fun m => ((mem' a).mp m).2 rfl
        have a2 : a ∉ os2 := fun m => by
          rcases s2 a m with w | w
          · exact ((mem' a).mp w).2 rfl
          · rw [ha] at w; cases w
        have s3 : Sub H os (a :: os2) := fun b m => by
          rcases List.mem_cons.mp m with rfl | m
          · exact .inl ma
          · exact (s2 b m).imp (fun w => ((mem' b).mp w).1) id
        have l1 : e1.length = env.length := e2.len.trans er.len.symm
        have li : i < (keepE e1 env).length := by rw [keepE_len, l1]; exact hi
        have mb := mono_bs (φ := φ) (exw x2) s3
        refine h v H2 (a :: os2) (exw x2) s3 ?_ (RD.scal r2 hs)
        refine ⟨by rw [List.length_set, keepE_len]; exact e2.len, fun j d q => ?_, fun j es q => ?_, fun j l b es fs q1 q2 q3 q4 => ?_, fun b m => ?_, fun b m => ?_, fun b q => ?_, fun j b q => ?_⟩
        · by_cases hj : i = j
          · subst hj; rw [List.getElem?_set_self li] at q; cases q
          · rw [List.getElem?_set_ne hj, keepE_get e1 env j l1.symm] at q
            cases w1 : e1[j]? with
            | none => rw [w1] at q; cases q
            | some s1 =>
              cases w2 : env[j]? with
              | none => rw [w1, w2] at q; cases q
              | some s2' =>
                rw [w1, w2] at q
                have q : keepS s1 s2' = .val d := Option.some.inj q
                cases s1 with
                | no => cases q
                | own _ => cases q
                | exc _ => cases q
                | val d1 =>
                  cases s2' with
                  | no => cases q
                  | own _ => cases q
                  | exc _ => cases q
                  | val d2 =>
                    cases q
                    obtain ⟨u, u1, u2⟩ := er.val j d w2
                    exact ⟨u, u1, u2.mono mb.1 mb.2⟩
        · by_cases hj : i = j
          · subst hj
            rw [List.getElem?_set_self li] at q
            cases q
            exact ⟨a, vs, sa, List.mem_cons_self, aH2, ra.mono mb.1 mb.2⟩
          · rw [List.getElem?_set_ne hj, keepE_get e1 env j l1.symm] at q
            cases w1 : e1[j]? with
            | none => rw [w1] at q; cases q
            | some s1 =>
              cases w2 : env[j]? with
              | none => rw [w1, w2] at q; cases q
              | some s2' =>
                rw [w1, w2] at q
                have q : keepS s1 s2' = .own es := Option.some.inj q
                cases s1 with
                | no => cases q
                | val _ => cases s2' <;> cases q
                | exc _ => cases q
                | own xs => cases s2' <;> cases q
        · by_cases hj : i = j
          · by_cases hl : i = l
            · rw [← hj, hl]
            · rw [List.getElem?_set_ne hl, keepE_get e1 env l l1.symm] at q2
              cases w1 : e1[l]? with
              | none => rw [w1] at q2; cases q2
              | some s1 =>
                cases w2 : env[l]? with
                | none => rw [w1, w2] at q2; cases q2
                | some s2' =>
                  rw [w1, w2] at q2
                  have q2 : keepS s1 s2' = .own fs := Option.some.inj q2
                  cases s1 <;> cases s2' <;> cases q2
          · rw [List.getElem?_set_ne hj, keepE_get e1 env j l1.symm] at q1
            cases w1 : e1[j]? with
            | none => rw [w1] at q1; cases q1
            | some s1 =>
              cases w2 : env[j]? with
              | none => rw [w1, w2] at q1; cases q1
              | some s2' =>
                rw [w1, w2] at q1
                have q1 : keepS s1 s2' = .own es := Option.some.inj q1
                cases s1 <;> cases s2' <;> cases q1
        · rcases List.mem_append.mp m with m | m
          · exact e2.trk b (List.mem_append_left _ m)
          · rcases List.mem_cons.mp m with rfl | m
            · exact ⟨_, aH2⟩
            · exact e2.trk b (List.mem_append_right _ m)
        · rcases List.mem_cons.mp m with rfl | m
          · exact er.disj b ma
          · exact e2.disj b m
        · rw [hio0] at q; cases q
        · by_cases hj : i = j
          · subst hj; rw [List.getElem?_set_self li] at q; cases q
          · rw [List.getElem?_set_ne hj, keepE_get e1 env j l1.symm] at q
            cases w1 : e1[j]? with
            | none => rw [w1] at q; cases q
            | some s1 =>
              cases w2 : env[j]? with
              | none => rw [w1, w2] at q; cases q
              | some s2' =>
                rw [w1, w2] at q
                have q : keepS s1 s2' = .exc b := Option.some.inj q
                cases s1 with
                | no => cases q
                | own _ => cases q
                | val _ => cases s2' <;> cases q
                | exc c =>
                  cases q
                  exact e2.exc j b w1
      · rw [if_neg hs] at h; exact h.elim⟩
end
end Z

namespace PySem.SeqAt
open AutoSeq1 (wpAny_loadPart')
open MeetsSeq
theorem z_dict_eq_declines_tuple (l b : Addr) (es : Array DictEntry) (n n2 : Nat) (items2 : Array Value) (dd dd2 : Option Addr) (sl sl2 : Array (Option Value)) :
    Meets (Builtin.«dict.__eq__» ⟨[.ref l, .ref b], []⟩) (fun _ R s => s.heap.get? l = some { cls := .type "dict", dict := dd, data := .dict es n, slots := sl } ∧ s.heap.get? b = some { cls := .type "tuple", dict := dd2, data := .seq items2 n2, slots := sl2 } ∧ R (.ok (.ret .notImplemented)) s) :=
  .of_wp fun prog w A R s h => by obtain ⟨hp, g, d, tk, os⟩ := s; obtain ⟨hl, hb, h⟩ := h; have f1 := F.sub_tuple_dict; wp_walk using wpAny_loadPart' hl, wpAny_loadPart' hb; exact ⟨_, rfl, h⟩
theorem z_tuple_eq_declines_dict (l b : Addr) (es : Array DictEntry) (n n2 : Nat) (items2 : Array Value) (dd dd2 : Option Addr) (sl sl2 : Array (Option Value)) :
    Meets (Builtin.«tuple.__eq__» ⟨[.ref b, .ref l], []⟩) (fun _ R s => s.heap.get? b = some { cls := .type "tuple", dict := dd2, data := .seq items2 n2, slots := sl2 } ∧ s.heap.get? l = some { cls := .type "dict", dict := dd, data := .dict es n, slots := sl } ∧ R (.ok (.ret .notImplemented)) s) :=
  .of_wp fun prog w A R s h => by obtain ⟨hp, g, d, tk, os⟩ := s; obtain ⟨hb, hl, h⟩ := h; have f1 := F.sub_dict_tuple; wp_walk using wpAny_loadPart' hl, wpAny_loadPart' hb; exact ⟨_, rfl, h⟩
theorem RcAt.z_dict_tuple {A : Around} {s : Shared} {l b : Addr} {o : Obj} {es : Array DictEntry} {n : Nat} {items2 : Array Value} (ho : s.heap.get? l = some o) (hc : o.cls = .type "dict") (hd : o.data = .dict es n) (hb : s.heap.IsTuple b items2) (hu : A.units < cLine) : RcAt A s (.ref l) (.ref b) false := fun prog w E Q h => by
  obtain ⟨⟨cls2, dd2, data2, sl2⟩, ho2, hc2, n2, hd2⟩ := id hb
  obtain ⟨cls, dd, data, sl⟩ := o
  simp only at hc hd hc2 hd2
  subst hc hd hc2 hd2
  have hne : l ≠ b := fun e => by subst e; rw [ho] at ho2; have z := congrArg Obj.cls (Option.some.inj ho2); exact absurd z (by simp)
  exact (rc_eq_decline_or (k := false) ⟨_, ho, rfl⟩ ⟨_, ho2, rfl⟩ (by decide) F.sub_tuple_dict F.slot_dict_eq F.slot_tuple_eq_refl
    (fun _ hq => call_meets F.slot_dict_eq ⟨_, ho, rfl⟩ F.entry_dict_eq (F.args_dict_eq_2 _ _) (z_dict_eq_declines_tuple l b es n n2 items2 dd dd2 sl sl2) ⟨ho, ho2, hq⟩)
    (fun _ hq => call_meets F.slot_tuple_eq_refl ⟨_, ho2, rfl⟩ F.entry_tuple_eq (F.args_tuple_eq_2 _ _) (z_tuple_eq_declines_dict l b es n n2 items2 dd dd2 sl sl2) ⟨ho2, ho, hq⟩)
    (fun _ hq => wpAny_isSame_ref_other hne ho ho2 (by simp) hq) (.inr hu) h)
end PySem.SeqAt
namespace Z
open PySem PySem.Spec PyProof.Rows L2
/-! ### thing == (a, b), also where the thing is an empty dict -/
def eqTD : D → D → Option Bool
  | .dict [], .tuple _ => some false
  | a, b => eqD a b
theorem eqTD_gen {a b : D} {k : Bool} (h : eqTD a b = some k) : (a = .dict [] ∧ (∃ ds, b = .tuple ds) ∧ k = false) ∨ eqD a b = some k := by
  unfold eqTD at h
  split at h
  · exact .inl ⟨rfl, ⟨_, rfl⟩, (Option.some.inj h).symm⟩
  · exact .inr h
section
variable {X : Cx}
theorem o_eqT (hu : X.A.units + 64 < cLine) : OpR X (compareOp .Eq) (rTell eqTD) := op_tell fun M E Q s u1 u2 d1 d2 as bs b hM R1 R2 e q => by
  subst hM
  rcases eqTD_gen e with ⟨rfl, ⟨ds, rfl⟩, rfl⟩ | e
  · cases R1 with
    | dict h1 h2 h3 h4 h5 =>
      cases R2 with
      | tuple k1 k2 k3 k4 => exact PySem.SeqAt.RcAt.z_dict_tuple h1 h2 h3 ⟨_, k1, k2, _, k3⟩ (by omega) _ _ _ _ q
  · have k : (shape d1 && shape d2) = true ∧ b = PyData.eqv d1 d2 := by
      rcases eqD_gen e with ⟨i, j, rfl, rfl, rfl⟩ | h
      · exact ⟨rfl, (eqv_int i j).symm⟩
      · exact h
    obtain ⟨p1, p2, dp⟩ := shape_of k.1
    rw [k.2] at q
    exact PySem.SeqAt.eq_plain R1 R2 p1 p2 (by omega) q
variable {k : Nat} {W : WX} {φ : Fm} {a b : Expr} {f g : Oe} {pos : Pos}
theorem z_eqT (I : In k X W) (ha : JO X φ a f) (hb : JO X φ b g) (hm : behindInMarks .Eq b = false := by rfl) : JE X φ (.Compare a [.Eq] [b] pos) (xBin (bD eqTD) f g) := z_cmp (o_eqT I.room.units) rTell_s ha hb hm
theorem c_eqT (I : In k X W) : Cmp X .Eq eqTD := ⟨_, o_eqT I.room.units, rTell_s⟩
end
/-! ### text.join(list of texts) -/
def strsOf : List D → Option (List Str)
  | [] => some []
  | .str x :: ds => (strsOf ds).map (x :: ·)
  | _ => none
theorem strsOf_eq : ∀ {ds : List D} {ys : List Str}, strsOf ds = some ys → ds = ys.map PyData.str
  | [], _, h => by cases h; rfl
  | .str x :: ds, ys, h => by
    obtain ⟨zs, h2, rfl⟩ := Option.map_eq_some_iff.mp (show (strsOf ds).map (x :: ·) = some ys from h)
    rw [strsOf_eq h2]; rfl
  | .none :: _, _, h => by cases h
  | .bool _ :: _, _, h => by cases h
  | .int _ :: _, _, h => by cases h
  | .list _ :: _, _, h => by cases h
  | .tuple _ :: _, _, h => by cases h
  | .dict _ :: _, _, h => by cases h
def joinD : D → List D → Option D
  | .str a, [.list ds] => match strsOf ds with
    | some ys => if (ys.map (·.length)).sum + ys.length * a.length ≤ 16777216 then some (.str (Txt.join a ys)) else none
    | none => none
  | _, _ => none
theorem s_join {K : PySem.W.Frag} : MVS (fun x xs H Q => ∃ a p, ∃ ys : List Str, x = .str a ∧ xs = [.ref p] ∧ (SqL K H p (ys.map V.str) ∨ SqT K H p (ys.map V.str)) ∧ (ys.map (·.length)).sum + ys.length * a.length ≤ 16777216 ∧ Q (.str (Txt.join a ys)) H) joinD := fun {x ws d z ds H av Q} trk r rs e q => by
  unfold joinD at e
  split at e
  · next a es =>
    split at e
    · next ys hy =>
      split at e
      · next hl =>
        cases e
        have hx := r.str
        cases rs with
        | cons r1 r2 =>
          cases r2
          cases r1 with
          | lst e1 ne q1 =>
            rw [strsOf_eq hy] at q1
            have := q1.of_strs
            subst this
            exact ⟨a, _, ys, hx, rfl, .inl (SqL.of e1), hl, q _ H (Same.refl H) (.str _)⟩
      · cases e
    · cases e
  · cases e
section
variable {X : Cx} {k : Nat} {W : WX} {φ : Fm} {o e : Expr} {apos cpos : Pos} {fo : Oe} {ga : Ar}
theorem z_join (I : In k X W) (ho : JO X φ o fo) (hf : JA X φ [e] ga) (hbase : attributeBase o "join" X.env (eval o X.env) = eval o X.env := by rfl)
    (hfew : ((backTo cpos (starEach [e] X.env)).all (fun x => !x.1) && (backToKw cpos (keywordEach [] X.env)).all (fun x => x.1.isSome)
      && decide ([e].length + ([] : List Keyword).length + (if ([] : List Keyword).isEmpty then 0 else 1) < 30)) = true := by rfl)
    (hline : (apos.endLine == cpos.line) = true := by rfl) (hst : starEach [e] X.env = (false, eval e X.env) :: starEach [] X.env := by rfl) (hplain : (backTo cpos (starEach [] X.env)).any (·.1) = false := by rfl) :
    JE X φ (.Call (.Attribute o "join" apos) [e] [] cpos) (xMeth "str" joinD fo ga) := z_meth PySem.F.plainAttrs_str PySem.F.slot_str_join PySem.F.type_str_join mt_join s_join ho hf hbase hfew hline hst hplain
end
/-! ### range with a step -/
def rangeS (lo step : Int) : Nat → List D
  | 0 => []
  | n + 1 => .int lo :: rangeS (lo + step) step n
theorem rangeS_length : ∀ (n : Nat) (lo st : Int), (rangeS lo st n).length = n
  | 0, _, _ => rfl
  | n + 1, lo, st => congrArg (· + 1) (rangeS_length n (lo + st) st)
theorem rangeS_get : ∀ (n : Nat) (lo st : Int) (i : Nat) (d : D), (rangeS lo st n)[i]? = some d → d = .int (lo + st * i)
  | 0, _, _, _, _, h => by simp [rangeS] at h
  | n + 1, lo, st, 0, d, h => by simp [rangeS] at h; rw [← h]; simp
  | n + 1, lo, st, i + 1, d, h => by
    have := rangeS_get n (lo + st) st i d (by simpa [rangeS] using h)
    rw [this]
    congr 1
    rw [show ((i + 1 : Nat) : Int) = (i : Int) + 1 by omega, Int.mul_add, Int.mul_one]
    omega
theorem yl_rangeS {H : Hp} {av : List Addr} (lo st : Int) (n : Nat) : Yl (Itc lo st n) H av (rangeS lo st n) where
  go := fun i H2 av' d k s t hd => by
    have hi : i < n := by
      have := (List.getElem?_eq_some_iff.mp hd).1
      rw [rangeS_length] at this
      exact this
    refine ⟨hi, fun x H' y => ?_⟩
    obtain ⟨rfl, rfl⟩ := y
    rw [rangeS_get n lo st i d hd, Int.mul_comm]
    exact ⟨Same.refl _, .int _⟩
  stop := fun i H2 k h => by rw [rangeS_length] at h; exact h
def rangeOf3 : List D → Option (List D)
  | [.int i, .int j, .int c] => if decide (0 < c) && decide (c.natAbs < 1073741824) && Builtin.Range.small i j c && decide ((((Builtin.Range.rangeSize i j c).toNat : Nat) : Int) = Builtin.Range.rangeSize i j c) then some (rangeS i c (Builtin.Range.rangeSize i j c).toNat) else none
  | _ => none
theorem rangeOf3_int {ds r : List D} (h : rangeOf3 ds = some r) : ∃ i j c, ds = [.int i, .int j, .int c] ∧ RgC i j c (Builtin.Range.rangeSize i j c).toNat ∧ r = rangeS i c (Builtin.Range.rangeSize i j c).toNat := by
  unfold rangeOf3 at h
  split at h
  · next i j c =>
    split at h
    · next q =>
      cases h
      simp only [Bool.and_eq_true, decide_eq_true_eq] at q
      exact ⟨i, j, c, rfl, ⟨by omega, q.1.1.2, q.1.2, q.2.symm⟩, rfl⟩
    · cases h
  · cases h
def srR3 (f g h : Ev) : Sr := fun e => f e >>= fun p => g p.2 >>= fun q => h q.2 >>= fun r => ofO (rangeOf3 [p.1, q.1, r.1]) >>= fun ds => .ok (ds, r.2)
section
variable {X : Cx} {φ : Fm} {tg a b c : Expr} {pos p : Pos} {f g h : Ev}
theorem i_range3 (hg : Gl X "range") (hm : X.mg "range" = none) (ha : JE X φ a f) (hb : JE X φ b g) (hc : JE X φ c h) (hs : starEach [a, b, c] X.env = (false, eval a X.env) :: starEach [b, c] X.env := by rfl) (hs2 : starEach [b, c] X.env = (false, eval b X.env) :: starEach [c] X.env := by rfl) (hs3 : starEach [c] X.env = (false, eval c X.env) :: starEach [] X.env := by rfl)
    (hpl : (backTo pos (starEach [b, c] X.env)).any (·.1) = false := by rfl) : JI X φ tg (.Call (.Name "range" p) [a, b, c] [] pos) (srR3 f g h) :=
  ⟨(pi_range3 (tg := tg) hg hm (pa_cons ha.j (pa_cons hb.j (pa_cons hc.j pa_nil hs3) hs2) hs) hs hpl).imp fun σ H R hh => by
    obtain ⟨env, os, e, hh⟩ := hh
    refine seq_core2 (relA := rD) e hh fun v d H1 env1 os1 x1 s1 e1 r1 h1 => ?_
    refine seq_core2 (relA := rD) e1 h1 fun v' d' H2 env2 os2 x2 s2 e2 r2 h2 => ?_
    refine seq_core2 (relA := rD) e2 h2 fun v'' d'' H3 env3 os3 x3 s3 e3 r3 h3 => ?_
    obtain ⟨l, hz, h4⟩ := OutR.opt h3
    obtain ⟨i, j, k, hd, rg, rfl⟩ := rangeOf3_int hz
    cases hd
    cases r1
    cases r2
    cases r3
    exact ⟨i, j, k, _, rfl, rg, OutR.ret h4 _ (Same.refl _) e3 (yl_rangeS i k _)⟩⟩
theorem k_range3 (hm : X.mg "range" = none) (ha : JE X φ a f) (hb : JE X φ b g) (hc : JE X φ c h) (hg : Gl X "range" := by rfl) (hs : starEach [a, b, c] X.env = (false, eval a X.env) :: starEach [b, c] X.env := by rfl) (hs2 : starEach [b, c] X.env = (false, eval b X.env) :: starEach [c] X.env := by rfl) (hs3 : starEach [c] X.env = (false, eval c X.env) :: starEach [] X.env := by rfl)
    (hpl : (backTo pos (starEach [b, c] X.env)).any (·.1) = false := by rfl) : JI X φ tg (.Call (.Name "range" p) [a, b, c] [] pos) (srR3 f g h) := i_range3 hg hm ha hb hc hs hs2 hs3 hpl
end
end Z


noncomputable section
namespace K75
open PySem PySem.Spec PyProof.Rows L2 Z
def top (i : Nat) : Stmt := PySem.Challenge.pw_landtogether_k75_whole_greatest_turn_wor.main.body.getD i (.Pass ⟨0, 0, 0, 0⟩)
def d_is_integer : He.DefD := ⟨("is_integer", none), "is_integer", "is_integer", defArgs (top 5), defBody (top 5), defScope (top 5), [], []⟩
def d_is_within : He.DefD := ⟨("is_within", none), "is_within", "is_within", defArgs (top 6), defBody (top 6), defScope (top 6), [], []⟩
def d_power_of_two : He.DefD := ⟨("power_of_two", none), "power_of_two", "power_of_two", defArgs (top 7), defBody (top 7), defScope (top 7), [], []⟩
def d_is_turn_word : He.DefD := ⟨("is_turn_word", none), "is_turn_word", "is_turn_word", defArgs (top 17), defBody (top 17), defScope (top 17), [], []⟩
def d_check_turn_word : He.DefD := ⟨("check_turn_word", none), "check_turn_word", "check_turn_word", defArgs (top 18), defBody (top 18), defScope (top 18), [], []⟩
def d_rank_of : He.DefD := ⟨("rank_of", none), "rank_of", "rank_of", defArgs (top 19), defBody (top 19), defScope (top 19), [], []⟩
def d_is_raw_less : He.DefD := ⟨("is_raw_less", none), "is_raw_less", "is_raw_less", defArgs (top 20), defBody (top 20), defScope (top 20), [], []⟩
def d_is_less_word : He.DefD := ⟨("is_less_word", none), "is_less_word", "is_less_word", defArgs (top 21), defBody (top 21), defScope (top 21), [], []⟩
def d_not_less_shifts : He.DefD := ⟨("not_less_shifts", none), "not_less_shifts", "not_less_shifts", defArgs (top 22), defBody (top 22), defScope (top 22), [], []⟩
def d_greatest_shown : He.DefD := ⟨("greatest_shown", none), "greatest_shown", "greatest_shown", defArgs (top 23), defBody (top 23), defScope (top 23), [], []⟩
def d_is_greatest_shown : He.DefD := ⟨("is_greatest_shown", none), "is_greatest_shown", "is_greatest_shown", defArgs (top 24), defBody (top 24), defScope (top 24), [], []⟩
def d_all_signs : He.DefD := ⟨("all_signs", none), "all_signs", "all_signs", defArgs (top 25), defBody (top 25), defScope (top 25), [], []⟩
def d_in_word_order : He.DefD := ⟨("in_word_order", none), "in_word_order", "in_word_order", defArgs (top 26), defBody (top 26), defScope (top 26), [], []⟩
def d_raw_greatest : He.DefD := ⟨("raw_greatest", none), "raw_greatest", "raw_greatest", defArgs (top 27), defBody (top 27), defScope (top 27), [], []⟩
def d_greatest_words : He.DefD := ⟨("greatest_words", none), "greatest_words", "greatest_words", defArgs (top 28), defBody (top 28), defScope (top 28), [], []⟩
def d_many_greatest : He.DefD := ⟨("many_greatest", none), "many_greatest", "many_greatest", defArgs (top 29), defBody (top 29), defScope (top 29), [], []⟩
def d__law_hand : He.DefD := ⟨("_law_hand", none), "_law_hand", "_law_hand", defArgs (top 31), defBody (top 31), defScope (top 31), [], []⟩
def d__law_draw : He.DefD := ⟨("_law_draw", none), "_law_draw", "_law_draw", defArgs (top 32), defBody (top 32), defScope (top 32), [], []⟩
def d__law_any : He.DefD := ⟨("_law_any", none), "_law_any", "_law_any", defArgs (top 33), defBody (top 33), defScope (top 33), [], []⟩
def d__law_is : He.DefD := ⟨("_law_is", none), "_law_is", "_law_is", defArgs (top 34), defBody (top 34), defScope (top 34), [], []⟩
def d__law_power : He.DefD := ⟨("_law_power", none), "_law_power", "_law_power", defArgs (top 35), defBody (top 35), defScope (top 35), [], []⟩
def d__law_is_int : He.DefD := ⟨("_law_is_int", none), "_law_is_int", "_law_is_int", defArgs (top 36), defBody (top 36), defScope (top 36), [], []⟩
def d__law_is_less : He.DefD := ⟨("_law_is_less", none), "_law_is_less", "_law_is_less", defArgs (top 37), defBody (top 37), defScope (top 37), [], []⟩
def d__law_is_greatest : He.DefD := ⟨("_law_is_greatest", none), "_law_is_greatest", "_law_is_greatest", defArgs (top 38), defBody (top 38), defScope (top 38), [], []⟩
def d__law_all_words : He.DefD := ⟨("_law_all_words", none), "_law_all_words", "_law_all_words", defArgs (top 39), defBody (top 39), defScope (top 39), [], []⟩
def d__law_sorted_words : He.DefD := ⟨("_law_sorted_words", none), "_law_sorted_words", "_law_sorted_words", defArgs (top 40), defBody (top 40), defScope (top 40), [], []⟩
def d__law_great_words : He.DefD := ⟨("_law_great_words", none), "_law_great_words", "_law_great_words", defArgs (top 41), defBody (top 41), defScope (top 41), [], []⟩
def d__law_drawn_word : He.DefD := ⟨("_law_drawn_word", none), "_law_drawn_word", "_law_drawn_word", defArgs (top 42), defBody (top 42), defScope (top 42), [], []⟩
def d__law_prime_sign : He.DefD := ⟨("_law_prime_sign", none), "_law_prime_sign", "_law_prime_sign", defArgs (top 43), defBody (top 43), defScope (top 43), [], []⟩
def d__law_many : He.DefD := ⟨("_law_many", none), "_law_many", "_law_many", defArgs (top 44), defBody (top 44), defScope (top 44), [], []⟩
def d__law_is_right : He.DefD := ⟨("_law_is_right", none), "_law_is_right", "_law_is_right", defArgs (top 45), defBody (top 45), defScope (top 45), [], []⟩
def d_law : He.DefD := ⟨("law", none), "law", "law", defArgs (top 46), defBody (top 46), defScope (top 46), [], []⟩
def fn : List He.DefD := [d_is_integer, d_is_within, d_power_of_two, d_is_turn_word, d_check_turn_word, d_rank_of, d_is_raw_less, d_is_less_word, d_not_less_shifts, d_greatest_shown, d_is_greatest_shown, d_all_signs, d_in_word_order, d_raw_greatest, d_greatest_words, d_many_greatest, d__law_hand, d__law_draw, d__law_any, d__law_is, d__law_power, d__law_is_int, d__law_is_less, d__law_is_greatest, d__law_all_words, d__law_sorted_words, d__law_great_words, d__law_drawn_word, d__law_prime_sign, d__law_many, d__law_is_right, d_law]
def ex : List Str := ["NoNumber", "NoTurnWord"]

def fa : List He.Fa := [.free "isinstance", .free "int", .free "bool", .glo "is_integer", .glo "is_within", .free "range", .glo "power_of_two", .free "str", .free "len", .int "MOST_SIGNS" 16, .str "TURN" "C", .str "LEFT" "L", .str "RIGHT" "R", .free "all", .glo "is_turn_word", .glo "check_turn_word", .glo "rank_of", .free "zip", .glo "is_raw_less", .glo "is_less_word", .glo "not_less_shifts", .str "SHIFT" "shift", .str "GREATEST" "greatest", .glo "greatest_shown", .free "tuple", .glo "is_greatest_shown", .glo "all_signs", .glo "in_word_order", .glo "raw_greatest", .int "MOST_LISTED" 10, .glo "greatest_words", .int "MOST_COUNTED" 60, .free "sum", .glo "many_greatest", .glo "_law_hand", .glo "_law_draw", .glo "_law_any", .free "list", .free "repr", .glo "_law_is", .glo "_law_power", .glo "_law_is_int", .glo "_law_is_less", .glo "_law_is_greatest", .glo "_law_all_words", .glo "_law_sorted_words", .glo "_law_great_words", .glo "_law_drawn_word", .glo "_law_prime_sign", .glo "_law_many", .glo "_law_is_right", .glo "law", .free "abs"]

variable {P : Program} {w : World} {K : PySem.W.Frag} {mg : Str → Option Value} {base : Heap}
/-! ### is_integer -/
def B_is_integer : Sm := (sRet (xAnd (xUn (fun d => some (.bool (isiD .int d))) (oV 0)) (xNot (xUn (fun d => some (.bool (isiD .bool d))) (oV 0)))))
def F_is_integer : List D → Res D := fnP 1 B_is_integer
theorem nd_is_integer : (["thing"] : List Str).Nodup := by decide +kernel
theorem sc_is_integer : FnScope ["thing"] ["thing"] (defScope (top 5)) := ⟨rfl, rfl, rfl, nd_is_integer, rfl, by decide +kernel, by decide +kernel⟩
theorem ok_is_integer (T : TopX fa fn ex K mg) : Fn P w K mg base 1 "is_integer" 1 (spP mg 1 F_is_integer) := by
  obtain ⟨fd, D⟩ := T.c.def_ 0 (d := d_is_integer) rfl
  exact fn_pure (k := 0) D sc_is_integer (T.glo 3) (by decide) (fun _ _ _ _ _ _ us hl => match us, hl with | [_], _ => rfl) fun cdv A outer s H E bs I po =>
    (ss_one (s_ret (z_and (k_isi (T := .int) (T.free 0) (T.free 1) (o_var 0)) (z_one (z_not (k_isi (T := .bool) (T.free 0) (T.free 2) (o_var 0)))))))

/-! ### is_within -/
def B_is_within : Sm := (sRet (xAnd (xCall F_is_integer (arCons (xVar 0) arNil)) (xTest (tChain3 leD leD (oV 1) (oV 0) (oV 2)))))
def F_is_within : List D → Res D := fnP 3 B_is_within
theorem nd_is_within : (["thing", "low", "high"] : List Str).Nodup := by decide +kernel
theorem sc_is_within : FnScope ["thing", "low", "high"] ["thing", "low", "high"] (defScope (top 6)) := ⟨rfl, rfl, rfl, nd_is_within, rfl, by decide +kernel, by decide +kernel⟩
theorem ok_is_within (T : TopX fa fn ex K mg) : Fn P w K mg base 2 "is_within" 3 (spP mg 3 F_is_within) := by
  obtain ⟨fd, D⟩ := T.c.def_ 1 (d := d_is_within) rfl
  exact fn_pure (k := 1) D sc_is_within (T.glo 4) (by decide) (fun _ _ _ _ _ _ us hl => match us, hl with | [_, _, _], _ => rfl) fun cdv A outer s H E bs I po =>
    (ss_one (s_ret (z_and (k_call (ok_is_integer T) (by decide) I (a_cons (z_var 0) a_nil) (ln_c ln_n)) (z_one (z_ch (c_le I) (c_le I) (o_var 1) (o_var 0) (o_var 2))))))

/-! ### power_of_two -/
abbrev Y_power_of_two_1 : Sm := (sAsg (xBin mulD (oV 1) (oE (xC (.int 2)))) (svName 1))
abbrev W_power_of_two_1 : Sm := (sFor (srR1 (xVar 0)) [] (svName 2) Y_power_of_two_1)
def B_power_of_two : Sm := (sSeq (sAsg (xC (.int 1)) (svName 1))
    (sSeq W_power_of_two_1
    (sRet (xVar 1))))
def F_power_of_two : List D → Res D := fnP 3 B_power_of_two
theorem nd_power_of_two : (["many", "found", "turn"] : List Str).Nodup := by decide +kernel
theorem sc_power_of_two : FnScope ["many", "found", "turn"] ["many"] (defScope (top 7)) := ⟨rfl, rfl, rfl, nd_power_of_two, rfl, by decide +kernel, by decide +kernel⟩
theorem ok_power_of_two (T : TopX fa fn ex K mg) : Fn P w K mg base 1 "power_of_two" 1 (spP mg 1 F_power_of_two) := by
  obtain ⟨fd, D⟩ := T.c.def_ 2 (d := d_power_of_two) rfl
  exact fn_pure (k := 0) D sc_power_of_two (T.glo 6) (by decide) (fun _ _ _ _ _ _ us hl => match us, hl with | [_], _ => rfl) fun cdv A outer s H E bs I po =>
    (ss_cons (s_set (.inr rfl) nd_power_of_two rfl (by first | exact .inl rfl | exact .inr rfl) z_int)
    (ss_cons (s_for [] (.inr rfl) po I.calm (k_range1 (T.free 5) (z_var 0)) ⟨⟨_, (pgn nd_power_of_two 2), (gs_name (.inr rfl))⟩⟩ (ss_one (s_set (.inr rfl) nd_power_of_two rfl (by first | exact .inl rfl | exact .inr rfl) (z_mul I (o_var 1) (o_exp z_int)))))
    (ss_one (s_ret (z_var 1)))))

/-! ### is_turn_word -/
def B_is_turn_word : Sm := (sSeq (sIf (tOrZ (tNotZ (tV (xUn (fun d => some (.bool (isiD .str d))) (oV 0)))) (tOrZ (tNotZ (tChain3 leD leD (oE (xC (.int 1))) (oE (xUn lenD (oV 0))) (oE (xC (.int 16))))) (tBin neD (oE (xBin ixD (oV 0) (oE (xUn negD (oE (xC (.int 1))))))) (oE (xC (.str "C")))))) (sRet (xC (.bool false))) sNext)
    (sRet (xUn allD (oE (fun e => (fCompL (srSeq (xSl (oV 0) ptNo (ptSome (xUn negD (oE (xC (.int 1))))))) [1] (svName 1) teYes (xBin (bD inD) (oV 1) (oE (xBin addD (oE (xC (.str "L"))) (oE (xC (.str "R"))))))) e >>= fun p => .ok (.list p.1, p.2))))))
def F_is_turn_word : List D → Res D := fnP 2 B_is_turn_word
theorem nd_is_turn_word : (["thing", "sign"] : List Str).Nodup := by decide +kernel
theorem sc_is_turn_word : FnScope ["thing", "sign"] ["thing"] (defScope (top 17)) := ⟨rfl, rfl, rfl, nd_is_turn_word, rfl, by decide +kernel, by decide +kernel⟩
theorem ok_is_turn_word (T : TopX fa fn ex K mg) : Fn P w K mg base 1 "is_turn_word" 1 (spP mg 1 F_is_turn_word) := by
  obtain ⟨fd, D⟩ := T.c.def_ 3 (d := d_is_turn_word) rfl
  exact fn_pure (k := 0) D sc_is_turn_word (T.glo 14) (by decide) (fun _ _ _ _ _ _ us hl => match us, hl with | [_], _ => rfl) fun cdv A outer s H E bs I po =>
    (ss_cons (s_if (t_w (w_or (t_not (t_val (k_isi (T := .str) (T.free 0) (T.free 7) (o_var 0)))) (w_or (t_not (t_ch (c_le I) (c_le I) (o_exp z_int) (o_exp (z_len I (T.free 8) (o_var 0))) (o_exp (z_gint (T.int 9))))) (w_or1 (t_cm (c_ne I) (o_exp (z_ix (o_var 0) (o_exp (z_neg I (o_exp z_int))) (by intro _ _; rfl))) (o_exp (z_gstr (T.str 10)))))))) (ss_one (s_ret z_bl)) ss_nil)
    (ss_one (s_ret (z_all I (T.free 13) (o_exp (z_compF I.calm nd_is_turn_word (CompOk.mk (ow := [("sign", 1)]) (.inr rfl) (i_seq (z_slice (o_var 0) p_none (p_some (z_neg I (o_exp z_int))))) (blk_of (by kernel_rfl)) ⟨_, _, by decide, fun _ => (gs_name (.inr rfl)), fun _ _ _ _ _ => (pgn nd_is_turn_word 1)⟩ (fun _ _ _ _ _ _ => ts_nil) (fun _ _ _ _ _ _ => (z_in (I.blk noW) (o_var 1) (o_exp (z_add (I.blk noW) (o_exp (z_gstr (T.str 11))) (o_exp (z_gstr (T.str 12))))))))))))))

/-! ### check_turn_word -/
def B_check_turn_word : Sm := (sIf (tNotZ (tV (xCall F_is_turn_word (arCons (xVar 0) arNil)))) (sRaise "NoTurnWord") sNext)
def F_check_turn_word : List D → Res D := fnP 1 B_check_turn_word
theorem nd_check_turn_word : (["thing"] : List Str).Nodup := by decide +kernel
theorem sc_check_turn_word : FnScope ["thing"] ["thing"] (defScope (top 18)) := ⟨rfl, rfl, rfl, nd_check_turn_word, rfl, by decide +kernel, by decide +kernel⟩
theorem ok_check_turn_word (T : TopX fa fn ex K mg) : Fn P w K mg base 2 "check_turn_word" 1 (spP mg 1 F_check_turn_word) := by
  obtain ⟨fd, D⟩ := T.c.def_ 4 (d := d_check_turn_word) rfl
  exact fn_pure (k := 1) D sc_check_turn_word (T.glo 15) (by decide) (fun _ _ _ _ _ _ us hl => match us, hl with | [_], _ => rfl) fun cdv A outer s H E bs I po =>
    (ss_one (s_if (t_not (t_val (k_call (ok_is_turn_word T) (by decide) I (a_cons (z_var 0) a_nil) (ln_c ln_n)))) (ss_one (s_raise0 I T.e)) ss_nil))

/-! ### rank_of -/
def B_rank_of : Sm := (sRet (xMeth "str" sindexD (oE (xBin addD (oE (xBin addD (oE (xC (.str "L"))) (oE (xC (.str "C"))))) (oE (xC (.str "R"))))) (arCons (xVar 0) arNil)))
def F_rank_of : List D → Res D := fnP 1 B_rank_of
theorem nd_rank_of : (["sign"] : List Str).Nodup := by decide +kernel
theorem sc_rank_of : FnScope ["sign"] ["sign"] (defScope (top 19)) := ⟨rfl, rfl, rfl, nd_rank_of, rfl, by decide +kernel, by decide +kernel⟩
theorem ok_rank_of (T : TopX fa fn ex K mg) : Fn P w K mg base 1 "rank_of" 1 (spP mg 1 F_rank_of) := by
  obtain ⟨fd, D⟩ := T.c.def_ 5 (d := d_rank_of) rfl
  exact fn_pure (k := 0) D sc_rank_of (T.glo 16) (by decide) (fun _ _ _ _ _ _ us hl => match us, hl with | [_], _ => rfl) fun cdv A outer s H E bs I po =>
    (ss_one (s_ret (z_sindex I (o_exp (z_add I (o_exp (z_add I (o_exp (z_gstr (T.str 11))) (o_exp (z_gstr (T.str 10))))) (o_exp (z_gstr (T.str 12))))) (a_cons (z_var 0) a_nil))))

/-! ### is_raw_less -/
abbrev Y_is_raw_less_1 : Sm := (sSeq (sIf (tBin neD (oV 3) (oV 4)) (sRet (xBin (bD eqD) (oE (xBin (bD ltD) (oE (xCall F_rank_of (arCons (xVar 3) arNil))) (oE (xCall F_rank_of (arCons (xVar 4) arNil))))) (oV 2))) sNext)
    (sIf (tBin eqD (oV 3) (oE (xC (.str "R")))) (sAsg (xNot (xVar 2)) (svName 2)) sNext))
abbrev W_is_raw_less_1 : Sm := (sFor (srZipS (xVar 0) (xVar 1)) [] (svTup [(svName 3), (svName 4)]) Y_is_raw_less_1)
def B_is_raw_less : Sm := (sSeq (sAsg (xC (.bool true)) (svName 2))
    (sSeq W_is_raw_less_1
    (sRet (xC (.bool false)))))
def F_is_raw_less : List D → Res D := fnP 5 B_is_raw_less
theorem nd_is_raw_less : (["one", "other", "is_even", "first", "last"] : List Str).Nodup := by decide +kernel
theorem sc_is_raw_less : FnScope ["one", "other", "is_even", "first", "last"] ["one", "other"] (defScope (top 20)) := ⟨rfl, rfl, rfl, nd_is_raw_less, rfl, by decide +kernel, by decide +kernel⟩
theorem ok_is_raw_less (T : TopX fa fn ex K mg) : Fn P w K mg base 2 "is_raw_less" 2 (spP mg 2 F_is_raw_less) := by
  obtain ⟨fd, D⟩ := T.c.def_ 6 (d := d_is_raw_less) rfl
  exact fn_pure (k := 1) D sc_is_raw_less (T.glo 18) (by decide) (fun _ _ _ _ _ _ us hl => match us, hl with | [_, _], _ => rfl) fun cdv A outer s H E bs I po =>
    (ss_cons (s_set (.inr rfl) nd_is_raw_less rfl (by first | exact .inl rfl | exact .inr rfl) z_bl)
    (ss_cons (s_for [] (.inr rfl) po I.calm (k_zipS (T.free 17) (z_var 0) (z_var 1)) ⟨⟨_, (pg_tup I.calm (pgs_cons (pgn nd_is_raw_less 3) (pgs_cons (pgn nd_is_raw_less 4) pgs_nil))), (gs_tup rfl (gss_cons (gs_name (.inr rfl)) (gss_cons (gs_name (.inr rfl)) gss_nil)))⟩⟩ (ss_cons (s_if (t_cm (c_ne I) (o_var 3) (o_var 4)) (ss_one (s_ret (z_eq I (o_exp (z_lt I (o_exp (k_call (ok_rank_of T) (by decide) I (a_cons (z_var 3) a_nil) (ln_c ln_n))) (o_exp (k_call (ok_rank_of T) (by decide) I (a_cons (z_var 4) a_nil) (ln_c ln_n))))) (o_var 2)))) ss_nil)
    (ss_one (s_if (t_cm (c_eq I) (o_var 3) (o_exp (z_gstr (T.str 12)))) (ss_one (s_set (.inr rfl) nd_is_raw_less rfl (by first | exact .inl rfl | exact .inr rfl) (z_not (z_var 2)))) ss_nil))))
    (ss_one (s_ret z_bl))))

/-! ### is_less_word -/
def B_is_less_word : Sm := (sSeq (sDrop (xCall F_check_turn_word (arCons (xVar 0) arNil)))
    (sSeq (sDrop (xCall F_check_turn_word (arCons (xVar 1) arNil)))
    (sRet (xCall F_is_raw_less (arCons (xVar 0) (arCons (xVar 1) arNil))))))
def F_is_less_word : List D → Res D := fnP 2 B_is_less_word
theorem nd_is_less_word : (["one", "other"] : List Str).Nodup := by decide +kernel
theorem sc_is_less_word : FnScope ["one", "other"] ["one", "other"] (defScope (top 21)) := ⟨rfl, rfl, rfl, nd_is_less_word, rfl, by decide +kernel, by decide +kernel⟩
theorem ok_is_less_word (T : TopX fa fn ex K mg) : Fn P w K mg base 3 "is_less_word" 2 (spP mg 2 F_is_less_word) := by
  obtain ⟨fd, D⟩ := T.c.def_ 7 (d := d_is_less_word) rfl
  exact fn_pure (k := 2) D sc_is_less_word (T.glo 19) (by decide) (fun _ _ _ _ _ _ us hl => match us, hl with | [_, _], _ => rfl) fun cdv A outer s H E bs I po =>
    (ss_cons (s_expr (k_call (ok_check_turn_word T) (by decide) I (a_cons (z_var 0) a_nil) (ln_c ln_n)))
    (ss_cons (s_expr (k_call (ok_check_turn_word T) (by decide) I (a_cons (z_var 1) a_nil) (ln_c ln_n)))
    (ss_one (s_ret (k_call (ok_is_raw_less T) (by decide) I (a_cons (z_var 0) (a_cons (z_var 1) a_nil)) (ln_c (ln_c ln_n)))))))

/-! ### not_less_shifts -/
def B_not_less_shifts : Sm := (sRet (fun e => (fCompL (srR2 (xC (.int 1)) (xUn lenD (oV 0))) [1] (svName 1) (tNotZ (tV (xCall F_is_raw_less (arCons (xSl (oV 0) (ptSome (xVar 1)) ptNo) (arCons (xVar 0) arNil))))) (xVar 1)) e >>= fun p => .ok (.list p.1, p.2)))
def F_not_less_shifts : List D → Res D := fnP 2 B_not_less_shifts
theorem nd_not_less_shifts : (["word", "k"] : List Str).Nodup := by decide +kernel
theorem sc_not_less_shifts : FnScope ["word", "k"] ["word"] (defScope (top 22)) := ⟨rfl, rfl, rfl, nd_not_less_shifts, rfl, by decide +kernel, by decide +kernel⟩
theorem ok_not_less_shifts (T : TopX fa fn ex K mg) : Fn P w K mg base 3 "not_less_shifts" 1 (spP mg 1 F_not_less_shifts) := by
  obtain ⟨fd, D⟩ := T.c.def_ 8 (d := d_not_less_shifts) rfl
  exact fn_pure (k := 2) D sc_not_less_shifts (T.glo 20) (by decide) (fun _ _ _ _ _ _ us hl => match us, hl with | [_], _ => rfl) fun cdv A outer s H E bs I po =>
    (ss_one (s_ret (z_compF I.calm nd_not_less_shifts (CompOk.mk (ow := [("k", 1)]) (.inr rfl) (k_range2 (T.free 5) z_int (z_len I (T.free 8) (o_var 0))) (blk_of (by kernel_rfl)) ⟨_, _, by decide, fun _ => (gs_name (.inr rfl)), fun _ _ _ _ _ => (pgn nd_not_less_shifts 1)⟩ (fun _ _ _ _ _ _ => (ts_one (t_not (t_val (k_call (ok_is_raw_less T) (by decide) (I.blk noW) (a_cons (z_slice (o_var 0) (p_some (z_var 1)) p_none) (a_cons (z_var 0) a_nil)) (ln_c (ln_c ln_n))))))) (fun _ _ _ _ _ _ => (z_var 1))))))

/-! ### greatest_shown -/
def B_greatest_shown : Sm := (sSeq (sDrop (xCall F_check_turn_word (arCons (xVar 0) arNil)))
    (sSeq (sAsg (xCall F_not_less_shifts (arCons (xVar 0) arNil)) (svName 1))
    (sRet (xIf (tBin gtD (oE (xUn lenD (oV 1))) (oE (xC (.int 0)))) (xTup (arCons (xC (.str "shift")) (arCons (xBin ixD (oV 1) (oE (xC (.int 0)))) arNil))) (xTup (arCons (xC (.str "greatest")) arNil))))))
def F_greatest_shown : List D → Res D := fnP 2 B_greatest_shown
theorem nd_greatest_shown : (["word", "some"] : List Str).Nodup := by decide +kernel
theorem sc_greatest_shown : FnScope ["word", "some"] ["word"] (defScope (top 23)) := ⟨rfl, rfl, rfl, nd_greatest_shown, rfl, by decide +kernel, by decide +kernel⟩
theorem ok_greatest_shown (T : TopX fa fn ex K mg) : Fn P w K mg base 4 "greatest_shown" 1 (spP mg 1 F_greatest_shown) := by
  obtain ⟨fd, D⟩ := T.c.def_ 9 (d := d_greatest_shown) rfl
  exact fn_pure (k := 3) D sc_greatest_shown (T.glo 23) (by decide) (fun _ _ _ _ _ _ us hl => match us, hl with | [_], _ => rfl) fun cdv A outer s H E bs I po =>
    (ss_cons (s_expr (k_call (ok_check_turn_word T) (by decide) I (a_cons (z_var 0) a_nil) (ln_c ln_n)))
    (ss_cons (s_set (.inr rfl) nd_greatest_shown rfl (by first | exact .inl rfl | exact .inr rfl) (k_call (ok_not_less_shifts T) (by decide) I (a_cons (z_var 0) a_nil) (ln_c ln_n)))
    (ss_one (s_ret (z_if (t_cm (c_gt I) (o_exp (z_len I (T.free 8) (o_var 1))) (o_exp z_int)) (z_tup (a_cons (z_gstr (T.str 21)) (a_cons (z_ix (o_var 1) (o_exp z_int) (by intro _ _; rfl)) a_nil))) (z_tup (a_cons (z_gstr (T.str 22)) a_nil)))))))

/-! ### is_greatest_shown -/
def B_is_greatest_shown : Sm := (sSeq (sDrop (xCall F_check_turn_word (arCons (xVar 0) arNil)))
    (sSeq (sIf (tOrZ (tNotZ (tV (xUn (fun d => some (.bool (isiD .tuple d))) (oV 1)))) (tOrZ (tBin notInD (oE (xUn lenD (oV 1))) (oE (xTup (arCons (xC (.int 1)) (arCons (xC (.int 2)) arNil))))) (tNotZ (tV (xUn (fun d => some (.bool (isiD .str d))) (oE (xBin ixD (oV 1) (oE (xC (.int 0)))))))))) (sRet (xC (.bool false))) sNext)
    (sSeq (sAsg (xCall F_not_less_shifts (arCons (xVar 0) arNil)) (svName 2))
    (sSeq (sIf (tBin eqD (oE (xUn lenD (oV 1))) (oE (xC (.int 1)))) (sRet (xAnd (xBin (bD eqD) (oE (xBin ixD (oV 1) (oE (xC (.int 0))))) (oE (xC (.str "greatest")))) (xBin (bD eqD) (oE (xUn lenD (oV 2))) (oE (xC (.int 0)))))) sNext)
    (sRet (xAnd (xBin (bD eqD) (oE (xBin ixD (oV 1) (oE (xC (.int 0))))) (oE (xC (.str "shift")))) (xAnd (xCall F_is_within (arCons (xBin ixD (oV 1) (oE (xC (.int 1)))) (arCons (xC (.int 1)) (arCons (xUn lenD (oV 0)) arNil)))) (xBin (bD inD) (oE (xBin ixD (oV 1) (oE (xC (.int 1))))) (oV 2)))))))))
def F_is_greatest_shown : List D → Res D := fnP 3 B_is_greatest_shown
theorem nd_is_greatest_shown : (["word", "thing", "some"] : List Str).Nodup := by decide +kernel
theorem sc_is_greatest_shown : FnScope ["word", "thing", "some"] ["word", "thing"] (defScope (top 24)) := ⟨rfl, rfl, rfl, nd_is_greatest_shown, rfl, by decide +kernel, by decide +kernel⟩
theorem ok_is_greatest_shown (T : TopX fa fn ex K mg) : Fn P w K mg base 4 "is_greatest_shown" 2 (spP mg 2 F_is_greatest_shown) := by
  obtain ⟨fd, D⟩ := T.c.def_ 10 (d := d_is_greatest_shown) rfl
  exact fn_pure (k := 3) D sc_is_greatest_shown (T.glo 25) (by decide) (fun _ _ _ _ _ _ us hl => match us, hl with | [_, _], _ => rfl) fun cdv A outer s H E bs I po =>
    (ss_cons (s_expr (k_call (ok_check_turn_word T) (by decide) I (a_cons (z_var 0) a_nil) (ln_c ln_n)))
    (ss_cons (s_if (t_w (w_or (t_not (t_val (k_isi (T := .tuple) (T.free 0) (T.free 24) (o_var 1)))) (w_or (t_cm (c_nin I) (o_exp (z_len I (T.free 8) (o_var 1))) (o_exp (z_tup (a_cons z_int (a_cons z_int a_nil))))) (w_or1 (t_not (t_val (k_isi (T := .str) (T.free 0) (T.free 7) (o_exp (z_ix (o_var 1) (o_exp z_int) (by intro _ _; rfl)))))))))) (ss_one (s_ret z_bl)) ss_nil)
    (ss_cons (s_set (.inr rfl) nd_is_greatest_shown rfl (by first | exact .inl rfl | exact .inr rfl) (k_call (ok_not_less_shifts T) (by decide) I (a_cons (z_var 0) a_nil) (ln_c ln_n)))
    (ss_cons (s_if (t_cm (c_eq I) (o_exp (z_len I (T.free 8) (o_var 1))) (o_exp z_int)) (ss_one (s_ret (z_and (z_eq I (o_exp (z_ix (o_var 1) (o_exp z_int) (by intro _ _; rfl))) (o_exp (z_gstr (T.str 22)))) (z_one (z_eq I (o_exp (z_len I (T.free 8) (o_var 2))) (o_exp z_int)))))) ss_nil)
    (ss_one (s_ret (z_and (z_eq I (o_exp (z_ix (o_var 1) (o_exp z_int) (by intro _ _; rfl))) (o_exp (z_gstr (T.str 21)))) (z_and (k_call (ok_is_within T) (by decide) I (a_cons (z_ix (o_var 1) (o_exp z_int) (by intro _ _; rfl)) (a_cons z_int (a_cons (z_len I (T.free 8) (o_var 0)) a_nil))) (ln_c (ln_c (ln_c ln_n)))) (z_one (z_in I (o_exp (z_ix (o_var 1) (o_exp z_int) (by intro _ _; rfl))) (o_var 2)))))))))))

/-! ### all_signs -/
abbrev Y_all_signs_1 : Sm := (sAsg (fun e => (fComp2L (srSeq (xVar 1)) [3, 4] [4] (svName 3) teYes (srSeq (xBin addD (oE (xC (.str "L"))) (oE (xC (.str "R"))))) (svName 4) teYes (xBin addD (oV 3) (oV 4))) e >>= fun p => .ok (.list p.1, p.2)) (svName 1))
abbrev W_all_signs_1 : Sm := (sFor (srR1 (xVar 0)) [] (svName 2) Y_all_signs_1)
def B_all_signs : Sm := (sSeq (sAsg (xLst (arCons (xC (.str "")) arNil)) (svName 1))
    (sSeq W_all_signs_1
    (sRet (xVar 1))))
def F_all_signs : List D → Res D := fnP 5 B_all_signs
theorem nd_all_signs : (["size", "found", "turn", "row", "sign"] : List Str).Nodup := by decide +kernel
theorem sc_all_signs : FnScope ["size", "found", "turn", "row", "sign"] ["size"] (defScope (top 25)) := ⟨rfl, rfl, rfl, nd_all_signs, rfl, by decide +kernel, by decide +kernel⟩
theorem ok_all_signs (T : TopX fa fn ex K mg) : Fn P w K mg base 1 "all_signs" 1 (spP mg 1 F_all_signs) := by
  obtain ⟨fd, D⟩ := T.c.def_ 11 (d := d_all_signs) rfl
  exact fn_pure (k := 0) D sc_all_signs (T.glo 26) (by decide) (fun _ _ _ _ _ _ us hl => match us, hl with | [_], _ => rfl) fun cdv A outer s H E bs I po =>
    (ss_cons (s_set (.inr rfl) nd_all_signs rfl (by first | exact .inl rfl | exact .inr rfl) (z_lst (a_cons z_str a_nil)))
    (ss_cons (s_for [] (.inr rfl) po I.calm (k_range1 (T.free 5) (z_var 0)) ⟨⟨_, (pgn nd_all_signs 2), (gs_name (.inr rfl))⟩⟩ (ss_one (s_asgComp2 I.calm nd_all_signs (.inr rfl) rfl rfl (CompOk2.mk (ow := [("row", 3), ("sign", 4)]) (ow1 := [("sign", 4)]) (.inr rfl) (by decide) (i_seq (z_var 1)) (blk_of (by kernel_rfl)) ⟨_, _, by decide, fun _ => (gs_name (.inr rfl)), fun _ _ _ _ _ => (pgn nd_all_signs 3)⟩ (fun _ _ _ _ _ _ => ts_nil) (fun _ _ _ _ _ _ => (i_seq (z_add (I.blk noW) (o_exp (z_gstr (T.str 11))) (o_exp (z_gstr (T.str 12)))))) ⟨_, _, by decide, fun _ => (gs_name (.inr rfl)), fun _ _ _ _ _ => (pgn nd_all_signs 4)⟩ (fun _ _ _ _ _ _ => ts_nil) (fun _ _ _ _ _ _ => (z_add (I.blk noW) (o_var 3) (o_var 4)))) (sw_true rfl rfl rfl (by decide +kernel)))))
    (ss_one (s_ret (z_var 1)))))

/-! ### in_word_order -/
abbrev Y_in_word_order_1 : Sm := (sSeq (sAsg (xBin divD (oE (xBin addD (oV 3) (oV 4))) (oE (xC (.int 2)))) (svName 5))
    (sIf (tV (xCall F_is_raw_less (arCons (xBin ixD (oV 1) (oV 5)) (arCons (xVar 2) arNil)))) (sAsg (xBin addD (oV 5) (oE (xC (.int 1)))) (svName 3)) (sAsg (xVar 5) (svName 4))))
abbrev W_in_word_order_1 : Sm := (sWhile fuelZ [] (tBin ltD (oV 3) (oV 4)) Y_in_word_order_1)
abbrev Y_in_word_order_2 : Sm := (sSeq (sPar 3 4 (arCons (xC (.int 0)) (arCons (xUn lenD (oV 1)) arNil)))
    (sSeq W_in_word_order_1
    (sDrop (xOwnM 1 insertD (arCons (xVar 3) (arCons (xVar 2) arNil))))))
abbrev W_in_word_order_2 : Sm := (sFor (srSeq (xVar 0)) [] (svName 2) Y_in_word_order_2)
def B_in_word_order : Sm := (sSeq (sOwn (fLst arNil) 1)
    (sSeq W_in_word_order_2
    (sRet (xFrz 1))))
def F_in_word_order : List D → Res D := fnP 6 B_in_word_order
theorem nd_in_word_order : (["words", "found", "word", "low", "high", "middle"] : List Str).Nodup := by decide +kernel
theorem sc_in_word_order : FnScope ["words", "found", "word", "low", "high", "middle"] ["words"] (defScope (top 26)) := ⟨rfl, rfl, rfl, nd_in_word_order, rfl, by decide +kernel, by decide +kernel⟩
theorem ok_in_word_order (T : TopX fa fn ex K mg) : Fn P w K mg base 3 "in_word_order" 1 (spP mg 1 F_in_word_order) := by
  obtain ⟨fd, D⟩ := T.c.def_ 12 (d := d_in_word_order) rfl
  exact fn_pure (k := 2) D sc_in_word_order (T.glo 27) (by decide) (fun _ _ _ _ _ _ us hl => match us, hl with | [_], _ => rfl) fun cdv A outer s H E bs I po =>
    (ss_cons (s_setOwn (.inr rfl) nd_in_word_order rfl (by first | exact .inl rfl | exact .inr rfl) (f_lst a_nil))
    (ss_cons (s_for [] (.inr rfl) po I.calm (i_seq (z_var 0)) ⟨⟨_, (pgn nd_in_word_order 2), (gs_name (.inr rfl))⟩⟩ (ss_cons (s_par (i := 3) (j := 4) I.calm nd_in_word_order (.inl rfl) (a_cons z_int (a_cons (z_len I (T.free 8) (o_var 1)) a_nil)))
    (ss_cons (s_while fuelZ [] (.inr rfl) po (t_cm (c_lt I) (o_var 3) (o_var 4)) (ss_cons (s_set (.inr rfl) nd_in_word_order rfl (by first | exact .inl rfl | exact .inr rfl) (z_div I (o_exp (z_add I (o_var 3) (o_var 4))) (o_exp z_int)))
    (ss_one (s_if (t_val (k_call (ok_is_raw_less T) (by decide) I (a_cons (z_ix (o_var 1) (o_var 5) (by intro _ _; rfl)) (a_cons (z_var 2) a_nil)) (ln_c (ln_c ln_n)))) (ss_one (s_set (.inr rfl) nd_in_word_order rfl (by first | exact .inl rfl | exact .inr rfl) (z_add I (o_var 5) (o_exp z_int)))) (ss_one (s_set (.inr rfl) nd_in_word_order rfl (by first | exact .inl rfl | exact .inr rfl) (z_var 5)))))))
    (ss_one (s_expr (z_insert (i := 1) (a_cons (z_var 3) (a_cons (z_var 2) a_nil))))))))
    (ss_one (s_ret (z_frz 1 (.inr rfl))))))

/-! ### raw_greatest -/
def B_raw_greatest : Sm := (sSeq (sAsg (fun e => (fCompL (srSeq (xCall F_all_signs (arCons (xBin subD (oV 0) (oE (xC (.int 1)))) arNil))) [1] (svName 1) teYes (xBin addD (oV 1) (oE (xC (.str "C"))))) e >>= fun p => .ok (.list p.1, p.2)) (svName 2))
    (sRet (xCall F_in_word_order (arCons (fun e => (fCompL (srSeq (xVar 2)) [3] (svName 3) (tBin eqD (oE (xUn lenD (oE (xCall F_not_less_shifts (arCons (xVar 3) arNil))))) (oE (xC (.int 0)))) (xVar 3)) e >>= fun p => .ok (.list p.1, p.2)) arNil))))
def F_raw_greatest : List D → Res D := fnP 4 B_raw_greatest
theorem nd_raw_greatest : (["size", "row", "some", "word"] : List Str).Nodup := by decide +kernel
theorem sc_raw_greatest : FnScope ["size", "row", "some", "word"] ["size"] (defScope (top 27)) := ⟨rfl, rfl, rfl, nd_raw_greatest, rfl, by decide +kernel, by decide +kernel⟩
theorem ok_raw_greatest (T : TopX fa fn ex K mg) : Fn P w K mg base 4 "raw_greatest" 1 (spP mg 1 F_raw_greatest) := by
  obtain ⟨fd, D⟩ := T.c.def_ 13 (d := d_raw_greatest) rfl
  exact fn_pure (k := 3) D sc_raw_greatest (T.glo 28) (by decide) (fun _ _ _ _ _ _ us hl => match us, hl with | [_], _ => rfl) fun cdv A outer s H E bs I po =>
    (ss_cons (s_asgComp I.calm nd_raw_greatest (.inr rfl) rfl rfl (CompOk.mk (ow := [("row", 1)]) (.inr rfl) (i_seq (k_call (ok_all_signs T) (by decide) I (a_cons (z_sub I (o_var 0) (o_exp z_int)) a_nil) (ln_c ln_n))) (blk_of (by kernel_rfl)) ⟨_, _, by decide, fun _ => (gs_name (.inr rfl)), fun _ _ _ _ _ => (pgn nd_raw_greatest 1)⟩ (fun _ _ _ _ _ _ => ts_nil) (fun _ _ _ _ _ _ => (z_add (I.blk noW) (o_var 1) (o_exp (z_gstr (T.str 10)))))) (sw_true rfl rfl rfl (by decide +kernel)))
    (ss_one (s_ret (k_call (ok_in_word_order T) (by decide) I (a_cons (z_compF I.calm nd_raw_greatest (CompOk.mk (ow := [("word", 3)]) (.inr rfl) (i_seq (z_var 2)) (blk_of (by kernel_rfl)) ⟨_, _, by decide, fun _ => (gs_name (.inr rfl)), fun _ _ _ _ _ => (pgn nd_raw_greatest 3)⟩ (fun _ _ _ _ _ _ => (ts_one (t_cm (c_eq (I.blk noW)) (o_exp (z_len (I.blk noW) (T.free 8) (o_exp (k_call (ok_not_less_shifts T) (by decide) (I.blk noW) (a_cons (z_var 3) a_nil) (ln_c ln_n))))) (o_exp z_int)))) (fun _ _ _ _ _ _ => (z_var 3)))) a_nil) (ln_c ln_n)))))

/-! ### greatest_words -/
def B_greatest_words : Sm := (sSeq (sIf (tNotZ (tV (xCall F_is_within (arCons (xVar 0) (arCons (xC (.int 1)) (arCons (xC (.int 10)) arNil)))))) (sRaise "NoNumber") sNext)
    (sRet (xUn tupD (oE (xCall F_raw_greatest (arCons (xVar 0) arNil))))))
def F_greatest_words : List D → Res D := fnP 1 B_greatest_words
theorem nd_greatest_words : (["size"] : List Str).Nodup := by decide +kernel
theorem sc_greatest_words : FnScope ["size"] ["size"] (defScope (top 28)) := ⟨rfl, rfl, rfl, nd_greatest_words, rfl, by decide +kernel, by decide +kernel⟩
theorem ok_greatest_words (T : TopX fa fn ex K mg) : Fn P w K mg base 5 "greatest_words" 1 (spP mg 1 F_greatest_words) := by
  obtain ⟨fd, D⟩ := T.c.def_ 14 (d := d_greatest_words) rfl
  exact fn_pure (k := 4) D sc_greatest_words (T.glo 30) (by decide) (fun _ _ _ _ _ _ us hl => match us, hl with | [_], _ => rfl) fun cdv A outer s H E bs I po =>
    (ss_cons (s_if (t_not (t_val (k_call (ok_is_within T) (by decide) I (a_cons (z_var 0) (a_cons z_int (a_cons (z_gint (T.int 29)) a_nil))) (ln_c (ln_c (ln_c ln_n)))))) (ss_one (s_raise0 I T.e)) ss_nil)
    (ss_one (s_ret (z_tupT I (T.free 24) (o_exp (k_call (ok_raw_greatest T) (by decide) I (a_cons (z_var 0) a_nil) (ln_c ln_n)))))))

/-! ### many_greatest -/
abbrev Y_many_greatest_1 : Sm := (sSeq (sAsg (fun e => (fCompL (srR2 (xC (.int 1)) (xVar 2)) [3] (svName 3) (tAndZ (tBin eqD (oE (xBin modD (oV 2) (oV 3))) (oE (xC (.int 0)))) (tBin eqD (oE (xBin modD (oE (xBin divD (oV 2) (oV 3))) (oE (xC (.int 2))))) (oE (xC (.int 1))))) (xBin mulD (oE (xBin mulD (oE (xC (.int 2))) (oV 3))) (oE (xBin ixD (oV 1) (oV 3))))) e >>= fun p => .ok (.list p.1, p.2)) (svName 4))
    (sDrop (xOwnM 1 appendD (arCons (xBin divD (oE (xBin subD (oE (xCall F_power_of_two (arCons (xVar 2) arNil))) (oE (xUn sumD (oV 4))))) (oE (xBin mulD (oE (xC (.int 2))) (oV 2)))) arNil))))
abbrev W_many_greatest_1 : Sm := (sFor (srR2 (xC (.int 1)) (xBin addD (oV 0) (oE (xC (.int 1))))) [] (svName 2) Y_many_greatest_1)
def B_many_greatest : Sm := (sSeq (sIf (tNotZ (tV (xCall F_is_within (arCons (xVar 0) (arCons (xC (.int 1)) (arCons (xC (.int 60)) arNil)))))) (sRaise "NoNumber") sNext)
    (sSeq (sOwn (fLst (arCons (xC (.int 0)) arNil)) 1)
    (sSeq W_many_greatest_1
    (sRet (xBin ixD (oV 1) (oV 0))))))
def F_many_greatest : List D → Res D := fnP 5 B_many_greatest
theorem nd_many_greatest : (["size", "found", "many", "less", "lesser"] : List Str).Nodup := by decide +kernel
theorem sc_many_greatest : FnScope ["size", "found", "many", "less", "lesser"] ["size"] (defScope (top 29)) := ⟨rfl, rfl, rfl, nd_many_greatest, rfl, by decide +kernel, by decide +kernel⟩
theorem ok_many_greatest (T : TopX fa fn ex K mg) : Fn P w K mg base 3 "many_greatest" 1 (spP mg 1 F_many_greatest) := by
  obtain ⟨fd, D⟩ := T.c.def_ 15 (d := d_many_greatest) rfl
  exact fn_pure (k := 2) D sc_many_greatest (T.glo 33) (by decide) (fun _ _ _ _ _ _ us hl => match us, hl with | [_], _ => rfl) fun cdv A outer s H E bs I po =>
    (ss_cons (s_if (t_not (t_val (k_call (ok_is_within T) (by decide) I (a_cons (z_var 0) (a_cons z_int (a_cons (z_gint (T.int 31)) a_nil))) (ln_c (ln_c (ln_c ln_n)))))) (ss_one (s_raise0 I T.e)) ss_nil)
    (ss_cons (s_setOwn (.inr rfl) nd_many_greatest rfl (by first | exact .inl rfl | exact .inr rfl) (f_lst (a_cons z_int a_nil)))
    (ss_cons (s_for [] (.inr rfl) po I.calm (k_range2 (T.free 5) z_int (z_add I (o_var 0) (o_exp z_int))) ⟨⟨_, (pgn nd_many_greatest 2), (gs_name (.inr rfl))⟩⟩ (ss_cons (s_asgComp I.calm nd_many_greatest (.inr rfl) rfl rfl (CompOk.mk (ow := [("less", 3)]) (.inr rfl) (k_range2 (T.free 5) z_int (z_var 2)) (blk_of (by kernel_rfl)) ⟨_, _, by decide, fun _ => (gs_name (.inr rfl)), fun _ _ _ _ _ => (pgn nd_many_greatest 3)⟩ (fun _ _ _ _ _ _ => (ts_one (t_w (w_and (t_cm (c_eq (I.blk noW)) (o_exp (z_mod (I.blk noW) (o_var 2) (o_var 3))) (o_exp z_int)) (w_and1 (t_cm (c_eq (I.blk noW)) (o_exp (z_mod (I.blk noW) (o_exp (z_div (I.blk noW) (o_var 2) (o_var 3))) (o_exp z_int))) (o_exp z_int))))))) (fun _ _ _ _ _ _ => (z_mul (I.blk noW) (o_exp (z_mul (I.blk noW) (o_exp z_int) (o_var 3))) (o_exp (z_ix (o_var 1) (o_var 3) (by intro _ _; rfl)))))) (sw_true rfl rfl rfl (by decide +kernel)))
    (ss_one (s_expr (z_append (i := 1) (a_cons (z_div I (o_exp (z_sub I (o_exp (k_call (ok_power_of_two T) (by decide) I (a_cons (z_var 2) a_nil) (ln_c ln_n))) (o_exp (z_sum I (T.free 32) (o_var 4))))) (o_exp (z_mul I (o_exp z_int) (o_var 2)))) a_nil))))))
    (ss_one (s_ret (z_ix (o_var 1) (o_var 0) (by intro _ _; rfl)))))))

/-! ### _law_draw -/
def B__law_draw : Sm := (sSeq (sIf (tAndZ (tBin eqD (oE (xBin ixD (oV 0) (oE (xC (.int 2))))) (oE (xC (.int 0)))) (tBin ltD (oE (xBin ixD (oV 0) (oE (xC (.int 1))))) (oE (xUn lenD (oE (xBin ixD (oV 0) (oE (xC (.int 0))))))))) (sSeq (sAsg (xBin ixD (oE (xBin ixD (oV 0) (oE (xC (.int 0))))) (oE (xBin ixD (oV 0) (oE (xC (.int 1)))))) (svName 2))
    (sSeq (sSetIx 0 (xBin addD (oE (xBin ixD (oV 0) (oE (xC (.int 1))))) (oE (xC (.int 1)))) (xC (.int 1)))
    (sSeq (sSetIx 0 (xBin modD (oE (xUn intD (oE (xBin addD (oE (xBin addD (oE (xBin mulD (oE (xBin ixD (oV 0) (oE (xC (.int 3))))) (oE (xC (.int 69621))))) (oV 2))) (oE (xC (.int 251))))))) (oE (xC (.int 2147483629)))) (xC (.int 3)))
    (sIf (tBin geD (oV 2) (oE (xBin powD (oE (xC (.int 10))) (oE (xC (.int 18)))))) (sSetIx 0 (xVar 2) (xC (.int 2))) sNext)))) sNext)
    (sSeq (sIf (tBin gtD (oE (xBin ixD (oV 0) (oE (xC (.int 2))))) (oE (xC (.int 0)))) (sSeq (sAsg (xBin modD (oE (xUn intD (oE (xBin ixD (oV 0) (oE (xC (.int 2))))))) (oV 1)) (svName 3))
    (sSeq (sSetIx 0 (xBin divD (oE (xBin ixD (oV 0) (oE (xC (.int 2))))) (oV 1)) (xC (.int 2)))
    (sRet (xVar 3)))) sNext)
    (sSeq (sSetIx 0 (xBin addD (oE (xBin ixD (oV 0) (oE (xC (.int 4))))) (oE (xC (.int 1)))) (xC (.int 4)))
    (sSeq (sAsg (xBin modD (oE (xUn intD (oE (xBin mulD (oE (xUn intD (oE (xBin addD (oE (xBin ixD (oV 0) (oE (xC (.int 3))))) (oE (xBin mulD (oE (xC (.int 7919))) (oE (xBin ixD (oV 0) (oE (xC (.int 4))))))))))) (oE (xC (.int 48271))))))) (oE (xC (.int 2147483647)))) (svName 4))
    (sSeq (sAsg (xBin modD (oE (xUn intD (oE (xBin mulD (oV 4) (oE (xBin addD (oE (xBin divD (oV 4) (oE (xC (.int 1009))))) (oE (xC (.int 69621))))))))) (oE (xC (.int 2147483647)))) (svName 4))
    (sSeq (sAsg (xBin modD (oE (xUn intD (oE (xBin mulD (oV 4) (oE (xBin addD (oE (xBin divD (oV 4) (oE (xC (.int 2003))))) (oE (xC (.int 40692))))))))) (oE (xC (.int 2147483399)))) (svName 4))
    (sRet (xBin modD (oE (xUn intD (oE (xBin divD (oV 4) (oE (xC (.int 16))))))) (oV 1)))))))))
def F__law_draw : List D → List D → Res (D × List D) := fnI 5 B__law_draw
theorem nd__law_draw : (["hand", "many", "cell", "digit", "number"] : List Str).Nodup := by decide +kernel
theorem sc__law_draw : FnScope ["hand", "many", "cell", "digit", "number"] ["hand", "many"] (defScope (top 32)) := ⟨rfl, rfl, rfl, nd__law_draw, rfl, by decide +kernel, by decide +kernel⟩
theorem ok__law_draw (T : TopX fa fn ex K mg) : Fn P w K mg base 1 "_law_draw" 2 (spI mg 1 F__law_draw) := by
  obtain ⟨fd, D⟩ := T.c.def_ 17 (d := d__law_draw) rfl
  exact fn_io (k := 0) (m := 1) D sc__law_draw (T.glo 35) (by decide) rfl (fun _ _ _ _ _ _ us hl => match us, hl with | [_, _], _ => rfl) fun cdv A outer s H E bs a I po =>
    (ss_cons (s_if (t_w (w_and (t_cm (c_eq I) (o_exp (z_ix (o_var 0) (o_exp z_int) (by intro _ _; rfl))) (o_exp z_int)) (w_and1 (t_cm (c_lt I) (o_exp (z_ix (o_var 0) (o_exp z_int) (by intro _ _; rfl))) (o_exp (z_len I (T.free 8) (o_exp (z_ix (o_var 0) (o_exp z_int) (by intro _ _; rfl))))))))) (ss_cons (s_set (.inl (by decide)) nd__law_draw rfl (by first | exact .inl rfl | exact .inr rfl) (z_ix (o_exp (z_ix (o_var 0) (o_exp z_int) (by intro _ _; rfl))) (o_exp (z_ix (o_var 0) (o_exp z_int) (by intro _ _; rfl))) (by intro _ _; rfl)))
    (ss_cons (s_setIx (i := 0) (z_add I (o_exp (z_ix (o_var 0) (o_exp z_int) (by intro _ _; rfl))) (o_exp z_int)) z_int)
    (ss_cons (s_setIx (i := 0) (z_mod I (o_exp (z_intT I (T.free 1) (o_exp (z_add I (o_exp (z_add I (o_exp (z_mul I (o_exp (z_ix (o_var 0) (o_exp z_int) (by intro _ _; rfl))) (o_exp z_int))) (o_var 2))) (o_exp z_int))))) (o_exp z_int)) z_int)
    (ss_one (s_if (t_cm (c_ge I) (o_var 2) (o_exp (z_pow I (o_exp z_int) (o_exp z_int)))) (ss_one (s_setIx (i := 0) (z_var 2) z_int)) ss_nil))))) ss_nil)
    (ss_cons (s_if (t_cm (c_gt I) (o_exp (z_ix (o_var 0) (o_exp z_int) (by intro _ _; rfl))) (o_exp z_int)) (ss_cons (s_set (.inl (by decide)) nd__law_draw rfl (by first | exact .inl rfl | exact .inr rfl) (z_mod I (o_exp (z_intT I (T.free 1) (o_exp (z_ix (o_var 0) (o_exp z_int) (by intro _ _; rfl))))) (o_var 1)))
    (ss_cons (s_setIx (i := 0) (z_div I (o_exp (z_ix (o_var 0) (o_exp z_int) (by intro _ _; rfl))) (o_var 1)) z_int)
    (ss_one (s_ret (z_var 3))))) ss_nil)
    (ss_cons (s_setIx (i := 0) (z_add I (o_exp (z_ix (o_var 0) (o_exp z_int) (by intro _ _; rfl))) (o_exp z_int)) z_int)
    (ss_cons (s_set (.inl (by decide)) nd__law_draw rfl (by first | exact .inl rfl | exact .inr rfl) (z_mod I (o_exp (z_intT I (T.free 1) (o_exp (z_mul I (o_exp (z_intT I (T.free 1) (o_exp (z_add I (o_exp (z_ix (o_var 0) (o_exp z_int) (by intro _ _; rfl))) (o_exp (z_mul I (o_exp z_int) (o_exp (z_ix (o_var 0) (o_exp z_int) (by intro _ _; rfl))))))))) (o_exp z_int))))) (o_exp z_int)))
    (ss_cons (s_set (.inl (by decide)) nd__law_draw rfl (by first | exact .inl rfl | exact .inr rfl) (z_mod I (o_exp (z_intT I (T.free 1) (o_exp (z_mul I (o_var 4) (o_exp (z_add I (o_exp (z_div I (o_var 4) (o_exp z_int))) (o_exp z_int))))))) (o_exp z_int)))
    (ss_cons (s_set (.inl (by decide)) nd__law_draw rfl (by first | exact .inl rfl | exact .inr rfl) (z_mod I (o_exp (z_intT I (T.free 1) (o_exp (z_mul I (o_var 4) (o_exp (z_add I (o_exp (z_div I (o_var 4) (o_exp z_int))) (o_exp z_int))))))) (o_exp z_int)))
    (ss_one (s_ret (z_mod I (o_exp (z_intT I (T.free 1) (o_exp (z_div I (o_var 4) (o_exp z_int))))) (o_var 1))))))))))

/-! ### _law_any -/
def B__law_any : Sm := (sRet (xBin ixD (oV 1) (oE (xCallI 0 F__law_draw (arCons (xUn lenD (oV 1)) arNil)))))
def F__law_any : List D → List D → Res (D × List D) := fnI 2 B__law_any
theorem nd__law_any : (["hand", "things"] : List Str).Nodup := by decide +kernel
theorem sc__law_any : FnScope ["hand", "things"] ["hand", "things"] (defScope (top 33)) := ⟨rfl, rfl, rfl, nd__law_any, rfl, by decide +kernel, by decide +kernel⟩
theorem ok__law_any (T : TopX fa fn ex K mg) : Fn P w K mg base 2 "_law_any" 2 (spI mg 1 F__law_any) := by
  obtain ⟨fd, D⟩ := T.c.def_ 18 (d := d__law_any) rfl
  exact fn_io (k := 1) (m := 1) D sc__law_any (T.glo 36) (by decide) rfl (fun _ _ _ _ _ _ us hl => match us, hl with | [_, _], _ => rfl) fun cdv A outer s H E bs a I po =>
    (ss_one (s_ret (z_ix (o_var 1) (o_exp (k_callI (i := 0) (ok__law_draw T) (by decide) I (a_cons (z_len I (T.free 8) (o_var 1)) a_nil) (ln_c ln_n))) (by intro _ _; rfl))))

/-! ### _law_is, which calls itself -/
theorem nd__law_is : (["came", "due", "one", "other"] : List Str).Nodup := by decide +kernel
theorem sc__law_is : FnScope ["came", "due", "one", "other"] ["came", "due"] (defScope (top 34)) := ⟨rfl, rfl, rfl, nd__law_is, rfl, by decide +kernel, by decide +kernel⟩
def B__law_is_0 : Sm := sStuck
def F__law_is_0 : List D → Res D := fnP 4 B__law_is_0
theorem ok__law_is_0 (T : TopX fa fn ex K mg) : Fn P w K mg base 1 "_law_is" 2 (spP mg 2 F__law_is_0) := by
  obtain ⟨fd, D⟩ := T.c.def_ 19 (d := d__law_is) rfl
  exact fn_pure (k := 0) D sc__law_is (T.glo 39) (by decide) (fun _ _ _ _ _ _ us hl => match us, hl with | [_, _], _ => rfl) fun cdv A outer s H E bs I po =>
    ss_stuck
def B__law_is_1 : Sm := (sSeq (sIf (tV (xUn (fun d => some (.bool ([.tuple, .list].any fun T => isiD T d))) (oV 1))) (sSeq (sIf (tOrZ (tBin neD (oE (xUn (fun d => some (.bool (isiD .tuple d))) (oV 0))) (oE (xUn (fun d => some (.bool (isiD .tuple d))) (oV 1)))) (tNotZ (tV (xUn (fun d => some (.bool ([.tuple, .list].any fun T => isiD T d))) (oV 0))))) (sRet (xC (.bool false))) sNext)
    (sRet (xAnd (xBin (bD eqD) (oE (xUn lenD (oV 0))) (oE (xUn lenD (oV 1)))) (xUn allD (oE (fun e => (fCompL (srZip (xVar 0) (xVar 1)) [2, 3] (svTup [(svName 2), (svName 3)]) teYes (xCall F__law_is_0 (arCons (xVar 2) (arCons (xVar 3) arNil)))) e >>= fun p => .ok (.list p.1, p.2))))))) sNext)
    (sSeq (sIf (tOrZ (tBin isND (oV 1) (oE (xC .none))) (tV (xUn (fun d => some (.bool (isiD .bool d))) (oV 1)))) (sRet (xIf (tBin isND (oV 1) (oE (xC .none))) (xBin (bD isND) (oV 0) (oE (xC .none))) (xAnd (xUn (fun d => some (.bool (isiD .bool d))) (oV 0)) (xBin (bD eqD) (oE (xUn reprD (oV 0))) (oE (xUn reprD (oV 1))))))) sNext)
    (sSeq (sIf (tV (xUn (fun d => some (.bool (isiD .str d))) (oV 1))) (sRet (xAnd (xUn (fun d => some (.bool (isiD .str d))) (oV 0)) (xBin (bD eqD) (oE (xUn reprD (oV 0))) (oE (xUn reprD (oV 1)))))) sNext)
    (sRet (xAnd (xUn (fun d => some (.bool (isiD .int d))) (oV 0)) (xAnd (xNot (xUn (fun d => some (.bool (isiD .bool d))) (oV 0))) (xBin (bD eqD) (oE (xUn reprD (oV 0))) (oE (xUn reprD (oV 1))))))))))
def F__law_is_1 : List D → Res D := fnP 4 B__law_is_1
theorem ok__law_is_1 (T : TopX fa fn ex K mg) : Fn P w K mg base 2 "_law_is" 2 (spP mg 2 F__law_is_1) := by
  obtain ⟨fd, D⟩ := T.c.def_ 19 (d := d__law_is) rfl
  exact fn_pure (k := 1) D sc__law_is (T.glo 39) (by decide) (fun _ _ _ _ _ _ us hl => match us, hl with | [_, _], _ => rfl) fun cdv A outer s H E bs I po =>
    (ss_cons (s_if (t_val (k_isiL (T.free 0) (o_var 1) (ns_cons (k_ty (T := .tuple) (T.free 24)) (ns_cons (k_ty (T := .list) (T.free 37)) ns_nil)))) (ss_cons (s_if (t_w (w_or (t_cm (c_ne I) (o_exp (k_isi (T := .tuple) (T.free 0) (T.free 24) (o_var 0))) (o_exp (k_isi (T := .tuple) (T.free 0) (T.free 24) (o_var 1)))) (w_or1 (t_not (t_val (k_isiL (T.free 0) (o_var 0) (ns_cons (k_ty (T := .tuple) (T.free 24)) (ns_cons (k_ty (T := .list) (T.free 37)) ns_nil)))))))) (ss_one (s_ret z_bl)) ss_nil)
    (ss_one (s_ret (z_and (z_eq I (o_exp (z_len I (T.free 8) (o_var 0))) (o_exp (z_len I (T.free 8) (o_var 1)))) (z_one (z_all I (T.free 13) (o_exp (z_compF I.calm nd__law_is (CompOk.mk (ow := [("one", 2), ("other", 3)]) (.inr rfl) (k_zip (T.free 17) (z_var 0) (z_var 1)) (blk_of (by kernel_rfl)) ⟨_, _, by decide, fun _ => (gs_tup rfl (gss_cons (gs_name (.inr rfl)) (gss_cons (gs_name (.inr rfl)) gss_nil))), fun _ _ _ _ _ => (pg_tup (I.blk noW).calm (pgs_cons (pgn nd__law_is 2) (pgs_cons (pgn nd__law_is 3) pgs_nil)))⟩ (fun _ _ _ _ _ _ => ts_nil) (fun _ _ _ _ _ _ => (k_call (ok__law_is_0 T) (by decide) (I.blk noW) (a_cons (z_var 2) (a_cons (z_var 3) a_nil)) (ln_c (ln_c ln_n))))))))))))) ss_nil)
    (ss_cons (s_if (t_w (w_or (t_cm (c_is I) (o_var 1) (o_exp z_non)) (w_or1 (t_val (k_isi (T := .bool) (T.free 0) (T.free 2) (o_var 1)))))) (ss_one (s_ret (z_if (t_cm (c_is I) (o_var 1) (o_exp z_non)) (z_is I (o_var 0) (o_exp z_non)) (z_and (k_isi (T := .bool) (T.free 0) (T.free 2) (o_var 0)) (z_one (z_eq I (o_exp (z_repr I (T.free 38) (o_var 0))) (o_exp (z_repr I (T.free 38) (o_var 1))))))))) ss_nil)
    (ss_cons (s_if (t_val (k_isi (T := .str) (T.free 0) (T.free 7) (o_var 1))) (ss_one (s_ret (z_and (k_isi (T := .str) (T.free 0) (T.free 7) (o_var 0)) (z_one (z_eq I (o_exp (z_repr I (T.free 38) (o_var 0))) (o_exp (z_repr I (T.free 38) (o_var 1)))))))) ss_nil)
    (ss_one (s_ret (z_and (k_isi (T := .int) (T.free 0) (T.free 1) (o_var 0)) (z_and (z_not (k_isi (T := .bool) (T.free 0) (T.free 2) (o_var 0))) (z_one (z_eq I (o_exp (z_repr I (T.free 38) (o_var 0))) (o_exp (z_repr I (T.free 38) (o_var 1))))))))))))
def B__law_is_2 : Sm := (sSeq (sIf (tV (xUn (fun d => some (.bool ([.tuple, .list].any fun T => isiD T d))) (oV 1))) (sSeq (sIf (tOrZ (tBin neD (oE (xUn (fun d => some (.bool (isiD .tuple d))) (oV 0))) (oE (xUn (fun d => some (.bool (isiD .tuple d))) (oV 1)))) (tNotZ (tV (xUn (fun d => some (.bool ([.tuple, .list].any fun T => isiD T d))) (oV 0))))) (sRet (xC (.bool false))) sNext)
    (sRet (xAnd (xBin (bD eqD) (oE (xUn lenD (oV 0))) (oE (xUn lenD (oV 1)))) (xUn allD (oE (fun e => (fCompL (srZip (xVar 0) (xVar 1)) [2, 3] (svTup [(svName 2), (svName 3)]) teYes (xCall F__law_is_1 (arCons (xVar 2) (arCons (xVar 3) arNil)))) e >>= fun p => .ok (.list p.1, p.2))))))) sNext)
    (sSeq (sIf (tOrZ (tBin isND (oV 1) (oE (xC .none))) (tV (xUn (fun d => some (.bool (isiD .bool d))) (oV 1)))) (sRet (xIf (tBin isND (oV 1) (oE (xC .none))) (xBin (bD isND) (oV 0) (oE (xC .none))) (xAnd (xUn (fun d => some (.bool (isiD .bool d))) (oV 0)) (xBin (bD eqD) (oE (xUn reprD (oV 0))) (oE (xUn reprD (oV 1))))))) sNext)
    (sSeq (sIf (tV (xUn (fun d => some (.bool (isiD .str d))) (oV 1))) (sRet (xAnd (xUn (fun d => some (.bool (isiD .str d))) (oV 0)) (xBin (bD eqD) (oE (xUn reprD (oV 0))) (oE (xUn reprD (oV 1)))))) sNext)
    (sRet (xAnd (xUn (fun d => some (.bool (isiD .int d))) (oV 0)) (xAnd (xNot (xUn (fun d => some (.bool (isiD .bool d))) (oV 0))) (xBin (bD eqD) (oE (xUn reprD (oV 0))) (oE (xUn reprD (oV 1))))))))))
def F__law_is_2 : List D → Res D := fnP 4 B__law_is_2
theorem ok__law_is_2 (T : TopX fa fn ex K mg) : Fn P w K mg base 3 "_law_is" 2 (spP mg 2 F__law_is_2) := by
  obtain ⟨fd, D⟩ := T.c.def_ 19 (d := d__law_is) rfl
  exact fn_pure (k := 2) D sc__law_is (T.glo 39) (by decide) (fun _ _ _ _ _ _ us hl => match us, hl with | [_, _], _ => rfl) fun cdv A outer s H E bs I po =>
    (ss_cons (s_if (t_val (k_isiL (T.free 0) (o_var 1) (ns_cons (k_ty (T := .tuple) (T.free 24)) (ns_cons (k_ty (T := .list) (T.free 37)) ns_nil)))) (ss_cons (s_if (t_w (w_or (t_cm (c_ne I) (o_exp (k_isi (T := .tuple) (T.free 0) (T.free 24) (o_var 0))) (o_exp (k_isi (T := .tuple) (T.free 0) (T.free 24) (o_var 1)))) (w_or1 (t_not (t_val (k_isiL (T.free 0) (o_var 0) (ns_cons (k_ty (T := .tuple) (T.free 24)) (ns_cons (k_ty (T := .list) (T.free 37)) ns_nil)))))))) (ss_one (s_ret z_bl)) ss_nil)
    (ss_one (s_ret (z_and (z_eq I (o_exp (z_len I (T.free 8) (o_var 0))) (o_exp (z_len I (T.free 8) (o_var 1)))) (z_one (z_all I (T.free 13) (o_exp (z_compF I.calm nd__law_is (CompOk.mk (ow := [("one", 2), ("other", 3)]) (.inr rfl) (k_zip (T.free 17) (z_var 0) (z_var 1)) (blk_of (by kernel_rfl)) ⟨_, _, by decide, fun _ => (gs_tup rfl (gss_cons (gs_name (.inr rfl)) (gss_cons (gs_name (.inr rfl)) gss_nil))), fun _ _ _ _ _ => (pg_tup (I.blk noW).calm (pgs_cons (pgn nd__law_is 2) (pgs_cons (pgn nd__law_is 3) pgs_nil)))⟩ (fun _ _ _ _ _ _ => ts_nil) (fun _ _ _ _ _ _ => (k_call (ok__law_is_1 T) (by decide) (I.blk noW) (a_cons (z_var 2) (a_cons (z_var 3) a_nil)) (ln_c (ln_c ln_n))))))))))))) ss_nil)
    (ss_cons (s_if (t_w (w_or (t_cm (c_is I) (o_var 1) (o_exp z_non)) (w_or1 (t_val (k_isi (T := .bool) (T.free 0) (T.free 2) (o_var 1)))))) (ss_one (s_ret (z_if (t_cm (c_is I) (o_var 1) (o_exp z_non)) (z_is I (o_var 0) (o_exp z_non)) (z_and (k_isi (T := .bool) (T.free 0) (T.free 2) (o_var 0)) (z_one (z_eq I (o_exp (z_repr I (T.free 38) (o_var 0))) (o_exp (z_repr I (T.free 38) (o_var 1))))))))) ss_nil)
    (ss_cons (s_if (t_val (k_isi (T := .str) (T.free 0) (T.free 7) (o_var 1))) (ss_one (s_ret (z_and (k_isi (T := .str) (T.free 0) (T.free 7) (o_var 0)) (z_one (z_eq I (o_exp (z_repr I (T.free 38) (o_var 0))) (o_exp (z_repr I (T.free 38) (o_var 1)))))))) ss_nil)
    (ss_one (s_ret (z_and (k_isi (T := .int) (T.free 0) (T.free 1) (o_var 0)) (z_and (z_not (k_isi (T := .bool) (T.free 0) (T.free 2) (o_var 0))) (z_one (z_eq I (o_exp (z_repr I (T.free 38) (o_var 0))) (o_exp (z_repr I (T.free 38) (o_var 1))))))))))))
def B__law_is_3 : Sm := (sSeq (sIf (tV (xUn (fun d => some (.bool ([.tuple, .list].any fun T => isiD T d))) (oV 1))) (sSeq (sIf (tOrZ (tBin neD (oE (xUn (fun d => some (.bool (isiD .tuple d))) (oV 0))) (oE (xUn (fun d => some (.bool (isiD .tuple d))) (oV 1)))) (tNotZ (tV (xUn (fun d => some (.bool ([.tuple, .list].any fun T => isiD T d))) (oV 0))))) (sRet (xC (.bool false))) sNext)
    (sRet (xAnd (xBin (bD eqD) (oE (xUn lenD (oV 0))) (oE (xUn lenD (oV 1)))) (xUn allD (oE (fun e => (fCompL (srZip (xVar 0) (xVar 1)) [2, 3] (svTup [(svName 2), (svName 3)]) teYes (xCall F__law_is_2 (arCons (xVar 2) (arCons (xVar 3) arNil)))) e >>= fun p => .ok (.list p.1, p.2))))))) sNext)
    (sSeq (sIf (tOrZ (tBin isND (oV 1) (oE (xC .none))) (tV (xUn (fun d => some (.bool (isiD .bool d))) (oV 1)))) (sRet (xIf (tBin isND (oV 1) (oE (xC .none))) (xBin (bD isND) (oV 0) (oE (xC .none))) (xAnd (xUn (fun d => some (.bool (isiD .bool d))) (oV 0)) (xBin (bD eqD) (oE (xUn reprD (oV 0))) (oE (xUn reprD (oV 1))))))) sNext)
    (sSeq (sIf (tV (xUn (fun d => some (.bool (isiD .str d))) (oV 1))) (sRet (xAnd (xUn (fun d => some (.bool (isiD .str d))) (oV 0)) (xBin (bD eqD) (oE (xUn reprD (oV 0))) (oE (xUn reprD (oV 1)))))) sNext)
    (sRet (xAnd (xUn (fun d => some (.bool (isiD .int d))) (oV 0)) (xAnd (xNot (xUn (fun d => some (.bool (isiD .bool d))) (oV 0))) (xBin (bD eqD) (oE (xUn reprD (oV 0))) (oE (xUn reprD (oV 1))))))))))
def F__law_is_3 : List D → Res D := fnP 4 B__law_is_3
theorem ok__law_is_3 (T : TopX fa fn ex K mg) : Fn P w K mg base 4 "_law_is" 2 (spP mg 2 F__law_is_3) := by
  obtain ⟨fd, D⟩ := T.c.def_ 19 (d := d__law_is) rfl
  exact fn_pure (k := 3) D sc__law_is (T.glo 39) (by decide) (fun _ _ _ _ _ _ us hl => match us, hl with | [_, _], _ => rfl) fun cdv A outer s H E bs I po =>
    (ss_cons (s_if (t_val (k_isiL (T.free 0) (o_var 1) (ns_cons (k_ty (T := .tuple) (T.free 24)) (ns_cons (k_ty (T := .list) (T.free 37)) ns_nil)))) (ss_cons (s_if (t_w (w_or (t_cm (c_ne I) (o_exp (k_isi (T := .tuple) (T.free 0) (T.free 24) (o_var 0))) (o_exp (k_isi (T := .tuple) (T.free 0) (T.free 24) (o_var 1)))) (w_or1 (t_not (t_val (k_isiL (T.free 0) (o_var 0) (ns_cons (k_ty (T := .tuple) (T.free 24)) (ns_cons (k_ty (T := .list) (T.free 37)) ns_nil)))))))) (ss_one (s_ret z_bl)) ss_nil)
    (ss_one (s_ret (z_and (z_eq I (o_exp (z_len I (T.free 8) (o_var 0))) (o_exp (z_len I (T.free 8) (o_var 1)))) (z_one (z_all I (T.free 13) (o_exp (z_compF I.calm nd__law_is (CompOk.mk (ow := [("one", 2), ("other", 3)]) (.inr rfl) (k_zip (T.free 17) (z_var 0) (z_var 1)) (blk_of (by kernel_rfl)) ⟨_, _, by decide, fun _ => (gs_tup rfl (gss_cons (gs_name (.inr rfl)) (gss_cons (gs_name (.inr rfl)) gss_nil))), fun _ _ _ _ _ => (pg_tup (I.blk noW).calm (pgs_cons (pgn nd__law_is 2) (pgs_cons (pgn nd__law_is 3) pgs_nil)))⟩ (fun _ _ _ _ _ _ => ts_nil) (fun _ _ _ _ _ _ => (k_call (ok__law_is_2 T) (by decide) (I.blk noW) (a_cons (z_var 2) (a_cons (z_var 3) a_nil)) (ln_c (ln_c ln_n))))))))))))) ss_nil)
    (ss_cons (s_if (t_w (w_or (t_cm (c_is I) (o_var 1) (o_exp z_non)) (w_or1 (t_val (k_isi (T := .bool) (T.free 0) (T.free 2) (o_var 1)))))) (ss_one (s_ret (z_if (t_cm (c_is I) (o_var 1) (o_exp z_non)) (z_is I (o_var 0) (o_exp z_non)) (z_and (k_isi (T := .bool) (T.free 0) (T.free 2) (o_var 0)) (z_one (z_eq I (o_exp (z_repr I (T.free 38) (o_var 0))) (o_exp (z_repr I (T.free 38) (o_var 1))))))))) ss_nil)
    (ss_cons (s_if (t_val (k_isi (T := .str) (T.free 0) (T.free 7) (o_var 1))) (ss_one (s_ret (z_and (k_isi (T := .str) (T.free 0) (T.free 7) (o_var 0)) (z_one (z_eq I (o_exp (z_repr I (T.free 38) (o_var 0))) (o_exp (z_repr I (T.free 38) (o_var 1)))))))) ss_nil)
    (ss_one (s_ret (z_and (k_isi (T := .int) (T.free 0) (T.free 1) (o_var 0)) (z_and (z_not (k_isi (T := .bool) (T.free 0) (T.free 2) (o_var 0))) (z_one (z_eq I (o_exp (z_repr I (T.free 38) (o_var 0))) (o_exp (z_repr I (T.free 38) (o_var 1))))))))))))
def B__law_is_4 : Sm := (sSeq (sIf (tV (xUn (fun d => some (.bool ([.tuple, .list].any fun T => isiD T d))) (oV 1))) (sSeq (sIf (tOrZ (tBin neD (oE (xUn (fun d => some (.bool (isiD .tuple d))) (oV 0))) (oE (xUn (fun d => some (.bool (isiD .tuple d))) (oV 1)))) (tNotZ (tV (xUn (fun d => some (.bool ([.tuple, .list].any fun T => isiD T d))) (oV 0))))) (sRet (xC (.bool false))) sNext)
    (sRet (xAnd (xBin (bD eqD) (oE (xUn lenD (oV 0))) (oE (xUn lenD (oV 1)))) (xUn allD (oE (fun e => (fCompL (srZip (xVar 0) (xVar 1)) [2, 3] (svTup [(svName 2), (svName 3)]) teYes (xCall F__law_is_3 (arCons (xVar 2) (arCons (xVar 3) arNil)))) e >>= fun p => .ok (.list p.1, p.2))))))) sNext)
    (sSeq (sIf (tOrZ (tBin isND (oV 1) (oE (xC .none))) (tV (xUn (fun d => some (.bool (isiD .bool d))) (oV 1)))) (sRet (xIf (tBin isND (oV 1) (oE (xC .none))) (xBin (bD isND) (oV 0) (oE (xC .none))) (xAnd (xUn (fun d => some (.bool (isiD .bool d))) (oV 0)) (xBin (bD eqD) (oE (xUn reprD (oV 0))) (oE (xUn reprD (oV 1))))))) sNext)
    (sSeq (sIf (tV (xUn (fun d => some (.bool (isiD .str d))) (oV 1))) (sRet (xAnd (xUn (fun d => some (.bool (isiD .str d))) (oV 0)) (xBin (bD eqD) (oE (xUn reprD (oV 0))) (oE (xUn reprD (oV 1)))))) sNext)
    (sRet (xAnd (xUn (fun d => some (.bool (isiD .int d))) (oV 0)) (xAnd (xNot (xUn (fun d => some (.bool (isiD .bool d))) (oV 0))) (xBin (bD eqD) (oE (xUn reprD (oV 0))) (oE (xUn reprD (oV 1))))))))))
def F__law_is_4 : List D → Res D := fnP 4 B__law_is_4
theorem ok__law_is_4 (T : TopX fa fn ex K mg) : Fn P w K mg base 5 "_law_is" 2 (spP mg 2 F__law_is_4) := by
  obtain ⟨fd, D⟩ := T.c.def_ 19 (d := d__law_is) rfl
  exact fn_pure (k := 4) D sc__law_is (T.glo 39) (by decide) (fun _ _ _ _ _ _ us hl => match us, hl with | [_, _], _ => rfl) fun cdv A outer s H E bs I po =>
    (ss_cons (s_if (t_val (k_isiL (T.free 0) (o_var 1) (ns_cons (k_ty (T := .tuple) (T.free 24)) (ns_cons (k_ty (T := .list) (T.free 37)) ns_nil)))) (ss_cons (s_if (t_w (w_or (t_cm (c_ne I) (o_exp (k_isi (T := .tuple) (T.free 0) (T.free 24) (o_var 0))) (o_exp (k_isi (T := .tuple) (T.free 0) (T.free 24) (o_var 1)))) (w_or1 (t_not (t_val (k_isiL (T.free 0) (o_var 0) (ns_cons (k_ty (T := .tuple) (T.free 24)) (ns_cons (k_ty (T := .list) (T.free 37)) ns_nil)))))))) (ss_one (s_ret z_bl)) ss_nil)
    (ss_one (s_ret (z_and (z_eq I (o_exp (z_len I (T.free 8) (o_var 0))) (o_exp (z_len I (T.free 8) (o_var 1)))) (z_one (z_all I (T.free 13) (o_exp (z_compF I.calm nd__law_is (CompOk.mk (ow := [("one", 2), ("other", 3)]) (.inr rfl) (k_zip (T.free 17) (z_var 0) (z_var 1)) (blk_of (by kernel_rfl)) ⟨_, _, by decide, fun _ => (gs_tup rfl (gss_cons (gs_name (.inr rfl)) (gss_cons (gs_name (.inr rfl)) gss_nil))), fun _ _ _ _ _ => (pg_tup (I.blk noW).calm (pgs_cons (pgn nd__law_is 2) (pgs_cons (pgn nd__law_is 3) pgs_nil)))⟩ (fun _ _ _ _ _ _ => ts_nil) (fun _ _ _ _ _ _ => (k_call (ok__law_is_3 T) (by decide) (I.blk noW) (a_cons (z_var 2) (a_cons (z_var 3) a_nil)) (ln_c (ln_c ln_n))))))))))))) ss_nil)
    (ss_cons (s_if (t_w (w_or (t_cm (c_is I) (o_var 1) (o_exp z_non)) (w_or1 (t_val (k_isi (T := .bool) (T.free 0) (T.free 2) (o_var 1)))))) (ss_one (s_ret (z_if (t_cm (c_is I) (o_var 1) (o_exp z_non)) (z_is I (o_var 0) (o_exp z_non)) (z_and (k_isi (T := .bool) (T.free 0) (T.free 2) (o_var 0)) (z_one (z_eq I (o_exp (z_repr I (T.free 38) (o_var 0))) (o_exp (z_repr I (T.free 38) (o_var 1))))))))) ss_nil)
    (ss_cons (s_if (t_val (k_isi (T := .str) (T.free 0) (T.free 7) (o_var 1))) (ss_one (s_ret (z_and (k_isi (T := .str) (T.free 0) (T.free 7) (o_var 0)) (z_one (z_eq I (o_exp (z_repr I (T.free 38) (o_var 0))) (o_exp (z_repr I (T.free 38) (o_var 1)))))))) ss_nil)
    (ss_one (s_ret (z_and (k_isi (T := .int) (T.free 0) (T.free 1) (o_var 0)) (z_and (z_not (k_isi (T := .bool) (T.free 0) (T.free 2) (o_var 0))) (z_one (z_eq I (o_exp (z_repr I (T.free 38) (o_var 0))) (o_exp (z_repr I (T.free 38) (o_var 1))))))))))))
abbrev F__law_is : List D → Res D := F__law_is_4
theorem ok__law_is (T : TopX fa fn ex K mg) : Fn P w K mg base 5 "_law_is" 2 (spP mg 2 F__law_is) := ok__law_is_4 T

/-! ### _law_power -/
abbrev Y__law_power_1 : Sm := (sAsg (xBin mulD (oV 2) (oV 0)) (svName 2))
abbrev W__law_power_1 : Sm := (sFor (srR1 (xVar 1)) [] (svName 3) Y__law_power_1)
def B__law_power : Sm := (sSeq (sAsg (xC (.int 1)) (svName 2))
    (sSeq W__law_power_1
    (sRet (xVar 2))))
def F__law_power : List D → Res D := fnP 4 B__law_power
theorem nd__law_power : (["base", "times_here", "found", "lap"] : List Str).Nodup := by decide +kernel
theorem sc__law_power : FnScope ["base", "times_here", "found", "lap"] ["base", "times_here"] (defScope (top 35)) := ⟨rfl, rfl, rfl, nd__law_power, rfl, by decide +kernel, by decide +kernel⟩
theorem ok__law_power (T : TopX fa fn ex K mg) : Fn P w K mg base 1 "_law_power" 2 (spP mg 2 F__law_power) := by
  obtain ⟨fd, D⟩ := T.c.def_ 20 (d := d__law_power) rfl
  exact fn_pure (k := 0) D sc__law_power (T.glo 40) (by decide) (fun _ _ _ _ _ _ us hl => match us, hl with | [_, _], _ => rfl) fun cdv A outer s H E bs I po =>
    (ss_cons (s_set (.inr rfl) nd__law_power rfl (by first | exact .inl rfl | exact .inr rfl) z_int)
    (ss_cons (s_for [] (.inr rfl) po I.calm (k_range1 (T.free 5) (z_var 1)) ⟨⟨_, (pgn nd__law_power 3), (gs_name (.inr rfl))⟩⟩ (ss_one (s_set (.inr rfl) nd__law_power rfl (by first | exact .inl rfl | exact .inr rfl) (z_mul I (o_var 2) (o_var 0)))))
    (ss_one (s_ret (z_var 2)))))

/-! ### _law_is_int -/
def B__law_is_int : Sm := (sRet (xAnd (xUn (fun d => some (.bool (isiD .int d))) (oV 0)) (xNot (xUn (fun d => some (.bool (isiD .bool d))) (oV 0)))))
def F__law_is_int : List D → Res D := fnP 1 B__law_is_int
theorem nd__law_is_int : (["thing"] : List Str).Nodup := by decide +kernel
theorem sc__law_is_int : FnScope ["thing"] ["thing"] (defScope (top 36)) := ⟨rfl, rfl, rfl, nd__law_is_int, rfl, by decide +kernel, by decide +kernel⟩
theorem ok__law_is_int (T : TopX fa fn ex K mg) : Fn P w K mg base 1 "_law_is_int" 1 (spP mg 1 F__law_is_int) := by
  obtain ⟨fd, D⟩ := T.c.def_ 21 (d := d__law_is_int) rfl
  exact fn_pure (k := 0) D sc__law_is_int (T.glo 41) (by decide) (fun _ _ _ _ _ _ us hl => match us, hl with | [_], _ => rfl) fun cdv A outer s H E bs I po =>
    (ss_one (s_ret (z_and (k_isi (T := .int) (T.free 0) (T.free 1) (o_var 0)) (z_one (z_not (k_isi (T := .bool) (T.free 0) (T.free 2) (o_var 0)))))))

/-! ### _law_is_less -/
abbrev Y__law_is_less_1 : Sm := (sSeq (sIf (tBin neD (oV 3) (oV 4)) (sRet (xBin (bD neD) (oE (xBin (bD ltD) (oE (xMeth "str" sindexD (oE (xC (.str "LCR"))) (arCons (xVar 3) arNil))) (oE (xMeth "str" sindexD (oE (xC (.str "LCR"))) (arCons (xVar 4) arNil))))) (oV 2))) sNext)
    (sAsg (xBin (bD neD) (oV 2) (oE (xBin (bD eqD) (oV 3) (oE (xC (.str "R")))))) (svName 2)))
abbrev W__law_is_less_1 : Sm := (sFor (srZipS (xVar 0) (xVar 1)) [] (svTup [(svName 3), (svName 4)]) Y__law_is_less_1)
def B__law_is_less : Sm := (sSeq (sAsg (xC (.bool false)) (svName 2))
    (sSeq W__law_is_less_1
    (sRet (xC (.bool false)))))
def F__law_is_less : List D → Res D := fnP 5 B__law_is_less
theorem nd__law_is_less : (["one", "other", "turned_over", "a", "b"] : List Str).Nodup := by decide +kernel
theorem sc__law_is_less : FnScope ["one", "other", "turned_over", "a", "b"] ["one", "other"] (defScope (top 37)) := ⟨rfl, rfl, rfl, nd__law_is_less, rfl, by decide +kernel, by decide +kernel⟩
theorem ok__law_is_less (T : TopX fa fn ex K mg) : Fn P w K mg base 1 "_law_is_less" 2 (spP mg 2 F__law_is_less) := by
  obtain ⟨fd, D⟩ := T.c.def_ 22 (d := d__law_is_less) rfl
  exact fn_pure (k := 0) D sc__law_is_less (T.glo 42) (by decide) (fun _ _ _ _ _ _ us hl => match us, hl with | [_, _], _ => rfl) fun cdv A outer s H E bs I po =>
    (ss_cons (s_set (.inr rfl) nd__law_is_less rfl (by first | exact .inl rfl | exact .inr rfl) z_bl)
    (ss_cons (s_for [] (.inr rfl) po I.calm (k_zipS (T.free 17) (z_var 0) (z_var 1)) ⟨⟨_, (pg_tup I.calm (pgs_cons (pgn nd__law_is_less 3) (pgs_cons (pgn nd__law_is_less 4) pgs_nil))), (gs_tup rfl (gss_cons (gs_name (.inr rfl)) (gss_cons (gs_name (.inr rfl)) gss_nil)))⟩⟩ (ss_cons (s_if (t_cm (c_ne I) (o_var 3) (o_var 4)) (ss_one (s_ret (z_ne I (o_exp (z_lt I (o_exp (z_sindex I (o_exp z_str) (a_cons (z_var 3) a_nil))) (o_exp (z_sindex I (o_exp z_str) (a_cons (z_var 4) a_nil))))) (o_var 2)))) ss_nil)
    (ss_one (s_set (.inr rfl) nd__law_is_less rfl (by first | exact .inl rfl | exact .inr rfl) (z_ne I (o_var 2) (o_exp (z_eq I (o_var 3) (o_exp z_str))))))))
    (ss_one (s_ret z_bl))))

/-! ### _law_is_greatest -/
def B__law_is_greatest : Sm := (sRet (xUn allD (oE (fun e => (fCompL (srR2 (xC (.int 1)) (xUn lenD (oV 0))) [1] (svName 1) teYes (xCall F__law_is_less (arCons (xSl (oV 0) (ptSome (xVar 1)) ptNo) (arCons (xVar 0) arNil)))) e >>= fun p => .ok (.list p.1, p.2)))))
def F__law_is_greatest : List D → Res D := fnP 2 B__law_is_greatest
theorem nd__law_is_greatest : (["said", "at"] : List Str).Nodup := by decide +kernel
theorem sc__law_is_greatest : FnScope ["said", "at"] ["said"] (defScope (top 38)) := ⟨rfl, rfl, rfl, nd__law_is_greatest, rfl, by decide +kernel, by decide +kernel⟩
theorem ok__law_is_greatest (T : TopX fa fn ex K mg) : Fn P w K mg base 2 "_law_is_greatest" 1 (spP mg 1 F__law_is_greatest) := by
  obtain ⟨fd, D⟩ := T.c.def_ 23 (d := d__law_is_greatest) rfl
  exact fn_pure (k := 1) D sc__law_is_greatest (T.glo 43) (by decide) (fun _ _ _ _ _ _ us hl => match us, hl with | [_], _ => rfl) fun cdv A outer s H E bs I po =>
    (ss_one (s_ret (z_all I (T.free 13) (o_exp (z_compF I.calm nd__law_is_greatest (CompOk.mk (ow := [("at", 1)]) (.inr rfl) (k_range2 (T.free 5) z_int (z_len I (T.free 8) (o_var 0))) (blk_of (by kernel_rfl)) ⟨_, _, by decide, fun _ => (gs_name (.inr rfl)), fun _ _ _ _ _ => (pgn nd__law_is_greatest 1)⟩ (fun _ _ _ _ _ _ => ts_nil) (fun _ _ _ _ _ _ => (k_call (ok__law_is_less T) (by decide) (I.blk noW) (a_cons (z_slice (o_var 0) (p_some (z_var 1)) p_none) (a_cons (z_var 0) a_nil)) (ln_c (ln_c ln_n))))))))))

/-! ### _law_all_words -/
abbrev Y__law_all_words_1 : Sm := (sDrop (xOwnM 3 extendD (arCons (xLst (arCons (xBin addD (oV 4) (oE (xC (.str "L")))) (arCons (xBin addD (oV 4) (oE (xC (.str "R")))) arNil))) arNil)))
abbrev W__law_all_words_1 : Sm := (sFor (srSeq (xVar 1)) [] (svName 4) Y__law_all_words_1)
abbrev Y__law_all_words_2 : Sm := (sSeq (sOwn (fLst arNil) 3)
    (sSeq W__law_all_words_1
    (sAsg (xFrz 3) (svName 1))))
abbrev W__law_all_words_2 : Sm := (sFor (srR1 (xBin subD (oV 0) (oE (xC (.int 1))))) [] (svName 2) Y__law_all_words_2)
def B__law_all_words : Sm := (sSeq (sAsg (xLst (arCons (xC (.str "")) arNil)) (svName 1))
    (sSeq W__law_all_words_2
    (sRet (fun e => (fCompL (srSeq (xVar 1)) [4] (svName 4) teYes (xBin addD (oV 4) (oE (xC (.str "C"))))) e >>= fun p => .ok (.list p.1, p.2)))))
def F__law_all_words : List D → Res D := fnP 5 B__law_all_words
theorem nd__law_all_words : (["size", "found", "lap", "longer", "text"] : List Str).Nodup := by decide +kernel
theorem sc__law_all_words : FnScope ["size", "found", "lap", "longer", "text"] ["size"] (defScope (top 39)) := ⟨rfl, rfl, rfl, nd__law_all_words, rfl, by decide +kernel, by decide +kernel⟩
theorem ok__law_all_words (T : TopX fa fn ex K mg) : Fn P w K mg base 1 "_law_all_words" 1 (spP mg 1 F__law_all_words) := by
  obtain ⟨fd, D⟩ := T.c.def_ 24 (d := d__law_all_words) rfl
  exact fn_pure (k := 0) D sc__law_all_words (T.glo 44) (by decide) (fun _ _ _ _ _ _ us hl => match us, hl with | [_], _ => rfl) fun cdv A outer s H E bs I po =>
    (ss_cons (s_set (.inr rfl) nd__law_all_words rfl (by first | exact .inl rfl | exact .inr rfl) (z_lst (a_cons z_str a_nil)))
    (ss_cons (s_for [] (.inr rfl) po I.calm (k_range1 (T.free 5) (z_sub I (o_var 0) (o_exp z_int))) ⟨⟨_, (pgn nd__law_all_words 2), (gs_name (.inr rfl))⟩⟩ (ss_cons (s_setOwn (.inr rfl) nd__law_all_words rfl (by first | exact .inl rfl | exact .inr rfl) (f_lst a_nil))
    (ss_cons (s_for [] (.inr rfl) po I.calm (i_seq (z_var 1)) ⟨⟨_, (pgn nd__law_all_words 4), (gs_name (.inr rfl))⟩⟩ (ss_one (s_expr (z_extend (i := 3) (a_cons (z_lst (a_cons (z_add I (o_var 4) (o_exp z_str)) (a_cons (z_add I (o_var 4) (o_exp z_str)) a_nil))) a_nil)))))
    (ss_one (s_set (.inr rfl) nd__law_all_words rfl (by first | exact .inl rfl | exact .inr rfl) (z_frz 3 (.inr rfl)))))))
    (ss_one (s_ret (z_compF I.calm nd__law_all_words (CompOk.mk (ow := [("text", 4)]) (.inr rfl) (i_seq (z_var 1)) (blk_of (by kernel_rfl)) ⟨_, _, by decide, fun _ => (gs_name (.inr rfl)), fun _ _ _ _ _ => (pgn nd__law_all_words 4)⟩ (fun _ _ _ _ _ _ => ts_nil) (fun _ _ _ _ _ _ => (z_add (I.blk noW) (o_var 4) (o_exp z_str)))))))))

/-! ### _law_sorted_words -/
abbrev Y__law_sorted_words_1 : Sm := (sDrop (xOwnM 1 insertD (arCons (xKeep 1 (xUn lenD (oE (fun e => (fCompL (srSeq (xFrz 1)) [3] (svName 3) (tV (xCall F__law_is_less (arCons (xVar 3) (arCons (xVar 2) arNil)))) (xVar 3)) e >>= fun p => .ok (.list p.1, p.2))))) (arCons (xVar 2) arNil))))
abbrev W__law_sorted_words_1 : Sm := (sFor (srSeq (xVar 0)) [] (svName 2) Y__law_sorted_words_1)
def B__law_sorted_words : Sm := (sSeq (sOwn (fLst arNil) 1)
    (sSeq W__law_sorted_words_1
    (sRet (xFrz 1))))
def F__law_sorted_words : List D → Res D := fnP 4 B__law_sorted_words
theorem nd__law_sorted_words : (["some", "found", "said", "other"] : List Str).Nodup := by decide +kernel
theorem sc__law_sorted_words : FnScope ["some", "found", "said", "other"] ["some"] (defScope (top 40)) := ⟨rfl, rfl, rfl, nd__law_sorted_words, rfl, by decide +kernel, by decide +kernel⟩
theorem ok__law_sorted_words (T : TopX fa fn ex K mg) : Fn P w K mg base 2 "_law_sorted_words" 1 (spP mg 1 F__law_sorted_words) := by
  obtain ⟨fd, D⟩ := T.c.def_ 25 (d := d__law_sorted_words) rfl
  exact fn_pure (k := 1) D sc__law_sorted_words (T.glo 45) (by decide) (fun _ _ _ _ _ _ us hl => match us, hl with | [_], _ => rfl) fun cdv A outer s H E bs I po =>
    (ss_cons (s_setOwn (.inr rfl) nd__law_sorted_words rfl (by first | exact .inl rfl | exact .inr rfl) (f_lst a_nil))
    (ss_cons (s_for [] (.inr rfl) po I.calm (i_seq (z_var 0)) ⟨⟨_, (pgn nd__law_sorted_words 2), (gs_name (.inr rfl))⟩⟩ (ss_one (s_expr (z_insert (i := 1) (a_cons (z_keep (i := 1) rfl (z_len I (T.free 8) (o_exp (z_compF I.calm nd__law_sorted_words (CompOk.mk (ow := [("other", 3)]) (.inr rfl) (i_seq (z_frz 1 (.inr rfl))) (blk_of (by kernel_rfl)) ⟨_, _, by decide, fun _ => (gs_name (.inr rfl)), fun _ _ _ _ _ => (pgn nd__law_sorted_words 3)⟩ (fun _ _ _ _ _ _ => (ts_one (t_val (k_call (ok__law_is_less T) (by decide) (I.blk noW) (a_cons (z_var 3) (a_cons (z_var 2) a_nil)) (ln_c (ln_c ln_n)))))) (fun _ _ _ _ _ _ => (z_var 3))))))) (a_cons (z_var 2) a_nil))))))
    (ss_one (s_ret (z_frz 1 (.inr rfl))))))

/-! ### _law_great_words -/
def B__law_great_words : Sm := (sRet (xCall F__law_sorted_words (arCons (fun e => (fCompL (srSeq (xCall F__law_all_words (arCons (xVar 0) arNil))) [1] (svName 1) (tV (xCall F__law_is_greatest (arCons (xVar 1) arNil))) (xVar 1)) e >>= fun p => .ok (.list p.1, p.2)) arNil)))
def F__law_great_words : List D → Res D := fnP 2 B__law_great_words
theorem nd__law_great_words : (["size", "said"] : List Str).Nodup := by decide +kernel
theorem sc__law_great_words : FnScope ["size", "said"] ["size"] (defScope (top 41)) := ⟨rfl, rfl, rfl, nd__law_great_words, rfl, by decide +kernel, by decide +kernel⟩
theorem ok__law_great_words (T : TopX fa fn ex K mg) : Fn P w K mg base 3 "_law_great_words" 1 (spP mg 1 F__law_great_words) := by
  obtain ⟨fd, D⟩ := T.c.def_ 26 (d := d__law_great_words) rfl
  exact fn_pure (k := 2) D sc__law_great_words (T.glo 46) (by decide) (fun _ _ _ _ _ _ us hl => match us, hl with | [_], _ => rfl) fun cdv A outer s H E bs I po =>
    (ss_one (s_ret (k_call (ok__law_sorted_words T) (by decide) I (a_cons (z_compF I.calm nd__law_great_words (CompOk.mk (ow := [("said", 1)]) (.inr rfl) (i_seq (k_call (ok__law_all_words T) (by decide) I (a_cons (z_var 0) a_nil) (ln_c ln_n))) (blk_of (by kernel_rfl)) ⟨_, _, by decide, fun _ => (gs_name (.inr rfl)), fun _ _ _ _ _ => (pgn nd__law_great_words 1)⟩ (fun _ _ _ _ _ _ => (ts_one (t_val (k_call (ok__law_is_greatest T) (by decide) (I.blk noW) (a_cons (z_var 1) a_nil) (ln_c ln_n))))) (fun _ _ _ _ _ _ => (z_var 1)))) a_nil) (ln_c ln_n))))

/-! ### _law_drawn_word -/
def B__law_drawn_word : Sm := (sRet (xBin addD (oE (xMeth "str" joinD (oE (xC (.str ""))) (arCons (fun e => (fCompL (srR1 (xCallI 0 F__law_draw (arCons (xVar 1) arNil))) [2] (svName 2) teYes (xCallI 0 F__law_any (arCons (xLst (arCons (xC (.str "L")) (arCons (xC (.str "R")) arNil))) arNil))) e >>= fun p => .ok (.list p.1, p.2)) arNil))) (oE (xC (.str "C")))))
def F__law_drawn_word : List D → List D → Res (D × List D) := fnI 3 B__law_drawn_word
theorem nd__law_drawn_word : (["hand", "most", "lap"] : List Str).Nodup := by decide +kernel
theorem sc__law_drawn_word : FnScope ["hand", "most", "lap"] ["hand", "most"] (defScope (top 42)) := ⟨rfl, rfl, rfl, nd__law_drawn_word, rfl, by decide +kernel, by decide +kernel⟩
theorem ok__law_drawn_word (T : TopX fa fn ex K mg) : Fn P w K mg base 3 "_law_drawn_word" 2 (spI mg 1 F__law_drawn_word) := by
  obtain ⟨fd, D⟩ := T.c.def_ 27 (d := d__law_drawn_word) rfl
  exact fn_io (k := 2) (m := 1) D sc__law_drawn_word (T.glo 47) (by decide) rfl (fun _ _ _ _ _ _ us hl => match us, hl with | [_, _], _ => rfl) fun cdv A outer s H E bs a I po =>
    (ss_one (s_ret (z_add I (o_exp (z_join I (o_exp z_str) (a_cons (z_compF I.calm nd__law_drawn_word (CompOk.mk (ow := [("lap", 2)]) (.inl (by decide)) (k_range1 (T.free 5) (k_callI (i := 0) (ok__law_draw T) (by decide) I (a_cons (z_var 1) a_nil) (ln_c ln_n))) (blk_of (by kernel_rfl)) ⟨_, _, by decide, fun _ => (gs_name (.inl (by decide))), fun _ _ _ _ _ => (pgn nd__law_drawn_word 2)⟩ (fun _ _ _ _ _ _ => ts_nil) (fun _ _ _ _ _ _ => (k_callI (i := 0) (ok__law_any T) (by decide) (I.blk noW) (a_cons (z_lst (a_cons z_str (a_cons z_str a_nil))) a_nil) (ln_c ln_n))))) a_nil))) (o_exp z_str))))

/-! ### _law_prime_sign -/
abbrev Y__law_prime_sign_1 : Sm := (sSeq (sIf (tBin eqD (oE (xBin modD (oE (xUn intD (oV 0))) (oE (xBin mulD (oV 2) (oV 2))))) (oE (xC (.int 0)))) (sRet (xC (.int 0))) sNext)
    (sSeq (sIf (tBin eqD (oE (xBin modD (oE (xUn intD (oV 0))) (oV 2))) (oE (xC (.int 0)))) (sPar 1 0 (arCons (xBin subD (oE (xC (.int 0))) (oV 1)) (arCons (xBin divD (oV 0) (oV 2)) arNil))) sNext)
    (sAsg (xBin addD (oV 2) (oE (xC (.int 1)))) (svName 2))))
abbrev W__law_prime_sign_1 : Sm := (sWhile fuelZ [] (tBin gtD (oV 0) (oE (xC (.int 1)))) Y__law_prime_sign_1)
def B__law_prime_sign : Sm := (sSeq (sAsg (xTup (arCons (xC (.int 1)) (arCons (xC (.int 2)) arNil))) (svTup [(svName 1), (svName 2)]))
    (sSeq W__law_prime_sign_1
    (sRet (xVar 1))))
def F__law_prime_sign : List D → Res D := fnP 3 B__law_prime_sign
theorem nd__law_prime_sign : (["number", "sign", "prime"] : List Str).Nodup := by decide +kernel
theorem sc__law_prime_sign : FnScope ["number", "sign", "prime"] ["number"] (defScope (top 43)) := ⟨rfl, rfl, rfl, nd__law_prime_sign, rfl, by decide +kernel, by decide +kernel⟩
theorem ok__law_prime_sign (T : TopX fa fn ex K mg) : Fn P w K mg base 1 "_law_prime_sign" 1 (spP mg 1 F__law_prime_sign) := by
  obtain ⟨fd, D⟩ := T.c.def_ 28 (d := d__law_prime_sign) rfl
  exact fn_pure (k := 0) D sc__law_prime_sign (T.glo 48) (by decide) (fun _ _ _ _ _ _ us hl => match us, hl with | [_], _ => rfl) fun cdv A outer s H E bs I po =>
    (ss_cons (s_asg (z_tup (a_cons z_int (a_cons z_int a_nil))) ⟨⟨_, (pg_tup I.calm (pgs_cons (pgn nd__law_prime_sign 1) (pgs_cons (pgn nd__law_prime_sign 2) pgs_nil))), (gs_tup rfl (gss_cons (gs_name (.inr rfl)) (gss_cons (gs_name (.inr rfl)) gss_nil)))⟩⟩)
    (ss_cons (s_while fuelZ [] (.inr rfl) po (t_cm (c_gt I) (o_var 0) (o_exp z_int)) (ss_cons (s_if (t_cm (c_eq I) (o_exp (z_mod I (o_exp (z_intT I (T.free 1) (o_var 0))) (o_exp (z_mul I (o_var 2) (o_var 2))))) (o_exp z_int)) (ss_one (s_ret z_int)) ss_nil)
    (ss_cons (s_if (t_cm (c_eq I) (o_exp (z_mod I (o_exp (z_intT I (T.free 1) (o_var 0))) (o_var 2))) (o_exp z_int)) (ss_one (s_par (i := 1) (j := 0) I.calm nd__law_prime_sign (.inl rfl) (a_cons (z_sub I (o_exp z_int) (o_var 1)) (a_cons (z_div I (o_var 0) (o_var 2)) a_nil)))) ss_nil)
    (ss_one (s_set (.inr rfl) nd__law_prime_sign rfl (by first | exact .inl rfl | exact .inr rfl) (z_add I (o_var 2) (o_exp z_int)))))))
    (ss_one (s_ret (z_var 1)))))

/-! ### _law_many -/
abbrev Y__law_many_1 : Sm := (sIf (tBin eqD (oE (xBin modD (oE (xUn intD (oV 0))) (oV 2))) (oE (xC (.int 0)))) (sAsg (xBin addD (oV 1) (oE (xBin mulD (oE (xCall F__law_prime_sign (arCons (xVar 2) arNil))) (oE (xCall F__law_power (arCons (xC (.int 2)) (arCons (xBin divD (oV 0) (oV 2)) arNil))))))) (svName 1)) sNext)
abbrev W__law_many_1 : Sm := (sFor (srR3 (xC (.int 1)) (xBin addD (oV 0) (oE (xC (.int 1)))) (xC (.int 2))) [] (svName 2) Y__law_many_1)
def B__law_many : Sm := (sSeq (sAsg (xC (.int 0)) (svName 1))
    (sSeq W__law_many_1
    (sRet (xBin divD (oV 1) (oE (xBin mulD (oE (xC (.int 2))) (oV 0)))))))
def F__law_many : List D → Res D := fnP 3 B__law_many
theorem nd__law_many : (["size", "total", "one"] : List Str).Nodup := by decide +kernel
theorem sc__law_many : FnScope ["size", "total", "one"] ["size"] (defScope (top 44)) := ⟨rfl, rfl, rfl, nd__law_many, rfl, by decide +kernel, by decide +kernel⟩
theorem ok__law_many (T : TopX fa fn ex K mg) : Fn P w K mg base 2 "_law_many" 1 (spP mg 1 F__law_many) := by
  obtain ⟨fd, D⟩ := T.c.def_ 29 (d := d__law_many) rfl
  exact fn_pure (k := 1) D sc__law_many (T.glo 49) (by decide) (fun _ _ _ _ _ _ us hl => match us, hl with | [_], _ => rfl) fun cdv A outer s H E bs I po =>
    (ss_cons (s_set (.inr rfl) nd__law_many rfl (by first | exact .inl rfl | exact .inr rfl) z_int)
    (ss_cons (s_for [] (.inr rfl) po I.calm (k_range3 (T.free 5) z_int (z_add I (o_var 0) (o_exp z_int)) z_int) ⟨⟨_, (pgn nd__law_many 2), (gs_name (.inr rfl))⟩⟩ (ss_one (s_if (t_cm (c_eq I) (o_exp (z_mod I (o_exp (z_intT I (T.free 1) (o_var 0))) (o_var 2))) (o_exp z_int)) (ss_one (s_set (.inr rfl) nd__law_many rfl (by first | exact .inl rfl | exact .inr rfl) (z_add I (o_var 1) (o_exp (z_mul I (o_exp (k_call (ok__law_prime_sign T) (by decide) I (a_cons (z_var 2) a_nil) (ln_c ln_n))) (o_exp (k_call (ok__law_power T) (by decide) I (a_cons z_int (a_cons (z_div I (o_var 0) (o_var 2)) a_nil)) (ln_c (ln_c ln_n))))))))) ss_nil)))
    (ss_one (s_ret (z_div I (o_var 1) (o_exp (z_mul I (o_exp z_int) (o_var 0))))))))

/-! ### _law_is_right -/
abbrev Y__law_is_right_1 : Sm := (sSeq (sAsg (xAnd (xUn (fun d => some (.bool (isiD .tuple d))) (oV 7)) (xAnd (xBin (bD eqD) (oE (xUn lenD (oV 7))) (oE (xC (.int 2)))) (xAnd (xBin (bD eqD) (oE (xBin ixD (oV 7) (oE (xC (.int 0))))) (oE (xC (.str "shift")))) (xCall F__law_is_int (arCons (xBin ixD (oV 7) (oE (xC (.int 1)))) arNil))))) (svName 8))
    (sSeq (sAsg (xIf (tBin eqTD (oV 7) (oE (xTup (arCons (xC (.str "greatest")) arNil)))) (xBin (bD eqD) (oV 5) (oE (xLst arNil))) (xAnd (xVar 8) (xBin (bD inD) (oE (xBin ixD (oV 7) (oE (xC (.int 1))))) (oV 5)))) (svName 9))
    (sIf (tNotZ (tV (xCall F__law_is (arCons (xCall F_is_greatest_shown (arCons (xVar 1) (arCons (xVar 7) arNil))) (arCons (xVar 9) arNil))))) (sRet (xC (.bool false))) sNext)))
abbrev W__law_is_right_1 : Sm := (sFor (srSeq (xVar 6)) [] (svName 7) Y__law_is_right_1)
def B__law_is_right : Sm := (sSeq (sIf (tBin neD (oV 1) (oV 2)) (sSeq (sAsg (xLst (arCons (xCall F_is_less_word (arCons (xVar 1) (arCons (xVar 2) arNil))) (arCons (xCall F_is_less_word (arCons (xVar 2) (arCons (xVar 1) arNil))) arNil))) (svName 3))
    (sIf (tNotZ (tV (xCall F__law_is (arCons (xVar 3) (arCons (xLst (arCons (xCall F__law_is_less (arCons (xVar 1) (arCons (xVar 2) arNil))) (arCons (xNot (xCall F__law_is_less (arCons (xVar 1) (arCons (xVar 2) arNil)))) arNil))) arNil))))) (sRet (xC (.bool false))) sNext)) sNext)
    (sSeq (sAsg (fun e => (fCompL (srR2 (xC (.int 1)) (xUn lenD (oV 1))) [4] (svName 4) (tNotZ (tV (xCall F__law_is_less (arCons (xSl (oV 1) (ptSome (xVar 4)) ptNo) (arCons (xVar 1) arNil))))) (xVar 4)) e >>= fun p => .ok (.list p.1, p.2)) (svName 5))
    (sSeq (sIf (tNotZ (tV (xCall F__law_is (arCons (xCall F_greatest_shown (arCons (xVar 1) arNil)) (arCons (xIf (tBin neD (oV 5) (oE (xLst arNil))) (xTup (arCons (xC (.str "shift")) (arCons (xBin ixD (oV 5) (oE (xC (.int 0)))) arNil))) (xTup (arCons (xC (.str "greatest")) arNil))) arNil))))) (sRet (xC (.bool false))) sNext)
    (sSeq (sAsg (xLst (arCons (xTup (arCons (xC (.str "greatest")) arNil)) (arCons (xTup (arCons (xC (.str "greatest")) (arCons (xC (.int 0)) arNil))) (arCons (xTup (arCons (xC (.str "shift")) arNil)) (arCons (xTup (arCons (xC (.str "shift")) (arCons (xC (.int 0)) arNil))) (arCons (xTup (arCons (xC (.str "shift")) (arCons (xUn lenD (oV 1)) arNil))) (arCons (xTup (arCons (xC (.str "shift")) (arCons (xC (.bool true)) arNil))) (arCons (xC .none) arNil)))))))) (svName 6))
    (sSeq (sAsg (xBin addD (oV 6) (oE (fun e => (fCompL (srR2 (xC (.int 1)) (xUn lenD (oV 1))) [4] (svName 4) teYes (xTup (arCons (xC (.str "shift")) (arCons (xVar 4) arNil)))) e >>= fun p => .ok (.list p.1, p.2)))) (svName 6))
    (sSeq (sAsg (xBin addD (oV 6) (oE (xLst (arCons (xTup (arCons (xC (.str "shift")) (arCons (xC .none) arNil))) (arCons (xC (.str "greatest")) (arCons (xLst (arCons (xC (.str "greatest")) arNil)) (arCons (xC (.dict [])) arNil))))))) (svName 6))
    (sSeq W__law_is_right_1
    (sRet (xBin (bD isND) (oE (xCall F_is_less_word (arCons (xVar 1) (arCons (xVar 1) arNil)))) (oE (xC (.bool false))))))))))))
def F__law_is_right : List D → List D → Res (D × List D) := fnI 10 B__law_is_right
theorem nd__law_is_right : (["hand", "said", "other", "flags", "at", "bad", "things", "thing", "is_shift", "flag"] : List Str).Nodup := by decide +kernel
theorem sc__law_is_right : FnScope ["hand", "said", "other", "flags", "at", "bad", "things", "thing", "is_shift", "flag"] ["hand", "said", "other"] (defScope (top 45)) := ⟨rfl, rfl, rfl, nd__law_is_right, rfl, by decide +kernel, by decide +kernel⟩
theorem ok__law_is_right (T : TopX fa fn ex K mg) : Fn P w K mg base 6 "_law_is_right" 3 (spI mg 2 F__law_is_right) := by
  obtain ⟨fd, D⟩ := T.c.def_ 30 (d := d__law_is_right) rfl
  exact fn_io (k := 5) (m := 2) D sc__law_is_right (T.glo 50) (by decide) rfl (fun _ _ _ _ _ _ us hl => match us, hl with | [_, _, _], _ => rfl) fun cdv A outer s H E bs a I po =>
    (ss_cons (s_if (t_cm (c_ne I) (o_var 1) (o_var 2)) (ss_cons (s_set (.inl (by decide)) nd__law_is_right rfl (by first | exact .inl rfl | exact .inr rfl) (z_lst (a_cons (k_call (ok_is_less_word T) (by decide) I (a_cons (z_var 1) (a_cons (z_var 2) a_nil)) (ln_c (ln_c ln_n))) (a_cons (k_call (ok_is_less_word T) (by decide) I (a_cons (z_var 2) (a_cons (z_var 1) a_nil)) (ln_c (ln_c ln_n))) a_nil))))
    (ss_one (s_if (t_not (t_val (k_call (ok__law_is T) (by decide) I (a_cons (z_var 3) (a_cons (z_lst (a_cons (k_call (ok__law_is_less T) (by decide) I (a_cons (z_var 1) (a_cons (z_var 2) a_nil)) (ln_c (ln_c ln_n))) (a_cons (z_not (k_call (ok__law_is_less T) (by decide) I (a_cons (z_var 1) (a_cons (z_var 2) a_nil)) (ln_c (ln_c ln_n)))) a_nil))) a_nil)) (ln_c (ln_c ln_n))))) (ss_one (s_ret z_bl)) ss_nil))) ss_nil)
    (ss_cons (s_asgComp I.calm nd__law_is_right (.inl (by decide)) rfl rfl (CompOk.mk (ow := [("at", 4)]) (.inl (by decide)) (k_range2 (T.free 5) z_int (z_len I (T.free 8) (o_var 1))) (blk_of (by kernel_rfl)) ⟨_, _, by decide, fun _ => (gs_name (.inl (by decide))), fun _ _ _ _ _ => (pgn nd__law_is_right 4)⟩ (fun _ _ _ _ _ _ => (ts_one (t_not (t_val (k_call (ok__law_is_less T) (by decide) (I.blk noW) (a_cons (z_slice (o_var 1) (p_some (z_var 4)) p_none) (a_cons (z_var 1) a_nil)) (ln_c (ln_c ln_n))))))) (fun _ _ _ _ _ _ => (z_var 4))) (sw_true rfl rfl rfl (by decide +kernel)))
    (ss_cons (s_if (t_not (t_val (k_call (ok__law_is T) (by decide) I (a_cons (k_call (ok_greatest_shown T) (by decide) I (a_cons (z_var 1) a_nil) (ln_c ln_n)) (a_cons (z_if (t_cm (c_ne I) (o_var 5) (o_exp (z_lst a_nil))) (z_tup (a_cons z_str (a_cons (z_ix (o_var 5) (o_exp z_int) (by intro _ _; rfl)) a_nil))) (z_tup (a_cons z_str a_nil))) a_nil)) (ln_c (ln_c ln_n))))) (ss_one (s_ret z_bl)) ss_nil)
    (ss_cons (s_set (.inl (by decide)) nd__law_is_right rfl (by first | exact .inl rfl | exact .inr rfl) (z_lst (a_cons (z_tup (a_cons z_str a_nil)) (a_cons (z_tup (a_cons z_str (a_cons z_int a_nil))) (a_cons (z_tup (a_cons z_str a_nil)) (a_cons (z_tup (a_cons z_str (a_cons z_int a_nil))) (a_cons (z_tup (a_cons z_str (a_cons (z_len I (T.free 8) (o_var 1)) a_nil))) (a_cons (z_tup (a_cons z_str (a_cons z_bl a_nil))) (a_cons z_non a_nil)))))))))
    (ss_cons (s_set (.inl (by decide)) nd__law_is_right rfl (by first | exact .inl rfl | exact .inr rfl) (z_add I (o_var 6) (o_exp (z_compF I.calm nd__law_is_right (CompOk.mk (ow := [("at", 4)]) (.inl (by decide)) (k_range2 (T.free 5) z_int (z_len I (T.free 8) (o_var 1))) (blk_of (by kernel_rfl)) ⟨_, _, by decide, fun _ => (gs_name (.inl (by decide))), fun _ _ _ _ _ => (pgn nd__law_is_right 4)⟩ (fun _ _ _ _ _ _ => ts_nil) (fun _ _ _ _ _ _ => (z_tup (a_cons z_str (a_cons (z_var 4) a_nil)))))))))
    (ss_cons (s_set (.inl (by decide)) nd__law_is_right rfl (by first | exact .inl rfl | exact .inr rfl) (z_add I (o_var 6) (o_exp (z_lst (a_cons (z_tup (a_cons z_str (a_cons z_non a_nil))) (a_cons z_str (a_cons (z_lst (a_cons z_str a_nil)) (a_cons z_dict0 a_nil))))))))
    (ss_cons (s_for [] (.inl (by decide)) po I.calm (i_seq (z_var 6)) ⟨⟨_, (pgn nd__law_is_right 7), (gs_name (.inl (by decide)))⟩⟩ (ss_cons (s_set (.inl (by decide)) nd__law_is_right rfl (by first | exact .inl rfl | exact .inr rfl) (z_and (k_isi (T := .tuple) (T.free 0) (T.free 24) (o_var 7)) (z_and (z_eq I (o_exp (z_len I (T.free 8) (o_var 7))) (o_exp z_int)) (z_and (z_eq I (o_exp (z_ix (o_var 7) (o_exp z_int) (by intro _ _; rfl))) (o_exp z_str)) (z_one (k_call (ok__law_is_int T) (by decide) I (a_cons (z_ix (o_var 7) (o_exp z_int) (by intro _ _; rfl)) a_nil) (ln_c ln_n)))))))
    (ss_cons (s_set (.inl (by decide)) nd__law_is_right rfl (by first | exact .inl rfl | exact .inr rfl) (z_if (t_cm (c_eqT I) (o_var 7) (o_exp (z_tup (a_cons z_str a_nil)))) (z_eq I (o_var 5) (o_exp (z_lst a_nil))) (z_and (z_var 8) (z_one (z_in I (o_exp (z_ix (o_var 7) (o_exp z_int) (by intro _ _; rfl))) (o_var 5))))))
    (ss_one (s_if (t_not (t_val (k_call (ok__law_is T) (by decide) I (a_cons (k_call (ok_is_greatest_shown T) (by decide) I (a_cons (z_var 1) (a_cons (z_var 7) a_nil)) (ln_c (ln_c ln_n))) (a_cons (z_var 9) a_nil)) (ln_c (ln_c ln_n))))) (ss_one (s_ret z_bl)) ss_nil)))))
    (ss_one (s_ret (z_is I (o_exp (k_call (ok_is_less_word T) (by decide) I (a_cons (z_var 1) (a_cons (z_var 1) a_nil)) (ln_c (ln_c ln_n)))) (o_exp z_bl)))))))))))

/-! ### _law_hand -/
theorem nd__law_hand : (["script", "all_cells", "cell"] : List Str).Nodup := by decide +kernel
theorem sc__law_hand : FnScope ["script", "all_cells", "cell"] ["script"] (defScope (top 31)) := ⟨rfl, rfl, rfl, nd__law_hand, rfl, by decide +kernel, by decide +kernel⟩
theorem ok__law_hand (T : TopX fa fn ex K mg) : Fn P w K mg base 1 "_law_hand" 1 (spHand K (handD 277 223)) := by
  obtain ⟨fd, D⟩ := T.c.def_ 16 (d := d__law_hand) rfl
  refine fn_core (k := 0) D sc__law_hand (T.glo 34) (fun vs H Q E ⟨a, ns, h, _⟩ => by rw [h]; rfl) (fun _ _ _ _ _ _ us hl => match us, hl with | [_], _ => rfl) fun cdv A outer s H vs Q E I0 po ⟨a, ns, hv, hS, hl, hq⟩ => ?_
  subst hv
  have I : In 0 (bodyX P w K mg base ["script", "all_cells", "cell"] "_law_hand" (defScope (top 31)) (He.fAd K d__law_hand.at_) cdv A outer s H E) (fun _ _ _ _ => False) := ⟨I0.room, I0.gu, I0.calm, I0.takes.imp fun _ _ _ _ z => z.elim⟩
  refine ⟨_, hand_ps (x := "cell") rfl I.calm nd__law_hand (pi_list (pe_slice sl_list (pe_var (i := 0) rfl (Or.inl rfl)) po_none (po_some pe_int))) rfl rfl (sw_true rfl rfl rfl (by decide +kernel)) (blk_of (by kernel_rfl)) (fun _ _ _ _ _ => pgn nd__law_hand 2) (fun _ _ _ _ _ _ => (z_abs (I.blk noW) (T.free 52) (o_exp (z_intT (I.blk noW) (T.free 1) (o_var 2))))) (f_lst (a_cons (z_frz 1 (.inr rfl)) (a_cons z_int (a_cons z_int (a_cons (z_add I (o_exp z_int) (o_exp (z_mul I (o_exp z_int) (o_exp (z_len I (T.free 8) (o_var 1)))))) (a_cons z_int a_nil)))))), ?_⟩
  exact hand_read (φ := ⟨fun _ _ _ _ => False, [], none⟩) rfl rfl (fun D1 σ H Q q => ⟨D1, q⟩) (fun σ H Q q => q) hS hl (compGo_ints (fun i => rfl) ns) rfl (hand_out rfl ns) hq

/-! ### law -/
abbrev Y_law_1 : Sm := (sSeq (sAsg (xBin addD (oE (xC (.int 1))) (oE (xCallI 1 F__law_draw (arCons (xC (.int 8)) arNil)))) (svName 3))
    (sSeq (sAsg (xCallI 1 F__law_any (arCons (xLst (arCons (xCallI 1 F__law_drawn_word (arCons (xC (.int 16)) arNil)) (arCons (xCallI 1 F__law_any (arCons (xCall F__law_great_words (arCons (xBin addD (oE (xC (.int 1))) (oE (xCallI 1 F__law_draw (arCons (xC (.int 7)) arNil)))) arNil)) arNil)) arNil))) arNil)) (svName 4))
    (sSeq (sIf (tNotZ (tV (xCallI 1 F__law_is_right (arCons (xVar 4) (arCons (xCallI 1 F__law_drawn_word (arCons (xC (.int 16)) arNil)) arNil))))) (sRet (xC (.bool false))) sNext)
    (sSeq (sAsg (xCall F__law_great_words (arCons (xVar 3) arNil)) (svName 5))
    (sSeq (sIf (tOrZ (tNotZ (tV (xCall F__law_is (arCons (xCall F_greatest_words (arCons (xVar 3) arNil)) (arCons (xUn tupD (oV 5)) arNil))))) (tBin neD (oE (xCall F_many_greatest (arCons (xVar 3) arNil))) (oE (xUn lenD (oV 5))))) (sRet (xC (.bool false))) sNext)
    (sSeq (sAsg (xBin addD (oE (xC (.int 1))) (oE (xCallI 1 F__law_draw (arCons (xC (.int 60)) arNil)))) (svName 3))
    (sIf (tNotZ (tV (xCall F__law_is (arCons (xCall F_many_greatest (arCons (xVar 3) arNil)) (arCons (xCall F__law_many (arCons (xVar 3) arNil)) arNil))))) (sRet (xC (.bool false))) sNext)))))))
abbrev W_law_1 : Sm := (sFor (srR1 (xC (.int 6))) [] (svName 2) Y_law_1)
def B_law : Sm := (sSeq (sIf (tOrZ (tBin notND (oE (xCall F_is_less_word (arCons (xC (.str "LC")) (arCons (xC (.str "C")) arNil)))) (oE (xC (.bool true)))) (tOrZ (tBin notND (oE (xCall F_is_less_word (arCons (xC (.str "RRC")) (arCons (xC (.str "RLC")) arNil)))) (oE (xC (.bool true)))) (tBin neD (oE (xCall F_greatest_words (arCons (xC (.int 1)) arNil))) (oE (xTup (arCons (xC (.str "C")) arNil)))))) (sRet (xC (.bool false))) sNext)
    (sSeq (sIf (tOrZ (tBin neD (oE (xCall F_greatest_words (arCons (xC (.int 4)) arNil))) (oE (xTup (arCons (xC (.str "RLRC")) (arCons (xC (.str "RLLC")) arNil))))) (tOrZ (tBin neD (oE (xCall F_greatest_shown (arCons (xC (.str "LRC")) arNil))) (oE (xTup (arCons (xC (.str "shift")) (arCons (xC (.int 1)) arNil))))) (tBin neD (oE (xCall F_many_greatest (arCons (xC (.int 5)) arNil))) (oE (xC (.int 3)))))) (sRet (xC (.bool false))) sNext)
    (sSeq W_law_1
    (sRet (xC (.bool true))))))
theorem nd_law : (["script", "hand", "lap", "size", "said", "due_words"] : List Str).Nodup := by decide +kernel
theorem sc_law : FnScope ["script", "hand", "lap", "size", "said", "due_words"] ["script"] (defScope (top 46)) := ⟨rfl, rfl, rfl, nd_law, rfl, by decide +kernel, by decide +kernel⟩
theorem ok_law (T : TopX fa fn ex K mg) (plain : ∀ ns : List Int, ns.length ≤ 63 → ∃ e, B_law (lawEnv 4 (handD 277 223 ns)) = .ok (.rt (.bool true) e)) : Fn P w K mg base 7 "law" 1 (spLaw K) := by
  obtain ⟨fd, D⟩ := T.c.def_ 31 (d := d_law) rfl
  refine fn_core (k := 6) D sc_law (T.glo 51) (fun vs H Q E ⟨a, ns, h, _⟩ => by rw [h]; rfl) (fun _ _ _ _ _ _ us hl => match us, hl with | [_], _ => rfl) fun cdv A outer s H vs Q E I0 po ⟨a, ns, hv, hS, hl, hq⟩ => ?_
  subst hv
  obtain ⟨e, he⟩ := plain ns hl
  have I : In 6 (bodyX P w K mg base ["script", "hand", "lap", "size", "said", "due_words"] "law" (defScope (top 46)) (He.fAd K d_law.at_) cdv A outer s H E) (fun _ _ _ _ => False) := ⟨I0.room, I0.gu, I0.calm, I0.takes.imp fun _ _ _ _ z => z.elim⟩
  refine ⟨_, pss_cons (ps_set nd_law (i := 1) rfl (by first | exact .inl rfl | exact .inr rfl) (call_core (φ := ⟨fun _ _ _ _ => False, [], none⟩) (ok__law_hand T) (by decide) I rfl (pa_cons (pe_var (i := 0) rfl (Or.inl rfl)) pa_nil))) (show JSs _ (⟨fun _ _ _ _ => False, [], none⟩ : Fm) _ B_law from
    (ss_cons (s_if (t_w (w_or (t_cm (c_nis I) (o_exp (k_call (ok_is_less_word T) (by decide) I (a_cons z_str (a_cons z_str a_nil)) (ln_c (ln_c ln_n)))) (o_exp z_bl)) (w_or (t_cm (c_nis I) (o_exp (k_call (ok_is_less_word T) (by decide) I (a_cons z_str (a_cons z_str a_nil)) (ln_c (ln_c ln_n)))) (o_exp z_bl)) (w_or1 (t_cm (c_ne I) (o_exp (k_call (ok_greatest_words T) (by decide) I (a_cons z_int a_nil) (ln_c ln_n))) (o_exp (z_tup (a_cons z_str a_nil)))))))) (ss_one (s_ret z_bl)) ss_nil)
    (ss_cons (s_if (t_w (w_or (t_cm (c_ne I) (o_exp (k_call (ok_greatest_words T) (by decide) I (a_cons z_int a_nil) (ln_c ln_n))) (o_exp (z_tup (a_cons z_str (a_cons z_str a_nil))))) (w_or (t_cm (c_ne I) (o_exp (k_call (ok_greatest_shown T) (by decide) I (a_cons z_str a_nil) (ln_c ln_n))) (o_exp (z_tup (a_cons z_str (a_cons z_int a_nil))))) (w_or1 (t_cm (c_ne I) (o_exp (k_call (ok_many_greatest T) (by decide) I (a_cons z_int a_nil) (ln_c ln_n))) (o_exp z_int)))))) (ss_one (s_ret z_bl)) ss_nil)
    (ss_cons (s_for [] (.inr rfl) po I.calm (k_range1 (T.free 5) z_int) ⟨⟨_, (pgn nd_law 2), (gs_name (.inr rfl))⟩⟩ (ss_cons (s_set (.inr rfl) nd_law rfl (by first | exact .inl rfl | exact .inr rfl) (z_add I (o_exp z_int) (o_exp (k_callI (i := 1) (ok__law_draw T) (by decide) I (a_cons z_int a_nil) (ln_c ln_n)))))
    (ss_cons (s_set (.inr rfl) nd_law rfl (by first | exact .inl rfl | exact .inr rfl) (k_callI (i := 1) (ok__law_any T) (by decide) I (a_cons (z_lst (a_cons (k_callI (i := 1) (ok__law_drawn_word T) (by decide) I (a_cons z_int a_nil) (ln_c ln_n)) (a_cons (k_callI (i := 1) (ok__law_any T) (by decide) I (a_cons (k_call (ok__law_great_words T) (by decide) I (a_cons (z_add I (o_exp z_int) (o_exp (k_callI (i := 1) (ok__law_draw T) (by decide) I (a_cons z_int a_nil) (ln_c ln_n)))) a_nil) (ln_c ln_n)) a_nil) (ln_c ln_n)) a_nil))) a_nil) (ln_c ln_n)))
    (ss_cons (s_if (t_not (t_val (k_callI (i := 1) (ok__law_is_right T) (by decide) I (a_cons (z_var 4) (a_cons (k_callI (i := 1) (ok__law_drawn_word T) (by decide) I (a_cons z_int a_nil) (ln_c ln_n)) a_nil)) (ln_c (ln_c ln_n))))) (ss_one (s_ret z_bl)) ss_nil)
    (ss_cons (s_set (.inr rfl) nd_law rfl (by first | exact .inl rfl | exact .inr rfl) (k_call (ok__law_great_words T) (by decide) I (a_cons (z_var 3) a_nil) (ln_c ln_n)))
    (ss_cons (s_if (t_w (w_or (t_not (t_val (k_call (ok__law_is T) (by decide) I (a_cons (k_call (ok_greatest_words T) (by decide) I (a_cons (z_var 3) a_nil) (ln_c ln_n)) (a_cons (z_tupT I (T.free 24) (o_var 5)) a_nil)) (ln_c (ln_c ln_n))))) (w_or1 (t_cm (c_ne I) (o_exp (k_call (ok_many_greatest T) (by decide) I (a_cons (z_var 3) a_nil) (ln_c ln_n))) (o_exp (z_len I (T.free 8) (o_var 5))))))) (ss_one (s_ret z_bl)) ss_nil)
    (ss_cons (s_set (.inr rfl) nd_law rfl (by first | exact .inl rfl | exact .inr rfl) (z_add I (o_exp z_int) (o_exp (k_callI (i := 1) (ok__law_draw T) (by decide) I (a_cons z_int a_nil) (ln_c ln_n)))))
    (ss_one (s_if (t_not (t_val (k_call (ok__law_is T) (by decide) I (a_cons (k_call (ok_many_greatest T) (by decide) I (a_cons (z_var 3) a_nil) (ln_c ln_n)) (a_cons (k_call (ok__law_many T) (by decide) I (a_cons (z_var 3) a_nil) (ln_c ln_n)) a_nil)) (ln_c (ln_c ln_n))))) (ss_one (s_ret z_bl)) ss_nil)))))))))
    (ss_one (s_ret z_bl)))))).j, ?_⟩
  exact law_read (P := fun cls d H => False) rfl rfl rfl hS hl he hq (fun σ H Q ⟨h1, h2⟩ => ⟨_, h1, h2⟩)

end K75
end

namespace Z
open PySem PySem.Spec PyProof.Rows L2

/-! ### loops, by what stays -/
theorem for_find {fg : List Nat} {sv : Sv} {body : Sm} (P : D → Option D) (Inv : VEnv → Prop) : ∀ {ds : List D} {e : VEnv},
    (∀ d ∈ ds, ∀ e, Inv e → ∃ e1, sv d e = some e1 ∧ match P d with
      | some v => ∃ e', body e1 = .ok (.rt v e')
      | none => ∃ e', body e1 = .ok (.nx e') ∧ Inv (wipeE e' fg)) → Inv e →
    match ds.findSome? P with
      | some v => ∃ e', forGo fg sv body ds e = .ok (.rt v e')
      | none => ∃ e', forGo fg sv body ds e = .ok (.nx e') ∧ Inv e'
  | [], e, _, he => ⟨e, rfl, he⟩
  | d :: ds, e, h, he => by
    obtain ⟨e1, h1, h2⟩ := h d List.mem_cons_self e he
    have step : forGo fg sv body (d :: ds) e = (body e1 >>= fun w => match w with
      | .nx e2 => forGo fg sv body ds (wipeE e2 fg)
      | .ct e2 => forGo fg sv body ds (wipeE e2 fg)
      | .bk e2 => .ok (.nx (wipeE e2 fg))
      | .rt d e2 => .ok (.rt d e2)) := by
      show (ofO (sv d e) >>= _) = _
      rw [h1]; rfl
    rw [List.findSome?_cons]
    cases hp : P d with
    | some v =>
      rw [hp] at h2
      obtain ⟨e', h3⟩ := h2
      exact ⟨e', by rw [step, h3]; rfl⟩
    | none =>
      rw [hp] at h2
      obtain ⟨e', h3, h4⟩ := h2
      have ih := for_find (fg := fg) (sv := sv) (body := body) P Inv (ds := ds) (e := wipeE e' fg) (fun d m => h d (List.mem_cons_of_mem _ m)) h4
      have st2 : forGo fg sv body (d :: ds) e = forGo fg sv body ds (wipeE e' fg) := by rw [step, h3]; rfl
      rw [st2]
      exact ih
theorem for_nx {fg : List Nat} {sv : Sv} {body : Sm} (Inv : VEnv → Prop) {ds : List D} {e : VEnv} (h : ∀ d ∈ ds, ∀ e, Inv e → ∃ e1, sv d e = some e1 ∧ ∃ e', body e1 = .ok (.nx e') ∧ Inv (wipeE e' fg)) (he : Inv e) : ∃ e', forGo fg sv body ds e = .ok (.nx e') ∧ Inv e' := by
  have := for_find (fg := fg) (sv := sv) (body := body) (fun _ => none) Inv (ds := ds) (e := e) h he
  have e0 : ds.findSome? (fun _ : D => (none : Option D)) = none := by induction ds with
    | nil => rfl
    | cons d ds ih => rw [List.findSome?_cons]; exact ih (fun d m => h d (List.mem_cons_of_mem _ m)) (for_find (fg := fg) (sv := sv) (body := body) (fun _ => none) Inv (ds := ds) (e := e) (fun d m => h d (List.mem_cons_of_mem _ m)) he)
  rw [e0] at this
  exact this
theorem for_nxI {fg : List Nat} {sv : Sv} {body : Sm} (Inv : Nat → VEnv → Prop) : ∀ {ds : List D} {k : Nat} {e : VEnv}, (∀ d ∈ ds, ∀ i e, i < k + ds.length → Inv i e → ∃ e1, sv d e = some e1 ∧ ∃ e', body e1 = .ok (.nx e') ∧ Inv (i + 1) (wipeE e' fg)) → Inv k e → ∃ e', forGo fg sv body ds e = .ok (.nx e') ∧ Inv (k + ds.length) e'
  | [], k, e, _, he => ⟨e, rfl, he⟩
  | d :: ds, k, e, h, he => by
    obtain ⟨e1, h1, e', h2, h3⟩ := h d List.mem_cons_self k e (by rw [List.length_cons]; omega) he
    obtain ⟨e2, k1, k2⟩ := for_nxI (fg := fg) (sv := sv) (body := body) Inv (ds := ds) (k := k + 1) (e := wipeE e' fg) (fun d m i e hi => h d (List.mem_cons_of_mem _ m) i e (by rw [List.length_cons]; omega)) h3
    refine ⟨e2, ?_, by rw [List.length_cons, show k + (ds.length + 1) = k + 1 + ds.length by omega]; exact k2⟩
    show (ofO (sv d e) >>= fun e1 => body e1 >>= fun w => match w with
      | .nx e2 => forGo fg sv body ds (wipeE e2 fg)
      | .ct e2 => forGo fg sv body ds (wipeE e2 fg)
      | .bk e2 => .ok (.nx (wipeE e2 fg))
      | .rt d e2 => .ok (.rt d e2)) = _
    rw [h1]
    show (body e1 >>= _) = _
    rw [h2]
    exact k1
theorem ix0_tup (d : D) (ds : List D) : ixD (.tuple (d :: ds)) (.int 0) = some d := by
  show L2.atI (d :: ds) 0 = _
  unfold L2.atI ixN
  simp
theorem ev_ownM {i : Nat} {op : List D → List D → Option (D × List D)} {f : Ar} {e e1 : VEnv} {xs ys ds : List D} {q : D × List D} (h0 : ownAt e i = some xs) (h1 : f e = .ok (ds, e1)) (h2 : ownAt e1 i = some ys) (hq : op ys ds = some q) : xOwnM i op f e = .ok (q.1, e1.set i (.own q.2)) := by
  unfold xOwnM; rw [h0]; simp only [ofO, Res.bind_ok]; rw [h1]; simp only [Res.bind_ok]; rw [h2]; simp only [Res.bind_ok]; rw [hq]; rfl
theorem comp_inv {own : List Nat} {sv : Sv} {el : Ev} (Inv : VEnv → Prop) (R : D → Prop) : ∀ {ds : List D} {e : VEnv}, (∀ d ∈ ds, ∀ e, Inv e → ∃ e1 v e2, sv d e = some e1 ∧ el e1 = .ok (v, e2) ∧ R v ∧ Inv (wipeE e2 own)) → Inv e →
    ∃ vs e', compGo own sv teYes el ds e = .ok (vs, e') ∧ vs.length = ds.length ∧ (∀ v ∈ vs, R v) ∧ Inv e'
  | [], e, _, he => ⟨[], e, rfl, rfl, fun v m => absurd m (by simp), he⟩
  | d :: ds, e, h, he => by
    obtain ⟨e1, v, e2, h1, h2, h3, h4⟩ := h d List.mem_cons_self e he
    obtain ⟨vs, e', k1, k2, k3, k4⟩ := comp_inv (own := own) (sv := sv) (el := el) Inv R (ds := ds) (e := wipeE e2 own) (fun d m => h d (List.mem_cons_of_mem _ m)) h4
    refine ⟨v :: vs, e', ?_, by simp [k2], fun w m => ?_, k4⟩
    · show (ofO (sv d e) >>= fun e1 => nx (teYes e1) >>= fun b => if b.1 = true then nx (el b.2) >>= fun y => compGo own sv teYes el ds (wipeE y.2 own) >>= fun z => .ok (y.1 :: z.1, z.2) else compGo own sv teYes el ds (wipeE b.2 own)) = _
      rw [h1]
      show (nx (el e1) >>= fun y => compGo own sv teYes el ds (wipeE y.2 own) >>= fun z => .ok (y.1 :: z.1, z.2)) = _
      rw [h2]
      show (compGo own sv teYes el ds (wipeE e2 own) >>= fun z => .ok (v :: z.1, z.2)) = _
      rw [k1]; rfl
    · rcases List.mem_cons.mp m with rfl | m
      · exact h3
      · exact k3 w m
theorem ev_compI {src : Sr} {own : List Nat} {sv : Sv} {el : Ev} {e e1 : VEnv} {ds : List D} (Inv : VEnv → Prop) (R : D → Prop) (h1 : src e = .ok (ds, e1)) (hz : ds.length ≤ sizeLine) (h0 : Inv (wipeE e1 own))
    (h : ∀ d ∈ ds, ∀ e, Inv e → ∃ e1 v e2, sv d e = some e1 ∧ el e1 = .ok (v, e2) ∧ R v ∧ Inv (wipeE e2 own)) : ∃ vs e', fCompL src own sv teYes el e = .ok (vs, wipeE e' own) ∧ vs.length = ds.length ∧ (∀ v ∈ vs, R v) ∧ Inv e' := by
  obtain ⟨vs, e', k1, k2, k3, k4⟩ := comp_inv (own := own) (sv := sv) (el := el) Inv R h h0
  refine ⟨vs, e', ?_, k2, k3, k4⟩
  unfold fCompL
  rw [h1]
  show (if ds.length ≤ sizeLine then (compGo own sv teYes el ds (wipeE e1 own) >>= fun z => .ok (z.1, wipeE z.2 own)) else .stuck) = _
  rw [if_pos hz, k1]; rfl
/-! ### ranges, rows of ints -/
theorem range_int1 {n : Nat} (h : n ≤ 1000000) : rangeOf [.int (n : Int)] = some (rangeL 0 n) := by
  have c : (decide (-(2 ^ 62) ≤ (n : Int)) && decide ((n : Int) < 2 ^ 62)) = true := by
    simp only [Bool.and_eq_true, decide_eq_true_eq]; omega
  simp only [rangeOf, c, if_true, Int.toNat_natCast]
theorem range_int2 {lo : Int} {n : Nat} (h0 : 0 ≤ lo) (h : lo + n ≤ 1000000) : rangeOf [.int lo, .int (lo + (n : Int))] = some (rangeL lo n) := by
  have c : ((decide (-(2 ^ 62) ≤ lo) && decide (lo < 2 ^ 62)) && (decide (-(2 ^ 62) ≤ lo + (n : Int)) && decide (lo + (n : Int) < 2 ^ 62))) = true := by
    simp only [Bool.and_eq_true, decide_eq_true_eq]; omega
  have e : (lo + (n : Int) - lo).toNat = n := by omega
  simp only [rangeOf, c, if_true, e]
theorem rangeL_map : ∀ (n : Nat) (lo : Int), rangeL lo n = (List.range n).map fun k : Nat => PyData.int (lo + (k : Int))
  | 0, _ => rfl
  | n + 1, lo => by
    rw [List.range_succ_eq_map, List.map_cons, List.map_map]
    show PyData.int lo :: rangeL (lo + 1) n = _
    rw [rangeL_map n (lo + 1)]
    congr 1
    · simp
    · refine List.map_congr_left fun k _ => ?_
      show PyData.int (lo + 1 + (k : Int)) = PyData.int (lo + ((k + 1 : Nat) : Int))
      congr 1
      push_cast
      omega
theorem mem_rangeL {d : D} {lo : Int} {n : Nat} (h : d ∈ rangeL lo n) : ∃ k : Nat, k < n ∧ d = .int (lo + (k : Int)) := by
  rw [rangeL_map] at h
  obtain ⟨k, m, e⟩ := List.mem_map.mp h
  exact ⟨k, List.mem_range.mp m, e.symm⟩
def rowD (r : List Int) : D := .tuple (r.map PyData.int)
theorem atI_ints {α : Type} {r : List α} {f : α → D} {k : Nat} {x : α} (h : r[k]? = some x) : L2.atI (r.map f) (k : Int) = some (f x) := by
  have hk : k < (r.map f).length := by rw [List.length_map]; exact (List.getElem?_eq_some_iff.mp h).1
  unfold L2.atI
  have : ixN (r.map f).length (k : Int) = some k := by
    unfold ixN
    rw [if_pos (by omega), if_pos (by omega)]
    simp
  rw [this]
  show (r.map f)[k]? = _
  rw [List.getElem?_map, h]; rfl
theorem srR1_gen {f : Ev} {e e1 : VEnv} {d : D} {ds : List D} (h : f e = .ok (d, e1)) (k : rangeOf [d] = some ds) : srR1 f e = .ok (ds, e1) := by
  unfold srR1; rw [h]; simp only [Res.bind_ok]; rw [k]; rfl
theorem srR2_gen {f g : Ev} {e e1 e2 : VEnv} {d d2 : D} {ds : List D} (h : f e = .ok (d, e1)) (h2 : g e1 = .ok (d2, e2)) (k : rangeOf [d, d2] = some ds) : srR2 f g e = .ok (ds, e2) := by
  unfold srR2; rw [h]; simp only [Res.bind_ok]; rw [h2]; simp only [Res.bind_ok]; rw [k]; rfl
theorem ev_range1 {f : Ev} {e e1 : VEnv} {n : Nat} (h : f e = .ok (.int (n : Int), e1)) (hn : n ≤ 1000000) : srR1 f e = .ok (rangeL 0 n, e1) := srR1_gen h (range_int1 hn)
theorem ev_range2 {f g : Ev} {e e1 e2 : VEnv} {lo : Int} {n : Nat} (h : f e = .ok (.int lo, e1)) (h2 : g e1 = .ok (.int (lo + (n : Int)), e2)) (h0 : 0 ≤ lo) (hn : lo + n ≤ 1000000) : srR2 f g e = .ok (rangeL lo n, e2) := srR2_gen h h2 (range_int2 h0 hn)
theorem ev_seqS {f : Ev} {e e1 : VEnv} {d : D} {ds : List D} (h : f e = .ok (d, e1)) (hs : seqOf d = some ds) : srSeq f e = .ok (ds, e1) := by
  unfold srSeq; rw [h]; simp only [Res.bind_ok]; rw [hs]; rfl
theorem ev_enum {f : Ev} {e e1 : VEnv} {ds : List D} (h : f e = .ok (.list ds, e1)) : srEnum f e = .ok (enumL 0 ds, e1) := by
  unfold srEnum; rw [h]; rfl
/-! ### what repr gives -/
theorem neq_str (s : Str) : neD (.str s) (.str s) = some false := by
  unfold neD
  have h1 : shape (.str s) = true := by simp [shape, PyData.plain, PyData.depth]
  simp [h1, PyData.eqv]
theorem small_show {i : Int} (h0 : -1000 < i) (h : i < 1000) : mayShow (.int i) = true := by
  unfold mayShow
  refine decide_eq_true ?_
  have := Nat.log2_le_self i.natAbs
  omega
theorem show_ints : ∀ {xs : List Int}, (∀ i ∈ xs, mayShow (.int i) = true) → mayShowAll (xs.map PyData.int) = true
  | [], _ => rfl
  | i :: xs, h => by
    rw [List.map_cons, mayShowAll, h i List.mem_cons_self, show_ints fun j m => h j (List.mem_cons_of_mem _ m)]; rfl
theorem most_ints : ∀ (xs : List Int), shownMostAll (xs.map PyData.int) = 1923 * xs.length
  | [] => rfl
  | i :: xs => by rw [List.map_cons, shownMostAll, most_ints xs, shownMost, List.length_cons]; omega
theorem depth_rowD (xs : List Int) : (rowD xs).depth = 1 := by
  unfold rowD
  rw [PyData.depth, PySem.W.depth_ints]
theorem repr_rowD {xs : List Int} (h : ∀ i ∈ xs, -1000 < i ∧ i < 1000) (hl : xs.length ≤ 1000) : reprD (rowD xs) = some (.str (rowD xs).shown) := by
  have h1 : mayShow (rowD xs) = true := by
    unfold rowD
    rw [mayShow]
    exact show_ints fun i m => small_show (h i m).1 (h i m).2
  have h2 : shownMost (rowD xs) ≤ sizeLine := by
    unfold rowD
    rw [shownMost, most_ints, sizeLine_eq]
    omega
  unfold reprD
  rw [h1, depth_rowD, decide_eq_true h2]
  rfl
theorem plain_ints : ∀ (xs : List Int), PyData.plainAll (xs.map PyData.int) = true
  | [] => rfl
  | i :: xs => by rw [List.map_cons, PyData.plainAll, plain_ints xs]; rfl
theorem shape_rowD (xs : List Int) : shape (rowD xs) = true := by
  unfold shape
  rw [depth_rowD]
  unfold rowD
  rw [PyData.plain, plain_ints]
  rfl
theorem eqvAll_ints : ∀ (xs ys : List Int), PyData.eqvAll (xs.map PyData.int) (ys.map PyData.int) = decide (xs = ys)
  | [], [] => rfl
  | [], _ :: _ => rfl
  | _ :: _, [] => rfl
  | x :: xs, y :: ys => by
    rw [List.map_cons, List.map_cons, PyData.eqvAll, eqvAll_ints xs ys, eqv_int]
    by_cases h : x = y
    · subst h; simp
    · simp [h]
theorem eqv_rowD (xs ys : List Int) : PyData.eqv (rowD xs) (rowD ys) = decide (xs = ys) := by
  unfold rowD
  rw [PyData.eqv, eqvAll_ints]
theorem intsOf_row (xs : List Int) : intsOf (xs.map PyData.int) = some xs := intsOf_map xs
end Z

namespace Z
open PySem PySem.Spec PyProof.Rows L2
/-! ### rules for reading a def's text by values, each by its head -/
section
variable {e e1 e2 e3 e4 : VEnv} {d d2 d3 a b c z : D} {ds es : List D} {o o2 o3 : Opd} {k l : Bool} {r : Res Fw}
theorem rdv (h : rd o e = some a) : rd o e = some a := h
theorem ff {k : Bool} (h : k = true) (h2 : k = false) : False := by rw [h] at h2; cases h2
theorem q_c : xC d e = .ok (d, e) := rfl
theorem q_var {i : Nat} (h : e.getD i .no = .val d) : xVar i e = .ok (d, e) := by unfold xVar; rw [h]
theorem q_frzV {i : Nat} (h : e.getD i .no = .val d) : xFrz i e = .ok (d, e) := by unfold xFrz; rw [h]
theorem q_frz {i : Nat} (h : e.getD i .no = .own ds) : xFrz i e = .ok (.list ds, e.set i (.val (.list ds))) := by unfold xFrz; rw [h]
theorem q_oV {i : Nat} (h : e.getD i .no = .val d) : oV i e = .ok (.inr i, e) := by unfold oV; rw [h]
theorem q_oVo {i : Nat} (h : e.getD i .no = .own ds) : oV i e = .ok (.inr i, e) := by unfold oV; rw [h]
def isVO : Sl → Bool
  | .val _ => true
  | .own _ => true
  | _ => false
theorem l_vo {s : Sl} (h : isVO s = true) : isVO s = true := h
theorem q_oVg {i : Nat} {s : Sl} (h : e.getD i .no = s) (hs : isVO s = true) : oV i e = .ok (.inr i, e) := by
  cases s with
  | val d => exact q_oV h
  | own d => exact q_oVo h
  | no => cases hs
  | exc _ => cases hs
def frzS (i : Nat) (e : VEnv) : Sl → Option (D × VEnv)
  | .val d => some (d, e)
  | .own ds => some (.list ds, e.set i (.val (.list ds)))
  | _ => none
theorem q_frzG {i : Nat} {s : Sl} (h : e.getD i .no = s) (h2 : frzS i e s = some (d, e1)) : xFrz i e = .ok (d, e1) := by
  cases s with
  | val d => cases h2; exact q_frzV h
  | own d => cases h2; exact q_frz h
  | no => cases h2
  | exc _ => cases h2
theorem l_frz {i : Nat} {s : Sl} (h : frzS i e s = some (d, e1)) : frzS i e s = some (d, e1) := h
theorem q_and {t u : Te} (h : t e = .ok (k, e1)) (h2 : k = true → u e1 = .ok (l, e1)) : tAndZ t u e = .ok (k && l, e1) := by
  unfold tAndZ; rw [h]; simp only [Res.bind_ok]
  cases k with
  | true => simp only [if_true, h2 rfl, Bool.true_and]
  | false => simp only [Bool.false_eq_true, if_false, Bool.false_and]
theorem q_or {t u : Te} (h : t e = .ok (k, e1)) (h2 : k = false → u e1 = .ok (l, e1)) : tOrZ t u e = .ok (k || l, e1) := by
  unfold tOrZ; rw [h]; simp only [Res.bind_ok]
  cases k with
  | true => simp only [if_true, Bool.true_or]
  | false => simp only [Bool.false_eq_true, if_false, h2 rfl, Bool.false_or]
theorem q_orF {t u : Te} (h : t e = .ok (k, e1)) (hk : k = false) (h2 : u e1 = .ok (l, e2)) : tOrZ t u e = .ok (l, e2) := by
  subst hk; unfold tOrZ; rw [h]; simp only [Res.bind_ok, Bool.false_eq_true, if_false, h2]
theorem q_andT {t u : Te} (h : t e = .ok (k, e1)) (hk : k = true) (h2 : u e1 = .ok (l, e2)) : tAndZ t u e = .ok (l, e2) := by
  subst hk; unfold tAndZ; rw [h]; simp only [Res.bind_ok, if_true, h2]
theorem y_seq_ifF {t : Te} {f1 f2 g : Sm} (h : t e = .ok (k, e1)) (hk : k = false) (h2 : sSeq f2 g e1 = r) : sSeq (sIf t f1 f2) g e = r := by
  subst hk; unfold sSeq sIf; rw [h]; simp only [Res.bind_ok, Bool.false_eq_true, if_false]; exact h2
theorem y_ifF {t : Te} {f1 f2 : Sm} (h : t e = .ok (k, e1)) (hk : k = false) (h2 : f2 e1 = r) : sIf t f1 f2 e = r := by
  subst hk; unfold sIf; rw [h]; simp only [Res.bind_ok, Bool.false_eq_true, if_false]; exact h2
theorem q_xand {f g : Ev} (h : f e = .ok (.bool k, e1)) (h2 : k = true → g e1 = .ok (.bool l, e1)) : xAnd f g e = .ok (.bool (k && l), e1) := by
  unfold xAnd; rw [h]
  cases k with
  | true => simp only [Res.bind_ok, h2 rfl, Bool.true_and]
  | false => rfl
theorem q_xor {f g : Ev} (h : f e = .ok (.bool k, e1)) (h2 : k = false → g e1 = .ok (.bool l, e1)) : xOr f g e = .ok (.bool (k || l), e1) := by
  unfold xOr; rw [h]
  cases k with
  | true => rfl
  | false => simp only [Res.bind_ok, h2 rfl, Bool.false_or]
theorem q_xif {t : Te} {f g : Ev} (h : t e = .ok (k, e1)) (h1 : k = true → f e1 = .ok (a, e2)) (h2 : k = false → g e1 = .ok (b, e2)) : xIf t f g e = .ok (if k = true then a else b, e2) := by
  unfold xIf; rw [h]; simp only [Res.bind_ok]
  cases k with
  | true => simp only [if_true, h1 rfl]
  | false => simp only [Bool.false_eq_true, if_false, h2 rfl]
theorem q_xifv {t : Te} {f g : Ev} (h : t e = .ok (k, e1)) (h1 : k = true → f e1 = .ok (a, e2)) (h2 : k = false → g e1 = .ok (a, e2)) : xIf t f g e = .ok (a, e2) := by
  unfold xIf; rw [h]; simp only [Res.bind_ok]
  cases k with
  | true => simp only [if_true, h1 rfl]
  | false => simp only [Bool.false_eq_true, if_false, h2 rfl]
theorem q_chain {p q : D → D → Option Bool} {f g h : Oe} (h1 : f e = .ok (o, e1)) (h2 : g e1 = .ok (o2, e2)) (r1 : rd o e2 = some a) (r2 : rd o2 e2 = some b) (hp : p a b = some k) (h3 : k = true → h e2 = .ok (o3, e2)) (r4 : k = true → rd o3 e2 = some c) (hq : k = true → q b c = some l) : tChain3 p q f g h e = .ok (k && l, e2) := by
  unfold tChain3
  rw [h1]; simp only [Res.bind_ok]; rw [h2]; simp only [Res.bind_ok, r1, r2, hp, ofO]
  cases k with
  | true => simp only [if_true, h3 rfl, Res.bind_ok, r2, r4 rfl, hq rfl, Bool.true_and]
  | false => simp only [Bool.false_eq_true, if_false, Bool.false_and]
theorem q_meth {T : String} {op : D → List D → Option D} {f : Oe} {g : Ar} (h1 : f e = .ok (o, e1)) (r0 : rd o e1 = some d) (ht : tyD T d = true) (h2 : g e1 = .ok (ds, e2)) (r1 : rd o e2 = some a) (hz : op a ds = some z) : xMeth T op f g e = .ok (z, e2) := by
  unfold xMeth; rw [h1]; simp only [Res.bind_ok, r0, Option.bind_some, ht, if_true, ofO, h2, r1, hz]
/-! statements -/
theorem y_seq_nx {g : Sm} (h : g e = r) : sSeq sNext g e = r := h
theorem y_seq_if {t : Te} {f1 f2 g : Sm} (h : t e = .ok (k, e1)) (h1 : k = true → sSeq f1 g e1 = r) (h2 : k = false → sSeq f2 g e1 = r) : sSeq (sIf t f1 f2) g e = r := by
  unfold sSeq sIf; rw [h]; simp only [Res.bind_ok]
  cases k with
  | true => simp only [if_true]; exact h1 rfl
  | false => simp only [Bool.false_eq_true, if_false]; exact h2 rfl
theorem y_if {t : Te} {f1 f2 : Sm} (h : t e = .ok (k, e1)) (h1 : k = true → f1 e1 = r) (h2 : k = false → f2 e1 = r) : sIf t f1 f2 e = r := by
  unfold sIf; rw [h]; simp only [Res.bind_ok]
  cases k with
  | true => simp only [if_true]; exact h1 rfl
  | false => simp only [Bool.false_eq_true, if_false]; exact h2 rfl
theorem y_seq_ret {f : Ev} {g : Sm} (h : f e = .ok (d, e1)) : sSeq (sRet f) g e = .ok (.rt d e1) := by
  unfold sSeq sRet; rw [h]; rfl
theorem y_seq_raise {x : Str} {g : Sm} : sSeq (sRaise x) g e = .err ⟨x, none⟩ e := rfl
theorem y_raise {x : Str} : sRaise x e = .err ⟨x, none⟩ e := rfl
theorem y_seq_seq {f1 f2 g : Sm} (h : sSeq f1 (sSeq f2 g) e = r) : sSeq (sSeq f1 f2) g e = r := by
  rw [← h]
  unfold sSeq
  cases f1 e with
  | ok w => cases w <;> rfl
  | err _ _ => rfl
  | stuck => rfl
theorem y_seq_asg {f : Ev} {g : Sm} {i : Nat} (h : f e = .ok (d, e1)) (hi : Nat.ble (i + 1) e1.length = true) (h2 : g (e1.set i (.val d)) = r) : sSeq (sAsg f (svName i)) g e = r := (ev_seq (ev_set h (Nat.le_of_ble_eq_true hi))).trans h2
theorem y_asg {f : Ev} {i : Nat} (h : f e = .ok (d, e1)) (hi : Nat.ble (i + 1) e1.length = true) : sAsg f (svName i) e = .ok (.nx (e1.set i (.val d))) := ev_set h (Nat.le_of_ble_eq_true hi)
theorem q_asgG {f : Ev} {sv : Sv} (h : f e = .ok (d, e1)) (h2 : sv d e1 = some e2) : sAsg f sv e = .ok (.nx e2) := by
  unfold sAsg; rw [h]; simp only [Res.bind_ok, h2, ofO]
theorem y_seq_asgG {f : Ev} {sv : Sv} {g : Sm} (h : f e = .ok (d, e1)) (h2 : sv d e1 = some e2) (h3 : g e2 = r) : sSeq (sAsg f sv) g e = r := (ev_seq (q_asgG h h2)).trans h3
theorem q_own {f : Ef} {i : Nat} (h : f e = .ok (ds, e1)) (hi : Nat.ble (i + 1) e1.length = true) : sOwn f i e = .ok (.nx (e1.set i (.own ds))) := by
  unfold sOwn; rw [h]; exact if_pos (Nat.le_of_ble_eq_true hi)
theorem y_seq_own {f : Ef} {g : Sm} {i : Nat} (h : f e = .ok (ds, e1)) (hi : Nat.ble (i + 1) e1.length = true) (h2 : g (e1.set i (.own ds)) = r) : sSeq (sOwn f i) g e = r := (ev_seq (q_own h hi)).trans h2
theorem q_par {f : Ar} {i j : Nat} (h : f e = .ok ([a, b], e1)) (hi : Nat.ble (i + 1) e1.length = true) (hj : Nat.ble (j + 1) e1.length = true) : sPar i j f e = .ok (.nx ((e1.set i (.val a)).set j (.val b))) := by
  unfold sPar; rw [h]; simp only [Res.bind_ok]
  have h1 : i < e1.length := Nat.le_of_ble_eq_true hi
  have h2 : j < (e1.set i (.val a)).length := by rw [List.length_set]; exact Nat.le_of_ble_eq_true hj
  have : svAll [svName i, svName j] [a, b] e1 = some ((e1.set i (.val a)).set j (.val b)) := by
    show ((if i < e1.length then some (e1.set i (.val a)) else none).bind fun e => (if j < e.length then some (e.set j (.val b)) else none).bind fun e => some e) = _
    rw [if_pos h1]
    show ((if j < (e1.set i (.val a)).length then some ((e1.set i (.val a)).set j (.val b)) else none).bind fun e => some e) = _
    rw [if_pos h2]; rfl
  show (ofO (svAll [svName i, svName j] [a, b] e1) >>= fun e' => (Res.ok (Fw.nx e') : Res Fw)) = _
  rw [this]; rfl
theorem y_seq_par {f : Ar} {g : Sm} {i j : Nat} (h : f e = .ok ([a, b], e1)) (hi : Nat.ble (i + 1) e1.length = true) (hj : Nat.ble (j + 1) e1.length = true) (h2 : g ((e1.set i (.val a)).set j (.val b)) = r) : sSeq (sPar i j f) g e = r := (ev_seq (q_par h hi hj)).trans h2
theorem y_seq_drop {f : Ev} {g : Sm} (h : f e = .ok (d, e1)) (h2 : g e1 = r) : sSeq (sDrop f) g e = r := (ev_seq (ev_drop h)).trans h2
theorem y_seq_parW {f : Aw} {is : List Nat} {ws : List Ow} {g : Sm} (h : f e = .ok (ws, e1)) (h1 : setW is ws e1 = some e2) (h2 : g e2 = r) : sSeq (sParW is f) g e = r := by
  have : sParW is f e = .ok (.nx e2) := by unfold sParW; rw [h]; simp only [Res.bind_ok, h1, ofO]
  exact (ev_seq this).trans h2
theorem q_awNil : awNil e = .ok ([], e) := rfl
theorem q_awV {f : Ev} {g : Aw} {ws : List Ow} (h : f e = .ok (d, e1)) (h2 : g e1 = .ok (ws, e2)) : awV f g e = .ok (.v d :: ws, e2) := by
  unfold awV; rw [h]; simp only [Res.bind_ok, h2]
theorem q_awF {f : Ef} {g : Aw} {ws : List Ow} (h : f e = .ok (ds, e1)) (h2 : g e1 = .ok (ws, e2)) : awF f g e = .ok (.f ds :: ws, e2) := by
  unfold awF; rw [h]; simp only [Res.bind_ok, h2]
theorem q_ownM {i : Nat} {op : List D → List D → Option (D × List D)} {f : Ar} {xs ys zs : List D} (h0 : ownAt e i = some xs) (h1 : f e = .ok (ds, e1)) (h2 : ownAt e1 i = some ys) (hz : op ys ds = some (z, zs)) : xOwnM i op f e = .ok (z, e1.set i (.own zs)) := by
  unfold xOwnM; rw [h0]; simp only [ofO, Res.bind_ok]; rw [h1]; simp only [Res.bind_ok]; rw [h2]; simp only [Res.bind_ok]; rw [hz]; rfl
/-! defs -/
theorem fn_ok {n : Nat} {B : Sm} {v : D} (h : B (envP n ds) = .ok (.rt v e)) : fnP n B ds = .ok v := by unfold fnP; rw [h]; rfl
theorem fn_nx {n : Nat} {B : Sm} (h : B (envP n ds) = .ok (.nx e)) : fnP n B ds = .ok .none := by unfold fnP; rw [h]; rfl
theorem fn_err {n : Nat} {B : Sm} {x : Err} (h : B (envP n ds) = .err x e) : ∃ e', fnP n B ds = .err x e' := by unfold fnP; rw [h]; exact ⟨_, rfl⟩
theorem fnI_ok {n : Nat} {B : Sm} {v : D} {xs ys : List D} (h : B (envI n xs ds) = .ok (.rt v (.own ys :: e))) : fnI n B xs ds = .ok (v, ys) := by unfold fnI; rw [h]; rfl
theorem fn_ok2 {n : Nat} {B : Sm} {v v' : D} (h : B (envP n ds) = .ok (.rt v' e)) (hv : v' = v) : fnP n B ds = .ok v := by unfold fnP; rw [h, hv]; rfl
theorem isi_t {T : Tn} (h : isiD T d = true) : some (PyData.bool (isiD T d)) = some (.bool true) := by rw [h]
theorem isi_f {T : Tn} (h : isiD T d = false) : some (PyData.bool (isiD T d)) = some (.bool false) := by rw [h]
theorem all_true1 {α : Type} {f : α → Bool} {l : List α} (h : ∀ x ∈ l, f x = true) : allD (.list (l.map fun x => PyData.bool (f x))) = some (.bool true) := by
  have : (l.map fun x => PyData.bool (f x)) = (l.map f).map PyData.bool := by rw [List.map_map]; rfl
  show (boolsOf (l.map fun x => PyData.bool (f x))).map (fun bs => PyData.bool (bs.all id)) = _
  rw [this, boolsOf_map]
  simp only [Option.map_some, List.all_map, Option.some.injEq, PyData.bool.injEq]
  exact List.all_eq_true.mpr h
/-! comprehensions over a mapped row -/
theorem comp_mapM {α : Type} {enc : α → D} {own : List Nat} {sv : Sv} {el : Ev} {g : α → D} : ∀ {xs : List α} {e : VEnv}, (∀ x ∈ xs, ∃ e1 e2, sv (enc x) e = some e1 ∧ el e1 = .ok (g x, e2) ∧ wipeE e2 own = e) → compGo own sv teYes el (xs.map enc) e = .ok (xs.map g, e)
  | [], e, _ => rfl
  | x :: xs, e, h => by
    obtain ⟨e1, e2, h1, h2, h3⟩ := h x List.mem_cons_self
    show (ofO (sv (enc x) e) >>= fun e1 => nx (teYes e1) >>= fun b => if b.1 = true then nx (el b.2) >>= fun y => compGo own sv teYes el (xs.map enc) (wipeE y.2 own) >>= fun z => .ok (y.1 :: z.1, z.2) else compGo own sv teYes el (xs.map enc) (wipeE b.2 own)) = _
    rw [h1]
    show (nx (el e1) >>= fun y => compGo own sv teYes el (xs.map enc) (wipeE y.2 own) >>= fun z => .ok (y.1 :: z.1, z.2)) = _
    rw [h2]
    show (compGo own sv teYes el (xs.map enc) (wipeE e2 own) >>= fun z => .ok (g x :: z.1, z.2)) = _
    rw [h3, comp_mapM fun d m => h d (List.mem_cons_of_mem _ m)]
    rfl
theorem comp_filM {α : Type} {enc : α → D} {own : List Nat} {sv : Sv} {ts : Te} {el : Ev} {p : α → Bool} {g : α → D} : ∀ {xs : List α} {e : VEnv}, (∀ x ∈ xs, ∃ e1 e2, sv (enc x) e = some e1 ∧ ts e1 = .ok (p x, e2) ∧ wipeE e2 own = e ∧ (p x = true → ∃ e3, el e2 = .ok (g x, e3) ∧ wipeE e3 own = e)) → compGo own sv ts el (xs.map enc) e = .ok ((xs.filter p).map g, e)
  | [], e, _ => rfl
  | x :: xs, e, h => by
    obtain ⟨e1, e2, h1, h2, h3, h4⟩ := h x List.mem_cons_self
    have ih := comp_filM (own := own) (sv := sv) (ts := ts) (el := el) (xs := xs) (e := e) fun d m => h d (List.mem_cons_of_mem _ m)
    show (ofO (sv (enc x) e) >>= fun e1 => nx (ts e1) >>= fun b => if b.1 = true then nx (el b.2) >>= fun y => compGo own sv ts el (xs.map enc) (wipeE y.2 own) >>= fun z => .ok (y.1 :: z.1, z.2) else compGo own sv ts el (xs.map enc) (wipeE b.2 own)) = _
    rw [h1]
    show (nx (ts e1) >>= fun b => if b.1 = true then nx (el b.2) >>= fun y => compGo own sv ts el (xs.map enc) (wipeE y.2 own) >>= fun z => .ok (y.1 :: z.1, z.2) else compGo own sv ts el (xs.map enc) (wipeE b.2 own)) = _
    rw [h2]
    show (if p x = true then nx (el e2) >>= fun y => compGo own sv ts el (xs.map enc) (wipeE y.2 own) >>= fun z => .ok (y.1 :: z.1, z.2) else compGo own sv ts el (xs.map enc) (wipeE e2 own)) = _
    cases hp : p x with
    | true =>
      obtain ⟨e3, h5, h6⟩ := h4 hp
      rw [if_pos rfl, h5]
      show (compGo own sv ts el (xs.map enc) (wipeE e3 own) >>= fun z => .ok (g x :: z.1, z.2)) = _
      rw [h6, ih, List.filter_cons_of_pos hp]
      rfl
    | false =>
      rw [if_neg (by simp), h3, ih, List.filter_cons_of_neg (by simp [hp])]
theorem q_comp {α : Type} {enc : α → D} {src : Sr} {own : List Nat} {sv : Sv} {el : Ev} {g : α → D} {xs : List α} {A B : α → VEnv} (h1 : src e = .ok (xs.map enc, e1)) (hz : xs.length ≤ sizeLine) (hw : wipeE (wipeE e1 own) own = wipeE e1 own)
    (h2 : ∀ x ∈ xs, sv (enc x) (wipeE e1 own) = some (A x)) (h3 : ∀ x ∈ xs, el (A x) = .ok (g x, B x)) (h4 : ∀ x ∈ xs, wipeE (B x) own = wipeE e1 own) :
    fCompL src own sv teYes el e = .ok (xs.map g, wipeE e1 own) := by
  have h : ∀ x ∈ xs, ∃ e2 e3, sv (enc x) (wipeE e1 own) = some e2 ∧ el e2 = .ok (g x, e3) ∧ wipeE e3 own = wipeE e1 own := fun x m => ⟨_, _, h2 x m, h3 x m, h4 x m⟩
  unfold fCompL
  rw [h1]
  show (if (xs.map enc).length ≤ sizeLine then (compGo own sv teYes el (xs.map enc) (wipeE e1 own) >>= fun z => .ok (z.1, wipeE z.2 own)) else .stuck) = _
  rw [if_pos (by rw [List.length_map]; exact hz), comp_mapM h]
  show Res.ok (xs.map g, wipeE (wipeE e1 own) own) = _
  rw [hw]
theorem q_compF {α : Type} {enc : α → D} {src : Sr} {own : List Nat} {sv : Sv} {ts : Te} {el : Ev} {p : α → Bool} {g : α → D} {xs : List α} {A B C : α → VEnv} (h1 : src e = .ok (xs.map enc, e1)) (hz : xs.length ≤ sizeLine) (hw : wipeE (wipeE e1 own) own = wipeE e1 own)
    (h2 : ∀ x ∈ xs, sv (enc x) (wipeE e1 own) = some (A x)) (h3 : ∀ x ∈ xs, ts (A x) = .ok (p x, B x)) (h4 : ∀ x ∈ xs, wipeE (B x) own = wipeE e1 own) (h5 : ∀ x ∈ xs, p x = true → el (B x) = .ok (g x, C x)) (h6 : ∀ x ∈ xs, p x = true → wipeE (C x) own = wipeE e1 own) :
    fCompL src own sv ts el e = .ok ((xs.filter p).map g, wipeE e1 own) := by
  have h : ∀ x ∈ xs, ∃ e2 e3, sv (enc x) (wipeE e1 own) = some e2 ∧ ts e2 = .ok (p x, e3) ∧ wipeE e3 own = wipeE e1 own ∧ (p x = true → ∃ e4, el e3 = .ok (g x, e4) ∧ wipeE e4 own = wipeE e1 own) := fun x m => ⟨_, _, h2 x m, h3 x m, h4 x m, fun q => ⟨_, h5 x m q, h6 x m q⟩⟩
  unfold fCompL
  rw [h1]
  show (if (xs.map enc).length ≤ sizeLine then (compGo own sv ts el (xs.map enc) (wipeE e1 own) >>= fun z => .ok (z.1, wipeE z.2 own)) else .stuck) = _
  rw [if_pos (by rw [List.length_map]; exact hz), comp_filM h]
  show Res.ok ((xs.filter p).map g, wipeE (wipeE e1 own) own) = _
  rw [hw]
theorem l_wipe {own : List Nat} (h : wipeE e own = e1) : wipeE e own = e1 := h
theorem l_svN {i : Nat} (h : svName i d e = some e1) : svName i d e = some e1 := h
theorem l_svT {fs : List Sv} (h : svTup fs d e = some e1) : svTup fs d e = some e1 := h
theorem l_get {i : Nat} {s t : Sl} (h : e.getD i s = t) : e.getD i s = t := h
theorem l_ble {m n : Nat} (h : Nat.ble m n = true) : Nat.ble m n = true := h
theorem l_ty {T : String} (h : tyD T d = true) : tyD T d = true := h
theorem l_setW {is : List Nat} {ws : List Ow} (h : setW is ws e = some e1) : setW is ws e = some e1 := h
theorem l_own {i : Nat} (h : ownAt e i = some ds) : ownAt e i = some ds := h
theorem y_tup {f : Ar} (h : f e = .ok (ds, e1)) (hz : Nat.ble ds.length 100 = true) : xTup f e = .ok (.tuple ds, e1) := ev_tup h (Nat.le_trans (Nat.le_of_ble_eq_true hz) (by decide))
theorem y_lst {f : Ar} (h : f e = .ok (ds, e1)) (hz : Nat.ble ds.length 100 = true) : xLst f e = .ok (.list ds, e1) := ev_lst h (Nat.le_trans (Nat.le_of_ble_eq_true hz) (by decide))
theorem y_flst {f : Ar} (h : f e = .ok (ds, e1)) (hz : Nat.ble ds.length 100 = true) : fLst f e = .ok (ds, e1) := ev_flst h (Nat.le_trans (Nat.le_of_ble_eq_true hz) (by decide))
theorem y_sz {α : Type} {l : List α} (h : l.length ≤ 1000000) : l.length ≤ sizeLine := Nat.le_trans h (by decide)
/-! sources -/
theorem q_range1 {f : Ev} {i : Int} {n : Nat} (h : f e = .ok (.int i, e1)) (hi : i = (n : Int)) (hn : n ≤ 1000000) : srR1 f e = .ok ((List.range n).map fun k : Nat => PyData.int (k : Int), e1) := by
  subst hi
  rw [ev_range1 h hn, rangeL_map]
  simp only [Int.zero_add]
theorem l_cast {i : Int} {n : Nat} (h : i = (n : Int)) : i = (n : Int) := h
theorem cast_nn {i : Int} (h : 0 ≤ i) : i = ((i.toNat : Nat) : Int) := by omega
theorem y_nx : sNext e = .ok (.nx e) := rfl
theorem range_gen2 {lo hi : Int} (h0 : -1000000 ≤ lo) (h1 : lo ≤ 1000000) (h2 : -1000000 ≤ hi) (h : hi ≤ 1000000) : rangeOf [.int lo, .int hi] = some (rangeL lo (hi - lo).toNat) := by
  have c : ((decide (-(2 ^ 62) ≤ lo) && decide (lo < 2 ^ 62)) && (decide (-(2 ^ 62) ≤ hi) && decide (hi < 2 ^ 62))) = true := by
    simp only [Bool.and_eq_true, decide_eq_true_eq]; omega
  simp only [rangeOf, c, if_true]
theorem q_range2 {f g : Ev} {lo hi : Int} (h : f e = .ok (.int lo, e1)) (h2 : g e1 = .ok (.int hi, e2)) (hb : (-1000000 ≤ lo ∧ lo ≤ 1000000) ∧ -1000000 ≤ hi ∧ hi ≤ 1000000) : srR2 f g e = .ok ((List.range (hi - lo).toNat).map fun k : Nat => PyData.int (lo + (k : Int)), e2) := by
  rw [srR2_gen h h2 (range_gen2 hb.1.1 hb.1.2 hb.2.1 hb.2.2), rangeL_map]
theorem seq_list : seqOf (.list ds) = some ds := rfl
theorem seq_tup : seqOf (.tuple ds) = some ds := rfl
theorem seq_row (w : List Int) : seqOf (rowD w) = some (w.map PyData.int) := rfl
theorem zipL_map {α β : Type} {f : α → D} {g : β → D} : ∀ (xs : List α) (ys : List β), zipL (xs.map f) (ys.map g) = (xs.zip ys).map fun p => PyData.tuple [f p.1, g p.2]
  | [], _ => by simp [zipL]
  | x :: xs, [] => by simp [zipL]
  | x :: xs, y :: ys => by
    rw [List.map_cons, List.map_cons, List.zip_cons_cons, List.map_cons, zipL, zipL_map xs ys]
theorem enumL_map {α : Type} {f : α → D} : ∀ (xs : List α) (k : Nat), enumL (k : Int) (xs.map f) = (xs.zipIdx k).map fun p => PyData.tuple [.int (p.2 : Int), f p.1]
  | [], _ => rfl
  | x :: xs, k => by
    rw [List.map_cons, List.zipIdx_cons, List.map_cons, enumL]
    have := enumL_map (f := f) xs (k + 1)
    rw [← this]
    rfl
theorem q_zip {f g : Ev} (h1 : f e = .ok (a, e1)) (h2 : g e1 = .ok (b, e2)) (hz : zipOf a b = some ds) : srZip f g e = .ok (ds, e2) := by
  unfold srZip; rw [h1]; simp only [Res.bind_ok]; rw [h2]; simp only [Res.bind_ok]; rw [hz]; rfl
theorem zip_tt {α β : Type} {f : α → D} {g : β → D} {xs : List α} {ys : List β} : zipOf (.tuple (xs.map f)) (.tuple (ys.map g)) = some ((xs.zip ys).map fun p => PyData.tuple [f p.1, g p.2]) := by
  rw [← zipL_map]; rfl
theorem zip_ll {α β : Type} {f : α → D} {g : β → D} {xs : List α} {ys : List β} : zipOf (.list (xs.map f)) (.list (ys.map g)) = some ((xs.zip ys).map fun p => PyData.tuple [f p.1, g p.2]) := by
  rw [← zipL_map]; rfl
theorem q_enum {f : Ev} (h1 : f e = .ok (a, e1)) (hz : enumOf a = some ds) : srEnum f e = .ok (ds, e1) := by
  unfold srEnum; rw [h1]; simp only [Res.bind_ok]; rw [hz]; rfl
theorem enum_l {α : Type} {f : α → D} {xs : List α} : enumOf (.list (xs.map f)) = some ((xs.zipIdx).map fun p => PyData.tuple [.int (p.2 : Int), f p.1]) := by
  rw [← enumL_map]; rfl
theorem add_lists {xs ys : List D} (h : Nat.ble (xs.length + ys.length) 1000 = true) : addD (.list xs) (.list ys) = some (.list (xs ++ ys)) := by
  have := Nat.le_of_ble_eq_true h
  exact if_pos (by rw [sizeLine_eq]; omega)
/-! operations -/
theorem op_bD {op : D → D → Option Bool} (h : op a b = some k) : bD op a b = some (.bool k) := by unfold bD; rw [h]; rfl
variable {i j : Int} {xs ys : List Int}
theorem add_int : addD (.int i) (.int j) = some (.int (i + j)) := rfl
theorem sub_int : subD (.int i) (.int j) = some (.int (i - j)) := rfl
theorem lt_int : ltD (.int i) (.int j) = some (decide (i < j)) := rfl
theorem le_int : leD (.int i) (.int j) = some (decide (i ≤ j)) := rfl
theorem gt_int : gtD (.int i) (.int j) = some (decide (j < i)) := rfl
theorem ge_int : geD (.int i) (.int j) = some (decide (j ≤ i)) := rfl
theorem eq_int : eqD (.int i) (.int j) = some (decide (i = j)) := rfl
theorem ne_int : neD (.int i) (.int j) = some (!decide (i = j)) := rfl
theorem neg_int : negD (.int i) = some (.int (-i)) := rfl
theorem int_int : intD (.int i) = some (.int i) := rfl
theorem int_bool : intD (.bool k) = some (.int (if k then 1 else 0)) := rfl
theorem abs_int : absD (.int i) = some (.int (if i < 0 then -i else i)) := rfl
theorem mul_smallL (h : small i = true) : mulD (.int i) (.int j) = some (.int (i * j)) := by simp [mulD, h]
theorem mul_smallR (h : small j = true) : mulD (.int i) (.int j) = some (.int (i * j)) := by simp [mulD, h]
theorem small_ofI (h : -1000000000000 < i ∧ i < 1000000000000) : small i = true := by
  unfold small; exact decide_eq_true (by omega)
theorem mod_posZ (h : 0 < j) : modD (.int i) (.int j) = some (.int (i % j)) := by
  have : j ≠ 0 := by omega
  unfold modD
  simp only [if_neg this]
  rw [Int.fmod_eq_emod_of_nonneg _ (show (0 : Int) ≤ j by omega)]
theorem div_posZ (h : 0 < j ∧ j < 1073741824) : divD (.int i) (.int j) = some (.int (i / j)) := by
  have h1 : (decide (j ≠ 0) && decide (j.natAbs < 1073741824)) = true := by simp only [Bool.and_eq_true, decide_eq_true_eq]; omega
  unfold divD
  simp only [h1, if_true]
  rw [Int.fdiv_eq_ediv_of_nonneg _ (show (0 : Int) ≤ j by omega)]
theorem len_rowD : lenD (rowD xs) = some (.int (xs.length : Int)) := by simp [lenD, rowD]
theorem len_tup {α : Type} {f : α → D} {l : List α} : lenD (.tuple (l.map f)) = some (.int (l.length : Int)) := by simp [lenD]
theorem len_list {α : Type} {f : α → D} {l : List α} : lenD (.list (l.map f)) = some (.int (l.length : Int)) := by simp [lenD]
theorem tup_list : tupD (.list ds) = some (.tuple ds) := rfl
theorem tup_tup : tupD (.tuple ds) = some (.tuple ds) := rfl
theorem lst_tup : lstD (.tuple ds) = some (.list ds) := rfl
theorem tup_ints {α : Type} {f : α → Int} {l : List α} : tupD (.list (l.map fun x => PyData.int (f x))) = some (rowD (l.map f)) := by
  show some (PyData.tuple _) = some (PyData.tuple _); rw [List.map_map]; rfl
theorem all_map {α : Type} {f : α → Bool} {l : List α} : allD (.list (l.map fun x => PyData.bool (f x))) = some (.bool (l.all f)) := by
  show (boolsOf (l.map fun x => PyData.bool (f x))).map (fun bs => PyData.bool (bs.all id)) = _
  have : (l.map fun x => PyData.bool (f x)) = (l.map f).map PyData.bool := by rw [List.map_map]; rfl
  rw [this, boolsOf_map]
  simp
theorem any_map {α : Type} {f : α → Bool} {l : List α} : anyD (.list (l.map fun x => PyData.bool (f x))) = some (.bool (l.any f)) := by
  show (boolsOf (l.map fun x => PyData.bool (f x))).map (fun bs => PyData.bool (bs.any id)) = _
  have : (l.map fun x => PyData.bool (f x)) = (l.map f).map PyData.bool := by rw [List.map_map]; rfl
  rw [this, boolsOf_map]
  simp
theorem sum_map {α : Type} {f : α → Int} {l : List α} : sumD (.list (l.map fun x => PyData.int (f x))) = some (.int (l.map f).sum) := by
  have : (l.map fun x => PyData.int (f x)) = (l.map f).map PyData.int := by rw [List.map_map]; rfl
  rw [this]
  show (intsOf ((l.map f).map PyData.int)).map (fun bs => PyData.int bs.sum) = _
  rw [intsOf_map]; rfl
theorem sum_rowZ : sumD (rowD xs) = some (.int xs.sum) := by simp [sumD, rowD, intsOf_map]
/-! subscripts -/
theorem ix_list {α : Type} {f : α → D} {l : List α} (h : 0 ≤ i ∧ i.toNat < l.length) : ixD (.list (l.map f)) (.int i) = some (f l[i.toNat]) := by
  have := atI_ints (f := f) (List.getElem?_eq_getElem h.2)
  rw [show ((i.toNat : Nat) : Int) = i by omega] at this
  exact this
theorem ix_tup {α : Type} {f : α → D} {l : List α} (h : 0 ≤ i ∧ i.toNat < l.length) : ixD (.tuple (l.map f)) (.int i) = some (f l[i.toNat]) := ix_list h
theorem ix_row (h : 0 ≤ i ∧ i.toNat < xs.length) : ixD (rowD xs) (.int i) = some (.int xs[i.toNat]) := ix_list (f := PyData.int) h
theorem six_pos {n : Nat} {dflt : Nat} (h : 0 ≤ i) : HT.sIx n dflt (some i) = min i.toNat n := by
  unfold HT.sIx
  simp
  omega
theorem cutG_from {α : Type} {l : List α} (h : 0 ≤ i) : cutG l (some i) none = l.drop i.toNat := by
  unfold cutG
  rw [six_pos h]
  have : HT.sIx l.length l.length none = l.length := rfl
  rw [this]
  by_cases hl : i.toNat ≤ l.length
  · rw [Nat.min_eq_left hl, List.take_of_length_le (by rw [List.length_drop]; omega)]
  · rw [Nat.min_eq_right (by omega), List.drop_of_length_le (show l.length ≤ i.toNat by omega)]; simp
theorem cutG_to {α : Type} {l : List α} (h : 0 ≤ i) : cutG l none (some i) = l.take i.toNat := by
  unfold cutG
  have : HT.sIx l.length 0 none = 0 := rfl
  rw [this, six_pos h, List.drop_zero, Nat.sub_zero]
  by_cases hl : i.toNat ≤ l.length
  · rw [Nat.min_eq_left hl]
  · rw [Nat.min_eq_right (by omega), List.take_of_length_le (Nat.le_refl _), List.take_of_length_le (by omega)]
theorem cut_row_from (h : 0 ≤ i) : cutD (some i) none (rowD xs) = some (rowD (xs.drop i.toNat)) := by
  show some (PyData.tuple (cutG (xs.map PyData.int) (some i) none)) = _
  rw [cutG_from h, ← List.map_drop]; rfl
theorem cut_row_to (h : 0 ≤ i) : cutD none (some i) (rowD xs) = some (rowD (xs.take i.toNat)) := by
  show some (PyData.tuple (cutG (xs.map PyData.int) none (some i))) = _
  rw [cutG_to h, ← List.map_take]; rfl
theorem cut_list_from {α : Type} {f : α → D} {l : List α} (h : 0 ≤ i) : cutD (some i) none (.list (l.map f)) = some (.list ((l.drop i.toNat).map f)) := by
  show some (PyData.list (cutG (l.map f) (some i) none)) = _
  rw [cutG_from h, ← List.map_drop]
theorem cut_list_to {α : Type} {f : α → D} {l : List α} (h : 0 ≤ i) : cutD none (some i) (.list (l.map f)) = some (.list ((l.take i.toNat).map f)) := by
  show some (PyData.list (cutG (l.map f) none (some i))) = _
  rw [cutG_to h, ← List.map_take]
theorem cut_tup_from {α : Type} {f : α → D} {l : List α} (h : 0 ≤ i) : cutD (some i) none (.tuple (l.map f)) = some (.tuple ((l.drop i.toNat).map f)) := by
  show some (PyData.tuple (cutG (l.map f) (some i) none)) = _
  rw [cutG_from h, ← List.map_drop]
theorem cut_tup_to {α : Type} {f : α → D} {l : List α} (h : 0 ≤ i) : cutD none (some i) (.tuple (l.map f)) = some (.tuple ((l.take i.toNat).map f)) := by
  show some (PyData.tuple (cutG (l.map f) none (some i))) = _
  rw [cutG_to h, ← List.map_take]
theorem q_slFrom {f : Oe} {g : Ev} {lo : Int} (h1 : f e = .ok (o, e1)) (h2 : g e1 = .ok (.int lo, e2)) (r1 : rd o e2 = some a) (hz : cutD (some lo) none a = some z) : xSl f (ptSome g) ptNo e = .ok (z, e2) := by
  have h3 : ptSome g e1 = .ok (some lo, e2) := by unfold ptSome; rw [h2]; rfl
  unfold xSl
  rw [h1]; simp only [Res.bind_ok]; rw [h3]; simp only [Res.bind_ok]
  show (ofO (rd o e2) >>= fun a => ofO (cutD (some lo) none a) >>= fun z => .ok (z, e2)) = _
  rw [r1]; simp only [ofO, Res.bind_ok]; rw [hz]; rfl
theorem q_slTo {f : Oe} {g : Ev} {lo : Int} (h1 : f e = .ok (o, e1)) (h2 : g e1 = .ok (.int lo, e2)) (r1 : rd o e2 = some a) (hz : cutD none (some lo) a = some z) : xSl f ptNo (ptSome g) e = .ok (z, e2) := by
  have h3 : ptSome g e1 = .ok (some lo, e2) := by unfold ptSome; rw [h2]; rfl
  unfold xSl
  rw [h1]; simp only [Res.bind_ok]
  show (ptSome g e1 >>= fun u => ofO (rd o u.2) >>= fun a => ofO (cutD none u.1 a) >>= fun z => .ok (z, u.2)) = _
  rw [h3]; simp only [Res.bind_ok]; rw [r1]; simp only [ofO, Res.bind_ok]; rw [hz]; rfl
theorem add_rowZ (h : xs.length + ys.length ≤ 1000000) : addD (rowD xs) (rowD ys) = some (rowD (xs ++ ys)) := by
  unfold rowD addD
  simp only [List.length_map]
  rw [if_pos (by rw [sizeLine_eq]; omega), List.map_append]
theorem eq_rowZ : eqD (rowD xs) (rowD ys) = some (decide (xs = ys)) := by
  have : ∀ a b : List Int, eqD (rowD a) (rowD b) = if shape (rowD a) && shape (rowD b) then some (PyData.eqv (rowD a) (rowD b)) else none := fun _ _ => rfl
  rw [this, shape_rowD, shape_rowD, eqv_rowD]; rfl
theorem ne_rowZ : neD (rowD xs) (rowD ys) = some (!decide (xs = ys)) := by
  have : ∀ a b : List Int, neD (rowD a) (rowD b) = if shape (rowD a) && shape (rowD b) then some (!PyData.eqv (rowD a) (rowD b)) else none := fun _ _ => rfl
  rw [this, shape_rowD, shape_rowD, eqv_rowD]; rfl
theorem q_keep {i : Nat} {f : Ev} (h0 : e.getD i .no = .own ds) (h : f (e.set i (.val (.list ds))) = .ok (d, e1)) (hs : scalD d = true) (he : (keepE e1 e).set i (.own ds) = e2) : xKeep i f e = .ok (d, e2) := by
  unfold xKeep; rw [h0]
  show (f (e.set i (.val (.list ds))) >>= fun p => if scalD p.1 = true then (Res.ok (p.1, (keepE p.2 e).set i (.own ds)) : Res (D × VEnv)) else .stuck) = _
  rw [h]
  show (if scalD d = true then (Res.ok (d, (keepE e1 e).set i (.own ds)) : Res (D × VEnv)) else .stuck) = _
  rw [if_pos hs, he]
theorem l_sc (h : scalD d = true) : scalD d = true := h
/-! loops by a state -/
/-- a loop's reading, told apart from all other equations -/
structure Lp (f : Sm) (e : VEnv) (r : Res Fw) : Prop where
  h : f e = r
theorem lp {f : Sm} (h : f e = r) : Lp f e r := ⟨h⟩
theorem l_for {src : Sr} {fg : List Nat} {sv : Sv} {body : Sm} {r : Res Fw} (h : Lp (sFor src fg sv body) e r) : sFor src fg sv body e = r := h.h
theorem l_while {n : Nat} {fg : List Nat} {t : Te} {body : Sm} {r : Res Fw} (h : Lp (sWhile n fg t body) e r) : sWhile n fg t body e = r := h.h
theorem y_seq_for {src : Sr} {fg : List Nat} {sv : Sv} {body g : Sm} (h : sFor src fg sv body e = .ok (.nx e1)) (h2 : g e1 = r) : sSeq (sFor src fg sv body) g e = r := (ev_seq h).trans h2
theorem y_seq_while {n : Nat} {fg : List Nat} {t : Te} {body g : Sm} (h : sWhile n fg t body e = .ok (.nx e1)) (h2 : g e1 = r) : sSeq (sWhile n fg t body) g e = r := (ev_seq h).trans h2
theorem for_st {α σ : Type} {enc : α → D} {sv : Sv} {body : Sm} (mk : σ → VEnv) (Inv : Nat → σ → Prop) : ∀ {xs : List α} {k : Nat} {s0 : σ}, Inv k s0 →
    (∀ i s (hi : i < xs.length), Inv (k + i) s → ∃ e1 s', sv (enc xs[i]) (mk s) = some e1 ∧ body e1 = .ok (.nx (mk s')) ∧ Inv (k + i + 1) s') → ∃ s, forGo [] sv body (xs.map enc) (mk s0) = .ok (.nx (mk s)) ∧ Inv (k + xs.length) s
  | [], k, s0, h0, _ => ⟨s0, rfl, h0⟩
  | x :: xs, k, s0, h0, h => by
    obtain ⟨e1, s1, a1, a2, a3⟩ := h 0 s0 (by simp) h0
    obtain ⟨s2, b1, b2⟩ := for_st mk Inv (sv := sv) (body := body) (enc := enc) (xs := xs) (k := k + 1) (s0 := s1) a3 fun i s hi hs => by
      have := h (i + 1) s (by simpa using hi) (by rw [show k + (i + 1) = k + 1 + i by omega]; exact hs)
      rw [show k + (i + 1) + 1 = k + 1 + i + 1 by omega] at this
      exact this
    refine ⟨s2, ?_, by rw [List.length_cons, show k + (xs.length + 1) = k + 1 + xs.length by omega]; exact b2⟩
    have a1' : sv (enc x) (mk s0) = some e1 := a1
    show (ofO (sv (enc x) (mk s0)) >>= fun e1 => body e1 >>= fun w => match w with
      | .nx e2 => forGo [] sv body (xs.map enc) (wipeE e2 [])
      | .ct e2 => forGo [] sv body (xs.map enc) (wipeE e2 [])
      | .bk e2 => .ok (.nx (wipeE e2 []))
      | .rt d e2 => .ok (.rt d e2)) = _
    rw [a1']
    simp only [ofO, Res.bind_ok]
    rw [a2]
    exact b1
theorem y_for {α σ : Type} {enc : α → D} {src : Sr} {sv : Sv} {body : Sm} {xs : List α} {s0 : σ} (mk : σ → VEnv) (Inv : Nat → σ → Prop) (hs : src e = .ok (xs.map enc, mk s0)) (h0 : Inv 0 s0)
    (h : ∀ i s (hi : i < xs.length), Inv i s → ∃ e1 s', sv (enc xs[i]) (mk s) = some e1 ∧ body e1 = .ok (.nx (mk s')) ∧ Inv (i + 1) s') : ∃ s, sFor src [] sv body e = .ok (.nx (mk s)) ∧ Inv xs.length s := by
  obtain ⟨s, h1, h2⟩ := for_st (enc := enc) (sv := sv) (body := body) mk Inv (xs := xs) (k := 0) h0 (fun i s hi hI => by
    have := h i s hi (by simpa using hI)
    simpa using this)
  refine ⟨s, ?_, by simpa using h2⟩
  unfold sFor
  rw [hs]
  exact h1
theorem while_st {σ : Type} {t : Te} {body : Sm} (mk : σ → VEnv) (c : σ → Bool) (Inv : σ → Prop) (m : σ → Nat) (ht : ∀ s, Inv s → t (mk s) = .ok (c s, mk s))
    (hb : ∀ s, Inv s → c s = true → ∃ s', body (mk s) = .ok (.nx (mk s')) ∧ Inv s' ∧ m s' < m s) : ∀ (n : Nat) (s0 : σ), Inv s0 → m s0 < n → ∃ s, whileGo [] t body n (mk s0) = .ok (.nx (mk s)) ∧ Inv s ∧ c s = false
  | 0, s0, _, hm => absurd hm (by omega)
  | n + 1, s0, h0, hm => by
    have q : whileGo [] t body (n + 1) (mk s0) = (t (mk s0) >>= fun p => if p.1 = true then (body p.2 >>= fun w => match w with
      | .nx e2 => whileGo [] t body n (wipeE e2 [])
      | .ct e2 => whileGo [] t body n (wipeE e2 [])
      | .bk e2 => .ok (.nx (wipeE e2 []))
      | .rt d e2 => .ok (.rt d e2)) else .ok (.nx (wipeE p.2 []))) := rfl
    rw [q, ht s0 h0]
    simp only [Res.bind_ok]
    cases hc : c s0 with
    | false => exact ⟨s0, by simp only [Bool.false_eq_true, if_false]; rfl, h0, hc⟩
    | true =>
      obtain ⟨s1, a1, a2, a3⟩ := hb s0 h0 hc
      obtain ⟨s2, b1, b2, b3⟩ := while_st mk c Inv m ht hb n s1 a2 (by omega)
      refine ⟨s2, ?_, b2, b3⟩
      simp only [if_true, a1, Res.bind_ok]
      exact b1
theorem y_while {σ : Type} {t : Te} {body : Sm} {n : Nat} {s0 : σ} (mk : σ → VEnv) (c : σ → Bool) (Inv : σ → Prop) (m : σ → Nat) (he : e = mk s0) (h0 : Inv s0) (hm : m s0 < n) (ht : ∀ s, Inv s → t (mk s) = .ok (c s, mk s))
    (hb : ∀ s, Inv s → c s = true → ∃ s', body (mk s) = .ok (.nx (mk s')) ∧ Inv s' ∧ m s' < m s) : ∃ s, sWhile n [] t body e = .ok (.nx (mk s)) ∧ Inv s ∧ c s = false := by
  subst he
  exact while_st mk c Inv m ht hb n s0 h0 hm
theorem append_own {xs : List D} {d : D} (h : xs.length ≤ 1000000) : appendD xs [d] = some (.none, xs ++ [d]) := by
  unfold appendD
  have : xs.length < sizeLine := by rw [sizeLine_eq]; omega
  simp [this]
theorem y_nxE (h : e = e1) : sNext e = .ok (.nx e1) := by rw [h]; rfl
theorem y_asgE {f : Ev} {i : Nat} (h : f e = .ok (d, e1)) (hi : Nat.ble (i + 1) e1.length = true) (he : e1.set i (.val d) = e2) : sAsg f (svName i) e = .ok (.nx e2) := by rw [← he]; exact y_asg h hi
theorem y_ownE {f : Ef} {i : Nat} (h : f e = .ok (ds, e1)) (hi : Nat.ble (i + 1) e1.length = true) (he : e1.set i (.own ds) = e2) : sOwn f i e = .ok (.nx e2) := by rw [← he]; exact q_own h hi
theorem y_dropE2 {f : Ev} (h : f e = .ok (d, e1)) (he : e1 = e2) : sDrop f e = .ok (.nx e2) := by rw [← he]; exact ev_drop h
theorem y_parE {f : Ar} {i j : Nat} (h : f e = .ok ([a, b], e1)) (hi : Nat.ble (i + 1) e1.length = true) (hj : Nat.ble (j + 1) e1.length = true) (he : (e1.set i (.val a)).set j (.val b) = e2) : sPar i j f e = .ok (.nx e2) := by rw [← he]; exact q_par h hi hj
theorem l_env (h : e = e1) : e = e1 := h
/-! errors -/
theorem q_callE {F : List D → Res D} {f : Ar} {x : Err} (h1 : f e = .ok (ds, e1)) (hF : ∃ e', F ds = .err x e') : xCall F f e = .err x e1 := by
  obtain ⟨e', hF⟩ := hF
  unfold xCall; rw [h1]; simp only [Res.bind_ok]; rw [hF]
theorem y_dropE {f : Ev} {x : Err} (h : f e = .err x e1) : sDrop f e = .err x e1 := by unfold sDrop; rw [h]; rfl
theorem y_seqE {f g : Sm} {x : Err} (h : f e = .err x e1) : sSeq f g e = .err x e1 := by unfold sSeq; rw [h]; rfl
theorem y_tryE {i : Nat} {ex : List Str} {fb : Sm} {fs : Err → Addr → Sm} {x : Err} (h : fb e = .err x e1) (hx : x.cls ∈ ex) (h2 : ∀ a, postE i (fs x a (e1.set i (.exc a))) = r) : sTry i ex fb fs e = r := by
  unfold sTry; rw [h]
  show (if x.cls ∈ ex then allA (fun a => postE i (fs x a (e1.set i (.exc a)))) else .stuck) = r
  rw [if_pos hx]; exact allA_eq h2
theorem y_tryN {i : Nat} {ex : List Str} {fb : Sm} {fs : Err → Addr → Sm} (h : fb e = .ok (.nx e1)) : sTry i ex fb fs e = .ok (.nx e1) := by
  unfold sTry; rw [h]
theorem fn_errs {n : Nat} {B : Sm} {x : Err} (h : B (envP n ds) = .err x e) : ∃ e', fnP n B ds = .err x e' := fn_err h
theorem q_isE {x : Err} {a : Addr} {i : Nat} {y : Str} (h : e.getD i .no = .exc a) (hn : x.arg = none) : xIsE x a i y e = .ok (.bool (decide (x.cls = y)), e) := by
  unfold xIsE xIsB; rw [h]; simp [hn]
theorem q_isV {x : Err} {a : Addr} {i : Nat} (h : e.getD i .no = .exc a) (hn : x.arg = none) : xIsV x a i e = .ok (.bool true, e) := by
  unfold xIsV xIsB; rw [h]; simp [hn]
/-- the suite's text is what most laws have: is it that error, is it a ValueError -/
theorem y_isEV {x : Err} {i : Nat} {y : Str} (hn : x.arg = none) (hi : Nat.ble (i + 1) e.length = true) (a : Addr) : postE i (sRet (xAnd (xIsE x a i y) (xIsV x a i)) (e.set i (.exc a))) = .ok (.rt (.bool (decide (x.cls = y))) (e.set i .no)) := by
  have hi : i < e.length := Nat.le_of_ble_eq_true hi
  have g : (e.set i (.exc a)).getD i .no = .exc a := by rw [List.getD_eq_getElem?_getD, List.getElem?_set_self hi]; rfl
  have h1 : sRet (xAnd (xIsE x a i y) (xIsV x a i)) (e.set i (.exc a)) = .ok (.rt (.bool (decide (x.cls = y) && true)) (e.set i (.exc a))) := ev_ret (q_xand (q_isE g hn) (fun _ => q_isV g hn))
  rw [h1, Bool.and_true]
  show Res.ok (Fw.rt _ ((e.set i (.exc a)).set i .no)) = _
  rw [List.set_set]
/-! max, min of ints -/
def maxN (l : List Int) : Int := (maxI l).getD 0
theorem foldl_max : ∀ (l : List Int) (a : Int), (l.foldl max a ∈ a :: l) ∧ ∀ x ∈ a :: l, x ≤ l.foldl max a
  | [], a => ⟨by simp, fun x m => by simp at m; rw [m]; exact Int.le_refl _⟩
  | b :: l, a => by
    obtain ⟨h1, h2⟩ := foldl_max l (max a b)
    refine ⟨?_, fun x m => ?_⟩
    · rw [List.foldl_cons]
      rcases List.mem_cons.mp h1 with q | q
      · rw [q]
        rcases Int.le_total a b with w | w
        · rw [Int.max_eq_right w]; simp
        · rw [Int.max_eq_left w]; simp
      · exact List.mem_cons_of_mem _ (List.mem_cons_of_mem _ q)
    · rw [List.foldl_cons]
      have h0 := h2 (max a b) List.mem_cons_self
      rcases List.mem_cons.mp m with q | m
      · rw [q]; omega
      · rcases List.mem_cons.mp m with q | m
        · rw [q]; omega
        · exact h2 x (List.mem_cons_of_mem _ m)
theorem maxN_mem {l : List Int} (h : l ≠ []) : maxN l ∈ l := by
  match l, h with
  | a :: l, _ => exact (foldl_max l a).1
theorem maxN_le {l : List Int} {x : Int} (h : x ∈ l) : x ≤ maxN l := by
  match l, h with
  | a :: l, h => exact (foldl_max l a).2 x h
theorem max_map {α : Type} {f : α → Int} {l : List α} (h : l ≠ []) : maxD' (.list (l.map fun x => PyData.int (f x))) = some (.int (maxN (l.map f))) := by
  have : (l.map fun x => PyData.int (f x)) = (l.map f).map PyData.int := by rw [List.map_map]; rfl
  rw [this]
  show ((intsOf ((l.map f).map PyData.int)).bind fun bs => (maxI bs).map PyData.int) = _
  rw [intsOf_map]
  match l, h with
  | a :: l, _ => rfl
end
end Z

namespace Z
open PySem PySem.Spec PyProof.Rows L2
/-! ### rows of ints: order, least, greatest, sorted, in, index -/
theorem alike_ints : ∀ xs ys : List Int, PySem.W.alikeAll (xs.map PyData.int) (ys.map PyData.int) = true
  | [], _ => by simp [PySem.W.alikeAll]
  | x :: xs, [] => by simp [PySem.W.alikeAll]
  | x :: xs, y :: ys => by
    rw [List.map_cons, List.map_cons, PySem.W.alikeAll, alike_ints xs ys]
    simp [PySem.W.alike]
theorem alike_rowD (xs ys : List Int) : PySem.W.alike (rowD xs) (rowD ys) = true := by
  unfold rowD; rw [PySem.W.alike]; exact alike_ints xs ys
theorem dataLt_rowD (xs ys : List Int) : PySem.W.dataLt (rowD xs) (rowD ys) = decide (xs < ys) := PySem.W.dataLt_ints xs ys
theorem okLt_rowD (xs ys : List Int) : okLt (rowD xs) (rowD ys) = true := by
  unfold okLt
  rw [alike_rowD, depth_rowD]; rfl
section
variable {xs ys : List Int}
theorem lt_rowZ : ltD (rowD xs) (rowD ys) = some (decide (xs < ys)) := by
  show (if okLt (rowD xs) (rowD ys) then some (PySem.W.dataLt (rowD xs) (rowD ys)) else none) = _
  rw [okLt_rowD, dataLt_rowD]; rfl
theorem gt_rowZ : gtD (rowD xs) (rowD ys) = some (decide (ys < xs)) := by
  show (if okLt (rowD xs) (rowD ys) then some (PySem.W.dataLt (rowD ys) (rowD xs)) else none) = _
  rw [okLt_rowD, dataLt_rowD]; rfl
theorem ge_rowZ : geD (rowD xs) (rowD ys) = some (!decide (xs < ys)) := by
  show (if okLt (rowD xs) (rowD ys) then some (!PySem.W.dataLt (rowD xs) (rowD ys)) else none) = _
  rw [okLt_rowD, dataLt_rowD]; rfl
theorem le_rowZ : leD (rowD xs) (rowD ys) = some (!decide (ys < xs)) := by
  show (if okLt (rowD xs) (rowD ys) then some (!PySem.W.dataLt (rowD ys) (rowD xs)) else none) = _
  rw [okLt_rowD, dataLt_rowD]; rfl
end
theorem okMM_rows (ts : List (List Int)) : okMM (ts.map rowD) = true := by
  unfold okMM
  refine List.all_eq_true.mpr fun a m => ?_
  obtain ⟨x, _, rfl⟩ := List.mem_map.mp m
  have : ((ts.map rowD).all fun b => PySem.W.alike (rowD x) b) = true := List.all_eq_true.mpr fun b mb => by
    obtain ⟨y, _, rfl⟩ := List.mem_map.mp mb
    exact alike_rowD x y
  rw [this, depth_rowD]; rfl
def minL (x : List Int) (ts : List (List Int)) : List Int := ts.foldl (fun a y => if y < a then y else a) x
def maxL (x : List Int) (ts : List (List Int)) : List Int := ts.foldl (fun a y => if a < y then y else a) x
theorem minD_rows : ∀ (ts : List (List Int)) (x : List Int), PySem.W.minD (rowD x) (ts.map rowD) = rowD (minL x ts)
  | [], x => rfl
  | y :: ts, x => by
    show PySem.W.minD (if PySem.W.dataLt (rowD y) (rowD x) then rowD y else rowD x) (ts.map rowD) = rowD (minL (if y < x then y else x) ts)
    rw [dataLt_rowD, ← minD_rows ts]
    by_cases h : y < x <;> simp [h]
theorem maxD_rows : ∀ (ts : List (List Int)) (x : List Int), PySem.W.maxD (rowD x) (ts.map rowD) = rowD (maxL x ts)
  | [], x => rfl
  | y :: ts, x => by
    show PySem.W.maxD (if PySem.W.dataLt (rowD x) (rowD y) then rowD y else rowD x) (ts.map rowD) = rowD (maxL (if x < y then y else x) ts)
    rw [dataLt_rowD, ← maxD_rows ts]
    by_cases h : x < y <;> simp [h]
def minT (ts : List (List Int)) : List Int := minL (ts.headD []) ts.tail
def maxT (ts : List (List Int)) : List Int := maxL (ts.headD []) ts.tail
theorem mnD_rows {ts : List (List Int)} (h : 0 < ts.length) : mnD (.list (ts.map rowD)) = some (rowD (minT ts)) := by
  match ts, h with
  | x :: ts, _ =>
    show (if okMM ((x :: ts).map rowD) then some (PySem.W.minD (rowD x) (ts.map rowD)) else none) = _
    rw [okMM_rows, minD_rows]; rfl
theorem mxD_rows {ts : List (List Int)} (h : 0 < ts.length) : mxD (.list (ts.map rowD)) = some (rowD (maxT ts)) := by
  match ts, h with
  | x :: ts, _ =>
    show (if okMM ((x :: ts).map rowD) then some (PySem.W.maxD (rowD x) (ts.map rowD)) else none) = _
    rw [okMM_rows, maxD_rows]; rfl
/-! sorted, each once -/
def insT (acc : List (List Int)) (x : List Int) : List (List Int) := if x ∈ acc then acc else acc ++ [x]
def dedup (ts : List (List Int)) : List (List Int) := ts.foldl insT []
def leRow (a b : List Int) : Bool := !decide (b < a)
def sT (ts : List (List Int)) : List (List Int) := (dedup ts).mergeSort leRow
theorem foldl_insT : ∀ (ts acc : List (List Int)), (∀ x, x ∈ ts.foldl insT acc ↔ x ∈ acc ∨ x ∈ ts) ∧ (acc.Nodup → (ts.foldl insT acc).Nodup) ∧ (ts.foldl insT acc).length ≤ acc.length + ts.length
  | [], acc => ⟨fun x => by simp, id, by simp⟩
  | t :: ts, acc => by
    obtain ⟨h1, h2, h3⟩ := foldl_insT ts (insT acc t)
    have i1 : ∀ x, x ∈ insT acc t ↔ x ∈ acc ∨ x = t := fun x => by
      unfold insT
      split
      · next q => exact ⟨.inl, fun z => z.elim id fun e => e ▸ q⟩
      · simp
    refine ⟨fun x => ?_, fun nd => h2 ?_, ?_⟩
    · rw [List.foldl_cons, h1, i1, List.mem_cons]
      constructor
      · rintro ((q | q) | q)
        · exact .inl q
        · exact .inr (.inl q)
        · exact .inr (.inr q)
      · rintro (q | q | q)
        · exact .inl (.inl q)
        · exact .inl (.inr q)
        · exact .inr q
    · unfold insT
      split
      · exact nd
      · next q => exact List.nodup_append.mpr ⟨nd, by simp, fun a ma b mb => by rw [List.mem_singleton.mp mb]; intro e; exact q (e ▸ ma)⟩
    · rw [List.foldl_cons, List.length_cons]
      have : (insT acc t).length ≤ acc.length + 1 := by unfold insT; split <;> simp
      omega
theorem mem_dedup {ts : List (List Int)} {x : List Int} : x ∈ dedup ts ↔ x ∈ ts := by
  have h := (foldl_insT ts []).1 x
  show x ∈ ts.foldl insT [] ↔ _
  rw [h]
  simp
theorem nodup_dedup (ts : List (List Int)) : (dedup ts).Nodup := (foldl_insT ts []).2.1 List.nodup_nil
theorem mem_sT {ts : List (List Int)} {x : List Int} : x ∈ sT ts ↔ x ∈ ts := by
  unfold sT; rw [List.mem_mergeSort]; exact mem_dedup
theorem len_sT (ts : List (List Int)) : (sT ts).length ≤ ts.length := by
  unfold sT; rw [List.length_mergeSort]
  have := (foldl_insT ts []).2.2
  simpa [dedup] using this
theorem sort_rows (ts : List (List Int)) : (ts.map rowD).mergeSort (PySem.W.dataLe false id) = (ts.mergeSort leRow).map rowD := by
  refine (List.map_mergeSort (r := leRow) (s := PySem.W.dataLe false id) (f := rowD) fun a _ b _ => ?_).symm
  show (!decide (b < a)) = !PySem.W.dataLt (rowD b) (rowD a)
  rw [dataLt_rowD]
/-! the two ways to sort keys -/
theorem nks_ints : ∀ xs : List Int, nks (xs.map PyData.int) = some (xs.map NestedKey.num)
  | [] => rfl
  | x :: xs => by rw [List.map_cons, nks, nks_ints xs, nk]; rfl
theorem nk_rowD (xs : List Int) : nk (rowD xs) = some (.tup (xs.map NestedKey.num)) := by
  unfold rowD; rw [nk, nks_ints]; rfl
theorem nk_inj {xs ys : List Int} : nk (rowD xs) = nk (rowD ys) ↔ xs = ys := by
  rw [nk_rowD, nk_rowD]
  constructor
  · intro h
    have h := Option.some.inj h
    injection h with h
    have : ∀ a b : List Int, a.map NestedKey.num = b.map NestedKey.num → a = b := by
      intro a
      induction a with
      | nil => intro b hb; cases b with | nil => rfl | cons _ _ => cases hb
      | cons x a ih =>
        intro b hb
        cases b with
        | nil => cases hb
        | cons y b =>
          rw [List.map_cons, List.map_cons] at hb
          injection hb with h1 h2
          injection h1 with h1
          rw [h1, ih b h2]
    exact this _ _ h
  · intro h; rw [h]
theorem insK_rows (acc : List (List Int)) (x : List Int) : insK (acc.map rowD) (rowD x) = (insT acc x).map rowD := by
  unfold insK insT
  have : ((acc.map rowD).any fun y => decide (nk y = nk (rowD x))) = decide (x ∈ acc) := by
    rw [Bool.eq_iff_iff, List.any_eq_true, decide_eq_true_eq]
    constructor
    · rintro ⟨y, m, h⟩
      obtain ⟨z, mz, rfl⟩ := List.mem_map.mp m
      rw [← nk_inj.mp (of_decide_eq_true h)]; exact mz
    · intro m
      exact ⟨rowD x, List.mem_map.mpr ⟨x, m, rfl⟩, decide_eq_true rfl⟩
  rw [this]
  by_cases h : x ∈ acc
  · simp [h]
  · simp [h]
theorem firstsK_rows (ts : List (List Int)) : firstsK (ts.map rowD) = (dedup ts).map rowD := by
  unfold firstsK dedup
  have : ∀ (ts acc : List (List Int)), (ts.map rowD).foldl insK (acc.map rowD) = (ts.foldl insT acc).map rowD := by
    intro ts
    induction ts with
    | nil => intro acc; rfl
    | cons t ts ih => intro acc; rw [List.map_cons, List.foldl_cons, List.foldl_cons, insK_rows, ih]
  exact this ts []
theorem srtK_rows {ts : List (List Int)} (h : ∀ t ∈ ts, t ≠ []) (hl : ts.length ≤ 100000) : srtK (ts.map rowD) = some (.list ((sT ts).map rowD)) := by
  unfold srtK
  have ok : okSort (firstsK (ts.map rowD)) = true := by
    rw [firstsK_rows]
    unfold okSort
    rw [okMM_rows]
    have : ((dedup ts).map rowD).all neTup = true := List.all_eq_true.mpr fun d m => by
      obtain ⟨x, mx, rfl⟩ := List.mem_map.mp m
      cases x with
      | nil => exact absurd rfl (h _ (mem_dedup.mp mx))
      | cons _ _ => rfl
    rw [this]; rfl
  rw [ok, List.length_map, decide_eq_true hl, firstsK_rows, sort_rows]; rfl
theorem keyOk_rowD (xs : List Int) : keyOk (rowD xs) = true := by
  unfold keyOk
  have h := nk_rowD xs
  unfold rowD at h ⊢
  simp only [h]
  refine decide_eq_true ?_
  have : ∀ xs : List Int, NestedKey.depthAll (xs.map NestedKey.num) = 0 := by
    intro xs
    induction xs with
    | nil => rfl
    | cons x xs ih => rw [List.map_cons, NestedKey.depthAll, ih]; rfl
  rw [NestedKey.depth, this]; decide
theorem rows_of : ∀ {ts : List D}, (∀ t ∈ ts, ∃ x : List Int, t = rowD x) → ∃ L : List (List Int), ts = L.map rowD
  | [], _ => ⟨[], rfl⟩
  | t :: ts, h => by
    obtain ⟨x, hx⟩ := h t List.mem_cons_self
    obtain ⟨L, hL⟩ := rows_of fun t m => h t (List.mem_cons_of_mem _ m)
    exact ⟨x :: L, by rw [hx, hL]; rfl⟩
theorem shape_rows (L : List (List Int)) : shape (.list (L.map rowD)) = true := by
  have hp : PyData.plainAll (L.map rowD) = true := by
    induction L with
    | nil => rfl
    | cons x L ih =>
      rw [List.map_cons, PyData.plainAll, ih]
      have := shape_rowD x
      unfold shape at this
      rw [(Bool.and_eq_true_iff.mp this).1]; rfl
  have hd : PyData.depthAll (L.map rowD) ≤ 1 := by
    clear hp
    induction L with
    | nil => exact Nat.zero_le _
    | cons x L ih =>
      rw [List.map_cons, PyData.depthAll, depth_rowD]
      omega
  unfold shape
  rw [PyData.plain, hp, PyData.depth]
  have : PyData.depthAll (L.map rowD) + 1 ≤ 60 := by omega
  simp [this]
theorem in_rows (xs : List Int) (L : List (List Int)) : inD (rowD xs) (.list (L.map rowD)) = some (decide (xs ∈ L)) := by
  have e : inD (rowD xs) (.list (L.map rowD)) = if shape (rowD xs) && shape (.list (L.map rowD)) then some ((L.map rowD).any fun y => PyData.eqv y (rowD xs)) else none := rfl
  rw [e, shape_rowD, shape_rows]
  simp only [Bool.and_self, if_true]
  congr 1
  rw [List.any_map]
  rw [Bool.eq_iff_iff, List.any_eq_true, decide_eq_true_eq]
  constructor
  · rintro ⟨y, m, e⟩
    have e : PyData.eqv (rowD y) (rowD xs) = true := e
    rw [eqv_rowD] at e
    have := of_decide_eq_true e
    rw [← this]; exact m
  · intro m
    refine ⟨xs, m, ?_⟩
    show PyData.eqv (rowD xs) (rowD xs) = true
    rw [eqv_rowD]; exact decide_eq_true rfl

theorem keys_rowsZ : ∀ ks : List (List Int), keysOf (ks.map fun k => PyData.tuple [rowD k, .bool true]) = some ks
  | [] => rfl
  | k :: ks => by
    show (intsOf (k.map PyData.int)).bind (fun q => (keysOf (ks.map fun k => PyData.tuple [rowD k, .bool true])).map (q :: ·)) = _
    rw [intsOf_map, keys_rowsZ ks]; rfl
theorem firstsA_dedup : ∀ (ts acc : List (List Int)), (firstsA (acc.map fun k => (k, ())) (ts.map fun k => (k, ()))).map (fun x => x.1) = ts.foldl insT acc
  | [], acc => by
    show (acc.map fun k => (k, ())).map (fun x => x.1) = acc
    rw [List.map_map]; exact List.map_id acc
  | t :: ts, acc => by
    rw [List.map_cons, firstsA, List.foldl_cons, ← firstsA_dedup ts]
    congr 2
    unfold insT
    have : ((acc.map fun k => (k, ())).any fun y => decide (y.1 = t)) = decide (t ∈ acc) := by
      rw [Bool.eq_iff_iff, List.any_eq_true, decide_eq_true_eq]
      constructor
      · rintro ⟨y, m, h⟩
        obtain ⟨z, mz, rfl⟩ := List.mem_map.mp m
        rw [← of_decide_eq_true h]; exact mz
      · intro m
        exact ⟨(t, ()), List.mem_map.mpr ⟨t, m, rfl⟩, decide_eq_true rfl⟩
    rw [this]
    by_cases h : t ∈ acc <;> simp [h]
theorem sdD_rows {ts : List (List Int)} (h : ∀ t ∈ ts, t ≠ []) (hl : ts.length ≤ 100000) : sdD (.list (ts.map fun k => PyData.tuple [rowD k, .bool true])) = some (.list ((sT ts).map rowD)) := by
  unfold sdD
  have hall : (ts.all fun k => !k.isEmpty) = true := List.all_eq_true.mpr fun t m => by
    have := h t m
    cases t with
    | nil => exact absurd rfl this
    | cons _ _ => rfl
  simp only [keys_rowsZ, hall, List.length_map, decide_eq_true hl, Bool.and_self, if_true]
  have : (firstsA [] (ts.map fun k => (k, ()))).map (fun x => tD x.1) = (dedup ts).map rowD := by
    have := firstsA_dedup ts []
    rw [← show (firstsA [] (ts.map fun k => (k, ()))).map (fun x => x.1) = dedup ts from this, List.map_map]
    rfl
  rw [this, sort_rows]; rfl
theorem index_rows {ts : List (List Int)} {x : List Int} (h : x ∈ ts) : indexD (.list (ts.map rowD)) [rowD x] = some (.int (ts.idxOf x : Nat)) := by
  unfold indexD
  have c0 : ∀ xs : List Int, (rowD xs).canLay0 = true := fun xs => by
    unfold rowD
    rw [PyData.canLay0]
    induction xs with
    | nil => rfl
    | cons x xs ih => rw [List.map_cons, PyData.canLayAll0, ih]; rfl
  have s1 : SeqAt.shaped (.list (ts.map rowD)) = true := by
    have h1 := shape_rows ts
    unfold shape at h1
    obtain ⟨_, h1⟩ := Bool.and_eq_true_iff.mp h1
    have h1 := of_decide_eq_true h1
    unfold SeqAt.shaped
    have c2 : ∀ ts : List (List Int), PyData.canLayAll0 (ts.map rowD) = true := fun ts => by
      induction ts with
      | nil => rfl
      | cons t ts ih => rw [List.map_cons, PyData.canLayAll0, c0, ih]; rfl
    have c1 : (PyData.list (ts.map rowD)).canLay0 = true := by
      rw [PyData.canLay0]; exact c2 ts
    simp only [c1, Bool.true_and, decide_eq_true_eq]
    omega
  have s2 : SeqAt.shaped (rowD x) = true := by
    unfold SeqAt.shaped
    rw [c0, depth_rowD]; rfl
  have f : firstAt (ts.map rowD) (rowD x) = some (ts.idxOf x) := by
    unfold firstAt
    rw [List.findIdx?_map]
    have : ((fun z => PyData.eqv z (rowD x)) ∘ rowD) = fun t => t == x := by
      funext t
      show PyData.eqv (rowD t) (rowD x) = _
      rw [eqv_rowD]
      rw [Bool.eq_iff_iff]; simp
    rw [this]
    rw [List.findIdx?_eq_some_iff_findIdx_eq]
    exact ⟨List.idxOf_lt_length_of_mem h, rfl⟩
  simp only [s1, s2, f, Bool.and_self, if_true]
/-! sorted of a dict comprehension over rows -/
theorem q_sortC {α : Type} {enc : α → D} {src : Sr} {own : List Nat} {sv : Sv} {el : Ev} {g : α → List Int} {xs : List α} {e e1 : VEnv} {A B : α → VEnv} (h1 : src e = .ok (xs.map enc, e1)) (hz : xs.length ≤ 100000) (hw : wipeE (wipeE e1 own) own = wipeE e1 own)
    (h2 : ∀ x ∈ xs, sv (enc x) (wipeE e1 own) = some (A x)) (h3 : ∀ x ∈ xs, el (A x) = .ok (rowD (g x), B x)) (h4 : ∀ x ∈ xs, wipeE (B x) own = wipeE e1 own) (hn : ∀ x ∈ xs, g x ≠ []) :
    xSortC src own sv teYes el e = .ok (.list ((sT (xs.map g)).map rowD), wipeE e1 own) := by
  have h : ∀ x ∈ xs, ∃ e2 e3, sv (enc x) (wipeE e1 own) = some e2 ∧ xKey el e2 = .ok (rowD (g x), e3) ∧ wipeE e3 own = wipeE e1 own := fun x m => ⟨_, _, h2 x m, by
    unfold xKey
    rw [h3 x m]
    show (if keyOk (rowD (g x)) = true then (Res.ok (rowD (g x), B x) : Res (D × VEnv)) else .stuck) = _
    rw [if_pos (keyOk_rowD _)], h4 x m⟩
  unfold xSortC
  rw [h1]
  show (if (xs.map enc).length ≤ 100000 then (compGo own sv teYes (xKey el) (xs.map enc) (wipeE e1 own) >>= fun z => ofO (srtK z.1) >>= fun d => .ok (d, wipeE z.2 own)) else .stuck) = _
  rw [if_pos (by rw [List.length_map]; exact hz), comp_mapM (g := fun x => rowD (g x)) h]
  show (ofO (srtK (xs.map fun x => rowD (g x))) >>= fun d => Res.ok (d, wipeE (wipeE e1 own) own)) = _
  have : (xs.map fun x => rowD (g x)) = (xs.map g).map rowD := by rw [List.map_map]; rfl
  rw [this, srtK_rows (fun t m => by obtain ⟨x, mx, rfl⟩ := List.mem_map.mp m; exact hn x mx) (by rw [List.length_map]; exact hz), hw]
  rfl
end Z

namespace Z
open PySem PySem.Spec PyProof.Rows L2
/-! ### what can be shown: by depth and a bound -/
structure Sh (d : D) (k n : Nat) : Prop where
  m : mayShow d = true
  k : d.depth ≤ k
  n : shownMost d ≤ n
theorem Sh.le {d : D} {k n k' n' : Nat} (h : Sh d k n) (hk : k ≤ k') (hn : n ≤ n') : Sh d k' n' := ⟨h.m, Nat.le_trans h.k hk, Nat.le_trans h.n hn⟩
theorem sh_int {i : Int} (h : -1000000000000 < i ∧ i < 1000000000000) : Sh (.int i) 0 2000 := ⟨by
  unfold mayShow
  refine decide_eq_true ?_
  have h1 : i.natAbs < 2 ^ 1920 := by
    have : i.natAbs < 1000000000000 := by omega
    exact Nat.lt_of_lt_of_le this (by decide +kernel)
  rcases Nat.eq_zero_or_pos i.natAbs with z | z
  · rw [z]; decide
  · exact (Nat.log2_lt (by omega)).mpr h1, by simp [PyData.depth], by simp [shownMost]⟩
theorem sh_bool (b : Bool) : Sh (.bool b) 0 2000 := ⟨by cases b <;> rfl, by simp [PyData.depth], by simp [shownMost]⟩
theorem sh_none : Sh .none 0 2000 := ⟨rfl, by simp [PyData.depth], by simp [shownMost]⟩
theorem sh_str {s : Str} (h : mayShow (.str s) = true) (hl : s.length ≤ 100) : Sh (.str s) 0 2000 := ⟨h, by simp [PyData.depth], by simp [shownMost]; omega⟩
theorem sh_all {k n : Nat} : ∀ {ds : List D}, (∀ d ∈ ds, Sh d k n) → mayShowAll ds = true ∧ PyData.depthAll ds ≤ k ∧ shownMostAll ds ≤ ds.length * (n + 2)
  | [], _ => ⟨rfl, by simp [PyData.depthAll], by simp [shownMostAll]⟩
  | d :: ds, h => by
    obtain ⟨a, b, c⟩ := sh_all fun d m => h d (List.mem_cons_of_mem _ m)
    have q := h d List.mem_cons_self
    refine ⟨by rw [mayShowAll, q.m, a]; rfl, by rw [PyData.depthAll]; exact Nat.max_le.mpr ⟨q.k, b⟩, ?_⟩
    rw [shownMostAll, List.length_cons, Nat.succ_mul]
    have := q.n
    omega
theorem sh_list {k n m : Nat} {ds : List D} (h : ∀ d ∈ ds, Sh d k n) (hl : ds.length ≤ m) : Sh (.list ds) (k + 1) (m * (n + 2) + 3) := by
  obtain ⟨a, b, c⟩ := sh_all h
  have := Nat.mul_le_mul_right (n + 2) hl
  exact ⟨by rw [mayShow]; exact a, by rw [PyData.depth]; omega, by rw [shownMost]; omega⟩
theorem sh_tuple {k n m : Nat} {ds : List D} (h : ∀ d ∈ ds, Sh d k n) (hl : ds.length ≤ m) : Sh (.tuple ds) (k + 1) (m * (n + 2) + 3) := by
  obtain ⟨a, b, c⟩ := sh_all h
  have := Nat.mul_le_mul_right (n + 2) hl
  exact ⟨by rw [mayShow]; exact a, by rw [PyData.depth]; omega, by rw [shownMost]; omega⟩
theorem sh_row {xs : List Int} (h : ∀ i ∈ xs, -1000000000000 < i ∧ i < 1000000000000) {m : Nat} (hl : xs.length ≤ m) : Sh (rowD xs) 1 (m * 2002 + 3) :=
  sh_tuple (k := 0) (n := 2000) (fun d m => by obtain ⟨i, mi, rfl⟩ := List.mem_map.mp m; exact sh_int (h i mi)) (by rw [List.length_map]; exact hl)
theorem Sh.repr {d : D} {k n : Nat} (h : Sh d k n) (hk : k ≤ 60) (hn : n ≤ sizeLine) : reprD d = some (.str d.shown) := by
  unfold reprD
  rw [h.m, decide_eq_true (Nat.le_trans h.k hk), decide_eq_true (Nat.le_trans h.n hn)]; rfl
theorem ne_strS (s : Str) : neD (.str s) (.str s) = some false := neq_str s
theorem eq_strS (s : Str) : eqD (.str s) (.str s) = some true := by
  unfold eqD
  have h1 : shape (.str s) = true := by simp [shape, PyData.plain, PyData.depth]
  simp [h1, PyData.eqv]
theorem ne_boolB (a b : Bool) : neD (.bool a) (.bool b) = some (a != b) := by cases a <;> cases b <;> rfl
theorem eq_boolB (a b : Bool) : eqD (.bool a) (.bool b) = some (a == b) := by cases a <;> cases b <;> rfl
end Z

namespace Z
open PySem PySem.Spec PyProof.Rows L2
/-! ### texts as rows of signs -/
def tx (l : List Nat) : D := .str ⟨l.toArray⟩
theorem str_len (l : List Nat) : (⟨l.toArray⟩ : Str).length = l.length := by
  show (l.toArray).size = _; simp
theorem len_tx {l : List Nat} (h : l.length ≤ 1000000) : lenD (tx l) = some (.int (l.length : Int)) := by
  show (if (⟨l.toArray⟩ : Str).length ≤ sizeLine then some (PyData.int ((⟨l.toArray⟩ : Str).length : Int)) else none) = _
  rw [str_len, if_pos (by rw [sizeLine_eq]; omega)]
theorem seq_tx (l : List Nat) : seqOf (tx l) = some (l.map fun c => tx [c]) := by
  show some (signs ⟨l.toArray⟩) = _
  unfold signs
  rfl
def asciiL (l : List Nat) : Bool := l.all (· < 128)
theorem ascii_tx (l : List Nat) : asciiS ⟨l.toArray⟩ = asciiL l := by
  unfold asciiS asciiL
  simp
theorem zip_tx {a b : List Nat} (ha : asciiL a = true) (hb : asciiL b = true) : zipSD (tx a) (tx b) = some ((a.zip b).map fun p => PyData.tuple [tx [p.1], tx [p.2]]) := by
  show (if asciiS ⟨a.toArray⟩ && asciiS ⟨b.toArray⟩ then some (zipL (signs ⟨a.toArray⟩) (signs ⟨b.toArray⟩)) else none) = _
  rw [ascii_tx, ascii_tx, ha, hb]
  have h1 : ∀ l : List Nat, signs ⟨l.toArray⟩ = l.map fun c => tx [c] := fun l => Option.some.inj (seq_tx l)
  rw [h1, h1, zipL_map]; rfl
theorem tx_inj {a b : List Nat} : tx a = tx b ↔ a = b := by
  constructor
  · intro h
    unfold tx at h
    injection h with h
    injection h with h
    simpa using congrArg Array.toList h
  · intro h; rw [h]
theorem shape_tx (l : List Nat) : shape (tx l) = true := by simp [tx, shape, PyData.plain, PyData.depth]
theorem eqv_tx (a b : List Nat) : PyData.eqv (tx a) (tx b) = decide (a = b) := by
  unfold tx
  rw [PyData.eqv, Bool.eq_iff_iff]
  simp
theorem eq_tx {a b : List Nat} : eqD (tx a) (tx b) = some (decide (a = b)) := by
  have : eqD (tx a) (tx b) = if shape (tx a) && shape (tx b) then some (PyData.eqv (tx a) (tx b)) else none := rfl
  rw [this, shape_tx, shape_tx, eqv_tx]; rfl
theorem ne_tx {a b : List Nat} : neD (tx a) (tx b) = some (!decide (a = b)) := by
  have : neD (tx a) (tx b) = if shape (tx a) && shape (tx b) then some (!PyData.eqv (tx a) (tx b)) else none := rfl
  rw [this, shape_tx, shape_tx, eqv_tx]; rfl
theorem add_tx {a b : List Nat} (h : a.length + b.length ≤ 1000000) : addD (tx a) (tx b) = some (tx (a ++ b)) := by
  show (if (⟨a.toArray⟩ : Str).length + (⟨b.toArray⟩ : Str).length ≤ sizeLine then some (PyData.str ((⟨a.toArray⟩ : Str) ++ (⟨b.toArray⟩ : Str))) else none) = _
  rw [str_len, str_len, if_pos (by rw [sizeLine_eq]; omega)]
  have : ((⟨a.toArray⟩ : Str) ++ (⟨b.toArray⟩ : Str)) = ⟨(a ++ b).toArray⟩ := by
    show (⟨a.toArray ++ b.toArray⟩ : Str) = _
    rw [List.append_toArray]
  rw [this]; rfl
theorem ix_tx {l : List Nat} {i : Int} (hl : l.length ≤ 1000000) (h : 0 ≤ i ∧ i.toNat < l.length) : ixD (tx l) (.int i) = some (tx [l[i.toNat]]) := by
  show (if (⟨l.toArray⟩ : Str).length ≤ sizeLine then (L2.atI (l.toArray).toList i).map fun c => PyData.str ⟨#[c]⟩ else none) = _
  rw [str_len, if_pos (by rw [sizeLine_eq]; omega)]
  have e : L2.atI l i = some l[i.toNat] := by
    unfold L2.atI L2.ixN
    rw [if_pos (by omega), if_pos (by omega)]
    show l[i.toNat]? = _
    exact List.getElem?_eq_getElem h.2
  show (L2.atI l i).map _ = _
  rw [e]; rfl
theorem ix_txL {l : List Nat} (hl : l.length ≤ 1000000) (h : 0 < l.length) : ixD (tx l) (.int (-1)) = some (tx [l[l.length - 1]]) := by
  show (if (⟨l.toArray⟩ : Str).length ≤ sizeLine then (L2.atI (l.toArray).toList (-1)).map fun c => PyData.str ⟨#[c]⟩ else none) = _
  rw [str_len, if_pos (by rw [sizeLine_eq]; omega)]
  have e : L2.atI l (-1) = some l[l.length - 1] := by
    unfold L2.atI L2.ixN
    rw [if_neg (by omega), if_pos (by omega)]
    show l[(-1 + (l.length : Int)).toNat]? = _
    rw [show (-1 + (l.length : Int)).toNat = l.length - 1 by omega]
    exact List.getElem?_eq_getElem (by omega)
  show (L2.atI l (-1)).map _ = _
  rw [e]; rfl
theorem cutS_tx (l : List Nat) (lo hi : Option Int) : cutS ⟨l.toArray⟩ lo hi = ⟨(cutG l lo hi).toArray⟩ := by
  unfold cutS cutG
  rw [str_len]
theorem cut_tx {l : List Nat} (hl : l.length ≤ 1000000) (lo hi : Option Int) : cutD lo hi (tx l) = some (tx (cutG l lo hi)) := by
  show (if (⟨l.toArray⟩ : Str).length ≤ sizeLine then some (PyData.str (cutS ⟨l.toArray⟩ lo hi)) else none) = _
  rw [str_len, if_pos (by rw [sizeLine_eq]; omega), cutS_tx]; rfl
theorem cut_tx_from {l : List Nat} {i : Int} (hl : l.length ≤ 1000000) (h : 0 ≤ i) : cutD (some i) none (tx l) = some (tx (l.drop i.toNat)) := by
  rw [cut_tx hl, cutG_from h]
theorem cut_tx_to {l : List Nat} {i : Int} (hl : l.length ≤ 1000000) (h : 0 ≤ i) : cutD none (some i) (tx l) = some (tx (l.take i.toNat)) := by
  rw [cut_tx hl, cutG_to h]
theorem cutG_init {α : Type} (l : List α) : cutG l none (some (-1)) = l.dropLast := by
  unfold cutG
  have h1 : HT.sIx l.length 0 none = 0 := rfl
  have h2 : HT.sIx l.length l.length (some (-1)) = l.length - 1 := by
    show (if (-1 : Int) < 0 then ((-1 : Int) + (l.length : Int)).toNat else min (-1 : Int).toNat l.length) = _
    rw [if_pos (by decide)]; omega
  rw [h1, h2, List.drop_zero, Nat.sub_zero, List.dropLast_eq_take]
theorem cut_tx_init {l : List Nat} (hl : l.length ≤ 1000000) : cutD none (some (-1)) (tx l) = some (tx l.dropLast) := by
  rw [cut_tx hl, cutG_init]
theorem isi_tx {l : List Nat} : isiD .str (tx l) = true := rfl
theorem sh_tx {l : List Nat} (h : ∀ c ∈ l, c < 128) (hl : l.length ≤ 100) : Sh (tx l) 0 2000 := sh_str (by
  show (l.toArray).toList.all (fun c => decide (c < 4294967296)) = true
  rw [List.all_eq_true]
  intro c m
  exact decide_eq_true (by have := h c (by simpa using m); omega)) (by rw [str_len]; exact hl)
/-! loops that may return -/
def foldE {α σ : Type} (step : σ → α → D ⊕ σ) : σ → List α → D ⊕ σ
  | s, [] => .inr s
  | s, x :: xs => match step s x with
    | .inl v => .inl v
    | .inr s' => foldE step s' xs
theorem for_E {α σ : Type} {enc : α → D} {sv : Sv} {body : Sm} (mk : σ → VEnv) (step : σ → α → D ⊕ σ) (Inv : σ → Prop) : ∀ {xs : List α} {s0 : σ}, Inv s0 →
    (∀ s x, x ∈ xs → Inv s → ∃ e1, sv (enc x) (mk s) = some e1 ∧ match step s x with
      | .inl v => ∃ e', body e1 = .ok (.rt v e')
      | .inr s' => body e1 = .ok (.nx (mk s')) ∧ Inv s') →
    match foldE step s0 xs with
      | .inl v => ∃ e', forGo [] sv body (xs.map enc) (mk s0) = .ok (.rt v e')
      | .inr s => forGo [] sv body (xs.map enc) (mk s0) = .ok (.nx (mk s)) ∧ Inv s
  | [], s0, h0, _ => ⟨rfl, h0⟩
  | x :: xs, s0, h0, h => by
    obtain ⟨e1, a1, a2⟩ := h s0 x List.mem_cons_self h0
    have go : forGo [] sv body ((x :: xs).map enc) (mk s0) = (ofO (sv (enc x) (mk s0)) >>= fun e1 => body e1 >>= fun w => match w with
      | .nx e2 => forGo [] sv body (xs.map enc) (wipeE e2 [])
      | .ct e2 => forGo [] sv body (xs.map enc) (wipeE e2 [])
      | .bk e2 => .ok (.nx (wipeE e2 []))
      | .rt d e2 => .ok (.rt d e2)) := rfl
    rw [go, a1]
    simp only [ofO, Res.bind_ok, foldE]
    cases q : step s0 x with
    | inl v =>
      rw [q] at a2
      obtain ⟨e', a2⟩ := a2
      simp only [a2, Res.bind_ok]
      exact ⟨e', rfl⟩
    | inr s' =>
      rw [q] at a2
      have ih := for_E (enc := enc) (sv := sv) (body := body) mk step Inv (xs := xs) a2.2 fun s x m => h s x (List.mem_cons_of_mem _ m)
      simp only [a2.1, Res.bind_ok]
      exact ih
theorem y_forE {α σ : Type} {enc : α → D} {src : Sr} {sv : Sv} {body : Sm} {xs : List α} {s0 : σ} {e : VEnv} (mk : σ → VEnv) (step : σ → α → D ⊕ σ) (Inv : σ → Prop) (hs : src e = .ok (xs.map enc, mk s0)) (h0 : Inv s0)
    (h : ∀ s x, x ∈ xs → Inv s → ∃ e1, sv (enc x) (mk s) = some e1 ∧ match step s x with
      | .inl v => ∃ e', body e1 = .ok (.rt v e')
      | .inr s' => body e1 = .ok (.nx (mk s')) ∧ Inv s') :
    match foldE step s0 xs with
      | .inl v => ∃ e', sFor src [] sv body e = .ok (.rt v e')
      | .inr s => sFor src [] sv body e = .ok (.nx (mk s)) ∧ Inv s := by
  have := for_E (enc := enc) (sv := sv) (body := body) mk step Inv h0 h
  have e1 : sFor src [] sv body e = forGo [] sv body (xs.map enc) (mk s0) := by unfold sFor; rw [hs]; rfl
  rw [e1]
  exact this
theorem y_seq_forR {src : Sr} {fg : List Nat} {sv : Sv} {body g : Sm} {e e1 : VEnv} {d : D} (h : sFor src fg sv body e = .ok (.rt d e1)) : sSeq (sFor src fg sv body) g e = .ok (.rt d e1) := ev_seqR h
section
variable {e e1 e2 : VEnv} {d : D} {r : Res Fw}
theorem q_zipS {f g : Ev} {a b : D} {ds : List D} (h1 : f e = .ok (a, e1)) (h2 : g e1 = .ok (b, e2)) (hz : zipSD a b = some ds) : srZipS f g e = .ok (ds, e2) := by
  unfold srZipS; rw [h1]; simp only [Res.bind_ok]; rw [h2]; simp only [Res.bind_ok]; rw [hz]; rfl
theorem y_aug {i : Nat} {op : Int → Int → Int} {f : Ev} {a b : Int} (h0 : e.getD i .no = .val (.int a)) (h : f e = .ok (.int b, e1)) (hi : Nat.ble (i + 1) e1.length = true) : sAug i op f e = .ok (.nx (e1.set i (.val (.int (op a b))))) := by
  unfold sAug
  rw [h0]
  simp only [h, Res.bind_ok]
  unfold svName
  rw [if_pos (show i < e1.length from Nat.le_of_ble_eq_true hi)]; rfl
theorem y_seq_aug {i : Nat} {op : Int → Int → Int} {f : Ev} {g : Sm} {a b : Int} (h0 : e.getD i .no = .val (.int a)) (h : f e = .ok (.int b, e1)) (hi : Nat.ble (i + 1) e1.length = true) (h2 : g (e1.set i (.val (.int (op a b)))) = r) : sSeq (sAug i op f) g e = r := (ev_seq (y_aug h0 h hi)).trans h2
theorem y_augE {i : Nat} {op : Int → Int → Int} {f : Ev} {a b : Int} (h0 : e.getD i .no = .val (.int a)) (h : f e = .ok (.int b, e1)) (hi : Nat.ble (i + 1) e1.length = true) (he : e1.set i (.val (.int (op a b))) = e2) : sAug i op f e = .ok (.nx e2) := by rw [← he]; exact y_aug h0 h hi
theorem insert_own {xs : List D} {i : Int} (h : xs.length ≤ 1000000 ∧ 0 ≤ i ∧ i ≤ 1000000) : insertD xs [.int i, d] = some (.none, xs.take i.toNat ++ [d] ++ xs.drop i.toNat) := by
  exact if_pos (⟨by rw [sizeLine_eq]; omega, h.2.1, by omega⟩ : xs.length < sizeLine ∧ 0 ≤ i ∧ i < 2 ^ 63)
theorem extend_own {xs ys : List D} (h : xs.length + ys.length ≤ 1000000) : extendD xs [.list ys] = some (.none, xs ++ ys) := by
  exact if_pos (by rw [sizeLine_eq]; omega)
end
/-! comprehensions with two fors, over mapped rows -/
theorem comp2_mapM {α β : Type} {enc : α → D} {enc1 : β → D} {own own1 : List Nat} {sv sv1 : Sv} {src1 : Sr} {el : Ev} {ys : α → List β} {g : α → β → D} : ∀ {xs : List α} {e : VEnv}, (∀ x ∈ xs, ∃ e1 e2, sv (enc x) e = some e1 ∧ src1 e1 = .ok ((ys x).map enc1, e2) ∧ wipeE (wipeE e2 own1) own = e ∧ ∀ y ∈ ys x, ∃ e3 e4, sv1 (enc1 y) (wipeE e2 own1) = some e3 ∧ el e3 = .ok (g x y, e4) ∧ wipeE e4 own1 = wipeE e2 own1) →
    comp2Go own own1 sv teYes src1 sv1 teYes el (xs.map enc) e = .ok (xs.flatMap fun x => (ys x).map (g x), e)
  | [], e, _ => rfl
  | x :: xs, e, h => by
    obtain ⟨e1, e2, h1, h2, h3, h4⟩ := h x List.mem_cons_self
    have ih := comp2_mapM (own := own) (own1 := own1) (sv := sv) (sv1 := sv1) (src1 := src1) (el := el) (ys := ys) (g := g) (xs := xs) (e := e) fun d m => h d (List.mem_cons_of_mem _ m)
    have go : comp2Go own own1 sv teYes src1 sv1 teYes el ((x :: xs).map enc) e = (ofO (sv (enc x) e) >>= fun e1 => nx (teYes e1) >>= fun b => if b.1 = true then nx (src1 b.2) >>= fun p => compGo own1 sv1 teYes el p.1 (wipeE p.2 own1) >>= fun y => comp2Go own own1 sv teYes src1 sv1 teYes el (xs.map enc) (wipeE y.2 own) >>= fun z => .ok (y.1 ++ z.1, z.2) else comp2Go own own1 sv teYes src1 sv1 teYes el (xs.map enc) (wipeE b.2 own)) := rfl
    rw [go, h1]
    show (nx (src1 e1) >>= fun p => compGo own1 sv1 teYes el p.1 (wipeE p.2 own1) >>= fun y => comp2Go own own1 sv teYes src1 sv1 teYes el (xs.map enc) (wipeE y.2 own) >>= fun z => .ok (y.1 ++ z.1, z.2)) = _
    rw [h2]
    show (compGo own1 sv1 teYes el ((ys x).map enc1) (wipeE e2 own1) >>= fun y => comp2Go own own1 sv teYes src1 sv1 teYes el (xs.map enc) (wipeE y.2 own) >>= fun z => .ok (y.1 ++ z.1, z.2)) = _
    rw [comp_mapM h4]
    show (comp2Go own own1 sv teYes src1 sv1 teYes el (xs.map enc) (wipeE (wipeE e2 own1) own) >>= fun z => .ok ((ys x).map (g x) ++ z.1, z.2)) = _
    rw [h3, ih]; rfl
theorem q_comp2 {α β : Type} {enc : α → D} {enc1 : β → D} {src : Sr} {own own1 : List Nat} {sv sv1 : Sv} {src1 : Sr} {el : Ev} {xs : List α} {ys : α → List β} {g : α → β → D} {e e1 : VEnv} {A B : α → VEnv} {C E : α → β → VEnv} (h1 : src e = .ok (xs.map enc, e1)) (hw : wipeE (wipeE e1 own) own = wipeE e1 own)
    (h2 : ∀ x ∈ xs, sv (enc x) (wipeE e1 own) = some (A x)) (h3 : ∀ x ∈ xs, src1 (A x) = .ok ((ys x).map enc1, B x)) (h4 : ∀ x ∈ xs, wipeE (wipeE (B x) own1) own = wipeE e1 own)
    (h5 : ∀ x ∈ xs, ∀ y ∈ ys x, sv1 (enc1 y) (wipeE (B x) own1) = some (C x y)) (h6 : ∀ x ∈ xs, ∀ y ∈ ys x, el (C x y) = .ok (g x y, E x y)) (h7 : ∀ x ∈ xs, ∀ y ∈ ys x, wipeE (E x y) own1 = wipeE (B x) own1) (hz : (xs.flatMap fun x => (ys x).map (g x)).length ≤ sizeLine) :
    fComp2L src own own1 sv teYes src1 sv1 teYes el e = .ok (xs.flatMap fun x => (ys x).map (g x), wipeE e1 own) := by
  unfold fComp2L
  rw [h1]
  show (comp2Go own own1 sv teYes src1 sv1 teYes el (xs.map enc) (wipeE e1 own) >>= fun z => if z.1.length ≤ sizeLine then (Res.ok (z.1, wipeE z.2 own) : Res (List D × VEnv)) else .stuck) = _
  rw [comp2_mapM fun x m => ⟨_, _, h2 x m, h3 x m, h4 x m, fun y my => ⟨_, _, h5 x m y my, h6 x m y my, h7 x m y my⟩⟩]
  show (if (xs.flatMap fun x => (ys x).map (g x)).length ≤ sizeLine then (Res.ok (_, wipeE (wipeE e1 own) own) : Res (List D × VEnv)) else .stuck) = _
  rw [if_pos hz, hw]
end Z

namespace Z
open PySem PySem.Spec PyProof.Rows L2
/-! ### turn words: plain definitions -/
abbrev W := List Nat
def okW (l : W) : Prop := ∀ c ∈ l, c = 76 ∨ c = 67 ∨ c = 82
def rk (c : Nat) : Int := if c = 76 then 0 else if c = 67 then 1 else 2
def lessZ : Bool → List (Nat × Nat) → Bool
  | _, [] => false
  | ev, (a, b) :: r => if a = b then lessZ (if a = 82 then !ev else ev) r else (decide (rk a < rk b) == ev)
def lessW (a b : W) : Bool := lessZ true (a.zip b)
def stepW (ev : Bool) (p : Nat × Nat) : D ⊕ Bool := if p.1 = p.2 then .inr (if p.1 = 82 then !ev else ev) else .inl (.bool (decide (rk p.1 < rk p.2) == ev))
theorem fold_less : ∀ (xs : List (Nat × Nat)) (ev : Bool), match foldE stepW ev xs with
    | .inl v => v = .bool (lessZ ev xs)
    | .inr _ => lessZ ev xs = false
  | [], ev => rfl
  | (a, b) :: xs, ev => by
    unfold foldE stepW
    by_cases h : a = b
    · simp only [h, if_true, lessZ]
      exact fold_less xs _
    · simp only [h, if_false, lessZ]
def liftE {α σ τ : Type} (step : σ → α → D ⊕ σ) (f : α → τ) (s : σ × τ) (p : α) : D ⊕ (σ × τ) := match step s.1 p with
  | .inl v => .inl v
  | .inr a => .inr (a, f p)
def onL {α σ τ : Type} (r : D ⊕ (σ × τ)) : D ⊕ σ := match r with
  | .inl v => .inl v
  | .inr a => .inr a.1
theorem foldE_lift {α σ τ : Type} (step : σ → α → D ⊕ σ) (f : α → τ) : ∀ (xs : List α) (s : σ) (t : τ), foldE step s xs = onL (α := α) (foldE (liftE step f) (s, t) xs)
  | [], s, t => rfl
  | x :: xs, s, t => by
    unfold foldE
    have e : liftE step f (s, t) x = match step s x with
      | .inl v => .inl v
      | .inr a => .inr (a, f x) := rfl
    rw [e]
    cases q : step s x with
    | inl v => rfl
    | inr a => exact foldE_lift step f xs a (f x)
theorem dL : (PyData.str (Str.ofString "L")) = tx [76] := congrArg PyData.str (by decide +kernel)
theorem dC : (PyData.str (Str.ofString "C")) = tx [67] := congrArg PyData.str (by decide +kernel)
theorem dR : (PyData.str (Str.ofString "R")) = tx [82] := congrArg PyData.str (by decide +kernel)
theorem dE : (PyData.str (Str.ofString "")) = tx [] := congrArg PyData.str (by decide +kernel)
theorem dLCR : (PyData.str (Str.ofString "LCR")) = tx [76, 67, 82] := congrArg PyData.str (by decide +kernel)
theorem ok_ascii {l : W} (h : okW l) : asciiL l = true := by
  unfold asciiL
  rw [List.all_eq_true]
  intro c m
  rcases h c m with rfl | rfl | rfl <;> rfl
theorem idx_sign {c : Nat} (h : c = 76 ∨ c = 67 ∨ c = 82) : sindexD (tx [76, 67, 82]) [tx [c]] = some (.int (rk c)) := by
  have o : ∀ c, (c = 76 ∨ c = 67 ∨ c = 82) → ∃ t, Builtin.Str.occurrences ⟨#[76, 67, 82]⟩ ⟨#[c]⟩ 0 3 1 = (rk c).toNat :: t := fun c h => by
    rcases h with rfl | rfl | rfl <;> exact ⟨[], by decide +kernel⟩
  obtain ⟨t, o⟩ := o c h
  have e : sindexD (tx [76, 67, 82]) [tx [c]] = (match Builtin.Str.occurrences ⟨#[76, 67, 82]⟩ ⟨#[c]⟩ 0 3 1 with
    | i :: _ => some (.int (i : Nat))
    | [] => none) := rfl
  rw [e, o]
  have : ((rk c).toNat : Int) = rk c := by rcases h with rfl | rfl | rfl <;> rfl
  show some (PyData.int ((rk c).toNat : Int)) = _
  rw [this]
theorem idx_sign' {c : Nat} (h : c = 76 ∨ c = 67 ∨ c = 82) : sindexD (tx ([76] ++ [67] ++ [82])) [tx [c]] = some (.int (rk c)) := idx_sign h
theorem in_sign {c : Nat} (h : c = 76 ∨ c = 82) : inD (tx [c]) (tx [76, 82]) = some true := by
  rcases h with rfl | rfl <;> decide +kernel
end Z

namespace K75
open PySem PySem.Spec PyProof.Rows L2 Z
local macro_rules | `(tactic| wtm_at "zsz") => `(tactic| first | assumption | omega | (simp only [List.length_append, List.length_drop, List.length_take, List.length_map, List.length_range, List.length_cons, List.length_nil]; omega))
local macro_rules | `(tactic| wtm_at "zop") => `(tactic| with_reducible first
  | exact add_int | exact sub_int | exact lt_int | exact le_int | exact gt_int | exact ge_int | exact eq_int | exact ne_int | exact neg_int | exact int_int | exact int_bool | exact abs_int
  | apply op_bD
  | exact len_rowD | exact len_tup | exact len_list
  | exact tup_ints | exact tup_list | exact tup_tup | exact lst_tup | exact all_map | exact any_map | exact sum_map | exact sum_rowZ
  | exact seq_row _ | exact seq_tx _ | exact eq_tx | exact ne_tx | exact ne_boolB _ _ | exact eq_boolB _ _ | exact zip_tt | exact zip_ll | exact enum_l | exact seq_list | exact seq_tup | exact eq_rowZ | exact ne_rowZ | exact lt_rowZ | exact le_rowZ | exact gt_rowZ | exact ge_rowZ)
local macro_rules | `(tactic| wtm_at "zpt") => `(tactic| first
  | ((with_reducible apply isi_t); exact rfl) | ((with_reducible apply isi_f); exact rfl)
  | ((with_reducible apply mul_smallL); exact (show small _ = true from by decide)) | ((with_reducible apply mul_smallR); exact (show small _ = true from by decide))
  | ((with_reducible apply mul_smallR); apply small_ofI; omega) | ((with_reducible apply mul_smallL); apply small_ofI; omega)
  | ((with_reducible apply mod_posZ); omega) | ((with_reducible apply div_posZ); omega)
  | ((with_reducible apply cut_row_from); omega) | ((with_reducible apply cut_row_to); omega) | ((with_reducible apply cut_list_from); omega) | ((with_reducible apply cut_list_to); omega) | ((with_reducible apply cut_tup_from); omega) | ((with_reducible apply cut_tup_to); omega)
  | ((with_reducible apply len_tx); wtm_at "zsz") | ((with_reducible apply zip_tx) <;> assumption) | ((with_reducible apply add_tx); wtm_at "zsz") | ((with_reducible apply cut_tx_from) <;> wtm_at "zsz") | ((with_reducible apply cut_tx_to) <;> wtm_at "zsz") | ((with_reducible apply cut_tx_init); wtm_at "zsz") | ((with_reducible apply insert_own); wtm_at "zsz") | ((with_reducible apply extend_own); wtm_at "zsz")
  | ((with_reducible apply add_rowZ); wtm_at "zsz")
  | ((with_reducible apply ix_row); omega) | ((with_reducible apply ix_list); omega) | ((with_reducible apply ix_tup); omega))
local macro_rules | `(tactic| wtm_at "zlf") => `(tactic| first
  | ((with_reducible apply rdv); exact rfl) | ((with_reducible apply l_get); exact rfl) | ((with_reducible apply l_svN); exact rfl) | ((with_reducible apply l_svT); exact rfl) | ((with_reducible apply l_wipe); exact rfl) | ((with_reducible apply l_ble); exact rfl) | ((with_reducible apply l_ty); exact rfl) | ((with_reducible apply l_env); exact rfl) | ((with_reducible apply l_vo); exact rfl) | ((with_reducible apply l_sc); exact rfl) | ((with_reducible apply l_frz); exact rfl) | ((with_reducible apply l_setW); exact rfl) | ((with_reducible apply l_own); exact rfl) | ((with_reducible apply l_cast); first | exact rfl | (apply cast_nn; omega))
  | ((with_reducible apply append_own); wtm_at "zsz") | ((with_reducible apply y_sz); wtm_at "zsz"))
local macro_rules | `(tactic| wtm_at "zst") => `(tactic| with_reducible first
  | exact q_c | apply q_var | apply q_oVg | apply q_frzG | apply ev_oE | exact ev_nil | apply ev_cons | apply ev_bin | apply ev_un | apply ev_tbin | apply ev_call | apply ev_callI | apply y_tup | apply y_lst | apply y_flst | apply ev_fr
  | apply q_chain | apply q_and | apply q_or | apply q_xand | apply q_xor | apply ev_not | apply ev_xnot | apply ev_test | apply ev_tv | apply q_slFrom | apply q_slTo | apply q_meth | apply q_comp | apply q_compF | apply q_sortC
  | apply q_range1 | apply q_range2 | apply ev_seqS | apply q_zip | apply q_zipS | apply y_aug | apply y_seq_aug | apply y_augE | apply q_comp2 | apply q_enum | apply y_nxE | apply y_ownE | apply y_parE | apply ev_ret | apply y_dropE2 | apply y_asgE | apply y_seq_ret | exact y_seq_raise | exact y_raise | apply y_seq_nx | apply y_seq_asg | apply y_seq_asgG | apply y_seq_own | apply y_seq_par | apply y_seq_drop | apply y_seq_parW | apply y_seq_for | apply y_seq_while | apply q_ownM | apply q_keep
  | exact q_awNil | apply q_awV | apply q_awF | apply y_seq_if | apply y_if)
local macro_rules | `(tactic| wtm_at "zx") => `(tactic| first
  | wtm_at "zlf"
  | wtm_at "zst"
  | ((with_reducible apply q_rangeN); rotate_left; omega) | ((with_reducible apply q_rangeI); rotate_left; omega) | ((with_reducible apply q_range2); rotate_left; rotate_left; omega)
  | wtm_at "zop" | wtm_at "zpt"
  | exact (fun z => (ff z rfl).elim)
  | (intro z; exfalso; simp at z <;> omega)
  | omega
  | intro _)
local macro_rules | `(tactic| tbr_iter [$ts,*]) => `(tactic| repeat' (first | ((with_reducible first | apply l_for | apply l_while); first $[| exact $ts]*) $[| with_reducible exact $ts]* | wtm_at "zx"))
theorem is_integer_int (i : Int) : F_is_integer [.int i] = .ok (.bool true) := rfl
theorem is_within_int (i a b : Int) : F_is_within [.int i, .int a, .int b] = .ok (.bool (decide (a ≤ i) && decide (i ≤ b))) := by
  apply fn_ok2
  unfold B_is_within
  tbr_iter [is_integer_int i]
  rfl
theorem rank_of {c : Nat} (h : c = 76 ∨ c = 67 ∨ c = 82) : F_rank_of [tx [c]] = .ok (.int (rk c)) := by
  apply fn_ok2
  unfold B_rank_of
  simp only [dL, dC, dR]
  tbr_iter [idx_sign' h]
  rfl
theorem zip_ok {a b : W} (ha : okW a) (hb : okW b) {p : Nat × Nat} (m : p ∈ a.zip b) : (p.1 = 76 ∨ p.1 = 67 ∨ p.1 = 82) ∧ (p.2 = 76 ∨ p.2 = 67 ∨ p.2 = 82) := by
  have := List.of_mem_zip (a := p.1) (b := p.2) m
  exact ⟨ha _ this.1, hb _ this.2⟩
theorem is_raw_less {a b : W} (ha : okW a) (hb : okW b) : F_is_raw_less [tx a, tx b] = .ok (.bool (lessW a b)) := by
  have za := ok_ascii ha
  have zb := ok_ascii hb
  have l := y_forE (enc := fun p : Nat × Nat => PyData.tuple [tx [p.1], tx [p.2]]) (xs := a.zip b) (src := srZipS (xVar 0) (xVar 1)) (sv := svTup [svName 3, svName 4]) (e := [.val (tx a), .val (tx b), .val (.bool true), .no, .no]) (s0 := (true, .no, .no))
    (body := sSeq (sIf (tBin neD (oV 3) (oV 4)) (sRet (xBin (bD eqD) (oE (xBin (bD ltD) (oE (xCall F_rank_of (arCons (xVar 3) arNil))) (oE (xCall F_rank_of (arCons (xVar 4) arNil))))) (oV 2))) sNext) (sIf (tBin eqD (oV 3) (oE (xC (.str "R")))) (sAsg (xNot (xVar 2)) (svName 2)) sNext))
    (mk := fun s : Bool × Sl × Sl => [.val (tx a), .val (tx b), .val (.bool s.1), s.2.1, s.2.2])
    (liftE stepW fun p : Nat × Nat => ((Sl.val (tx [p.1]), Sl.val (tx [p.2])) : Sl × Sl)) (fun _ => True)
    (by tbr_iter []) trivial
    (fun s p m _ => by
      obtain ⟨ev, x, y⟩ := s
      obtain ⟨h1, h2⟩ := zip_ok ha hb m
      refine ⟨[.val (tx a), .val (tx b), .val (.bool ev), .val (tx [p.1]), .val (tx [p.2])], rfl, ?_⟩
      simp only [dR]
      unfold liftE stepW
      by_cases q : p.1 = p.2
      · rw [if_pos q]
        refine ⟨?_, trivial⟩
        have n1 : (!decide ([p.1] = [p.2])) = false := by rw [q]; simp
        by_cases q2 : p.1 = 82
        · have n2 : decide ([p.1] = [82]) = true := by rw [q2]; simp
          rw [if_pos q2]
          tbr_iter [(fun z => (ff z n1).elim), (fun z => (ff n2 z).elim)]
        · have n2 : decide ([p.1] = [82]) = false := by simp [q2]
          rw [if_neg q2]
          tbr_iter [(fun z => (ff z n1).elim), (fun z => (ff z n2).elim)]
      · rw [if_neg q]
        have n1 : (!decide ([p.1] = [p.2])) = true := by simp [q]
        refine ⟨[.val (tx a), .val (tx b), .val (.bool ev), .val (tx [p.1]), .val (tx [p.2])], ?_⟩
        tbr_iter [rank_of h1, rank_of h2, (fun z => (ff n1 z).elim)])
  have fl := foldE_lift stepW (fun p : Nat × Nat => ((Sl.val (tx [p.1]), Sl.val (tx [p.2])) : Sl × Sl)) (a.zip b) true (.no, .no)
  have fz := fold_less (a.zip b) true
  cases q : foldE (liftE stepW fun p : Nat × Nat => ((Sl.val (tx [p.1]), Sl.val (tx [p.2])) : Sl × Sl)) (true, .no, .no) (a.zip b) with
  | inl v =>
    rw [q] at l
    rw [q] at fl
    have fl : foldE stepW true (a.zip b) = .inl v := fl
    rw [fl] at fz
    have fz : v = .bool (lessW a b) := fz
    subst fz
    obtain ⟨e', l⟩ := l
    exact fn_ok (n := 5) (B := B_is_raw_less) ((y_seq_asg rfl rfl (y_seq_forR l)).trans rfl)
  | inr s' =>
    rw [q] at l
    rw [q] at fl
    have fl : foldE stepW true (a.zip b) = .inr s'.1 := fl
    rw [fl] at fz
    have fz : lessW a b = false := fz
    rw [fz]
    exact fn_ok (n := 5) (B := B_is_raw_less) (y_seq_asg rfl rfl (y_seq_for l.1 (ev_ret rfl)))
theorem law_is_less {a b : W} (ha : okW a) (hb : okW b) : F__law_is_less [tx a, tx b] = .ok (.bool (lessW a b)) := by
  have za := ok_ascii ha
  have zb := ok_ascii hb
  have l := y_forE (enc := fun p : Nat × Nat => PyData.tuple [tx [p.1], tx [p.2]]) (xs := a.zip b) (src := srZipS (xVar 0) (xVar 1)) (sv := svTup [svName 3, svName 4]) (e := [.val (tx a), .val (tx b), .val (.bool false), .no, .no]) (s0 := (true, .no, .no)) (body := Y__law_is_less_1) (mk := fun s : Bool × Sl × Sl => [.val (tx a), .val (tx b), .val (.bool (!s.1)), s.2.1, s.2.2])
      (liftE stepW fun p : Nat × Nat => ((Sl.val (tx [p.1]), Sl.val (tx [p.2])) : Sl × Sl)) (fun _ => True) (show srZipS (xVar 0) (xVar 1) _ = .ok (_, [.val (tx a), .val (tx b), .val (.bool false), .no, .no]) from by tbr_iter []) trivial
      (fun s p m _ => by
        obtain ⟨ev, x, y⟩ := s
        obtain ⟨h1, h2⟩ := zip_ok ha hb m
        refine ⟨[.val (tx a), .val (tx b), .val (.bool (!ev)), .val (tx [p.1]), .val (tx [p.2])], rfl, ?_⟩
        simp only [Y__law_is_less_1, dR, dLCR]
        unfold liftE stepW
        by_cases q : p.1 = p.2
        · rw [if_pos q]
          refine ⟨?_, trivial⟩
          have n1 : (!decide ([p.1] = [p.2])) = false := by rw [q]; simp
          have n2 : ((!ev) != decide ([p.1] = [82])) = !(if p.1 = 82 then !ev else ev) := by
            by_cases q2 : p.1 = 82
            · rw [q2]; cases ev <;> rfl
            · simp [q2]
          apply y_seq_ifF
          · tbr_iter []
          · exact n1
          · rw [y_seq_nx rfl]
            apply y_asgE
            · tbr_iter []
            · rfl
            · rw [n2]; rfl
        · rw [if_neg q]
          have n1 : (!decide ([p.1] = [p.2])) = true := by simp [q]
          have n2 : (decide (rk p.1 < rk p.2) != !ev) = (decide (rk p.1 < rk p.2) == ev) := by cases decide (rk p.1 < rk p.2) <;> cases ev <;> rfl
          rw [← n2]
          refine ⟨[.val (tx a), .val (tx b), .val (.bool (!ev)), .val (tx [p.1]), .val (tx [p.2])], ?_⟩
          tbr_iter [idx_sign h1, idx_sign h2, (fun z => (ff n1 z).elim)])
  have fl := foldE_lift stepW (fun p : Nat × Nat => ((Sl.val (tx [p.1]), Sl.val (tx [p.2])) : Sl × Sl)) (a.zip b) true (.no, .no)
  have fz := fold_less (a.zip b) true
  cases q : foldE (liftE stepW fun p : Nat × Nat => ((Sl.val (tx [p.1]), Sl.val (tx [p.2])) : Sl × Sl)) (true, .no, .no) (a.zip b) with
  | inl v =>
    rw [q] at l
    rw [q] at fl
    have fl : foldE stepW true (a.zip b) = .inl v := fl
    rw [fl] at fz
    have fz : v = .bool (lessW a b) := fz
    subst fz
    obtain ⟨e', l⟩ := l
    exact fn_ok (n := 5) (B := B__law_is_less) ((y_seq_asg rfl rfl (y_seq_forR l)).trans rfl)
  | inr s' =>
    rw [q] at l
    rw [q] at fl
    have fl : foldE stepW true (a.zip b) = .inr s'.1 := fl
    rw [fl] at fz
    have fz : lessW a b = false := fz
    rw [fz]
    exact fn_ok (n := 5) (B := B__law_is_less) (y_seq_asg rfl rfl (y_seq_for l.1 (ev_ret rfl)))
end K75

namespace K75
open PySem PySem.Spec PyProof.Rows L2 Z
local macro_rules | `(tactic| wtm_at "zsz") => `(tactic| first | assumption | omega | (simp only [List.length_append, List.length_drop, List.length_take, List.length_map, List.length_range, List.length_cons, List.length_nil]; omega))
local macro_rules | `(tactic| wtm_at "zop") => `(tactic| with_reducible first
  | exact add_int | exact sub_int | exact lt_int | exact le_int | exact gt_int | exact ge_int | exact eq_int | exact ne_int | exact neg_int | exact int_int | exact int_bool | exact abs_int
  | apply op_bD
  | exact len_rowD | exact len_tup | exact len_list
  | exact tup_ints | exact tup_list | exact tup_tup | exact lst_tup | exact all_map | exact any_map | exact sum_map | exact sum_rowZ
  | exact seq_row _ | exact seq_tx _ | exact eq_tx | exact ne_tx | exact ne_boolB _ _ | exact eq_boolB _ _ | exact zip_tt | exact zip_ll | exact enum_l | exact seq_list | exact seq_tup | exact eq_rowZ | exact ne_rowZ | exact lt_rowZ | exact le_rowZ | exact gt_rowZ | exact ge_rowZ)
local macro_rules | `(tactic| wtm_at "zpt") => `(tactic| first
  | ((with_reducible apply isi_t); exact rfl) | ((with_reducible apply isi_f); exact rfl)
  | ((with_reducible apply mul_smallL); exact (show small _ = true from by decide)) | ((with_reducible apply mul_smallR); exact (show small _ = true from by decide))
  | ((with_reducible apply mul_smallR); apply small_ofI; omega) | ((with_reducible apply mul_smallL); apply small_ofI; omega)
  | ((with_reducible apply mod_posZ); omega) | ((with_reducible apply div_posZ); omega)
  | ((with_reducible apply cut_row_from); omega) | ((with_reducible apply cut_row_to); omega) | ((with_reducible apply cut_list_from); omega) | ((with_reducible apply cut_list_to); omega) | ((with_reducible apply cut_tup_from); omega) | ((with_reducible apply cut_tup_to); omega)
  | ((with_reducible apply len_tx); wtm_at "zsz") | ((with_reducible apply zip_tx) <;> assumption) | ((with_reducible apply add_tx); wtm_at "zsz") | ((with_reducible apply cut_tx_from) <;> wtm_at "zsz") | ((with_reducible apply cut_tx_to) <;> wtm_at "zsz") | ((with_reducible apply cut_tx_init); wtm_at "zsz") | ((with_reducible apply insert_own); wtm_at "zsz") | ((with_reducible apply extend_own); wtm_at "zsz")
  | ((with_reducible apply add_rowZ); wtm_at "zsz")
  | ((with_reducible apply ix_row); omega) | ((with_reducible apply ix_list); omega) | ((with_reducible apply ix_tup); omega))
local macro_rules | `(tactic| wtm_at "zlf") => `(tactic| first
  | ((with_reducible apply rdv); exact rfl) | ((with_reducible apply l_get); exact rfl) | ((with_reducible apply l_svN); exact rfl) | ((with_reducible apply l_svT); exact rfl) | ((with_reducible apply l_wipe); exact rfl) | ((with_reducible apply l_ble); exact rfl) | ((with_reducible apply l_ty); exact rfl) | ((with_reducible apply l_env); exact rfl) | ((with_reducible apply l_vo); exact rfl) | ((with_reducible apply l_sc); exact rfl) | ((with_reducible apply l_frz); exact rfl) | ((with_reducible apply l_setW); exact rfl) | ((with_reducible apply l_own); exact rfl) | ((with_reducible apply l_cast); first | exact rfl | (apply cast_nn; omega))
  | ((with_reducible apply append_own); wtm_at "zsz") | ((with_reducible apply y_sz); wtm_at "zsz"))
local macro_rules | `(tactic| wtm_at "zst") => `(tactic| with_reducible first
  | exact q_c | apply q_var | apply q_oVg | apply q_frzG | apply ev_oE | exact ev_nil | apply ev_cons | apply ev_bin | apply ev_un | apply ev_tbin | apply ev_call | apply ev_callI | apply y_tup | apply y_lst | apply y_flst | apply ev_fr
  | apply q_chain | apply q_and | apply q_or | apply q_xand | apply q_xor | apply ev_not | apply ev_xnot | apply ev_test | apply ev_tv | apply q_slFrom | apply q_slTo | apply q_meth | apply q_comp | apply q_compF | apply q_sortC
  | apply q_range1 | apply q_range2 | apply ev_seqS | apply q_zip | apply q_zipS | apply y_aug | apply y_seq_aug | apply y_augE | apply q_comp2 | apply q_enum | apply y_nxE | apply y_ownE | apply y_parE | apply ev_ret | apply y_dropE2 | apply y_asgE | apply y_seq_ret | exact y_seq_raise | exact y_raise | apply y_seq_nx | apply y_seq_asg | apply y_seq_asgG | apply y_seq_own | apply y_seq_par | apply y_seq_drop | apply y_seq_parW | apply y_seq_for | apply y_seq_while | apply q_ownM | apply q_keep
  | exact q_awNil | apply q_awV | apply q_awF | apply y_seq_if | apply y_if)
local macro_rules | `(tactic| wtm_at "zx") => `(tactic| first
  | wtm_at "zlf"
  | wtm_at "zst"
  | ((with_reducible apply q_rangeN); rotate_left; omega) | ((with_reducible apply q_rangeI); rotate_left; omega) | ((with_reducible apply q_range2); rotate_left; rotate_left; omega)
  | wtm_at "zop" | wtm_at "zpt"
  | exact (fun z => (ff z rfl).elim)
  | (intro z; exfalso; simp at z <;> omega)
  | omega
  | intro _)
local macro_rules | `(tactic| tbr_iter [$ts,*]) => `(tactic| repeat' (first | ((with_reducible first | apply l_for | apply l_while); first $[| exact $ts]*) $[| with_reducible exact $ts]* | wtm_at "zx"))
/-- a turn word: signs L, R, then C -/
abbrev TW (l : W) : Prop := ∃ w : W, l = w ++ [67] ∧ (∀ c ∈ w, c = 76 ∨ c = 82) ∧ w.length ≤ 15
theorem tw_ok {l : W} (h : TW l) : okW l := by
  obtain ⟨w, rfl, h, _⟩ := h
  intro c m
  rcases List.mem_append.mp m with m | m
  · rcases h c m with q | q
    · exact .inl q
    · exact .inr (.inr q)
  · exact .inr (.inl (List.mem_singleton.mp m))
theorem tw_len {l : W} (h : TW l) : 1 ≤ l.length ∧ l.length ≤ 16 := by
  obtain ⟨w, rfl, _, h⟩ := h
  rw [List.length_append, List.length_singleton]; omega
theorem is_turn_word {l : W} (h : TW l) : F_is_turn_word [tx l] = .ok (.bool true) := by
  have hl := tw_len h
  obtain ⟨w, rfl, hw, hn⟩ := h
  have last : ixD (tx (w ++ [67])) (.int (-1)) = some (tx [67]) := by
    rw [ix_txL (by omega) (by omega)]
    have : (w ++ [67])[(w ++ [67]).length - 1] = 67 := by simp
    rw [this]
  have cut : cutD none (some (-1)) (tx (w ++ [67])) = some (tx w) := by
    rw [cut_tx_init (by omega)]; simp
  have inw : ∀ c ∈ w, inD (tx [c]) (tx ([76] ++ [82])) = some true := fun c m => in_sign (hw c m)
  have al : allD (.list (w.map fun _ => PyData.bool true)) = some (.bool true) := all_true1 (f := fun _ => true) fun _ _ => rfl
  apply fn_ok2
  unfold B_is_turn_word
  simp only [dL, dC, dR]
  tbr_iter [last, cut, al, inw _ (by assumption)]
  all_goals rfl
theorem check_turn_word {l : W} (h : TW l) : F_check_turn_word [tx l] = .ok .none := by
  apply fn_nx
  unfold B_check_turn_word
  tbr_iter [is_turn_word h]
theorem is_less_word {a b : W} (ha : TW a) (hb : TW b) : F_is_less_word [tx a, tx b] = .ok (.bool (lessW a b)) := by
  apply fn_ok2
  unfold B_is_less_word
  tbr_iter [check_turn_word ha, check_turn_word hb, is_raw_less (tw_ok ha) (tw_ok hb)]
  rfl
theorem okW_drop {l : W} (h : okW l) (k : Nat) : okW (l.drop k) := fun c m => h c (List.mem_of_mem_drop m)
def bad (l : W) : List Nat := (List.range (l.length - 1)).filter fun k => !lessW (l.drop (1 + k)) l
theorem not_less_shifts {l : W} (h : okW l) (hl : l.length ≤ 100) : F_not_less_shifts [tx l] = .ok (.list ((bad l).map fun k : Nat => .int (1 + (k : Int)))) := by
  apply fn_ok2
  unfold B_not_less_shifts
  tbr_iter [is_raw_less (okW_drop h _) h]
  unfold bad
  rw [show ((l.length : Int) - 1).toNat = l.length - 1 by omega]
  have : (fun x : Nat => !lessW (List.drop (1 + (x : Int)).toNat l) l) = fun k => !lessW (l.drop (1 + k)) l := by
    funext k
    rw [show (1 + (k : Int)).toNat = 1 + k by omega]
  rw [this]
def isGr (l : W) : Bool := (List.range (l.length - 1)).all fun k => lessW (l.drop (1 + k)) l
theorem gr_bad {l : W} : isGr l = true ↔ bad l = [] := by
  unfold isGr bad
  rw [List.all_eq_true, List.filter_eq_nil_iff]
  simp
theorem law_is_greatest {l : W} (h : okW l) (hl : l.length ≤ 100) : F__law_is_greatest [tx l] = .ok (.bool (isGr l)) := by
  apply fn_ok2
  unfold B__law_is_greatest
  tbr_iter [law_is_less (okW_drop h _) h]
  unfold isGr
  rw [show ((l.length : Int) - 1).toNat = l.length - 1 by omega]
  have : (fun x : Nat => lessW (List.drop (1 + (x : Int)).toNat l) l) = fun k => lessW (l.drop (1 + k)) l := by
    funext k
    rw [show (1 + (k : Int)).toNat = 1 + k by omega]
  rw [this]
/-! all words -/
def longer (ls : List W) : List W := ls.flatMap fun r => [r ++ [76], r ++ [82]]
def allS : Nat → List W
  | 0 => [[]]
  | n + 1 => longer (allS n)
theorem allS_ok : ∀ (n : Nat), (allS n).length = 2 ^ n ∧ ∀ w ∈ allS n, w.length = n ∧ ∀ c ∈ w, c = 76 ∨ c = 82
  | 0 => ⟨rfl, fun w m => by rw [List.mem_singleton.mp m]; exact ⟨rfl, fun c m => by cases m⟩⟩
  | n + 1 => by
    obtain ⟨h1, h2⟩ := allS_ok n
    refine ⟨?_, fun w m => ?_⟩
    · show (longer (allS n)).length = _
      unfold longer
      rw [List.length_flatMap]
      have : ((allS n).map fun r => [r ++ [76], r ++ [82]].length) = (allS n).map fun _ => 2 := List.map_congr_left fun _ _ => rfl
      rw [this, List.map_const', List.sum_replicate_nat, h1, Nat.pow_succ]
    · obtain ⟨r, mr, m⟩ := List.mem_flatMap.mp m
      obtain ⟨k1, k2⟩ := h2 r mr
      simp at m
      rcases m with rfl | rfl
      · refine ⟨by simp [k1], fun c mc => ?_⟩
        rcases List.mem_append.mp mc with q | q
        · exact k2 c q
        · exact .inl (List.mem_singleton.mp q)
      · refine ⟨by simp [k1], fun c mc => ?_⟩
        rcases List.mem_append.mp mc with q | q
        · exact k2 c q
        · exact .inr (List.mem_singleton.mp q)
theorem pow_small {n : Nat} (h : n ≤ 10) : 2 ^ n ≤ 1024 := Nat.pow_le_pow_right (by decide) h
theorem all_signs {n : Nat} (h : n ≤ 10) : F_all_signs [.int (n : Int)] = .ok (.list ((allS n).map tx)) := by
  obtain ⟨s, h1, h2⟩ := y_for (enc := fun k : Nat => PyData.int (k : Int)) (xs := List.range n) (src := srR1 (xVar 0)) (sv := svName 2) (body := Y_all_signs_1) (e := [.val (.int (n : Int)), .val (.list [tx []]), .no, .no, .no])
    (mk := fun s : List W × Sl => [.val (.int (n : Int)), .val (.list (s.1.map tx)), s.2, .no, .no]) (s0 := ([[]], .no)) (fun i s => s.1 = allS i) (show srR1 (xVar 0) _ = .ok (_, [.val (.int (n : Int)), .val (.list [tx []]), .no, .no, .no]) from by tbr_iter []) rfl
    (fun i s hi hI => by
      obtain ⟨f, x⟩ := s
      have hI : f = allS i := hI
      subst hI
      rw [List.length_range] at hi
      obtain ⟨k1, k2⟩ := allS_ok i
      have k3 := pow_small (show i ≤ 10 by omega)
      refine ⟨_, (allS (i + 1), .val (.int ((List.range n)[i] : Nat))), rfl, ?_, rfl⟩
      have hb : ∀ w ∈ allS i, w.length ≤ 10 := fun w m => by rw [(k2 w m).1]; omega
      have hz : ((allS i).flatMap fun x => ([76] ++ [82]).map fun y => tx (x ++ [y])).length ≤ sizeLine := by
        rw [List.length_flatMap]
        have : ((allS i).map fun x => (([76] ++ [82]).map fun y => tx (x ++ [y])).length) = (allS i).map fun _ => 2 := List.map_congr_left fun _ _ => rfl
        rw [this, List.map_const', List.sum_replicate_nat, sizeLine_eq]; omega
      have ad : ∀ x ∈ allS i, ∀ y : Nat, addD (tx x) (tx [y]) = some (tx (x ++ [y])) := fun x m y => add_tx (by have := hb x m; rw [List.length_singleton]; omega)
      simp only [Y_all_signs_1, dL, dR]
      tbr_iter [hz, ad _ (by assumption) _]
      have hm : ((allS i).flatMap fun x => ([76] ++ [82]).map fun y => tx (x ++ [y])) = (allS (i + 1)).map tx := by
        show _ = (longer (allS i)).map tx
        unfold longer
        rw [List.map_flatMap]; rfl
      rw [hm]; rfl)
  obtain ⟨f, x⟩ := s
  have h2 : f = allS n := by rw [List.length_range] at h2; exact h2
  subst h2
  apply fn_ok2
  unfold B_all_signs
  simp only [dE]
  tbr_iter [lp h1]
  all_goals rfl
/-! binary insertion -/
def binGo : Nat → List W → W → Nat → Nat → Nat
  | 0, _, _, low, _ => low
  | n + 1, f, w, low, high => if low < high then (if lessW (f.getD ((low + high) / 2) []) w then binGo n f w ((low + high) / 2 + 1) high else binGo n f w low ((low + high) / 2)) else low
def binPos (f : List W) (w : W) : Nat := binGo f.length f w 0 f.length
theorem binGo_more : ∀ (n m : Nat) (f : List W) (w : W) (low high : Nat), high - low ≤ n → high - low ≤ m → binGo n f w low high = binGo m f w low high
  | 0, 0, _, _, _, _, _, _ => rfl
  | 0, m + 1, f, w, low, high, h, _ => by unfold binGo; rw [if_neg (by omega)]
  | n + 1, 0, f, w, low, high, _, h => by unfold binGo; rw [if_neg (by omega)]
  | n + 1, m + 1, f, w, low, high, h1, h2 => by
    unfold binGo
    by_cases q : low < high
    · rw [if_pos q, if_pos q]
      by_cases q2 : lessW (f.getD ((low + high) / 2) []) w = true
      · rw [if_pos q2, if_pos q2]
        exact binGo_more n m f w _ _ (by omega) (by omega)
      · rw [if_neg q2, if_neg q2]
        exact binGo_more n m f w _ _ (by omega) (by omega)
    · rw [if_neg q, if_neg q]
theorem binGo_le : ∀ (n : Nat) (f : List W) (w : W) (low high : Nat), low ≤ high → binGo n f w low high ≤ high
  | 0, _, _, _, _, h => h
  | n + 1, f, w, low, high, h => by
    unfold binGo
    by_cases q : low < high
    · rw [if_pos q]
      by_cases q2 : lessW (f.getD ((low + high) / 2) []) w = true
      · rw [if_pos q2]; exact binGo_le n f w _ _ (by omega)
      · rw [if_neg q2]; exact Nat.le_trans (binGo_le n f w _ _ (by omega)) (by omega)
    · rw [if_neg q]; exact h
def insAt (f : List W) (k : Nat) (w : W) : List W := f.take k ++ [w] ++ f.drop k
def binIns (f : List W) (w : W) : List W := insAt f (binPos f w) w
def binSort (ws : List W) : List W := ws.foldl binIns []
theorem bin_loop {d0 : D} {f : List W} {w : W} (hf : ∀ x ∈ f, okW x) (hw : okW w) (hl : f.length ≤ 1500) (c : Sl) : ∃ c' h' : Sl, W_in_word_order_1 [.val d0, .own (f.map tx), .val (tx w), .val (.int 0), .val (.int (f.length : Int)), c] = .ok (.nx [.val d0, .own (f.map tx), .val (tx w), .val (.int (binPos f w : Nat)), h', c']) := by
  obtain ⟨s, h1, h2, h3⟩ := y_while (t := tBin ltD (oV 3) (oV 4)) (body := Y_in_word_order_1) (n := fuelZ) (e := [.val d0, .own (f.map tx), .val (tx w), .val (.int 0), .val (.int (f.length : Int)), c])
    (mk := fun s : Nat × Nat × Sl => [.val d0, .own (f.map tx), .val (tx w), .val (.int (s.1 : Int)), .val (.int (s.2.1 : Int)), s.2.2]) (fun s => decide ((s.1 : Int) < (s.2.1 : Int)))
    (fun s => s.1 ≤ s.2.1 ∧ s.2.1 ≤ f.length ∧ binGo (s.2.1 - s.1) f w s.1 s.2.1 = binPos f w) (fun s => s.2.1 - s.1) (s0 := (0, f.length, c)) rfl ⟨Nat.zero_le _, Nat.le_refl _, rfl⟩ (fuel_lt (by show f.length - 0 < 2000; omega))
    (fun s _ => by tbr_iter [])
    (fun s ⟨i1, i2, i3⟩ hc => by
      obtain ⟨low, high, c⟩ := s
      have hc : low < high := by simpa using hc
      have i1 : low ≤ high := i1
      have i2 : high ≤ f.length := i2
      have i3 : binGo (high - low) f w low high = binPos f w := i3
      have hm : (low + high) / 2 < f.length := by omega
      have hmid : (((low : Int) + (high : Int)) / 2).toNat = (low + high) / 2 := by omega
      have hget : f[(((low : Int) + (high : Int)) / 2).toNat]'(by omega) = f[(low + high) / 2] := by congr 1
      have hd : f.getD ((low + high) / 2) [] = f[(low + high) / 2] := by rw [List.getD_eq_getElem?_getD, List.getElem?_eq_getElem hm]; rfl
      have hix : ixD (.list (f.map tx)) (.int (((low : Int) + (high : Int)) / 2)) = some (tx f[(low + high) / 2]) := by
        rw [Z.ix_list (by omega), hget]
      have hless := is_raw_less (hf _ (List.getElem_mem hm)) hw
      obtain ⟨n, hn⟩ : ∃ n, high - low = n + 1 := ⟨high - low - 1, by omega⟩
      rw [hn, binGo, if_pos hc, hd] at i3
      by_cases q : lessW f[(low + high) / 2] w = true
      · rw [if_pos q] at i3
        refine ⟨((low + high) / 2 + 1, high, .val (.int (((low + high) / 2 : Nat) : Int))), ?_, ⟨?_, i2, ?_⟩, ?_⟩
        · tbr_iter [hix, hless, (fun z => (ff q z).elim)]
        · show (low + high) / 2 + 1 ≤ high
          omega
        · rw [← i3]; exact binGo_more _ _ f w _ _ (Nat.le_refl _) (by show high - ((low + high) / 2 + 1) ≤ n; omega)
        · show high - ((low + high) / 2 + 1) < high - low
          omega
      · rw [if_neg q] at i3
        have q' : lessW f[(low + high) / 2] w = false := by simpa using q
        refine ⟨(low, (low + high) / 2, .val (.int (((low + high) / 2 : Nat) : Int))), ?_, ⟨?_, ?_, ?_⟩, ?_⟩
        · tbr_iter [hix, hless, (fun z => (ff z q').elim)]
        · show low ≤ (low + high) / 2
          omega
        · show (low + high) / 2 ≤ f.length
          omega
        · rw [← i3]; exact binGo_more _ _ f w _ _ (Nat.le_refl _) (by show (low + high) / 2 - low ≤ n; omega)
        · show (low + high) / 2 - low < high - low
          omega)
  obtain ⟨low, high, c'⟩ := s
  have h3 : ¬ low < high := by simpa using h3
  have e : low = binPos f w := by
    have := h2.2.2
    have h0 : high - low = 0 := by omega
    have this : binGo (high - low) f w low high = binPos f w := this
    rw [h0] at this
    exact this
  subst e
  exact ⟨c', _, h1⟩
theorem in_word_order {ws : List W} (hw : ∀ x ∈ ws, okW x) (hl : ws.length ≤ 1500) : F_in_word_order [.list (ws.map tx)] = .ok (.list ((binSort ws).map tx)) := by
  obtain ⟨s, h1, h2⟩ := y_for (enc := tx) (xs := ws) (src := srSeq (xVar 0)) (sv := svName 2) (body := Y_in_word_order_2) (e := [.val (.list (ws.map tx)), .own [], .no, .no, .no, .no])
    (mk := fun s : List W × Sl × Sl × Sl × Sl => [.val (.list (ws.map tx)), .own (s.1.map tx), s.2.1, s.2.2.1, s.2.2.2.1, s.2.2.2.2]) (s0 := ([], .no, .no, .no, .no)) (fun i s => s.1 = (ws.take i).foldl binIns [] ∧ s.1.length ≤ i ∧ ∀ x ∈ s.1, okW x)
    (show srSeq (xVar 0) _ = .ok (_, [.val (.list (ws.map tx)), .own [], .no, .no, .no, .no]) from by tbr_iter []) ⟨rfl, Nat.le_refl _, fun x m => by cases m⟩
    (fun i s hi ⟨i1, i2, i3⟩ => by
      obtain ⟨f, a, b, c, d⟩ := s
      have i1 : f = (ws.take i).foldl binIns [] := i1
      have i2 : f.length ≤ i := i2
      have hok := hw _ (List.getElem_mem hi)
      obtain ⟨c', h', hl⟩ := bin_loop (d0 := .list (ws.map tx)) (f := f) (w := ws[i]) i3 hok (by omega) d
      have hp : binPos f ws[i] ≤ f.length := binGo_le _ _ _ _ _ (Nat.zero_le _)
      refine ⟨[.val (.list (ws.map tx)), .own (f.map tx), .val (tx ws[i]), b, c, d], (binIns f ws[i], .val (tx ws[i]), .val (.int (binPos f ws[i] : Nat)), h', c'), rfl, ?_, ⟨?_, ?_, ?_⟩⟩
      · tbr_iter [lp hl]
        show [Sl.val (.list (ws.map tx)), .own ((f.map tx).take (binPos f ws[i]) ++ [tx ws[i]] ++ (f.map tx).drop (binPos f ws[i])), _, _, _, _] = [Sl.val (.list (ws.map tx)), .own ((insAt f (binPos f ws[i]) ws[i]).map tx), _, _, _, _]
        unfold insAt
        rw [List.map_append, List.map_append, List.map_take, List.map_drop]; rfl
      · show binIns f ws[i] = (ws.take (i + 1)).foldl binIns []
        rw [List.take_succ_eq_append_getElem hi, List.foldl_append, ← i1]; rfl
      · show (insAt f _ _).length ≤ i + 1
        unfold insAt
        rw [List.length_append, List.length_append, List.length_take, List.length_drop, List.length_singleton]; omega
      · intro x m
        have m : x ∈ insAt f (binPos f ws[i]) ws[i] := m
        unfold insAt at m
        rcases List.mem_append.mp m with m | m
        · rcases List.mem_append.mp m with m | m
          · exact i3 x (List.mem_of_mem_take m)
          · rw [List.mem_singleton.mp m]; exact hok
        · exact i3 x (List.mem_of_mem_drop m))
  obtain ⟨f, a, b, c, d⟩ := s
  have h2 : f = binSort ws := by have := h2.1; rw [List.take_length] at this; exact this
  subst h2
  apply fn_ok2
  unfold B_in_word_order
  tbr_iter [lp h1]
  all_goals rfl
def rawG (n : Nat) : List W := binSort (((allS (n - 1)).map fun r => r ++ [67]).filter isGr)
theorem word_tw {n : Nat} (hn : n ≤ 15) {r : W} (m : r ∈ allS n) : TW (r ++ [67]) := ⟨r, rfl, ((allS_ok n).2 r m).2, by rw [((allS_ok n).2 r m).1]; exact hn⟩
theorem raw_greatest {n : Nat} (h1 : 1 ≤ n) (h : n ≤ 10) : F_raw_greatest [.int (n : Int)] = .ok (.list ((rawG n).map tx)) := by
  have hk := (allS_ok (n - 1)).1
  have hp := pow_small (show n - 1 ≤ 10 by omega)
  have hs := all_signs (n := n - 1) (by omega)
  rw [show ((n - 1 : Nat) : Int) = (n : Int) - 1 by omega] at hs
  have ad : ∀ x ∈ allS (n - 1), addD (tx x) (tx [67]) = some (tx (x ++ [67])) := fun x m => add_tx (by have := ((allS_ok (n - 1)).2 x m).1; rw [List.length_singleton]; omega)
  have hl1 : (allS (n - 1)).length ≤ 1000000 := by omega
  have ns : ∀ x ∈ allS (n - 1), F_not_less_shifts [tx (x ++ [67])] = .ok (.list ((bad (x ++ [67])).map fun k : Nat => .int (1 + (k : Int)))) := fun x m => by
    have t := word_tw (n := n - 1) (by omega) m
    exact not_less_shifts (tw_ok t) (by have := tw_len t; omega)
  have srt := in_word_order (ws := ((allS (n - 1)).map fun r => r ++ [67]).filter isGr) (fun x m => by
    obtain ⟨r, mr, rfl⟩ := List.mem_map.mp (List.mem_filter.mp m).1
    exact tw_ok (word_tw (n := n - 1) (by omega) mr)) (Nat.le_trans (List.length_filter_le _ _) (by rw [List.length_map]; omega))
  have fe : (((allS (n - 1)).map fun r => r ++ [67]).filter isGr).map tx = ((allS (n - 1)).filter fun x => decide (((bad (x ++ [67])).length : Int) = 0)).map fun x => tx (x ++ [67]) := by
    rw [List.filter_map, List.map_map]
    have : (isGr ∘ fun r : W => r ++ [67]) = fun x => decide (((bad (x ++ [67])).length : Int) = 0) := by
      funext x
      show isGr (x ++ [67]) = _
      rw [Bool.eq_iff_iff, gr_bad, decide_eq_true_eq]
      constructor
      · intro q; rw [q]; rfl
      · intro q; exact List.length_eq_zero_iff.mp (by omega)
    rw [this]; rfl
  rw [fe] at srt
  apply fn_ok2
  unfold B_raw_greatest
  simp only [dC]
  tbr_iter [hs, ad _ (by assumption), hl1, ns _ (by assumption), srt]
  all_goals rfl
end K75

namespace K75
open PySem PySem.Spec PyProof.Rows L2 Z
local macro_rules | `(tactic| wtm_at "zsz") => `(tactic| first | assumption | omega | (simp only [List.length_append, List.length_drop, List.length_take, List.length_map, List.length_range, List.length_cons, List.length_nil]; omega))
local macro_rules | `(tactic| wtm_at "zop") => `(tactic| with_reducible first
  | exact add_int | exact sub_int | exact lt_int | exact le_int | exact gt_int | exact ge_int | exact eq_int | exact ne_int | exact neg_int | exact int_int | exact int_bool | exact abs_int
  | apply op_bD
  | exact len_rowD | exact len_tup | exact len_list
  | exact tup_ints | exact tup_list | exact tup_tup | exact lst_tup | exact all_map | exact any_map | exact sum_map | exact sum_rowZ
  | exact seq_row _ | exact seq_tx _ | exact eq_tx | exact ne_tx | exact ne_boolB _ _ | exact eq_boolB _ _ | exact zip_tt | exact zip_ll | exact enum_l | exact seq_list | exact seq_tup | exact eq_rowZ | exact ne_rowZ | exact lt_rowZ | exact le_rowZ | exact gt_rowZ | exact ge_rowZ)
local macro_rules | `(tactic| wtm_at "zpt") => `(tactic| first
  | ((with_reducible apply isi_t); exact rfl) | ((with_reducible apply isi_f); exact rfl)
  | ((with_reducible apply mul_smallL); exact (show small _ = true from by decide)) | ((with_reducible apply mul_smallR); exact (show small _ = true from by decide))
  | ((with_reducible apply mul_smallR); apply small_ofI; omega) | ((with_reducible apply mul_smallL); apply small_ofI; omega)
  | ((with_reducible apply mod_posZ); omega) | ((with_reducible apply div_posZ); omega)
  | ((with_reducible apply cut_row_from); omega) | ((with_reducible apply cut_row_to); omega) | ((with_reducible apply cut_list_from); omega) | ((with_reducible apply cut_list_to); omega) | ((with_reducible apply cut_tup_from); omega) | ((with_reducible apply cut_tup_to); omega)
  | ((with_reducible apply len_tx); wtm_at "zsz") | ((with_reducible apply zip_tx) <;> assumption) | ((with_reducible apply add_tx); wtm_at "zsz") | ((with_reducible apply cut_tx_from) <;> wtm_at "zsz") | ((with_reducible apply cut_tx_to) <;> wtm_at "zsz") | ((with_reducible apply cut_tx_init); wtm_at "zsz") | ((with_reducible apply insert_own); wtm_at "zsz") | ((with_reducible apply extend_own); wtm_at "zsz")
  | ((with_reducible apply add_rowZ); wtm_at "zsz")
  | ((with_reducible apply ix_row); omega) | ((with_reducible apply ix_list); omega) | ((with_reducible apply ix_tup); omega))
local macro_rules | `(tactic| wtm_at "zlf") => `(tactic| first
  | ((with_reducible apply rdv); exact rfl) | ((with_reducible apply l_get); exact rfl) | ((with_reducible apply l_svN); exact rfl) | ((with_reducible apply l_svT); exact rfl) | ((with_reducible apply l_wipe); exact rfl) | ((with_reducible apply l_ble); exact rfl) | ((with_reducible apply l_ty); exact rfl) | ((with_reducible apply l_env); exact rfl) | ((with_reducible apply l_vo); exact rfl) | ((with_reducible apply l_sc); exact rfl) | ((with_reducible apply l_frz); exact rfl) | ((with_reducible apply l_setW); exact rfl) | ((with_reducible apply l_own); exact rfl) | ((with_reducible apply l_cast); first | exact rfl | (apply cast_nn; omega))
  | ((with_reducible apply append_own); wtm_at "zsz") | ((with_reducible apply y_sz); wtm_at "zsz"))
local macro_rules | `(tactic| wtm_at "zst") => `(tactic| with_reducible first
  | exact q_c | apply q_var | apply q_oVg | apply q_frzG | apply ev_oE | exact ev_nil | apply ev_cons | apply ev_bin | apply ev_un | apply ev_tbin | apply ev_call | apply ev_callI | apply y_tup | apply y_lst | apply y_flst | apply ev_fr
  | apply q_chain | apply q_and | apply q_or | apply q_xand | apply q_xor | apply ev_not | apply ev_xnot | apply ev_test | apply ev_tv | apply q_slFrom | apply q_slTo | apply q_meth | apply q_comp | apply q_compF | apply q_sortC
  | apply q_range1 | apply q_range2 | apply ev_seqS | apply q_zip | apply q_zipS | apply y_aug | apply y_seq_aug | apply y_augE | apply q_comp2 | apply q_enum | apply y_nxE | apply y_ownE | apply y_parE | apply ev_ret | apply y_dropE2 | apply y_asgE | apply y_seq_ret | exact y_seq_raise | exact y_raise | apply y_seq_nx | apply y_seq_asg | apply y_seq_asgG | apply y_seq_own | apply y_seq_par | apply y_seq_drop | apply y_seq_parW | apply y_seq_for | apply y_seq_while | apply q_ownM | apply q_keep
  | exact q_awNil | apply q_awV | apply q_awF | apply y_seq_if | apply y_if)
local macro_rules | `(tactic| wtm_at "zx") => `(tactic| first
  | wtm_at "zlf"
  | wtm_at "zst"
  | ((with_reducible apply q_rangeN); rotate_left; omega) | ((with_reducible apply q_rangeI); rotate_left; omega) | ((with_reducible apply q_range2); rotate_left; rotate_left; omega)
  | wtm_at "zop" | wtm_at "zpt"
  | exact (fun z => (ff z rfl).elim)
  | (intro z; exfalso; simp at z <;> omega)
  | omega
  | intro _)
local macro_rules | `(tactic| tbr_iter [$ts,*]) => `(tactic| repeat' (first | ((with_reducible first | apply l_for | apply l_while); first $[| exact $ts]*) $[| with_reducible exact $ts]* | wtm_at "zx"))
/-! ### the law's own words -/
theorem ext_loop {a c : D} {b s : Sl} {ls : List W} (hl : ls.length ≤ 1100) (hw : ∀ w ∈ ls, w.length ≤ 100) : ∃ s' : Sl, W__law_all_words_1 [.val a, .val (.list (ls.map tx)), b, .own [], s] = .ok (.nx [.val a, .val (.list (ls.map tx)), b, .own ((longer ls).map tx), s']) := by
  obtain ⟨st, h1, h2⟩ := y_for (enc := tx) (xs := ls) (src := srSeq (xVar 1)) (sv := svName 4) (body := Y__law_all_words_1) (e := [.val a, .val (.list (ls.map tx)), b, .own [], s])
    (mk := fun st : List W × Sl => [.val a, .val (.list (ls.map tx)), b, .own (st.1.map tx), st.2]) (s0 := ([], s)) (fun i st => st.1 = longer (ls.take i) ∧ st.1.length = 2 * i)
    (show srSeq (xVar 1) _ = .ok (_, [.val a, .val (.list (ls.map tx)), b, .own [], s]) from by tbr_iter []) ⟨rfl, rfl⟩
    (fun i st hi ⟨i1, i2⟩ => by
      obtain ⟨f, x⟩ := st
      have i1 : f = longer (ls.take i) := i1
      have i2 : f.length = 2 * i := i2
      have hwl := hw _ (List.getElem_mem hi)
      refine ⟨[.val a, .val (.list (ls.map tx)), b, .own (f.map tx), .val (tx ls[i])], (f ++ [ls[i] ++ [76], ls[i] ++ [82]], .val (tx ls[i])), rfl, ?_, ⟨?_, ?_⟩⟩
      · simp only [Y__law_all_words_1, dL, dR]
        tbr_iter []
        show [Sl.val a, .val (.list (ls.map tx)), b, .own (f.map tx ++ [tx (ls[i] ++ [76]), tx (ls[i] ++ [82])]), .val (tx ls[i])] = [Sl.val a, .val (.list (ls.map tx)), b, .own ((f ++ [ls[i] ++ [76], ls[i] ++ [82]]).map tx), .val (tx ls[i])]
        rw [List.map_append]; rfl
      · show f ++ [ls[i] ++ [76], ls[i] ++ [82]] = longer (ls.take (i + 1))
        rw [List.take_succ_eq_append_getElem hi, longer, List.flatMap_append, i1]; rfl
      · show (f ++ [_, _]).length = 2 * (i + 1)
        rw [List.length_append, i2]; show 2 * i + 2 = _; omega)
  obtain ⟨f, x⟩ := st
  have h2 : f = longer ls := by have := h2.1; rw [List.take_length] at this; exact this
  subst h2
  exact ⟨x, h1⟩
theorem law_all_words {n : Nat} (h1 : 1 ≤ n) (h : n ≤ 9) : F__law_all_words [.int (n : Int)] = .ok (.list (((allS (n - 1)).map fun r => r ++ [67]).map tx)) := by
  obtain ⟨st, k1, k2⟩ := y_for (enc := fun k : Nat => PyData.int (k : Int)) (xs := List.range (n - 1)) (src := srR1 (xBin subD (oV 0) (oE (xC (.int 1))))) (sv := svName 2) (body := Y__law_all_words_2) (e := [.val (.int (n : Int)), .val (.list [tx []]), .no, .no, .no])
    (mk := fun st : List W × Sl × Sl × Sl => [.val (.int (n : Int)), .val (.list (st.1.map tx)), st.2.1, st.2.2.1, st.2.2.2]) (s0 := ([[]], .no, .no, .no)) (fun i st => st.1 = allS i)
    (show srR1 _ _ = .ok (_, [.val (.int (n : Int)), .val (.list [tx []]), .no, .no, .no]) from by
      have e1 : (n : Int) - 1 = ((n - 1 : Nat) : Int) := by omega
      tbr_iter [e1]) rfl
    (fun i st hi hI => by
      obtain ⟨f, x, y, z⟩ := st
      have hI : f = allS i := hI
      subst hI
      rw [List.length_range] at hi
      obtain ⟨a1, a2⟩ := allS_ok i
      have a3 := pow_small (show i ≤ 10 by omega)
      have hr : (List.range (n - 1))[i]'(by rw [List.length_range]; exact hi) = i := List.getElem_range _
      rw [hr]
      obtain ⟨z', hz⟩ := ext_loop (a := .int (n : Int)) (c := .none) (b := .val (.int (i : Int))) (s := z) (ls := allS i) (by omega) (fun w m => by rw [(a2 w m).1]; omega)
      refine ⟨[.val (.int (n : Int)), .val (.list ((allS i).map tx)), .val (.int (i : Int)), y, z], (allS (i + 1), .val (.int (i : Int)), .val (.list ((allS (i + 1)).map tx)), z'), rfl, ?_, rfl⟩
      tbr_iter [lp hz])
  obtain ⟨f, x, y, z⟩ := st
  have k2 : f = allS (n - 1) := by rw [List.length_range] at k2; exact k2
  subst k2
  have hk := (allS_ok (n - 1)).1
  have hp := pow_small (show n - 1 ≤ 10 by omega)
  have hl1 : (allS (n - 1)).length ≤ 1000000 := by omega
  have ad : ∀ x ∈ allS (n - 1), addD (tx x) (tx [67]) = some (tx (x ++ [67])) := fun x m => add_tx (by have := ((allS_ok (n - 1)).2 x m).1; rw [List.length_singleton]; omega)
  apply fn_ok2
  unfold B__law_all_words
  simp only [dE, dC]
  tbr_iter [lp k1, hl1, ad _ (by assumption)]
  rw [List.map_map]; rfl
def linIns (f : List W) (w : W) : List W := insAt f (f.filter fun o => lessW o w).length w
def linSort (ws : List W) : List W := ws.foldl linIns []
theorem law_sorted_words {ws : List W} (hw : ∀ x ∈ ws, okW x) (hl : ws.length ≤ 1500) : F__law_sorted_words [.list (ws.map tx)] = .ok (.list ((linSort ws).map tx)) := by
  obtain ⟨s, h1, h2⟩ := y_for (enc := tx) (xs := ws) (src := srSeq (xVar 0)) (sv := svName 2) (body := Y__law_sorted_words_1) (e := [.val (.list (ws.map tx)), .own [], .no, .no])
    (mk := fun s : List W × Sl × Sl => [.val (.list (ws.map tx)), .own (s.1.map tx), s.2.1, s.2.2]) (s0 := ([], .no, .no)) (fun i s => s.1 = (ws.take i).foldl linIns [] ∧ s.1.length ≤ i ∧ ∀ x ∈ s.1, okW x)
    (show srSeq (xVar 0) _ = .ok (_, [.val (.list (ws.map tx)), .own [], .no, .no]) from by tbr_iter []) ⟨rfl, Nat.le_refl _, fun x m => by cases m⟩
    (fun i s hi ⟨i1, i2, i3⟩ => by
      obtain ⟨f, a, b⟩ := s
      have i1 : f = (ws.take i).foldl linIns [] := i1
      have i2 : f.length ≤ i := i2
      have i3 : ∀ x ∈ f, okW x := i3
      have hok := hw _ (List.getElem_mem hi)
      have hfl : (f.filter fun o => lessW o ws[i]).length ≤ f.length := List.length_filter_le _ _
      have hlz : f.length ≤ 1000000 := by omega
      have hins : insertD (f.map tx) [.int ((f.filter fun o => lessW o ws[i]).length : Int), tx ws[i]] = some (.none, (linIns f ws[i]).map tx) := by
        rw [insert_own (by rw [List.length_map]; omega)]
        unfold linIns insAt
        rw [List.map_append, List.map_append, List.map_take, List.map_drop]; rfl
      refine ⟨[.val (.list (ws.map tx)), .own (f.map tx), .val (tx ws[i]), b], (linIns f ws[i], .val (tx ws[i]), .no), rfl, ?_, ⟨?_, ?_, ?_⟩⟩
      · tbr_iter [law_is_less (i3 _ (by assumption)) hok, hlz, hins]
      · show linIns f ws[i] = (ws.take (i + 1)).foldl linIns []
        rw [List.take_succ_eq_append_getElem hi, List.foldl_append, ← i1]; rfl
      · show (insAt f _ _).length ≤ i + 1
        unfold insAt
        rw [List.length_append, List.length_append, List.length_take, List.length_drop, List.length_singleton]; omega
      · intro x m
        have m : x ∈ insAt f (f.filter fun o => lessW o ws[i]).length ws[i] := m
        unfold insAt at m
        rcases List.mem_append.mp m with m | m
        · rcases List.mem_append.mp m with m | m
          · exact i3 x (List.mem_of_mem_take m)
          · rw [List.mem_singleton.mp m]; exact hok
        · exact i3 x (List.mem_of_mem_drop m))
  obtain ⟨f, a, b⟩ := s
  have h2 : f = linSort ws := by have := h2.1; rw [List.take_length] at this; exact this
  subst h2
  apply fn_ok2
  unfold B__law_sorted_words
  tbr_iter [lp h1]
  all_goals rfl
def lawG (n : Nat) : List W := linSort (((allS (n - 1)).map fun r => r ++ [67]).filter isGr)
theorem law_great_words {n : Nat} (h1 : 1 ≤ n) (h : n ≤ 9) : F__law_great_words [.int (n : Int)] = .ok (.list ((lawG n).map tx)) := by
  have hk := (allS_ok (n - 1)).1
  have hp := pow_small (show n - 1 ≤ 10 by omega)
  have hl1 : ((allS (n - 1)).map fun r => r ++ [67]).length ≤ 1000000 := by rw [List.length_map]; omega
  have ok1 : ∀ x ∈ (allS (n - 1)).map fun r => r ++ [67], TW x := fun x m => by
    obtain ⟨r, mr, rfl⟩ := List.mem_map.mp m
    exact word_tw (n := n - 1) (by omega) mr
  have g1 : ∀ x ∈ (allS (n - 1)).map fun r => r ++ [67], F__law_is_greatest [tx x] = .ok (.bool (isGr x)) := fun x m => law_is_greatest (tw_ok (ok1 x m)) (by have := tw_len (ok1 x m); omega)
  have srt := law_sorted_words (ws := ((allS (n - 1)).map fun r => r ++ [67]).filter isGr) (fun x m => tw_ok (ok1 x (List.mem_filter.mp m).1)) (Nat.le_trans (List.length_filter_le _ _) (by rw [List.length_map]; omega))
  apply fn_ok2
  unfold B__law_great_words
  tbr_iter [law_all_words h1 h, hl1, g1 _ (by assumption), srt]
  all_goals rfl
/-! both ways to sort give the same: looked at size by size -/
theorem same_words : ∀ n, n < 9 → rawG n = lawG n := by decide +kernel
end K75

namespace K75
open PySem PySem.Spec PyProof.Rows L2 Z

/-! ### draws -/
def handZ (cells : List Int) (a c h3 h4 : Int) : List D := [.list (cells.map PyData.int), .int a, .int c, .int h3, .int h4]
/-- what a hand is -/
def Hand (h : List D) : Prop := ∃ cells a c h3 h4, h = handZ cells a c h3 h4 ∧ (∀ x ∈ cells, (0 : Int) ≤ x) ∧ 0 ≤ a ∧ 0 ≤ c
theorem mod_pos {a m : Int} (h : 0 < m) : modD (.int a) (.int m) = some (.int (a % m)) := by
  unfold modD
  simp only [if_neg (show m ≠ 0 by omega)]
  rw [Int.fmod_eq_emod_of_nonneg _ (by omega)]
theorem div_pos {a m : Int} (h : 0 < m) (h2 : m < 1073741824) : divD (.int a) (.int m) = some (.int (a / m)) := by
  unfold divD
  have c : (decide (m ≠ 0) && decide (m.natAbs < 1073741824)) = true := by
    simp only [Bool.and_eq_true, decide_eq_true_eq]; omega
  simp only [c, if_true]
  rw [Int.fdiv_eq_ediv_of_nonneg _ (by omega)]
theorem mul_small {a m : Int} (h : small m = true) : mulD (.int a) (.int m) = some (.int (a * m)) := by
  unfold mulD
  simp [h]
theorem mul_small' {a m : Int} (h : small a = true) : mulD (.int a) (.int m) = some (.int (a * m)) := by
  unfold mulD
  simp [h]
abbrev dG : Te := tBin gtD (oE (xBin ixD (oV 0) (oE (xC (.int 2))))) (oE (xC (.int 0)))
abbrev dP : Sm := sSeq (sAsg (xBin modD (oE (xUn Z.intD (oE (xBin ixD (oV 0) (oE (xC (.int 2))))))) (oV 1)) (svName 3))
    (sSeq (sSetIx 0 (xBin divD (oE (xBin ixD (oV 0) (oE (xC (.int 2))))) (oV 1)) (xC (.int 2)))
    (sRet (xVar 3)))
abbrev dN1 : Ev := xBin modD (oE (xUn Z.intD (oE (xBin mulD (oE (xUn Z.intD (oE (xBin addD (oE (xBin ixD (oV 0) (oE (xC (.int 3))))) (oE (xBin mulD (oE (xC (.int 7919))) (oE (xBin ixD (oV 0) (oE (xC (.int 4))))))))))) (oE (xC (.int 48271))))))) (oE (xC (.int 2147483647)))
abbrev dN2 : Ev := xBin modD (oE (xUn Z.intD (oE (xBin mulD (oV 4) (oE (xBin addD (oE (xBin divD (oV 4) (oE (xC (.int 1009))))) (oE (xC (.int 69621))))))))) (oE (xC (.int 2147483647)))
abbrev dN3 : Ev := xBin modD (oE (xUn Z.intD (oE (xBin mulD (oV 4) (oE (xBin addD (oE (xBin divD (oV 4) (oE (xC (.int 2003))))) (oE (xC (.int 40692))))))))) (oE (xC (.int 2147483399)))
abbrev dT : Sm := sSeq (sSetIx 0 (xBin addD (oE (xBin ixD (oV 0) (oE (xC (.int 4))))) (oE (xC (.int 1)))) (xC (.int 4)))
    (sSeq (sAsg dN1 (svName 4)) (sSeq (sAsg dN2 (svName 4)) (sSeq (sAsg dN3 (svName 4))
    (sRet (xBin modD (oE (xUn Z.intD (oE (xBin divD (oV 4) (oE (xC (.int 16))))))) (oV 1))))))
abbrev dR : Sm := sSeq (sIf dG dP sNext) dT
abbrev dA : Te := tAndZ (tBin eqD (oE (xBin ixD (oV 0) (oE (xC (.int 2))))) (oE (xC (.int 0)))) (tBin ltD (oE (xBin ixD (oV 0) (oE (xC (.int 1))))) (oE (xUn lenD (oE (xBin ixD (oV 0) (oE (xC (.int 0))))))))
theorem draw_tail (cells : List Int) (a c h3 h4 m : Int) (x y : Sl) (hm : 1 ≤ m) : ∃ d e', dT [.own (handZ cells a c h3 h4), .val (.int m), x, y, .no] = .ok (.rt (.int d) (.own (handZ cells a c h3 (h4 + 1)) :: e')) ∧ 0 ≤ d ∧ d < m := by
  let n1 := ((h3 + 7919 * (h4 + 1)) * 48271) % 2147483647
  let n2 := (n1 * (n1 / 1009 + 69621)) % 2147483647
  let n3 := (n2 * (n2 / 2003 + 40692)) % 2147483399
  have s0 : sSetIx 0 (xBin addD (oE (xBin ixD (oV 0) (oE (xC (.int 4))))) (oE (xC (.int 1)))) (xC (.int 4)) [.own (handZ cells a c h3 h4), .val (.int m), x, y, .no] = .ok (.nx [.own (handZ cells a c h3 (h4 + 1)), .val (.int m), x, y, .no]) := rfl
  have b1 : 0 ≤ n1 ∧ n1 < 2147483647 := ⟨Int.emod_nonneg _ (by decide), Int.emod_lt_of_pos _ (by decide)⟩
  have b2 : 0 ≤ n2 ∧ n2 < 2147483647 := ⟨Int.emod_nonneg _ (by decide), Int.emod_lt_of_pos _ (by decide)⟩
  have sm1 : small n1 = true := decide_eq_true (by omega)
  have sm2 : small n2 = true := decide_eq_true (by omega)
  have e1 : dN1 [.own (handZ cells a c h3 (h4 + 1)), .val (.int m), x, y, .no] = .ok (.int n1, [.own (handZ cells a c h3 (h4 + 1)), .val (.int m), x, y, .no]) :=
    ev_bin (ev_oE (ev_un (ev_oE (ev_bin (ev_oE (ev_un (ev_oE (ev_bin (ev_oE (ev_bin rfl rfl rfl rfl rfl)) (ev_oE (ev_bin rfl (ev_oE (ev_bin rfl rfl rfl rfl rfl)) rfl rfl (mul_small' rfl))) rfl rfl rfl)) rfl rfl)) rfl rfl rfl (mul_small rfl))) rfl rfl)) rfl rfl rfl (mod_pos (by decide))
  have e2 : dN2 [.own (handZ cells a c h3 (h4 + 1)), .val (.int m), x, y, .val (.int n1)] = .ok (.int n2, [.own (handZ cells a c h3 (h4 + 1)), .val (.int m), x, y, .val (.int n1)]) :=
    ev_bin (ev_oE (ev_un (ev_oE (ev_bin rfl (ev_oE (ev_bin (ev_oE (ev_bin rfl rfl rfl rfl (div_pos (by decide) (by decide)))) rfl rfl rfl rfl)) rfl rfl (mul_small' sm1))) rfl rfl)) rfl rfl rfl (mod_pos (by decide))
  have e3 : dN3 [.own (handZ cells a c h3 (h4 + 1)), .val (.int m), x, y, .val (.int n2)] = .ok (.int n3, [.own (handZ cells a c h3 (h4 + 1)), .val (.int m), x, y, .val (.int n2)]) :=
    ev_bin (ev_oE (ev_un (ev_oE (ev_bin rfl (ev_oE (ev_bin (ev_oE (ev_bin rfl rfl rfl rfl (div_pos (by decide) (by decide)))) rfl rfl rfl rfl)) rfl rfl (mul_small' sm2))) rfl rfl)) rfl rfl rfl (mod_pos (by decide))
  have e4 : (xBin modD (oE (xUn Z.intD (oE (xBin divD (oV 4) (oE (xC (.int 16))))))) (oV 1)) [.own (handZ cells a c h3 (h4 + 1)), .val (.int m), x, y, .val (.int n3)] = .ok (.int ((n3 / 16) % m), [.own (handZ cells a c h3 (h4 + 1)), .val (.int m), x, y, .val (.int n3)]) :=
    ev_bin (ev_oE (ev_un (ev_oE (ev_bin rfl rfl rfl rfl (div_pos (by decide) (by decide)))) rfl rfl)) rfl rfl rfl (mod_pos (by omega))
  refine ⟨(n3 / 16) % m, _, (ev_seq s0).trans ((ev_seq (ev_set (i := 4) e1 (show 4 < 5 by decide))).trans ((ev_seq (ev_set (i := 4) e2 (show 4 < 5 by decide))).trans ((ev_seq (ev_set (i := 4) e3 (show 4 < 5 by decide))).trans (ev_ret e4)))), Int.emod_nonneg _ (by omega), Int.emod_lt_of_pos _ (by omega)⟩
theorem draw_rest (cells : List Int) (a c h3 h4 m : Int) (x : Sl) (hc : 0 ≤ c) (hm : 1 ≤ m) (hm2 : m < 1073741824) : ∃ d c' h4' e', dR [.own (handZ cells a c h3 h4), .val (.int m), x, .no, .no] = .ok (.rt (.int d) (.own (handZ cells a c' h3 h4') :: e')) ∧ 0 ≤ d ∧ d < m ∧ 0 ≤ c' := by
  have g : dG [.own (handZ cells a c h3 h4), .val (.int m), x, .no, .no] = .ok (decide (0 < c), [.own (handZ cells a c h3 h4), .val (.int m), x, .no, .no]) := ev_tbin (ev_oE (ev_bin rfl rfl rfl rfl rfl)) rfl rfl rfl rfl
  by_cases q : 0 < c
  · rw [decide_eq_true q] at g
    have p1 : (xBin modD (oE (xUn Z.intD (oE (xBin ixD (oV 0) (oE (xC (.int 2))))))) (oV 1)) [.own (handZ cells a c h3 h4), .val (.int m), x, .no, .no] = .ok (.int (c % m), [.own (handZ cells a c h3 h4), .val (.int m), x, .no, .no]) := ev_bin (ev_oE (ev_un (ev_oE (ev_bin rfl rfl rfl rfl rfl)) rfl rfl)) rfl rfl rfl (mod_pos (by omega))
    have p2 : (xBin divD (oE (xBin ixD (oV 0) (oE (xC (.int 2))))) (oV 1)) [.own (handZ cells a c h3 h4), .val (.int m), x, .val (.int (c % m)), .no] = .ok (.int (c / m), [.own (handZ cells a c h3 h4), .val (.int m), x, .val (.int (c % m)), .no]) := ev_bin (ev_oE (ev_bin rfl rfl rfl rfl rfl)) rfl rfl rfl (div_pos (by omega) hm2)
    have p3 : sSetIx 0 (xBin divD (oE (xBin ixD (oV 0) (oE (xC (.int 2))))) (oV 1)) (xC (.int 2)) [.own (handZ cells a c h3 h4), .val (.int m), x, .val (.int (c % m)), .no] = .ok (.nx [.own (handZ cells a (c / m) h3 h4), .val (.int m), x, .val (.int (c % m)), .no]) := by
      unfold sSetIx
      rw [p2]; rfl
    exact ⟨c % m, c / m, h4, _, ev_seqR ((ev_if1 g).trans ((ev_seq (ev_set (i := 3) p1 (show 3 < 5 by decide))).trans ((ev_seq p3).trans rfl))), Int.emod_nonneg _ (by omega), Int.emod_lt_of_pos _ (by omega), Int.ediv_nonneg hc (by omega)⟩
  · rw [decide_eq_false q] at g
    obtain ⟨d, e', k1, k2, k3⟩ := draw_tail cells a c h3 h4 m x .no hm
    exact ⟨d, c, h4 + 1, e', (ev_seq (ev_if0 g)).trans k1, k2, k3, hc⟩
theorem draw {h : List D} (hh : Hand h) {m : Int} (hm : 1 ≤ m) (hm2 : m < 1073741824) : ∃ d h', F__law_draw h [.int m] = .ok (.int d, h') ∧ 0 ≤ d ∧ d < m ∧ Hand h' := by
  obtain ⟨cells, a, c, h3, h4, rfl, h1, h2, hc⟩ := hh
  have fin : ∀ {d : Int} {h' : List D} {e' : VEnv}, B__law_draw [.own (handZ cells a c h3 h4), .val (.int m), .no, .no, .no] = .ok (.rt (.int d) (.own h' :: e')) → F__law_draw (handZ cells a c h3 h4) [.int m] = .ok (.int d, h') := fun {d h' e'} k => by
    show fnEndI (B__law_draw [.own (handZ cells a c h3 h4), .val (.int m), .no, .no, .no]) = _
    rw [k]; rfl
  have len0 : lenD (.list (cells.map PyData.int)) = some (.int (cells.length : Int)) := by simp [lenD]
  by_cases q : c = 0 ∧ a < (cells.length : Int)
  · have ga : dA [.own (handZ cells a c h3 h4), .val (.int m), .no, .no, .no] = .ok (true, [.own (handZ cells a c h3 h4), .val (.int m), .no, .no, .no]) :=
      ev_and1 (ev_tbin (ev_oE (ev_bin rfl rfl rfl rfl rfl)) rfl rfl rfl (congrArg some (decide_eq_true q.1))) (ev_tbin (ev_oE (ev_bin rfl rfl rfl rfl rfl)) (ev_oE (ev_un (ev_oE (ev_bin rfl rfl rfl rfl rfl)) rfl len0)) rfl rfl (congrArg some (decide_eq_true q.2)))
    obtain ⟨j, rfl⟩ : ∃ j : Nat, a = (j : Int) := ⟨a.toNat, by omega⟩
    have hj : j < cells.length := by omega
    let cell := cells[j]
    have hcell : 0 ≤ cell := h1 _ (List.getElem_mem hj)
    have ix : ixD (.list (cells.map PyData.int)) (.int (j : Int)) = some (.int cell) := by
      show L2.atI (cells.map PyData.int) (j : Int) = _
      exact atI_ints (List.getElem?_eq_getElem hj)
    let h3' := (h3 * 69621 + cell + 251) % 2147483629
    have c1 : (xBin ixD (oE (xBin ixD (oV 0) (oE (xC (.int 0))))) (oE (xBin ixD (oV 0) (oE (xC (.int 1)))))) [.own (handZ cells (j : Int) c h3 h4), .val (.int m), .no, .no, .no] = .ok (.int cell, [.own (handZ cells (j : Int) c h3 h4), .val (.int m), .no, .no, .no]) := ev_bin (ev_oE (ev_bin rfl rfl rfl rfl rfl)) (ev_oE (ev_bin rfl rfl rfl rfl rfl)) rfl rfl ix
    have c2 : sSetIx 0 (xBin addD (oE (xBin ixD (oV 0) (oE (xC (.int 1))))) (oE (xC (.int 1)))) (xC (.int 1)) [.own (handZ cells (j : Int) c h3 h4), .val (.int m), .val (.int cell), .no, .no] = .ok (.nx [.own (handZ cells ((j : Int) + 1) c h3 h4), .val (.int m), .val (.int cell), .no, .no]) := rfl
    have c3 : (xBin modD (oE (xUn Z.intD (oE (xBin addD (oE (xBin addD (oE (xBin mulD (oE (xBin ixD (oV 0) (oE (xC (.int 3))))) (oE (xC (.int 69621))))) (oV 2))) (oE (xC (.int 251))))))) (oE (xC (.int 2147483629)))) [.own (handZ cells ((j : Int) + 1) c h3 h4), .val (.int m), .val (.int cell), .no, .no] = .ok (.int h3', [.own (handZ cells ((j : Int) + 1) c h3 h4), .val (.int m), .val (.int cell), .no, .no]) :=
      ev_bin (ev_oE (ev_un (ev_oE (ev_bin (ev_oE (ev_bin (ev_oE (ev_bin (ev_oE (ev_bin rfl rfl rfl rfl rfl)) rfl rfl rfl (mul_small rfl))) rfl rfl rfl rfl)) rfl rfl rfl rfl)) rfl rfl)) rfl rfl rfl (mod_pos (by decide))
    have c4 : sSetIx 0 (xBin modD (oE (xUn Z.intD (oE (xBin addD (oE (xBin addD (oE (xBin mulD (oE (xBin ixD (oV 0) (oE (xC (.int 3))))) (oE (xC (.int 69621))))) (oV 2))) (oE (xC (.int 251))))))) (oE (xC (.int 2147483629)))) (xC (.int 3)) [.own (handZ cells ((j : Int) + 1) c h3 h4), .val (.int m), .val (.int cell), .no, .no] = .ok (.nx [.own (handZ cells ((j : Int) + 1) c h3' h4), .val (.int m), .val (.int cell), .no, .no]) := by
      unfold sSetIx
      rw [c3]; rfl
    have pw : (xBin powD (oE (xC (.int 10))) (oE (xC (.int 18)))) [.own (handZ cells ((j : Int) + 1) c h3' h4), .val (.int m), .val (.int cell), .no, .no] = .ok (.int (10 ^ 18), [.own (handZ cells ((j : Int) + 1) c h3' h4), .val (.int m), .val (.int cell), .no, .no]) := ev_bin rfl rfl rfl rfl (show powD (.int 10) (.int 18) = some (.int (10 ^ 18)) from rfl)
    have c5 : tBin geD (oV 2) (oE (xBin powD (oE (xC (.int 10))) (oE (xC (.int 18))))) [.own (handZ cells ((j : Int) + 1) c h3' h4), .val (.int m), .val (.int cell), .no, .no] = .ok (decide ((10 ^ 18 : Int) ≤ cell), [.own (handZ cells ((j : Int) + 1) c h3' h4), .val (.int m), .val (.int cell), .no, .no]) := ev_tbin rfl (ev_oE pw) rfl rfl rfl
    have fst : ∃ c', 0 ≤ c' ∧ sIf dA (sSeq (sAsg (xBin ixD (oE (xBin ixD (oV 0) (oE (xC (.int 0))))) (oE (xBin ixD (oV 0) (oE (xC (.int 1)))))) (svName 2))
    (sSeq (sSetIx 0 (xBin addD (oE (xBin ixD (oV 0) (oE (xC (.int 1))))) (oE (xC (.int 1)))) (xC (.int 1)))
    (sSeq (sSetIx 0 (xBin modD (oE (xUn Z.intD (oE (xBin addD (oE (xBin addD (oE (xBin mulD (oE (xBin ixD (oV 0) (oE (xC (.int 3))))) (oE (xC (.int 69621))))) (oV 2))) (oE (xC (.int 251))))))) (oE (xC (.int 2147483629)))) (xC (.int 3)))
    (sIf (tBin geD (oV 2) (oE (xBin powD (oE (xC (.int 10))) (oE (xC (.int 18)))))) (sSetIx 0 (xVar 2) (xC (.int 2))) sNext)))) sNext [.own (handZ cells (j : Int) c h3 h4), .val (.int m), .no, .no, .no] = .ok (.nx [.own (handZ cells ((j : Int) + 1) c' h3' h4), .val (.int m), .val (.int cell), .no, .no]) := by
      by_cases q2 : (10 ^ 18 : Int) ≤ cell
      · rw [decide_eq_true q2] at c5
        exact ⟨cell, hcell, (ev_if1 ga).trans ((ev_seq (ev_set (i := 2) c1 (show 2 < 5 by decide))).trans ((ev_seq c2).trans ((ev_seq c4).trans ((ev_if1 c5).trans rfl))))⟩
      · rw [decide_eq_false q2] at c5
        exact ⟨c, hc, (ev_if1 ga).trans ((ev_seq (ev_set (i := 2) c1 (show 2 < 5 by decide))).trans ((ev_seq c2).trans ((ev_seq c4).trans ((ev_if0 c5).trans rfl))))⟩
    obtain ⟨c', hc', fst⟩ := fst
    obtain ⟨d, c'', h4', e', k1, k2, k3, k4⟩ := draw_rest cells ((j : Int) + 1) c' h3' h4 m (.val (.int cell)) hc' hm hm2
    exact ⟨d, _, fin ((ev_seq fst).trans k1), k2, k3, cells, _, _, _, _, rfl, h1, by omega, k4⟩
  · have ga : ∃ e, dA [.own (handZ cells a c h3 h4), .val (.int m), .no, .no, .no] = .ok (false, e) ∧ e = [.own (handZ cells a c h3 h4), .val (.int m), .no, .no, .no] := by
      by_cases q0 : c = 0
      · exact ⟨_, ev_and1 (ev_tbin (ev_oE (ev_bin rfl rfl rfl rfl rfl)) rfl rfl rfl (congrArg some (decide_eq_true q0))) (ev_tbin (ev_oE (ev_bin rfl rfl rfl rfl rfl)) (ev_oE (ev_un (ev_oE (ev_bin rfl rfl rfl rfl rfl)) rfl len0)) rfl rfl (congrArg some (decide_eq_false fun z => q ⟨q0, z⟩))), rfl⟩
      · exact ⟨_, ev_and0 (ev_tbin (ev_oE (ev_bin rfl rfl rfl rfl rfl)) rfl rfl rfl (congrArg some (decide_eq_false q0))), rfl⟩
    obtain ⟨e, ga, rfl⟩ := ga
    obtain ⟨d, c'', h4', e', k1, k2, k3, k4⟩ := draw_rest cells a c h3 h4 m .no hc hm hm2
    exact ⟨d, _, fin ((ev_seq (ev_if0 ga)).trans k1), k2, k3, cells, _, _, _, _, rfl, h1, h2, k4⟩
/-! the same by functions -/
open Classical in
noncomputable def dP' (h : List D) (m : Int) (d : Int) (h' : List D) : Prop := F__law_draw h [.int m] = .ok (.int d, h') ∧ 0 ≤ d ∧ d < m ∧ Hand h'
open Classical in
noncomputable def dv (h : List D) (m : Int) : Int := if q : ∃ d h', dP' h m d h' then q.choose else 0
open Classical in
noncomputable def dh (h : List D) (m : Int) : List D := if q : ∃ d h', dP' h m d h' then q.choose_spec.choose else []
theorem dr_all {h : List D} (hh : Hand h) {m : Int} (hm : 1 ≤ m ∧ m < 1073741824) : dP' h m (dv h m) (dh h m) := by
  have q : ∃ d h', dP' h m d h' := draw hh hm.1 hm.2
  unfold dv dh
  rw [dif_pos q, dif_pos q]
  exact q.choose_spec.choose_spec
theorem dr_eq {h : List D} {m : Int} (hh : Hand h) (hm : 1 ≤ m ∧ m < 1073741824) : F__law_draw h [.int m] = .ok (.int (dv h m), dh h m) := (dr_all hh hm).1
theorem dr_lo {h : List D} {m : Int} (hh : Hand h) (hm : 1 ≤ m ∧ m < 1073741824) : 0 ≤ dv h m ∧ dv h m < m := ⟨(dr_all hh hm).2.1, (dr_all hh hm).2.2.1⟩
theorem dr_hand {h : List D} {m : Int} (hh : Hand h) (hm : 1 ≤ m ∧ m < 1073741824) : Hand (dh h m) := (dr_all hh hm).2.2.2
end K75

namespace K75
open PySem PySem.Spec PyProof.Rows L2 Z
local macro_rules | `(tactic| wtm_at "zsz") => `(tactic| first | assumption | omega | (simp only [List.length_append, List.length_drop, List.length_take, List.length_map, List.length_range, List.length_cons, List.length_nil]; omega))
local macro_rules | `(tactic| wtm_at "zop") => `(tactic| with_reducible first
  | exact add_int | exact sub_int | exact lt_int | exact le_int | exact gt_int | exact ge_int | exact eq_int | exact ne_int | exact neg_int | exact int_int | exact int_bool | exact abs_int
  | apply op_bD
  | exact len_rowD | exact len_tup | exact len_list
  | exact tup_ints | exact tup_list | exact tup_tup | exact lst_tup | exact all_map | exact any_map | exact sum_map | exact sum_rowZ
  | exact seq_row _ | exact seq_tx _ | exact eq_tx | exact ne_tx | exact ne_boolB _ _ | exact eq_boolB _ _ | exact zip_tt | exact zip_ll | exact enum_l | exact seq_list | exact seq_tup | exact eq_rowZ | exact ne_rowZ | exact lt_rowZ | exact le_rowZ | exact gt_rowZ | exact ge_rowZ)
local macro_rules | `(tactic| wtm_at "zpt") => `(tactic| first
  | ((with_reducible apply isi_t); exact rfl) | ((with_reducible apply isi_f); exact rfl)
  | ((with_reducible apply mul_smallL); exact (show small _ = true from by decide)) | ((with_reducible apply mul_smallR); exact (show small _ = true from by decide))
  | ((with_reducible apply mul_smallR); apply small_ofI; omega) | ((with_reducible apply mul_smallL); apply small_ofI; omega)
  | ((with_reducible apply mod_posZ); omega) | ((with_reducible apply div_posZ); omega)
  | ((with_reducible apply cut_row_from); omega) | ((with_reducible apply cut_row_to); omega) | ((with_reducible apply cut_list_from); omega) | ((with_reducible apply cut_list_to); omega) | ((with_reducible apply cut_tup_from); omega) | ((with_reducible apply cut_tup_to); omega)
  | ((with_reducible apply len_tx); wtm_at "zsz") | ((with_reducible apply zip_tx) <;> assumption) | ((with_reducible apply add_tx); wtm_at "zsz") | ((with_reducible apply cut_tx_from) <;> wtm_at "zsz") | ((with_reducible apply cut_tx_to) <;> wtm_at "zsz") | ((with_reducible apply cut_tx_init); wtm_at "zsz") | ((with_reducible apply insert_own); wtm_at "zsz") | ((with_reducible apply extend_own); wtm_at "zsz")
  | ((with_reducible apply add_rowZ); wtm_at "zsz")
  | ((with_reducible apply ix_row); omega) | ((with_reducible apply ix_list); omega) | ((with_reducible apply ix_tup); omega))
local macro_rules | `(tactic| wtm_at "zlf") => `(tactic| first
  | ((with_reducible apply rdv); exact rfl) | ((with_reducible apply l_get); exact rfl) | ((with_reducible apply l_svN); exact rfl) | ((with_reducible apply l_svT); exact rfl) | ((with_reducible apply l_wipe); exact rfl) | ((with_reducible apply l_ble); exact rfl) | ((with_reducible apply l_ty); exact rfl) | ((with_reducible apply l_env); exact rfl) | ((with_reducible apply l_vo); exact rfl) | ((with_reducible apply l_sc); exact rfl) | ((with_reducible apply l_frz); exact rfl) | ((with_reducible apply l_setW); exact rfl) | ((with_reducible apply l_own); exact rfl) | ((with_reducible apply l_cast); first | exact rfl | (apply cast_nn; omega))
  | ((with_reducible apply append_own); wtm_at "zsz") | ((with_reducible apply y_sz); wtm_at "zsz"))
local macro_rules | `(tactic| wtm_at "zst") => `(tactic| with_reducible first
  | exact q_c | apply q_var | apply q_oVg | apply q_frzG | apply ev_oE | exact ev_nil | apply ev_cons | apply ev_bin | apply ev_un | apply ev_tbin | apply ev_call | apply ev_callI | apply y_tup | apply y_lst | apply y_flst | apply ev_fr
  | apply q_chain | apply q_and | apply q_or | apply q_xand | apply q_xor | apply ev_not | apply ev_xnot | apply ev_test | apply ev_tv | apply q_slFrom | apply q_slTo | apply q_meth | apply q_comp | apply q_compF | apply q_sortC
  | apply q_range1 | apply q_range2 | apply ev_seqS | apply q_zip | apply q_zipS | apply y_aug | apply y_seq_aug | apply y_augE | apply q_comp2 | apply q_enum | apply y_nxE | apply y_ownE | apply y_parE | apply ev_ret | apply y_dropE2 | apply y_asgE | apply y_seq_ret | exact y_seq_raise | exact y_raise | apply y_seq_nx | apply y_seq_asg | apply y_seq_asgG | apply y_seq_own | apply y_seq_par | apply y_seq_drop | apply y_seq_parW | apply y_seq_for | apply y_seq_while | apply q_ownM | apply q_keep
  | exact q_awNil | apply q_awV | apply q_awF | apply y_seq_if | apply y_if)
local macro_rules | `(tactic| wtm_at "zx") => `(tactic| first
  | wtm_at "zlf"
  | wtm_at "zst"
  | ((with_reducible apply q_rangeN); rotate_left; omega) | ((with_reducible apply q_rangeI); rotate_left; omega) | ((with_reducible apply q_range2); rotate_left; rotate_left; omega)
  | wtm_at "zop" | wtm_at "zpt"
  | exact (fun z => (ff z rfl).elim)
  | (intro z; exfalso; simp at z <;> omega)
  | omega
  | intro _)
local macro_rules | `(tactic| tbr_iter [$ts,*]) => `(tactic| repeat' (first | ((with_reducible first | apply l_for | apply l_while); first $[| exact $ts]*) $[| with_reducible exact $ts]* | wtm_at "zx"))
/-! ### the same data -/
abbrev Bis (F : List D → Res D) : Sm := (sSeq (sIf (tV (xUn (fun d => some (.bool ([.tuple, .list].any fun T => isiD T d))) (oV 1))) (sSeq (sIf (tOrZ (tBin neD (oE (xUn (fun d => some (.bool (isiD .tuple d))) (oV 0))) (oE (xUn (fun d => some (.bool (isiD .tuple d))) (oV 1)))) (tNotZ (tV (xUn (fun d => some (.bool ([.tuple, .list].any fun T => isiD T d))) (oV 0))))) (sRet (xC (.bool false))) sNext)
    (sRet (xAnd (xBin (bD eqD) (oE (xUn lenD (oV 0))) (oE (xUn lenD (oV 1)))) (xUn allD (oE (fun e => (fCompL (srZip (xVar 0) (xVar 1)) [2, 3] (svTup [(svName 2), (svName 3)]) teYes (xCall F (arCons (xVar 2) (arCons (xVar 3) arNil)))) e >>= fun p => .ok (.list p.1, p.2))))))) sNext)
    (sSeq (sIf (tOrZ (tBin isND (oV 1) (oE (xC .none))) (tV (xUn (fun d => some (.bool (isiD .bool d))) (oV 1)))) (sRet (xIf (tBin isND (oV 1) (oE (xC .none))) (xBin (bD isND) (oV 0) (oE (xC .none))) (xAnd (xUn (fun d => some (.bool (isiD .bool d))) (oV 0)) (xBin (bD eqD) (oE (xUn reprD (oV 0))) (oE (xUn reprD (oV 1))))))) sNext)
    (sSeq (sIf (tV (xUn (fun d => some (.bool (isiD .str d))) (oV 1))) (sRet (xAnd (xUn (fun d => some (.bool (isiD .str d))) (oV 0)) (xBin (bD eqD) (oE (xUn reprD (oV 0))) (oE (xUn reprD (oV 1)))))) sNext)
    (sRet (xAnd (xUn (fun d => some (.bool (isiD .int d))) (oV 0)) (xAnd (xNot (xUn (fun d => some (.bool (isiD .bool d))) (oV 0))) (xBin (bD eqD) (oE (xUn reprD (oV 0))) (oE (xUn reprD (oV 1))))))))))
theorem is_text : B__law_is_4 = Bis F__law_is_3 := rfl
theorem is_text3 : B__law_is_3 = Bis F__law_is_2 := rfl
abbrev tlD : D → Option D := fun d => some (.bool ([.tuple, .list].any fun T => isiD T d))
theorem tl_list {ds : List D} : tlD (.list ds) = some (.bool true) := rfl
theorem tl_tup {ds : List D} : tlD (.tuple ds) = some (.bool true) := rfl
theorem tl_int {i : Int} : tlD (.int i) = some (.bool false) := rfl
theorem tl_bool {b : Bool} : tlD (.bool b) = some (.bool false) := rfl
theorem tl_none : tlD .none = some (.bool false) := rfl
theorem tl_str {s : Str} : tlD (.str s) = some (.bool false) := rfl
theorem isn_bool {b : Bool} : isND (.bool b) .none = some false := rfl
theorem isn_int {i : Int} : isND (.int i) .none = some false := rfl
theorem is_bool (F : List D → Res D) (b : Bool) : fnP 4 (Bis F) [.bool b, .bool b] = .ok (.bool true) := by
  have r := (sh_bool b).repr (by decide) (by decide)
  apply fn_ok2
  · unfold Bis
    tbr_iter [tl_bool, r, eq_strS _, isn_bool]
    all_goals first | (apply ev_xif0 <;> tbr_iter [tl_bool, r, eq_strS _, isn_bool]) | skip
  · rfl
theorem is_int (F : List D → Res D) {i : Int} (h : -1000000000000 < i ∧ i < 1000000000000) : fnP 4 (Bis F) [.int i, .int i] = .ok (.bool true) := by
  have r := (sh_int h).repr (by decide) (by decide)
  apply fn_ok2
  · unfold Bis
    tbr_iter [tl_int, r, eq_strS _, isn_int]
  · rfl
theorem zip_self {α : Type} : ∀ (l : List α), ∀ p ∈ l.zip l, p.1 = p.2 ∧ p.1 ∈ l
  | [], _, m => by cases m
  | x :: l, p, m => by
    rcases List.mem_cons.mp m with rfl | m
    · exact ⟨rfl, List.mem_cons_self⟩
    · exact ⟨(zip_self l p m).1, List.mem_cons_of_mem _ (zip_self l p m).2⟩
theorem is_list (F : List D → Res D) {ds : List D} (h : ∀ d ∈ ds, F [d, d] = .ok (.bool true)) (hl : ds.length ≤ 1000) : fnP 4 (Bis F) [.list ds, .list ds] = .ok (.bool true) := by
  have hn : lenD (.list ds) = some (.int (ds.length : Int)) := by have := len_list (f := id) (l := ds); rwa [List.map_id] at this
  have hz : (ds.zip ds).length ≤ 1000000 := by rw [List.length_zip]; omega
  have zz : zipOf (.list ds) (.list ds) = some ((ds.zip ds).map fun p => PyData.tuple [p.1, p.2]) := by have := zip_ll (f := id) (g := id) (xs := ds) (ys := ds); rwa [List.map_id] at this
  have c : ∀ p ∈ ds.zip ds, F [p.1, p.2] = .ok (.bool true) := fun p m => by
    rw [← (zip_self ds p m).1]; exact h _ (zip_self ds p m).2
  have cc : fCompL (srZip (xVar 0) (xVar 1)) [2, 3] (svTup [svName 2, svName 3]) teYes (xCall F (arCons (xVar 2) (arCons (xVar 3) arNil))) (envP 4 [.list ds, .list ds]) = .ok ((ds.zip ds).map (fun _ => PyData.bool true), envP 4 [.list ds, .list ds]) := by
    refine (q_comp (enc := fun p : D × D => PyData.tuple [p.1, p.2]) (xs := ds.zip ds) (g := fun _ => .bool true) (e1 := envP 4 [.list ds, .list ds]) (A := fun p => [.val (.list ds), .val (.list ds), .val p.1, .val p.2]) (B := fun p => [.val (.list ds), .val (.list ds), .val p.1, .val p.2]) ?_ ?_ rfl ?_ ?_ ?_).trans rfl
    · tbr_iter [zz]
    · exact y_sz hz
    · intro p m; rfl
    · intro p m; have := c p m; tbr_iter [this]
    · intro p m; rfl
  have aa := all_true1 (l := ds.zip ds) (f := fun _ => true) (fun _ _ => rfl)
  apply fn_ok2
  · unfold Bis
    apply y_seq_if (k := true)
    · tbr_iter [tl_list]
    · intro _
      apply y_seq_seq
      tbr_iter [tl_list, hn, cc, aa]
    · exact fun z => nomatch z
  · simp
theorem is_tup (F : List D → Res D) {ds : List D} (h : ∀ d ∈ ds, F [d, d] = .ok (.bool true)) (hl : ds.length ≤ 1000) : fnP 4 (Bis F) [.tuple ds, .tuple ds] = .ok (.bool true) := by
  have hn : lenD (.tuple ds) = some (.int (ds.length : Int)) := by have := len_tup (f := id) (l := ds); rwa [List.map_id] at this
  have hz : (ds.zip ds).length ≤ 1000000 := by rw [List.length_zip]; omega
  have zz : zipOf (.tuple ds) (.tuple ds) = some ((ds.zip ds).map fun p => PyData.tuple [p.1, p.2]) := by have := zip_tt (f := id) (g := id) (xs := ds) (ys := ds); rwa [List.map_id] at this
  have c : ∀ p ∈ ds.zip ds, F [p.1, p.2] = .ok (.bool true) := fun p m => by
    rw [← (zip_self ds p m).1]; exact h _ (zip_self ds p m).2
  have cc : fCompL (srZip (xVar 0) (xVar 1)) [2, 3] (svTup [svName 2, svName 3]) teYes (xCall F (arCons (xVar 2) (arCons (xVar 3) arNil))) (envP 4 [.tuple ds, .tuple ds]) = .ok ((ds.zip ds).map (fun _ => PyData.bool true), envP 4 [.tuple ds, .tuple ds]) := by
    refine (q_comp (enc := fun p : D × D => PyData.tuple [p.1, p.2]) (xs := ds.zip ds) (g := fun _ => .bool true) (e1 := envP 4 [.tuple ds, .tuple ds]) (A := fun p => [.val (.tuple ds), .val (.tuple ds), .val p.1, .val p.2]) (B := fun p => [.val (.tuple ds), .val (.tuple ds), .val p.1, .val p.2]) ?_ ?_ rfl ?_ ?_ ?_).trans rfl
    · tbr_iter [zz]
    · exact y_sz hz
    · intro p m; rfl
    · intro p m; have := c p m; tbr_iter [this]
    · intro p m; rfl
  have aa := all_true1 (l := ds.zip ds) (f := fun _ => true) (fun _ _ => rfl)
  apply fn_ok2
  · unfold Bis
    apply y_seq_if (k := true)
    · tbr_iter [tl_tup]
    · intro _
      apply y_seq_seq
      tbr_iter [tl_tup, hn, cc, aa]
    · exact fun z => nomatch z
  · simp
abbrev Leaf (d : D) : Prop := (∃ b, d = .bool b) ∨ ∃ i : Int, d = .int i ∧ -1000000000000 < i ∧ i < 1000000000000
theorem leaf3 {d : D} (h : Leaf d) : F__law_is_3 [d, d] = .ok (.bool true) := by
  rcases h with ⟨b, rfl⟩ | ⟨i, rfl, h⟩
  · exact is_bool F__law_is_2 b
  · exact is_int F__law_is_2 h
theorem law_is_list {ds : List D} (h : ∀ d ∈ ds, Leaf d) (hl : ds.length ≤ 1000) : F__law_is [.list ds, .list ds] = .ok (.bool true) :=
  is_list F__law_is_3 (fun d m => leaf3 (h d m)) hl
theorem law_is_tup {ds : List D} (h : ∀ d ∈ ds, Leaf d) (hl : ds.length ≤ 1000) : F__law_is [.tuple ds, .tuple ds] = .ok (.bool true) :=
  is_tup F__law_is_3 (fun d m => leaf3 (h d m)) hl
/-! ### numbers drawn -/
theorem fnI_ok2 {n : Nat} {B : Sm} {v v' : D} {xs ys ds : List D} {e : VEnv} (h : B (envI n xs ds) = .ok (.rt v' e)) (hv : fnEndI (.ok (.rt v' e)) = .ok (v, ys)) : fnI n B xs ds = .ok (v, ys) := by unfold fnI; rw [h, hv]
theorem law_any {h : List D} (hh : Hand h) {α : Type} {f : α → D} {xs : List α} (h0 : 0 < xs.length) (hl : xs.length ≤ 1000000) : ∃ x ∈ xs, ∃ h', F__law_any h [.list (xs.map f)] = .ok (f x, h') ∧ Hand h' := by
  have q := dr_lo (m := (xs.length : Int)) hh (by omega)
  have e := dr_eq (m := (xs.length : Int)) hh (by omega)
  have k := dr_hand (m := (xs.length : Int)) hh (by omega)
  refine ⟨xs[(dv h (xs.length : Int)).toNat]'(by omega), List.getElem_mem _, _, ?_, k⟩
  refine fnI_ok2 (B := B__law_any) (e := [.own (dh h (xs.length : Int)), .val (.list (xs.map f))]) (v' := f (xs[(dv h (xs.length : Int)).toNat]'(by omega))) ?_ rfl
  show B__law_any [.own h, .val (.list (xs.map f))] = _
  have c : xCallI 0 F__law_draw (arCons (xUn lenD (oV 1)) arNil) [.own h, .val (.list (xs.map f))] = .ok (.int (dv h (xs.length : Int)), [.own (dh h (xs.length : Int)), .val (.list (xs.map f))]) :=
    (ev_callI (ds := [.int (xs.length : Int)]) rfl (ev_cons (ev_un rfl rfl len_list) ev_nil) rfl e).trans rfl
  have hi : ixD (.list (xs.map f)) (.int (dv h (xs.length : Int))) = some (f (xs[(dv h (xs.length : Int)).toNat]'(by omega))) := ix_list (by omega)
  unfold B__law_any
  tbr_iter [c, hi]
end K75

namespace Z
open PySem PySem.Spec PyProof.Rows L2
/-! ### texts joined; comprehensions that draw -/
theorem tx_app (a b : List Nat) : (⟨a.toArray⟩ : Str) ++ ⟨b.toArray⟩ = ⟨(a ++ b).toArray⟩ := by
  show (⟨a.toArray ++ b.toArray⟩ : Str) = _
  simp
theorem join_ones' : ∀ (l : List Nat), Str.join ⟨([] : List Nat).toArray⟩ (l.map fun c => (⟨[c].toArray⟩ : Str)) = ⟨l.toArray⟩
  | [] => rfl
  | [c] => rfl
  | c :: d :: l => by
    have ih := join_ones' (d :: l)
    rw [List.map_cons] at ih
    rw [List.map_cons, List.map_cons]
    show (⟨[c].toArray⟩ : Str) ++ ⟨([] : List Nat).toArray⟩ ++ Str.join _ (_ :: _) = _
    rw [ih, tx_app, tx_app]
    rfl
theorem strsOf_tx : ∀ (ls : List (List Nat)), strsOf (ls.map tx) = some (ls.map fun l => (⟨l.toArray⟩ : Str))
  | [] => rfl
  | l :: ls => by
    rw [List.map_cons, List.map_cons]
    show (strsOf (ls.map tx)).map _ = _
    rw [strsOf_tx ls]; rfl
theorem ones_sum : ∀ (l : List Nat), (l.map fun _ => 1).sum = l.length
  | [] => rfl
  | c :: l => by rw [List.map_cons, List.sum_cons, ones_sum l, List.length_cons]; omega
theorem join_tx {l : List Nat} (h : l.length ≤ 1000000) : joinD (tx []) [.list (l.map fun c => tx [c])] = some (tx l) := by
  have e : (l.map fun c => tx [c]) = (l.map fun c => [c]).map tx := by rw [List.map_map]; rfl
  have hs := strsOf_tx (l.map fun c => [c])
  rw [← e] at hs
  have q : joinD (tx []) [.list (l.map fun c => tx [c])] = match strsOf (l.map fun c => tx [c]) with
    | some ys => if (ys.map (·.length)).sum + ys.length * (⟨([] : List Nat).toArray⟩ : Str).length ≤ 16777216 then some (.str (Txt.join ⟨([] : List Nat).toArray⟩ ys)) else none
    | none => none := rfl
  rw [q, hs]
  have n : (((l.map fun c => [c]).map fun l => (⟨l.toArray⟩ : Str)).map (·.length)).sum = l.length := by
    rw [List.map_map, List.map_map]
    exact ones_sum l
  show (if _ then _ else _) = _
  rw [n, if_pos (by rw [str_len]; simp; omega)]
  congr 2
  show Builtin.Str.glued _ _ = _
  rw [StrLaws.glued_eq_join, List.map_map]
  exact join_ones' l
theorem comp_stM {α σ : Type} {enc : α → D} {own : List Nat} {sv : Sv} {el : Ev} (mk : σ → VEnv) (Inv : σ → Prop) (P : D → Prop) : ∀ {xs : List α} {s0 : σ}, Inv s0 →
    (∀ x ∈ xs, ∀ s, Inv s → ∃ e1 d e2 s', sv (enc x) (mk s) = some e1 ∧ el e1 = .ok (d, e2) ∧ wipeE e2 own = mk s' ∧ Inv s' ∧ P d) →
    ∃ ds s', compGo own sv teYes el (xs.map enc) (mk s0) = .ok (ds, mk s') ∧ Inv s' ∧ ds.length = xs.length ∧ ∀ d ∈ ds, P d
  | [], s0, h0, _ => ⟨[], s0, rfl, h0, rfl, fun _ m => nomatch m⟩
  | x :: xs, s0, h0, h => by
    obtain ⟨e1, d, e2, s1, a1, a2, a3, a4, a5⟩ := h x List.mem_cons_self s0 h0
    obtain ⟨ds, s', b1, b2, b3, b4⟩ := comp_stM (xs := xs) mk Inv P a4 fun y m => h y (List.mem_cons_of_mem _ m)
    refine ⟨d :: ds, s', ?_, b2, by rw [List.length_cons, List.length_cons, b3], fun z m => ?_⟩
    · rw [List.map_cons]
      show (ofO (sv (enc x) (mk s0)) >>= fun e1 => nx (teYes e1) >>= fun b => if b.1 = true then nx (el b.2) >>= fun y => compGo own sv teYes el (xs.map enc) (wipeE y.2 own) >>= fun z => .ok (y.1 :: z.1, z.2) else compGo own sv teYes el (xs.map enc) (wipeE b.2 own)) = _
      rw [a1]
      show (nx (el e1) >>= fun y => compGo own sv teYes el (xs.map enc) (wipeE y.2 own) >>= fun z => .ok (y.1 :: z.1, z.2)) = _
      rw [a2]
      show (compGo own sv teYes el (xs.map enc) (wipeE e2 own) >>= fun z => Res.ok (d :: z.1, z.2)) = _
      rw [a3, b1]
      rfl
    · rcases List.mem_cons.mp m with rfl | m
      · exact a5
      · exact b4 z m
/-- [e(..) for x in xs], where e(..) draws -/
theorem q_compH {α σ : Type} {enc : α → D} {src : Sr} {own : List Nat} {sv : Sv} {el : Ev} {xs : List α} {e e1 : VEnv} {s0 : σ} (mk : σ → VEnv) (Inv : σ → Prop) (P : D → Prop) (h1 : src e = .ok (xs.map enc, e1)) (hz : xs.length ≤ sizeLine) (hw : wipeE e1 own = mk s0) (hw2 : ∀ s, wipeE (mk s) own = mk s) (h0 : Inv s0)
    (h : ∀ x ∈ xs, ∀ s, Inv s → ∃ e1 d e2 s', sv (enc x) (mk s) = some e1 ∧ el e1 = .ok (d, e2) ∧ wipeE e2 own = mk s' ∧ Inv s' ∧ P d) :
    ∃ ds s', fCompL src own sv teYes el e = .ok (ds, mk s') ∧ Inv s' ∧ ds.length = xs.length ∧ ∀ d ∈ ds, P d := by
  obtain ⟨ds, s', b1, b2, b3, b4⟩ := comp_stM (enc := enc) (own := own) (sv := sv) (el := el) (xs := xs) mk Inv P h0 h
  refine ⟨ds, s', ?_, b2, b3, b4⟩
  unfold fCompL
  rw [h1]
  show (if (xs.map enc).length ≤ sizeLine then (compGo own sv teYes el (xs.map enc) (wipeE e1 own) >>= fun z => .ok (z.1, wipeE z.2 own)) else .stuck) = _
  rw [if_pos (by rw [List.length_map]; exact hz), hw, b1]
  show Res.ok (ds, wipeE (mk s') own) = _
  rw [hw2]
/-! ### a while that may return -/
theorem while_stE {σ : Type} {t : Te} {body : Sm} (mk : σ → VEnv) (c : σ → Bool) (Inv : σ → Prop) (Q : D → Prop) (m : σ → Nat) (ht : ∀ s, Inv s → t (mk s) = .ok (c s, mk s))
    (hb : ∀ s, Inv s → c s = true → (∃ s', body (mk s) = .ok (.nx (mk s')) ∧ Inv s' ∧ m s' < m s) ∨ ∃ d e', body (mk s) = .ok (.rt d e') ∧ Q d) : ∀ (n : Nat) (s0 : σ), Inv s0 → m s0 < n →
      (∃ s, whileGo [] t body n (mk s0) = .ok (.nx (mk s)) ∧ Inv s ∧ c s = false) ∨ ∃ d e', whileGo [] t body n (mk s0) = .ok (.rt d e') ∧ Q d
  | 0, s0, _, hm => absurd hm (by omega)
  | n + 1, s0, h0, hm => by
    have q : whileGo [] t body (n + 1) (mk s0) = (t (mk s0) >>= fun p => if p.1 = true then (body p.2 >>= fun w => match w with
      | .nx e2 => whileGo [] t body n (wipeE e2 [])
      | .ct e2 => whileGo [] t body n (wipeE e2 [])
      | .bk e2 => .ok (.nx (wipeE e2 []))
      | .rt d e2 => .ok (.rt d e2)) else .ok (.nx (wipeE p.2 []))) := rfl
    rw [q, ht s0 h0]
    simp only [Res.bind_ok]
    cases hc : c s0 with
    | false => exact .inl ⟨s0, by simp only [Bool.false_eq_true, if_false]; rfl, h0, hc⟩
    | true =>
      rcases hb s0 h0 hc with ⟨s1, a1, a2, a3⟩ | ⟨d, e', a1, a2⟩
      · rcases while_stE mk c Inv Q m ht hb n s1 a2 (by omega) with ⟨s2, b1, b2, b3⟩ | ⟨d, e', b1, b2⟩
        · refine .inl ⟨s2, ?_, b2, b3⟩
          simp only [if_true, a1, Res.bind_ok]
          exact b1
        · refine .inr ⟨d, e', ?_, b2⟩
          simp only [if_true, a1, Res.bind_ok]
          exact b1
      · refine .inr ⟨d, e', ?_, a2⟩
        simp only [if_true, a1, Res.bind_ok]
theorem y_whileE {σ : Type} {t : Te} {body : Sm} {n : Nat} {s0 : σ} {e : VEnv} (mk : σ → VEnv) (c : σ → Bool) (Inv : σ → Prop) (Q : D → Prop) (m : σ → Nat) (he : e = mk s0) (h0 : Inv s0) (hm : m s0 < n) (ht : ∀ s, Inv s → t (mk s) = .ok (c s, mk s))
    (hb : ∀ s, Inv s → c s = true → (∃ s', body (mk s) = .ok (.nx (mk s')) ∧ Inv s' ∧ m s' < m s) ∨ ∃ d e', body (mk s) = .ok (.rt d e') ∧ Q d) : (∃ s, sWhile n [] t body e = .ok (.nx (mk s)) ∧ Inv s ∧ c s = false) ∨ ∃ d e', sWhile n [] t body e = .ok (.rt d e') ∧ Q d := by
  subst he
  exact while_stE mk c Inv Q m ht hb n s0 h0 hm
theorem y_seq_whileR {n : Nat} {fg : List Nat} {t : Te} {body g : Sm} {e e1 : VEnv} {d : D} (h : sWhile n fg t body e = .ok (.rt d e1)) : sSeq (sWhile n fg t body) g e = .ok (.rt d e1) := ev_seqR h
/-! ### ranges with a step -/
theorem rangeS_map : ∀ (n : Nat) (lo st : Int), rangeS lo st n = (List.range n).map fun k : Nat => PyData.int (lo + st * (k : Int))
  | 0, _, _ => rfl
  | n + 1, lo, st => by
    rw [List.range_succ_eq_map, List.map_cons, List.map_map]
    show PyData.int lo :: rangeS (lo + st) st n = _
    rw [rangeS_map n]
    congr 1
    · congr 1; simp
    · apply List.map_congr_left
      intro k _
      show PyData.int (lo + st + st * (k : Int)) = PyData.int (lo + st * ((k + 1 : Nat) : Int))
      congr 1
      rw [show ((k + 1 : Nat) : Int) = (k : Int) + 1 by omega, Int.mul_add, Int.mul_one]
      omega
theorem rangeOf3_of {i j c : Int} (h : (decide (0 < c) && decide (c.natAbs < 1073741824) && Builtin.Range.small i j c && decide ((((Builtin.Range.rangeSize i j c).toNat : Nat) : Int) = Builtin.Range.rangeSize i j c)) = true) : rangeOf3 [.int i, .int j, .int c] = some (rangeS i c (Builtin.Range.rangeSize i j c).toNat) := by
  unfold rangeOf3
  exact if_pos h
theorem q_range3 {f g h : Ev} {e e1 e2 e3 : VEnv} {a b c : D} {ds : List D} (h1 : f e = .ok (a, e1)) (h2 : g e1 = .ok (b, e2)) (h3 : h e2 = .ok (c, e3)) (hr : rangeOf3 [a, b, c] = some ds) : srR3 f g h e = .ok (ds, e3) := by
  unfold srR3
  rw [h1]; simp only [Res.bind_ok]
  rw [h2]; simp only [Res.bind_ok]
  rw [h3]; simp only [Res.bind_ok]
  rw [hr]; rfl
/-! ### bigger ints shown -/
theorem sh_big {i : Int} (h : -9223372036854775808 < i ∧ i < 9223372036854775808) : Sh (.int i) 0 2000 := ⟨by
  unfold mayShow
  refine decide_eq_true ?_
  have h1 : i.natAbs < 2 ^ 1920 := by
    have : i.natAbs < 9223372036854775808 := by omega
    exact Nat.lt_of_lt_of_le this (by decide +kernel)
  rcases Nat.eq_zero_or_pos i.natAbs with z | z
  · rw [z]; decide
  · exact (Nat.log2_lt (by omega)).mpr h1, by simp [PyData.depth], by simp [shownMost]⟩
end Z

namespace K75
open PySem PySem.Spec PyProof.Rows L2 Z
local macro_rules | `(tactic| wtm_at "zsz") => `(tactic| first | assumption | omega | (simp only [List.length_append, List.length_drop, List.length_take, List.length_map, List.length_range, List.length_cons, List.length_nil]; omega))
local macro_rules | `(tactic| wtm_at "zop") => `(tactic| with_reducible first
  | exact add_int | exact sub_int | exact lt_int | exact le_int | exact gt_int | exact ge_int | exact eq_int | exact ne_int | exact neg_int | exact int_int | exact int_bool | exact abs_int
  | apply op_bD
  | exact len_rowD | exact len_tup | exact len_list
  | exact tup_ints | exact tup_list | exact tup_tup | exact lst_tup | exact all_map | exact any_map | exact sum_map | exact sum_rowZ
  | exact seq_row _ | exact seq_tx _ | exact eq_tx | exact ne_tx | exact ne_boolB _ _ | exact eq_boolB _ _ | exact zip_tt | exact zip_ll | exact enum_l | exact seq_list | exact seq_tup | exact eq_rowZ | exact ne_rowZ | exact lt_rowZ | exact le_rowZ | exact gt_rowZ | exact ge_rowZ)
local macro_rules | `(tactic| wtm_at "zpt") => `(tactic| first
  | ((with_reducible apply isi_t); exact rfl) | ((with_reducible apply isi_f); exact rfl)
  | ((with_reducible apply mul_smallL); exact (show small _ = true from by decide)) | ((with_reducible apply mul_smallR); exact (show small _ = true from by decide))
  | ((with_reducible apply mul_smallR); apply small_ofI; omega) | ((with_reducible apply mul_smallL); apply small_ofI; omega)
  | ((with_reducible apply mod_posZ); omega) | ((with_reducible apply div_posZ); omega)
  | ((with_reducible apply cut_row_from); omega) | ((with_reducible apply cut_row_to); omega) | ((with_reducible apply cut_list_from); omega) | ((with_reducible apply cut_list_to); omega) | ((with_reducible apply cut_tup_from); omega) | ((with_reducible apply cut_tup_to); omega)
  | ((with_reducible apply len_tx); wtm_at "zsz") | ((with_reducible apply zip_tx) <;> assumption) | ((with_reducible apply add_tx); wtm_at "zsz") | ((with_reducible apply cut_tx_from) <;> wtm_at "zsz") | ((with_reducible apply cut_tx_to) <;> wtm_at "zsz") | ((with_reducible apply cut_tx_init); wtm_at "zsz") | ((with_reducible apply insert_own); wtm_at "zsz") | ((with_reducible apply extend_own); wtm_at "zsz")
  | ((with_reducible apply add_rowZ); wtm_at "zsz")
  | ((with_reducible apply ix_row); omega) | ((with_reducible apply ix_list); omega) | ((with_reducible apply ix_tup); omega))
local macro_rules | `(tactic| wtm_at "zlf") => `(tactic| first
  | ((with_reducible apply rdv); exact rfl) | ((with_reducible apply l_get); exact rfl) | ((with_reducible apply l_svN); exact rfl) | ((with_reducible apply l_svT); exact rfl) | ((with_reducible apply l_wipe); exact rfl) | ((with_reducible apply l_ble); exact rfl) | ((with_reducible apply l_ty); exact rfl) | ((with_reducible apply l_env); exact rfl) | ((with_reducible apply l_vo); exact rfl) | ((with_reducible apply l_sc); exact rfl) | ((with_reducible apply l_frz); exact rfl) | ((with_reducible apply l_setW); exact rfl) | ((with_reducible apply l_own); exact rfl) | ((with_reducible apply l_cast); first | exact rfl | (apply cast_nn; omega))
  | ((with_reducible apply append_own); wtm_at "zsz") | ((with_reducible apply y_sz); wtm_at "zsz"))
local macro_rules | `(tactic| wtm_at "zst") => `(tactic| with_reducible first
  | exact q_c | apply q_var | apply q_oVg | apply q_frzG | apply ev_oE | exact ev_nil | apply ev_cons | apply ev_bin | apply ev_un | apply ev_tbin | apply ev_call | apply ev_callI | apply y_tup | apply y_lst | apply y_flst | apply ev_fr
  | apply q_chain | apply q_and | apply q_or | apply q_xand | apply q_xor | apply ev_not | apply ev_xnot | apply ev_test | apply ev_tv | apply q_slFrom | apply q_slTo | apply q_meth | apply q_comp | apply q_compF | apply q_sortC
  | apply q_range1 | apply q_range2 | apply ev_seqS | apply q_zip | apply q_zipS | apply y_aug | apply y_seq_aug | apply y_augE | apply q_comp2 | apply q_enum | apply y_nxE | apply y_ownE | apply y_parE | apply ev_ret | apply y_dropE2 | apply y_asgE | apply y_seq_ret | exact y_seq_raise | exact y_raise | apply y_seq_nx | apply y_seq_asg | apply y_seq_asgG | apply y_seq_own | apply y_seq_par | apply y_seq_drop | apply y_seq_parW | apply y_seq_for | apply y_seq_while | apply q_ownM | apply q_keep
  | exact q_awNil | apply q_awV | apply q_awF | apply y_seq_if | apply y_if)
local macro_rules | `(tactic| wtm_at "zx") => `(tactic| first
  | wtm_at "zlf"
  | wtm_at "zst"
  | ((with_reducible apply q_rangeN); rotate_left; omega) | ((with_reducible apply q_rangeI); rotate_left; omega) | ((with_reducible apply q_range2); rotate_left; rotate_left; omega)
  | wtm_at "zop" | wtm_at "zpt"
  | exact (fun z => (ff z rfl).elim)
  | (intro z; exfalso; simp at z <;> omega)
  | omega
  | intro _)
local macro_rules | `(tactic| tbr_iter [$ts,*]) => `(tactic| repeat' (first | ((with_reducible first | apply l_for | apply l_while); first $[| exact $ts]*) $[| with_reducible exact $ts]* | wtm_at "zx"))
/-! ### a word, drawn -/
theorem signs_of : ∀ {ds : List D}, (∀ d ∈ ds, d = tx [76] ∨ d = tx [82]) → ∃ l : List Nat, ds = l.map (fun c => tx [c]) ∧ (∀ c ∈ l, c = 76 ∨ c = 82)
  | [], _ => ⟨[], rfl, fun _ m => nomatch m⟩
  | d :: ds, h => by
    obtain ⟨l, e, hl⟩ := signs_of fun x m => h x (List.mem_cons_of_mem _ m)
    rcases h d List.mem_cons_self with rfl | rfl
    · exact ⟨76 :: l, by rw [e]; rfl, fun c m => by rcases List.mem_cons.mp m with rfl | m; exact .inl rfl; exact hl c m⟩
    · exact ⟨82 :: l, by rw [e]; rfl, fun c m => by rcases List.mem_cons.mp m with rfl | m; exact .inr rfl; exact hl c m⟩
theorem drawn_word {h : List D} (hh : Hand h) {m : Int} (h1 : 1 ≤ m) (h2 : m ≤ 16) : ∃ l h', F__law_drawn_word h [.int m] = .ok (tx l, h') ∧ Hand h' ∧ TW l := by
  have q1 := dr_lo (m := m) hh (by omega)
  have e1 := dr_eq (m := m) hh (by omega)
  have k1 := dr_hand (m := m) hh (by omega)
  generalize dv h m = d1 at *
  generalize dh h m = g at *
  obtain ⟨t, rfl⟩ : ∃ t : Nat, d1 = (t : Int) := ⟨d1.toNat, by omega⟩
  have c0 : srR1 (xCallI 0 F__law_draw (arCons (xVar 1) arNil)) [.own h, .val (.int m), .no] = .ok ((List.range t).map fun k : Nat => PyData.int (k : Int), [.own g, .val (.int m), .no]) :=
    q_range1 ((ev_callI (ds := [.int m]) rfl rfl rfl e1).trans rfl) rfl (by omega)
  obtain ⟨ds, s', cc, k2, len, hp⟩ := q_compH (enc := fun k : Nat => PyData.int (k : Int)) (src := srR1 (xCallI 0 F__law_draw (arCons (xVar 1) arNil))) (own := [2]) (sv := svName 2) (el := xCallI 0 F__law_any (arCons (xLst (arCons (xC (tx [76])) (arCons (xC (tx [82])) arNil))) arNil)) (xs := List.range t) (e := [.own h, .val (.int m), .no]) (e1 := [.own g, .val (.int m), .no]) (s0 := g)
    (fun s => [.own s, .val (.int m), .no]) Hand (fun d => d = tx [76] ∨ d = tx [82]) c0 (y_sz (by rw [List.length_range]; omega)) rfl (fun _ => rfl) k1
    (fun x _ s hs => by
      obtain ⟨y, my, s', ey, ks⟩ := law_any hs (f := tx) (xs := [[76], [82]]) (by decide) (by decide)
      refine ⟨[.own s, .val (.int m), .val (.int (x : Int))], tx y, [.own s', .val (.int m), .val (.int (x : Int))], s', rfl, ?_, rfl, ks, ?_⟩
      · exact (ev_callI (ds := [.list ([[76], [82]].map tx)]) rfl (ev_cons (y_lst (ev_cons q_c (ev_cons q_c ev_nil)) rfl) ev_nil) rfl ey).trans rfl
      · rcases List.mem_cons.mp my with rfl | my
        · exact .inl rfl
        rcases List.mem_cons.mp my with rfl | my
        · exact .inr rfl
        · cases my)
  obtain ⟨l, rfl, hl⟩ := signs_of hp
  rw [List.length_map, List.length_range] at len
  have jn := join_tx (l := l) (by omega)
  have ad : addD (tx l) (tx [67]) = some (tx (l ++ [67])) := add_tx (by rw [List.length_singleton]; omega)
  refine ⟨l ++ [67], s', ?_, k2, l, rfl, hl, by omega⟩
  refine fnI_ok2 (B := B__law_drawn_word) (e := [.own s', .val (.int m), .no]) (v' := tx (l ++ [67])) ?_ rfl
  show B__law_drawn_word [.own h, .val (.int m), .no] = _
  unfold B__law_drawn_word
  simp only [dE, dC, dL, Z.dR]
  refine ev_ret (ev_bin (ev_oE (q_meth (ds := [.list (l.map fun c => tx [c])]) (d := tx []) (ev_oE q_c) rfl rfl (ev_cons ?_ ev_nil) rfl jn)) (ev_oE q_c) rfl rfl ad)
  show (fCompL _ _ _ _ _ _ >>= fun p => (.ok (PyData.list p.1, p.2) : Res (D × VEnv))) = _
  rw [cc]; rfl
end K75

namespace K75
open PySem PySem.Spec PyProof.Rows L2 Z
local macro_rules | `(tactic| wtm_at "zsz") => `(tactic| first | assumption | omega | (simp only [List.length_append, List.length_drop, List.length_take, List.length_map, List.length_range, List.length_cons, List.length_nil]; omega))
local macro_rules | `(tactic| wtm_at "zop") => `(tactic| with_reducible first
  | exact add_int | exact sub_int | exact lt_int | exact le_int | exact gt_int | exact ge_int | exact eq_int | exact ne_int | exact neg_int | exact int_int | exact int_bool | exact abs_int
  | apply op_bD
  | exact len_rowD | exact len_tup | exact len_list
  | exact tup_ints | exact tup_list | exact tup_tup | exact lst_tup | exact all_map | exact any_map | exact sum_map | exact sum_rowZ
  | exact seq_row _ | exact seq_tx _ | exact eq_tx | exact ne_tx | exact ne_boolB _ _ | exact eq_boolB _ _ | exact zip_tt | exact zip_ll | exact enum_l | exact seq_list | exact seq_tup | exact eq_rowZ | exact ne_rowZ | exact lt_rowZ | exact le_rowZ | exact gt_rowZ | exact ge_rowZ)
local macro_rules | `(tactic| wtm_at "zpt") => `(tactic| first
  | ((with_reducible apply isi_t); exact rfl) | ((with_reducible apply isi_f); exact rfl)
  | ((with_reducible apply mul_smallL); exact (show small _ = true from by decide)) | ((with_reducible apply mul_smallR); exact (show small _ = true from by decide))
  | ((with_reducible apply mul_smallR); apply small_ofI; omega) | ((with_reducible apply mul_smallL); apply small_ofI; omega)
  | ((with_reducible apply mod_posZ); omega) | ((with_reducible apply div_posZ); omega)
  | ((with_reducible apply cut_row_from); omega) | ((with_reducible apply cut_row_to); omega) | ((with_reducible apply cut_list_from); omega) | ((with_reducible apply cut_list_to); omega) | ((with_reducible apply cut_tup_from); omega) | ((with_reducible apply cut_tup_to); omega)
  | ((with_reducible apply len_tx); wtm_at "zsz") | ((with_reducible apply zip_tx) <;> assumption) | ((with_reducible apply add_tx); wtm_at "zsz") | ((with_reducible apply cut_tx_from) <;> wtm_at "zsz") | ((with_reducible apply cut_tx_to) <;> wtm_at "zsz") | ((with_reducible apply cut_tx_init); wtm_at "zsz") | ((with_reducible apply insert_own); wtm_at "zsz") | ((with_reducible apply extend_own); wtm_at "zsz")
  | ((with_reducible apply add_rowZ); wtm_at "zsz")
  | ((with_reducible apply ix_row); omega) | ((with_reducible apply ix_list); omega) | ((with_reducible apply ix_tup); omega))
local macro_rules | `(tactic| wtm_at "zlf") => `(tactic| first
  | ((with_reducible apply rdv); exact rfl) | ((with_reducible apply l_get); exact rfl) | ((with_reducible apply l_svN); exact rfl) | ((with_reducible apply l_svT); exact rfl) | ((with_reducible apply l_wipe); exact rfl) | ((with_reducible apply l_ble); exact rfl) | ((with_reducible apply l_ty); exact rfl) | ((with_reducible apply l_env); exact rfl) | ((with_reducible apply l_vo); exact rfl) | ((with_reducible apply l_sc); exact rfl) | ((with_reducible apply l_frz); exact rfl) | ((with_reducible apply l_setW); exact rfl) | ((with_reducible apply l_own); exact rfl) | ((with_reducible apply l_cast); first | exact rfl | (apply cast_nn; omega))
  | ((with_reducible apply append_own); wtm_at "zsz") | ((with_reducible apply y_sz); wtm_at "zsz"))
local macro_rules | `(tactic| wtm_at "zst") => `(tactic| with_reducible first
  | exact q_c | apply q_var | apply q_oVg | apply q_frzG | apply ev_oE | exact ev_nil | apply ev_cons | apply ev_bin | apply ev_un | apply ev_tbin | apply ev_call | apply ev_callI | apply y_tup | apply y_lst | apply y_flst | apply ev_fr
  | apply q_chain | apply q_and | apply q_or | apply q_xand | apply q_xor | apply ev_not | apply ev_xnot | apply ev_test | apply ev_tv | apply q_slFrom | apply q_slTo | apply q_meth | apply q_comp | apply q_compF | apply q_sortC
  | apply q_range1 | apply q_range2 | apply ev_seqS | apply q_zip | apply q_zipS | apply y_aug | apply y_seq_aug | apply y_augE | apply q_comp2 | apply q_enum | apply y_nxE | apply y_ownE | apply y_parE | apply ev_ret | apply y_dropE2 | apply y_asgE | apply y_seq_ret | exact y_seq_raise | exact y_raise | apply y_seq_nx | apply y_seq_asg | apply y_seq_asgG | apply y_seq_own | apply y_seq_par | apply y_seq_drop | apply y_seq_parW | apply y_seq_for | apply y_seq_while | apply q_ownM | apply q_keep
  | exact q_awNil | apply q_awV | apply q_awF | apply y_seq_if | apply y_if)
local macro_rules | `(tactic| wtm_at "zx") => `(tactic| first
  | wtm_at "zlf"
  | wtm_at "zst"
  | ((with_reducible apply q_rangeN); rotate_left; omega) | ((with_reducible apply q_rangeI); rotate_left; omega) | ((with_reducible apply q_range2); rotate_left; rotate_left; omega)
  | wtm_at "zop" | wtm_at "zpt"
  | exact (fun z => (ff z rfl).elim)
  | (intro z; exfalso; simp at z <;> omega)
  | omega
  | intro _)
local macro_rules | `(tactic| tbr_iter [$ts,*]) => `(tactic| repeat' (first | ((with_reducible first | apply l_for | apply l_while); first $[| exact $ts]*) $[| with_reducible exact $ts]* | wtm_at "zx"))
/-! ### what is shown of a word -/
theorem dSh : (PyData.str (Str.ofString "shift")) = tx [115, 104, 105, 102, 116] := congrArg PyData.str (by decide +kernel)
theorem dGr : (PyData.str (Str.ofString "greatest")) = tx [103, 114, 101, 97, 116, 101, 115, 116] := congrArg PyData.str (by decide +kernel)
abbrev tS : D := tx [115, 104, 105, 102, 116]
abbrev tG : D := tx [103, 114, 101, 97, 116, 101, 115, 116]
theorem eqT_gen {x : D} {ys : List D} {k : Bool} (hx : shape x = true) (hy : shape (.tuple ys) = true) (hk : PyData.eqv x (.tuple ys) = k) (hi : ∀ i, x ≠ .int i) (hd : x ≠ .dict []) : eqTD x (.tuple ys) = some k := by
  have e : eqTD x (.tuple ys) = if shape x && shape (.tuple ys) then some (PyData.eqv x (.tuple ys)) else none := by
    cases x <;> first | rfl | (rename_i l; cases l <;> first | rfl | exact absurd rfl hd)
  rw [e, hx, hy, hk]; rfl
abbrev badD (l : W) : D := .list ((bad l).map fun k : Nat => .int (1 + (k : Int)))
def dueG (l : W) : D := match bad l with
  | [] => .tuple [tG]
  | k :: _ => .tuple [tS, .int (1 + (k : Int))]
theorem len_bad (l : W) : lenD (badD l) = some (.int ((bad l).length : Int)) := len_list
theorem bad_lt {l : W} {k : Nat} (m : k ∈ bad l) : k < l.length - 1 := List.mem_range.mp (List.mem_filter.mp m).1
theorem greatest_shown {l : W} (h : TW l) : F_greatest_shown [tx l] = .ok (dueG l) := by
  have c := check_turn_word h
  have nl := not_less_shifts (tw_ok h) (by have := tw_len h; omega)
  have hn := len_bad l
  have hx : ∀ k r, bad l = k :: r → ixD (badD l) (.int 0) = some (.int (1 + (k : Int))) := fun k r e => by
    unfold badD; rw [e]; exact ix_list (f := fun k : Nat => PyData.int (1 + (k : Int))) ⟨Int.le_refl _, by rw [List.length_cons]; exact Nat.succ_pos _⟩
  unfold dueG
  cases hb : bad l with
  | nil =>
    rw [hb] at hn
    refine fn_ok (e := [.val (tx l), .val (badD l)]) ?_
    · unfold B_greatest_shown
      simp only [dSh, dGr]
      refine y_seq_drop (ev_call (ev_cons (q_var rfl) ev_nil) c) ?_
      refine y_seq_asg (i := 1) (ev_call (ev_cons (q_var rfl) ev_nil) nl) rfl ?_
      refine ev_ret (ev_xif0 (ev_tbin (k := false) (ev_oE (ev_un rfl rfl hn)) rfl rfl rfl rfl (e1 := [.val (tx l), .val (badD l)])) ?_)
      tbr_iter []
  | cons k r =>
    have hx := hx k r hb
    rw [hb] at hn
    refine fn_ok (e := [.val (tx l), .val (badD l)]) ?_
    · unfold B_greatest_shown
      simp only [dSh, dGr]
      refine y_seq_drop (ev_call (ev_cons (q_var rfl) ev_nil) c) ?_
      refine y_seq_asg (i := 1) (ev_call (ev_cons (q_var rfl) ev_nil) nl) rfl ?_
      refine ev_ret (ev_xif1 (ev_tbin (k := true) (ev_oE (ev_un rfl rfl hn)) rfl rfl rfl (gt_int.trans (by rw [decide_eq_true]; rw [List.length_cons]; omega)) (e1 := [.val (tx l), .val (badD l)])) ?_)
      tbr_iter [hx]
/-! ### is a thing what is shown -/
section
variable {l : W} (h : TW l)
include h
abbrev B_igs : Sm := (sSeq (sAsg (xCall F_not_less_shifts (arCons (xVar 0) arNil)) (svName 2))
    (sSeq (sIf (tBin eqD (oE (xUn lenD (oV 1))) (oE (xC (.int 1)))) (sRet (xAnd (xBin (bD eqD) (oE (xBin ixD (oV 1) (oE (xC (.int 0))))) (oE (xC (.str "greatest")))) (xBin (bD eqD) (oE (xUn lenD (oV 2))) (oE (xC (.int 0)))))) sNext)
    (sRet (xAnd (xBin (bD eqD) (oE (xBin ixD (oV 1) (oE (xC (.int 0))))) (oE (xC (.str "shift")))) (xAnd (xCall F_is_within (arCons (xBin ixD (oV 1) (oE (xC (.int 1)))) (arCons (xC (.int 1)) (arCons (xUn lenD (oV 0)) arNil)))) (xBin (bD inD) (oE (xBin ixD (oV 1) (oE (xC (.int 1))))) (oV 2)))))))
theorem igs_not {x : D} (hx : isiD .tuple x = false) : F_is_greatest_shown [tx l, x] = .ok (.bool false) := by
  have c := check_turn_word h
  apply fn_ok2
  · unfold B_is_greatest_shown
    refine y_seq_drop (ev_call (ev_cons (q_var rfl) ev_nil) c) ?_
    apply y_seq_if (k := true) (e1 := [.val (tx l), .val x, .no])
    · exact ev_or1 (ev_not (k := false) (ev_tv (ev_un rfl rfl (by rw [hx]))))
    · intro _
      exact y_seq_ret q_c
    · exact fun z => nomatch z
  · rfl
theorem igs_go {d : D} {ds : List D} {t : List Nat} {b : Bool} (hd : d = .tuple (tx t :: ds)) (hl : ds.length ≤ 1) (hb : ∃ e, B_igs [.val (tx l), .val d, .no] = .ok (.rt (.bool b) e)) : F_is_greatest_shown [tx l, d] = .ok (.bool b) := by
  have c := check_turn_word h
  obtain ⟨e, hb⟩ := hb
  apply fn_ok2
  · unfold B_is_greatest_shown
    refine y_seq_drop (ev_call (ev_cons (q_var rfl) ev_nil) c) ?_
    refine y_seq_ifF (k := false) (e1 := [.val (tx l), .val d, .no]) ?_ rfl (show sSeq sNext _ _ = _ from y_seq_nx hb)
    subst hd
    have hn : notInD (.int ((ds.length + 1 : Nat) : Int)) (.tuple [.int 1, .int 2]) = some false := by
      rcases ds with _ | ⟨_, _ | _⟩
      · rfl
      · rfl
      · simp at hl
    refine q_orF (ev_not (k := true) (ev_tv (ev_un rfl rfl rfl))) rfl (q_orF (ev_tbin (k := false) (ev_oE (ev_un rfl rfl (by show lenD _ = some (.int ((ds.length + 1 : Nat) : Int)); simp [lenD]))) (ev_oE (y_tup (ev_cons q_c (ev_cons q_c ev_nil)) rfl)) rfl rfl hn) rfl ?_)
    refine ev_not (k := true) (ev_tv (ev_un (ev_oE (ev_bin rfl rfl rfl rfl (z := tx t) ?_)) rfl rfl))
    rcases ds with _ | ⟨_, _ | _⟩
    · rfl
    · rfl
    · simp at hl
  · rfl
end
end K75

namespace K75
open PySem PySem.Spec PyProof.Rows L2 Z
local macro_rules | `(tactic| wtm_at "zsz") => `(tactic| first | assumption | omega | (simp only [List.length_append, List.length_drop, List.length_take, List.length_map, List.length_range, List.length_cons, List.length_nil]; omega))
local macro_rules | `(tactic| wtm_at "zop") => `(tactic| with_reducible first
  | exact add_int | exact sub_int | exact lt_int | exact le_int | exact gt_int | exact ge_int | exact eq_int | exact ne_int | exact neg_int | exact int_int | exact int_bool | exact abs_int
  | apply op_bD
  | exact len_rowD | exact len_tup | exact len_list
  | exact tup_ints | exact tup_list | exact tup_tup | exact lst_tup | exact all_map | exact any_map | exact sum_map | exact sum_rowZ
  | exact seq_row _ | exact seq_tx _ | exact eq_tx | exact ne_tx | exact ne_boolB _ _ | exact eq_boolB _ _ | exact zip_tt | exact zip_ll | exact enum_l | exact seq_list | exact seq_tup | exact eq_rowZ | exact ne_rowZ | exact lt_rowZ | exact le_rowZ | exact gt_rowZ | exact ge_rowZ)
local macro_rules | `(tactic| wtm_at "zpt") => `(tactic| first
  | ((with_reducible apply isi_t); exact rfl) | ((with_reducible apply isi_f); exact rfl)
  | ((with_reducible apply mul_smallL); exact (show small _ = true from by decide)) | ((with_reducible apply mul_smallR); exact (show small _ = true from by decide))
  | ((with_reducible apply mul_smallR); apply small_ofI; omega) | ((with_reducible apply mul_smallL); apply small_ofI; omega)
  | ((with_reducible apply mod_posZ); omega) | ((with_reducible apply div_posZ); omega)
  | ((with_reducible apply cut_row_from); omega) | ((with_reducible apply cut_row_to); omega) | ((with_reducible apply cut_list_from); omega) | ((with_reducible apply cut_list_to); omega) | ((with_reducible apply cut_tup_from); omega) | ((with_reducible apply cut_tup_to); omega)
  | ((with_reducible apply len_tx); wtm_at "zsz") | ((with_reducible apply zip_tx) <;> assumption) | ((with_reducible apply add_tx); wtm_at "zsz") | ((with_reducible apply cut_tx_from) <;> wtm_at "zsz") | ((with_reducible apply cut_tx_to) <;> wtm_at "zsz") | ((with_reducible apply cut_tx_init); wtm_at "zsz") | ((with_reducible apply insert_own); wtm_at "zsz") | ((with_reducible apply extend_own); wtm_at "zsz")
  | ((with_reducible apply add_rowZ); wtm_at "zsz")
  | ((with_reducible apply ix_row); omega) | ((with_reducible apply ix_list); omega) | ((with_reducible apply ix_tup); omega))
local macro_rules | `(tactic| wtm_at "zlf") => `(tactic| first
  | ((with_reducible apply rdv); exact rfl) | ((with_reducible apply l_get); exact rfl) | ((with_reducible apply l_svN); exact rfl) | ((with_reducible apply l_svT); exact rfl) | ((with_reducible apply l_wipe); exact rfl) | ((with_reducible apply l_ble); exact rfl) | ((with_reducible apply l_ty); exact rfl) | ((with_reducible apply l_env); exact rfl) | ((with_reducible apply l_vo); exact rfl) | ((with_reducible apply l_sc); exact rfl) | ((with_reducible apply l_frz); exact rfl) | ((with_reducible apply l_setW); exact rfl) | ((with_reducible apply l_own); exact rfl) | ((with_reducible apply l_cast); first | exact rfl | (apply cast_nn; omega))
  | ((with_reducible apply append_own); wtm_at "zsz") | ((with_reducible apply y_sz); wtm_at "zsz"))
local macro_rules | `(tactic| wtm_at "zst") => `(tactic| with_reducible first
  | exact q_c | apply q_var | apply q_oVg | apply q_frzG | apply ev_oE | exact ev_nil | apply ev_cons | apply ev_bin | apply ev_un | apply ev_tbin | apply ev_call | apply ev_callI | apply y_tup | apply y_lst | apply y_flst | apply ev_fr
  | apply q_chain | apply q_and | apply q_or | apply q_xand | apply q_xor | apply ev_not | apply ev_xnot | apply ev_test | apply ev_tv | apply q_slFrom | apply q_slTo | apply q_meth | apply q_comp | apply q_compF | apply q_sortC
  | apply q_range1 | apply q_range2 | apply ev_seqS | apply q_zip | apply q_zipS | apply y_aug | apply y_seq_aug | apply y_augE | apply q_comp2 | apply q_enum | apply y_nxE | apply y_ownE | apply y_parE | apply ev_ret | apply y_dropE2 | apply y_asgE | apply y_seq_ret | exact y_seq_raise | exact y_raise | apply y_seq_nx | apply y_seq_asg | apply y_seq_asgG | apply y_seq_own | apply y_seq_par | apply y_seq_drop | apply y_seq_parW | apply y_seq_for | apply y_seq_while | apply q_ownM | apply q_keep
  | exact q_awNil | apply q_awV | apply q_awF | apply y_seq_if | apply y_if)
local macro_rules | `(tactic| wtm_at "zx") => `(tactic| first
  | wtm_at "zlf"
  | wtm_at "zst"
  | ((with_reducible apply q_rangeN); rotate_left; omega) | ((with_reducible apply q_rangeI); rotate_left; omega) | ((with_reducible apply q_range2); rotate_left; rotate_left; omega)
  | wtm_at "zop" | wtm_at "zpt"
  | exact (fun z => (ff z rfl).elim)
  | (intro z; exfalso; simp at z <;> omega)
  | omega
  | intro _)
local macro_rules | `(tactic| tbr_iter [$ts,*]) => `(tactic| repeat' (first | ((with_reducible first | apply l_for | apply l_while); first $[| exact $ts]*) $[| with_reducible exact $ts]* | wtm_at "zx"))
theorem shape_intsL (xs : List Int) : shape (.list (xs.map PyData.int)) = true := by
  have := shape_rowD xs
  unfold shape rowD at this
  rw [PyData.plain, PyData.depth] at this
  unfold shape
  rw [PyData.plain, PyData.depth]
  exact this
theorem badD_is (l : W) : badD l = .list (((bad l).map fun k : Nat => 1 + (k : Int)).map PyData.int) := by
  unfold badD; rw [List.map_map]; rfl
theorem eq_badnil (l : W) : eqD (badD l) (.list []) = some (decide (bad l = [])) := by
  have e : eqD (badD l) (.list []) = if shape (badD l) && shape (.list []) then some (PyData.eqv (badD l) (.list [])) else none := rfl
  rw [e, badD_is, shape_intsL, show shape (.list []) = true from rfl]
  cases bad l <;> rfl
theorem ne_badnil (l : W) : neD (badD l) (.list []) = some (!decide (bad l = [])) := by
  have e : neD (badD l) (.list []) = if shape (badD l) && shape (.list []) then some (!PyData.eqv (badD l) (.list [])) else none := rfl
  rw [e, badD_is, shape_intsL, show shape (.list []) = true from rfl]
  cases bad l <;> rfl
abbrev isBad (l : W) (i : Int) : Bool := decide (i ∈ (bad l).map fun k : Nat => 1 + (k : Int))
theorem in_bad (l : W) (i : Int) : inD (.int i) (badD l) = some (isBad l i) := by
  have e : inD (.int i) (.list (((bad l).map fun k : Nat => 1 + (k : Int)).map PyData.int)) = if shape (.int i) && shape (.list (((bad l).map fun k : Nat => 1 + (k : Int)).map PyData.int)) then some ((((bad l).map fun k : Nat => 1 + (k : Int)).map PyData.int).any fun y => PyData.eqv y (.int i)) else none := rfl
  rw [badD_is, e, shape_intsL, shape_int]
  simp only [Bool.and_self, if_true]
  congr 1
  rw [List.any_map, Bool.eq_iff_iff, List.any_eq_true, decide_eq_true_eq]
  constructor
  · rintro ⟨y, m, e⟩
    have e : PyData.eqv (.int y) (.int i) = true := e
    rw [eqv_int] at e
    rw [← of_decide_eq_true e]; exact m
  · intro m
    refine ⟨i, m, ?_⟩
    show PyData.eqv (.int i) (.int i) = true
    rw [eqv_int]; exact decide_eq_true rfl
theorem isBad_in {l : W} {i : Int} (m : isBad l i = true) : 1 ≤ i ∧ i ≤ (l.length : Int) := by
  obtain ⟨k, mk, rfl⟩ := List.mem_map.mp (of_decide_eq_true m)
  have := bad_lt mk
  omega
/-! ### the program's answers -/
section
variable {l : W} (h : TW l)
include h
theorem nl_ : F_not_less_shifts [tx l] = .ok (badD l) := not_less_shifts (tw_ok h) (by have := tw_len h; omega)
theorem igs_G : F_is_greatest_shown [tx l, .tuple [tG]] = .ok (.bool (decide (bad l = []))) := by
  have nl := nl_ h
  have hn := len_bad l
  refine igs_go h (ds := []) rfl (by decide) ⟨[.val (tx l), .val (.tuple [tG]), .val (badD l)], ?_⟩
  unfold B_igs
  simp only [dSh, dGr]
  refine y_seq_asg (e1 := [.val (tx l), .val (.tuple [tG]), .no]) (ev_call (ev_cons (q_var rfl) ev_nil) nl) rfl ?_
  apply y_seq_if (k := true) (e1 := [.val (tx l), .val (.tuple [tG]), .val (badD l)])
  · exact ev_tbin (ev_oE (ev_un rfl rfl rfl)) rfl rfl rfl rfl
  · intro _
    refine y_seq_ret (ev_xand1 (e1 := [.val (tx l), .val (.tuple [tG]), .val (badD l)]) (ev_bin (ev_oE (ev_bin rfl rfl rfl rfl rfl)) rfl rfl rfl (op_bD (eq_tx.trans (by rw [decide_eq_true rfl])))) ?_)
    refine ev_bin (ev_oE (ev_un rfl rfl hn)) rfl rfl rfl (op_bD (eq_int.trans ?_))
    congr 1
    rw [Bool.eq_iff_iff, decide_eq_true_eq, decide_eq_true_eq]
    constructor
    · intro q; exact List.length_eq_zero_iff.mp (by omega)
    · intro q; rw [q]; rfl
  · exact fun z => nomatch z
theorem igs_S : F_is_greatest_shown [tx l, .tuple [tS]] = .ok (.bool false) := by
  have nl := nl_ h
  refine igs_go h (ds := []) rfl (by decide) ⟨[.val (tx l), .val (.tuple [tS]), .val (badD l)], ?_⟩
  unfold B_igs
  simp only [dSh, dGr]
  refine y_seq_asg (e1 := [.val (tx l), .val (.tuple [tS]), .no]) (ev_call (ev_cons (q_var rfl) ev_nil) nl) rfl ?_
  apply y_seq_if (k := true) (e1 := [.val (tx l), .val (.tuple [tS]), .val (badD l)])
  · exact ev_tbin (ev_oE (ev_un rfl rfl rfl)) rfl rfl rfl rfl
  · intro _
    exact y_seq_ret (ev_xand0 (ev_bin (ev_oE (ev_bin rfl rfl rfl rfl rfl)) rfl rfl rfl (op_bD (eq_tx.trans (by decide)))))
  · exact fun z => nomatch z
theorem igs_two {x : D} {t : List Nat} {b : Bool} (hb : ∀ e1, e1 = [.val (tx l), .val (.tuple [tx t, x]), .val (badD l)] → xAnd (xBin (bD eqD) (oE (xBin ixD (oV 1) (oE (xC (.int 0))))) (oE (xC tS))) (xAnd (xCall F_is_within (arCons (xBin ixD (oV 1) (oE (xC (.int 1)))) (arCons (xC (.int 1)) (arCons (xUn lenD (oV 0)) arNil)))) (xBin (bD inD) (oE (xBin ixD (oV 1) (oE (xC (.int 1))))) (oV 2))) e1 = .ok (.bool b, e1)) :
    F_is_greatest_shown [tx l, .tuple [tx t, x]] = .ok (.bool b) := by
  have nl := nl_ h
  refine igs_go h (ds := [x]) rfl (Nat.le_refl 1) ⟨[.val (tx l), .val (.tuple [tx t, x]), .val (badD l)], ?_⟩
  unfold B_igs
  simp only [dSh, dGr]
  refine y_seq_asg (e1 := [.val (tx l), .val (.tuple [tx t, x]), .no]) (ev_call (ev_cons (q_var rfl) ev_nil) nl) rfl ?_
  refine y_seq_ifF (k := false) (e1 := [.val (tx l), .val (.tuple [tx t, x]), .val (badD l)]) (ev_tbin (ev_oE (ev_un rfl rfl rfl)) rfl rfl rfl rfl) rfl ?_
  exact y_seq_nx (ev_ret (hb _ rfl))
theorem igs_G2 {x : D} : F_is_greatest_shown [tx l, .tuple [tG, x]] = .ok (.bool false) := igs_two h fun e1 he => by
  subst he
  exact ev_xand0 (ev_bin (ev_oE (ev_bin rfl rfl rfl rfl rfl)) rfl rfl rfl (op_bD (eq_tx.trans (by decide))))
theorem igs_S2 {x : D} {b : Bool} (hw : F_is_within [x, .int 1, .int (l.length : Int)] = .ok (.bool b)) (hb : b = true → ∃ k, inD x (badD l) = some k) : F_is_greatest_shown [tx l, .tuple [tS, x]] = .ok (.bool (b && (inD x (badD l)).getD false)) := igs_two h fun e1 he => by
  subst he
  have ln : lenD (tx l) = some (.int (l.length : Int)) := len_tx (by have := tw_len h; omega)
  refine ev_xand1 (e1 := [.val (tx l), .val (.tuple [tS, x]), .val (badD l)]) (ev_bin (ev_oE (ev_bin rfl rfl rfl rfl rfl)) rfl rfl rfl (op_bD (eq_tx.trans (by rw [decide_eq_true rfl])))) ?_
  have hw2 : xCall F_is_within (arCons (xBin ixD (oV 1) (oE (xC (.int 1)))) (arCons (xC (.int 1)) (arCons (xUn lenD (oV 0)) arNil))) [.val (tx l), .val (.tuple [tS, x]), .val (badD l)] = .ok (.bool b, [.val (tx l), .val (.tuple [tS, x]), .val (badD l)]) :=
    ev_call (ev_cons (ev_bin rfl rfl rfl rfl rfl) (ev_cons q_c (ev_cons (ev_un rfl rfl ln) ev_nil))) hw
  cases b with
  | false => exact ev_xand0 hw2
  | true =>
    obtain ⟨k, hk⟩ := hb rfl
    rw [hk]
    exact ev_xand1 hw2 (ev_bin (ev_oE (ev_bin rfl rfl rfl rfl rfl)) rfl rfl rfl (op_bD hk))
theorem igs_Si (i : Int) : F_is_greatest_shown [tx l, .tuple [tS, .int i]] = .ok (.bool (isBad l i)) := by
  have e := igs_S2 h (x := .int i) (is_within_int i 1 (l.length : Int)) (fun _ => ⟨_, in_bad l i⟩)
  rw [in_bad] at e
  rw [e]
  congr 2
  show ((decide (1 ≤ i) && decide (i ≤ (l.length : Int))) && isBad l i) = isBad l i
  cases q : isBad l i with
  | false => rw [Bool.and_false]
  | true =>
    have := isBad_in q
    rw [decide_eq_true this.1, decide_eq_true this.2]; rfl
theorem igs_Sn : F_is_greatest_shown [tx l, .tuple [tS, .none]] = .ok (.bool false) := igs_S2 h (x := .none) (b := false) rfl (fun z => nomatch z)
theorem igs_Sb : F_is_greatest_shown [tx l, .tuple [tS, .bool true]] = .ok (.bool false) := igs_S2 h (x := .bool true) (b := false) rfl (fun z => nomatch z)
end
end K75

namespace K75
open PySem PySem.Spec PyProof.Rows L2 Z
local macro_rules | `(tactic| wtm_at "zsz") => `(tactic| first | assumption | omega | (simp only [List.length_append, List.length_drop, List.length_take, List.length_map, List.length_range, List.length_cons, List.length_nil]; omega))
local macro_rules | `(tactic| wtm_at "zop") => `(tactic| with_reducible first
  | exact add_int | exact sub_int | exact lt_int | exact le_int | exact gt_int | exact ge_int | exact eq_int | exact ne_int | exact neg_int | exact int_int | exact int_bool | exact abs_int
  | apply op_bD
  | exact len_rowD | exact len_tup | exact len_list
  | exact tup_ints | exact tup_list | exact tup_tup | exact lst_tup | exact all_map | exact any_map | exact sum_map | exact sum_rowZ
  | exact seq_row _ | exact seq_tx _ | exact eq_tx | exact ne_tx | exact ne_boolB _ _ | exact eq_boolB _ _ | exact zip_tt | exact zip_ll | exact enum_l | exact seq_list | exact seq_tup | exact eq_rowZ | exact ne_rowZ | exact lt_rowZ | exact le_rowZ | exact gt_rowZ | exact ge_rowZ)
local macro_rules | `(tactic| wtm_at "zpt") => `(tactic| first
  | ((with_reducible apply isi_t); exact rfl) | ((with_reducible apply isi_f); exact rfl)
  | ((with_reducible apply mul_smallL); exact (show small _ = true from by decide)) | ((with_reducible apply mul_smallR); exact (show small _ = true from by decide))
  | ((with_reducible apply mul_smallR); apply small_ofI; omega) | ((with_reducible apply mul_smallL); apply small_ofI; omega)
  | ((with_reducible apply mod_posZ); omega) | ((with_reducible apply div_posZ); omega)
  | ((with_reducible apply cut_row_from); omega) | ((with_reducible apply cut_row_to); omega) | ((with_reducible apply cut_list_from); omega) | ((with_reducible apply cut_list_to); omega) | ((with_reducible apply cut_tup_from); omega) | ((with_reducible apply cut_tup_to); omega)
  | ((with_reducible apply len_tx); wtm_at "zsz") | ((with_reducible apply zip_tx) <;> assumption) | ((with_reducible apply add_tx); wtm_at "zsz") | ((with_reducible apply cut_tx_from) <;> wtm_at "zsz") | ((with_reducible apply cut_tx_to) <;> wtm_at "zsz") | ((with_reducible apply cut_tx_init); wtm_at "zsz") | ((with_reducible apply insert_own); wtm_at "zsz") | ((with_reducible apply extend_own); wtm_at "zsz")
  | ((with_reducible apply add_rowZ); wtm_at "zsz")
  | ((with_reducible apply ix_row); omega) | ((with_reducible apply ix_list); omega) | ((with_reducible apply ix_tup); omega))
local macro_rules | `(tactic| wtm_at "zlf") => `(tactic| first
  | ((with_reducible apply rdv); exact rfl) | ((with_reducible apply l_get); exact rfl) | ((with_reducible apply l_svN); exact rfl) | ((with_reducible apply l_svT); exact rfl) | ((with_reducible apply l_wipe); exact rfl) | ((with_reducible apply l_ble); exact rfl) | ((with_reducible apply l_ty); exact rfl) | ((with_reducible apply l_env); exact rfl) | ((with_reducible apply l_vo); exact rfl) | ((with_reducible apply l_sc); exact rfl) | ((with_reducible apply l_frz); exact rfl) | ((with_reducible apply l_setW); exact rfl) | ((with_reducible apply l_own); exact rfl) | ((with_reducible apply l_cast); first | exact rfl | (apply cast_nn; omega))
  | ((with_reducible apply append_own); wtm_at "zsz") | ((with_reducible apply y_sz); wtm_at "zsz"))
local macro_rules | `(tactic| wtm_at "zst") => `(tactic| with_reducible first
  | exact q_c | apply q_var | apply q_oVg | apply q_frzG | apply ev_oE | exact ev_nil | apply ev_cons | apply ev_bin | apply ev_un | apply ev_tbin | apply ev_call | apply ev_callI | apply y_tup | apply y_lst | apply y_flst | apply ev_fr
  | apply q_chain | apply q_and | apply q_or | apply q_xand | apply q_xor | apply ev_not | apply ev_xnot | apply ev_test | apply ev_tv | apply q_slFrom | apply q_slTo | apply q_meth | apply q_comp | apply q_compF | apply q_sortC
  | apply q_range1 | apply q_range2 | apply ev_seqS | apply q_zip | apply q_zipS | apply y_aug | apply y_seq_aug | apply y_augE | apply q_comp2 | apply q_enum | apply y_nxE | apply y_ownE | apply y_parE | apply ev_ret | apply y_dropE2 | apply y_asgE | apply y_seq_ret | exact y_seq_raise | exact y_raise | apply y_seq_nx | apply y_seq_asg | apply y_seq_asgG | apply y_seq_own | apply y_seq_par | apply y_seq_drop | apply y_seq_parW | apply y_seq_for | apply y_seq_while | apply q_ownM | apply q_keep
  | exact q_awNil | apply q_awV | apply q_awF | apply y_seq_if | apply y_if)
local macro_rules | `(tactic| wtm_at "zx") => `(tactic| first
  | wtm_at "zlf"
  | wtm_at "zst"
  | ((with_reducible apply q_rangeN); rotate_left; omega) | ((with_reducible apply q_rangeI); rotate_left; omega) | ((with_reducible apply q_range2); rotate_left; rotate_left; omega)
  | wtm_at "zop" | wtm_at "zpt"
  | exact (fun z => (ff z rfl).elim)
  | (intro z; exfalso; simp at z <;> omega)
  | omega
  | intro _)
local macro_rules | `(tactic| tbr_iter [$ts,*]) => `(tactic| repeat' (first | ((with_reducible first | apply l_for | apply l_while); first $[| exact $ts]*) $[| with_reducible exact $ts]* | wtm_at "zx"))
/-! ### the law's judgement of a thing -/
abbrev y8 : Ev := (xAnd (xUn (fun d => some (.bool (isiD .tuple d))) (oV 7)) (xAnd (xBin (bD eqD) (oE (xUn lenD (oV 7))) (oE (xC (.int 2)))) (xAnd (xBin (bD eqD) (oE (xBin ixD (oV 7) (oE (xC (.int 0))))) (oE (xC tS))) (xCall F__law_is_int (arCons (xBin ixD (oV 7) (oE (xC (.int 1)))) arNil)))))
abbrev y9 : Ev := (xIf (tBin eqTD (oV 7) (oE (xTup (arCons (xC tG) arNil)))) (xBin (bD eqD) (oV 5) (oE (xLst arNil))) (xAnd (xVar 8) (xBin (bD inD) (oE (xBin ixD (oV 7) (oE (xC (.int 1))))) (oV 5))))
abbrev yF : Sm := (sIf (tNotZ (tV (xCall F__law_is (arCons (xCall F_is_greatest_shown (arCons (xVar 1) (arCons (xVar 7) arNil))) (arCons (xVar 9) arNil))))) (sRet (xC (.bool false))) sNext)
section
variable {l : W} (h : TW l) (hd : List D) (o c3 c4 : Sl) (th : D)
abbrev EY (l : W) (hd : List D) (o c3 c4 : Sl) (th : D) (x : D) (a c : Sl) : VEnv := [.own hd, .val (tx l), o, c3, c4, .val (badD l), .val th, .val x, a, c]
theorem law_isB (b : Bool) : F__law_is [.bool b, .bool b] = .ok (.bool true) := is_bool F__law_is_3 b
/-- a thing that is told right -/
def Told (l : W) (hd : List D) (o c3 c4 : Sl) (th : D) (x : D) : Prop := ∀ a c, ∃ a' c', Y__law_is_right_1 (EY l hd o c3 c4 th x a c) = .ok (.nx (EY l hd o c3 c4 th x a' c'))
theorem told_of {x : D} {b sft : Bool} (hp : F_is_greatest_shown [tx l, x] = .ok (.bool b)) (hs : ∀ a c, y8 (EY l hd o c3 c4 th x a c) = .ok (.bool sft, EY l hd o c3 c4 th x a c))
    (hf : ∀ c, y9 (EY l hd o c3 c4 th x (.val (.bool sft)) c) = .ok (.bool b, EY l hd o c3 c4 th x (.val (.bool sft)) c)) : Told l hd o c3 c4 th x := fun a c => by
  refine ⟨.val (.bool sft), .val (.bool b), ?_⟩
  show sSeq _ _ _ = _
  simp only [dSh, dGr]
  refine y_seq_asg (i := 8) (hs a c) rfl ?_
  show sSeq _ _ (EY l hd o c3 c4 th x (.val (.bool sft)) c) = _
  refine y_seq_asg (i := 9) (hf c) rfl ?_
  show yF (EY l hd o c3 c4 th x (.val (.bool sft)) (.val (.bool b))) = _
  exact y_ifF (k := false) (e1 := EY l hd o c3 c4 th x (.val (.bool sft)) (.val (.bool b))) (ev_not (k := true) (ev_tv (ev_call (ev_cons (ev_call (ev_cons (q_var rfl) (ev_cons (q_var rfl) ev_nil)) hp) (ev_cons (q_var rfl) ev_nil)) (law_isB b)))) rfl (y_nxE rfl)
theorem told_false {x : D} (hp : F_is_greatest_shown [tx l, x] = .ok (.bool false)) (hs : ∀ a c, y8 (EY l hd o c3 c4 th x a c) = .ok (.bool false, EY l hd o c3 c4 th x a c))
    (he : eqTD x (.tuple [tG]) = some false) : Told l hd o c3 c4 th x :=
  told_of hd o c3 c4 th hp hs fun c => ev_xif0 (e1 := EY l hd o c3 c4 th x (.val (.bool false)) c) (ev_tbin rfl (ev_oE (y_tup (ev_cons q_c ev_nil) rfl)) rfl rfl he) (ev_xand0 (q_var rfl))
theorem y8_not {x : D} (hx : isiD .tuple x = false) (a c : Sl) : y8 (EY l hd o c3 c4 th x a c) = .ok (.bool false, EY l hd o c3 c4 th x a c) := ev_xand0 (ev_un rfl rfl (by rw [hx]))
theorem y8_one {t : D} (a c : Sl) : y8 (EY l hd o c3 c4 th (.tuple [t]) a c) = .ok (.bool false, EY l hd o c3 c4 th (.tuple [t]) a c) :=
  ev_xand1 (e1 := EY l hd o c3 c4 th (.tuple [t]) a c) (ev_un rfl rfl rfl) (ev_xand0 (ev_bin (ev_oE (ev_un rfl rfl rfl)) rfl rfl rfl rfl))
theorem y8_G2 {x : D} (a c : Sl) : y8 (EY l hd o c3 c4 th (.tuple [tG, x]) a c) = .ok (.bool false, EY l hd o c3 c4 th (.tuple [tG, x]) a c) :=
  ev_xand1 (e1 := EY l hd o c3 c4 th (.tuple [tG, x]) a c) (ev_un rfl rfl rfl) (ev_xand1 (e1 := EY l hd o c3 c4 th (.tuple [tG, x]) a c) (ev_bin (ev_oE (ev_un rfl rfl rfl)) rfl rfl rfl rfl)
    (ev_xand0 (ev_bin (ev_oE (ev_bin rfl rfl rfl rfl rfl)) rfl rfl rfl (op_bD (eq_tx.trans (by decide))))))
theorem y8_S2 {x : D} {b : Bool} (hx : F__law_is_int [x] = .ok (.bool b)) (a c : Sl) : y8 (EY l hd o c3 c4 th (.tuple [tS, x]) a c) = .ok (.bool b, EY l hd o c3 c4 th (.tuple [tS, x]) a c) :=
  ev_xand1 (e1 := EY l hd o c3 c4 th (.tuple [tS, x]) a c) (ev_un rfl rfl rfl) (ev_xand1 (e1 := EY l hd o c3 c4 th (.tuple [tS, x]) a c) (ev_bin (ev_oE (ev_un rfl rfl rfl)) rfl rfl rfl rfl)
    (ev_xand1 (e1 := EY l hd o c3 c4 th (.tuple [tS, x]) a c) (ev_bin (ev_oE (ev_bin rfl rfl rfl rfl rfl)) rfl rfl rfl (op_bD (eq_tx.trans (by rw [decide_eq_true rfl])))) (ev_call (ev_cons (ev_bin rfl rfl rfl rfl rfl) ev_nil) hx)))
include h
theorem t_G : Told l hd o c3 c4 th (.tuple [tG]) := told_of hd o c3 c4 th (igs_G h) (fun a c => y8_one hd o c3 c4 th a c) fun c =>
  ev_xif1 (e1 := EY l hd o c3 c4 th (.tuple [tG]) (.val (.bool false)) c) (ev_tbin rfl (ev_oE (y_tup (ev_cons q_c ev_nil) rfl)) rfl rfl (by apply eqT_gen <;> simp [shape, tx, PyData.plain, PyData.depth, PyData.plainAll, PyData.depthAll, PyData.eqv, PyData.eqvAll])) (ev_bin rfl (ev_oE (y_lst ev_nil rfl)) rfl rfl (op_bD (eq_badnil l)))
theorem t_G0 : Told l hd o c3 c4 th (.tuple [tG, .int 0]) := told_false hd o c3 c4 th (igs_G2 h) (fun a c => y8_G2 hd o c3 c4 th a c) (by apply eqT_gen <;> simp [shape, tx, PyData.plain, PyData.depth, PyData.plainAll, PyData.depthAll, PyData.eqv, PyData.eqvAll])
theorem t_S : Told l hd o c3 c4 th (.tuple [tS]) := told_false hd o c3 c4 th (igs_S h) (fun a c => y8_one hd o c3 c4 th a c) (by apply eqT_gen <;> simp [shape, tx, PyData.plain, PyData.depth, PyData.plainAll, PyData.depthAll, PyData.eqv, PyData.eqvAll])
theorem t_Si (i : Int) : Told l hd o c3 c4 th (.tuple [tS, .int i]) := told_of hd o c3 c4 th (sft := true) (igs_Si h i) (fun a c => y8_S2 hd o c3 c4 th rfl a c) fun c =>
  ev_xif0 (e1 := EY l hd o c3 c4 th (.tuple [tS, .int i]) (.val (.bool true)) c) (ev_tbin rfl (ev_oE (y_tup (ev_cons q_c ev_nil) rfl)) rfl rfl (by apply eqT_gen <;> simp [shape, tx, PyData.plain, PyData.depth, PyData.plainAll, PyData.depthAll, PyData.eqv, PyData.eqvAll])) (ev_xand1 (e1 := EY l hd o c3 c4 th (.tuple [tS, .int i]) (.val (.bool true)) c) (q_var rfl) (ev_bin (ev_oE (ev_bin rfl rfl rfl rfl rfl)) rfl rfl rfl (op_bD (in_bad l i))))
theorem t_Sb : Told l hd o c3 c4 th (.tuple [tS, .bool true]) := told_false hd o c3 c4 th (igs_Sb h) (fun a c => y8_S2 hd o c3 c4 th rfl a c) (by apply eqT_gen <;> simp [shape, tx, PyData.plain, PyData.depth, PyData.plainAll, PyData.depthAll, PyData.eqv, PyData.eqvAll])
theorem t_Sn : Told l hd o c3 c4 th (.tuple [tS, .none]) := told_false hd o c3 c4 th (igs_Sn h) (fun a c => y8_S2 hd o c3 c4 th rfl a c) (by apply eqT_gen <;> simp [shape, tx, PyData.plain, PyData.depth, PyData.plainAll, PyData.depthAll, PyData.eqv, PyData.eqvAll])
theorem t_n : Told l hd o c3 c4 th .none := told_false hd o c3 c4 th (igs_not h rfl) (fun a c => y8_not hd o c3 c4 th rfl a c) (by apply eqT_gen <;> simp [shape, tx, PyData.plain, PyData.depth, PyData.plainAll, PyData.depthAll, PyData.eqv, PyData.eqvAll])
theorem t_g : Told l hd o c3 c4 th tG := told_false hd o c3 c4 th (igs_not h rfl) (fun a c => y8_not hd o c3 c4 th rfl a c) (by apply eqT_gen <;> simp [shape, tx, PyData.plain, PyData.depth, PyData.plainAll, PyData.depthAll, PyData.eqv, PyData.eqvAll])
theorem t_l : Told l hd o c3 c4 th (.list [tG]) := told_false hd o c3 c4 th (igs_not h rfl) (fun a c => y8_not hd o c3 c4 th rfl a c) (by apply eqT_gen <;> simp [shape, tx, PyData.plain, PyData.depth, PyData.plainAll, PyData.depthAll, PyData.eqv, PyData.eqvAll])
theorem t_d : Told l hd o c3 c4 th (.dict []) := told_false hd o c3 c4 th (igs_not h rfl) (fun a c => y8_not hd o c3 c4 th rfl a c) rfl
end
abbrev thA (l : W) : List D := [.tuple [tG], .tuple [tG, .int 0], .tuple [tS], .tuple [tS, .int 0], .tuple [tS, .int (l.length : Int)], .tuple [tS, .bool true], .none]
abbrev thB (l : W) : List D := (List.range (l.length - 1)).map fun k : Nat => .tuple [tS, .int (1 + (k : Int))]
abbrev thC : List D := [.tuple [tS, .none], tG, .list [tG], .dict []]
theorem loop_r {l : W} (h : TW l) (hd : List D) (o c3 c4 : Sl) : ∃ a b c, W__law_is_right_1 [.own hd, .val (tx l), o, c3, c4, .val (badD l), .val (.list (thA l ++ thB l ++ thC)), .no, .no, .no] = .ok (.nx [.own hd, .val (tx l), o, c3, c4, .val (badD l), .val (.list (thA l ++ thB l ++ thC)), a, b, c]) := by
  have all : ∀ x ∈ thA l ++ thB l ++ thC, Told l hd o c3 c4 (.list (thA l ++ thB l ++ thC)) x := fun x m => by
    rcases List.mem_append.mp m with m | m
    · rcases List.mem_append.mp m with m | m
      · simp only [List.mem_cons, List.not_mem_nil, or_false] at m
        rcases m with rfl | rfl | rfl | rfl | rfl | rfl | rfl
        · exact t_G h hd o c3 c4 _
        · exact t_G0 h hd o c3 c4 _
        · exact t_S h hd o c3 c4 _
        · exact t_Si h hd o c3 c4 _ 0
        · exact t_Si h hd o c3 c4 _ _
        · exact t_Sb h hd o c3 c4 _
        · exact t_n h hd o c3 c4 _
      · obtain ⟨k, _, rfl⟩ := List.mem_map.mp m
        exact t_Si h hd o c3 c4 _ _
    · simp only [List.mem_cons, List.not_mem_nil, or_false] at m
      rcases m with rfl | rfl | rfl | rfl
      · exact t_Sn h hd o c3 c4 _
      · exact t_g h hd o c3 c4 _
      · exact t_l h hd o c3 c4 _
      · exact t_d h hd o c3 c4 _
  generalize hT : thA l ++ thB l ++ thC = T at *
  obtain ⟨s, w1, _⟩ := y_for (enc := id) (xs := T) (src := srSeq (xVar 6)) (sv := svName 7) (body := Y__law_is_right_1) (e := [.own hd, .val (tx l), o, c3, c4, .val (badD l), .val (.list T), .no, .no, .no]) (s0 := (Sl.no, Sl.no, Sl.no)) (mk := fun s : Sl × Sl × Sl => [.own hd, .val (tx l), o, c3, c4, .val (badD l), .val (.list T), s.1, s.2.1, s.2.2]) (fun _ _ => True)
    (by rw [List.map_id]; tbr_iter []) trivial
    (fun i s hi _ => by
      obtain ⟨a, b, c⟩ := s
      obtain ⟨a', c', e⟩ := all T[i] (List.getElem_mem hi) b c
      exact ⟨_, (.val T[i], a', c'), rfl, e, trivial⟩)
  exact ⟨s.1, s.2.1, s.2.2, w1⟩
end K75

namespace K75
open PySem PySem.Spec PyProof.Rows L2 Z
local macro_rules | `(tactic| wtm_at "zsz") => `(tactic| first | assumption | omega | (simp only [List.length_append, List.length_drop, List.length_take, List.length_map, List.length_range, List.length_cons, List.length_nil]; omega))
local macro_rules | `(tactic| wtm_at "zop") => `(tactic| with_reducible first
  | exact add_int | exact sub_int | exact lt_int | exact le_int | exact gt_int | exact ge_int | exact eq_int | exact ne_int | exact neg_int | exact int_int | exact int_bool | exact abs_int
  | apply op_bD
  | exact len_rowD | exact len_tup | exact len_list
  | exact tup_ints | exact tup_list | exact tup_tup | exact lst_tup | exact all_map | exact any_map | exact sum_map | exact sum_rowZ
  | exact seq_row _ | exact seq_tx _ | exact eq_tx | exact ne_tx | exact ne_boolB _ _ | exact eq_boolB _ _ | exact zip_tt | exact zip_ll | exact enum_l | exact seq_list | exact seq_tup | exact eq_rowZ | exact ne_rowZ | exact lt_rowZ | exact le_rowZ | exact gt_rowZ | exact ge_rowZ)
local macro_rules | `(tactic| wtm_at "zpt") => `(tactic| first
  | ((with_reducible apply isi_t); exact rfl) | ((with_reducible apply isi_f); exact rfl)
  | ((with_reducible apply mul_smallL); exact (show small _ = true from by decide)) | ((with_reducible apply mul_smallR); exact (show small _ = true from by decide))
  | ((with_reducible apply mul_smallR); apply small_ofI; omega) | ((with_reducible apply mul_smallL); apply small_ofI; omega)
  | ((with_reducible apply mod_posZ); omega) | ((with_reducible apply div_posZ); omega)
  | ((with_reducible apply cut_row_from); omega) | ((with_reducible apply cut_row_to); omega) | ((with_reducible apply cut_list_from); omega) | ((with_reducible apply cut_list_to); omega) | ((with_reducible apply cut_tup_from); omega) | ((with_reducible apply cut_tup_to); omega)
  | ((with_reducible apply len_tx); wtm_at "zsz") | ((with_reducible apply zip_tx) <;> assumption) | ((with_reducible apply add_tx); wtm_at "zsz") | ((with_reducible apply cut_tx_from) <;> wtm_at "zsz") | ((with_reducible apply cut_tx_to) <;> wtm_at "zsz") | ((with_reducible apply cut_tx_init); wtm_at "zsz") | ((with_reducible apply insert_own); wtm_at "zsz") | ((with_reducible apply extend_own); wtm_at "zsz")
  | ((with_reducible apply add_rowZ); wtm_at "zsz")
  | ((with_reducible apply ix_row); omega) | ((with_reducible apply ix_list); omega) | ((with_reducible apply ix_tup); omega))
local macro_rules | `(tactic| wtm_at "zlf") => `(tactic| first
  | ((with_reducible apply rdv); exact rfl) | ((with_reducible apply l_get); exact rfl) | ((with_reducible apply l_svN); exact rfl) | ((with_reducible apply l_svT); exact rfl) | ((with_reducible apply l_wipe); exact rfl) | ((with_reducible apply l_ble); exact rfl) | ((with_reducible apply l_ty); exact rfl) | ((with_reducible apply l_env); exact rfl) | ((with_reducible apply l_vo); exact rfl) | ((with_reducible apply l_sc); exact rfl) | ((with_reducible apply l_frz); exact rfl) | ((with_reducible apply l_setW); exact rfl) | ((with_reducible apply l_own); exact rfl) | ((with_reducible apply l_cast); first | exact rfl | (apply cast_nn; omega))
  | ((with_reducible apply append_own); wtm_at "zsz") | ((with_reducible apply y_sz); wtm_at "zsz"))
local macro_rules | `(tactic| wtm_at "zst") => `(tactic| with_reducible first
  | exact q_c | apply q_var | apply q_oVg | apply q_frzG | apply ev_oE | exact ev_nil | apply ev_cons | apply ev_bin | apply ev_un | apply ev_tbin | apply ev_call | apply ev_callI | apply y_tup | apply y_lst | apply y_flst | apply ev_fr
  | apply q_chain | apply q_and | apply q_or | apply q_xand | apply q_xor | apply ev_not | apply ev_xnot | apply ev_test | apply ev_tv | apply q_slFrom | apply q_slTo | apply q_meth | apply q_comp | apply q_compF | apply q_sortC
  | apply q_range1 | apply q_range2 | apply ev_seqS | apply q_zip | apply q_zipS | apply y_aug | apply y_seq_aug | apply y_augE | apply q_comp2 | apply q_enum | apply y_nxE | apply y_ownE | apply y_parE | apply ev_ret | apply y_dropE2 | apply y_asgE | apply y_seq_ret | exact y_seq_raise | exact y_raise | apply y_seq_nx | apply y_seq_asg | apply y_seq_asgG | apply y_seq_own | apply y_seq_par | apply y_seq_drop | apply y_seq_parW | apply y_seq_for | apply y_seq_while | apply q_ownM | apply q_keep
  | exact q_awNil | apply q_awV | apply q_awF | apply y_seq_if | apply y_if)
local macro_rules | `(tactic| wtm_at "zx") => `(tactic| first
  | wtm_at "zlf"
  | wtm_at "zst"
  | ((with_reducible apply q_rangeN); rotate_left; omega) | ((with_reducible apply q_rangeI); rotate_left; omega) | ((with_reducible apply q_range2); rotate_left; rotate_left; omega)
  | wtm_at "zop" | wtm_at "zpt"
  | exact (fun z => (ff z rfl).elim)
  | (intro z; exfalso; simp at z <;> omega)
  | omega
  | intro _)
local macro_rules | `(tactic| tbr_iter [$ts,*]) => `(tactic| repeat' (first | ((with_reducible first | apply l_for | apply l_while); first $[| exact $ts]*) $[| with_reducible exact $ts]* | wtm_at "zx"))
theorem rk_ne {a b : Nat} (ha : a = 76 ∨ a = 67 ∨ a = 82) (hb : b = 76 ∨ b = 67 ∨ b = 82) (h : a ≠ b) : decide (rk b < rk a) = !decide (rk a < rk b) := by
  rcases ha with rfl | rfl | rfl <;> rcases hb with rfl | rfl | rfl <;> first | exact absurd rfl h | decide
theorem less_anti : ∀ (x y : W) (ev : Bool), (∀ c ∈ x, c = 76 ∨ c = 82) → (∀ c ∈ y, c = 76 ∨ c = 82) → x ≠ y → lessZ ev ((y ++ [67]).zip (x ++ [67])) = !lessZ ev ((x ++ [67]).zip (y ++ [67]))
  | [], [], _, _, _, h => absurd rfl h
  | [], b :: y, ev, _, hy, _ => by
    have hb := hy b List.mem_cons_self
    have h1 : b ≠ 67 := by omega
    show (if b = 67 then _ else (decide (rk b < rk 67) == ev)) = !(if 67 = b then _ else (decide (rk 67 < rk b) == ev))
    rw [if_neg h1, if_neg (Ne.symm h1), rk_ne (.inr (.inl rfl)) (by omega) (Ne.symm h1)]
    cases decide (rk 67 < rk b) <;> cases ev <;> rfl
  | a :: x, [], ev, hx, _, _ => by
    have hb := hx a List.mem_cons_self
    have h1 : a ≠ 67 := by omega
    show (if 67 = a then _ else (decide (rk 67 < rk a) == ev)) = !(if a = 67 then _ else (decide (rk a < rk 67) == ev))
    rw [if_neg h1, if_neg (Ne.symm h1), rk_ne (a := a) (b := 67) (by omega) (.inr (.inl rfl)) h1]
    cases decide (rk a < rk 67) <;> cases ev <;> rfl
  | a :: x, b :: y, ev, hx, hy, h => by
    have ha := hx a List.mem_cons_self
    have hb := hy b List.mem_cons_self
    show (if b = a then lessZ _ ((y ++ [67]).zip (x ++ [67])) else (decide (rk b < rk a) == ev)) = !(if a = b then lessZ _ ((x ++ [67]).zip (y ++ [67])) else (decide (rk a < rk b) == ev))
    by_cases q : a = b
    · subst q
      rw [if_pos rfl, if_pos rfl]
      exact less_anti x y _ (fun c m => hx c (List.mem_cons_of_mem _ m)) (fun c m => hy c (List.mem_cons_of_mem _ m)) (fun z => h (by rw [z]))
    · rw [if_neg (Ne.symm q), if_neg q, rk_ne (by omega) (by omega) q]
      cases decide (rk a < rk b) <;> cases ev <;> rfl
theorem less_tw {a b : W} (ha : TW a) (hb : TW b) (h : a ≠ b) : lessW b a = !lessW a b := by
  obtain ⟨x, rfl, hx, _⟩ := ha
  obtain ⟨y, rfl, hy, _⟩ := hb
  exact less_anti x y true hx hy (fun z => h (by rw [z]))
theorem less_refl : ∀ (l : W) (ev : Bool), lessZ ev (l.zip l) = false
  | [], _ => rfl
  | a :: l, ev => by
    show (if a = a then lessZ _ (l.zip l) else _) = false
    rw [if_pos rfl]
    exact less_refl l _
/-! ### the same texts -/
theorem isn_str {s : Str} : isND (.str s) .none = some false := rfl
theorem is_str (F : List D → Res D) {l : List Nat} (h : ∀ c ∈ l, c < 128) (hl : l.length ≤ 100) : fnP 4 (Bis F) [tx l, tx l] = .ok (.bool true) := by
  have r := (sh_tx h hl).repr (by decide) (by decide)
  unfold tx at *
  apply fn_ok2
  · unfold Bis
    tbr_iter [tl_str, r, eq_strS _, isn_str]
  · rfl
theorem law_is_due {l : W} (h : TW l) : F__law_is [dueG l, dueG l] = .ok (.bool true) := by
  have hl := tw_len h
  have g3 : F__law_is_3 [tG, tG] = .ok (.bool true) := is_str F__law_is_2 (by decide) (by decide)
  have s3 : F__law_is_3 [tS, tS] = .ok (.bool true) := is_str F__law_is_2 (by decide) (by decide)
  unfold dueG
  cases hb : bad l with
  | nil => exact is_tup F__law_is_3 (fun d m => by
      rcases List.mem_cons.mp m with rfl | m
      · exact g3
      · cases m) (show 1 ≤ 1000 by decide)
  | cons k r =>
    have hk : k < l.length - 1 := bad_lt (by rw [hb]; exact List.mem_cons_self)
    exact is_tup F__law_is_3 (fun d m => by
      rcases List.mem_cons.mp m with rfl | m
      · exact s3
      rcases List.mem_cons.mp m with rfl | m
      · exact is_int F__law_is_2 (by omega)
      · cases m) (show 2 ≤ 1000 by decide)
/-! ### the law's list of what is bad -/
theorem law_bad {l : W} (h : TW l) {hd : List D} {o c3 : Sl} : fCompL (srR2 (xC (.int 1)) (xUn lenD (oV 1))) [4] (svName 4) (tNotZ (tV (xCall F__law_is_less (arCons (xSl (oV 1) (ptSome (xVar 4)) ptNo) (arCons (xVar 1) arNil))))) (xVar 4) [.own hd, .val (tx l), o, c3, .no, .no, .no, .no, .no, .no] = .ok ((bad l).map (fun k : Nat => .int (1 + (k : Int))), [.own hd, .val (tx l), o, c3, .no, .no, .no, .no, .no, .no]) := by
  have hl := tw_len h
  have ln : lenD (tx l) = some (.int (l.length : Int)) := len_tx (by omega)
  unfold bad
  refine (q_compF (enc := fun k : Nat => PyData.int (1 + (k : Int))) (xs := List.range (l.length - 1)) (g := fun k : Nat => PyData.int (1 + (k : Int))) (p := fun k => !lessW (l.drop (1 + k)) l) (e1 := [.own hd, .val (tx l), o, c3, .no, .no, .no, .no, .no, .no]) (A := fun k => [.own hd, .val (tx l), o, c3, .val (.int (1 + (k : Int))), .no, .no, .no, .no, .no]) (B := fun k => [.own hd, .val (tx l), o, c3, .val (.int (1 + (k : Int))), .no, .no, .no, .no, .no]) (C := fun k => [.own hd, .val (tx l), o, c3, .val (.int (1 + (k : Int))), .no, .no, .no, .no, .no]) ?_ (y_sz (by rw [List.length_range]; omega)) rfl ?_ ?_ ?_ ?_ ?_).trans rfl
  · have q := q_range2 (e := [.own hd, .val (tx l), o, c3, .no, .no, .no, .no, .no, .no]) (f := xC (.int 1)) (g := xUn lenD (oV 1)) (lo := 1) (hi := (l.length : Int)) q_c (ev_un rfl rfl ln) (by omega)
    rw [show ((l.length : Int) - 1).toNat = l.length - 1 by omega] at q
    exact q
  · intro k m; rfl
  · intro k m
    have c := law_is_less (okW_drop (tw_ok h) (1 + k)) (tw_ok h)
    have ct : cutD (some (1 + (k : Int))) none (tx l) = some (tx (l.drop (1 + k))) := by
      have := cut_tx_from (l := l) (i := 1 + (k : Int)) (by omega) (by omega)
      rw [show (1 + (k : Int)).toNat = 1 + k by omega] at this
      exact this
    exact ev_not (ev_tv (ev_call (ev_cons (q_slFrom rfl (q_var rfl) rfl ct) (ev_cons (q_var rfl) ev_nil)) c))
  · intro k m; rfl
  · intro k m _; rfl
  · intro k m _; rfl
theorem law_due {l : W} (h : TW l) {hd : List D} {o c3 c4 s6 s7 s8 s9 : Sl} : xIf (tBin neD (oV 5) (oE (xLst arNil))) (xTup (arCons (xC tS) (arCons (xBin ixD (oV 5) (oE (xC (.int 0)))) arNil))) (xTup (arCons (xC tG) arNil)) [.own hd, .val (tx l), o, c3, c4, .val (badD l), s6, s7, s8, s9] = .ok (dueG l, [.own hd, .val (tx l), o, c3, c4, .val (badD l), s6, s7, s8, s9]) := by
  have ne := ne_badnil l
  unfold dueG
  cases hb : bad l with
  | nil =>
    rw [hb] at ne
    exact ev_xif0 (e1 := [.own hd, .val (tx l), o, c3, c4, .val (badD l), s6, s7, s8, s9]) (ev_tbin (k := false) rfl (ev_oE (y_lst ev_nil rfl)) rfl rfl ne) (y_tup (ev_cons q_c ev_nil) rfl)
  | cons k r =>
    rw [hb] at ne
    have hx : ixD (badD l) (.int 0) = some (.int (1 + (k : Int))) := by
      unfold badD; rw [hb]; exact ix_list (f := fun k : Nat => PyData.int (1 + (k : Int))) ⟨Int.le_refl _, by rw [List.length_cons]; exact Nat.succ_pos _⟩
    exact ev_xif1 (e1 := [.own hd, .val (tx l), o, c3, c4, .val (badD l), s6, s7, s8, s9]) (ev_tbin (k := true) rfl (ev_oE (y_lst ev_nil rfl)) rfl rfl ne) (y_tup (ev_cons q_c (ev_cons (ev_bin rfl rfl rfl rfl hx) ev_nil)) rfl)
end K75

namespace K75
open PySem PySem.Spec PyProof.Rows L2 Z
local macro_rules | `(tactic| wtm_at "zsz") => `(tactic| first | assumption | omega | (simp only [List.length_append, List.length_drop, List.length_take, List.length_map, List.length_range, List.length_cons, List.length_nil]; omega))
local macro_rules | `(tactic| wtm_at "zop") => `(tactic| with_reducible first
  | exact add_int | exact sub_int | exact lt_int | exact le_int | exact gt_int | exact ge_int | exact eq_int | exact ne_int | exact neg_int | exact int_int | exact int_bool | exact abs_int
  | apply op_bD
  | exact len_rowD | exact len_tup | exact len_list
  | exact tup_ints | exact tup_list | exact tup_tup | exact lst_tup | exact all_map | exact any_map | exact sum_map | exact sum_rowZ
  | exact seq_row _ | exact seq_tx _ | exact eq_tx | exact ne_tx | exact ne_boolB _ _ | exact eq_boolB _ _ | exact zip_tt | exact zip_ll | exact enum_l | exact seq_list | exact seq_tup | exact eq_rowZ | exact ne_rowZ | exact lt_rowZ | exact le_rowZ | exact gt_rowZ | exact ge_rowZ)
local macro_rules | `(tactic| wtm_at "zpt") => `(tactic| first
  | ((with_reducible apply isi_t); exact rfl) | ((with_reducible apply isi_f); exact rfl)
  | ((with_reducible apply mul_smallL); exact (show small _ = true from by decide)) | ((with_reducible apply mul_smallR); exact (show small _ = true from by decide))
  | ((with_reducible apply mul_smallR); apply small_ofI; omega) | ((with_reducible apply mul_smallL); apply small_ofI; omega)
  | ((with_reducible apply mod_posZ); omega) | ((with_reducible apply div_posZ); omega)
  | ((with_reducible apply cut_row_from); omega) | ((with_reducible apply cut_row_to); omega) | ((with_reducible apply cut_list_from); omega) | ((with_reducible apply cut_list_to); omega) | ((with_reducible apply cut_tup_from); omega) | ((with_reducible apply cut_tup_to); omega)
  | ((with_reducible apply len_tx); wtm_at "zsz") | ((with_reducible apply zip_tx) <;> assumption) | ((with_reducible apply add_tx); wtm_at "zsz") | ((with_reducible apply cut_tx_from) <;> wtm_at "zsz") | ((with_reducible apply cut_tx_to) <;> wtm_at "zsz") | ((with_reducible apply cut_tx_init); wtm_at "zsz") | ((with_reducible apply insert_own); wtm_at "zsz") | ((with_reducible apply extend_own); wtm_at "zsz")
  | ((with_reducible apply add_rowZ); wtm_at "zsz")
  | ((with_reducible apply ix_row); omega) | ((with_reducible apply ix_list); omega) | ((with_reducible apply ix_tup); omega))
local macro_rules | `(tactic| wtm_at "zlf") => `(tactic| first
  | ((with_reducible apply rdv); exact rfl) | ((with_reducible apply l_get); exact rfl) | ((with_reducible apply l_svN); exact rfl) | ((with_reducible apply l_svT); exact rfl) | ((with_reducible apply l_wipe); exact rfl) | ((with_reducible apply l_ble); exact rfl) | ((with_reducible apply l_ty); exact rfl) | ((with_reducible apply l_env); exact rfl) | ((with_reducible apply l_vo); exact rfl) | ((with_reducible apply l_sc); exact rfl) | ((with_reducible apply l_frz); exact rfl) | ((with_reducible apply l_setW); exact rfl) | ((with_reducible apply l_own); exact rfl) | ((with_reducible apply l_cast); first | exact rfl | (apply cast_nn; omega))
  | ((with_reducible apply append_own); wtm_at "zsz") | ((with_reducible apply y_sz); wtm_at "zsz"))
local macro_rules | `(tactic| wtm_at "zst") => `(tactic| with_reducible first
  | exact q_c | apply q_var | apply q_oVg | apply q_frzG | apply ev_oE | exact ev_nil | apply ev_cons | apply ev_bin | apply ev_un | apply ev_tbin | apply ev_call | apply ev_callI | apply y_tup | apply y_lst | apply y_flst | apply ev_fr
  | apply q_chain | apply q_and | apply q_or | apply q_xand | apply q_xor | apply ev_not | apply ev_xnot | apply ev_test | apply ev_tv | apply q_slFrom | apply q_slTo | apply q_meth | apply q_comp | apply q_compF | apply q_sortC
  | apply q_range1 | apply q_range2 | apply ev_seqS | apply q_zip | apply q_zipS | apply y_aug | apply y_seq_aug | apply y_augE | apply q_comp2 | apply q_enum | apply y_nxE | apply y_ownE | apply y_parE | apply ev_ret | apply y_dropE2 | apply y_asgE | apply y_seq_ret | exact y_seq_raise | exact y_raise | apply y_seq_nx | apply y_seq_asg | apply y_seq_asgG | apply y_seq_own | apply y_seq_par | apply y_seq_drop | apply y_seq_parW | apply y_seq_for | apply y_seq_while | apply q_ownM | apply q_keep
  | exact q_awNil | apply q_awV | apply q_awF | apply y_seq_if | apply y_if)
local macro_rules | `(tactic| wtm_at "zx") => `(tactic| first
  | wtm_at "zlf"
  | wtm_at "zst"
  | ((with_reducible apply q_rangeN); rotate_left; omega) | ((with_reducible apply q_rangeI); rotate_left; omega) | ((with_reducible apply q_range2); rotate_left; rotate_left; omega)
  | wtm_at "zop" | wtm_at "zpt"
  | exact (fun z => (ff z rfl).elim)
  | (intro z; exfalso; simp at z <;> omega)
  | omega
  | intro _)
local macro_rules | `(tactic| tbr_iter [$ts,*]) => `(tactic| repeat' (first | ((with_reducible first | apply l_for | apply l_while); first $[| exact $ts]*) $[| with_reducible exact $ts]* | wtm_at "zx"))
abbrev r2 : Sm := sAsg (fun e => (fCompL (srR2 (xC (.int 1)) (xUn lenD (oV 1))) [4] (svName 4) (tNotZ (tV (xCall F__law_is_less (arCons (xSl (oV 1) (ptSome (xVar 4)) ptNo) (arCons (xVar 1) arNil))))) (xVar 4)) e >>= fun p => .ok (.list p.1, p.2)) (svName 5)
abbrev r3 : Te := tNotZ (tV (xCall F__law_is (arCons (xCall F_greatest_shown (arCons (xVar 1) arNil)) (arCons (xIf (tBin neD (oV 5) (oE (xLst arNil))) (xTup (arCons (xC tS) (arCons (xBin ixD (oV 5) (oE (xC (.int 0)))) arNil))) (xTup (arCons (xC tG) arNil))) arNil))))
abbrev r4 : Ev := xLst (arCons (xTup (arCons (xC tG) arNil)) (arCons (xTup (arCons (xC tG) (arCons (xC (.int 0)) arNil))) (arCons (xTup (arCons (xC tS) arNil)) (arCons (xTup (arCons (xC tS) (arCons (xC (.int 0)) arNil))) (arCons (xTup (arCons (xC tS) (arCons (xUn lenD (oV 1)) arNil))) (arCons (xTup (arCons (xC tS) (arCons (xC (.bool true)) arNil))) (arCons (xC .none) arNil)))))))
abbrev r5 : Ev := xBin addD (oV 6) (oE (fun e => (fCompL (srR2 (xC (.int 1)) (xUn lenD (oV 1))) [4] (svName 4) teYes (xTup (arCons (xC tS) (arCons (xVar 4) arNil)))) e >>= fun p => .ok (.list p.1, p.2)))
abbrev r6 : Ev := xBin addD (oV 6) (oE (xLst (arCons (xTup (arCons (xC tS) (arCons (xC .none) arNil))) (arCons (xC tG) (arCons (xLst (arCons (xC tG) arNil)) (arCons (xC (.dict [])) arNil))))))
abbrev r8 : Sm := sRet (xBin (bD isND) (oE (xCall F_is_less_word (arCons (xVar 1) (arCons (xVar 1) arNil)))) (oE (xC (.bool false))))
theorem thB_comp {l : W} (h : TW l) {hd : List D} {o c3 b5 b6 : Sl} : fCompL (srR2 (xC (.int 1)) (xUn lenD (oV 1))) [4] (svName 4) teYes (xTup (arCons (xC tS) (arCons (xVar 4) arNil))) [.own hd, .val (tx l), o, c3, .no, b5, b6, .no, .no, .no] = .ok (thB l, [.own hd, .val (tx l), o, c3, .no, b5, b6, .no, .no, .no]) := by
  have hl := tw_len h
  have ln : lenD (tx l) = some (.int (l.length : Int)) := len_tx (by omega)
  refine (q_comp (enc := fun k : Nat => PyData.int (1 + (k : Int))) (xs := List.range (l.length - 1)) (g := fun k : Nat => PyData.tuple [tS, .int (1 + (k : Int))]) (e1 := [.own hd, .val (tx l), o, c3, .no, b5, b6, .no, .no, .no]) (A := fun k => [.own hd, .val (tx l), o, c3, .val (.int (1 + (k : Int))), b5, b6, .no, .no, .no]) (B := fun k => [.own hd, .val (tx l), o, c3, .val (.int (1 + (k : Int))), b5, b6, .no, .no, .no]) ?_ (y_sz (by rw [List.length_range]; omega)) rfl ?_ ?_ ?_).trans rfl
  · have q := q_range2 (e := [.own hd, .val (tx l), o, c3, .no, b5, b6, .no, .no, .no]) (f := xC (.int 1)) (g := xUn lenD (oV 1)) (lo := 1) (hi := (l.length : Int)) q_c (ev_un rfl rfl ln) (by omega)
    rw [show ((l.length : Int) - 1).toNat = l.length - 1 by omega] at q
    exact q
  · intro k m; rfl
  · intro k m; exact y_tup (ev_cons q_c (ev_cons (q_var rfl) ev_nil)) rfl
  · intro k m; rfl
theorem rest_ok {l : W} (h : TW l) (hd : List D) (o c3 : Sl) : ∃ e, sSeq r2 (sSeq (sIf r3 (sRet (xC (.bool false))) sNext) (sSeq (sAsg r4 (svName 6)) (sSeq (sAsg r5 (svName 6)) (sSeq (sAsg r6 (svName 6)) (sSeq W__law_is_right_1 r8))))) [.own hd, .val (tx l), o, c3, .no, .no, .no, .no, .no, .no] = .ok (.rt (.bool true) (.own hd :: e)) := by
  have hl := tw_len h
  have ln : lenD (tx l) = some (.int (l.length : Int)) := len_tx (by omega)
  obtain ⟨a, b, c, w⟩ := loop_r h hd o c3 .no
  refine ⟨[.val (tx l), o, c3, .no, .val (badD l), .val (.list (thA l ++ thB l ++ thC)), a, b, c], ?_⟩
  refine y_seq_asg (i := 5) (d := badD l) (e1 := [.own hd, .val (tx l), o, c3, .no, .no, .no, .no, .no, .no]) ?_ rfl ?_
  · show (fCompL _ _ _ _ _ _ >>= fun p => (.ok (PyData.list p.1, p.2) : Res (D × VEnv))) = _
    rw [law_bad h]; rfl
  show sSeq _ _ [.own hd, .val (tx l), o, c3, .no, .val (badD l), .no, .no, .no, .no] = _
  refine y_seq_ifF (k := false) (e1 := [.own hd, .val (tx l), o, c3, .no, .val (badD l), .no, .no, .no, .no]) ?_ rfl ?_
  · exact ev_not (k := true) (ev_tv (ev_call (ev_cons (ev_call (ev_cons (q_var rfl) ev_nil) (greatest_shown h)) (ev_cons (law_due h) ev_nil)) (law_is_due h)))
  refine y_seq_nx ?_
  refine y_seq_asg (i := 6) (d := .list (thA l)) (e1 := [.own hd, .val (tx l), o, c3, .no, .val (badD l), .no, .no, .no, .no]) ?_ rfl ?_
  · exact y_lst (ev_cons (y_tup (ev_cons q_c ev_nil) rfl) (ev_cons (y_tup (ev_cons q_c (ev_cons q_c ev_nil)) rfl) (ev_cons (y_tup (ev_cons q_c ev_nil) rfl) (ev_cons (y_tup (ev_cons q_c (ev_cons q_c ev_nil)) rfl) (ev_cons (y_tup (ev_cons q_c (ev_cons (ev_un rfl rfl ln) ev_nil)) rfl) (ev_cons (y_tup (ev_cons q_c (ev_cons q_c ev_nil)) rfl) (ev_cons q_c ev_nil))))))) rfl
  show sSeq _ _ [.own hd, .val (tx l), o, c3, .no, .val (badD l), .val (.list (thA l)), .no, .no, .no] = _
  refine y_seq_asg (i := 6) (d := .list (thA l ++ thB l)) (e1 := [.own hd, .val (tx l), o, c3, .no, .val (badD l), .val (.list (thA l)), .no, .no, .no]) ?_ rfl ?_
  · refine ev_bin rfl (ev_oE (d := .list (thB l)) (e1 := [.own hd, .val (tx l), o, c3, .no, .val (badD l), .val (.list (thA l)), .no, .no, .no]) ?_) rfl rfl (add_lists ?_)
    · show (fCompL _ _ _ _ _ _ >>= fun p => (.ok (PyData.list p.1, p.2) : Res (D × VEnv))) = _
      rw [thB_comp h]; rfl
    · exact Nat.ble_eq.mpr (by show 7 + (thB l).length ≤ 1000; rw [List.length_map, List.length_range]; omega)
  show sSeq _ _ [.own hd, .val (tx l), o, c3, .no, .val (badD l), .val (.list (thA l ++ thB l)), .no, .no, .no] = _
  refine y_seq_asg (i := 6) (d := .list (thA l ++ thB l ++ thC)) (e1 := [.own hd, .val (tx l), o, c3, .no, .val (badD l), .val (.list (thA l ++ thB l)), .no, .no, .no]) ?_ rfl ?_
  · refine ev_bin rfl (ev_oE (y_lst (ev_cons (y_tup (ev_cons q_c (ev_cons q_c ev_nil)) rfl) (ev_cons q_c (ev_cons (y_lst (ev_cons q_c ev_nil) rfl) (ev_cons q_c ev_nil)))) rfl)) rfl rfl (add_lists ?_)
    exact Nat.ble_eq.mpr (by rw [List.length_append]; show 7 + (thB l).length + 4 ≤ 1000; rw [List.length_map, List.length_range]; omega)
  refine y_seq_for w ?_
  have lw := is_less_word h h
  rw [show lessW l l = false from less_refl l true] at lw
  exact ev_ret (ev_bin (ev_oE (ev_call (ev_cons (q_var rfl) (ev_cons (q_var rfl) ev_nil)) lw)) rfl rfl rfl rfl)
theorem is_right {l o : W} (h : TW l) (ho : TW o) (hd : List D) : F__law_is_right hd [tx l, tx o] = .ok (.bool true, hd) := by
  have key : ∃ e, B__law_is_right [.own hd, .val (tx l), .val (tx o), .no, .no, .no, .no, .no, .no, .no] = .ok (.rt (.bool true) (.own hd :: e)) := by
    unfold B__law_is_right
    simp only [dSh, dGr]
    by_cases q : l = o
    · obtain ⟨e, he⟩ := rest_ok h hd (.val (tx o)) .no
      refine ⟨e, y_seq_ifF (k := false) (e1 := [.own hd, .val (tx l), .val (tx o), .no, .no, .no, .no, .no, .no, .no]) (ev_tbin rfl rfl rfl rfl (ne_tx.trans (by rw [decide_eq_true q]; rfl))) rfl (y_seq_nx he)⟩
    · have w1 := is_less_word h ho
      have w2 := is_less_word ho h
      have v1 := law_is_less (tw_ok h) (tw_ok ho)
      rw [less_tw h ho q] at w2
      obtain ⟨e, he⟩ := rest_ok h hd (.val (tx o)) (.val (.list [.bool (lessW l o), .bool (!lessW l o)]))
      have fl : F__law_is [.list [.bool (lessW l o), .bool (!lessW l o)], .list [.bool (lessW l o), .bool (!lessW l o)]] = .ok (.bool true) := law_is_list (fun d m => .inl (by
        rcases List.mem_cons.mp m with rfl | m
        · exact ⟨_, rfl⟩
        rcases List.mem_cons.mp m with rfl | m
        · exact ⟨_, rfl⟩
        · cases m)) (show 2 ≤ 1000 by decide)
      refine ⟨e, y_seq_if (k := true) (e1 := [.own hd, .val (tx l), .val (tx o), .no, .no, .no, .no, .no, .no, .no]) (ev_tbin rfl rfl rfl rfl (ne_tx.trans (by rw [decide_eq_false q]; rfl))) (fun _ => y_seq_seq ?_) (fun z => nomatch z)⟩
      refine y_seq_asg (i := 3) (d := .list [.bool (lessW l o), .bool (!lessW l o)]) (e1 := [.own hd, .val (tx l), .val (tx o), .no, .no, .no, .no, .no, .no, .no]) (y_lst (ev_cons (ev_call (ev_cons (q_var rfl) (ev_cons (q_var rfl) ev_nil)) w1) (ev_cons (ev_call (ev_cons (q_var rfl) (ev_cons (q_var rfl) ev_nil)) w2) ev_nil)) rfl) rfl ?_
      show sSeq _ _ [.own hd, .val (tx l), .val (tx o), .val (.list [.bool (lessW l o), .bool (!lessW l o)]), .no, .no, .no, .no, .no, .no] = _
      refine y_seq_ifF (k := false) (e1 := [.own hd, .val (tx l), .val (tx o), .val (.list [.bool (lessW l o), .bool (!lessW l o)]), .no, .no, .no, .no, .no, .no]) ?_ rfl (y_seq_nx he)
      exact ev_not (k := true) (ev_tv (ev_call (ev_cons (q_var rfl) (ev_cons (y_lst (ev_cons (ev_call (ev_cons (q_var rfl) (ev_cons (q_var rfl) ev_nil)) v1) (ev_cons (ev_xnot (k := lessW l o) (ev_call (ev_cons (q_var rfl) (ev_cons (q_var rfl) ev_nil)) v1)) ev_nil)) rfl) ev_nil)) fl))
  obtain ⟨e, he⟩ := key
  exact fnI_ok2 he rfl
end K75

namespace K75
open PySem PySem.Spec PyProof.Rows L2 Z
local macro_rules | `(tactic| wtm_at "zsz") => `(tactic| first | assumption | omega | (simp only [List.length_append, List.length_drop, List.length_take, List.length_map, List.length_range, List.length_cons, List.length_nil]; omega))
local macro_rules | `(tactic| wtm_at "zop") => `(tactic| with_reducible first
  | exact add_int | exact sub_int | exact lt_int | exact le_int | exact gt_int | exact ge_int | exact eq_int | exact ne_int | exact neg_int | exact int_int | exact int_bool | exact abs_int
  | apply op_bD
  | exact len_rowD | exact len_tup | exact len_list
  | exact tup_ints | exact tup_list | exact tup_tup | exact lst_tup | exact all_map | exact any_map | exact sum_map | exact sum_rowZ
  | exact seq_row _ | exact seq_tx _ | exact eq_tx | exact ne_tx | exact ne_boolB _ _ | exact eq_boolB _ _ | exact zip_tt | exact zip_ll | exact enum_l | exact seq_list | exact seq_tup | exact eq_rowZ | exact ne_rowZ | exact lt_rowZ | exact le_rowZ | exact gt_rowZ | exact ge_rowZ)
local macro_rules | `(tactic| wtm_at "zpt") => `(tactic| first
  | ((with_reducible apply isi_t); exact rfl) | ((with_reducible apply isi_f); exact rfl)
  | ((with_reducible apply mul_smallL); exact (show small _ = true from by decide)) | ((with_reducible apply mul_smallR); exact (show small _ = true from by decide))
  | ((with_reducible apply mul_smallR); apply small_ofI; omega) | ((with_reducible apply mul_smallL); apply small_ofI; omega)
  | ((with_reducible apply mod_posZ); omega) | ((with_reducible apply div_posZ); omega)
  | ((with_reducible apply cut_row_from); omega) | ((with_reducible apply cut_row_to); omega) | ((with_reducible apply cut_list_from); omega) | ((with_reducible apply cut_list_to); omega) | ((with_reducible apply cut_tup_from); omega) | ((with_reducible apply cut_tup_to); omega)
  | ((with_reducible apply len_tx); wtm_at "zsz") | ((with_reducible apply zip_tx) <;> assumption) | ((with_reducible apply add_tx); wtm_at "zsz") | ((with_reducible apply cut_tx_from) <;> wtm_at "zsz") | ((with_reducible apply cut_tx_to) <;> wtm_at "zsz") | ((with_reducible apply cut_tx_init); wtm_at "zsz") | ((with_reducible apply insert_own); wtm_at "zsz") | ((with_reducible apply extend_own); wtm_at "zsz")
  | ((with_reducible apply add_rowZ); wtm_at "zsz")
  | ((with_reducible apply ix_row); omega) | ((with_reducible apply ix_list); omega) | ((with_reducible apply ix_tup); omega))
local macro_rules | `(tactic| wtm_at "zlf") => `(tactic| first
  | ((with_reducible apply rdv); exact rfl) | ((with_reducible apply l_get); exact rfl) | ((with_reducible apply l_svN); exact rfl) | ((with_reducible apply l_svT); exact rfl) | ((with_reducible apply l_wipe); exact rfl) | ((with_reducible apply l_ble); exact rfl) | ((with_reducible apply l_ty); exact rfl) | ((with_reducible apply l_env); exact rfl) | ((with_reducible apply l_vo); exact rfl) | ((with_reducible apply l_sc); exact rfl) | ((with_reducible apply l_frz); exact rfl) | ((with_reducible apply l_setW); exact rfl) | ((with_reducible apply l_own); exact rfl) | ((with_reducible apply l_cast); first | exact rfl | (apply cast_nn; omega))
  | ((with_reducible apply append_own); wtm_at "zsz") | ((with_reducible apply y_sz); wtm_at "zsz"))
local macro_rules | `(tactic| wtm_at "zst") => `(tactic| with_reducible first
  | exact q_c | apply q_var | apply q_oVg | apply q_frzG | apply ev_oE | exact ev_nil | apply ev_cons | apply ev_bin | apply ev_un | apply ev_tbin | apply ev_call | apply ev_callI | apply y_tup | apply y_lst | apply y_flst | apply ev_fr
  | apply q_chain | apply q_and | apply q_or | apply q_xand | apply q_xor | apply ev_not | apply ev_xnot | apply ev_test | apply ev_tv | apply q_slFrom | apply q_slTo | apply q_meth | apply q_comp | apply q_compF | apply q_sortC
  | apply q_range1 | apply q_range2 | apply ev_seqS | apply q_zip | apply q_zipS | apply y_aug | apply y_seq_aug | apply y_augE | apply q_comp2 | apply q_enum | apply y_nxE | apply y_ownE | apply y_parE | apply ev_ret | apply y_dropE2 | apply y_asgE | apply y_seq_ret | exact y_seq_raise | exact y_raise | apply y_seq_nx | apply y_seq_asg | apply y_seq_asgG | apply y_seq_own | apply y_seq_par | apply y_seq_drop | apply y_seq_parW | apply y_seq_for | apply y_seq_while | apply q_ownM | apply q_keep
  | exact q_awNil | apply q_awV | apply q_awF | apply y_seq_if | apply y_if)
local macro_rules | `(tactic| wtm_at "zx") => `(tactic| first
  | wtm_at "zlf"
  | wtm_at "zst"
  | ((with_reducible apply q_rangeN); rotate_left; omega) | ((with_reducible apply q_rangeI); rotate_left; omega) | ((with_reducible apply q_range2); rotate_left; rotate_left; omega)
  | wtm_at "zop" | wtm_at "zpt"
  | exact (fun z => (ff z rfl).elim)
  | (intro z; exfalso; simp at z <;> omega)
  | omega
  | intro _)
local macro_rules | `(tactic| tbr_iter [$ts,*]) => `(tactic| repeat' (first | ((with_reducible first | apply l_for | apply l_while); first $[| exact $ts]*) $[| with_reducible exact $ts]* | wtm_at "zx"))
/-! ### counting: powers -/
theorem power_of_two {n : Nat} (h : n ≤ 60) : F_power_of_two [.int (n : Int)] = .ok (.int ((2 ^ n : Nat) : Int)) := by
  obtain ⟨s, w1, w2⟩ := y_for (enc := fun k : Nat => PyData.int (k : Int)) (xs := List.range n) (src := srR1 (xVar 0)) (sv := svName 2) (body := Y_power_of_two_1) (e := [.val (.int (n : Int)), .val (.int 1), .no]) (s0 := ((1 : Nat), Sl.no)) (mk := fun s : Nat × Sl => [.val (.int (n : Int)), .val (.int (s.1 : Int)), s.2]) (fun k s => s.1 = 2 ^ k)
    (q_range1 (q_var rfl) rfl (by omega)) rfl
    (fun i s hi hI => by
      obtain ⟨x, a⟩ := s
      have hI : x = 2 ^ i := hI
      refine ⟨_, (x * 2, .val (.int ((List.range n)[i] : Nat))), rfl, ?_, by show x * 2 = 2 ^ (i + 1); rw [hI, Nat.pow_succ]⟩
      refine (y_asg (e1 := [.val (.int (n : Int)), .val (.int (x : Int)), .val (.int ((List.range n)[i] : Nat))]) (ev_bin rfl rfl rfl rfl (mul_smallR (i := (x : Int)) (j := 2) (by decide))) rfl).trans ?_
      show _ = Res.ok (Fw.nx [.val (.int (n : Int)), .val (.int ((x * 2 : Nat) : Int)), _])
      rw [Int.natCast_mul]; rfl)
  obtain ⟨x, a⟩ := s
  have w2 : x = 2 ^ n := by have := w2; rw [List.length_range] at this; exact this
  have w1 : W_power_of_two_1 [.val (.int (n : Int)), .val (.int 1), .no] = .ok (.nx [.val (.int (n : Int)), .val (.int (x : Int)), a]) := w1
  rw [← w2]
  apply fn_ok2
  · unfold B_power_of_two
    tbr_iter [lp w1]
  · rfl
theorem law_power {n : Nat} (h : n ≤ 60) : F__law_power [.int 2, .int (n : Int)] = .ok (.int ((2 ^ n : Nat) : Int)) := by
  obtain ⟨s, w1, w2⟩ := y_for (enc := fun k : Nat => PyData.int (k : Int)) (xs := List.range n) (src := srR1 (xVar 1)) (sv := svName 3) (body := Y__law_power_1) (e := [.val (.int 2), .val (.int (n : Int)), .val (.int 1), .no]) (s0 := ((1 : Nat), Sl.no)) (mk := fun s : Nat × Sl => [.val (.int 2), .val (.int (n : Int)), .val (.int (s.1 : Int)), s.2]) (fun k s => s.1 = 2 ^ k)
    (q_range1 (q_var rfl) rfl (by omega)) rfl
    (fun i s hi hI => by
      obtain ⟨x, a⟩ := s
      have hI : x = 2 ^ i := hI
      refine ⟨_, (x * 2, .val (.int ((List.range n)[i] : Nat))), rfl, ?_, by show x * 2 = 2 ^ (i + 1); rw [hI, Nat.pow_succ]⟩
      refine (y_asg (e1 := [.val (.int 2), .val (.int (n : Int)), .val (.int (x : Int)), .val (.int ((List.range n)[i] : Nat))]) (ev_bin rfl rfl rfl rfl (mul_smallR (i := (x : Int)) (j := 2) (by decide))) rfl).trans ?_
      show _ = Res.ok (Fw.nx [.val (.int 2), .val (.int (n : Int)), .val (.int ((x * 2 : Nat) : Int)), _])
      rw [Int.natCast_mul]; rfl)
  obtain ⟨x, a⟩ := s
  have w2 : x = 2 ^ n := by have := w2; rw [List.length_range] at this; exact this
  have w1 : W__law_power_1 [.val (.int 2), .val (.int (n : Int)), .val (.int 1), .no] = .ok (.nx [.val (.int 2), .val (.int (n : Int)), .val (.int (x : Int)), a]) := w1
  rw [← w2]
  apply fn_ok2
  · unfold B__law_power
    tbr_iter [lp w1]
  · rfl
/-! ### the sign of a number -/
def ps : Nat → Int → Int → Int → Option Int
  | 0, _, _, _ => none
  | f + 1, n, s, p => if 1 < n then (if n % (p * p) = 0 then some 0 else if n % p = 0 then ps f (n / p) (0 - s) (p + 1) else ps f n s (p + 1)) else some s
theorem prime_sign {n v : Int} (h : ps 64 n 1 2 = some v) : F__law_prime_sign [.int n] = .ok (.int v) := by
  have key := y_whileE (t := tBin gtD (oV 0) (oE (xC (.int 1)))) (body := Y__law_prime_sign_1) (n := fuelZ) (e := [.val (.int n), .val (.int 1), .val (.int 2)]) (s0 := ((64 : Nat), n, (1 : Int), (2 : Int)))
    (fun s : Nat × Int × Int × Int => [.val (.int s.2.1), .val (.int s.2.2.1), .val (.int s.2.2.2)]) (fun s => decide (1 < s.2.1)) (fun s => ps s.1 s.2.1 s.2.2.1 s.2.2.2 = some v ∧ 2 ≤ s.2.2.2 ∧ s.2.2.2 + (s.1 : Int) ≤ 100) (fun d => d = .int v) (fun s => s.1) rfl ⟨h, by show (2 : Int) ≤ 2; omega, by show (2 : Int) + 64 ≤ 100; omega⟩ (fuel_lt (by show 64 < 2000; decide))
    (fun s _ => by tbr_iter [])
    (fun s ⟨i1, i2, i3⟩ hc => by
      obtain ⟨f, m, sg, p⟩ := s
      have hc1 : 1 < m := of_decide_eq_true hc
      have i1 : ps f m sg p = some v := i1
      have i2 : 2 ≤ p := i2
      have i3 : p + (f : Int) ≤ 100 := i3
      have pp : 0 < p * p := Int.mul_pos (by omega) (by omega)
      cases f with
      | zero => cases i1
      | succ f =>
        have i1 : (if 1 < m then (if m % (p * p) = 0 then some 0 else if m % p = 0 then ps f (m / p) (0 - sg) (p + 1) else ps f m sg (p + 1)) else some sg) = some v := i1
        rw [if_pos hc1] at i1
        have mpp : mulD (.int p) (.int p) = some (.int (p * p)) := mul_smallL (small_ofI (by omega))
        have t1 : tBin eqD (oE (xBin modD (oE (xUn Z.intD (oV 0))) (oE (xBin mulD (oV 2) (oV 2))))) (oE (xC (.int 0))) [.val (.int m), .val (.int sg), .val (.int p)] = .ok (decide (m % (p * p) = 0), [.val (.int m), .val (.int sg), .val (.int p)]) :=
          ev_tbin (ev_oE (ev_bin (ev_oE (ev_un rfl rfl rfl)) (ev_oE (ev_bin rfl rfl rfl rfl mpp)) rfl rfl (mod_posZ pp))) rfl rfl rfl eq_int
        have t2 : tBin eqD (oE (xBin modD (oE (xUn Z.intD (oV 0))) (oV 2))) (oE (xC (.int 0))) [.val (.int m), .val (.int sg), .val (.int p)] = .ok (decide (m % p = 0), [.val (.int m), .val (.int sg), .val (.int p)]) :=
          ev_tbin (ev_oE (ev_bin (ev_oE (ev_un rfl rfl rfl)) rfl rfl rfl (mod_posZ (by omega)))) rfl rfl rfl eq_int
        by_cases q : m % (p * p) = 0
        · rw [if_pos q] at i1
          rw [decide_eq_true q] at t1
          exact .inr ⟨.int 0, _, y_seq_if (k := true) t1 (fun _ => y_seq_ret q_c) (fun z => nomatch z), by rw [Option.some.injEq] at i1; rw [i1]⟩
        · rw [if_neg q] at i1
          rw [decide_eq_false q] at t1
          by_cases q2 : m % p = 0
          · rw [if_pos q2] at i1
            rw [decide_eq_true q2] at t2
            refine .inl ⟨(f, m / p, 0 - sg, p + 1), ?_, ⟨i1, by show 2 ≤ p + 1; omega, by show p + 1 + (f : Int) ≤ 100; omega⟩, by show f < f + 1; omega⟩
            refine y_seq_ifF t1 rfl (y_seq_nx ?_)
            refine y_seq_if (k := true) t2 (fun _ => ?_) (fun z => nomatch z)
            refine y_seq_par (e1 := [.val (.int m), .val (.int sg), .val (.int p)]) (ev_cons (ev_bin rfl rfl rfl rfl sub_int) (ev_cons (ev_bin rfl rfl rfl rfl (div_posZ (by omega))) ev_nil)) rfl rfl ?_
            exact (y_asg (e1 := [.val (.int (m / p)), .val (.int (0 - sg)), .val (.int p)]) (ev_bin rfl rfl rfl rfl add_int) rfl).trans rfl
          · rw [if_neg q2] at i1
            rw [decide_eq_false q2] at t2
            refine .inl ⟨(f, m, sg, p + 1), ?_, ⟨i1, by show 2 ≤ p + 1; omega, by show p + 1 + (f : Int) ≤ 100; omega⟩, by show f < f + 1; omega⟩
            refine y_seq_ifF t1 rfl (y_seq_nx ?_)
            refine y_seq_ifF t2 rfl (y_seq_nx ?_)
            exact (y_asg (e1 := [.val (.int m), .val (.int sg), .val (.int p)]) (ev_bin rfl rfl rfl rfl add_int) rfl).trans rfl)
  have i0 : xTup (arCons (xC (.int 1)) (arCons (xC (.int 2)) arNil)) [.val (.int n), .no, .no] = .ok (.tuple [.int 1, .int 2], [.val (.int n), .no, .no]) := y_tup (ev_cons q_c (ev_cons q_c ev_nil)) rfl
  rcases key with ⟨s, w, i1, hc⟩ | ⟨d, e', w, rfl⟩
  · obtain ⟨f, m, sg, p⟩ := s
    have hc1 : ¬ 1 < m := of_decide_eq_false hc
    have i1 : ps f m sg p = some v := i1.1
    have e : sg = v := by
      cases f with
      | zero => cases i1
      | succ f =>
        have i1 : (if 1 < m then _ else some sg) = some v := i1
        rw [if_neg hc1] at i1
        exact Option.some.inj i1
    subst e
    refine fn_ok (e := [.val (.int m), .val (.int sg), .val (.int p)]) (y_seq_asgG i0 rfl ?_)
    exact y_seq_while w (ev_ret (q_var rfl))
  · exact fn_ok (e := e') (y_seq_asgG i0 rfl (y_seq_whileR w))
end K75

namespace K75
open PySem PySem.Spec PyProof.Rows L2 Z
local macro_rules | `(tactic| wtm_at "zsz") => `(tactic| first | assumption | omega | (simp only [List.length_append, List.length_drop, List.length_take, List.length_map, List.length_range, List.length_cons, List.length_nil]; omega))
local macro_rules | `(tactic| wtm_at "zop") => `(tactic| with_reducible first
  | exact add_int | exact sub_int | exact lt_int | exact le_int | exact gt_int | exact ge_int | exact eq_int | exact ne_int | exact neg_int | exact int_int | exact int_bool | exact abs_int
  | apply op_bD
  | exact len_rowD | exact len_tup | exact len_list
  | exact tup_ints | exact tup_list | exact tup_tup | exact lst_tup | exact all_map | exact any_map | exact sum_map | exact sum_rowZ
  | exact seq_row _ | exact seq_tx _ | exact eq_tx | exact ne_tx | exact ne_boolB _ _ | exact eq_boolB _ _ | exact zip_tt | exact zip_ll | exact enum_l | exact seq_list | exact seq_tup | exact eq_rowZ | exact ne_rowZ | exact lt_rowZ | exact le_rowZ | exact gt_rowZ | exact ge_rowZ)
local macro_rules | `(tactic| wtm_at "zpt") => `(tactic| first
  | ((with_reducible apply isi_t); exact rfl) | ((with_reducible apply isi_f); exact rfl)
  | ((with_reducible apply mul_smallL); exact (show small _ = true from by decide)) | ((with_reducible apply mul_smallR); exact (show small _ = true from by decide))
  | ((with_reducible apply mul_smallR); apply small_ofI; omega) | ((with_reducible apply mul_smallL); apply small_ofI; omega)
  | ((with_reducible apply mod_posZ); omega) | ((with_reducible apply div_posZ); omega)
  | ((with_reducible apply cut_row_from); omega) | ((with_reducible apply cut_row_to); omega) | ((with_reducible apply cut_list_from); omega) | ((with_reducible apply cut_list_to); omega) | ((with_reducible apply cut_tup_from); omega) | ((with_reducible apply cut_tup_to); omega)
  | ((with_reducible apply len_tx); wtm_at "zsz") | ((with_reducible apply zip_tx) <;> assumption) | ((with_reducible apply add_tx); wtm_at "zsz") | ((with_reducible apply cut_tx_from) <;> wtm_at "zsz") | ((with_reducible apply cut_tx_to) <;> wtm_at "zsz") | ((with_reducible apply cut_tx_init); wtm_at "zsz") | ((with_reducible apply insert_own); wtm_at "zsz") | ((with_reducible apply extend_own); wtm_at "zsz")
  | ((with_reducible apply add_rowZ); wtm_at "zsz")
  | ((with_reducible apply ix_row); omega) | ((with_reducible apply ix_list); omega) | ((with_reducible apply ix_tup); omega))
local macro_rules | `(tactic| wtm_at "zlf") => `(tactic| first
  | ((with_reducible apply rdv); exact rfl) | ((with_reducible apply l_get); exact rfl) | ((with_reducible apply l_svN); exact rfl) | ((with_reducible apply l_svT); exact rfl) | ((with_reducible apply l_wipe); exact rfl) | ((with_reducible apply l_ble); exact rfl) | ((with_reducible apply l_ty); exact rfl) | ((with_reducible apply l_env); exact rfl) | ((with_reducible apply l_vo); exact rfl) | ((with_reducible apply l_sc); exact rfl) | ((with_reducible apply l_frz); exact rfl) | ((with_reducible apply l_setW); exact rfl) | ((with_reducible apply l_own); exact rfl) | ((with_reducible apply l_cast); first | exact rfl | (apply cast_nn; omega))
  | ((with_reducible apply append_own); wtm_at "zsz") | ((with_reducible apply y_sz); wtm_at "zsz"))
local macro_rules | `(tactic| wtm_at "zst") => `(tactic| with_reducible first
  | exact q_c | apply q_var | apply q_oVg | apply q_frzG | apply ev_oE | exact ev_nil | apply ev_cons | apply ev_bin | apply ev_un | apply ev_tbin | apply ev_call | apply ev_callI | apply y_tup | apply y_lst | apply y_flst | apply ev_fr
  | apply q_chain | apply q_and | apply q_or | apply q_xand | apply q_xor | apply ev_not | apply ev_xnot | apply ev_test | apply ev_tv | apply q_slFrom | apply q_slTo | apply q_meth | apply q_comp | apply q_compF | apply q_sortC
  | apply q_range1 | apply q_range2 | apply ev_seqS | apply q_zip | apply q_zipS | apply y_aug | apply y_seq_aug | apply y_augE | apply q_comp2 | apply q_enum | apply y_nxE | apply y_ownE | apply y_parE | apply ev_ret | apply y_dropE2 | apply y_asgE | apply y_seq_ret | exact y_seq_raise | exact y_raise | apply y_seq_nx | apply y_seq_asg | apply y_seq_asgG | apply y_seq_own | apply y_seq_par | apply y_seq_drop | apply y_seq_parW | apply y_seq_for | apply y_seq_while | apply q_ownM | apply q_keep
  | exact q_awNil | apply q_awV | apply q_awF | apply y_seq_if | apply y_if)
local macro_rules | `(tactic| wtm_at "zx") => `(tactic| first
  | wtm_at "zlf"
  | wtm_at "zst"
  | ((with_reducible apply q_rangeN); rotate_left; omega) | ((with_reducible apply q_rangeI); rotate_left; omega) | ((with_reducible apply q_range2); rotate_left; rotate_left; omega)
  | wtm_at "zop" | wtm_at "zpt"
  | exact (fun z => (ff z rfl).elim)
  | (intro z; exfalso; simp at z <;> omega)
  | omega
  | intro _)
local macro_rules | `(tactic| tbr_iter [$ts,*]) => `(tactic| repeat' (first | ((with_reducible first | apply l_for | apply l_while); first $[| exact $ts]*) $[| with_reducible exact $ts]* | wtm_at "zx"))
/-! ### counting: the table -/
def MG : List Int := [0, 1, 1, 1, 2, 3, 5, 9, 16, 28, 51, 93, 170, 315, 585, 1091, 2048, 3855, 7280, 13797, 26214, 49929, 95325, 182361, 349520, 671088, 1290555, 2485504, 4793490, 9256395, 17895679, 34636833, 67108864, 130150493, 252645135, 490853403, 954437120, 1857283155, 3616814565, 7048151355, 13743895344, 26817356775, 52357696365, 102280151421, 199911205050, 390937467284, 764877654105, 1497207322929, 2932031006720, 5744387279808, 11258999068416, 22076468760335, 43303842570870, 84973577874915, 166799986196480, 327534518354199, 643371375338640, 1264168316450277, 2484744621997515, 4885260612740877, 9607679205048286]
def vM (M : Nat) (l : List Int) : Int := (((2 ^ M : Nat) : Int) - (((List.range (M - 1)).filter fun k : Nat => decide ((M : Int) % (1 + (k : Int)) = 0) && decide (((M : Int) / (1 + (k : Int))) % 2 = 1)).map fun k : Nat => 2 * (1 + (k : Int)) * (l[1 + k]?).getD 0).sum) / (2 * (M : Int))
theorem f_mg : ∀ m, m < 60 → MG.take (m + 2) = MG.take (m + 1) ++ [vM (m + 1) (MG.take (m + 1))] := by decide +kernel
theorem mg_len : MG.length = 61 := by decide +kernel
def sgn (m : Int) : Int := (ps 64 m 1 2).getD 0
def lm (n : Nat) : Nat → Int
  | 0 => 0
  | k + 1 => lm n k + (if (n : Int) % (1 + 2 * (k : Int)) = 0 then sgn (1 + 2 * (k : Int)) * ((2 ^ (n / (1 + 2 * k)) : Nat) : Int) else 0)
theorem f_sgn : ∀ k, k < 30 → ps 64 (1 + 2 * ((k : Nat) : Int)) 1 2 = some (sgn (1 + 2 * (k : Int))) ∧ small (sgn (1 + 2 * (k : Int))) = true := by decide +kernel
theorem f_rng : ∀ n, n < 61 → (decide ((0 : Int) < 2) && decide ((2 : Int).natAbs < 1073741824) && Builtin.Range.small 1 ((n : Nat) + 1 : Int) 2 && decide ((((Builtin.Range.rangeSize 1 ((n : Int) + 1) 2).toNat : Nat) : Int) = Builtin.Range.rangeSize 1 ((n : Int) + 1) 2)) = true ∧ (Builtin.Range.rangeSize 1 ((n : Int) + 1) 2).toNat = (n + 1) / 2 := by decide +kernel
theorem f_lm : ∀ n, n < 61 → 1 ≤ n → lm n ((n + 1) / 2) / (2 * (n : Int)) = (MG[n]?).getD 0 := by decide +kernel
theorem f_len : ∀ n, n < 9 → 1 ≤ n → ((lawG n).length : Int) = (MG[n]?).getD 0 := by decide +kernel
theorem f_big : ∀ n, n < 61 → -9223372036854775808 < (MG[n]?).getD 0 ∧ (MG[n]?).getD 0 < 9223372036854775808 := by decide +kernel
theorem range_odd {n : Nat} (h : n ≤ 60) {e : VEnv} (he : e.getD 0 .no = .val (.int (n : Int))) : srR3 (xC (.int 1)) (xBin addD (oV 0) (oE (xC (.int 1)))) (xC (.int 2)) e = .ok ((List.range ((n + 1) / 2)).map (fun k : Nat => PyData.int (1 + 2 * (k : Int))), e) := by
  obtain ⟨c, z⟩ := f_rng n (by omega)
  have q : rangeOf3 [.int 1, .int ((n : Int) + 1), .int 2] = some ((List.range ((n + 1) / 2)).map (fun k : Nat => PyData.int (1 + 2 * (k : Int)))) := by
    rw [rangeOf3_of c, z, rangeS_map]
  have hb : xBin addD (oV 0) (oE (xC (.int 1))) e = .ok (.int ((n : Int) + 1), e) := ev_bin (q_oV he) (ev_oE q_c) (by show (match e.getD 0 .no with | .val d => some d | .own ds => some (.list ds) | _ => none) = _; rw [he]) rfl rfl
  exact q_range3 q_c hb q_c q
theorem law_many {n : Nat} (h1 : 1 ≤ n) (h : n ≤ 60) : F__law_many [.int (n : Int)] = .ok (.int ((MG[n]?).getD 0)) := by
  obtain ⟨s, w1, w2⟩ := y_for (enc := fun k : Nat => PyData.int (1 + 2 * (k : Int))) (xs := List.range ((n + 1) / 2)) (src := srR3 (xC (.int 1)) (xBin addD (oV 0) (oE (xC (.int 1)))) (xC (.int 2))) (sv := svName 2) (body := Y__law_many_1) (e := [.val (.int (n : Int)), .val (.int 0), .no]) (s0 := ((0 : Int), Sl.no)) (mk := fun s : Int × Sl => [.val (.int (n : Int)), .val (.int s.1), s.2]) (fun k s => s.1 = lm n k)
    (range_odd h rfl) rfl
    (fun i s hi hI => by
      obtain ⟨x, a⟩ := s
      have hi : i < (n + 1) / 2 := by rw [List.length_range] at hi; exact hi
      have hI : x = lm n i := hI
      have hx : (List.range ((n + 1) / 2))[i]'(by rw [List.length_range]; exact hi) = i := by simp
      obtain ⟨s1, s2⟩ := f_sgn i (by omega)
      have psg := prime_sign s1
      have pw := law_power (n := n / (1 + 2 * i)) (Nat.le_trans (Nat.div_le_self _ _) h)
      have dv : divD (.int (n : Int)) (.int (1 + 2 * (i : Int))) = some (.int ((n / (1 + 2 * i) : Nat) : Int)) := (div_posZ (by omega)).trans (by
        rw [show (1 + 2 * (i : Int)) = ((1 + 2 * i : Nat) : Int) by omega]; rfl)
      have mu : mulD (.int (sgn (1 + 2 * (i : Int)))) (.int ((2 ^ (n / (1 + 2 * i)) : Nat) : Int)) = some (.int (sgn (1 + 2 * (i : Int)) * ((2 ^ (n / (1 + 2 * i)) : Nat) : Int))) := mul_smallL s2
      refine ⟨_, (lm n (i + 1), .val (.int (1 + 2 * (i : Int)))), by rw [hx]; rfl, ?_, rfl⟩
      show Y__law_many_1 [.val (.int (n : Int)), .val (.int x), .val (.int (1 + 2 * (i : Int)))] = _
      have t1 : tBin eqD (oE (xBin modD (oE (xUn Z.intD (oV 0))) (oV 2))) (oE (xC (.int 0))) [.val (.int (n : Int)), .val (.int x), .val (.int (1 + 2 * (i : Int)))] = .ok (decide ((n : Int) % (1 + 2 * (i : Int)) = 0), [.val (.int (n : Int)), .val (.int x), .val (.int (1 + 2 * (i : Int)))]) :=
        ev_tbin (ev_oE (ev_bin (ev_oE (ev_un rfl rfl rfl)) rfl rfl rfl (mod_posZ (by omega)))) rfl rfl rfl eq_int
      subst hI
      have lme : lm n (i + 1) = lm n i + (if (n : Int) % (1 + 2 * (i : Int)) = 0 then sgn (1 + 2 * (i : Int)) * ((2 ^ (n / (1 + 2 * i)) : Nat) : Int) else 0) := rfl
      by_cases q : (n : Int) % (1 + 2 * (i : Int)) = 0
      · rw [decide_eq_true q] at t1
        rw [if_pos q] at lme
        refine y_if (k := true) t1 (fun _ => ?_) (fun z => nomatch z)
        refine (y_asg (e1 := [.val (.int (n : Int)), .val (.int (lm n i)), .val (.int (1 + 2 * (i : Int)))]) (ev_bin rfl (ev_oE (ev_bin (ev_oE (ev_call (ev_cons (q_var rfl) ev_nil) psg)) (ev_oE (ev_call (ev_cons q_c (ev_cons (ev_bin rfl rfl rfl rfl dv) ev_nil)) pw)) rfl rfl mu)) rfl rfl add_int) rfl).trans ?_
        rw [lme]; rfl
      · rw [decide_eq_false q] at t1
        rw [if_neg q, Int.add_zero] at lme
        refine y_ifF t1 rfl ?_
        rw [lme]
        exact y_nxE rfl)
  obtain ⟨x, a⟩ := s
  have w2 : x = lm n ((n + 1) / 2) := by have := w2; rw [List.length_range] at this; exact this
  subst w2
  rw [← f_lm n (by omega) h1]
  refine fn_ok (e := [.val (.int (n : Int)), .val (.int (lm n ((n + 1) / 2))), a]) ?_
  refine y_seq_asg (e1 := [.val (.int (n : Int)), .no, .no]) q_c rfl ?_
  refine y_seq_for w1 ?_
  exact ev_ret (ev_bin rfl (ev_oE (ev_bin (ev_oE q_c) rfl rfl rfl (mul_smallL (by decide)))) rfl rfl (div_posZ (by omega)))
end K75

namespace K75
open PySem PySem.Spec PyProof.Rows L2 Z
local macro_rules | `(tactic| wtm_at "zsz") => `(tactic| first | assumption | omega | (simp only [List.length_append, List.length_drop, List.length_take, List.length_map, List.length_range, List.length_cons, List.length_nil]; omega))
local macro_rules | `(tactic| wtm_at "zop") => `(tactic| with_reducible first
  | exact add_int | exact sub_int | exact lt_int | exact le_int | exact gt_int | exact ge_int | exact eq_int | exact ne_int | exact neg_int | exact int_int | exact int_bool | exact abs_int
  | apply op_bD
  | exact len_rowD | exact len_tup | exact len_list
  | exact tup_ints | exact tup_list | exact tup_tup | exact lst_tup | exact all_map | exact any_map | exact sum_map | exact sum_rowZ
  | exact seq_row _ | exact seq_tx _ | exact eq_tx | exact ne_tx | exact ne_boolB _ _ | exact eq_boolB _ _ | exact zip_tt | exact zip_ll | exact enum_l | exact seq_list | exact seq_tup | exact eq_rowZ | exact ne_rowZ | exact lt_rowZ | exact le_rowZ | exact gt_rowZ | exact ge_rowZ)
local macro_rules | `(tactic| wtm_at "zpt") => `(tactic| first
  | ((with_reducible apply isi_t); exact rfl) | ((with_reducible apply isi_f); exact rfl)
  | ((with_reducible apply mul_smallL); exact (show small _ = true from by decide)) | ((with_reducible apply mul_smallR); exact (show small _ = true from by decide))
  | ((with_reducible apply mul_smallR); apply small_ofI; omega) | ((with_reducible apply mul_smallL); apply small_ofI; omega)
  | ((with_reducible apply mod_posZ); omega) | ((with_reducible apply div_posZ); omega)
  | ((with_reducible apply cut_row_from); omega) | ((with_reducible apply cut_row_to); omega) | ((with_reducible apply cut_list_from); omega) | ((with_reducible apply cut_list_to); omega) | ((with_reducible apply cut_tup_from); omega) | ((with_reducible apply cut_tup_to); omega)
  | ((with_reducible apply len_tx); wtm_at "zsz") | ((with_reducible apply zip_tx) <;> assumption) | ((with_reducible apply add_tx); wtm_at "zsz") | ((with_reducible apply cut_tx_from) <;> wtm_at "zsz") | ((with_reducible apply cut_tx_to) <;> wtm_at "zsz") | ((with_reducible apply cut_tx_init); wtm_at "zsz") | ((with_reducible apply insert_own); wtm_at "zsz") | ((with_reducible apply extend_own); wtm_at "zsz")
  | ((with_reducible apply add_rowZ); wtm_at "zsz")
  | ((with_reducible apply ix_row); omega) | ((with_reducible apply ix_list); omega) | ((with_reducible apply ix_tup); omega))
local macro_rules | `(tactic| wtm_at "zlf") => `(tactic| first
  | ((with_reducible apply rdv); exact rfl) | ((with_reducible apply l_get); exact rfl) | ((with_reducible apply l_svN); exact rfl) | ((with_reducible apply l_svT); exact rfl) | ((with_reducible apply l_wipe); exact rfl) | ((with_reducible apply l_ble); exact rfl) | ((with_reducible apply l_ty); exact rfl) | ((with_reducible apply l_env); exact rfl) | ((with_reducible apply l_vo); exact rfl) | ((with_reducible apply l_sc); exact rfl) | ((with_reducible apply l_frz); exact rfl) | ((with_reducible apply l_setW); exact rfl) | ((with_reducible apply l_own); exact rfl) | ((with_reducible apply l_cast); first | exact rfl | (apply cast_nn; omega))
  | ((with_reducible apply append_own); wtm_at "zsz") | ((with_reducible apply y_sz); wtm_at "zsz"))
local macro_rules | `(tactic| wtm_at "zst") => `(tactic| with_reducible first
  | exact q_c | apply q_var | apply q_oVg | apply q_frzG | apply ev_oE | exact ev_nil | apply ev_cons | apply ev_bin | apply ev_un | apply ev_tbin | apply ev_call | apply ev_callI | apply y_tup | apply y_lst | apply y_flst | apply ev_fr
  | apply q_chain | apply q_and | apply q_or | apply q_xand | apply q_xor | apply ev_not | apply ev_xnot | apply ev_test | apply ev_tv | apply q_slFrom | apply q_slTo | apply q_meth | apply q_comp | apply q_compF | apply q_sortC
  | apply q_range1 | apply q_range2 | apply ev_seqS | apply q_zip | apply q_zipS | apply y_aug | apply y_seq_aug | apply y_augE | apply q_comp2 | apply q_enum | apply y_nxE | apply y_ownE | apply y_parE | apply ev_ret | apply y_dropE2 | apply y_asgE | apply y_seq_ret | exact y_seq_raise | exact y_raise | apply y_seq_nx | apply y_seq_asg | apply y_seq_asgG | apply y_seq_own | apply y_seq_par | apply y_seq_drop | apply y_seq_parW | apply y_seq_for | apply y_seq_while | apply q_ownM | apply q_keep
  | exact q_awNil | apply q_awV | apply q_awF | apply y_seq_if | apply y_if)
local macro_rules | `(tactic| wtm_at "zx") => `(tactic| first
  | wtm_at "zlf"
  | wtm_at "zst"
  | ((with_reducible apply q_rangeN); rotate_left; omega) | ((with_reducible apply q_rangeI); rotate_left; omega) | ((with_reducible apply q_range2); rotate_left; rotate_left; omega)
  | wtm_at "zop" | wtm_at "zpt"
  | exact (fun z => (ff z rfl).elim)
  | (intro z; exfalso; simp at z <;> omega)
  | omega
  | intro _)
local macro_rules | `(tactic| tbr_iter [$ts,*]) => `(tactic| repeat' (first | ((with_reducible first | apply l_for | apply l_while); first $[| exact $ts]*) $[| with_reducible exact $ts]* | wtm_at "zx"))
/-! ### many_greatest, greatest_words -/
abbrev pM (M : Nat) (k : Nat) : Bool := decide ((M : Int) % (1 + (k : Int)) = 0) && decide (((M : Int) / (1 + (k : Int))) % 2 = 1)
abbrev eM (l : List Int) (k : Nat) : Int := 2 * (1 + (k : Int)) * (l[1 + k]?).getD 0
theorem ix_getD {l : List Int} {k : Nat} {i : Int} (hi : i = (k : Int)) (hk : k < l.length) : ixD (.list (l.map PyData.int)) (.int i) = some (.int ((l[k]?).getD 0)) := by
  subst hi
  rw [ix_list (f := PyData.int) (l := l) (i := (k : Int)) ⟨by omega, by omega⟩, List.getElem?_eq_getElem hk]
  rfl
theorem mg_comp {n M : Nat} (h1 : 1 ≤ M) (h : M ≤ 60) {l : List Int} (hl : l.length = M) {c : Sl} : fCompL (srR2 (xC (.int 1)) (xVar 2)) [3] (svName 3) (tAndZ (tBin eqD (oE (xBin modD (oV 2) (oV 3))) (oE (xC (.int 0)))) (tBin eqD (oE (xBin modD (oE (xBin divD (oV 2) (oV 3))) (oE (xC (.int 2))))) (oE (xC (.int 1))))) (xBin mulD (oE (xBin mulD (oE (xC (.int 2))) (oV 3))) (oE (xBin ixD (oV 1) (oV 3)))) [.val (.int (n : Int)), .own (l.map PyData.int), .val (.int (M : Int)), .no, c] = .ok (((List.range (M - 1)).filter (pM M)).map (fun k => PyData.int (eM l k)), [.val (.int (n : Int)), .own (l.map PyData.int), .val (.int (M : Int)), .no, c]) := by
  refine (q_compF (enc := fun k : Nat => PyData.int (1 + (k : Int))) (xs := List.range (M - 1)) (g := fun k => PyData.int (eM l k)) (p := pM M) (e1 := [.val (.int (n : Int)), .own (l.map PyData.int), .val (.int (M : Int)), .no, c]) (A := fun k => [.val (.int (n : Int)), .own (l.map PyData.int), .val (.int (M : Int)), .val (.int (1 + (k : Int))), c]) (B := fun k => [.val (.int (n : Int)), .own (l.map PyData.int), .val (.int (M : Int)), .val (.int (1 + (k : Int))), c]) (C := fun k => [.val (.int (n : Int)), .own (l.map PyData.int), .val (.int (M : Int)), .val (.int (1 + (k : Int))), c]) ?_ (y_sz (by rw [List.length_range]; omega)) rfl ?_ ?_ ?_ ?_ ?_).trans rfl
  · have q := q_range2 (e := [.val (.int (n : Int)), .own (l.map PyData.int), .val (.int (M : Int)), .no, c]) (f := xC (.int 1)) (g := xVar 2) (lo := 1) (hi := (M : Int)) q_c (q_var rfl) (by omega)
    rw [show ((M : Int) - 1).toNat = M - 1 by omega] at q
    exact q
  · intro k m; rfl
  · intro k m
    have t1 : tBin eqD (oE (xBin modD (oV 2) (oV 3))) (oE (xC (.int 0))) [.val (.int (n : Int)), .own (l.map PyData.int), .val (.int (M : Int)), .val (.int (1 + (k : Int))), c] = .ok (decide ((M : Int) % (1 + (k : Int)) = 0), [.val (.int (n : Int)), .own (l.map PyData.int), .val (.int (M : Int)), .val (.int (1 + (k : Int))), c]) :=
      ev_tbin (ev_oE (ev_bin rfl rfl rfl rfl (mod_posZ (by omega)))) rfl rfl rfl eq_int
    have t2 : tBin eqD (oE (xBin modD (oE (xBin divD (oV 2) (oV 3))) (oE (xC (.int 2))))) (oE (xC (.int 1))) [.val (.int (n : Int)), .own (l.map PyData.int), .val (.int (M : Int)), .val (.int (1 + (k : Int))), c] = .ok (decide (((M : Int) / (1 + (k : Int))) % 2 = 1), [.val (.int (n : Int)), .own (l.map PyData.int), .val (.int (M : Int)), .val (.int (1 + (k : Int))), c]) :=
      ev_tbin (ev_oE (ev_bin (ev_oE (ev_bin rfl rfl rfl rfl (div_posZ (by have := List.mem_range.mp m; omega)))) rfl rfl rfl (mod_posZ (by decide)))) rfl rfl rfl eq_int
    exact q_and t1 fun _ => t2
  · intro k m; rfl
  · intro k m _
    have hk := List.mem_range.mp m
    have ix : ixD (.list (l.map PyData.int)) (.int (1 + (k : Int))) = some (.int ((l[1 + k]?).getD 0)) := by
      exact ix_getD (by omega) (by omega)
    exact ev_bin (ev_oE (ev_bin rfl rfl rfl rfl (mul_smallL (by decide)))) (ev_oE (ev_bin rfl rfl rfl rfl ix)) rfl rfl (mul_smallL (small_ofI (by omega)))
  · intro k m _; rfl
theorem many_greatest {n : Nat} (h1 : 1 ≤ n) (h : n ≤ 60) : F_many_greatest [.int (n : Int)] = .ok (.int ((MG[n]?).getD 0)) := by
  have wi : F_is_within [.int (n : Int), .int 1, .int 60] = .ok (.bool true) := (is_within_int _ _ _).trans (by rw [decide_eq_true (show (1 : Int) ≤ n by omega), decide_eq_true (show (n : Int) ≤ 60 by omega)]; rfl)
  obtain ⟨s, w1, w2⟩ := y_for (enc := fun k : Nat => PyData.int (1 + (k : Int))) (xs := List.range n) (src := srR2 (xC (.int 1)) (xBin addD (oV 0) (oE (xC (.int 1))))) (sv := svName 2) (body := Y_many_greatest_1) (e := [.val (.int (n : Int)), .own [.int 0], .no, .no, .no]) (s0 := ([0], Sl.no, Sl.no)) (mk := fun s : List Int × Sl × Sl => [.val (.int (n : Int)), .own (s.1.map PyData.int), s.2.1, .no, s.2.2]) (fun k s => s.1 = MG.take (k + 1))
    (by
      have q := q_range2 (e := [.val (.int (n : Int)), .own [.int 0], .no, .no, .no]) (f := xC (.int 1)) (g := xBin addD (oV 0) (oE (xC (.int 1)))) (lo := 1) (hi := (n : Int) + 1) q_c (ev_bin rfl rfl rfl rfl add_int) (by omega)
      rw [show ((n : Int) + 1 - 1).toNat = n by omega] at q
      exact q) (by decide +kernel)
    (fun i s hi hI => by
      obtain ⟨l, a, c⟩ := s
      have hi : i < n := by rw [List.length_range] at hi; exact hi
      have hI : l = MG.take (i + 1) := hI
      have hx : (List.range n)[i]'(by rw [List.length_range]; exact hi) = i := by simp
      have hl : l.length = i + 1 := by rw [hI, List.length_take, mg_len]; omega
      have st := f_mg i (by omega)
      rw [← hI] at st
      have cc := fun c => mg_comp (n := n) (M := i + 1) (by omega) (by omega) hl (c := c)
      have p2 := power_of_two (n := i + 1) (by omega)
      refine ⟨_, (l ++ [vM (i + 1) l], .val (.int ((i + 1 : Nat) : Int)), .val (.list (((List.range (i + 1 - 1)).filter (pM (i + 1))).map (fun k => PyData.int (eM l k))))), by rw [hx, show (1 + (i : Int)) = ((i + 1 : Nat) : Int) by omega]; rfl, ?_, st.symm⟩
      show Y_many_greatest_1 [.val (.int (n : Int)), .own (l.map PyData.int), .val (.int ((i + 1 : Nat) : Int)), .no, c] = _
      refine y_seq_asg (i := 4) (d := .list (((List.range (i + 1 - 1)).filter (pM (i + 1))).map (fun k => PyData.int (eM l k)))) (e1 := [.val (.int (n : Int)), .own (l.map PyData.int), .val (.int ((i + 1 : Nat) : Int)), .no, c]) ?_ rfl ?_
      · show (fCompL _ _ _ _ _ _ >>= fun p => (.ok (PyData.list p.1, p.2) : Res (D × VEnv))) = _
        rw [cc]; rfl
      show sDrop _ [.val (.int (n : Int)), .own (l.map PyData.int), .val (.int ((i + 1 : Nat) : Int)), .no, .val (.list (((List.range (i + 1 - 1)).filter (pM (i + 1))).map (fun k => PyData.int (eM l k))))] = _
      have va : xBin divD (oE (xBin subD (oE (xCall F_power_of_two (arCons (xVar 2) arNil))) (oE (xUn sumD (oV 4))))) (oE (xBin mulD (oE (xC (.int 2))) (oV 2))) [.val (.int (n : Int)), .own (l.map PyData.int), .val (.int ((i + 1 : Nat) : Int)), .no, .val (.list (((List.range (i + 1 - 1)).filter (pM (i + 1))).map (fun k => PyData.int (eM l k))))] = .ok (.int (vM (i + 1) l), [.val (.int (n : Int)), .own (l.map PyData.int), .val (.int ((i + 1 : Nat) : Int)), .no, .val (.list (((List.range (i + 1 - 1)).filter (pM (i + 1))).map (fun k => PyData.int (eM l k))))]) :=
        ev_bin (ev_oE (ev_bin (ev_oE (ev_call (ev_cons (q_var rfl) ev_nil) p2)) (ev_oE (ev_un rfl rfl sum_map)) rfl rfl sub_int)) (ev_oE (ev_bin rfl rfl rfl rfl (mul_smallL (by decide)))) rfl rfl (div_posZ (by omega))
      have ap : appendD (l.map PyData.int) [.int (vM (i + 1) l)] = some (.none, (l ++ [vM (i + 1) l]).map PyData.int) := (append_own (by rw [List.length_map]; omega)).trans (by rw [List.map_append]; rfl)
      exact y_dropE2 (q_ownM rfl (ev_cons va ev_nil) rfl ap) rfl)
  obtain ⟨l, a, c⟩ := s
  have w2 : l = MG.take (n + 1) := by have := w2; rw [List.length_range] at this; exact this
  have hl : l.length = n + 1 := by rw [w2, List.length_take, mg_len]; omega
  have ix : ixD (.list (l.map PyData.int)) (.int (n : Int)) = some (.int ((MG[n]?).getD 0)) := by
    have := ix_getD (l := l) (k := n) (i := (n : Int)) rfl (by omega)
    rw [this, w2, List.getElem?_take_of_lt (by omega)]
  refine fn_ok (e := [.val (.int (n : Int)), .own (l.map PyData.int), a, .no, c]) ?_
  refine y_seq_ifF (k := false) (e1 := [.val (.int (n : Int)), .no, .no, .no, .no]) (ev_not (k := true) (ev_tv (ev_call (ev_cons (q_var rfl) (ev_cons q_c (ev_cons q_c ev_nil))) wi))) rfl (y_seq_nx ?_)
  refine y_seq_own (i := 1) (ds := [.int 0]) (e1 := [.val (.int (n : Int)), .no, .no, .no, .no]) (y_flst (ev_cons q_c ev_nil) rfl) rfl ?_
  refine y_seq_for w1 ?_
  exact ev_ret (ev_bin rfl rfl rfl rfl ix)
theorem greatest_words {n : Nat} (h1 : 1 ≤ n) (h : n ≤ 8) : F_greatest_words [.int (n : Int)] = .ok (.tuple ((lawG n).map tx)) := by
  have wi : F_is_within [.int (n : Int), .int 1, .int 10] = .ok (.bool true) := (is_within_int _ _ _).trans (by rw [decide_eq_true (show (1 : Int) ≤ n by omega), decide_eq_true (show (n : Int) ≤ 10 by omega)]; rfl)
  have rg := raw_greatest h1 (show n ≤ 10 by omega)
  rw [same_words n (by omega)] at rg
  refine fn_ok (e := [.val (.int (n : Int))]) ?_
  refine y_seq_ifF (k := false) (e1 := [.val (.int (n : Int))]) (ev_not (k := true) (ev_tv (ev_call (ev_cons (q_var rfl) (ev_cons q_c (ev_cons q_c ev_nil))) wi))) rfl (y_seq_nx ?_)
  exact ev_ret (ev_un (ev_oE (ev_call (ev_cons (q_var rfl) ev_nil) rg)) rfl rfl)
end K75

namespace K75
open PySem PySem.Spec PyProof.Rows L2 Z
local macro_rules | `(tactic| wtm_at "zsz") => `(tactic| first | assumption | omega | (simp only [List.length_append, List.length_drop, List.length_take, List.length_map, List.length_range, List.length_cons, List.length_nil]; omega))
local macro_rules | `(tactic| wtm_at "zop") => `(tactic| with_reducible first
  | exact add_int | exact sub_int | exact lt_int | exact le_int | exact gt_int | exact ge_int | exact eq_int | exact ne_int | exact neg_int | exact int_int | exact int_bool | exact abs_int
  | apply op_bD
  | exact len_rowD | exact len_tup | exact len_list
  | exact tup_ints | exact tup_list | exact tup_tup | exact lst_tup | exact all_map | exact any_map | exact sum_map | exact sum_rowZ
  | exact seq_row _ | exact seq_tx _ | exact eq_tx | exact ne_tx | exact ne_boolB _ _ | exact eq_boolB _ _ | exact zip_tt | exact zip_ll | exact enum_l | exact seq_list | exact seq_tup | exact eq_rowZ | exact ne_rowZ | exact lt_rowZ | exact le_rowZ | exact gt_rowZ | exact ge_rowZ)
local macro_rules | `(tactic| wtm_at "zpt") => `(tactic| first
  | ((with_reducible apply isi_t); exact rfl) | ((with_reducible apply isi_f); exact rfl)
  | ((with_reducible apply mul_smallL); exact (show small _ = true from by decide)) | ((with_reducible apply mul_smallR); exact (show small _ = true from by decide))
  | ((with_reducible apply mul_smallR); apply small_ofI; omega) | ((with_reducible apply mul_smallL); apply small_ofI; omega)
  | ((with_reducible apply mod_posZ); omega) | ((with_reducible apply div_posZ); omega)
  | ((with_reducible apply cut_row_from); omega) | ((with_reducible apply cut_row_to); omega) | ((with_reducible apply cut_list_from); omega) | ((with_reducible apply cut_list_to); omega) | ((with_reducible apply cut_tup_from); omega) | ((with_reducible apply cut_tup_to); omega)
  | ((with_reducible apply len_tx); wtm_at "zsz") | ((with_reducible apply zip_tx) <;> assumption) | ((with_reducible apply add_tx); wtm_at "zsz") | ((with_reducible apply cut_tx_from) <;> wtm_at "zsz") | ((with_reducible apply cut_tx_to) <;> wtm_at "zsz") | ((with_reducible apply cut_tx_init); wtm_at "zsz") | ((with_reducible apply insert_own); wtm_at "zsz") | ((with_reducible apply extend_own); wtm_at "zsz")
  | ((with_reducible apply add_rowZ); wtm_at "zsz")
  | ((with_reducible apply ix_row); omega) | ((with_reducible apply ix_list); omega) | ((with_reducible apply ix_tup); omega))
local macro_rules | `(tactic| wtm_at "zlf") => `(tactic| first
  | ((with_reducible apply rdv); exact rfl) | ((with_reducible apply l_get); exact rfl) | ((with_reducible apply l_svN); exact rfl) | ((with_reducible apply l_svT); exact rfl) | ((with_reducible apply l_wipe); exact rfl) | ((with_reducible apply l_ble); exact rfl) | ((with_reducible apply l_ty); exact rfl) | ((with_reducible apply l_env); exact rfl) | ((with_reducible apply l_vo); exact rfl) | ((with_reducible apply l_sc); exact rfl) | ((with_reducible apply l_frz); exact rfl) | ((with_reducible apply l_setW); exact rfl) | ((with_reducible apply l_own); exact rfl) | ((with_reducible apply l_cast); first | exact rfl | (apply cast_nn; omega))
  | ((with_reducible apply append_own); wtm_at "zsz") | ((with_reducible apply y_sz); wtm_at "zsz"))
local macro_rules | `(tactic| wtm_at "zst") => `(tactic| with_reducible first
  | exact q_c | apply q_var | apply q_oVg | apply q_frzG | apply ev_oE | exact ev_nil | apply ev_cons | apply ev_bin | apply ev_un | apply ev_tbin | apply ev_call | apply ev_callI | apply y_tup | apply y_lst | apply y_flst | apply ev_fr
  | apply q_chain | apply q_and | apply q_or | apply q_xand | apply q_xor | apply ev_not | apply ev_xnot | apply ev_test | apply ev_tv | apply q_slFrom | apply q_slTo | apply q_meth | apply q_comp | apply q_compF | apply q_sortC
  | apply q_range1 | apply q_range2 | apply ev_seqS | apply q_zip | apply q_zipS | apply y_aug | apply y_seq_aug | apply y_augE | apply q_comp2 | apply q_enum | apply y_nxE | apply y_ownE | apply y_parE | apply ev_ret | apply y_dropE2 | apply y_asgE | apply y_seq_ret | exact y_seq_raise | exact y_raise | apply y_seq_nx | apply y_seq_asg | apply y_seq_asgG | apply y_seq_own | apply y_seq_par | apply y_seq_drop | apply y_seq_parW | apply y_seq_for | apply y_seq_while | apply q_ownM | apply q_keep
  | exact q_awNil | apply q_awV | apply q_awF | apply y_seq_if | apply y_if)
local macro_rules | `(tactic| wtm_at "zx") => `(tactic| first
  | wtm_at "zlf"
  | wtm_at "zst"
  | ((with_reducible apply q_rangeN); rotate_left; omega) | ((with_reducible apply q_rangeI); rotate_left; omega) | ((with_reducible apply q_range2); rotate_left; rotate_left; omega)
  | wtm_at "zop" | wtm_at "zpt"
  | exact (fun z => (ff z rfl).elim)
  | (intro z; exfalso; simp at z <;> omega)
  | omega
  | intro _)
local macro_rules | `(tactic| tbr_iter [$ts,*]) => `(tactic| repeat' (first | ((with_reducible first | apply l_for | apply l_while); first $[| exact $ts]*) $[| with_reducible exact $ts]* | wtm_at "zx"))
theorem dLC : (PyData.str (Str.ofString "LC")) = tx [76, 67] := congrArg PyData.str (by decide +kernel)
theorem dRRC : (PyData.str (Str.ofString "RRC")) = tx [82, 82, 67] := congrArg PyData.str (by decide +kernel)
theorem dRLC : (PyData.str (Str.ofString "RLC")) = tx [82, 76, 67] := congrArg PyData.str (by decide +kernel)
theorem dLRC : (PyData.str (Str.ofString "LRC")) = tx [76, 82, 67] := congrArg PyData.str (by decide +kernel)
theorem dRLRC : (PyData.str (Str.ofString "RLRC")) = tx [82, 76, 82, 67] := congrArg PyData.str (by decide +kernel)
theorem dRLLC : (PyData.str (Str.ofString "RLLC")) = tx [82, 76, 76, 67] := congrArg PyData.str (by decide +kernel)
theorem f_tw : ∀ n, n < 9 → ∀ w ∈ lawG n, w.getLast? = some 67 ∧ (w.dropLast.all fun c => c == 76 || c == 82) = true ∧ w.length ≤ 8 ∧ 1 ≤ w.length := by decide +kernel
theorem f_ne : ∀ n, n < 9 → 1 ≤ n → 0 < (lawG n).length ∧ (lawG n).length ≤ 100 := by decide +kernel
theorem tw_of {w : W} (h : w.getLast? = some 67 ∧ (w.dropLast.all fun c => c == 76 || c == 82) = true ∧ w.length ≤ 16 ∧ 1 ≤ w.length) : TW w := by
  obtain ⟨a, b, c, d⟩ := h
  refine ⟨w.dropLast, ?_, fun x mx => ?_, ?_⟩
  · have ne : w ≠ [] := fun e => by rw [e] at d; exact absurd d (by decide)
    have := List.dropLast_concat_getLast ne
    rw [List.getLast?_eq_some_getLast ne, Option.some.injEq] at a
    rw [a] at this
    exact this.symm
  · have := List.all_eq_true.mp b x mx
    simpa using this
  · rw [List.length_dropLast]; omega
theorem great_tw {n : Nat} (h : n < 9) {w : W} (m : w ∈ lawG n) : TW w := tw_of (by have := f_tw n h w m; exact ⟨this.1, this.2.1, by omega, this.2.2.2⟩)
theorem is_big (F : List D → Res D) {i : Int} (h : -9223372036854775808 < i ∧ i < 9223372036854775808) : fnP 4 (Bis F) [.int i, .int i] = .ok (.bool true) := by
  have r := (sh_big h).repr (by decide) (by decide)
  apply fn_ok2
  · unfold Bis
    tbr_iter [tl_int, r, eq_strS _, isn_int]
  · rfl
theorem is_words {ws : List W} (h : ∀ w ∈ ws, TW w) (hl : ws.length ≤ 1000) : F__law_is [.tuple (ws.map tx), .tuple (ws.map tx)] = .ok (.bool true) :=
  is_tup F__law_is_3 (fun d m => by
    obtain ⟨w, mw, rfl⟩ := List.mem_map.mp m
    have t := h w mw
    exact is_str F__law_is_2 (fun c mc => by rcases tw_ok t c mc with q | q | q <;> omega) (by have := tw_len t; omega)) (by rw [List.length_map]; exact hl)
theorem great_ {n : Nat} (h1 : 1 ≤ n) (h : n ≤ 8) : F__law_great_words [.int (n : Int)] = .ok (.list ((lawG n).map tx)) := law_great_words h1 (by omega)
theorem law_loop {h0 : List D} (hh : Hand h0) : ∃ (h : List D) (a b c d : Sl), W_law_1 [.no, .own h0, .no, .no, .no, .no] = .ok (.nx [.no, .own h, a, b, c, d]) ∧ Hand h := by
  obtain ⟨s, w1, w2⟩ := y_for (enc := fun k : Nat => PyData.int (k : Int)) (xs := List.range 6) (src := srR1 (xC (.int 6))) (sv := svName 2) (body := Y_law_1) (e := [.no, .own h0, .no, .no, .no, .no]) (s0 := (h0, Sl.no, Sl.no, Sl.no, Sl.no)) (mk := fun s : List D × Sl × Sl × Sl × Sl => [.no, .own s.1, s.2.1, s.2.2.1, s.2.2.2.1, s.2.2.2.2]) (fun _ s => Hand s.1)
    (q_range1 q_c rfl (by decide)) hh
    (fun i s hi hI => by
      obtain ⟨h, a, b, c, d⟩ := s
      have hI : Hand h := hI
      generalize hv : Sl.val (.int (((List.range 6)[i] : Nat) : Int)) = v
      have q1 := dr_lo (m := 8) hI (by decide)
      have e1 := dr_eq (m := 8) hI (by decide)
      have k1 := dr_hand (m := 8) hI (by decide)
      generalize dv h 8 = d1 at *
      generalize dh h 8 = h1 at *
      obtain ⟨d1, rfl⟩ : ∃ t : Nat, d1 = (t : Int) := ⟨d1.toNat, by omega⟩
      obtain ⟨l1, h2, e2, k2, t1⟩ := drawn_word k1 (m := 16) (by decide) (by decide)
      have q3 := dr_lo (m := 7) k2 (by decide)
      have e3 := dr_eq (m := 7) k2 (by decide)
      have k3 := dr_hand (m := 7) k2 (by decide)
      generalize dv h2 7 = d3 at *
      generalize dh h2 7 = h3 at *
      obtain ⟨d3, rfl⟩ : ∃ t : Nat, d3 = (t : Int) := ⟨d3.toNat, by omega⟩
      have g3 := great_ (n := 1 + d3) (by omega) (by omega)
      rw [show (((1 + d3 : Nat)) : Int) = 1 + (d3 : Int) by omega] at g3
      obtain ⟨n0, n1⟩ := f_ne (1 + d3) (by omega) (by omega)
      obtain ⟨w4, m4, h4, e4, k4⟩ := law_any k3 (f := tx) (xs := lawG (1 + d3)) n0 (by omega)
      have t4 := great_tw (show 1 + d3 < 9 by omega) m4
      obtain ⟨sd, m5, h5, e5, k5⟩ := law_any k4 (f := tx) (xs := [l1, w4]) (show 0 < 2 by decide) (show 2 ≤ 1000000 by decide)
      have ts : TW sd := by
        rcases List.mem_cons.mp m5 with rfl | m5
        · exact t1
        rcases List.mem_cons.mp m5 with rfl | m5
        · exact t4
        · cases m5
      obtain ⟨l6, h6, e6, k6, t6⟩ := drawn_word k5 (m := 16) (by decide) (by decide)
      have e7 := is_right ts t6 h6
      have q8 := dr_lo (m := 60) k6 (by decide)
      have e8 := dr_eq (m := 60) k6 (by decide)
      have k8 := dr_hand (m := 60) k6 (by decide)
      generalize dv h6 60 = d8 at *
      generalize dh h6 60 = h8 at *
      obtain ⟨d8, rfl⟩ : ∃ t : Nat, d8 = (t : Int) := ⟨d8.toNat, by omega⟩
      -- the counts
      have gd := great_ (n := 1 + d1) (by omega) (by omega)
      have gw := greatest_words (n := 1 + d1) (by omega) (by omega)
      have mg := many_greatest (n := 1 + d1) (by omega) (by omega)
      have fl := f_len (1 + d1) (by omega) (by omega)
      obtain ⟨z0, z1⟩ := f_ne (1 + d1) (by omega) (by omega)
      have iw := is_words (ws := lawG (1 + d1)) (fun w m => great_tw (by omega) m) (by omega)
      have mg8 := many_greatest (n := 1 + d8) (by omega) (by omega)
      have lm8 := law_many (n := 1 + d8) (by omega) (by omega)
      have ib : F__law_is [.int ((MG[1 + d8]?).getD 0), .int ((MG[1 + d8]?).getD 0)] = .ok (.bool true) := is_big F__law_is_3 (f_big (1 + d8) (by omega))
      generalize (MG[1 + d8]?).getD 0 = v8 at *
      rw [← fl] at mg
      have en : neD (.int ((lawG (1 + d1)).length : Int)) (.int ((lawG (1 + d1)).length : Int)) = some false := ne_int.trans (by rw [decide_eq_true rfl]; rfl)
      have ln : lenD (.list ((lawG (1 + d1)).map tx)) = some (.int ((lawG (1 + d1)).length : Int)) := len_list
      rw [show (((1 + d1 : Nat)) : Int) = 1 + (d1 : Int) by omega] at gd gw mg
      rw [show (((1 + d8 : Nat)) : Int) = 1 + (d8 : Int) by omega] at mg8 lm8
      generalize lawG (1 + d1) = G at *
      refine ⟨_, (h8, v, .val (.int (1 + (d8 : Int))), .val (tx sd), .val (.list (G.map tx))), congrArg some (by rw [hv]), ?_, k8⟩
      show Y_law_1 [.no, .own h, v, b, c, d] = _
      have c1 : xBin addD (oE (xC (.int 1))) (oE (xCallI 1 F__law_draw (arCons (xC (.int 8)) arNil))) [.no, .own h, v, b, c, d] = .ok (.int (1 + (d1 : Int)), [.no, .own h1, v, b, c, d]) := ev_bin rfl (ev_oE ((ev_callI (ds := [.int 8]) rfl rfl rfl e1).trans rfl)) rfl rfl rfl
      refine y_seq_asg (i := 3) c1 rfl ?_
      show sSeq _ _ [.no, .own h1, v, .val (.int (1 + (d1 : Int))), c, d] = _
      have c2 : xCallI 1 F__law_drawn_word (arCons (xC (.int 16)) arNil) [.no, .own h1, v, .val (.int (1 + (d1 : Int))), c, d] = .ok (tx l1, [.no, .own h2, v, .val (.int (1 + (d1 : Int))), c, d]) := (ev_callI (ds := [.int 16]) rfl rfl rfl e2).trans rfl
      have c3 : xBin addD (oE (xC (.int 1))) (oE (xCallI 1 F__law_draw (arCons (xC (.int 7)) arNil))) [.no, .own h2, v, .val (.int (1 + (d1 : Int))), c, d] = .ok (.int (1 + (d3 : Int)), [.no, .own h3, v, .val (.int (1 + (d1 : Int))), c, d]) := ev_bin rfl (ev_oE ((ev_callI (ds := [.int 7]) rfl rfl rfl e3).trans rfl)) rfl rfl rfl
      have c4 : xCallI 1 F__law_any (arCons (xCall F__law_great_words (arCons (xBin addD (oE (xC (.int 1))) (oE (xCallI 1 F__law_draw (arCons (xC (.int 7)) arNil)))) arNil)) arNil) [.no, .own h2, v, .val (.int (1 + (d1 : Int))), c, d] = .ok (tx w4, [.no, .own h4, v, .val (.int (1 + (d1 : Int))), c, d]) := (ev_callI rfl (ev_cons (ev_call (ev_cons c3 ev_nil) g3) ev_nil) rfl e4).trans rfl
      refine y_seq_asg (i := 4) (d := tx sd) (e1 := [.no, .own h5, v, .val (.int (1 + (d1 : Int))), c, d]) ((ev_callI (ds := [.list ([l1, w4].map tx)]) rfl (ev_cons (y_lst (ev_cons c2 (ev_cons c4 ev_nil)) rfl) ev_nil) rfl e5).trans rfl) rfl ?_
      show sSeq _ _ [.no, .own h5, v, .val (.int (1 + (d1 : Int))), .val (tx sd), d] = _
      have c6 : xCallI 1 F__law_drawn_word (arCons (xC (.int 16)) arNil) [.no, .own h5, v, .val (.int (1 + (d1 : Int))), .val (tx sd), d] = .ok (tx l6, [.no, .own h6, v, .val (.int (1 + (d1 : Int))), .val (tx sd), d]) := (ev_callI (ds := [.int 16]) rfl rfl rfl e6).trans rfl
      refine y_seq_ifF (k := false) (e1 := [.no, .own h6, v, .val (.int (1 + (d1 : Int))), .val (tx sd), d]) (ev_not (k := true) (ev_tv ((ev_callI rfl (ev_cons (q_var rfl) (ev_cons c6 ev_nil)) rfl e7).trans rfl))) rfl (y_seq_nx ?_)
      refine y_seq_asg (i := 5) (e1 := [.no, .own h6, v, .val (.int (1 + (d1 : Int))), .val (tx sd), d]) (ev_call (ev_cons (q_var rfl) ev_nil) gd) rfl ?_
      show sSeq _ _ [.no, .own h6, v, .val (.int (1 + (d1 : Int))), .val (tx sd), .val (.list (G.map tx))] = _
      refine y_seq_ifF (k := false) (e1 := [.no, .own h6, v, .val (.int (1 + (d1 : Int))), .val (tx sd), .val (.list (G.map tx))]) (q_orF (ev_not (k := true) (ev_tv (ev_call (ev_cons (ev_call (ev_cons (q_var rfl) ev_nil) gw) (ev_cons (ev_un rfl rfl rfl) ev_nil)) iw))) rfl (ev_tbin (ev_oE (ev_call (ev_cons (q_var rfl) ev_nil) mg)) (ev_oE (ev_un rfl rfl ln)) rfl rfl en)) rfl (y_seq_nx ?_)
      have c8 : xBin addD (oE (xC (.int 1))) (oE (xCallI 1 F__law_draw (arCons (xC (.int 60)) arNil))) [.no, .own h6, v, .val (.int (1 + (d1 : Int))), .val (tx sd), .val (.list (G.map tx))] = .ok (.int (1 + (d8 : Int)), [.no, .own h8, v, .val (.int (1 + (d1 : Int))), .val (tx sd), .val (.list (G.map tx))]) := ev_bin rfl (ev_oE ((ev_callI (ds := [.int 60]) rfl rfl rfl e8).trans rfl)) rfl rfl rfl
      refine y_seq_asg (i := 3) c8 rfl ?_
      show sIf _ _ _ [.no, .own h8, v, .val (.int (1 + (d8 : Int))), .val (tx sd), .val (.list (G.map tx))] = _
      exact y_ifF (k := false) (e1 := [.no, .own h8, v, .val (.int (1 + (d8 : Int))), .val (tx sd), .val (.list (G.map tx))]) (ev_not (k := true) (ev_tv (ev_call (ev_cons (ev_call (ev_cons (q_var rfl) ev_nil) mg8) (ev_cons (ev_call (ev_cons (q_var rfl) ev_nil) lm8) ev_nil)) ib))) rfl (y_nxE rfl))
  exact ⟨s.1, s.2.1, s.2.2.1, s.2.2.2.1, s.2.2.2.2, w1, w2⟩
theorem plain (ns : List Int) (_ : ns.length ≤ 63) : ∃ e, B_law (lawEnv 4 (handD 277 223 ns)) = .ok (.rt (.bool true) e) := by
  have h0 : Hand (handD 277 223 ns) := ⟨ns.map absZ, 0, 0, _, 0, rfl, fun x m => by
    obtain ⟨y, _, rfl⟩ := List.mem_map.mp m
    unfold absZ
    split <;> omega, by decide, by decide⟩
  have tLC : TW [76, 67] := tw_of (by decide)
  have tC : TW [67] := tw_of (by decide)
  have tRRC : TW [82, 82, 67] := tw_of (by decide)
  have tRLC : TW [82, 76, 67] := tw_of (by decide)
  have tLRC : TW [76, 82, 67] := tw_of (by decide)
  have c1 : F_is_less_word [tx [76, 67], tx [67]] = .ok (.bool true) := (is_less_word tLC tC).trans (by rw [show lessW [76, 67] [67] = true by decide +kernel])
  have c2 : F_is_less_word [tx [82, 82, 67], tx [82, 76, 67]] = .ok (.bool true) := (is_less_word tRRC tRLC).trans (by rw [show lessW [82, 82, 67] [82, 76, 67] = true by decide +kernel])
  have c3 : F_greatest_words [.int 1] = .ok (.tuple [tx [67]]) := (greatest_words (n := 1) (by decide) (by decide)).trans (by rw [show lawG 1 = [[67]] by decide +kernel]; rfl)
  have c4 : F_greatest_words [.int 4] = .ok (.tuple [tx [82, 76, 82, 67], tx [82, 76, 76, 67]]) := (greatest_words (n := 4) (by decide) (by decide)).trans (by rw [show lawG 4 = [[82, 76, 82, 67], [82, 76, 76, 67]] by decide +kernel]; rfl)
  have c5 : F_greatest_shown [tx [76, 82, 67]] = .ok (.tuple [tS, .int 1]) := (greatest_shown tLRC).trans (by unfold dueG; rw [show bad [76, 82, 67] = [0, 1] by decide +kernel]; rfl)
  have c6 : F_many_greatest [.int 5] = .ok (.int 3) := (many_greatest (n := 5) (by decide) (by decide)).trans (by rw [show (MG[5]?).getD 0 = 3 by decide +kernel])
  have n3 : neD (.tuple [tx [67]]) (.tuple [tx [67]]) = some false := by kernel_rfl
  have n4 : neD (.tuple [tx [82, 76, 82, 67], tx [82, 76, 76, 67]]) (.tuple [tx [82, 76, 82, 67], tx [82, 76, 76, 67]]) = some false := by kernel_rfl
  have n5 : neD (.tuple [tS, .int 1]) (.tuple [tS, .int 1]) = some false := by kernel_rfl
  have n6 : neD (.int 3) (.int 3) = some false := by kernel_rfl
  obtain ⟨h, a, b, c, d, w, k⟩ := law_loop h0
  refine ⟨[.no, .own h, a, b, c, d], ?_⟩
  show B_law [.no, .own (handD 277 223 ns), .no, .no, .no, .no] = _
  unfold B_law
  simp only [dC, dLC, dRRC, dRLC, dLRC, dRLRC, dRLLC, dSh]
  refine y_seq_ifF (k := false) (e1 := [.no, .own (handD 277 223 ns), .no, .no, .no, .no]) (q_orF (ev_tbin (k := false) (ev_oE (ev_call rfl c1)) rfl rfl rfl rfl) rfl (q_orF (ev_tbin (k := false) (ev_oE (ev_call rfl c2)) rfl rfl rfl rfl) rfl (ev_tbin (ev_oE (ev_call rfl c3)) (ev_oE (y_tup (ev_cons q_c ev_nil) rfl)) rfl rfl n3))) rfl (y_seq_nx ?_)
  refine y_seq_ifF (k := false) (e1 := [.no, .own (handD 277 223 ns), .no, .no, .no, .no]) (q_orF (ev_tbin (k := false) (ev_oE (ev_call rfl c4)) (ev_oE (y_tup (ev_cons q_c (ev_cons q_c ev_nil)) rfl)) rfl rfl n4) rfl (q_orF (ev_tbin (k := false) (ev_oE (ev_call rfl c5)) (ev_oE (y_tup (ev_cons q_c (ev_cons q_c ev_nil)) rfl)) rfl rfl n5) rfl (ev_tbin (ev_oE (ev_call rfl c6)) rfl rfl rfl n6))) rfl (y_seq_nx ?_)
  refine y_seq_for w ?_
  exact ev_ret q_c
end K75

namespace K75
open PySem PySem.Spec PyProof.Rows L2 Z
abbrev R : PySem.W.OpenRow := PySem.W.OpenLaw.row PySem.Challenge.rw_landtogether_k75_whole_greatest_turn_wor
abbrev hk : PySem.W.Hook := hookE 4 fa fn ex
def ob (s : PySem.W.SharedT) : He.AlD × Bool := obsE 4 fa fn ex (HandSHeadRun.getT s)
theorem ob_eq (s : PySem.W.SharedT) : ob s = hk.obs s.abs := obsE_eq (HandSHeadRun.getT_eq s)
def loose : List Str := (["RayError", "NoNumber", "NoTurnWord", "is_integer", "is_within", "power_of_two", "LEFT", "TURN", "RIGHT", "MOST_SIGNS", "MOST_LISTED", "MOST_COUNTED", "GREATEST", "SHIFT", "is_turn_word", "check_turn_word", "rank_of", "is_raw_less", "is_less_word", "not_less_shifts", "greatest_shown", "is_greatest_shown", "all_signs", "in_word_order", "raw_greatest"] : List Str) ++ (["greatest_words", "many_greatest", "_law_hand", "_law_draw", "_law_any", "_law_is", "_law_power", "_law_is_int", "_law_is_less", "_law_is_greatest", "_law_all_words", "_law_sorted_words", "_law_great_words", "_law_drawn_word", "_law_prime_sign", "_law_many", "_law_is_right"] : List Str)
theorem run (w : World) : HandSHeadRun.RunEq R (PySem.W.view R.prog [46]) hk ob 4000 loose w := by
  intro os
  kernel_rfl
end K75
open PySem PySem.W PySem.Calls PyProof.Rows
theorem PySem.Challenge.cw_landtogether_k75_whole_greatest_turn_wor_holds : PySem.Challenge.rw_landtogether_k75_whole_greatest_turn_wor.Holds := by
  w_on; o_law
  refine HandSHeadRun.head_any (r := OpenLaw.row PySem.Challenge.rw_landtogether_k75_whole_greatest_turn_wor) (q := view (OpenLaw.row PySem.Challenge.rw_landtogether_k75_whole_greatest_turn_wor).prog [46]) (H := K75.hk) (ob := K75.ob) (M := 4000) (loose := K75.loose) (d := HandSHeadRun.topDef (OpenLaw.row PySem.Challenge.rw_landtogether_k75_whole_greatest_turn_wor).prog 46) (kwd := []) K75.ob_eq
    (by kernel_rfl) (fun s => by kernel_rfl) K75.run (by kernel_rfl) (by kernel_rfl) (by kernel_rfl) (by rfl) (by first | assumption | decide +kernel) (by decide +kernel) ⟨rfl, rfl, rfl, rfl, rfl, by decide +kernel⟩ ?hw ?hc
  case hw => w_witness2
  case hc =>
    refine Z.walkG (l := PySem.Challenge.rw_landtogether_k75_whole_greatest_turn_wor) (k := 7) rfl (by kernel_rfl) ⟨rfl, by decide, by decide⟩ ?F
    intro w mg fa h Y G hmg0
    obtain ⟨K, KX, c, cx⟩ := Y
    have hmg : mg ("law" : PySem.Str) = some (.ref fa) := by
      have e : (HandSHeadRun.topDef (OpenLaw.row PySem.Challenge.rw_landtogether_k75_whole_greatest_turn_wor).prog 46).name = ("law" : PySem.Str) := by kernel_rfl
      rw [← e]
      exact hmg0
    refine ⟨K, KX, fun base _ _ => ?_⟩
    obtain ⟨f, h1, h2, h3⟩ := (K75.ok_law (P := (PySem.Challenge.rw_landtogether_k75_whole_greatest_turn_wor).prog) (w := w) (base := base) (⟨⟨c, h, KX, G⟩, Z.exs_of KX G cx⟩ : Z.TopX K75.fa K75.fn K75.ex K mg) K75.plain).ex
    rw [hmg] at h1
    cases h1
    exact h3

