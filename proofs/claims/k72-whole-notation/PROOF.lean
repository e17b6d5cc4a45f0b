import PyProof.Rows.All
import Wide.All
import OpenK.AllK
import Wide.FinOn
import KE.KStateDown
import Lean
import HandS.ForMost
import HandS.Exc
import HandS.ExcOwn
import HandS.WordsExc
import HandS.TryOnly
import HandS.Defaults
import HandS.IsInst
import KE.KDictKeyed
import HandS.Dict
import HandS.Lambda
import HandS.Deep
import HandS.TupAny
import HandS.RaiseMore
import HandS.Style
import HandS.Zip
import HandS.TupMul
import HandS.Codes
import HandS.More
import PyProof.ListStr
import HandS.Strs
import HandS.Set
import HandS.SetTxt0
import HandS.HeadHook1
import PyProof.ExcBaseAll.ValueError
import HandS.Ends
import HandS.Words
import HandS.ExcValue
import HandS.ExcIs
import HandS.Head0
import HandS.Head1
import HandS.Head2
import HandS.HeadEnd
import HandS.HeadHook2
import HandS.Text
import HandS.Replace
import HandS.SetFor
import HandS.FStr
import PyProof.Rows.StrCountLaw
import PyProof.StrLawsIn
import PyProof.NeKinds
import KE.KDictDisplayH
import HandS.Base
import HandS.Call
import PySem.Challenge.RW_fieldtexts_k72_whole_notation
set_option Elab.async false
set_option linter.all false
set_option maxRecDepth 100000
set_option maxHeartbeats 0
namespace FT
open PySem PySem.Spec PyProof.Rows L2
/-! ### data -/
inductive D where
  | non
  | bl (b : Bool)
  | int (i : Int)
  | str (s : List Nat)
  | tup (xs : List D)
  | lst (xs : List D)
  | ref (n : Nat)
  | fn (n : Nat)
  | exc (c : Nat)
  | scr (ns : List Int)
  /-- a dict; its keys are ints and texts, or (t) tuples -/
  | dic (t : Bool) (ks vs : List D)
/-- what a slot owns -/
inductive MO where
  | lst (xs : List D)
  | dic (t : Bool) (ks vs : List D)
inductive SV where
  | no
  | dat (d : D)
  | own (m : MO)
inductive RO where
  | box (m : MO)
  | ins (c : Nat) (fs : List SV)
  /-- the table of code objects of a def that makes a lambda -/
  | tab (j : Nat)
  | gone
abbrev Env := List SV
abbrev Sh := List RO
inductive Res (α : Type) where
  | ok (a : α) (S : Sh)
  | ex (c : Nat) (S : Sh)
  | bad
abbrev M (α : Type) := Sh → Res α
@[inline] def Res.bind {α β : Type} (r : Res α) (k : α → M β) : Res β := match r with
  | .ok a S => k a S
  | .ex c S => .ex c S
  | .bad => .bad
@[simp] theorem Res.bind_ok {α β : Type} (a : α) (S : Sh) (k : α → M β) : (Res.ok a S).bind k = k a S := Eq.trans rfl rfl
@[simp] theorem Res.bind_ex {α β : Type} (c : Nat) (S : Sh) (k : α → M β) : (Res.ex c S : Res α).bind k = .ex c S := Eq.trans rfl rfl
@[simp] theorem Res.bind_bad {α β : Type} (k : α → M β) : (Res.bad : Res α).bind k = .bad := Eq.trans rfl rfl
/-! ### what stands for what -/
structure Glob where
  fnA : Nat → Addr
  clA : Nat → Addr
  flds : Nat → List Str
  tbA : Nat → Addr
  tbQ : Nat → Str
  P : Program
  w : World
/-- keys of dicts -/
def keyD : D → Option Key
  | .int i => some (.inl i)
  | .str s => some (.inr ⟨s.toArray⟩)
  | _ => none
def keysD : List D → Option (List Key)
  | [] => some []
  | d :: ds => match keyD d, keysD ds with
    | some k, some ks => some (k :: ks)
    | _, _ => none
mutual
def keyN : D → Option NestedKey
  | .non => some .none
  | .bl b => some (.num (if b then 1 else 0))
  | .int i => some (.num i)
  | .str s => some (.text ⟨s.toArray⟩)
  | .tup xs => (match keysN xs with
    | some ks => some (.tup ks)
    | none => none)
  | _ => none
def keysN : List D → Option (List NestedKey)
  | [] => some []
  | d :: ds => match keyN d, keysN ds with
    | some k, some ks => some (k :: ks)
    | _, _ => none
end
/-- a dict whose keys are tuples: its entries -/
def DtO (P : Program) (w : World) (a : Addr) (xs : List (NestedKey × Addr × Value)) : HO := .ext fun h => ∃ (o : Obj) (es : Array DictEntry) (ep : Nat), h.get? a = some o ∧ o.ExactDict ∧ o.data = .dict es ep ∧
  es.toList = xs.map (entryOfKey (nestedKind P w)) ∧ (xs.map (·.1)).Nodup ∧ xs.length ≤ sizeLine ∧ (a == sysModules) = false ∧ ∀ x ∈ xs, x.1.depth ≤ 8
/-- an error of the class cls stands at a -/
def XcO (cls : Value) (a : Addr) : HO := .ext fun h => ∃ (o : Obj) (vs : Array Value), h.get? a = some o ∧ Zc cls none o ∧ o.data = .fields vs
section
variable (K : PySem.W.Frag) (G : Glob)
mutual
inductive Rep (A : List Addr) (F : Hp) : D → V → Prop
  | non : Rep A F .non .non
  | bl (b : Bool) : Rep A F (.bl b) (.bl b)
  | int (i : Int) : Rep A F (.int i) (.int i)
  | str (s : List Nat) : Rep A F (.str s) (.str ⟨s.toArray⟩)
  | tup {ds : List D} {a : Addr} {vs : List V} : SqT K F a vs → RepL A F ds vs → Rep A F (.tup ds) (.ref a)
  | lst {ds : List D} {a : Addr} {vs : List V} : F a = some (.lst vs) → RepL A F ds vs → Rep A F (.lst ds) (.ref a)
  | ref {n : Nat} {a : Addr} : A[n]? = some a → Rep A F (.ref n) (.ref a)
  | fn {n : Nat} : Rep A F (.fn n) (.ref (G.fnA n))
  | scr {ns : List Int} {a : Addr} : SqL K F a (ns.map V.int) → Rep A F (.scr ns) (.ref a)
  | exc {c : Nat} {a : Addr} : F a = some (XcO (.ref (G.clA c)) a) → Rep A F (.exc c) (.ref a)
  | dicK {ks vs : List D} {a : Addr} {kvs : List (Key × V)} {us : List V} : F a = some (.dK kvs) → keysD ks = some (kvs.map (·.1)) → us = kvs.map (·.2) → RepL A F vs us → Rep A F (.dic false ks vs) (.ref a)
  | dicT {ks vs : List D} {a : Addr} {xs : List (NestedKey × Addr × Value)} {cs us : List V} : F a = some (DtO G.P G.w a xs) → keysN ks = some (xs.map (·.1)) → cs = xs.map (fun x => V.ref x.2.1) → RepL A F ks cs → Vals us (xs.map (·.2.2)) → RepL A F vs us → Rep A F (.dic true ks vs) (.ref a)
inductive RepL (A : List Addr) (F : Hp) : List D → List V → Prop
  | nil : RepL A F [] []
  | cons {d : D} {ds : List D} {v : V} {vs : List V} : Rep A F d v → RepL A F ds vs → RepL A F (d :: ds) (v :: vs)
end
end
def SqT.mono {K : PySem.W.Frag} {F F' : Hp} {a : Addr} {vs : List V} (e : Same F F') (h : SqT K F a vs) : SqT K F' a vs := by
  rcases h with (h | ⟨o, h⟩) | h
  · exact .inl (.inl (e _ _ h))
  · exact .inl (.inr ⟨o, e _ _ h⟩)
  · exact .inr h
section
variable {K : PySem.W.Frag} {G : Glob} {A A' : List Addr} {F F' : Hp}
theorem pre_get {α : Type} {l l' : List α} {i : Nat} {a : α} (p : l <+: l') (h : l[i]? = some a) : l'[i]? = some a := by
  obtain ⟨t, rfl⟩ := p
  have := (List.getElem?_eq_some_iff.mp h).1
  rw [List.getElem?_append_left this]
  exact h
mutual
theorem Rep.mono (p : A <+: A') (e : Same F F') : ∀ {d : D} {v : V}, Rep K G A F d v → Rep K G A' F' d v
  | _, _, .non => .non
  | _, _, .bl b => .bl b
  | _, _, .int i => .int i
  | _, _, .str s => .str s
  | _, _, .tup h r => .tup (SqT.mono e h) (RepL.mono p e r)
  | _, _, .lst h r => .lst (e _ _ h) (RepL.mono p e r)
  | _, _, .ref h => .ref (pre_get p h)
  | _, _, .fn => .fn
  | _, _, .scr h => .scr (e.seq h)
  | _, _, .exc h => .exc (e _ _ h)
  | _, _, .dicK h1 h2 h3 r => .dicK (e _ _ h1) h2 h3 (RepL.mono p e r)
  | _, _, .dicT h1 h2 h3 r1 h4 r2 => .dicT (e _ _ h1) h2 h3 (RepL.mono p e r1) h4 (RepL.mono p e r2)
theorem RepL.mono (p : A <+: A') (e : Same F F') : ∀ {ds : List D} {vs : List V}, RepL K G A F ds vs → RepL K G A' F' ds vs
  | _, _, .nil => .nil
  | _, _, .cons h r => .cons (Rep.mono p e h) (RepL.mono p e r)
end
theorem RepL.length : ∀ {ds : List D} {vs : List V}, RepL K G A F ds vs → ds.length = vs.length
  | _, _, .nil => rfl
  | _, _, .cons _ r => by rw [List.length_cons, List.length_cons, RepL.length r]
theorem RepL.append : ∀ {ds es : List D} {vs us : List V}, RepL K G A F ds vs → RepL K G A F es us → RepL K G A F (ds ++ es) (vs ++ us)
  | _, _, _, _, .nil, s => s
  | _, _, _, _, .cons h r, s => .cons h (RepL.append r s)
theorem RepL.one {d : D} {v : V} (h : Rep K G A F d v) : RepL K G A F [d] [v] := .cons h .nil
theorem RepL.get : ∀ {ds : List D} {vs : List V} {i : Nat} {d : D}, RepL K G A F ds vs → ds[i]? = some d → ∃ v, vs[i]? = some v ∧ Rep K G A F d v
  | _, _, _, _, .nil, e => by simp at e
  | _, _, 0, _, .cons h _, e => by simp at e; subst e; exact ⟨_, rfl, h⟩
  | _, _, i + 1, d, .cons _ r, e => by
    obtain ⟨v, h1, h2⟩ := RepL.get (i := i) (d := d) r (by simpa using e)
    exact ⟨v, by simpa using h1, h2⟩
theorem RepL.getV : ∀ {ds : List D} {vs : List V} {i : Nat} {v : V}, RepL K G A F ds vs → vs[i]? = some v → ∃ d, ds[i]? = some d ∧ Rep K G A F d v
  | _, _, _, _, .nil, e => by simp at e
  | _, _, 0, _, .cons h _, e => by simp at e; subst e; exact ⟨_, rfl, h⟩
  | _, _, i + 1, d, .cons _ r, e => by
    obtain ⟨v, h1, h2⟩ := RepL.getV (i := i) (v := d) r (by simpa using e)
    exact ⟨v, by simpa using h1, h2⟩
theorem RepL.take : ∀ {ds : List D} {vs : List V} (n : Nat), RepL K G A F ds vs → RepL K G A F (ds.take n) (vs.take n)
  | _, _, 0, _ => .nil
  | _, _, _ + 1, .nil => .nil
  | _, _, n + 1, .cons h r => .cons h (RepL.take n r)
theorem RepL.drop : ∀ {ds : List D} {vs : List V} (n : Nat), RepL K G A F ds vs → RepL K G A F (ds.drop n) (vs.drop n)
  | _, _, 0, r => r
  | _, _, _ + 1, .nil => .nil
  | _, _, n + 1, .cons _ r => RepL.drop n r
theorem RepL.set : ∀ {ds : List D} {vs : List V} (i : Nat) {d : D} {v : V}, RepL K G A F ds vs → Rep K G A F d v → RepL K G A F (ds.set i d) (vs.set i v)
  | _, _, _, _, _, .nil, _ => .nil
  | _, _, 0, _, _, .cons _ r, h => .cons h r
  | _, _, i + 1, _, _, .cons q r, h => .cons q (RepL.set i r h)
theorem RepL.reverse {ds : List D} {vs : List V} (h : RepL K G A F ds vs) : RepL K G A F ds.reverse vs.reverse := by
  induction ds generalizing vs with
  | nil => cases h; exact .nil
  | cons d ds ih =>
    cases h with
    | cons h r =>
      rw [List.reverse_cons, List.reverse_cons]
      exact (ih r).append (.one h)
end
/-! ### owned things -/
section
variable (K : PySem.W.Frag) (G : Glob) (A : List Addr) (F H : Hp)
inductive MoR (p : Addr) : MO → Prop
  | lst {ds : List D} {vs : List V} : H p = some (.lst vs) → RepL K G A F ds vs → MoR p (.lst ds)
  | dicK {ks vs : List D} {kvs : List (Key × V)} {us : List V} : H p = some (.dK kvs) → keysD ks = some (kvs.map (·.1)) → us = kvs.map (·.2) → RepL K G A F vs us → MoR p (.dic false ks vs)
  | dicT {ks vs : List D} {xs : List (NestedKey × Addr × Value)} {cs us : List V} : H p = some (DtO G.P G.w p xs) → keysN ks = some (xs.map (·.1)) → cs = xs.map (fun x => V.ref x.2.1) → RepL K G A F ks cs → Vals us (xs.map (·.2.2)) → RepL K G A F vs us → MoR p (.dic true ks vs)
/-- what the table of code objects at P holds stays -/
def TabF (F H : Hp) (P : Addr) (q : Str) : Prop := ∃ ps : Array Value, H P = some (.tbl ps) ∧ TriplesOk ps.toList ∧ ∀ (pos : Pos) (cv : Value), codeAmong pos ps.toList = some cv → ∃ c, cv = .ref c ∧ F c = some (LamX.CodeO c q)
inductive FsR : List (Str × V) → List Str → List SV → Prop
  | nil {ns : List Str} : FsR [] ns []
  | dat {vs : List (Str × V)} {x : Str} {ns : List Str} {v : V} {d : D} {fs : List SV} : Rep K G A F d v → FsR vs ns fs → FsR ((x, v) :: vs) (x :: ns) (.dat d :: fs)
inductive RoR (a : Addr) : RO → List Addr → Prop
  | box {m : MO} : MoR K G A F H a m → RoR a (.box m) [a]
  | ins {c : Nat} {fs : List SV} {dx : Addr} {vs : List (Str × V)} : H a = some (.ins (G.clA c) dx vs) → H dx = some (.own a) → vs.length < 1000 → FsR K G A F vs (G.flds c) fs → RoR a (.ins c fs) [a, dx]
  | tab {j : Nat} : a = G.tbA j → TabF F H a (G.tbQ j) → RoR a (.tab j) [a]
  | gone : RoR a .gone []
inductive SsR : List Addr → Sh → List Addr → Prop
  | nil : SsR [] [] []
  | cons {a : Addr} {o : RO} {L : List Addr} {as : List Addr} {S : Sh} {Ls : List Addr} : RoR K G A F H a o L → SsR as S Ls → SsR (a :: as) (o :: S) (L ++ Ls)
inductive EnvR : L2.St → Env → List Addr → Prop
  | nil : EnvR [] [] []
  | no {o : Option V} {σ : L2.St} {env : Env} {L : List Addr} : EnvR σ env L → EnvR (o :: σ) (.no :: env) L
  | dat {v : V} {d : D} {σ : L2.St} {env : Env} {L : List Addr} : Rep K G A F d v → EnvR σ env L → EnvR (some v :: σ) (.dat d :: env) L
  | own {p : Addr} {m : MO} {σ : L2.St} {env : Env} {L : List Addr} : MoR K G A F H p m → EnvR σ env L → EnvR (some (.ref p) :: σ) (.own m :: env) (p :: L)
structure WR (S : Sh) (Ls : List Addr) : Prop where
  sub : Same F H
  st : SsR K G A F H A S Ls
  nd : Ls.Nodup
  out : ∀ a ∈ Ls, F a = none
structure Full (S : Sh) (Ls : List Addr) (σ : L2.St) (env : Env) (Le : List Addr) : Prop where
  w : WR K G A F H S Ls
  e : EnvR K G A F H σ env Le
  nd : Le.Nodup
  dj : ∀ a ∈ Le, a ∉ Ls
  out : ∀ a ∈ Le, F a = none
end
structure Ext (A : List Addr) (F H : Hp) (O : List Addr) (A' : List Addr) (F' H' : Hp) (O' : List Addr) : Prop where
  pre : A <+: A'
  fr : Same F F'
  keep : ∀ a o, H a = some o → a ∉ O → H' a = some o
  new : ∀ a, (F' a ≠ none ∨ a ∈ O') → F a ≠ none ∨ a ∈ O ∨ H a = none
theorem Ext.refl {A : List Addr} {F H : Hp} {O : List Addr} : Ext A F H O A F H O :=
  ⟨List.prefix_refl _, Same.refl _, fun _ _ h _ => h, fun a h => h.elim .inl fun z => .inr (.inl z)⟩
theorem Ext.trans {A1 A2 A3 : List Addr} {F1 F2 F3 H1 H2 H3 : Hp} {O1 O2 O3 : List Addr} (out : ∀ a ∈ O2, F2 a = none) (a : Ext A1 F1 H1 O1 A2 F2 H2 O2) (b : Ext A2 F2 H2 O2 A3 F3 H3 O3) : Ext A1 F1 H1 O1 A3 F3 H3 O3 := by
  have sm : ∀ x, F1 x ≠ none → F2 x ≠ none := fun x h z => by
    cases q : F1 x with
    | none => exact h q
    | some o => rw [a.fr x o q] at z; cases z
  refine ⟨a.pre.trans b.pre, a.fr.trans b.fr, fun x o h n => b.keep x o (a.keep x o h n) fun m => ?_, fun x h => ?_⟩
  · rcases a.new x (.inr m) with z | z | z
    · exact sm x z (out x m)
    · exact n z
    · rw [h] at z; cases z
  · rcases b.new x h with z | z | z
    · exact a.new x (.inl z)
    · exact a.new x (.inr z)
    · by_cases q : x ∈ O1
      · exact .inr (.inl q)
      · refine .inr (.inr ?_)
        cases r : H1 x with
        | none => rfl
        | some o => rw [a.keep x o r q] at z; cases z
section
variable {K : PySem.W.Frag} {G : Glob} {A A' : List Addr} {F F' H H' : Hp} {S S' : Sh} {Ls Ls' Le : List Addr} {σ : L2.St} {env : Env}
theorem MoR.there {p : Addr} {m : MO} (h : MoR K G A F H p m) : ∃ o, H p = some o := by
  cases h with
  | lst h _ => exact ⟨_, h⟩
  | dicK h _ _ _ => exact ⟨_, h⟩
  | dicT h _ _ _ _ _ => exact ⟨_, h⟩
theorem MoR.at {p : Addr} {m : MO} (pr : A <+: A') (fr : Same F F') (k : ∀ o, H p = some o → H' p = some o) (h : MoR K G A F H p m) : MoR K G A' F' H' p m := by
  cases h with
  | lst h r => exact .lst (k _ h) (r.mono pr fr)
  | dicK h1 h2 h3 r => exact .dicK (k _ h1) h2 h3 (r.mono pr fr)
  | dicT h1 h2 h3 r1 h4 r2 => exact .dicT (k _ h1) h2 h3 (r1.mono pr fr) h4 (r2.mono pr fr)
theorem FsR.at {vs : List (Str × V)} {ns : List Str} {fs : List SV} (pr : A <+: A') (fr : Same F F') (h : FsR K G A F vs ns fs) : FsR K G A' F' vs ns fs := by
  induction h with
  | nil => exact .nil
  | dat d _ ih => exact .dat (d.mono pr fr) ih
theorem RoR.there {a : Addr} {o : RO} {L : List Addr} (h : RoR K G A F H a o L) : ∀ b ∈ L, ∃ o, H b = some o := by
  cases h with
  | box m =>
    intro b hb
    have e : b = a := by simpa using hb
    subst e
    exact m.there
  | ins h1 h2 _ h3 =>
    intro b hb
    rcases List.mem_cons.mp hb with rfl | hb
    · exact ⟨_, h1⟩
    · rcases List.mem_cons.mp hb with rfl | hb
      · exact ⟨_, h2⟩
      · cases hb
  | tab e t =>
    intro b hb
    have e : b = a := by simpa using hb
    subst e
    obtain ⟨ps, h, _⟩ := t
    exact ⟨_, h⟩
  | gone => intro b hb; cases hb
theorem RoR.at {a : Addr} {o : RO} {L : List Addr} (pr : A <+: A') (fr : Same F F') (h : RoR K G A F H a o L) (k : ∀ b ∈ L, ∀ o, H b = some o → H' b = some o) : RoR K G A' F' H' a o L := by
  cases h with
  | box m => exact .box (m.at pr fr (k a (by simp)))
  | ins h1 h2 hl h3 => exact .ins (k _ (by simp) _ h1) (k _ (by simp) _ h2) hl (h3.at pr fr)
  | tab e t =>
    obtain ⟨ps, h1, h2, h3⟩ := t
    refine .tab e ⟨ps, k _ (by simp) _ h1, h2, fun pos cv hc => ?_⟩
    obtain ⟨c, e1, e2⟩ := h3 pos cv hc
    exact ⟨c, e1, fr _ _ e2⟩
  | gone => exact .gone
theorem SsR.there {as : List Addr} (h : SsR K G A F H as S Ls) : ∀ a ∈ Ls, ∃ o, H a = some o := by
  induction h with
  | nil => intro a h; cases h
  | cons r _ ih =>
    intro a h
    rcases List.mem_append.mp h with h | h
    · exact r.there a h
    · exact ih a h
theorem SsR.at {as : List Addr} (pr : A <+: A') (fr : Same F F') (h : SsR K G A F H as S Ls) (k : ∀ a ∈ Ls, ∀ o, H a = some o → H' a = some o) : SsR K G A' F' H' as S Ls := by
  induction h with
  | nil => exact .nil
  | cons r _ ih => exact .cons (r.at pr fr fun b hb => k b (List.mem_append_left _ hb)) (ih fun b hb => k b (List.mem_append_right _ hb))
theorem EnvR.there (h : EnvR K G A F H σ env Le) : ∀ a ∈ Le, ∃ o, H a = some o := by
  induction h with
  | nil => intro a h; cases h
  | no _ ih => exact ih
  | dat _ _ ih => exact ih
  | own m _ ih =>
    intro a h
    rcases List.mem_cons.mp h with rfl | h
    · exact m.there
    · exact ih a h
theorem EnvR.at (pr : A <+: A') (fr : Same F F') (h : EnvR K G A F H σ env Le) (k : ∀ a ∈ Le, ∀ o, H a = some o → H' a = some o) : EnvR K G A' F' H' σ env Le := by
  induction h with
  | nil => exact .nil
  | no _ ih => exact .no (ih k)
  | dat d _ ih => exact .dat (d.mono pr fr) (ih k)
  | own m _ ih => exact .own (m.at pr fr (k _ List.mem_cons_self)) (ih fun a h => k a (List.mem_cons_of_mem _ h))
theorem EnvR.len (h : EnvR K G A F H σ env Le) : σ.length = env.length := by
  induction h with
  | nil => rfl
  | no _ ih => simp [ih]
  | dat _ _ ih => simp [ih]
  | own _ _ ih => simp [ih]
theorem EnvR.dat_get : ∀ {σ : L2.St} {env : Env} {Le : List Addr} {i : Nat} {d : D}, EnvR K G A F H σ env Le → env[i]? = some (.dat d) → ∃ v, σ[i]? = some (some v) ∧ Rep K G A F d v
  | _, _, _, _, _, .nil, e => by simp at e
  | _, _, _, 0, _, .no _, e => by simp at e
  | _, _, _, 0, _, .dat h _, e => by simp at e; subst e; exact ⟨_, rfl, h⟩
  | _, _, _, 0, _, .own _ _, e => by simp at e
  | _, _, _, i + 1, d, .no r, e => by simpa using EnvR.dat_get (i := i) (d := d) r (by simpa using e)
  | _, _, _, i + 1, d, .dat _ r, e => by simpa using EnvR.dat_get (i := i) (d := d) r (by simpa using e)
  | _, _, _, i + 1, d, .own _ r, e => by simpa using EnvR.dat_get (i := i) (d := d) r (by simpa using e)
/-- behind an expression: the slots stand as they stood -/
theorem Full.ext (h : Full K G A F H S Ls σ env Le) (w' : WR K G A' F' H' S' Ls') (e : Ext A F H Ls A' F' H' Ls') : Full K G A' F' H' S' Ls' σ env Le := by
  have no : ∀ a ∈ Le, ¬ (F a ≠ none ∨ a ∈ Ls ∨ H a = none) := fun a ha z => by
    rcases z with z | z | z
    · exact z (h.out a ha)
    · exact h.dj a ha z
    · obtain ⟨o, q⟩ := h.e.there a ha
      rw [q] at z; cases z
  refine ⟨w', h.e.at e.pre e.fr fun a ha o q => e.keep a o q (h.dj a ha), h.nd, fun a ha z => no a ha (e.new a (.inr z)), fun a ha => ?_⟩
  cases q : F' a with
  | none => rfl
  | some o => exact (no a ha (e.new a (.inl (by rw [q]; simp)))).elim
end
end FT
namespace FT
open PySem PySem.Spec PyProof.Rows L2
/-! ### what is wanted behind a piece of code -/
section
variable {α β : Type} (K : PySem.W.Frag) (G : Glob) (W : WX) (R : List Addr → Hp → Hp → List Addr → α → β → Prop) (σ : L2.St)
def PG (A : List Addr) (F H : Hp) (Ls : List Addr) (Q : β → Hp → Prop) : Res α → Prop
  | .ok d S' => ∀ v A' F' H' Ls', WR K G A' F' H' S' Ls' → Ext A F H Ls A' F' H' Ls' → R A' F' H' Ls' d v → Q v H'
  | .ex c S' => ∀ A' F' H' Ls', WR K G A' F' H' S' Ls' → Ext A F H Ls A' F' H' Ls' → W (.ref (G.clA c)) none σ H'
  | .bad => False
end
/-- a wish that bears a bind -/
structure Fin {α : Type} (K : PySem.W.Frag) (G : Glob) (W : WX) (σ : L2.St) (P : List Addr → Hp → Hp → List Addr → Res α → Prop) : Prop where
  later : ∀ {A F H Ls A' F' H' Ls' r}, (∀ a ∈ Ls', F' a = none) → Ext A F H Ls A' F' H' Ls' → P A F H Ls r → P A' F' H' Ls' r
  ex : ∀ {A F H Ls c S}, P A F H Ls (.ex c S) → ∀ A' F' H' Ls', WR K G A' F' H' S Ls' → Ext A F H Ls A' F' H' Ls' → W (.ref (G.clA c)) none σ H'
  bad : ∀ {A F H Ls}, P A F H Ls .bad → False
section
variable {α β γ δ : Type} {K : PySem.W.Frag} {G : Glob} {W : WX} {R : List Addr → Hp → Hp → List Addr → α → β → Prop} {σ : L2.St} {A A' : List Addr} {F F' H H' : Hp} {S S' : Sh} {Ls Ls' Le : List Addr} {env : Env} {Q : β → Hp → Prop}
theorem pg_fin : Fin K G W σ (fun A F H Ls r => PG K G W R σ A F H Ls Q r) where
  later := fun {A F H Ls A' F' H' Ls' r} o e h => by
    cases r with
    | ok d S => exact fun v A2 F2 H2 L2 w2 e2 q => h v A2 F2 H2 L2 w2 (e.trans o e2) q
    | ex c S => exact fun A2 F2 H2 L2 w2 e2 => h A2 F2 H2 L2 w2 (e.trans o e2)
    | bad => exact h
  ex := fun h => h
  bad := fun h => h
theorem Fin.bind {P : List Addr → Hp → Hp → List Addr → Res γ → Prop} (p : Fin K G W σ P) (hF : Full K G A F H S Ls σ env Le) {r : Res α} {k : α → M γ} (h : P A F H Ls (r.bind k))
    (q : ∀ d S1 v A1 F1 H1 Ls1, Full K G A1 F1 H1 S1 Ls1 σ env Le → Ext A F H Ls A1 F1 H1 Ls1 → R A1 F1 H1 Ls1 d v → P A1 F1 H1 Ls1 (k d S1) → Q v H1) : PG K G W R σ A F H Ls Q r := by
  cases r with
  | ok d S1 => exact fun v A1 F1 H1 Ls1 w1 e1 r1 => q d S1 v A1 F1 H1 Ls1 (hF.ext w1 e1) e1 r1 (p.later w1.out e1 h)
  | ex c S1 => exact p.ex h
  | bad => exact p.bad h
end
abbrev RelD (K : PySem.W.Frag) (G : Glob) : List Addr → Hp → Hp → List Addr → D → V → Prop := fun A F _ _ d v => Rep K G A F d v
abbrev RelDs (K : PySem.W.Frag) (G : Glob) : List Addr → Hp → Hp → List Addr → List D → List V → Prop := fun A F _ _ d v => RepL K G A F d v
abbrev RelB : List Addr → Hp → Hp → List Addr → Bool → Bool → Prop := fun _ _ _ _ d b => d = b
def condB : Res D → Res Bool
  | .ok (.bl b) S => .ok b S
  | .ok _ _ => .bad
  | .ex c S => .ex c S
  | .bad => .bad
section
variable (K : PySem.W.Frag) (G : Glob) (W : WX)
def tD (f : Env → M D) : TE := fun σ H Q => ∃ A F S Ls env Le, Full K G A F H S Ls σ env Le ∧ PG K G W (RelD K G) σ A F H Ls Q (f env S)
def tDs (f : Env → M (List D)) : TA := fun σ H Q => ∃ A F S Ls env Le, Full K G A F H S Ls σ env Le ∧ PG K G W (RelDs K G) σ A F H Ls Q (f env S)
def tB (f : Env → M D) : TT := fun σ H Q => ∃ A F S Ls env Le, Full K G A F H S Ls σ env Le ∧ PG K G W RelB σ A F H Ls Q (condB (f env S))
end
theorem pe_imp {X : Cx} {e : Expr} {t t' : TE} (h : PE X e t) (i : ∀ σ H Q, t' σ H Q → t σ H Q) : PE X e t' := ⟨fun pins s σ H Q I q => h.run pins s σ H Q I (i σ H Q q)⟩
theorem pt_imp {X : Cx} {e : Expr} {t t' : TT} (h : PT X e t) (i : ∀ σ H Q, t' σ H Q → t σ H Q) : PT X e t' := ⟨fun pins s σ H Q I q => h.run pins s σ H Q I (i σ H Q q)⟩
theorem pa_imp {X : Cx} {e : List Expr} {t t' : TA} (h : PA X e t) (i : ∀ σ H Q, t' σ H Q → t σ H Q) : PA X e t' := ⟨fun pos pins s σ H Q I q => h.run pos pins s σ H Q I (i σ H Q q)⟩
theorem ps_imp {X : Cx} {e : Stmt} {t t' : TS} (h : PS X e t) (i : ∀ σ H Q, t' Q σ H → t Q σ H) : PS X e t' := ⟨fun pins s σ H Q I q => h.run pins s σ H Q I (i σ H Q q)⟩
theorem pss_imp {X : Cx} {e : List Stmt} {t t' : TS} (h : PSs X e t) (i : ∀ σ H Q, t' Q σ H → t Q σ H) : PSs X e t' := ⟨fun pins s σ H Q I q => h.run pins s σ H Q I (i σ H Q q)⟩
/-! ### new things -/
section
variable {K : PySem.W.Frag} {G : Glob} {A : List Addr} {F H : Hp} {S : Sh} {Ls : List Addr} {p : Addr} {o : HO}
theorem same_new {F : Hp} {p : Addr} {o : HO} (h : F p = none) : Same F (upd F p o) := fun b u e => by
  rw [upd_ne (ne_of_none e h)]
  exact e
theorem same_up {F H : Hp} {p : Addr} {o : HO} (h : Same F H) : Same (upd F p o) (upd H p o) := fun b u e => by
  by_cases q : b = p
  · subst q
    rw [upd_same] at e ⊢
    exact e
  · rw [upd_ne q] at e ⊢
    exact h b u e
theorem WR.nf (w : WR K G A F H S Ls) (h : H p = none) : F p = none := w.sub.free h
theorem WR.fresh (w : WR K G A F H S Ls) (h : H p = none) : p ∉ Ls := fun m => by
  obtain ⟨o, e⟩ := w.st.there p m
  rw [h] at e; cases e
/-- laid and frozen -/
theorem WR.lay (w : WR K G A F H S Ls) (h : H p = none) : WR K G A (upd F p o) (upd H p o) S Ls := by
  refine ⟨same_up w.sub, w.st.at (List.prefix_refl _) (same_new (w.nf h)) fun a _ u e => by rw [upd_ne (ne_of_none e h)]; exact e, w.nd, fun a m => ?_⟩
  rw [upd_ne (fun z => w.fresh h (by rw [← z]; exact m))]
  exact w.out a m
theorem Ext.lay (w : WR K G A F H S Ls) (h : H p = none) : Ext A F H Ls A (upd F p o) (upd H p o) Ls := by
  refine ⟨List.prefix_refl _, same_new (w.nf h), fun a u e _ => by rw [upd_ne (ne_of_none e h)]; exact e, fun a z => ?_⟩
  rcases z with z | z
  · by_cases q : a = p
    · subst q
      exact .inr (.inr h)
    · rw [upd_ne q] at z
      exact .inl z
  · exact .inr (.inl z)
end
end FT
namespace FT
open PySem PySem.Spec PyProof.Rows L2
/-! ### a small language: its words -/
inductive Bop where
  | add | sub | mul | fdiv | mod | pow
inductive Cop where
  | eq | ne | lt | le | gt | ge | isin | nin | is | isn
inductive Ty where
  | int | bool | str | tup | list | dict
inductive Bi where
  | len | list | tuple | str | int | sum | min | max | min2 | max2 | max3 | all | any | sorted | set | dlist | dsrt | srt | dlen | mint | isi (T : Ty)
  | join | split | count | sindex | tindex | lindex | lcnt
  | isx (yes no : List Nat)
inductive Tg where
  | nm (i : Nat)
  | tp (is : List Nat)
  | tl (is : List Nat)
mutual
inductive Ex where
  | var (i : Nat)
  | con (d : D)
  | bin (o : Bop) (a b : Ex)
  | neg (a : Ex)
  | not (a : Ex)
  | and (a b : Ex)
  | or (a b : Ex)
  | cmp (o : Cop) (a b : Ex)
  | chain (o o' : Cop) (a b c : Ex)
  | ife (t a b : Ex)
  | tup (es : Exs)
  | lst (es : Exs)
  | ix (a i : Ex)
  | sl (a : Ex) (lo hi : Opx)
  | rev (a : Ex)
  | call (f : Nat) (es : Exs)
  | bi (b : Bi) (es : Exs)
  | lc (vs : List Nat) (elt : Ex) (tg : Tg) (it : Itx) (c : Ex)
  | box (a : Ex)
  | ixb (a i : Ex)
  | sset (a : Ex)
  | lc2 (vs vs1 : List Nat) (elt : Ex) (tg : Tg) (it : Itx) (tg1 : Tg) (it1 : Itx)
  | m1 (b : Bi) (x y : Ex)
  | fstr (es : Exs)
  | hlen (p : Pl)
  | hemp (neg : Bool) (p : Pl)
  | hix (p : Pl) (e : Ex)
  | hdx (p : Pl) (e : Ex)
  | dgt (a k d : Ex)
  | hin (neg : Bool) (e : Ex) (p : Pl)
  | hget (p : Pl) (k d : Ex)
  | hpop (e : Ex)
  | dnew (t : Bool)
  | disp (k v : Ex)
  | new (c f : Nat) (es : Exs)
  | fld (e : Ex) (c k : Nat)
  | meth (c f : Nat) (e : Ex) (es : Exs)
  | callv (e : Ex) (es : Exs)
  | srtk (j : Nat) (e : Ex) (i : Int)
  | dix (a k : Ex)
  | din (neg : Bool) (k a : Ex)
  | eqo (neg : Bool) (f : Nat) (a b : Ex)
inductive Pl where
  | sl (i : Nat)
  | bx (e : Ex)
inductive Exs where
  | nil
  | cons (e : Ex) (es : Exs)
inductive Opx where
  | no
  | at (e : Ex)
inductive Itx where
  | e (a : Ex)
  | rng1 (a : Ex)
  | rng2 (a b : Ex)
  | enum (a : Ex)
  | zip (a b : Ex)
  | h (p : Pl)
  | dk (a : Ex)
  | items (p : Pl)
end
/-- where a thing that changes is held -/
inductive Hd where
  | sl (i : Nat)
  | bx (n : Nat)
/-! ### what the words do with data -/
def lim : Nat := 1000000
mutual
def eqv : D → D → Bool
  | .non, .non => true
  | .bl a, .bl b => a == b
  | .bl a, .int j => (if a then 1 else 0) == j
  | .int i, .bl b => i == (if b then 1 else 0)
  | .int i, .int j => i == j
  | .str x, .str y => x == y
  | .lst xs, .lst ys => eqvL xs ys
  | .tup xs, .tup ys => eqvL xs ys
  | _, _ => false
def eqvL : List D → List D → Bool
  | [], [] => true
  | x :: xs, y :: ys => eqv x y && eqvL xs ys
  | _, _ => false
end
mutual
/-- plain data, at most so deep -/
def okD : D → Nat → Bool
  | .non, _ => true
  | .bl _, _ => true
  | .int _, _ => true
  | .str s, _ => s.all (· < 1114112)
  | .tup xs, n => (match n with
    | 0 => false
    | n + 1 => okDs xs n)
  | .lst xs, n => (match n with
    | 0 => false
    | n + 1 => okDs xs n)
  | _, _ => false
def okDs : List D → Nat → Bool
  | [], _ => true
  | x :: xs, n => okD x n && okDs xs n
end
def flatD : D → Bool
  | .non => true
  | .bl _ => true
  | .int _ => true
  | .str _ => true
  | _ => false
def norm : D → D
  | .scr ns => .lst (ns.map D.int)
  | d => d
def binD : Bop → D → D → Option D
  | .add, .int i, .int j => some (.int (i + j))
  | .add, .str x, .str y => if x.length + y.length ≤ lim then some (.str (x ++ y)) else none
  | .add, .lst x, .lst y => if x.length + y.length ≤ lim then some (.lst (x ++ y)) else none
  | .add, .tup x, .tup y => if x.length + y.length ≤ lim then some (.tup (x ++ y)) else none
  | .sub, .int i, .int j => some (.int (i - j))
  | .mul, .int i, .int j => if i.natAbs < 2 ^ 62 then some (.int (i * j)) else if j.natAbs < 2 ^ 62 then some (.int (i * j)) else none
  | .mul, .lst xs, .int k => if 0 ≤ k ∧ k ≤ 1000 ∧ xs.length ≤ 1000 then some (.lst (List.replicate k.toNat xs).flatten) else none
  | .mul, .tup xs, .int k => if 0 < xs.length ∧ 2 ≤ k ∧ k ≤ 1000 ∧ xs.length ≤ 1000 then some (.tup (List.replicate k.toNat xs).flatten) else none
  | .fdiv, .int i, .int j => if j ≠ 0 ∧ j.natAbs < 1073741824 then some (.int (i.fdiv j)) else none
  | .mod, .int i, .int j => if j ≠ 0 then some (.int (i.fmod j)) else none
  | .pow, .int i, .int j => if 0 ≤ j ∧ j ≤ 1000000 ∧ i.natAbs < 2 ^ 62 then some (.int (i ^ j.toNat)) else none
  | _, _, _ => none
def eqD (d e : D) : Option Bool := if okD (norm d) 60 && okD (norm e) 60 then some (eqv (norm d) (norm e)) else none
def ltD : D → D → Option Bool
  | .int i, .int j => some (decide (i < j))
  | .str x, .str y => some (decide (x < y))
  | _, _ => none
def leD : D → D → Option Bool
  | .int i, .int j => some (decide (i ≤ j))
  | _, _ => none
def inD (d e : D) : Option Bool := match e with
  | .str s => (match d with
    | .str [c] => some (s.contains c)
    | _ => none)
  | .tup xs => if flatD d && xs.all flatD then some (xs.any fun x => eqv x d) else none
  | .lst xs => if okD d 50 && okDs xs 50 then some (xs.any fun x => eqv x d) else none
  | _ => none
def isD : D → D → Option Bool
  | .non, .non => some true
  | .bl _, .non => some false
  | .int _, .non => some false
  | .str _, .non => some false
  | .tup _, .non => some false
  | .lst _, .non => some false
  | .exc _, .non => some false
  | .ref _, .non => some false
  | .dic _ _ _, .non => some false
  | .scr _, .non => some false
  | .bl a, .bl b => some (a == b)
  | _, _ => none
def cmpD : Cop → D → D → Option D
  | .eq, d, e => (eqD d e).map D.bl
  | .ne, d, e => (eqD d e).map fun b => D.bl (!b)
  | .lt, d, e => (ltD d e).map D.bl
  | .gt, d, e => (ltD e d).map D.bl
  | .le, d, e => (leD d e).map D.bl
  | .ge, d, e => (leD e d).map D.bl
  | .isin, d, e => (inD d e).map D.bl
  | .nin, d, e => (inD d e).map fun b => D.bl (!b)
  | .is, d, e => (isD d e).map D.bl
  | .isn, d, e => (isD d e).map fun b => D.bl (!b)
def ixD : D → D → Option D
  | .tup xs, .int i => atI xs i
  | .lst xs, .int i => atI xs i
  | .scr ns, .int i => (atI ns i).map D.int
  | .str s, .int i => if s.length ≤ lim then (atI s i).map fun c => D.str [c] else none
  | _, _ => none
def cutL {α : Type} (xs : List α) (lo hi : Option Int) : List α := (xs.drop (HT.sIx xs.length 0 lo)).take (HT.sIx xs.length xs.length hi - HT.sIx xs.length 0 lo)
def slD : D → Option Int → Option Int → Option D
  | .tup xs, lo, hi => some (.tup (cutL xs lo hi))
  | .lst xs, lo, hi => some (.lst (cutL xs lo hi))
  | .str s, lo, hi => if s.length ≤ lim then some (.str (cutL s lo hi)) else none
  | _, _, _ => none
def revD : D → Option D
  | .lst xs => some (.lst xs.reverse)
  | .tup xs => some (.tup xs.reverse)
  | _ => none
def isiD : Ty → D → Option Bool
  | t, .non => some false
  | t, .bl _ => some (match t with | .int => true | .bool => true | _ => false)
  | t, .int _ => some (match t with | .int => true | _ => false)
  | t, .str _ => some (match t with | .str => true | _ => false)
  | t, .tup _ => some (match t with | .tup => true | _ => false)
  | t, .lst _ => some (match t with | .list => true | _ => false)
  | _, _ => none
def intsD : List D → Option (List Int)
  | [] => some []
  | .int i :: r => (intsD r).map (i :: ·)
  | _ => none
def blsD : List D → Option (List Bool)
  | [] => some []
  | .bl i :: r => (blsD r).map (i :: ·)
  | _ => none
def strsD : List D → Option (List (List Nat))
  | [] => some []
  | .str i :: r => (strsD r).map (i :: ·)
  | _ => none
def joinL (sep : List Nat) : List (List Nat) → List Nat
  | [] => []
  | [x] => x
  | x :: y :: r => x ++ sep ++ joinL sep (y :: r)
def maxL : List Int → Int
  | [] => 0
  | [x] => x
  | x :: y :: r => max x (maxL (y :: r))
def minL : List Int → Int
  | [] => 0
  | [x] => x
  | x :: y :: r => min x (minL (y :: r))
/-- the digits of a number, as str has them -/
def digF : Nat → Nat → List Nat
  | 0, n => [48 + n]
  | f + 1, n => if n < 10 then [48 + n] else digF f (n / 10) ++ [48 + n % 10]
def dig (n : Nat) : List Nat := digF 14 n
/-- a text parted at a sign -/
def splitC (c : Nat) : List Nat → List (List Nat)
  | [] => [[]]
  | x :: r => if x = c then [] :: splitC c r else (match splitC c r with
    | p :: ps => (x :: p) :: ps
    | [] => [[x]])
/-- the first place of a member -/
def idxOf {α : Type} (p : α → Bool) : List α → Option Nat
  | [] => none
  | x :: r => if p x then some 0 else (idxOf p r).map (· + 1)
/-- str of a text or a number -/
def strOf : D → Option (List Nat)
  | .str s => some s
  | .int i => if 0 ≤ i ∧ i < 1000000000000000 then some (dig i.toNat) else none
  | _ => none
def strsOf : List D → Option (List Nat)
  | [] => some []
  | d :: ds => (strOf d).bind fun s => (strsOf ds).map (s ++ ·)
def valD (s : List Nat) : Nat := s.foldl (fun a c => a * 10 + (c - 48)) 0
def biD : Bi → List D → Option D
  | .len, [.tup xs] => some (.int xs.length)
  | .len, [.lst xs] => some (.int xs.length)
  | .len, [.scr xs] => some (.int xs.length)
  | .len, [.str xs] => if xs.length ≤ lim then some (.int xs.length) else none
  | .list, [.tup xs] => some (.lst xs)
  | .list, [.lst xs] => some (.lst xs)
  | .list, [.scr ns] => some (.lst (ns.map D.int))
  | .tuple, [.lst xs] => some (.tup xs)
  | .tuple, [.tup xs] => some (.tup xs)
  | .str, [.int i] => if 0 ≤ i ∧ i < 1000000000000000 then some (.str (dig i.toNat)) else none
  | .str, [.str s] => some (.str s)
  | .list, [.str s] => if s.length ≤ lim then some (.lst (s.map fun c => D.str [c])) else none
  | .int, [.str s] => if s ≠ [] ∧ s.all (fun c => 48 ≤ c && c ≤ 57) ∧ s.length ≤ 640 then some (.int (valD s)) else none
  | .int, [.int i] => some (.int i)
  | .int, [.bl b] => some (.int (if b then 1 else 0))
  | .sum, [.lst xs] => (intsD xs).map fun ns => .int ns.sum
  | .min, [.lst xs] => (intsD xs).bind fun ns => if ns = [] then none else some (.int (minL ns))
  | .max, [.lst xs] => (intsD xs).bind fun ns => if ns = [] then none else some (.int (maxL ns))
  | .min2, [.int i, .int j] => some (.int (if j < i then j else i))
  | .max2, [.int i, .int j] => some (.int (if j > i then j else i))
  | .all, [.lst xs] => (blsD xs).map fun bs => .bl (bs.all id)
  | .any, [.lst xs] => (blsD xs).map fun bs => .bl (bs.any id)
  | .isi t, [d] => (isiD t d).map D.bl
  | .isx yes no, [.exc k] => if yes.contains k then some (.bl true) else if no.contains k then some (.bl false) else none
  | .dlist, [.dic false ks _] => some (.lst ks)
  | .dlen, [.dic false ks _] => some (.int ks.length)
  | .count, [.str s, .str [c]] => if s.length ≤ lim then some (.int (s.count c)) else none
  | .split, [.str s, .str [c]] => if s.length ≤ lim && c < 256 then some (.lst ((splitC c s).map D.str)) else none
  | .sindex, [.str s, .str [c]] => if s.length ≤ lim then (idxOf (· == c) s).map (fun (k : Nat) => D.int (k : Int)) else none
  | .tindex, [.tup xs, .str z] => (strsD xs).bind fun ts => (idxOf (· == z) ts).map fun (k : Nat) => D.int (k : Int)
  | .lindex, [.lst xs, .bl z] => (blsD xs).bind fun ts => (idxOf (· == z) ts).map fun (k : Nat) => D.int (k : Int)
  | .lindex, [.lst xs, .str z] => (strsD xs).bind fun ts => (idxOf (· == z) ts).map fun (k : Nat) => D.int (k : Int)
  | .lcnt, [.lst xs, .bl z] => (blsD xs).map fun ts => .int (ts.count z)
  | .join, [.str sep, .lst xs] => (strsD xs).bind fun ys => if ys.length ≤ 100000 && sep.length ≤ 100 && (joinL sep ys).length ≤ lim then some (.str (joinL sep ys)) else none
  | _, _ => none
/-- what a word asks of the thing that it is said of -/
def rcvD : Bi → D → Bool
  | .count, .str _ => true
  | .split, .str _ => true
  | .sindex, .str _ => true
  | .tindex, .tup _ => true
  | .lindex, .lst _ => true
  | .lcnt, .lst _ => true
  | .join, .str _ => true
  | _, _ => false
/-- sorted(set(xs)), texts -/
def insT (x : List Nat) : List (List Nat) → List (List Nat)
  | [] => [x]
  | y :: r => if x < y then x :: y :: r else if y < x then y :: insT x r else y :: r
def ssetT : List (List Nat) → List (List Nat)
  | [] => []
  | x :: r => insT x (ssetT r)
def ssetD : D → Option D
  | .lst xs => (strsD xs).bind fun ts => if ts.length < 64 then some (.lst ((ssetT ts).map D.str)) else none
  | _ => none
def boxOf : D → Option MO
  | .lst ds => some (.lst ds)
  | .dic t ks vs => some (.dic t ks vs)
  | _ => none
def ixbD (S : Sh) : D → D → Option D
  | .ref n, .int i => (match S[n]? with
    | some (.box (.lst ds)) => atI ds i
    | _ => none)
  | _, _ => none
/-! things that change -/
def findD (k : D) : List D → List D → Option D
  | k' :: ks, v :: vs => if eqv k' k then some v else findD k ks vs
  | _, _ => none
def putDv (k v : D) : List D → List D → List D
  | k' :: ks, v' :: vs => if eqv k' k then v :: vs else v' :: putDv k v ks vs
  | _, _ => [v]
def putDk (k : D) : List D → List D
  | k' :: ks => if eqv k' k then k' :: ks else k' :: putDk k ks
  | [] => [k]
def keyOk : Bool → D → Bool
  | false, d => (keyD d).isSome
  | true, .tup xs => (match keyN (.tup xs) with
    | some k => decide (k.depth ≤ 8)
    | none => false)
  | true, _ => false
def lenM : MO → Option D
  | .lst xs => some (.int xs.length)
  | _ => none
def empM (neg : Bool) : MO → Option D
  | .lst xs => some (.bl (xs.isEmpty != neg))
  | _ => none
def ixM : MO → D → Option D
  | .lst xs, .int i => atI xs i
  | _, _ => none
def dxM : MO → D → Option D
  | .dic t ks vs, k => if keyOk t k then findD k ks vs else none
  | _, _ => none
def dgtD : D → D → D → Option D
  | .dic t ks vs, k, d => if keyOk t k then some ((findD k ks vs).getD d) else none
  | _, _, _ => none
def isDic : D → Bool
  | .dic _ _ _ => true
  | _ => false
def inM (neg : Bool) : MO → D → Option D
  | .dic t ks vs, k => if keyOk t k then some (.bl ((findD k ks vs).isSome != neg)) else none
  | _, _ => none
def getM : MO → D → D → Option D
  | .dic t ks vs, k, d => if keyOk t k then some ((findD k ks vs).getD d) else none
  | _, _, _ => none
def setL : MO → D → D → Option MO
  | .lst xs, .int i, d => (match ixN xs.length i with
    | some j => some (.lst (xs.set j d))
    | none => none)
  | _, _, _ => none
def setM : MO → D → D → Option MO
  | .dic t ks vs, k, d => if keyOk t k && ks.length < lim then some (.dic t (putDk k ks) (putDv k d ks vs)) else none
  | _, _, _ => none
def popM : MO → Option (D × MO)
  | .lst xs => (match xs.getLast? with
    | some d => some (d, .lst xs.dropLast)
    | none => none)
  | _ => none
def look (env : Env) (S : Sh) : Hd → Option MO
  | .sl i => (match env[i]? with
    | some (.own m) => some m
    | _ => none)
  | .bx n => (match S[n]? with
    | some (.box m) => some m
    | _ => none)
def isDicM : Option MO → Bool
  | some (.dic _ _ _) => true
  | _ => false
def fldD (S : Sh) (c k : Nat) : D → Option D
  | .ref n => (match S[n]? with
    | some (.ins c' fs) => if c' = c then (match fs[k]? with
      | some (.dat d) => some d
      | _ => none) else none
    | _ => none)
  | _ => none
def insD (S : Sh) (c : Nat) : D → Option Nat
  | .ref n => (match S[n]? with
    | some (.ins c' _) => if c' = c then some n else none
    | _ => none)
  | _ => none
def refD : D → Option Nat
  | .ref n => some n
  | _ => none
def dixD : D → D → Option D
  | .dic t ks vs, k => if keyOk t k then findD k ks vs else none
  | _, _ => none
def dinD (neg : Bool) : D → D → Option D
  | k, .dic t ks vs => if keyOk t k then some (.bl ((findD k ks vs).isSome != neg)) else none
  | _, _ => none
mutual
def ltv : D → D → Bool
  | .int i, .int j => decide (i < j)
  | .str x, .str y => decide (x < y)
  | .bl a, .bl b => !a && b
  | .tup xs, .tup ys => ltvL xs ys
  | .lst xs, .lst ys => ltvL xs ys
  | _, _ => false
def ltvL : List D → List D → Bool
  | [], [] => false
  | [], _ :: _ => true
  | _ :: _, [] => false
  | x :: xs, y :: ys => if eqv x y then ltvL xs ys else ltv x y
end
mutual
def aliD : D → D → Bool
  | .non, .non => true
  | .bl _, .bl _ => true
  | .int _, .int _ => true
  | .str _, .str _ => true
  | .tup xs, .tup ys => aliL xs ys
  | _, _ => false
def aliL : List D → List D → Bool
  | [], _ => true
  | _ :: _, [] => true
  | x :: xs, y :: ys => aliD x y && aliL xs ys
end
def itemK (i : Int) : D → Option D
  | .tup xs => atI xs i
  | _ => none
def itemsK (i : Int) : List D → Option (List D)
  | [] => some []
  | d :: ds => match itemK i d, itemsK i ds with
    | some k, some ks => some (k :: ks)
    | _, _ => none
def insK (p : D × D) : List (D × D) → List (D × D)
  | [] => [p]
  | q :: r => if ltv q.1 p.1 then q :: insK p r else p :: q :: r
/-- stable, by insertion from the right -/
def srtK : List (D × D) → List (D × D)
  | [] => []
  | p :: r => insK p (srtK r)
def allK (ks : List D) : Bool := ks.all fun k => ks.all fun k' => aliD k k'
/-- texts, numbers: no tuple; or tuples that are not empty -/
def kindK (ks : List D) : Bool := (ks.all fun k => match k with | .int _ => true | .str _ => true | .bl _ => true | _ => false) || (ks.all fun k => match k with | .tup (_ :: _) => true | _ => false)
def srtkD (i : Int) : D → Option D
  | .lst ds => (itemsK i ds).bind fun ks => if allK ks && (kindK ks && (okDs ks 20 && ds.length ≤ lim)) then some (.lst ((srtK (ks.zip ds)).map (·.2))) else none
  | _ => none
def srtD : D → Option D
  | .lst ks => if allK ks && (kindK ks && (okDs ks 20 && ks.length ≤ lim)) then some (.lst ((srtK (ks.zip ks)).map (·.2))) else none
  | _ => none
def minK : List D → Option D
  | [] => none
  | [x] => some x
  | x :: r => match minK r with
    | some y => some (if ltv y x then y else x)
    | none => none
def lift {α : Type} (o : Option α) : M α := fun S => match o with
  | some a => .ok a S
  | none => .bad
def setAll : Env → List Nat → List D → Option Env
  | env, [], [] => some env
  | env, i :: is, d :: ds => setAll (env.set i (.dat d)) is ds
  | _, _, _ => none
def assignT : Tg → D → Env → Option Env
  | .nm i, d, env => some (env.set i (.dat d))
  | .tp is, .tup ds, env => setAll env is ds
  | .tl is, .lst ds, env => setAll env is ds
  | _, _, _ => none
def wipeE (env : Env) : List Nat → Env
  | [] => env
  | v :: vs => (wipeE env vs).set v .no
/-- an item kept or dropped; nothing is raised -/
def lcL (f : D → M (Option D)) : List D → M (List D)
  | [], S => .ok [] S
  | d :: ds, S => match f d S with
    | .ok r S1 => (match lcL f ds S1 with
      | .ok ys S2 => .ok (match r with | some y => y :: ys | none => ys) S2
      | _ => .bad)
    | _ => .bad
def enumD : Nat → List D → List D
  | _, [] => []
  | i, d :: ds => .tup [.int i, d] :: enumD (i + 1) ds
def zipD : List D → List D → List D
  | a :: as, b :: bs => .tup [a, b] :: zipD as bs
  | _, _ => []
def rngD (i j : Int) : Option (List D) := if -(2 ^ 40) ≤ i ∧ i < 2 ^ 40 ∧ -(2 ^ 40) ≤ j ∧ j < 2 ^ 40 then some ((List.range (j - i).toNat).map fun (k : Nat) => D.int (i + (k : Int))) else none
def itemsD : D → Option (List D)
  | .tup xs => some xs
  | .lst xs => some xs
  | .scr ns => some (ns.map D.int)
  | .str s => some (s.map fun c => .str [c])
  | _ => none
abbrev Fns := Nat → List D → M D
theorem cond_bind {α : Type} (r : Res D) (a b : M α) : (r.bind fun d => (match d with
    | .bl true => a
    | .bl false => b
    | _ => lift none)) = (condB r).bind fun k => if k then a else b := by
  cases r with
  | ok d S =>
    cases d with
    | bl k => cases k <;> rfl
    | _ => rfl
  | ex c S => rfl
  | bad => rfl
mutual
def evalE (Φ : Fns) : Ex → Env → M D
  | .var i, env, S => (match env[i]? with
    | some (.dat d) => .ok d S
    | _ => .bad)
  | .con d, _, S => .ok d S
  | .bin o a b, env, S => (evalE Φ a env S).bind fun d => fun S1 => (evalE Φ b env S1).bind fun e => lift (binD o d e)
  | .neg a, env, S => (evalE Φ a env S).bind fun d => (match d with
    | .int i => lift (some (.int (-i)))
    | _ => lift none)
  | .not a, env, S => (evalE Φ a env S).bind fun d => (match d with
    | .bl b => lift (some (.bl (!b)))
    | _ => lift none)
  | .and a b, env, S => (evalE Φ a env S).bind fun d => (match d with
    | .bl true => evalE Φ b env
    | .bl false => lift (some (.bl false))
    | _ => lift none)
  | .or a b, env, S => (evalE Φ a env S).bind fun d => (match d with
    | .bl false => evalE Φ b env
    | .bl true => lift (some (.bl true))
    | _ => lift none)
  | .cmp o a b, env, S => (evalE Φ a env S).bind fun d => fun S1 => (evalE Φ b env S1).bind fun e => lift (cmpD o d e)
  | .chain o o' a b c, env, S => (evalE Φ a env S).bind fun d => fun S1 => (evalE Φ b env S1).bind fun e => (match cmpD o d e with
    | some (.bl true) => fun S2 => (evalE Φ c env S2).bind fun g => lift (cmpD o' e g)
    | some (.bl false) => lift (some (.bl false))
    | _ => lift none)
  | .ife t a b, env, S => (evalE Φ t env S).bind fun d => (match d with
    | .bl true => evalE Φ a env
    | .bl false => evalE Φ b env
    | _ => lift none)
  | .tup es, env, S => (evalL Φ es env S).bind fun ds => lift (if ds.length ≤ 1000 then some (.tup ds) else none)
  | .lst es, env, S => (evalL Φ es env S).bind fun ds => lift (if ds.length ≤ 1000 then some (.lst ds) else none)
  | .ix a i, env, S => (evalE Φ a env S).bind fun d => fun S1 => (evalE Φ i env S1).bind fun e => lift (ixD d e)
  | .sl a lo hi, env, S => (evalE Φ a env S).bind fun d => fun S1 => (evalO Φ lo env S1).bind fun l => fun S2 => (evalO Φ hi env S2).bind fun h => lift (slD d l h)
  | .rev a, env, S => (evalE Φ a env S).bind fun d => lift (revD d)
  | .call f es, env, S => (evalL Φ es env S).bind fun ds => Φ f ds
  | .bi b es, env, S => (evalL Φ es env S).bind fun ds => lift (biD b ds)
  | .lc vs elt tg it c, env, S => (evalI Φ it env S).bind fun ds => (if ds.length ≤ lim then
      (fun S1 => (lcL (fun d S2 => match assignT tg d (wipeE env vs) with
        | some env' => (condB (evalE Φ c env' S2)).bind fun b => if b then (fun S3 => (evalE Φ elt env' S3).bind fun y => lift (some (some y))) else lift (some none)
        | none => .bad) ds S1).bind fun ys => lift (some (.lst ys)))
    else lift none)
  | .box a, env, S => (evalE Φ a env S).bind fun d => fun S1 => (match boxOf d with
    | some m => .ok (.ref S1.length) (S1 ++ [.box m])
    | none => .bad)
  | .ixb a i, env, S => (evalE Φ a env S).bind fun d => fun S1 => (evalE Φ i env S1).bind fun e => fun S2 => lift (ixbD S2 d e) S2
  | .sset a, env, S => (evalE Φ a env S).bind fun d => lift (ssetD d)
  | .lc2 vs vs1 elt tg it tg1 it1, env, S => .bad
  | .m1 b x y, env, S => (evalE Φ x env S).bind fun d => if rcvD b d then (fun S1 => (evalE Φ y env S1).bind fun e => lift (biD b [d, e])) else lift none
  | .fstr es, env, S => (evalF Φ [] es env S).bind fun s => lift (some (.str s))
  | .hlen p, env, S => (evalH Φ p env S).bind fun h => fun S1 => lift ((look env S1 h).bind lenM) S1
  | .hemp neg p, env, S => (evalH Φ p env S).bind fun h => fun S1 => lift ((look env S1 h).bind (empM neg)) S1
  | .hix p e, env, S => (evalH Φ p env S).bind fun h => fun S1 => (evalE Φ e env S1).bind fun d => fun S2 => lift ((look env S2 h).bind fun m => ixM m d) S2
  | .hdx p e, env, S => (evalH Φ p env S).bind fun h => fun S1 => (evalE Φ e env S1).bind fun d => fun S2 => lift ((look env S2 h).bind fun m => dxM m d) S2
  | .dgt a k d, env, S => (evalE Φ a env S).bind fun x => if isDic x then (fun S1 => (evalE Φ k env S1).bind fun y => fun S2 => (evalE Φ d env S2).bind fun z => lift (dgtD x y z)) else lift none
  | .hin neg e p, env, S => (evalE Φ e env S).bind fun d => fun S1 => (evalH Φ p env S1).bind fun h => fun S2 => lift ((look env S2 h).bind fun m => inM neg m d) S2
  | .hget p k d, env, S => (evalH Φ p env S).bind fun h => fun S1 => if !(isDicM (look env S1 h)) then .bad else (evalE Φ k env S1).bind fun kd => fun S2 => (evalE Φ d env S2).bind fun dd => fun S3 => lift ((look env S3 h).bind fun m => getM m kd dd) S3
  | .hpop e, env, S => (evalE Φ e env S).bind fun d => fun S1 => (match refD d with
    | some n => (match S1[n]? with
      | some (.box m) => (match popM m with
        | some (z, m') => .ok z (S1.set n (.box m'))
        | none => .bad)
      | _ => .bad)
    | none => .bad)
  | .dnew t, env, S => .ok (.dic t [] []) S
  | .disp k v, env, S => (evalE Φ k env S).bind fun d => fun S1 => (evalE Φ v env S1).bind fun e => lift (if keyOk true d then some (.dic true [d] [e]) else none)
  | .new c f es, env, S => (evalL Φ es env S).bind fun ds => fun S1 => (Φ f (.ref S1.length :: ds) (S1 ++ [.ins c []])).bind fun d => (match d with
    | .non => lift (some (.ref S1.length))
    | _ => lift none)
  | .fld e c k, env, S => (evalE Φ e env S).bind fun d => fun S1 => lift (fldD S1 c k d) S1
  | .meth c f e es, env, S => (evalE Φ e env S).bind fun d => fun S1 => (match insD S1 c d with
    | some n => (evalL Φ es env S1).bind fun ds => Φ f (.ref n :: ds)
    | none => .bad)
  | .callv e es, env, S => (evalE Φ e env S).bind fun d => (match d with
    | .fn f => fun S1 => (evalL Φ es env S1).bind fun ds => Φ f ds
    | _ => lift none)
  | .srtk j e i, env, S => (evalE Φ e env S).bind fun d => fun S1 => (match S1[j]? with
    | some (.tab j') => lift (if j' = j then srtkD i d else none) S1
    | _ => .bad)
  | .dix a k, env, S => (evalE Φ a env S).bind fun d => fun S1 => (evalE Φ k env S1).bind fun e => lift (dixD d e)
  | .din neg k a, env, S => (evalE Φ k env S).bind fun d => fun S1 => (evalE Φ a env S1).bind fun e => lift (dinD neg d e)
  | .eqo neg f a b, env, S => (evalE Φ a env S).bind fun d => fun S1 => (evalE Φ b env S1).bind fun e => fun S2 => (Φ f [d, e] S2).bind fun r => (match r with
    | .bl b => lift (some (.bl (b != neg)))
    | _ => lift none)
def evalL (Φ : Fns) : Exs → Env → M (List D)
  | .nil, _, S => .ok [] S
  | .cons e es, env, S => (evalE Φ e env S).bind fun d => fun S1 => (evalL Φ es env S1).bind fun ds => lift (some (d :: ds))
def evalF (Φ : Fns) : List Nat → Exs → Env → M (List Nat)
  | acc, .nil, _, S => .ok acc S
  | acc, .cons e es, env, S => (evalE Φ e env S).bind fun d => (match strOf d with
    | some s => if (acc ++ s).length ≤ lim then evalF Φ (acc ++ s) es env else lift none
    | none => lift none)
def evalH (Φ : Fns) : Pl → Env → M Hd
  | .sl i, env, S => (match env[i]? with
    | some (.own _) => .ok (.sl i) S
    | _ => .bad)
  | .bx e, env, S => (evalE Φ e env S).bind fun d => lift ((refD d).map Hd.bx)
def evalO (Φ : Fns) : Opx → Env → M (Option Int)
  | .no, _, S => .ok none S
  | .at e, env, S => (evalE Φ e env S).bind fun d => (match d with
    | .int i => lift (some (some i))
    | _ => lift none)
def evalI (Φ : Fns) : Itx → Env → M (List D)
  | .e a, env, S => (evalE Φ a env S).bind fun d => lift (itemsD d)
  | .rng1 a, env, S => (evalE Φ a env S).bind fun d => (match d with
    | .int j => lift (rngD 0 j)
    | _ => lift none)
  | .rng2 a b, env, S => (evalE Φ a env S).bind fun d => fun S1 => (evalE Φ b env S1).bind fun e => (match d, e with
    | .int i, .int j => lift (rngD i j)
    | _, _ => lift none)
  | .enum a, env, S => (evalE Φ a env S).bind fun d => (match d with
    | .lst ds => lift (some (enumD 0 ds))
    | .tup ds => lift (some (enumD 0 ds))
    | _ => lift none)
  | .zip a b, env, S => (evalE Φ a env S).bind fun d => fun S1 => (evalE Φ b env S1).bind fun e => (match d, e with
    | .lst x, .lst y => lift (some (zipD x y))
    | .tup x, .tup y => lift (some (zipD x y))
    | _, _ => lift none)
  | .h p, env, S => (evalH Φ p env S).bind fun h => fun S1 => (match look env S1 h with
    | some (.lst ds) => .ok ds S1
    | _ => .bad)
  | .dk a, env, S => (evalE Φ a env S).bind fun d => (match d with
    | .dic false ks _ => lift (some ks)
    | _ => lift none)
  | .items p, env, S => (evalH Φ p env S).bind fun h => fun S1 => (match look env S1 h with
    | some (.dic _ ks vs) => .ok (zipD ks vs) S1
    | _ => .bad)
end
end FT
namespace FT
open PySem PySem.Spec PyProof.Rows L2
/-! ### the judgements -/
section
variable (X : Cx) (G : Glob) (Φ : Fns) (W : WX)
def DE (e : Expr) (x : Ex) : Prop := PE X e (tD X.K G W (evalE Φ x))
def DT (e : Expr) (x : Ex) : Prop := PT X e (tB X.K G W (evalE Φ x))
def DW (e : Expr) (x : Ex) : Prop := PW X e (tB X.K G W (evalE Φ x))
def DA (es : List Expr) (xs : Exs) : Prop := PA X es (tDs X.K G W (evalL Φ xs))
/-- a two-place operation on data -/
def OpD (K : PySem.W.Frag) (r : R2) (g : D → D → Option D) : Prop := ∀ (A : List Addr) (F H : Hp) (S : Sh) (Ls : List Addr) (d e z : D) (x y : V) (Q : VK), WR K G A F H S Ls → Rep K G A F d x → Rep K G A F e y → g d e = some z →
  (∀ v F' H', WR K G A F' H' S Ls → Ext A F H Ls A F' H' Ls → Rep K G A F' z v → Q v H') → r x y H Q
def CallD (K : PySem.W.Frag) (r : List V → Hp → VK → Prop) (g : List D → Option D) : Prop := ∀ (A : List Addr) (F H : Hp) (S : Sh) (Ls : List Addr) (ds : List D) (z : D) (xs : List V) (Q : VK), WR K G A F H S Ls → RepL K G A F ds xs → g ds = some z →
  (∀ v F' H', WR K G A F' H' S Ls → Ext A F H Ls A F' H' Ls → Rep K G A F' z v → Q v H') → r xs H Q
end
section
variable {X : Cx} {G : Glob} {Φ : Fns} {W : WX}
section
variable {K : PySem.W.Frag} {A : List Addr} {F H : Hp} {S : Sh} {Ls : List Addr} {σ : L2.St} {Q : VK}
theorem pg_ok {d : D} {v : V} (w : WR K G A F H S Ls) (h : PG K G W (RelD K G) σ A F H Ls Q (.ok d S)) (r : Rep K G A F d v) : Q v H := h v A F H Ls w .refl r
end
/-! ### names, constants -/
theorem d_var {i : Nat} {x : Str} {pos : Pos} (h : PE X (.Name x pos) (tVar i)) : DE X G Φ W (.Name x pos) (.var i) := pe_imp h fun σ H Q ⟨A, F, S, Ls, env, Le, hF, q⟩ => by
  rw [evalE] at q
  cases e : env[i]? with
  | none => rw [e] at q; exact q.elim
  | some s =>
    rw [e] at q
    cases s with
    | dat d =>
      obtain ⟨v, e1, r⟩ := hF.e.dat_get e
      exact ⟨v, e1, pg_ok hF.w q r⟩
    | no => exact q.elim
    | own m => exact q.elim
theorem d_con {e : Expr} {v : V} {d : D} (h : PE X e (tC v)) (r : ∀ A F, Rep X.K G A F d v) : DE X G Φ W e (.con d) := pe_imp h fun σ H Q ⟨A, F, S, Ls, env, Le, hF, q⟩ => by
  rw [evalE] at q
  exact pg_ok hF.w q (r A F)
/-! ### operators -/
theorem d_two {e : Expr} {x y z : Ex} {r : R2} {g : D → D → Option D} (hg : OpD G X.K r g) (he : PE X e (tOp r (tD X.K G W (evalE Φ x)) (tD X.K G W (evalE Φ y))))
    (hz : ∀ env S, evalE Φ z env S = (evalE Φ x env S).bind fun d => fun S1 => (evalE Φ y env S1).bind fun e => lift (g d e)) : DE X G Φ W e z := pe_imp he fun σ H Q ⟨A, F, S, Ls, env, Le, hF, q⟩ => by
  rw [hz] at q
  refine ⟨A, F, S, Ls, env, Le, hF, pg_fin.bind hF q fun d S1 v A1 F1 H1 Ls1 hF1 e1 r1 q1 => ?_⟩
  refine ⟨A1, F1, S1, Ls1, env, Le, hF1, pg_fin.bind hF1 q1 fun d2 S2 v2 A2 F2 H2 Ls2 hF2 e2 r2 q2 => ?_⟩
  cases h : g d d2 with
  | none => rw [h] at q2; exact q2.elim
  | some w =>
    rw [h] at q2
    exact hg A2 F2 H2 S2 Ls2 d d2 w v v2 Q hF2.w (r1.mono e2.pre e2.fr) r2 h fun v3 F3 H3 w3 e3 r3 => q2 v3 A2 F3 H3 Ls2 w3 e3 r3
theorem d_bin {a b : Expr} {op : Operator} {o : Bop} {x y : Ex} {pos : Pos} {r : R2} (ho : OpR X (binaryOp op) r) (hg : OpD G X.K r (binD o)) (ha : DE X G Φ W a x) (hb : DE X G Φ W b y) : DE X G Φ W (.BinOp a op b pos) (.bin o x y) :=
  d_two hg (pe_op ho ha hb) fun env S => by rw [evalE]
theorem d_cmp {a b : Expr} {op : CmpOp} {o : Cop} {x y : Ex} {pos : Pos} {r : R2} (ho : OpR X (compareOp op) r) (hg : OpD G X.K r (cmpD o)) (ha : DE X G Φ W a x) (hb : DE X G Φ W b y) (hm : behindInMarks op b = false) : DE X G Φ W (.Compare a [op] [b] pos) (.cmp o x y) :=
  d_two hg (pe_cmpR ho ha hb hm) fun env S => by rw [evalE]
theorem d_neg {a : Expr} {x : Ex} {pos : Pos} (ha : DE X G Φ W a x) : DE X G Φ W (.UnaryOp .USub a pos) (.neg x) := pe_imp (pe_un un_neg ha) fun σ H Q ⟨A, F, S, Ls, env, Le, hF, q⟩ => by
  rw [evalE] at q
  refine ⟨A, F, S, Ls, env, Le, hF, pg_fin.bind hF q fun d S1 v A1 F1 H1 Ls1 hF1 e1 r1 q1 => ?_⟩
  cases r1 with
  | int i => exact ⟨i, rfl, pg_ok hF1.w q1 (.int _)⟩
  | _ => exact q1.elim
theorem d_not {a : Expr} {x : Ex} {pos : Pos} (ha : DE X G Φ W a x) : DE X G Φ W (.UnaryOp .Not a pos) (.not x) := pe_imp (pe_not ha) fun σ H Q ⟨A, F, S, Ls, env, Le, hF, q⟩ => by
  rw [evalE] at q
  refine ⟨A, F, S, Ls, env, Le, hF, pg_fin.bind hF q fun d S1 v A1 F1 H1 Ls1 hF1 e1 r1 q1 => ?_⟩
  cases r1 with
  | bl i => exact ⟨i, rfl, pg_ok hF1.w q1 (.bl _)⟩
  | _ => exact q1.elim
theorem d_one {a : Expr} {op : BoolOp} {x : Ex} {pos : Pos} (ha : DE X G Φ W a x) : DE X G Φ W (.BoolOp op [a] pos) x := pe_one ha
theorem d_and {a b : Expr} {rest : List Expr} {x y : Ex} {pos : Pos} (ha : DE X G Φ W a x) (hb : DE X G Φ W (.BoolOp .And (b :: rest) pos) y) : DE X G Φ W (.BoolOp .And (a :: b :: rest) pos) (.and x y) := pe_imp (pe_and ha hb) fun σ H Q ⟨A, F, S, Ls, env, Le, hF, q⟩ => by
  rw [evalE] at q
  refine ⟨A, F, S, Ls, env, Le, hF, pg_fin.bind hF q fun d S1 v A1 F1 H1 Ls1 hF1 e1 r1 q1 => ?_⟩
  cases r1 with
  | bl i =>
    refine ⟨i, rfl, ?_⟩
    cases i with
    | true => exact ⟨A1, F1, S1, Ls1, env, Le, hF1, q1⟩
    | false => exact pg_ok hF1.w q1 (.bl _)
  | _ => exact q1.elim
theorem d_or {a b : Expr} {rest : List Expr} {x y : Ex} {pos : Pos} (ha : DE X G Φ W a x) (hb : DE X G Φ W (.BoolOp .Or (b :: rest) pos) y) : DE X G Φ W (.BoolOp .Or (a :: b :: rest) pos) (.or x y) := pe_imp (pe_or ha hb) fun σ H Q ⟨A, F, S, Ls, env, Le, hF, q⟩ => by
  rw [evalE] at q
  refine ⟨A, F, S, Ls, env, Le, hF, pg_fin.bind hF q fun d S1 v A1 F1 H1 Ls1 hF1 e1 r1 q1 => ?_⟩
  cases r1 with
  | bl i =>
    refine ⟨i, rfl, ?_⟩
    cases i with
    | false => exact ⟨A1, F1, S1, Ls1, env, Le, hF1, q1⟩
    | true => exact pg_ok hF1.w q1 (.bl _)
  | _ => exact q1.elim
theorem d_chain {a b c : Expr} {op op' : CmpOp} {o o' : Cop} {x y z : Ex} {pos : Pos} {r r' : R2} (he : PE X (.Compare a [op, op'] [b, c] pos) (tChain r r' (tD X.K G W (evalE Φ x)) (tD X.K G W (evalE Φ y)) (tD X.K G W (evalE Φ z)))) (hg : OpD G X.K r (cmpD o)) (hg' : OpD G X.K r' (cmpD o')) :
    DE X G Φ W (.Compare a [op, op'] [b, c] pos) (.chain o o' x y z) := pe_imp he fun σ H Q ⟨A, F, S, Ls, env, Le, hF, q⟩ => by
  rw [evalE] at q
  refine ⟨A, F, S, Ls, env, Le, hF, pg_fin.bind hF q fun d S1 v A1 F1 H1 Ls1 hF1 e1 r1 q1 => ?_⟩
  refine ⟨A1, F1, S1, Ls1, env, Le, hF1, pg_fin.bind hF1 q1 fun d2 S2 v2 A2 F2 H2 Ls2 hF2 e2 r2 q2 => ?_⟩
  cases h : cmpD o d d2 with
  | none => rw [h] at q2; exact q2.elim
  | some w =>
    rw [h] at q2
    refine hg A2 F2 H2 S2 Ls2 d d2 w v v2 _ hF2.w (r1.mono e2.pre e2.fr) r2 h fun v3 F3 H3 w3 e3 r3 => ?_
    have hF3 := hF2.ext w3 e3
    cases r3 with
    | bl k =>
      refine ⟨k, rfl, ?_⟩
      cases k with
      | true =>
        have q3 := pg_fin.later w3.out e3 q2
        refine ⟨A2, F3, S2, Ls2, env, Le, hF3, pg_fin.bind hF3 q3 fun d4 S4 v4 A4 F4 H4 Ls4 hF4 e4 r4 q4 => ?_⟩
        cases h4 : cmpD o' d2 d4 with
        | none => rw [h4] at q4; exact q4.elim
        | some w4 =>
          rw [h4] at q4
          exact hg' A4 F4 H4 S4 Ls4 d2 d4 w4 v2 v4 _ hF4.w ((r2.mono e3.pre e3.fr).mono e4.pre e4.fr) r4 h4 fun v5 F5 H5 w5 e5 r5 => q4 v5 A4 F5 H5 Ls4 w5 e5 r5
      | false => exact q2 _ A2 F3 H3 Ls2 w3 e3 (.bl _)
    | _ => exact q2.elim
theorem d_ife {t a b : Expr} {xt x y : Ex} {pos : Pos} (ht : DT X G Φ W t xt) (ha : DE X G Φ W a x) (hb : DE X G Φ W b y) : DE X G Φ W (.IfExp t a b pos) (.ife xt x y) := pe_imp (pe_ifExp ht ha hb) fun σ H Q ⟨A, F, S, Ls, env, Le, hF, q⟩ => by
  rw [evalE] at q
  have q : PG X.K G W (RelD X.K G) σ A F H Ls Q ((condB (evalE Φ xt env S)).bind fun k => if k then evalE Φ x env else evalE Φ y env) := by
    rw [← cond_bind]
    exact q
  refine ⟨A, F, S, Ls, env, Le, hF, pg_fin.bind hF q fun d S1 v A1 F1 H1 Ls1 hF1 e1 r1 q1 => ?_⟩
  subst r1
  cases d with
  | true => exact ⟨A1, F1, S1, Ls1, env, Le, hF1, q1⟩
  | false => exact ⟨A1, F1, S1, Ls1, env, Le, hF1, q1⟩
/-! ### argument lists, displays -/
theorem a_nil : DA X G Φ W [] .nil := pa_imp pa_nil fun σ H Q ⟨A, F, S, Ls, env, Le, hF, q⟩ => by
  rw [evalL] at q
  exact q _ A F H Ls hF.w .refl .nil
theorem a_cons {e : Expr} {es : List Expr} {x : Ex} {xs : Exs} (ha : DE X G Φ W e x) (hb : DA X G Φ W es xs) (hs : starEach (e :: es) X.env = (false, eval e X.env) :: starEach es X.env := by rfl) : DA X G Φ W (e :: es) (.cons x xs) := pa_imp (pa_cons ha hb hs) fun σ H Q ⟨A, F, S, Ls, env, Le, hF, q⟩ => by
  rw [evalL] at q
  refine ⟨A, F, S, Ls, env, Le, hF, pg_fin.bind hF q fun d S1 v A1 F1 H1 Ls1 hF1 e1 r1 q1 => ?_⟩
  refine ⟨A1, F1, S1, Ls1, env, Le, hF1, pg_fin.bind hF1 q1 fun ds S2 vs A2 F2 H2 Ls2 hF2 e2 r2 q2 => ?_⟩
  exact q2 _ A2 F2 H2 Ls2 hF2.w .refl (.cons (r1.mono e2.pre e2.fr) r2)
theorem small_of {n : Nat} (h : n ≤ 1000) : n ≤ sizeLine := Nat.le_trans h (by rw [sizeLine_eq]; decide)
theorem lim_of {n : Nat} (h : n ≤ lim) : n ≤ sizeLine := Nat.le_trans h (by rw [sizeLine_eq]; decide)
theorem d_tup {es : List Expr} {xs : Exs} {k pos} (h : DA X G Φ W es xs) : DE X G Φ W (.Tuple es k pos) (.tup xs) := pe_imp (pe_tup h) fun σ H Q ⟨A, F, S, Ls, env, Le, hF, q⟩ => by
  rw [evalE] at q
  refine ⟨A, F, S, Ls, env, Le, hF, pg_fin.bind hF q fun ds S1 vs A1 F1 H1 Ls1 hF1 e1 r1 q1 => ?_⟩
  by_cases hl : ds.length ≤ 1000
  · rw [if_pos hl] at q1
    refine ⟨by rw [← r1.length]; exact small_of hl, fun p np => q1 _ A1 _ _ Ls1 (hF1.w.lay np) (.lay hF1.w np) ?_⟩
    exact .tup (.of upd_same) (r1.mono (List.prefix_refl _) (same_new (hF1.w.nf np)))
  · rw [if_neg hl] at q1
    exact q1.elim
end
end FT
namespace FT
open PySem PySem.Spec PyProof.Rows L2
/-! ### owned results -/
def moOf : D → Option MO
  | .lst ds => some (.lst ds)
  | .dic t ks vs => some (.dic t ks vs)
  | _ => none
def PO (K : PySem.W.Frag) (G : Glob) (W : WX) (σ : L2.St) (A : List Addr) (F H : Hp) (Ls : List Addr) (Q : VK) : Res D → Prop
  | .ok d S' => ∀ p m A' F' H' Ls', moOf d = some m → WR K G A' F' H' S' Ls' → Ext A F H Ls A' F' H' (p :: Ls') → p ∉ Ls' → F' p = none → MoR K G A' F' H' p m → Q (.ref p) H'
  | .ex c S' => ∀ A' F' H' Ls', WR K G A' F' H' S' Ls' → Ext A F H Ls A' F' H' Ls' → W (.ref (G.clA c)) none σ H'
  | .bad => False
def tO (K : PySem.W.Frag) (G : Glob) (W : WX) (f : Env → M D) : TE := fun σ H Q => ∃ A F S Ls env Le, Full K G A F H S Ls σ env Le ∧ PO K G W σ A F H Ls Q (f env S)
def OE (X : Cx) (G : Glob) (Φ : Fns) (W : WX) (e : Expr) (x : Ex) : Prop := PE X e (tO X.K G W (evalE Φ x))
section
variable {K : PySem.W.Frag} {G : Glob} {W : WX} {A A' : List Addr} {F F' H H' : Hp} {S S' : Sh} {Ls Ls' Le : List Addr} {σ : L2.St} {env : Env} {Q : VK} {p : Addr} {o : HO}
theorem po_fin : Fin K G W σ (fun A F H Ls r => PO K G W σ A F H Ls Q r) where
  later := fun {A F H Ls A' F' H' Ls' r} o e h => by
    cases r with
    | ok d S => exact fun p m A2 F2 H2 L2 hm w2 e2 => h p m A2 F2 H2 L2 hm w2 (e.trans o e2)
    | ex c S => exact fun A2 F2 H2 L2 w2 e2 => h A2 F2 H2 L2 w2 (e.trans o e2)
    | bad => exact h
  ex := fun h => h
  bad := fun h => h
/-- an owned thing changes -/
theorem WR.mut (w : WR K G A F H S Ls) (hp : p ∉ Ls) (hf : F p = none) : WR K G A F (upd H p o) S Ls := by
  refine ⟨fun b u e => ?_, w.st.at (List.prefix_refl _) (Same.refl _) fun a m u e => ?_, w.nd, w.out⟩
  · rw [upd_ne (fun z => by rw [z, hf] at e; cases e)]
    exact w.sub b u e
  · rw [upd_ne (fun z => hp (by rw [← z]; exact m))]
    exact e
theorem Ext.mut {O O' : List Addr} (e : Ext A F H O A' F' H' O') : Ext A F H (p :: O) A' F' (upd H' p o) (p :: O') := by
  refine ⟨e.pre, e.fr, fun a u q n => ?_, fun a z => ?_⟩
  · rw [upd_ne (fun z => n (by rw [z]; exact List.mem_cons_self))]
    exact e.keep a u q fun z => n (List.mem_cons_of_mem _ z)
  · by_cases q : a = p
    · exact .inr (.inl (by rw [q]; exact List.mem_cons_self))
    · have z' : F' a ≠ none ∨ a ∈ O' := z.elim .inl fun m => (List.mem_cons.mp m).elim (fun y => (q y).elim) .inr
      rcases e.new a z' with y | y | y
      · exact .inl y
      · exact .inr (.inl (List.mem_cons_of_mem _ y))
      · exact .inr (.inr y)
theorem Ext.mutSame {O O' : List Addr} (e : Ext A F H O A' F' H' O') (h : H p = some o) (h' : H' p = some o) : Ext A F H (p :: O) A' F' H' (p :: O') := by
  have q := e.mut (p := p) (o := o)
  have z : upd H' p o = H' := by
    funext b
    by_cases hb : b = p
    · rw [hb, upd_same, h']
    · rw [upd_ne hb]
  rw [z] at q
  exact q
/-- a new thing, owned -/
theorem WR.newOwn (w : WR K G A F H S Ls) (h : H p = none) : WR K G A F (upd H p o) S Ls := w.mut (w.fresh h) (w.nf h)
theorem Ext.newOwn (h : H p = none) : Ext A F H Ls A F (upd H p o) (p :: Ls) := by
  refine ⟨List.prefix_refl _, Same.refl _, fun a u q _ => by rw [upd_ne (ne_of_none q h)]; exact q, fun a z => ?_⟩
  rcases z with z | z
  · exact .inl z
  · rcases List.mem_cons.mp z with q | q
    · exact .inr (.inr (by rw [q]; exact h))
    · exact .inr (.inl q)
theorem upd_back {F : Hp} {a p : Addr} {o : HO} (h : upd F p o a ≠ none) : F a ≠ none ∨ a = p := by
  by_cases q : a = p
  · exact .inr q
  · rw [upd_ne q] at h; exact .inl h
/-- frozen -/
theorem WR.freeze (w : WR K G A F H S Ls) (hp : p ∉ Ls) (hH : H p = some o) : WR K G A (upd F p o) H S Ls := by
  refine ⟨fun b u e => ?_, ?_, w.nd, fun a m => ?_⟩
  · by_cases q : b = p
    · subst q
      rw [upd_same] at e
      rw [hH, e]
    · rw [upd_ne q] at e
      exact w.sub b u e
  · refine w.st.at (List.prefix_refl _) (fun b u e => ?_) fun a m u e => e
    by_cases q : b = p
    · subst q
      rw [upd_same]
      have := w.sub b u e
      rw [hH] at this
      exact this
    · rw [upd_ne q]
      exact e
  · rw [upd_ne (fun z => hp (by rw [← z]; exact m))]
    exact w.out a m
theorem same_frz (w : Same F H) (hH : H p = some o) : Same F (upd F p o) := fun b u e => by
  by_cases q : b = p
  · subst q
    rw [upd_same]
    have := w b u e
    rw [hH] at this
    exact this
  · rw [upd_ne q]
    exact e
theorem MoR.frz {m : MO} {d : D} (h : MoR K G A F H p m) (hm : moOf d = some m) : ∃ o, H p = some o ∧ ∀ F', Same F F' → F' p = some o → Rep K G A F' d (.ref p) := by
  cases h with
  | lst h1 h2 =>
    cases d with
    | lst ds =>
      cases hm
      exact ⟨_, h1, fun F' s e => .lst e (h2.mono (List.prefix_refl _) s)⟩
    | _ => cases hm
  | dicK h1 h2 h3 r =>
    cases d with
    | dic t ks vs =>
      cases hm
      exact ⟨_, h1, fun F' s e => .dicK e h2 h3 (r.mono (List.prefix_refl _) s)⟩
    | _ => cases hm
  | dicT h1 h2 h3 r1 h4 r2 =>
    cases d with
    | dic t ks vs =>
      cases hm
      exact ⟨_, h1, fun F' s e => .dicT e h2 h3 (r1.mono (List.prefix_refl _) s) h4 (r2.mono (List.prefix_refl _) s)⟩
    | _ => cases hm
end
section
variable {X : Cx} {G : Glob} {Φ : Fns} {W : WX}
theorem d_own {e : Expr} {x : Ex} (h : OE X G Φ W e x) : DE X G Φ W e x := pe_imp h fun σ H Q ⟨A, F, S, Ls, env, Le, hF, q⟩ => by
  refine ⟨A, F, S, Ls, env, Le, hF, ?_⟩
  cases r : evalE Φ x env S with
  | ok d S' =>
    rw [r] at q
    intro p m A' F' H' Ls' hm w e pn fn mr
    obtain ⟨o, ho, hr⟩ := mr.frz hm
    refine q _ A' (upd F' p o) H' Ls' (w.freeze pn ho) ⟨e.pre, e.fr.trans (same_frz w.sub ho), fun a u y n => e.keep a u y n, fun a z => ?_⟩ (hr _ (same_frz w.sub ho) upd_same)
    rcases z with z | z
    · rcases upd_back z with z | z
      · exact e.new a (.inl z)
      · exact e.new a (.inr (by rw [z]; exact List.mem_cons_self))
    · exact e.new a (.inr (List.mem_cons_of_mem _ z))
  | ex c S' => rw [r] at q; exact q
  | bad => rw [r] at q; exact q
theorem o_lst {es : List Expr} {xs : Exs} {pos} (h : DA X G Φ W es xs) : OE X G Φ W (.List es pos) (.lst xs) := pe_imp (pe_lst h) fun σ H Q ⟨A, F, S, Ls, env, Le, hF, q⟩ => by
  rw [evalE] at q
  refine ⟨A, F, S, Ls, env, Le, hF, po_fin.bind hF q fun ds S1 vs A1 F1 H1 Ls1 hF1 e1 r1 q1 => ?_⟩
  by_cases hl : ds.length ≤ 1000
  · rw [if_pos hl] at q1
    refine ⟨by rw [← r1.length]; exact small_of hl, fun p np => q1 p _ A1 F1 _ Ls1 rfl (hF1.w.newOwn np) (.newOwn np) (hF1.w.fresh np) (hF1.w.nf np) (.lst upd_same r1)⟩
  · rw [if_neg hl] at q1
    exact q1.elim
/-! ### slots -/
theorem EnvR.sub {K : PySem.W.Frag} {A : List Addr} {F H : Hp} : ∀ {σ : L2.St} {env : Env} {Le : List Addr} (i : Nat) {d : D} {v : V}, EnvR K G A F H σ env Le → Rep K G A F d v → ∃ Le', EnvR K G A F H (σ.set i (some v)) (env.set i (.dat d)) Le' ∧ Le'.Sublist Le
  | _, _, _, _, _, _, .nil, _ => ⟨[], .nil, List.Sublist.refl _⟩
  | _, _, _, 0, _, _, .no r, h => ⟨_, .dat h r, List.Sublist.refl _⟩
  | _, _, _, 0, _, _, .dat _ r, h => ⟨_, .dat h r, List.Sublist.refl _⟩
  | _, _, _, 0, _, _, .own _ r, h => ⟨_, .dat h r, List.sublist_cons_self _ _⟩
  | _, _, _, i + 1, _, _, .no r, h => let ⟨L, a, b⟩ := EnvR.sub i r h; ⟨L, .no a, b⟩
  | _, _, _, i + 1, _, _, .dat q r, h => let ⟨L, a, b⟩ := EnvR.sub i r h; ⟨L, .dat q a, b⟩
  | _, _, _, i + 1, _, _, .own q r, h => let ⟨L, a, b⟩ := EnvR.sub i r h; ⟨_ :: L, .own q a, b.cons_cons _⟩
theorem EnvR.subNo {K : PySem.W.Frag} {A : List Addr} {F H : Hp} : ∀ {σ : L2.St} {env : Env} {Le : List Addr} (i : Nat) {o : Option V}, EnvR K G A F H σ env Le → ∃ Le', EnvR K G A F H (σ.set i o) (env.set i .no) Le' ∧ Le'.Sublist Le
  | _, _, _, _, _, .nil => ⟨[], .nil, List.Sublist.refl _⟩
  | _, _, _, 0, _, .no r => ⟨_, .no r, List.Sublist.refl _⟩
  | _, _, _, 0, _, .dat _ r => ⟨_, .no r, List.Sublist.refl _⟩
  | _, _, _, 0, _, .own _ r => ⟨_, .no r, List.sublist_cons_self _ _⟩
  | _, _, _, i + 1, _, .no r => let ⟨L, a, b⟩ := EnvR.subNo i r; ⟨L, .no a, b⟩
  | _, _, _, i + 1, _, .dat q r => let ⟨L, a, b⟩ := EnvR.subNo i r; ⟨L, .dat q a, b⟩
  | _, _, _, i + 1, _, .own q r => let ⟨L, a, b⟩ := EnvR.subNo i r; ⟨_ :: L, .own q a, b.cons_cons _⟩
section
variable {K : PySem.W.Frag} {A A' : List Addr} {F F' H H' : Hp} {S S' : Sh} {Ls Ls' Le : List Addr} {σ : L2.St} {env : Env}
theorem Full.less {σ' : L2.St} {env' : Env} {Le' : List Addr} (h : Full K G A F H S Ls σ env Le) (e : EnvR K G A F H σ' env' Le') (s : Le'.Sublist Le) : Full K G A F H S Ls σ' env' Le' :=
  ⟨h.w, e, h.nd.sublist s, fun a m => h.dj a (s.subset m), fun a m => h.out a (s.subset m)⟩
theorem Full.put (h : Full K G A F H S Ls σ env Le) (i : Nat) {d : D} {v : V} (r : Rep K G A F d v) : ∃ Le', Full K G A F H S Ls (σ.set i (some v)) (env.set i (.dat d)) Le' ∧ Le'.Sublist Le :=
  let ⟨L, a, b⟩ := h.e.sub i r; ⟨L, h.less a b, b⟩
theorem Full.wipe (h : Full K G A F H S Ls σ env Le) : ∀ vs : List Nat, ∃ Le', Full K G A F H S Ls (L2.wipe σ vs) (wipeE env vs) Le' ∧ Le'.Sublist Le
  | [] => ⟨Le, h, List.Sublist.refl _⟩
  | v :: vs => by
    obtain ⟨L, h1, s1⟩ := h.wipe vs
    obtain ⟨L2, e2, s2⟩ := h1.e.subNo v (o := none)
    exact ⟨L2, h1.less e2 s2, s2.trans s1⟩
end
def tgIn (tg : Tg) (vs : List Nat) : Prop := match tg with | .nm i => i ∈ vs | .tp is => ∀ i ∈ is, i ∈ vs | .tl is => ∀ i ∈ is, i ∈ vs
/-- what a target does with data -/
def TgD (G : Glob) (K : PySem.W.Frag) (g : TG) (tg : Tg) : Prop := ∀ (A : List Addr) (F H : Hp) (S : Sh) (Ls : List Addr) (σ : L2.St) (env env' : Env) (Le : List Addr) (d : D) (v : V) (Q : L2.St → Hp → Prop), Full K G A F H S Ls σ env Le → Rep K G A F d v → assignT tg d env = some env' →
  (∀ σ' Le', Full K G A F H S Ls σ' env' Le' → Le'.Sublist Le → (∀ vs : List Nat, tgIn tg vs → L2.wipe σ' vs = L2.wipe σ vs) → Q σ' H) → g v σ H Q
theorem wipe_set {σ : L2.St} {i : Nat} {o : Option V} : ∀ {vs : List Nat}, i ∈ vs → L2.wipe (σ.set i o) vs = L2.wipe σ vs := by
  intro vs
  induction vs with
  | nil => intro h; cases h
  | cons v vs ih =>
    intro h
    have comm : ∀ us : List Nat, i ∉ us → L2.wipe (σ.set i o) us = (L2.wipe σ us).set i o := by
      intro us
      induction us with
      | nil => intro _; rfl
      | cons u us ihu =>
        intro hn
        have h1 : i ≠ u := fun e => hn (by rw [e]; exact List.mem_cons_self)
        have h2 : i ∉ us := fun e => hn (List.mem_cons_of_mem _ e)
        show (L2.wipe (σ.set i o) us).set u none = ((L2.wipe σ us).set u none).set i o
        rw [ihu h2, List.set_comm _ _ h1]
    show (L2.wipe (σ.set i o) vs).set v none = (L2.wipe σ vs).set v none
    by_cases hv : i ∈ vs
    · rw [ih hv]
    · have e : i = v := (List.mem_cons.mp h).resolve_right hv
      subst e
      rw [comm vs hv, List.set_set]
theorem tg_nm {K : PySem.W.Frag} {i : Nat} : TgD G K (gName i) (.nm i) := fun A F H S Ls σ env env' Le d v Q hF r ha k => by
  have ea : env.set i (.dat d) = env' := Option.some.inj ha
  subst ea
  obtain ⟨L, h1, s⟩ := hF.put i r
  exact k _ L h1 s fun vs hv => wipe_set hv
def gNames : List Nat → TGs
  | [] => gNil
  | i :: is => gCons (gName i) (gNames is)
theorem tg_names {K : PySem.W.Frag} {Q : L2.St → Hp → Prop} {A : List Addr} {F H : Hp} {S : Sh} {Ls : List Addr} : ∀ (is : List Nat) (ds : List D) (xs : List V) (σ : L2.St) (env env' : Env) (Le : List Addr), Full K G A F H S Ls σ env Le → RepL K G A F ds xs → setAll env is ds = some env' →
    (∀ σ' Le', Full K G A F H S Ls σ' env' Le' → Le'.Sublist Le → (∀ vs : List Nat, (∀ i ∈ is, i ∈ vs) → L2.wipe σ' vs = L2.wipe σ vs) → Q σ' H) → xs.length = is.length ∧ gNames is xs σ H Q
  | [], [], _, σ, env, env', Le, hF, r, ha, k => by
    cases r
    have e : env = env' := Option.some.inj ha
    subst e
    exact ⟨rfl, rfl, k σ Le hF (List.Sublist.refl _) fun vs _ => rfl⟩
  | i :: is, d :: ds, _, σ, env, env', Le, hF, r, ha, k => by
    cases r with
    | @cons _ _ v vs r1 r2 =>
      obtain ⟨L, h1, s⟩ := hF.put i r1
      obtain ⟨l1, g1⟩ := tg_names is ds vs (σ.set i (some v)) (env.set i (.dat d)) env' L h1 r2 ha fun σ' Le' f s' hw => k σ' Le' f (s'.trans s) fun us hu => by
        rw [hw us fun j hj => hu j (List.mem_cons_of_mem _ hj), wipe_set (hu i List.mem_cons_self)]
      exact ⟨by rw [List.length_cons, List.length_cons, l1], v, vs, rfl, g1⟩
  | [], _ :: _, _, _, _, _, _, _, _, ha, _ => nomatch ha
  | _ :: _, [], _, _, _, _, _, _, _, ha, _ => nomatch ha
theorem tg_tp {K : PySem.W.Frag} {is : List Nat} : TgD G K (gTup K is.length (gNames is)) (.tp is) := fun A F H S Ls σ env env' Le d v Q hF r ha k => by
  cases d with
  | tup ds =>
    cases r with
    | @tup _ a vs h1 h2 =>
      obtain ⟨l, g⟩ := tg_names (Q := Q) is ds vs σ env env' Le hF h2 ha k
      exact ⟨a, vs, rfl, SqT.mono hF.w.sub h1, l, g⟩
  | _ => cases ha
end
end FT
namespace FT
open PySem PySem.Spec PyProof.Rows L2
/-! ### what is walked -/
structure ItOk (K : PySem.W.Frag) (G : Glob) (J : It) (A : List Addr) (F : Hp) (ds : List D) : Prop where
  go : ∀ i d H, Same F H → ds[i]? = some d → J.go i H
  yld : ∀ i d x H H', Same F H → ds[i]? = some d → J.yld i H x H' → (H' = H ∧ Rep K G A F d x) ∨ ∃ T o, H T = none ∧ H' = upd H T o ∧ Rep K G A (upd F T o) d x
  stop : ∀ i H, Same F H → ds.length ≤ i → J.stop i H
abbrev RelI (K : PySem.W.Frag) (G : Glob) : List Addr → Hp → Hp → List Addr → List D → It → Prop := fun A F _ _ ds J => ItOk K G J A F ds
def tI (K : PySem.W.Frag) (G : Glob) (W : WX) (f : Env → M (List D)) : TI := fun σ H R => ∃ A F S Ls env Le, Full K G A F H S Ls σ env Le ∧ PG K G W (RelI K G) σ A F H Ls R (f env S)
def DI (X : Cx) (G : Glob) (Φ : Fns) (W : WX) (tg iter : Expr) (it : Itx) : Prop := PI X tg iter (tI X.K G W (evalI Φ it))
theorem pi_imp {X : Cx} {tg iter : Expr} {t t' : TI} (h : PI X tg iter t) (i : ∀ σ H Q, t' σ H Q → t σ H Q) : PI X tg iter t' := ⟨fun pins s σ H Q I q => h.run pins s σ H Q I (i σ H Q q)⟩
def DTs (X : Cx) (G : Glob) (Φ : Fns) (W : WX) (ifs : List Expr) (x : Ex) : Prop := PTs X ifs (tB X.K G W (evalE Φ x))
section
variable {X : Cx} {G : Glob} {Φ : Fns} {W : WX}
theorem ts_nil : DTs X G Φ W [] (.con (.bl true)) := ⟨fun pins s σ H Q I ⟨A, F, S, Ls, env, Le, hF, q⟩ => pts_nil.run pins s σ H Q I (by
  rw [evalE] at q
  exact q true A F H Ls hF.w .refl rfl)⟩
theorem ts_one {c : Expr} {x : Ex} (h : DT X G Φ W c x) : DTs X G Φ W [c] x := pts_one h
abbrev W0 : WX := fun _ _ _ _ => False
/-- the part of a turn that keeps or drops the item -/
def keepF (Φ : Fns) (env : Env) (vs : List Nat) (elt : Ex) (tg : Tg) (c : Ex) (d : D) : M (Option D) := fun S2 => match assignT tg d (wipeE env vs) with
  | some env' => (condB (evalE Φ c env' S2)).bind fun b => if b then (fun S3 => (evalE Φ elt env' S3).bind fun y => lift (some (some y))) else lift (some none)
  | none => .bad
theorem evalE_lc (vs : List Nat) (elt : Ex) (tg : Tg) (it : Itx) (c : Ex) (env : Env) (S : Sh) : evalE Φ (.lc vs elt tg it c) env S = (evalI Φ it env S).bind fun ds => (if ds.length ≤ lim then
      (fun S1 => (lcL (keepF Φ env vs elt tg c) ds S1).bind fun ys => lift (some (.lst ys)))
    else lift none) := by
  rw [evalE]
  rfl
theorem lcL_ok {f : D → M (Option D)} {d : D} {ds : List D} {S S' : Sh} {ys : List D} (h : lcL f (d :: ds) S = .ok ys S') : ∃ r S1 zs, f d S = .ok r S1 ∧ lcL f ds S1 = .ok zs S' ∧ ys = (match r with | some y => y :: zs | none => zs) := by
  unfold lcL at h
  cases e : f d S with
  | ok r S1 =>
    rw [e] at h
    dsimp only at h
    cases e2 : lcL f ds S1 with
    | ok zs S2 =>
      rw [e2] at h
      cases h
      exact ⟨r, S1, zs, rfl, e2, rfl⟩
    | ex c S2 => rw [e2] at h; cases h
    | bad => rw [e2] at h; cases h
  | ex c S1 => rw [e] at h; cases h
  | bad => rw [e] at h; cases h
theorem lcL_noex {f : D → M (Option D)} : ∀ (ds : List D) (S : Sh) (c : Nat) (S' : Sh), lcL f ds S ≠ .ex c S'
  | [], S, c, S', h => by cases h
  | d :: ds, S, c, S', h => by
    unfold lcL at h
    cases e : f d S with
    | ok r S1 =>
      rw [e] at h
      dsimp only at h
      cases e2 : lcL f ds S1 with
      | ok zs S2 => rw [e2] at h; cases h
      | ex c S2 => rw [e2] at h; cases h
      | bad => rw [e2] at h; cases h
    | ex c S1 => rw [e] at h; cases h
    | bad => rw [e] at h; cases h
theorem keepF_ok {env : Env} {vs : List Nat} {elt c : Ex} {tg : Tg} {d : D} {S S' : Sh} {r : Option D} (h : keepF Φ env vs elt tg c d S = .ok r S') :
    ∃ env' b S1, assignT tg d (wipeE env vs) = some env' ∧ evalE Φ c env' S = .ok (.bl b) S1 ∧ (if b = true then ∃ y, evalE Φ elt env' S1 = .ok y S' ∧ r = some y else S' = S1 ∧ r = none) := by
  unfold keepF at h
  cases e : assignT tg d (wipeE env vs) with
  | none => rw [e] at h; cases h
  | some env' =>
    rw [e] at h
    have h : ((condB (evalE Φ c env' S)).bind fun b => if b then (fun S3 => (evalE Φ elt env' S3).bind fun y => lift (some (some y))) else lift (some none)) = .ok r S' := h
    cases e2 : evalE Φ c env' S with
    | ok cv S1 =>
      rw [e2] at h
      cases cv with
      | bl b =>
        refine ⟨env', b, S1, rfl, e2, ?_⟩
        cases b with
        | true =>
          have h : ((evalE Φ elt env' S1).bind fun y => lift (some (some y))) = .ok r S' := h
          cases e3 : evalE Φ elt env' S1 with
          | ok y S2 => rw [e3] at h; cases h; exact ⟨y, rfl, rfl⟩
          | ex c S2 => rw [e3] at h; cases h
          | bad => rw [e3] at h; cases h
        | false => cases h; exact ⟨rfl, rfl⟩
      | _ => cases h
    | ex c S1 => rw [e2] at h; cases h
    | bad => rw [e2] at h; cases h
theorem o_lc_core {elt tg iter : Expr} {ifs : List Expr} {scope : Scope} {own : List (Str × Nat)} {pos : Pos} {g : TG} {x c : Ex} {it : Itx} {tgx : Tg}
    (hgd : TgD G X.K g tgx) (hin : tgIn tgx (own.map (·.2))) (σ : L2.St) (H : Hp) (Q : VK) (h : tO X.K G W (evalE Φ (.lc (own.map (·.2)) x tgx it c)) σ H Q) :
    tLc (tI X.K G W (evalI Φ it)) g (tB X.K G W0 (evalE Φ c)) (tD X.K G W0 (evalE Φ x)) (own.map (·.2)) σ H Q := by
  obtain ⟨A, F, S, Ls, env, Le, hF, q⟩ := h
  rw [evalE_lc] at q
  refine ⟨A, F, S, Ls, env, Le, hF, po_fin.bind hF q fun ds S1 J A1 F1 H1 Ls1 hF1 e1 hJ q1 => ?_⟩
  by_cases hl : ds.length ≤ lim
  · rw [if_pos hl] at q1
    cases hr : lcL (keepF Φ env (own.map (·.2)) x tgx c) ds S1 with
    | ex c S' => exact (lcL_noex _ _ _ _ hr).elim
    | bad => rw [hr] at q1; exact q1.elim
    | ok ys Sf =>
      rw [hr] at q1
      have q1 : PO X.K G W σ A1 F1 H1 Ls1 Q (.ok (.lst ys) Sf) := q1
      intro D0 hD0
      have hszl : (lim : Nat) < sizeLine := by rw [sizeLine_eq]; decide
      refine ⟨fun i m H => i + m = ds.length ∧ ∃ A2 F2 S2 Ls2 accD acc zs, WR X.K G A2 F2 H S2 Ls2 ∧ Ext A1 F1 H1 Ls1 A2 F2 H (D0 :: Ls2) ∧ D0 ∉ Ls2 ∧ F2 D0 = none ∧ D0 ∉ Le ∧ H D0 = some (.lst acc) ∧ RepL X.K G A2 F2 accD acc ∧ acc.length ≤ i ∧
        lcL (keepF Φ env (own.map (·.2)) x tgx c) (ds.drop i) S2 = .ok zs Sf ∧ ys = accD ++ zs, ⟨ds.length, by omega, A1, F1, S1, Ls1, [], [], ys, hF1.w.newOwn hD0, .newOwn hD0, hF1.w.fresh hD0, hF1.w.nf hD0, fun z => ?_, upd_same, .nil, Nat.le_refl _, hr, rfl⟩, ?_⟩
      · obtain ⟨o, e⟩ := hF1.e.there _ z
        rw [hD0] at e; cases e
      rintro i m H2 ⟨him, A2, F2, S2, Ls2, accD, acc, zs, w2, e2, nD, fD, lD, hD, ra, la, hz, hy⟩
      have out2 : ∀ a ∈ D0 :: Ls2, F2 a = none := fun a ha => by
        rcases List.mem_cons.mp ha with z | z
        · rw [z]; exact fD
        · exact w2.out a z
      have sF : Same F1 H2 := fun a o z => w2.sub a o (e2.fr a o z)
      cases hi : ds[i]? with
      | none =>
        have hle : ds.length ≤ i := List.getElem?_eq_none_iff.mp hi
        rw [List.drop_eq_nil_of_le hle] at hz
        cases hz
        rw [List.append_nil] at hy
        subst hy
        exact .inl ⟨hJ.stop i H2 sF hle, q1 D0 _ A2 F2 H2 Ls2 rfl w2 e2 nD fD (.lst hD ra)⟩
      | some d =>
        have hlt : i < ds.length := (List.getElem?_eq_some_iff.mp hi).1
        refine .inr ⟨hJ.go i d H2 sF hi, fun H' => ∃ m', m' < m ∧ (i + 1 + m' = ds.length ∧ ∃ A2 F2 S2 Ls2 accD acc zs, WR X.K G A2 F2 H' S2 Ls2 ∧ Ext A1 F1 H1 Ls1 A2 F2 H' (D0 :: Ls2) ∧ D0 ∉ Ls2 ∧ F2 D0 = none ∧ D0 ∉ Le ∧ H' D0 = some (.lst acc) ∧ RepL X.K G A2 F2 accD acc ∧ acc.length ≤ i + 1 ∧
          lcL (keepF Φ env (own.map (·.2)) x tgx c) (ds.drop (i + 1)) S2 = .ok zs Sf ∧ ys = accD ++ zs), fun H' z => z, fun xv H' yl => ?_⟩
        have ed : ds.drop i = d :: ds.drop (i + 1) := by
          rw [List.drop_eq_getElem_cons hlt]
          rw [List.getElem?_eq_getElem hlt] at hi
          rw [Option.some.inj hi]
        rw [ed] at hz
        obtain ⟨r, S3, zs', hk, hz', hys⟩ := lcL_ok hz
        obtain ⟨env', b, S4, has, hc, hb⟩ := keepF_ok hk
        -- behind the iterator's step
        obtain ⟨F3, w3, x3, fD3, r3, hH3, fr3, nF⟩ : ∃ F3, WR X.K G A2 F3 H' S2 Ls2 ∧ Ext A2 F2 H2 Ls2 A2 F3 H' Ls2 ∧ F3 D0 = none ∧ Rep X.K G A2 F3 d xv ∧ H' D0 = some (.lst acc) ∧ Same F2 F3 ∧ True := by
          rcases hJ.yld i d xv H2 H' sF hi yl with ⟨e, rr⟩ | ⟨T, o, hT, e, rr⟩
          · subst e
            exact ⟨F2, w2, .refl, fD, rr.mono (List.IsPrefix.trans e2.pre (List.prefix_refl _)) e2.fr, hD, Same.refl _, trivial⟩
          · subst e
            have nT : D0 ≠ T := ne_of_none hD hT
            exact ⟨upd F2 T o, w2.lay hT, .lay w2 hT, by rw [upd_ne nT]; exact fD, rr.mono e2.pre (same_up e2.fr), by rw [upd_ne nT]; exact hD, same_new (w2.nf hT), trivial⟩
        have hFw : Full X.K G A2 F3 H' S2 Ls2 σ env Le := (hF1.ext (A' := A2) (F' := F3) (H' := H') (S' := S2) (Ls' := Ls2) w3 (by
          refine ⟨e2.pre, e2.fr.trans fr3, fun a o z n => ?_, fun a z => ?_⟩
          · have aD : a ≠ D0 := ne_of_none z hD0
            have z2 := e2.keep a o z n
            refine x3.keep a o z2 fun m => ?_
            rcases e2.new a (.inr (List.mem_cons_of_mem _ m)) with y | y | y
            · cases y1 : F1 a with
              | none => exact y y1
              | some u =>
                have t := e2.fr a u y1
                rw [w2.out a m] at t
                cases t
            · exact n y
            · rw [z] at y; cases y
          · rcases x3.new a z with y | y | y
            · exact e2.new a (.inl y)
            · exact e2.new a (.inr (List.mem_cons_of_mem _ y))
            · cases h0 : H1 a with
              | none => exact .inr (.inr rfl)
              | some u =>
                by_cases hal : a ∈ Ls1
                · exact .inr (.inl hal)
                · have := e2.keep a u h0 hal
                  rw [y] at this; cases this))
        obtain ⟨L3, hFw', s3⟩ := hFw.wipe (own.map (·.2))
        refine hgd A2 F3 H' S2 Ls2 _ _ env' L3 d xv _ hFw' r3 has fun σ' L4 hF4 s4 hw => ?_
        refine ⟨?_, A2, F3, S2, Ls2, env', L4, hF4, ?_⟩
        · rw [hw (own.map (fun x : Str × Nat => x.2)) hin]
          have ww : ∀ (us ws : List Nat), (∀ u ∈ us, u ∈ ws) → L2.wipe (L2.wipe σ us) ws = L2.wipe σ ws := by
            intro us
            induction us with
            | nil => intro ws _; rfl
            | cons u us ih =>
              intro ws hs
              show L2.wipe ((L2.wipe σ us).set u none) ws = _
              rw [wipe_set (hs u List.mem_cons_self), ih ws fun v hv => hs v (List.mem_cons_of_mem _ hv)]
          exact ww _ _ fun _ h => h
        · rw [hc]
          intro b' A5 F5 H5 Ls5 w5 e5 hbb
          cases hbb
          have fD5 : F5 D0 = none := by
            cases z : F5 D0 with
            | none => rfl
            | some u =>
              rcases e5.new D0 (.inl (by rw [z]; simp)) with y | y | y
              · exact (y fD3).elim
              · exact (nD y).elim
              · rw [hH3] at y; cases y
          have nD5 : D0 ∉ Ls5 := fun m => by
            rcases e5.new D0 (.inr m) with y | y | y
            · exact (y fD3).elim
            · exact (nD y).elim
            · rw [hH3] at y; cases y
          have hD5 : H5 D0 = some (.lst acc) := e5.keep _ _ hH3 nD
          have x5 : Ext A1 F1 H1 Ls1 A5 F5 H5 (D0 :: Ls5) := e2.trans out2 ((x3.trans w3.out e5).mutSame hD hD5)
          cases b with
          | false =>
            rw [if_neg (by decide)] at hb ⊢
            obtain ⟨rfl, rfl⟩ := hb
            refine ⟨m - 1, by omega, by omega, A5, F5, _, Ls5, accD, acc, zs', w5, x5, nD5, fD5, lD, hD5, ra.mono e5.pre (fr3.trans e5.fr), by omega, hz', ?_⟩
            rw [hy, hys]
          | true =>
            rw [if_pos rfl] at hb ⊢
            obtain ⟨yd, hel, rfl⟩ := hb
            refine ⟨A5, F5, S4, Ls5, env', L4, hF4.ext w5 e5, ?_⟩
            rw [hel]
            intro yv A6 F6 H6 Ls6 w6 e6 r6
            have fD6 : F6 D0 = none := by
              cases z : F6 D0 with
              | none => rfl
              | some u =>
                rcases e6.new D0 (.inl (by rw [z]; simp)) with y | y | y
                · exact (y fD5).elim
                · exact (nD5 y).elim
                · rw [hD5] at y; cases y
            have nD6 : D0 ∉ Ls6 := fun m => by
              rcases e6.new D0 (.inr m) with y | y | y
              · exact (y fD5).elim
              · exact (nD5 y).elim
              · rw [hD5] at y; cases y
            have hD6 : H6 D0 = some (.lst acc) := e6.keep _ _ hD5 nD5
            have out5 : ∀ a ∈ D0 :: Ls5, F5 a = none := fun a ha => by
              rcases List.mem_cons.mp ha with z | z
              · rw [z]; exact fD5
              · exact w5.out a z
            refine ⟨acc, hD6, by omega, m - 1, by omega, by omega, A6, F6, _, Ls6, accD ++ [yd], acc ++ [yv], zs', w6.mut nD6 fD6, x5.trans out5 (e6.mut), nD6, fD6, lD, upd_same,
              (ra.mono (e5.pre.trans e6.pre) (fr3.trans (e5.fr.trans e6.fr))).append (.one r6), by rw [List.length_append]; simp; omega, hz', ?_⟩
            rw [hy, hys, List.append_assoc]
            rfl
  · rw [if_neg hl] at q1
    exact q1.elim
end
end FT
namespace FT
open PySem PySem.Spec PyProof.Rows L2
section
variable {X : Cx} {tg : Expr}
/-- a list, a tuple or a text that is walked -/
def iAny (K : PySem.W.Frag) (tl : TE) : TI := fun σ H R => tl σ H fun x H1 => (∃ a xs, x = .ref a ∧ SqL K H1 a xs ∧ R (Itl K a) H1) ∨ (∃ a xs, x = .ref a ∧ SqT K H1 a xs ∧ R (Itt K a) H1) ∨ ∃ z, x = .str z ∧ R (Its z) H1
theorem pi_any {l : Expr} {tl : TE} (hl : PE X l tl) : PI X tg l (iAny X.K tl) := by
  refine ⟨fun pins s σ H R I h => ?_⟩
  refine thn (hl.run pins s σ H _ I h) fun v s1 ⟨x, H1, I1, r1, q1⟩ => ?_
  rcases q1 with ⟨a, xs, e, hq, q⟩ | ⟨a, xs, e, hq, q⟩ | ⟨z, e, q⟩
  · subst e; cases r1
    obtain ⟨its, rv, p, hz⟩ := I1.list hq
    refine wpAny_pyIter_list p.isList ⟨_, [s1.heap.objs.size], _, _, H1, rfl, I1.kept (t' := s1.toks) fun b o e => Heap.get?_push_of_some _ e, turn_list a _, ⟨_, Heap.get?_push_size _ rfl, rfl, rfl⟩, fun b hb => ?_, q⟩
    obtain rfl : b = s1.heap.objs.size := by simpa using hb
    exact I1.fpOk (Nat.le_refl _) (I1.hok.fresh (Nat.le_refl _))
  · subst e; cases r1
    obtain ⟨its, rv, p, hz⟩ := I1.tuple hq
    refine wpAny_pyIter_tuple (show s1.heap.IsTuple a its.toArray from p) ⟨_, [s1.heap.objs.size], _, _, H1, rfl, I1.kept (t' := s1.toks) fun b o e => Heap.get?_push_of_some _ e, turn_tuple a _, ⟨_, Heap.get?_push_size _ rfl, rfl, rfl⟩, fun b hb => ?_, q⟩
    obtain rfl : b = s1.heap.objs.size := by simpa using hb
    exact I1.fpOk (Nat.le_refl _) (I1.hok.fresh (Nat.le_refl _))
  · subst e
    obtain ⟨t, rfl⟩ := r1
    cases ha : z.cps.all (· < 128)
    · exact wpAny_pyIter_wide ha (pi_one (tk := s1.toks) I1 _ (turn_str _ z t "str_iterator" (.inr rfl)) ⟨_, Heap.get?_push_size _ rfl, rfl, rfl⟩ q)
    · exact wpAny_pyIter_ascii ha (pi_one (tk := s1.toks) I1 _ (turn_str _ z t "str_ascii_iterator" (.inl rfl)) ⟨_, Heap.get?_push_size _ rfl, rfl, rfl⟩ q)
end
section
variable {K : PySem.W.Frag} {G : Glob} {A : List Addr} {F : Hp} {ds : List D} {vs : List V}
theorem it_list {a : Addr} (h : F a = some (.lst vs)) (r : RepL K G A F ds vs) : ItOk K G (Itl K a) A F ds where
  go := fun i d H s e => let ⟨v, e1, _⟩ := r.get e; ⟨vs, v, .of (s _ _ h), e1⟩
  yld := fun i d x H H' s e y => by
    obtain ⟨v, e1, rv⟩ := r.get e
    have := y.2 vs (.of (s _ _ h))
    rw [e1] at this
    cases this
    exact .inl ⟨y.1, rv⟩
  stop := fun i H s e => ⟨vs, .of (s _ _ h), by rw [← r.length]; exact e⟩
theorem it_scr {a : Addr} {ns : List Int} (h : SqL K F a (ns.map V.int)) : ItOk K G (Itl K a) A F (ns.map D.int) where
  go := fun i d H s e => by
    rw [List.getElem?_map] at e
    obtain ⟨n, e1, e2⟩ := Option.map_eq_some_iff.mp e
    exact ⟨_, .int n, s.seq h, by rw [List.getElem?_map, e1]; rfl⟩
  yld := fun i d x H H' s e y => by
    rw [List.getElem?_map] at e
    obtain ⟨n, e1, e2⟩ := Option.map_eq_some_iff.mp e
    have := y.2 _ (s.seq h)
    rw [List.getElem?_map, e1] at this
    cases this
    subst e2
    exact .inl ⟨y.1, .int n⟩
  stop := fun i H s e => ⟨_, s.seq h, by simpa using e⟩
theorem it_tup {a : Addr} (h : SqT K F a vs) (r : RepL K G A F ds vs) : ItOk K G (Itt K a) A F ds where
  go := fun i d H s e => let ⟨v, e1, _⟩ := r.get e; ⟨vs, v, SqT.mono s h, e1⟩
  yld := fun i d x H H' s e y => by
    obtain ⟨v, e1, rv⟩ := r.get e
    have := y.2 vs (SqT.mono s h)
    rw [e1] at this
    cases this
    exact .inl ⟨y.1, rv⟩
  stop := fun i H s e => ⟨vs, SqT.mono s h, by rw [← r.length]; exact e⟩
theorem it_str {s : List Nat} : ItOk K G (Its ⟨s.toArray⟩) A F (s.map fun c => D.str [c]) where
  go := fun i d H _ e => by
    have := (List.getElem?_eq_some_iff.mp e).1
    show i < s.toArray.size
    simpa using this
  yld := fun i d x H H' _ e y => by
    obtain ⟨y1, c, y2, y3⟩ := y
    rw [List.getElem?_map] at e
    obtain ⟨n, e1, e2⟩ := Option.map_eq_some_iff.mp e
    have y2 : s.toArray[i]? = some c := y2
    rw [List.getElem?_toArray, e1] at y2
    cases y2
    subst e2 y3
    exact .inl ⟨y1, .str _⟩
  stop := fun i H _ e => by
    show s.toArray.size ≤ i
    simpa using e
theorem it_rng {i : Int} {n : Nat} : ItOk K G (Itr i n) A F ((List.range n).map fun (k : Nat) => D.int (i + (k : Int))) where
  go := fun k d H _ e => by
    have := (List.getElem?_eq_some_iff.mp e).1
    show k < n
    simpa using this
  yld := fun k d x H H' _ e y => by
    obtain ⟨y1, y2⟩ := y
    rw [List.getElem?_map] at e
    obtain ⟨m, e1, e2⟩ := Option.map_eq_some_iff.mp e
    obtain ⟨hk, e3⟩ := List.getElem?_eq_some_iff.mp e1
    rw [List.getElem_range] at e3
    subst e3 e2 y2
    exact .inl ⟨y1, .int _⟩
  stop := fun k H _ e => by
    show n ≤ k
    simpa using e
theorem zipD_get : ∀ (as bs : List D) (i : Nat) (d : D), (zipD as bs)[i]? = some d → ∃ a b, as[i]? = some a ∧ bs[i]? = some b ∧ d = .tup [a, b]
  | [], _, i, d, h => by simp [zipD] at h
  | _ :: _, [], i, d, h => by simp [zipD] at h
  | a :: as, b :: bs, 0, d, h => by
    simp only [zipD, List.getElem?_cons_zero, Option.some.injEq] at h
    exact ⟨a, b, rfl, rfl, h.symm⟩
  | a :: as, b :: bs, i + 1, d, h => by
    simp only [zipD, List.getElem?_cons_succ] at h
    simpa using zipD_get as bs i d h
theorem zipD_len : ∀ (as bs : List D), (zipD as bs).length = min as.length bs.length
  | [], _ => by simp [zipD]
  | _ :: _, [] => by simp [zipD]
  | a :: as, b :: bs => by simp only [zipD, List.length_cons, zipD_len as bs]; omega
theorem it_pair {x y : V} {d e : D} {T : Addr} (hx : Rep K G A F d x) (hy : Rep K G A F e y) (hT : F T = none) : Rep K G A (upd F T (.tup [x, y])) (.tup [d, e]) (.ref T) :=
  .tup (.of upd_same) (.cons (hx.mono (List.prefix_refl _) (same_new hT)) (.cons (hy.mono (List.prefix_refl _) (same_new hT)) .nil))
theorem it_zipT {a b : Addr} {es : List D} {us : List V} (h : SqT K F a vs) (r : RepL K G A F ds vs) (h' : SqT K F b us) (r' : RepL K G A F es us) : ItOk K G (RZ.ItzT K a b) A F (zipD ds es) where
  go := fun i d H s e => by
    obtain ⟨x, y, e1, e2, rfl⟩ := zipD_get _ _ _ _ e
    obtain ⟨v, f1, _⟩ := r.get e1
    obtain ⟨u, f2, _⟩ := r'.get e2
    exact ⟨vs, us, v, u, SqT.mono s h, SqT.mono s h', f1, f2⟩
  yld := fun i d x H H' s e y => by
    obtain ⟨p, q, e1, e2, rfl⟩ := zipD_get _ _ _ _ e
    obtain ⟨v, f1, g1⟩ := r.get e1
    obtain ⟨u, f2, g2⟩ := r'.get e2
    obtain ⟨T, x', y', rfl, nT, rfl, k1, k2⟩ := y
    have k1 := k1 vs (SqT.mono s h)
    have k2 := k2 us (SqT.mono s h')
    rw [f1] at k1; cases k1
    rw [f2] at k2; cases k2
    exact .inr ⟨T, _, nT, rfl, it_pair g1 g2 (s.free nT)⟩
  stop := fun i H s e => ⟨vs, us, SqT.mono s h, SqT.mono s h', by
    rw [zipD_len] at e
    rw [← r.length, ← r'.length]
    omega⟩
theorem it_zipL {a b : Addr} {es : List D} {us : List V} (h : F a = some (.lst vs)) (r : RepL K G A F ds vs) (h' : F b = some (.lst us)) (r' : RepL K G A F es us) : ItOk K G (Itz K a b) A F (zipD ds es) where
  go := fun i d H s e => by
    obtain ⟨x, y, e1, e2, rfl⟩ := zipD_get _ _ _ _ e
    obtain ⟨v, f1, _⟩ := r.get e1
    obtain ⟨u, f2, _⟩ := r'.get e2
    exact ⟨vs, us, v, u, .of (s _ _ h), .of (s _ _ h'), f1, f2⟩
  yld := fun i d x H H' s e y => by
    obtain ⟨p, q, e1, e2, rfl⟩ := zipD_get _ _ _ _ e
    obtain ⟨v, f1, g1⟩ := r.get e1
    obtain ⟨u, f2, g2⟩ := r'.get e2
    obtain ⟨T, x', y', rfl, nT, rfl, k1, k2⟩ := y
    have k1 := k1 vs (.of (s _ _ h))
    have k2 := k2 us (.of (s _ _ h'))
    rw [f1] at k1; cases k1
    rw [f2] at k2; cases k2
    exact .inr ⟨T, _, nT, rfl, it_pair g1 g2 (s.free nT)⟩
  stop := fun i H s e => ⟨vs, us, .of (s _ _ h), .of (s _ _ h'), by
    rw [zipD_len] at e
    rw [← r.length, ← r'.length]
    omega⟩
end
section
variable {X : Cx} {G : Glob} {Φ : Fns} {W : WX} {tg : Expr}
theorem i_e {a : Expr} {x : Ex} (ha : DE X G Φ W a x) : DI X G Φ W tg a (.e x) := pi_imp (pi_any ha) fun σ H Q ⟨A, F, S, Ls, env, Le, hF, q⟩ => by
  rw [evalI] at q
  refine ⟨A, F, S, Ls, env, Le, hF, pg_fin.bind hF q fun d S1 v A1 F1 H1 Ls1 hF1 e1 r1 q1 => ?_⟩
  cases r1 with
  | lst h r => exact .inl ⟨_, _, rfl, .of (hF1.w.sub _ _ h), q1 _ A1 F1 H1 Ls1 hF1.w .refl (it_list h r)⟩
  | scr h => exact .inl ⟨_, _, rfl, hF1.w.sub.seq h, q1 _ A1 F1 H1 Ls1 hF1.w .refl (it_scr h)⟩
  | tup h r => exact .inr (.inl ⟨_, _, rfl, SqT.mono hF1.w.sub h, q1 _ A1 F1 H1 Ls1 hF1.w .refl (it_tup h r)⟩)
  | str s => exact .inr (.inr ⟨_, rfl, q1 _ A1 F1 H1 Ls1 hF1.w .refl it_str⟩)
  | _ => exact q1.elim
theorem rng_ok {i j : Int} {ds : List D} (h : rngD i j = some ds) : (-(2 ^ 62) ≤ i ∧ i < 2 ^ 62 ∧ -(2 ^ 62) ≤ j ∧ j < 2 ^ 62) ∧ ds = (List.range (j - i).toNat).map fun (k : Nat) => D.int (i + (k : Int)) := by
  unfold rngD at h
  split at h
  · cases h
    rename_i c
    exact ⟨by omega, rfl⟩
  · cases h
theorem i_rng1 {a : Expr} {x : Ex} {p pos : Pos} (hg : Gl X "range") (hm : X.mg "range" = none) (ha : DA X G Φ W [a] (.cons x .nil)) (hs : starEach [a] X.env = [(false, eval a X.env)] := by rfl) : DI X G Φ W tg (.Call (.Name "range" p) [a] [] pos) (.rng1 x) := pi_imp (pi_range1 hg hm ha hs) fun σ H Q ⟨A, F, S, Ls, env, Le, hF, q⟩ => by
  refine ⟨A, F, S, Ls, env, Le, hF, ?_⟩
  have e : evalI Φ (.rng1 x) env S = (evalL Φ (.cons x .nil) env S).bind fun ds => (match ds with
    | [.int j] => lift (rngD 0 j)
    | _ => lift none) := by
    rw [evalI, evalL]
    cases evalE Φ x env S with
    | ok d S1 =>
      simp only [Res.bind_ok]
      rw [evalL]
      cases d <;> rfl
    | ex c S1 => rfl
    | bad => rfl
  rw [e] at q
  refine pg_fin.bind hF q fun ds S1 vs A1 F1 H1 Ls1 hF1 e1 r1 q1 => ?_
  cases r1 with
  | nil => exact q1.elim
  | cons r r2 =>
    cases r2 with
    | nil =>
      cases r with
      | int j =>
        cases hr : rngD 0 j with
        | none => simp only [hr] at q1; exact q1.elim
        | some ds =>
          simp only [hr] at q1
          obtain ⟨⟨_, _, c1, c2⟩, rfl⟩ := rng_ok hr
          rw [Int.sub_zero] at q1
          exact ⟨j, rfl, c1, c2, q1 _ A1 F1 H1 Ls1 hF1.w .refl it_rng⟩
      | _ => exact q1.elim
    | cons _ _ => cases r <;> exact q1.elim
theorem i_rng2 {a b : Expr} {x y : Ex} {p pos : Pos} (hg : Gl X "range") (hm : X.mg "range" = none) (ha : DA X G Φ W [a, b] (.cons x (.cons y .nil))) (hs : starEach [a, b] X.env = [(false, eval a X.env), (false, eval b X.env)] := by rfl) (hs2 : starEach [b] X.env = [(false, eval b X.env)] := by rfl) :
    DI X G Φ W tg (.Call (.Name "range" p) [a, b] [] pos) (.rng2 x y) := pi_imp (pi_range2 hg hm ha hs hs2) fun σ H Q ⟨A, F, S, Ls, env, Le, hF, q⟩ => by
  refine ⟨A, F, S, Ls, env, Le, hF, ?_⟩
  have e : evalI Φ (.rng2 x y) env S = (evalL Φ (.cons x (.cons y .nil)) env S).bind fun ds => (match ds with
    | [.int i, .int j] => lift (rngD i j)
    | _ => lift none) := by
    rw [evalI, evalL]
    cases evalE Φ x env S with
    | ok d S1 =>
      simp only [Res.bind_ok]
      rw [evalL]
      cases evalE Φ y env S1 with
      | ok d2 S2 =>
        simp only [Res.bind_ok]
        rw [evalL]
        cases d <;> cases d2 <;> rfl
      | ex c S2 => rfl
      | bad => rfl
    | ex c S1 => rfl
    | bad => rfl
  rw [e] at q
  refine pg_fin.bind hF q fun ds S1 vs A1 F1 H1 Ls1 hF1 e1 r1 q1 => ?_
  match ds, vs, r1, q1 with
  | [.int i, .int j], _, .cons (.int _) (.cons (.int _) .nil), q1 =>
    cases hr : rngD i j with
    | none => simp only [hr] at q1; exact q1.elim
    | some ds =>
      simp only [hr] at q1
      obtain ⟨c, rfl⟩ := rng_ok hr
      exact ⟨i, j, rfl, c, q1 _ A1 F1 H1 Ls1 hF1.w .refl it_rng⟩
end
end FT
namespace FT
open PySem PySem.Spec PyProof.Rows L2
/-! ### defs -/
abbrev WF (E : XK) : WX := fun c d _ H => E c d H
/-- a def that computes f -/
def spF (K : PySem.W.Frag) (G : Glob) (f : List D → M D) : Sp := fun vs H Q E => ∃ A F S Ls ds, WR K G A F H S Ls ∧ RepL K G A F ds vs ∧ PG K G (WF E) (RelD K G) [] A F H Ls Q (f ds S)
structure FnAt (P : Program) (w : World) (K : PySem.W.Frag) (mg : Str → Option Value) (base : Heap) (G : Glob) (Φ : Fns) (n : Nat) (f : Nat) (x : Str) : Prop where
  ex : ∃ fd ps, Binds K fd ps [] ∧ FnOk P w K mg base (L2.CX P w) n (G.fnA f) fd ps (spF K G (Φ f))
  kp : PySem.W.keepIn K (.ref (G.fnA f)) = true
  mg : mg x = some (.ref (G.fnA f))
section
variable {X : Cx} {G : Glob} {Φ : Fns} {W : WX}
theorem pg_wish {K : PySem.W.Frag} {W W' : WX} {σ σ' : L2.St} {A : List Addr} {F H : Hp} {Ls : List Addr} {Q : VK} {r : Res D} (i : ∀ c d H, W c d σ H → W' c d σ' H) (h : PG K G W (RelD K G) σ A F H Ls Q r) : PG K G W' (RelD K G) σ' A F H Ls Q r := by
  cases r with
  | ok d S => exact h
  | ex c S => exact fun A2 F2 H2 L2 w2 e2 => i _ _ _ (h A2 F2 H2 L2 w2 e2)
  | bad => exact h
theorem d_call {f n : Nat} {x : Str} {p pos : Pos} {e : Expr} {es : List Expr} {xs : Exs} (c : FnAt X.prog X.w X.K X.mg X.base G Φ n f x) (hr : Room n X.A) (tk : Takes X W) (hg : Gl X x) (ha : DA X G Φ W (e :: es) xs)
    (hdb : (x == ("__debug__" : Str)) = false := by decide) (he : starEach (e :: es) X.env = (false, eval e X.env) :: starEach es X.env := by rfl) (hpl : (backTo pos (starEach es X.env)).any (·.1) = false := by rfl) :
    DE X G Φ W (.Call (.Name x p) (e :: es) [] pos) (.call f xs) := by
  obtain ⟨fd, ps, hb, F⟩ := c.ex
  refine pe_imp (pe_callS F hr hg c.mg c.kp hb (fun σ => passAt tk σ) ha hdb he hpl) fun σ H Q ⟨A, F, S, Ls, env, Le, hF, q⟩ => ?_
  rw [evalE] at q
  refine ⟨A, F, S, Ls, env, Le, hF, pg_fin.bind hF q fun ds S1 vs A1 F1 H1 Ls1 hF1 e1 r1 q1 => ?_⟩
  exact ⟨A1, F1, S1, Ls1, ds, hF1.w, r1, pg_wish (fun _ _ _ h => h) q1⟩
theorem d_biB {b : Bi} {x : Str} {id : String} {p pos : Pos} {e : Expr} {es : List Expr} {xs : Exs} {r : List V → Hp → VK → Prop} (hc : CallR X (.builtin id) r) (hd : CallD G X.K r (biD b)) (hg : Gl X x) (hm : X.mg x = none) (hv : bootBuiltins x = some (.builtin id)) (ha : DA X G Φ W (e :: es) xs) (hn : x ≠ "__name__" := by decide) (hdb : (x == ("__debug__" : Str)) = false := by decide)
    (he : starEach (e :: es) X.env = (false, eval e X.env) :: starEach es X.env := by rfl) (hpl : (backTo pos (starEach es X.env)).any (·.1) = false := by rfl) : DE X G Φ W (.Call (.Name x p) (e :: es) [] pos) (.bi b xs) := by
  refine pe_imp (pe_callB hc hg hm hv ha hn hdb he hpl) fun σ H Q ⟨A, F, S, Ls, env, Le, hF, q⟩ => ?_
  rw [evalE] at q
  refine ⟨A, F, S, Ls, env, Le, hF, pg_fin.bind hF q fun ds S1 vs A1 F1 H1 Ls1 hF1 e1 r1 q1 => ?_⟩
  cases h : biD b ds with
  | none => rw [h] at q1; exact q1.elim
  | some z =>
    rw [h] at q1
    exact hd A1 F1 H1 S1 Ls1 ds z vs Q hF1.w r1 h fun v3 F3 H3 w3 e3 r3 => q1 v3 A1 F3 H3 Ls1 w3 e3 r3
theorem d_biT {b : Bi} {x : Str} {T : String} {p pos : Pos} {e : Expr} {es : List Expr} {xs : Exs} {r : List V → Hp → VK → Prop} (hc : CallR X (.type T) r) (hd : CallD G X.K r (biD b)) (hg : Gl X x) (hm : X.mg x = none) (hv : bootBuiltins x = some (.type T)) (ha : DA X G Φ W (e :: es) xs) (hn : x ≠ "__name__" := by decide) (hdb : (x == ("__debug__" : Str)) = false := by decide)
    (he : starEach (e :: es) X.env = (false, eval e X.env) :: starEach es X.env := by rfl) (hpl : (backTo pos (starEach es X.env)).any (·.1) = false := by rfl) : DE X G Φ W (.Call (.Name x p) (e :: es) [] pos) (.bi b xs) := by
  refine pe_imp (pe_callTy hc hg hm hv ha hn hdb he hpl) fun σ H Q ⟨A, F, S, Ls, env, Le, hF, q⟩ => ?_
  rw [evalE] at q
  refine ⟨A, F, S, Ls, env, Le, hF, pg_fin.bind hF q fun ds S1 vs A1 F1 H1 Ls1 hF1 e1 r1 q1 => ?_⟩
  cases h : biD b ds with
  | none => rw [h] at q1; exact q1.elim
  | some z =>
    rw [h] at q1
    exact hd A1 F1 H1 S1 Ls1 ds z vs Q hF1.w r1 h fun v3 F3 H3 w3 e3 r3 => q1 v3 A1 F3 H3 Ls1 w3 e3 r3
end
/-! ### statements -/
inductive ORes where
  | nx (env : Env) (S : Sh)
  | rt (d : D) (S : Sh)
  | ex (c : Nat) (env : Env) (S : Sh)
  | bad
@[inline] def Res.onto {α : Type} (env : Env) (r : Res α) (k : α → Sh → ORes) : ORes := match r with
  | .ok a S => k a S
  | .ex c S => .ex c env S
  | .bad => .bad
@[simp] theorem Res.onto_ok {α : Type} (env : Env) (a : α) (S : Sh) (k : α → Sh → ORes) : (Res.ok a S).onto env k = k a S := Eq.trans rfl rfl
@[simp] theorem Res.onto_ex {α : Type} (env : Env) (c : Nat) (S : Sh) (k : α → Sh → ORes) : (Res.ex c S : Res α).onto env k = .ex c env S := Eq.trans rfl rfl
@[simp] theorem Res.onto_bad {α : Type} (env : Env) (k : α → Sh → ORes) : (Res.bad : Res α).onto env k = .bad := Eq.trans rfl rfl
mutual
inductive St where
  | asg (tg : Tg) (e : Ex)
  | own (i : Nat) (e : Ex)
  | app (i : Nat) (e : Ex)
  | ext (i : Nat) (e : Ex)
  | seth (a k e : Ex)
  | fz (i : Nat)
  | expr (e : Ex)
  | ite (c : Ex) (a b : Sts)
  | «for» (tg : Tg) (it : Itx) (body : Sts)
  | «while» (c : Ex) (body : Sts)
  | ret (e : Ex)
  | raise (c : Nat)
  | tryx (body : Sts) (cs ns : List Nat) (i : Nat) (suite : Sts)
  | bapp (b e : Ex)
  | hset (p : Pl) (k e : Ex)
  | hsetL (p : Pl) (k e : Ex)
  | popS (i : Nat) (tg : Tg)
  | fset (o : Ex) (c k : Nat) (e : Ex)
  | fset2 (o : Ex) (c k k2 : Nat) (e : Ex)
  | mv (i j : Nat)
inductive Sts where
  | nil
  | cons (s : St) (ss : Sts)
end
def forL (f : D → Env → Sh → ORes) : List D → Env → Sh → ORes
  | [], env, S => .nx env S
  | d :: ds, env, S => match f d env S with
    | .nx env' S' => forL f ds env' S'
    | r => r
def whileF (c : Env → M D) (f : Env → Sh → ORes) : Nat → Env → Sh → ORes
  | 0, _, _ => .bad
  | n + 1, env, S => match c env S with
    | .ok (.bl true) S' => (match f env S' with
      | .nx env' S2 => whileF c f n env' S2
      | r => r)
    | .ok (.bl false) S' => .nx env S'
    | .ex c S' => .ex c env S'
    | _ => .bad
def boxSet : Sh → D → D → D → Option Sh
  | S, .ref n, .int i, d => (match S[n]? with
    | some (.box (.lst ds)) => (match ixN ds.length i with
      | some j => some (S.set n (.box (.lst (ds.set j d))))
      | none => none)
    | _ => none)
  | _, _, _, _ => none
def frzM : MO → D
  | .lst ds => .lst ds
  | .dic t ks vs => .dic t ks vs
theorem mo_frz (m : MO) : moOf (frzM m) = some m := by cases m <;> rfl
/-- a thing is written where it is held -/
def putH (env : Env) (S : Sh) (h : Hd) (m : MO) : Env × Sh := match h with
  | .sl i => (env.set i (.own m), S)
  | .bx n => (env, S.set n (.box m))
def isLstM : Option MO → Bool
  | some (.lst _) => true
  | _ => false
def appM : MO → D → Option MO
  | .lst ds, d => if ds.length < lim then some (.lst (ds ++ [d])) else none
  | _, _ => none
/-- a field is stored: one that is there, or the next one -/
def fsetD (S : Sh) (c k : Nat) (d : D) : D → Option Sh
  | .ref n => (match S[n]? with
    | some (.ins c' fs) => if c' = c then (if k < fs.length then some (S.set n (.ins c (fs.set k (.dat d)))) else if k = fs.length then some (S.set n (.ins c (fs ++ [.dat d]))) else none) else none
    | _ => none)
  | _ => none
mutual
def exec (Φ : Fns) (N : Nat) : St → Env → Sh → ORes
  | .asg tg e, env, S => (evalE Φ e env S).onto env fun d S' => match assignT tg d env with
    | some env' => .nx env' S'
    | none => .bad
  | .own i e, env, S => (evalE Φ e env S).onto env fun d S' => match moOf d with
    | some m => .nx (env.set i (.own m)) S'
    | none => .bad
  | .app i e, env, S => match env[i]? with
    | some (.own (.lst ds)) => (evalE Φ e env S).onto env fun d S' => if ds.length < lim then .nx (env.set i (.own (.lst (ds ++ [d])))) S' else .bad
    | _ => .bad
  | .ext i e, env, S => match env[i]? with
    | some (.own (.lst ds)) => (evalE Φ e env S).onto env fun d S' => match d with
      | .lst es => if ds.length + es.length ≤ lim then .nx (env.set i (.own (.lst (ds ++ es)))) S' else .bad
      | _ => .bad
    | _ => .bad
  | .seth a k e, env, S => (evalE Φ e env S).onto env fun d S1 => (evalE Φ a env S1).onto env fun o S2 => (evalE Φ k env S2).onto env fun i S3 => match boxSet S3 o i d with
    | some S4 => .nx env S4
    | none => .bad
  | .fz i, env, S => match env[i]? with
    | some (.own m) => .nx (env.set i (.dat (frzM m))) S
    | _ => .bad
  | .expr e, env, S => (evalE Φ e env S).onto env fun _ S' => .nx env S'
  | .ite c a b, env, S => (evalE Φ c env S).onto env fun d S' => match d with
    | .bl true => execs Φ N a env S'
    | .bl false => execs Φ N b env S'
    | _ => .bad
  | .for tg it body, env, S => (evalI Φ it env S).onto env fun ds S' => forL (fun d env S => match assignT tg d env with
    | some env' => execs Φ N body env' S
    | none => .bad) ds env S'
  | .while c body, env, S => whileF (evalE Φ c) (execs Φ N body) N env S
  | .ret e, env, S => (evalE Φ e env S).onto env fun d S' => .rt d S'
  | .raise c, env, S => .ex c env S
  | .tryx body cs ns i suite, env, S => match execs Φ N body env S with
    | .ex k env' S' => if cs.contains k then (match execs Φ N suite (env'.set i (.dat (.exc k))) S' with
        | .nx env2 S2 => .nx (env2.set i .no) S2
        | .rt d S2 => .rt d S2
        | _ => .bad) else if ns.contains k then .ex k env' S' else .bad
    | r => r
  | .bapp b e, env, S => (evalE Φ b env S).onto env fun o S1 => match refD o with
    | some n => if isLstM (look env S1 (.bx n)) then ((evalE Φ e env S1).onto env fun d S2 => match (look env S2 (.bx n)).bind fun m => appM m d with
      | some m => .nx env (S2.set n (.box m))
      | none => .bad) else .bad
    | none => .bad
  | .hset p k e, env, S => (evalE Φ e env S).onto env fun d S1 => (evalH Φ p env S1).onto env fun h S2 => (evalE Φ k env S2).onto env fun kd S3 => match (look env S3 h).bind fun m => setM m kd d with
    | some m => .nx (putH env S3 h m).1 (putH env S3 h m).2
    | none => .bad
  | .hsetL p k e, env, S => (evalE Φ e env S).onto env fun d S1 => (evalH Φ p env S1).onto env fun h S2 => (evalE Φ k env S2).onto env fun kd S3 => match (look env S3 h).bind fun m => setL m kd d with
    | some m => .nx (putH env S3 h m).1 (putH env S3 h m).2
    | none => .bad
  | .popS i tg, env, S => match env[i]? with
    | some (.own m) => (match popM m with
      | some (d, m') => (match assignT tg d (env.set i (.own m')) with
        | some env' => .nx env' S
        | none => .bad)
      | none => .bad)
    | _ => .bad
  | .fset o c k e, env, S => (evalE Φ e env S).onto env fun d S1 => (evalE Φ o env S1).onto env fun r S2 => match fsetD S2 c k d r with
    | some S3 => .nx env S3
    | none => .bad
  | .fset2 o c k k2 e, env, S => (evalE Φ e env S).onto env fun d S1 => match d with
    | .tup [d1, d2] => (evalE Φ o env S1).onto env fun r S2 => (match fsetD S2 c k d1 r with
      | some S3 => (evalE Φ o env S3).onto env fun r2 S4 => (match fsetD S4 c k2 d2 r2 with
        | some S5 => .nx env S5
        | none => .bad)
      | none => .bad)
    | _ => .bad
  | .mv i j, env, S => match env[j]? with
    | some (.own m) => .nx ((env.set j .no).set i (.own m)) S
    | _ => .bad
def execs (Φ : Fns) (N : Nat) : Sts → Env → Sh → ORes
  | .nil, env, S => .nx env S
  | .cons s ss, env, S => match exec Φ N s env S with
    | .nx env' S' => execs Φ N ss env' S'
    | r => r
end
def PP (K : PySem.W.Frag) (G : Glob) (W : WX) (D : Ends) (A : List Addr) (F H : Hp) (O : List Addr) : ORes → Prop
  | .nx env' S' => ∀ σ' A' F' H' Ls' Le', Full K G A' F' H' S' Ls' σ' env' Le' → Ext A F H O A' F' H' (Ls' ++ Le') → D.nx σ' H'
  | .rt d S' => ∀ v A' F' H' Ls', WR K G A' F' H' S' Ls' → Ext A F H O A' F' H' Ls' → Rep K G A' F' d v → D.rt v H'
  | .ex c env' S' => ∀ σ' A' F' H' Ls' Le', Full K G A' F' H' S' Ls' σ' env' Le' → Ext A F H O A' F' H' (Ls' ++ Le') → W (.ref (G.clA c)) none σ' H'
  | .bad => False
def tS (K : PySem.W.Frag) (G : Glob) (W : WX) (f : Env → Sh → ORes) : TS := fun D σ H => ∃ A F S Ls env Le, Full K G A F H S Ls σ env Le ∧ PP K G W D A F H (Ls ++ Le) (f env S)
section
variable (X : Cx) (G : Glob) (Φ : Fns) (N : Nat) (W : WX)
def DS (st : Stmt) (s : St) : Prop := PS X st (tS X.K G W (exec Φ N s))
def DSs (st : List Stmt) (s : Sts) : Prop := PSs X st (tS X.K G W (execs Φ N s))
end
section
variable {K : PySem.W.Frag} {G : Glob} {W : WX} {Dn : Ends} {A A' : List Addr} {F F' H H' : Hp} {S S' : Sh} {Ls Ls' Le Le' O O' : List Addr} {σ : L2.St} {env : Env}
theorem PP.later {r : ORes} (o : ∀ a ∈ O', F' a = none) (e : Ext A F H O A' F' H' O') (h : PP K G W Dn A F H O r) : PP K G W Dn A' F' H' O' r := by
  cases r with
  | nx env S => exact fun σ2 A2 F2 H2 L2 L3 f2 e2 => h σ2 A2 F2 H2 L2 L3 f2 (e.trans o e2)
  | rt d S => exact fun v A2 F2 H2 L2 w2 e2 => h v A2 F2 H2 L2 w2 (e.trans o e2)
  | ex c env S => exact fun σ2 A2 F2 H2 L2 L3 f2 e2 => h σ2 A2 F2 H2 L2 L3 f2 (e.trans o e2)
  | bad => exact h
theorem Full.outs (h : Full K G A F H S Ls σ env Le) : ∀ a ∈ Ls ++ Le, F a = none := fun a m => (List.mem_append.mp m).elim (h.w.out a) (h.out a)
theorem Ext.more (e : Ext A F H Ls A' F' H' Ls') : Ext A F H (Ls ++ Le) A' F' H' (Ls' ++ Le) := by
  refine ⟨e.pre, e.fr, fun a o q n => e.keep a o q fun m => n (List.mem_append_left _ m), fun a z => ?_⟩
  by_cases ha : a ∈ Le
  · exact .inr (.inl (List.mem_append_right _ ha))
  · have z' : F' a ≠ none ∨ a ∈ Ls' := z.elim .inl fun m => (List.mem_append.mp m).elim .inr fun y => (ha y).elim
    rcases e.new a z' with y | y | y
    · exact .inl y
    · exact .inr (.inl (List.mem_append_left _ y))
    · exact .inr (.inr y)
theorem Ext.sub {O2 : List Addr} (e : Ext A F H O A' F' H' O') (s : ∀ a ∈ O2, a ∈ O') : Ext A F H O A' F' H' O2 :=
  ⟨e.pre, e.fr, e.keep, fun a z => e.new a (z.elim .inl fun m => .inr (s a m))⟩
theorem Ext.same {O2 : List Addr} (s : ∀ a ∈ O2, a ∈ O) : Ext A F H O A F H O2 := Ext.refl.sub s
/-- an expression, then the rest of a statement -/
theorem onto_bind {α β : Type} {R : List Addr → Hp → Hp → List Addr → α → β → Prop} {Q1 : β → Hp → Prop} (hF : Full K G A F H S Ls σ env Le) {r : Res α} {k : α → Sh → ORes} (h : PP K G W Dn A F H (Ls ++ Le) (r.onto env k))
    (q : ∀ d S1 v A1 F1 H1 Ls1, Full K G A1 F1 H1 S1 Ls1 σ env Le → Ext A F H Ls A1 F1 H1 Ls1 → R A1 F1 H1 Ls1 d v → PP K G W Dn A1 F1 H1 (Ls1 ++ Le) (k d S1) → Q1 v H1) : PG K G W R σ A F H Ls Q1 r := by
  cases r with
  | ok d S1 =>
    intro v A1 F1 H1 Ls1 w1 e1 r1
    have hF1 := hF.ext w1 e1
    exact q d S1 v A1 F1 H1 Ls1 hF1 e1 r1 (PP.later hF1.outs e1.more h)
  | ex c S1 => exact fun A1 F1 H1 Ls1 w1 e1 => h σ A1 F1 H1 Ls1 Le (hF.ext w1 e1) e1.more
  | bad => exact h
theorem onto_bindO {Q1 : VK} (hF : Full K G A F H S Ls σ env Le) {r : Res D} {k : D → Sh → ORes} (h : PP K G W Dn A F H (Ls ++ Le) (r.onto env k))
    (q : ∀ d S1 p m A1 F1 H1 Ls1, moOf d = some m → Full K G A1 F1 H1 S1 Ls1 σ env Le → p ∉ Ls1 → p ∉ Le → F1 p = none → MoR K G A1 F1 H1 p m → PP K G W Dn A1 F1 H1 (p :: (Ls1 ++ Le)) (k d S1) → Q1 (.ref p) H1) : PO K G W σ A F H Ls Q1 r := by
  cases r with
  | ok d S1 =>
    intro p m A1 F1 H1 Ls1 hm w1 e1 np fp mr
    have e2 : Ext A F H Ls A1 F1 H1 Ls1 := e1.sub fun a => List.mem_cons_of_mem _
    have hF1 := hF.ext w1 e2
    have nl : p ∉ Le := fun z => by
      rcases e1.new p (.inr List.mem_cons_self) with y | y | y
      · exact y (hF.out p z)
      · exact hF.dj p z y
      · obtain ⟨o, q⟩ := hF.e.there p z
        rw [q] at y; cases y
    refine q d S1 p m A1 F1 H1 Ls1 hm hF1 np nl fp mr (PP.later (fun a ha => ?_) ((Ext.more (Le := Le) e1).sub fun a ha => ha) h)
    rcases List.mem_cons.mp ha with z | z
    · rw [z]; exact fp
    · exact hF1.outs a z
  | ex c S1 => exact fun A1 F1 H1 Ls1 w1 e1 => h σ A1 F1 H1 Ls1 Le (hF.ext w1 e1) e1.more
  | bad => exact h
end
section
variable {X : Cx} {G : Glob} {Φ : Fns} {N : Nat} {W : WX}
theorem s_nil : DSs X G Φ N W [] .nil := pss_imp pss_nil fun σ H D ⟨A, F, S, Ls, env, Le, hF, q⟩ => by
  rw [execs] at q
  exact q σ A F H Ls Le hF .refl
theorem s_cons {st : Stmt} {rest : List Stmt} {s : St} {ss : Sts} (h1 : DS X G Φ N W st s) (h2 : DSs X G Φ N W rest ss) : DSs X G Φ N W (st :: rest) (.cons s ss) := pss_imp (pss_cons h1 h2) fun σ H D ⟨A, F, S, Ls, env, Le, hF, q⟩ => by
  rw [execs] at q
  refine ⟨A, F, S, Ls, env, Le, hF, ?_⟩
  cases e : exec Φ N s env S with
  | nx env' S' =>
    rw [e] at q
    intro σ' A' F' H' Ls' Le' hF' e'
    exact ⟨A', F', S', Ls', env', Le', hF', PP.later hF'.outs e' q⟩
  | rt d S' => rw [e] at q; exact q
  | ex c env' S' => rw [e] at q; exact q
  | bad => rw [e] at q; exact q
theorem s_asg {st : Stmt} {e : Ex} {tg : Tg} {g : TG} (h : PS X st (tAsg (tD X.K G W (evalE Φ e)) g)) (hg : TgD G X.K g tg) : DS X G Φ N W st (.asg tg e) := ps_imp h fun σ H D ⟨A, F, S, Ls, env, Le, hF, q⟩ => by
  rw [exec] at q
  refine ⟨A, F, S, Ls, env, Le, hF, onto_bind hF q fun d S1 v A1 F1 H1 Ls1 hF1 e1 r1 q1 => ?_⟩
  cases ha : assignT tg d env with
  | none => rw [ha] at q1; exact q1.elim
  | some env' =>
    rw [ha] at q1
    refine hg A1 F1 H1 S1 Ls1 σ env env' Le d v D.nx hF1 r1 ha fun σ' Le' f s _ => q1 σ' A1 F1 H1 Ls1 Le' f (.same fun a m => ?_)
    exact (List.mem_append.mp m).elim (List.mem_append_left _) fun z => List.mem_append_right _ (s.subset z)
theorem EnvR.putOwn {K : PySem.W.Frag} {A : List Addr} {F H : Hp} : ∀ {σ : L2.St} {env : Env} {Le : List Addr} (i : Nat) {p : Addr} {m : MO}, EnvR K G A F H σ env Le → MoR K G A F H p m → p ∉ Le → Le.Nodup →
    ∃ Le', EnvR K G A F H (σ.set i (some (.ref p))) (env.set i (.own m)) Le' ∧ (∀ a ∈ Le', a = p ∨ a ∈ Le) ∧ Le'.Nodup
  | _, _, _, _, _, _, .nil, _, _, _ => ⟨[], .nil, (fun _ h => by cases h), List.nodup_nil⟩
  | _, _, _, 0, _, _, .no r, h, np, nd => ⟨_, .own h r, fun a m => by simpa using m, List.nodup_cons.mpr ⟨np, nd⟩⟩
  | _, _, _, 0, _, _, .dat _ r, h, np, nd => ⟨_, .own h r, fun a m => by simpa using m, List.nodup_cons.mpr ⟨np, nd⟩⟩
  | _, _, _, 0, _, _, .own _ r, h, np, nd => ⟨_, .own h r, fun a m => (List.mem_cons.mp m).elim .inl fun z => .inr (List.mem_cons_of_mem _ z), List.nodup_cons.mpr ⟨fun z => np (List.mem_cons_of_mem _ z), (List.nodup_cons.mp nd).2⟩⟩
  | _, _, _, i + 1, _, _, .no r, h, np, nd => let ⟨L, a, b, c⟩ := EnvR.putOwn i r h np nd; ⟨L, .no a, b, c⟩
  | _, _, _, i + 1, _, _, .dat q r, h, np, nd => let ⟨L, a, b, c⟩ := EnvR.putOwn i r h np nd; ⟨L, .dat q a, b, c⟩
  | _, _, _, i + 1, p, _, .own (p := p') q r, h, np, nd => by
    obtain ⟨L, a, b, c⟩ := EnvR.putOwn i r h (fun z => np (List.mem_cons_of_mem _ z)) (List.nodup_cons.mp nd).2
    refine ⟨p' :: L, .own q a, fun x m => ?_, List.nodup_cons.mpr ⟨fun z => ?_, c⟩⟩
    · rcases List.mem_cons.mp m with e | e
      · exact .inr (by rw [e]; exact List.mem_cons_self)
      · exact (b x e).elim .inl fun z => .inr (List.mem_cons_of_mem _ z)
    · rcases b p' z with e | e
      · exact np (by rw [← e]; exact List.mem_cons_self)
      · exact (List.nodup_cons.mp nd).1 e
theorem s_own {st : Stmt} {e : Ex} {i : Nat} (h : PS X st (tAsg (tO X.K G W (evalE Φ e)) (gName i))) : DS X G Φ N W st (.own i e) := ps_imp h fun σ H D ⟨A, F, S, Ls, env, Le, hF, q⟩ => by
  rw [exec] at q
  refine ⟨A, F, S, Ls, env, Le, hF, onto_bindO hF q fun d S1 p m A1 F1 H1 Ls1 hm hF1 np nl fp mr q1 => ?_⟩
  rw [hm] at q1
  obtain ⟨L, e2, b, c⟩ := hF1.e.putOwn i mr nl hF1.nd
  refine q1 _ A1 F1 H1 Ls1 L ⟨hF1.w, e2, c, fun a ha => ?_, fun a ha => ?_⟩ (.same fun a ha => ?_)
  · rcases b a ha with z | z
    · rw [z]; exact np
    · exact hF1.dj a z
  · rcases b a ha with z | z
    · rw [z]; exact fp
    · exact hF1.out a z
  · rcases List.mem_append.mp ha with z | z
    · exact List.mem_cons_of_mem _ (List.mem_append_left _ z)
    · rcases b a z with y | y
      · rw [y]; exact List.mem_cons_self
      · exact List.mem_cons_of_mem _ (List.mem_append_right _ y)
theorem s_expr {st : Stmt} {e : Ex} (h : PS X st (tDrop (tD X.K G W (evalE Φ e)))) : DS X G Φ N W st (.expr e) := ps_imp h fun σ H D ⟨A, F, S, Ls, env, Le, hF, q⟩ => by
  rw [exec] at q
  exact ⟨A, F, S, Ls, env, Le, hF, onto_bind hF q fun d S1 v A1 F1 H1 Ls1 hF1 e1 r1 q1 => q1 σ A1 F1 H1 Ls1 Le hF1 .refl⟩
theorem s_ret {e : Expr} {x : Ex} {pos : Pos} (h : DE X G Φ W e x) : DS X G Φ N W (.Return (some e) pos) (.ret x) := ps_imp (ps_ret h) fun σ H D ⟨A, F, S, Ls, env, Le, hF, q⟩ => by
  rw [exec] at q
  refine ⟨A, F, S, Ls, env, Le, hF, onto_bind hF q fun d S1 v A1 F1 H1 Ls1 hF1 e1 r1 q1 => q1 v A1 F1 H1 Ls1 hF1.w (.same fun a => List.mem_append_left _) r1⟩
theorem cond_onto (env : Env) (r : Res D) (a b : Sh → ORes) : (r.onto env fun d S' => (match d with
    | .bl true => a S'
    | .bl false => b S'
    | _ => .bad)) = (condB r).onto env fun k S' => if k then a S' else b S' := by
  cases r with
  | ok d S =>
    cases d with
    | bl k => cases k <;> rfl
    | _ => rfl
  | ex c S => rfl
  | bad => rfl
theorem s_ite {c : Expr} {a b : List Stmt} {pos : Pos} {xc : Ex} {sa sb : Sts} (hc : DT X G Φ W c xc) (ha : DSs X G Φ N W a sa) (hb : DSs X G Φ N W b sb) : DS X G Φ N W (.If c a b pos) (.ite xc sa sb) := ps_imp (ps_if hc ha hb) fun σ H D ⟨A, F, S, Ls, env, Le, hF, q⟩ => by
  rw [exec] at q
  have q : PP X.K G W D A F H (Ls ++ Le) ((condB (evalE Φ xc env S)).onto env fun k S' => if k then execs Φ N sa env S' else execs Φ N sb env S') := by
    rw [← cond_onto]
    exact q
  refine ⟨A, F, S, Ls, env, Le, hF, onto_bind hF q fun d S1 v A1 F1 H1 Ls1 hF1 e1 r1 q1 => ?_⟩
  subst r1
  cases d with
  | true => exact ⟨A1, F1, S1, Ls1, env, Le, hF1, q1⟩
  | false => exact ⟨A1, F1, S1, Ls1, env, Le, hF1, q1⟩
end
end FT
namespace FT
open PySem PySem.Spec PyProof.Rows L2
section
variable {K : PySem.W.Frag} {G : Glob} {W : WX} {A A' : List Addr} {F F' H H' : Hp} {S S' : Sh} {Ls Ls' Le Le' O O' : List Addr} {σ : L2.St} {env : Env} {p : Addr} {o : HO}
theorem EnvR.own_get : ∀ {σ : L2.St} {env : Env} {Le : List Addr} {i : Nat} {m : MO}, EnvR K G A F H σ env Le → env[i]? = some (.own m) → ∃ p, σ[i]? = some (some (.ref p)) ∧ MoR K G A F H p m ∧ p ∈ Le
  | _, _, _, _, _, .nil, e => by simp at e
  | _, _, _, 0, _, .no _, e => by simp at e
  | _, _, _, 0, _, .dat _ _, e => by simp at e
  | _, _, _, 0, _, .own h _, e => by simp at e; subst e; exact ⟨_, rfl, h, List.mem_cons_self⟩
  | _, _, _, i + 1, m, .no r, e => by simpa using EnvR.own_get (i := i) (m := m) r (by simpa using e)
  | _, _, _, i + 1, m, .dat _ r, e => by simpa using EnvR.own_get (i := i) (m := m) r (by simpa using e)
  | _, _, _, i + 1, m, .own _ r, e => by
    obtain ⟨p, h1, h2, h3⟩ := EnvR.own_get (i := i) (m := m) r (by simpa using e)
    exact ⟨p, by simpa using h1, h2, List.mem_cons_of_mem _ h3⟩
/-- a slot's own thing changes -/
theorem EnvR.turn : ∀ {σ : L2.St} {env : Env} {Le : List Addr} {i : Nat} {m m' : MO}, EnvR K G A F H σ env Le → Le.Nodup → env[i]? = some (.own m) → σ[i]? = some (some (.ref p)) → MoR K G A F (upd H p o) p m' → EnvR K G A F (upd H p o) σ (env.set i (.own m')) Le
  | _, _, _, _, _, _, .nil, _, e, _, _ => by simp at e
  | _, _, _, 0, _, _, .no _, _, e, _, _ => by simp at e
  | _, _, _, 0, _, _, .dat _ _, _, e, _, _ => by simp at e
  | _, _, _, 0, _, _, .own h r, nd, e, s, k => by
    simp at s
    subst s
    refine .own k (r.at (List.prefix_refl _) (Same.refl _) fun a ha u q => ?_)
    rw [upd_ne (fun z => (List.nodup_cons.mp nd).1 (by rw [← z]; exact ha))]
    exact q
  | _, _, _, i + 1, m, m', .no r, nd, e, s, k => .no (EnvR.turn (i := i) (m := m) r nd (by simpa using e) (by simpa using s) k)
  | _, _, _, i + 1, m, m', .dat q r, nd, e, s, k => .dat q (EnvR.turn (i := i) (m := m) r nd (by simpa using e) (by simpa using s) k)
  | _, _, _, i + 1, m, m', .own (p := p') q r, nd, e, s, k => by
    obtain ⟨p2, h1, h2, h3⟩ := EnvR.own_get (i := i) (m := m) r (by simpa using e)
    have ep : p2 = p := by
      have s' := s
      rw [List.getElem?_cons_succ, h1] at s'
      injection s' with s'
      injection s' with s'
      injection s' with s'
    rw [ep] at h3
    refine .own (q.at (List.prefix_refl _) (Same.refl _) fun u z => ?_) (EnvR.turn (i := i) (m := m) r (List.nodup_cons.mp nd).2 (by simpa using e) (by simpa using s) k)
    rw [upd_ne (fun y => (List.nodup_cons.mp nd).1 (by rw [y]; exact h3))]
    exact z
theorem Full.turn {i : Nat} {m m' : MO} (h : Full K G A F H S Ls σ env Le) (e : env[i]? = some (.own m)) (s : σ[i]? = some (some (.ref p))) (k : MoR K G A F (upd H p o) p m') : Full K G A F (upd H p o) S Ls σ (env.set i (.own m')) Le := by
  obtain ⟨p2, h1, h2, h3⟩ := h.e.own_get e
  have ep : p2 = p := by
    rw [h1] at s
    injection s with s
    injection s with s
    injection s with s
  subst ep
  exact ⟨h.w.mut (h.dj _ h3) (h.out _ h3), h.e.turn h.nd e s k, h.nd, h.dj, h.out⟩
theorem Ext.touch (hp : p ∈ O) : Ext A F H O A F (upd H p o) O := by
  refine ⟨List.prefix_refl _, Same.refl _, fun a u q n => ?_, fun a z => z.elim .inl fun y => .inr (.inl y)⟩
  rw [upd_ne (fun z => n (by rw [z]; exact hp))]
  exact q
theorem EnvR.freeze : ∀ {σ : L2.St} {env : Env} {Le : List Addr} {i : Nat} {m : MO} {d : D}, EnvR K G A F H σ env Le → Le.Nodup → env[i]? = some (.own m) → σ[i]? = some (some (.ref p)) → moOf d = some m → H p = some o → Same F H → ∃ Le', EnvR K G A (upd F p o) H σ (env.set i (.dat d)) Le' ∧ Le'.Sublist Le ∧ p ∉ Le' ∧ p ∈ Le
  | _, _, _, _, _, _, .nil, _, e, _, _, _, _ => by simp at e
  | _, _, _, 0, _, _, .no _, _, e, _, _, _, _ => by simp at e
  | _, _, _, 0, _, _, .dat _ _, _, e, _, _, _, _ => by simp at e
  | _, _, _, 0, _, _, .own h r, nd, e, s, hm, hH, sm => by
    simp at s e
    subst s
    subst e
    obtain ⟨o', h1, h2⟩ := h.frz hm
    rw [hH] at h1
    cases h1
    exact ⟨_, .dat (h2 _ (same_frz sm hH) upd_same) (r.at (List.prefix_refl _) (same_frz sm hH) fun a _ u q => q), List.sublist_cons_self _ _, (List.nodup_cons.mp nd).1, List.mem_cons_self⟩
  | _, _, _, i + 1, m, d, .no r, nd, e, s, hm, hH, sm => by
    obtain ⟨L, a, b, c, c'⟩ := EnvR.freeze (i := i) (m := m) (d := d) r nd (by simpa using e) (by simpa using s) hm hH sm
    exact ⟨L, .no a, b, c, c'⟩
  | _, _, _, i + 1, m, d, .dat q r, nd, e, s, hm, hH, sm => by
    obtain ⟨L, a, b, c, c'⟩ := EnvR.freeze (i := i) (m := m) (d := d) r nd (by simpa using e) (by simpa using s) hm hH sm
    exact ⟨L, .dat (q.mono (List.prefix_refl _) (same_frz sm hH)) a, b, c, c'⟩
  | _, _, _, i + 1, m, d, .own (p := p') q r, nd, e, s, hm, hH, sm => by
    obtain ⟨L, a, b, c, c'⟩ := EnvR.freeze (i := i) (m := m) (d := d) r (List.nodup_cons.mp nd).2 (by simpa using e) (by simpa using s) hm hH sm
    refine ⟨p' :: L, .own (q.at (List.prefix_refl _) (same_frz sm hH) fun u z => z) a, b.cons_cons _, fun z => ?_, List.mem_cons_of_mem _ c'⟩
    rcases List.mem_cons.mp z with z | z
    · exact (List.nodup_cons.mp nd).1 (by rw [← z]; exact c')
    · exact c z
end
section
variable {X : Cx} {G : Glob} {Φ : Fns} {N : Nat} {W : WX}
/-- no Python stands for it: an own thing becomes data -/
theorem s_fz {i : Nat} {rest : List Stmt} {ss : Sts} (h : DSs X G Φ N W rest ss) : DSs X G Φ N W rest (.cons (.fz i) ss) := pss_imp h fun σ H D ⟨A, F, S, Ls, env, Le, hF, q⟩ => by
  rw [execs, exec] at q
  cases e : env[i]? with
  | none => rw [e] at q; exact q.elim
  | some sv =>
    rw [e] at q
    cases sv with
    | no => exact q.elim
    | dat d => exact q.elim
    | own m =>
      obtain ⟨p, h1, h2, h3⟩ := hF.e.own_get e
      obtain ⟨o, ho⟩ := h2.there
      obtain ⟨L, e1, s1, n1, _⟩ := hF.e.freeze (d := frzM m) hF.nd e h1 (mo_frz m) ho hF.w.sub
      refine ⟨A, upd F p o, S, Ls, _, L, ⟨hF.w.freeze (hF.dj p h3) ho, e1, hF.nd.sublist s1, fun a m => hF.dj a (s1.subset m), fun a m => ?_⟩, PP.later (fun a m => ?_) ⟨List.prefix_refl _, same_frz hF.w.sub ho, fun a u z _ => z, fun a z => ?_⟩ q⟩
      · rw [upd_ne (fun z => n1 (by rw [← z]; exact m))]
        exact hF.out a (s1.subset m)
      · rcases List.mem_append.mp m with z | z
        · rw [upd_ne (fun y => hF.dj p h3 (by rw [← y]; exact z))]
          exact hF.w.out a z
        · rw [upd_ne (fun y => n1 (by rw [← y]; exact z))]
          exact hF.out a (s1.subset z)
      · rcases z with z | z
        · rcases upd_back z with y | y
          · exact .inl y
          · exact .inr (.inl (by rw [y]; exact List.mem_append_right _ h3))
        · rcases List.mem_append.mp z with y | y
          · exact .inr (.inl (List.mem_append_left _ y))
          · exact .inr (.inl (List.mem_append_right _ (s1.subset y)))
theorem s_app {i : Nat} {st : Stmt} {x : Ex} (h : PS X st (tDrop (tBM X.K "list" rAppend (tVar i) (tCons (tD X.K G W (evalE Φ x)) tNil)))) : DS X G Φ N W st (.app i x) := ps_imp h fun σ H D ⟨A, F, S, Ls, env, Le, hF, q⟩ => by
  rw [exec] at q
  cases e : env[i]? with
  | none => rw [e] at q; exact q.elim
  | some sv =>
    rw [e] at q
    cases sv with
    | no => exact q.elim
    | dat d => exact q.elim
    | own m =>
      cases m with
      | dic _ _ => exact q.elim
      | lst ds =>
        obtain ⟨p, h1, h2, h3⟩ := hF.e.own_get e
        cases h2 with
        | @lst _ vs hp hr =>
          refine ⟨_, h1, .inl ⟨rfl, _, .inl (.inl hp)⟩, A, F, S, Ls, env, Le, hF, onto_bind hF q fun d S1 v A1 F1 H1 Ls1 hF1 e1 r1 q1 => ?_⟩
          by_cases hl : ds.length < lim
          · rw [if_pos hl] at q1
            have hp1 : H1 p = some (.lst vs) := e1.keep _ _ hp (hF.dj p h3)
            have hr1 := hr.mono e1.pre e1.fr
            refine ⟨p, vs, v, rfl, rfl, hp1, by rw [← hr.length]; exact Nat.lt_of_lt_of_le hl (lim_of (Nat.le_refl _)), ?_⟩
            exact q1 σ A1 F1 _ Ls1 Le (hF1.turn e h1 (.lst upd_same (hr1.append (.one r1)))) (.touch (List.mem_append_right _ h3))
          · rw [if_neg hl] at q1
            exact q1.elim
theorem s_ext {i : Nat} {st : Stmt} {x : Ex} (h : PS X st (tDrop (tBM X.K "list" rExtend (tVar i) (tCons (tD X.K G W (evalE Φ x)) tNil)))) : DS X G Φ N W st (.ext i x) := ps_imp h fun σ H D ⟨A, F, S, Ls, env, Le, hF, q⟩ => by
  rw [exec] at q
  cases e : env[i]? with
  | none => rw [e] at q; exact q.elim
  | some sv =>
    rw [e] at q
    cases sv with
    | no => exact q.elim
    | dat d => exact q.elim
    | own m =>
      cases m with
      | dic _ _ => exact q.elim
      | lst ds =>
        obtain ⟨p, h1, h2, h3⟩ := hF.e.own_get e
        cases h2 with
        | @lst _ vs hp hr =>
          refine ⟨_, h1, .inl ⟨rfl, _, .inl (.inl hp)⟩, A, F, S, Ls, env, Le, hF, onto_bind hF q fun d S1 v A1 F1 H1 Ls1 hF1 e1 r1 q1 => ?_⟩
          cases r1 with
          | @lst es b us hb hu =>
            have q1 : PP X.K G W D A1 F1 H1 (Ls1 ++ Le) (if ds.length + es.length ≤ lim then .nx (env.set i (.own (.lst (ds ++ es)))) S1 else .bad) := q1
            by_cases hl : ds.length + es.length ≤ lim
            · rw [if_pos hl] at q1
              have hp1 : H1 p = some (.lst vs) := e1.keep _ _ hp (hF.dj p h3)
              have hr1 := hr.mono e1.pre e1.fr
              refine ⟨p, b, vs, us, rfl, rfl, hp1, hF1.w.sub _ _ hb, by rw [← hr.length, ← hu.length]; exact lim_of hl, ?_⟩
              exact q1 σ A1 F1 _ Ls1 Le (hF1.turn e h1 (.lst upd_same (hr1.append hu))) (.touch (List.mem_append_right _ h3))
            · rw [if_neg hl] at q1
              exact q1.elim
          | _ => exact q1.elim
/-! ### a box changes -/
theorem SsR.set {K : PySem.W.Frag} {A : List Addr} {F H : Hp} {o : HO} {m : MO} : ∀ {as : List Addr} {S : Sh} {Ls : List Addr} {n : Nat} {p : Addr}, SsR K G A F H as S Ls → Ls.Nodup → as[n]? = some p → (∃ m0, S[n]? = some (.box m0)) → MoR K G A F (upd H p o) p m → SsR K G A F (upd H p o) as (S.set n (.box m)) Ls ∧ p ∈ Ls
  | _, _, _, n, _, .nil, _, e, _, _ => by simp at e
  | _, _, _, 0, p, .cons (L := L) r rs, nd, e, ⟨m0, e2⟩, k => by
    simp at e e2
    subst e e2
    cases r with
    | box mr =>
      refine ⟨.cons (.box k) (rs.at (List.prefix_refl _) (Same.refl _) fun a ha u q => ?_), List.mem_append_left _ List.mem_cons_self⟩
      have := (List.nodup_append.mp nd).2.2
      rw [upd_ne (fun z => (List.nodup_cons.mp (show (_ :: _).Nodup from nd)).1 (by rw [← z]; exact ha))]
      exact q
  | _, _, _, n + 1, p, .cons (L := L) r rs, nd, e, e2, k => by
    obtain ⟨h1, h2⟩ := SsR.set (n := n) (p := p) rs (List.nodup_append.mp nd).2.1 (by simpa using e) (by simpa using e2) k
    refine ⟨.cons (r.at (List.prefix_refl _) (Same.refl _) fun b hb u q => ?_) h1, List.mem_append_right _ h2⟩
    rw [upd_ne (fun z => (List.nodup_append.mp nd).2.2 b hb p h2 z)]
    exact q
theorem SsR.box_get {K : PySem.W.Frag} {A : List Addr} {F H : Hp} {m : MO} : ∀ {as : List Addr} {S : Sh} {Ls : List Addr} {n : Nat} {p : Addr}, SsR K G A F H as S Ls → as[n]? = some p → S[n]? = some (.box m) → MoR K G A F H p m
  | _, _, _, n, _, .nil, e, _ => by simp at e
  | _, _, _, 0, p, .cons r rs, e, e2 => by
    simp at e e2
    subst e e2
    cases r with
    | box mr => exact mr
  | _, _, _, n + 1, p, .cons r rs, e, e2 => SsR.box_get (n := n) rs (by simpa using e) (by simpa using e2)
theorem s_seth {st : Stmt} {a k e : Ex} (h : PS X st (tAsg (tD X.K G W (evalE Φ e)) (gSub (tD X.K G W (evalE Φ a)) (tD X.K G W (evalE Φ k)) rSetL))) : DS X G Φ N W st (.seth a k e) := ps_imp h fun σ H D ⟨A, F, S, Ls, env, Le, hF, q⟩ => by
  rw [exec] at q
  refine ⟨A, F, S, Ls, env, Le, hF, onto_bind hF q fun d S1 v A1 F1 H1 Ls1 hF1 e1 r1 q1 => ?_⟩
  refine ⟨A1, F1, S1, Ls1, env, Le, hF1, onto_bind hF1 q1 fun od S2 ov A2 F2 H2 Ls2 hF2 e2 r2 q2 => ?_⟩
  refine ⟨A2, F2, S2, Ls2, env, Le, hF2, onto_bind hF2 q2 fun i S3 iv A3 F3 H3 Ls3 hF3 e3 r3 q3 => ?_⟩
  cases hb : boxSet S3 od i d with
  | none => rw [hb] at q3; exact q3.elim
  | some S4 =>
    rw [hb] at q3
    have q3 : PP X.K G W D A3 F3 H3 (Ls3 ++ Le) (.nx env S4) := q3
    have r2 := r2.mono e3.pre e3.fr
    cases r2 with
    | @ref n p ep =>
      cases r3 with
      | int i =>
        have hb : (match S3[n]? with
          | some (.box (.lst ds)) => (match ixN ds.length i with
            | some j => some (S3.set n (.box (.lst (ds.set j d))))
            | none => none)
          | _ => none) = some S4 := hb
        cases hS : S3[n]? with
        | none => rw [hS] at hb; cases hb
        | some ro =>
          rw [hS] at hb
          cases ro with
          | ins _ _ => cases hb
          | tab _ => cases hb
          | gone => cases hb
          | box m =>
            cases m with
            | dic _ _ => cases hb
            | lst ds =>
              have hb : (match ixN ds.length i with
                | some j => some (S3.set n (.box (.lst (ds.set j d))))
                | none => none) = some S4 := hb
              cases hj : ixN ds.length i with
              | none => rw [hj] at hb; cases hb
              | some j =>
                rw [hj] at hb
                cases hb
                have mr := hF3.w.st.box_get ep hS
                cases mr with
                | @lst _ vs hp hr =>
                  have hl := hr.length
                  obtain ⟨h1, h2⟩ := hF3.w.st.set (o := .lst (vs.set j v)) (m := .lst (ds.set j d)) hF3.w.nd ep ⟨_, hS⟩ (.lst upd_same (hr.set j ((r1.mono e2.pre e2.fr).mono e3.pre e3.fr)))
                  have fp : F3 p = none := hF3.w.out p h2
                  have nle : p ∉ Le := fun z => hF3.dj p z h2
                  refine ⟨p, vs, i, j, rfl, rfl, hp, by rw [← hl]; exact hj, ?_⟩
                  refine q3 σ A3 F3 _ Ls3 Le ⟨⟨fun b u z => ?_, h1, hF3.w.nd, hF3.w.out⟩, hF3.e.at (List.prefix_refl _) (Same.refl _) fun b hb u z => ?_, hF3.nd, hF3.dj, hF3.out⟩ (.touch (List.mem_append_left _ h2))
                  · rw [upd_ne (fun y => by rw [y, fp] at z; cases z)]
                    exact hF3.w.sub b u z
                  · rw [upd_ne (fun y => nle (by rw [← y]; exact hb))]
                    exact z
      | _ => cases hb
    | _ => cases hb
/-! ### loops -/
theorem forL_cons (f : D → Env → Sh → ORes) (d : D) (ds : List D) (env : Env) (S : Sh) : forL f (d :: ds) env S = match f d env S with
    | .nx env' S' => forL f ds env' S'
    | r => r := rfl
theorem s_for {st : Stmt} {g : TG} {tg : Tg} {it : Itx} {sb : Sts} (h : PS X st (tFor (tI X.K G W (evalI Φ it)) g (tS X.K G W (execs Φ N sb)))) (hg : TgD G X.K g tg) : DS X G Φ N W st (.for tg it sb) := ps_imp h fun σ H D ⟨A, F, S, Ls, env, Le, hF, q⟩ => by
  rw [exec] at q
  refine ⟨A, F, S, Ls, env, Le, hF, onto_bind hF q fun ds S1 J A1 F1 H1 Ls1 hF1 e1 hJ q1 => ?_⟩
  generalize hf : (fun d env S => match assignT tg d env with
    | some env' => execs Φ N sb env' S
    | none => .bad) = f at q1
  have hfd : ∀ d env S, f d env S = match assignT tg d env with
    | some env' => execs Φ N sb env' S
    | none => .bad := fun d env S => by rw [← hf]
  refine ⟨fun i m σ H => i + m = ds.length ∧ ∃ A2 F2 S2 Ls2 env2 Le2, Full X.K G A2 F2 H S2 Ls2 σ env2 Le2 ∧ A1 <+: A2 ∧ Same F1 F2 ∧ PP X.K G W D A2 F2 H (Ls2 ++ Le2) (forL f (ds.drop i) env2 S2), ⟨ds.length, by omega, A1, F1, S1, Ls1, env, Le, hF1, List.prefix_refl _, Same.refl _, q1⟩, ?_⟩
  rintro i m σ2 H2 ⟨him, A2, F2, S2, Ls2, env2, Le2, hF2, pA, sF, q2⟩
  have sH : Same F1 H2 := fun a o z => hF2.w.sub a o (sF a o z)
  cases hi : ds[i]? with
  | none =>
    have hle : ds.length ≤ i := List.getElem?_eq_none_iff.mp hi
    rw [List.drop_eq_nil_of_le hle] at q2
    exact .inl ⟨hJ.stop i H2 sH hle, q2 σ2 A2 F2 H2 Ls2 Le2 hF2 .refl⟩
  | some d =>
    have hlt : i < ds.length := (List.getElem?_eq_some_iff.mp hi).1
    have ed : ds.drop i = d :: ds.drop (i + 1) := by
      rw [List.drop_eq_getElem_cons hlt]
      rw [List.getElem?_eq_getElem hlt] at hi
      rw [Option.some.inj hi]
    rw [ed, forL_cons, hfd] at q2
    refine .inr ⟨hJ.go i d H2 sH hi, fun σ' H' => ∃ m', m' < m ∧ i + 1 + m' = ds.length ∧ ∃ A2 F2 S2 Ls2 env2 Le2, Full X.K G A2 F2 H' S2 Ls2 σ' env2 Le2 ∧ A1 <+: A2 ∧ Same F1 F2 ∧ PP X.K G W D A2 F2 H' (Ls2 ++ Le2) (forL f (ds.drop (i + 1)) env2 S2), fun σ' H' z => z, fun x H' yl => ?_⟩
    obtain ⟨F3, w3, x3, r3, fr3⟩ : ∃ F3, WR X.K G A2 F3 H' S2 Ls2 ∧ Ext A2 F2 H2 Ls2 A2 F3 H' Ls2 ∧ Rep X.K G A2 F3 d x ∧ Same F2 F3 := by
      rcases hJ.yld i d x H2 H' sH hi yl with ⟨e, rr⟩ | ⟨T, o, hT, e, rr⟩
      · subst e
        exact ⟨F2, hF2.w, .refl, rr.mono pA sF, Same.refl _⟩
      · subst e
        exact ⟨upd F2 T o, hF2.w.lay hT, .lay hF2.w hT, rr.mono pA (same_up sF), same_new (hF2.w.nf hT)⟩
    have hF3 := hF2.ext w3 x3
    have q3 := PP.later hF3.outs (Ext.more (Le := Le2) x3) q2
    cases ha : assignT tg d env2 with
    | none => rw [ha] at q3; exact q3.elim
    | some env3 =>
      rw [ha] at q3
      dsimp only at q3
      refine hg A2 F3 H' S2 Ls2 σ2 env2 env3 Le2 d x _ hF3 r3 ha fun σ' Le3 f3 s3 _ => ?_
      have x4 : Ext A2 F3 H' (Ls2 ++ Le2) A2 F3 H' (Ls2 ++ Le3) := .same fun a m => (List.mem_append.mp m).elim (List.mem_append_left _) fun z => List.mem_append_right _ (s3.subset z)
      have q4 := PP.later f3.outs x4 q3
      refine ⟨A2, F3, S2, Ls2, env3, Le3, f3, ?_⟩
      cases hb : execs Φ N sb env3 S2 with
      | nx env4 S4 =>
        rw [hb] at q4
        intro σ5 A5 F5 H5 Ls5 Le5 f5 x5
        exact ⟨m - 1, by omega, by omega, A5, F5, S4, Ls5, env4, Le5, f5, pA.trans x5.pre, sF.trans (fr3.trans x5.fr), PP.later f5.outs x5 q4⟩
      | rt d S4 => rw [hb] at q4; exact q4
      | ex c env4 S4 => rw [hb] at q4; exact q4
      | bad => rw [hb] at q4; exact q4
theorem s_while {st : Stmt} {c : Ex} {sb : Sts} (h : PS X st (tWhile (tB X.K G W (evalE Φ c)) (tS X.K G W (execs Φ N sb)))) : DS X G Φ N W st (.while c sb) := ps_imp h fun σ H D ⟨A, F, S, Ls, env, Le, hF, q⟩ => by
  rw [exec] at q
  refine ⟨fun m σ H => ∃ A2 F2 S2 Ls2 env2 Le2, Full X.K G A2 F2 H S2 Ls2 σ env2 Le2 ∧ PP X.K G W D A2 F2 H (Ls2 ++ Le2) (whileF (evalE Φ c) (execs Φ N sb) m env2 S2), ⟨N, A, F, S, Ls, env, Le, hF, q⟩, ?_⟩
  rintro m σ2 H2 ⟨A2, F2, S2, Ls2, env2, Le2, hF2, q2⟩
  cases m with
  | zero => exact q2.elim
  | succ m =>
    rw [whileF] at q2
    refine ⟨A2, F2, S2, Ls2, env2, Le2, hF2, ?_⟩
    cases hc : evalE Φ c env2 S2 with
    | bad => rw [hc] at q2; exact q2.elim
    | ex c' S3 =>
      rw [hc] at q2
      exact fun A1 F1 H1 Ls1 w1 e1 => q2 σ2 A1 F1 H1 Ls1 Le2 (hF2.ext w1 e1) e1.more
    | ok cv S3 =>
      rw [hc] at q2
      obtain ⟨b, rfl⟩ : ∃ b, cv = .bl b := by
        cases cv with
        | bl b => exact ⟨b, rfl⟩
        | _ => exact q2.elim
      intro b' A3 F3 H3 Ls3 w3 e3 hb
      cases hb
      have hF3 := hF2.ext w3 e3
      have q3 := PP.later hF3.outs (Ext.more (Le := Le2) e3) q2
      cases b with
      | false => exact q3 σ2 A3 F3 H3 Ls3 Le2 hF3 .refl
      | true =>
        rw [if_pos rfl]
        refine ⟨fun σ' H' => ∃ A2 F2 S2 Ls2 env2 Le2, Full X.K G A2 F2 H' S2 Ls2 σ' env2 Le2 ∧ PP X.K G W D A2 F2 H' (Ls2 ++ Le2) (whileF (evalE Φ c) (execs Φ N sb) m env2 S2), fun σ' H' z => ⟨m, Nat.lt_succ_self m, z⟩, A3, F3, S3, Ls3, env2, Le2, hF3, ?_⟩
        have q3 : PP X.K G W D A3 F3 H3 (Ls3 ++ Le2) (match execs Φ N sb env2 S3 with
          | .nx env' S2 => whileF (evalE Φ c) (execs Φ N sb) m env' S2
          | r => r) := q3
        cases hb : execs Φ N sb env2 S3 with
        | nx env4 S4 =>
          rw [hb] at q3
          intro σ5 A5 F5 H5 Ls5 Le5 f5 x5
          exact ⟨A5, F5, S4, Ls5, env4, Le5, f5, PP.later f5.outs x5 q3⟩
        | rt d S4 => rw [hb] at q3; exact q3
        | ex c' env4 S4 => rw [hb] at q3; exact q3
        | bad => rw [hb] at q3; exact q3
theorem s_raise {st : Stmt} {c : Nat} (h : PS X st (fun _ σ H => W (.ref (G.clA c)) none σ H)) : DS X G Φ N W st (.raise c) := ps_imp h fun σ H D ⟨A, F, S, Ls, env, Le, hF, q⟩ => by
  rw [exec] at q
  exact q σ A F H Ls Le hF .refl
/-! ### a def's body -/
/-- what a def computes: ar parameters, lo names in all -/
def runF (Φ : Fns) (N ar lo : Nat) (body : Sts) : List D → M D := fun ds S => if ds.length = ar then (match execs Φ N body (ds.map SV.dat ++ List.replicate (lo - ar) .no) S with
    | .rt d S' => .ok d S'
    | .nx _ S' => .ok .non S'
    | .ex c _ S' => .ex c S'
    | .bad => .bad) else .bad
theorem EnvR.start {K : PySem.W.Frag} {A : List Addr} {F H : Hp} {n : Nat} : ∀ {ds : List D} {vs : List V}, RepL K G A F ds vs → EnvR K G A F H (vs.map some ++ List.replicate n none) (ds.map SV.dat ++ List.replicate n .no) []
  | _, _, .nil => by
    induction n with
    | zero => exact .nil
    | succ n ih => exact .no ih
  | _, _, .cons h r => .dat h (EnvR.start r)
theorem fn_body {P : Program} {w : World} {K : PySem.W.Frag} {mg : Str → Option Value} {base : Heap} {x qual : Str} {params : Arguments} {bd : List Stmt} {scope : Scope} {f : Addr} {fd : FuncData} {N' ps : List Str} {k : Nat} {sts : Sts} (F : FunD K x qual params bd scope [] [] f fd) (S : FnScope N' ps scope)
    (h : ∀ (cdv : Value) (A : Around) (outer : List PySem.Env) (s : Shared) (H : Hp) (E : XK), Room k (A.deeper (envOfC qual scope s.heap.objs.size f cdv)) → DSs (cxOf (L2.CX P w) P w K mg base N' qual scope f cdv A outer s H E) G Φ N (WF E) bd sts) :
    FnOk P w K mg base (L2.CX P w) (k + 1) f fd ps (spF K G (runF Φ N ps.length N'.length sts)) := by
  refine F.ok S (fun vs H Q E hs => ?_) (fun cdv A outer s H vs Q E hr hs => ⟨_, h cdv A outer s H E hr, ?_⟩)
  · obtain ⟨A, F, S, Ls, ds, hw, hr, hp⟩ := hs
    unfold runF at hp
    by_cases hl : ds.length = ps.length
    · rw [← hr.length, hl]
    · rw [if_neg hl] at hp; exact hp.elim
  · obtain ⟨A1, F1, S1, Ls1, ds, hw, hr, hp⟩ := hs
    unfold runF at hp
    by_cases hl : ds.length = ps.length
    · rw [if_pos hl] at hp
      have hvl : vs.length = ps.length := by rw [← hr.length, hl]
      have he : EnvR K G A1 F1 H (L2.start N' vs) (ds.map SV.dat ++ List.replicate (N'.length - ps.length) SV.no) [] := by
        unfold L2.start
        rw [hvl]
        exact EnvR.start hr
      have hfull : Full K G A1 F1 H S1 Ls1 (L2.start N' vs) (ds.map SV.dat ++ List.replicate (N'.length - ps.length) SV.no) [] := ⟨hw, he, List.nodup_nil, (fun a z => by simp at z), (fun a z => by simp at z)⟩
      refine ⟨A1, F1, S1, Ls1, _, [], hfull, ?_⟩
      · rw [List.append_nil]
        cases hx : execs Φ N sts (ds.map SV.dat ++ List.replicate (N'.length - ps.length) .no) S1 with
        | rt d S' =>
          rw [hx] at hp
          exact hp
        | nx env' S' =>
          rw [hx] at hp
          exact fun σ' A' F' H' Ls' Le' f' e' => hp _ A' F' H' Ls' f'.w (e'.sub fun a => List.mem_append_left _) .non
        | ex c env' S' =>
          rw [hx] at hp
          exact fun σ' A' F' H' Ls' Le' f' e' => hp A' F' H' Ls' f'.w (e'.sub fun a => List.mem_append_left _)
        | bad => rw [hx] at hp; exact hp
    · rw [if_neg hl] at hp; exact hp.elim
end
end FT
namespace FT
open PySem PySem.Spec PyProof.Rows L2
/-! ### operators on data -/
section
variable {K : PySem.W.Frag} {G : Glob}
theorem str_app (a b : List Nat) : (⟨a.toArray⟩ : Str) ++ ⟨b.toArray⟩ = ⟨(a ++ b).toArray⟩ := TL.ext_tl (by rw [TL.tl_append])
theorem str_len (a : List Nat) : (⟨a.toArray⟩ : Str).length = a.length := by rw [TL.len_tl]
def rAddAll (K : PySem.W.Frag) : R2 := fun x y H Q => rI0 (fun i j => V.int (i + j)) x y H Q ∨ (∃ i j, x = V.str i ∧ y = .str j ∧ i.length + j.length ≤ sizeLine ∧ Q (.str (i ++ j)) H) ∨ rCat x y H Q ∨ rCatA K x y H Q
theorem op_addAll {X : Cx} : OpR X (binaryOp .Add) (rAddAll X.K) := op_add.or (op_add_str.or (op_cat.or op_catA))
theorem od_add : OpD G K (rAddAll K) (binD .add) := by
  intro A F H S Ls d e z x y Q w rx ry hg k
  cases rx with
  | int i =>
    cases ry with
    | int j => cases hg; exact .inl ⟨i, j, rfl, rfl, k _ F H w .refl (.int _)⟩
    | _ => cases hg
  | str a =>
    cases ry with
    | str b =>
      have hg : (if a.length + b.length ≤ lim then some (D.str (a ++ b)) else none) = some z := hg
      split at hg
      · cases hg
        rename_i hl
        refine .inr (.inl ⟨_, _, rfl, rfl, ?_, ?_⟩)
        · rw [str_len, str_len]; exact lim_of hl
        · rw [str_app]; exact k _ F H w .refl (.str _)
      · cases hg
    | _ => cases hg
  | @lst xs a vs ha ra =>
    cases ry with
    | @lst ys b us hb rb =>
      have hg : (if xs.length + ys.length ≤ lim then some (D.lst (xs ++ ys)) else none) = some z := hg
      split at hg
      · cases hg
        rename_i hl
        refine .inr (.inr (.inl ⟨a, b, vs, us, rfl, rfl, w.sub _ _ ha, w.sub _ _ hb, by rw [← ra.length, ← rb.length]; exact lim_of hl, fun p np => k _ (upd F p (.lst (vs ++ us))) _ (w.lay np) (.lay w np) (.lst upd_same ?_)⟩))
        exact (ra.append rb).mono (List.prefix_refl _) (same_new (w.nf np))
      · cases hg
    | _ => cases hg
  | @tup xs a vs ha ra =>
    cases ry with
    | @tup ys b us hb rb =>
      have hg : (if xs.length + ys.length ≤ lim then some (D.tup (xs ++ ys)) else none) = some z := hg
      split at hg
      · cases hg
        rename_i hl
        refine .inr (.inr (.inr ⟨a, b, vs, us, rfl, rfl, SqT.mono w.sub ha, SqT.mono w.sub hb, by rw [← ra.length, ← rb.length]; exact lim_of hl, fun e => ?_, fun _ e => ?_, fun _ _ p np => ?_⟩))
        · subst e
          cases ra
          exact k _ F H w .refl (.tup hb rb)
        · subst e
          cases rb
          rw [List.append_nil] at k
          exact k _ F H w .refl (.tup ha ra)
        · exact k _ (upd F p (.tup (vs ++ us))) _ (w.lay np) (.lay w np) (.tup (.of upd_same) ((ra.append rb).mono (List.prefix_refl _) (same_new (w.nf np))))
      · cases hg
    | _ => cases hg
  | _ => cases hg
theorem od_sub : OpD G K (rI0 fun i j => .int (i - j)) (binD .sub) := by
  intro A F H S Ls d e z x y Q w rx ry hg k
  cases rx with
  | int i =>
    cases ry with
    | int j => cases hg; exact ⟨i, j, rfl, rfl, k _ F H w .refl (.int _)⟩
    | _ => cases hg
  | _ => cases hg
def rMulAll (K : PySem.W.Frag) : R2 := fun x y H Q => rI CMul (fun i j => V.int (i * j)) x y H Q ∨ rRep x y H Q ∨ rRepT K x y H Q
theorem op_mulAll {X : Cx} : OpR X (binaryOp .Mult) (rMulAll X.K) := op_mul.or (op_rep.or op_repT)
theorem RepL.flat {A : List Addr} {F : Hp} {ds : List D} {vs : List V} (r : RepL K G A F ds vs) : ∀ n : Nat, RepL K G A F (List.replicate n ds).flatten (List.replicate n vs).flatten
  | 0 => .nil
  | n + 1 => by
    rw [List.replicate_succ, List.replicate_succ, List.flatten_cons, List.flatten_cons]
    exact r.append (RepL.flat r n)
theorem od_mul : OpD G K (rMulAll K) (binD .mul) := by
  intro A F H S Ls d e z x y Q w rx ry hg k
  cases rx with
  | int i =>
    cases ry with
    | int j =>
      have hg : (if i.natAbs < 2 ^ 62 then some (D.int (i * j)) else if j.natAbs < 2 ^ 62 then some (.int (i * j)) else none) = some z := hg
      split at hg
      · cases hg
        exact .inl ⟨i, j, rfl, rfl, .inl (by omega), k _ F H w .refl (.int _)⟩
      · split at hg
        · cases hg
          exact .inl ⟨i, j, rfl, rfl, .inr (by omega), k _ F H w .refl (.int _)⟩
        · cases hg
    | _ => cases hg
  | @lst xs a vs ha ra =>
    cases ry with
    | int j =>
      have hg : (if 0 ≤ j ∧ j ≤ 1000 ∧ xs.length ≤ 1000 then some (D.lst (List.replicate j.toNat xs).flatten) else none) = some z := hg
      split at hg
      · cases hg
        rename_i c
        have hl := ra.length
        have hm : vs.length * j.toNat ≤ 1000 * 1000 := Nat.mul_le_mul (by omega) (by omega)
        refine .inr (.inl ⟨a, j, vs, rfl, rfl, w.sub _ _ ha, by omega, by omega, by rw [sizeLine_eq]; omega, fun p np => k _ (upd F p (.lst (List.replicate j.toNat vs).flatten)) _ (w.lay np) (.lay w np) (.lst upd_same ((ra.flat _).mono (List.prefix_refl _) (same_new (w.nf np))))⟩)
      · cases hg
    | _ => cases hg
  | @tup xs a vs ha ra =>
    cases ry with
    | int j =>
      have hg : (if 0 < xs.length ∧ 2 ≤ j ∧ j ≤ 1000 ∧ xs.length ≤ 1000 then some (D.tup (List.replicate j.toNat xs).flatten) else none) = some z := hg
      split at hg
      · cases hg
        rename_i c
        have hl := ra.length
        refine .inr (.inr ⟨a, j, vs, rfl, rfl, SqT.mono w.sub ha, fun e => by rw [e] at hl; have h0 : xs.length = 0 := hl; omega, by omega, by omega, by omega, fun p np => k _ (upd F p (.tup (List.replicate j.toNat vs).flatten)) _ (w.lay np) (.lay w np) (.tup (.of upd_same) ((ra.flat _).mono (List.prefix_refl _) (same_new (w.nf np))))⟩)
      · cases hg
    | _ => cases hg
  | _ => cases hg
theorem od_fdiv : OpD G K (rI CDivN fun i j => .int (i.fdiv j)) (binD .fdiv) := by
  intro A F H S Ls d e z x y Q w rx ry hg k
  cases rx with
  | int i =>
    cases ry with
    | int j =>
      have hg : (if j ≠ 0 ∧ j.natAbs < 1073741824 then some (D.int (i.fdiv j)) else none) = some z := hg
      split at hg
      · cases hg
        rename_i c
        exact ⟨i, j, rfl, rfl, c, k _ F H w .refl (.int _)⟩
      · cases hg
    | _ => cases hg
  | _ => cases hg
theorem od_mod : OpD G K (rI (fun _ j => j ≠ 0) fun i j => .int (i.fmod j)) (binD .mod) := by
  intro A F H S Ls d e z x y Q w rx ry hg k
  cases rx with
  | int i =>
    cases ry with
    | int j =>
      have hg : (if j ≠ 0 then some (D.int (i.fmod j)) else none) = some z := hg
      split at hg
      · cases hg
        rename_i c
        exact ⟨i, j, rfl, rfl, c, k _ F H w .refl (.int _)⟩
      · cases hg
    | _ => cases hg
  | _ => cases hg
theorem od_pow : OpD G K (rI CPow fun i j => .int (i ^ j.toNat)) (binD .pow) := by
  intro A F H S Ls d e z x y Q w rx ry hg k
  cases rx with
  | int i =>
    cases ry with
    | int j =>
      have hg : (if 0 ≤ j ∧ j ≤ 1000000 ∧ i.natAbs < 2 ^ 62 then some (D.int (i ^ j.toNat)) else none) = some z := hg
      split at hg
      · cases hg
        rename_i c
        exact ⟨i, j, rfl, rfl, ⟨c.1, c.2.1, Nat.lt_of_lt_of_le c.2.2 (by decide)⟩, k _ F H w .refl (.int _)⟩
      · cases hg
    | _ => cases hg
  | _ => cases hg
/-! ### data and the library's data -/
mutual
def py : D → PyData
  | .non => .none
  | .bl b => .bool b
  | .int i => .int i
  | .str s => .str ⟨s.toArray⟩
  | .tup xs => .tuple (pys xs)
  | .lst xs => .list (pys xs)
  | _ => .none
def pys : List D → List PyData
  | [] => []
  | x :: xs => py x :: pys xs
end
mutual
theorem ok_lay : ∀ (d : D) (n : Nat), okD d n = true → (py d).canLay0 = true
  | .non, _, _ => by simp [py, PyData.canLay0]
  | .bl _, _, _ => by simp [py, PyData.canLay0]
  | .int _, _, _ => by simp [py, PyData.canLay0]
  | .str s, _, h => by
    simp only [py, PyData.canLay0, PyData.strOk]
    simp only [okD] at h
    simpa using h
  | .tup xs, 0, h => by simp [okD] at h
  | .lst xs, 0, h => by simp [okD] at h
  | .tup xs, n + 1, h => by
    simp only [py, PyData.canLay0]
    exact oks_lay xs n (by simpa [okD] using h)
  | .lst xs, n + 1, h => by
    simp only [py, PyData.canLay0]
    exact oks_lay xs n (by simpa [okD] using h)
  | .ref _, _, h => by simp [okD] at h
  | .fn _, _, h => by simp [okD] at h
  | .exc _, _, h => by simp [okD] at h
  | .scr _, _, h => by simp [okD] at h
theorem oks_lay : ∀ (ds : List D) (n : Nat), okDs ds n = true → PyData.canLayAll0 (pys ds) = true
  | [], _, _ => by simp [pys, PyData.canLayAll0]
  | d :: ds, n, h => by
    simp only [okDs, Bool.and_eq_true] at h
    simp only [pys, PyData.canLayAll0, Bool.and_eq_true]
    exact ⟨ok_lay d n h.1, oks_lay ds n h.2⟩
end
mutual
theorem ok_deep : ∀ (d : D) (n : Nat), okD d n = true → (py d).depth ≤ n
  | .non, _, _ => by simp [py, PyData.depth]
  | .bl _, _, _ => by simp [py, PyData.depth]
  | .int _, _, _ => by simp [py, PyData.depth]
  | .str s, _, h => by simp [py, PyData.depth]
  | .tup xs, 0, h => by simp [okD] at h
  | .lst xs, 0, h => by simp [okD] at h
  | .tup xs, n + 1, h => by
    have := oks_deep xs n (by simpa [okD] using h)
    simp only [py, PyData.depth]
    omega
  | .lst xs, n + 1, h => by
    have := oks_deep xs n (by simpa [okD] using h)
    simp only [py, PyData.depth]
    omega
  | .ref _, _, h => by simp [okD] at h
  | .fn _, _, h => by simp [okD] at h
  | .exc _, _, h => by simp [okD] at h
  | .scr _, _, h => by simp [okD] at h
theorem oks_deep : ∀ (ds : List D) (n : Nat), okDs ds n = true → PyData.depthAll (pys ds) ≤ n
  | [], _, _ => by simp [pys, PyData.depthAll]
  | d :: ds, n, h => by
    simp only [okDs, Bool.and_eq_true] at h
    have h1 := ok_deep d n h.1
    have h2 := oks_deep ds n h.2
    simp only [pys, PyData.depthAll]
    omega
end
theorem ok_shaped {d : D} {n : Nat} (h : okD d n = true) (hn : n ≤ 64) : SeqAt.shaped (py d) = true := by
  unfold SeqAt.shaped
  rw [ok_lay d n h, Bool.true_and]
  exact decide_eq_true (Nat.le_trans (ok_deep d n h) hn)
theorem str_beq (a b : List Nat) : ((⟨a.toArray⟩ : Str) == ⟨b.toArray⟩) = (a == b) := by
  by_cases h : a = b
  · subst h; simp
  · have h1 : ¬ (⟨a.toArray⟩ : Str) = ⟨b.toArray⟩ := fun e => h (by have := congrArg (fun s : Str => s.cps.toList) e; simpa using this)
    rw [beq_eq_false_iff_ne.mpr h, beq_eq_false_iff_ne.mpr h1]
mutual
theorem eqv_py : ∀ (d e : D) (n m : Nat), okD d n = true → okD e m = true → PyData.eqv (py d) (py e) = eqv d e
  | .non, e, n, m, _, h => by cases e <;> simp_all [py, eqv, PyData.eqv, okD]
  | .bl b, e, n, m, _, h => by cases e <;> simp_all [py, eqv, PyData.eqv, okD]
  | .int i, e, n, m, _, h => by cases e <;> simp_all [py, eqv, PyData.eqv, okD]
  | .str s, e, n, m, _, h => by
    cases e with
    | str t => simp only [py, eqv, PyData.eqv]; exact str_beq s t
    | _ => simp_all [py, eqv, PyData.eqv, okD]
  | .tup xs, e, n, m, h1, h => by
    cases e with
    | tup ys =>
      simp only [py, eqv, PyData.eqv]
      cases n with
      | zero => simp [okD] at h1
      | succ n =>
        cases m with
        | zero => simp [okD] at h
        | succ m => exact eqvs_py xs ys n m (by simpa [okD] using h1) (by simpa [okD] using h)
    | _ => simp_all [py, eqv, PyData.eqv, okD]
  | .lst xs, e, n, m, h1, h => by
    cases e with
    | lst ys =>
      simp only [py, eqv, PyData.eqv]
      cases n with
      | zero => simp [okD] at h1
      | succ n =>
        cases m with
        | zero => simp [okD] at h
        | succ m => exact eqvs_py xs ys n m (by simpa [okD] using h1) (by simpa [okD] using h)
    | _ => simp_all [py, eqv, PyData.eqv, okD]
  | .ref _, _, _, _, h, _ => by simp [okD] at h
  | .fn _, _, _, _, h, _ => by simp [okD] at h
  | .exc _, _, _, _, h, _ => by simp [okD] at h
  | .scr _, _, _, _, h, _ => by simp [okD] at h
theorem eqvs_py : ∀ (ds es : List D) (n m : Nat), okDs ds n = true → okDs es m = true → PyData.eqvAll (pys ds) (pys es) = eqvL ds es
  | [], [], _, _, _, _ => by simp [pys, PyData.eqvAll, eqvL]
  | [], _ :: _, _, _, _, _ => by simp [pys, PyData.eqvAll, eqvL]
  | _ :: _, [], _, _, _, _ => by simp [pys, PyData.eqvAll, eqvL]
  | d :: ds, e :: es, n, m, h1, h2 => by
    simp only [okDs, Bool.and_eq_true] at h1 h2
    simp only [pys, PyData.eqvAll, eqvL]
    rw [eqv_py d e n m h1.1 h2.1, eqvs_py ds es n m h1.2 h2.2]
end
mutual
theorem rep_dp {A : List Addr} {F H : Hp} (s : Same F H) : ∀ (d : D) (v : V) (n : Nat), okD d n = true → Rep K G A F d v → Dp K H v (py d)
  | .non, _, _, _, r => by cases r; simp only [py]; exact .non
  | .bl b, _, _, _, r => by cases r; simp only [py]; exact .bl b
  | .int i, _, _, _, r => by cases r; simp only [py]; exact .int i
  | .str i, _, _, _, r => by cases r; simp only [py]; exact .str _
  | .tup ds, _, n, h, r => by
    cases r with
    | tup h1 h2 =>
      simp only [py]
      cases n with
      | zero => simp [okD] at h
      | succ n => exact .tup (SqT.mono s h1) (reps_dp s ds _ n (by simpa [okD] using h) h2)
  | .lst ds, _, n, h, r => by
    cases r with
    | lst h1 h2 =>
      simp only [py]
      cases n with
      | zero => simp [okD] at h
      | succ n => exact .lst (.of (s _ _ h1)) (reps_dp s ds _ n (by simpa [okD] using h) h2)
  | .ref _, _, _, h, _ => by simp [okD] at h
  | .fn _, _, _, h, _ => by simp [okD] at h
  | .exc _, _, _, h, _ => by simp [okD] at h
  | .scr _, _, _, h, _ => by simp [okD] at h
theorem reps_dp {A : List Addr} {F H : Hp} (s : Same F H) : ∀ (ds : List D) (vs : List V) (n : Nat), okDs ds n = true → RepL K G A F ds vs → DpAll K H vs (pys ds)
  | [], _, _, _, r => by cases r; simp only [pys]; exact .nil
  | d :: ds, _, n, h, r => by
    cases r with
    | cons r1 r2 =>
      simp only [okDs, Bool.and_eq_true] at h
      simp only [pys]
      exact .cons (rep_dp s d _ n h.1 r1) (reps_dp s ds _ n h.2 r2)
end
theorem dp_ints {H : Hp} : ∀ ns : List Int, DpAll K H (ns.map V.int) (pys (ns.map D.int))
  | [] => by simp only [List.map_nil, pys]; exact .nil
  | n :: ns => by simp only [List.map_cons, pys, py]; exact .cons (.int n) (dp_ints ns)
theorem norm_dp {A : List Addr} {F H : Hp} (s : Same F H) {d : D} {v : V} {n : Nat} (h : okD (norm d) n = true) (r : Rep K G A F d v) : Dp K H v (py (norm d)) := by
  cases d with
  | scr ns =>
    cases r with
    | scr h1 =>
      simp only [norm, py]
      exact .lst (s.seq h1) (dp_ints ns)
  | _ => exact rep_dp s _ v n h r
theorem od_eq : OpD G K (rEqD K) (cmpD .eq) := by
  intro A F H S Ls d e z x y Q w rx ry hg k
  have hg : (if okD (norm d) 60 && okD (norm e) 60 then some (eqv (norm d) (norm e)) else none).map D.bl = some z := hg
  split at hg
  · rename_i c
    obtain ⟨c1, c2⟩ := Bool.and_eq_true_iff.mp c
    cases hg
    refine ⟨_, _, norm_dp w.sub c1 rx, norm_dp w.sub c2 ry, ok_shaped c1 (by decide), ok_shaped c2 (by decide), ?_⟩
    rw [eqv_py _ _ _ _ c1 c2]
    exact k _ F H w .refl (.bl _)
  · cases hg
theorem od_ne : OpD G K (rNeD K) (cmpD .ne) := by
  intro A F H S Ls d e z x y Q w rx ry hg k
  have hg : (if okD (norm d) 60 && okD (norm e) 60 then some (eqv (norm d) (norm e)) else none).map (fun b => D.bl (!b)) = some z := hg
  split at hg
  · rename_i c
    obtain ⟨c1, c2⟩ := Bool.and_eq_true_iff.mp c
    cases hg
    refine ⟨_, _, norm_dp w.sub c1 rx, norm_dp w.sub c2 ry, ok_shaped c1 (by decide), ok_shaped c2 (by decide), ?_⟩
    rw [eqv_py _ _ _ _ c1 c2]
    exact k _ F H w .refl (.bl _)
  · cases hg
end
end FT
namespace FT
open PySem PySem.Spec PyProof.Rows L2
section
variable {K : PySem.W.Frag} {G : Glob}
def rLtAll : R2 := fun x y H Q => rI0 (fun i j => V.bl (decide (i < j))) x y H Q ∨ (∃ i j, x = V.str i ∧ y = .str j ∧ Q (.bl (decide (i.cps.toList < j.cps.toList))) H)
def rGtAll : R2 := fun x y H Q => rI0 (fun i j => V.bl (decide (j < i))) x y H Q ∨ (∃ i j, x = V.str i ∧ y = .str j ∧ Q (.bl (decide (j.cps.toList < i.cps.toList))) H)
theorem op_ltAll {X : Cx} : OpR X (compareOp .Lt) rLtAll := op_lt.or op_lt_str
theorem op_gtAll {X : Cx} : OpR X (compareOp .Gt) rGtAll := op_gt.or op_gt_str
theorem od_lt : OpD G K rLtAll (cmpD .lt) := by
  intro A F H S Ls d e z x y Q w rx ry hg k
  cases rx with
  | int i =>
    cases ry with
    | int j => cases hg; exact .inl ⟨i, j, rfl, rfl, k _ F H w .refl (.bl _)⟩
    | _ => cases hg
  | str a =>
    cases ry with
    | str b => cases hg; exact .inr ⟨_, _, rfl, rfl, k _ F H w .refl (.bl _)⟩
    | _ => cases hg
  | _ => cases ry <;> cases hg
theorem od_gt : OpD G K rGtAll (cmpD .gt) := by
  intro A F H S Ls d e z x y Q w rx ry hg k
  cases rx with
  | int i =>
    cases ry with
    | int j => cases hg; exact .inl ⟨i, j, rfl, rfl, k _ F H w .refl (.bl _)⟩
    | _ => cases hg
  | str a =>
    cases ry with
    | str b => cases hg; exact .inr ⟨_, _, rfl, rfl, k _ F H w .refl (.bl _)⟩
    | _ => cases hg
  | _ => cases ry <;> cases hg
theorem od_le : OpD G K (rI0 fun i j => .bl (decide (i ≤ j))) (cmpD .le) := by
  intro A F H S Ls d e z x y Q w rx ry hg k
  cases rx with
  | int i =>
    cases ry with
    | int j => cases hg; exact ⟨i, j, rfl, rfl, k _ F H w .refl (.bl _)⟩
    | _ => cases hg
  | _ => cases ry <;> cases hg
theorem od_ge : OpD G K (rI0 fun i j => .bl (decide (j ≤ i))) (cmpD .ge) := by
  intro A F H S Ls d e z x y Q w rx ry hg k
  cases rx with
  | int i =>
    cases ry with
    | int j => cases hg; exact ⟨i, j, rfl, rfl, k _ F H w .refl (.bl _)⟩
    | _ => cases hg
  | _ => cases ry <;> cases hg
/-! ### is -/
def rIsAll : R2 := fun x y H Q => (y = .non ∧ Q (.bl (decide (x = .non))) H) ∨ rIsB x y H Q
def rIsnAll : R2 := fun x y H Q => (y = .non ∧ Q (.bl (!decide (x = .non))) H) ∨ rNotB x y H Q
theorem op_isAll {X : Cx} : OpR X (compareOp .Is) rIsAll := op_isN.or op_isBl
theorem op_isnAll {X : Cx} : OpR X (compareOp .IsNot) rIsnAll := op_notN.or op_notBl
theorem isD_ok {A : List Addr} {F : Hp} {d e : D} {x y : V} {b : Bool} (rx : Rep K G A F d x) (ry : Rep K G A F e y) (h : isD d e = some b) : (y = .non ∧ decide (x = .non) = b) ∨ ∃ a c : Bool, x = .bl a ∧ y = .bl c ∧ decide (a = c) = b := by
  cases ry with
  | non =>
    cases rx <;> first
      | (cases h; exact .inl ⟨rfl, rfl⟩)
      | (cases h)
  | bl c =>
    cases rx with
    | bl a =>
      have h : some (a == c) = some b := h
      cases h
      exact .inr ⟨a, c, rfl, rfl, by cases a <;> cases c <;> rfl⟩
    | _ => cases h
  | _ => cases rx <;> cases h
theorem od_is : OpD G K rIsAll (cmpD .is) := by
  intro A F H S Ls d e z x y Q w rx ry hg k
  obtain ⟨b, h1, h2⟩ := Option.map_eq_some_iff.mp (show (isD d e).map D.bl = some z from hg)
  subst h2
  rcases isD_ok rx ry h1 with ⟨e1, e2⟩ | ⟨a, c, e1, e2, e3⟩
  · exact .inl ⟨e1, by rw [e2]; exact k _ F H w .refl (.bl _)⟩
  · exact .inr ⟨a, c, e1, e2, by rw [e3]; exact k _ F H w .refl (.bl _)⟩
theorem od_isn : OpD G K rIsnAll (cmpD .isn) := by
  intro A F H S Ls d e z x y Q w rx ry hg k
  obtain ⟨b, h1, h2⟩ := Option.map_eq_some_iff.mp (show (isD d e).map (fun b => D.bl (!b)) = some z from hg)
  subst h2
  rcases isD_ok rx ry h1 with ⟨e1, e2⟩ | ⟨a, c, e1, e2, e3⟩
  · exact .inl ⟨e1, by rw [e2]; exact k _ F H w .refl (.bl _)⟩
  · exact .inr ⟨a, c, e1, e2, by rw [e3]; exact k _ F H w .refl (.bl _)⟩
/-! ### in -/
theorem flat_v {A : List Addr} {F : Hp} {d : D} {v : V} (r : Rep K G A F d v) (h : flatD d = true) : flatV v = true := by
  cases r <;> first | rfl | cases h
theorem flat_vs {A : List Addr} {F : Hp} : ∀ {ds : List D} {vs : List V}, RepL K G A F ds vs → ds.all flatD = true → vs.all flatV = true
  | _, _, .nil, _ => rfl
  | _, _, .cons r rs, h => by
    rw [List.all_cons, Bool.and_eq_true] at h ⊢
    exact ⟨flat_v r h.1, flat_vs rs h.2⟩
theorem flat_eqv {A : List Addr} {F : Hp} {d e : D} {v u : V} (r : Rep K G A F d v) (r' : Rep K G A F e u) (h : flatD d = true) (h' : flatD e = true) : eqV v u = eqv d e := by
  cases r <;> cases r' <;> first
    | (simp [eqV, eqv]; done)
    | (cases h; done)
    | (cases h'; done)
    | (simp only [eqV, eqv]; exact str_beq _ _)
theorem flat_any {A : List Addr} {F : Hp} {d : D} {v : V} (r : Rep K G A F d v) (h : flatD d = true) : ∀ {ds : List D} {vs : List V}, RepL K G A F ds vs → ds.all flatD = true → inV v vs = ds.any fun x => eqv x d
  | _, _, .nil, _ => rfl
  | _, _, .cons q qs, h' => by
    rw [List.all_cons, Bool.and_eq_true] at h'
    have := flat_any r h qs h'.2
    unfold inV at this ⊢
    rw [List.any_cons, List.any_cons, this, flat_eqv q r h'.1 h]
def rInAll (K : PySem.W.Frag) : R2 := fun x y H Q => (∃ (c : Nat) (z : Str), x = V.str ⟨#[c]⟩ ∧ y = .str z ∧ Q (.bl (decide (c ∈ z.cps.toList))) H) ∨ rIn K false x y H Q ∨ rInD K x y H Q
def rNinAll (K : PySem.W.Frag) : R2 := fun x y H Q => (∃ (c : Nat) (z : Str), x = V.str ⟨#[c]⟩ ∧ y = .str z ∧ Q (.bl (!decide (c ∈ z.cps.toList))) H) ∨ rIn K true x y H Q ∨ rNotInD K x y H Q
theorem op_inAll {X : Cx} (hu : X.A.units + 65 < cLine) : OpR X (compareOp .In) (rInAll X.K) := op_in_sign.or (op_in_seq.or (op_inD hu))
theorem op_ninAll {X : Cx} (hu : X.A.units + 65 < cLine) : OpR X (compareOp .NotIn) (rNinAll X.K) := op_notIn_sign.or (op_notIn_seq.or (op_notInD hu))
theorem any_pys {d : D} {n : Nat} (h : okD d n = true) : ∀ (ds : List D) (m : Nat), okDs ds m = true → ((pys ds).any fun z => PyData.eqv z (py d)) = ds.any fun x => eqv x d
  | [], _, _ => rfl
  | e :: ds, m, h' => by
    simp only [okDs, Bool.and_eq_true] at h'
    simp only [pys, List.any_cons]
    rw [any_pys h ds m h'.2, eqv_py e d m n h'.1 h]
theorem inD_ok {A : List Addr} {F H : Hp} {S : Sh} {Ls : List Addr} {d e : D} {x y : V} {b : Bool} (w : WR K G A F H S Ls) (rx : Rep K G A F d x) (ry : Rep K G A F e y) (h : inD d e = some b) :
    (∃ (c : Nat) (z : Str), x = V.str ⟨#[c]⟩ ∧ y = .str z ∧ decide (c ∈ z.cps.toList) = b) ∨ (∃ p xs, y = .ref p ∧ (SqL K H p xs ∨ SqT K H p xs) ∧ flatV x = true ∧ xs.all flatV = true ∧ inV x xs = b) ∨
      ∃ d' ds, Dp K H x d' ∧ Dp K H y (.list ds) ∧ SeqAt.shaped d' = true ∧ SeqAt.shaped (.list ds) = true ∧ (ds.any fun z => PyData.eqv z d') = b := by
  have two : ∀ (xs : List D), e = .tup xs → (if flatD d && xs.all flatD then some (xs.any fun x => eqv x d) else none) = some b → ∃ p vs, y = .ref p ∧ (SqL K H p vs ∨ SqT K H p vs) ∧ flatV x = true ∧ vs.all flatV = true ∧ inV x vs = b := fun xs e1 hh => by
    subst e1
    split at hh
    · rename_i c
      obtain ⟨c1, c2⟩ := Bool.and_eq_true_iff.mp c
      cases hh
      cases ry with
      | tup h1 h2 => exact ⟨_, _, rfl, .inr (SqT.mono w.sub h1), flat_v rx c1, flat_vs h2 c2, flat_any rx c1 h2 c2⟩
    · cases hh
  have three : ∀ (xs : List D), e = .lst xs → (if okD d 50 && okDs xs 50 then some (xs.any fun x => eqv x d) else none) = some b → ∃ d' ds, Dp K H x d' ∧ Dp K H y (.list ds) ∧ SeqAt.shaped d' = true ∧ SeqAt.shaped (.list ds) = true ∧ (ds.any fun z => PyData.eqv z d') = b := fun xs e1 hh => by
    subst e1
    split at hh
    · rename_i c
      obtain ⟨c1, c2⟩ := Bool.and_eq_true_iff.mp c
      cases hh
      have c3 : okD (.lst xs) 51 = true := by simpa [okD] using c2
      have dp := rep_dp w.sub _ _ 51 c3 ry
      have sh := ok_shaped c3 (by decide)
      simp only [py] at dp sh
      exact ⟨py d, pys xs, rep_dp w.sub _ _ 50 c1 rx, dp, ok_shaped c1 (by decide), sh, any_pys c1 xs 50 c2⟩
    · cases hh
  cases ry with
  | str s =>
    cases rx with
    | str a =>
      match a, h with
      | [c], h =>
        have h : some (s.contains c) = some b := h
        cases h
        exact .inl ⟨c, _, rfl, rfl, by simp [List.contains_iff_mem]⟩
    | _ => cases h
  | @tup xs _ _ h1 h2 => exact .inr (.inl (two xs rfl h))
  | @lst xs _ _ h1 h2 => exact .inr (.inr (three xs rfl h))
  | _ => cases h
theorem od_in : OpD G K (rInAll K) (cmpD .isin) := by
  intro A F H S Ls d e z x y Q w rx ry hg k
  obtain ⟨b, h1, h2⟩ := Option.map_eq_some_iff.mp (show (inD d e).map D.bl = some z from hg)
  subst h2
  have kk := k _ F H w .refl (.bl _)
  rcases inD_ok w rx ry h1 with ⟨c, s, e1, e2, e3⟩ | ⟨p, xs, e1, e2, e3, e4, e5⟩ | ⟨d', ds, e1, e2, e3, e4, e5⟩
  · exact .inl ⟨c, s, e1, e2, by rw [e3]; exact kk⟩
  · refine .inr (.inl ⟨p, xs, e1, e2, e3, e4, ?_⟩)
    rw [if_neg (by decide), e5]
    exact kk
  · exact .inr (.inr ⟨d', ds, e1, e2, e3, e4, by rw [e5]; exact kk⟩)
theorem od_nin : OpD G K (rNinAll K) (cmpD .nin) := by
  intro A F H S Ls d e z x y Q w rx ry hg k
  obtain ⟨b, h1, h2⟩ := Option.map_eq_some_iff.mp (show (inD d e).map (fun b => D.bl (!b)) = some z from hg)
  subst h2
  have kk := k _ F H w .refl (.bl _)
  rcases inD_ok w rx ry h1 with ⟨c, s, e1, e2, e3⟩ | ⟨p, xs, e1, e2, e3, e4, e5⟩ | ⟨d', ds, e1, e2, e3, e4, e5⟩
  · exact .inl ⟨c, s, e1, e2, by rw [e3]; exact kk⟩
  · refine .inr (.inl ⟨p, xs, e1, e2, e3, e4, ?_⟩)
    rw [if_pos rfl, e5]
    exact kk
  · exact .inr (.inr ⟨d', ds, e1, e2, e3, e4, by rw [e5]; exact kk⟩)
/-! ### items, slices -/
theorem RepL.atI {A : List Addr} {F : Hp} {ds : List D} {vs : List V} {i : Int} {z : D} (r : RepL K G A F ds vs) (h : L2.atI ds i = some z) : ∃ v, L2.atI vs i = some v ∧ Rep K G A F z v := by
  unfold L2.atI at h ⊢
  rw [← r.length]
  cases e : ixN ds.length i with
  | none => rw [e] at h; cases h
  | some j =>
    rw [e] at h
    exact r.get h
theorem od_ix : OpD G K (rIx K) ixD := by
  intro A F H S Ls d e z x y Q w rx ry hg k
  cases ry with
  | int i =>
    cases rx with
    | tup h1 h2 =>
      obtain ⟨v, e1, r1⟩ := h2.atI (show L2.atI _ i = some z from hg)
      exact .inr (.inl ⟨_, _, i, v, rfl, rfl, SqT.mono w.sub h1, e1, k _ F H w .refl r1⟩)
    | lst h1 h2 =>
      obtain ⟨v, e1, r1⟩ := h2.atI (show L2.atI _ i = some z from hg)
      exact .inl ⟨_, _, i, v, rfl, rfl, .of (w.sub _ _ h1), e1, k _ F H w .refl r1⟩
    | @scr ns a h1 =>
      obtain ⟨n, e1, e2⟩ := Option.map_eq_some_iff.mp (show (L2.atI ns i).map D.int = some z from hg)
      subst e2
      refine .inl ⟨_, _, i, .int n, rfl, rfl, w.sub.seq h1, ?_, k _ F H w .refl (.int _)⟩
      unfold L2.atI at e1 ⊢
      rw [List.length_map]
      cases e : ixN ns.length i with
      | none => rw [e] at e1; cases e1
      | some j =>
        rw [e] at e1
        have e1 : ns[j]? = some n := e1
        show (ns.map V.int)[j]? = _
        rw [List.getElem?_map, e1]
        rfl
    | str s =>
      have hg : (if s.length ≤ lim then (L2.atI s i).map (fun c => D.str [c]) else none) = some z := hg
      split at hg
      · rename_i hl
        obtain ⟨c, e1, e2⟩ := Option.map_eq_some_iff.mp hg
        subst e2
        exact .inr (.inr ⟨_, i, c, rfl, rfl, by rw [str_len]; exact lim_of hl, e1, k _ F H w .refl (.str [c])⟩)
      · cases hg
    | _ => cases hg
  | _ => cases rx <;> cases hg
theorem d_ix {X : Cx} {Φ : Fns} {W : WX} {a b : Expr} {x y : Ex} {pos : Pos} (ha : DE X G Φ W a x) (hb : DE X G Φ W b y) (hs : PlainIx b) : DE X G Φ W (.Subscript a b pos) (.ix x y) :=
  d_two od_ix (pe_ix ix_seq ha hb hs) fun env S => by rw [evalE]
end
section
variable {X : Cx} {G : Glob} {Φ : Fns} {W : WX}
def SlAll (K : PySem.W.Frag) : V → Option Int → Option Int → Hp → VK → Prop := fun x lo hi H Q => rSlL K x lo hi H Q ∨ rSlA K x lo hi H Q ∨ rSlS x lo hi H Q
theorem sl_all : SlR X (SlAll X.K) := sl_list.or (sl_tupA.or sl_str)
/-- a part of a slice -/
abbrev RelO : List Addr → Hp → Hp → List Addr → Option Int → Option Int → Prop := fun _ _ _ _ d o => d = o
def DP (X : Cx) (G : Glob) (Φ : Fns) (W : WX) (e : Option Expr) (x : Opx) : Prop := L2.PO X e (fun σ H Q => ∃ A F S Ls env Le, Full X.K G A F H S Ls σ env Le ∧ PG X.K G W FT.RelO σ A F H Ls Q (evalO Φ x env S))
theorem po_imp {e : Option Expr} {t t' : TO} (h : L2.PO X e t) (i : ∀ σ H Q, t' σ H Q → t σ H Q) : L2.PO X e t' := ⟨fun pins s σ H Q I q => h.run pins s σ H Q I (i σ H Q q)⟩
theorem p_none : DP X G Φ W none .no := po_imp po_none fun σ H Q ⟨A, F, S, Ls, env, Le, hF, h⟩ => by
  rw [evalO] at h
  exact h none A F H Ls hF.w .refl rfl
theorem p_some {e : Expr} {x : Ex} (he : DE X G Φ W e x) : DP X G Φ W (some e) (.at x) := po_imp (po_some he) fun σ H Q ⟨A, F, S, Ls, env, Le, hF, h⟩ => by
  rw [evalO] at h
  refine ⟨A, F, S, Ls, env, Le, hF, pg_fin.bind hF h fun d S1 v A1 F1 H1 Ls1 hF1 e1 r1 q1 => ?_⟩
  cases r1 with
  | int i => exact ⟨i, rfl, q1 _ A1 F1 H1 Ls1 hF1.w .refl rfl⟩
  | _ => exact q1.elim
theorem cutL_rep {K : PySem.W.Frag} {A : List Addr} {F : Hp} {ds : List D} {vs : List V} (r : RepL K G A F ds vs) (lo hi : Option Int) : RepL K G A F (cutL ds lo hi) (cutV vs lo hi) := by
  unfold cutL cutV
  rw [← r.length]
  exact (r.drop _).take _
theorem d_sl {a : Expr} {lo hi : Option Expr} {x : Ex} {l h : Opx} {p pos : Pos} (ha : DE X G Φ W a x) (hl : DP X G Φ W lo l) (hh : DP X G Φ W hi h) : DE X G Φ W (.Subscript a (.Slice lo hi none p) pos) (.sl x l h) := pe_imp (pe_slice sl_all ha hl hh) fun σ H Q ⟨A, F, S, Ls, env, Le, hF, q⟩ => by
  rw [evalE] at q
  refine ⟨A, F, S, Ls, env, Le, hF, pg_fin.bind hF q fun d S1 v A1 F1 H1 Ls1 hF1 e1 r1 q1 => ?_⟩
  refine ⟨A1, F1, S1, Ls1, env, Le, hF1, pg_fin.bind hF1 q1 fun lv S2 lo' A2 F2 H2 Ls2 hF2 e2 r2 q2 => ?_⟩
  refine ⟨A2, F2, S2, Ls2, env, Le, hF2, pg_fin.bind hF2 q2 fun hv S3 hi' A3 F3 H3 Ls3 hF3 e3 r3 q3 => ?_⟩
  subst r2 r3
  have r1 := (r1.mono e2.pre e2.fr).mono e3.pre e3.fr
  have w := hF3.w
  cases r1 with
  | @tup ds _ vs h1 h2 =>
    have q3 : PG X.K G W (RelD X.K G) σ A3 F3 H3 Ls3 Q (.ok (.tup (cutL ds lv hv)) S3) := q3
    refine .inr (.inl ⟨_, vs, rfl, SqT.mono w.sub h1, fun c => ?_, fun _ p np => ?_⟩)
    · have e : cutL ds lv hv = ds := by
        unfold cutL
        rw [h2.length, c.1, c.2]
        simp
        rw [← h2.length]
        exact List.take_length
      rw [e] at q3
      exact q3 _ A3 F3 H3 Ls3 w .refl (.tup h1 h2)
    · exact q3 _ A3 (upd F3 p _) _ Ls3 (w.lay np) (.lay w np) (.tup (.of upd_same) ((cutL_rep h2 lv hv).mono (List.prefix_refl _) (same_new (w.nf np))))
  | @lst ds _ vs h1 h2 =>
    have q3 : PG X.K G W (RelD X.K G) σ A3 F3 H3 Ls3 Q (.ok (.lst (cutL ds lv hv)) S3) := q3
    refine .inl ⟨_, vs, rfl, .of (w.sub _ _ h1), fun p np => ?_⟩
    exact q3 _ A3 (upd F3 p (.lst (cutV vs lv hv))) _ Ls3 (w.lay np) (.lay w np) (.lst upd_same ((cutL_rep h2 lv hv).mono (List.prefix_refl _) (same_new (w.nf np))))
  | str s =>
    have q3 : PG X.K G W (RelD X.K G) σ A3 F3 H3 Ls3 Q (lift (if s.length ≤ lim then some (.str (cutL s lv hv)) else none) S3) := q3
    split at q3
    · rename_i hl
      refine .inr (.inr ⟨_, rfl, by rw [str_len]; exact lim_of hl, ?_⟩)
      have e : cutS ⟨s.toArray⟩ lv hv = ⟨(cutL s lv hv).toArray⟩ := by
        unfold cutS cutL
        rw [str_len]
      rw [e]
      exact q3 _ A3 F3 H3 Ls3 w .refl (.str _)
    · exact q3.elim
  | _ => exact q3.elim
end
end FT
namespace FT
open PySem PySem.Spec PyProof.Rows L2
section
variable {K : PySem.W.Frag} {G : Glob} {X : Cx}
/-! ### what the built-in functions do with data -/
def rLen (K : PySem.W.Frag) : List V → Hp → VK → Prop := fun xs H Q => (∃ p ys, xs = [.ref p] ∧ (SqL K H p ys ∨ SqT K H p ys) ∧ Q (.int ys.length) H) ∨ (∃ z, xs = [.str z] ∧ z.length ≤ sizeLine ∧ Q (.int z.length) H)
theorem cr_len : CallR X (.builtin "len") (rLen X.K) := call_len_seq.or call_len_str
theorem RepL.inv1 {A : List Addr} {F : Hp} {d : D} {xs : List V} (r : RepL K G A F [d] xs) : ∃ x, xs = [x] ∧ Rep K G A F d x := by
  cases r with
  | cons r1 r2 =>
    cases r2
    exact ⟨_, rfl, r1⟩
theorem RepL.inv2 {A : List Addr} {F : Hp} {d e : D} {xs : List V} (r : RepL K G A F [d, e] xs) : ∃ x y, xs = [x, y] ∧ Rep K G A F d x ∧ Rep K G A F e y := by
  cases r with
  | cons r1 r2 =>
    obtain ⟨y, rfl, r3⟩ := r2.inv1
    exact ⟨_, y, rfl, r1, r3⟩
theorem bi_len : CallD G K (rLen K) (biD .len) := by
  intro A F H S Ls ds z xs Q w r hg k
  match ds, hg with
  | [.tup ys], hg =>
    cases hg
    obtain ⟨x, rfl, r1⟩ := r.inv1
    cases r1 with
    | @tup _ a vs h1 h2 => exact .inl ⟨a, vs, rfl, .inr (SqT.mono w.sub h1), by rw [← h2.length]; exact k _ F H w .refl (.int _)⟩
  | [.lst ys], hg =>
    cases hg
    obtain ⟨x, rfl, r1⟩ := r.inv1
    cases r1 with
    | @lst _ a vs h1 h2 => exact .inl ⟨a, vs, rfl, .inl (.of (w.sub _ _ h1)), by rw [← h2.length]; exact k _ F H w .refl (.int _)⟩
  | [.scr ys], hg =>
    cases hg
    obtain ⟨x, rfl, r1⟩ := r.inv1
    cases r1 with
    | @scr _ a h1 => exact .inl ⟨a, _, rfl, .inl (w.sub.seq h1), by rw [List.length_map]; exact k _ F H w .refl (.int _)⟩
  | [.str ys], hg =>
    obtain ⟨x, rfl, r1⟩ := r.inv1
    have hg : (if ys.length ≤ lim then some (D.int ys.length) else none) = some z := hg
    split at hg
    · rename_i hl
      cases hg
      cases r1
      exact .inr ⟨_, rfl, by rw [str_len]; exact lim_of hl, by rw [str_len]; exact k _ F H w .refl (.int _)⟩
    · cases hg
/-- list(x) of a text -/
def rListS : List V → Hp → VK → Prop := fun xs H Q => ∃ z : Str, xs = [.str z] ∧ z.length ≤ sizeLine ∧ ∀ l, H l = none → Q (.ref l) (upd H l (.lst (z.cps.toList.map fun c => V.str ⟨#[c]⟩)))
theorem sign_vals {z : Str} {acc : Array Value} (h : ItemsOf (SignAt z) acc z.cps.size) : Vals (z.cps.toList.map fun c => V.str ⟨#[c]⟩) acc.toList := by
  refine vals_of_idx _ _ (by rw [List.length_map, Array.length_toList, Array.length_toList, h.1]) fun i v e => ?_
  obtain ⟨c, t, e1, e2⟩ := h.2 i v (by rw [← Array.getElem?_toList]; exact e)
  exact ⟨V.str ⟨#[c]⟩, by rw [List.getElem?_map, Array.getElem?_toList, e1]; rfl, t, e2⟩
theorem call_listS (hc : X.calm = true) : CallR X (.type "list") rListS := by
  intro pins s σ H xs us Q I r h
  obtain ⟨z, rfl, hz, q⟩ := h
  obtain ⟨u, rfl, t, rfl⟩ := vals1 r
  refine call_list_str (I.ok.hd hc) z t (fun h' tk acc c kp e it => ?_) hz
  refine ⟨.ref s.heap.objs.size, _, I.laid (t' := tk) kp (Nat.le_refl _) (show ObjOk X.prog X.w _ h' _ (.lst _) from ⟨?_, acc.toList, c, sign_vals it, by rw [Array.toArray_toList]; exact e⟩), rfl, q _ (I.hok.fresh (Nat.le_refl _))⟩
  rw [List.length_map, Array.length_toList]
  exact hz
def rListAll (K : PySem.W.Frag) : List V → Hp → VK → Prop := fun xs H Q => (∃ p ys, xs = [.ref p] ∧ (SqL K H p ys ∨ SqT K H p ys) ∧ ∀ l, H l = none → Q (.ref l) (upd H l (.lst ys))) ∨ rListS xs H Q
theorem cr_list (hc : X.calm = true) : CallR X (.type "list") (rListAll X.K) := call_list_of.or (call_listS hc)
theorem rep_ints {A : List Addr} {F : Hp} : ∀ ns : List Int, RepL K G A F (ns.map D.int) (ns.map V.int)
  | [] => .nil
  | n :: ns => .cons (.int n) (rep_ints ns)
theorem rep_signs {A : List Addr} {F : Hp} : ∀ s : List Nat, RepL K G A F (s.map fun c => D.str [c]) (s.map fun c => V.str ⟨#[c]⟩)
  | [] => .nil
  | c :: s => .cons (.str [c]) (rep_signs s)
section
variable {A : List Addr} {F H : Hp} {S : Sh} {Ls : List Addr} {Q : VK} {ds : List D} {vs : List V} {p : Addr}
/-- a list that is laid is data -/
theorem lay_lst {d : D} (w : WR K G A F H S Ls) (np : H p = none) (r : RepL K G A F ds vs) (k : ∀ v F' H', WR K G A F' H' S Ls → Ext A F H Ls A F' H' Ls → Rep K G A F' d v → Q v H') (e : d = .lst ds) : Q (.ref p) (upd H p (.lst vs)) := by
  subst e
  exact k _ (upd F p (.lst vs)) _ (w.lay np) (.lay w np) (.lst upd_same (r.mono (List.prefix_refl _) (same_new (w.nf np))))
theorem lay_tup {d : D} (w : WR K G A F H S Ls) (np : H p = none) (r : RepL K G A F ds vs) (k : ∀ v F' H', WR K G A F' H' S Ls → Ext A F H Ls A F' H' Ls → Rep K G A F' d v → Q v H') (e : d = .tup ds) : Q (.ref p) (upd H p (.tup vs)) := by
  subst e
  exact k _ (upd F p (.tup vs)) _ (w.lay np) (.lay w np) (.tup (.of upd_same) (r.mono (List.prefix_refl _) (same_new (w.nf np))))
end
theorem bi_list : CallD G K (rListAll K) (biD .list) := by
  intro A F H S Ls ds z xs Q w r hg k
  match ds, hg with
  | [.tup ys], hg =>
    cases hg
    obtain ⟨x, rfl, r1⟩ := r.inv1
    cases r1 with
    | @tup _ a vs h1 h2 => exact .inl ⟨a, vs, rfl, .inr (SqT.mono w.sub h1), fun p np => lay_lst w np h2 k rfl⟩
  | [.lst ys], hg =>
    cases hg
    obtain ⟨x, rfl, r1⟩ := r.inv1
    cases r1 with
    | @lst _ a vs h1 h2 => exact .inl ⟨a, vs, rfl, .inl (.of (w.sub _ _ h1)), fun p np => lay_lst w np h2 k rfl⟩
  | [.scr ys], hg =>
    cases hg
    obtain ⟨x, rfl, r1⟩ := r.inv1
    cases r1 with
    | @scr _ a h1 => exact .inl ⟨a, _, rfl, .inl (w.sub.seq h1), fun p np => lay_lst w np (rep_ints ys) k rfl⟩
  | [.str ys], hg =>
    obtain ⟨x, rfl, r1⟩ := r.inv1
    have hg : (if ys.length ≤ lim then some (D.lst (ys.map fun c => D.str [c])) else none) = some z := hg
    split at hg
    · rename_i hl
      cases hg
      cases r1
      exact .inr ⟨_, rfl, by rw [str_len]; exact lim_of hl, fun p np => lay_lst w np (rep_signs ys) k rfl⟩
    · cases hg
def rTupleAll (K : PySem.W.Frag) : List V → Hp → VK → Prop := fun xs H Q => ∃ p ys, xs = [.ref p] ∧ ((SqL K H p ys ∧ ∀ l, H l = none → Q (.ref l) (upd H l (.tup ys))) ∨ (SqT K H p ys ∧ Q (.ref p) H))
theorem cr_tuple : CallR X (.type "tuple") (rTupleAll X.K) := call_tuple_of
theorem bi_tuple : CallD G K (rTupleAll K) (biD .tuple) := by
  intro A F H S Ls ds z xs Q w r hg k
  match ds, hg with
  | [.tup ys], hg =>
    cases hg
    obtain ⟨x, rfl, r1⟩ := r.inv1
    cases r1 with
    | @tup _ a vs h1 h2 => exact ⟨a, vs, rfl, .inr ⟨SqT.mono w.sub h1, k _ F H w .refl (.tup h1 h2)⟩⟩
  | [.lst ys], hg =>
    cases hg
    obtain ⟨x, rfl, r1⟩ := r.inv1
    cases r1 with
    | @lst _ a vs h1 h2 => exact ⟨a, vs, rfl, .inl ⟨.of (w.sub _ _ h1), fun p np => lay_tup w np h2 k rfl⟩⟩
/-! ### numbers and texts -/
theorem dig_num : ∀ (f n : Nat), n < 10 ^ (f + 1) → digF f n = TL.numL n
  | 0, n, h => by
    rw [TL.numL_lt (by omega)]
    rfl
  | f + 1, n, h => by
    unfold digF
    split
    · rename_i c
      rw [TL.numL_lt c]
    · rename_i c
      rw [TL.numL_step (by omega), dig_num f (n / 10) (by
        rw [Nat.pow_succ] at h
        omega)]
def rStrAll : List V → Hp → VK → Prop := fun xs H Q => (∃ i, xs = [.int i] ∧ i.natAbs.log2 < 1920 ∧ Q (.str (toString i)) H) ∨ ∃ a, xs = [.str a] ∧ Q (.str a) H
theorem cr_str : CallR X (.type "str") rStrAll := call_str_int.or SkE.call_str_str
theorem bi_str : CallD G K rStrAll (biD .str) := by
  intro A F H S Ls ds z xs Q w r hg k
  match ds, hg with
  | [.int i], hg =>
    obtain ⟨x, rfl, r1⟩ := r.inv1
    have hg : (if 0 ≤ i ∧ i < 1000000000000000 then some (D.str (dig i.toNat)) else none) = some z := hg
    split at hg
    · rename_i c
      cases hg
      cases r1
      refine .inl ⟨i, rfl, ?_, ?_⟩
      · by_cases h0 : i.natAbs = 0
        · rw [h0]; decide
        · exact (Nat.log2_lt h0).mpr (Nat.lt_of_lt_of_le (show i.natAbs < 2 ^ 50 by omega) (Nat.pow_le_pow_right (by decide) (by omega)))
      · have e : (toString i : Str) = ⟨(dig i.toNat).toArray⟩ := by
          have e1 : i = ((i.toNat : Nat) : Int) := by omega
          rw [show dig i.toNat = TL.numL i.toNat from dig_num 14 _ (by omega)]
          conv => lhs; rw [e1]
          exact SX.num_S i.toNat
        rw [e]
        exact k _ F H w .refl (.str _)
    · cases hg
  | [.str s], hg =>
    obtain ⟨x, rfl, r1⟩ := r.inv1
    cases hg
    cases r1
    exact .inr ⟨_, rfl, k _ F H w .refl (.str _)⟩
def rIntAll : List V → Hp → VK → Prop := fun xs H Q => ((∃ i, xs = [.int i] ∧ Q (.int i) H) ∨ ∃ k, xs = [.bl k] ∧ Q (.int (if k then 1 else 0)) H) ∨ ∃ a n, xs = [.str a] ∧ PySem.intText? a = some n ∧ a.length ≤ 640 ∧ Q (.int n) H
theorem cr_int : CallR X (.type "int") rIntAll := call_int1.or call_int_str
theorem bi_int : CallD G K rIntAll (biD .int) := by
  intro A F H S Ls ds z xs Q w r hg k
  match ds, hg with
  | [.int i], hg =>
    obtain ⟨x, rfl, r1⟩ := r.inv1
    cases hg
    cases r1
    exact .inl (.inl ⟨i, rfl, k _ F H w .refl (.int _)⟩)
  | [.bl i], hg =>
    obtain ⟨x, rfl, r1⟩ := r.inv1
    cases hg
    cases r1
    exact .inl (.inr ⟨i, rfl, k _ F H w .refl (.int _)⟩)
  | [.str s], hg =>
    obtain ⟨x, rfl, r1⟩ := r.inv1
    have hg : (if s ≠ [] ∧ s.all (fun c => 48 ≤ c && c ≤ 57) ∧ s.length ≤ 640 then some (D.int (valD s)) else none) = some z := hg
    split at hg
    · rename_i c
      cases hg
      cases r1
      refine .inr ⟨_, _, rfl, SX.int_S c.2.1 c.1 (by omega), by rw [str_len]; exact c.2.2, k _ F H w .refl (.int _)⟩
    · cases hg
/-! ### lists of numbers, of truths, of texts -/
theorem ints_vs {A : List Addr} {F : Hp} : ∀ {ds : List D} {vs : List V} {ns : List Int}, RepL K G A F ds vs → intsD ds = some ns → vs = ns.map V.int
  | [], _, ns, r, h => by cases h; cases r; rfl
  | d :: ds, _, ns, r, h => by
    cases r with
    | cons r1 r2 =>
      cases d with
      | int i =>
        have h : (intsD ds).map (i :: ·) = some ns := h
        cases e : intsD ds with
        | none => rw [e] at h; cases h
        | some ms =>
          rw [e] at h
          cases h
          cases r1
          rw [ints_vs r2 e]
          rfl
      | _ => cases h
theorem bls_vs {A : List Addr} {F : Hp} : ∀ {ds : List D} {vs : List V} {ns : List Bool}, RepL K G A F ds vs → blsD ds = some ns → vs = ns.map V.bl
  | [], _, ns, r, h => by cases h; cases r; rfl
  | d :: ds, _, ns, r, h => by
    cases r with
    | cons r1 r2 =>
      cases d with
      | bl i =>
        have h : (blsD ds).map (i :: ·) = some ns := h
        cases e : blsD ds with
        | none => rw [e] at h; cases h
        | some ms =>
          rw [e] at h
          cases h
          cases r1
          rw [bls_vs r2 e]
          rfl
      | _ => cases h
theorem strs_vs {A : List Addr} {F : Hp} : ∀ {ds : List D} {vs : List V} {ns : List (List Nat)}, RepL K G A F ds vs → strsD ds = some ns → vs = (ns.map fun s => (⟨s.toArray⟩ : Str)).map V.str
  | [], _, ns, r, h => by cases h; cases r; rfl
  | d :: ds, _, ns, r, h => by
    cases r with
    | cons r1 r2 =>
      cases d with
      | str i =>
        have h : (strsD ds).map (i :: ·) = some ns := h
        cases e : strsD ds with
        | none => rw [e] at h; cases h
        | some ms =>
          rw [e] at h
          cases h
          cases r1
          rw [strs_vs r2 e]
          rfl
      | _ => cases h
theorem bi_sum : CallD G K (rSum K) (biD .sum) := by
  intro A F H S Ls ds z xs Q w r hg k
  match ds, hg with
  | [.lst ys], hg =>
    obtain ⟨x, rfl, r1⟩ := r.inv1
    have hg : (intsD ys).map (fun ns => D.int ns.sum) = some z := hg
    cases e : intsD ys with
    | none => rw [e] at hg; cases hg
    | some ns =>
      rw [e] at hg
      cases hg
      cases r1 with
      | @lst _ a vs h1 h2 =>
        rw [ints_vs h2 e] at h1
        exact ⟨a, ns, rfl, .of (w.sub _ _ h1), k _ F H w .refl (.int _)⟩
theorem maxL_ok : ∀ (ns : List Int) (m : Int), m ∈ ns → (∀ y ∈ ns, y ≤ m) → m = maxL ns
  | [], m, h, _ => by cases h
  | [x], m, h, _ => by simpa [maxL] using h
  | x :: y :: r, m, h, g => by
    have g1 := g x List.mem_cons_self
    simp only [maxL]
    rcases List.mem_cons.mp h with e | e
    · subst e
      have : maxL (y :: r) ≤ m := by
        have aux : ∀ (l : List Int), l ≠ [] → maxL l ∈ l := by
          intro l
          induction l with
          | nil => intro h; exact (h rfl).elim
          | cons a t ih =>
            intro _
            cases t with
            | nil => simp [maxL]
            | cons b t =>
              simp only [maxL]
              have := ih (by simp)
              rcases Int.le_total a (maxL (b :: t)) with q | q
              · rw [Int.max_eq_right q]; exact List.mem_cons_of_mem _ this
              · rw [Int.max_eq_left q]; exact List.mem_cons_self
        exact g _ (List.mem_cons_of_mem _ (aux _ (by simp)))
      omega
    · have := maxL_ok (y :: r) m e fun z hz => g z (List.mem_cons_of_mem _ hz)
      omega
theorem minL_ok : ∀ (ns : List Int) (m : Int), m ∈ ns → (∀ y ∈ ns, m ≤ y) → m = minL ns
  | [], m, h, _ => by cases h
  | [x], m, h, _ => by simpa [minL] using h
  | x :: y :: r, m, h, g => by
    have g1 := g x List.mem_cons_self
    simp only [minL]
    rcases List.mem_cons.mp h with e | e
    · subst e
      have : m ≤ minL (y :: r) := by
        have aux : ∀ (l : List Int), l ≠ [] → minL l ∈ l := by
          intro l
          induction l with
          | nil => intro h; exact (h rfl).elim
          | cons a t ih =>
            intro _
            cases t with
            | nil => simp [minL]
            | cons b t =>
              simp only [minL]
              have := ih (by simp)
              rcases Int.le_total a (minL (b :: t)) with q | q
              · rw [Int.min_eq_left q]; exact List.mem_cons_self
              · rw [Int.min_eq_right q]; exact List.mem_cons_of_mem _ this
        exact g _ (List.mem_cons_of_mem _ (aux _ (by simp)))
      omega
    · have := minL_ok (y :: r) m e fun z hz => g z (List.mem_cons_of_mem _ hz)
      omega
theorem bi_max : CallD G K (rMax K) (biD .max) := by
  intro A F H S Ls ds z xs Q w r hg k
  match ds, hg with
  | [.lst ys], hg =>
    obtain ⟨x, rfl, r1⟩ := r.inv1
    have hg : (intsD ys).bind (fun ns => if ns = [] then none else some (D.int (maxL ns))) = some z := hg
    cases e : intsD ys with
    | none => rw [e] at hg; cases hg
    | some ns =>
      rw [e] at hg
      have hg : (if ns = [] then none else some (D.int (maxL ns))) = some z := hg
      split at hg
      · cases hg
      · rename_i ne
        cases hg
        cases r1 with
        | @lst _ a vs h1 h2 =>
          rw [ints_vs h2 e] at h1
          exact ⟨a, ns, rfl, .of (w.sub _ _ h1), List.length_pos_iff.mpr ne, fun m h3 h4 => by rw [maxL_ok ns m h3 h4]; exact k _ F H w .refl (.int _)⟩
theorem bi_min : CallD G K (rMin K) (biD .min) := by
  intro A F H S Ls ds z xs Q w r hg k
  match ds, hg with
  | [.lst ys], hg =>
    obtain ⟨x, rfl, r1⟩ := r.inv1
    have hg : (intsD ys).bind (fun ns => if ns = [] then none else some (D.int (minL ns))) = some z := hg
    cases e : intsD ys with
    | none => rw [e] at hg; cases hg
    | some ns =>
      rw [e] at hg
      have hg : (if ns = [] then none else some (D.int (minL ns))) = some z := hg
      split at hg
      · cases hg
      · rename_i ne
        cases hg
        cases r1 with
        | @lst _ a vs h1 h2 =>
          rw [ints_vs h2 e] at h1
          exact ⟨a, ns, rfl, .of (w.sub _ _ h1), List.length_pos_iff.mpr ne, fun m h3 h4 => by rw [minL_ok ns m h3 h4]; exact k _ F H w .refl (.int _)⟩
def rMin2 : List V → Hp → VK → Prop := fun xs H Q => ∃ i j, xs = [.int i, .int j] ∧ Q (.int (if j < i then j else i)) H
def rMax2 : List V → Hp → VK → Prop := fun xs H Q => ∃ i j, xs = [.int i, .int j] ∧ Q (.int (if j > i then j else i)) H
theorem cr_min2 (hc : X.calm = true) : CallR X (.builtin "min") rMin2 := call_min2 hc
theorem cr_max2 (hc : X.calm = true) : CallR X (.builtin "max") rMax2 := call_max2 hc
theorem bi_min2 : CallD G K rMin2 (biD .min2) := by
  intro A F H S Ls ds z xs Q w r hg k
  match ds, hg with
  | [.int i, .int j], hg =>
    obtain ⟨x, y, rfl, r1, r2⟩ := r.inv2
    cases hg
    cases r1
    cases r2
    exact ⟨i, j, rfl, k _ F H w .refl (.int _)⟩
theorem bi_max2 : CallD G K rMax2 (biD .max2) := by
  intro A F H S Ls ds z xs Q w r hg k
  match ds, hg with
  | [.int i, .int j], hg =>
    obtain ⟨x, y, rfl, r1, r2⟩ := r.inv2
    cases hg
    cases r1
    cases r2
    exact ⟨i, j, rfl, k _ F H w .refl (.int _)⟩
theorem bi_all : CallD G K (rAll K) (biD .all) := by
  intro A F H S Ls ds z xs Q w r hg k
  match ds, hg with
  | [.lst ys], hg =>
    obtain ⟨x, rfl, r1⟩ := r.inv1
    have hg : (blsD ys).map (fun ns => D.bl (ns.all id)) = some z := hg
    cases e : blsD ys with
    | none => rw [e] at hg; cases hg
    | some ns =>
      rw [e] at hg
      cases hg
      cases r1 with
      | @lst _ a vs h1 h2 =>
        rw [bls_vs h2 e] at h1
        exact ⟨a, ns, rfl, .of (w.sub _ _ h1), k _ F H w .refl (.bl _)⟩
theorem bi_any : CallD G K (rAny K) (biD .any) := by
  intro A F H S Ls ds z xs Q w r hg k
  match ds, hg with
  | [.lst ys], hg =>
    obtain ⟨x, rfl, r1⟩ := r.inv1
    have hg : (blsD ys).map (fun ns => D.bl (ns.any id)) = some z := hg
    cases e : blsD ys with
    | none => rw [e] at hg; cases hg
    | some ns =>
      rw [e] at hg
      cases hg
      cases r1 with
      | @lst _ a vs h1 h2 =>
        rw [bls_vs h2 e] at h1
        exact ⟨a, ns, rfl, .of (w.sub _ _ h1), k _ F H w .refl (.bl _)⟩
end
end FT
namespace FT
open PySem PySem.Spec PyProof.Rows L2 PySem.Froz
/-! ### a set of texts, made of a list and sorted at once -/
/-- at a stands a set of the texts l -/
def TxSet (P : Program) (w : World) (h : Heap) (a : Addr) (l : List Str) : Prop :=
  ∃ D : SD, h.get? a = some (sObj "set" D) ∧ TxOk P w D l ∧ l.Nodup ∧ Ris D.2.2.place.toList ∧ (w.params.followText "set-order" = true ∨ D.2.2.led = true)
theorem tail_ris {ep : Nat} {ee : Array (Int × Value)} {tt : SetTable} {b : Bool} (h : Ris tt.place.toList) : Ris (tailTx ep ee tt b).2.2.place.toList := by
  unfold tailTx
  split
  · exact relayAll_ris tt ee _
  · exact h
theorem tail_led {ep : Nat} {ee : Array (Int × Value)} {tt : SetTable} {b : Bool} : (tailTx ep ee tt b).2.2.led = tt.led := by
  unfold tailTx
  split
  · exact relayAll_led tt ee _
  · rfl
theorem addTx_ris {h : Int} {v : Value} {D : SD} (r : Ris D.2.2.place.toList) : Ris (addTx h v D).2.2.place.toList := by
  unfold addTx
  refine tail_ris ?_
  have q := layNew_ris D.2.2 D.1 h v r
  split <;> exact q
theorem addTx_led {h : Int} {v : Value} {D : SD} : (addTx h v D).2.2.led = D.2.2.led := by
  unfold addTx
  rw [tail_led]
  have q := layNew_led D.2.2 D.1 h v
  split <;> exact q
section
variable {P : Program} {w : World} {A : Around} {E : Value → Shared → Prop} {s : Shared} {a : Addr}
/-- a text that is there already -/
theorem add_there {D : SD} {l : List Str} {k : Str} {u : Tok} {Q : Bool → Shared → Prop} (hat : s.heap.get? a = some (sObj "set" D)) (F : TxOk P w D l) (hin : k ∈ l) (hb : l.length < scanBound) (h : Q false s) :
    wpAny (model P w) A (setAddHashed a (.str k u) (hashStr w k)) Q E s := by
  obtain ⟨ee, ep, tt⟩ := D
  have hdat : (sObj "set" (ee, ep, tt)).data = .set ee ep tt := rfl
  have hfit : tt.fits ee.size = true := F.fit
  have hels : ElemsOf (strKind P w) ee.toList := F.el
  have hlen : ee.size = l.length := F.sz
  have hisk : (strKind P w).is k (.str k u) = true := is_str k u
  unfold setAddHashed setAddHashedIn
  refine wpAny_holding (wpAny_bind (wpAny_setState_of hat hdat hfit ?_))
  dsimp only
  rw [byScan_of rfl (by omega) hels]
  simp only [↓reduceIte]
  unfold setAddByScan
  refine wpAny_bind ?_
  refine wpAny_bind (wpAny_rule ?_)
  refine wpAny_bind (wpAny_setScan_of (knd := strKind P w) (k := k) hisk hat hdat hfit hels ?_)
  obtain ⟨e0, he0, hk0⟩ := (F.mem k).mp hin
  cases hfi : List.findIdx? (fun e => (strKind P w).is k e.2) ee.toList with
  | none => exact absurd (List.findIdx?_eq_none_iff.mp hfi e0 he0) (by rw [hk0]; decide)
  | some j =>
    dsimp only
    exact wpAny_pure (wpAny_pure h)
/-- one more text -/
theorem add_txt {l : List Str} {k : Str} {u : Tok} {Q : Bool → Shared → Prop} (R : TxSet P w s.heap a l) (hb : l.length + 1 < scanBound)
    (h : ∀ b h', Heap.SameBut a s.heap h' → TxSet P w h' a (if k ∈ l then l else k :: l) → Q b { s with heap := h' }) : wpAny (model P w) A (setAddHashed a (.str k u) (hashStr w k)) Q E s := by
  obtain ⟨D, hat, F, nd, r, led⟩ := R
  by_cases hin : k ∈ l
  · refine add_there hat F hin (by omega) (h false s.heap (Heap.SameBut.refl a s.heap) ?_)
    rw [if_pos hin]
    exact ⟨D, hat, F, nd, r, led⟩
  · refine add_x hat F hin hb (h true _ (Heap.SameBut.update s.heap a _) ?_)
    rw [if_neg hin]
    exact ⟨_, get_upd _ hat rfl, add_ok u F, List.nodup_cons.mpr ⟨hin, nd⟩, addTx_ris r, led.imp id fun z => by rw [addTx_led]; exact z⟩
theorem TxSet.setOf {h : Heap} {l : List Str} (R : TxSet P w h a l) (hb : l.length < scanBound) : h.SetOf (strKind P w) a (fun k => decide (k ∈ l)) l.length := by
  obtain ⟨D, hat, F, nd, r, led⟩ := R
  exact ⟨_, D.1, D.2.1, D.2.2, hat, ⟨rfl, rfl, rfl⟩, rfl, F.el, fun k => by rw [decide_eq_true_eq]; exact F.mem k, by rw [F.sz]; exact hb, F.fit, F.sz⟩
theorem TxSet.at {h h' : Heap} {l : List Str} (R : TxSet P w h a l) (k : ∀ o, h.get? a = some o → h'.get? a = some o) : TxSet P w h' a l := by
  obtain ⟨D, hat, z⟩ := R
  exact ⟨D, k _ hat, z⟩
theorem TxSet.fresh {h : Heap} : TxSet P w (h.push { cls := .type "set", dict := none, data := .set #[] 0 (.fresh 0 0 (!w.params.followText "set-order")) }) h.objs.size [] :=
  ⟨(#[], 0, .fresh 0 0 (!w.params.followText "set-order")), Heap.get?_push_size _ rfl, TxOk.nil (by rfl), List.nodup_nil, List.Pairwise.nil, by
    show _ ∨ (!w.params.followText "set-order") = true
    cases w.params.followText "set-order"
    · exact .inr rfl
    · exact .inl rfl⟩
end
/-- the texts met so far, each once -/
def metL : List Str → List Str → List Str
  | acc, [] => acc
  | acc, x :: xs => metL (if x ∈ acc then acc else x :: acc) xs
theorem metL_snoc : ∀ (xs acc : List Str) (y : Str), metL acc (xs ++ [y]) = (if y ∈ metL acc xs then metL acc xs else y :: metL acc xs)
  | [], acc, y => rfl
  | x :: xs, acc, y => metL_snoc xs _ y
theorem metL_len : ∀ (xs acc : List Str), (metL acc xs).length ≤ acc.length + xs.length
  | [], acc => Nat.le_refl _
  | x :: xs, acc => by
    have := metL_len xs (if x ∈ acc then acc else x :: acc)
    have h2 : (if x ∈ acc then acc else x :: acc).length ≤ acc.length + 1 := by split <;> simp
    simp only [metL, List.length_cons]
    omega
section
variable {prog : Program} {w : World} {A : Around} {R : Result → Shared → Prop} {I : Addr} {fp wr : List Addr} {G : Array GenState → Array GenState → Prop} {n : Nat} {P : Nat → Value → Prop} {St : Nat → Shared → Prop}
theorem loopTx (W : WalksS prog w A.in1 I fp wr G n P St) (S : Addr) (hSf : S ∉ fp) (xs : List Str) (hsz : xs.length = n) (hn1 : n + 1 < scanBound) (hval : ∀ i v, P i v → ∃ t, v = .str (xs.getD i Str.empty) t) :
    ∀ (k i : Nat) (s : Shared), n - i = k → i ≤ n → St i s → TxSet prog w s.heap S (metL [] (xs.take i)) →
      (∀ s', Moved (S :: wr) G s s' → TxSet prog w s'.heap S (metL [] xs) → R (.ok (.ret .none)) s') → codeAny (model prog w) A (.builtin "set.update.loop" ⟨[.ref S, .ref I], []⟩) R s := by
  have hSw : S ∉ wr := fun h => hSf (W.sub _ h)
  have more : ∀ b ∈ wr, b ∈ S :: wr := fun b hb => List.mem_cons_of_mem _ hb
  intro k
  induction k with
  | zero =>
    intro i s hk hi hst hS hR
    have hin : i = n := by omega
    subst hin
    refine codeAny_builtin PyProof.Rows.F.entry_set_update_loop ?_
    rw [Around.under_plainId PyProof.Rows.F.plain_set_update_loop _]
    show wpAny _ A.in1 (pyNext (.ref I) >>= _) _ _ s
    refine wpAny_bind (W.done s _ _ hst fun s' hm => ?_)
    show wpAny _ A.in1 (ret Value.none) _ _ s'
    refine wpAny_pure (hR s' (hm.mono more) ?_)
    rw [List.take_of_length_le (by omega)] at hS
    exact hS.at fun o e => hm.heap S o hSw e
  | succ k ih =>
    intro i s hk hi hst hS hR
    have hlt : i < n := by omega
    refine codeAny_builtin PyProof.Rows.F.entry_set_update_loop ?_
    rw [Around.under_plainId PyProof.Rows.F.plain_set_update_loop _]
    show wpAny _ A.in1 (pyNext (.ref I) >>= _) _ _ s
    refine wpAny_bind (W.item i s _ _ hlt hst fun v s' hP hst' hm => ?_)
    obtain ⟨t, rfl⟩ := hval i v hP
    have hS' : TxSet prog w s'.heap S (metL [] (xs.take i)) := hS.at fun o e => hm.heap S o hSw e
    have hlm : (metL [] (xs.take i)).length ≤ i := by
      have h1 := metL_len (xs.take i) []
      have h2 : (xs.take i).length ≤ i := List.length_take_le ..
      simp only [List.length_nil] at h1
      omega
    show wpAny _ A.in1 (holding [Value.str (xs.getD i Str.empty) t] (setAdd S (.str (xs.getD i Str.empty) t)) >>= _) _ _ s'
    refine wpAny_bind (wpAny_holding ?_)
    unfold setAdd
    refine wpAny_holding ?_
    refine wpAny_bind ((PySem.strKind prog w).pyHash (k := xs.getD i Str.empty) (strKind_is _ _ _ _) ?_)
    refine add_txt (P := prog) (w := w) (s := { s' with toks := s'.toks + 1 }) hS' (by omega) fun b h' sb hS2 => ?_
    have hi' : i < xs.length := by omega
    have hS3 : TxSet prog w h' S (metL [] (xs.take (i + 1))) := by
      rw [List.take_succ_eq_append_getElem hi', metL_snoc]
      have e : xs.getD i Str.empty = xs[i] := by simp [List.getD, List.getElem?_eq_getElem hi']
      rw [e] at hS2
      exact hS2
    refine wpAny_pure ⟨plainId_quiet PyProof.Rows.F.plain_set_update_loop _, ih (i + 1) _ (by omega) hlt (W.frame _ s' _ _ hst' (Nat.le_succ _) fun c hc o e => ?_) hS3 fun s'' hm'' hS'' => ?_⟩
    · rw [sb.2 c (fun h : c = S => hSf (by rw [← h]; exact hc))]; exact e
    · refine hR s'' (Moved.trans W.gtrans ((hm.mono more).then_heap (Nat.le_succ _) fun c o hc e => ?_) hm'') hS''
      rw [sb.2 c (fun h : c = S => hc (by rw [h]; exact List.mem_cons_self))]; exact e
end
end FT
namespace FT
open PySem PySem.Spec PyProof.Rows L2 PySem.Froz
/-- set(), just made -/
abbrev noTx (w : World) : Obj := { cls := .type "set", dict := none, data := .set #[] 0 (.fresh 0 0 (!w.params.followText "set-order")) }
section
variable {prog : Program} {w : World} {A : Around} {E : Value → Shared → Prop} {s : Shared}
theorem code_new_tx (x : Value) {Q1 : Value → Shared → Prop} (h : Q1 (.ref s.heap.objs.size) { s with heap := s.heap.push (noTx w) }) :
    codeAny (model prog w) A (.call (.builtin "set.__new__") ⟨[.type "set", x], []⟩) (wants Q1 E) s := by
  refine codeAny_of_tree ?_
  show wpAny _ A.in1 (do checkBuiltinCall "set.__new__" ⟨[.type "set", x], []⟩; again (.builtin "set.__new__" ⟨[.type "set", x], []⟩)) _ _ s
  refine wpAny_bind (wpAny_of_eq (PySem.F.newCall_set_1 x) (wpAny_pure ⟨plainId_quiet PySem.F.plain_set_new _, codeAny_builtin PySem.F.entry_set_new ?_⟩))
  rw [Around.under_plainId PySem.F.plain_set_new _]
  unfold Builtin.«set.__new__» Builtin.Frozenset.newClass
  have hself := PySem.sub_set_self
  obtain ⟨hp, g, d, tk, os⟩ := s
  dsimp only
  wp_walk
  refine wpAny_askSetting (wpAny_pure ?_)
  dsimp only
  simp only [newObj]
  refine wpAny_bind (wpAny_alloc (wpAny_pure ?_))
  exact wpAny_pure h
set_option maxHeartbeats 3200000 in
theorem set_of_txts {l : Addr} {its : Array Value} {xs : List Str} {Q : Value → Shared → Prop} (hh : A.handled = none) (hl : s.heap.IsList l its) (hi : PyProof.Rows.StrsAre its.toList xs) (hb : its.size + 1 < scanBound)
    (h : ∀ (h' : Heap) (tk : Nat), TxSet prog w h' s.heap.objs.size (metL [] xs) → (∀ b o, s.heap.get? b = some o → h'.get? b = some o) → Q (.ref s.heap.objs.size) { s with heap := h', toks := tk }) :
    wpAny (model prog w) A (call (.type "set") [.ref l]) Q E s := by
  obtain ⟨c0, tl0, hm0⟩ := PySem.F.called_set.mro
  have hmk := PySem.F.called_set.made
  have hsb := PySem.F.called_set.sub
  refine wpAny_call (codeAny_of_tree ?_)
  show wpAny _ _ (callAny (.type "set") _) _ _ _
  refine wpAny_pure ⟨Code.quiet_builtin _ (by decide +kernel), codeAny_builtin PySem.F.entry_type_call ?_⟩
  rw [Around.under_plain (weight_type_call_type "set" [.ref l] []) rfl]
  have hA1 := PySem.F.called_set.notType
  have hA2 := PySem.F.called_set.canCreate
  have hA3 := PySem.F.typeCall_set_1 (.ref l)
  repeat (any_goals (first | assumption | wp_step))
  refine codeAny_mono (code_new_tx (.ref l) (E := E) (Q1 := fun obj s1 => obj = .ref s.heap.objs.size ∧ s1 = { s with heap := s.heap.push (noTx w) }) ⟨rfl, rfl⟩) fun r s1 hr => ?_
  cases r with
  | error e => exact hr
  | ok fl =>
    cases fl with
    | ret obj =>
      obtain ⟨rfl, rfl⟩ := hr
      have hS : (s.heap.push (noTx w)).get? s.heap.objs.size = some (noTx w) := Heap.get?_push_size _ rfl
      have hT : Shared.TypeIs { s with heap := s.heap.push (noTx w) } (.ref s.heap.objs.size) "set" := ⟨_, hS, rfl⟩
      have hB1 := PySem.F.called_set.init.lookup
      have hB2 := PySem.F.called_set.init.bind (.ref s.heap.objs.size)
      repeat (any_goals (first | assumption | wp_step))
      refine codeAny_mono (codeAny_call_builtin (R := wants (fun r s2 => r = .none ∧ ∃ h' tk, s2 = { s with heap := h', toks := tk } ∧ TxSet prog w h' s.heap.objs.size (metL [] xs) ∧ (∀ b o, s.heap.get? b = some o → h'.get? b = some o)) E)
        PySem.F.called_set.init.plain PySem.F.entry_set_init (check_set_init_1 hT ?_)) fun r2 s2 hr2 => ?_
      · obtain ⟨ol, hol, hcl, nl, hdl⟩ := hl
        obtain ⟨ocls, odict, odata, oslots⟩ := ol
        simp only at hcl hdl
        subst hcl; subst hdl
        have hol2 : (s.heap.push (noTx w)).get? l = some { cls := .type "list", dict := odict, data := .seq its nl, slots := oslots } := Heap.get?_push_of_some _ hol
        have hsls := PySem.F.sub_list_set
        have hslf := PySem.F.sub_list_frozenset
        have hnd : (Value.type "list" == Value.type "dict") = false := by decide
        have hl1 : (s.heap.push (noTx w)).IsList l its := ⟨_, hol2, rfl, nl, rfl⟩
        unfold Builtin.«set.__init__» noKeywords Builtin.Frozenset.updateFrom
        generalize hPI : pyIter = PI
        wp_walk
        subst hPI
        refine wpAny_pyIter_list hl1 ?_
        refine wpAny_bind (wpAny_runValue ?_)
        have hlS : l < s.heap.objs.size := Heap.lt_size hol
        have h3 : A.in1.in1.in1.handled = none := by simp [hh]
        have nI : l ≠ (s.heap.push (noTx w)).objs.size := by
          rw [Heap.size_push]; exact Nat.ne_of_lt (Nat.lt_succ_of_lt hlS)
        have nS : s.heap.objs.size ∉ [(s.heap.push (noTx w)).objs.size, l] := by
          rw [Heap.size_push]; simp only [List.mem_cons, List.mem_singleton, List.not_mem_nil, or_false, not_or]
          exact ⟨Nat.ne_of_lt (Nat.lt_succ_self _), Nat.ne_of_gt hlS⟩
        have hsz : xs.length = its.size := by rw [← StrsAre.len_eq hi, Array.length_toList]
        refine loopTx ((Walks.list h3 _ l nI its).toS) s.heap.objs.size nS xs hsz (by omega) (fun i v hv => SS.strs_at hi i v (by rw [Array.getElem?_toList]; exact hv)) (its.size - 0) 0 _ (by omega) (Nat.zero_le _)
          ⟨⟨_, Heap.get?_push_size _ rfl, rfl, rfl⟩, (hl1.push _)⟩ ?start ?fin
        case start => exact TxSet.fresh.at fun o e => Heap.get?_push_of_some _ e
        case fin =>
          intro s' hm hS'
          obtain ⟨h', g', d', tk', os'⟩ := s'
          have eg : g' = s.gens := hm.gens
          have ed : d' = s.drawn := hm.drawn
          have eo : os' = s.os := hm.os
          subst eg; subst ed; subst eo
          show wpAny _ _ _ _ _ _
          refine wpAny_pure ?_
          show wpAny _ _ (ret Value.none) _ _ _
          refine wpAny_pure ⟨rfl, h', tk', rfl, hS', fun b o e => ?_⟩
          have hlt := Heap.lt_size e
          refine hm.heap b o ?_ (Heap.get?_push_of_some _ (Heap.get?_push_of_some _ e))
          simp only [List.mem_cons, List.mem_singleton, List.not_mem_nil, or_false, not_or]
          exact ⟨Nat.ne_of_lt hlt, by rw [Heap.size_push]; exact Nat.ne_of_lt (Nat.lt_succ_of_lt hlt)⟩
      · cases r2 with
        | error e => exact hr2
        | ok fl2 =>
          cases fl2 with
          | ret r =>
            obtain ⟨rfl, h', tk, rfl, hS', hk'⟩ := hr2
            repeat (any_goals (first | assumption | wp_step))
            exact h _ _ hS' hk'
          | _ => exact hr2.elim
    | _ => exact hr.elim
theorem strs_ex : ∀ (l : List Value), (∀ v ∈ l, ∃ k tk, v = Value.str k tk) → ∃ ks, StrsAre l ks
  | [], _ => ⟨[], .nil⟩
  | v :: l, h => by
    obtain ⟨k, tk, rfl⟩ := h v List.mem_cons_self
    obtain ⟨ks, hk⟩ := strs_ex l fun u hu => h u (List.mem_cons_of_mem _ hu)
    exact ⟨k :: ks, .cons k tk hk⟩
theorem strs_mem : ∀ {l : List Value} {ks : List Str}, StrsAre l ks → ∀ k, k ∈ ks ↔ ∃ v ∈ l, (strKind prog w).is k v = true
  | _, _, .nil, k => by simp
  | _, _, .cons x t hr, k => by
    rw [List.mem_cons, strs_mem hr k]
    constructor
    · rintro (z | ⟨v, hv, hk⟩)
      · subst z; exact ⟨_, List.mem_cons_self, strKind_is prog w _ _⟩
      · exact ⟨v, List.mem_cons_of_mem _ hv, hk⟩
    · rintro ⟨v, hv, hk⟩
      rcases List.mem_cons.mp hv with z | z
      · subst z
        exact .inl ((strKind prog w).inj _ k x hk (strKind_is prog w x t))
      · exact .inr ⟨v, z, hk⟩
theorem perm_of_in : ∀ (l ks : List Str), l.Nodup → (∀ x ∈ l, x ∈ ks) → ks.length = l.length → ks.Perm l
  | [], ks, _, _, h => by
    have e : ks = [] := List.eq_nil_of_length_eq_zero h
    rw [e]
  | x :: r, ks, nd, sub, h => by
    have hx : x ∈ ks := sub x List.mem_cons_self
    have hp := List.perm_cons_erase hx
    have hl : (ks.erase x).length = r.length := by
      have := hp.length_eq
      simp only [List.length_cons] at this h
      omega
    refine hp.trans ((perm_of_in r (ks.erase x) (List.nodup_cons.mp nd).2 (fun y hy => ?_) hl).cons x)
    have ne : y ≠ x := fun z => (List.nodup_cons.mp nd).1 (by rw [← z]; exact hy)
    exact (List.mem_erase_of_ne ne).mpr (sub y (List.mem_cons_of_mem _ hy))
theorem sorted_tx {a : Addr} {l : List Str} {Q : Value → Shared → Prop} (R : TxSet prog w s.heap a l) (hh : A.handled = none) (h64 : l.length < 64)
    (hQ : ∀ s' p (out : Array Value) (c : Nat) (ys : List Str), (∀ b o, s.heap.get? b = some o → s'.heap.get? b = some o) → s'.gens = s.gens → s'.os = s.os → s.heap.objs.size ≤ p →
      s'.heap.get? p = some (seqObj "list" out c) → StrsAre out.toList ys → sortedS ys = true → ys.Perm l → Q (.ref p) s') :
    wpAny (model prog w) A (call (.builtin "sorted") [.ref a]) Q E s := by
  have hso := R.setOf (by unfold scanBound; omega)
  obtain ⟨⟨ee, ep, tt⟩, hat, F, nd, ris, led⟩ := R
  have hels : ElemsOf (strKind prog w) ee.toList := F.el
  have hlen : ee.size = l.length := F.sz
  refine Calls.call_function_entry kind_sorted plain_sorted entry_sorted (args_sorted1 _) ?_
  unfold Builtin.«sorted»
  refine wpAny_bind (m := checkCount "sorted" 1 1 _) (wpAny_pure ?_)
  refine wpAny_bind (collect_set (A := A.in1) (es := ee) (t := tt) hh ⟨_, hat, rfl, rfl⟩ F.fit (by rw [hlen]; unfold scanBound; omega) ris led fun s1 vs k1 hz g1 o1 pm => ?_)
  have hvl : vs.length = l.length := by rw [pm.length_eq, List.length_map, Array.length_toList]; exact hlen
  obtain ⟨ks, hks⟩ := strs_ex vs fun v hv => by
    obtain ⟨e, he, q⟩ := List.mem_map.mp (pm.mem_iff.mp hv)
    obtain ⟨⟨k, hk, _⟩, _⟩ := hels e he
    obtain ⟨t, et⟩ := Value.isStrOf_shape (x := k) (v := e.2) hk
    exact ⟨k, t, by rw [← q, et]⟩
  have hmem : ∀ k, k ∈ ks ↔ k ∈ l := fun k => by
    rw [strs_mem (prog := prog) (w := w) hks k, F.mem k]
    constructor
    · rintro ⟨v, hv, hk⟩
      obtain ⟨e, he, q⟩ := List.mem_map.mp (pm.mem_iff.mp hv)
      exact ⟨e, he, by rw [q]; exact hk⟩
    · rintro ⟨e, he, hk⟩
      exact ⟨e.2, pm.mem_iff.mpr (List.mem_map_of_mem he), hk⟩
  have hksl : ks.length = l.length := by rw [← hvl]; exact (StrsAre.len_eq hks).symm
  have hperm : ks.Perm l := by
    exact perm_of_in l ks nd (fun x hx => (hmem x).mpr hx) hksl
  refine wpAny_bind (wpAny_newList ?_ (by rw [hvl, sizeLine_eq]; omega))
  have hoL : (s1.heap.push (seqObj "list" vs.toArray 0)).get? s1.heap.objs.size = some (seqObj "list" vs.toArray 0) := Heap.get?_push_size _ rfl
  refine wpAny_bind (wpAny_holding (wpAny_call_entry PyProof.Rows.slot_list_sort ⟨_, hoL, rfl⟩ PyProof.Rows.entry_list_sort
    (list_sort_treeK strKind_oneLt (s := { s1 with heap := s1.heap.push (seqObj "list" vs.toArray 0) }) hoL hks.keysOf (fun v₁ v₂ rest e => keyKind_strs (by rw [← e]; exact hks)) (by rw [hvl]; exact h64) fun st' hp hs => ⟨_, rfl, ?_⟩)
    (PyProof.Rows.args_list_sort _)))
  obtain ⟨ys, a1, a2, a3⟩ := sorted_out_str hks hp hs
  obtain ⟨c, hc⟩ := PyProof.Rows.sortedHeap_at (vs := vs) (out := (arrOf st').map (·.2)) hoL
  refine wpAny_pure ⟨_, rfl, hQ _ s1.heap.objs.size _ c ys (fun b u e => ?_) g1 o1 hz hc a1 a3 (a2.trans hperm)⟩
  have q := k1 b u e
  have hlt := Heap.lt_size q
  show (sortedHeap (s1.heap.push (seqObj "list" vs.toArray 0)) s1.heap.objs.size vs _).get? b = some u
  rw [sortedHeap_old (Nat.ne_of_lt hlt) (by rw [size_push']; exact Nat.lt_succ_of_lt hlt)]
  exact Heap.get?_push_of_some _ q
end
/-! ### over the layer -/
def TxO (P : Program) (w : World) (a : Addr) (l : List Str) : HO := .ext fun h => TxSet P w h a l
theorem TxSet.there {P : Program} {w : World} {h : Heap} {a : Addr} {l : List Str} (R : TxSet P w h a l) : ∃ o, h.get? a = some o := by
  obtain ⟨D, hat, _⟩ := R
  exact ⟨_, hat⟩
section
variable {X : Cx}
def rSetTx (P : Program) (w : World) (K : PySem.W.Frag) : List V → Hp → VK → Prop := fun vs H Q => ∃ (a : Addr) (xs : List Str), vs = [V.ref a] ∧ SqL K H a (xs.map V.str) ∧ xs.length < 1000 ∧ ∀ p, H p = none → Q (.ref p) (upd H p (TxO P w p (metL [] xs)))
theorem cr_setTx (hc : X.calm = true) : CallR X (.type "set") (rSetTx X.prog X.w X.K) := by
  intro pins s σ H vs us Q I r h
  obtain ⟨a, xs, rfl, hs, hlen, q⟩ := h
  obtain ⟨its, rv, hl, _⟩ := I.list hs
  rw [Vals.ref1 r]
  have hS := rv.strs
  have hil : its.length = xs.length := by
    have z := rv.length
    rw [List.length_map] at z
    exact z.symm
  refine set_of_txts (I.ok.hd hc) hl.isList (xs := xs) (by simpa using hS) (by unfold scanBound; simp only [List.size_toArray]; omega) fun h' tk R k => ?_
  exact ⟨.ref _, upd H s.heap.objs.size (TxO X.prog X.w s.heap.objs.size (metL [] xs)), I.laid (t' := tk) k (Nat.le_refl _) ⟨R, R.there, fun h1 h2 p kk => TxSet.at p kk⟩, rfl, q _ (I.hok.fresh (Nat.le_refl _))⟩
def rSortTx (P : Program) (w : World) : List V → Hp → VK → Prop := fun vs H Q => ∃ (a : Addr) (l : List Str), vs = [V.ref a] ∧ H a = some (TxO P w a l) ∧ l.length < 64 ∧ ∀ (ys : List Str) (p : Addr), sortedS ys = true → ys.Perm l → H p = none → Q (.ref p) (upd H p (.lst (ys.map V.str)))
theorem cr_sortTx (hc : X.calm = true) : CallR X (.builtin "sorted") (rSortTx X.prog X.w) := by
  intro pins s σ H vs us Q I r h
  obtain ⟨a, l, rfl, ha, h64, q⟩ := h
  have R : TxSet X.prog X.w s.heap a l := (I.hok a _ ha).1
  rw [Vals.ref1 r]
  refine sorted_tx R (I.ok.hd hc) h64 fun s' p out c ys k g o hp hg hi hs hm => ?_
  have hlen : (ys.map V.str).length ≤ sizeLine := by rw [List.length_map, hm.length_eq, sizeLine_eq]; omega
  have hn : H p = none := I.hok.fresh hp
  have J : Inv X pins σ (upd H p (.lst (ys.map V.str))) { s with heap := s'.heap, gens := s'.gens, drawn := s'.drawn, toks := s'.toks } :=
    I.call (ch := []) (Un.laid k hp hn) (I.hok.laid k hp ⟨hlen, out.toList, c, vals_of_strs hi, hg⟩) (by rw [g]; exact I.bare) (fun _ z => nomatch z)
  have e : s' = { s with heap := s'.heap, gens := s'.gens, drawn := s'.drawn, toks := s'.toks } := by
    cases s'
    cases s
    cases o
    rfl
  rw [e]
  exact ⟨.ref p, _, J, rfl, q ys p hs hm hn⟩
end
end FT
namespace FT
open PySem PySem.Spec PyProof.Rows L2
/-! ### sorted(set(texts)) -/
abbrev mkS (s : List Nat) : Str := ⟨s.toArray⟩
theorem mkS_inj {a b : List Nat} (h : mkS a = mkS b) : a = b := by
  have := congrArg (fun s : Str => s.cps.toList) h
  simpa using this
def leS (a b : Str) : Prop := a.cps.toList ≤ b.cps.toList
theorem rising_pw : ∀ (l : List Str) (p : Str), risingS p l = true → (p :: l).Pairwise leS
  | [], p, _ => List.pairwise_singleton _ _
  | x :: r, p, h => by
    unfold risingS at h
    rw [Bool.and_eq_true] at h
    obtain ⟨h1, h2⟩ := h
    have ih := rising_pw r x h2
    rw [ltCps_eq] at h1
    have hpx : leS p x := List.not_lt.mp (by simpa using h1)
    refine List.pairwise_cons.mpr ⟨fun y hy => ?_, ih⟩
    rcases List.mem_cons.mp hy with e | e
    · rw [e]; exact hpx
    · exact List.le_trans hpx ((List.pairwise_cons.mp ih).1 y e)
theorem sorted_pw : ∀ (l : List Str), sortedS l = true → l.Pairwise leS
  | [], _ => .nil
  | x :: r, h => rising_pw r x h
theorem metL_mem : ∀ (xs acc : List Str) (y : Str), y ∈ metL acc xs ↔ y ∈ acc ∨ y ∈ xs
  | [], acc, y => by simp [metL]
  | x :: xs, acc, y => by
    rw [metL, metL_mem xs]
    by_cases h : x ∈ acc
    · rw [if_pos h, List.mem_cons]
      constructor
      · rintro (z | z)
        · exact .inl z
        · exact .inr (.inr z)
      · rintro (z | z | z)
        · exact .inl z
        · subst z; exact .inl h
        · exact .inr z
    · rw [if_neg h, List.mem_cons, List.mem_cons]
      constructor
      · rintro ((z | z) | z)
        · exact .inr (.inl z)
        · exact .inl z
        · exact .inr (.inr z)
      · rintro (z | z | z)
        · exact .inl (.inr z)
        · exact .inl (.inl z)
        · exact .inr z
theorem metL_nodup : ∀ (xs acc : List Str), acc.Nodup → (metL acc xs).Nodup
  | [], acc, h => h
  | x :: xs, acc, h => by
    rw [metL]
    refine metL_nodup xs _ ?_
    by_cases q : x ∈ acc
    · rw [if_pos q]; exact h
    · rw [if_neg q]; exact List.nodup_cons.mpr ⟨q, h⟩
theorem insT_mem {x : List Nat} : ∀ (l : List (List Nat)) (y : List Nat), y ∈ insT x l ↔ y = x ∨ y ∈ l
  | [], y => by simp [insT]
  | z :: r, y => by
    unfold insT
    split
    · rw [List.mem_cons]
    · split
      · rw [List.mem_cons, insT_mem r, List.mem_cons]
        exact ⟨fun h => h.elim (fun a => .inr (.inl a)) fun h => h.elim .inl fun a => .inr (.inr a), fun h => h.elim (fun a => .inr (.inl a)) fun h => h.elim .inl fun a => .inr (.inr a)⟩
      · rename_i h1 h2
        have e : x = z := List.le_antisymm (List.not_lt.mp h2) (List.not_lt.mp h1)
        subst e
        rw [List.mem_cons]
        exact ⟨.inr, fun h => h.elim .inl id⟩
theorem insT_pw {x : List Nat} : ∀ (l : List (List Nat)), l.Pairwise (· < ·) → (insT x l).Pairwise (· < ·)
  | [], _ => List.pairwise_singleton _ _
  | z :: r, h => by
    obtain ⟨h1, h2⟩ := List.pairwise_cons.mp h
    unfold insT
    split
    · rename_i c
      refine List.pairwise_cons.mpr ⟨fun y hy => ?_, h⟩
      rcases List.mem_cons.mp hy with e | e
      · rw [e]; exact c
      · exact List.lt_trans c (h1 y e)
    · split
      · rename_i c1 c
        refine List.pairwise_cons.mpr ⟨fun y hy => ?_, insT_pw r h2⟩
        rcases (insT_mem r y).mp hy with e | e
        · rw [e]; exact c
        · exact h1 y e
      · exact h
theorem ssetT_mem : ∀ (l : List (List Nat)) (y : List Nat), y ∈ ssetT l ↔ y ∈ l
  | [], y => by simp [ssetT]
  | x :: r, y => by rw [ssetT, insT_mem, ssetT_mem r, List.mem_cons]
theorem ssetT_pw : ∀ (l : List (List Nat)), (ssetT l).Pairwise (· < ·)
  | [] => .nil
  | x :: r => insT_pw _ (ssetT_pw r)
theorem sset_unique {ts : List (List Nat)} {ys : List Str} (h1 : sortedS ys = true) (h2 : ys.Perm (metL [] (ts.map mkS))) : ys = (ssetT ts).map mkS := by
  have hm := metL_nodup (ts.map mkS) [] List.nodup_nil
  have pw := ssetT_pw ts
  have nd : ((ssetT ts).map mkS).Nodup := by
    refine List.Pairwise.map mkS (fun a b hab e => ?_) pw
    rw [mkS_inj e] at hab
    exact List.lt_irrefl _ hab
  have hp : ys.Perm ((ssetT ts).map mkS) := h2.trans ((List.perm_ext_iff_of_nodup hm nd).mpr fun a => by
    rw [metL_mem]
    simp only [List.not_mem_nil, false_or, List.mem_map, ssetT_mem])
  refine List.Perm.eq_of_pairwise (le := leS) (fun a b _ _ x y => ?_) (sorted_pw ys h1) ?_ hp
  · have := List.le_antisymm x y
    cases a with | mk a => cases b with | mk b => simpa using this
  · refine List.Pairwise.map mkS (fun a b hab => ?_) pw
    show (mkS a).cps.toList ≤ (mkS b).cps.toList
    exact List.not_lt.mp (List.lt_asymm hab)
theorem rep_strs {K : PySem.W.Frag} {G : Glob} {A : List Addr} {F : Hp} : ∀ ts : List (List Nat), RepL K G A F (ts.map D.str) ((ts.map mkS).map V.str)
  | [] => .nil
  | t :: ts => .cons (.str t) (rep_strs ts)
section
variable {X : Cx} {G : Glob} {Φ : Fns} {W : WX}
theorem pg_mono {K : PySem.W.Frag} {σ : L2.St} {A : List Addr} {F H : Hp} {Ls : List Addr} {Q Q' : VK} {r : Res D} (h : PG K G W (RelD K G) σ A F H Ls Q r) (i : ∀ v H', Q v H' → Q' v H') : PG K G W (RelD K G) σ A F H Ls Q' r := by
  cases r with
  | ok d S => exact fun v A2 F2 H2 L2 w2 e2 r2 => i _ _ (h v A2 F2 H2 L2 w2 e2 r2)
  | ex c S => exact h
  | bad => exact h
theorem d_sset {a : Expr} {x : Ex} {p p' pos pos' : Pos} (hc : X.calm = true) (hg : Gl X "sorted") (hm : X.mg "sorted" = none) (hg' : Gl X "set") (hm' : X.mg "set" = none) (ha : DE X G Φ W a x)
    (h1 : starEach [a] X.env = [(false, eval a X.env)] := by rfl) (h2 : starEach [.Call (.Name "set" p') [a] [] pos'] X.env = [(false, eval (.Call (.Name "set" p') [a] [] pos') X.env)] := by rfl) :
    DE X G Φ W (.Call (.Name "sorted" p) [.Call (.Name "set" p') [a] [] pos'] [] pos) (.sset x) := by
  have e1 := pe_callTy (x := "set") (p := p') (pos := pos') (cr_setTx hc) hg' hm' PyProof.Rows.boot_set (pa_cons ha pa_nil h1) (by decide) (by decide) h1 rfl
  refine pe_imp (pe_callB (x := "sorted") (p := p) (pos := pos) (cr_sortTx hc) hg hm PyProof.Rows.boot_sorted (pa_cons e1 pa_nil h2) (by decide) (by decide) h2 rfl) fun σ H Q ⟨A, F, S, Ls, env, Le, hF, q⟩ => ?_
  rw [evalE] at q
  refine ⟨A, F, S, Ls, env, Le, hF, pg_fin.bind hF q fun d S1 v A1 F1 H1 Ls1 hF1 e1 r1 q1 => ?_⟩
  cases r1 with
  | @lst ds a vs hl hr =>
    have q1 : PG X.K G W (RelD X.K G) σ A1 F1 H1 Ls1 Q (lift ((strsD ds).bind fun ts => if ts.length < 64 then some (.lst ((ssetT ts).map D.str)) else none) S1) := q1
    cases e : strsD ds with
    | none => rw [e] at q1; exact q1.elim
    | some ts =>
      rw [e] at q1
      have q1 : PG X.K G W (RelD X.K G) σ A1 F1 H1 Ls1 Q (lift (if ts.length < 64 then some (.lst ((ssetT ts).map D.str)) else none) S1) := q1
      by_cases hlt : ts.length < 64
      · rw [if_pos hlt] at q1
        have ev := strs_vs hr e
        rw [ev] at hl
        refine ⟨a, ts.map mkS, rfl, .of (hF1.w.sub _ _ hl), by rw [List.length_map]; omega, fun p np => ⟨p, _, rfl, upd_same, ?_, fun ys p2 hs hp np2 => ?_⟩⟩
        · have := metL_len (ts.map mkS) []
          rw [List.length_map] at this
          simp only [List.length_nil] at this
          omega
        · have ey := sset_unique hs hp
          subst ey
          refine q1 _ A1 (upd (upd F1 p _) p2 _) _ Ls1 ((hF1.w.lay np).lay np2) ((Ext.lay hF1.w np).trans (hF1.w.lay np).out (.lay (hF1.w.lay np) np2)) (.lst upd_same (rep_strs _))
      · rw [if_neg hlt] at q1
        exact q1.elim
  | _ => exact q1.elim
/-! ### isinstance -/
theorem tyx_tup {K : PySem.W.Frag} {H : Hp} {a : Addr} {vs : List V} (h : SqT K H a vs) : TyX K H (.ref a) (.type "tuple") := by
  rcases h with (h | ⟨o, h⟩) | h
  · exact .base (.tup h)
  · exact .fTuple h
  · obtain ⟨o, its, n, h1, h2, _⟩ := h
    exact .kTuple h1 h2
def tyN : Ty → String
  | .int => "int"
  | .bool => "bool"
  | .str => "str"
  | .tup => "tuple"
  | .list => "list"
  | .dict => "dict"
theorem isi_ok {K : PySem.W.Frag} {A : List Addr} {F H : Hp} (s : Same F H) {t : Ty} {d : D} {x : V} {b : Bool} (r : Rep K G A F d x) (h : isiD t d = some b) : ∃ u, TyX K H x (.type u) ∧ kitB u (tyN t) = some b := by
  cases r with
  | non => cases t <;> (cases h; exact ⟨_, .base .non, by decide +kernel⟩)
  | bl i => cases t <;> (cases h; exact ⟨_, .base (.bl _), by decide +kernel⟩)
  | int i => cases t <;> (cases h; exact ⟨_, .base (.int _), by decide +kernel⟩)
  | str i => cases t <;> (cases h; exact ⟨_, .base (.str _), by decide +kernel⟩)
  | tup h1 h2 => cases t <;> (cases h; exact ⟨_, tyx_tup (SqT.mono s h1), by decide +kernel⟩)
  | lst h1 h2 => cases t <;> (cases h; exact ⟨_, .base (.lst (s _ _ h1)), by decide +kernel⟩)
  | ref _ => cases t <;> cases h
  | fn => cases t <;> cases h
  | scr _ => cases t <;> cases h
  | exc _ => cases t <;> cases h
  | dicK _ _ _ _ => cases t <;> cases h
  | dicT _ _ _ _ _ _ => cases t <;> cases h
theorem boot_ty (t : Ty) : bootBuiltins (Str.ofString (tyN t)) = some (.type (tyN t)) := by cases t <;> decide +kernel
theorem d_isi {t : Ty} {a : Expr} {n : Str} {x : Ex} {p p' pos : Pos} (hg : Gl X "isinstance") (hm : X.mg "isinstance" = none) (hn : n = Str.ofString (tyN t)) (hg' : Gl X n) (hm' : X.mg n = none) (ha : DE X G Φ W a x)
    (h1 : starEach [a, .Name n p'] X.env = [(false, eval a X.env), (false, eval (.Name n p') X.env)] := by rfl) (h2 : starEach [.Name n p'] X.env = [(false, eval (.Name n p') X.env)] := by rfl) :
    DE X G Φ W (.Call (.Name "isinstance" p) [a, .Name n p'] [] pos) (.bi (.isi t) (.cons x .nil)) := by
  have en : (n == ("__debug__" : Str)) = false := by subst hn; cases t <;> decide
  have en2 : n ≠ "__name__" := by subst hn; cases t <;> decide
  have e2 : PE X (.Name n p') (tC (.ty (tyN t))) := pe_bltn hg' hm' (by rw [hn]; exact boot_ty t) rfl en2 en
  refine pe_imp (pe_callB (x := "isinstance") (p := p) (pos := pos) call_isi hg hm PyProof.Rows.boot_isinstance (pa_cons ha (pa_cons e2 pa_nil h2) h1) (by decide) (by decide) h1 (by rw [h2]; rfl)) fun σ H Q ⟨A, F, S, Ls, env, Le, hF, q⟩ => ?_
  rw [evalE] at q
  have q : PG X.K G W (RelD X.K G) σ A F H Ls Q ((evalE Φ x env S).bind fun d => lift ((isiD t d).map D.bl)) := by
    rw [evalL] at q
    cases h : evalE Φ x env S with
    | ok d S1 =>
      rw [h] at q
      simp only [Res.bind_ok] at q
      rw [evalL] at q
      exact q
    | ex c S1 => rw [h] at q; exact q
    | bad => rw [h] at q; exact q
  refine ⟨A, F, S, Ls, env, Le, hF, pg_fin.bind hF q fun d S1 v A1 F1 H1 Ls1 hF1 e1 r1 q1 => ?_⟩
  cases h : isiD t d with
  | none => rw [h] at q1; exact q1.elim
  | some b =>
    rw [h] at q1
    obtain ⟨u, k1, k2⟩ := isi_ok hF1.w.sub r1 h
    exact ⟨v, _, _, _, b, rfl, .ty _, k1, kit_ty k2, pg_ok hF1.w q1 (.bl b)⟩
/-! ### sep.join(texts) -/
theorem glued_list (sep : List Nat) : ∀ (ys : List (List Nat)), Txt.join (mkS sep) (ys.map mkS) = mkS (joinL sep ys)
  | [] => by rw [TL.join_eq]; rfl
  | [x] => by
    rw [TL.join_eq]
    show Str.join (mkS sep) [mkS x] = mkS x
    rfl
  | x :: y :: r => by
    have ih := glued_list sep (y :: r)
    rw [TL.join_eq] at ih ⊢
    show mkS x ++ mkS sep ++ Str.join (mkS sep) ((y :: r).map mkS) = _
    rw [ih]
    show mkS x ++ mkS sep ++ mkS (joinL sep (y :: r)) = mkS (x ++ sep ++ joinL sep (y :: r))
    rw [str_app, str_app]
theorem join_len (sep : List Nat) : ∀ ys : List (List Nat), (ys.map List.length).sum ≤ (joinL sep ys).length
  | [] => Nat.le_refl _
  | [x] => by simp [joinL]
  | x :: y :: r => by
    have := join_len sep (y :: r)
    simp only [joinL, List.map_cons, List.sum_cons, List.length_append] at this ⊢
    omega
theorem d_join {o a : Expr} {x : Ex} {apos pos : Pos} {sep : List Nat} (ho : DE X G Φ W o (.con (.str sep))) (ha : DE X G Φ W a x) (hs : starEach [a] X.env = [(false, eval a X.env)] := by rfl) (hbase : attributeBase o "join" X.env (eval o X.env) = eval o X.env := by rfl) (hline : (apos.endLine == pos.line) = true := by rfl) :
    DE X G Φ W (.Call (.Attribute o "join" apos) [a] [] pos) (.bi .join (.cons (.con (.str sep)) (.cons x .nil))) := pe_imp (pe_join ho ha hs hbase hline) fun σ H Q ⟨A, F, S, Ls, env, Le, hF, q⟩ => by
  rw [evalE] at q
  have q : PG X.K G W (RelD X.K G) σ A F H Ls Q ((evalE Φ (.con (.str sep)) env S).bind fun _ => fun S1 => (evalE Φ x env S1).bind fun e => lift (biD .join [.str sep, e])) := by
    rw [evalL, evalE] at q
    rw [evalE]
    simp only [Res.bind_ok] at q ⊢
    rw [evalL] at q
    cases h2 : evalE Φ x env S with
    | ok e S2 =>
      rw [h2] at q
      simp only [Res.bind_ok] at q ⊢
      rw [evalL] at q
      exact q
    | ex c S1 => rw [h2] at q; exact q
    | bad => rw [h2] at q; exact q
  have q0 : PG X.K G W (RelD X.K G) σ A F H Ls (fun v H1 => v = .str (mkS sep) ∧ ∃ A F S Ls env Le, Full X.K G A F H1 S Ls σ env Le ∧ PG X.K G W (RelD X.K G) σ A F H1 Ls Q ((evalE Φ x env S).bind fun e => lift (biD .join [.str sep, e]))) (evalE Φ (.con (.str sep)) env S) := by
    rw [evalE] at q ⊢
    intro v A1 F1 H1 Ls1 w1 e1 r1
    cases r1
    exact ⟨rfl, A1, F1, S, Ls1, env, Le, hF.ext w1 e1, pg_fin.later w1.out e1 q⟩
  refine ⟨A, F, S, Ls, env, Le, hF, pg_mono q0 fun v H1 ⟨ev, A1, F1, S1, Ls1, env1, Le1, hF1, q1⟩ => ?_⟩
  subst ev
  · refine ⟨⟨_, rfl⟩, A1, F1, S1, Ls1, env1, Le1, hF1, pg_fin.bind hF1 q1 fun d2 S2 v2 A2 F2 H2 Ls2 hF2 e2 r2 q2 => ?_⟩
    cases d2 with
    | lst ds =>
      cases r2 with
      | @lst _ a vs hl hr =>
        have q2 : PG X.K G W (RelD X.K G) σ A2 F2 H2 Ls2 Q (lift ((strsD ds).bind fun ys => if ys.length ≤ 100000 && sep.length ≤ 100 && (joinL sep ys).length ≤ lim then some (.str (joinL sep ys)) else none) S2) := q2
        cases e : strsD ds with
        | none => rw [e] at q2; exact q2.elim
        | some ys =>
          rw [e] at q2
          have q2 : PG X.K G W (RelD X.K G) σ A2 F2 H2 Ls2 Q (lift (if ys.length ≤ 100000 && sep.length ≤ 100 && (joinL sep ys).length ≤ lim then some (.str (joinL sep ys)) else none) S2) := q2
          by_cases hc : (ys.length ≤ 100000 && sep.length ≤ 100 && (joinL sep ys).length ≤ lim) = true
          · rw [if_pos hc] at q2
            simp only [Bool.and_eq_true, decide_eq_true_eq] at hc
            rw [strs_vs hr e] at hl
            refine ⟨_, a, ys.map mkS, rfl, rfl, .inl (.of (hF2.w.sub _ _ hl)), ?_, ?_⟩
            · have h1 : ((ys.map mkS).map (·.length)).sum = (ys.map List.length).sum := by
                rw [List.map_map]
                congr 1
              have h2 := join_len sep ys
              have h3 : lim = 1000000 := rfl
              rw [h1, List.length_map, str_len]
              have h4 : ys.length * sep.length ≤ (joinL sep ys).length + sep.length := by
                have aux : ∀ zs : List (List Nat), zs.length * sep.length ≤ (joinL sep zs).length + sep.length := by
                  intro zs
                  induction zs with
                  | nil => simp
                  | cons z zs ih =>
                    cases zs with
                    | nil => simp
                    | cons z2 zs =>
                      simp only [joinL, List.length_append, List.length_cons, Nat.add_mul, Nat.one_mul] at ih ⊢
                      omega
                exact aux ys
              omega
            · rw [glued_list]
              exact q2 _ A2 F2 H2 Ls2 hF2.w .refl (.str _)
          · rw [if_neg hc] at q2
            exact q2.elim
    | _ => exact q2.elim
end
end FT
namespace FT
open PySem PySem.Spec PyProof.Rows L2
/-! ### tests -/
theorem pt_imp' {X : Cx} {e : Expr} {t t' : TT} (h : PT X e t) (i : ∀ σ H Q, t' σ H Q → t σ H Q) : PT X e t' := pt_imp h i
theorem pw_imp {X : Cx} {e : Expr} {t t' : TT} (h : PW X e t) (i : ∀ σ H Q, t' σ H Q → t σ H Q) : PW X e t' := ⟨fun wh pins s σ H Q I q => h.run wh pins s σ H Q I (i σ H Q q)⟩
section
variable {X : Cx} {G : Glob} {Φ : Fns} {W : WX}
theorem pgB_of {K : PySem.W.Frag} {σ : L2.St} {A : List Addr} {F H : Hp} {Ls : List Addr} {Q : Bool → Hp → Prop} {r : Res D} (q : PG K G W RelB σ A F H Ls Q (condB r)) : PG K G W (RelD K G) σ A F H Ls (fun x H1 => ∃ k, x = V.bl k ∧ Q k H1) r := by
  cases r with
  | ok d S1 =>
    cases d with
    | bl b =>
      intro v A1 F1 H1 Ls1 w1 e1 r1
      cases r1
      exact ⟨b, rfl, q b A1 F1 H1 Ls1 w1 e1 rfl⟩
    | _ => exact q.elim
  | ex c S1 => exact q
  | bad => exact q
theorem pgB_to {K : PySem.W.Frag} {σ : L2.St} {A : List Addr} {F H : Hp} {Ls : List Addr} {Q : Bool → Hp → Prop} {Q' : VK} {r : Res D} (q : PG K G W RelB σ A F H Ls Q (condB r)) (i : ∀ k H1, Q k H1 → Q' (.bl k) H1) : PG K G W (RelD K G) σ A F H Ls Q' r :=
  pg_mono (pgB_of q) fun v H1 ⟨k, e, z⟩ => by subst e; exact i k H1 z
theorem tB_of {K : PySem.W.Frag} {f : Env → M D} {σ : L2.St} {H : Hp} {Q : Bool → Hp → Prop} (h : FT.tB K G W f σ H Q) : tTest (tD K G W f) σ H Q := by
  obtain ⟨A, F, S, Ls, env, Le, hF, q⟩ := h
  exact ⟨A, F, S, Ls, env, Le, hF, pgB_of q⟩
theorem t_val {e : Expr} {x : Ex} (h : DE X G Φ W e x) (he : ∀ whole, isTrue e X.env whole = (do let v ← whole; standAt e.pos; holding [v] (truthy v)) := by intro _; rfl) : DT X G Φ W e x := pt_imp (pt_val h he) fun σ H Q q => tB_of q
theorem t_cmp {a b : Expr} {op : CmpOp} {o : Cop} {x y : Ex} {pos : Pos} {r : R2} (ho : OpR X (compareOp op) r) (hg : OpD G X.K r (cmpD o)) (ha : DE X G Φ W a x) (hb : DE X G Φ W b y) (hm : behindInMarks op b = false) : DT X G Φ W (.Compare a [op] [b] pos) (.cmp o x y) :=
  pt_imp (pt_cmpR ho ha hb hm) fun σ H Q q => by
    obtain ⟨A, F, S, Ls, env, Le, hF, q⟩ := q
    have q := pgB_of q
    rw [evalE] at q
    refine ⟨A, F, S, Ls, env, Le, hF, pg_fin.bind hF q fun d S1 v A1 F1 H1 Ls1 hF1 e1 r1 q1 => ?_⟩
    refine ⟨A1, F1, S1, Ls1, env, Le, hF1, pg_fin.bind hF1 q1 fun d2 S2 v2 A2 F2 H2 Ls2 hF2 e2 r2 q2 => ?_⟩
    cases h : cmpD o d d2 with
    | none => rw [h] at q2; exact q2.elim
    | some w =>
      rw [h] at q2
      exact hg A2 F2 H2 S2 Ls2 d d2 w v v2 _ hF2.w (r1.mono e2.pre e2.fr) r2 h fun v3 F3 H3 w3 e3 r3 => q2 v3 A2 F3 H3 Ls2 w3 e3 r3
theorem t_chain {a b c : Expr} {op op' : CmpOp} {o o' : Cop} {x y z : Ex} {pos : Pos} {r r' : R2} (he : PT X (.Compare a [op, op'] [b, c] pos) (tTest (tChain r r' (tD X.K G W (evalE Φ x)) (tD X.K G W (evalE Φ y)) (tD X.K G W (evalE Φ z))))) (hg : OpD G X.K r (cmpD o)) (hg' : OpD G X.K r' (cmpD o')) :
    DT X G Φ W (.Compare a [op, op'] [b, c] pos) (.chain o o' x y z) := pt_imp he fun σ H Q q => by
  obtain ⟨A, F, S, Ls, env, Le, hF, q⟩ := q
  have q := pgB_of q
  rw [evalE] at q
  refine ⟨A, F, S, Ls, env, Le, hF, pg_fin.bind hF q fun d S1 v A1 F1 H1 Ls1 hF1 e1 r1 q1 => ?_⟩
  refine ⟨A1, F1, S1, Ls1, env, Le, hF1, pg_fin.bind hF1 q1 fun d2 S2 v2 A2 F2 H2 Ls2 hF2 e2 r2 q2 => ?_⟩
  cases h : cmpD o d d2 with
  | none => rw [h] at q2; exact q2.elim
  | some w =>
    rw [h] at q2
    refine hg A2 F2 H2 S2 Ls2 d d2 w v v2 _ hF2.w (r1.mono e2.pre e2.fr) r2 h fun v3 F3 H3 w3 e3 r3 => ?_
    have hF3 := hF2.ext w3 e3
    cases r3 with
    | bl k =>
      refine ⟨k, rfl, ?_⟩
      cases k with
      | true =>
        have q3 := pg_fin.later w3.out e3 q2
        refine ⟨A2, F3, S2, Ls2, env, Le, hF3, pg_fin.bind hF3 q3 fun d4 S4 v4 A4 F4 H4 Ls4 hF4 e4 r4 q4 => ?_⟩
        cases h4 : cmpD o' d2 d4 with
        | none => rw [h4] at q4; exact q4.elim
        | some w4 =>
          rw [h4] at q4
          exact hg' A4 F4 H4 S4 Ls4 d2 d4 w4 v2 v4 _ hF4.w ((r2.mono e3.pre e3.fr).mono e4.pre e4.fr) r4 h4 fun v5 F5 H5 w5 e5 r5 => q4 v5 A4 F5 H5 Ls4 w5 e5 r5
      | false => exact q2 _ A2 F3 H3 Ls2 w3 e3 (.bl _)
    | _ => exact q2.elim
theorem cond_neg (r : Res D) : condB (r.bind fun d => (match d with
    | .bl b => lift (some (.bl (!b)))
    | _ => lift none)) = (condB r).bind fun b => lift (some (!b)) := by
  cases r with
  | ok d S => cases d <;> rfl
  | ex c S => rfl
  | bad => rfl
theorem cond_and (r : Res D) (b : M D) : condB (r.bind fun d => (match d with
    | .bl true => b
    | .bl false => lift (some (.bl false))
    | _ => lift none)) = (condB r).bind fun k => fun S => if k then condB (b S) else .ok false S := by
  cases r with
  | ok d S =>
    cases d with
    | bl k => cases k <;> rfl
    | _ => rfl
  | ex c S => rfl
  | bad => rfl
theorem cond_or (r : Res D) (b : M D) : condB (r.bind fun d => (match d with
    | .bl false => b
    | .bl true => lift (some (.bl true))
    | _ => lift none)) = (condB r).bind fun k => fun S => if k then .ok true S else condB (b S) := by
  cases r with
  | ok d S =>
    cases d with
    | bl k => cases k <;> rfl
    | _ => rfl
  | ex c S => rfl
  | bad => rfl
theorem t_not {a : Expr} {x : Ex} {pos : Pos} (ha : DT X G Φ W a x) : DT X G Φ W (.UnaryOp .Not a pos) (.not x) := pt_imp (pt_not ha) fun σ H Q ⟨A, F, S, Ls, env, Le, hF, q⟩ => by
  rw [evalE] at q
  have q : PG X.K G W RelB σ A F H Ls Q ((condB (evalE Φ x env S)).bind fun b => lift (some (!b))) := by
    rw [← cond_neg]
    exact q
  refine ⟨A, F, S, Ls, env, Le, hF, pg_fin.bind hF q fun d S1 v A1 F1 H1 Ls1 hF1 e1 r1 q1 => ?_⟩
  subst r1
  exact q1 _ A1 F1 H1 Ls1 hF1.w .refl rfl
theorem w_and1 {a : Expr} {x : Ex} {pos : Pos} (ha : DT X G Φ W a x) : DW X G Φ W (.BoolOp .And [a] pos) x := pw_and1 ha
theorem w_or1 {a : Expr} {x : Ex} {pos : Pos} (ha : DT X G Φ W a x) : DW X G Φ W (.BoolOp .Or [a] pos) x := pw_or1 ha
theorem w_and {a b : Expr} {rest : List Expr} {x y : Ex} {pos : Pos} (ha : DT X G Φ W a x) (hb : DW X G Φ W (.BoolOp .And (b :: rest) pos) y) : DW X G Φ W (.BoolOp .And (a :: b :: rest) pos) (.and x y) := pw_imp (pw_and ha hb) fun σ H Q ⟨A, F, S, Ls, env, Le, hF, q⟩ => by
  rw [evalE] at q
  have q : PG X.K G W RelB σ A F H Ls Q ((condB (evalE Φ x env S)).bind fun k => fun S => if k then condB (evalE Φ y env S) else .ok false S) := by
    rw [← cond_and]
    exact q
  refine ⟨A, F, S, Ls, env, Le, hF, pg_fin.bind hF q fun d S1 v A1 F1 H1 Ls1 hF1 e1 r1 q1 => ?_⟩
  subst r1
  cases d with
  | true => exact ⟨A1, F1, S1, Ls1, env, Le, hF1, q1⟩
  | false => exact q1 _ A1 F1 H1 Ls1 hF1.w .refl rfl
theorem w_or {a b : Expr} {rest : List Expr} {x y : Ex} {pos : Pos} (ha : DT X G Φ W a x) (hb : DW X G Φ W (.BoolOp .Or (b :: rest) pos) y) : DW X G Φ W (.BoolOp .Or (a :: b :: rest) pos) (.or x y) := pw_imp (pw_or ha hb) fun σ H Q ⟨A, F, S, Ls, env, Le, hF, q⟩ => by
  rw [evalE] at q
  have q : PG X.K G W RelB σ A F H Ls Q ((condB (evalE Φ x env S)).bind fun k => fun S => if k then .ok true S else condB (evalE Φ y env S)) := by
    rw [← cond_or]
    exact q
  refine ⟨A, F, S, Ls, env, Le, hF, pg_fin.bind hF q fun d S1 v A1 F1 H1 Ls1 hF1 e1 r1 q1 => ?_⟩
  subst r1
  cases d with
  | true => exact q1 _ A1 F1 H1 Ls1 hF1.w .refl rfl
  | false => exact ⟨A1, F1, S1, Ls1, env, Le, hF1, q1⟩
theorem t_w {e : Expr} {x : Ex} (h : DW X G Φ W e x) : DT X G Φ W e x := h.pt
/-! ### own data that is read as data -/
theorem tO_of {K : PySem.W.Frag} {f : Env → M D} {σ : L2.St} {H : Hp} {Q : VK} (h : tD K G W f σ H Q) : tO K G W f σ H Q := by
  obtain ⟨A, F, S, Ls, env, Le, hF, q⟩ := h
  refine ⟨A, F, S, Ls, env, Le, hF, ?_⟩
  cases r : f env S with
  | ok d S' =>
    rw [r] at q
    intro p m A' F' H' Ls' hm w e pn fn mr
    obtain ⟨o, ho, hr⟩ := mr.frz hm
    refine q _ A' (upd F' p o) H' Ls' (w.freeze pn ho) ⟨e.pre, e.fr.trans (same_frz w.sub ho), fun a u y n => e.keep a u y n, fun a z => ?_⟩ (hr _ (same_frz w.sub ho) upd_same)
    rcases z with z | z
    · rcases upd_back z with z | z
      · exact e.new a (.inl z)
      · exact e.new a (.inr (by rw [z]; exact List.mem_cons_self))
    · exact e.new a (.inr (List.mem_cons_of_mem _ z))
  | ex c S' => rw [r] at q; exact q
  | bad => rw [r] at q; exact q
/-! ### list comprehensions -/
section
variable {elt tg iter : Expr} {ifs : List Expr} {scope : Scope} {own : List (Str × Nat)} {pos : Pos} {g : TG} {x c : Ex} {it : Itx} {tgx : Tg}
theorem o_lc (hc : X.calm = true) (hN : X.N.Nodup) (hi : DI X G Φ W tg iter it) (ok : BlkOk X.N X.env.scope scope own)
    (hg : ∀ (s : Shared) (H : Hp) (C : Addr) (cl : List (Str × Addr)) (fp : List Addr), L2.PG (X.blk s H scope (compEnvC scope cl C X.env) fp) tg g)
    (ht : ∀ (s : Shared) (H : Hp) (C : Addr) (cl : List (Str × Addr)) (fp : List Addr), DTs (X.blk s H scope (compEnvC scope cl C X.env) fp) G Φ W0 ifs c)
    (he : ∀ (s : Shared) (H : Hp) (C : Addr) (cl : List (Str × Addr)) (fp : List Addr), DE (X.blk s H scope (compEnvC scope cl C X.env) fp) G Φ W0 elt x) (hgd : TgD G X.K g tgx) (hin : tgIn tgx (own.map (·.2)))
    (hs : ∀ x, foldedSetIterable iter X.env x = pure x := by intro _; rfl) : OE X G Φ W (.ListComp elt [⟨tg, iter, ifs, 0⟩] scope pos) (.lc (own.map (·.2)) x tgx it c) :=
  pe_imp (pe_lc (tt := FT.tB X.K G W0 (evalE Φ c)) (te := tD X.K G W0 (evalE Φ x)) hc hN hi ok hg ht he hs) fun σ H Q q => o_lc_core (X := X) (elt := elt) (tg := tg) (iter := iter) (ifs := ifs) (scope := scope) (pos := pos) hgd hin σ H Q q
theorem set_lc {i : Nat} {y : Str} {py spos : Pos} (hc : X.calm = true) (hN : X.N.Nodup) (hy : X.N[i]? = some y) (hyl : X.env.scope.names.lookup y = some .local) (hsw : swapsWith (.ListComp elt [⟨tg, iter, ifs, 0⟩] scope pos) (some (.Name y py)) spos.line X.env = pure true)
    (hi : DI X G Φ W tg iter it) (ok : BlkOk X.N X.env.scope scope own)
    (hg : ∀ (s : Shared) (H : Hp) (C : Addr) (cl : List (Str × Addr)) (fp : List Addr), L2.PG (X.blk s H scope (compEnvC scope cl C X.env) fp) tg g)
    (ht : ∀ (s : Shared) (H : Hp) (C : Addr) (cl : List (Str × Addr)) (fp : List Addr), DTs (X.blk s H scope (compEnvC scope cl C X.env) fp) G Φ W0 ifs c)
    (he : ∀ (s : Shared) (H : Hp) (C : Addr) (cl : List (Str × Addr)) (fp : List Addr), DE (X.blk s H scope (compEnvC scope cl C X.env) fp) G Φ W0 elt x) (hgd : TgD G X.K g tgx) (hin : tgIn tgx (own.map (·.2)))
    (hs : ∀ x, foldedSetIterable iter X.env x = pure x := by intro _; rfl) : PS X (.Assign [.Name y py] (.ListComp elt [⟨tg, iter, ifs, 0⟩] scope pos) spos) (tAsg (tO X.K G W (evalE Φ (.lc (own.map (·.2)) x tgx it c))) (gName i)) :=
  ps_imp (ps_setLc (tt := FT.tB X.K G W0 (evalE Φ c)) (te := tD X.K G W0 (evalE Φ x)) hc hN hy hyl hsw hi ok hg ht he hs) fun σ H Q q => o_lc_core (X := X) (elt := elt) (tg := tg) (iter := iter) (ifs := ifs) (scope := scope) (pos := pos) hgd hin σ H _ q
theorem asg_own {st : Stmt} {f : Env → M D} {i : Nat} (h : PS X st (tAsg (tO X.K G W f) (gName i))) : PS X st (tAsg (tD X.K G W f) (gName i)) := ps_imp h fun σ H D q => tO_of q
end
/-! ### boxes -/
theorem SsR.snoc {K : PySem.W.Frag} {A : List Addr} {F H : Hp} {p : Addr} {m : MO} : ∀ {as : List Addr} {S : Sh} {Ls : List Addr}, SsR K G A F H as S Ls → MoR K G A F H p m → SsR K G A F H (as ++ [p]) (S ++ [.box m]) (Ls ++ [p])
  | _, _, _, .nil, h => .cons (L := [p]) (.box h) .nil
  | _, _, _, .cons (L := L) (Ls := Ls) r rs, h => by
    rw [List.append_assoc]
    exact .cons r (SsR.snoc rs h)
theorem SsR.len {K : PySem.W.Frag} {A : List Addr} {F H : Hp} : ∀ {as : List Addr} {S : Sh} {Ls : List Addr}, SsR K G A F H as S Ls → as.length = S.length
  | _, _, _, .nil => rfl
  | _, _, _, .cons _ rs => by simp [SsR.len rs]
theorem MoR.pre {K : PySem.W.Frag} {A A' : List Addr} {F H : Hp} {p : Addr} {m : MO} (pr : A <+: A') (h : MoR K G A F H p m) : MoR K G A' F H p m := h.at pr (Same.refl _) fun _ e => e
theorem d_box {a : Expr} {x : Ex} (ha : OE X G Φ W a x) : DE X G Φ W a (.box x) := pe_imp ha fun σ H Q ⟨A, F, S, Ls, env, Le, hF, q⟩ => by
  rw [evalE] at q
  refine ⟨A, F, S, Ls, env, Le, hF, ?_⟩
  cases r : evalE Φ x env S with
  | ok d S' =>
    rw [r] at q
    intro p m A' F' H' Ls' hm w e pn fn mr
    have q : PG X.K G W (RelD X.K G) σ A F H Ls Q (match boxOf d with
      | some m => .ok (.ref S'.length) (S' ++ [.box m])
      | none => .bad) := q
    have hb : boxOf d = some m := by
      cases d with
      | lst ds => exact hm
      | dic t ks vs => exact hm
      | _ => cases hm
    rw [hb] at q
    have hl := w.st.len
    have pr : A' <+: A' ++ [p] := List.prefix_append _ _
    refine q (.ref p) (A' ++ [p]) F' H' (Ls' ++ [p]) ⟨w.sub, ?_, ?_, fun b hb => ?_⟩ ⟨e.pre.trans pr, e.fr, e.keep, fun b hb => ?_⟩ (.ref ?_)
    · exact (w.st.at pr (Same.refl _) fun _ _ _ h => h).snoc (mr.pre pr)
    · refine List.nodup_append.mpr ⟨w.nd, by simp, fun b hb c hc => ?_⟩
      have : c = p := by simpa using hc
      subst this
      exact fun z => pn (by rw [← z]; exact hb)
    · rcases List.mem_append.mp hb with z | z
      · exact w.out b z
      · rw [show b = p by simpa using z]; exact fn
    · rcases hb with z | z
      · exact e.new b (.inl z)
      · refine e.new b (.inr ?_)
        rcases List.mem_append.mp z with y | y
        · exact List.mem_cons_of_mem _ y
        · rw [show b = p by simpa using y]; exact List.mem_cons_self
    · rw [← hl]
      simp
  | ex c S' => rw [r] at q; exact q
  | bad => rw [r] at q; exact q
theorem d_ixb {a b : Expr} {x y : Ex} {pos : Pos} (ha : DE X G Φ W a x) (hb : DE X G Φ W b y) (hs : PlainIx b) : DE X G Φ W (.Subscript a b pos) (.ixb x y) := pe_imp (pe_ix ix_seq ha hb hs) fun σ H Q ⟨A, F, S, Ls, env, Le, hF, q⟩ => by
  rw [evalE] at q
  refine ⟨A, F, S, Ls, env, Le, hF, pg_fin.bind hF q fun d S1 v A1 F1 H1 Ls1 hF1 e1 r1 q1 => ?_⟩
  refine ⟨A1, F1, S1, Ls1, env, Le, hF1, pg_fin.bind hF1 q1 fun d2 S2 v2 A2 F2 H2 Ls2 hF2 e2 r2 q2 => ?_⟩
  have r1 := r1.mono e2.pre e2.fr
  cases r1 with
  | @ref n p ep =>
    cases r2 with
    | int i =>
      have q2 : PG X.K G W (RelD X.K G) σ A2 F2 H2 Ls2 Q (lift (match S2[n]? with
        | some (.box (.lst ds)) => L2.atI ds i
        | _ => none) S2) := q2
      cases hS : S2[n]? with
      | none => rw [hS] at q2; exact q2.elim
      | some ro =>
        rw [hS] at q2
        cases ro with
        | ins _ _ => exact q2.elim
        | tab _ => exact q2.elim
        | gone => exact q2.elim
        | box m =>
          cases m with
          | dic _ _ => exact q2.elim
          | lst ds =>
            have mr := hF2.w.st.box_get ep hS
            cases mr with
            | @lst _ vs hp hr =>
              have q2 : PG X.K G W (RelD X.K G) σ A2 F2 H2 Ls2 Q (lift (L2.atI ds i) S2) := q2
              cases hd : L2.atI ds i with
              | none => rw [hd] at q2; exact q2.elim
              | some z =>
                rw [hd] at q2
                obtain ⟨v, hv, rv⟩ := hr.atI hd
                exact .inl ⟨p, _, i, v, rfl, rfl, .of hp, hv, pg_ok hF2.w q2 rv⟩
    | _ => exact q2.elim
  | _ => exact q2.elim
end
end FT
namespace FT
open PySem PySem.Spec PyProof.Rows L2
section
variable {X : Cx} {G : Glob} {Φ : Fns} {N : Nat} {W : WX}
/-! ### zip -/
theorem evalI_zip (x y : Ex) (env : Env) (S : Sh) : evalI Φ (.zip x y) env S = (evalL Φ (.cons x (.cons y .nil)) env S).bind fun ds => (match ds with
    | [.lst x, .lst y] => lift (some (zipD x y))
    | [.tup x, .tup y] => lift (some (zipD x y))
    | _ => lift none) := by
  rw [evalI, evalL]
  cases evalE Φ x env S with
  | ok d S1 =>
    simp only [Res.bind_ok]
    rw [evalL]
    cases evalE Φ y env S1 with
    | ok d2 S2 =>
      simp only [Res.bind_ok]
      rw [evalL]
      cases d <;> cases d2 <;> rfl
    | ex c S2 => rfl
    | bad => rfl
  | ex c S1 => rfl
  | bad => rfl
theorem i_zip {a b : Expr} {x y : Ex} {p pos tpos : Pos} {elts : List Expr} {kk : Nat} (hg : Gl X "zip") (hm : X.mg "zip" = none) (ha : DA X G Φ W [a, b] (.cons x (.cons y .nil)))
    (hs : starEach [a, b] X.env = (false, eval a X.env) :: starEach [b] X.env := by rfl) (hpl : (backTo pos (starEach [b] X.env)).any (·.1) = false := by rfl) :
    DI X G Φ W (.Tuple elts kk tpos) (.Call (.Name "zip" p) [a, b] [] pos) (.zip x y) := pi_imp (RZ.pi_zipA hg hm ha hs hpl) fun σ H Q ⟨A, F, S, Ls, env, Le, hF, q⟩ => by
  rw [evalI_zip] at q
  refine ⟨A, F, S, Ls, env, Le, hF, pg_fin.bind hF q fun ds S1 vs A1 F1 H1 Ls1 hF1 e1 r1 q1 => ?_⟩
  match ds, vs, r1, q1 with
  | [.lst d1, .lst d2], _, .cons (.lst h1 g1) (.cons (.lst h2 g2) .nil), q1 => exact ⟨_, _, _, _, rfl, .inl ⟨.of (hF1.w.sub _ _ h1), .of (hF1.w.sub _ _ h2), q1 _ A1 F1 H1 Ls1 hF1.w .refl (it_zipL h1 g1 h2 g2)⟩⟩
  | [.tup d1, .tup d2], _, .cons (.tup h1 g1) (.cons (.tup h2 g2) .nil), q1 => exact ⟨_, _, _, _, rfl, .inr ⟨SqT.mono hF1.w.sub h1, SqT.mono hF1.w.sub h2, q1 _ A1 F1 H1 Ls1 hF1.w .refl (it_zipT h1 g1 h2 g2)⟩⟩
/-! ### own errors -/
/-- X(a text) is raised, X an own class -/
structure ExcAt (K : PySem.W.Frag) (mg : Str → Option Value) (G : Glob) (c : Nat) (x : Str) : Prop where
  ex : PySem.W.excIn K (G.clA c) He.veBase "ValueError.__new__" = true
  kp : PySem.W.keepIn K (.ref (G.clA c)) = true
  sb : PySem.W.subIn K (.ref (G.clA c)) (.type "BaseException") = some true
  ty : PySem.W.typeIn K (.ref (G.clA c)) = some (.type "type")
  at_ : mg x = some (.ref (G.clA c))
theorem s_raiseX {c : Nat} {x m : Str} {j : Nat} {p p2 p3 pos : Pos} (hc : X.calm = true) (tk : Takes X W) (e : ExcAt X.K X.mg G c x) (hg : Gl X x) (hdb : (x == ("__debug__" : Str)) = false := by decide) :
    DS X G Φ N W (.Raise (some (.Call (.Name x p) [.Constant (.str m) j p2] [] p3)) none pos) (.raise c) :=
  s_raise (ps_raise hc tk (pmk_own PySem.F.excBase_ValueError e.ex e.at_ e.kp (raises_own e.sb e.ty) hg hdb))
/-! ### own things, made by an operator -/
def PO2 (K : PySem.W.Frag) (G : Glob) (W : WX) (σ : L2.St) (A : List Addr) (F H : Hp) (Ls : List Addr) (Q : VK) : Res D → Prop
  | .ok d S' => ∃ m, moOf d = some m ∧ ∀ p A' F' H' Ls', WR K G A' F' H' S' Ls' → Ext A F H Ls A' F' H' (p :: Ls') → p ∉ Ls' → F' p = none → MoR K G A' F' H' p m → Q (.ref p) H'
  | .ex c S' => ∀ A' F' H' Ls', WR K G A' F' H' S' Ls' → Ext A F H Ls A' F' H' Ls' → W (.ref (G.clA c)) none σ H'
  | .bad => False
def tO2 (K : PySem.W.Frag) (G : Glob) (W : WX) (f : Env → M D) : TE := fun σ H Q => ∃ A F S Ls env Le, Full K G A F H S Ls σ env Le ∧ PO2 K G W σ A F H Ls Q (f env S)
def OE2 (X : Cx) (G : Glob) (Φ : Fns) (W : WX) (e : Expr) (x : Ex) : Prop := PE X e (tO2 X.K G W (evalE Φ x))
theorem po2_po {K : PySem.W.Frag} {σ : L2.St} {A : List Addr} {F H : Hp} {Ls : List Addr} {Q : VK} {r : Res D} (h : PO2 K G W σ A F H Ls Q r) : PO K G W σ A F H Ls Q r := by
  cases r with
  | ok d S =>
    obtain ⟨m, hm, k⟩ := h
    intro p m' A' F' H' Ls' hm' w e n f mr
    rw [hm] at hm'
    cases hm'
    exact k p A' F' H' Ls' w e n f mr
  | ex c S => exact h
  | bad => exact h
theorem tO2_tO {K : PySem.W.Frag} {f : Env → M D} {σ : L2.St} {H : Hp} {Q : VK} (h : tO2 K G W f σ H Q) : tO K G W f σ H Q := by
  obtain ⟨A, F, S, Ls, env, Le, hF, q⟩ := h
  exact ⟨A, F, S, Ls, env, Le, hF, po2_po q⟩
theorem OE.two {e : Expr} {x : Ex} (h : OE X G Φ W e x) : OE2 X G Φ W e x := pe_imp h fun σ H Q q => tO2_tO q
theorem po2_fin {K : PySem.W.Frag} {σ : L2.St} {Q : VK} : Fin K G W σ (fun A F H Ls r => PO2 K G W σ A F H Ls Q r) where
  later := fun {A F H Ls A' F' H' Ls' r} o e h => by
    cases r with
    | ok d S =>
      obtain ⟨m, hm, k⟩ := h
      exact ⟨m, hm, fun p A2 F2 H2 L2 w2 e2 => k p A2 F2 H2 L2 w2 (e.trans o e2)⟩
    | ex c S => exact fun A2 F2 H2 L2 w2 e2 => h A2 F2 H2 L2 w2 (e.trans o e2)
    | bad => exact h
  ex := fun h => h
  bad := fun h => h
theorem o_add {a b : Expr} {x y : Ex} {pos : Pos} (ha : DE X G Φ W a x) (hb : DE X G Φ W b y) : OE2 X G Φ W (.BinOp a .Add b pos) (.bin .add x y) := pe_imp (pe_op op_addAll ha hb) fun σ H Q ⟨A, F, S, Ls, env, Le, hF, q⟩ => by
  rw [evalE] at q
  refine ⟨A, F, S, Ls, env, Le, hF, po2_fin.bind hF q fun d S1 v A1 F1 H1 Ls1 hF1 e1 r1 q1 => ?_⟩
  refine ⟨A1, F1, S1, Ls1, env, Le, hF1, po2_fin.bind hF1 q1 fun d2 S2 v2 A2 F2 H2 Ls2 hF2 e2 r2 q2 => ?_⟩
  have r1 := r1.mono e2.pre e2.fr
  have no : ∀ z : D, moOf z = none → ¬ PO2 X.K G W σ A2 F2 H2 Ls2 Q (.ok z S2) := fun z h ⟨m, hm, _⟩ => by rw [h] at hm; cases hm
  cases r1 with
  | @lst xs a vs h1 g1 =>
    cases r2 with
    | @lst ys b us h2 g2 =>
      have q2 : PO2 X.K G W σ A2 F2 H2 Ls2 Q (lift (if xs.length + ys.length ≤ lim then some (D.lst (xs ++ ys)) else none) S2) := q2
      split at q2
      · rename_i hl
        obtain ⟨m, hm, k⟩ := q2
        cases hm
        have w := hF2.w
        exact .inr (.inr (.inl ⟨a, b, vs, us, rfl, rfl, w.sub _ _ h1, w.sub _ _ h2, by rw [← g1.length, ← g2.length]; exact lim_of hl, fun p np => k p A2 F2 _ Ls2 (w.newOwn np) (.newOwn np) (w.fresh np) (w.nf np) (.lst upd_same (g1.append g2))⟩))
      · exact q2.elim
    | _ => exact q2.elim
  | int i =>
    cases r2 with
    | int j => exact (no _ rfl q2).elim
    | _ => exact q2.elim
  | str s =>
    cases r2 with
    | str t =>
      have q2 : PO2 X.K G W σ A2 F2 H2 Ls2 Q (lift (if s.length + t.length ≤ lim then some (D.str (s ++ t)) else none) S2) := q2
      split at q2
      · exact (no _ rfl q2).elim
      · exact q2.elim
    | _ => exact q2.elim
  | @tup xs a vs h1 g1 =>
    cases r2 with
    | @tup ys b us h2 g2 =>
      have q2 : PO2 X.K G W σ A2 F2 H2 Ls2 Q (lift (if xs.length + ys.length ≤ lim then some (D.tup (xs ++ ys)) else none) S2) := q2
      split at q2
      · exact (no _ rfl q2).elim
      · exact q2.elim
    | _ => exact q2.elim
  | _ => exact q2.elim
theorem d_box2 {a : Expr} {x : Ex} (ha : OE2 X G Φ W a x) : DE X G Φ W a (.box x) := pe_imp ha fun σ H Q ⟨A, F, S, Ls, env, Le, hF, q⟩ => by
  rw [evalE] at q
  refine ⟨A, F, S, Ls, env, Le, hF, ?_⟩
  cases r : evalE Φ x env S with
  | ok d S' =>
    rw [r] at q
    have q : PG X.K G W (RelD X.K G) σ A F H Ls Q (match boxOf d with
      | some m => .ok (.ref S'.length) (S' ++ [.box m])
      | none => .bad) := q
    cases hb : boxOf d with
    | none => rw [hb] at q; exact q.elim
    | some m =>
      rw [hb] at q
      have hm : moOf d = some m := by
        cases d with
        | lst ds => exact hb
        | dic t ks vs => exact hb
        | _ => cases hb
      refine ⟨m, hm, fun p A' F' H' Ls' w e pn fn mr => ?_⟩
      have hl := w.st.len
      have pr : A' <+: A' ++ [p] := List.prefix_append _ _
      refine q (.ref p) (A' ++ [p]) F' H' (Ls' ++ [p]) ⟨w.sub, ?_, ?_, fun b hb => ?_⟩ ⟨e.pre.trans pr, e.fr, e.keep, fun b hb => ?_⟩ (.ref ?_)
      · exact (w.st.at pr (Same.refl _) fun _ _ _ h => h).snoc (mr.pre pr)
      · refine List.nodup_append.mpr ⟨w.nd, by simp, fun b hb c hc => ?_⟩
        have : c = p := by simpa using hc
        subst this
        exact fun z => pn (by rw [← z]; exact hb)
      · rcases List.mem_append.mp hb with z | z
        · exact w.out b z
        · rw [show b = p by simpa using z]; exact fn
      · rcases hb with z | z
        · exact e.new b (.inl z)
        · refine e.new b (.inr ?_)
          rcases List.mem_append.mp z with y | y
          · exact List.mem_cons_of_mem _ y
          · rw [show b = p by simpa using y]; exact List.mem_cons_self
      · rw [← hl]
        simp
  | ex c S' => rw [r] at q; exact q
  | bad => rw [r] at q; exact q
theorem s_own2 {st : Stmt} {e : Ex} {i : Nat} (h : PS X st (tAsg (tO2 X.K G W (evalE Φ e)) (gName i))) : DS X G Φ N W st (.own i e) := ps_imp h fun σ H D ⟨A, F, S, Ls, env, Le, hF, q⟩ => by
  rw [exec] at q
  refine ⟨A, F, S, Ls, env, Le, hF, ?_⟩
  cases r : evalE Φ e env S with
  | ok d S1 =>
    rw [r] at q
    have q : PP X.K G W D A F H (Ls ++ Le) (match moOf d with
      | some m => .nx (env.set i (.own m)) S1
      | none => .bad) := q
    cases hm : moOf d with
    | none => rw [hm] at q; exact q.elim
    | some m =>
      rw [hm] at q
      refine ⟨m, hm, fun p A1 F1 H1 Ls1 w1 e1 np fp mr => ?_⟩
      have e2 : Ext A F H Ls A1 F1 H1 Ls1 := e1.sub fun a => List.mem_cons_of_mem _
      have hF1 := hF.ext w1 e2
      have nl : p ∉ Le := fun z => by
        rcases e1.new p (.inr List.mem_cons_self) with y | y | y
        · exact y (hF.out p z)
        · exact hF.dj p z y
        · obtain ⟨o, q⟩ := hF.e.there p z
          rw [q] at y; cases y
      have q1 := PP.later (O' := p :: (Ls1 ++ Le)) (fun a ha => by
        rcases List.mem_cons.mp ha with z | z
        · rw [z]; exact fp
        · exact hF1.outs a z) ((Ext.more (Le := Le) e1).sub fun a ha => ha) q
      obtain ⟨L, g2, b, c⟩ := hF1.e.putOwn i mr nl hF1.nd
      refine q1 _ A1 F1 H1 Ls1 L ⟨hF1.w, g2, c, fun a ha => ?_, fun a ha => ?_⟩ (.same fun a ha => ?_)
      · rcases b a ha with z | z
        · rw [z]; exact np
        · exact hF1.dj a z
      · rcases b a ha with z | z
        · rw [z]; exact fp
        · exact hF1.out a z
      · rcases List.mem_append.mp ha with z | z
        · exact List.mem_cons_of_mem _ (List.mem_append_left _ z)
        · rcases b a z with y | y
          · rw [y]; exact List.mem_cons_self
          · exact List.mem_cons_of_mem _ (List.mem_append_right _ y)
  | ex c S1 =>
    rw [r] at q
    exact fun A1 F1 H1 Ls1 w1 e1 => q σ A1 F1 H1 Ls1 Le (hF.ext w1 e1) e1.more
  | bad => rw [r] at q; exact q.elim
end
end FT
namespace FT
open PySem PySem.Spec PyProof.Rows L2
/-- a text's signs -/
def tx (x : Str) : List Nat := x.cps.toList
theorem tx_back (x : Str) : x = ⟨(tx x).toArray⟩ := by
  cases x
  simp [tx]
section
variable {X : Cx} {G : Glob} {Φ : Fns} {N : Nat} {W : WX}
theorem d_strc {x : Str} {j : Nat} {pos : Pos} : DE X G Φ W (.Constant (.str x) j pos) (.con (.str (tx x))) := d_con pe_str fun A F => by
  have r : Rep X.K G A F (.str (tx x)) (.str ⟨(tx x).toArray⟩) := .str (tx x)
  rw [← tx_back] at r
  exact r
theorem d_gstr {x z : Str} {pos : Pos} (hg : Gl X x) (h : ∃ t, X.mg x = some (.str z t)) (hd : (x == ("__debug__" : Str)) = false := by decide) : DE X G Φ W (.Name x pos) (.con (.str (tx z))) := by
  obtain ⟨t, ht⟩ := h
  refine d_con (pe_glob hg ht (v := .str z) ⟨_, rfl⟩ hd) fun A F => ?_
  have r : Rep X.K G A F (.str (tx z)) (.str ⟨(tx z).toArray⟩) := .str (tx z)
  rw [← tx_back] at r
  exact r
theorem d_int {i : Int} {j : Nat} {pos : Pos} : DE X G Φ W (.Constant (.int i) j pos) (.con (.int i)) := d_con pe_int fun _ _ => .int _
theorem d_bl {i : Bool} {j : Nat} {pos : Pos} : DE X G Φ W (.Constant (.bool i) j pos) (.con (.bl i)) := d_con pe_bl fun _ _ => .bl _
theorem d_non {j : Nat} {pos : Pos} : DE X G Φ W (.Constant .none j pos) (.con .non) := d_con pe_non fun _ _ => .non
theorem d_v (i : Nat) {x : Str} {pos : Pos} (h : PE X (.Name x pos) (tVar i)) : DE X G Φ W (.Name x pos) (.var i) := d_var h
theorem boot_len : bootBuiltins "len" = some (.builtin "len") := by decide +kernel
theorem boot_sum : bootBuiltins "sum" = some (.builtin "sum") := by decide +kernel
theorem boot_min : bootBuiltins "min" = some (.builtin "min") := by decide +kernel
theorem boot_max : bootBuiltins "max" = some (.builtin "max") := by decide +kernel
theorem boot_all : bootBuiltins "all" = some (.builtin "all") := by decide +kernel
theorem boot_any : bootBuiltins "any" = some (.builtin "any") := by decide +kernel
theorem boot_list : bootBuiltins "list" = some (.type "list") := by decide +kernel
theorem boot_tuple : bootBuiltins "tuple" = some (.type "tuple") := by decide +kernel
theorem boot_str : bootBuiltins "str" = some (.type "str") := by decide +kernel
theorem boot_int : bootBuiltins "int" = some (.type "int") := by decide +kernel
/-- the text rules of lists -/
theorem e_append {o a : Expr} {i : Nat} {x : Ex} {apos pos spos : Pos} (ho : PE X o (tVar i)) (ha : DE X G Φ W a x) (hbase : attributeBase o "append" X.env (eval o X.env) = eval o X.env := by rfl)
    (hfew : ((backTo pos (starEach [a] X.env)).all (fun x => !x.1) && (backToKw pos (keywordEach [] X.env)).all (fun x => x.1.isSome) && decide (([a] : List Expr).length + ([] : List Keyword).length + (if ([] : List Keyword).isEmpty then 0 else 1) < 30)) = true := by rfl)
    (hline : (apos.endLine == pos.line) = true := by rfl) (hs : starEach [a] X.env = [(false, eval a X.env)] := by rfl) (hsw : swapsWith (.Call (.Attribute o "append" apos) [a] [] pos) none spos.line X.env = pure false := by rfl) :
    DS X G Φ N W (.Expr (.Call (.Attribute o "append" apos) [a] [] pos) spos) (.app i x) :=
  s_app (ps_expr (pe_bm F.plainAttrs_list F.slot_list_append F.type_list_append mt_append ho (pa_cons ha pa_nil hs) hbase hfew hline hs rfl) hsw)
end
/-! ### all defs, by the depth of calls -/
/-- what the defs do: parameters, names, body -/
structure Fb where
  ar : Nat
  lo : Nat
  bd : Sts
def Φs (N : Nat) (fb : List Fb) : Nat → Fns
  | 0 => fun _ _ _ => .bad
  | n + 1 => fun f => match fb[f]? with
    | some b => runF (Φs N fb n) N b.ar b.lo b.bd
    | none => fun _ _ => .bad
section
variable {P : Program} {w : World} {K : PySem.W.Frag} {mg : Str → Option Value} {base : Heap} {G : Glob}
theorem fn_zero {f : Addr} {fd : FuncData} {ps : List Str} {g : List D → M D} (h : ∀ ds S, g ds S = .bad) : FnOk P w K mg base (L2.CX P w) 0 f fd ps (spF K G g) := by
  have no : ∀ vs H Q E, ¬ spF K G g vs H Q E := fun vs H Q E ⟨A, F, S, Ls, ds, hw, hr, hp⟩ => by
    rw [h] at hp
    exact hp
  exact ⟨fun vs H Q E h => absurd h (no vs H Q E), fun A outer s H args us vs Q E _ _ _ _ h => absurd h (no vs H Q E)⟩
/-- one def, at every depth -/
structure FnAll (P : Program) (w : World) (K : PySem.W.Frag) (mg : Str → Option Value) (base : Heap) (G : Glob) (N : Nat) (fb : List Fb) (fns : List Str) (i : Nat) : Prop where
  nm : ∃ x, fns[i]? = some x ∧ mg x = some (.ref (G.fnA i))
  kp : PySem.W.keepIn K (.ref (G.fnA i)) = true
  fn : ∃ fd ps, Binds K fd ps [] ∧ ∀ n, (∀ j x, fns[j]? = some x → FnAt P w K mg base G (Φs N fb n) n j x) → FnOk P w K mg base (L2.CX P w) (n + 1) (G.fnA i) fd ps (spF K G (Φs N fb (n + 1) i))
theorem all_fns {N : Nat} {fb : List Fb} {fns : List Str} (h : ∀ i, i < fns.length → FnAll P w K mg base G N fb fns i) : ∀ n j x, fns[j]? = some x → FnAt P w K mg base G (Φs N fb n) n j x
  | 0, j, x, e => by
    obtain ⟨⟨y, e1, m⟩, kp, fd, ps, hb, _⟩ := h j (List.getElem?_eq_some_iff.mp e).1
    rw [e] at e1
    cases e1
    exact ⟨⟨fd, ps, hb, fn_zero fun _ _ => rfl⟩, kp, m⟩
  | n + 1, j, x, e => by
    obtain ⟨⟨y, e1, m⟩, kp, fd, ps, hb, st⟩ := h j (List.getElem?_eq_some_iff.mp e).1
    rw [e] at e1
    cases e1
    exact ⟨⟨fd, ps, hb, st n (all_fns h n)⟩, kp, m⟩
/-- the law's own promise -/
def spLaw (K : PySem.W.Frag) (q : List Int → Prop) : Sp := fun vs H Q _ => ∃ (a : Addr) (ns : List Int), vs = [.ref a] ∧ SqL K H a (ns.map V.int) ∧ q ns ∧ ∀ H', Q (.bl true) H'
theorem law_of {n : Nat} {f : Addr} {fd : FuncData} {ps : List Str} {g : List D → M D} {q : List Int → Prop} (F : FnOk P w K mg base (L2.CX P w) n f fd ps (spF K G g)) (h : ∀ ns, q ns → ∃ S, g [.scr ns] [] = .ok (.bl true) S) : FnOk P w K mg base (L2.CX P w) n f fd ps (spLaw K q) := by
  have im : ∀ vs H Q E, spLaw K q vs H Q E → spF K G g vs H Q E := fun vs H Q E ⟨a, ns, ev, hs, hq, k⟩ => by
    subst ev
    obtain ⟨S, e⟩ := h ns hq
    refine ⟨[], H, [], [], [.scr ns], ⟨Same.refl _, .nil, List.nodup_nil, fun a m => by cases m⟩, .cons (.scr hs) .nil, ?_⟩
    rw [e]
    intro v A' F' H' Ls' w' e' r'
    cases r'
    exact k H'
  exact ⟨fun vs H Q E h => F.len vs H Q E (im vs H Q E h), fun A outer s H args us vs Q E h1 h2 h3 h4 h5 => F.run A outer s H args us vs Q E h1 h2 h3 h4 (im _ _ _ _ h5)⟩
end
end FT
namespace FT
open PySem PySem.Spec PyProof.Rows L2
/-- what may fly out, in any world -/
def CXa (P : Program) : CXT := fun outer H s E u s' => ∃ w, L2.CX P w outer H s E u s'
theorem any_cx {P : Program} {w : World} {K : PySem.W.Frag} {mg : Str → Option Value} {base : Heap} {k : Nat} {f : Addr} {fd : FuncData} {ps : List Str} {sp : Sp} (F : FnOk P w K mg base (L2.CX P w) k f fd ps sp) : FnOk P w K mg base (CXa P) k f fd ps sp := by
  refine ⟨F.len, fun A outer s H args us vs Q E h1 h2 h3 h4 h5 => codeAny_mono (F.run A outer s H args us vs Q E h1 h2 h3 h4 h5) fun r s' h => ?_⟩
  cases r with
  | ok v => cases v <;> exact h
  | error e => exact ⟨w, h⟩
theorem no_cxa {P : Program} (H : Hp) (s : Shared) (e : Value) (s' : Shared) (h : CXa P [] H s (fun _ _ _ => False) e s') : False := by
  obtain ⟨w, _, _, _, _, _, _, _, _, _, _, _, _, z⟩ := h
  exact z
end FT
namespace FT
open PySem PySem.Spec PyProof.Rows L2
/-! ### reckoning, no program in sight -/
inductive All2 {α β : Type} (R : α → β → Prop) : List α → List β → Prop
  | nil : All2 R [] []
  | cons {a : α} {b : β} {l : List α} {m : List β} : R a b → All2 R l m → All2 R (a :: l) (b :: m)
theorem All2.len {α β : Type} {R : α → β → Prop} : ∀ {l : List α} {m : List β}, All2 R l m → l.length = m.length
  | _, _, .nil => rfl
  | _, _, .cons _ r => by simp [All2.len r]
@[simp] theorem lift_some {α : Type} (a : α) (S : Sh) : lift (some a) S = .ok a S := Eq.trans rfl rfl
@[simp] theorem lift_none {α : Type} (S : Sh) : (lift none : M α) S = .bad := Eq.trans rfl rfl
theorem lcL_map {f : D → M (Option D)} {g : D → D} : ∀ (ds : List D) (S : Sh), (∀ d ∈ ds, f d S = .ok (some (g d)) S) → lcL f ds S = .ok (ds.map g) S
  | [], S, _ => rfl
  | d :: ds, S, h => by
    rw [lcL, h d List.mem_cons_self]
    dsimp only
    rw [lcL_map ds S fun e he => h e (List.mem_cons_of_mem _ he)]
    rfl
theorem lcL_filter {f : D → M (Option D)} {p : D → Bool} {g : D → D} : ∀ (ds : List D) (S : Sh), (∀ d ∈ ds, f d S = .ok (if p d then some (g d) else none) S) → lcL f ds S = .ok ((ds.filter p).map g) S
  | [], S, _ => rfl
  | d :: ds, S, h => by
    rw [lcL, h d List.mem_cons_self]
    dsimp only
    rw [lcL_filter ds S fun e he => h e (List.mem_cons_of_mem _ he)]
    cases hp : p d <;> simp [hp]
section
variable {Φ : Fns} {vs : List Nat} {x c : Ex} {tg : Tg} {it : Itx} {env : Env} {S : Sh} {ds : List D}
theorem lc_map {g : D → D} (hi : evalI Φ it env S = .ok ds S) (hl : ds.length ≤ lim) (h : ∀ d ∈ ds, ∃ env', assignT tg d (wipeE env vs) = some env' ∧ evalE Φ x env' S = .ok (g d) S) :
    evalE Φ (.lc vs x tg it (.con (.bl true))) env S = .ok (.lst (ds.map g)) S := by
  rw [evalE_lc, hi]
  simp only [Res.bind_ok]
  rw [if_pos hl, lcL_map (g := g) ds S fun d hd => ?_]
  · rfl
  · obtain ⟨env', h1, h2⟩ := h d hd
    unfold keepF
    rw [h1]
    dsimp only
    rw [evalE]
    show ((evalE Φ x env' S).bind fun y => lift (some (some y))) = _
    rw [h2]
    rfl
theorem lc_filter {g : D → D} {p : D → Bool} (hi : evalI Φ it env S = .ok ds S) (hl : ds.length ≤ lim) (h : ∀ d ∈ ds, ∃ env', assignT tg d (wipeE env vs) = some env' ∧ evalE Φ c env' S = .ok (.bl (p d)) S ∧ (p d = true → evalE Φ x env' S = .ok (g d) S)) :
    evalE Φ (.lc vs x tg it c) env S = .ok (.lst ((ds.filter p).map g)) S := by
  rw [evalE_lc, hi]
  simp only [Res.bind_ok]
  rw [if_pos hl, lcL_filter (p := p) (g := g) ds S fun d hd => ?_]
  · rfl
  · obtain ⟨env', h1, h2, h3⟩ := h d hd
    unfold keepF
    rw [h1]
    dsimp only
    rw [h2]
    cases hp : p d with
    | false => rfl
    | true =>
      show ((evalE Φ x env' S).bind fun y => lift (some (some y))) = _
      rw [h3 hp]
      rfl
/-- items that draw -/
theorem lcL_draw {f : D → M (Option D)} {R : D → D → Prop} {I : Nat → Sh → Prop} (h : ∀ i d S, ds[i]? = some d → I i S → ∃ y S', f d S = .ok (some y) S' ∧ R d y ∧ I (i + 1) S') :
    ∀ (n i : Nat) (S : Sh), i + n = ds.length → I i S → ∃ ys S', lcL f (ds.drop i) S = .ok ys S' ∧ I ds.length S' ∧ All2 R (ds.drop i) ys
  | 0, i, S, e, hi => by
    have hd : ds.drop i = [] := List.drop_eq_nil_of_le (by omega)
    rw [hd]
    exact ⟨[], S, rfl, by rw [show ds.length = i by omega]; exact hi, .nil⟩
  | n + 1, i, S, e, hi => by
    have hlt : i < ds.length := by omega
    have hd : ds.drop i = ds[i] :: ds.drop (i + 1) := List.drop_eq_getElem_cons hlt
    obtain ⟨y, S1, h1, h2, h3⟩ := h i ds[i] S (List.getElem?_eq_getElem hlt) hi
    obtain ⟨ys, S2, g1, g2, g3⟩ := lcL_draw h n (i + 1) S1 (by omega) h3
    rw [hd, lcL, h1]
    dsimp only
    rw [g1]
    exact ⟨y :: ys, S2, rfl, g2, .cons h2 g3⟩
theorem lc_draw {R : D → D → Prop} {I : Nat → Sh → Prop} {S1 : Sh} (hi : evalI Φ it env S = .ok ds S1) (hl : ds.length ≤ lim) (h0 : I 0 S1)
    (h : ∀ i d S, ds[i]? = some d → I i S → ∃ env' y S', assignT tg d (wipeE env vs) = some env' ∧ evalE Φ x env' S = .ok y S' ∧ R d y ∧ I (i + 1) S') :
    ∃ ys S', evalE Φ (.lc vs x tg it (.con (.bl true))) env S = .ok (.lst ys) S' ∧ I ds.length S' ∧ All2 R ds ys := by
  obtain ⟨ys, S', h1, h2, h3⟩ := lcL_draw (f := keepF Φ env vs x tg (.con (.bl true))) (R := R) (I := I) (ds := ds) (fun i d S hd hI => by
    obtain ⟨env', y, S', g1, g2, g3, g4⟩ := h i d S hd hI
    refine ⟨y, S', ?_, g3, g4⟩
    unfold keepF
    rw [g1]
    dsimp only
    rw [evalE]
    show ((evalE Φ x env' S).bind fun y => lift (some (some y))) = _
    rw [g2]
    rfl) ds.length 0 S1 (by omega) h0
  rw [List.drop_zero] at h1 h3
  refine ⟨ys, S', ?_, h2, h3⟩
  rw [evalE_lc, hi]
  simp only [Res.bind_ok]
  rw [if_pos hl, h1]
  rfl
end
theorem forL_inv {f : D → Env → Sh → ORes} {ds : List D} {I : Nat → Env → Sh → Prop} (h : ∀ i d env S, ds[i]? = some d → I i env S → ∃ env' S', f d env S = .nx env' S' ∧ I (i + 1) env' S') :
    ∀ (n i : Nat) (env : Env) (S : Sh), i + n = ds.length → I i env S → ∃ env' S', forL f (ds.drop i) env S = .nx env' S' ∧ I ds.length env' S'
  | 0, i, env, S, e, hi => by
    have hd : ds.drop i = [] := List.drop_eq_nil_of_le (by omega)
    rw [hd]
    exact ⟨env, S, rfl, by rw [show ds.length = i by omega]; exact hi⟩
  | n + 1, i, env, S, e, hi => by
    have hlt : i < ds.length := by omega
    have hd : ds.drop i = ds[i] :: ds.drop (i + 1) := List.drop_eq_getElem_cons hlt
    obtain ⟨env1, S1, h1, h2⟩ := h i ds[i] env S (List.getElem?_eq_getElem hlt) hi
    obtain ⟨env2, S2, g1, g2⟩ := forL_inv h n (i + 1) env1 S1 (by omega) h2
    rw [hd, forL, h1]
    exact ⟨env2, S2, g1, g2⟩
theorem for_inv {f : D → Env → Sh → ORes} {ds : List D} (I : Nat → Env → Sh → Prop) {env : Env} {S : Sh} (h0 : I 0 env S) (h : ∀ i d env S, ds[i]? = some d → I i env S → ∃ env' S', f d env S = .nx env' S' ∧ I (i + 1) env' S') : ∃ env' S', forL f ds env S = .nx env' S' ∧ I ds.length env' S' := by
  have := forL_inv h ds.length 0 env S (by omega) h0
  rwa [List.drop_zero] at this
/-! ### plain data of small size -/
mutual
def sm : Nat → D → Bool
  | _, .non => true
  | _, .bl _ => true
  | _, .int _ => true
  | _, .str s => decide (s.length ≤ 1000) && s.all (· < 1114112)
  | n + 1, .tup xs => decide (xs.length ≤ 1000) && sms n xs
  | n + 1, .lst xs => decide (xs.length ≤ 1000) && sms n xs
  | _, _ => false
def sms : Nat → List D → Bool
  | _, [] => true
  | n, x :: xs => sm n x && sms n xs
end
mutual
theorem sm_ok : ∀ (n : Nat) (d : D), sm n d = true → okD d n = true
  | n, .non, _ => by simp [okD]
  | n, .bl _, _ => by simp [okD]
  | n, .int _, _ => by simp [okD]
  | n, .str s, h => by
    cases n <;> (simp only [sm, Bool.and_eq_true] at h; simp only [okD]; exact h.2)
  | 0, .tup xs, h => by simp [sm] at h
  | 0, .lst xs, h => by simp [sm] at h
  | n + 1, .tup xs, h => by
    simp only [sm, Bool.and_eq_true] at h
    simp only [okD]
    exact sms_ok n xs h.2
  | n + 1, .lst xs, h => by
    simp only [sm, Bool.and_eq_true] at h
    simp only [okD]
    exact sms_ok n xs h.2
  | n, .ref _, h => by cases n <;> simp [sm] at h
  | n, .fn _, h => by cases n <;> simp [sm] at h
  | n, .exc _, h => by cases n <;> simp [sm] at h
  | n, .scr _, h => by cases n <;> simp [sm] at h
theorem sms_ok : ∀ (n : Nat) (ds : List D), sms n ds = true → okDs ds n = true
  | n, [], _ => by simp [okDs]
  | n, d :: ds, h => by
    simp only [sms, Bool.and_eq_true] at h
    simp only [okDs, Bool.and_eq_true]
    exact ⟨sm_ok n d h.1, sms_ok n ds h.2⟩
end
theorem sms_mem {n : Nat} : ∀ {ds : List D}, sms n ds = true → ∀ d ∈ ds, sm n d = true
  | _ :: ds, h, d, hd => by
    simp only [sms, Bool.and_eq_true] at h
    rcases List.mem_cons.mp hd with e | e
    · rw [e]; exact h.1
    · exact sms_mem h.2 d e
theorem sms_of {n : Nat} : ∀ {ds : List D}, (∀ d ∈ ds, sm n d = true) → sms n ds = true
  | [], _ => by simp [sms]
  | d :: ds, h => by
    simp only [sms, Bool.and_eq_true]
    exact ⟨h d List.mem_cons_self, sms_of fun e he => h e (List.mem_cons_of_mem _ he)⟩
mutual
theorem okD_more : ∀ (d : D) (n m : Nat), n ≤ m → okD d n = true → okD d m = true
  | .non, n, m, _, _ => by simp [okD]
  | .bl _, n, m, _, _ => by simp [okD]
  | .int _, n, m, _, _ => by simp [okD]
  | .str s, n, m, _, h => by simpa [okD] using h
  | .tup xs, 0, m, _, h => by simp [okD] at h
  | .lst xs, 0, m, _, h => by simp [okD] at h
  | .tup xs, n + 1, 0, l, h => by omega
  | .lst xs, n + 1, 0, l, h => by omega
  | .tup xs, n + 1, m + 1, l, h => by
    simp only [okD] at h ⊢
    exact okDs_more xs n m (by omega) h
  | .lst xs, n + 1, m + 1, l, h => by
    simp only [okD] at h ⊢
    exact okDs_more xs n m (by omega) h
  | .ref _, n, m, _, h => by simp [okD] at h
  | .fn _, n, m, _, h => by simp [okD] at h
  | .exc _, n, m, _, h => by simp [okD] at h
  | .scr _, n, m, _, h => by simp [okD] at h
theorem okDs_more : ∀ (ds : List D) (n m : Nat), n ≤ m → okDs ds n = true → okDs ds m = true
  | [], n, m, _, _ => by simp [okDs]
  | d :: ds, n, m, l, h => by
    simp only [okDs, Bool.and_eq_true] at h ⊢
    exact ⟨okD_more d n m l h.1, okDs_more ds n m l h.2⟩
end
theorem sm_eq {d e : D} {n m : Nat} (h1 : sm n d = true) (h2 : sm m e = true) (hn : n ≤ 60 := by omega) (hm : m ≤ 60 := by omega) : eqD d e = some (eqv d e) := by
  have a := okD_more d n 60 hn (sm_ok n d h1)
  have b := okD_more e m 60 hm (sm_ok m e h2)
  have nd : norm d = d := by cases d <;> first | rfl | (cases n <;> simp [sm] at h1)
  have ne : norm e = e := by cases e <;> first | rfl | (cases m <;> simp [sm] at h2)
  unfold eqD
  rw [nd, ne, a, b]
  rfl
theorem blsD_map {α : Type} (p : α → Bool) : ∀ l : List α, blsD (l.map fun a => D.bl (p a)) = some (l.map p)
  | [] => rfl
  | a :: l => by rw [List.map_cons, blsD, blsD_map p l]; rfl
theorem intsD_map {α : Type} (p : α → Int) : ∀ l : List α, intsD (l.map fun a => D.int (p a)) = some (l.map p)
  | [] => rfl
  | a :: l => by rw [List.map_cons, intsD, intsD_map p l]; rfl
theorem strsD_map {α : Type} (p : α → List Nat) : ∀ l : List α, strsD (l.map fun a => D.str (p a)) = some (l.map p)
  | [] => rfl
  | a :: l => by rw [List.map_cons, strsD, strsD_map p l]; rfl
end FT
namespace FT
open PySem PySem.Spec PyProof.Rows L2
/-! ### the words' own laws, in the form in which they are reckoned with -/
def gv : Option SV → M D
  | some (.dat d), S => .ok d S
  | _, _ => .bad
@[simp] theorem gv_dat (d : D) (S : Sh) : gv (some (.dat d)) S = .ok d S := Eq.trans rfl rfl
def ofB : Option Bool → M D
  | some b, S => .ok (.bl b) S
  | none, _ => .bad
@[simp] theorem ofB_some (b : Bool) (S : Sh) : ofB (some b) S = .ok (.bl b) S := Eq.trans rfl rfl
def optB (o : Option Bool) (k : Bool → M D) : M D := fun S => match o with
  | some b => k b S
  | none => .bad
@[simp] theorem optB_some (b : Bool) (k : Bool → M D) (S : Sh) : optB (some b) k S = k b S := Eq.trans rfl rfl
def cmpB : Cop → D → D → Option Bool
  | .eq, d, e => eqD d e
  | .ne, d, e => (eqD d e).map (!·)
  | .lt, d, e => ltD d e
  | .gt, d, e => ltD e d
  | .le, d, e => leD d e
  | .ge, d, e => leD e d
  | .isin, d, e => inD d e
  | .nin, d, e => (inD d e).map (!·)
  | .is, d, e => isD d e
  | .isn, d, e => (isD d e).map (!·)
theorem cmp_b (o : Cop) (d e : D) : cmpD o d e = (cmpB o d e).map D.bl := by
  cases o <;> simp only [cmpD, cmpB, Option.map_map] <;> rfl
@[simp] theorem condB_bl (b : Bool) (S : Sh) : condB (.ok (.bl b) S) = .ok b S := Eq.trans rfl rfl
section
variable {α : Type} (c : Prop) [Decidable c]
theorem bind_ite {β : Type} (a b : Res α) (k : α → M β) : (if c then a else b).bind k = if c then a.bind k else b.bind k := by split <;> rfl
theorem onto_ite (env : Env) (a b : Res α) (k : α → Sh → ORes) : (if c then a else b).onto env k = if c then a.onto env k else b.onto env k := by split <;> rfl
theorem cond_ite (a b : Res D) : condB (if c then a else b) = if c then condB a else condB b := by split <;> rfl
theorem app_ite {β : Type} (f g : Sh → β) (S : Sh) : (if c then f else g) S = if c then f S else g S := by split <;> rfl
end
def rng1D : D → Option (List D)
  | .int j => rngD 0 j
  | _ => none
theorem rg_i (j : Int) : rng1D (.int j) = rngD 0 j := rfl
def rng2D : D → D → Option (List D)
  | .int i, .int j => rngD i j
  | _, _ => none
theorem rg_ii (i j : Int) : rng2D (.int i) (.int j) = rngD i j := rfl
def negD : D → Option D
  | .int i => some (.int (-i))
  | _ => none
theorem ng_i (i : Int) : negD (.int i) = some (.int (-i)) := rfl
def intO : D → Option (Option Int)
  | .int i => some (some i)
  | _ => none
theorem io_i (i : Int) : intO (.int i) = some (some i) := rfl
def zip2D : D → D → Option (List D)
  | .lst x, .lst y => some (zipD x y)
  | .tup x, .tup y => some (zipD x y)
  | _, _ => none
theorem zp_l (x y : List D) : zip2D (.lst x) (.lst y) = some (zipD x y) := rfl
theorem zp_t (x y : List D) : zip2D (.tup x) (.tup y) = some (zipD x y) := rfl
section
variable {Φ : Fns} {N : Nat} {env : Env} {S : Sh}
theorem ev_var (i : Nat) : evalE Φ (.var i) env S = gv env[i]? S := by
  rw [evalE]
  cases env[i]? with
  | none => rfl
  | some v => cases v <;> rfl
theorem ev_con (d : D) : evalE Φ (.con d) env S = .ok d S := by rw [evalE]
theorem ev_bin (o : Bop) (a b : Ex) : evalE Φ (.bin o a b) env S = (evalE Φ a env S).bind fun d => fun S1 => (evalE Φ b env S1).bind fun e => lift (binD o d e) := by rw [evalE]
theorem ev_neg (a : Ex) : evalE Φ (.neg a) env S = (evalE Φ a env S).bind fun d => lift (negD d) := by
  rw [evalE]
  cases evalE Φ a env S with
  | ok d S => cases d <;> rfl
  | _ => rfl
theorem ev_not (a : Ex) : evalE Φ (.not a) env S = (condB (evalE Φ a env S)).bind fun b => lift (some (.bl (!b))) := by
  rw [evalE]
  cases evalE Φ a env S with
  | ok d S => cases d <;> rfl
  | _ => rfl
theorem ev_and (a b : Ex) : evalE Φ (.and a b) env S = (condB (evalE Φ a env S)).bind fun k => fun S1 => if k = true then evalE Φ b env S1 else .ok (.bl false) S1 := by
  rw [evalE]
  cases evalE Φ a env S with
  | ok d S =>
    cases d with
    | bl k => cases k <;> rfl
    | _ => rfl
  | _ => rfl
theorem ev_or (a b : Ex) : evalE Φ (.or a b) env S = (condB (evalE Φ a env S)).bind fun k => fun S1 => if k = true then .ok (.bl true) S1 else evalE Φ b env S1 := by
  rw [evalE]
  cases evalE Φ a env S with
  | ok d S =>
    cases d with
    | bl k => cases k <;> rfl
    | _ => rfl
  | _ => rfl
theorem ev_cmp (o : Cop) (a b : Ex) : evalE Φ (.cmp o a b) env S = (evalE Φ a env S).bind fun d => fun S1 => (evalE Φ b env S1).bind fun e => ofB (cmpB o d e) := by
  rw [evalE]
  congr 1
  funext d S1
  congr 1
  funext e
  rw [cmp_b]
  cases cmpB o d e <;> rfl
theorem ev_chain (o o' : Cop) (a b c : Ex) : evalE Φ (.chain o o' a b c) env S = (evalE Φ a env S).bind fun d => fun S1 => (evalE Φ b env S1).bind fun e => optB (cmpB o d e) fun k => fun S2 => if k = true then (evalE Φ c env S2).bind fun g => ofB (cmpB o' e g) else .ok (.bl false) S2 := by
  rw [evalE]
  congr 1
  funext d S1
  congr 1
  funext e
  rw [cmp_b]
  cases cmpB o d e with
  | none => rfl
  | some k =>
    cases k with
    | true =>
      funext S2
      show ((evalE Φ c env S2).bind fun g => lift (cmpD o' e g)) = (evalE Φ c env S2).bind fun g => ofB (cmpB o' e g)
      congr 1
      funext g
      rw [cmp_b]
      cases cmpB o' e g <;> rfl
    | false => rfl
theorem ev_ife (t a b : Ex) : evalE Φ (.ife t a b) env S = (condB (evalE Φ t env S)).bind fun k => fun S1 => if k = true then evalE Φ a env S1 else evalE Φ b env S1 := by
  rw [evalE]
  cases evalE Φ t env S with
  | ok d S =>
    cases d with
    | bl k => cases k <;> rfl
    | _ => rfl
  | _ => rfl
theorem ev_tup (es : Exs) : evalE Φ (.tup es) env S = (evalL Φ es env S).bind fun ds => lift (if ds.length ≤ 1000 then some (.tup ds) else none) := by rw [evalE]
theorem ev_lst (es : Exs) : evalE Φ (.lst es) env S = (evalL Φ es env S).bind fun ds => lift (if ds.length ≤ 1000 then some (.lst ds) else none) := by rw [evalE]
theorem ev_ix (a i : Ex) : evalE Φ (.ix a i) env S = (evalE Φ a env S).bind fun d => fun S1 => (evalE Φ i env S1).bind fun e => lift (ixD d e) := by rw [evalE]
theorem ev_sl (a : Ex) (lo hi : Opx) : evalE Φ (.sl a lo hi) env S = (evalE Φ a env S).bind fun d => fun S1 => (evalO Φ lo env S1).bind fun l => fun S2 => (evalO Φ hi env S2).bind fun h => lift (slD d l h) := by rw [evalE]
theorem ev_call (f : Nat) (es : Exs) : evalE Φ (.call f es) env S = (evalL Φ es env S).bind fun ds => Φ f ds := by rw [evalE]
theorem ev_bi (b : Bi) (es : Exs) : evalE Φ (.bi b es) env S = (evalL Φ es env S).bind fun ds => lift (biD b ds) := by rw [evalE]
theorem ev_ixb (a i : Ex) : evalE Φ (.ixb a i) env S = (evalE Φ a env S).bind fun d => fun S1 => (evalE Φ i env S1).bind fun e => fun S2 => lift (ixbD S2 d e) S2 := by rw [evalE]
theorem ev_sset (a : Ex) : evalE Φ (.sset a) env S = (evalE Φ a env S).bind fun d => lift (ssetD d) := by rw [evalE]
def lcK (f : D → M (Option D)) (ds : List D) : M D := fun S => if ds.length ≤ lim then (lcL f ds S).bind fun ys => lift (some (.lst ys)) else .bad
theorem ev_lc (vs : List Nat) (x : Ex) (tg : Tg) (it : Itx) (c : Ex) : evalE Φ (.lc vs x tg it c) env S = (evalI Φ it env S).bind fun ds => lcK (keepF Φ env vs x tg c) ds := by
  rw [evalE_lc]
  cases evalI Φ it env S with
  | ok ds S1 =>
    simp only [Res.bind_ok]
    unfold lcK
    split <;> rfl
  | _ => rfl
theorem lcK_m {α : Type} {f : D → M (Option D)} {h : α → D} (g : α → D) (l : List α) (hl : l.length ≤ lim) (hf : ∀ a ∈ l, f (h a) S = .ok (some (g a)) S) : lcK f (l.map h) S = .ok (.lst (l.map g)) S := by
  have e : lcL f (l.map h) S = .ok (l.map g) S := by
    clear hl
    induction l with
    | nil => rfl
    | cons a l ih =>
      rw [List.map_cons, lcL, hf a List.mem_cons_self]
      dsimp only
      rw [ih fun b hb => hf b (List.mem_cons_of_mem _ hb)]
      rfl
  unfold lcK
  rw [if_pos (by rw [List.length_map]; exact hl), e]
  rfl
theorem lcK_f {α : Type} {f : D → M (Option D)} {h : α → D} (p : α → Bool) (g : α → D) (l : List α) (hl : l.length ≤ lim) (hf : ∀ a ∈ l, f (h a) S = .ok (if p a then some (g a) else none) S) : lcK f (l.map h) S = .ok (.lst ((l.filter p).map g)) S := by
  have e : lcL f (l.map h) S = .ok ((l.filter p).map g) S := by
    clear hl
    induction l with
    | nil => rfl
    | cons a l ih =>
      rw [List.map_cons, lcL, hf a List.mem_cons_self]
      dsimp only
      rw [ih fun b hb => hf b (List.mem_cons_of_mem _ hb)]
      cases hp : p a <;> simp [hp]
  unfold lcK
  rw [if_pos (by rw [List.length_map]; exact hl), e]
  rfl
theorem lcK_d {f : D → M (Option D)} (g : D → D) (l : List D) (hl : l.length ≤ lim) (hf : ∀ a ∈ l, f a S = .ok (some (g a)) S) : lcK f l S = .ok (.lst (l.map g)) S := by
  have := lcK_m (h := id) (S := S) g l hl hf
  rwa [List.map_id] at this
theorem lcK_fd {f : D → M (Option D)} (p : D → Bool) (g : D → D) (l : List D) (hl : l.length ≤ lim) (hf : ∀ a ∈ l, f a S = .ok (if p a then some (g a) else none) S) : lcK f l S = .ok (.lst ((l.filter p).map g)) S := by
  have := lcK_f (h := id) (S := S) p g l hl hf
  rwa [List.map_id] at this
theorem lcK_draw {f : D → M (Option D)} {ds : List D} (R : D → D → Prop) (I : Nat → Sh → Prop) (hl : ds.length ≤ lim) (h0 : I 0 S) (h : ∀ i d S, ds[i]? = some d → I i S → ∃ y S', f d S = .ok (some y) S' ∧ R d y ∧ I (i + 1) S') :
    ∃ ys S', lcK f ds S = .ok (.lst ys) S' ∧ I ds.length S' ∧ All2 R ds ys := by
  obtain ⟨ys, S', h1, h2, h3⟩ := lcL_draw (f := f) (R := R) (I := I) (ds := ds) h ds.length 0 S (by omega) h0
  rw [List.drop_zero] at h1 h3
  refine ⟨ys, S', ?_, h2, h3⟩
  unfold lcK
  rw [if_pos hl, h1]
  rfl
theorem ev_box (a : Ex) : evalE Φ (.box a) env S = (evalE Φ a env S).bind fun d => fun S1 => (match boxOf d with
    | some m => .ok (.ref S1.length) (S1 ++ [.box m])
    | none => .bad) := by rw [evalE] <;> rfl
theorem el_nil : evalL Φ .nil env S = .ok [] S := by rw [evalL]
theorem el_cons (e : Ex) (es : Exs) : evalL Φ (.cons e es) env S = (evalE Φ e env S).bind fun d => fun S1 => (evalL Φ es env S1).bind fun ds => lift (some (d :: ds)) := by rw [evalL]
theorem eo_no : evalO Φ .no env S = .ok none S := by rw [evalO]
theorem eo_at (e : Ex) : evalO Φ (.at e) env S = (evalE Φ e env S).bind fun d => lift (intO d) := by
  rw [evalO]
  cases evalE Φ e env S with
  | ok d S => cases d <;> rfl
  | _ => rfl
theorem ei_e (a : Ex) : evalI Φ (.e a) env S = (evalE Φ a env S).bind fun d => lift (itemsD d) := by rw [evalI]
theorem ei_rng1 (a : Ex) : evalI Φ (.rng1 a) env S = (evalE Φ a env S).bind fun d => lift (rng1D d) := by
  rw [evalI]
  cases evalE Φ a env S with
  | ok d S => cases d <;> rfl
  | _ => rfl
theorem ei_rng2 (a b : Ex) : evalI Φ (.rng2 a b) env S = (evalE Φ a env S).bind fun d => fun S1 => (evalE Φ b env S1).bind fun e => lift (rng2D d e) := by
  rw [evalI]
  congr 1
  funext d S1
  congr 1
  funext e
  cases d <;> cases e <;> rfl
theorem ei_zip (a b : Ex) : evalI Φ (.zip a b) env S = (evalE Φ a env S).bind fun d => fun S1 => (evalE Φ b env S1).bind fun e => lift (zip2D d e) := by
  rw [evalI]
  congr 1
  funext d S1
  congr 1
  funext e
  cases d <;> cases e <;> rfl
/-! statements -/
def seqR (r : ORes) (k : Env → Sh → ORes) : ORes := match r with
  | .nx env S => k env S
  | r => r
@[simp] theorem seqR_nx (env : Env) (S : Sh) (k : Env → Sh → ORes) : seqR (.nx env S) k = k env S := Eq.trans rfl rfl
@[simp] theorem seqR_rt (d : D) (S : Sh) (k : Env → Sh → ORes) : seqR (.rt d S) k = .rt d S := Eq.trans rfl rfl
@[simp] theorem seqR_ex (c : Nat) (env : Env) (S : Sh) (k : Env → Sh → ORes) : seqR (.ex c env S) k = .ex c env S := Eq.trans rfl rfl
theorem seqR_ite (c : Prop) [Decidable c] (a b : ORes) (k : Env → Sh → ORes) : seqR (if c then a else b) k = if c then seqR a k else seqR b k := by split <;> rfl
def finR : ORes → Res D
  | .rt d S => .ok d S
  | .nx _ S => .ok .non S
  | .ex c _ S => .ex c S
  | .bad => .bad
@[simp] theorem finR_rt (d : D) (S : Sh) : finR (.rt d S) = .ok d S := Eq.trans rfl rfl
@[simp] theorem finR_nx (env : Env) (S : Sh) : finR (.nx env S) = .ok .non S := Eq.trans rfl rfl
@[simp] theorem finR_ex (c : Nat) (env : Env) (S : Sh) : finR (.ex c env S) = .ex c S := Eq.trans rfl rfl
theorem finR_ite (c : Prop) [Decidable c] (a b : ORes) : finR (if c then a else b) = if c then finR a else finR b := by split <;> rfl
def nxO (o : Option Env) (S : Sh) : ORes := match o with
  | some env => .nx env S
  | none => .bad
@[simp] theorem nxO_some (env : Env) (S : Sh) : nxO (some env) S = .nx env S := Eq.trans rfl rfl
theorem xs_nil : execs Φ N .nil env S = .nx env S := by rw [execs]
theorem xs_cons (s : St) (ss : Sts) : execs Φ N (.cons s ss) env S = seqR (exec Φ N s env S) fun env S => execs Φ N ss env S := by
  rw [execs]
  cases exec Φ N s env S <;> rfl
theorem xe_asg (tg : Tg) (e : Ex) : exec Φ N (.asg tg e) env S = (evalE Φ e env S).onto env fun d S' => nxO (assignT tg d env) S' := by
  rw [exec]
  congr 1
theorem xe_own (i : Nat) (e : Ex) : exec Φ N (.own i e) env S = (evalE Φ e env S).onto env fun d S' => nxO ((moOf d).map fun m => env.set i (.own m)) S' := by
  rw [exec]
  congr 1
  funext d S'
  cases moOf d <;> rfl
def appO (env : Env) (i : Nat) (d : D) : Option Env := match env[i]? with
  | some (.own (.lst ds)) => if ds.length < lim then some (env.set i (.own (.lst (ds ++ [d])))) else none
  | _ => none
theorem xe_app (i : Nat) (e : Ex) {ds : List D} (h : env[i]? = some (.own (.lst ds))) : exec Φ N (.app i e) env S = (evalE Φ e env S).onto env fun d S' => if ds.length < lim then .nx (env.set i (.own (.lst (ds ++ [d])))) S' else .bad := by
  rw [exec, h]
theorem xe_fz (i : Nat) {ds : List D} (h : env[i]? = some (.own (.lst ds))) : exec Φ N (.fz i) env S = .nx (env.set i (.dat (.lst ds))) S := by
  rw [exec, h] <;> rfl
theorem xe_seth (a k e : Ex) : exec Φ N (.seth a k e) env S = (evalE Φ e env S).onto env fun d S1 => (evalE Φ a env S1).onto env fun o S2 => (evalE Φ k env S2).onto env fun i S3 => (match boxSet S3 o i d with
    | some S4 => .nx env S4
    | none => .bad) := by rw [exec] <;> rfl
theorem xe_expr (e : Ex) : exec Φ N (.expr e) env S = (evalE Φ e env S).onto env fun _ S' => .nx env S' := by rw [exec]
theorem xe_ite (c : Ex) (a b : Sts) : exec Φ N (.ite c a b) env S = (condB (evalE Φ c env S)).onto env fun k S' => if k = true then execs Φ N a env S' else execs Φ N b env S' := by
  rw [exec, ← cond_onto]
def bodyF (Φ : Fns) (N : Nat) (tg : Tg) (body : Sts) (d : D) (env : Env) (S : Sh) : ORes := match assignT tg d env with
  | some env' => execs Φ N body env' S
  | none => .bad
theorem xe_for (tg : Tg) (it : Itx) (body : Sts) : exec Φ N (.for tg it body) env S = (evalI Φ it env S).onto env fun ds S' => forL (bodyF Φ N tg body) ds env S' := by rw [exec] <;> rfl
theorem xe_ret (e : Ex) : exec Φ N (.ret e) env S = (evalE Φ e env S).onto env fun d S' => .rt d S' := by rw [exec]
theorem xe_raise (c : Nat) : exec Φ N (.raise c) env S = .ex c env S := by rw [exec]
theorem run_fin (ar lo : Nat) (body : Sts) (ds : List D) : runF Φ N ar lo body ds S = if ds.length = ar then finR (execs Φ N body (ds.map SV.dat ++ List.replicate (lo - ar) .no) S) else .bad := by
  unfold runF
  split
  · cases execs Φ N body (ds.map SV.dat ++ List.replicate (lo - ar) .no) S <;> rfl
  · rfl
end
/-! the operators' values -/
theorem bd_len_t (xs : List D) : biD .len [.tup xs] = some (.int xs.length) := rfl
theorem bd_len_l (xs : List D) : biD .len [.lst xs] = some (.int xs.length) := rfl
theorem bd_len_r (xs : List Int) : biD .len [.scr xs] = some (.int xs.length) := rfl
theorem bd_len_s (s : List Nat) : biD .len [.str s] = if s.length ≤ lim then some (.int s.length) else none := rfl
theorem bd_list_t (xs : List D) : biD .list [.tup xs] = some (.lst xs) := rfl
theorem bd_list_l (xs : List D) : biD .list [.lst xs] = some (.lst xs) := rfl
theorem bd_list_r (xs : List Int) : biD .list [.scr xs] = some (.lst (xs.map D.int)) := rfl
theorem bd_list_s (s : List Nat) : biD .list [.str s] = if s.length ≤ lim then some (.lst (s.map fun c => D.str [c])) else none := rfl
theorem bd_tuple_t (xs : List D) : biD .tuple [.tup xs] = some (.tup xs) := rfl
theorem bd_tuple_l (xs : List D) : biD .tuple [.lst xs] = some (.tup xs) := rfl
theorem bd_str_i (i : Int) : biD .str [.int i] = if 0 ≤ i ∧ i < 1000000000000000 then some (.str (dig i.toNat)) else none := rfl
theorem bd_str_s (s : List Nat) : biD .str [.str s] = some (.str s) := rfl
theorem bd_int_i (i : Int) : biD .int [.int i] = some (.int i) := rfl
theorem bd_int_b (b : Bool) : biD .int [.bl b] = some (.int (if b then 1 else 0)) := rfl
theorem bd_int_s (s : List Nat) : biD .int [.str s] = if s ≠ [] ∧ s.all (fun c => 48 ≤ c && c ≤ 57) ∧ s.length ≤ 640 then some (.int (valD s)) else none := rfl
theorem bd_sum (xs : List D) : biD .sum [.lst xs] = (intsD xs).map fun ns => .int ns.sum := rfl
theorem bd_min (xs : List D) : biD .min [.lst xs] = (intsD xs).bind fun ns => if ns = [] then none else some (.int (minL ns)) := rfl
theorem bd_max (xs : List D) : biD .max [.lst xs] = (intsD xs).bind fun ns => if ns = [] then none else some (.int (maxL ns)) := rfl
theorem bd_min2 (i j : Int) : biD .min2 [.int i, .int j] = some (.int (if j < i then j else i)) := rfl
theorem bd_max2 (i j : Int) : biD .max2 [.int i, .int j] = some (.int (if j > i then j else i)) := rfl
theorem bd_all (xs : List D) : biD .all [.lst xs] = (blsD xs).map fun bs => .bl (bs.all id) := rfl
theorem bd_any (xs : List D) : biD .any [.lst xs] = (blsD xs).map fun bs => .bl (bs.any id) := rfl
theorem bd_isi (t : Ty) (d : D) : biD (.isi t) [d] = (isiD t d).map D.bl := rfl
theorem bd_join (sep : List Nat) (xs : List D) : biD .join [.str sep, .lst xs] = (strsD xs).bind fun ys => if ys.length ≤ 100000 && sep.length ≤ 100 && (joinL sep ys).length ≤ lim then some (.str (joinL sep ys)) else none := rfl
theorem bn_addi (i j : Int) : binD .add (.int i) (.int j) = some (.int (i + j)) := rfl
theorem bn_adds (x y : List Nat) : binD .add (.str x) (.str y) = if x.length + y.length ≤ lim then some (.str (x ++ y)) else none := rfl
theorem bn_addl (x y : List D) : binD .add (.lst x) (.lst y) = if x.length + y.length ≤ lim then some (.lst (x ++ y)) else none := rfl
theorem bn_addt (x y : List D) : binD .add (.tup x) (.tup y) = if x.length + y.length ≤ lim then some (.tup (x ++ y)) else none := rfl
theorem bn_sub (i j : Int) : binD .sub (.int i) (.int j) = some (.int (i - j)) := rfl
theorem bn_mul (i j : Int) : binD .mul (.int i) (.int j) = if i.natAbs < 2 ^ 62 then some (.int (i * j)) else if j.natAbs < 2 ^ 62 then some (.int (i * j)) else none := rfl
theorem bn_mull (xs : List D) (k : Int) : binD .mul (.lst xs) (.int k) = if 0 ≤ k ∧ k ≤ 1000 ∧ xs.length ≤ 1000 then some (.lst (List.replicate k.toNat xs).flatten) else none := rfl
theorem bn_mult (xs : List D) (k : Int) : binD .mul (.tup xs) (.int k) = if 0 < xs.length ∧ 2 ≤ k ∧ k ≤ 1000 ∧ xs.length ≤ 1000 then some (.tup (List.replicate k.toNat xs).flatten) else none := rfl
theorem bn_fdiv (i j : Int) : binD .fdiv (.int i) (.int j) = if j ≠ 0 ∧ j.natAbs < 1073741824 then some (.int (i.fdiv j)) else none := rfl
theorem bn_mod (i j : Int) : binD .mod (.int i) (.int j) = if j ≠ 0 then some (.int (i.fmod j)) else none := rfl
theorem bn_pow (i j : Int) : binD .pow (.int i) (.int j) = if 0 ≤ j ∧ j ≤ 1000000 ∧ i.natAbs < 2 ^ 62 then some (.int (i ^ j.toNat)) else none := rfl
theorem ix_t (xs : List D) (i : Int) : ixD (.tup xs) (.int i) = L2.atI xs i := rfl
theorem ix_l (xs : List D) (i : Int) : ixD (.lst xs) (.int i) = L2.atI xs i := rfl
theorem ix_r (xs : List Int) (i : Int) : ixD (.scr xs) (.int i) = (L2.atI xs i).map D.int := rfl
theorem ix_s (s : List Nat) (i : Int) : ixD (.str s) (.int i) = if s.length ≤ lim then (L2.atI s i).map fun c => D.str [c] else none := rfl
theorem sl_t (xs : List D) (lo hi : Option Int) : slD (.tup xs) lo hi = some (.tup (cutL xs lo hi)) := rfl
theorem sl_l (xs : List D) (lo hi : Option Int) : slD (.lst xs) lo hi = some (.lst (cutL xs lo hi)) := rfl
theorem sl_s (s : List Nat) (lo hi : Option Int) : slD (.str s) lo hi = if s.length ≤ lim then some (.str (cutL s lo hi)) else none := rfl
theorem is_t (xs : List D) : itemsD (.tup xs) = some xs := rfl
theorem is_l (xs : List D) : itemsD (.lst xs) = some xs := rfl
theorem is_r (xs : List Int) : itemsD (.scr xs) = some (xs.map D.int) := rfl
theorem is_s (s : List Nat) : itemsD (.str s) = some (s.map fun c => .str [c]) := rfl
theorem rng_ok0 (j : Int) (h : -(2 ^ 40) ≤ j) (h2 : j < 2 ^ 40) : rngD 0 j = some ((List.range j.toNat).map fun (k : Nat) => D.int k) := by
  unfold rngD
  rw [if_pos (by omega), Int.sub_zero]
  congr 1
  refine List.map_congr_left fun k _ => ?_
  rw [Int.zero_add]
theorem at_nat {α : Type} (xs : List α) (k : Nat) (h : k < xs.length) : L2.atI xs (k : Int) = some xs[k] := by
  have e : ixN xs.length (k : Int) = some k := by
    unfold ixN
    simp
    omega
  unfold L2.atI
  rw [e]
  exact List.getElem?_eq_getElem h
end FT
namespace FT
open PySem PySem.Spec PyProof.Rows L2
/-! ### an error that is caught and kept -/
theorem xcO_ok {P : Program} {w : World} {H : Hp} {h : Heap} {a : Addr} {cls : Value} {o : Obj} {vs : Array Value} (e : h.get? a = some o) (z : Zc cls none o) (d : o.data = .fields vs) : ObjOk P w H h a (XcO cls a) :=
  ⟨⟨o, vs, e, z, d⟩, ⟨o, e⟩, fun _ _ ⟨u, v, q, r⟩ k => ⟨u, v, k u q, r⟩⟩
section
variable {X : Cx} {pins : List (Addr × Obj)} {σ : L2.St} {H : Hp} {sI s' : Shared} {B : Heap} {a : Addr} {u : HO}
theorem landedK (I : Inv X pins σ H sI) (nb : ∀ b o, sI.heap.get? b = some o → b ∉ frs X.stack → B.get? b = some o) (stay : B.StaysIn s'.heap) (ups : sI.heap.UpToSlots s'.heap) (hos : s'.os = sI.os) (hag : AllBare s'.gens)
    (fresh : sI.heap.get? a = none) (na : H a = none) (new : ObjOk X.prog X.w (upd H a u) s'.heap a u) : Inv X pins σ (upd H a u) s' := by
  have nf : ∀ b ∈ frs X.stack, ∀ o, sI.heap.get? b = some o → ∃ sl, s'.heap.get? b = some { o with slots := sl } := by
    intro b hb o e
    obtain ⟨_, o2, e2, hdat⟩ := I.stack.mem hb
    rw [e] at e2
    cases e2
    exact ups b o e hdat
  have hok : HOk X.prog X.w (upd H a u) s'.heap := HOk.laidN ((I.inGround nb).kept stay) (fun _ _ e => e) na new
  have J := I.call (ch := []) (h' := s'.heap) (g' := s'.gens) (t' := s'.toks) (d' := s'.drawn) (H' := upd H a u)
    ⟨fun b o e _ hb _ => stay b o (nb b o e hb), fun b o e _ hb _ => nf b hb o e, fun b o e n _ => by rw [upd_ne (fun z => by rw [z, fresh] at e; cases e)]; exact n, fun b o e _ => by
      by_cases hb : b ∈ frs X.stack
      · obtain ⟨sl, q⟩ := nf b hb o e
        exact ⟨_, q⟩
      · exact ⟨o, stay b o (nb b o e hb)⟩, fun b xs e => by rw [upd_ne (ne_of_none e na)]; exact e, fun b o xs e => by rw [upd_ne (ne_of_none e na)]; exact e, fun b ps e => ⟨#[], by rw [upd_ne (ne_of_none e na), e]; simp⟩⟩
    hok hag (fun _ z => nomatch z)
  obtain ⟨a1, a2, a3, a4, a5⟩ := s'
  have e5 : a5 = sI.os := hos
  subst e5
  exact J
theorem suiteK (I : Inv X pins σ H sI) (a : Addr) : Inv (X.suite a (X.pn ++ pins)) [] σ H sI :=
  ⟨I.ok.suite _ _, I.os, I.bare, I.base, I.loc, I.cell, I.free, I.freeC, fun p hp => I.pin p (by rw [List.append_nil] at hp; exact hp), I.hok, I.len⟩
theorem unsuiteK {pn2 : List (Addr × Obj)} (I : Inv (X.suite a (X.pn ++ pins)) pn2 σ H sI) (ok : X.Ok) : Inv X pins σ H sI :=
  ⟨ok, I.os, I.bare, I.base, I.loc, I.cell, I.free, I.freeC, fun p hp => I.pin p (List.mem_append_left _ hp), I.hok, I.len⟩
/-- what is wished of an error of the body: it is kept, tracked, while the suite goes on and behind it -/
def wKeep (K : PySem.W.Frag) (c : Value) (i : Nat) (ts : TS) (Wout : WX) (D : Ends) : WX := fun cls d σ H =>
  ∃ b, PySem.W.exmOne K cls c = some b ∧ (b = true → d = none ∧ ∀ a, H a = none → ts { nx := fun σ' H' => D.nx (σ'.set i none) H', rt := D.rt, bk := fun σ' H' => D.bk (σ'.set i none) H', ct := fun σ' H' => D.ct (σ'.set i none) H' } (σ.set i (some (.ref a))) (upd H a (XcO cls a))) ∧
    (b = false → Wout cls d σ H)
end
section
variable {X : Cx} {x n : Str} {c : Value} {i : Nat} {body suite : List Stmt} {b0 : Stmt} {np pos pos2 : Pos} {tb : WX → TS} {ts : TS} {Wout : WX}
theorem ps_try_keep (hs : X.stack = X.env :: X.outer) (hf : X.env.frame = some X.env.locals) (hN : X.N.Nodup) (hi : X.N[i]? = some n) (hln : X.env.kindOf n = some .local) (hc : Names X x c) (tk : Takes X Wout)
    (hb : ∀ (W : WX) (pn : List (Addr × Obj)) (xe : Value → Shared → Prop), Takes (X.tr pn xe) W → PassesOwn (model X.prog X.w) X.A X.env xe → PSs (X.tr pn xe) body (tb W))
    (hsu : ∀ (a : Addr) (pn : List (Addr × Obj)), PSs (X.suite a pn) (b0 :: suite) ts) :
    PS X (.Try body [.ExceptHandler (some (.Name x np)) (some n) (b0 :: suite) pos2] [] [] pos) (fun D σ H => tb (wKeep X.K c i ts Wout D) D σ H) := by
  refine ⟨fun pins s σ H D I h => ?_⟩
  have okX := I.ok
  have frX : X.A.frames = some (X.env :: X.outer) := by rw [okX.frames, hs]
  have hlocn : Loc X.env.scope n := .inl hln
  refine wpAny_Try_except ?_
  refine wpAny_mono ((hb (wKeep X.K c i ts Wout D) (X.pn ++ pins) (fun e s1 => wpAny (model X.prog X.w) X.A (noteFrame e X.env) (fun _ s2 => wpAny (model X.prog X.w) X.A (setFlight e none) (fun _ s3 =>
    wpAny (model X.prog X.w) X.A (handleBy e X.env [.ExceptHandler (some (.Name x np)) (some n) (b0 :: suite) pos2]) (SP X pins D) X.xe s3) X.xe s2) X.xe s1) (fun u s' xx => ?_) PassesOwn.looking).run [] s σ H D (I.toTry _) h) (fun f s1 hsp => ?_) (fun e s1 he => he)
  · obtain ⟨a, B, sI, pins', σ', H', cls, d, rfl, J0, nb, up, sky, na, os, ag, b, hb1, hyes, hno⟩ := xx
    have J : Inv X pins σ' H' sI := J0.ofTry okX
    have sky2 : Sky B (X.env :: X.outer) a (Zc cls d) X.env.locals s'.heap := by rw [← hs]; exact sky
    show wpAny _ X.A (noteFrame (.ref a) X.env) _ _ _
    refine Sky.land Zc.steady frX hf sky2 fun h3 fl3 up3 => ?_
    have J3 : Inv X pins σ' H' { s' with heap := h3 } := J.landed nb fl3.1 (up.trans up3) os ag
    obtain ⟨oe3, vs3, he3, hz3, hd3⟩ := fl3.there
    have nfr : a ∉ frs (X.env :: X.outer) := fun hm => by
      obtain ⟨_, o', e', hnf⟩ := fl3.2.2.1.mem hm
      rw [he3] at e'
      cases e'
      exact hnf _ hd3
    have fresh : sI.heap.get? a = none := by
      cases q : sI.heap.get? a with
      | none => rfl
      | some o =>
        have z := nb a o q (by rw [hs]; exact nfr)
        rw [fl3.2.1] at z
        cases z
    have nL : a ≠ X.env.locals := fun z => nfr (List.mem_filterMap.mpr ⟨X.env, List.mem_cons_self, by rw [hf, z]⟩)
    have nF : a ∉ X.fs := fun hm => by
      obtain ⟨e, he, q⟩ := List.mem_filterMap.mp hm
      exact nfr (List.mem_filterMap.mpr ⟨e, List.mem_cons_of_mem _ he, q⟩)
    have S3 := J3.suite he3 hd3 na nL nF
    refine wpAny_handleBy_cons (codeAny_handlers_test ?_) (by intro q; cases q)
    have LT : PySem.W.Looks (model X.prog X.w) h3 (typeOf (.ref a)) cls := fun A Q E s k q => wpAny_typeOf_ref (k _ _ he3) (by rw [hz3.1]; exact q)
    have LM := PySem.W.exm_one (M := model X.prog X.w) (J3.kIn) LT hb1
    have test : ∀ {Q : Value → Shared → Prop} {E : Value → Shared → Prop}, Q c { s' with heap := h3 } → wpAny (model X.prog X.w) (X.A.mark (some (.ref a))) (eval (.Name x np) X.env) Q E { s' with heap := h3 } := by
      intro Q E q
      obtain ⟨hg, hdbg, hm | ⟨hm, hv, hnn⟩⟩ := hc
      · exact ld_glob (X := X.suite a ((a, oe3) :: (X.pn ++ pins))) S3 hg hm q hdbg
      · exact ld_blt (X := X.suite a ((a, oe3) :: (X.pn ++ pins))) S3 hg hm hv q hnn hdbg
    refine test (LM.here ?_)
    cases b with
    | true =>
      obtain ⟨dn, hgo⟩ := hyes rfl
      subst dn
      refine codeAny_handlers_suite_as ?_
      refine HandSPX.lands_againZ fl3 fun h4 fl4 up4 => ?_
      obtain ⟨oe4, vs4, he4, hz4, hd4⟩ := fl4.there
      have J4 : Inv X pins σ' (upd H' a (XcO cls a)) { s' with heap := h4 } := landedK J nb fl4.1 ((up.trans up3).trans up4) os ag fresh na (xcO_ok he4 hz4 hd4)
      refine store_ok (X := X.suite a (X.pn ++ pins)) (v := .ref a) (suiteK J4 a) hN hi hlocn rfl (fun s5 S5 => ?_) (.inr hln)
      refine wpAny_mono ((hsu a (X.pn ++ pins)).run [] s5 _ _ _ S5 (hgo a na)) (fun f s6 hsp => ?_) (fun _ _ z => False.elim z)
      have fin : ∀ {σ6 : L2.St} {H6 : Hp} {Q : Shared → Prop}, Inv (X.suite a (X.pn ++ pins)) [] σ6 H6 s6 → (∀ s7, Inv X pins (σ6.set i none) H6 s7 → Q s7) →
          wpAny (model X.prog X.w) X.A (do bindName X.env n .none; unbindBehindTheSuite X.env n pos2) (fun _ s7 => Q s7) X.xe s6 := fun {σ6 H6 Q} S6 hq => gone_ok (unsuiteK S6 okX) hN hi hln hq
      cases f with
      | ret u =>
        obtain ⟨v6, σ6, H6, S6, r6, q6⟩ := hsp
        exact fin S6 fun s7 J7 => ⟨_, _, _, J7, r6, q6⟩
      | next =>
        obtain ⟨σ6, H6, S6, q6⟩ := hsp
        exact fin S6 fun s7 J7 => ⟨_, _, J7, q6⟩
      | brk =>
        obtain ⟨σ6, H6, S6, q6⟩ := hsp
        exact fin S6 fun s7 J7 => ⟨_, _, J7, q6⟩
      | cont =>
        obtain ⟨σ6, H6, S6, q6⟩ := hsp
        exact fin S6 fun s7 J7 => ⟨_, _, J7, q6⟩
    | false =>
      show wpAny _ X.A (handleBy (.ref a) X.env []) _ _ _
      refine wpAny_handleBy_nil ?_
      obtain ⟨k1, k2, k3, oe, vs, T, oT, ts2, he, hz, hd, h1, hr⟩ := id fl3
      unfold PySem.passOn
      refine wpAny_bind (wpAny_field he hd h1 ?_)
      rw [if_neg (show ¬ ((Value.ref T == Value.none) = true) from by simp)]
      have out : wpAny (model X.prog X.w) X.A (setFlight (.ref a) X.env.frame) (fun _ s4 => wpAny (model X.prog X.w) X.A (throw (.ref a) : Sem Flow) (SP X pins D) X.xe s4) X.xe { s' with heap := h3 } := by
        rw [hf]
        refine HandSPX.setFlight_upZ fl3 fun h4 hh4 up4 => wpAny_throw (tk _ _ ?_)
        exact ⟨a, B, sI, pins, σ', H', cls, d, rfl, J, nb, (up.trans up3).trans up4, .inr (.inr (by rw [hs]; exact hh4)), na, os, ag, hno rfl⟩
      first
        | exact wpAny_bind (wpAny_pure (wpAny_bind out))
        | exact wpAny_bind out
  · cases f with
    | ret u =>
      obtain ⟨v, σ', H', J', r, q⟩ := hsp
      exact ⟨v, σ', H', J'.ofTry okX, r, q⟩
    | next =>
      obtain ⟨σ', H', J', q⟩ := hsp
      exact wpAny_execs_nil ⟨σ', H', J'.ofTry okX, q⟩
    | brk =>
      obtain ⟨σ', H', J', q⟩ := hsp
      exact ⟨σ', H', J'.ofTry okX, q⟩
    | cont =>
      obtain ⟨σ', H', J', q⟩ := hsp
      exact ⟨σ', H', J'.ofTry okX, q⟩
end
section
variable {X : Cx} {G : Glob} {Φ : Fns} {N : Nat} {W : WX} {x n : Str} {c : Value} {i : Nat} {body suite : List Stmt} {b0 : Stmt} {np pos pos2 : Pos} {sb ss : Sts} {cs ns : List Nat}
theorem s_try (hs : X.stack = X.env :: X.outer) (hf : X.env.frame = some X.env.locals) (hN : X.N.Nodup) (hi : X.N[i]? = some n) (hln : X.env.kindOf n = some .local) (hc : Names X x c) (tk : Takes X W)
    (hb : ∀ (W' : WX) (pn : List (Addr × Obj)) (xe : Value → Shared → Prop), Takes (X.tr pn xe) W' → PassesOwn (model X.prog X.w) X.A X.env xe → PSs (X.tr pn xe) body (tS X.K G W' (execs Φ N sb)))
    (hsu : ∀ (a : Addr) (pn : List (Addr × Obj)), PSs (X.suite a pn) (b0 :: suite) (tS X.K G W0 (execs Φ N ss)))
    (hcs : ∀ k ∈ cs, PySem.W.exmOne X.K (.ref (G.clA k)) c = some true) (hns : ∀ k ∈ ns, PySem.W.exmOne X.K (.ref (G.clA k)) c = some false) :
    DS X G Φ N W (.Try body [.ExceptHandler (some (.Name x np)) (some n) (b0 :: suite) pos2] [] [] pos) (.tryx sb cs ns i ss) :=
  ps_imp (ps_try_keep (tb := fun W' => tS X.K G W' (execs Φ N sb)) (ts := tS X.K G W0 (execs Φ N ss)) (Wout := W) hs hf hN hi hln hc tk hb hsu) fun σ H D ⟨A, F, S, Ls, env, Le, hF, q⟩ => by
    rw [exec] at q
    refine ⟨A, F, S, Ls, env, Le, hF, ?_⟩
    cases e : execs Φ N sb env S with
    | nx env' S' => rw [e] at q; exact q
    | rt d S' => rw [e] at q; exact q
    | bad => rw [e] at q; exact q
    | ex k env' S' =>
      rw [e] at q
      intro σ' A' F' H' Ls' Le' hF' e'
      have q : PP X.K G W D A F H (Ls ++ Le) (if cs.contains k then (match execs Φ N ss (env'.set i (.dat (.exc k))) S' with
        | .nx env2 S2 => .nx (env2.set i .no) S2
        | .rt d S2 => .rt d S2
        | _ => .bad) else if ns.contains k then .ex k env' S' else .bad) := q
      by_cases hk : cs.contains k = true
      · rw [if_pos hk] at q
        refine ⟨true, hcs k (by simpa using hk), fun _ => ⟨rfl, fun a na => ?_⟩, fun z => by cases z⟩
        have w1 := hF'.w.lay (o := XcO (.ref (G.clA k)) a) na
        have x1 : Ext A' F' H' Ls' A' (upd F' a (XcO (.ref (G.clA k)) a)) (upd H' a (XcO (.ref (G.clA k)) a)) Ls' := Ext.lay hF'.w na
        have hF1 := hF'.ext w1 x1
        obtain ⟨L, h1, s1⟩ := hF1.put i (show Rep X.K G A' (upd F' a (XcO (.ref (G.clA k)) a)) (.exc k) (.ref a) from .exc upd_same)
        refine ⟨A', upd F' a (XcO (.ref (G.clA k)) a), S', Ls', env'.set i (.dat (.exc k)), L, h1, ?_⟩
        have x2 : Ext A F H (Ls ++ Le) A' (upd F' a (XcO (.ref (G.clA k)) a)) (upd H' a (XcO (.ref (G.clA k)) a)) (Ls' ++ L) := (e'.trans hF'.outs (x1.more (Le := Le'))).sub fun b hb => (List.mem_append.mp hb).elim (List.mem_append_left _) fun z => List.mem_append_right _ (s1.subset z)
        have q2 := PP.later h1.outs x2 q
        cases e2 : execs Φ N ss (env'.set i (.dat (.exc k))) S' with
        | nx env2 S2 =>
          rw [e2] at q2
          intro σ2 A2 F2 H2 Ls2 Le2 hF2 x3
          obtain ⟨L3, e3, s3⟩ := hF2.e.subNo i (o := none)
          exact q2 (σ2.set i none) A2 F2 H2 Ls2 L3 (hF2.less e3 s3) (x3.sub fun b hb => (List.mem_append.mp hb).elim (List.mem_append_left _) fun z => List.mem_append_right _ (s3.subset z))
        | rt d S2 => rw [e2] at q2; exact q2
        | ex c2 env2 S2 => rw [e2] at q2; exact q2.elim
        | bad => rw [e2] at q2; exact q2.elim
      · rw [if_neg hk] at q
        by_cases hn : ns.contains k = true
        · rw [if_pos hn] at q
          exact ⟨false, hns k (by simpa using hn), fun z => (by cases z), fun _ => q σ' A' F' H' Ls' Le' hF' e'⟩
        · rw [if_neg hn] at q
          exact q.elim
end
end FT
namespace FT
open PySem PySem.Spec PyProof.Rows L2
/-! ### the head's facts, and own ones -/
def obsX (fx : List (PySem.W.Frag → Bool)) (fa : List He.Fa) (fn : List He.DefD) (K : PySem.W.Frag) : Bool × He.AlD := (fx.all fun f => f K, He.obsD fa fn K)
def SaysX (fx : List (PySem.W.Frag → Bool)) (fa : List He.Fa) (fn : List He.DefD) (K : PySem.W.Frag) : Prop := obsX fx fa fn K = (true, He.valD fn)
def obsXG (n : Nat) (fx : List (PySem.W.Frag → Bool)) (fa : List He.Fa) (fn : List He.DefD) (g : Addr → Option Obj) : Bool × He.AlD := obsX fx fa fn (He.frG g (He.asD g n))
def hookX (n : Nat) (fx : List (PySem.W.Frag → Bool)) (fa : List He.Fa) (fn : List He.DefD) : PySem.W.Hook where
  α := Bool × He.AlD
  obs := fun s => obsXG n fx fa fn s.heap.get?
  val := fun _ => (true, He.valD fn)
  says := fun _ h => ∃ K : PySem.W.Frag, K.In h ∧ SaysX fx fa fn K
  of := fun _ _ e => ⟨_, He.frG_in, e⟩
  keeps := fun _ _ _ ⟨K, hK, c⟩ k => ⟨K, PySem.W.Frag.In.keeps hK k, c⟩
theorem obsXG_eq {n : Nat} {fx : List (PySem.W.Frag → Bool)} {fa : List He.Fa} {fn : List He.DefD} {g : Addr → Option Obj} {s : Shared} (h : ∀ a, g a = s.heap.get? a) : obsXG n fx fa fn g = (hookX n fx fa fn).obs s := by
  have e : g = s.heap.get? := funext h
  rw [e] <;> rfl
theorem SaysX.says {fx : List (PySem.W.Frag → Bool)} {fa : List He.Fa} {fn : List He.DefD} {K : PySem.W.Frag} (c : SaysX fx fa fn K) : He.SaysD fa fn K := congrArg (fun z : Bool × He.AlD => z.2) c
theorem SaysX.own {fx : List (PySem.W.Frag → Bool)} {fa : List He.Fa} {fn : List He.DefD} {K : PySem.W.Frag} (c : SaysX fx fa fn K) (i : Nat) {f : PySem.W.Frag → Bool} (h : fx[i]? = some f := by rfl) : f K = true := by
  have c1 : (fx.all fun f => f K) = true := congrArg (fun z : Bool × He.AlD => z.1) c
  exact List.all_eq_true.mp c1 f (List.mem_of_getElem? h)
/-- the class x: what isinstance asks of its instances -/
def excB (x : Str) (K : PySem.W.Frag) : Bool := He.eqO (PySem.W.findIn K (.ref (He.ga K x)) "__getattribute__") (some (some (.builtin "BaseException.__getattribute__"))) && (He.eqO (PySem.W.findIn K (.ref (He.ga K x)) "__getattr__") (some none) &&
  (decide (PySem.W.subIn K (.ref (He.ga K x)) (.type "BaseException") = some true) && (PySem.W.hasDictIn K (He.ga K x) && (He.eqO (PySem.W.findIn K (.ref (He.ga K x)) "__class__") (some (some (.builtin "object.__class__"))) &&
  (He.eqO (PySem.W.specialIn K (.builtin "object.__class__") "__get__") (some (some (.builtin "getset_descriptor.__get__"))) && (decide (PySem.W.takesIn K (.builtin "object.__class__") = some true) && decide (PySem.W.mroIn K (He.ga K x) (.type "object") = some true)))))))
theorem excB_ok {x : Str} {K : PySem.W.Frag} (h : excB x K = true) : ExcC K (He.ga K x) := by
  unfold excB at h
  obtain ⟨h1, h⟩ := He.ba h
  obtain ⟨h2, h⟩ := He.ba h
  obtain ⟨h3, h⟩ := He.ba h
  obtain ⟨h4, h⟩ := He.ba h
  obtain ⟨h5, h⟩ := He.ba h
  obtain ⟨h6, h⟩ := He.ba h
  obtain ⟨h7, h8⟩ := He.ba h
  exact ⟨He.eqO_ok h1, He.eqO_ok h2, of_decide_eq_true h3, h4, He.eqO_ok h5, He.eqO_ok h6, of_decide_eq_true h7, of_decide_eq_true h8⟩
def isiB (x y : Str) (b : Bool) (K : PySem.W.Frag) : Bool := decide (PySem.W.kitOne K (.ref (He.ga K x)) (.ref (He.ga K y)) = some b)
def isiT (x : Str) (y : String) (b : Bool) (K : PySem.W.Frag) : Bool := decide (PySem.W.kitOne K (.ref (He.ga K x)) (.type y) = some b)
def exmB (x y : Str) (b : Bool) (K : PySem.W.Frag) : Bool := decide (PySem.W.exmOne K (.ref (He.ga K x)) (.ref (He.ga K y)) = some b)
/-- isinstance(e, c), e an error that is kept -/
def rIsX (K : PySem.W.Frag) : List V → Hp → VK → Prop := fun xs H Q => ∃ (a D : Addr) (c : V) (cv : Value) (b : Bool), xs = [.ref a, c] ∧ H a = some (XcO (.ref D) a) ∧ ExcC K D ∧ (∀ u, RelV c u → u = cv) ∧ PySem.W.kitOne K (.ref D) cv = some b ∧ Q (.bl b) H
theorem call_isX {X : Cx} : CallR X (.builtin "isinstance") (rIsX X.K) := by
  intro pins s σ H xs us Q I r h
  obtain ⟨a, D, c, cv, b, rfl, ha, C, hcv, e, q⟩ := h
  obtain ⟨u1, u2, rfl, rx, rt⟩ := vals2 r
  cases rx
  have ec := hcv _ rt
  subst ec
  obtain ⟨oe, vs, hget, hz, hv⟩ : ∃ (o : Obj) (vs : Array Value), s.heap.get? a = some o ∧ Zc (.ref D) none o ∧ o.data = .fields vs := (I.hok a _ ha).1
  have J : PySem.W.InstAt s.heap a oe D none := by
    obtain ⟨oc, od, oda, osl⟩ := oe
    obtain ⟨h1, h2⟩ := hz
    dsimp only at h1 h2 hv
    subst h1 h2 hv
    exact ⟨hget, rfl, rfl, trivial⟩
  exact PySem.W.kia_one (PySem.W.handS_kitx_exc C.hg C.hk C.hs C.hd C.ha C.hn C.ht C.hm) I.kIn J e (fun z => nomatch z) fun tk => ⟨.bl b, H, I.kept (t' := tk) fun _ _ z => z, rfl, q⟩
end FT
namespace FT
open PySem PySem.Spec PyProof.Rows L2
/-! ### one sign in a text -/
theorem cnt_eq (c : Nat) : ∀ l : List Nat, PyProof.Rows.cnt c l = (l.count c : Nat)
  | [] => rfl
  | n :: r => by
    rw [PyProof.Rows.cnt_cons, cnt_eq c r, List.count_cons]
    by_cases h : n = c
    · subst h; simp; omega
    · simp [h]
theorem count_sign (a : List Nat) (c : Nat) : Txt.count (mkS a) (mkS [c]) = ((a.count c : Nat) : Int) := by
  have e : (mkS [c]) = (⟨#[c]⟩ : Str) := rfl
  rw [e, PyProof.Rows.count_is]
  exact cnt_eq c a
theorem spl_sign (c : Nat) : ∀ (l acc : List Nat), TL.spl [c] 0 acc l = (match splitC c l with
    | p :: ps => (acc ++ p) :: ps
    | [] => [])
  | [], acc => by simp [TL.spl_nil, splitC]
  | x :: r, acc => by
    have ih := spl_sign c r
    by_cases h : x = c
    · subst h
      have hp : TL.pre [x] (x :: r) = true := by simp [TL.pre]
      rw [TL.spl_hit hp]
      show acc :: TL.spl [x] 0 [] r = _
      rw [ih []]
      simp only [splitC, if_true]
      cases e : splitC x r with
      | nil => cases r <;> simp [splitC] at e; split at e <;> (try cases e); split at e <;> cases e
      | cons p ps => simp
    · have hp : TL.pre [c] (x :: r) = false := TL.pre_of_head [] r h
      rw [TL.spl_miss hp, ih]
      simp only [splitC, if_neg h]
      cases e : splitC c r with
      | nil => cases r <;> simp [splitC] at e; split at e <;> (try cases e); split at e <;> cases e
      | cons p ps => simp
theorem splitC_ne (c : Nat) (l : List Nat) : splitC c l ≠ [] := by
  cases l with
  | nil => simp [splitC]
  | cons x r =>
    simp only [splitC]
    split
    · simp
    · split <;> simp
theorem split_sign (a : List Nat) (c : Nat) (hc : c < 256) : Txt.split (mkS a) (mkS [c]) = (splitC c a).map mkS := by
  have e := SX.split_S (a := a) (b := [c]) (by simp) (by simp [hc])
  refine e.trans ?_
  rw [spl_sign]
  cases h : splitC c a with
  | nil => exact (splitC_ne c a h).elim
  | cons p ps => rfl
theorem occ_run (x : Str) (c : Nat) : ∀ (n lo : Nat) (k : Nat), lo + n = x.length + 1 → idxOf (· == c) (x.cps.toList.drop lo) = some k →
    (forIn (List.range' lo n) ((#[] : Array Nat), 0) (StrLaws.occBody x ⟨#[c]⟩ x.length 1)).run.fst = #[lo + k]
  | 0, lo, k, e, h => by
    rw [List.drop_eq_nil_of_le (by have := TL.len_tl x; simp only [TL.tl] at this; omega)] at h
    cases h
  | n + 1, lo, k, e, h => by
    have hl := TL.len_tl x
    simp only [TL.tl] at hl
    rw [List.range'_succ, List.forIn_cons]
    by_cases hlt : lo < x.cps.toList.length
    · rw [List.drop_eq_getElem_cons hlt] at h
      simp only [idxOf] at h
      by_cases hc : x.cps.toList[lo] = c
      · rw [if_pos (by simpa using hc)] at h
        cases h
        have hs := (StrLaws.subAt_one x c lo).mpr (by rw [List.getElem?_eq_getElem hlt, hc])
        have e1 : StrLaws.occBody x ⟨#[c]⟩ x.length 1 lo ((#[] : Array Nat), 0) = pure (ForInStep.yield (#[lo], lo + 1)) := by
          unfold StrLaws.occBody
          rw [if_pos ⟨⟨⟨by simp, Nat.zero_le _⟩, hs.1⟩, hs.2⟩]
          rfl
        rw [e1]
        have stay : ∀ (l : List Nat) (f : Nat), (forIn l ((#[lo] : Array Nat), f) (StrLaws.occBody x ⟨#[c]⟩ x.length 1)).run.fst = #[lo] := by
          intro l
          induction l with
          | nil => intro f; rfl
          | cons a l ih =>
            intro f
            rw [List.forIn_cons]
            have e2 : StrLaws.occBody x ⟨#[c]⟩ x.length 1 a ((#[lo] : Array Nat), f) = pure (ForInStep.yield (#[lo], f)) := by
              unfold StrLaws.occBody
              rw [if_neg (by simp)]
            rw [e2]
            exact ih f
        exact stay _ _
      · rw [if_neg (by simpa using hc)] at h
        obtain ⟨k', hk, rfl⟩ := Option.map_eq_some_iff.mp h
        have hs : ¬ (lo + (⟨#[c]⟩ : Str).length ≤ x.length ∧ Builtin.Str.subAt x ⟨#[c]⟩ lo = true) := fun q => by
          have := (StrLaws.subAt_one x c lo).mp q
          rw [List.getElem?_eq_getElem hlt] at this
          exact hc (Option.some.inj this)
        have e1 : StrLaws.occBody x ⟨#[c]⟩ x.length 1 lo ((#[] : Array Nat), 0) = pure (ForInStep.yield (#[], 0)) := by
          unfold StrLaws.occBody
          rw [if_neg fun q => hs ⟨q.1.2, q.2⟩]
        rw [e1]
        have := occ_run x c n (lo + 1) k' (by omega) hk
        rw [show lo + (k' + 1) = lo + 1 + k' by omega]
        exact this
    · rw [List.drop_eq_nil_of_le (by omega)] at h
      cases h
theorem occ_sign (a : List Nat) (c k : Nat) (h : idxOf (· == c) a = some k) : Builtin.Str.occurrences (mkS a) (mkS [c]) 0 (mkS a).length 1 = [k] := by
  rw [StrLaws.occ_eq]
  have := occ_run (mkS a) c ((mkS a).length + 1) 0 k (by omega) (by simpa using h)
  rw [Nat.zero_add] at this
  show (forIn (List.range' 0 ((mkS a).length + 1 - 0)) ((#[] : Array Nat), 0) (StrLaws.occBody (mkS a) ⟨#[c]⟩ (mkS a).length 1)).run.fst.toList = [k]
  rw [Nat.sub_zero, this]
/-! ### methods of one operand -/
section
variable {X : Cx} {G : Glob} {Φ : Fns} {N : Nat} {W : WX}
theorem m1_go {K : PySem.W.Frag} {σ : L2.St} {A : List Addr} {F H : Hp} {S : Sh} {Ls Le : List Addr} {env : Env} {Q : VK} {b : Bi} {x y : Ex} (hF : Full K G A F H S Ls σ env Le) (q : PG K G W (RelD K G) σ A F H Ls Q (evalE Φ (.m1 b x y) env S))
    {R : V → Hp → Prop} (k : ∀ (d : D) S1 v A1 F1 H1 Ls1, Full K G A1 F1 H1 S1 Ls1 σ env Le → Rep K G A1 F1 d v → rcvD b d = true → PG K G W (RelD K G) σ A1 F1 H1 Ls1 Q ((evalE Φ y env S1).bind fun e => lift (biD b [d, e])) → R v H1) : PG K G W (RelD K G) σ A F H Ls R (evalE Φ x env S) := by
  rw [evalE] at q
  refine pg_fin.bind hF q fun d S1 v A1 F1 H1 Ls1 hF1 e1 r1 q1 => ?_
  by_cases hb : rcvD b d = true
  · rw [if_pos hb] at q1
    exact k d S1 v A1 F1 H1 Ls1 hF1 r1 hb q1
  · rw [if_neg hb] at q1
    exact q1.elim
theorem d_m1 {b : Bi} {id : String} {name : Str} {o a : Expr} {x y : Ex} {apos pos : Pos} {r : V → List V → Hp → VK → Prop} (slot : Slot "str" name id) (ty : typeOf (.builtin id) = pure (.type "method_descriptor")) (rule : MtR X id r) (ho : DE X G Φ W o x) (ha : DE X G Φ W a y)
    (hd : ∀ d, rcvD b d = true → ∃ s, d = .str s)
    (hr : ∀ (A : List Addr) (F H : Hp) (S : Sh) (Ls : List Addr) (d e z : D) (u v : V) (Q : VK), WR X.K G A F H S Ls → Rep X.K G A F d u → Rep X.K G A F e v → biD b [d, e] = some z → (∀ v F' H', WR X.K G A F' H' S Ls → Ext A F H Ls A F' H' Ls → Rep X.K G A F' z v → Q v H') → r u [v] H Q)
    (hs : starEach [a] X.env = [(false, eval a X.env)] := by rfl) (hbase : attributeBase o name X.env (eval o X.env) = eval o X.env := by rfl) (hline : (apos.endLine == pos.line) = true := by rfl) :
    DE X G Φ W (.Call (.Attribute o name apos) [a] [] pos) (.m1 b x y) := pe_imp (pe_m1 slot ty rule ho ha hs hbase hline) fun σ H Q ⟨A, F, S, Ls, env, Le, hF, q⟩ => by
  refine ⟨A, F, S, Ls, env, Le, hF, m1_go hF q fun d S1 v A1 F1 H1 Ls1 hF1 r1 hb q1 => ?_⟩
  obtain ⟨s, rfl⟩ := hd _ hb
  refine ⟨by cases r1; exact ⟨_, rfl⟩, A1, F1, S1, Ls1, env, Le, hF1, pg_fin.bind hF1 q1 fun e S2 v2 A2 F2 H2 Ls2 hF2 e2 r2 q2 => ?_⟩
  cases hz : biD b [.str s, e] with
  | none => rw [hz] at q2; exact q2.elim
  | some z =>
    rw [hz] at q2
    exact hr A2 F2 H2 S2 Ls2 _ e z v v2 Q hF2.w (r1.mono e2.pre e2.fr) r2 hz fun v3 F3 H3 w3 e3 r3 => q2 v3 A2 F3 H3 Ls2 w3 e3 r3
theorem d_count {o a : Expr} {x y : Ex} {apos pos : Pos} (ho : DE X G Φ W o x) (ha : DE X G Φ W a y) (hs : starEach [a] X.env = [(false, eval a X.env)] := by rfl) (hbase : attributeBase o "count" X.env (eval o X.env) = eval o X.env := by rfl) (hline : (apos.endLine == pos.line) = true := by rfl) :
    DE X G Φ W (.Call (.Attribute o "count" apos) [a] [] pos) (.m1 .count x y) := d_m1 PySem.F.slot_str_count PySem.F.type_str_count mt_count ho ha
  (fun d h => by cases d <;> first | exact ⟨_, rfl⟩ | cases h)
  (fun A F H S Ls d e z u v Q w r1 r2 hz k => by
    match d, e, hz, r1, r2 with
    | .str s, .str [c], hz, .str _, .str _ =>
      have hz : (if s.length ≤ lim then some (D.int (s.count c)) else none) = some z := hz
      split at hz
      · cases hz
        refine ⟨_, _, rfl, rfl, ?_⟩
        rw [count_sign]
        exact k _ F H w .refl (.int _)
      · cases hz) hs hbase hline
theorem d_split {o a : Expr} {x y : Ex} {apos pos : Pos} (ho : DE X G Φ W o x) (ha : DE X G Φ W a y) (hs : starEach [a] X.env = [(false, eval a X.env)] := by rfl) (hbase : attributeBase o "split" X.env (eval o X.env) = eval o X.env := by rfl) (hline : (apos.endLine == pos.line) = true := by rfl) :
    DE X G Φ W (.Call (.Attribute o "split" apos) [a] [] pos) (.m1 .split x y) := d_m1 PySem.F.slot_str_split PySem.F.type_str_split mt_split ho ha
  (fun d h => by cases d <;> first | exact ⟨_, rfl⟩ | cases h)
  (fun A F H S Ls d e z u v Q w r1 r2 hz k => by
    match d, e, hz, r1, r2 with
    | .str s, .str [c], hz, .str _, .str _ =>
      have hz : (if s.length ≤ lim && c < 256 then some (D.lst ((splitC c s).map D.str)) else none) = some z := hz
      split at hz
      · rename_i hc
        simp only [Bool.and_eq_true, decide_eq_true_eq] at hc
        cases hz
        refine ⟨_, _, rfl, rfl, rfl, ?_, ?_⟩
        · rw [str_len]
          have h3 : lim = 1000000 := rfl
          rw [sizeLine_eq]
          omega
        · intro p np
          rw [split_sign _ _ hc.2]
          exact lay_lst w np (rep_strs _) k rfl
      · cases hz) hs hbase hline
theorem d_sindex {o a : Expr} {x y : Ex} {apos pos : Pos} (ho : DE X G Φ W o x) (ha : DE X G Φ W a y) (hs : starEach [a] X.env = [(false, eval a X.env)] := by rfl) (hbase : attributeBase o "index" X.env (eval o X.env) = eval o X.env := by rfl) (hline : (apos.endLine == pos.line) = true := by rfl) :
    DE X G Φ W (.Call (.Attribute o "index" apos) [a] [] pos) (.m1 .sindex x y) := d_m1 PySem.F.slot_str_index PySem.F.type_str_index mt_sindex ho ha
  (fun d h => by cases d <;> first | exact ⟨_, rfl⟩ | cases h)
  (fun A F H S Ls d e z u v Q w r1 r2 hz k => by
    match d, e, hz, r1, r2 with
    | .str s, .str [c], hz, .str _, .str _ =>
      have hz : (if s.length ≤ lim then (idxOf (· == c) s).map (fun (k : Nat) => D.int (k : Int)) else none) = some z := hz
      split at hz
      · obtain ⟨i, hi, rfl⟩ := Option.map_eq_some_iff.mp hz
        exact ⟨_, _, i, [], rfl, rfl, occ_sign s c i hi, k _ F H w .refl (.int _)⟩
      · cases hz) hs hbase hline
end
end FT
namespace FT
open PySem PySem.Spec PyProof.Rows L2
/-! ### places in lists and tuples -/
theorem idxOf_some {α : Type} {p : α → Bool} : ∀ {l : List α} {k : Nat}, idxOf p l = some k → ∃ x, l[k]? = some x ∧ p x = true ∧ ∀ m, m < k → ∀ y, l[m]? = some y → p y = false
  | [], k, h => by cases h
  | a :: l, k, h => by
    simp only [idxOf] at h
    by_cases hp : p a = true
    · rw [if_pos hp] at h
      cases h
      exact ⟨a, rfl, hp, fun m hm => by omega⟩
    · rw [if_neg hp] at h
      obtain ⟨k', hk, rfl⟩ := Option.map_eq_some_iff.mp h
      obtain ⟨x, h1, h2, h3⟩ := idxOf_some hk
      refine ⟨x, by simpa using h1, h2, fun m hm y hy => ?_⟩
      cases m with
      | zero => simp at hy; subst hy; simpa using hp
      | succ m => exact h3 m (by omega) y (by simpa using hy)
section
variable {X : Cx} {G : Glob} {Φ : Fns} {N : Nat} {W : WX}
/-- how often a flat value stands in a list of flat values -/
def rCntV (K : PySem.W.Frag) : V → List V → Hp → VK → Prop := fun x xs H Q => ∃ (p : Addr) (ys : List V) (y : V), x = .ref p ∧ xs = [y] ∧ SqL K H p ys ∧ flatV y = true ∧ ys.all flatV = true ∧ Q (.int (ys.countP (fun z => eqV z y) : Nat)) H
theorem countU {y : V} : ∀ {ys : List V} {its : List Value}, Vals ys its → ys.all flatV = true → its.countP (eqU y) = ys.countP (fun z => eqV z y)
  | _, _, .nil, _ => rfl
  | _, _, .cons r t, h => by
    rw [List.all_cons, Bool.and_eq_true] at h
    rw [List.countP_cons, List.countP_cons, countU t h.2, eqU_of r h.1]
theorem mt_cntV : MtR X "list.count" (rCntV X.K) := by
  intro pins s σ H x xs v us Q I rx rxs h
  obtain ⟨p, ys, y, rfl, rfl, hs, fy, fys, q⟩ := h
  cases rx
  cases rxs with
  | cons ry rt =>
    rename_i uy ut
    cases rt
    obtain ⟨its, rv, ⟨⟨cls, dd, data, sl⟩, n, ho, hc, hdn, hd⟩, hlen⟩ := I.list hs
    simp only at hc hd
    subst hc hd
    refine call_meets PySem.F.slot_list_count ⟨_, ho, rfl⟩ PySem.F.entry_list_count (PySem.F.args_list_count_2 _ _)
      (SeqAt.list_countAt p its.toArray n dd sl uy (eqU y)) ⟨ho, fun z hz => mem_eqAt ry fy rv fys z (by simpa using hz), ?_⟩
    have ec : its.toArray.toList.countP (eqU y) = ys.countP (fun z => eqV z y) := countU rv fys
    refine ⟨.int (ys.countP (fun z => eqV z y) : Nat), H, I.tok _, ⟨s.toks, ?_⟩, q⟩
    show Value.int ((its.toArray.toList.countP (eqU y) : Nat) : Int) s.toks = _
    rw [ec]
theorem d_bm1 {b : Bi} {T id : String} {name : Str} {o a : Expr} {x y : Ex} {apos pos : Pos} {r : V → List V → Hp → VK → Prop} (pa : PlainAttrs T) (slot : Slot T name id) (ty : typeOf (.builtin id) = pure (.type "method_descriptor")) (rule : MtR X id r) (ho : DE X G Φ W o x) (ha : DE X G Φ W a y)
    (hd : ∀ (A : List Addr) (F H : Hp) (S : Sh) (Ls : List Addr) (d : D) (u : V), WR X.K G A F H S Ls → Rep X.K G A F d u → rcvD b d = true → tyV X.K T u H)
    (hr : ∀ (A : List Addr) (F H : Hp) (S : Sh) (Ls : List Addr) (d e z : D) (u v : V) (Q : VK), WR X.K G A F H S Ls → Rep X.K G A F d u → Rep X.K G A F e v → biD b [d, e] = some z → (∀ v F' H', WR X.K G A F' H' S Ls → Ext A F H Ls A F' H' Ls → Rep X.K G A F' z v → Q v H') → r u [v] H Q)
    (hs : starEach [a] X.env = [(false, eval a X.env)] := by rfl) (hbase : attributeBase o name X.env (eval o X.env) = eval o X.env := by rfl) (hline : (apos.endLine == pos.line) = true := by rfl)
    (hfew : ((backTo pos (starEach [a] X.env)).all (fun x => !x.1) && (backToKw pos (keywordEach [] X.env)).all (fun x => x.1.isSome) && decide (([a] : List Expr).length + ([] : List Keyword).length + (if ([] : List Keyword).isEmpty then 0 else 1) < 30)) = true := by rfl) :
    DE X G Φ W (.Call (.Attribute o name apos) [a] [] pos) (.m1 b x y) := pe_imp (pe_bm pa slot ty rule ho (pa_cons ha pa_nil hs) hbase hfew hline hs rfl) fun σ H Q ⟨A, F, S, Ls, env, Le, hF, q⟩ => by
  refine ⟨A, F, S, Ls, env, Le, hF, m1_go hF q fun d S1 v A1 F1 H1 Ls1 hF1 r1 hb q1 => ?_⟩
  refine ⟨hd A1 F1 H1 S1 Ls1 d v hF1.w r1 hb, A1, F1, S1, Ls1, env, Le, hF1, pg_fin.bind hF1 q1 fun e S2 v2 A2 F2 H2 Ls2 hF2 e2 r2 q2 => ?_⟩
  cases hz : biD b [d, e] with
  | none => rw [hz] at q2; exact q2.elim
  | some z =>
    rw [hz] at q2
    exact hr A2 F2 H2 S2 Ls2 _ e z v v2 Q hF2.w (r1.mono e2.pre e2.fr) r2 hz fun v3 F3 H3 w3 e3 r3 => q2 v3 A2 F3 H3 Ls2 w3 e3 r3
theorem all_bl : ∀ ns : List Bool, (ns.map V.bl).all flatV = true := fun ns => by rw [List.all_map]; exact List.all_eq_true.mpr fun _ _ => rfl
theorem all_st : ∀ ns : List Str, (ns.map V.str).all flatV = true := fun ns => by rw [List.all_map]; exact List.all_eq_true.mpr fun _ _ => rfl
theorem lst_ty {K : PySem.W.Frag} {A : List Addr} {F H : Hp} {S : Sh} {Ls : List Addr} {ds : List D} {u : V} (w : WR K G A F H S Ls) (r : Rep K G A F (.lst ds) u) : tyV K "list" u H := by
  cases r with
  | lst h1 h2 => exact .inl ⟨rfl, _, .of (w.sub _ _ h1)⟩
theorem d_lindex {o a : Expr} {x y : Ex} {apos pos : Pos} (ho : DE X G Φ W o x) (ha : DE X G Φ W a y) (hs : starEach [a] X.env = [(false, eval a X.env)] := by rfl) (hbase : attributeBase o "index" X.env (eval o X.env) = eval o X.env := by rfl) (hline : (apos.endLine == pos.line) = true := by rfl)
    (hfew : ((backTo pos (starEach [a] X.env)).all (fun x => !x.1) && (backToKw pos (keywordEach [] X.env)).all (fun x => x.1.isSome) && decide (([a] : List Expr).length + ([] : List Keyword).length + (if ([] : List Keyword).isEmpty then 0 else 1) < 30)) = true := by rfl) :
    DE X G Φ W (.Call (.Attribute o "index" apos) [a] [] pos) (.m1 .lindex x y) := d_bm1 PySem.F.plainAttrs_list PySem.F.slot_list_index PySem.F.type_list_index mt_index ho ha
  (fun A F H S Ls d u w r h => by
    cases d with
    | lst ds => exact lst_ty w r
    | _ => cases h)
  (fun A F H S Ls d e z u v Q w r1 r2 hz k => by
    match d, e, hz, r1, r2 with
    | .lst ds, .bl c, hz, .lst h1 h2, .bl _ =>
      obtain ⟨ts, hb, hz⟩ := Option.bind_eq_some_iff.mp (show (blsD ds).bind (fun ts => (idxOf (· == c) ts).map fun (k : Nat) => D.int (k : Int)) = some z from hz)
      obtain ⟨i, hi, rfl⟩ := Option.map_eq_some_iff.mp hz
      obtain ⟨t, e1, e2, e3⟩ := idxOf_some hi
      have ev := bls_vs h2 hb
      subst ev
      refine ⟨_, _, .bl c, i, .bl t, rfl, rfl, .of (w.sub _ _ h1), rfl, all_bl _, by rw [List.getElem?_map, e1]; rfl, by simpa [eqV] using e2, fun m z' hm hz' => ?_, k _ F H w .refl (.int _)⟩
      rw [List.getElem?_map] at hz'
      obtain ⟨t', ht', rfl⟩ := Option.map_eq_some_iff.mp hz'
      have := e3 m hm t' ht'
      simpa [eqV] using this
    | .lst ds, .str c, hz, .lst h1 h2, .str _ =>
      obtain ⟨ts, hb, hz⟩ := Option.bind_eq_some_iff.mp (show (strsD ds).bind (fun ts => (idxOf (· == c) ts).map fun (k : Nat) => D.int (k : Int)) = some z from hz)
      obtain ⟨i, hi, rfl⟩ := Option.map_eq_some_iff.mp hz
      obtain ⟨t, e1, e2, e3⟩ := idxOf_some hi
      have ev := strs_vs h2 hb
      subst ev
      refine ⟨_, _, .str (mkS c), i, .str (mkS t), rfl, rfl, .of (w.sub _ _ h1), rfl, all_st _, by rw [List.getElem?_map, List.getElem?_map, e1]; rfl, ?_, fun m z' hm hz' => ?_, k _ F H w .refl (.int _)⟩
      · show ((mkS t) == (mkS c)) = true
        rw [str_beq]
        exact e2
      · rw [List.getElem?_map, List.getElem?_map] at hz'
        obtain ⟨t0, ht0, rfl⟩ := Option.map_eq_some_iff.mp hz'
        obtain ⟨t', ht', rfl⟩ := Option.map_eq_some_iff.mp ht0
        have := e3 m hm t' ht'
        show ((mkS t') == (mkS c)) = false
        rw [str_beq]
        exact this) hs hbase hline hfew
theorem cnt_bls (c : Bool) : ∀ ts : List Bool, (ts.map V.bl).countP (fun z => eqV z (.bl c)) = ts.count c
  | [] => rfl
  | t :: ts => by
    rw [List.map_cons, List.countP_cons, cnt_bls c ts, List.count_cons]
    rfl
theorem d_lcnt {o a : Expr} {x y : Ex} {apos pos : Pos} (ho : DE X G Φ W o x) (ha : DE X G Φ W a y) (hs : starEach [a] X.env = [(false, eval a X.env)] := by rfl) (hbase : attributeBase o "count" X.env (eval o X.env) = eval o X.env := by rfl) (hline : (apos.endLine == pos.line) = true := by rfl)
    (hfew : ((backTo pos (starEach [a] X.env)).all (fun x => !x.1) && (backToKw pos (keywordEach [] X.env)).all (fun x => x.1.isSome) && decide (([a] : List Expr).length + ([] : List Keyword).length + (if ([] : List Keyword).isEmpty then 0 else 1) < 30)) = true := by rfl) :
    DE X G Φ W (.Call (.Attribute o "count" apos) [a] [] pos) (.m1 .lcnt x y) := d_bm1 PySem.F.plainAttrs_list PySem.F.slot_list_count PySem.F.type_list_count mt_cntV ho ha
  (fun A F H S Ls d u w r h => by
    cases d with
    | lst ds => exact lst_ty w r
    | _ => cases h)
  (fun A F H S Ls d e z u v Q w r1 r2 hz k => by
    match d, e, hz, r1, r2 with
    | .lst ds, .bl c, hz, .lst h1 h2, .bl _ =>
      obtain ⟨ts, hb, hz⟩ := Option.map_eq_some_iff.mp (show (blsD ds).map (fun ts => D.int (ts.count c)) = some z from hz)
      subst hz
      have ev := bls_vs h2 hb
      subst ev
      refine ⟨_, _, .bl c, rfl, rfl, .of (w.sub _ _ h1), rfl, all_bl _, ?_⟩
      rw [cnt_bls]
      exact k _ F H w .refl (.int _)) hs hbase hline hfew
/-! ### a constant tuple of the module's -/
/-- at the name x stands a tuple of the module's, of these texts -/
def TupG (K : PySem.W.Frag) (mg : Str → Option Value) (x : Str) (ts : List (List Nat)) : Prop := ∃ (a : Addr) (o : Obj) (its : List Value) (n : Nat), mg x = some (.ref a) ∧ K.lookup a = some o ∧ o.cls = .type "tuple" ∧ o.dict = none ∧ o.data = .seq its.toArray n ∧ Vals (ts.map fun t => V.str (mkS t)) its
end
end FT
namespace FT
open PySem PySem.Spec PyProof.Rows L2
def strsB : List Value → List (List Nat) → Bool
  | [], [] => true
  | .str y _ :: r, t :: ts => decide (y = mkS t) && strsB r ts
  | _, _ => false
theorem strsB_ok : ∀ {its : List Value} {ts : List (List Nat)}, strsB its ts = true → Vals (ts.map fun t => V.str (mkS t)) its
  | [], [], _ => .nil
  | [], _ :: _, h => by cases h
  | u :: r, [], h => by cases u <;> cases h
  | u :: r, t :: ts, h => by
    cases u with
    | str y tk =>
      have h : (decide (y = mkS t) && strsB r ts) = true := h
      rw [Bool.and_eq_true] at h
      refine .cons ⟨tk, ?_⟩ (strsB_ok h.2)
      rw [of_decide_eq_true h.1]
    | _ => cases h
def tupB (x : Str) (ts : List (List Nat)) (K : PySem.W.Frag) : Bool := match PySem.W.nsIn K mainGlobals x with
  | some (some (.ref a)) => (match K.lookup a with
    | some ⟨.type c, none, .seq its _, _⟩ => decide (c = "tuple") && (decide (its.size ≤ 1000) && strsB its.toList ts)
    | _ => false)
  | _ => false
theorem tupB_ok {x : Str} {ts : List (List Nat)} {K : PySem.W.Frag} {h : Heap} {mg : Str → Option Value} (X : K.In h) (Y : h.Ns mainGlobals mg) (c : tupB x ts K = true) : TupG K mg x ts := by
  unfold tupB at c
  split at c
  · rename_i a ha
    split at c
    · rename_i cl its n sl hl
      simp only [Bool.and_eq_true, decide_eq_true_eq] at c
      obtain ⟨c1, c2, c3⟩ := c
      subst c1
      exact ⟨a, _, its.toList, n, PySem.W.mg_of X Y ha, hl, rfl, rfl, by rw [Array.toArray_toList], strsB_ok c3⟩
    · cases c
  · cases c
section
variable {X : Cx} {G : Glob} {Φ : Fns} {N : Nat} {W : WX}
theorem tupG_sqT {K : PySem.W.Frag} {mg : Str → Option Value} {x : Str} {ts : List (List Nat)} {a : Addr} {o : Obj} {its : List Value} {n : Nat} (h2 : K.lookup a = some o) (h3 : o.cls = .type "tuple") (h5 : o.data = .seq its.toArray n) (h6 : Vals (ts.map fun t => V.str (mkS t)) its) (hl : ts.length ≤ 1000) (H : Hp) : SqT K H a ((ts.map mkS).map V.str) := by
  refine .inr ⟨o, its.toArray, n, h2, h3, h5, ?_, ?_⟩
  · have := h6.length
    rw [List.length_map] at this
    rw [List.size_toArray, ← this]
    exact small_of hl
  · rw [List.map_map]
    exact h6
theorem d_gtup {x : Str} {ts : List (List Nat)} {pos : Pos} (hg : Gl X x) (h : TupG X.K X.mg x ts) (hl : ts.length ≤ 1000 := by decide) (hd : (x == ("__debug__" : Str)) = false := by decide) : DE X G Φ W (.Name x pos) (.con (.tup (ts.map D.str))) := by
  obtain ⟨a, o, its, n, h1, h2, h3, h4, h5, h6⟩ := h
  exact d_con (pe_glob hg h1 (v := .ref a) rfl hd) fun A F => .tup (tupG_sqT (mg := X.mg) (x := x) h2 h3 h5 h6 hl F) (rep_strs ts)
theorem d_gint {x : Str} {i : Int} {pos : Pos} (hg : Gl X x) (h : ∃ t, X.mg x = some (.int i t)) (hd : (x == ("__debug__" : Str)) = false := by decide) : DE X G Φ W (.Name x pos) (.con (.int i)) := by
  obtain ⟨t, ht⟩ := h
  exact d_con (pe_glob hg ht (v := .int i) ⟨_, rfl⟩ hd) fun A F => .int i
theorem d_tindex {x : Str} {ts : List (List Nat)} {a : Expr} {y : Ex} {xpos apos pos : Pos} (hg : Gl X x) (h : TupG X.K X.mg x ts) (ha : DE X G Φ W a y) (hl : ts.length ≤ 1000 := by decide) (hdb : (x == ("__debug__" : Str)) = false := by decide) (hs : starEach [a] X.env = [(false, eval a X.env)] := by rfl)
    (hbase : attributeBase (.Name x xpos) "index" X.env (eval (.Name x xpos) X.env) = eval (.Name x xpos) X.env := by rfl) (hline : (apos.endLine == pos.line) = true := by rfl)
    (hfew : ((backTo pos (starEach [a] X.env)).all (fun x => !x.1) && (backToKw pos (keywordEach [] X.env)).all (fun x => x.1.isSome) && decide (([a] : List Expr).length + ([] : List Keyword).length + (if ([] : List Keyword).isEmpty then 0 else 1) < 30)) = true := by rfl) :
    DE X G Φ W (.Call (.Attribute (.Name x xpos) "index" apos) [a] [] pos) (.m1 .tindex (.con (.tup (ts.map D.str))) y) := by
  obtain ⟨p, o, its, n, h1, h2, h3, h4, h5, h6⟩ := h
  refine pe_imp (pe_bm PySem.F.plainAttrs_tuple PySem.F.slot_tuple_index PySem.F.type_tuple_index mt_tup_index (pe_glob (pos := xpos) hg h1 (v := .ref p) rfl hdb) (pa_cons ha pa_nil hs) hbase hfew hline hs rfl) fun σ H Q ⟨A, F, S, Ls, env, Le, hF, q⟩ => ?_
  rw [evalE, evalE] at q
  simp only [Res.bind_ok] at q
  rw [if_pos (show rcvD .tindex (.tup (ts.map D.str)) = true from rfl)] at q
  refine ⟨.inr (.inl ⟨rfl, o, h2, h3, h4⟩), A, F, S, Ls, env, Le, hF, pg_fin.bind hF q fun e S2 v2 A2 F2 H2 Ls2 hF2 e2 r2 q2 => ?_⟩
  cases e with
  | str c =>
    cases hz : biD .tindex [.tup (ts.map D.str), .str c] with
    | none => rw [hz] at q2; exact q2.elim
    | some z =>
      rw [hz] at q2
      obtain ⟨us, hb, hz2⟩ := Option.bind_eq_some_iff.mp (show (strsD (ts.map D.str)).bind (fun ts => (idxOf (· == c) ts).map fun (k : Nat) => D.int (k : Int)) = some z from hz)
      have es : us = ts := by
        have := strsD_map (α := List Nat) id ts
        simp only [id] at this
        rw [this] at hb
        rw [← Option.some.inj hb]
        exact List.map_id' ts
      subst es
      obtain ⟨i, hi, rfl⟩ := Option.map_eq_some_iff.mp hz2
      obtain ⟨t, e1, e2', e3⟩ := idxOf_some hi
      cases r2
      refine ⟨p, us.map mkS, mkS c, i, rfl, rfl, tupG_sqT (mg := X.mg) (x := x) h2 h3 h5 h6 hl H2, ?_, fun m hm hz' => ?_, q2 _ A2 F2 H2 Ls2 hF2.w .refl (.int _)⟩
      · rw [List.getElem?_map, e1]
        show some (mkS t) = _
        rw [show t = c by simpa using e2']
      · rw [List.getElem?_map] at hz'
        obtain ⟨t', ht', et⟩ := Option.map_eq_some_iff.mp hz'
        have := e3 m hm t' ht'
        rw [mkS_inj et] at this
        simp at this
  | _ => exact q2.elim
/-! ### f-strings -/
def JP (X : Cx) (G : Glob) (Φ : Fns) (W : WX) (es : List Expr) (xs : Exs) : Prop := ∃ ts, PJ X es ts ∧ ∀ (acc : List Nat) (σ : L2.St) (A : List Addr) (F H : Hp) (S : Sh) (Ls Le : List Addr) (env : Env) (Q : VK),
  Full X.K G A F H S Ls σ env Le → acc.length ≤ lim → PG X.K G W (RelD X.K G) σ A F H Ls Q ((evalF Φ acc xs env S).bind fun s => lift (some (.str s))) → tJs ts (mkS acc) σ H fun out H1 => Q (.str out) H1
theorem jp_nil : JP X G Φ W [] .nil := ⟨[], .nil, fun acc σ A F H S Ls Le env Q hF hl q => by
  rw [evalF] at q
  exact q _ A F H Ls hF.w .refl (.str _)⟩
theorem strOf_d {d : D} {s : List Nat} (h : strOf d = some s) : d = .str s ∨ ∃ i : Int, d = .int i ∧ i.natAbs.log2 < 1920 ∧ (toString i : Str) = mkS s := by
  cases d with
  | str t => cases h; exact .inl rfl
  | int i =>
    have h : (if 0 ≤ i ∧ i < 1000000000000000 then some (dig i.toNat) else none) = some s := h
    split at h
    · rename_i c
      cases h
      refine .inr ⟨i, rfl, ?_, ?_⟩
      · by_cases h0 : i.natAbs = 0
        · rw [h0]; decide
        · exact (Nat.log2_lt h0).mpr (Nat.lt_of_lt_of_le (show i.natAbs < 2 ^ 50 by omega) (Nat.pow_le_pow_right (by decide) (by omega)))
      · have e1 : i = ((i.toNat : Nat) : Int) := by omega
        rw [show dig i.toNat = TL.numL i.toNat from dig_num 14 _ (by omega)]
        conv => lhs; rw [e1]
        exact SX.num_S i.toNat
    · cases h
  | _ => cases h
/-- a part's value, then the rest -/
theorem jp_core {x : Ex} {xs : Exs} {ts : List TE} {acc : List Nat} {σ : L2.St} {A : List Addr} {F H : Hp} {S : Sh} {Ls Le : List Addr} {env : Env} {Q : VK}
    (hr : ∀ (acc : List Nat) (σ : L2.St) (A : List Addr) (F H : Hp) (S : Sh) (Ls Le : List Addr) (env : Env) (Q : VK), Full X.K G A F H S Ls σ env Le → acc.length ≤ lim → PG X.K G W (RelD X.K G) σ A F H Ls Q ((evalF Φ acc xs env S).bind fun s => lift (some (.str s))) → tJs ts (mkS acc) σ H fun out H1 => Q (.str out) H1)
    (hF : Full X.K G A F H S Ls σ env Le) (q : PG X.K G W (RelD X.K G) σ A F H Ls Q ((evalF Φ acc (.cons x xs) env S).bind fun s => lift (some (.str s)))) {R : V → Hp → Prop}
    (k : ∀ (d : D) (v : V) (H1 : Hp) (s : List Nat) (A1 : List Addr) (F1 : Hp), (∃ S1, evalE Φ x env S = .ok d S1) → Rep X.K G A1 F1 d v → strOf d = some s → s.length ≤ lim → ((mkS acc) ++ (mkS s)).length ≤ sizeLine → (tJs ts (mkS acc ++ mkS s) σ H1 fun out H1 => Q (.str out) H1) → R v H1) : PG X.K G W (RelD X.K G) σ A F H Ls R (evalE Φ x env S) := by
  have eq1 : (evalF Φ acc (.cons x xs) env S).bind (fun s => (lift (some (.str s)) : M D)) = (evalE Φ x env S).bind fun d => fun S1 => ((match strOf d with
    | some s => if (acc ++ s).length ≤ lim then evalF Φ (acc ++ s) xs env else lift none
    | none => lift none) S1).bind fun s => lift (some (.str s)) := by
    rw [evalF]
    cases evalE Φ x env S <;> rfl
  rw [eq1] at q
  cases hx : evalE Φ x env S with
  | ex c S1 => rw [hx] at q; exact q
  | bad => rw [hx] at q; exact q
  | ok d S1 =>
  rw [hx] at q
  intro v A1 F1 H1 Ls1 w1 e1 r1
  have hF1 := hF.ext w1 e1
  have q1 := pg_fin.later w1.out e1 q
  simp only [Res.bind_ok] at q1
  cases hs : strOf d with
  | none => rw [hs] at q1; exact q1.elim
  | some s =>
    rw [hs] at q1
    dsimp only at q1
    by_cases hl : (acc ++ s).length ≤ lim
    · rw [if_pos hl] at q1
      have hh : s.length ≤ lim := by rw [List.length_append] at hl; omega
      refine k d v H1 s A1 F1 ⟨S1, hx⟩ r1 hs hh ?_ ?_
      · rw [str_app, str_len]
        exact lim_of hl
      · rw [str_app]
        exact hr (acc ++ s) σ A1 F1 H1 S1 Ls1 Le env Q hF1 hl q1
    · rw [if_neg hl] at q1
      exact q1.elim
theorem jp_lit {s : Str} {j : Nat} {pos : Pos} {es : List Expr} {xs : Exs} (hr : JP X G Φ W es xs) : JP X G Φ W (.Constant (.str s) j pos :: es) (.cons (.con (.str (tx s))) xs) := by
  obtain ⟨ts, h1, h2⟩ := hr
  refine ⟨_, .cons (d_strc (X := X) (G := G) (Φ := Φ) (W := W) (x := s) (j := j) (pos := pos)) h1, fun acc σ A F H S Ls Le env Q hF hl q => ?_⟩
  refine ⟨A, F, S, Ls, env, Le, hF, jp_core h2 hF q fun d v H1 t A1 F1 ⟨S1, hx⟩ r1 hs ht h3 h4 => ?_⟩
  rw [evalE] at hx
  cases hx
  cases hs
  cases r1
  exact ⟨_, rfl, h3, h4⟩
theorem jp_fmt {e : Expr} {x : Ex} {pos : Pos} {es : List Expr} {xs : Exs} (he : DE X G Φ W e x) (hr : JP X G Φ W es xs) : JP X G Φ W (.FormattedValue e (-1) none pos :: es) (.cons x xs) := by
  obtain ⟨ts, h1, h2⟩ := hr
  refine ⟨_, .cons (pe_fmt (pos := pos) he) h1, fun acc σ A F H S Ls Le env Q hF hl q => ?_⟩
  refine ⟨A, F, S, Ls, env, Le, hF, jp_core h2 hF q fun d v H1 t A1 F1 _ r1 hs ht h3 h4 => ?_⟩
  rcases strOf_d hs with rfl | ⟨i, rfl, e1, e2⟩
  · cases r1
    exact .inl ⟨_, rfl, by rw [str_len]; exact lim_of ht, _, rfl, h3, h4⟩
  · cases r1
    exact .inr ⟨i, rfl, e1, _, rfl, by rw [e2]; exact h3, by rw [e2]; exact h4⟩
theorem d_fstr {v1 v2 : Expr} {rest : List Expr} {xs : Exs} {pos : Pos} (h : JP X G Φ W (v1 :: v2 :: rest) xs) : DE X G Φ W (.JoinedStr (v1 :: v2 :: rest) pos) (.fstr xs) := by
  obtain ⟨ts, h1, h2⟩ := h
  refine pe_imp (pe_joined h1) fun σ H Q ⟨A, F, S, Ls, env, Le, hF, q⟩ => ?_
  rw [evalE] at q
  exact h2 [] σ A F H S Ls Le env Q hF (Nat.zero_le _) q
end
end FT
namespace FT
open PySem PySem.Spec PyProof.Rows L2
/-! ### dicts: keys and entries -/
theorem keyD_eqv {a b : D} {x y : Key} (ha : keyD a = some x) (hb : keyD b = some y) : eqv a b = decide (x = y) := by
  cases a with
  | int i =>
    cases ha
    cases b with
    | int j =>
      cases hb
      simp only [eqv, Sum.inl.injEq]
      by_cases h : i = j <;> simp [h]
    | str t => cases hb; simp [eqv]
    | _ => cases hb
  | str s =>
    cases ha
    cases b with
    | int j => cases hb; simp [eqv]
    | str t =>
      cases hb
      simp only [eqv, Sum.inr.injEq]
      by_cases h : s = t
      · simp [h]
      · have : ¬ mkS s = mkS t := fun e => h (mkS_inj e)
        simp [h]
    | _ => cases hb
  | _ => cases ha
mutual
theorem keyN_eqv : ∀ (a b : D) (x y : NestedKey), keyN a = some x → keyN b = some y → eqv a b = NestedKey.beq x y
  | .non, b, x, y, ha, hb => by
    cases ha
    cases b <;> simp only [keyN] at hb <;> first
      | (cases hb; simp [eqv, NestedKey.beq]; done)
      | (split at hb <;> cases hb <;> simp [eqv, NestedKey.beq]; done)
      | (cases hb; done)
  | .bl i, b, x, y, ha, hb => by
    cases ha
    cases b with
    | bl j => cases hb; cases i <;> cases j <;> decide
    | int j =>
      cases hb
      simp only [eqv, NestedKey.beq]
      by_cases h : (if i = true then (1 : Int) else 0) = j <;> simp [h]
    | tup ys =>
      simp only [keyN] at hb
      split at hb
      · cases hb; simp [eqv, NestedKey.beq]
      · cases hb
    | _ => cases hb <;> simp [eqv, NestedKey.beq]
  | .int i, b, x, y, ha, hb => by
    cases ha
    cases b with
    | bl j =>
      cases hb
      simp only [eqv, NestedKey.beq]
      by_cases h : i = (if j = true then (1 : Int) else 0) <;> simp [h]
    | int j =>
      cases hb
      simp only [eqv, NestedKey.beq]
      by_cases h : i = j <;> simp [h]
    | tup ys =>
      simp only [keyN] at hb
      split at hb
      · cases hb; simp [eqv, NestedKey.beq]
      · cases hb
    | _ => cases hb <;> simp [eqv, NestedKey.beq]
  | .str s, b, x, y, ha, hb => by
    cases ha
    cases b with
    | str t =>
      cases hb
      simp only [eqv, NestedKey.beq]
      by_cases h : s = t
      · simp [h]
      · have : ¬ (mkS s) = (mkS t) := fun e => h (mkS_inj e)
        simp [h]
    | tup ys =>
      simp only [keyN] at hb
      split at hb
      · cases hb; simp [eqv, NestedKey.beq]
      · cases hb
    | _ => cases hb <;> simp [eqv, NestedKey.beq]
  | .tup xs, b, x, y, ha, hb => by
    simp only [keyN] at ha
    cases hx : keysN xs with
    | none => rw [hx] at ha; cases ha
    | some ks =>
      rw [hx] at ha
      cases ha
      cases b with
      | tup ys =>
        simp only [keyN] at hb
        cases hy : keysN ys with
        | none => rw [hy] at hb; cases hb
        | some js =>
          rw [hy] at hb
          cases hb
          simp only [eqv, NestedKey.beq]
          exact keysN_eqv xs ys ks js hx hy
      | _ => cases hb <;> simp [eqv, NestedKey.beq]
  | .lst _, _, _, _, ha, _ => by cases ha
  | .ref _, _, _, _, ha, _ => by cases ha
  | .fn _, _, _, _, ha, _ => by cases ha
  | .exc _, _, _, _, ha, _ => by cases ha
  | .scr _, _, _, _, ha, _ => by cases ha
  | .dic _ _ _, _, _, _, ha, _ => by cases ha
theorem keysN_eqv : ∀ (as bs : List D) (xs ys : List NestedKey), keysN as = some xs → keysN bs = some ys → eqvL as bs = NestedKey.beqAll xs ys
  | [], [], _, _, ha, hb => by cases ha; cases hb; simp [eqvL, NestedKey.beqAll]
  | [], b :: bs, _, ys, ha, hb => by
    cases ha
    simp only [keysN] at hb
    split at hb
    · cases hb; simp [eqvL, NestedKey.beqAll]
    · cases hb
  | a :: as, [], xs, _, ha, hb => by
    cases hb
    simp only [keysN] at ha
    split at ha
    · cases ha; simp [eqvL, NestedKey.beqAll]
    · cases ha
  | a :: as, b :: bs, xs, ys, ha, hb => by
    simp only [keysN] at ha hb
    split at ha
    · rename_i k ks h1 h2
      cases ha
      split at hb
      · rename_i j js g1 g2
        cases hb
        simp only [eqvL, NestedKey.beqAll]
        rw [keyN_eqv a b k j h1 g1, keysN_eqv as bs ks js h2 g2]
      · cases hb
    · cases ha
end
theorem keyN_dec {a b : D} {x y : NestedKey} (ha : keyN a = some x) (hb : keyN b = some y) : eqv a b = decide (x = y) := by
  rw [NestedKey.decide_eq]
  exact keyN_eqv a b x y ha hb
section
variable {K : PySem.W.Frag} {G : Glob} {A : List Addr} {F : Hp}
/-- what stands at a key -/
theorem find_dk {k : D} {κ : Key} (hk : keyD k = some κ) : ∀ {ks vs : List D} {kvs : List (Key × V)}, keysD ks = some (kvs.map (·.1)) → RepL K G A F vs (kvs.map (·.2)) →
    (∃ d u, findD k ks vs = some d ∧ valV kvs κ = some u ∧ Rep K G A F d u) ∨ (findD k ks vs = none ∧ valV kvs κ = none)
  | [], vs, kvs, h1, h2 => by
    cases kvs with
    | nil => cases h2; exact .inr ⟨rfl, rfl⟩
    | cons p r => cases h1
  | k' :: ks, vs, kvs, h1, h2 => by
    simp only [keysD] at h1
    split at h1
    · rename_i κ' κs e1 e2
      cases kvs with
      | nil => cases h1
      | cons p r =>
        have h1 := Option.some.inj h1
        rw [List.map_cons] at h1 h2
        injection h1 with h3 h4
        cases h2 with
        | @cons d vs' _ _ r1 r2 =>
          have e := keyD_eqv e1 hk
          by_cases hx : κ' = κ
          · rw [decide_eq_true hx] at e
            refine .inl ⟨d, p.2, by simp [findD, e], valV_pos (by rw [← h3]; exact hx), r1⟩
          · rw [decide_eq_false hx] at e
            have ih := find_dk hk (by rw [e2, h4]) r2
            have hv : valV (p :: r) κ = valV r κ := valV_neg (by rw [← h3]; exact hx)
            simp only [findD, e, Bool.false_eq_true, if_false]
            rw [hv]
            exact ih
    · cases h1
theorem any_dk {k : D} {κ : Key} (hk : keyD k = some κ) {ks vs : List D} {kvs : List (Key × V)} (h1 : keysD ks = some (kvs.map (·.1))) (h2 : RepL K G A F vs (kvs.map (·.2))) : (findD k ks vs).isSome = (valV kvs κ).isSome := by
  rcases find_dk hk h1 h2 with ⟨d, u, e1, e2, _⟩ | ⟨e1, e2⟩ <;> rw [e1, e2] <;> rfl
theorem put_map {κ : Key} {u : V} : ∀ {kvs : List (Key × V)}, (kvs.map (·.1)).Nodup → True := fun _ => trivial
/-- the entries behind a store, as the words reckon them -/
def putR (κ : Key) (u : V) : List (Key × V) → List (Key × V)
  | p :: r => if p.1 = κ then (p.1, u) :: r else p :: putR κ u r
  | [] => [(κ, u)]
theorem putR_eq (κ : Key) (u : V) : ∀ {kvs : List (Key × V)}, (kvs.map (·.1)).Nodup → putR κ u kvs = putK kvs κ u
  | [], _ => by simp [putR, putK]
  | p :: r, nd => by
    obtain ⟨n1, n2⟩ := List.nodup_cons.mp (show (p.1 :: r.map (·.1)).Nodup from nd)
    simp only [putR]
    by_cases h : p.1 = κ
    · rw [if_pos h]
      unfold putK
      have ha : ((p :: r).any fun kv => decide (kv.1 = κ)) = true := by simp [h]
      rw [if_pos ha, List.map_cons, if_pos h]
      congr 1
      have : r.map (fun kv => if kv.1 = κ then (kv.1, u) else kv) = r.map id := List.map_congr_left fun q hq => by
        rw [if_neg (fun e => n1 (List.mem_map.mpr ⟨q, hq, by rw [e, h]⟩))]
        rfl
      rw [this, List.map_id]
    · rw [if_neg h, putR_eq κ u n2]
      unfold putK
      have ha : ((p :: r).any fun kv => decide (kv.1 = κ)) = (r.any fun kv => decide (kv.1 = κ)) := by simp [h]
      rw [ha]
      split
      · rw [List.map_cons, if_neg h]
      · rfl
theorem putR_rep {k d : D} {κ : Key} {u : V} (hk : keyD k = some κ) (rd : Rep K G A F d u) : ∀ {ks vs : List D} {kvs : List (Key × V)}, keysD ks = some (kvs.map (·.1)) → RepL K G A F vs (kvs.map (·.2)) →
    keysD (putDk k ks) = some ((putR κ u kvs).map (·.1)) ∧ RepL K G A F (putDv k d ks vs) ((putR κ u kvs).map (·.2))
  | [], vs, kvs, h1, h2 => by
    cases kvs with
    | nil =>
      cases h2
      refine ⟨by simp [putDk, putR, keysD, hk], ?_⟩
      show RepL K G A F [d] [u]
      exact .one rd
    | cons p r => cases h1
  | k' :: ks, vs, kvs, h1, h2 => by
    have h1' := h1
    simp only [keysD] at h1
    split at h1
    · rename_i κ' κs e1 e2
      cases kvs with
      | nil => cases h1
      | cons p r =>
        have h1 := Option.some.inj h1
        rw [List.map_cons] at h1 h2
        injection h1 with h3 h4
        cases h2 with
        | @cons d' vs' _ _ r1 r2 =>
          have e := keyD_eqv e1 hk
          by_cases hx : κ' = κ
          · rw [decide_eq_true hx] at e
            simp only [putDk, putDv, e, if_true, putR]
            rw [if_pos (by rw [← h3]; exact hx)]
            exact ⟨h1', .cons rd r2⟩
          · rw [decide_eq_false hx] at e
            obtain ⟨i1, i2⟩ := putR_rep hk rd (by rw [e2, h4]) r2
            simp only [putDk, putDv, e, Bool.false_eq_true, if_false, putR]
            rw [if_neg (by rw [← h3]; exact hx)]
            refine ⟨?_, .cons r1 i2⟩
            simp only [keysD, e1, i1, List.map_cons]
            rw [h3]
    · cases h1
theorem keyD_v {d : D} {v : V} {κ : Key} (r : Rep K G A F d v) (h : keyD d = some κ) : v = kV κ := by
  cases r <;> first | (cases h; rfl) | cases h
/-! tuple keys -/
theorem find_dt {k : D} {κ : NestedKey} (hk : keyN k = some κ) : ∀ {ks vs : List D} {xs : List (NestedKey × Addr × Value)} {us : List V}, keysN ks = some (xs.map (·.1)) → Vals us (xs.map (·.2.2)) → RepL K G A F vs us →
    (∃ d u p, findD k ks vs = some d ∧ atKey xs κ = some p ∧ RelV u p.2 ∧ Rep K G A F d u) ∨ (findD k ks vs = none ∧ atKey xs κ = none)
  | [], vs, xs, us, h1, h2, h3 => by
    cases xs with
    | nil => exact .inr ⟨by cases vs <;> rfl, rfl⟩
    | cons p r => cases h1
  | k' :: ks, vs, xs, us, h1, h2, h3 => by
    simp only [keysN] at h1
    split at h1
    · rename_i κ' κs e1 e2
      cases xs with
      | nil => cases h1
      | cons p r =>
        have h1 := Option.some.inj h1
        rw [List.map_cons] at h1 h2
        injection h1 with h4 h5
        cases h2 with
        | @cons u _ us' _ g1 g2 =>
          cases h3 with
          | @cons d vs' _ _ r1 r2 =>
            have e := keyN_dec e1 hk
            by_cases hx : κ' = κ
            · rw [decide_eq_true hx] at e
              refine .inl ⟨d, u, p.2, by simp [findD, e], ?_, g1, r1⟩
              have : p.1 = κ := by rw [← h4]; exact hx
              simp [atKey, this]
            · rw [decide_eq_false hx] at e
              have ih := find_dt hk (by rw [e2, h5]) g2 r2
              have hv : atKey (p :: r) κ = atKey r κ := by
                have : ¬ p.1 = κ := by rw [← h4]; exact hx
                simp [atKey, this]
              simp only [findD, e, Bool.false_eq_true, if_false]
              rw [hv]
              exact ih
    · cases h1
def putX (κ : NestedKey) (a : Addr) (w : Value) : List (NestedKey × Addr × Value) → List (NestedKey × Addr × Value)
  | p :: r => if p.1 = κ then (p.1, p.2.1, w) :: r else p :: putX κ a w r
  | [] => [(κ, a, w)]
theorem putX_eq (κ : NestedKey) (a : Addr) (w : Value) : ∀ {xs : List (NestedKey × Addr × Value)}, (xs.map (·.1)).Nodup → putX κ a w xs = storedH xs κ a w
  | [], _ => by simp [putX, storedH, atKey]
  | p :: r, nd => by
    obtain ⟨n1, n2⟩ := List.nodup_cons.mp (show (p.1 :: r.map (·.1)).Nodup from nd)
    simp only [putX]
    by_cases h : p.1 = κ
    · rw [if_pos h]
      unfold storedH
      have ha : (atKey (p :: r) κ).isSome = true := by simp [atKey, h]
      rw [if_pos ha, List.map_cons]
      have e1 : putAt κ w p = (p.1, p.2.1, w) := by unfold putAt; rw [if_pos h]
      rw [e1, map_putAt_of_not_mem r κ w (by rw [← h]; exact n1)]
    · rw [if_neg h, putX_eq κ a w n2]
      unfold storedH
      have ha : atKey (p :: r) κ = atKey r κ := by simp [atKey, h]
      rw [ha]
      split
      · rw [List.map_cons]
        have e1 : putAt κ w p = p := by unfold putAt; rw [if_neg h]
        rw [e1]
      · rfl
theorem putX_rep {k d : D} {κ : NestedKey} {a : Addr} {u : V} {w : Value} (hk : keyN k = some κ) (rk : Rep K G A F k (.ref a)) (rd : Rep K G A F d u) (rw' : RelV u w) : ∀ {ks vs : List D} {xs : List (NestedKey × Addr × Value)} {us : List V},
    keysN ks = some (xs.map (·.1)) → RepL K G A F ks (xs.map fun x => V.ref x.2.1) → Vals us (xs.map (·.2.2)) → RepL K G A F vs us →
    keysN (putDk k ks) = some ((putX κ a w xs).map (·.1)) ∧ RepL K G A F (putDk k ks) ((putX κ a w xs).map fun x => V.ref x.2.1) ∧ ∃ us', Vals us' ((putX κ a w xs).map (·.2.2)) ∧ RepL K G A F (putDv k d ks vs) us'
  | [], vs, xs, us, h1, h2, h3, h4 => by
    cases xs with
    | nil =>
      refine ⟨by simp [putDk, putX, keysN, hk], .one rk, [u], .cons rw' .nil, ?_⟩
      cases h3
      cases h4
      exact .one rd
    | cons p r => cases h1
  | k' :: ks, vs, xs, us, h1, h2, h3, h4 => by
    have h1' := h1
    simp only [keysN] at h1
    split at h1
    · rename_i κ' κs e1 e2
      cases xs with
      | nil => cases h1
      | cons p r =>
        have h1 := Option.some.inj h1
        rw [List.map_cons] at h1 h2 h3
        injection h1 with h5 h6
        cases h3 with
        | @cons u' _ us' _ g1 g2 =>
          cases h4 with
          | @cons d' vs' _ _ r1 r2 =>
            cases h2 with
            | cons c1 c2 =>
              have e := keyN_dec e1 hk
              by_cases hx : κ' = κ
              · rw [decide_eq_true hx] at e
                simp only [putDk, putDv, e, if_true, putX]
                rw [if_pos (by rw [← h5]; exact hx)]
                exact ⟨h1', .cons c1 c2, u :: us', .cons rw' g2, .cons rd r2⟩
              · rw [decide_eq_false hx] at e
                obtain ⟨i1, i2, us2, i3, i4⟩ := putX_rep hk rk rd rw' (by rw [e2, h6]) c2 g2 r2
                simp only [putDk, putDv, e, Bool.false_eq_true, if_false, putX]
                rw [if_neg (by rw [← h5]; exact hx)]
                refine ⟨?_, .cons c1 i2, u' :: us2, .cons g1 i3, .cons r1 i4⟩
                simp only [keysN, e1, i1, List.map_cons]
                rw [h5]
    · cases h1
end
end FT
namespace FT
open PySem PySem.Spec PyProof.Rows L2
/-! ### dicts in the heap -/
structure GP (G : Glob) (X : Cx) : Prop where
  p : G.P = X.prog
  w : G.w = X.w
section
variable {X : Cx} {G : Glob} {pins : List (Addr × Obj)} {σ : L2.St} {H : Hp} {s : Shared} {A : List Addr} {F : Hp} {S : Sh} {Ls : List Addr} {p : Addr} {t : Bool} {ks vs : List D} {k d : D} {y : V} {u : Value}
mutual
theorem rep_nested (I : Inv X pins σ H s) (sm : Same F H) : ∀ (d : D) (v : V) (κ : NestedKey) (u : Value), Rep X.K G A F d v → keyN d = some κ → RelV v u → NestedIs s.heap κ u
  | .non, _, κ, u, r, h, ru => by cases r; cases h; cases ru; exact .none
  | .bl b, _, κ, u, r, h, ru => by cases r; cases h; cases ru; exact .bool rfl
  | .int i, _, κ, u, r, h, ru => by cases r; cases h; obtain ⟨t, rfl⟩ := ru; exact .int _ _
  | .str x, _, κ, u, r, h, ru => by cases r; cases h; obtain ⟨t, rfl⟩ := ru; exact .text _ _
  | .tup xs, v, κ, u, r, h, ru => by
    simp only [keyN] at h
    cases hx : keysN xs with
    | none => rw [hx] at h; cases h
    | some κs =>
      rw [hx] at h
      cases h
      cases r with
      | @tup _ a vs h1 h2 =>
        obtain ⟨its, rv, pl, hz⟩ := I.tuple (SqT.mono sm h1)
        obtain ⟨o, ho, hc, n, hd⟩ := pl
        cases ru
        exact .tup ho hc hd (by simpa using rep_nesteds I sm xs vs κs its h2 hx rv)
  | .lst _, _, _, _, _, h, _ => by cases h
  | .ref _, _, _, _, _, h, _ => by cases h
  | .fn _, _, _, _, _, h, _ => by cases h
  | .exc _, _, _, _, _, h, _ => by cases h
  | .scr _, _, _, _, _, h, _ => by cases h
  | .dic _ _ _, _, _, _, _, h, _ => by cases h
theorem rep_nesteds (I : Inv X pins σ H s) (sm : Same F H) : ∀ (ds : List D) (vs : List V) (κs : List NestedKey) (us : List Value), RepL X.K G A F ds vs → keysN ds = some κs → Vals vs us → NestedAll s.heap κs us
  | [], _, κs, us, r, h, ru => by cases r; cases h; cases ru; exact .nil
  | d :: ds, _, κs, us, r, h, ru => by
    cases r with
    | cons r1 r2 =>
      cases ru with
      | cons q1 q2 =>
        simp only [keysN] at h
        split at h
        · rename_i κ κs' e1 e2
          cases h
          exact .cons (rep_nested I sm d _ κ _ r1 e1 q1) (rep_nesteds I sm ds _ κs' _ r2 e2 q2)
        · cases h
end
theorem keys_are (I : Inv X pins σ H s) (sm : Same F H) : ∀ {ks : List D} {xs : List (NestedKey × Addr × Value)}, keysN ks = some (xs.map (·.1)) → RepL X.K G A F ks (xs.map fun x => V.ref x.2.1) → ∀ x ∈ xs, NestedIs s.heap x.1 (.ref x.2.1)
  | [], xs, h1, h2 => by
    cases xs with
    | nil => intro x hx; cases hx
    | cons p r => cases h1
  | k :: ks, xs, h1, h2 => by
    simp only [keysN] at h1
    split at h1
    · rename_i κ κs e1 e2
      cases xs with
      | nil => cases h1
      | cons p r =>
        have h1 := Option.some.inj h1
        rw [List.map_cons] at h1 h2
        injection h1 with h3 h4
        cases h2 with
        | cons r1 r2 =>
          intro x hx
          rcases List.mem_cons.mp hx with e | e
          · subst e
            exact rep_nested I sm k _ _ _ r1 (by rw [e1, h3]) rfl
          · exact keys_are I sm (by rw [e2, h4]) r2 x e
    · cases h1
theorem dt_of_h (hG : GP G X) (I : Inv X pins σ H s) (sm : Same F H) {xs : List (NestedKey × Addr × Value)} (h1 : H p = some (DtO G.P G.w p xs)) (h2 : keysN ks = some (xs.map (·.1))) (h3 : RepL X.K G A F ks (xs.map fun x => V.ref x.2.1)) :
    s.heap.DictOfH (nestedKind X.prog X.w) p xs ∧ xs.length ≤ sizeLine ∧ (p == sysModules) = false ∧ (∀ x ∈ xs, x.1.depth ≤ 8) ∧ (xs.map (·.1)).Nodup := by
  obtain ⟨⟨o, es, ep, ho, hex, hd, hes, hnd, hlen, hsys, hdep⟩, _, _⟩ := I.hok p _ h1
  rw [hG.p, hG.w] at hes
  exact ⟨⟨o, es, ep, ho, hex, hd, hes, fun x hx => ⟨keys_are I sm h2 h3 x hx, hdep x hx⟩, hnd⟩, hlen, hsys, hdep, hnd⟩
theorem keyOkK (h : keyOk false k = true) : ∃ κ, keyD k = some κ := Option.isSome_iff_exists.mp h
theorem keyOkT (h : keyOk true k = true) : ∃ κ xs, k = .tup xs ∧ keyN k = some κ ∧ κ.depth ≤ 8 := by
  cases k with
  | tup xs =>
    have h : (match keyN (.tup xs) with
      | some k => decide (k.depth ≤ 8)
      | none => false) = true := h
    cases e : keyN (.tup xs) with
    | none => rw [e] at h; cases h
    | some κ =>
      rw [e] at h
      exact ⟨κ, xs, rfl, rfl, of_decide_eq_true h⟩
  | _ => cases h
theorem tup_ref {ds : List D} {v : V} (r : Rep X.K G A F (.tup ds) v) (ru : RelV v u) : ∃ b, v = .ref b ∧ u = .ref b := by
  cases r with
  | tup _ _ => cases ru; exact ⟨_, rfl, rfl⟩
/-- d[k] -/
theorem dic_getItem (hu : X.A.units + 9 < cLine) (hG : GP G X) (I : Inv X pins σ H s) (sm : Same F H) (m : MoR X.K G A F H p (.dic t ks vs)) (rk : Rep X.K G A F k y) (ok : keyOk t k = true) (ry : RelV y u) (hf : findD k ks vs = some d)
    {Q : Value → Shared → Prop} {E : Value → Shared → Prop} (h : ∀ v w' s', Rep X.K G A F d v → Inv X pins σ H s' → RelV v w' → Q w' s') : wpAny (model X.prog X.w) X.A (getItem (.ref p) u) Q E s := by
  cases m with
  | dicK h1 h2 h3 h4 =>
    obtain ⟨κ, hκ⟩ := keyOkK ok
    subst h3
    rcases find_dk hκ h2 h4 with ⟨d', v, e1, e2, r⟩ | ⟨e1, _⟩
    · rw [hf] at e1
      cases e1
      have ey := keyD_v rk hκ
      subst ey
      have g := DGet.k (k := κ) h1
      rw [e2] at g
      exact d_getItem (by omega) I g ry fun w' s' I' rw' => h v w' s' r I' rw'
    · rw [hf] at e1; cases e1
  | dicT h1 h2 h3 h4 h5 h6 =>
    obtain ⟨κ, xs', rfl, hκ, hd8⟩ := keyOkT ok
    subst h3
    obtain ⟨hm, hlen, hsys, hdep, hnd⟩ := dt_of_h hG I sm h1 h2 h4
    rcases find_dt hκ h2 h5 h6 with ⟨d', v, q, e1, e2, rq, r⟩ | ⟨e1, _⟩
    · rw [hf] at e1
      cases e1
      obtain ⟨b, ev, eu⟩ := tup_ref rk ry
      subst eu
      have hk : NestedIs s.heap κ (.ref b) := rep_nested I sm _ _ κ _ rk hκ ry
      exact wpAny_getItem_heap (show (nestedKind X.prog X.w).room X.A.in1 by show X.A.in1.units + 8 < cLine; rw [Around.in1_units]; omega) ⟨hk, hd8⟩ hm e2 (h v q.2 _ r (I.tok _) rq)
    · rw [hf] at e1; cases e1
/-- k in d -/
theorem dic_in (hu : X.A.units + 9 < cLine) (hG : GP G X) (I : Inv X pins σ H s) (sm : Same F H) (m : MoR X.K G A F H p (.dic t ks vs)) (rk : Rep X.K G A F k y) (ok : keyOk t k = true) (ry : RelV y u) (neg : Bool)
    {Q : Value → Shared → Prop} {E : Value → Shared → Prop} (h : ∀ s', Inv X pins σ H s' → Q (.bool ((findD k ks vs).isSome != neg)) s') : wpAny (model X.prog X.w) X.A (compareOp (if neg then .NotIn else .In) u (.ref p)) Q E s := by
  cases m with
  | dicK h1 h2 h3 h4 =>
    obtain ⟨κ, hκ⟩ := keyOkK ok
    subst h3
    have e := any_dk hκ h2 h4
    have ey := keyD_v rk hκ
    subst ey
    have g := DGet.k (k := κ) h1
    rw [e] at h
    cases neg with
    | true => exact d_notIn (by omega) I g ry fun s' I' => by have := h s' I'; simpa using this
    | false => exact d_in (by omega) I g ry fun s' I' => by have := h s' I'; simpa using this
  | @dicT _ _ xs _ us h1 h2 h3 h4 h5 h6 =>
    obtain ⟨κ, xs', rfl, hκ, hd8⟩ := keyOkT ok
    subst h3
    obtain ⟨hm, hlen, hsys, hdep, hnd⟩ := dt_of_h hG I sm h1 h2 h4
    obtain ⟨b, ev, eu⟩ := tup_ref rk ry
    subst eu
    have hk : NestedIs s.heap κ (.ref b) := rep_nested I sm _ _ κ _ rk hκ ry
    have e : (findD (.tup xs') ks vs).isSome = (valueAt (pairsH xs) κ).isSome := by
      rw [valueAt_pairsH, Option.isSome_map]
      rcases find_dt hκ h2 h5 h6 with ⟨d', v, q, e1, e2, _, _⟩ | ⟨e1, e2⟩
      · rw [e1, e2]; rfl
      · rw [e1, e2]; rfl
    have hr : (nestedKind X.prog X.w).room X.A.in1 := by show X.A.in1.units + 8 < cLine; rw [Around.in1_units]; omega
    cases neg with
    | true => exact notIn_keyed hr ⟨hk, hd8⟩ hsys ⟨_, hm, rfl⟩ (by have := h _ (I.tok (s.toks + (nestedKind X.prog X.w).draws κ)); rw [← e]; simpa using this)
    | false => exact in_keyed hr ⟨hk, hd8⟩ hsys ⟨_, hm, rfl⟩ (by have := h _ (I.tok (s.toks + (nestedKind X.prog X.w).draws κ)); rw [← e]; simpa using this)
/-- d.get(k, z) -/
theorem dic_get2 {z : D} {x : V} {r : Value} (hu : X.A.units + 9 < cLine) (hG : GP G X) (I : Inv X pins σ H s) (sm : Same F H) (m : MoR X.K G A F H p (.dic t ks vs)) (rk : Rep X.K G A F k y) (ok : keyOk t k = true) (ry : RelV y u) (rz : Rep X.K G A F z x) (rr : RelV x r)
    {Q : Value → Shared → Prop} {E : Value → Shared → Prop} (h : ∀ v w' s', Rep X.K G A F ((findD k ks vs).getD z) v → Inv X pins σ H s' → RelV v w' → Q w' s') : wpAny (model X.prog X.w) X.A (call (.builtin "dict.get") [.ref p, u, r]) Q E s := by
  cases m with
  | dicK h1 h2 h3 h4 =>
    obtain ⟨κ, hκ⟩ := keyOkK ok
    subst h3
    have ey := keyD_v rk hκ
    subst ey
    have g := DGet.k (k := κ) h1
    refine d_get2 (by omega) I g ry rr fun w' s' I' rw' => ?_
    rcases find_dk hκ h2 h4 with ⟨d', v, e1, e2, q⟩ | ⟨e1, e2⟩
    · rw [e1] at h; rw [e2] at rw'
      exact h v w' s' q I' rw'
    · rw [e1] at h; rw [e2] at rw'
      exact h x w' s' rz I' rw'
  | dicT h1 h2 h3 h4 h5 h6 =>
    obtain ⟨κ, xs', rfl, hκ, hd8⟩ := keyOkT ok
    subst h3
    obtain ⟨hm, hlen, hsys, hdep, hnd⟩ := dt_of_h hG I sm h1 h2 h4
    obtain ⟨b, ev, eu⟩ := tup_ref rk ry
    subst eu
    have hk : NestedIs s.heap κ (.ref b) := rep_nested I sm _ _ κ _ rk hκ ry
    have hr : (nestedKind X.prog X.w).room X.A.in1 := by show X.A.in1.units + 8 < cLine; rw [Around.in1_units]; omega
    refine getOr_keyed hr ⟨hk, hd8⟩ hsys ⟨_, hm, rfl⟩ ?_
    rw [valueAt_pairsH]
    rcases find_dt hκ h2 h5 h6 with ⟨d', v, q, e1, e2, rq, rd⟩ | ⟨e1, e2⟩
    · rw [e1] at h; rw [e2]
      exact h v _ _ rd (I.tok _) rq
    · rw [e1] at h; rw [e2]
      exact h x _ _ rz (I.tok _) rr
theorem putDk_len (k : D) : ∀ ks : List D, (putDk k ks).length ≤ ks.length + 1
  | [] => by simp [putDk]
  | k' :: ks => by
    simp only [putDk]
    split
    · simp
    · have := putDk_len k ks
      simp; omega
theorem keysD_nodup : ∀ {ks : List D} {κs : List Key}, keysD ks = some κs → ks.length = κs.length
  | [], κs, h => by cases h; rfl
  | k :: ks, κs, h => by
    simp only [keysD] at h
    split at h
    · rename_i a b e1 e2
      cases h
      simp [keysD_nodup e2]
    · cases h
theorem keysN_len : ∀ {ks : List D} {κs : List NestedKey}, keysN ks = some κs → ks.length = κs.length
  | [], κs, h => by cases h; rfl
  | k :: ks, κs, h => by
    simp only [keysN] at h
    split at h
    · rename_i a b e1 e2
      cases h
      simp [keysN_len e2]
    · cases h
theorem kv_keys : ∀ {kvs : List (Key × V)} {ws : List (Key × Value)}, KV kvs ws → kvs.map (·.1) = ws.map (·.1)
  | _, _, .nil => rfl
  | _, _, .cons r t => by rw [List.map_cons, List.map_cons, r.1, kv_keys t]
/-- d[k] = v -/
theorem dic_set {x : V} {r : Value} (hu : X.A.units + 9 < cLine) (hG : GP G X) (I : Inv X pins σ H s) (sm : Same F H) (m : MoR X.K G A F H p (.dic t ks vs)) (rk : Rep X.K G A F k y) (ok : keyOk t k = true) (hl : ks.length < lim) (ry : RelV y u) (rd : Rep X.K G A F d x) (rr : RelV x r)
    {Q : Unit → Shared → Prop} {E : Value → Shared → Prop} (h : ∀ o s', MoR X.K G A F (upd H p o) p (.dic t (putDk k ks) (putDv k d ks vs)) → Inv X pins σ (upd H p o) s' → Q () s') : wpAny (model X.prog X.w) X.A (setItem (.ref p) u r) Q E s := by
  cases m with
  | @dicK _ _ kvs _ h1 h2 h3 h4 =>
    obtain ⟨κ, hκ⟩ := keyOkK ok
    subst h3
    have ey := keyD_v rk hκ
    subst ey
    have hle : kvs.length = ks.length := by
      have := keysD_nodup h2
      rw [List.length_map] at this
      exact this.symm
    have g := DPut.k (k := κ) (v := x) h1 (by rw [hle]; exact Nat.lt_of_lt_of_le hl (by rw [sizeLine_eq]; decide))
    refine d_setItem (by omega) I g ry rr fun s' I' => ?_
    have nd : (kvs.map (·.1)).Nodup := by
      obtain ⟨_, _, ws, rkv, o, es, ep, _, _, _, _, _, hn⟩ := dk_of I.hok h1
      rw [kv_keys rkv]
      exact hn
    obtain ⟨q1, q2⟩ := putR_rep hκ rd h2 h4
    rw [putR_eq κ x nd] at q1 q2
    exact h _ s' (.dicK upd_same q1 rfl q2) I'
  | @dicT _ _ xs _ us h1 h2 h3 h4 h5 h6 =>
    obtain ⟨κ, xs', rfl, hκ, hd8⟩ := keyOkT ok
    subst h3
    obtain ⟨hm, hlen, hsys, hdep, hnd⟩ := dt_of_h hG I sm h1 h2 h4
    obtain ⟨b, ev, eu⟩ := tup_ref rk ry
    subst eu ev
    have hk : NestedIs s.heap κ (.ref b) := rep_nested I sm _ _ κ _ rk hκ ry
    have hr : (nestedKind X.prog X.w).room X.A.in1 := by show X.A.in1.units + 8 < cLine; rw [Around.in1_units]; omega
    have hle : xs.length = ks.length := by
      have := keysN_len h2
      rw [List.length_map] at this
      exact this.symm
    obtain ⟨q1, q2, us', q3, q4⟩ := putX_rep (w := r) hκ rk rd rr h2 h4 h5 h6
    rw [putX_eq κ b r hnd] at q1 q2 q3
    have hl2 : (storedH xs κ b r).length ≤ sizeLine := by
      have e1 := keysN_len q1
      have e2 := putDk_len (.tup xs') ks
      rw [List.length_map] at e1
      have h3 : lim = 1000000 := rfl
      rw [sizeLine_eq]
      omega
    refine wpAny_setItem_heap (hsz := hlen) hr ⟨hk, hd8⟩ hm fun h' hm' hs => ?_
    obtain ⟨o', es', ep', ho', hex', hd', hes', his', hnd'⟩ := hm'
    have hdep' : ∀ x ∈ storedH xs κ b r, x.1.depth ≤ 8 := fun x hx => (his' x hx).2
    refine h (DtO G.P G.w p (storedH xs κ b r)) _ (.dicT upd_same q1 rfl q2 q3 q4) (d_write I (by rw [h1]; exact True.intro) hs ⟨_, ho'⟩ ?_)
    refine ⟨⟨o', es', ep', ho', hex', hd', by rw [hG.p, hG.w]; exact hes', hnd', hl2, hsys, hdep'⟩, ⟨o', ho'⟩, fun g1 g2 ⟨o2, es2, ep2, z1, z2⟩ st => ⟨o2, es2, ep2, st _ z1, z2⟩⟩
end
end FT
namespace FT
open PySem PySem.Spec PyProof.Rows L2
/-! ### where a thing that changes is held -/
def HdOk (A : List Addr) (σ : L2.St) (env : Env) : Hd → Addr → Prop
  | .sl i, p => σ[i]? = some (some (.ref p)) ∧ ∃ m, env[i]? = some (.own m)
  | .bx n, p => A[n]? = some p
theorem HdOk.mono {A A' : List Addr} {σ : L2.St} {env : Env} {h : Hd} {p : Addr} (pr : A <+: A') (x : HdOk A σ env h p) : HdOk A' σ env h p := by
  cases h with
  | sl i => exact x
  | bx n => exact pre_get pr x
abbrev RelH (σ : L2.St) (env : Env) : List Addr → Hp → Hp → List Addr → Hd → V → Prop := fun A _ _ _ h v => ∃ p, v = .ref p ∧ HdOk A σ env h p
def tHd (K : PySem.W.Frag) (G : Glob) (W : WX) (f : Env → M Hd) : TE := fun σ H Q => ∃ A F S Ls env Le, Full K G A F H S Ls σ env Le ∧ PG K G W (RelH σ env) σ A F H Ls Q (f env S)
def HE (X : Cx) (G : Glob) (Φ : Fns) (W : WX) (e : Expr) (p : Pl) : Prop := PE X e (tHd X.K G W (evalH Φ p))
section
variable {K : PySem.W.Frag} {G : Glob} {W : WX} {A A' : List Addr} {F F' H H' : Hp} {S S' : Sh} {Ls Ls' Le Le' : List Addr} {σ : L2.St} {env : Env} {p : Addr} {o : HO} {h : Hd} {m m' : MO}
theorem look_ok (hF : Full K G A F H S Ls σ env Le) (x : HdOk A σ env h p) (e : look env S h = some m) : MoR K G A F H p m ∧ p ∈ Ls ++ Le := by
  cases h with
  | sl i =>
    obtain ⟨x1, m0, x2⟩ := x
    have e : (match env[i]? with
      | some (.own m) => some m
      | _ => none) = some m := e
    rw [x2] at e
    cases e
    obtain ⟨p2, h1, h2, h3⟩ := hF.e.own_get x2
    rw [x1] at h1
    cases h1
    exact ⟨h2, List.mem_append_right _ h3⟩
  | bx n =>
    have e : (match S[n]? with
      | some (.box m) => some m
      | _ => none) = some m := e
    cases hS : S[n]? with
    | none => rw [hS] at e; cases e
    | some ro =>
      rw [hS] at e
      cases ro with
      | box m0 =>
        cases e
        have mr := hF.w.st.box_get x hS
        refine ⟨mr, List.mem_append_left _ ?_⟩
        have pin : ∀ {as : List Addr} {S : Sh} {Ls : List Addr} {n : Nat}, SsR K G A F H as S Ls → as[n]? = some p → S[n]? = some (.box m) → p ∈ Ls := by
          intro as S Ls n r
          induction r generalizing n with
          | nil => intro e; simp at e
          | cons r rs ih =>
            intro e1 e2
            cases n with
            | zero =>
              simp at e1 e2
              subst e1 e2
              cases r with
              | box _ => exact List.mem_append_left _ List.mem_cons_self
            | succ n => exact List.mem_append_right _ (ih (by simpa using e1) (by simpa using e2))
        exact pin hF.w.st x hS
      | _ => cases e
theorem put_ok (hF : Full K G A F H S Ls σ env Le) (x : HdOk A σ env h p) (e : look env S h = some m) (k : MoR K G A F (upd H p o) p m') : Full K G A F (upd H p o) (putH env S h m').2 Ls σ (putH env S h m').1 Le := by
  cases h with
  | sl i =>
    obtain ⟨x1, m0, x2⟩ := x
    exact hF.turn x2 x1 k
  | bx n =>
    have e : (match S[n]? with
      | some (.box m) => some m
      | _ => none) = some m := e
    cases hS : S[n]? with
    | none => rw [hS] at e; cases e
    | some ro =>
      rw [hS] at e
      cases ro with
      | box m0 =>
        obtain ⟨h1, h2⟩ := hF.w.st.set (o := o) (m := m') hF.w.nd x ⟨_, hS⟩ k
        have fp : F p = none := hF.w.out p h2
        have nle : p ∉ Le := fun z => hF.dj p z h2
        refine ⟨⟨fun b u z => ?_, h1, hF.w.nd, hF.w.out⟩, hF.e.at (List.prefix_refl _) (Same.refl _) fun b hb u z => ?_, hF.nd, hF.dj, hF.out⟩
        · rw [upd_ne (fun y => by rw [y, fp] at z; cases z)]
          exact hF.w.sub b u z
        · rw [upd_ne (fun y => nle (by rw [← y]; exact hb))]
          exact z
      | _ => cases e
end
section
variable {X : Cx} {G : Glob} {Φ : Fns} {N : Nat} {W : WX}
theorem h_sl {i : Nat} {x : Str} {pos : Pos} (h : PE X (.Name x pos) (tVar i)) : HE X G Φ W (.Name x pos) (.sl i) := pe_imp h fun σ H Q ⟨A, F, S, Ls, env, Le, hF, q⟩ => by
  rw [evalH] at q
  cases e : env[i]? with
  | none => rw [e] at q; exact q.elim
  | some sv =>
    rw [e] at q
    cases sv with
    | own m =>
      obtain ⟨p, h1, h2, h3⟩ := hF.e.own_get e
      exact ⟨.ref p, h1, q (.ref p) A F H Ls hF.w .refl ⟨p, rfl, h1, m, e⟩⟩
    | no => exact q.elim
    | dat d => exact q.elim
theorem h_bx {e : Expr} {x : Ex} (h : DE X G Φ W e x) : HE X G Φ W e (.bx x) := pe_imp h fun σ H Q ⟨A, F, S, Ls, env, Le, hF, q⟩ => by
  rw [evalH] at q
  refine ⟨A, F, S, Ls, env, Le, hF, pg_fin.bind hF q fun d S1 v A1 F1 H1 Ls1 hF1 e1 r1 q1 => ?_⟩
  cases r1 with
  | @ref n p ep => exact q1 (.ref p) A1 F1 H1 Ls1 hF1.w .refl ⟨p, rfl, ep⟩
  | _ => exact q1.elim
/-- len(xs) -/
theorem d_hlen {a : Expr} {pl : Pl} {p pos : Pos} (hg : Gl X "len") (hm : X.mg "len" = none) (ha : HE X G Φ W a pl) (h1 : starEach [a] X.env = [(false, eval a X.env)] := by rfl) : DE X G Φ W (.Call (.Name "len" p) [a] [] pos) (.hlen pl) :=
  pe_imp (pe_callB (x := "len") (p := p) (pos := pos) call_len_seq hg hm boot_len (pa_cons ha pa_nil h1) (by decide) (by decide) h1 rfl) fun σ H Q ⟨A, F, S, Ls, env, Le, hF, q⟩ => by
  rw [evalE] at q
  refine ⟨A, F, S, Ls, env, Le, hF, pg_fin.bind hF q fun h S1 v A1 F1 H1 Ls1 hF1 e1 ⟨p, ev, ho⟩ q1 => ?_⟩
  cases hl : look env S1 h with
  | none => rw [hl] at q1; exact q1.elim
  | some m =>
    rw [hl] at q1
    obtain ⟨mr, _⟩ := look_ok hF1 ho hl
    cases mr with
    | @lst ds vs hp hr =>
      refine ⟨p, vs, by rw [ev], .inl (.of hp), ?_⟩
      rw [← hr.length]
      exact q1 _ A1 F1 H1 Ls1 hF1.w .refl (.int _)
    | _ => exact q1.elim
/-- xs == [], xs != [] -/
def rEqNil (K : PySem.W.Frag) (neg : Bool) : R2 := fun x y H Q => ∃ p b xs, x = .ref p ∧ y = .ref b ∧ SqL K H p xs ∧ SqL K H b [] ∧ Q (.bl (xs.isEmpty != neg)) H
theorem rcne_of {prog : Program} {w : World} {A : Around} {s : Shared} {E : Value → Shared → Prop} {Q : Value → Shared → Prop} {a b : Value} {k : Bool} (h : SeqAt.RcNeAt A s a b k) (hq : Q (.bool k) s) : wpAny (model prog w) A (compareOp .NotEq a b) Q E s := h prog w E Q hq
theorem op_eqNil (hu : X.A.units < cLine) (neg : Bool) : OpR X (compareOp (if neg then .NotEq else .Eq)) (rEqNil X.K neg) := by
  intro pins s σ H x y v u Q I rx ry h
  obtain ⟨p, b, xs, rfl, rfl, h1, h2, q⟩ := h
  cases rx
  cases ry
  obtain ⟨its, rv, hl, hz⟩ := I.list h1
  obtain ⟨its2, rv2, hl2, hz2⟩ := I.list h2
  cases rv2
  cases rv with
  | nil =>
    cases neg with
    | true => exact rcne_of (SeqAt.RcNeAt.lists (e := fun _ => true) hl.isList hl2.isList rfl hu (fun j h1 _ => absurd h1 (by simp))) ⟨.bl _, H, I, rfl, q⟩
    | false => exact SeqAt.eq_listAt (e := fun _ => true) hl.isList hl2.isList rfl hu (fun j h1 _ => absurd h1 (by simp)) ⟨.bl _, H, I, rfl, q⟩
  | cons r t =>
    cases neg with
    | true => exact rcne_of (SeqAt.RcNeAt.lists_lengths hl.isList hl2.isList (by simp) hu) ⟨.bl _, H, I, rfl, q⟩
    | false => exact SeqAt.eq_list_lengthsAt hl.isList hl2.isList (by simp) hu ⟨.bl _, H, I, rfl, q⟩
theorem d_hemp (neg : Bool) {a : Expr} {pl : Pl} {op : CmpOp} {lpos pos : Pos} (hop : op = if neg then .NotEq else .Eq) (hu : X.A.units < cLine) (ha : HE X G Φ W a pl) (hm : behindInMarks op (.List [] lpos) = false := by first | exact nomark _ | rfl) :
    DE X G Φ W (.Compare a [op] [.List [] lpos] pos) (.hemp neg pl) := by
  subst hop
  refine pe_imp (pe_cmpR (op_eqNil hu neg) ha (pe_lst pa_nil) hm) fun σ H Q ⟨A, F, S, Ls, env, Le, hF, q⟩ => ?_
  rw [evalE] at q
  refine ⟨A, F, S, Ls, env, Le, hF, pg_fin.bind hF q fun h S1 v A1 F1 H1 Ls1 hF1 e1 ⟨p, ev, ho⟩ q1 => ?_⟩
  refine ⟨Nat.zero_le _, fun b nb => ?_⟩
  cases hl : look env S1 h with
  | none => rw [hl] at q1; exact q1.elim
  | some m =>
    rw [hl] at q1
    obtain ⟨mr, _⟩ := look_ok hF1 ho hl
    cases mr with
    | @lst ds vs hp hr =>
      refine ⟨p, b, vs, ev, rfl, .of ?_, .of upd_same, ?_⟩
      · rw [upd_ne (ne_of_none hp nb)]
        exact hp
      · have e0 : vs.isEmpty = ds.isEmpty := by
          have := hr.length
          cases ds <;> cases vs <;> simp_all
        rw [e0]
        exact q1 _ A1 (upd F1 b (.lst [])) _ Ls1 (hF1.w.lay nb) (.lay hF1.w nb) (.bl _)
    | _ => exact q1.elim
/-- xs[i] -/
theorem d_hix {a b : Expr} {pl : Pl} {y : Ex} {pos : Pos} (ha : HE X G Φ W a pl) (hb : DE X G Φ W b y) (hs : PlainIx b) : DE X G Φ W (.Subscript a b pos) (.hix pl y) := pe_imp (pe_ix ix_seq ha hb hs) fun σ H Q ⟨A, F, S, Ls, env, Le, hF, q⟩ => by
  rw [evalE] at q
  refine ⟨A, F, S, Ls, env, Le, hF, pg_fin.bind hF q fun h S1 v A1 F1 H1 Ls1 hF1 e1 ⟨p, ev, ho⟩ q1 => ?_⟩
  refine ⟨A1, F1, S1, Ls1, env, Le, hF1, pg_fin.bind hF1 q1 fun d2 S2 v2 A2 F2 H2 Ls2 hF2 e2 r2 q2 => ?_⟩
  cases hl : look env S2 h with
  | none => rw [hl] at q2; exact q2.elim
  | some m =>
    rw [hl] at q2
    obtain ⟨mr, _⟩ := look_ok hF2 (ho.mono e2.pre) hl
    have q2 : PG X.K G W (RelD X.K G) σ A2 F2 H2 Ls2 Q (lift (ixM m d2) S2) := q2
    cases mr with
    | @lst ds vs hp hr =>
      cases r2 with
      | int i =>
        have q2 : PG X.K G W (RelD X.K G) σ A2 F2 H2 Ls2 Q (lift (L2.atI ds i) S2) := q2
        cases hd : L2.atI ds i with
        | none => rw [hd] at q2; exact q2.elim
        | some z =>
          rw [hd] at q2
          obtain ⟨v3, hv, rv⟩ := hr.atI hd
          exact .inl ⟨p, _, i, v3, ev, rfl, .of hp, hv, pg_ok hF2.w q2 rv⟩
      | _ => exact q2.elim
    | _ => exact q2.elim
theorem mor_typeIs (hG : GP G X) {pins : List (Addr × Obj)} {σ : L2.St} {H : Hp} {s : Shared} {A : List Addr} {F : Hp} {p : Addr} {t : Bool} {ks vs : List D} (I : Inv X pins σ H s) (m : MoR X.K G A F H p (.dic t ks vs)) :
    s.TypeIs (.ref p) "dict" ∧ ∀ a, Value.ref p = .ref a → ∃ ob, s.heap.get? a = some ob ∧ ob.dict = none := by
  cases m with
  | dicK h1 h2 h3 h4 => exact ⟨dict_typeIs I (DGet.k (k := .inl 0) h1), dict_noDict I (DGet.k (k := .inl 0) h1)⟩
  | dicT h1 h2 h3 h4 h5 h6 =>
    obtain ⟨⟨o, es, ep, ho, hex, hd, hes, hnd, hlen, hsys, hdep⟩, _, _⟩ := I.hok p _ h1
    exact ⟨⟨o, ho, hex.1⟩, fun a e => by cases e; exact ⟨o, ho, hex.2.1⟩⟩
/-- d[k] -/
theorem d_hdx {a b : Expr} {pl : Pl} {y : Ex} {pos : Pos} (hG : GP G X) (hu : X.A.units + 9 < cLine) (ha : HE X G Φ W a pl) (hb : DE X G Φ W b y) (hs : NoSl b) : DE X G Φ W (.Subscript a b pos) (.hdx pl y) := by
  refine ⟨fun pins s σ H Q I ⟨A, F, S, Ls, env, Le, hF, q⟩ => ?_⟩
  rw [evalE] at q
  refine subD_of PySem.F.slot_dict_getitem.lookup hs (thn (ha.run pins s σ H (fun v H1 => ∃ h S1 A1 F1 Ls1, Full X.K G A1 F1 H1 S1 Ls1 σ env Le ∧ (∃ p, v = .ref p ∧ HdOk A1 σ env h p) ∧ PG X.K G W (RelD X.K G) σ A1 F1 H1 Ls1 Q ((evalE Φ y env S1).bind fun d => fun S2 => lift ((look env S2 h).bind fun m => dxM m d) S2)) I
    ⟨A, F, S, Ls, env, Le, hF, pg_fin.bind hF q fun h S1 v A1 F1 H1 Ls1 hF1 e1 r1 q1 => ⟨h, S1, A1, F1, Ls1, hF1, r1, q1⟩⟩) fun u s1 ⟨v, H1, I1, ru, h, S1, A1, F1, Ls1, hF1, ⟨p, ev, ho⟩, q1⟩ => ?_)
  subst ev
  obtain rfl : u = Value.ref p := ru
  refine thn (hb.run pins s1 σ H1 (fun v2 H2 => ∃ d2 S2 A2 F2 Ls2, Full X.K G A2 F2 H2 S2 Ls2 σ env Le ∧ A1 <+: A2 ∧ Rep X.K G A2 F2 d2 v2 ∧ PG X.K G W (RelD X.K G) σ A2 F2 H2 Ls2 Q (lift ((look env S2 h).bind fun m => dxM m d2) S2)) I1
    ⟨A1, F1, S1, Ls1, env, Le, hF1, pg_fin.bind hF1 q1 fun d2 S2 v2 A2 F2 H2 Ls2 hF2 e2 r2 q2 => ⟨d2, S2, A2, F2, Ls2, hF2, e2.pre, r2, q2⟩⟩) fun iv s2 ⟨v2, H2, I2, r2, d2, S2, A2, F2, Ls2, hF2, pr, rd2, q2⟩ => ?_
  cases hl : look env S2 h with
  | none => rw [hl] at q2; exact q2.elim
  | some m =>
    rw [hl] at q2
    obtain ⟨mr, _⟩ := look_ok hF2 (ho.mono pr) hl
    cases m with
    | lst ds => exact q2.elim
    | dic t ks vs =>
      have q2 : PG X.K G W (RelD X.K G) σ A2 F2 H2 Ls2 Q (lift (if keyOk t d2 then findD d2 ks vs else none) S2) := q2
      by_cases hk : keyOk t d2 = true
      · rw [if_pos hk] at q2
        cases hf : findD d2 ks vs with
        | none => rw [hf] at q2; exact q2.elim
        | some z =>
          rw [hf] at q2
          exact ⟨(mor_typeIs hG I2 mr).1, dic_getItem hu hG I2 hF2.w.sub mr rd2 hk r2 hf fun v3 w' s' r3 I3 rw' => ⟨v3, H2, I3, rw', pg_ok hF2.w q2 r3⟩⟩
      · rw [if_neg hk] at q2
        exact q2.elim
/-- k in d, k not in d -/
theorem d_hin (neg : Bool) {a b : Expr} {pl : Pl} {x : Ex} {op : CmpOp} {pos : Pos} (hop : op = if neg then .NotIn else .In) (hG : GP G X) (hu : X.A.units + 9 < cLine) (ha : DE X G Φ W a x) (hb : HE X G Φ W b pl) (hm : behindInMarks op b = false := by rfl) : DE X G Φ W (.Compare a [op] [b] pos) (.hin neg x pl) := by
  subst hop
  refine pe_cmp ⟨fun pins s σ H Q I ⟨A, F, S, Ls, env, Le, hF, q⟩ => ?_⟩ hm
  rw [evalE] at q
  refine thn (ha.run pins s σ H (fun v H1 => ∃ d S1 A1 F1 Ls1, Full X.K G A1 F1 H1 S1 Ls1 σ env Le ∧ Rep X.K G A1 F1 d v ∧ PG X.K G W (RelD X.K G) σ A1 F1 H1 Ls1 Q ((evalH Φ pl env S1).bind fun h => fun S2 => lift ((look env S2 h).bind fun m => inM neg m d) S2)) I
    ⟨A, F, S, Ls, env, Le, hF, pg_fin.bind hF q fun d S1 v A1 F1 H1 Ls1 hF1 e1 r1 q1 => ⟨d, S1, A1, F1, Ls1, hF1, r1, q1⟩⟩) fun u s1 ⟨v, H1, I1, ru, d, S1, A1, F1, Ls1, hF1, r1, q1⟩ => ?_
  refine thn (hb.run pins s1 σ H1 (fun v2 H2 => ∃ h S2 A2 F2 Ls2, Full X.K G A2 F2 H2 S2 Ls2 σ env Le ∧ (∃ p, v2 = .ref p ∧ HdOk A2 σ env h p) ∧ Rep X.K G A2 F2 d v ∧ PG X.K G W (RelD X.K G) σ A2 F2 H2 Ls2 Q (lift ((look env S2 h).bind fun m => inM neg m d) S2)) I1
    ⟨A1, F1, S1, Ls1, env, Le, hF1, pg_fin.bind hF1 q1 fun h S2 v2 A2 F2 H2 Ls2 hF2 e2 r2 q2 => ⟨h, S2, A2, F2, Ls2, hF2, r2, r1.mono e2.pre e2.fr, q2⟩⟩) fun iv s2 ⟨v2, H2, I2, r2, h, S2, A2, F2, Ls2, hF2, ⟨p, ev, ho⟩, rd, q2⟩ => ?_
  subst ev
  obtain rfl : iv = Value.ref p := r2
  cases hl : look env S2 h with
  | none => rw [hl] at q2; exact q2.elim
  | some m =>
    rw [hl] at q2
    obtain ⟨mr, _⟩ := look_ok hF2 ho hl
    cases m with
    | lst ds => exact q2.elim
    | dic t ks vs =>
      have q2 : PG X.K G W (RelD X.K G) σ A2 F2 H2 Ls2 Q (lift (if keyOk t d then some (.bl ((findD d ks vs).isSome != neg)) else none) S2) := q2
      by_cases hk : keyOk t d = true
      · rw [if_pos hk] at q2
        exact dic_in hu hG I2 hF2.w.sub mr rd hk ru neg fun s' I3 => ⟨.bl _, H2, I3, rfl, pg_ok hF2.w q2 (.bl _)⟩
      · rw [if_neg hk] at q2
        exact q2.elim
end
end FT
namespace FT
open PySem PySem.Spec PyProof.Rows L2
section
variable {X : Cx} {G : Glob} {Φ : Fns} {N : Nat} {W : WX}
/-- d.get(k, z) -/
theorem d_hget {o e f : Expr} {pl : Pl} {y z : Ex} {apos cpos : Pos} (hG : GP G X) (hu : X.A.units + 9 < cLine) (ho : HE X G Φ W o pl) (he : DE X G Φ W e y) (hf : DE X G Φ W f z)
    (hbase : attributeBase o "get" X.env (eval o X.env) = eval o X.env := by rfl)
    (hfew : ((backTo cpos (starEach [e, f] X.env)).all (fun x => !x.1) && (backToKw cpos (keywordEach [] X.env)).all (fun x => x.1.isSome) && decide (([e, f] : List Expr).length + ([] : List Keyword).length + (if ([] : List Keyword).isEmpty then 0 else 1) < 30)) = true := by rfl)
    (hline : (apos.endLine == cpos.line) = true := by rfl) (htr : backTo cpos (starEach [e, f] X.env) = [(false, eval e X.env), (false, eval f X.env)] := by rfl) : DE X G Φ W (.Call (.Attribute o "get" apos) [e, f] [] cpos) (.hget pl y z) := by
  refine ⟨fun pins s σ H Q I ⟨A, F, S, Ls, env, Le, hF, q⟩ => ?_⟩
  rw [evalE] at q
  refine wpAny_Call_method hbase hfew hline PySem.F.plainAttrs_dict PySem.F.slot_dict_get PySem.F.type_dict_get (thn (ho.run pins s σ H (fun v H1 => ∃ h S1 A1 F1 Ls1, Full X.K G A1 F1 H1 S1 Ls1 σ env Le ∧ (∃ p, v = .ref p ∧ HdOk A1 σ env h p) ∧ PG X.K G W (RelD X.K G) σ A1 F1 H1 Ls1 Q
    ((if !(isDicM (look env S1 h)) then (.bad : Res D) else (evalE Φ y env S1).bind fun kd => fun S2 => (evalE Φ z env S2).bind fun dd => fun S3 => lift ((look env S3 h).bind fun m => getM m kd dd) S3))) I
    ⟨A, F, S, Ls, env, Le, hF, pg_fin.bind hF q fun h S1 v A1 F1 H1 Ls1 hF1 e1 r1 q1 => ⟨h, S1, A1, F1, Ls1, hF1, r1, q1⟩⟩) fun u s1 ⟨v, H1, I1, ru, h, S1, A1, F1, Ls1, hF1, ⟨p, ev, hok⟩, q1⟩ => ?_)
  subst ev
  obtain rfl : u = Value.ref p := ru
  cases hl0 : look env S1 h with
  | none => rw [hl0] at q1; exact q1.elim
  | some m0 =>
    rw [hl0] at q1
    cases m0 with
    | lst ds => exact q1.elim
    | dic t0 ks0 vs0 =>
      have q1 : PG X.K G W (RelD X.K G) σ A1 F1 H1 Ls1 Q ((evalE Φ y env S1).bind fun kd => fun S2 => (evalE Φ z env S2).bind fun dd => fun S3 => lift ((look env S3 h).bind fun m => getM m kd dd) S3) := q1
      obtain ⟨mr0, _⟩ := look_ok hF1 hok hl0
      obtain ⟨t1, t2⟩ := mor_typeIs hG I1 mr0
      refine ⟨t1, t2, ?_⟩
      rw [htr]
      refine Calls.callWith_builtin rfl (Calls.evalArgs_plain (Calls.spliced_cons (thn (he.run pins s1 σ H1 (fun v2 H2 => ∃ d2 S2 A2 F2 Ls2, Full X.K G A2 F2 H2 S2 Ls2 σ env Le ∧ A1 <+: A2 ∧ Rep X.K G A2 F2 d2 v2 ∧ PG X.K G W (RelD X.K G) σ A2 F2 H2 Ls2 Q ((evalE Φ z env S2).bind fun dd => fun S3 => lift ((look env S3 h).bind fun m => getM m d2 dd) S3)) I1
        ⟨A1, F1, S1, Ls1, env, Le, hF1, pg_fin.bind hF1 q1 fun d2 S2 v2 A2 F2 H2 Ls2 hF2 e2 r2 q2 => ⟨d2, S2, A2, F2, Ls2, hF2, e2.pre, r2, q2⟩⟩) fun iv s2 ⟨v2, H2, I2, r2, d2, S2, A2, F2, Ls2, hF2, pr, rd2, q2⟩ =>
        Calls.spliced_cons (thn (hf.run pins s2 σ H2 (fun v3 H3 => ∃ d3 S3 A3 F3 Ls3, Full X.K G A3 F3 H3 S3 Ls3 σ env Le ∧ A2 <+: A3 ∧ Rep X.K G A3 F3 d3 v3 ∧ Rep X.K G A3 F3 d2 v2 ∧ PG X.K G W (RelD X.K G) σ A3 F3 H3 Ls3 Q (lift ((look env S3 h).bind fun m => getM m d2 d3) S3)) I2
        ⟨A2, F2, S2, Ls2, env, Le, hF2, pg_fin.bind hF2 q2 fun d3 S3 v3 A3 F3 H3 Ls3 hF3 e3 r3 q3 => ⟨d3, S3, A3, F3, Ls3, hF3, e3.pre, r3, rd2.mono e3.pre e3.fr, q3⟩⟩) fun fv s3 ⟨v3, H3, I3, r3, d3, S3, A3, F3, Ls3, hF3, pr3, rd3, rd2', q3⟩ => Calls.spliced_nil ?_))))
      cases hl : look env S3 h with
      | none => rw [hl] at q3; exact q3.elim
      | some m =>
        rw [hl] at q3
        obtain ⟨mr, _⟩ := look_ok hF3 ((hok.mono pr).mono pr3) hl
        cases m with
        | lst ds => exact q3.elim
        | dic t ks vs =>
          have q3 : PG X.K G W (RelD X.K G) σ A3 F3 H3 Ls3 Q (lift (if keyOk t d2 then some ((findD d2 ks vs).getD d3) else none) S3) := q3
          by_cases hk : keyOk t d2 = true
          · rw [if_pos hk] at q3
            exact dic_get2 hu hG I3 hF3.w.sub mr rd2' hk r2 rd3 r3 fun v4 w' s' r4 I4 rw' => ⟨v4, H3, I4, rw', pg_ok hF3.w q3 r4⟩
          · rw [if_neg hk] at q3
            exact q3.elim
/-- xs.pop() of a box -/
theorem d_hpop {o : Expr} {x : Ex} {apos cpos : Pos} (ho : DE X G Φ W o x) (hbase : attributeBase o "pop" X.env (eval o X.env) = eval o X.env := by rfl) (hline : (apos.endLine == cpos.line) = true := by rfl) : DE X G Φ W (.Call (.Attribute o "pop" apos) [] [] cpos) (.hpop x) :=
  pe_imp (pe_bm0 PySem.F.plainAttrs_list PySem.F.slot_list_pop PySem.F.type_list_pop mt_pop ho hbase hline) fun σ H Q ⟨A, F, S, Ls, env, Le, hF, q⟩ => by
  rw [evalE] at q
  refine ⟨A, F, S, Ls, env, Le, hF, pg_fin.bind hF q fun d S1 v A1 F1 H1 Ls1 hF1 e1 r1 q1 => ?_⟩
  cases r1 with
  | @ref n p ep =>
    have q1 : PG X.K G W (RelD X.K G) σ A1 F1 H1 Ls1 Q (match S1[n]? with
      | some (.box m) => (match popM m with
        | some (z, m') => .ok z (S1.set n (.box m'))
        | none => .bad)
      | _ => .bad) := q1
    cases hS : S1[n]? with
    | none => rw [hS] at q1; exact q1.elim
    | some ro =>
      rw [hS] at q1
      cases ro with
      | box m =>
        have hok : HdOk A1 σ env (.bx n) p := ep
        have hlk : look env S1 (.bx n) = some m := by show (match S1[n]? with | some (.box m) => some m | _ => none) = some m; rw [hS]
        obtain ⟨mr, mem⟩ := look_ok hF1 hok hlk
        cases mr with
        | @lst ds vs hp hr =>
          have q1 : PG X.K G W (RelD X.K G) σ A1 F1 H1 Ls1 Q (match popM (.lst ds) with
            | some (z, m') => .ok z (S1.set n (.box m'))
            | none => .bad) := q1
          refine ⟨.inl ⟨rfl, _, .of hp⟩, ?_⟩
          cases hg : ds.getLast? with
          | none =>
            have : popM (.lst ds) = none := by simp only [popM, hg]
            rw [this] at q1
            exact q1.elim
          | some z =>
            have : popM (.lst ds) = some (z, .lst ds.dropLast) := by simp only [popM, hg]
            rw [this] at q1
            have hl := hr.length
            have hz : ds[ds.length - 1]? = some z := by rw [← List.getLast?_eq_getElem?]; exact hg
            obtain ⟨y, hy, ry⟩ := hr.get hz
            have hrd : RepL X.K G A1 F1 ds.dropLast vs.dropLast := by
              rw [List.dropLast_eq_take, List.dropLast_eq_take, ← hl]
              exact hr.take _
            have hF2 := put_ok (o := .lst vs.dropLast) (m' := .lst ds.dropLast) hF1 hok hlk (.lst upd_same hrd)
            refine ⟨p, vs, y, rfl, rfl, hp, by rw [← hl]; exact hy, ?_⟩
            refine q1 y A1 F1 _ Ls1 hF2.w (.touch ?_) ry
            have := mem
            rcases List.mem_append.mp mem with z1 | z1
            · exact z1
            · exact (hF1.dj p z1 (by
                obtain ⟨_, h2⟩ := hF1.w.st.set (o := .lst vs.dropLast) (m := .lst ds.dropLast) hF1.w.nd ep ⟨_, hS⟩ (.lst upd_same hrd)
                exact h2)).elim
        | _ => exact q1.elim
      | _ => exact q1.elim
  | _ => exact q1.elim
/-! ### dicts that are data -/
theorem dicRep {K : PySem.W.Frag} {A : List Addr} {F H : Hp} {t : Bool} {ks vs : List D} {v : V} (sm : Same F H) (r : Rep K G A F (.dic t ks vs) v) : ∃ p, v = .ref p ∧ MoR K G A F H p (.dic t ks vs) := by
  cases r with
  | dicK h1 h2 h3 h4 => exact ⟨_, rfl, .dicK (sm _ _ h1) h2 h3 h4⟩
  | dicT h1 h2 h3 h4 h5 h6 => exact ⟨_, rfl, .dicT (sm _ _ h1) h2 h3 h4 h5 h6⟩
theorem d_dix {a b : Expr} {x y : Ex} {pos : Pos} (hG : GP G X) (hu : X.A.units + 9 < cLine) (ha : DE X G Φ W a x) (hb : DE X G Φ W b y) (hs : NoSl b) : DE X G Φ W (.Subscript a b pos) (.dix x y) := by
  refine ⟨fun pins s σ H Q I ⟨A, F, S, Ls, env, Le, hF, q⟩ => ?_⟩
  rw [evalE] at q
  refine subD_of PySem.F.slot_dict_getitem.lookup hs (thn (ha.run pins s σ H (fun v H1 => ∃ d S1 A1 F1 Ls1, Full X.K G A1 F1 H1 S1 Ls1 σ env Le ∧ Rep X.K G A1 F1 d v ∧ PG X.K G W (RelD X.K G) σ A1 F1 H1 Ls1 Q ((evalE Φ y env S1).bind fun e => lift (dixD d e))) I
    ⟨A, F, S, Ls, env, Le, hF, pg_fin.bind hF q fun d S1 v A1 F1 H1 Ls1 hF1 e1 r1 q1 => ⟨d, S1, A1, F1, Ls1, hF1, r1, q1⟩⟩) fun u s1 ⟨v, H1, I1, ru, d, S1, A1, F1, Ls1, hF1, r1, q1⟩ => ?_)
  refine thn (hb.run pins s1 σ H1 (fun v2 H2 => ∃ d2 S2 A2 F2 Ls2, Full X.K G A2 F2 H2 S2 Ls2 σ env Le ∧ Rep X.K G A2 F2 d v ∧ Rep X.K G A2 F2 d2 v2 ∧ PG X.K G W (RelD X.K G) σ A2 F2 H2 Ls2 Q (lift (dixD d d2) S2)) I1
    ⟨A1, F1, S1, Ls1, env, Le, hF1, pg_fin.bind hF1 q1 fun d2 S2 v2 A2 F2 H2 Ls2 hF2 e2 r2 q2 => ⟨d2, S2, A2, F2, Ls2, hF2, r1.mono e2.pre e2.fr, r2, q2⟩⟩) fun iv s2 ⟨v2, H2, I2, r2, d2, S2, A2, F2, Ls2, hF2, rd, rd2, q2⟩ => ?_
  cases d with
  | dic t ks vs =>
    obtain ⟨p, ev, mr⟩ := dicRep hF2.w.sub rd
    subst ev
    obtain rfl : u = Value.ref p := ru
    have q2 : PG X.K G W (RelD X.K G) σ A2 F2 H2 Ls2 Q (lift (if keyOk t d2 then findD d2 ks vs else none) S2) := q2
    by_cases hk : keyOk t d2 = true
    · rw [if_pos hk] at q2
      cases hf : findD d2 ks vs with
      | none => rw [hf] at q2; exact q2.elim
      | some z =>
        rw [hf] at q2
        exact ⟨(mor_typeIs hG I2 mr).1, dic_getItem hu hG I2 hF2.w.sub mr rd2 hk r2 hf fun v3 w' s' r3 I3 rw' => ⟨v3, H2, I3, rw', pg_ok hF2.w q2 r3⟩⟩
    · rw [if_neg hk] at q2
      exact q2.elim
  | _ => exact q2.elim
theorem d_din (neg : Bool) {a b : Expr} {x y : Ex} {op : CmpOp} {pos : Pos} (hop : op = if neg then .NotIn else .In) (hG : GP G X) (hu : X.A.units + 9 < cLine) (ha : DE X G Φ W a x) (hb : DE X G Φ W b y) (hm : behindInMarks op b = false := by rfl) : DE X G Φ W (.Compare a [op] [b] pos) (.din neg x y) := by
  subst hop
  refine pe_cmp ⟨fun pins s σ H Q I ⟨A, F, S, Ls, env, Le, hF, q⟩ => ?_⟩ hm
  rw [evalE] at q
  refine thn (ha.run pins s σ H (fun v H1 => ∃ d S1 A1 F1 Ls1, Full X.K G A1 F1 H1 S1 Ls1 σ env Le ∧ Rep X.K G A1 F1 d v ∧ PG X.K G W (RelD X.K G) σ A1 F1 H1 Ls1 Q ((evalE Φ y env S1).bind fun e => lift (dinD neg d e))) I
    ⟨A, F, S, Ls, env, Le, hF, pg_fin.bind hF q fun d S1 v A1 F1 H1 Ls1 hF1 e1 r1 q1 => ⟨d, S1, A1, F1, Ls1, hF1, r1, q1⟩⟩) fun u s1 ⟨v, H1, I1, ru, d, S1, A1, F1, Ls1, hF1, r1, q1⟩ => ?_
  refine thn (hb.run pins s1 σ H1 (fun v2 H2 => ∃ d2 S2 A2 F2 Ls2, Full X.K G A2 F2 H2 S2 Ls2 σ env Le ∧ Rep X.K G A2 F2 d v ∧ Rep X.K G A2 F2 d2 v2 ∧ PG X.K G W (RelD X.K G) σ A2 F2 H2 Ls2 Q (lift (dinD neg d d2) S2)) I1
    ⟨A1, F1, S1, Ls1, env, Le, hF1, pg_fin.bind hF1 q1 fun d2 S2 v2 A2 F2 H2 Ls2 hF2 e2 r2 q2 => ⟨d2, S2, A2, F2, Ls2, hF2, r1.mono e2.pre e2.fr, r2, q2⟩⟩) fun iv s2 ⟨v2, H2, I2, r2, d2, S2, A2, F2, Ls2, hF2, rd, rd2, q2⟩ => ?_
  cases d2 with
  | dic t ks vs =>
    obtain ⟨p, ev, mr⟩ := dicRep hF2.w.sub rd2
    subst ev
    obtain rfl : iv = Value.ref p := r2
    have q2 : PG X.K G W (RelD X.K G) σ A2 F2 H2 Ls2 Q (lift (if keyOk t d then some (.bl ((findD d ks vs).isSome != neg)) else none) S2) := q2
    by_cases hk : keyOk t d = true
    · rw [if_pos hk] at q2
      exact dic_in hu hG I2 hF2.w.sub mr rd hk ru neg fun s' I3 => ⟨.bl _, H2, I3, rfl, pg_ok hF2.w q2 (.bl _)⟩
    · rw [if_neg hk] at q2
      exact q2.elim
  | _ => exact q2.elim
theorem d_dgt {o e f : Expr} {x y z : Ex} {apos cpos : Pos} (hG : GP G X) (hu : X.A.units + 9 < cLine) (ho : DE X G Φ W o x) (he : DE X G Φ W e y) (hf : DE X G Φ W f z)
    (hbase : attributeBase o "get" X.env (eval o X.env) = eval o X.env := by rfl)
    (hfew : ((backTo cpos (starEach [e, f] X.env)).all (fun x => !x.1) && (backToKw cpos (keywordEach [] X.env)).all (fun x => x.1.isSome) && decide (([e, f] : List Expr).length + ([] : List Keyword).length + (if ([] : List Keyword).isEmpty then 0 else 1) < 30)) = true := by rfl)
    (hline : (apos.endLine == cpos.line) = true := by rfl) (htr : backTo cpos (starEach [e, f] X.env) = [(false, eval e X.env), (false, eval f X.env)] := by rfl) : DE X G Φ W (.Call (.Attribute o "get" apos) [e, f] [] cpos) (.dgt x y z) := by
  refine ⟨fun pins s σ H Q I ⟨A, F, S, Ls, env, Le, hF, q⟩ => ?_⟩
  rw [evalE] at q
  refine wpAny_Call_method hbase hfew hline PySem.F.plainAttrs_dict PySem.F.slot_dict_get PySem.F.type_dict_get (thn (ho.run pins s σ H (fun v H1 => ∃ d S1 A1 F1 Ls1, Full X.K G A1 F1 H1 S1 Ls1 σ env Le ∧ Rep X.K G A1 F1 d v ∧ PG X.K G W (RelD X.K G) σ A1 F1 H1 Ls1 Q
    ((if isDic d then (fun S1 => (evalE Φ y env S1).bind fun yd => fun S2 => (evalE Φ z env S2).bind fun zd => lift (dgtD d yd zd)) else lift none : M D) S1)) I
    ⟨A, F, S, Ls, env, Le, hF, pg_fin.bind hF q fun d S1 v A1 F1 H1 Ls1 hF1 e1 r1 q1 => ⟨d, S1, A1, F1, Ls1, hF1, r1, q1⟩⟩) fun u s1 ⟨v, H1, I1, ru, d, S1, A1, F1, Ls1, hF1, r1, q1⟩ => ?_)
  cases d with
  | dic t ks vs =>
    have q1 : PG X.K G W (RelD X.K G) σ A1 F1 H1 Ls1 Q ((evalE Φ y env S1).bind fun yd => fun S2 => (evalE Φ z env S2).bind fun zd => lift (dgtD (.dic t ks vs) yd zd)) := q1
    obtain ⟨p, ev, mr0⟩ := dicRep hF1.w.sub r1
    subst ev
    obtain rfl : u = Value.ref p := ru
    obtain ⟨t1, t2⟩ := mor_typeIs hG I1 mr0
    refine ⟨t1, t2, ?_⟩
    rw [htr]
    refine Calls.callWith_builtin rfl (Calls.evalArgs_plain (Calls.spliced_cons (thn (he.run pins s1 σ H1 (fun v2 H2 => ∃ d2 S2 A2 F2 Ls2, Full X.K G A2 F2 H2 S2 Ls2 σ env Le ∧ Rep X.K G A2 F2 (.dic t ks vs) (.ref p) ∧ Rep X.K G A2 F2 d2 v2 ∧ PG X.K G W (RelD X.K G) σ A2 F2 H2 Ls2 Q ((evalE Φ z env S2).bind fun zd => lift (dgtD (.dic t ks vs) d2 zd))) I1
      ⟨A1, F1, S1, Ls1, env, Le, hF1, pg_fin.bind hF1 q1 fun d2 S2 v2 A2 F2 H2 Ls2 hF2 e2 r2 q2 => ⟨d2, S2, A2, F2, Ls2, hF2, r1.mono e2.pre e2.fr, r2, q2⟩⟩) fun iv s2 ⟨v2, H2, I2, r2, d2, S2, A2, F2, Ls2, hF2, rd, rd2, q2⟩ =>
      Calls.spliced_cons (thn (hf.run pins s2 σ H2 (fun v3 H3 => ∃ d3 S3 A3 F3 Ls3, Full X.K G A3 F3 H3 S3 Ls3 σ env Le ∧ Rep X.K G A3 F3 (.dic t ks vs) (.ref p) ∧ Rep X.K G A3 F3 d3 v3 ∧ Rep X.K G A3 F3 d2 v2 ∧ PG X.K G W (RelD X.K G) σ A3 F3 H3 Ls3 Q (lift (dgtD (.dic t ks vs) d2 d3) S3)) I2
      ⟨A2, F2, S2, Ls2, env, Le, hF2, pg_fin.bind hF2 q2 fun d3 S3 v3 A3 F3 H3 Ls3 hF3 e3 r3 q3 => ⟨d3, S3, A3, F3, Ls3, hF3, rd.mono e3.pre e3.fr, r3, rd2.mono e3.pre e3.fr, q3⟩⟩) fun fv s3 ⟨v3, H3, I3, r3, d3, S3, A3, F3, Ls3, hF3, rd', rd3, rd2', q3⟩ => Calls.spliced_nil ?_))))
    obtain ⟨p', ev', mr⟩ := dicRep hF3.w.sub rd'
    cases ev'
    have q3 : PG X.K G W (RelD X.K G) σ A3 F3 H3 Ls3 Q (lift (if keyOk t d2 then some ((findD d2 ks vs).getD d3) else none) S3) := q3
    by_cases hk : keyOk t d2 = true
    · rw [if_pos hk] at q3
      exact dic_get2 hu hG I3 hF3.w.sub mr rd2' hk r2 rd3 r3 fun v4 w' s' r4 I4 rw' => ⟨v4, H3, I4, rw', pg_ok hF3.w q3 r4⟩
    · rw [if_neg hk] at q3
      exact q3.elim
  | _ => exact q1.elim
/-! ### new dicts -/
theorem dtO_new {P : Program} {w : World} {H : Hp} {h : Heap} {p : Addr} {xs : List (NestedKey × Addr × Value)} (φ : ∃ (o : Obj) (es : Array DictEntry) (ep : Nat), h.get? p = some o ∧ o.ExactDict ∧ o.data = .dict es ep ∧
    es.toList = xs.map (entryOfKey (nestedKind P w)) ∧ (xs.map (·.1)).Nodup ∧ xs.length ≤ sizeLine ∧ (p == sysModules) = false ∧ ∀ x ∈ xs, x.1.depth ≤ 8) : ObjOk P w H h p (DtO P w p xs) := by
  obtain ⟨o, es, ep, ho, r⟩ := φ
  exact ⟨⟨o, es, ep, ho, r⟩, ⟨o, ho⟩, fun g1 g2 ⟨o2, es2, ep2, z1, z2⟩ st => ⟨o2, es2, ep2, st _ z1, z2⟩⟩
theorem big_ne {pins : List (Addr × Obj)} {σ : L2.St} {H : Hp} {s : Shared} (I : Inv X pins σ H s) : (s.heap.objs.size == sysModules) = false := by
  have := Inv.big I
  exact beq_eq_false_iff_ne.mpr (Nat.ne_of_gt this)
/-- {} -/
theorem o_dnew (t : Bool) {pos : Pos} (hG : GP G X) : OE X G Φ W (.Dict [] [] pos) (.dnew t) := by
  cases t with
  | false =>
    refine pe_imp pe_dnewK fun σ H Q ⟨A, F, S, Ls, env, Le, hF, q⟩ => ?_
    rw [evalE] at q
    intro p np
    exact q p _ A F _ Ls rfl (hF.w.newOwn np) (.newOwn np) (hF.w.fresh np) (hF.w.nf np) (.dicK (kvs := []) upd_same rfl rfl .nil)
  | true =>
    refine ⟨fun pins s σ H Q I ⟨A, F, S, Ls, env, Le, hF, q⟩ => ?_⟩
    rw [evalE] at q
    have np := I.hok.fresh (Nat.le_refl s.heap.objs.size)
    refine wpAny_Dict_empty ⟨.ref s.heap.objs.size, _, I.laid (a := s.heap.objs.size) (o := DtO G.P G.w s.heap.objs.size []) (t' := s.toks) (fun _ _ q => Heap.get?_push_of_some _ q) (Nat.le_refl _) ?_, rfl, ?_⟩
    · rw [hG.p, hG.w]
      exact dtO_new ⟨_, #[], 0, Heap.get?_push_size _ rfl, ⟨rfl, rfl, rfl⟩, rfl, rfl, List.nodup_nil, Nat.zero_le _, big_ne I, fun x hx => by cases hx⟩
    · exact q _ _ A F _ Ls rfl (hF.w.newOwn np) (.newOwn np) (hF.w.fresh np) (hF.w.nf np) (.dicT (xs := []) (us := []) upd_same rfl rfl .nil .nil .nil)
end
end FT
namespace FT
open PySem PySem.Spec PyProof.Rows L2
section
variable {X : Cx} {G : Glob} {Φ : Fns} {N : Nat} {W : WX}
/-! ### written dicts -/
def cPairs : List (Str × Str) → List (TE × TE)
  | [] => []
  | (k, v) :: r => (tC (.str k), tC (.str v)) :: cPairs r
theorem cPairs_ok {σ : L2.St} {H : Hp} {Q : List (V × V) → Hp → Prop} : ∀ (l : List (Str × Str)), Q (l.map fun q => (V.str q.1, V.str q.2)) H → tPairs (cPairs l) σ H Q
  | [], q => q
  | (k, v) :: r, q => cPairs_ok (Q := fun ps H3 => Q ((V.str k, V.str v) :: ps) H3) r q
theorem d_dcon {keys : List (Option Expr)} {values : List Expr} {pos : Pos} (l : List (Str × Str)) (h : PPs X pos keys values (cPairs l)) (hall : keys.all (·.isSome) = true) (hl : keys.length = values.length) (h0 : keys ≠ []) (h15 : keys.length ≤ 15)
    (ks vs : List D) (hk : keysD ks = some ((mergeK [] (l.map fun q => ((Sum.inr q.1 : Key), V.str q.2))).map (·.1))) (hv : ∀ (A : List Addr) (F : Hp), RepL X.K G A F vs ((mergeK [] (l.map fun q => ((Sum.inr q.1 : Key), V.str q.2))).map (·.2))) (hl2 : l.length ≤ 15) : DE X G Φ W (.Dict keys values pos) (.con (.dic false ks vs)) :=
  pe_imp (pe_disp h hall hl h0 h15) fun σ H Q ⟨A, F, S, Ls, env, Le, hF, q⟩ => by
  rw [evalE] at q
  intro p np
  refine cPairs_ok l ⟨upd_same, l.map fun q => (Sum.inr q.1, V.str q.2), by rw [List.map_map]; rfl, by rw [List.length_map]; exact hl2, ?_⟩
  rw [upd_upd]
  exact q _ A (upd F p _) _ Ls (hF.w.lay np) (.lay hF.w np) (.dicK upd_same hk rfl (hv A _))
/-- {k: v}, k a tuple -/
theorem o_disp {k v : Expr} {x y : Ex} {pos : Pos} (hG : GP G X) (hu : X.A.units + 9 < cLine) (hk : DE X G Φ W k x) (hv : DE X G Φ W v y) : OE X G Φ W (.Dict [some k] [v] pos) (.disp x y) := by
  refine ⟨fun pins s σ H Q I ⟨A, F, S, Ls, env, Le, hF, q⟩ => ?_⟩
  rw [evalE] at q
  have np := I.hok.fresh (Nat.le_refl s.heap.objs.size)
  have I1 := I.laid (a := s.heap.objs.size) (o := DtO G.P G.w s.heap.objs.size []) (h' := s.heap.push { cls := .type "dict", data := .dict #[] }) (t' := s.toks) (fun _ _ q => Heap.get?_push_of_some _ q) (Nat.le_refl _) (by
    rw [hG.p, hG.w]
    exact dtO_new ⟨_, #[], 0, Heap.get?_push_size _ rfl, ⟨rfl, rfl, rfl⟩, rfl, rfl, List.nodup_nil, Nat.zero_le _, big_ne I, fun x hx => by cases hx⟩)
  have w1 := hF.w.newOwn (o := DtO G.P G.w s.heap.objs.size []) np
  have x1 : Ext A F H Ls A F (upd H s.heap.objs.size (DtO G.P G.w s.heap.objs.size [])) Ls := (Ext.newOwn np).sub fun a => List.mem_cons_of_mem _
  have hF1 := hF.ext w1 x1
  have nL : s.heap.objs.size ∉ Ls := hF.w.fresh np
  have stay : ∀ {A2 : List Addr} {F2 H2 : Hp} {Ls2 : List Addr}, Ext A F (upd H s.heap.objs.size (DtO G.P G.w s.heap.objs.size [])) Ls A2 F2 H2 Ls2 → H2 s.heap.objs.size = some (DtO G.P G.w s.heap.objs.size []) ∧ s.heap.objs.size ∉ Ls2 ∧ F2 s.heap.objs.size = none ∧ Ext A F H Ls A2 F2 H2 Ls2 := fun {A2 F2 H2 Ls2} e => by
    have no : ¬ (F s.heap.objs.size ≠ none ∨ s.heap.objs.size ∈ Ls ∨ upd H s.heap.objs.size (DtO G.P G.w s.heap.objs.size []) s.heap.objs.size = none) := fun z => by
      rcases z with z | z | z
      · exact z (hF.w.nf np)
      · exact nL z
      · rw [upd_same] at z; cases z
    refine ⟨e.keep _ _ upd_same nL, fun z => no (e.new _ (.inr z)), ?_, x1.trans w1.out e⟩
    cases z : F2 s.heap.objs.size with
    | none => rfl
    | some o => exact (no (e.new _ (.inl (by rw [z]; simp)))).elim
  have hshape := zip_pairTrees [some k] [v] X.env pos rfl rfl
  have hlen := pairTrees_length [some k] [v] X.env pos rfl rfl
  have hroom : (nestedKind X.prog X.w).room X.A := by show X.A.units + 8 < cLine; omega
  -- the key
  have pk : PG X.K G W (RelD X.K G) σ A F (upd H s.heap.objs.size (DtO G.P G.w s.heap.objs.size [])) Ls (fun v1 H2 => ∃ d S1 A2 F2 Ls2, evalE Φ x env S = .ok d S1 ∧ Full X.K G A2 F2 H2 S1 Ls2 σ env Le ∧ Ext A F (upd H s.heap.objs.size (DtO G.P G.w s.heap.objs.size [])) Ls A2 F2 H2 Ls2 ∧ Rep X.K G A2 F2 d v1) (evalE Φ x env S) := by
    cases hx : evalE Φ x env S with
    | ok d S1 => exact fun v1 A2 F2 H2 Ls2 w2 e2 r2 => ⟨d, S1, A2, F2, Ls2, rfl, hF1.ext w2 e2, e2, r2⟩
    | ex c S1 =>
      rw [hx] at q
      exact fun A2 F2 H2 Ls2 w2 e2 => q A2 F2 H2 Ls2 w2 (x1.trans w1.out e2)
    | bad => rw [hx] at q; exact q
  rw [arm_eval_Dict, hshape, dictDisplay_pairs _ (fun e => by rw [e] at hlen; cases hlen) (by rw [hlen]; show 1 < 17; decide)]
  refine wpAny_bind (wpAny_standAt (wpAny_bind (wpAny_subDictH (knd := nestedKind X.prog X.w) (Q := fun d s' => wpAny (model X.prog X.w) X.A (pure (Value.ref d)) (EP X pins σ Q) X.xe s') hroom (by rw [hlen]; show 1 ≤ 15; decide) (pairTrees_cons_walk ?_))))
  refine thn (hk.run pins _ σ _ _ I1 ⟨A, F, S, Ls, env, Le, hF1, pk⟩) fun kv s1 ⟨v1, H2, I2, r1, d, S1, A2, F2, Ls2, hx, hF2, e2, rd⟩ => ?_
  rw [hx] at q
  simp only [Res.bind_ok] at q
  have pv : PG X.K G W (RelD X.K G) σ A2 F2 H2 Ls2 (fun v2 H3 => ∃ e S2 A3 F3 Ls3, evalE Φ y env S1 = .ok e S2 ∧ Full X.K G A3 F3 H3 S2 Ls3 σ env Le ∧ Ext A2 F2 H2 Ls2 A3 F3 H3 Ls3 ∧ Rep X.K G A3 F3 e v2) (evalE Φ y env S1) := by
    cases hy : evalE Φ y env S1 with
    | ok e S2 => exact fun v2 A3 F3 H3 Ls3 w3 e3 r3 => ⟨e, S2, A3, F3, Ls3, rfl, hF2.ext w3 e3, e3, r3⟩
    | ex c S2 =>
      rw [hy] at q
      exact fun A3 F3 H3 Ls3 w3 e3 => q A3 F3 H3 Ls3 w3 ((x1.trans w1.out e2).trans hF2.w.out e3)
    | bad => rw [hy] at q; exact q
  refine thn (hv.run pins s1 σ H2 _ I2 ⟨A2, F2, S1, Ls2, env, Le, hF2, pv⟩) fun vv s2 ⟨v2, H3, I3, r2, e, S2, A3, F3, Ls3, hy, hF3, e3, re⟩ => ?_
  refine pairTrees_nil_walk ?_
  rw [hy] at q
  simp only [Res.bind_ok] at q
  by_cases hok : keyOk true d = true
  · rw [if_pos hok] at q
    obtain ⟨κ, xs', rfl, hκ, hd8⟩ := keyOkT hok
    have e23 := e2.trans hF2.w.out e3
    obtain ⟨s1', s2', s3', s4'⟩ := stay e23
    obtain ⟨b, ev, eu⟩ := tup_ref rd r1
    subst ev eu
    have rd3 := rd.mono e3.pre e3.fr
    have hki : NestedIs s2.heap κ (.ref b) := rep_nested I3 hF3.w.sub _ _ κ _ rd3 hκ rfl
    obtain ⟨⟨o, es, ep, ho, hex, hd, hes, hnd, hlen2, hsys, hdep⟩, _, _⟩ := I3.hok _ _ s1'
    rw [hG.p, hG.w] at hes
    refine ⟨[(κ, b, vv)], ⟨rfl, rfl, ⟨hki, hd8⟩, trivial⟩, ⟨o, es, ep, ho, hex, hd, hes, (fun x hx => by cases hx), hnd⟩, fun h' tk hm' hs' => wpAny_pure ?_⟩
    obtain ⟨o', es', ep', ho', hex', hd', hes', his', hnd'⟩ := hm'
    have est : storedAllH ([] : List (NestedKey × Addr × Value)) [(κ, b, vv)] = [(κ, b, vv)] := by simp [storedAllH, storedH, atKey]
    rw [est] at hes' his' hnd'
    refine ⟨.ref s.heap.objs.size, upd H3 s.heap.objs.size (DtO G.P G.w s.heap.objs.size [(κ, b, vv)]), d_write I3 (by rw [s1']; exact True.intro) hs' ⟨_, ho'⟩ ?_, rfl, ?_⟩
    · rw [hG.p, hG.w]
      exact dtO_new ⟨o', es', ep', ho', hex', hd', hes', hnd', (by rw [sizeLine_eq]; show 1 ≤ 16777216; decide), hsys, fun z hz => (his' z hz).2⟩
    · refine q _ _ A3 F3 _ Ls3 rfl (hF3.w.mut s2' s3') ⟨s4'.pre, s4'.fr, fun a o z n => ?_, fun a z => ?_⟩ s2' s3' (.dicT (xs := [(κ, b, vv)]) (us := [v2]) upd_same (by simp [keysN, hκ]) rfl (.one rd3) (.cons r2 .nil) (.one re))
      · rw [upd_ne (ne_of_none z np)]
        exact s4'.keep a o z n
      · rcases z with z | z
        · exact s4'.new a (.inl z)
        · rcases List.mem_cons.mp z with z | z
          · exact .inr (.inr (by rw [z]; exact np))
          · exact s4'.new a (.inr z)
  · rw [if_neg hok] at q
    exact q.elim
/-! ### statements -/
theorem s_bapp {o a : Expr} {y x : Ex} {apos pos spos : Pos} (ho : DE X G Φ W o y) (ha : DE X G Φ W a x) (hbase : attributeBase o "append" X.env (eval o X.env) = eval o X.env := by rfl)
    (hfew : ((backTo pos (starEach [a] X.env)).all (fun x => !x.1) && (backToKw pos (keywordEach [] X.env)).all (fun x => x.1.isSome) && decide (([a] : List Expr).length + ([] : List Keyword).length + (if ([] : List Keyword).isEmpty then 0 else 1) < 30)) = true := by rfl)
    (hline : (apos.endLine == pos.line) = true := by rfl) (hs : starEach [a] X.env = [(false, eval a X.env)] := by rfl) (hsw : swapsWith (.Call (.Attribute o "append" apos) [a] [] pos) none spos.line X.env = pure false := by rfl) :
    DS X G Φ N W (.Expr (.Call (.Attribute o "append" apos) [a] [] pos) spos) (.bapp y x) :=
  ps_imp (ps_expr (pe_bm PySem.F.plainAttrs_list PySem.F.slot_list_append PySem.F.type_list_append mt_append ho (pa_cons ha pa_nil hs) hbase hfew hline hs rfl) hsw) fun σ H Dn ⟨A, F, S, Ls, env, Le, hF, q⟩ => by
  rw [exec] at q
  refine ⟨A, F, S, Ls, env, Le, hF, onto_bind hF q fun d S1 v A1 F1 H1 Ls1 hF1 e1 r1 q1 => ?_⟩
  cases r1 with
  | @ref n p ep =>
    have hok : HdOk A1 σ env (.bx n) p := ep
    have q1 : PP X.K G W Dn A1 F1 H1 (Ls1 ++ Le) (if isLstM (look env S1 (.bx n)) then ((evalE Φ x env S1).onto env fun d S2 => match (look env S2 (.bx n)).bind fun m => appM m d with
      | some m => .nx env (S2.set n (.box m))
      | none => .bad) else .bad) := q1
    cases hl0 : look env S1 (.bx n) with
    | none => rw [hl0] at q1; exact q1.elim
    | some m0 =>
      rw [hl0] at q1
      cases m0 with
      | dic _ _ _ => exact q1.elim
      | lst ds0 =>
        obtain ⟨mr0, _⟩ := look_ok hF1 hok hl0
        cases mr0 with
        | @lst _ vs0 hp0 hr0 =>
          refine ⟨.inl ⟨rfl, _, .of hp0⟩, A1, F1, S1, Ls1, env, Le, hF1, onto_bind hF1 q1 fun d2 S2 v2 A2 F2 H2 Ls2 hF2 e2 r2 q2 => ?_⟩
          have hok2 := hok.mono e2.pre
          cases hl : look env S2 (.bx n) with
          | none => rw [hl] at q2; exact q2.elim
          | some m =>
            rw [hl] at q2
            cases m with
            | dic _ _ _ => exact q2.elim
            | lst ds =>
              obtain ⟨mr, mem⟩ := look_ok hF2 hok2 hl
              cases mr with
              | @lst _ vs hp hr =>
                have q2 : PP X.K G W Dn A2 F2 H2 (Ls2 ++ Le) (match (if ds.length < lim then some (MO.lst (ds ++ [d2])) else none) with
                  | some m => .nx env (S2.set n (.box m))
                  | none => .bad) := q2
                by_cases hlt : ds.length < lim
                · rw [if_pos hlt] at q2
                  have hF3 := put_ok (o := .lst (vs ++ [v2])) (m' := .lst (ds ++ [d2])) hF2 hok2 hl (.lst upd_same (hr.append (.one r2)))
                  refine ⟨p, vs, v2, rfl, rfl, hp, by rw [← hr.length]; exact Nat.lt_of_lt_of_le hlt (by rw [sizeLine_eq]; decide), ?_⟩
                  exact q2 σ A2 F2 _ Ls2 Le hF3 (.touch mem)
                · rw [if_neg hlt] at q2
                  exact q2.elim
  | _ => exact q1.elim
/-- d[k] = e -/
theorem s_hset {o i value : Expr} {pl : Pl} {y x : Ex} {pos pos' : Pos} (hG : GP G X) (hu : X.A.units + 9 < cLine) (ho : HE X G Φ W o pl) (hi : DE X G Φ W i y) (hv : DE X G Φ W value x) (hs : swapsWith value (some (.Subscript o i pos')) pos.line X.env = pure false := by rfl) :
    DS X G Φ N W (.Assign [.Subscript o i pos'] value pos) (.hset pl y x) := by
  refine ⟨fun pins s σ H Dn I ⟨A, F, S, Ls, env, Le, hF, q⟩ => ?_⟩
  rw [exec] at q
  refine wpAny_Assign_Subscript (thn (hv.run pins s σ H (fun v H1 => ∃ d S1 A1 F1 Ls1, Full X.K G A1 F1 H1 S1 Ls1 σ env Le ∧ Rep X.K G A1 F1 d v ∧ PP X.K G W Dn A1 F1 H1 (Ls1 ++ Le) ((evalH Φ pl env S1).onto env fun h S2 => (evalE Φ y env S2).onto env fun kd S3 => match (look env S3 h).bind fun m => setM m kd d with
      | some m => .nx (putH env S3 h m).1 (putH env S3 h m).2
      | none => .bad)) I ⟨A, F, S, Ls, env, Le, hF, onto_bind hF q fun d S1 v A1 F1 H1 Ls1 hF1 e1 r1 q1 => ⟨d, S1, A1, F1, Ls1, hF1, r1, q1⟩⟩) fun r s1 ⟨v, H1, I1, rv, d, S1, A1, F1, Ls1, hF1, rd, q1⟩ => ?_) hs
  refine thn (ho.run pins s1 σ H1 (fun v2 H2 => ∃ h S2 A2 F2 Ls2, Full X.K G A2 F2 H2 S2 Ls2 σ env Le ∧ (∃ p, v2 = .ref p ∧ HdOk A2 σ env h p) ∧ Rep X.K G A2 F2 d v ∧ PP X.K G W Dn A2 F2 H2 (Ls2 ++ Le) ((evalE Φ y env S2).onto env fun kd S3 => match (look env S3 h).bind fun m => setM m kd d with
      | some m => .nx (putH env S3 h m).1 (putH env S3 h m).2
      | none => .bad)) I1 ⟨A1, F1, S1, Ls1, env, Le, hF1, onto_bind hF1 q1 fun h S2 v2 A2 F2 H2 Ls2 hF2 e2 r2 q2 => ⟨h, S2, A2, F2, Ls2, hF2, r2, rd.mono e2.pre e2.fr, q2⟩⟩) fun u s2 ⟨v2, H2, I2, r2, h, S2, A2, F2, Ls2, hF2, ⟨p, ev, hok⟩, rd2, q2⟩ => ?_
  subst ev
  obtain rfl : u = Value.ref p := r2
  refine thn (hi.run pins s2 σ H2 (fun v3 H3 => ∃ d3 S3 A3 F3 Ls3, Full X.K G A3 F3 H3 S3 Ls3 σ env Le ∧ A2 <+: A3 ∧ Rep X.K G A3 F3 d3 v3 ∧ Rep X.K G A3 F3 d v ∧ PP X.K G W Dn A3 F3 H3 (Ls3 ++ Le) (match (look env S3 h).bind fun m => setM m d3 d with
      | some m => .nx (putH env S3 h m).1 (putH env S3 h m).2
      | none => .bad)) I2 ⟨A2, F2, S2, Ls2, env, Le, hF2, onto_bind hF2 q2 fun d3 S3 v3 A3 F3 H3 Ls3 hF3 e3 r3 q3 => ⟨d3, S3, A3, F3, Ls3, hF3, e3.pre, r3, rd2.mono e3.pre e3.fr, q3⟩⟩) fun iv s3 ⟨v3, H3, I3, r3, d3, S3, A3, F3, Ls3, hF3, pr, rd3, rdd, q3⟩ => ?_
  have hok3 := hok.mono pr
  cases hl : look env S3 h with
  | none => rw [hl] at q3; exact q3.elim
  | some m =>
    rw [hl] at q3
    cases m with
    | lst _ => exact q3.elim
    | dic t ks vs =>
      obtain ⟨mr, mem⟩ := look_ok hF3 hok3 hl
      by_cases hk : (keyOk t d3 && decide (ks.length < lim)) = true
      · have es : setM (.dic t ks vs) d3 d = some (.dic t (putDk d3 ks) (putDv d3 d ks vs)) := by
          show (if (keyOk t d3 && decide (ks.length < lim)) = true then _ else _) = _
          rw [if_pos hk]
        have q3 : PP X.K G W Dn A3 F3 H3 (Ls3 ++ Le) (match setM (.dic t ks vs) d3 d with
          | some m => .nx (putH env S3 h m).1 (putH env S3 h m).2
          | none => .bad) := q3
        rw [es] at q3
        rw [Bool.and_eq_true, decide_eq_true_eq] at hk
        refine dic_set hu hG I3 hF3.w.sub mr rd3 hk.1 hk.2 r3 rdd rv fun o s4 mr' I4 => ⟨σ, _, I4, ?_⟩
        exact q3 σ A3 F3 _ Ls3 Le (put_ok hF3 hok3 hl mr') (.touch mem)
      · have es : setM (.dic t ks vs) d3 d = none := by
          show (if (keyOk t d3 && decide (ks.length < lim)) = true then _ else _) = _
          rw [if_neg hk]
        have q3 : PP X.K G W Dn A3 F3 H3 (Ls3 ++ Le) (match setM (.dic t ks vs) d3 d with
          | some m => .nx (putH env S3 h m).1 (putH env S3 h m).2
          | none => .bad) := q3
        rw [es] at q3
        exact q3.elim
/-- xs[i] = e -/
theorem s_hsetL {st : Stmt} {pl : Pl} {y x : Ex} (h : PS X st (tAsg (tD X.K G W (evalE Φ x)) (gSub (tHd X.K G W (evalH Φ pl)) (tD X.K G W (evalE Φ y)) rSetL))) : DS X G Φ N W st (.hsetL pl y x) := ps_imp h fun σ H Dn ⟨A, F, S, Ls, env, Le, hF, q⟩ => by
  rw [exec] at q
  refine ⟨A, F, S, Ls, env, Le, hF, onto_bind hF q fun d S1 v A1 F1 H1 Ls1 hF1 e1 r1 q1 => ?_⟩
  refine ⟨A1, F1, S1, Ls1, env, Le, hF1, onto_bind hF1 q1 fun hd S2 ov A2 F2 H2 Ls2 hF2 e2 ⟨p, ev, hok⟩ q2 => ?_⟩
  refine ⟨A2, F2, S2, Ls2, env, Le, hF2, onto_bind hF2 q2 fun i S3 iv A3 F3 H3 Ls3 hF3 e3 r3 q3 => ?_⟩
  have hok3 := hok.mono e3.pre
  cases hl : look env S3 hd with
  | none => rw [hl] at q3; exact q3.elim
  | some m =>
    rw [hl] at q3
    cases m with
    | dic _ _ _ => exact q3.elim
    | lst ds =>
      cases r3 with
      | int i =>
        obtain ⟨mr, mem⟩ := look_ok hF3 hok3 hl
        cases mr with
        | @lst _ vs hp hr =>
          have q3 : PP X.K G W Dn A3 F3 H3 (Ls3 ++ Le) (match (match ixN ds.length i with
              | some j => some (MO.lst (ds.set j d))
              | none => none) with
            | some m => .nx (putH env S3 hd m).1 (putH env S3 hd m).2
            | none => .bad) := q3
          cases hj : ixN ds.length i with
          | none => rw [hj] at q3; exact q3.elim
          | some j =>
            rw [hj] at q3
            have rd := ((r1.mono e2.pre e2.fr).mono e3.pre e3.fr)
            have hF4 := put_ok (o := .lst (vs.set j v)) (m' := .lst (ds.set j d)) hF3 hok3 hl (.lst upd_same (hr.set j rd))
            refine ⟨p, vs, i, j, ev, rfl, hp, by rw [← hr.length]; exact hj, ?_⟩
            exact q3 σ A3 F3 _ Ls3 Le hF4 (.touch mem)
      | _ => exact q3.elim
/-- x = xs.pop() -/
theorem s_popS {st : Stmt} {i : Nat} {tg : Tg} {g : TG} (h : PS X st (tAsg (tBM0 X.K "list" rPop (tVar i)) g)) (hg : TgD G X.K g tg) : DS X G Φ N W st (.popS i tg) := ps_imp h fun σ H Dn ⟨A, F, S, Ls, env, Le, hF, q⟩ => by
  rw [exec] at q
  cases e : env[i]? with
  | none => rw [e] at q; exact q.elim
  | some sv =>
    rw [e] at q
    cases sv with
    | no => exact q.elim
    | dat d => exact q.elim
    | own m =>
      cases m with
      | dic _ _ _ => exact q.elim
      | lst ds =>
        obtain ⟨p, h1, h2, h3⟩ := hF.e.own_get e
        cases h2 with
        | @lst _ vs hp hr =>
          cases hg0 : ds.getLast? with
          | none =>
            have : popM (.lst ds) = none := by simp only [popM, hg0]
            simp only [this] at q
            exact q.elim
          | some z =>
            have : popM (.lst ds) = some (z, .lst ds.dropLast) := by simp only [popM, hg0]
            simp only [this] at q
            have hl := hr.length
            have hz : ds[ds.length - 1]? = some z := by rw [← List.getLast?_eq_getElem?]; exact hg0
            obtain ⟨y, hy, ry⟩ := hr.get hz
            have hrd : RepL X.K G A F ds.dropLast vs.dropLast := by
              rw [List.dropLast_eq_take, List.dropLast_eq_take, ← hl]
              exact hr.take _
            have hF2 := hF.turn (o := .lst vs.dropLast) (m' := .lst ds.dropLast) e h1 (.lst upd_same hrd)
            refine ⟨_, h1, .inl ⟨rfl, _, .of hp⟩, p, vs, y, rfl, rfl, hp, by rw [← hl]; exact hy, ?_⟩
            have x1 : Ext A F H (Ls ++ Le) A F (upd H p (.lst vs.dropLast)) (Ls ++ Le) := .touch (List.mem_append_right _ h3)
            cases ha : assignT tg z (env.set i (.own (.lst ds.dropLast))) with
            | none => rw [ha] at q; exact q.elim
            | some env' =>
              rw [ha] at q
              refine hg A F _ S Ls σ _ env' Le z y Dn.nx hF2 ry ha fun σ' Le' f s _ => q σ' A F _ Ls Le' f (x1.sub fun a m => ?_)
              exact (List.mem_append.mp m).elim (List.mem_append_left _) fun z => List.mem_append_right _ (s.subset z)
end
end FT
namespace FT
open PySem PySem.Spec PyProof.Rows L2
section
variable {X : Cx} {G : Glob} {Φ : Fns} {N : Nat} {W : WX}
/-! ### isinstance of an error that is kept -/
theorem d_isx {a : Expr} {n : Str} {x : Ex} {p p' pos : Pos} {c : V} {cv : Value} {yes no : List Nat} (hg : Gl X "isinstance") (hm : X.mg "isinstance" = none) (hc : PE X (.Name n p') (tC c)) (hcv : ∀ u, RelV c u → u = cv)
    (hy : ∀ k ∈ yes, ExcC X.K (G.clA k) ∧ PySem.W.kitOne X.K (.ref (G.clA k)) cv = some true) (hn : ∀ k ∈ no, ExcC X.K (G.clA k) ∧ PySem.W.kitOne X.K (.ref (G.clA k)) cv = some false) (ha : DE X G Φ W a x)
    (h1 : starEach [a, .Name n p'] X.env = [(false, eval a X.env), (false, eval (.Name n p') X.env)] := by rfl) (h2 : starEach [.Name n p'] X.env = [(false, eval (.Name n p') X.env)] := by rfl) :
    DE X G Φ W (.Call (.Name "isinstance" p) [a, .Name n p'] [] pos) (.bi (.isx yes no) (.cons x .nil)) := by
  refine pe_imp (pe_callB (x := "isinstance") (p := p) (pos := pos) call_isX hg hm PyProof.Rows.boot_isinstance (pa_cons ha (pa_cons hc pa_nil h2) h1) (by decide) (by decide) h1 (by rw [h2]; rfl)) fun σ H Q ⟨A, F, S, Ls, env, Le, hF, q⟩ => ?_
  rw [evalE] at q
  have q : PG X.K G W (RelD X.K G) σ A F H Ls Q ((evalE Φ x env S).bind fun d => lift (biD (.isx yes no) [d])) := by
    rw [evalL] at q
    cases h : evalE Φ x env S with
    | ok d S1 =>
      rw [h] at q
      simp only [Res.bind_ok] at q
      rw [evalL] at q
      exact q
    | ex c S1 => rw [h] at q; exact q
    | bad => rw [h] at q; exact q
  refine ⟨A, F, S, Ls, env, Le, hF, pg_fin.bind hF q fun d S1 v A1 F1 H1 Ls1 hF1 e1 r1 q1 => ?_⟩
  cases r1 with
  | @exc k a hFa =>
    have q1 : PG X.K G W (RelD X.K G) σ A1 F1 H1 Ls1 Q (lift (if yes.contains k then some (.bl true) else if no.contains k then some (.bl false) else none) S1) := q1
    by_cases hk : yes.contains k = true
    · rw [if_pos hk] at q1
      obtain ⟨C, e⟩ := hy k (by simpa using hk)
      exact ⟨a, G.clA k, c, cv, true, rfl, hF1.w.sub a _ hFa, C, hcv, e, pg_ok hF1.w q1 (.bl true)⟩
    · rw [if_neg hk] at q1
      by_cases hk2 : no.contains k = true
      · rw [if_pos hk2] at q1
        obtain ⟨C, e⟩ := hn k (by simpa using hk2)
        exact ⟨a, G.clA k, c, cv, false, rfl, hF1.w.sub a _ hFa, C, hcv, e, pg_ok hF1.w q1 (.bl false)⟩
      · rw [if_neg hk2] at q1
        exact q1.elim
  | _ => exact q1.elim
/-! ### a, b = a list -/
theorem tg_tl {K : PySem.W.Frag} {is : List Nat} : TgD G K (gLst K is.length (gNames is)) (.tl is) := fun A F H S Ls σ env env' Le d v Q hF r ha k => by
  cases d with
  | lst ds =>
    cases r with
    | @lst _ a vs h1 h2 =>
      obtain ⟨l, g⟩ := tg_names (Q := Q) is ds vs σ env env' Le hF h2 ha k
      exact ⟨a, vs, rfl, .inl (.inl (hF.w.sub a _ h1)), l, g⟩
  | _ => cases ha
/-! ### a, b = x, y -/
theorem onto_of_bind {α β : Type} {r : Res α} {k : α → M β} {env : Env} {f : β → Sh → ORes} : (r.bind k).onto env f = r.onto env fun a S => (k a S).onto env f := by
  cases r <;> rfl
theorem s_par {i j : Nat} {x y : Str} {a b : Expr} {xs : Exs} {px py pt pos : Pos} {kt k2 pt2} (hc : X.calm = true) (hN : X.N.Nodup) (hi : X.N[i]? = some x) (hj : X.N[j]? = some y) (hij : i ≠ j)
    (hx : X.env.scope.names.lookup x = some .local) (hy : X.env.scope.names.lookup y = some .local) (ha : DA X G Φ W [a, b] xs)
    (hw : swappedStores [.Tuple [.Name x px, .Name y py] kt pt] (.Tuple [a, b] k2 pt2) X.env = pure (some [x, y]))
    (hs : swapsWithSole [.Tuple [.Name x px, .Name y py] kt pt] (.Tuple [a, b] k2 pt2) pos.line X.env = pure false := by rfl) :
    DS X G Φ N W (.Assign [.Tuple [.Name x px, .Name y py] kt pt] (.Tuple [a, b] k2 pt2) pos) (.asg (.tp [i, j]) (.tup xs)) := ps_imp (ps_par hc hN hi hj hij hx hy ha hw hs) fun σ H D ⟨A, F, S, Ls, env, Le, hF, q⟩ => by
  rw [exec, evalE, onto_of_bind] at q
  refine ⟨A, F, S, Ls, env, Le, hF, onto_bind hF q fun ds S1 vs A1 F1 H1 Ls1 hF1 e1 r1 q1 => ?_⟩
  match ds, vs, r1 with
  | [], _, _ => exact q1.elim
  | [_], _, _ => exact q1.elim
  | [d, e], _, .cons (v := v) ra (.cons (v := u) rb .nil) =>
    refine ⟨v, u, rfl, ?_⟩
    obtain ⟨L1, h1, s1⟩ := hF1.put i ra
    obtain ⟨L2, h2, s2⟩ := h1.put j rb
    have q1 : PP X.K G W D A1 F1 H1 (Ls1 ++ Le) (.nx ((env.set i (.dat d)).set j (.dat e)) S1) := q1
    exact q1 _ A1 F1 H1 Ls1 L2 h2 (.same fun a m => (List.mem_append.mp m).elim (List.mem_append_left _) fun z => List.mem_append_right _ ((s2.trans s1).subset z))
  | a :: b :: c :: r, _, _ =>
    exfalso
    have q1 : PP X.K G W D A1 F1 H1 (Ls1 ++ Le) ((lift (if (a :: b :: c :: r).length ≤ 1000 then some (_root_.FT.D.tup (a :: b :: c :: r)) else none) S1).onto env fun d S' => match assignT (.tp [i, j]) d env with
      | some env' => .nx env' S'
      | none => .bad) := q1
    by_cases hl : (a :: b :: c :: r).length ≤ 1000
    · rw [if_pos hl] at q1
      exact q1.elim
    · rw [if_neg hl] at q1
      exact q1.elim
end
end FT
namespace FT
open PySem PySem.Spec PyProof.Rows L2
/-! ### evaluation equations of the later words -/
def strF (o : Option (List Nat)) (acc : List Nat) (k : List Nat → M (List Nat)) : M (List Nat) := fun S => match o with
  | some s => if (acc ++ s).length ≤ lim then k (acc ++ s) S else .bad
  | none => .bad
@[simp] theorem strF_some (s acc : List Nat) (k : List Nat → M (List Nat)) (S : Sh) : strF (some s) acc k S = if (acc ++ s).length ≤ lim then k (acc ++ s) S else .bad := Eq.trans rfl rfl
section
variable {Φ : Fns} {N : Nat} {env : Env} {S : Sh}
theorem ev_m1 (b : Bi) (x y : Ex) : evalE Φ (.m1 b x y) env S = (evalE Φ x env S).bind fun d => fun S1 => if rcvD b d = true then (evalE Φ y env S1).bind fun e => lift (biD b [d, e]) else .bad := by
  rw [evalE]
  congr 1
  funext d S1
  split <;> rfl
theorem ev_fstr (es : Exs) : evalE Φ (.fstr es) env S = (evalF Φ [] es env S).bind fun s => lift (some (.str s)) := by rw [evalE]
theorem ef_nil (acc : List Nat) : evalF Φ acc .nil env S = .ok acc S := by rw [evalF]
theorem ef_cons (acc : List Nat) (e : Ex) (es : Exs) : evalF Φ acc (.cons e es) env S = (evalE Φ e env S).bind fun d => strF (strOf d) acc fun s => evalF Φ s es env := by
  rw [evalF]
  congr 1
  funext d S1
  unfold strF
  cases strOf d with
  | none => rfl
  | some s => dsimp only; split <;> rfl
theorem ev_dgt (a k d : Ex) : evalE Φ (.dgt a k d) env S = (evalE Φ a env S).bind fun x => fun S1 => if isDic x = true then (evalE Φ k env S1).bind fun y => fun S2 => (evalE Φ d env S2).bind fun z => lift (dgtD x y z) else .bad := by
  rw [evalE]
  congr 1
  funext x S1
  split <;> rfl
def tryR (r : ORes) (k : Nat → Env → Sh → ORes) : ORes := match r with
  | .ex c env S => k c env S
  | r => r
@[simp] theorem tryR_nx (env : Env) (S : Sh) (k : Nat → Env → Sh → ORes) : tryR (.nx env S) k = .nx env S := Eq.trans rfl rfl
@[simp] theorem tryR_rt (d : D) (S : Sh) (k : Nat → Env → Sh → ORes) : tryR (.rt d S) k = .rt d S := Eq.trans rfl rfl
@[simp] theorem tryR_ex (c : Nat) (env : Env) (S : Sh) (k : Nat → Env → Sh → ORes) : tryR (.ex c env S) k = k c env S := Eq.trans rfl rfl
def sufR (i : Nat) (r : ORes) : ORes := match r with
  | .nx env S => .nx (env.set i .no) S
  | .rt d S => .rt d S
  | _ => .bad
@[simp] theorem sufR_nx (i : Nat) (env : Env) (S : Sh) : sufR i (.nx env S) = .nx (env.set i .no) S := Eq.trans rfl rfl
@[simp] theorem sufR_rt (i : Nat) (d : D) (S : Sh) : sufR i (.rt d S) = .rt d S := Eq.trans rfl rfl
theorem xe_try (b : Sts) (cs ns : List Nat) (i : Nat) (ss : Sts) : exec Φ N (.tryx b cs ns i ss) env S = tryR (execs Φ N b env S) fun k env' S' => if cs.contains k = true then sufR i (execs Φ N ss (env'.set i (.dat (.exc k))) S') else if ns.contains k = true then .ex k env' S' else .bad := by
  rw [exec]
  cases execs Φ N b env S with
  | ex k env' S' =>
    show (if cs.contains k then _ else _) = (if cs.contains k = true then _ else _)
    by_cases hk : cs.contains k = true
    · rw [if_pos hk, if_pos hk]
      cases execs Φ N ss (env'.set i (.dat (.exc k))) S' <;> rfl
    · rw [if_neg hk, if_neg hk]
  | _ => rfl
end
theorem rv_count (s : List Nat) : rcvD .count (.str s) = true := rfl
theorem rv_split (s : List Nat) : rcvD .split (.str s) = true := rfl
theorem rv_sindex (s : List Nat) : rcvD .sindex (.str s) = true := rfl
theorem rv_tindex (s : List D) : rcvD .tindex (.tup s) = true := rfl
theorem rv_lindex (s : List D) : rcvD .lindex (.lst s) = true := rfl
theorem rv_lcnt (s : List D) : rcvD .lcnt (.lst s) = true := rfl
theorem bd_isx (yes no : List Nat) (k : Nat) : biD (.isx yes no) [.exc k] = if yes.contains k then some (.bl true) else if no.contains k then some (.bl false) else none := rfl
theorem bd_count (s : List Nat) (c : Nat) : biD .count [.str s, .str [c]] = if s.length ≤ lim then some (.int (s.count c)) else none := rfl
theorem bd_split (s : List Nat) (c : Nat) : biD .split [.str s, .str [c]] = if s.length ≤ lim && c < 256 then some (.lst ((splitC c s).map D.str)) else none := rfl
theorem bd_sindex (s : List Nat) (c : Nat) : biD .sindex [.str s, .str [c]] = if s.length ≤ lim then (idxOf (· == c) s).map (fun (k : Nat) => D.int (k : Int)) else none := rfl
theorem bd_tindex (xs : List D) (z : List Nat) : biD .tindex [.tup xs, .str z] = (strsD xs).bind fun ts => (idxOf (· == z) ts).map fun (k : Nat) => D.int (k : Int) := rfl
theorem bd_lindex_b (xs : List D) (z : Bool) : biD .lindex [.lst xs, .bl z] = (blsD xs).bind fun ts => (idxOf (· == z) ts).map fun (k : Nat) => D.int (k : Int) := rfl
theorem bd_lindex_s (xs : List D) (z : List Nat) : biD .lindex [.lst xs, .str z] = (strsD xs).bind fun ts => (idxOf (· == z) ts).map fun (k : Nat) => D.int (k : Int) := rfl
theorem bd_lcnt (xs : List D) (z : Bool) : biD .lcnt [.lst xs, .bl z] = (blsD xs).map fun ts => .int (ts.count z) := rfl
theorem so_s (s : List Nat) : strOf (.str s) = some s := rfl
theorem so_i (i : Int) : strOf (.int i) = if 0 ≤ i ∧ i < 1000000000000000 then some (dig i.toNat) else none := rfl
theorem idc_d (t : Bool) (ks vs : List D) : isDic (.dic t ks vs) = true := rfl
end FT
namespace FT
open PySem PySem.Spec PyProof.Rows L2
def top (i : Nat) : Stmt := PySem.Challenge.pw_fieldtexts_k72_whole_notation.main.body.getD i (.Pass ⟨0, 0, 0, 0⟩)
def tgInB (tg : Tg) (vs : List Nat) : Bool := match tg with | .nm i => vs.contains i | .tp is => is.all fun i => vs.contains i | .tl is => is.all fun i => vs.contains i
theorem tin {tg : Tg} {vs : List Nat} (h : tgInB tg vs = true) : tgIn tg vs := by
  cases tg with
  | nm i => exact List.contains_iff_mem.mp h
  | tp is => exact fun i hi => List.contains_iff_mem.mp (List.all_eq_true.mp h i hi)
  | tl is => exact fun i hi => List.contains_iff_mem.mp (List.all_eq_true.mp h i hi)
theorem nil_all {p : Nat → Prop} : ∀ k ∈ ([] : List Nat), p k := fun _ h => nomatch h
theorem all_cons {p : Nat → Prop} {a : Nat} {l : List Nat} (h : p a) (t : ∀ k ∈ l, p k) : ∀ k ∈ a :: l, p k := fun k hk => (List.mem_cons.mp hk).elim (fun e => e ▸ h) (t k)
theorem boot_ValueError : bootBuiltins "ValueError" = some (.type "ValueError") := by decide +kernel
theorem un9 {n : Nat} {A : Around} (h : Room n A) : A.units + 9 < cLine := by have := h.un; omega
theorem un65 {n : Nat} {A : Around} (h : Room n A) : A.units + 65 < cLine := by have := h.un; omega
structure Fx (P : Program) (w : World) (K : PySem.W.Frag) (mg : Str → Option Value) (G : Glob) : Prop where
  b_all : mg "all" = none
  b_bool : mg "bool" = none
  b_int : mg "int" = none
  b_isinstance : mg "isinstance" = none
  b_len : mg "len" = none
  b_list : mg "list" = none
  b_max : mg "max" = none
  b_min : mg "min" = none
  b_range : mg "range" = none
  b_set : mg "set" = none
  b_sorted : mg "sorted" = none
  b_str : mg "str" = none
  b_tuple : mg "tuple" = none
  g_DIGITS_records : ∃ t, mg "DIGITS_records" = some (.str "0123456789" t)
  g_LETTERS : ∃ t, mg "LETTERS" = some (.str "abcdef" t)
  g_SIGNS : ∃ t, mg "SIGNS" = some (.str "-.0123456789:abcdef" t)
  t_DIGITS_notation : TupG K mg "DIGITS_notation" ([tx "0", tx "1", tx "2", tx "3", tx "4"] : List (List Nat))
  x_FieldError : ExcAt K mg G 0 "FieldError"
  x_InvalidFormat : ExcAt K mg G 1 "InvalidFormat"
  x_InvalidField : ExcAt K mg G 2 "InvalidField"
  x_InvalidRecord : ExcAt K mg G 3 "InvalidRecord"
  x_InvalidText : ExcAt K mg G 4 "InvalidText"
  x_InvalidNumber : ExcAt K mg G 5 "InvalidNumber"
  x_InvalidPlaces : ExcAt K mg G 6 "InvalidPlaces"
  x_NoReading : ExcAt K mg G 7 "NoReading"
  x_Doubtful : ExcAt K mg G 8 "Doubtful"
  x_TooMany : ExcAt K mg G 9 "TooMany"
  x_LastField : ExcAt K mg G 10 "LastField"
  x_NothingToUndo : ExcAt K mg G 11 "NothingToUndo"
  p_ : G.P = P
  w_ : G.w = w
  em : ∀ k ∈ ([4] : List Nat), PySem.W.exmOne K (.ref (G.clA k)) (.ref (G.clA 0)) = some true
  b_ValueError : mg "ValueError" = none
  iv : ∀ k ∈ ([4] : List Nat), ExcC K (G.clA k) ∧ PySem.W.kitOne K (.ref (G.clA k)) (.type "ValueError") = some true
  iy_Doubtful : ∀ k ∈ ([] : List Nat), ExcC K (G.clA k) ∧ PySem.W.kitOne K (.ref (G.clA k)) (.ref (G.clA 8)) = some true
  in_Doubtful : ∀ k ∈ ([4] : List Nat), ExcC K (G.clA k) ∧ PySem.W.kitOne K (.ref (G.clA k)) (.ref (G.clA 8)) = some false
  iy_InvalidField : ∀ k ∈ ([] : List Nat), ExcC K (G.clA k) ∧ PySem.W.kitOne K (.ref (G.clA k)) (.ref (G.clA 2)) = some true
  in_InvalidField : ∀ k ∈ ([4] : List Nat), ExcC K (G.clA k) ∧ PySem.W.kitOne K (.ref (G.clA k)) (.ref (G.clA 2)) = some false
  iy_InvalidFormat : ∀ k ∈ ([] : List Nat), ExcC K (G.clA k) ∧ PySem.W.kitOne K (.ref (G.clA k)) (.ref (G.clA 1)) = some true
  in_InvalidFormat : ∀ k ∈ ([4] : List Nat), ExcC K (G.clA k) ∧ PySem.W.kitOne K (.ref (G.clA k)) (.ref (G.clA 1)) = some false
  iy_InvalidNumber : ∀ k ∈ ([] : List Nat), ExcC K (G.clA k) ∧ PySem.W.kitOne K (.ref (G.clA k)) (.ref (G.clA 5)) = some true
  in_InvalidNumber : ∀ k ∈ ([4] : List Nat), ExcC K (G.clA k) ∧ PySem.W.kitOne K (.ref (G.clA k)) (.ref (G.clA 5)) = some false
  iy_InvalidPlaces : ∀ k ∈ ([] : List Nat), ExcC K (G.clA k) ∧ PySem.W.kitOne K (.ref (G.clA k)) (.ref (G.clA 6)) = some true
  in_InvalidPlaces : ∀ k ∈ ([4] : List Nat), ExcC K (G.clA k) ∧ PySem.W.kitOne K (.ref (G.clA k)) (.ref (G.clA 6)) = some false
  iy_InvalidRecord : ∀ k ∈ ([] : List Nat), ExcC K (G.clA k) ∧ PySem.W.kitOne K (.ref (G.clA k)) (.ref (G.clA 3)) = some true
  in_InvalidRecord : ∀ k ∈ ([4] : List Nat), ExcC K (G.clA k) ∧ PySem.W.kitOne K (.ref (G.clA k)) (.ref (G.clA 3)) = some false
  iy_InvalidText : ∀ k ∈ ([4] : List Nat), ExcC K (G.clA k) ∧ PySem.W.kitOne K (.ref (G.clA k)) (.ref (G.clA 4)) = some true
  in_InvalidText : ∀ k ∈ ([] : List Nat), ExcC K (G.clA k) ∧ PySem.W.kitOne K (.ref (G.clA k)) (.ref (G.clA 4)) = some false
  iy_LastField : ∀ k ∈ ([] : List Nat), ExcC K (G.clA k) ∧ PySem.W.kitOne K (.ref (G.clA k)) (.ref (G.clA 10)) = some true
  in_LastField : ∀ k ∈ ([4] : List Nat), ExcC K (G.clA k) ∧ PySem.W.kitOne K (.ref (G.clA k)) (.ref (G.clA 10)) = some false
  iy_NoReading : ∀ k ∈ ([] : List Nat), ExcC K (G.clA k) ∧ PySem.W.kitOne K (.ref (G.clA k)) (.ref (G.clA 7)) = some true
  in_NoReading : ∀ k ∈ ([4] : List Nat), ExcC K (G.clA k) ∧ PySem.W.kitOne K (.ref (G.clA k)) (.ref (G.clA 7)) = some false
  iy_NothingToUndo : ∀ k ∈ ([] : List Nat), ExcC K (G.clA k) ∧ PySem.W.kitOne K (.ref (G.clA k)) (.ref (G.clA 11)) = some true
  in_NothingToUndo : ∀ k ∈ ([4] : List Nat), ExcC K (G.clA k) ∧ PySem.W.kitOne K (.ref (G.clA k)) (.ref (G.clA 11)) = some false
  iy_TooMany : ∀ k ∈ ([] : List Nat), ExcC K (G.clA k) ∧ PySem.W.kitOne K (.ref (G.clA k)) (.ref (G.clA 9)) = some true
  in_TooMany : ∀ k ∈ ([4] : List Nat), ExcC K (G.clA k) ∧ PySem.W.kitOne K (.ref (G.clA k)) (.ref (G.clA 9)) = some false
def fns : List Str := ["is_between", "is_text", "is_span", "is_simple", "is_field", "is_format", "check_format", "field_text", "form_text", "notation", "number_of", "numbers_in", "read_field", "format_from", "_law_town", "_law_draw", "_law_pick", "_law_outcome", "_law_name", "_law_raises", "_law_signs", "_law_simple", "_law_field", "_law_form", "_law_call", "_law_line", "_law_number", "_law_part", "law"]
abbrev f_is_between : Nat := 0
abbrev f_is_text : Nat := 1
abbrev f_is_span : Nat := 2
abbrev f_is_simple : Nat := 3
abbrev f_is_field : Nat := 4
abbrev f_is_format : Nat := 5
abbrev f_check_format : Nat := 6
abbrev f_field_text : Nat := 7
abbrev f_form_text : Nat := 8
abbrev f_notation : Nat := 9
abbrev f_number_of : Nat := 10
abbrev f_numbers_in : Nat := 11
abbrev f_read_field : Nat := 12
abbrev f_format_from : Nat := 13
abbrev f__law_town : Nat := 14
abbrev f__law_draw : Nat := 15
abbrev f__law_pick : Nat := 16
abbrev f__law_outcome : Nat := 17
abbrev f__law_name : Nat := 18
abbrev f__law_raises : Nat := 19
abbrev f__law_signs : Nat := 20
abbrev f__law_simple : Nat := 21
abbrev f__law_field : Nat := 22
abbrev f__law_form : Nat := 23
abbrev f__law_call : Nat := 24
abbrev f__law_line : Nat := 25
abbrev f__law_number : Nat := 26
abbrev f__law_part : Nat := 27
abbrev f_law : Nat := 28
def b_is_between : Sts := (.cons (.ret (.and (.bi (.isi .int) (.cons (.var 0) .nil)) (.and (.not (.bi (.isi .bool) (.cons (.var 0) .nil))) (.chain .le .le (.var 1) (.var 0) (.var 2))))) .nil)
def b_is_text : Sts := (.cons (.ret (.and (.bi (.isi .str) (.cons (.var 0) .nil)) (.and (.chain .le .le (.var 1) (.bi .len (.cons (.var 0) .nil)) (.var 2)) (.bi .all (.cons (.lc [3] (.cmp .isin (.var 3) (.con (.str (tx "-.0123456789:abcdef")))) (.nm 3) (.e (.var 0)) (.con (.bl true))) .nil))))) .nil)
def b_is_span : Sts := (.cons (.ret (.and (.call f_is_between (.cons (.var 0) (.cons (.con (.int 0)) (.cons (.var 3) .nil)))) (.and (.call f_is_between (.cons (.var 1) (.cons (.var 2) (.cons (.var 3) .nil)))) (.cmp .le (.var 0) (.var 1))))) .nil)
def b_is_simple : Sts := (.cons (.ite (.or (.not (.bi (.isi .tup) (.cons (.var 0) .nil))) (.or (.not (.chain .le .le (.con (.int 2)) (.bi .len (.cons (.var 0) .nil)) (.con (.int 3)))) (.not (.bi (.isi .str) (.cons (.ix (.var 0) (.con (.int 0))) .nil))))) (.cons (.ret (.con (.bl false))) .nil) .nil) (.cons (.ite (.cmp .eq (.bi .len (.cons (.var 0) .nil)) (.con (.int 3))) (.cons (.ret (.and (.cmp .isin (.ix (.var 0) (.con (.int 0))) (.tup (.cons (.con (.str (tx "digits"))) (.cons (.con (.str (tx "letters"))) .nil)))) (.call f_is_span (.cons (.ix (.var 0) (.con (.int 1))) (.cons (.ix (.var 0) (.con (.int 2))) (.cons (.con (.int 0)) (.cons (.con (.int 4)) .nil))))))) .nil) .nil) (.cons (.ite (.cmp .eq (.ix (.var 0) (.con (.int 0))) (.con (.str (tx "word")))) (.cons (.ret (.call f_is_text (.cons (.ix (.var 0) (.con (.int 1))) (.cons (.con (.int 1)) (.cons (.con (.int 4)) .nil))))) .nil) .nil) (.cons (.ite (.cmp .eq (.ix (.var 0) (.con (.int 0))) (.con (.str (tx "number")))) (.cons (.ret (.call f_is_between (.cons (.ix (.var 0) (.con (.int 1))) (.cons (.con (.int 1)) (.cons (.con (.int 4)) .nil))))) .nil) .nil) (.cons (.ite (.or (.cmp .ne (.ix (.var 0) (.con (.int 0))) (.con (.str (tx "choice")))) (.or (.not (.bi (.isi .tup) (.cons (.ix (.var 0) (.con (.int 1))) .nil))) (.not (.chain .le .le (.con (.int 1)) (.bi .len (.cons (.ix (.var 0) (.con (.int 1))) .nil)) (.con (.int 4)))))) (.cons (.ret (.con (.bl false))) .nil) .nil) (.cons (.asg (.nm 1) (.ix (.var 0) (.con (.int 1)))) (.cons (.ite (.not (.bi .all (.cons (.lc [3] (.call f_is_text (.cons (.var 3) (.cons (.con (.int 1)) (.cons (.con (.int 4)) .nil)))) (.nm 3) (.e (.var 1)) (.con (.bl true))) .nil))) (.cons (.ret (.con (.bl false))) .nil) .nil) (.cons (.ret (.bi .all (.cons (.lc [2] (.cmp .lt (.ix (.var 1) (.var 2)) (.ix (.var 1) (.bin .add (.var 2) (.con (.int 1))))) (.nm 2) (.rng1 (.bin .sub (.bi .len (.cons (.var 1) .nil)) (.con (.int 1)))) (.con (.bl true))) .nil))) .nil))))))))
def b_is_field : Sts := (.cons (.ite (.and (.bi (.isi .tup) (.cons (.var 0) .nil)) (.and (.cmp .eq (.bi .len (.cons (.var 0) .nil)) (.con (.int 4))) (.and (.bi (.isi .str) (.cons (.ix (.var 0) (.con (.int 0))) .nil)) (.cmp .eq (.ix (.var 0) (.con (.int 0))) (.con (.str (tx "repeat"))))))) (.cons (.ret (.and (.call f_is_simple (.cons (.ix (.var 0) (.con (.int 1))) .nil)) (.call f_is_span (.cons (.ix (.var 0) (.con (.int 2))) (.cons (.ix (.var 0) (.con (.int 3))) (.cons (.con (.int 1)) (.cons (.con (.int 3)) .nil))))))) .nil) .nil) (.cons (.ret (.call f_is_simple (.cons (.var 0) .nil))) .nil))
def b_is_format : Sts := (.cons (.ret (.and (.bi (.isi .tup) (.cons (.var 0) .nil)) (.and (.chain .le .le (.con (.int 1)) (.bi .len (.cons (.var 0) .nil)) (.con (.int 6))) (.bi .all (.cons (.lc [1] (.call f_is_field (.cons (.var 1) .nil)) (.nm 1) (.e (.var 0)) (.con (.bl true))) .nil))))) .nil)
def b_check_format : Sts := (.cons (.ite (.not (.call f_is_format (.cons (.var 0) .nil))) (.cons (.raise 1) .nil) .nil) .nil)
def b_field_text : Sts := (.cons (.ite (.cmp .eq (.ix (.var 0) (.con (.int 0))) (.con (.str (tx "word")))) (.cons (.ret (.bin .add (.con (.str (tx "="))) (.ix (.var 0) (.con (.int 1))))) .nil) .nil) (.cons (.ite (.cmp .eq (.ix (.var 0) (.con (.int 0))) (.con (.str (tx "choice")))) (.cons (.ret (.bi .join (.cons (.con (.str (tx ""))) (.cons (.lc [1] (.bin .add (.con (.str (tx "|"))) (.var 1)) (.nm 1) (.e (.ix (.var 0) (.con (.int 1)))) (.con (.bl true))) .nil)))) .nil) .nil) (.cons (.ite (.cmp .eq (.ix (.var 0) (.con (.int 0))) (.con (.str (tx "number")))) (.cons (.ret (.fstr (.cons (.con (.str (tx "n"))) (.cons (.ix (.var 0) (.con (.int 1))) .nil)))) .nil) .nil) (.cons (.ite (.cmp .eq (.ix (.var 0) (.con (.int 0))) (.con (.str (tx "repeat")))) (.cons (.ret (.bin .add (.call f_field_text (.cons (.ix (.var 0) (.con (.int 1))) .nil)) (.fstr (.cons (.con (.str (tx "*"))) (.cons (.ix (.var 0) (.con (.int 2))) (.cons (.con (.str (tx ","))) (.cons (.ix (.var 0) (.con (.int 3))) .nil))))))) .nil) .nil) (.cons (.ret (.fstr (.cons (.ix (.ix (.var 0) (.con (.int 0))) (.con (.int 0))) (.cons (.ix (.var 0) (.con (.int 1))) (.cons (.con (.str (tx ","))) (.cons (.ix (.var 0) (.con (.int 2))) .nil)))))) .nil)))))
def b_form_text : Sts := (.cons (.ret (.bi .join (.cons (.con (.str (tx " "))) (.cons (.lc [1] (.call f_field_text (.cons (.var 1) .nil)) (.nm 1) (.e (.var 0)) (.con (.bl true))) .nil)))) .nil)
def b_notation : Sts := (.cons (.expr (.call f_check_format (.cons (.var 0) .nil))) (.cons (.ret (.call f_form_text (.cons (.var 0) .nil))) .nil))
def b_number_of : Sts := (.cons (.ret (.ife (.cmp .isin (.var 0) (.con (.tup (([tx "0", tx "1", tx "2", tx "3", tx "4"] : List (List Nat)).map D.str)))) (.m1 .tindex (.con (.tup (([tx "0", tx "1", tx "2", tx "3", tx "4"] : List (List Nat)).map D.str))) (.var 0)) (.neg (.con (.int 1))))) .nil)
def b_numbers_in : Sts := (.cons (.ret (.bi .tuple (.cons (.lc [1] (.call f_number_of (.cons (.var 1) .nil)) (.nm 1) (.e (.m1 .split (.var 0) (.con (.str (tx ","))))) (.con (.bl true))) .nil))) .nil)
def b_read_field : Sts := (.cons (.ite (.cmp .isin (.con (.str (tx "*"))) (.var 0)) (.cons (.asg (.nm 1) (.m1 .sindex (.var 0) (.con (.str (tx "*"))))) (.cons (.ret (.bin .add (.tup (.cons (.con (.str (tx "repeat"))) (.cons (.call f_read_field (.cons (.sl (.var 0) .no (.at (.var 1))) .nil)) .nil))) (.call f_numbers_in (.cons (.sl (.var 0) (.at (.bin .add (.var 1) (.con (.int 1)))) .no) .nil)))) .nil)) .nil) (.cons (.asg (.tp [2, 3]) (.tup (.cons (.sl (.var 0) .no (.at (.con (.int 1)))) (.cons (.sl (.var 0) (.at (.con (.int 1))) .no) .nil)))) (.cons (.ite (.cmp .eq (.var 2) (.con (.str (tx "=")))) (.cons (.ret (.tup (.cons (.con (.str (tx "word"))) (.cons (.var 3) .nil)))) .nil) .nil) (.cons (.ite (.cmp .eq (.var 2) (.con (.str (tx "|")))) (.cons (.ret (.tup (.cons (.con (.str (tx "choice"))) (.cons (.bi .tuple (.cons (.m1 .split (.var 3) (.con (.str (tx "|")))) .nil)) .nil)))) .nil) .nil) (.cons (.ite (.cmp .eq (.var 2) (.con (.str (tx "n")))) (.cons (.ret (.tup (.cons (.con (.str (tx "number"))) (.cons (.call f_number_of (.cons (.var 3) .nil)) .nil)))) .nil) .nil) (.cons (.ret (.bin .add (.tup (.cons (.dgt (.con (.dic false [.str (tx "d"), .str (tx "l")] [.str (tx "digits"), .str (tx "letters")])) (.var 2) (.con (.str (tx "")))) .nil)) (.call f_numbers_in (.cons (.var 3) .nil)))) .nil))))))
def b_format_from : Sts := (.cons (.ite (.or (.not (.bi (.isi .str) (.cons (.var 0) .nil))) (.or (.cmp .gt (.bi .len (.cons (.var 0) .nil)) (.con (.int 200))) (.cmp .gt (.m1 .count (.var 0) (.con (.str (tx "*")))) (.con (.int 6))))) (.cons (.raise 4) .nil) .nil) (.cons (.asg (.nm 1) (.bi .tuple (.cons (.lc [2] (.call f_read_field (.cons (.var 2) .nil)) (.nm 2) (.e (.m1 .split (.var 0) (.con (.str (tx " "))))) (.con (.bl true))) .nil))) (.cons (.ite (.or (.not (.call f_is_format (.cons (.var 1) .nil))) (.cmp .ne (.call f_form_text (.cons (.var 1) .nil)) (.var 0))) (.cons (.raise 4) .nil) .nil) (.cons (.ret (.var 1)) .nil))))
def b__law_town : Sts := (.cons (.ret (.box (.bin .add (.lst (.cons (.con (.int 0)) .nil)) (.bi .list (.cons (.var 0) .nil))))) .nil)
def b__law_draw : Sts := (.cons (.seth (.var 1) (.con (.int 0)) (.bin .add (.ixb (.var 1) (.con (.int 0))) (.con (.int 1)))) (.cons (.ite (.cmp .eq (.var 0) (.lst .nil)) (.cons (.ret (.bin .mod (.bin .fdiv (.bin .mul (.bin .mul (.ixb (.var 1) (.con (.int 0))) (.ixb (.var 1) (.con (.int 0)))) (.con (.int 7))) (.con (.int 3))) (.var 2))) .nil) .nil) (.cons (.asg (.nm 3) (.bin .mod (.ixb (.var 1) (.con (.int 0))) (.bi .len (.cons (.var 0) .nil)))) (.cons (.asg (.nm 4) (.ixb (.var 1) (.bin .add (.con (.int 1)) (.var 3)))) (.cons (.ite (.and (.cmp .ge (.ix (.var 0) (.var 3)) (.bin .pow (.con (.int 10)) (.con (.int 18)))) (.cmp .gt (.var 4) (.con (.int 0)))) (.cons (.seth (.var 1) (.bin .add (.con (.int 1)) (.var 3)) (.bin .fdiv (.var 4) (.var 2))) (.cons (.ret (.bin .mod (.var 4) (.var 2))) .nil)) .nil) (.cons (.asg (.nm 5) (.bin .mod (.bin .add (.ix (.var 0) (.var 3)) (.bin .mul (.con (.int 104729)) (.ixb (.var 1) (.con (.int 0))))) (.con (.int 4294967291)))) (.cons (.asg (.nm 5) (.bin .mod (.bin .pow (.var 5) (.con (.int 5))) (.con (.int 4294967279)))) (.cons (.ret (.bin .mod (.bin .fdiv (.bin .mod (.bin .add (.bin .mul (.bin .fdiv (.var 5) (.con (.int 64))) (.con (.int 69621))) (.var 5)) (.con (.int 4294967231))) (.con (.int 8))) (.var 2))) .nil))))))))
def b__law_pick : Sts := (.cons (.ret (.ix (.var 2) (.call f__law_draw (.cons (.var 0) (.cons (.var 1) (.cons (.bi .len (.cons (.var 2) .nil)) .nil)))))) .nil)
def b__law_outcome : Sts := (.cons (.asg (.nm 2) (.con .non)) (.cons (.asg (.nm 3) (.con .non)) (.cons (.tryx (.cons (.asg (.nm 3) (.call f__law_call (.cons (.var 0) (.cons (.var 1) .nil)))) .nil) [4] [] 4 (.cons (.asg (.nm 2) (.var 4)) .nil)) (.cons (.ite (.cmp .is (.var 2) (.con .non)) (.cons (.ret (.tup (.cons (.con (.str (tx "returned"))) (.cons (.var 3) .nil)))) .nil) .nil) (.cons (.ret (.tup (.cons (.con (.str (tx "raised"))) (.cons (.call f__law_name (.cons (.var 2) .nil)) .nil)))) .nil)))))
def b__law_name : Sts := (.cons (.ite (.not (.bi (.isx [4] []) (.cons (.var 0) .nil))) (.cons (.ret (.neg (.con (.int 1)))) .nil) .nil) (.cons (.asg (.nm 1) (.lst (.cons (.bi (.isx [] [4]) (.cons (.var 0) .nil)) (.cons (.bi (.isx [] [4]) (.cons (.var 0) .nil)) .nil)))) (.cons (.asg (.nm 1) (.bin .add (.var 1) (.lst (.cons (.bi (.isx [] [4]) (.cons (.var 0) .nil)) (.cons (.bi (.isx [4] []) (.cons (.var 0) .nil)) .nil))))) (.cons (.asg (.nm 1) (.bin .add (.var 1) (.lst (.cons (.bi (.isx [] [4]) (.cons (.var 0) .nil)) (.cons (.bi (.isx [] [4]) (.cons (.var 0) .nil)) .nil))))) (.cons (.asg (.nm 1) (.bin .add (.var 1) (.lst (.cons (.bi (.isx [] [4]) (.cons (.var 0) .nil)) (.cons (.bi (.isx [] [4]) (.cons (.var 0) .nil)) .nil))))) (.cons (.asg (.nm 1) (.bin .add (.var 1) (.lst (.cons (.bi (.isx [] [4]) (.cons (.var 0) .nil)) (.cons (.bi (.isx [] [4]) (.cons (.var 0) .nil)) .nil))))) (.cons (.asg (.nm 1) (.bin .add (.var 1) (.lst (.cons (.bi (.isx [] [4]) (.cons (.var 0) .nil)) .nil)))) (.cons (.ret (.ife (.cmp .eq (.m1 .lcnt (.var 1) (.con (.bl true))) (.con (.int 1))) (.m1 .lindex (.var 1) (.con (.bl true))) (.neg (.con (.int 1))))) .nil))))))))
def b__law_raises : Sts := (.cons (.asg (.nm 1) (.lst (.cons (.con (.str (tx "format"))) (.cons (.con (.str (tx "field"))) (.cons (.con (.str (tx "record"))) (.cons (.con (.str (tx "text"))) (.cons (.con (.str (tx "number"))) (.cons (.con (.str (tx "places"))) .nil)))))))) (.cons (.asg (.nm 1) (.bin .add (.var 1) (.lst (.cons (.con (.str (tx "reading"))) (.cons (.con (.str (tx "doubtful"))) (.cons (.con (.str (tx "many"))) (.cons (.con (.str (tx "last"))) (.cons (.con (.str (tx "undo"))) .nil)))))))) (.cons (.ret (.tup (.cons (.con (.str (tx "raised"))) (.cons (.m1 .lindex (.var 1) (.var 0)) .nil)))) .nil)))
def b__law_signs : Sts := (.cons (.ret (.bi .join (.cons (.con (.str (tx ""))) (.cons (.lc [4] (.call f__law_pick (.cons (.var 0) (.cons (.var 1) (.cons (.bi .list (.cons (.var 2) .nil)) .nil)))) (.nm 4) (.rng1 (.var 3)) (.con (.bl true))) .nil)))) .nil)
def b__law_simple_l0 : Sts := (.cons (.asg (.nm 7) (.call f__law_pick (.cons (.var 0) (.cons (.var 1) (.cons (.lst (.cons (.con (.str (tx "ab"))) (.cons (.con (.str (tx "01"))) (.cons (.con (.str (tx "-."))) (.cons (.con (.str (tx "a0"))) .nil))))) .nil))))) (.cons (.app 4 (.call f__law_signs (.cons (.var 0) (.cons (.var 1) (.cons (.var 7) (.cons (.bin .add (.con (.int 1)) (.call f__law_draw (.cons (.var 0) (.cons (.var 1) (.cons (.var 2) .nil))))) .nil)))))) .nil))
def b__law_simple : Sts := (.cons (.asg (.nm 3) (.call f__law_draw (.cons (.var 0) (.cons (.var 1) (.cons (.con (.int 6)) .nil))))) (.cons (.ite (.cmp .eq (.var 3) (.con (.int 0))) (.cons (.ret (.tup (.cons (.con (.str (tx "word"))) (.cons (.call f__law_signs (.cons (.var 0) (.cons (.var 1) (.cons (.con (.str (tx "-0a"))) (.cons (.bin .add (.con (.int 1)) (.call f__law_draw (.cons (.var 0) (.cons (.var 1) (.cons (.bi .min2 (.cons (.con (.int 2)) (.cons (.var 2) .nil))) .nil))))) .nil))))) .nil)))) .nil) .nil) (.cons (.ite (.cmp .lt (.var 3) (.con (.int 3))) (.cons (.asg (.nm 6) (.call f__law_draw (.cons (.var 0) (.cons (.var 1) (.cons (.bin .add (.var 2) (.con (.int 1))) .nil))))) (.cons (.ret (.tup (.cons (.ix (.tup (.cons (.con (.str (tx "digits"))) (.cons (.con (.str (tx "letters"))) .nil))) (.bin .sub (.var 3) (.con (.int 1)))) (.cons (.var 6) (.cons (.bin .add (.var 6) (.call f__law_draw (.cons (.var 0) (.cons (.var 1) (.cons (.bin .sub (.bin .add (.var 2) (.con (.int 1))) (.var 6)) .nil))))) .nil))))) .nil)) .nil) (.cons (.ite (.cmp .eq (.var 3) (.con (.int 3))) (.cons (.ret (.tup (.cons (.con (.str (tx "number"))) (.cons (.bin .add (.con (.int 1)) (.call f__law_draw (.cons (.var 0) (.cons (.var 1) (.cons (.var 2) .nil))))) .nil)))) .nil) .nil) (.cons (.own 4 (.lst .nil)) (.cons (.for (.nm 5) (.rng1 (.bin .add (.con (.int 1)) (.call f__law_draw (.cons (.var 0) (.cons (.var 1) (.cons (.con (.int 3)) .nil)))))) b__law_simple_l0) (.cons (.fz 4) (.cons (.ret (.tup (.cons (.con (.str (tx "choice"))) (.cons (.bi .tuple (.cons (.sset (.var 4)) .nil)) .nil)))) .nil))))))))
def b__law_field : Sts := (.cons (.asg (.nm 3) (.call f__law_simple (.cons (.var 0) (.cons (.var 1) (.cons (.var 2) .nil))))) (.cons (.ite (.cmp .gt (.call f__law_draw (.cons (.var 0) (.cons (.var 1) (.cons (.con (.int 4)) .nil)))) (.con (.int 0))) (.cons (.ret (.var 3)) .nil) .nil) (.cons (.asg (.nm 4) (.call f__law_draw (.cons (.var 0) (.cons (.var 1) (.cons (.con (.int 3)) .nil))))) (.cons (.ret (.tup (.cons (.con (.str (tx "repeat"))) (.cons (.var 3) (.cons (.var 4) (.cons (.bi .max2 (.cons (.con (.int 1)) (.cons (.bin .add (.var 4) (.call f__law_draw (.cons (.var 0) (.cons (.var 1) (.cons (.con (.int 2)) .nil))))) .nil))) .nil)))))) .nil))))
def b__law_form : Sts := (.cons (.ret (.bi .tuple (.cons (.lc [4] (.call f__law_field (.cons (.var 0) (.cons (.var 1) (.cons (.var 3) .nil)))) (.nm 4) (.rng1 (.bin .add (.con (.int 1)) (.call f__law_draw (.cons (.var 0) (.cons (.var 1) (.cons (.var 2) .nil)))))) (.con (.bl true))) .nil))) .nil)
def b__law_call : Sts := (.cons (.ret (.call f_format_from (.cons (.var 1) .nil))) .nil)
def b__law_line : Sts := (.cons (.ite (.cmp .eq (.ix (.var 0) (.con (.int 0))) (.con (.str (tx "repeat")))) (.cons (.ret (.bin .add (.bin .add (.bin .add (.bin .add (.call f__law_line (.cons (.ix (.var 0) (.con (.int 1))) .nil)) (.con (.str (tx "*")))) (.bi .str (.cons (.ix (.var 0) (.con (.int 2))) .nil))) (.con (.str (tx ",")))) (.bi .str (.cons (.ix (.var 0) (.con (.int 3))) .nil)))) .nil) .nil) (.cons (.ite (.cmp .eq (.ix (.var 0) (.con (.int 0))) (.con (.str (tx "word")))) (.cons (.ret (.bin .add (.con (.str (tx "="))) (.ix (.var 0) (.con (.int 1))))) .nil) .nil) (.cons (.ite (.cmp .eq (.ix (.var 0) (.con (.int 0))) (.con (.str (tx "choice")))) (.cons (.ret (.bi .join (.cons (.con (.str (tx ""))) (.cons (.lc [1] (.bin .add (.con (.str (tx "|"))) (.var 1)) (.nm 1) (.e (.ix (.var 0) (.con (.int 1)))) (.con (.bl true))) .nil)))) .nil) .nil) (.cons (.ite (.cmp .eq (.ix (.var 0) (.con (.int 0))) (.con (.str (tx "number")))) (.cons (.ret (.bin .add (.con (.str (tx "n"))) (.bi .str (.cons (.ix (.var 0) (.con (.int 1))) .nil)))) .nil) .nil) (.cons (.ret (.bin .add (.bin .add (.bin .add (.ix (.ix (.var 0) (.con (.int 0))) (.con (.int 0))) (.bi .str (.cons (.ix (.var 0) (.con (.int 1))) .nil))) (.con (.str (tx ",")))) (.bi .str (.cons (.ix (.var 0) (.con (.int 2))) .nil)))) .nil)))))
def b__law_number : Sts := (.cons (.ret (.ife (.cmp .isin (.var 0) (.tup (.cons (.con (.str (tx "0"))) (.cons (.con (.str (tx "1"))) (.cons (.con (.str (tx "2"))) (.cons (.con (.str (tx "3"))) (.cons (.con (.str (tx "4"))) .nil))))))) (.bi .int (.cons (.var 0) .nil)) (.neg (.con (.int 1))))) .nil)
def b__law_part : Sts := (.cons (.ite (.cmp .eq (.m1 .count (.var 0) (.con (.str (tx "*")))) (.con (.int 1))) (.cons (.asg (.tl [2, 3]) (.m1 .split (.var 0) (.con (.str (tx "*"))))) (.cons (.ret (.bin .add (.tup (.cons (.con (.str (tx "repeat"))) (.cons (.call f__law_part (.cons (.var 2) .nil)) .nil))) (.bi .tuple (.cons (.lc [4] (.call f__law_number (.cons (.var 4) .nil)) (.nm 4) (.e (.m1 .split (.var 3) (.con (.str (tx ","))))) (.con (.bl true))) .nil)))) .nil)) .nil) (.cons (.ite (.cmp .eq (.sl (.var 0) .no (.at (.con (.int 1)))) (.con (.str (tx "=")))) (.cons (.ret (.tup (.cons (.con (.str (tx "word"))) (.cons (.sl (.var 0) (.at (.con (.int 1))) .no) .nil)))) .nil) .nil) (.cons (.ite (.cmp .eq (.sl (.var 0) .no (.at (.con (.int 1)))) (.con (.str (tx "|")))) (.cons (.ret (.tup (.cons (.con (.str (tx "choice"))) (.cons (.bi .tuple (.cons (.m1 .split (.sl (.var 0) (.at (.con (.int 1))) .no) (.con (.str (tx "|")))) .nil)) .nil)))) .nil) .nil) (.cons (.ite (.cmp .eq (.sl (.var 0) .no (.at (.con (.int 1)))) (.con (.str (tx "n")))) (.cons (.ret (.tup (.cons (.con (.str (tx "number"))) (.cons (.call f__law_number (.cons (.sl (.var 0) (.at (.con (.int 1))) .no) .nil)) .nil)))) .nil) .nil) (.cons (.asg (.nm 1) (.dgt (.con (.dic false [.str (tx "d"), .str (tx "l")] [.str (tx "digits"), .str (tx "letters")])) (.sl (.var 0) .no (.at (.con (.int 1)))) (.con (.str (tx ""))))) (.cons (.ret (.bin .add (.tup (.cons (.var 1) .nil)) (.bi .tuple (.cons (.lc [4] (.call f__law_number (.cons (.var 4) .nil)) (.nm 4) (.e (.m1 .split (.sl (.var 0) (.at (.con (.int 1))) .no) (.con (.str (tx ","))))) (.con (.bl true))) .nil)))) .nil))))))
def b_law_l0 : Sts := (.cons (.asg (.nm 7) (.call f__law_draw (.cons (.var 0) (.cons (.var 1) (.cons (.bin .add (.bi .len (.cons (.var 3) .nil)) (.con (.int 1))) .nil))))) (.cons (.asg (.nm 8) (.call f__law_pick (.cons (.var 0) (.cons (.var 1) (.cons (.bin .add (.bi .list (.cons (.con (.str (tx "01245=|ndl*, abg"))) .nil)) (.lst (.cons (.con (.str (tx ""))) .nil))) .nil))))) (.cons (.asg (.nm 9) (.bin .add (.bin .add (.sl (.var 3) .no (.at (.var 7))) (.var 8)) (.sl (.var 3) (.at (.bin .add (.var 7) (.call f__law_draw (.cons (.var 0) (.cons (.var 1) (.cons (.con (.int 2)) .nil)))))) .no))) (.cons (.asg (.nm 6) (.bi .tuple (.cons (.lc [13] (.call f__law_part (.cons (.var 13) .nil)) (.nm 13) (.e (.m1 .split (.var 9) (.con (.str (tx " "))))) (.con (.bl true))) .nil))) (.cons (.asg (.nm 10) (.and (.call f_is_format (.cons (.var 6) .nil)) (.cmp .eq (.bi .join (.cons (.con (.str (tx " "))) (.cons (.lc [11] (.call f__law_line (.cons (.var 11) .nil)) (.nm 11) (.e (.var 6)) (.con (.bl true))) .nil))) (.var 9)))) (.cons (.ite (.cmp .ne (.call f__law_outcome (.cons (.con (.int 0)) (.cons (.var 9) .nil))) (.ife (.var 10) (.tup (.cons (.con (.str (tx "returned"))) (.cons (.var 6) .nil))) (.call f__law_raises (.cons (.con (.str (tx "text"))) .nil)))) (.cons (.ret (.con (.bl false))) .nil) .nil) .nil))))))
def b_law : Sts := (.cons (.asg (.nm 1) (.call f__law_town (.cons (.var 0) .nil))) (.cons (.asg (.nm 2) (.call f__law_form (.cons (.var 0) (.cons (.var 1) (.cons (.con (.int 4)) (.cons (.con (.int 4)) .nil)))))) (.cons (.asg (.nm 3) (.bi .join (.cons (.con (.str (tx " "))) (.cons (.lc [11] (.call f__law_line (.cons (.var 11) .nil)) (.nm 11) (.e (.var 2)) (.con (.bl true))) .nil)))) (.cons (.ite (.or (.cmp .ne (.call f_notation (.cons (.var 2) .nil)) (.var 3)) (.cmp .ne (.call f__law_outcome (.cons (.con (.int 0)) (.cons (.var 3) .nil))) (.tup (.cons (.con (.str (tx "returned"))) (.cons (.var 2) .nil))))) (.cons (.ret (.con (.bl false))) .nil) .nil) (.cons (.for (.nm 4) (.rng1 (.con (.int 8))) b_law_l0) (.cons (.asg (.nm 5) (.lst (.cons (.con .non) (.cons (.con (.int 5)) (.cons (.con (.str (tx ""))) (.cons (.con (.str (tx " "))) (.cons (.con (.str (tx "d"))) (.cons (.con (.str (tx "d1"))) (.cons (.con (.str (tx "d2,1"))) (.cons (.con (.str (tx "d0,5"))) (.cons (.con (.str (tx "n0"))) (.cons (.con (.str (tx "n5"))) (.cons (.con (.str (tx "n01"))) (.cons (.con (.str (tx "="))) (.cons (.con (.str (tx "=g"))) (.cons (.con (.str (tx "|"))) (.cons (.con (.str (tx "|b|a"))) (.cons (.con (.str (tx "|a|a"))) (.cons (.con (.str (tx "=a*0,0"))) .nil))))))))))))))))))) (.cons (.asg (.nm 5) (.bin .add (.var 5) (.lst (.cons (.con (.str (tx "=a*1,1*1,1"))) (.cons (.con (.str (tx "x1,2"))) (.cons (.con (.str (tx "=a =b =a =b =a =b =a"))) (.cons (.con (.str (tx "d 1,2"))) (.cons (.con (.str (tx "d1, 2"))) (.cons (.var 2) (.cons (.lst (.cons (.var 3) .nil)) .nil)))))))))) (.cons (.asg (.nm 5) (.bin .add (.var 5) (.lst (.cons (.bin .add (.var 3) (.con (.str (tx " ")))) (.cons (.con (.bl true)) (.cons (.con (.str (tx "*1,2"))) .nil)))))) (.cons (.ite (.cmp .ne (.lc [12] (.var 12) (.nm 12) (.e (.var 5)) (.cmp .ne (.call f__law_outcome (.cons (.con (.int 0)) (.cons (.var 12) .nil))) (.call f__law_raises (.cons (.con (.str (tx "text"))) .nil)))) (.lst .nil)) (.cons (.ret (.con (.bl false))) .nil) .nil) (.cons (.asg (.nm 6) (.tup (.cons (.tup (.cons (.con (.str (tx "repeat"))) (.cons (.tup (.cons (.con (.str (tx "choice"))) (.cons (.tup (.cons (.con (.str (tx "a"))) (.cons (.con (.str (tx "bc"))) .nil))) .nil))) (.cons (.con (.int 0)) (.cons (.con (.int 3)) .nil))))) (.cons (.tup (.cons (.con (.str (tx "letters"))) (.cons (.con (.int 0)) (.cons (.con (.int 4)) .nil)))) .nil)))) (.cons (.ret (.cmp .eq (.call f__law_outcome (.cons (.con (.int 0)) (.cons (.con (.str (tx "|a|bc*0,3 l0,4"))) .nil))) (.tup (.cons (.con (.str (tx "returned"))) (.cons (.var 6) .nil))))) .nil)))))))))))
section
variable {P : Program} {w : World} {K : PySem.W.Frag} {mg : Str → Option Value} {base : Heap} {G : Glob} {Φ : Fns} {N : Nat}
theorem ok_is_between {n : Nat} {fd : FuncData} (FD : FunD K "is_between" "is_between" (defArgs (top 17)) (defBody (top 17)) (defScope (top 17)) [] [] (G.fnA 0) fd) (C : Fx P w K mg G) (F : ∀ j x, fns[j]? = some x → FnAt P w K mg base G Φ n j x) :
    FnOk P w K mg base (L2.CX P w) (n + 1) (G.fnA 0) fd ["value", "low", "high"] (spF K G (runF Φ N 3 3 b_is_between)) := by
  have sc : FnScope ["value", "low", "high"] ["value", "low", "high"] (defScope (top 17)) := ⟨rfl, rfl, rfl, by decide +kernel, rfl, by decide +kernel, by decide +kernel⟩
  have hN := sc.nd
  refine fn_body (N' := ["value", "low", "high"]) FD sc fun cdv A outer s H E hr => ?_
  have tk : Takes (cxOf (L2.CX P w) P w K mg base ["value", "low", "high"] "is_between" (defScope (top 17)) (G.fnA 0) cdv A outer s H E) (WF E) := takes_of rfl rfl rfl rfl
  have pO : PassesOwn (model P w) (cxOf (L2.CX P w) P w K mg base ["value", "low", "high"] "is_between" (defScope (top 17)) (G.fnA 0) cdv A outer s H E).A (cxOf (L2.CX P w) P w K mg base ["value", "low", "high"] "is_between" (defScope (top 17)) (G.fnA 0) cdv A outer s H E).env (cxOf (L2.CX P w) P w K mg base ["value", "low", "high"] "is_between" (defScope (top 17)) (G.fnA 0) cdv A outer s H E).xe := passes_of rfl
  show DSs _ G Φ N (WF E) (defBody (top 17)) b_is_between
  exact (s_cons (s_ret (d_and (d_isi (t := .int) rfl C.b_isinstance rfl rfl C.b_int (d_v 0 (pv 0))) (d_and (d_not (d_isi (t := .bool) rfl C.b_isinstance rfl rfl C.b_bool (d_v 0 (pv 0)))) (d_one (d_chain (pe_chain op_le op_le (d_v 1 (pv 1)) (d_v 0 (pv 0)) (d_v 2 (pv 2))) od_le od_le))))) s_nil)
theorem ok_is_text {n : Nat} {fd : FuncData} (FD : FunD K "is_text" "is_text" (defArgs (top 18)) (defBody (top 18)) (defScope (top 18)) [] [] (G.fnA 1) fd) (C : Fx P w K mg G) (F : ∀ j x, fns[j]? = some x → FnAt P w K mg base G Φ n j x) :
    FnOk P w K mg base (L2.CX P w) (n + 1) (G.fnA 1) fd ["value", "low", "high"] (spF K G (runF Φ N 3 4 b_is_text)) := by
  have sc : FnScope ["value", "low", "high", "sign"] ["value", "low", "high"] (defScope (top 18)) := ⟨rfl, rfl, rfl, by decide +kernel, rfl, by decide +kernel, by decide +kernel⟩
  have hN := sc.nd
  refine fn_body (N' := ["value", "low", "high", "sign"]) FD sc fun cdv A outer s H E hr => ?_
  have tk : Takes (cxOf (L2.CX P w) P w K mg base ["value", "low", "high", "sign"] "is_text" (defScope (top 18)) (G.fnA 1) cdv A outer s H E) (WF E) := takes_of rfl rfl rfl rfl
  have pO : PassesOwn (model P w) (cxOf (L2.CX P w) P w K mg base ["value", "low", "high", "sign"] "is_text" (defScope (top 18)) (G.fnA 1) cdv A outer s H E).A (cxOf (L2.CX P w) P w K mg base ["value", "low", "high", "sign"] "is_text" (defScope (top 18)) (G.fnA 1) cdv A outer s H E).env (cxOf (L2.CX P w) P w K mg base ["value", "low", "high", "sign"] "is_text" (defScope (top 18)) (G.fnA 1) cdv A outer s H E).xe := passes_of rfl
  show DSs _ G Φ N (WF E) (defBody (top 18)) b_is_text
  exact (s_cons (s_ret (d_and (d_isi (t := .str) rfl C.b_isinstance rfl rfl C.b_str (d_v 0 (pv 0))) (d_and (d_chain (pe_chain op_le op_le (d_v 1 (pv 1)) (d_biB cr_len bi_len rfl C.b_len boot_len (a_cons (d_v 0 (pv 0)) a_nil)) (d_v 2 (pv 2))) od_le od_le) (d_one (d_biB (cr_all rfl) bi_all rfl C.b_all boot_all (a_cons (d_own (o_lc (own := [("sign", 3)]) rfl hN (i_e (d_v 0 (pv 0))) (blkOk_by (by kernel_rfl)) (fun _ _ _ _ _ => (pg_name (i := 3) hN rfl (by first | exact Or.inl rfl | exact Or.inr rfl))) (fun _ _ _ _ _ => ts_nil) (fun _ _ _ _ _ => (d_cmp (op_inAll (un65 hr)) od_in (d_v 3 (pv 3)) (d_gstr rfl C.g_SIGNS) (by with_unfolding_all rfl))) tg_nm (tin rfl))) a_nil)))))) s_nil)
theorem ok_is_span {n : Nat} {fd : FuncData} (FD : FunD K "is_span" "is_span" (defArgs (top 19)) (defBody (top 19)) (defScope (top 19)) [] [] (G.fnA 2) fd) (C : Fx P w K mg G) (F : ∀ j x, fns[j]? = some x → FnAt P w K mg base G Φ n j x) :
    FnOk P w K mg base (L2.CX P w) (n + 1) (G.fnA 2) fd ["low", "high", "least", "most"] (spF K G (runF Φ N 4 4 b_is_span)) := by
  have sc : FnScope ["low", "high", "least", "most"] ["low", "high", "least", "most"] (defScope (top 19)) := ⟨rfl, rfl, rfl, by decide +kernel, rfl, by decide +kernel, by decide +kernel⟩
  have hN := sc.nd
  refine fn_body (N' := ["low", "high", "least", "most"]) FD sc fun cdv A outer s H E hr => ?_
  have tk : Takes (cxOf (L2.CX P w) P w K mg base ["low", "high", "least", "most"] "is_span" (defScope (top 19)) (G.fnA 2) cdv A outer s H E) (WF E) := takes_of rfl rfl rfl rfl
  have pO : PassesOwn (model P w) (cxOf (L2.CX P w) P w K mg base ["low", "high", "least", "most"] "is_span" (defScope (top 19)) (G.fnA 2) cdv A outer s H E).A (cxOf (L2.CX P w) P w K mg base ["low", "high", "least", "most"] "is_span" (defScope (top 19)) (G.fnA 2) cdv A outer s H E).env (cxOf (L2.CX P w) P w K mg base ["low", "high", "least", "most"] "is_span" (defScope (top 19)) (G.fnA 2) cdv A outer s H E).xe := passes_of rfl
  show DSs _ G Φ N (WF E) (defBody (top 19)) b_is_span
  exact (s_cons (s_ret (d_and (d_call (F f_is_between _ rfl) hr tk rfl (a_cons (d_v 0 (pv 0)) (a_cons (d_int) (a_cons (d_v 3 (pv 3)) a_nil)))) (d_and (d_call (F f_is_between _ rfl) hr tk rfl (a_cons (d_v 1 (pv 1)) (a_cons (d_v 2 (pv 2)) (a_cons (d_v 3 (pv 3)) a_nil)))) (d_one (d_cmp op_le od_le (d_v 0 (pv 0)) (d_v 1 (pv 1)) (nomark _)))))) s_nil)
theorem ok_is_simple {n : Nat} {fd : FuncData} (FD : FunD K "is_simple" "is_simple" (defArgs (top 20)) (defBody (top 20)) (defScope (top 20)) [] [] (G.fnA 3) fd) (C : Fx P w K mg G) (F : ∀ j x, fns[j]? = some x → FnAt P w K mg base G Φ n j x) :
    FnOk P w K mg base (L2.CX P w) (n + 1) (G.fnA 3) fd ["value"] (spF K G (runF Φ N 1 4 b_is_simple)) := by
  have sc : FnScope ["value", "texts", "k", "text"] ["value"] (defScope (top 20)) := ⟨rfl, rfl, rfl, by decide +kernel, rfl, by decide +kernel, by decide +kernel⟩
  have hN := sc.nd
  refine fn_body (N' := ["value", "texts", "k", "text"]) FD sc fun cdv A outer s H E hr => ?_
  have tk : Takes (cxOf (L2.CX P w) P w K mg base ["value", "texts", "k", "text"] "is_simple" (defScope (top 20)) (G.fnA 3) cdv A outer s H E) (WF E) := takes_of rfl rfl rfl rfl
  have pO : PassesOwn (model P w) (cxOf (L2.CX P w) P w K mg base ["value", "texts", "k", "text"] "is_simple" (defScope (top 20)) (G.fnA 3) cdv A outer s H E).A (cxOf (L2.CX P w) P w K mg base ["value", "texts", "k", "text"] "is_simple" (defScope (top 20)) (G.fnA 3) cdv A outer s H E).env (cxOf (L2.CX P w) P w K mg base ["value", "texts", "k", "text"] "is_simple" (defScope (top 20)) (G.fnA 3) cdv A outer s H E).xe := passes_of rfl
  show DSs _ G Φ N (WF E) (defBody (top 20)) b_is_simple
  exact (s_cons (s_ite (t_w (w_or (t_not (t_val (d_isi (t := .tup) rfl C.b_isinstance rfl rfl C.b_tuple (d_v 0 (pv 0))))) (w_or (t_not (t_chain (pt_chain op_le op_le (d_int) (d_biB cr_len bi_len rfl C.b_len boot_len (a_cons (d_v 0 (pv 0)) a_nil)) (d_int)) od_le od_le)) (w_or1 (t_not (t_val (d_isi (t := .str) rfl C.b_isinstance rfl rfl C.b_str (d_ix (d_v 0 (pv 0)) (d_int) fun _ _ => rfl)))))))) (s_cons (s_ret (d_bl)) s_nil) s_nil) (s_cons (s_ite (t_cmp (op_eqD hr.units) od_eq (d_biB cr_len bi_len rfl C.b_len boot_len (a_cons (d_v 0 (pv 0)) a_nil)) (d_int) (nomark _)) (s_cons (s_ret (d_and (d_cmp (op_inAll (un65 hr)) od_in (d_ix (d_v 0 (pv 0)) (d_int) fun _ _ => rfl) (d_tup (a_cons (d_strc) (a_cons (d_strc) a_nil))) (by with_unfolding_all rfl)) (d_one (d_call (F f_is_span _ rfl) hr tk rfl (a_cons (d_ix (d_v 0 (pv 0)) (d_int) fun _ _ => rfl) (a_cons (d_ix (d_v 0 (pv 0)) (d_int) fun _ _ => rfl) (a_cons (d_int) (a_cons (d_int) a_nil)))))))) s_nil) s_nil) (s_cons (s_ite (t_cmp (op_eqD hr.units) od_eq (d_ix (d_v 0 (pv 0)) (d_int) fun _ _ => rfl) (d_strc) (nomark _)) (s_cons (s_ret (d_call (F f_is_text _ rfl) hr tk rfl (a_cons (d_ix (d_v 0 (pv 0)) (d_int) fun _ _ => rfl) (a_cons (d_int) (a_cons (d_int) a_nil))))) s_nil) s_nil) (s_cons (s_ite (t_cmp (op_eqD hr.units) od_eq (d_ix (d_v 0 (pv 0)) (d_int) fun _ _ => rfl) (d_strc) (nomark _)) (s_cons (s_ret (d_call (F f_is_between _ rfl) hr tk rfl (a_cons (d_ix (d_v 0 (pv 0)) (d_int) fun _ _ => rfl) (a_cons (d_int) (a_cons (d_int) a_nil))))) s_nil) s_nil) (s_cons (s_ite (t_w (w_or (t_cmp (op_neD hr.units) od_ne (d_ix (d_v 0 (pv 0)) (d_int) fun _ _ => rfl) (d_strc) (nomark _)) (w_or (t_not (t_val (d_isi (t := .tup) rfl C.b_isinstance rfl rfl C.b_tuple (d_ix (d_v 0 (pv 0)) (d_int) fun _ _ => rfl)))) (w_or1 (t_not (t_chain (pt_chain op_le op_le (d_int) (d_biB cr_len bi_len rfl C.b_len boot_len (a_cons (d_ix (d_v 0 (pv 0)) (d_int) fun _ _ => rfl) a_nil)) (d_int)) od_le od_le)))))) (s_cons (s_ret (d_bl)) s_nil) s_nil) (s_cons (s_asg (ps_set (i := 1) hN rfl (by first | exact Or.inl rfl | exact Or.inr rfl) (d_ix (d_v 0 (pv 0)) (d_int) fun _ _ => rfl)) tg_nm) (s_cons (s_ite (t_not (t_val (d_biB (cr_all rfl) bi_all rfl C.b_all boot_all (a_cons (d_own (o_lc (own := [("text", 3)]) rfl hN (i_e (d_v 1 (pv 1))) (blkOk_by (by kernel_rfl)) (fun _ _ _ _ _ => (pg_name (i := 3) hN rfl (by first | exact Or.inl rfl | exact Or.inr rfl))) (fun _ _ _ _ _ => ts_nil) (fun _ _ _ _ _ => (d_call (F f_is_text _ rfl) hr takes0 rfl (a_cons (d_v 3 (pv 3)) (a_cons (d_int) (a_cons (d_int) a_nil))))) tg_nm (tin rfl))) a_nil)))) (s_cons (s_ret (d_bl)) s_nil) s_nil) (s_cons (s_ret (d_biB (cr_all rfl) bi_all rfl C.b_all boot_all (a_cons (d_own (o_lc (own := [("k", 2)]) rfl hN (i_rng1 rfl C.b_range (a_cons (d_bin op_sub od_sub (d_biB cr_len bi_len rfl C.b_len boot_len (a_cons (d_v 1 (pv 1)) a_nil)) (d_int)) a_nil)) (blkOk_by (by kernel_rfl)) (fun _ _ _ _ _ => (pg_name (i := 2) hN rfl (by first | exact Or.inl rfl | exact Or.inr rfl))) (fun _ _ _ _ _ => ts_nil) (fun _ _ _ _ _ => (d_cmp op_ltAll od_lt (d_ix (d_v 1 (pv 1)) (d_v 2 (pv 2)) fun _ _ => rfl) (d_ix (d_v 1 (pv 1)) (d_bin op_addAll od_add (d_v 2 (pv 2)) (d_int)) fun _ _ => rfl) (nomark _))) tg_nm (tin rfl))) a_nil))) s_nil))))))))
theorem ok_is_field {n : Nat} {fd : FuncData} (FD : FunD K "is_field" "is_field" (defArgs (top 21)) (defBody (top 21)) (defScope (top 21)) [] [] (G.fnA 4) fd) (C : Fx P w K mg G) (F : ∀ j x, fns[j]? = some x → FnAt P w K mg base G Φ n j x) :
    FnOk P w K mg base (L2.CX P w) (n + 1) (G.fnA 4) fd ["value"] (spF K G (runF Φ N 1 1 b_is_field)) := by
  have sc : FnScope ["value"] ["value"] (defScope (top 21)) := ⟨rfl, rfl, rfl, by decide +kernel, rfl, by decide +kernel, by decide +kernel⟩
  have hN := sc.nd
  refine fn_body (N' := ["value"]) FD sc fun cdv A outer s H E hr => ?_
  have tk : Takes (cxOf (L2.CX P w) P w K mg base ["value"] "is_field" (defScope (top 21)) (G.fnA 4) cdv A outer s H E) (WF E) := takes_of rfl rfl rfl rfl
  have pO : PassesOwn (model P w) (cxOf (L2.CX P w) P w K mg base ["value"] "is_field" (defScope (top 21)) (G.fnA 4) cdv A outer s H E).A (cxOf (L2.CX P w) P w K mg base ["value"] "is_field" (defScope (top 21)) (G.fnA 4) cdv A outer s H E).env (cxOf (L2.CX P w) P w K mg base ["value"] "is_field" (defScope (top 21)) (G.fnA 4) cdv A outer s H E).xe := passes_of rfl
  show DSs _ G Φ N (WF E) (defBody (top 21)) b_is_field
  exact (s_cons (s_ite (t_w (w_and (t_val (d_isi (t := .tup) rfl C.b_isinstance rfl rfl C.b_tuple (d_v 0 (pv 0)))) (w_and (t_cmp (op_eqD hr.units) od_eq (d_biB cr_len bi_len rfl C.b_len boot_len (a_cons (d_v 0 (pv 0)) a_nil)) (d_int) (nomark _)) (w_and (t_val (d_isi (t := .str) rfl C.b_isinstance rfl rfl C.b_str (d_ix (d_v 0 (pv 0)) (d_int) fun _ _ => rfl))) (w_and1 (t_cmp (op_eqD hr.units) od_eq (d_ix (d_v 0 (pv 0)) (d_int) fun _ _ => rfl) (d_strc) (nomark _))))))) (s_cons (s_ret (d_and (d_call (F f_is_simple _ rfl) hr tk rfl (a_cons (d_ix (d_v 0 (pv 0)) (d_int) fun _ _ => rfl) a_nil)) (d_one (d_call (F f_is_span _ rfl) hr tk rfl (a_cons (d_ix (d_v 0 (pv 0)) (d_int) fun _ _ => rfl) (a_cons (d_ix (d_v 0 (pv 0)) (d_int) fun _ _ => rfl) (a_cons (d_int) (a_cons (d_int) a_nil)))))))) s_nil) s_nil) (s_cons (s_ret (d_call (F f_is_simple _ rfl) hr tk rfl (a_cons (d_v 0 (pv 0)) a_nil))) s_nil))
theorem ok_is_format {n : Nat} {fd : FuncData} (FD : FunD K "is_format" "is_format" (defArgs (top 22)) (defBody (top 22)) (defScope (top 22)) [] [] (G.fnA 5) fd) (C : Fx P w K mg G) (F : ∀ j x, fns[j]? = some x → FnAt P w K mg base G Φ n j x) :
    FnOk P w K mg base (L2.CX P w) (n + 1) (G.fnA 5) fd ["value"] (spF K G (runF Φ N 1 2 b_is_format)) := by
  have sc : FnScope ["value", "field"] ["value"] (defScope (top 22)) := ⟨rfl, rfl, rfl, by decide +kernel, rfl, by decide +kernel, by decide +kernel⟩
  have hN := sc.nd
  refine fn_body (N' := ["value", "field"]) FD sc fun cdv A outer s H E hr => ?_
  have tk : Takes (cxOf (L2.CX P w) P w K mg base ["value", "field"] "is_format" (defScope (top 22)) (G.fnA 5) cdv A outer s H E) (WF E) := takes_of rfl rfl rfl rfl
  have pO : PassesOwn (model P w) (cxOf (L2.CX P w) P w K mg base ["value", "field"] "is_format" (defScope (top 22)) (G.fnA 5) cdv A outer s H E).A (cxOf (L2.CX P w) P w K mg base ["value", "field"] "is_format" (defScope (top 22)) (G.fnA 5) cdv A outer s H E).env (cxOf (L2.CX P w) P w K mg base ["value", "field"] "is_format" (defScope (top 22)) (G.fnA 5) cdv A outer s H E).xe := passes_of rfl
  show DSs _ G Φ N (WF E) (defBody (top 22)) b_is_format
  exact (s_cons (s_ret (d_and (d_isi (t := .tup) rfl C.b_isinstance rfl rfl C.b_tuple (d_v 0 (pv 0))) (d_and (d_chain (pe_chain op_le op_le (d_int) (d_biB cr_len bi_len rfl C.b_len boot_len (a_cons (d_v 0 (pv 0)) a_nil)) (d_int)) od_le od_le) (d_one (d_biB (cr_all rfl) bi_all rfl C.b_all boot_all (a_cons (d_own (o_lc (own := [("field", 1)]) rfl hN (i_e (d_v 0 (pv 0))) (blkOk_by (by kernel_rfl)) (fun _ _ _ _ _ => (pg_name (i := 1) hN rfl (by first | exact Or.inl rfl | exact Or.inr rfl))) (fun _ _ _ _ _ => ts_nil) (fun _ _ _ _ _ => (d_call (F f_is_field _ rfl) hr takes0 rfl (a_cons (d_v 1 (pv 1)) a_nil))) tg_nm (tin rfl))) a_nil)))))) s_nil)
theorem ok_check_format {n : Nat} {fd : FuncData} (FD : FunD K "check_format" "check_format" (defArgs (top 23)) (defBody (top 23)) (defScope (top 23)) [] [] (G.fnA 6) fd) (C : Fx P w K mg G) (F : ∀ j x, fns[j]? = some x → FnAt P w K mg base G Φ n j x) :
    FnOk P w K mg base (L2.CX P w) (n + 1) (G.fnA 6) fd ["value"] (spF K G (runF Φ N 1 1 b_check_format)) := by
  have sc : FnScope ["value"] ["value"] (defScope (top 23)) := ⟨rfl, rfl, rfl, by decide +kernel, rfl, by decide +kernel, by decide +kernel⟩
  have hN := sc.nd
  refine fn_body (N' := ["value"]) FD sc fun cdv A outer s H E hr => ?_
  have tk : Takes (cxOf (L2.CX P w) P w K mg base ["value"] "check_format" (defScope (top 23)) (G.fnA 6) cdv A outer s H E) (WF E) := takes_of rfl rfl rfl rfl
  have pO : PassesOwn (model P w) (cxOf (L2.CX P w) P w K mg base ["value"] "check_format" (defScope (top 23)) (G.fnA 6) cdv A outer s H E).A (cxOf (L2.CX P w) P w K mg base ["value"] "check_format" (defScope (top 23)) (G.fnA 6) cdv A outer s H E).env (cxOf (L2.CX P w) P w K mg base ["value"] "check_format" (defScope (top 23)) (G.fnA 6) cdv A outer s H E).xe := passes_of rfl
  show DSs _ G Φ N (WF E) (defBody (top 23)) b_check_format
  exact (s_cons (s_ite (t_not (t_val (d_call (F f_is_format _ rfl) hr tk rfl (a_cons (d_v 0 (pv 0)) a_nil)))) (s_cons (s_raiseX rfl tk C.x_InvalidFormat rfl) s_nil) s_nil) s_nil)
theorem ok_field_text {n : Nat} {fd : FuncData} (FD : FunD K "field_text" "field_text" (defArgs (top 26)) (defBody (top 26)) (defScope (top 26)) [] [] (G.fnA 7) fd) (C : Fx P w K mg G) (F : ∀ j x, fns[j]? = some x → FnAt P w K mg base G Φ n j x) :
    FnOk P w K mg base (L2.CX P w) (n + 1) (G.fnA 7) fd ["field"] (spF K G (runF Φ N 1 2 b_field_text)) := by
  have sc : FnScope ["field", "text"] ["field"] (defScope (top 26)) := ⟨rfl, rfl, rfl, by decide +kernel, rfl, by decide +kernel, by decide +kernel⟩
  have hN := sc.nd
  refine fn_body (N' := ["field", "text"]) FD sc fun cdv A outer s H E hr => ?_
  have tk : Takes (cxOf (L2.CX P w) P w K mg base ["field", "text"] "field_text" (defScope (top 26)) (G.fnA 7) cdv A outer s H E) (WF E) := takes_of rfl rfl rfl rfl
  have pO : PassesOwn (model P w) (cxOf (L2.CX P w) P w K mg base ["field", "text"] "field_text" (defScope (top 26)) (G.fnA 7) cdv A outer s H E).A (cxOf (L2.CX P w) P w K mg base ["field", "text"] "field_text" (defScope (top 26)) (G.fnA 7) cdv A outer s H E).env (cxOf (L2.CX P w) P w K mg base ["field", "text"] "field_text" (defScope (top 26)) (G.fnA 7) cdv A outer s H E).xe := passes_of rfl
  show DSs _ G Φ N (WF E) (defBody (top 26)) b_field_text
  exact (s_cons (s_ite (t_cmp (op_eqD hr.units) od_eq (d_ix (d_v 0 (pv 0)) (d_int) fun _ _ => rfl) (d_strc) (nomark _)) (s_cons (s_ret (d_bin op_addAll od_add (d_strc) (d_ix (d_v 0 (pv 0)) (d_int) fun _ _ => rfl))) s_nil) s_nil) (s_cons (s_ite (t_cmp (op_eqD hr.units) od_eq (d_ix (d_v 0 (pv 0)) (d_int) fun _ _ => rfl) (d_strc) (nomark _)) (s_cons (s_ret (d_join (d_strc) (d_own (o_lc (own := [("text", 1)]) rfl hN (i_e (d_ix (d_v 0 (pv 0)) (d_int) fun _ _ => rfl)) (blkOk_by (by kernel_rfl)) (fun _ _ _ _ _ => (pg_name (i := 1) hN rfl (by first | exact Or.inl rfl | exact Or.inr rfl))) (fun _ _ _ _ _ => ts_nil) (fun _ _ _ _ _ => (d_bin op_addAll od_add (d_strc) (d_v 1 (pv 1)))) tg_nm (tin rfl))))) s_nil) s_nil) (s_cons (s_ite (t_cmp (op_eqD hr.units) od_eq (d_ix (d_v 0 (pv 0)) (d_int) fun _ _ => rfl) (d_strc) (nomark _)) (s_cons (s_ret (d_fstr (jp_lit (jp_fmt (d_ix (d_v 0 (pv 0)) (d_int) fun _ _ => rfl) jp_nil)))) s_nil) s_nil) (s_cons (s_ite (t_cmp (op_eqD hr.units) od_eq (d_ix (d_v 0 (pv 0)) (d_int) fun _ _ => rfl) (d_strc) (nomark _)) (s_cons (s_ret (d_bin op_addAll od_add (d_call (F f_field_text _ rfl) hr tk rfl (a_cons (d_ix (d_v 0 (pv 0)) (d_int) fun _ _ => rfl) a_nil)) (d_fstr (jp_lit (jp_fmt (d_ix (d_v 0 (pv 0)) (d_int) fun _ _ => rfl) (jp_lit (jp_fmt (d_ix (d_v 0 (pv 0)) (d_int) fun _ _ => rfl) jp_nil))))))) s_nil) s_nil) (s_cons (s_ret (d_fstr (jp_fmt (d_ix (d_ix (d_v 0 (pv 0)) (d_int) fun _ _ => rfl) (d_int) fun _ _ => rfl) (jp_fmt (d_ix (d_v 0 (pv 0)) (d_int) fun _ _ => rfl) (jp_lit (jp_fmt (d_ix (d_v 0 (pv 0)) (d_int) fun _ _ => rfl) jp_nil)))))) s_nil)))))
theorem ok_form_text {n : Nat} {fd : FuncData} (FD : FunD K "form_text" "form_text" (defArgs (top 27)) (defBody (top 27)) (defScope (top 27)) [] [] (G.fnA 8) fd) (C : Fx P w K mg G) (F : ∀ j x, fns[j]? = some x → FnAt P w K mg base G Φ n j x) :
    FnOk P w K mg base (L2.CX P w) (n + 1) (G.fnA 8) fd ["form"] (spF K G (runF Φ N 1 2 b_form_text)) := by
  have sc : FnScope ["form", "field"] ["form"] (defScope (top 27)) := ⟨rfl, rfl, rfl, by decide +kernel, rfl, by decide +kernel, by decide +kernel⟩
  have hN := sc.nd
  refine fn_body (N' := ["form", "field"]) FD sc fun cdv A outer s H E hr => ?_
  have tk : Takes (cxOf (L2.CX P w) P w K mg base ["form", "field"] "form_text" (defScope (top 27)) (G.fnA 8) cdv A outer s H E) (WF E) := takes_of rfl rfl rfl rfl
  have pO : PassesOwn (model P w) (cxOf (L2.CX P w) P w K mg base ["form", "field"] "form_text" (defScope (top 27)) (G.fnA 8) cdv A outer s H E).A (cxOf (L2.CX P w) P w K mg base ["form", "field"] "form_text" (defScope (top 27)) (G.fnA 8) cdv A outer s H E).env (cxOf (L2.CX P w) P w K mg base ["form", "field"] "form_text" (defScope (top 27)) (G.fnA 8) cdv A outer s H E).xe := passes_of rfl
  show DSs _ G Φ N (WF E) (defBody (top 27)) b_form_text
  exact (s_cons (s_ret (d_join (d_strc) (d_own (o_lc (own := [("field", 1)]) rfl hN (i_e (d_v 0 (pv 0))) (blkOk_by (by kernel_rfl)) (fun _ _ _ _ _ => (pg_name (i := 1) hN rfl (by first | exact Or.inl rfl | exact Or.inr rfl))) (fun _ _ _ _ _ => ts_nil) (fun _ _ _ _ _ => (d_call (F f_field_text _ rfl) hr takes0 rfl (a_cons (d_v 1 (pv 1)) a_nil))) tg_nm (tin rfl))))) s_nil)
theorem ok_notation {n : Nat} {fd : FuncData} (FD : FunD K "notation" "notation" (defArgs (top 28)) (defBody (top 28)) (defScope (top 28)) [] [] (G.fnA 9) fd) (C : Fx P w K mg G) (F : ∀ j x, fns[j]? = some x → FnAt P w K mg base G Φ n j x) :
    FnOk P w K mg base (L2.CX P w) (n + 1) (G.fnA 9) fd ["form"] (spF K G (runF Φ N 1 1 b_notation)) := by
  have sc : FnScope ["form"] ["form"] (defScope (top 28)) := ⟨rfl, rfl, rfl, by decide +kernel, rfl, by decide +kernel, by decide +kernel⟩
  have hN := sc.nd
  refine fn_body (N' := ["form"]) FD sc fun cdv A outer s H E hr => ?_
  have tk : Takes (cxOf (L2.CX P w) P w K mg base ["form"] "notation" (defScope (top 28)) (G.fnA 9) cdv A outer s H E) (WF E) := takes_of rfl rfl rfl rfl
  have pO : PassesOwn (model P w) (cxOf (L2.CX P w) P w K mg base ["form"] "notation" (defScope (top 28)) (G.fnA 9) cdv A outer s H E).A (cxOf (L2.CX P w) P w K mg base ["form"] "notation" (defScope (top 28)) (G.fnA 9) cdv A outer s H E).env (cxOf (L2.CX P w) P w K mg base ["form"] "notation" (defScope (top 28)) (G.fnA 9) cdv A outer s H E).xe := passes_of rfl
  show DSs _ G Φ N (WF E) (defBody (top 28)) b_notation
  exact (s_cons (s_expr (ps_expr (d_call (F f_check_format _ rfl) hr tk rfl (a_cons (d_v 0 (pv 0)) a_nil)))) (s_cons (s_ret (d_call (F f_form_text _ rfl) hr tk rfl (a_cons (d_v 0 (pv 0)) a_nil))) s_nil))
theorem ok_number_of {n : Nat} {fd : FuncData} (FD : FunD K "number_of" "number_of" (defArgs (top 29)) (defBody (top 29)) (defScope (top 29)) [] [] (G.fnA 10) fd) (C : Fx P w K mg G) (F : ∀ j x, fns[j]? = some x → FnAt P w K mg base G Φ n j x) :
    FnOk P w K mg base (L2.CX P w) (n + 1) (G.fnA 10) fd ["word"] (spF K G (runF Φ N 1 1 b_number_of)) := by
  have sc : FnScope ["word"] ["word"] (defScope (top 29)) := ⟨rfl, rfl, rfl, by decide +kernel, rfl, by decide +kernel, by decide +kernel⟩
  have hN := sc.nd
  refine fn_body (N' := ["word"]) FD sc fun cdv A outer s H E hr => ?_
  have tk : Takes (cxOf (L2.CX P w) P w K mg base ["word"] "number_of" (defScope (top 29)) (G.fnA 10) cdv A outer s H E) (WF E) := takes_of rfl rfl rfl rfl
  have pO : PassesOwn (model P w) (cxOf (L2.CX P w) P w K mg base ["word"] "number_of" (defScope (top 29)) (G.fnA 10) cdv A outer s H E).A (cxOf (L2.CX P w) P w K mg base ["word"] "number_of" (defScope (top 29)) (G.fnA 10) cdv A outer s H E).env (cxOf (L2.CX P w) P w K mg base ["word"] "number_of" (defScope (top 29)) (G.fnA 10) cdv A outer s H E).xe := passes_of rfl
  show DSs _ G Φ N (WF E) (defBody (top 29)) b_number_of
  exact (s_cons (s_ret (d_ife (t_cmp (op_inAll (un65 hr)) od_in (d_v 0 (pv 0)) (d_gtup rfl C.t_DIGITS_notation) (by with_unfolding_all rfl)) (d_tindex rfl C.t_DIGITS_notation (d_v 0 (pv 0))) (d_neg (d_int)))) s_nil)
theorem ok_numbers_in {n : Nat} {fd : FuncData} (FD : FunD K "numbers_in" "numbers_in" (defArgs (top 30)) (defBody (top 30)) (defScope (top 30)) [] [] (G.fnA 11) fd) (C : Fx P w K mg G) (F : ∀ j x, fns[j]? = some x → FnAt P w K mg base G Φ n j x) :
    FnOk P w K mg base (L2.CX P w) (n + 1) (G.fnA 11) fd ["text"] (spF K G (runF Φ N 1 2 b_numbers_in)) := by
  have sc : FnScope ["text", "word"] ["text"] (defScope (top 30)) := ⟨rfl, rfl, rfl, by decide +kernel, rfl, by decide +kernel, by decide +kernel⟩
  have hN := sc.nd
  refine fn_body (N' := ["text", "word"]) FD sc fun cdv A outer s H E hr => ?_
  have tk : Takes (cxOf (L2.CX P w) P w K mg base ["text", "word"] "numbers_in" (defScope (top 30)) (G.fnA 11) cdv A outer s H E) (WF E) := takes_of rfl rfl rfl rfl
  have pO : PassesOwn (model P w) (cxOf (L2.CX P w) P w K mg base ["text", "word"] "numbers_in" (defScope (top 30)) (G.fnA 11) cdv A outer s H E).A (cxOf (L2.CX P w) P w K mg base ["text", "word"] "numbers_in" (defScope (top 30)) (G.fnA 11) cdv A outer s H E).env (cxOf (L2.CX P w) P w K mg base ["text", "word"] "numbers_in" (defScope (top 30)) (G.fnA 11) cdv A outer s H E).xe := passes_of rfl
  show DSs _ G Φ N (WF E) (defBody (top 30)) b_numbers_in
  exact (s_cons (s_ret (d_biT cr_tuple bi_tuple rfl C.b_tuple boot_tuple (a_cons (d_own (o_lc (own := [("word", 1)]) rfl hN (i_e (d_split (d_v 0 (pv 0)) (d_strc))) (blkOk_by (by kernel_rfl)) (fun _ _ _ _ _ => (pg_name (i := 1) hN rfl (by first | exact Or.inl rfl | exact Or.inr rfl))) (fun _ _ _ _ _ => ts_nil) (fun _ _ _ _ _ => (d_call (F f_number_of _ rfl) hr takes0 rfl (a_cons (d_v 1 (pv 1)) a_nil))) tg_nm (tin rfl))) a_nil))) s_nil)
theorem ok_read_field {n : Nat} {fd : FuncData} (FD : FunD K "read_field" "read_field" (defArgs (top 31)) (defBody (top 31)) (defScope (top 31)) [] [] (G.fnA 12) fd) (C : Fx P w K mg G) (F : ∀ j x, fns[j]? = some x → FnAt P w K mg base G Φ n j x) :
    FnOk P w K mg base (L2.CX P w) (n + 1) (G.fnA 12) fd ["text"] (spF K G (runF Φ N 1 4 b_read_field)) := by
  have sc : FnScope ["text", "place", "first", "rest"] ["text"] (defScope (top 31)) := ⟨rfl, rfl, rfl, by decide +kernel, rfl, by decide +kernel, by decide +kernel⟩
  have hN := sc.nd
  refine fn_body (N' := ["text", "place", "first", "rest"]) FD sc fun cdv A outer s H E hr => ?_
  have tk : Takes (cxOf (L2.CX P w) P w K mg base ["text", "place", "first", "rest"] "read_field" (defScope (top 31)) (G.fnA 12) cdv A outer s H E) (WF E) := takes_of rfl rfl rfl rfl
  have pO : PassesOwn (model P w) (cxOf (L2.CX P w) P w K mg base ["text", "place", "first", "rest"] "read_field" (defScope (top 31)) (G.fnA 12) cdv A outer s H E).A (cxOf (L2.CX P w) P w K mg base ["text", "place", "first", "rest"] "read_field" (defScope (top 31)) (G.fnA 12) cdv A outer s H E).env (cxOf (L2.CX P w) P w K mg base ["text", "place", "first", "rest"] "read_field" (defScope (top 31)) (G.fnA 12) cdv A outer s H E).xe := passes_of rfl
  show DSs _ G Φ N (WF E) (defBody (top 31)) b_read_field
  exact (s_cons (s_ite (t_cmp (op_inAll (un65 hr)) od_in (d_strc) (d_v 0 (pv 0)) (by with_unfolding_all rfl)) (s_cons (s_asg (ps_set (i := 1) hN rfl (by first | exact Or.inl rfl | exact Or.inr rfl) (d_sindex (d_v 0 (pv 0)) (d_strc))) tg_nm) (s_cons (s_ret (d_bin op_addAll od_add (d_tup (a_cons (d_strc) (a_cons (d_call (F f_read_field _ rfl) hr tk rfl (a_cons (d_sl (d_v 0 (pv 0)) p_none (p_some (d_v 1 (pv 1)))) a_nil)) a_nil))) (d_call (F f_numbers_in _ rfl) hr tk rfl (a_cons (d_sl (d_v 0 (pv 0)) (p_some (d_bin op_addAll od_add (d_v 1 (pv 1)) (d_int))) p_none) a_nil)))) s_nil)) s_nil) (s_cons (s_par rfl hN (i := 2) (j := 3) rfl rfl (by decide) rfl rfl (a_cons (d_sl (d_v 0 (pv 0)) p_none (p_some (d_int))) (a_cons (d_sl (d_v 0 (pv 0)) (p_some (d_int)) p_none) a_nil)) rfl) (s_cons (s_ite (t_cmp (op_eqD hr.units) od_eq (d_v 2 (pv 2)) (d_strc) (nomark _)) (s_cons (s_ret (d_tup (a_cons (d_strc) (a_cons (d_v 3 (pv 3)) a_nil)))) s_nil) s_nil) (s_cons (s_ite (t_cmp (op_eqD hr.units) od_eq (d_v 2 (pv 2)) (d_strc) (nomark _)) (s_cons (s_ret (d_tup (a_cons (d_strc) (a_cons (d_biT cr_tuple bi_tuple rfl C.b_tuple boot_tuple (a_cons (d_split (d_v 3 (pv 3)) (d_strc)) a_nil)) a_nil)))) s_nil) s_nil) (s_cons (s_ite (t_cmp (op_eqD hr.units) od_eq (d_v 2 (pv 2)) (d_strc) (nomark _)) (s_cons (s_ret (d_tup (a_cons (d_strc) (a_cons (d_call (F f_number_of _ rfl) hr tk rfl (a_cons (d_v 3 (pv 3)) a_nil)) a_nil)))) s_nil) s_nil) (s_cons (s_ret (d_bin op_addAll od_add (d_tup (a_cons (d_dgt ⟨C.p_, C.w_⟩ (un9 hr) (d_dcon [("d", "digits"), ("l", "letters")] (pps_cons pe_str pe_str (pps_cons pe_str pe_str pps_nil)) rfl rfl (by simp) (by decide) [.str (tx "d"), .str (tx "l")] [.str (tx "digits"), .str (tx "letters")] rfl (fun _ _ => (.cons (.str (tx "digits")) (.cons (.str (tx "letters")) .nil))) (by decide)) (d_v 2 (pv 2)) (d_strc)) a_nil)) (d_call (F f_numbers_in _ rfl) hr tk rfl (a_cons (d_v 3 (pv 3)) a_nil)))) s_nil))))))
theorem ok_format_from {n : Nat} {fd : FuncData} (FD : FunD K "format_from" "format_from" (defArgs (top 32)) (defBody (top 32)) (defScope (top 32)) [] [] (G.fnA 13) fd) (C : Fx P w K mg G) (F : ∀ j x, fns[j]? = some x → FnAt P w K mg base G Φ n j x) :
    FnOk P w K mg base (L2.CX P w) (n + 1) (G.fnA 13) fd ["text"] (spF K G (runF Φ N 1 3 b_format_from)) := by
  have sc : FnScope ["text", "found", "part"] ["text"] (defScope (top 32)) := ⟨rfl, rfl, rfl, by decide +kernel, rfl, by decide +kernel, by decide +kernel⟩
  have hN := sc.nd
  refine fn_body (N' := ["text", "found", "part"]) FD sc fun cdv A outer s H E hr => ?_
  have tk : Takes (cxOf (L2.CX P w) P w K mg base ["text", "found", "part"] "format_from" (defScope (top 32)) (G.fnA 13) cdv A outer s H E) (WF E) := takes_of rfl rfl rfl rfl
  have pO : PassesOwn (model P w) (cxOf (L2.CX P w) P w K mg base ["text", "found", "part"] "format_from" (defScope (top 32)) (G.fnA 13) cdv A outer s H E).A (cxOf (L2.CX P w) P w K mg base ["text", "found", "part"] "format_from" (defScope (top 32)) (G.fnA 13) cdv A outer s H E).env (cxOf (L2.CX P w) P w K mg base ["text", "found", "part"] "format_from" (defScope (top 32)) (G.fnA 13) cdv A outer s H E).xe := passes_of rfl
  show DSs _ G Φ N (WF E) (defBody (top 32)) b_format_from
  exact (s_cons (s_ite (t_w (w_or (t_not (t_val (d_isi (t := .str) rfl C.b_isinstance rfl rfl C.b_str (d_v 0 (pv 0))))) (w_or (t_cmp op_gtAll od_gt (d_biB cr_len bi_len rfl C.b_len boot_len (a_cons (d_v 0 (pv 0)) a_nil)) (d_int) (nomark _)) (w_or1 (t_cmp op_gtAll od_gt (d_count (d_v 0 (pv 0)) (d_strc)) (d_int) (nomark _)))))) (s_cons (s_raiseX rfl tk C.x_InvalidText rfl) s_nil) s_nil) (s_cons (s_asg (ps_set (i := 1) hN rfl (by first | exact Or.inl rfl | exact Or.inr rfl) (d_biT cr_tuple bi_tuple rfl C.b_tuple boot_tuple (a_cons (d_own (o_lc (own := [("part", 2)]) rfl hN (i_e (d_split (d_v 0 (pv 0)) (d_strc))) (blkOk_by (by kernel_rfl)) (fun _ _ _ _ _ => (pg_name (i := 2) hN rfl (by first | exact Or.inl rfl | exact Or.inr rfl))) (fun _ _ _ _ _ => ts_nil) (fun _ _ _ _ _ => (d_call (F f_read_field _ rfl) hr takes0 rfl (a_cons (d_v 2 (pv 2)) a_nil))) tg_nm (tin rfl))) a_nil))) tg_nm) (s_cons (s_ite (t_w (w_or (t_not (t_val (d_call (F f_is_format _ rfl) hr tk rfl (a_cons (d_v 1 (pv 1)) a_nil)))) (w_or1 (t_cmp (op_neD hr.units) od_ne (d_call (F f_form_text _ rfl) hr tk rfl (a_cons (d_v 1 (pv 1)) a_nil)) (d_v 0 (pv 0)) (nomark _))))) (s_cons (s_raiseX rfl tk C.x_InvalidText rfl) s_nil) s_nil) (s_cons (s_ret (d_v 1 (pv 1))) s_nil))))
theorem ok__law_town {n : Nat} {fd : FuncData} (FD : FunD K "_law_town" "_law_town" (defArgs (top 34)) (defBody (top 34)) (defScope (top 34)) [] [] (G.fnA 14) fd) (C : Fx P w K mg G) (F : ∀ j x, fns[j]? = some x → FnAt P w K mg base G Φ n j x) :
    FnOk P w K mg base (L2.CX P w) (n + 1) (G.fnA 14) fd ["_law_script"] (spF K G (runF Φ N 1 1 b__law_town)) := by
  have sc : FnScope ["_law_script"] ["_law_script"] (defScope (top 34)) := ⟨rfl, rfl, rfl, by decide +kernel, rfl, by decide +kernel, by decide +kernel⟩
  have hN := sc.nd
  refine fn_body (N' := ["_law_script"]) FD sc fun cdv A outer s H E hr => ?_
  have tk : Takes (cxOf (L2.CX P w) P w K mg base ["_law_script"] "_law_town" (defScope (top 34)) (G.fnA 14) cdv A outer s H E) (WF E) := takes_of rfl rfl rfl rfl
  have pO : PassesOwn (model P w) (cxOf (L2.CX P w) P w K mg base ["_law_script"] "_law_town" (defScope (top 34)) (G.fnA 14) cdv A outer s H E).A (cxOf (L2.CX P w) P w K mg base ["_law_script"] "_law_town" (defScope (top 34)) (G.fnA 14) cdv A outer s H E).env (cxOf (L2.CX P w) P w K mg base ["_law_script"] "_law_town" (defScope (top 34)) (G.fnA 14) cdv A outer s H E).xe := passes_of rfl
  show DSs _ G Φ N (WF E) (defBody (top 34)) b__law_town
  exact (s_cons (s_ret (d_box2 (o_add (d_own (o_lst (a_cons (d_int) a_nil))) (d_biT (cr_list rfl) bi_list rfl C.b_list boot_list (a_cons (d_v 0 (pv 0)) a_nil))))) s_nil)
theorem ok__law_draw {n : Nat} {fd : FuncData} (FD : FunD K "_law_draw" "_law_draw" (defArgs (top 35)) (defBody (top 35)) (defScope (top 35)) [] [] (G.fnA 15) fd) (C : Fx P w K mg G) (F : ∀ j x, fns[j]? = some x → FnAt P w K mg base G Φ n j x) :
    FnOk P w K mg base (L2.CX P w) (n + 1) (G.fnA 15) fd ["_law_script", "_law_town_here", "_law_limit"] (spF K G (runF Φ N 3 6 b__law_draw)) := by
  have sc : FnScope ["_law_script", "_law_town_here", "_law_limit", "_law_at", "_law_left", "_law_number_here"] ["_law_script", "_law_town_here", "_law_limit"] (defScope (top 35)) := ⟨rfl, rfl, rfl, by decide +kernel, rfl, by decide +kernel, by decide +kernel⟩
  have hN := sc.nd
  refine fn_body (N' := ["_law_script", "_law_town_here", "_law_limit", "_law_at", "_law_left", "_law_number_here"]) FD sc fun cdv A outer s H E hr => ?_
  have tk : Takes (cxOf (L2.CX P w) P w K mg base ["_law_script", "_law_town_here", "_law_limit", "_law_at", "_law_left", "_law_number_here"] "_law_draw" (defScope (top 35)) (G.fnA 15) cdv A outer s H E) (WF E) := takes_of rfl rfl rfl rfl
  have pO : PassesOwn (model P w) (cxOf (L2.CX P w) P w K mg base ["_law_script", "_law_town_here", "_law_limit", "_law_at", "_law_left", "_law_number_here"] "_law_draw" (defScope (top 35)) (G.fnA 15) cdv A outer s H E).A (cxOf (L2.CX P w) P w K mg base ["_law_script", "_law_town_here", "_law_limit", "_law_at", "_law_left", "_law_number_here"] "_law_draw" (defScope (top 35)) (G.fnA 15) cdv A outer s H E).env (cxOf (L2.CX P w) P w K mg base ["_law_script", "_law_town_here", "_law_limit", "_law_at", "_law_left", "_law_number_here"] "_law_draw" (defScope (top 35)) (G.fnA 15) cdv A outer s H E).xe := passes_of rfl
  show DSs _ G Φ N (WF E) (defBody (top 35)) b__law_draw
  exact (s_cons (s_seth (ps_asg (d_bin op_addAll od_add (d_ixb (d_v 1 (pv 1)) (d_int) fun _ _ => rfl) (d_int)) (pg_sub (d_v 1 (pv 1)) (d_int) set_list))) (s_cons (s_ite (t_cmp (op_eqD hr.units) od_eq (d_v 0 (pv 0)) (d_own (o_lst a_nil)) (nomark _)) (s_cons (s_ret (d_bin op_modN od_mod (d_bin op_fdivN od_fdiv (d_bin op_mulAll od_mul (d_bin op_mulAll od_mul (d_ixb (d_v 1 (pv 1)) (d_int) fun _ _ => rfl) (d_ixb (d_v 1 (pv 1)) (d_int) fun _ _ => rfl)) (d_int)) (d_int)) (d_v 2 (pv 2)))) s_nil) s_nil) (s_cons (s_asg (ps_set (i := 3) hN rfl (by first | exact Or.inl rfl | exact Or.inr rfl) (d_bin op_modN od_mod (d_ixb (d_v 1 (pv 1)) (d_int) fun _ _ => rfl) (d_biB cr_len bi_len rfl C.b_len boot_len (a_cons (d_v 0 (pv 0)) a_nil)))) tg_nm) (s_cons (s_asg (ps_set (i := 4) hN rfl (by first | exact Or.inl rfl | exact Or.inr rfl) (d_ixb (d_v 1 (pv 1)) (d_bin op_addAll od_add (d_int) (d_v 3 (pv 3))) fun _ _ => rfl)) tg_nm) (s_cons (s_ite (t_w (w_and (t_cmp op_ge od_ge (d_ix (d_v 0 (pv 0)) (d_v 3 (pv 3)) fun _ _ => rfl) (d_bin op_pow od_pow (d_int) (d_int)) (nomark _)) (w_and1 (t_cmp op_gtAll od_gt (d_v 4 (pv 4)) (d_int) (nomark _))))) (s_cons (s_seth (ps_asg (d_bin op_fdivN od_fdiv (d_v 4 (pv 4)) (d_v 2 (pv 2))) (pg_sub (d_v 1 (pv 1)) (d_bin op_addAll od_add (d_int) (d_v 3 (pv 3))) set_list))) (s_cons (s_ret (d_bin op_modN od_mod (d_v 4 (pv 4)) (d_v 2 (pv 2)))) s_nil)) s_nil) (s_cons (s_asg (ps_set (i := 5) hN rfl (by first | exact Or.inl rfl | exact Or.inr rfl) (d_bin op_modN od_mod (d_bin op_addAll od_add (d_ix (d_v 0 (pv 0)) (d_v 3 (pv 3)) fun _ _ => rfl) (d_bin op_mulAll od_mul (d_int) (d_ixb (d_v 1 (pv 1)) (d_int) fun _ _ => rfl))) (d_int))) tg_nm) (s_cons (s_asg (ps_set (i := 5) hN rfl (by first | exact Or.inl rfl | exact Or.inr rfl) (d_bin op_modN od_mod (d_bin op_pow od_pow (d_v 5 (pv 5)) (d_int)) (d_int))) tg_nm) (s_cons (s_ret (d_bin op_modN od_mod (d_bin op_fdivN od_fdiv (d_bin op_modN od_mod (d_bin op_addAll od_add (d_bin op_mulAll od_mul (d_bin op_fdivN od_fdiv (d_v 5 (pv 5)) (d_int)) (d_int)) (d_v 5 (pv 5))) (d_int)) (d_int)) (d_v 2 (pv 2)))) s_nil))))))))
theorem ok__law_pick {n : Nat} {fd : FuncData} (FD : FunD K "_law_pick" "_law_pick" (defArgs (top 36)) (defBody (top 36)) (defScope (top 36)) [] [] (G.fnA 16) fd) (C : Fx P w K mg G) (F : ∀ j x, fns[j]? = some x → FnAt P w K mg base G Φ n j x) :
    FnOk P w K mg base (L2.CX P w) (n + 1) (G.fnA 16) fd ["_law_script", "_law_town_here", "_law_choices"] (spF K G (runF Φ N 3 3 b__law_pick)) := by
  have sc : FnScope ["_law_script", "_law_town_here", "_law_choices"] ["_law_script", "_law_town_here", "_law_choices"] (defScope (top 36)) := ⟨rfl, rfl, rfl, by decide +kernel, rfl, by decide +kernel, by decide +kernel⟩
  have hN := sc.nd
  refine fn_body (N' := ["_law_script", "_law_town_here", "_law_choices"]) FD sc fun cdv A outer s H E hr => ?_
  have tk : Takes (cxOf (L2.CX P w) P w K mg base ["_law_script", "_law_town_here", "_law_choices"] "_law_pick" (defScope (top 36)) (G.fnA 16) cdv A outer s H E) (WF E) := takes_of rfl rfl rfl rfl
  have pO : PassesOwn (model P w) (cxOf (L2.CX P w) P w K mg base ["_law_script", "_law_town_here", "_law_choices"] "_law_pick" (defScope (top 36)) (G.fnA 16) cdv A outer s H E).A (cxOf (L2.CX P w) P w K mg base ["_law_script", "_law_town_here", "_law_choices"] "_law_pick" (defScope (top 36)) (G.fnA 16) cdv A outer s H E).env (cxOf (L2.CX P w) P w K mg base ["_law_script", "_law_town_here", "_law_choices"] "_law_pick" (defScope (top 36)) (G.fnA 16) cdv A outer s H E).xe := passes_of rfl
  show DSs _ G Φ N (WF E) (defBody (top 36)) b__law_pick
  exact (s_cons (s_ret (d_ix (d_v 2 (pv 2)) (d_call (F f__law_draw _ rfl) hr tk rfl (a_cons (d_v 0 (pv 0)) (a_cons (d_v 1 (pv 1)) (a_cons (d_biB cr_len bi_len rfl C.b_len boot_len (a_cons (d_v 2 (pv 2)) a_nil)) a_nil)))) fun _ _ => rfl)) s_nil)
theorem ok__law_outcome {n : Nat} {fd : FuncData} (FD : FunD K "_law_outcome" "_law_outcome" (defArgs (top 37)) (defBody (top 37)) (defScope (top 37)) [] [] (G.fnA 17) fd) (C : Fx P w K mg G) (F : ∀ j x, fns[j]? = some x → FnAt P w K mg base G Φ n j x) :
    FnOk P w K mg base (L2.CX P w) (n + 1) (G.fnA 17) fd ["_law_way", "_law_arguments"] (spF K G (runF Φ N 2 5 b__law_outcome)) := by
  have sc : FnScope ["_law_way", "_law_arguments", "_law_caught", "_law_result", "error"] ["_law_way", "_law_arguments"] (defScope (top 37)) := ⟨rfl, rfl, rfl, by decide +kernel, rfl, by decide +kernel, by decide +kernel⟩
  have hN := sc.nd
  refine fn_body (N' := ["_law_way", "_law_arguments", "_law_caught", "_law_result", "error"]) FD sc fun cdv A outer s H E hr => ?_
  have tk : Takes (cxOf (L2.CX P w) P w K mg base ["_law_way", "_law_arguments", "_law_caught", "_law_result", "error"] "_law_outcome" (defScope (top 37)) (G.fnA 17) cdv A outer s H E) (WF E) := takes_of rfl rfl rfl rfl
  have pO : PassesOwn (model P w) (cxOf (L2.CX P w) P w K mg base ["_law_way", "_law_arguments", "_law_caught", "_law_result", "error"] "_law_outcome" (defScope (top 37)) (G.fnA 17) cdv A outer s H E).A (cxOf (L2.CX P w) P w K mg base ["_law_way", "_law_arguments", "_law_caught", "_law_result", "error"] "_law_outcome" (defScope (top 37)) (G.fnA 17) cdv A outer s H E).env (cxOf (L2.CX P w) P w K mg base ["_law_way", "_law_arguments", "_law_caught", "_law_result", "error"] "_law_outcome" (defScope (top 37)) (G.fnA 17) cdv A outer s H E).xe := passes_of rfl
  show DSs _ G Φ N (WF E) (defBody (top 37)) b__law_outcome
  exact (s_cons (s_asg (ps_set (i := 2) hN rfl (by first | exact Or.inl rfl | exact Or.inr rfl) (d_non)) tg_nm) (s_cons (s_asg (ps_set (i := 3) hN rfl (by first | exact Or.inl rfl | exact Or.inr rfl) (d_non)) tg_nm) (s_cons (s_try (n := "error") (i := 4) rfl rfl hN rfl rfl ⟨rfl, by decide, Or.inl C.x_FieldError.at_⟩ tk (fun _ _ _ tk pO => (s_cons (s_asg (ps_set (i := 3) hN rfl (by first | exact Or.inl rfl | exact Or.inr rfl) (d_call (F f__law_call _ rfl) hr tk rfl (a_cons (d_v 0 (pv 0)) (a_cons (d_v 1 (pv 1)) a_nil)))) tg_nm) s_nil)) (fun _ _ => (s_cons (s_asg (ps_set (i := 2) hN rfl (by first | exact Or.inl rfl | exact Or.inr rfl) (d_v 4 (pv 4))) tg_nm) s_nil)) C.em nil_all) (s_cons (s_ite (t_cmp op_isAll od_is (d_v 2 (pv 2)) (d_non) (nomark _)) (s_cons (s_ret (d_tup (a_cons (d_strc) (a_cons (d_v 3 (pv 3)) a_nil)))) s_nil) s_nil) (s_cons (s_ret (d_tup (a_cons (d_strc) (a_cons (d_call (F f__law_name _ rfl) hr tk rfl (a_cons (d_v 2 (pv 2)) a_nil)) a_nil)))) s_nil)))))
theorem ok__law_name {n : Nat} {fd : FuncData} (FD : FunD K "_law_name" "_law_name" (defArgs (top 38)) (defBody (top 38)) (defScope (top 38)) [] [] (G.fnA 18) fd) (C : Fx P w K mg G) (F : ∀ j x, fns[j]? = some x → FnAt P w K mg base G Φ n j x) :
    FnOk P w K mg base (L2.CX P w) (n + 1) (G.fnA 18) fd ["_law_caught"] (spF K G (runF Φ N 1 2 b__law_name)) := by
  have sc : FnScope ["_law_caught", "_law_found"] ["_law_caught"] (defScope (top 38)) := ⟨rfl, rfl, rfl, by decide +kernel, rfl, by decide +kernel, by decide +kernel⟩
  have hN := sc.nd
  refine fn_body (N' := ["_law_caught", "_law_found"]) FD sc fun cdv A outer s H E hr => ?_
  have tk : Takes (cxOf (L2.CX P w) P w K mg base ["_law_caught", "_law_found"] "_law_name" (defScope (top 38)) (G.fnA 18) cdv A outer s H E) (WF E) := takes_of rfl rfl rfl rfl
  have pO : PassesOwn (model P w) (cxOf (L2.CX P w) P w K mg base ["_law_caught", "_law_found"] "_law_name" (defScope (top 38)) (G.fnA 18) cdv A outer s H E).A (cxOf (L2.CX P w) P w K mg base ["_law_caught", "_law_found"] "_law_name" (defScope (top 38)) (G.fnA 18) cdv A outer s H E).env (cxOf (L2.CX P w) P w K mg base ["_law_caught", "_law_found"] "_law_name" (defScope (top 38)) (G.fnA 18) cdv A outer s H E).xe := passes_of rfl
  show DSs _ G Φ N (WF E) (defBody (top 38)) b__law_name
  exact (s_cons (s_ite (t_not (t_val (d_isx rfl C.b_isinstance (pe_bltn (v := .ty "ValueError") rfl C.b_ValueError boot_ValueError rfl (by decide) (by decide)) (fun _ h => h) C.iv nil_all (d_v 0 (pv 0))))) (s_cons (s_ret (d_neg (d_int))) s_nil) s_nil) (s_cons (s_asg (ps_set (i := 1) hN rfl (by first | exact Or.inl rfl | exact Or.inr rfl) (d_own (o_lst (a_cons (d_isx rfl C.b_isinstance (pe_glob rfl C.x_InvalidFormat.at_ (v := .ref _) rfl (by decide)) (fun _ h => h) C.iy_InvalidFormat C.in_InvalidFormat (d_v 0 (pv 0))) (a_cons (d_isx rfl C.b_isinstance (pe_glob rfl C.x_InvalidField.at_ (v := .ref _) rfl (by decide)) (fun _ h => h) C.iy_InvalidField C.in_InvalidField (d_v 0 (pv 0))) a_nil))))) tg_nm) (s_cons (s_asg (ps_set (i := 1) hN rfl (by first | exact Or.inl rfl | exact Or.inr rfl) (d_bin op_addAll od_add (d_v 1 (pv 1)) (d_own (o_lst (a_cons (d_isx rfl C.b_isinstance (pe_glob rfl C.x_InvalidRecord.at_ (v := .ref _) rfl (by decide)) (fun _ h => h) C.iy_InvalidRecord C.in_InvalidRecord (d_v 0 (pv 0))) (a_cons (d_isx rfl C.b_isinstance (pe_glob rfl C.x_InvalidText.at_ (v := .ref _) rfl (by decide)) (fun _ h => h) C.iy_InvalidText C.in_InvalidText (d_v 0 (pv 0))) a_nil)))))) tg_nm) (s_cons (s_asg (ps_set (i := 1) hN rfl (by first | exact Or.inl rfl | exact Or.inr rfl) (d_bin op_addAll od_add (d_v 1 (pv 1)) (d_own (o_lst (a_cons (d_isx rfl C.b_isinstance (pe_glob rfl C.x_InvalidNumber.at_ (v := .ref _) rfl (by decide)) (fun _ h => h) C.iy_InvalidNumber C.in_InvalidNumber (d_v 0 (pv 0))) (a_cons (d_isx rfl C.b_isinstance (pe_glob rfl C.x_InvalidPlaces.at_ (v := .ref _) rfl (by decide)) (fun _ h => h) C.iy_InvalidPlaces C.in_InvalidPlaces (d_v 0 (pv 0))) a_nil)))))) tg_nm) (s_cons (s_asg (ps_set (i := 1) hN rfl (by first | exact Or.inl rfl | exact Or.inr rfl) (d_bin op_addAll od_add (d_v 1 (pv 1)) (d_own (o_lst (a_cons (d_isx rfl C.b_isinstance (pe_glob rfl C.x_NoReading.at_ (v := .ref _) rfl (by decide)) (fun _ h => h) C.iy_NoReading C.in_NoReading (d_v 0 (pv 0))) (a_cons (d_isx rfl C.b_isinstance (pe_glob rfl C.x_Doubtful.at_ (v := .ref _) rfl (by decide)) (fun _ h => h) C.iy_Doubtful C.in_Doubtful (d_v 0 (pv 0))) a_nil)))))) tg_nm) (s_cons (s_asg (ps_set (i := 1) hN rfl (by first | exact Or.inl rfl | exact Or.inr rfl) (d_bin op_addAll od_add (d_v 1 (pv 1)) (d_own (o_lst (a_cons (d_isx rfl C.b_isinstance (pe_glob rfl C.x_TooMany.at_ (v := .ref _) rfl (by decide)) (fun _ h => h) C.iy_TooMany C.in_TooMany (d_v 0 (pv 0))) (a_cons (d_isx rfl C.b_isinstance (pe_glob rfl C.x_LastField.at_ (v := .ref _) rfl (by decide)) (fun _ h => h) C.iy_LastField C.in_LastField (d_v 0 (pv 0))) a_nil)))))) tg_nm) (s_cons (s_asg (ps_set (i := 1) hN rfl (by first | exact Or.inl rfl | exact Or.inr rfl) (d_bin op_addAll od_add (d_v 1 (pv 1)) (d_own (o_lst (a_cons (d_isx rfl C.b_isinstance (pe_glob rfl C.x_NothingToUndo.at_ (v := .ref _) rfl (by decide)) (fun _ h => h) C.iy_NothingToUndo C.in_NothingToUndo (d_v 0 (pv 0))) a_nil))))) tg_nm) (s_cons (s_ret (d_ife (t_cmp (op_eqD hr.units) od_eq (d_lcnt (d_v 1 (pv 1)) (d_bl)) (d_int) (nomark _)) (d_lindex (d_v 1 (pv 1)) (d_bl)) (d_neg (d_int)))) s_nil))))))))
theorem ok__law_raises {n : Nat} {fd : FuncData} (FD : FunD K "_law_raises" "_law_raises" (defArgs (top 39)) (defBody (top 39)) (defScope (top 39)) [] [] (G.fnA 19) fd) (C : Fx P w K mg G) (F : ∀ j x, fns[j]? = some x → FnAt P w K mg base G Φ n j x) :
    FnOk P w K mg base (L2.CX P w) (n + 1) (G.fnA 19) fd ["_law_name_here"] (spF K G (runF Φ N 1 2 b__law_raises)) := by
  have sc : FnScope ["_law_name_here", "_law_names"] ["_law_name_here"] (defScope (top 39)) := ⟨rfl, rfl, rfl, by decide +kernel, rfl, by decide +kernel, by decide +kernel⟩
  have hN := sc.nd
  refine fn_body (N' := ["_law_name_here", "_law_names"]) FD sc fun cdv A outer s H E hr => ?_
  have tk : Takes (cxOf (L2.CX P w) P w K mg base ["_law_name_here", "_law_names"] "_law_raises" (defScope (top 39)) (G.fnA 19) cdv A outer s H E) (WF E) := takes_of rfl rfl rfl rfl
  have pO : PassesOwn (model P w) (cxOf (L2.CX P w) P w K mg base ["_law_name_here", "_law_names"] "_law_raises" (defScope (top 39)) (G.fnA 19) cdv A outer s H E).A (cxOf (L2.CX P w) P w K mg base ["_law_name_here", "_law_names"] "_law_raises" (defScope (top 39)) (G.fnA 19) cdv A outer s H E).env (cxOf (L2.CX P w) P w K mg base ["_law_name_here", "_law_names"] "_law_raises" (defScope (top 39)) (G.fnA 19) cdv A outer s H E).xe := passes_of rfl
  show DSs _ G Φ N (WF E) (defBody (top 39)) b__law_raises
  exact (s_cons (s_asg (ps_set (i := 1) hN rfl (by first | exact Or.inl rfl | exact Or.inr rfl) (d_own (o_lst (a_cons (d_strc) (a_cons (d_strc) (a_cons (d_strc) (a_cons (d_strc) (a_cons (d_strc) (a_cons (d_strc) a_nil))))))))) tg_nm) (s_cons (s_asg (ps_set (i := 1) hN rfl (by first | exact Or.inl rfl | exact Or.inr rfl) (d_bin op_addAll od_add (d_v 1 (pv 1)) (d_own (o_lst (a_cons (d_strc) (a_cons (d_strc) (a_cons (d_strc) (a_cons (d_strc) (a_cons (d_strc) a_nil))))))))) tg_nm) (s_cons (s_ret (d_tup (a_cons (d_strc) (a_cons (d_lindex (d_v 1 (pv 1)) (d_v 0 (pv 0))) a_nil)))) s_nil)))
theorem ok__law_signs {n : Nat} {fd : FuncData} (FD : FunD K "_law_signs" "_law_signs" (defArgs (top 40)) (defBody (top 40)) (defScope (top 40)) [] [] (G.fnA 20) fd) (C : Fx P w K mg G) (F : ∀ j x, fns[j]? = some x → FnAt P w K mg base G Φ n j x) :
    FnOk P w K mg base (L2.CX P w) (n + 1) (G.fnA 20) fd ["_law_script", "_law_town_here", "_law_signs_here", "_law_many"] (spF K G (runF Φ N 4 5 b__law_signs)) := by
  have sc : FnScope ["_law_script", "_law_town_here", "_law_signs_here", "_law_many", "_law_k"] ["_law_script", "_law_town_here", "_law_signs_here", "_law_many"] (defScope (top 40)) := ⟨rfl, rfl, rfl, by decide +kernel, rfl, by decide +kernel, by decide +kernel⟩
  have hN := sc.nd
  refine fn_body (N' := ["_law_script", "_law_town_here", "_law_signs_here", "_law_many", "_law_k"]) FD sc fun cdv A outer s H E hr => ?_
  have tk : Takes (cxOf (L2.CX P w) P w K mg base ["_law_script", "_law_town_here", "_law_signs_here", "_law_many", "_law_k"] "_law_signs" (defScope (top 40)) (G.fnA 20) cdv A outer s H E) (WF E) := takes_of rfl rfl rfl rfl
  have pO : PassesOwn (model P w) (cxOf (L2.CX P w) P w K mg base ["_law_script", "_law_town_here", "_law_signs_here", "_law_many", "_law_k"] "_law_signs" (defScope (top 40)) (G.fnA 20) cdv A outer s H E).A (cxOf (L2.CX P w) P w K mg base ["_law_script", "_law_town_here", "_law_signs_here", "_law_many", "_law_k"] "_law_signs" (defScope (top 40)) (G.fnA 20) cdv A outer s H E).env (cxOf (L2.CX P w) P w K mg base ["_law_script", "_law_town_here", "_law_signs_here", "_law_many", "_law_k"] "_law_signs" (defScope (top 40)) (G.fnA 20) cdv A outer s H E).xe := passes_of rfl
  show DSs _ G Φ N (WF E) (defBody (top 40)) b__law_signs
  exact (s_cons (s_ret (d_join (d_strc) (d_own (o_lc (own := [("_law_k", 4)]) rfl hN (i_rng1 rfl C.b_range (a_cons (d_v 3 (pv 3)) a_nil)) (blkOk_by (by kernel_rfl)) (fun _ _ _ _ _ => (pg_name (i := 4) hN rfl (by first | exact Or.inl rfl | exact Or.inr rfl))) (fun _ _ _ _ _ => ts_nil) (fun _ _ _ _ _ => (d_call (F f__law_pick _ rfl) hr takes0 rfl (a_cons (d_v 0 (pv 0)) (a_cons (d_v 1 (pv 1)) (a_cons (d_biT (cr_list rfl) bi_list rfl C.b_list boot_list (a_cons (d_v 2 (pv 2)) a_nil)) a_nil))))) tg_nm (tin rfl))))) s_nil)
theorem ok__law_simple {n : Nat} {fd : FuncData} (FD : FunD K "_law_simple" "_law_simple" (defArgs (top 41)) (defBody (top 41)) (defScope (top 41)) [] [] (G.fnA 21) fd) (C : Fx P w K mg G) (F : ∀ j x, fns[j]? = some x → FnAt P w K mg base G Φ n j x) :
    FnOk P w K mg base (L2.CX P w) (n + 1) (G.fnA 21) fd ["_law_script", "_law_town_here", "_law_most"] (spF K G (runF Φ N 3 8 b__law_simple)) := by
  have sc : FnScope ["_law_script", "_law_town_here", "_law_most", "_law_way", "_law_texts", "_law_k", "_law_low", "_law_signs_here"] ["_law_script", "_law_town_here", "_law_most"] (defScope (top 41)) := ⟨rfl, rfl, rfl, by decide +kernel, rfl, by decide +kernel, by decide +kernel⟩
  have hN := sc.nd
  refine fn_body (N' := ["_law_script", "_law_town_here", "_law_most", "_law_way", "_law_texts", "_law_k", "_law_low", "_law_signs_here"]) FD sc fun cdv A outer s H E hr => ?_
  have tk : Takes (cxOf (L2.CX P w) P w K mg base ["_law_script", "_law_town_here", "_law_most", "_law_way", "_law_texts", "_law_k", "_law_low", "_law_signs_here"] "_law_simple" (defScope (top 41)) (G.fnA 21) cdv A outer s H E) (WF E) := takes_of rfl rfl rfl rfl
  have pO : PassesOwn (model P w) (cxOf (L2.CX P w) P w K mg base ["_law_script", "_law_town_here", "_law_most", "_law_way", "_law_texts", "_law_k", "_law_low", "_law_signs_here"] "_law_simple" (defScope (top 41)) (G.fnA 21) cdv A outer s H E).A (cxOf (L2.CX P w) P w K mg base ["_law_script", "_law_town_here", "_law_most", "_law_way", "_law_texts", "_law_k", "_law_low", "_law_signs_here"] "_law_simple" (defScope (top 41)) (G.fnA 21) cdv A outer s H E).env (cxOf (L2.CX P w) P w K mg base ["_law_script", "_law_town_here", "_law_most", "_law_way", "_law_texts", "_law_k", "_law_low", "_law_signs_here"] "_law_simple" (defScope (top 41)) (G.fnA 21) cdv A outer s H E).xe := passes_of rfl
  show DSs _ G Φ N (WF E) (defBody (top 41)) b__law_simple
  exact (s_cons (s_asg (ps_set (i := 3) hN rfl (by first | exact Or.inl rfl | exact Or.inr rfl) (d_call (F f__law_draw _ rfl) hr tk rfl (a_cons (d_v 0 (pv 0)) (a_cons (d_v 1 (pv 1)) (a_cons (d_int) a_nil))))) tg_nm) (s_cons (s_ite (t_cmp (op_eqD hr.units) od_eq (d_v 3 (pv 3)) (d_int) (nomark _)) (s_cons (s_ret (d_tup (a_cons (d_strc) (a_cons (d_call (F f__law_signs _ rfl) hr tk rfl (a_cons (d_v 0 (pv 0)) (a_cons (d_v 1 (pv 1)) (a_cons (d_strc) (a_cons (d_bin op_addAll od_add (d_int) (d_call (F f__law_draw _ rfl) hr tk rfl (a_cons (d_v 0 (pv 0)) (a_cons (d_v 1 (pv 1)) (a_cons (d_biB (cr_min2 rfl) bi_min2 rfl C.b_min boot_min (a_cons (d_int) (a_cons (d_v 2 (pv 2)) a_nil))) a_nil))))) a_nil))))) a_nil)))) s_nil) s_nil) (s_cons (s_ite (t_cmp op_ltAll od_lt (d_v 3 (pv 3)) (d_int) (nomark _)) (s_cons (s_asg (ps_set (i := 6) hN rfl (by first | exact Or.inl rfl | exact Or.inr rfl) (d_call (F f__law_draw _ rfl) hr tk rfl (a_cons (d_v 0 (pv 0)) (a_cons (d_v 1 (pv 1)) (a_cons (d_bin op_addAll od_add (d_v 2 (pv 2)) (d_int)) a_nil))))) tg_nm) (s_cons (s_ret (d_tup (a_cons (d_ix (d_tup (a_cons (d_strc) (a_cons (d_strc) a_nil))) (d_bin op_sub od_sub (d_v 3 (pv 3)) (d_int)) fun _ _ => rfl) (a_cons (d_v 6 (pv 6)) (a_cons (d_bin op_addAll od_add (d_v 6 (pv 6)) (d_call (F f__law_draw _ rfl) hr tk rfl (a_cons (d_v 0 (pv 0)) (a_cons (d_v 1 (pv 1)) (a_cons (d_bin op_sub od_sub (d_bin op_addAll od_add (d_v 2 (pv 2)) (d_int)) (d_v 6 (pv 6))) a_nil))))) a_nil))))) s_nil)) s_nil) (s_cons (s_ite (t_cmp (op_eqD hr.units) od_eq (d_v 3 (pv 3)) (d_int) (nomark _)) (s_cons (s_ret (d_tup (a_cons (d_strc) (a_cons (d_bin op_addAll od_add (d_int) (d_call (F f__law_draw _ rfl) hr tk rfl (a_cons (d_v 0 (pv 0)) (a_cons (d_v 1 (pv 1)) (a_cons (d_v 2 (pv 2)) a_nil))))) a_nil)))) s_nil) s_nil) (s_cons (s_own (ps_set (i := 4) hN rfl (by first | exact Or.inl rfl | exact Or.inr rfl) (o_lst a_nil))) (s_cons (s_for (ps_for pO rfl (i_rng1 rfl C.b_range (a_cons (d_bin op_addAll od_add (d_int) (d_call (F f__law_draw _ rfl) hr tk rfl (a_cons (d_v 0 (pv 0)) (a_cons (d_v 1 (pv 1)) (a_cons (d_int) a_nil))))) a_nil)) (pg_name (i := 5) hN rfl (by first | exact Or.inl rfl | exact Or.inr rfl)) (s_cons (s_asg (ps_set (i := 7) hN rfl (by first | exact Or.inl rfl | exact Or.inr rfl) (d_call (F f__law_pick _ rfl) hr tk rfl (a_cons (d_v 0 (pv 0)) (a_cons (d_v 1 (pv 1)) (a_cons (d_own (o_lst (a_cons (d_strc) (a_cons (d_strc) (a_cons (d_strc) (a_cons (d_strc) a_nil)))))) a_nil))))) tg_nm) (s_cons (e_append (pv 4) (d_call (F f__law_signs _ rfl) hr tk rfl (a_cons (d_v 0 (pv 0)) (a_cons (d_v 1 (pv 1)) (a_cons (d_v 7 (pv 7)) (a_cons (d_bin op_addAll od_add (d_int) (d_call (F f__law_draw _ rfl) hr tk rfl (a_cons (d_v 0 (pv 0)) (a_cons (d_v 1 (pv 1)) (a_cons (d_v 2 (pv 2)) a_nil))))) a_nil)))))) s_nil))) tg_nm) (s_fz (s_cons (s_ret (d_tup (a_cons (d_strc) (a_cons (d_biT cr_tuple bi_tuple rfl C.b_tuple boot_tuple (a_cons (d_sset rfl rfl C.b_sorted rfl C.b_set (d_v 4 (pv 4))) a_nil)) a_nil)))) s_nil))))))))
theorem ok__law_field {n : Nat} {fd : FuncData} (FD : FunD K "_law_field" "_law_field" (defArgs (top 42)) (defBody (top 42)) (defScope (top 42)) [] [] (G.fnA 22) fd) (C : Fx P w K mg G) (F : ∀ j x, fns[j]? = some x → FnAt P w K mg base G Φ n j x) :
    FnOk P w K mg base (L2.CX P w) (n + 1) (G.fnA 22) fd ["_law_script", "_law_town_here", "_law_most"] (spF K G (runF Φ N 3 5 b__law_field)) := by
  have sc : FnScope ["_law_script", "_law_town_here", "_law_most", "_law_field_here", "_law_low"] ["_law_script", "_law_town_here", "_law_most"] (defScope (top 42)) := ⟨rfl, rfl, rfl, by decide +kernel, rfl, by decide +kernel, by decide +kernel⟩
  have hN := sc.nd
  refine fn_body (N' := ["_law_script", "_law_town_here", "_law_most", "_law_field_here", "_law_low"]) FD sc fun cdv A outer s H E hr => ?_
  have tk : Takes (cxOf (L2.CX P w) P w K mg base ["_law_script", "_law_town_here", "_law_most", "_law_field_here", "_law_low"] "_law_field" (defScope (top 42)) (G.fnA 22) cdv A outer s H E) (WF E) := takes_of rfl rfl rfl rfl
  have pO : PassesOwn (model P w) (cxOf (L2.CX P w) P w K mg base ["_law_script", "_law_town_here", "_law_most", "_law_field_here", "_law_low"] "_law_field" (defScope (top 42)) (G.fnA 22) cdv A outer s H E).A (cxOf (L2.CX P w) P w K mg base ["_law_script", "_law_town_here", "_law_most", "_law_field_here", "_law_low"] "_law_field" (defScope (top 42)) (G.fnA 22) cdv A outer s H E).env (cxOf (L2.CX P w) P w K mg base ["_law_script", "_law_town_here", "_law_most", "_law_field_here", "_law_low"] "_law_field" (defScope (top 42)) (G.fnA 22) cdv A outer s H E).xe := passes_of rfl
  show DSs _ G Φ N (WF E) (defBody (top 42)) b__law_field
  exact (s_cons (s_asg (ps_set (i := 3) hN rfl (by first | exact Or.inl rfl | exact Or.inr rfl) (d_call (F f__law_simple _ rfl) hr tk rfl (a_cons (d_v 0 (pv 0)) (a_cons (d_v 1 (pv 1)) (a_cons (d_v 2 (pv 2)) a_nil))))) tg_nm) (s_cons (s_ite (t_cmp op_gtAll od_gt (d_call (F f__law_draw _ rfl) hr tk rfl (a_cons (d_v 0 (pv 0)) (a_cons (d_v 1 (pv 1)) (a_cons (d_int) a_nil)))) (d_int) (nomark _)) (s_cons (s_ret (d_v 3 (pv 3))) s_nil) s_nil) (s_cons (s_asg (ps_set (i := 4) hN rfl (by first | exact Or.inl rfl | exact Or.inr rfl) (d_call (F f__law_draw _ rfl) hr tk rfl (a_cons (d_v 0 (pv 0)) (a_cons (d_v 1 (pv 1)) (a_cons (d_int) a_nil))))) tg_nm) (s_cons (s_ret (d_tup (a_cons (d_strc) (a_cons (d_v 3 (pv 3)) (a_cons (d_v 4 (pv 4)) (a_cons (d_biB (cr_max2 rfl) bi_max2 rfl C.b_max boot_max (a_cons (d_int) (a_cons (d_bin op_addAll od_add (d_v 4 (pv 4)) (d_call (F f__law_draw _ rfl) hr tk rfl (a_cons (d_v 0 (pv 0)) (a_cons (d_v 1 (pv 1)) (a_cons (d_int) a_nil))))) a_nil))) a_nil)))))) s_nil))))
theorem ok__law_form {n : Nat} {fd : FuncData} (FD : FunD K "_law_form" "_law_form" (defArgs (top 43)) (defBody (top 43)) (defScope (top 43)) [] [] (G.fnA 23) fd) (C : Fx P w K mg G) (F : ∀ j x, fns[j]? = some x → FnAt P w K mg base G Φ n j x) :
    FnOk P w K mg base (L2.CX P w) (n + 1) (G.fnA 23) fd ["_law_script", "_law_town_here", "_law_fields", "_law_most"] (spF K G (runF Φ N 4 5 b__law_form)) := by
  have sc : FnScope ["_law_script", "_law_town_here", "_law_fields", "_law_most", "_law_k"] ["_law_script", "_law_town_here", "_law_fields", "_law_most"] (defScope (top 43)) := ⟨rfl, rfl, rfl, by decide +kernel, rfl, by decide +kernel, by decide +kernel⟩
  have hN := sc.nd
  refine fn_body (N' := ["_law_script", "_law_town_here", "_law_fields", "_law_most", "_law_k"]) FD sc fun cdv A outer s H E hr => ?_
  have tk : Takes (cxOf (L2.CX P w) P w K mg base ["_law_script", "_law_town_here", "_law_fields", "_law_most", "_law_k"] "_law_form" (defScope (top 43)) (G.fnA 23) cdv A outer s H E) (WF E) := takes_of rfl rfl rfl rfl
  have pO : PassesOwn (model P w) (cxOf (L2.CX P w) P w K mg base ["_law_script", "_law_town_here", "_law_fields", "_law_most", "_law_k"] "_law_form" (defScope (top 43)) (G.fnA 23) cdv A outer s H E).A (cxOf (L2.CX P w) P w K mg base ["_law_script", "_law_town_here", "_law_fields", "_law_most", "_law_k"] "_law_form" (defScope (top 43)) (G.fnA 23) cdv A outer s H E).env (cxOf (L2.CX P w) P w K mg base ["_law_script", "_law_town_here", "_law_fields", "_law_most", "_law_k"] "_law_form" (defScope (top 43)) (G.fnA 23) cdv A outer s H E).xe := passes_of rfl
  show DSs _ G Φ N (WF E) (defBody (top 43)) b__law_form
  exact (s_cons (s_ret (d_biT cr_tuple bi_tuple rfl C.b_tuple boot_tuple (a_cons (d_own (o_lc (own := [("_law_k", 4)]) rfl hN (i_rng1 rfl C.b_range (a_cons (d_bin op_addAll od_add (d_int) (d_call (F f__law_draw _ rfl) hr tk rfl (a_cons (d_v 0 (pv 0)) (a_cons (d_v 1 (pv 1)) (a_cons (d_v 2 (pv 2)) a_nil))))) a_nil)) (blkOk_by (by kernel_rfl)) (fun _ _ _ _ _ => (pg_name (i := 4) hN rfl (by first | exact Or.inl rfl | exact Or.inr rfl))) (fun _ _ _ _ _ => ts_nil) (fun _ _ _ _ _ => (d_call (F f__law_field _ rfl) hr takes0 rfl (a_cons (d_v 0 (pv 0)) (a_cons (d_v 1 (pv 1)) (a_cons (d_v 3 (pv 3)) a_nil))))) tg_nm (tin rfl))) a_nil))) s_nil)
theorem ok__law_call {n : Nat} {fd : FuncData} (FD : FunD K "_law_call" "_law_call" (defArgs (top 44)) (defBody (top 44)) (defScope (top 44)) [] [] (G.fnA 24) fd) (C : Fx P w K mg G) (F : ∀ j x, fns[j]? = some x → FnAt P w K mg base G Φ n j x) :
    FnOk P w K mg base (L2.CX P w) (n + 1) (G.fnA 24) fd ["_law_way", "_law_arguments"] (spF K G (runF Φ N 2 2 b__law_call)) := by
  have sc : FnScope ["_law_way", "_law_arguments"] ["_law_way", "_law_arguments"] (defScope (top 44)) := ⟨rfl, rfl, rfl, by decide +kernel, rfl, by decide +kernel, by decide +kernel⟩
  have hN := sc.nd
  refine fn_body (N' := ["_law_way", "_law_arguments"]) FD sc fun cdv A outer s H E hr => ?_
  have tk : Takes (cxOf (L2.CX P w) P w K mg base ["_law_way", "_law_arguments"] "_law_call" (defScope (top 44)) (G.fnA 24) cdv A outer s H E) (WF E) := takes_of rfl rfl rfl rfl
  have pO : PassesOwn (model P w) (cxOf (L2.CX P w) P w K mg base ["_law_way", "_law_arguments"] "_law_call" (defScope (top 44)) (G.fnA 24) cdv A outer s H E).A (cxOf (L2.CX P w) P w K mg base ["_law_way", "_law_arguments"] "_law_call" (defScope (top 44)) (G.fnA 24) cdv A outer s H E).env (cxOf (L2.CX P w) P w K mg base ["_law_way", "_law_arguments"] "_law_call" (defScope (top 44)) (G.fnA 24) cdv A outer s H E).xe := passes_of rfl
  show DSs _ G Φ N (WF E) (defBody (top 44)) b__law_call
  exact (s_cons (s_ret (d_call (F f_format_from _ rfl) hr tk rfl (a_cons (d_v 1 (pv 1)) a_nil))) s_nil)
theorem ok__law_line {n : Nat} {fd : FuncData} (FD : FunD K "_law_line" "_law_line" (defArgs (top 45)) (defBody (top 45)) (defScope (top 45)) [] [] (G.fnA 25) fd) (C : Fx P w K mg G) (F : ∀ j x, fns[j]? = some x → FnAt P w K mg base G Φ n j x) :
    FnOk P w K mg base (L2.CX P w) (n + 1) (G.fnA 25) fd ["_law_field_here"] (spF K G (runF Φ N 1 2 b__law_line)) := by
  have sc : FnScope ["_law_field_here", "_law_text"] ["_law_field_here"] (defScope (top 45)) := ⟨rfl, rfl, rfl, by decide +kernel, rfl, by decide +kernel, by decide +kernel⟩
  have hN := sc.nd
  refine fn_body (N' := ["_law_field_here", "_law_text"]) FD sc fun cdv A outer s H E hr => ?_
  have tk : Takes (cxOf (L2.CX P w) P w K mg base ["_law_field_here", "_law_text"] "_law_line" (defScope (top 45)) (G.fnA 25) cdv A outer s H E) (WF E) := takes_of rfl rfl rfl rfl
  have pO : PassesOwn (model P w) (cxOf (L2.CX P w) P w K mg base ["_law_field_here", "_law_text"] "_law_line" (defScope (top 45)) (G.fnA 25) cdv A outer s H E).A (cxOf (L2.CX P w) P w K mg base ["_law_field_here", "_law_text"] "_law_line" (defScope (top 45)) (G.fnA 25) cdv A outer s H E).env (cxOf (L2.CX P w) P w K mg base ["_law_field_here", "_law_text"] "_law_line" (defScope (top 45)) (G.fnA 25) cdv A outer s H E).xe := passes_of rfl
  show DSs _ G Φ N (WF E) (defBody (top 45)) b__law_line
  exact (s_cons (s_ite (t_cmp (op_eqD hr.units) od_eq (d_ix (d_v 0 (pv 0)) (d_int) fun _ _ => rfl) (d_strc) (nomark _)) (s_cons (s_ret (d_bin op_addAll od_add (d_bin op_addAll od_add (d_bin op_addAll od_add (d_bin op_addAll od_add (d_call (F f__law_line _ rfl) hr tk rfl (a_cons (d_ix (d_v 0 (pv 0)) (d_int) fun _ _ => rfl) a_nil)) (d_strc)) (d_biT cr_str bi_str rfl C.b_str boot_str (a_cons (d_ix (d_v 0 (pv 0)) (d_int) fun _ _ => rfl) a_nil))) (d_strc)) (d_biT cr_str bi_str rfl C.b_str boot_str (a_cons (d_ix (d_v 0 (pv 0)) (d_int) fun _ _ => rfl) a_nil)))) s_nil) s_nil) (s_cons (s_ite (t_cmp (op_eqD hr.units) od_eq (d_ix (d_v 0 (pv 0)) (d_int) fun _ _ => rfl) (d_strc) (nomark _)) (s_cons (s_ret (d_bin op_addAll od_add (d_strc) (d_ix (d_v 0 (pv 0)) (d_int) fun _ _ => rfl))) s_nil) s_nil) (s_cons (s_ite (t_cmp (op_eqD hr.units) od_eq (d_ix (d_v 0 (pv 0)) (d_int) fun _ _ => rfl) (d_strc) (nomark _)) (s_cons (s_ret (d_join (d_strc) (d_own (o_lc (own := [("_law_text", 1)]) rfl hN (i_e (d_ix (d_v 0 (pv 0)) (d_int) fun _ _ => rfl)) (blkOk_by (by kernel_rfl)) (fun _ _ _ _ _ => (pg_name (i := 1) hN rfl (by first | exact Or.inl rfl | exact Or.inr rfl))) (fun _ _ _ _ _ => ts_nil) (fun _ _ _ _ _ => (d_bin op_addAll od_add (d_strc) (d_v 1 (pv 1)))) tg_nm (tin rfl))))) s_nil) s_nil) (s_cons (s_ite (t_cmp (op_eqD hr.units) od_eq (d_ix (d_v 0 (pv 0)) (d_int) fun _ _ => rfl) (d_strc) (nomark _)) (s_cons (s_ret (d_bin op_addAll od_add (d_strc) (d_biT cr_str bi_str rfl C.b_str boot_str (a_cons (d_ix (d_v 0 (pv 0)) (d_int) fun _ _ => rfl) a_nil)))) s_nil) s_nil) (s_cons (s_ret (d_bin op_addAll od_add (d_bin op_addAll od_add (d_bin op_addAll od_add (d_ix (d_ix (d_v 0 (pv 0)) (d_int) fun _ _ => rfl) (d_int) fun _ _ => rfl) (d_biT cr_str bi_str rfl C.b_str boot_str (a_cons (d_ix (d_v 0 (pv 0)) (d_int) fun _ _ => rfl) a_nil))) (d_strc)) (d_biT cr_str bi_str rfl C.b_str boot_str (a_cons (d_ix (d_v 0 (pv 0)) (d_int) fun _ _ => rfl) a_nil)))) s_nil)))))
theorem ok__law_number {n : Nat} {fd : FuncData} (FD : FunD K "_law_number" "_law_number" (defArgs (top 46)) (defBody (top 46)) (defScope (top 46)) [] [] (G.fnA 26) fd) (C : Fx P w K mg G) (F : ∀ j x, fns[j]? = some x → FnAt P w K mg base G Φ n j x) :
    FnOk P w K mg base (L2.CX P w) (n + 1) (G.fnA 26) fd ["_law_text"] (spF K G (runF Φ N 1 1 b__law_number)) := by
  have sc : FnScope ["_law_text"] ["_law_text"] (defScope (top 46)) := ⟨rfl, rfl, rfl, by decide +kernel, rfl, by decide +kernel, by decide +kernel⟩
  have hN := sc.nd
  refine fn_body (N' := ["_law_text"]) FD sc fun cdv A outer s H E hr => ?_
  have tk : Takes (cxOf (L2.CX P w) P w K mg base ["_law_text"] "_law_number" (defScope (top 46)) (G.fnA 26) cdv A outer s H E) (WF E) := takes_of rfl rfl rfl rfl
  have pO : PassesOwn (model P w) (cxOf (L2.CX P w) P w K mg base ["_law_text"] "_law_number" (defScope (top 46)) (G.fnA 26) cdv A outer s H E).A (cxOf (L2.CX P w) P w K mg base ["_law_text"] "_law_number" (defScope (top 46)) (G.fnA 26) cdv A outer s H E).env (cxOf (L2.CX P w) P w K mg base ["_law_text"] "_law_number" (defScope (top 46)) (G.fnA 26) cdv A outer s H E).xe := passes_of rfl
  show DSs _ G Φ N (WF E) (defBody (top 46)) b__law_number
  exact (s_cons (s_ret (d_ife (t_cmp (op_inAll (un65 hr)) od_in (d_v 0 (pv 0)) (d_tup (a_cons (d_strc) (a_cons (d_strc) (a_cons (d_strc) (a_cons (d_strc) (a_cons (d_strc) a_nil)))))) (by with_unfolding_all rfl)) (d_biT cr_int bi_int rfl C.b_int boot_int (a_cons (d_v 0 (pv 0)) a_nil)) (d_neg (d_int)))) s_nil)
theorem ok__law_part {n : Nat} {fd : FuncData} (FD : FunD K "_law_part" "_law_part" (defArgs (top 47)) (defBody (top 47)) (defScope (top 47)) [] [] (G.fnA 27) fd) (C : Fx P w K mg G) (F : ∀ j x, fns[j]? = some x → FnAt P w K mg base G Φ n j x) :
    FnOk P w K mg base (L2.CX P w) (n + 1) (G.fnA 27) fd ["_law_text"] (spF K G (runF Φ N 1 5 b__law_part)) := by
  have sc : FnScope ["_law_text", "_law_name_here", "_law_front", "_law_back", "_law_part_here"] ["_law_text"] (defScope (top 47)) := ⟨rfl, rfl, rfl, by decide +kernel, rfl, by decide +kernel, by decide +kernel⟩
  have hN := sc.nd
  refine fn_body (N' := ["_law_text", "_law_name_here", "_law_front", "_law_back", "_law_part_here"]) FD sc fun cdv A outer s H E hr => ?_
  have tk : Takes (cxOf (L2.CX P w) P w K mg base ["_law_text", "_law_name_here", "_law_front", "_law_back", "_law_part_here"] "_law_part" (defScope (top 47)) (G.fnA 27) cdv A outer s H E) (WF E) := takes_of rfl rfl rfl rfl
  have pO : PassesOwn (model P w) (cxOf (L2.CX P w) P w K mg base ["_law_text", "_law_name_here", "_law_front", "_law_back", "_law_part_here"] "_law_part" (defScope (top 47)) (G.fnA 27) cdv A outer s H E).A (cxOf (L2.CX P w) P w K mg base ["_law_text", "_law_name_here", "_law_front", "_law_back", "_law_part_here"] "_law_part" (defScope (top 47)) (G.fnA 27) cdv A outer s H E).env (cxOf (L2.CX P w) P w K mg base ["_law_text", "_law_name_here", "_law_front", "_law_back", "_law_part_here"] "_law_part" (defScope (top 47)) (G.fnA 27) cdv A outer s H E).xe := passes_of rfl
  show DSs _ G Φ N (WF E) (defBody (top 47)) b__law_part
  exact (s_cons (s_ite (t_cmp (op_eqD hr.units) od_eq (d_count (d_v 0 (pv 0)) (d_strc)) (d_int) (nomark _)) (s_cons (s_asg (ps_asg (d_split (d_v 0 (pv 0)) (d_strc)) (pg_lst rfl (pgs_cons (pg_name (i := 2) hN rfl (by first | exact Or.inl rfl | exact Or.inr rfl)) (pgs_cons (pg_name (i := 3) hN rfl (by first | exact Or.inl rfl | exact Or.inr rfl)) pgs_nil)))) tg_tl) (s_cons (s_ret (d_bin op_addAll od_add (d_tup (a_cons (d_strc) (a_cons (d_call (F f__law_part _ rfl) hr tk rfl (a_cons (d_v 2 (pv 2)) a_nil)) a_nil))) (d_biT cr_tuple bi_tuple rfl C.b_tuple boot_tuple (a_cons (d_own (o_lc (own := [("_law_part_here", 4)]) rfl hN (i_e (d_split (d_v 3 (pv 3)) (d_strc))) (blkOk_by (by kernel_rfl)) (fun _ _ _ _ _ => (pg_name (i := 4) hN rfl (by first | exact Or.inl rfl | exact Or.inr rfl))) (fun _ _ _ _ _ => ts_nil) (fun _ _ _ _ _ => (d_call (F f__law_number _ rfl) hr takes0 rfl (a_cons (d_v 4 (pv 4)) a_nil))) tg_nm (tin rfl))) a_nil)))) s_nil)) s_nil) (s_cons (s_ite (t_cmp (op_eqD hr.units) od_eq (d_sl (d_v 0 (pv 0)) p_none (p_some (d_int))) (d_strc) (nomark _)) (s_cons (s_ret (d_tup (a_cons (d_strc) (a_cons (d_sl (d_v 0 (pv 0)) (p_some (d_int)) p_none) a_nil)))) s_nil) s_nil) (s_cons (s_ite (t_cmp (op_eqD hr.units) od_eq (d_sl (d_v 0 (pv 0)) p_none (p_some (d_int))) (d_strc) (nomark _)) (s_cons (s_ret (d_tup (a_cons (d_strc) (a_cons (d_biT cr_tuple bi_tuple rfl C.b_tuple boot_tuple (a_cons (d_split (d_sl (d_v 0 (pv 0)) (p_some (d_int)) p_none) (d_strc)) a_nil)) a_nil)))) s_nil) s_nil) (s_cons (s_ite (t_cmp (op_eqD hr.units) od_eq (d_sl (d_v 0 (pv 0)) p_none (p_some (d_int))) (d_strc) (nomark _)) (s_cons (s_ret (d_tup (a_cons (d_strc) (a_cons (d_call (F f__law_number _ rfl) hr tk rfl (a_cons (d_sl (d_v 0 (pv 0)) (p_some (d_int)) p_none) a_nil)) a_nil)))) s_nil) s_nil) (s_cons (s_asg (ps_set (i := 1) hN rfl (by first | exact Or.inl rfl | exact Or.inr rfl) (d_dgt ⟨C.p_, C.w_⟩ (un9 hr) (d_dcon [("d", "digits"), ("l", "letters")] (pps_cons pe_str pe_str (pps_cons pe_str pe_str pps_nil)) rfl rfl (by simp) (by decide) [.str (tx "d"), .str (tx "l")] [.str (tx "digits"), .str (tx "letters")] rfl (fun _ _ => (.cons (.str (tx "digits")) (.cons (.str (tx "letters")) .nil))) (by decide)) (d_sl (d_v 0 (pv 0)) p_none (p_some (d_int))) (d_strc))) tg_nm) (s_cons (s_ret (d_bin op_addAll od_add (d_tup (a_cons (d_v 1 (pv 1)) a_nil)) (d_biT cr_tuple bi_tuple rfl C.b_tuple boot_tuple (a_cons (d_own (o_lc (own := [("_law_part_here", 4)]) rfl hN (i_e (d_split (d_sl (d_v 0 (pv 0)) (p_some (d_int)) p_none) (d_strc))) (blkOk_by (by kernel_rfl)) (fun _ _ _ _ _ => (pg_name (i := 4) hN rfl (by first | exact Or.inl rfl | exact Or.inr rfl))) (fun _ _ _ _ _ => ts_nil) (fun _ _ _ _ _ => (d_call (F f__law_number _ rfl) hr takes0 rfl (a_cons (d_v 4 (pv 4)) a_nil))) tg_nm (tin rfl))) a_nil)))) s_nil))))))
theorem ok_law {n : Nat} {fd : FuncData} (FD : FunD K "law" "law" (defArgs (top 48)) (defBody (top 48)) (defScope (top 48)) [] [] (G.fnA 28) fd) (C : Fx P w K mg G) (F : ∀ j x, fns[j]? = some x → FnAt P w K mg base G Φ n j x) :
    FnOk P w K mg base (L2.CX P w) (n + 1) (G.fnA 28) fd ["_law_script"] (spF K G (runF Φ N 1 14 b_law)) := by
  have sc : FnScope ["_law_script", "_law_town_here", "_law_form_here", "_law_line_here", "_law_k", "_law_bads", "_law_due", "_law_at", "_law_sign", "_law_other", "_law_is_due", "_law_field_here", "_law_bad", "_law_part_here"] ["_law_script"] (defScope (top 48)) := ⟨rfl, rfl, rfl, by decide +kernel, rfl, by decide +kernel, by decide +kernel⟩
  have hN := sc.nd
  refine fn_body (N' := ["_law_script", "_law_town_here", "_law_form_here", "_law_line_here", "_law_k", "_law_bads", "_law_due", "_law_at", "_law_sign", "_law_other", "_law_is_due", "_law_field_here", "_law_bad", "_law_part_here"]) FD sc fun cdv A outer s H E hr => ?_
  have tk : Takes (cxOf (L2.CX P w) P w K mg base ["_law_script", "_law_town_here", "_law_form_here", "_law_line_here", "_law_k", "_law_bads", "_law_due", "_law_at", "_law_sign", "_law_other", "_law_is_due", "_law_field_here", "_law_bad", "_law_part_here"] "law" (defScope (top 48)) (G.fnA 28) cdv A outer s H E) (WF E) := takes_of rfl rfl rfl rfl
  have pO : PassesOwn (model P w) (cxOf (L2.CX P w) P w K mg base ["_law_script", "_law_town_here", "_law_form_here", "_law_line_here", "_law_k", "_law_bads", "_law_due", "_law_at", "_law_sign", "_law_other", "_law_is_due", "_law_field_here", "_law_bad", "_law_part_here"] "law" (defScope (top 48)) (G.fnA 28) cdv A outer s H E).A (cxOf (L2.CX P w) P w K mg base ["_law_script", "_law_town_here", "_law_form_here", "_law_line_here", "_law_k", "_law_bads", "_law_due", "_law_at", "_law_sign", "_law_other", "_law_is_due", "_law_field_here", "_law_bad", "_law_part_here"] "law" (defScope (top 48)) (G.fnA 28) cdv A outer s H E).env (cxOf (L2.CX P w) P w K mg base ["_law_script", "_law_town_here", "_law_form_here", "_law_line_here", "_law_k", "_law_bads", "_law_due", "_law_at", "_law_sign", "_law_other", "_law_is_due", "_law_field_here", "_law_bad", "_law_part_here"] "law" (defScope (top 48)) (G.fnA 28) cdv A outer s H E).xe := passes_of rfl
  show DSs _ G Φ N (WF E) (defBody (top 48)) b_law
  exact (s_cons (s_asg (ps_set (i := 1) hN rfl (by first | exact Or.inl rfl | exact Or.inr rfl) (d_call (F f__law_town _ rfl) hr tk rfl (a_cons (d_v 0 (pv 0)) a_nil))) tg_nm) (s_cons (s_asg (ps_set (i := 2) hN rfl (by first | exact Or.inl rfl | exact Or.inr rfl) (d_call (F f__law_form _ rfl) hr tk rfl (a_cons (d_v 0 (pv 0)) (a_cons (d_v 1 (pv 1)) (a_cons (d_int) (a_cons (d_int) a_nil)))))) tg_nm) (s_cons (s_asg (ps_set (i := 3) hN rfl (by first | exact Or.inl rfl | exact Or.inr rfl) (d_join (d_strc) (d_own (o_lc (own := [("_law_field_here", 11)]) rfl hN (i_e (d_v 2 (pv 2))) (blkOk_by (by kernel_rfl)) (fun _ _ _ _ _ => (pg_name (i := 11) hN rfl (by first | exact Or.inl rfl | exact Or.inr rfl))) (fun _ _ _ _ _ => ts_nil) (fun _ _ _ _ _ => (d_call (F f__law_line _ rfl) hr takes0 rfl (a_cons (d_v 11 (pv 11)) a_nil))) tg_nm (tin rfl))))) tg_nm) (s_cons (s_ite (t_w (w_or (t_cmp (op_neD hr.units) od_ne (d_call (F f_notation _ rfl) hr tk rfl (a_cons (d_v 2 (pv 2)) a_nil)) (d_v 3 (pv 3)) (nomark _)) (w_or1 (t_cmp (op_neD hr.units) od_ne (d_call (F f__law_outcome _ rfl) hr tk rfl (a_cons (d_int) (a_cons (d_v 3 (pv 3)) a_nil))) (d_tup (a_cons (d_strc) (a_cons (d_v 2 (pv 2)) a_nil))) (nomark _))))) (s_cons (s_ret (d_bl)) s_nil) s_nil) (s_cons (s_for (ps_for pO rfl (i_rng1 rfl C.b_range (a_cons (d_int) a_nil)) (pg_name (i := 4) hN rfl (by first | exact Or.inl rfl | exact Or.inr rfl)) (s_cons (s_asg (ps_set (i := 7) hN rfl (by first | exact Or.inl rfl | exact Or.inr rfl) (d_call (F f__law_draw _ rfl) hr tk rfl (a_cons (d_v 0 (pv 0)) (a_cons (d_v 1 (pv 1)) (a_cons (d_bin op_addAll od_add (d_biB cr_len bi_len rfl C.b_len boot_len (a_cons (d_v 3 (pv 3)) a_nil)) (d_int)) a_nil))))) tg_nm) (s_cons (s_asg (ps_set (i := 8) hN rfl (by first | exact Or.inl rfl | exact Or.inr rfl) (d_call (F f__law_pick _ rfl) hr tk rfl (a_cons (d_v 0 (pv 0)) (a_cons (d_v 1 (pv 1)) (a_cons (d_bin op_addAll od_add (d_biT (cr_list rfl) bi_list rfl C.b_list boot_list (a_cons (d_strc) a_nil)) (d_own (o_lst (a_cons (d_strc) a_nil)))) a_nil))))) tg_nm) (s_cons (s_asg (ps_set (i := 9) hN rfl (by first | exact Or.inl rfl | exact Or.inr rfl) (d_bin op_addAll od_add (d_bin op_addAll od_add (d_sl (d_v 3 (pv 3)) p_none (p_some (d_v 7 (pv 7)))) (d_v 8 (pv 8))) (d_sl (d_v 3 (pv 3)) (p_some (d_bin op_addAll od_add (d_v 7 (pv 7)) (d_call (F f__law_draw _ rfl) hr tk rfl (a_cons (d_v 0 (pv 0)) (a_cons (d_v 1 (pv 1)) (a_cons (d_int) a_nil)))))) p_none))) tg_nm) (s_cons (s_asg (ps_set (i := 6) hN rfl (by first | exact Or.inl rfl | exact Or.inr rfl) (d_biT cr_tuple bi_tuple rfl C.b_tuple boot_tuple (a_cons (d_own (o_lc (own := [("_law_part_here", 13)]) rfl hN (i_e (d_split (d_v 9 (pv 9)) (d_strc))) (blkOk_by (by kernel_rfl)) (fun _ _ _ _ _ => (pg_name (i := 13) hN rfl (by first | exact Or.inl rfl | exact Or.inr rfl))) (fun _ _ _ _ _ => ts_nil) (fun _ _ _ _ _ => (d_call (F f__law_part _ rfl) hr takes0 rfl (a_cons (d_v 13 (pv 13)) a_nil))) tg_nm (tin rfl))) a_nil))) tg_nm) (s_cons (s_asg (ps_set (i := 10) hN rfl (by first | exact Or.inl rfl | exact Or.inr rfl) (d_and (d_call (F f_is_format _ rfl) hr tk rfl (a_cons (d_v 6 (pv 6)) a_nil)) (d_one (d_cmp (op_eqD hr.units) od_eq (d_join (d_strc) (d_own (o_lc (own := [("_law_field_here", 11)]) rfl hN (i_e (d_v 6 (pv 6))) (blkOk_by (by kernel_rfl)) (fun _ _ _ _ _ => (pg_name (i := 11) hN rfl (by first | exact Or.inl rfl | exact Or.inr rfl))) (fun _ _ _ _ _ => ts_nil) (fun _ _ _ _ _ => (d_call (F f__law_line _ rfl) hr takes0 rfl (a_cons (d_v 11 (pv 11)) a_nil))) tg_nm (tin rfl)))) (d_v 9 (pv 9)) (nomark _))))) tg_nm) (s_cons (s_ite (t_cmp (op_neD hr.units) od_ne (d_call (F f__law_outcome _ rfl) hr tk rfl (a_cons (d_int) (a_cons (d_v 9 (pv 9)) a_nil))) (d_ife (t_val (d_v 10 (pv 10))) (d_tup (a_cons (d_strc) (a_cons (d_v 6 (pv 6)) a_nil))) (d_call (F f__law_raises _ rfl) hr tk rfl (a_cons (d_strc) a_nil))) (nomark _)) (s_cons (s_ret (d_bl)) s_nil) s_nil) s_nil))))))) tg_nm) (s_cons (s_asg (ps_set (i := 5) hN rfl (by first | exact Or.inl rfl | exact Or.inr rfl) (d_own (o_lst (a_cons (d_non) (a_cons (d_int) (a_cons (d_strc) (a_cons (d_strc) (a_cons (d_strc) (a_cons (d_strc) (a_cons (d_strc) (a_cons (d_strc) (a_cons (d_strc) (a_cons (d_strc) (a_cons (d_strc) (a_cons (d_strc) (a_cons (d_strc) (a_cons (d_strc) (a_cons (d_strc) (a_cons (d_strc) (a_cons (d_strc) a_nil)))))))))))))))))))) tg_nm) (s_cons (s_asg (ps_set (i := 5) hN rfl (by first | exact Or.inl rfl | exact Or.inr rfl) (d_bin op_addAll od_add (d_v 5 (pv 5)) (d_own (o_lst (a_cons (d_strc) (a_cons (d_strc) (a_cons (d_strc) (a_cons (d_strc) (a_cons (d_strc) (a_cons (d_v 2 (pv 2)) (a_cons (d_own (o_lst (a_cons (d_v 3 (pv 3)) a_nil))) a_nil))))))))))) tg_nm) (s_cons (s_asg (ps_set (i := 5) hN rfl (by first | exact Or.inl rfl | exact Or.inr rfl) (d_bin op_addAll od_add (d_v 5 (pv 5)) (d_own (o_lst (a_cons (d_bin op_addAll od_add (d_v 3 (pv 3)) (d_strc)) (a_cons (d_bl) (a_cons (d_strc) a_nil))))))) tg_nm) (s_cons (s_ite (t_cmp (op_neD hr.units) od_ne (d_own (o_lc (own := [("_law_bad", 12)]) rfl hN (i_e (d_v 5 (pv 5))) (blkOk_by (by kernel_rfl)) (fun _ _ _ _ _ => (pg_name (i := 12) hN rfl (by first | exact Or.inl rfl | exact Or.inr rfl))) (fun _ _ _ _ _ => (ts_one (t_cmp (op_neD hr.units) od_ne (d_call (F f__law_outcome _ rfl) hr takes0 rfl (a_cons (d_int) (a_cons (d_v 12 (pv 12)) a_nil))) (d_call (F f__law_raises _ rfl) hr takes0 rfl (a_cons (d_strc) a_nil)) (nomark _)))) (fun _ _ _ _ _ => (d_v 12 (pv 12))) tg_nm (tin rfl))) (d_own (o_lst a_nil)) (nomark _)) (s_cons (s_ret (d_bl)) s_nil) s_nil) (s_cons (s_asg (ps_set (i := 6) hN rfl (by first | exact Or.inl rfl | exact Or.inr rfl) (d_tup (a_cons (d_tup (a_cons (d_strc) (a_cons (d_tup (a_cons (d_strc) (a_cons (d_tup (a_cons (d_strc) (a_cons (d_strc) a_nil))) a_nil))) (a_cons (d_int) (a_cons (d_int) a_nil))))) (a_cons (d_tup (a_cons (d_strc) (a_cons (d_int) (a_cons (d_int) a_nil)))) a_nil)))) tg_nm) (s_cons (s_ret (d_cmp (op_eqD hr.units) od_eq (d_call (F f__law_outcome _ rfl) hr tk rfl (a_cons (d_int) (a_cons (d_strc) a_nil))) (d_tup (a_cons (d_strc) (a_cons (d_v 6 (pv 6)) a_nil))) (nomark _))) s_nil)))))))))))
end
end FT
namespace FT
open PySem PySem.Spec PyProof.Rows L2
def fn0 : List He.DefD := [⟨("is_between", none), "is_between", "is_between", defArgs (top 17), defBody (top 17), defScope (top 17), [], []⟩,
  ⟨("is_text", none), "is_text", "is_text", defArgs (top 18), defBody (top 18), defScope (top 18), [], []⟩,
  ⟨("is_span", none), "is_span", "is_span", defArgs (top 19), defBody (top 19), defScope (top 19), [], []⟩,
  ⟨("is_simple", none), "is_simple", "is_simple", defArgs (top 20), defBody (top 20), defScope (top 20), [], []⟩,
  ⟨("is_field", none), "is_field", "is_field", defArgs (top 21), defBody (top 21), defScope (top 21), [], []⟩,
  ⟨("is_format", none), "is_format", "is_format", defArgs (top 22), defBody (top 22), defScope (top 22), [], []⟩,
  ⟨("check_format", none), "check_format", "check_format", defArgs (top 23), defBody (top 23), defScope (top 23), [], []⟩,
  ⟨("field_text", none), "field_text", "field_text", defArgs (top 26), defBody (top 26), defScope (top 26), [], []⟩,
  ⟨("form_text", none), "form_text", "form_text", defArgs (top 27), defBody (top 27), defScope (top 27), [], []⟩,
  ⟨("notation", none), "notation", "notation", defArgs (top 28), defBody (top 28), defScope (top 28), [], []⟩,
  ⟨("number_of", none), "number_of", "number_of", defArgs (top 29), defBody (top 29), defScope (top 29), [], []⟩,
  ⟨("numbers_in", none), "numbers_in", "numbers_in", defArgs (top 30), defBody (top 30), defScope (top 30), [], []⟩,
  ⟨("read_field", none), "read_field", "read_field", defArgs (top 31), defBody (top 31), defScope (top 31), [], []⟩,
  ⟨("format_from", none), "format_from", "format_from", defArgs (top 32), defBody (top 32), defScope (top 32), [], []⟩,
  ⟨("_law_town", none), "_law_town", "_law_town", defArgs (top 34), defBody (top 34), defScope (top 34), [], []⟩,
  ⟨("_law_draw", none), "_law_draw", "_law_draw", defArgs (top 35), defBody (top 35), defScope (top 35), [], []⟩,
  ⟨("_law_pick", none), "_law_pick", "_law_pick", defArgs (top 36), defBody (top 36), defScope (top 36), [], []⟩,
  ⟨("_law_outcome", none), "_law_outcome", "_law_outcome", defArgs (top 37), defBody (top 37), defScope (top 37), [], []⟩,
  ⟨("_law_name", none), "_law_name", "_law_name", defArgs (top 38), defBody (top 38), defScope (top 38), [], []⟩,
  ⟨("_law_raises", none), "_law_raises", "_law_raises", defArgs (top 39), defBody (top 39), defScope (top 39), [], []⟩,
  ⟨("_law_signs", none), "_law_signs", "_law_signs", defArgs (top 40), defBody (top 40), defScope (top 40), [], []⟩,
  ⟨("_law_simple", none), "_law_simple", "_law_simple", defArgs (top 41), defBody (top 41), defScope (top 41), [], []⟩,
  ⟨("_law_field", none), "_law_field", "_law_field", defArgs (top 42), defBody (top 42), defScope (top 42), [], []⟩,
  ⟨("_law_form", none), "_law_form", "_law_form", defArgs (top 43), defBody (top 43), defScope (top 43), [], []⟩,
  ⟨("_law_call", none), "_law_call", "_law_call", defArgs (top 44), defBody (top 44), defScope (top 44), [], []⟩,
  ⟨("_law_line", none), "_law_line", "_law_line", defArgs (top 45), defBody (top 45), defScope (top 45), [], []⟩,
  ⟨("_law_number", none), "_law_number", "_law_number", defArgs (top 46), defBody (top 46), defScope (top 46), [], []⟩,
  ⟨("_law_part", none), "_law_part", "_law_part", defArgs (top 47), defBody (top 47), defScope (top 47), [], []⟩,
  ⟨("law", none), "law", "law", defArgs (top 48), defBody (top 48), defScope (top 48), [], []⟩]
def fn : List He.DefD := fn0
def fa0 : List He.Fa := [.glo "FieldError", .exc "FieldError", .glo "InvalidFormat", .exc "InvalidFormat", .glo "InvalidField", .exc "InvalidField", .glo "InvalidRecord", .exc "InvalidRecord", .glo "InvalidText", .exc "InvalidText", .glo "InvalidNumber", .exc "InvalidNumber", .glo "InvalidPlaces", .exc "InvalidPlaces", .glo "NoReading", .exc "NoReading", .glo "Doubtful", .exc "Doubtful", .glo "TooMany", .exc "TooMany", .glo "LastField", .exc "LastField", .glo "NothingToUndo", .exc "NothingToUndo", .glo "is_between", .glo "is_text", .glo "is_span", .glo "is_simple", .glo "is_field", .glo "is_format"]
def fa1 : List He.Fa := [.glo "check_format", .glo "field_text", .glo "form_text", .glo "notation", .glo "number_of", .glo "numbers_in", .glo "read_field", .glo "format_from", .glo "_law_town", .glo "_law_draw", .glo "_law_pick", .glo "_law_outcome", .glo "_law_name", .glo "_law_raises", .glo "_law_signs", .glo "_law_simple", .glo "_law_field", .glo "_law_form", .glo "_law_call", .glo "_law_line", .glo "_law_number", .glo "_law_part", .glo "law", .free "ValueError", .free "all", .free "bool", .free "int", .free "isinstance", .free "len", .free "list"]
def fa2 : List He.Fa := [.free "max", .free "min", .free "range", .free "set", .free "sorted", .free "str", .free "tuple", .str "DIGITS_records" "0123456789", .str "LETTERS" "abcdef", .str "SIGNS" "-.0123456789:abcdef", .glo "DIGITS_notation"]
def fa : List He.Fa := fa0 ++ fa1 ++ fa2
def nm0 : List PySem.Str := ["FieldError", "InvalidFormat", "InvalidField", "InvalidRecord", "InvalidText", "InvalidNumber", "InvalidPlaces", "NoReading", "Doubtful", "TooMany", "LastField", "NothingToUndo", "DIGITS_records", "LETTERS", "SIGNS", "is_between", "is_text", "is_span", "is_simple", "is_field", "is_format", "check_format", "DIGITS_notation", "field_text", "form_text", "notation", "number_of", "numbers_in", "read_field", "format_from"]
def nm1 : List PySem.Str := ["_law_town", "_law_draw", "_law_pick", "_law_outcome", "_law_name", "_law_raises", "_law_signs", "_law_simple", "_law_field", "_law_form", "_law_call", "_law_line", "_law_number", "_law_part"]
def nm : List PySem.Str := nm0 ++ nm1
abbrev R : PySem.W.OpenRow := PySem.W.OpenLaw.row PySem.Challenge.rw_fieldtexts_k72_whole_notation
def fx : List (PySem.W.Frag → Bool) := [tupB "DIGITS_notation" ([tx "0", tx "1", tx "2", tx "3", tx "4"] : List (List Nat)), exmB "InvalidText" "FieldError" true, excB "InvalidText", isiT "InvalidText" "ValueError" true, isiB "InvalidText" "Doubtful" false, isiB "InvalidText" "InvalidField" false, isiB "InvalidText" "InvalidFormat" false, isiB "InvalidText" "InvalidNumber" false, isiB "InvalidText" "InvalidPlaces" false, isiB "InvalidText" "InvalidRecord" false, isiB "InvalidText" "InvalidText" true, isiB "InvalidText" "LastField" false, isiB "InvalidText" "NoReading" false, isiB "InvalidText" "NothingToUndo" false, isiB "InvalidText" "TooMany" false]
abbrev hk : PySem.W.Hook := hookX 4 fx fa fn
def ob (s : PySem.W.SharedT) : Bool × He.AlD := obsXG 4 fx fa fn (HandSHeadRun.getT s)
theorem ob_eq (s : PySem.W.SharedT) : ob s = hk.obs s.abs := obsXG_eq (HandSHeadRun.getT_eq s)
theorem run (w : World) : HandSHeadRun.RunEq R (PySem.W.view R.prog [48]) hk ob 20000 nm w := by
  intro os
  kernel_rfl
def clss : List Str := ["FieldError", "InvalidFormat", "InvalidField", "InvalidRecord", "InvalidText", "InvalidNumber", "InvalidPlaces", "NoReading", "Doubtful", "TooMany", "LastField", "NothingToUndo"]
def Gk (P : Program) (w : World) (K : PySem.W.Frag) : Glob := ⟨fun i => He.ga K (fns.getD i ""), fun c => He.ga K (clss.getD c ""), fun _ => [], fun _ => He.ga K "", fun _ => "", P, w⟩
theorem exmB_ok {x y : Str} {b : Bool} {K : PySem.W.Frag} (h : exmB x y b K = true) : PySem.W.exmOne K (.ref (He.ga K x)) (.ref (He.ga K y)) = some b := of_decide_eq_true h
theorem isiB_ok {x y : Str} {b : Bool} {K : PySem.W.Frag} (h : isiB x y b K = true) : PySem.W.kitOne K (.ref (He.ga K x)) (.ref (He.ga K y)) = some b := of_decide_eq_true h
theorem isiT_ok {x : Str} {y : String} {b : Bool} {K : PySem.W.Frag} (h : isiT x y b K = true) : PySem.W.kitOne K (.ref (He.ga K x)) (.type y) = some b := of_decide_eq_true h
def fbs : List Fb := [⟨3, 3, b_is_between⟩, ⟨3, 4, b_is_text⟩, ⟨4, 4, b_is_span⟩, ⟨1, 4, b_is_simple⟩, ⟨1, 1, b_is_field⟩, ⟨1, 2, b_is_format⟩, ⟨1, 1, b_check_format⟩, ⟨1, 2, b_field_text⟩, ⟨1, 2, b_form_text⟩, ⟨1, 1, b_notation⟩, ⟨1, 1, b_number_of⟩, ⟨1, 2, b_numbers_in⟩, ⟨1, 4, b_read_field⟩, ⟨1, 3, b_format_from⟩, ⟨1, 1, b__law_town⟩, ⟨3, 6, b__law_draw⟩, ⟨3, 3, b__law_pick⟩, ⟨2, 5, b__law_outcome⟩, ⟨1, 2, b__law_name⟩, ⟨1, 2, b__law_raises⟩, ⟨4, 5, b__law_signs⟩, ⟨3, 8, b__law_simple⟩, ⟨3, 5, b__law_field⟩, ⟨4, 5, b__law_form⟩, ⟨2, 2, b__law_call⟩, ⟨1, 2, b__law_line⟩, ⟨1, 1, b__law_number⟩, ⟨1, 5, b__law_part⟩, ⟨1, 14, b_law⟩]
theorem u_is_between (N n : Nat) (ds : List D) (S : Sh) : Φs N fbs (n + 1) f_is_between ds S = runF (Φs N fbs n) N 3 3 b_is_between ds S := rfl
theorem u_is_text (N n : Nat) (ds : List D) (S : Sh) : Φs N fbs (n + 1) f_is_text ds S = runF (Φs N fbs n) N 3 4 b_is_text ds S := rfl
theorem u_is_span (N n : Nat) (ds : List D) (S : Sh) : Φs N fbs (n + 1) f_is_span ds S = runF (Φs N fbs n) N 4 4 b_is_span ds S := rfl
theorem u_is_simple (N n : Nat) (ds : List D) (S : Sh) : Φs N fbs (n + 1) f_is_simple ds S = runF (Φs N fbs n) N 1 4 b_is_simple ds S := rfl
theorem u_is_field (N n : Nat) (ds : List D) (S : Sh) : Φs N fbs (n + 1) f_is_field ds S = runF (Φs N fbs n) N 1 1 b_is_field ds S := rfl
theorem u_is_format (N n : Nat) (ds : List D) (S : Sh) : Φs N fbs (n + 1) f_is_format ds S = runF (Φs N fbs n) N 1 2 b_is_format ds S := rfl
theorem u_check_format (N n : Nat) (ds : List D) (S : Sh) : Φs N fbs (n + 1) f_check_format ds S = runF (Φs N fbs n) N 1 1 b_check_format ds S := rfl
theorem u_field_text (N n : Nat) (ds : List D) (S : Sh) : Φs N fbs (n + 1) f_field_text ds S = runF (Φs N fbs n) N 1 2 b_field_text ds S := rfl
theorem u_form_text (N n : Nat) (ds : List D) (S : Sh) : Φs N fbs (n + 1) f_form_text ds S = runF (Φs N fbs n) N 1 2 b_form_text ds S := rfl
theorem u_notation (N n : Nat) (ds : List D) (S : Sh) : Φs N fbs (n + 1) f_notation ds S = runF (Φs N fbs n) N 1 1 b_notation ds S := rfl
theorem u_number_of (N n : Nat) (ds : List D) (S : Sh) : Φs N fbs (n + 1) f_number_of ds S = runF (Φs N fbs n) N 1 1 b_number_of ds S := rfl
theorem u_numbers_in (N n : Nat) (ds : List D) (S : Sh) : Φs N fbs (n + 1) f_numbers_in ds S = runF (Φs N fbs n) N 1 2 b_numbers_in ds S := rfl
theorem u_read_field (N n : Nat) (ds : List D) (S : Sh) : Φs N fbs (n + 1) f_read_field ds S = runF (Φs N fbs n) N 1 4 b_read_field ds S := rfl
theorem u_format_from (N n : Nat) (ds : List D) (S : Sh) : Φs N fbs (n + 1) f_format_from ds S = runF (Φs N fbs n) N 1 3 b_format_from ds S := rfl
theorem u__law_town (N n : Nat) (ds : List D) (S : Sh) : Φs N fbs (n + 1) f__law_town ds S = runF (Φs N fbs n) N 1 1 b__law_town ds S := rfl
theorem u__law_draw (N n : Nat) (ds : List D) (S : Sh) : Φs N fbs (n + 1) f__law_draw ds S = runF (Φs N fbs n) N 3 6 b__law_draw ds S := rfl
theorem u__law_pick (N n : Nat) (ds : List D) (S : Sh) : Φs N fbs (n + 1) f__law_pick ds S = runF (Φs N fbs n) N 3 3 b__law_pick ds S := rfl
theorem u__law_outcome (N n : Nat) (ds : List D) (S : Sh) : Φs N fbs (n + 1) f__law_outcome ds S = runF (Φs N fbs n) N 2 5 b__law_outcome ds S := rfl
theorem u__law_name (N n : Nat) (ds : List D) (S : Sh) : Φs N fbs (n + 1) f__law_name ds S = runF (Φs N fbs n) N 1 2 b__law_name ds S := rfl
theorem u__law_raises (N n : Nat) (ds : List D) (S : Sh) : Φs N fbs (n + 1) f__law_raises ds S = runF (Φs N fbs n) N 1 2 b__law_raises ds S := rfl
theorem u__law_signs (N n : Nat) (ds : List D) (S : Sh) : Φs N fbs (n + 1) f__law_signs ds S = runF (Φs N fbs n) N 4 5 b__law_signs ds S := rfl
theorem u__law_simple (N n : Nat) (ds : List D) (S : Sh) : Φs N fbs (n + 1) f__law_simple ds S = runF (Φs N fbs n) N 3 8 b__law_simple ds S := rfl
theorem u__law_field (N n : Nat) (ds : List D) (S : Sh) : Φs N fbs (n + 1) f__law_field ds S = runF (Φs N fbs n) N 3 5 b__law_field ds S := rfl
theorem u__law_form (N n : Nat) (ds : List D) (S : Sh) : Φs N fbs (n + 1) f__law_form ds S = runF (Φs N fbs n) N 4 5 b__law_form ds S := rfl
theorem u__law_call (N n : Nat) (ds : List D) (S : Sh) : Φs N fbs (n + 1) f__law_call ds S = runF (Φs N fbs n) N 2 2 b__law_call ds S := rfl
theorem u__law_line (N n : Nat) (ds : List D) (S : Sh) : Φs N fbs (n + 1) f__law_line ds S = runF (Φs N fbs n) N 1 2 b__law_line ds S := rfl
theorem u__law_number (N n : Nat) (ds : List D) (S : Sh) : Φs N fbs (n + 1) f__law_number ds S = runF (Φs N fbs n) N 1 1 b__law_number ds S := rfl
theorem u__law_part (N n : Nat) (ds : List D) (S : Sh) : Φs N fbs (n + 1) f__law_part ds S = runF (Φs N fbs n) N 1 5 b__law_part ds S := rfl
theorem u_law (N n : Nat) (ds : List D) (S : Sh) : Φs N fbs (n + 1) f_law ds S = runF (Φs N fbs n) N 1 14 b_law ds S := rfl
section
variable {P : Program} {w : World} {K : PySem.W.Frag} {h : Heap} {mg : Str → Option Value} {base : Heap} {N : Nat}
theorem exc_at {i : Nat} {x : Str} (e : (He.Fa.exc x).ok K = true) (m : mg x = some (.ref (He.ga K x))) (hi : (clss.getD i "" : Str) = x := by rfl) : ExcAt K mg (Gk P w K) i x := by
  subst hi
  obtain ⟨h1, h2, h3, h4⟩ := He.exc_ok e
  exact ⟨h1, h2, h3, h4, m⟩
theorem facts (X : K.In h) (Y : h.Ns mainGlobals mg) (c : SaysX fx fa fn K) : Fx P w K mg (Gk P w K) where
  b_all := He.free_ok X Y (c.says.fact 54 (f := .free "all") rfl)
  b_bool := He.free_ok X Y (c.says.fact 55 (f := .free "bool") rfl)
  b_int := He.free_ok X Y (c.says.fact 56 (f := .free "int") rfl)
  b_isinstance := He.free_ok X Y (c.says.fact 57 (f := .free "isinstance") rfl)
  b_len := He.free_ok X Y (c.says.fact 58 (f := .free "len") rfl)
  b_list := He.free_ok X Y (c.says.fact 59 (f := .free "list") rfl)
  b_max := He.free_ok X Y (c.says.fact 60 (f := .free "max") rfl)
  b_min := He.free_ok X Y (c.says.fact 61 (f := .free "min") rfl)
  b_range := He.free_ok X Y (c.says.fact 62 (f := .free "range") rfl)
  b_set := He.free_ok X Y (c.says.fact 63 (f := .free "set") rfl)
  b_sorted := He.free_ok X Y (c.says.fact 64 (f := .free "sorted") rfl)
  b_str := He.free_ok X Y (c.says.fact 65 (f := .free "str") rfl)
  b_tuple := He.free_ok X Y (c.says.fact 66 (f := .free "tuple") rfl)
  g_DIGITS_records := He.str_ok X Y (c.says.fact 67 (f := .str "DIGITS_records" "0123456789") rfl)
  g_LETTERS := He.str_ok X Y (c.says.fact 68 (f := .str "LETTERS" "abcdef") rfl)
  g_SIGNS := He.str_ok X Y (c.says.fact 69 (f := .str "SIGNS" "-.0123456789:abcdef") rfl)
  t_DIGITS_notation := tupB_ok X Y (c.own 0 (f := tupB "DIGITS_notation" ([tx "0", tx "1", tx "2", tx "3", tx "4"] : List (List Nat))) rfl)
  p_ := rfl
  w_ := rfl
  em := (all_cons (exmB_ok (c.own 1 (f := exmB "InvalidText" "FieldError" true) rfl)) nil_all)
  b_ValueError := He.free_ok X Y (c.says.fact 53 (f := .free "ValueError") rfl)
  iv := (all_cons (⟨excB_ok (c.own 2 (f := excB "InvalidText") rfl), isiT_ok (c.own 3 (f := isiT "InvalidText" "ValueError" true) rfl)⟩) nil_all)
  iy_Doubtful := nil_all
  in_Doubtful := (all_cons (⟨excB_ok (c.own 2 (f := excB "InvalidText") rfl), isiB_ok (c.own 4 (f := isiB "InvalidText" "Doubtful" false) rfl)⟩) nil_all)
  iy_InvalidField := nil_all
  in_InvalidField := (all_cons (⟨excB_ok (c.own 2 (f := excB "InvalidText") rfl), isiB_ok (c.own 5 (f := isiB "InvalidText" "InvalidField" false) rfl)⟩) nil_all)
  iy_InvalidFormat := nil_all
  in_InvalidFormat := (all_cons (⟨excB_ok (c.own 2 (f := excB "InvalidText") rfl), isiB_ok (c.own 6 (f := isiB "InvalidText" "InvalidFormat" false) rfl)⟩) nil_all)
  iy_InvalidNumber := nil_all
  in_InvalidNumber := (all_cons (⟨excB_ok (c.own 2 (f := excB "InvalidText") rfl), isiB_ok (c.own 7 (f := isiB "InvalidText" "InvalidNumber" false) rfl)⟩) nil_all)
  iy_InvalidPlaces := nil_all
  in_InvalidPlaces := (all_cons (⟨excB_ok (c.own 2 (f := excB "InvalidText") rfl), isiB_ok (c.own 8 (f := isiB "InvalidText" "InvalidPlaces" false) rfl)⟩) nil_all)
  iy_InvalidRecord := nil_all
  in_InvalidRecord := (all_cons (⟨excB_ok (c.own 2 (f := excB "InvalidText") rfl), isiB_ok (c.own 9 (f := isiB "InvalidText" "InvalidRecord" false) rfl)⟩) nil_all)
  iy_InvalidText := (all_cons (⟨excB_ok (c.own 2 (f := excB "InvalidText") rfl), isiB_ok (c.own 10 (f := isiB "InvalidText" "InvalidText" true) rfl)⟩) nil_all)
  in_InvalidText := nil_all
  iy_LastField := nil_all
  in_LastField := (all_cons (⟨excB_ok (c.own 2 (f := excB "InvalidText") rfl), isiB_ok (c.own 11 (f := isiB "InvalidText" "LastField" false) rfl)⟩) nil_all)
  iy_NoReading := nil_all
  in_NoReading := (all_cons (⟨excB_ok (c.own 2 (f := excB "InvalidText") rfl), isiB_ok (c.own 12 (f := isiB "InvalidText" "NoReading" false) rfl)⟩) nil_all)
  iy_NothingToUndo := nil_all
  in_NothingToUndo := (all_cons (⟨excB_ok (c.own 2 (f := excB "InvalidText") rfl), isiB_ok (c.own 13 (f := isiB "InvalidText" "NothingToUndo" false) rfl)⟩) nil_all)
  iy_TooMany := nil_all
  in_TooMany := (all_cons (⟨excB_ok (c.own 2 (f := excB "InvalidText") rfl), isiB_ok (c.own 14 (f := isiB "InvalidText" "TooMany" false) rfl)⟩) nil_all)
  x_FieldError := exc_at (c.says.fact 1 (f := .exc "FieldError") rfl) (He.glo_ok X Y (c.says.fact 0 (f := .glo "FieldError") rfl))
  x_InvalidFormat := exc_at (c.says.fact 3 (f := .exc "InvalidFormat") rfl) (He.glo_ok X Y (c.says.fact 2 (f := .glo "InvalidFormat") rfl))
  x_InvalidField := exc_at (c.says.fact 5 (f := .exc "InvalidField") rfl) (He.glo_ok X Y (c.says.fact 4 (f := .glo "InvalidField") rfl))
  x_InvalidRecord := exc_at (c.says.fact 7 (f := .exc "InvalidRecord") rfl) (He.glo_ok X Y (c.says.fact 6 (f := .glo "InvalidRecord") rfl))
  x_InvalidText := exc_at (c.says.fact 9 (f := .exc "InvalidText") rfl) (He.glo_ok X Y (c.says.fact 8 (f := .glo "InvalidText") rfl))
  x_InvalidNumber := exc_at (c.says.fact 11 (f := .exc "InvalidNumber") rfl) (He.glo_ok X Y (c.says.fact 10 (f := .glo "InvalidNumber") rfl))
  x_InvalidPlaces := exc_at (c.says.fact 13 (f := .exc "InvalidPlaces") rfl) (He.glo_ok X Y (c.says.fact 12 (f := .glo "InvalidPlaces") rfl))
  x_NoReading := exc_at (c.says.fact 15 (f := .exc "NoReading") rfl) (He.glo_ok X Y (c.says.fact 14 (f := .glo "NoReading") rfl))
  x_Doubtful := exc_at (c.says.fact 17 (f := .exc "Doubtful") rfl) (He.glo_ok X Y (c.says.fact 16 (f := .glo "Doubtful") rfl))
  x_TooMany := exc_at (c.says.fact 19 (f := .exc "TooMany") rfl) (He.glo_ok X Y (c.says.fact 18 (f := .glo "TooMany") rfl))
  x_LastField := exc_at (c.says.fact 21 (f := .exc "LastField") rfl) (He.glo_ok X Y (c.says.fact 20 (f := .glo "LastField") rfl))
  x_NothingToUndo := exc_at (c.says.fact 23 (f := .exc "NothingToUndo") rfl) (He.glo_ok X Y (c.says.fact 22 (f := .glo "NothingToUndo") rfl))
theorem all_is_between (X : K.In h) (Y : h.Ns mainGlobals mg) (c : SaysX fx fa fn K) : FnAll P w K mg base (Gk P w K) N fbs fns 0 := by
  obtain ⟨fd, FD⟩ := c.says.def_ 0 (d := ⟨("is_between", none), "is_between", "is_between", defArgs (top 17), defBody (top 17), defScope (top 17), [], []⟩) rfl
  exact ⟨⟨"is_between", rfl, He.glo_ok X Y (c.says.fact 24 (f := .glo "is_between") rfl)⟩, FD.kp, fd, ["value", "low", "high"], FD.bindsN fun _ _ _ _ _ _ us hl => match us, hl with | [_, _, _], _ => rfl, fun n F => ok_is_between FD (facts X Y c) F⟩
theorem all_is_text (X : K.In h) (Y : h.Ns mainGlobals mg) (c : SaysX fx fa fn K) : FnAll P w K mg base (Gk P w K) N fbs fns 1 := by
  obtain ⟨fd, FD⟩ := c.says.def_ 1 (d := ⟨("is_text", none), "is_text", "is_text", defArgs (top 18), defBody (top 18), defScope (top 18), [], []⟩) rfl
  exact ⟨⟨"is_text", rfl, He.glo_ok X Y (c.says.fact 25 (f := .glo "is_text") rfl)⟩, FD.kp, fd, ["value", "low", "high"], FD.bindsN fun _ _ _ _ _ _ us hl => match us, hl with | [_, _, _], _ => rfl, fun n F => ok_is_text FD (facts X Y c) F⟩
theorem all_is_span (X : K.In h) (Y : h.Ns mainGlobals mg) (c : SaysX fx fa fn K) : FnAll P w K mg base (Gk P w K) N fbs fns 2 := by
  obtain ⟨fd, FD⟩ := c.says.def_ 2 (d := ⟨("is_span", none), "is_span", "is_span", defArgs (top 19), defBody (top 19), defScope (top 19), [], []⟩) rfl
  exact ⟨⟨"is_span", rfl, He.glo_ok X Y (c.says.fact 26 (f := .glo "is_span") rfl)⟩, FD.kp, fd, ["low", "high", "least", "most"], FD.bindsN fun _ _ _ _ _ _ us hl => match us, hl with | [_, _, _, _], _ => rfl, fun n F => ok_is_span FD (facts X Y c) F⟩
theorem all_is_simple (X : K.In h) (Y : h.Ns mainGlobals mg) (c : SaysX fx fa fn K) : FnAll P w K mg base (Gk P w K) N fbs fns 3 := by
  obtain ⟨fd, FD⟩ := c.says.def_ 3 (d := ⟨("is_simple", none), "is_simple", "is_simple", defArgs (top 20), defBody (top 20), defScope (top 20), [], []⟩) rfl
  exact ⟨⟨"is_simple", rfl, He.glo_ok X Y (c.says.fact 27 (f := .glo "is_simple") rfl)⟩, FD.kp, fd, ["value"], FD.bindsN fun _ _ _ _ _ _ us hl => match us, hl with | [_], _ => rfl, fun n F => ok_is_simple FD (facts X Y c) F⟩
theorem all_is_field (X : K.In h) (Y : h.Ns mainGlobals mg) (c : SaysX fx fa fn K) : FnAll P w K mg base (Gk P w K) N fbs fns 4 := by
  obtain ⟨fd, FD⟩ := c.says.def_ 4 (d := ⟨("is_field", none), "is_field", "is_field", defArgs (top 21), defBody (top 21), defScope (top 21), [], []⟩) rfl
  exact ⟨⟨"is_field", rfl, He.glo_ok X Y (c.says.fact 28 (f := .glo "is_field") rfl)⟩, FD.kp, fd, ["value"], FD.bindsN fun _ _ _ _ _ _ us hl => match us, hl with | [_], _ => rfl, fun n F => ok_is_field FD (facts X Y c) F⟩
theorem all_is_format (X : K.In h) (Y : h.Ns mainGlobals mg) (c : SaysX fx fa fn K) : FnAll P w K mg base (Gk P w K) N fbs fns 5 := by
  obtain ⟨fd, FD⟩ := c.says.def_ 5 (d := ⟨("is_format", none), "is_format", "is_format", defArgs (top 22), defBody (top 22), defScope (top 22), [], []⟩) rfl
  exact ⟨⟨"is_format", rfl, He.glo_ok X Y (c.says.fact 29 (f := .glo "is_format") rfl)⟩, FD.kp, fd, ["value"], FD.bindsN fun _ _ _ _ _ _ us hl => match us, hl with | [_], _ => rfl, fun n F => ok_is_format FD (facts X Y c) F⟩
theorem all_check_format (X : K.In h) (Y : h.Ns mainGlobals mg) (c : SaysX fx fa fn K) : FnAll P w K mg base (Gk P w K) N fbs fns 6 := by
  obtain ⟨fd, FD⟩ := c.says.def_ 6 (d := ⟨("check_format", none), "check_format", "check_format", defArgs (top 23), defBody (top 23), defScope (top 23), [], []⟩) rfl
  exact ⟨⟨"check_format", rfl, He.glo_ok X Y (c.says.fact 30 (f := .glo "check_format") rfl)⟩, FD.kp, fd, ["value"], FD.bindsN fun _ _ _ _ _ _ us hl => match us, hl with | [_], _ => rfl, fun n F => ok_check_format FD (facts X Y c) F⟩
theorem all_field_text (X : K.In h) (Y : h.Ns mainGlobals mg) (c : SaysX fx fa fn K) : FnAll P w K mg base (Gk P w K) N fbs fns 7 := by
  obtain ⟨fd, FD⟩ := c.says.def_ 7 (d := ⟨("field_text", none), "field_text", "field_text", defArgs (top 26), defBody (top 26), defScope (top 26), [], []⟩) rfl
  exact ⟨⟨"field_text", rfl, He.glo_ok X Y (c.says.fact 31 (f := .glo "field_text") rfl)⟩, FD.kp, fd, ["field"], FD.bindsN fun _ _ _ _ _ _ us hl => match us, hl with | [_], _ => rfl, fun n F => ok_field_text FD (facts X Y c) F⟩
theorem all_form_text (X : K.In h) (Y : h.Ns mainGlobals mg) (c : SaysX fx fa fn K) : FnAll P w K mg base (Gk P w K) N fbs fns 8 := by
  obtain ⟨fd, FD⟩ := c.says.def_ 8 (d := ⟨("form_text", none), "form_text", "form_text", defArgs (top 27), defBody (top 27), defScope (top 27), [], []⟩) rfl
  exact ⟨⟨"form_text", rfl, He.glo_ok X Y (c.says.fact 32 (f := .glo "form_text") rfl)⟩, FD.kp, fd, ["form"], FD.bindsN fun _ _ _ _ _ _ us hl => match us, hl with | [_], _ => rfl, fun n F => ok_form_text FD (facts X Y c) F⟩
theorem all_notation (X : K.In h) (Y : h.Ns mainGlobals mg) (c : SaysX fx fa fn K) : FnAll P w K mg base (Gk P w K) N fbs fns 9 := by
  obtain ⟨fd, FD⟩ := c.says.def_ 9 (d := ⟨("notation", none), "notation", "notation", defArgs (top 28), defBody (top 28), defScope (top 28), [], []⟩) rfl
  exact ⟨⟨"notation", rfl, He.glo_ok X Y (c.says.fact 33 (f := .glo "notation") rfl)⟩, FD.kp, fd, ["form"], FD.bindsN fun _ _ _ _ _ _ us hl => match us, hl with | [_], _ => rfl, fun n F => ok_notation FD (facts X Y c) F⟩
theorem all_number_of (X : K.In h) (Y : h.Ns mainGlobals mg) (c : SaysX fx fa fn K) : FnAll P w K mg base (Gk P w K) N fbs fns 10 := by
  obtain ⟨fd, FD⟩ := c.says.def_ 10 (d := ⟨("number_of", none), "number_of", "number_of", defArgs (top 29), defBody (top 29), defScope (top 29), [], []⟩) rfl
  exact ⟨⟨"number_of", rfl, He.glo_ok X Y (c.says.fact 34 (f := .glo "number_of") rfl)⟩, FD.kp, fd, ["word"], FD.bindsN fun _ _ _ _ _ _ us hl => match us, hl with | [_], _ => rfl, fun n F => ok_number_of FD (facts X Y c) F⟩
theorem all_numbers_in (X : K.In h) (Y : h.Ns mainGlobals mg) (c : SaysX fx fa fn K) : FnAll P w K mg base (Gk P w K) N fbs fns 11 := by
  obtain ⟨fd, FD⟩ := c.says.def_ 11 (d := ⟨("numbers_in", none), "numbers_in", "numbers_in", defArgs (top 30), defBody (top 30), defScope (top 30), [], []⟩) rfl
  exact ⟨⟨"numbers_in", rfl, He.glo_ok X Y (c.says.fact 35 (f := .glo "numbers_in") rfl)⟩, FD.kp, fd, ["text"], FD.bindsN fun _ _ _ _ _ _ us hl => match us, hl with | [_], _ => rfl, fun n F => ok_numbers_in FD (facts X Y c) F⟩
theorem all_read_field (X : K.In h) (Y : h.Ns mainGlobals mg) (c : SaysX fx fa fn K) : FnAll P w K mg base (Gk P w K) N fbs fns 12 := by
  obtain ⟨fd, FD⟩ := c.says.def_ 12 (d := ⟨("read_field", none), "read_field", "read_field", defArgs (top 31), defBody (top 31), defScope (top 31), [], []⟩) rfl
  exact ⟨⟨"read_field", rfl, He.glo_ok X Y (c.says.fact 36 (f := .glo "read_field") rfl)⟩, FD.kp, fd, ["text"], FD.bindsN fun _ _ _ _ _ _ us hl => match us, hl with | [_], _ => rfl, fun n F => ok_read_field FD (facts X Y c) F⟩
theorem all_format_from (X : K.In h) (Y : h.Ns mainGlobals mg) (c : SaysX fx fa fn K) : FnAll P w K mg base (Gk P w K) N fbs fns 13 := by
  obtain ⟨fd, FD⟩ := c.says.def_ 13 (d := ⟨("format_from", none), "format_from", "format_from", defArgs (top 32), defBody (top 32), defScope (top 32), [], []⟩) rfl
  exact ⟨⟨"format_from", rfl, He.glo_ok X Y (c.says.fact 37 (f := .glo "format_from") rfl)⟩, FD.kp, fd, ["text"], FD.bindsN fun _ _ _ _ _ _ us hl => match us, hl with | [_], _ => rfl, fun n F => ok_format_from FD (facts X Y c) F⟩
theorem all__law_town (X : K.In h) (Y : h.Ns mainGlobals mg) (c : SaysX fx fa fn K) : FnAll P w K mg base (Gk P w K) N fbs fns 14 := by
  obtain ⟨fd, FD⟩ := c.says.def_ 14 (d := ⟨("_law_town", none), "_law_town", "_law_town", defArgs (top 34), defBody (top 34), defScope (top 34), [], []⟩) rfl
  exact ⟨⟨"_law_town", rfl, He.glo_ok X Y (c.says.fact 38 (f := .glo "_law_town") rfl)⟩, FD.kp, fd, ["_law_script"], FD.bindsN fun _ _ _ _ _ _ us hl => match us, hl with | [_], _ => rfl, fun n F => ok__law_town FD (facts X Y c) F⟩
theorem all__law_draw (X : K.In h) (Y : h.Ns mainGlobals mg) (c : SaysX fx fa fn K) : FnAll P w K mg base (Gk P w K) N fbs fns 15 := by
  obtain ⟨fd, FD⟩ := c.says.def_ 15 (d := ⟨("_law_draw", none), "_law_draw", "_law_draw", defArgs (top 35), defBody (top 35), defScope (top 35), [], []⟩) rfl
  exact ⟨⟨"_law_draw", rfl, He.glo_ok X Y (c.says.fact 39 (f := .glo "_law_draw") rfl)⟩, FD.kp, fd, ["_law_script", "_law_town_here", "_law_limit"], FD.bindsN fun _ _ _ _ _ _ us hl => match us, hl with | [_, _, _], _ => rfl, fun n F => ok__law_draw FD (facts X Y c) F⟩
theorem all__law_pick (X : K.In h) (Y : h.Ns mainGlobals mg) (c : SaysX fx fa fn K) : FnAll P w K mg base (Gk P w K) N fbs fns 16 := by
  obtain ⟨fd, FD⟩ := c.says.def_ 16 (d := ⟨("_law_pick", none), "_law_pick", "_law_pick", defArgs (top 36), defBody (top 36), defScope (top 36), [], []⟩) rfl
  exact ⟨⟨"_law_pick", rfl, He.glo_ok X Y (c.says.fact 40 (f := .glo "_law_pick") rfl)⟩, FD.kp, fd, ["_law_script", "_law_town_here", "_law_choices"], FD.bindsN fun _ _ _ _ _ _ us hl => match us, hl with | [_, _, _], _ => rfl, fun n F => ok__law_pick FD (facts X Y c) F⟩
theorem all__law_outcome (X : K.In h) (Y : h.Ns mainGlobals mg) (c : SaysX fx fa fn K) : FnAll P w K mg base (Gk P w K) N fbs fns 17 := by
  obtain ⟨fd, FD⟩ := c.says.def_ 17 (d := ⟨("_law_outcome", none), "_law_outcome", "_law_outcome", defArgs (top 37), defBody (top 37), defScope (top 37), [], []⟩) rfl
  exact ⟨⟨"_law_outcome", rfl, He.glo_ok X Y (c.says.fact 41 (f := .glo "_law_outcome") rfl)⟩, FD.kp, fd, ["_law_way", "_law_arguments"], FD.bindsN fun _ _ _ _ _ _ us hl => match us, hl with | [_, _], _ => rfl, fun n F => ok__law_outcome FD (facts X Y c) F⟩
theorem all__law_name (X : K.In h) (Y : h.Ns mainGlobals mg) (c : SaysX fx fa fn K) : FnAll P w K mg base (Gk P w K) N fbs fns 18 := by
  obtain ⟨fd, FD⟩ := c.says.def_ 18 (d := ⟨("_law_name", none), "_law_name", "_law_name", defArgs (top 38), defBody (top 38), defScope (top 38), [], []⟩) rfl
  exact ⟨⟨"_law_name", rfl, He.glo_ok X Y (c.says.fact 42 (f := .glo "_law_name") rfl)⟩, FD.kp, fd, ["_law_caught"], FD.bindsN fun _ _ _ _ _ _ us hl => match us, hl with | [_], _ => rfl, fun n F => ok__law_name FD (facts X Y c) F⟩
theorem all__law_raises (X : K.In h) (Y : h.Ns mainGlobals mg) (c : SaysX fx fa fn K) : FnAll P w K mg base (Gk P w K) N fbs fns 19 := by
  obtain ⟨fd, FD⟩ := c.says.def_ 19 (d := ⟨("_law_raises", none), "_law_raises", "_law_raises", defArgs (top 39), defBody (top 39), defScope (top 39), [], []⟩) rfl
  exact ⟨⟨"_law_raises", rfl, He.glo_ok X Y (c.says.fact 43 (f := .glo "_law_raises") rfl)⟩, FD.kp, fd, ["_law_name_here"], FD.bindsN fun _ _ _ _ _ _ us hl => match us, hl with | [_], _ => rfl, fun n F => ok__law_raises FD (facts X Y c) F⟩
theorem all__law_signs (X : K.In h) (Y : h.Ns mainGlobals mg) (c : SaysX fx fa fn K) : FnAll P w K mg base (Gk P w K) N fbs fns 20 := by
  obtain ⟨fd, FD⟩ := c.says.def_ 20 (d := ⟨("_law_signs", none), "_law_signs", "_law_signs", defArgs (top 40), defBody (top 40), defScope (top 40), [], []⟩) rfl
  exact ⟨⟨"_law_signs", rfl, He.glo_ok X Y (c.says.fact 44 (f := .glo "_law_signs") rfl)⟩, FD.kp, fd, ["_law_script", "_law_town_here", "_law_signs_here", "_law_many"], FD.bindsN fun _ _ _ _ _ _ us hl => match us, hl with | [_, _, _, _], _ => rfl, fun n F => ok__law_signs FD (facts X Y c) F⟩
theorem all__law_simple (X : K.In h) (Y : h.Ns mainGlobals mg) (c : SaysX fx fa fn K) : FnAll P w K mg base (Gk P w K) N fbs fns 21 := by
  obtain ⟨fd, FD⟩ := c.says.def_ 21 (d := ⟨("_law_simple", none), "_law_simple", "_law_simple", defArgs (top 41), defBody (top 41), defScope (top 41), [], []⟩) rfl
  exact ⟨⟨"_law_simple", rfl, He.glo_ok X Y (c.says.fact 45 (f := .glo "_law_simple") rfl)⟩, FD.kp, fd, ["_law_script", "_law_town_here", "_law_most"], FD.bindsN fun _ _ _ _ _ _ us hl => match us, hl with | [_, _, _], _ => rfl, fun n F => ok__law_simple FD (facts X Y c) F⟩
theorem all__law_field (X : K.In h) (Y : h.Ns mainGlobals mg) (c : SaysX fx fa fn K) : FnAll P w K mg base (Gk P w K) N fbs fns 22 := by
  obtain ⟨fd, FD⟩ := c.says.def_ 22 (d := ⟨("_law_field", none), "_law_field", "_law_field", defArgs (top 42), defBody (top 42), defScope (top 42), [], []⟩) rfl
  exact ⟨⟨"_law_field", rfl, He.glo_ok X Y (c.says.fact 46 (f := .glo "_law_field") rfl)⟩, FD.kp, fd, ["_law_script", "_law_town_here", "_law_most"], FD.bindsN fun _ _ _ _ _ _ us hl => match us, hl with | [_, _, _], _ => rfl, fun n F => ok__law_field FD (facts X Y c) F⟩
theorem all__law_form (X : K.In h) (Y : h.Ns mainGlobals mg) (c : SaysX fx fa fn K) : FnAll P w K mg base (Gk P w K) N fbs fns 23 := by
  obtain ⟨fd, FD⟩ := c.says.def_ 23 (d := ⟨("_law_form", none), "_law_form", "_law_form", defArgs (top 43), defBody (top 43), defScope (top 43), [], []⟩) rfl
  exact ⟨⟨"_law_form", rfl, He.glo_ok X Y (c.says.fact 47 (f := .glo "_law_form") rfl)⟩, FD.kp, fd, ["_law_script", "_law_town_here", "_law_fields", "_law_most"], FD.bindsN fun _ _ _ _ _ _ us hl => match us, hl with | [_, _, _, _], _ => rfl, fun n F => ok__law_form FD (facts X Y c) F⟩
theorem all__law_call (X : K.In h) (Y : h.Ns mainGlobals mg) (c : SaysX fx fa fn K) : FnAll P w K mg base (Gk P w K) N fbs fns 24 := by
  obtain ⟨fd, FD⟩ := c.says.def_ 24 (d := ⟨("_law_call", none), "_law_call", "_law_call", defArgs (top 44), defBody (top 44), defScope (top 44), [], []⟩) rfl
  exact ⟨⟨"_law_call", rfl, He.glo_ok X Y (c.says.fact 48 (f := .glo "_law_call") rfl)⟩, FD.kp, fd, ["_law_way", "_law_arguments"], FD.bindsN fun _ _ _ _ _ _ us hl => match us, hl with | [_, _], _ => rfl, fun n F => ok__law_call FD (facts X Y c) F⟩
theorem all__law_line (X : K.In h) (Y : h.Ns mainGlobals mg) (c : SaysX fx fa fn K) : FnAll P w K mg base (Gk P w K) N fbs fns 25 := by
  obtain ⟨fd, FD⟩ := c.says.def_ 25 (d := ⟨("_law_line", none), "_law_line", "_law_line", defArgs (top 45), defBody (top 45), defScope (top 45), [], []⟩) rfl
  exact ⟨⟨"_law_line", rfl, He.glo_ok X Y (c.says.fact 49 (f := .glo "_law_line") rfl)⟩, FD.kp, fd, ["_law_field_here"], FD.bindsN fun _ _ _ _ _ _ us hl => match us, hl with | [_], _ => rfl, fun n F => ok__law_line FD (facts X Y c) F⟩
theorem all__law_number (X : K.In h) (Y : h.Ns mainGlobals mg) (c : SaysX fx fa fn K) : FnAll P w K mg base (Gk P w K) N fbs fns 26 := by
  obtain ⟨fd, FD⟩ := c.says.def_ 26 (d := ⟨("_law_number", none), "_law_number", "_law_number", defArgs (top 46), defBody (top 46), defScope (top 46), [], []⟩) rfl
  exact ⟨⟨"_law_number", rfl, He.glo_ok X Y (c.says.fact 50 (f := .glo "_law_number") rfl)⟩, FD.kp, fd, ["_law_text"], FD.bindsN fun _ _ _ _ _ _ us hl => match us, hl with | [_], _ => rfl, fun n F => ok__law_number FD (facts X Y c) F⟩
theorem all__law_part (X : K.In h) (Y : h.Ns mainGlobals mg) (c : SaysX fx fa fn K) : FnAll P w K mg base (Gk P w K) N fbs fns 27 := by
  obtain ⟨fd, FD⟩ := c.says.def_ 27 (d := ⟨("_law_part", none), "_law_part", "_law_part", defArgs (top 47), defBody (top 47), defScope (top 47), [], []⟩) rfl
  exact ⟨⟨"_law_part", rfl, He.glo_ok X Y (c.says.fact 51 (f := .glo "_law_part") rfl)⟩, FD.kp, fd, ["_law_text"], FD.bindsN fun _ _ _ _ _ _ us hl => match us, hl with | [_], _ => rfl, fun n F => ok__law_part FD (facts X Y c) F⟩
theorem all_law (X : K.In h) (Y : h.Ns mainGlobals mg) (c : SaysX fx fa fn K) : FnAll P w K mg base (Gk P w K) N fbs fns 28 := by
  obtain ⟨fd, FD⟩ := c.says.def_ 28 (d := ⟨("law", none), "law", "law", defArgs (top 48), defBody (top 48), defScope (top 48), [], []⟩) rfl
  exact ⟨⟨"law", rfl, He.glo_ok X Y (c.says.fact 52 (f := .glo "law") rfl)⟩, FD.kp, fd, ["_law_script"], FD.bindsN fun _ _ _ _ _ _ us hl => match us, hl with | [_], _ => rfl, fun n F => ok_law FD (facts X Y c) F⟩
theorem all_i (X : K.In h) (Y : h.Ns mainGlobals mg) (c : SaysX fx fa fn K) : ∀ i, i < fns.length → FnAll P w K mg base (Gk P w K) N fbs fns i
  | 0, _ => all_is_between X Y c
  | 1, _ => all_is_text X Y c
  | 2, _ => all_is_span X Y c
  | 3, _ => all_is_simple X Y c
  | 4, _ => all_is_field X Y c
  | 5, _ => all_is_format X Y c
  | 6, _ => all_check_format X Y c
  | 7, _ => all_field_text X Y c
  | 8, _ => all_form_text X Y c
  | 9, _ => all_notation X Y c
  | 10, _ => all_number_of X Y c
  | 11, _ => all_numbers_in X Y c
  | 12, _ => all_read_field X Y c
  | 13, _ => all_format_from X Y c
  | 14, _ => all__law_town X Y c
  | 15, _ => all__law_draw X Y c
  | 16, _ => all__law_pick X Y c
  | 17, _ => all__law_outcome X Y c
  | 18, _ => all__law_name X Y c
  | 19, _ => all__law_raises X Y c
  | 20, _ => all__law_signs X Y c
  | 21, _ => all__law_simple X Y c
  | 22, _ => all__law_field X Y c
  | 23, _ => all__law_form X Y c
  | 24, _ => all__law_call X Y c
  | 25, _ => all__law_line X Y c
  | 26, _ => all__law_number X Y c
  | 27, _ => all__law_part X Y c
  | 28, _ => all_law X Y c
  | n + 29, h => absurd h (by show ¬ (n + 29 < 29); omega)
theorem lawOk {n : Nat} (hp : ∀ ns : List Int, ns.length ≤ 63 → ∃ S, Φs N fbs (n + 1) 28 [.scr ns] [] = .ok (.bl true) S) {f : Addr} (X : K.In h) (Y : h.Ns mainGlobals mg) (hfa : mg ("law" : Str) = some (.ref f)) (c : SaysX fx fa fn K) :
    ∃ fd : FuncData, (∀ (s : Shared) (v : Value), BindsTo s fd ⟨[v], []⟩ [("_law_script", v)]) ∧ ∀ base : Heap, K.In base → base.Ns mainGlobals mg → FnOk P w K mg base (CXa P) (n + 1) f fd ["_law_script"] (spLaw K fun ns => ns.length ≤ 63) := by
  obtain ⟨fd, FD⟩ := c.says.def_ 28 (d := ⟨("law", none), "law", "law", defArgs (top 48), defBody (top 48), defScope (top 48), [], []⟩) rfl
  have e := hfa.symm.trans (He.glo_ok X Y (c.says.fact 52 (f := .glo "law") rfl))
  cases e
  have b := FunD.bindsA (ps := ["_law_script"]) FD fun _ _ _ _ _ _ us hl => match us, hl with | [_], _ => rfl
  refine ⟨fd, fun s v => b s [v] rfl, fun base _ _ => ?_⟩
  have F := all_fns (P := P) (w := w) (mg := mg) (base := base) (G := Gk P w K) (N := N) (all_i X Y c) n
  exact any_cx (law_of (ok_law FD (facts X Y c) F) hp)
end
end FT
namespace FT
open PySem PySem.Spec PyProof.Rows L2
/-! ### the program's functions about fields and records -/
abbrev Tx := List Nat
def sgn : Tx := tx "-.0123456789:abcdef"
def dgs : Tx := tx "0123456789"
def lts : Tx := tx "abcdef"
theorem e_sgn : tx "-.0123456789:abcdef" = [45, 46, 48, 49, 50, 51, 52, 53, 54, 55, 56, 57, 58, 97, 98, 99, 100, 101, 102] := by decide +kernel
theorem e_dgs : tx "0123456789" = [48, 49, 50, 51, 52, 53, 54, 55, 56, 57] := by decide +kernel
theorem e_lts : tx "abcdef" = [97, 98, 99, 100, 101, 102] := by decide +kernel
theorem e_word : tx "word" = [119, 111, 114, 100] := by decide +kernel
theorem e_digits : tx "digits" = [100, 105, 103, 105, 116, 115] := by decide +kernel
theorem e_letters : tx "letters" = [108, 101, 116, 116, 101, 114, 115] := by decide +kernel
theorem e_number : tx "number" = [110, 117, 109, 98, 101, 114] := by decide +kernel
theorem e_choice : tx "choice" = [99, 104, 111, 105, 99, 101] := by decide +kernel
theorem e_repeat : tx "repeat" = [114, 101, 112, 101, 97, 116] := by decide +kernel
theorem eqD_str (a b : Tx) (ha : a.all (· < 1114112) = true) (hb : b.all (· < 1114112) = true) : eqD (.str a) (.str b) = some (a == b) := by
  have h1 : okD (.str a) 60 = true := by simpa [okD] using ha
  have h2 : okD (.str b) 60 = true := by simpa [okD] using hb
  simp [eqD, norm, h1, h2, eqv]
theorem g_word_word : eqD (.str (tx "word")) (.str (tx "word")) = some true := by rw [eqD_str _ _ (by decide +kernel) (by decide +kernel)]; exact congrArg some (by decide +kernel)
theorem g_word_digits : eqD (.str (tx "word")) (.str (tx "digits")) = some false := by rw [eqD_str _ _ (by decide +kernel) (by decide +kernel)]; exact congrArg some (by decide +kernel)
theorem g_word_letters : eqD (.str (tx "word")) (.str (tx "letters")) = some false := by rw [eqD_str _ _ (by decide +kernel) (by decide +kernel)]; exact congrArg some (by decide +kernel)
theorem g_word_number : eqD (.str (tx "word")) (.str (tx "number")) = some false := by rw [eqD_str _ _ (by decide +kernel) (by decide +kernel)]; exact congrArg some (by decide +kernel)
theorem g_word_choice : eqD (.str (tx "word")) (.str (tx "choice")) = some false := by rw [eqD_str _ _ (by decide +kernel) (by decide +kernel)]; exact congrArg some (by decide +kernel)
theorem g_word_repeat : eqD (.str (tx "word")) (.str (tx "repeat")) = some false := by rw [eqD_str _ _ (by decide +kernel) (by decide +kernel)]; exact congrArg some (by decide +kernel)
theorem g_digits_word : eqD (.str (tx "digits")) (.str (tx "word")) = some false := by rw [eqD_str _ _ (by decide +kernel) (by decide +kernel)]; exact congrArg some (by decide +kernel)
theorem g_digits_digits : eqD (.str (tx "digits")) (.str (tx "digits")) = some true := by rw [eqD_str _ _ (by decide +kernel) (by decide +kernel)]; exact congrArg some (by decide +kernel)
theorem g_digits_letters : eqD (.str (tx "digits")) (.str (tx "letters")) = some false := by rw [eqD_str _ _ (by decide +kernel) (by decide +kernel)]; exact congrArg some (by decide +kernel)
theorem g_digits_number : eqD (.str (tx "digits")) (.str (tx "number")) = some false := by rw [eqD_str _ _ (by decide +kernel) (by decide +kernel)]; exact congrArg some (by decide +kernel)
theorem g_digits_choice : eqD (.str (tx "digits")) (.str (tx "choice")) = some false := by rw [eqD_str _ _ (by decide +kernel) (by decide +kernel)]; exact congrArg some (by decide +kernel)
theorem g_digits_repeat : eqD (.str (tx "digits")) (.str (tx "repeat")) = some false := by rw [eqD_str _ _ (by decide +kernel) (by decide +kernel)]; exact congrArg some (by decide +kernel)
theorem g_letters_word : eqD (.str (tx "letters")) (.str (tx "word")) = some false := by rw [eqD_str _ _ (by decide +kernel) (by decide +kernel)]; exact congrArg some (by decide +kernel)
theorem g_letters_digits : eqD (.str (tx "letters")) (.str (tx "digits")) = some false := by rw [eqD_str _ _ (by decide +kernel) (by decide +kernel)]; exact congrArg some (by decide +kernel)
theorem g_letters_letters : eqD (.str (tx "letters")) (.str (tx "letters")) = some true := by rw [eqD_str _ _ (by decide +kernel) (by decide +kernel)]; exact congrArg some (by decide +kernel)
theorem g_letters_number : eqD (.str (tx "letters")) (.str (tx "number")) = some false := by rw [eqD_str _ _ (by decide +kernel) (by decide +kernel)]; exact congrArg some (by decide +kernel)
theorem g_letters_choice : eqD (.str (tx "letters")) (.str (tx "choice")) = some false := by rw [eqD_str _ _ (by decide +kernel) (by decide +kernel)]; exact congrArg some (by decide +kernel)
theorem g_letters_repeat : eqD (.str (tx "letters")) (.str (tx "repeat")) = some false := by rw [eqD_str _ _ (by decide +kernel) (by decide +kernel)]; exact congrArg some (by decide +kernel)
theorem g_number_word : eqD (.str (tx "number")) (.str (tx "word")) = some false := by rw [eqD_str _ _ (by decide +kernel) (by decide +kernel)]; exact congrArg some (by decide +kernel)
theorem g_number_digits : eqD (.str (tx "number")) (.str (tx "digits")) = some false := by rw [eqD_str _ _ (by decide +kernel) (by decide +kernel)]; exact congrArg some (by decide +kernel)
theorem g_number_letters : eqD (.str (tx "number")) (.str (tx "letters")) = some false := by rw [eqD_str _ _ (by decide +kernel) (by decide +kernel)]; exact congrArg some (by decide +kernel)
theorem g_number_number : eqD (.str (tx "number")) (.str (tx "number")) = some true := by rw [eqD_str _ _ (by decide +kernel) (by decide +kernel)]; exact congrArg some (by decide +kernel)
theorem g_number_choice : eqD (.str (tx "number")) (.str (tx "choice")) = some false := by rw [eqD_str _ _ (by decide +kernel) (by decide +kernel)]; exact congrArg some (by decide +kernel)
theorem g_number_repeat : eqD (.str (tx "number")) (.str (tx "repeat")) = some false := by rw [eqD_str _ _ (by decide +kernel) (by decide +kernel)]; exact congrArg some (by decide +kernel)
theorem g_choice_word : eqD (.str (tx "choice")) (.str (tx "word")) = some false := by rw [eqD_str _ _ (by decide +kernel) (by decide +kernel)]; exact congrArg some (by decide +kernel)
theorem g_choice_digits : eqD (.str (tx "choice")) (.str (tx "digits")) = some false := by rw [eqD_str _ _ (by decide +kernel) (by decide +kernel)]; exact congrArg some (by decide +kernel)
theorem g_choice_letters : eqD (.str (tx "choice")) (.str (tx "letters")) = some false := by rw [eqD_str _ _ (by decide +kernel) (by decide +kernel)]; exact congrArg some (by decide +kernel)
theorem g_choice_number : eqD (.str (tx "choice")) (.str (tx "number")) = some false := by rw [eqD_str _ _ (by decide +kernel) (by decide +kernel)]; exact congrArg some (by decide +kernel)
theorem g_choice_choice : eqD (.str (tx "choice")) (.str (tx "choice")) = some true := by rw [eqD_str _ _ (by decide +kernel) (by decide +kernel)]; exact congrArg some (by decide +kernel)
theorem g_choice_repeat : eqD (.str (tx "choice")) (.str (tx "repeat")) = some false := by rw [eqD_str _ _ (by decide +kernel) (by decide +kernel)]; exact congrArg some (by decide +kernel)
theorem g_repeat_word : eqD (.str (tx "repeat")) (.str (tx "word")) = some false := by rw [eqD_str _ _ (by decide +kernel) (by decide +kernel)]; exact congrArg some (by decide +kernel)
theorem g_repeat_digits : eqD (.str (tx "repeat")) (.str (tx "digits")) = some false := by rw [eqD_str _ _ (by decide +kernel) (by decide +kernel)]; exact congrArg some (by decide +kernel)
theorem g_repeat_letters : eqD (.str (tx "repeat")) (.str (tx "letters")) = some false := by rw [eqD_str _ _ (by decide +kernel) (by decide +kernel)]; exact congrArg some (by decide +kernel)
theorem g_repeat_number : eqD (.str (tx "repeat")) (.str (tx "number")) = some false := by rw [eqD_str _ _ (by decide +kernel) (by decide +kernel)]; exact congrArg some (by decide +kernel)
theorem g_repeat_choice : eqD (.str (tx "repeat")) (.str (tx "choice")) = some false := by rw [eqD_str _ _ (by decide +kernel) (by decide +kernel)]; exact congrArg some (by decide +kernel)
theorem g_repeat_repeat : eqD (.str (tx "repeat")) (.str (tx "repeat")) = some true := by rw [eqD_str _ _ (by decide +kernel) (by decide +kernel)]; exact congrArg some (by decide +kernel)
theorem eqD_int (a b : Int) : eqD (.int a) (.int b) = some (decide (a = b)) := by
  simp only [eqD, norm, okD, Bool.and_self, if_true, eqv]
  congr 1
def has (s : Tx) (c : Nat) : Bool := s.contains c
theorem has_iff {s : Tx} {c : Nat} : has s c = true ↔ c ∈ s := by simp [has]
theorem in_str (c : Nat) (s : Tx) : inD (.str [c]) (.str s) = some (has s c) := by rw [inD, has]
theorem in_two (a b c : Tx) : inD (.str a) (.tup [.str b, .str c]) = some (b == a || c == a) := by
  show some (eqv (.str b) (.str a) || (eqv (.str c) (.str a) || false)) = _
  rw [Bool.or_false]
  rfl
def isB (v : D) (lo hi : Int) : Bool := match v with
  | .int i => decide (lo ≤ i) && decide (i ≤ hi)
  | _ => false
theorem p_is_between (N n m : Nat) (v : D) (lo hi : Int) (S : Sh) (hv : sm m v = true) : Φs N fbs (n + 1) f_is_between [v, .int lo, .int hi] S = .ok (.bl (isB v lo hi)) S := by
  rw [u_is_between]
  cases v with
  | ref _ => cases m <;> simp [sm] at hv
  | fn _ => cases m <;> simp [sm] at hv
  | exc _ => cases m <;> simp [sm] at hv
  | dic _ _ _ => cases m <;> simp [sm] at hv
  | scr _ => cases m <;> simp [sm] at hv
  | int i => by_cases h1 : lo ≤ i <;> simp [b_is_between, ev_var, ev_con, ev_bin, ev_neg, ev_not, ev_and, ev_or, ev_cmp, ev_chain, ev_ife, ev_tup, ev_lst, ev_ix, ev_sl, ev_call, ev_bi, ev_ixb, ev_lc, ei_e, ei_rng1, rg_i, ei_rng2, rg_ii, ng_i, io_i, zp_l, zp_t, ei_zip, el_nil, el_cons, eo_no, eo_at, xs_nil, xs_cons, xe_asg, xe_ite, xe_ret, xe_expr, xe_raise, run_fin, bind_ite, onto_ite, cond_ite, seqR_ite, finR_ite, app_ite, cmpB, bd_len_t, bd_len_l, bd_len_r, bd_len_s, bd_list_t, bd_list_l, bd_list_r, bd_list_s, bd_tuple_t, bd_tuple_l, bd_str_i, bd_str_s, bd_int_i, bd_int_b, bd_int_s, bd_sum, bd_min, bd_max, bd_min2, bd_max2, bd_all, bd_any, bd_isi, bd_join, bn_addi, bn_adds, bn_addl, bn_addt, bn_sub, bn_mul, bn_mull, bn_mult, bn_fdiv, bn_mod, bn_pow, ix_t, ix_l, ix_r, ix_s, sl_t, sl_l, sl_s, is_t, is_l, is_r, is_s, isiD, isD, leD, ltD, assignT, setAll, ev_m1, ev_fstr, ef_nil, ef_cons, ev_dgt, xe_try, rv_count, rv_split, rv_sindex, rv_tindex, rv_lindex, rv_lcnt, bd_isx, bd_count, bd_split, bd_sindex, bd_tindex, bd_lindex_b, bd_lindex_s, bd_lcnt, so_s, so_i, idc_d, isB, h1]
  | _ => simp [b_is_between, ev_var, ev_con, ev_bin, ev_neg, ev_not, ev_and, ev_or, ev_cmp, ev_chain, ev_ife, ev_tup, ev_lst, ev_ix, ev_sl, ev_call, ev_bi, ev_ixb, ev_lc, ei_e, ei_rng1, rg_i, ei_rng2, rg_ii, ng_i, io_i, zp_l, zp_t, ei_zip, el_nil, el_cons, eo_no, eo_at, xs_nil, xs_cons, xe_asg, xe_ite, xe_ret, xe_expr, xe_raise, run_fin, bind_ite, onto_ite, cond_ite, seqR_ite, finR_ite, app_ite, cmpB, bd_len_t, bd_len_l, bd_len_r, bd_len_s, bd_list_t, bd_list_l, bd_list_r, bd_list_s, bd_tuple_t, bd_tuple_l, bd_str_i, bd_str_s, bd_int_i, bd_int_b, bd_int_s, bd_sum, bd_min, bd_max, bd_min2, bd_max2, bd_all, bd_any, bd_isi, bd_join, bn_addi, bn_adds, bn_addl, bn_addt, bn_sub, bn_mul, bn_mull, bn_mult, bn_fdiv, bn_mod, bn_pow, ix_t, ix_l, ix_r, ix_s, sl_t, sl_l, sl_s, is_t, is_l, is_r, is_s, isiD, isD, leD, ltD, assignT, setAll, ev_m1, ev_fstr, ef_nil, ef_cons, ev_dgt, xe_try, rv_count, rv_split, rv_sindex, rv_tindex, rv_lindex, rv_lcnt, bd_isx, bd_count, bd_split, bd_sindex, bd_tindex, bd_lindex_b, bd_lindex_s, bd_lcnt, so_s, so_i, idc_d, isB]
def isT (v : D) (lo hi : Int) : Bool := match v with
  | .str s => decide (lo ≤ s.length) && (decide (s.length ≤ hi) && s.all (fun c => has sgn c))
  | _ => false
theorem sm_str {m : Nat} {s : Tx} (h : sm m (.str s) = true) : s.length ≤ 1000 ∧ s.all (· < 1114112) = true := by
  cases m <;> simpa [sm] using h
theorem len_lim {n : Nat} (h : n ≤ 1000) : n ≤ lim := Nat.le_trans h (by decide)
theorem p_is_text (N n m : Nat) (v : D) (lo hi : Int) (S : Sh) (hv : sm m v = true) : Φs N fbs (n + 1) f_is_text [v, .int lo, .int hi] S = .ok (.bl (isT v lo hi)) S := by
  rw [u_is_text]
  cases v with
  | ref _ => cases m <;> simp [sm] at hv
  | fn _ => cases m <;> simp [sm] at hv
  | exc _ => cases m <;> simp [sm] at hv
  | dic _ _ _ => cases m <;> simp [sm] at hv
  | scr _ => cases m <;> simp [sm] at hv
  | str s =>
    have hl := (sm_str hv).1
    have hl2 : s.length ≤ lim := len_lim hl
    by_cases h1 : lo ≤ s.length <;> by_cases h2 : (s.length : Int) ≤ hi <;> simp [b_is_text, ev_var, ev_con, ev_bin, ev_neg, ev_not, ev_and, ev_or, ev_cmp, ev_chain, ev_ife, ev_tup, ev_lst, ev_ix, ev_sl, ev_call, ev_bi, ev_ixb, ev_lc, ei_e, ei_rng1, rg_i, ei_rng2, rg_ii, ng_i, io_i, zp_l, zp_t, ei_zip, el_nil, el_cons, eo_no, eo_at, xs_nil, xs_cons, xe_asg, xe_ite, xe_ret, xe_expr, xe_raise, run_fin, bind_ite, onto_ite, cond_ite, seqR_ite, finR_ite, app_ite, cmpB, bd_len_t, bd_len_l, bd_len_r, bd_len_s, bd_list_t, bd_list_l, bd_list_r, bd_list_s, bd_tuple_t, bd_tuple_l, bd_str_i, bd_str_s, bd_int_i, bd_int_b, bd_int_s, bd_sum, bd_min, bd_max, bd_min2, bd_max2, bd_all, bd_any, bd_isi, bd_join, bn_addi, bn_adds, bn_addl, bn_addt, bn_sub, bn_mul, bn_mull, bn_mult, bn_fdiv, bn_mod, bn_pow, ix_t, ix_l, ix_r, ix_s, sl_t, sl_l, sl_s, is_t, is_l, is_r, is_s, isiD, isD, leD, ltD, assignT, setAll, ev_m1, ev_fstr, ef_nil, ef_cons, ev_dgt, xe_try, rv_count, rv_split, rv_sindex, rv_tindex, rv_lindex, rv_lcnt, bd_isx, bd_count, bd_split, bd_sindex, bd_tindex, bd_lindex_b, bd_lindex_s, bd_lcnt, so_s, so_i, idc_d, isT, h1, h2, hl2]
    rw [lcK_m (fun c => D.bl (has sgn c)) s hl2 fun c _ => by simp [keepF, wipeE, ev_var, ev_con, ev_bin, ev_neg, ev_not, ev_and, ev_or, ev_cmp, ev_chain, ev_ife, ev_tup, ev_lst, ev_ix, ev_sl, ev_call, ev_bi, ev_ixb, ev_lc, ei_e, ei_rng1, rg_i, ei_rng2, rg_ii, ng_i, io_i, zp_l, zp_t, ei_zip, el_nil, el_cons, eo_no, eo_at, xs_nil, xs_cons, xe_asg, xe_ite, xe_ret, xe_expr, xe_raise, run_fin, bind_ite, onto_ite, cond_ite, seqR_ite, finR_ite, app_ite, cmpB, bd_len_t, bd_len_l, bd_len_r, bd_len_s, bd_list_t, bd_list_l, bd_list_r, bd_list_s, bd_tuple_t, bd_tuple_l, bd_str_i, bd_str_s, bd_int_i, bd_int_b, bd_int_s, bd_sum, bd_min, bd_max, bd_min2, bd_max2, bd_all, bd_any, bd_isi, bd_join, bn_addi, bn_adds, bn_addl, bn_addt, bn_sub, bn_mul, bn_mull, bn_mult, bn_fdiv, bn_mod, bn_pow, ix_t, ix_l, ix_r, ix_s, sl_t, sl_l, sl_s, is_t, is_l, is_r, is_s, isiD, isD, leD, ltD, assignT, setAll, ev_m1, ev_fstr, ef_nil, ef_cons, ev_dgt, xe_try, rv_count, rv_split, rv_sindex, rv_tindex, rv_lindex, rv_lcnt, bd_isx, bd_count, bd_split, bd_sindex, bd_tindex, bd_lindex_b, bd_lindex_s, bd_lcnt, so_s, so_i, idc_d, in_str, sgn]]
    simp [biD, blsD_map, sgn]
  | _ => simp [b_is_text, ev_var, ev_con, ev_bin, ev_neg, ev_not, ev_and, ev_or, ev_cmp, ev_chain, ev_ife, ev_tup, ev_lst, ev_ix, ev_sl, ev_call, ev_bi, ev_ixb, ev_lc, ei_e, ei_rng1, rg_i, ei_rng2, rg_ii, ng_i, io_i, zp_l, zp_t, ei_zip, el_nil, el_cons, eo_no, eo_at, xs_nil, xs_cons, xe_asg, xe_ite, xe_ret, xe_expr, xe_raise, run_fin, bind_ite, onto_ite, cond_ite, seqR_ite, finR_ite, app_ite, cmpB, bd_len_t, bd_len_l, bd_len_r, bd_len_s, bd_list_t, bd_list_l, bd_list_r, bd_list_s, bd_tuple_t, bd_tuple_l, bd_str_i, bd_str_s, bd_int_i, bd_int_b, bd_int_s, bd_sum, bd_min, bd_max, bd_min2, bd_max2, bd_all, bd_any, bd_isi, bd_join, bn_addi, bn_adds, bn_addl, bn_addt, bn_sub, bn_mul, bn_mull, bn_mult, bn_fdiv, bn_mod, bn_pow, ix_t, ix_l, ix_r, ix_s, sl_t, sl_l, sl_s, is_t, is_l, is_r, is_s, isiD, isD, leD, ltD, assignT, setAll, ev_m1, ev_fstr, ef_nil, ef_cons, ev_dgt, xe_try, rv_count, rv_split, rv_sindex, rv_tindex, rv_lindex, rv_lcnt, bd_isx, bd_count, bd_split, bd_sindex, bd_tindex, bd_lindex_b, bd_lindex_s, bd_lcnt, so_s, so_i, idc_d, isT]
theorem p_is_span (N n : Nat) (a b lo hi : Int) (S : Sh) : Φs N fbs (n + 2) f_is_span [.int a, .int b, .int lo, .int hi] S = .ok (.bl (decide (0 ≤ a) && decide (a ≤ hi) && decide (lo ≤ b) && decide (b ≤ hi) && decide (a ≤ b))) S := by
  rw [u_is_span]
  simp [b_is_span, ev_var, ev_con, ev_bin, ev_neg, ev_not, ev_and, ev_or, ev_cmp, ev_chain, ev_ife, ev_tup, ev_lst, ev_ix, ev_sl, ev_call, ev_bi, ev_ixb, ev_lc, ei_e, ei_rng1, rg_i, ei_rng2, rg_ii, ng_i, io_i, zp_l, zp_t, ei_zip, el_nil, el_cons, eo_no, eo_at, xs_nil, xs_cons, xe_asg, xe_ite, xe_ret, xe_expr, xe_raise, run_fin, bind_ite, onto_ite, cond_ite, seqR_ite, finR_ite, app_ite, cmpB, bd_len_t, bd_len_l, bd_len_r, bd_len_s, bd_list_t, bd_list_l, bd_list_r, bd_list_s, bd_tuple_t, bd_tuple_l, bd_str_i, bd_str_s, bd_int_i, bd_int_b, bd_int_s, bd_sum, bd_min, bd_max, bd_min2, bd_max2, bd_all, bd_any, bd_isi, bd_join, bn_addi, bn_adds, bn_addl, bn_addt, bn_sub, bn_mul, bn_mull, bn_mult, bn_fdiv, bn_mod, bn_pow, ix_t, ix_l, ix_r, ix_s, sl_t, sl_l, sl_s, is_t, is_l, is_r, is_s, isiD, isD, leD, ltD, assignT, setAll, ev_m1, ev_fstr, ef_nil, ef_cons, ev_dgt, xe_try, rv_count, rv_split, rv_sindex, rv_tindex, rv_lindex, rv_lcnt, bd_isx, bd_count, bd_split, bd_sindex, bd_tindex, bd_lindex_b, bd_lindex_s, bd_lcnt, so_s, so_i, idc_d, p_is_between N n 0 _ _ _ _ (show sm 0 (.int _) = true from rfl), isB]
  by_cases h1 : 0 ≤ a <;> by_cases h2 : a ≤ hi <;> by_cases h3 : lo ≤ b <;> by_cases h4 : b ≤ hi <;> simp [h1, h2, h3, h4]
/-! fields -/
inductive Fd1 where
  | word (s : Tx)
  | digits (a b : Nat)
  | letters (a b : Nat)
  | number (k : Nat)
  | choice (ts : List Tx)
inductive Fd where
  | one (f : Fd1)
  | rep (f : Fd1) (a b : Nat)
def enc1 : Fd1 → D
  | .word s => .tup [.str (tx "word"), .str s]
  | .digits a b => .tup [.str (tx "digits"), .int a, .int b]
  | .letters a b => .tup [.str (tx "letters"), .int a, .int b]
  | .number k => .tup [.str (tx "number"), .int k]
  | .choice ts => .tup [.str (tx "choice"), .tup (ts.map D.str)]
def enc : Fd → D
  | .one f => enc1 f
  | .rep f a b => .tup [.str (tx "repeat"), enc1 f, .int a, .int b]
def okT (s : Tx) : Prop := 1 ≤ s.length ∧ s.length ≤ 4 ∧ s.all (fun c => has sgn c) = true
def ok1 : Fd1 → Prop
  | .word s => okT s
  | .digits a b => a ≤ b ∧ b ≤ 4
  | .letters a b => a ≤ b ∧ b ≤ 4
  | .number k => 1 ≤ k ∧ k ≤ 4
  | .choice ts => 1 ≤ ts.length ∧ ts.length ≤ 4 ∧ (∀ t ∈ ts, okT t) ∧ ts.Pairwise (· < ·)
def okF : Fd → Prop
  | .one f => ok1 f
  | .rep f a b => ok1 f ∧ a ≤ b ∧ 1 ≤ b ∧ b ≤ 3
theorem sgn_small {c : Nat} (h : c ∈ sgn) : c < 1114112 := by
  have := h
  rw [sgn, e_sgn] at this
  simp only [List.mem_cons, List.not_mem_nil, or_false] at this
  omega
theorem okT_sm {s : Tx} (h : okT s) (m : Nat) : sm m (.str s) = true := by
  obtain ⟨h1, h2, h3⟩ := h
  have h4 : s.all (· < 1114112) = true := List.all_eq_true.mpr fun c hc => decide_eq_true (sgn_small (has_iff.mp (List.all_eq_true.mp h3 c hc)))
  have h5 : s.length ≤ 1000 := by omega
  cases m <;> simp only [sm, h4, decide_eq_true h5, Bool.and_self]
theorem okT_isT {s : Tx} (h : okT s) : isT (.str s) 1 4 = true := by
  obtain ⟨h1, h2, h3⟩ := h
  simp only [isT, Bool.and_eq_true, decide_eq_true_eq]
  exact ⟨by omega, by omega, h3⟩
theorem p_is_simple (N n : Nat) (f : Fd1) (hf : ok1 f) (S : Sh) : Φs N fbs (n + 3) f_is_simple [enc1 f] S = .ok (.bl true) S := by
  rw [u_is_simple]
  cases f with
  | word s =>
    simp [b_is_simple, enc1, ev_var, ev_con, ev_bin, ev_neg, ev_not, ev_and, ev_or, ev_cmp, ev_chain, ev_ife, ev_tup, ev_lst, ev_ix, ev_sl, ev_call, ev_bi, ev_ixb, ev_lc, ei_e, ei_rng1, rg_i, ei_rng2, rg_ii, ng_i, io_i, zp_l, zp_t, ei_zip, el_nil, el_cons, eo_no, eo_at, xs_nil, xs_cons, xe_asg, xe_ite, xe_ret, xe_expr, xe_raise, run_fin, bind_ite, onto_ite, cond_ite, seqR_ite, finR_ite, app_ite, cmpB, bd_len_t, bd_len_l, bd_len_r, bd_len_s, bd_list_t, bd_list_l, bd_list_r, bd_list_s, bd_tuple_t, bd_tuple_l, bd_str_i, bd_str_s, bd_int_i, bd_int_b, bd_int_s, bd_sum, bd_min, bd_max, bd_min2, bd_max2, bd_all, bd_any, bd_isi, bd_join, bn_addi, bn_adds, bn_addl, bn_addt, bn_sub, bn_mul, bn_mull, bn_mult, bn_fdiv, bn_mod, bn_pow, ix_t, ix_l, ix_r, ix_s, sl_t, sl_l, sl_s, is_t, is_l, is_r, is_s, isiD, isD, leD, ltD, assignT, setAll, ev_m1, ev_fstr, ef_nil, ef_cons, ev_dgt, xe_try, rv_count, rv_split, rv_sindex, rv_tindex, rv_lindex, rv_lcnt, bd_isx, bd_count, bd_split, bd_sindex, bd_tindex, bd_lindex_b, bd_lindex_s, bd_lcnt, so_s, so_i, idc_d, L2.atI, ixN, eqD_int, eqD_str, e_word, p_is_text N (n + 1) 0 _ _ _ _ (okT_sm hf 0), okT_isT hf]
  | digits a b =>
    obtain ⟨h1, h2⟩ := hf
    simp [b_is_simple, enc1, ev_var, ev_con, ev_bin, ev_neg, ev_not, ev_and, ev_or, ev_cmp, ev_chain, ev_ife, ev_tup, ev_lst, ev_ix, ev_sl, ev_call, ev_bi, ev_ixb, ev_lc, ei_e, ei_rng1, rg_i, ei_rng2, rg_ii, ng_i, io_i, zp_l, zp_t, ei_zip, el_nil, el_cons, eo_no, eo_at, xs_nil, xs_cons, xe_asg, xe_ite, xe_ret, xe_expr, xe_raise, run_fin, bind_ite, onto_ite, cond_ite, seqR_ite, finR_ite, app_ite, cmpB, bd_len_t, bd_len_l, bd_len_r, bd_len_s, bd_list_t, bd_list_l, bd_list_r, bd_list_s, bd_tuple_t, bd_tuple_l, bd_str_i, bd_str_s, bd_int_i, bd_int_b, bd_int_s, bd_sum, bd_min, bd_max, bd_min2, bd_max2, bd_all, bd_any, bd_isi, bd_join, bn_addi, bn_adds, bn_addl, bn_addt, bn_sub, bn_mul, bn_mull, bn_mult, bn_fdiv, bn_mod, bn_pow, ix_t, ix_l, ix_r, ix_s, sl_t, sl_l, sl_s, is_t, is_l, is_r, is_s, isiD, isD, leD, ltD, assignT, setAll, ev_m1, ev_fstr, ef_nil, ef_cons, ev_dgt, xe_try, rv_count, rv_split, rv_sindex, rv_tindex, rv_lindex, rv_lcnt, bd_isx, bd_count, bd_split, bd_sindex, bd_tindex, bd_lindex_b, bd_lindex_s, bd_lcnt, so_s, so_i, idc_d, L2.atI, ixN, eqD_int, eqD_str, e_digits, e_letters, in_two, p_is_span]
    omega
  | letters a b =>
    obtain ⟨h1, h2⟩ := hf
    simp [b_is_simple, enc1, ev_var, ev_con, ev_bin, ev_neg, ev_not, ev_and, ev_or, ev_cmp, ev_chain, ev_ife, ev_tup, ev_lst, ev_ix, ev_sl, ev_call, ev_bi, ev_ixb, ev_lc, ei_e, ei_rng1, rg_i, ei_rng2, rg_ii, ng_i, io_i, zp_l, zp_t, ei_zip, el_nil, el_cons, eo_no, eo_at, xs_nil, xs_cons, xe_asg, xe_ite, xe_ret, xe_expr, xe_raise, run_fin, bind_ite, onto_ite, cond_ite, seqR_ite, finR_ite, app_ite, cmpB, bd_len_t, bd_len_l, bd_len_r, bd_len_s, bd_list_t, bd_list_l, bd_list_r, bd_list_s, bd_tuple_t, bd_tuple_l, bd_str_i, bd_str_s, bd_int_i, bd_int_b, bd_int_s, bd_sum, bd_min, bd_max, bd_min2, bd_max2, bd_all, bd_any, bd_isi, bd_join, bn_addi, bn_adds, bn_addl, bn_addt, bn_sub, bn_mul, bn_mull, bn_mult, bn_fdiv, bn_mod, bn_pow, ix_t, ix_l, ix_r, ix_s, sl_t, sl_l, sl_s, is_t, is_l, is_r, is_s, isiD, isD, leD, ltD, assignT, setAll, ev_m1, ev_fstr, ef_nil, ef_cons, ev_dgt, xe_try, rv_count, rv_split, rv_sindex, rv_tindex, rv_lindex, rv_lcnt, bd_isx, bd_count, bd_split, bd_sindex, bd_tindex, bd_lindex_b, bd_lindex_s, bd_lcnt, so_s, so_i, idc_d, L2.atI, ixN, eqD_int, eqD_str, e_digits, e_letters, in_two, p_is_span]
    omega
  | number k =>
    obtain ⟨h1, h2⟩ := hf
    simp [b_is_simple, enc1, ev_var, ev_con, ev_bin, ev_neg, ev_not, ev_and, ev_or, ev_cmp, ev_chain, ev_ife, ev_tup, ev_lst, ev_ix, ev_sl, ev_call, ev_bi, ev_ixb, ev_lc, ei_e, ei_rng1, rg_i, ei_rng2, rg_ii, ng_i, io_i, zp_l, zp_t, ei_zip, el_nil, el_cons, eo_no, eo_at, xs_nil, xs_cons, xe_asg, xe_ite, xe_ret, xe_expr, xe_raise, run_fin, bind_ite, onto_ite, cond_ite, seqR_ite, finR_ite, app_ite, cmpB, bd_len_t, bd_len_l, bd_len_r, bd_len_s, bd_list_t, bd_list_l, bd_list_r, bd_list_s, bd_tuple_t, bd_tuple_l, bd_str_i, bd_str_s, bd_int_i, bd_int_b, bd_int_s, bd_sum, bd_min, bd_max, bd_min2, bd_max2, bd_all, bd_any, bd_isi, bd_join, bn_addi, bn_adds, bn_addl, bn_addt, bn_sub, bn_mul, bn_mull, bn_mult, bn_fdiv, bn_mod, bn_pow, ix_t, ix_l, ix_r, ix_s, sl_t, sl_l, sl_s, is_t, is_l, is_r, is_s, isiD, isD, leD, ltD, assignT, setAll, ev_m1, ev_fstr, ef_nil, ef_cons, ev_dgt, xe_try, rv_count, rv_split, rv_sindex, rv_tindex, rv_lindex, rv_lcnt, bd_isx, bd_count, bd_split, bd_sindex, bd_tindex, bd_lindex_b, bd_lindex_s, bd_lcnt, so_s, so_i, idc_d, L2.atI, ixN, eqD_int, eqD_str, e_word, e_number, p_is_between N (n + 1) 0 _ _ _ _ (show sm 0 (.int _) = true from rfl), isB]
    omega
  | choice ts =>
    obtain ⟨h1, h2, h3, h4⟩ := hf
    have h5 : (1 : Int) ≤ ts.length := by omega
    have h6 : (ts.length : Int) ≤ 4 := by omega
    simp [b_is_simple, enc1, ev_var, ev_con, ev_bin, ev_neg, ev_not, ev_and, ev_or, ev_cmp, ev_chain, ev_ife, ev_tup, ev_lst, ev_ix, ev_sl, ev_call, ev_bi, ev_ixb, ev_lc, ei_e, ei_rng1, rg_i, ei_rng2, rg_ii, ng_i, io_i, zp_l, zp_t, ei_zip, el_nil, el_cons, eo_no, eo_at, xs_nil, xs_cons, xe_asg, xe_ite, xe_ret, xe_expr, xe_raise, run_fin, bind_ite, onto_ite, cond_ite, seqR_ite, finR_ite, app_ite, cmpB, bd_len_t, bd_len_l, bd_len_r, bd_len_s, bd_list_t, bd_list_l, bd_list_r, bd_list_s, bd_tuple_t, bd_tuple_l, bd_str_i, bd_str_s, bd_int_i, bd_int_b, bd_int_s, bd_sum, bd_min, bd_max, bd_min2, bd_max2, bd_all, bd_any, bd_isi, bd_join, bn_addi, bn_adds, bn_addl, bn_addt, bn_sub, bn_mul, bn_mull, bn_mult, bn_fdiv, bn_mod, bn_pow, ix_t, ix_l, ix_r, ix_s, sl_t, sl_l, sl_s, is_t, is_l, is_r, is_s, isiD, isD, leD, ltD, assignT, setAll, ev_m1, ev_fstr, ef_nil, ef_cons, ev_dgt, xe_try, rv_count, rv_split, rv_sindex, rv_tindex, rv_lindex, rv_lcnt, bd_isx, bd_count, bd_split, bd_sindex, bd_tindex, bd_lindex_b, bd_lindex_s, bd_lcnt, so_s, so_i, idc_d, L2.atI, ixN, eqD_int, eqD_str, e_word, e_number, e_choice, h5, h6]
    rw [lcK_m (fun t => D.bl true) ts (by show ts.length ≤ 1000000; omega) fun t ht => by simp [keepF, wipeE, ev_var, ev_con, ev_bin, ev_neg, ev_not, ev_and, ev_or, ev_cmp, ev_chain, ev_ife, ev_tup, ev_lst, ev_ix, ev_sl, ev_call, ev_bi, ev_ixb, ev_lc, ei_e, ei_rng1, rg_i, ei_rng2, rg_ii, ng_i, io_i, zp_l, zp_t, ei_zip, el_nil, el_cons, eo_no, eo_at, xs_nil, xs_cons, xe_asg, xe_ite, xe_ret, xe_expr, xe_raise, run_fin, bind_ite, onto_ite, cond_ite, seqR_ite, finR_ite, app_ite, cmpB, bd_len_t, bd_len_l, bd_len_r, bd_len_s, bd_list_t, bd_list_l, bd_list_r, bd_list_s, bd_tuple_t, bd_tuple_l, bd_str_i, bd_str_s, bd_int_i, bd_int_b, bd_int_s, bd_sum, bd_min, bd_max, bd_min2, bd_max2, bd_all, bd_any, bd_isi, bd_join, bn_addi, bn_adds, bn_addl, bn_addt, bn_sub, bn_mul, bn_mull, bn_mult, bn_fdiv, bn_mod, bn_pow, ix_t, ix_l, ix_r, ix_s, sl_t, sl_l, sl_s, is_t, is_l, is_r, is_s, isiD, isD, leD, ltD, assignT, setAll, ev_m1, ev_fstr, ef_nil, ef_cons, ev_dgt, xe_try, rv_count, rv_split, rv_sindex, rv_tindex, rv_lindex, rv_lcnt, bd_isx, bd_count, bd_split, bd_sindex, bd_tindex, bd_lindex_b, bd_lindex_s, bd_lcnt, so_s, so_i, idc_d, p_is_text N (n + 1) 0 _ _ _ _ (okT_sm (h3 t ht) 0), okT_isT (h3 t ht)]]
    simp [ev_var, ev_con, ev_bin, ev_neg, ev_not, ev_and, ev_or, ev_cmp, ev_chain, ev_ife, ev_tup, ev_lst, ev_ix, ev_sl, ev_call, ev_bi, ev_ixb, ev_lc, ei_e, ei_rng1, rg_i, ei_rng2, rg_ii, ng_i, io_i, zp_l, zp_t, ei_zip, el_nil, el_cons, eo_no, eo_at, xs_nil, xs_cons, xe_asg, xe_ite, xe_ret, xe_expr, xe_raise, run_fin, bind_ite, onto_ite, cond_ite, seqR_ite, finR_ite, app_ite, cmpB, bd_len_t, bd_len_l, bd_len_r, bd_len_s, bd_list_t, bd_list_l, bd_list_r, bd_list_s, bd_tuple_t, bd_tuple_l, bd_str_i, bd_str_s, bd_int_i, bd_int_b, bd_int_s, bd_sum, bd_min, bd_max, bd_min2, bd_max2, bd_all, bd_any, bd_isi, bd_join, bn_addi, bn_adds, bn_addl, bn_addt, bn_sub, bn_mul, bn_mull, bn_mult, bn_fdiv, bn_mod, bn_pow, ix_t, ix_l, ix_r, ix_s, sl_t, sl_l, sl_s, is_t, is_l, is_r, is_s, isiD, isD, leD, ltD, assignT, setAll, ev_m1, ev_fstr, ef_nil, ef_cons, ev_dgt, xe_try, rv_count, rv_split, rv_sindex, rv_tindex, rv_lindex, rv_lcnt, bd_isx, bd_count, bd_split, bd_sindex, bd_tindex, bd_lindex_b, bd_lindex_s, bd_lcnt, so_s, so_i, idc_d, blsD_map (fun _ => true)]
    rw [rng_ok0 _ (by omega) (by omega)]
    simp only [lift_some, Res.bind_ok]
    rw [lcK_m (fun k => D.bl true) (List.range ((ts.length : Int) - 1).toNat) (by rw [List.length_range]; show _ ≤ 1000000; omega) fun k hk => ?_]
    · simp [ev_var, ev_con, ev_bin, ev_neg, ev_not, ev_and, ev_or, ev_cmp, ev_chain, ev_ife, ev_tup, ev_lst, ev_ix, ev_sl, ev_call, ev_bi, ev_ixb, ev_lc, ei_e, ei_rng1, rg_i, ei_rng2, rg_ii, ng_i, io_i, zp_l, zp_t, ei_zip, el_nil, el_cons, eo_no, eo_at, xs_nil, xs_cons, xe_asg, xe_ite, xe_ret, xe_expr, xe_raise, run_fin, bind_ite, onto_ite, cond_ite, seqR_ite, finR_ite, app_ite, cmpB, bd_len_t, bd_len_l, bd_len_r, bd_len_s, bd_list_t, bd_list_l, bd_list_r, bd_list_s, bd_tuple_t, bd_tuple_l, bd_str_i, bd_str_s, bd_int_i, bd_int_b, bd_int_s, bd_sum, bd_min, bd_max, bd_min2, bd_max2, bd_all, bd_any, bd_isi, bd_join, bn_addi, bn_adds, bn_addl, bn_addt, bn_sub, bn_mul, bn_mull, bn_mult, bn_fdiv, bn_mod, bn_pow, ix_t, ix_l, ix_r, ix_s, sl_t, sl_l, sl_s, is_t, is_l, is_r, is_s, isiD, isD, leD, ltD, assignT, setAll, ev_m1, ev_fstr, ef_nil, ef_cons, ev_dgt, xe_try, rv_count, rv_split, rv_sindex, rv_tindex, rv_lindex, rv_lcnt, bd_isx, bd_count, bd_split, bd_sindex, bd_tindex, bd_lindex_b, bd_lindex_s, bd_lcnt, so_s, so_i, idc_d, blsD_map (fun _ => true)]
    · have hk2 : k + 1 < ts.length := by
        have := List.mem_range.mp hk
        omega
      have a1 := at_nat (ts.map D.str) k (by rw [List.length_map]; omega)
      have a2 := at_nat (ts.map D.str) (k + 1) (by rw [List.length_map]; omega)
      have a3 : ((k + 1 : Nat) : Int) = (k : Int) + 1 := by omega
      rw [a3] at a2
      have a4 : ts[k] < ts[k + 1] := List.pairwise_iff_getElem.mp h4 k (k + 1) (by omega) hk2 (by omega)
      simp [keepF, wipeE, ev_var, ev_con, ev_bin, ev_neg, ev_not, ev_and, ev_or, ev_cmp, ev_chain, ev_ife, ev_tup, ev_lst, ev_ix, ev_sl, ev_call, ev_bi, ev_ixb, ev_lc, ei_e, ei_rng1, rg_i, ei_rng2, rg_ii, ng_i, io_i, zp_l, zp_t, ei_zip, el_nil, el_cons, eo_no, eo_at, xs_nil, xs_cons, xe_asg, xe_ite, xe_ret, xe_expr, xe_raise, run_fin, bind_ite, onto_ite, cond_ite, seqR_ite, finR_ite, app_ite, cmpB, bd_len_t, bd_len_l, bd_len_r, bd_len_s, bd_list_t, bd_list_l, bd_list_r, bd_list_s, bd_tuple_t, bd_tuple_l, bd_str_i, bd_str_s, bd_int_i, bd_int_b, bd_int_s, bd_sum, bd_min, bd_max, bd_min2, bd_max2, bd_all, bd_any, bd_isi, bd_join, bn_addi, bn_adds, bn_addl, bn_addt, bn_sub, bn_mul, bn_mull, bn_mult, bn_fdiv, bn_mod, bn_pow, ix_t, ix_l, ix_r, ix_s, sl_t, sl_l, sl_s, is_t, is_l, is_r, is_s, isiD, isD, leD, ltD, assignT, setAll, ev_m1, ev_fstr, ef_nil, ef_cons, ev_dgt, xe_try, rv_count, rv_split, rv_sindex, rv_tindex, rv_lindex, rv_lcnt, bd_isx, bd_count, bd_split, bd_sindex, bd_tindex, bd_lindex_b, bd_lindex_s, bd_lcnt, so_s, so_i, idc_d, a1, a2, a4]
theorem p_is_field (N n : Nat) (f : Fd) (hf : okF f) (S : Sh) : Φs N fbs (n + 4) f_is_field [enc f] S = .ok (.bl true) S := by
  rw [u_is_field]
  cases f with
  | one f =>
    have h := p_is_simple N n f hf S
    cases f <;> (simp only [enc1] at h; simp [b_is_field, enc, enc1, ev_var, ev_con, ev_bin, ev_neg, ev_not, ev_and, ev_or, ev_cmp, ev_chain, ev_ife, ev_tup, ev_lst, ev_ix, ev_sl, ev_call, ev_bi, ev_ixb, ev_lc, ei_e, ei_rng1, rg_i, ei_rng2, rg_ii, ng_i, io_i, zp_l, zp_t, ei_zip, el_nil, el_cons, eo_no, eo_at, xs_nil, xs_cons, xe_asg, xe_ite, xe_ret, xe_expr, xe_raise, run_fin, bind_ite, onto_ite, cond_ite, seqR_ite, finR_ite, app_ite, cmpB, bd_len_t, bd_len_l, bd_len_r, bd_len_s, bd_list_t, bd_list_l, bd_list_r, bd_list_s, bd_tuple_t, bd_tuple_l, bd_str_i, bd_str_s, bd_int_i, bd_int_b, bd_int_s, bd_sum, bd_min, bd_max, bd_min2, bd_max2, bd_all, bd_any, bd_isi, bd_join, bn_addi, bn_adds, bn_addl, bn_addt, bn_sub, bn_mul, bn_mull, bn_mult, bn_fdiv, bn_mod, bn_pow, ix_t, ix_l, ix_r, ix_s, sl_t, sl_l, sl_s, is_t, is_l, is_r, is_s, isiD, isD, leD, ltD, assignT, setAll, ev_m1, ev_fstr, ef_nil, ef_cons, ev_dgt, xe_try, rv_count, rv_split, rv_sindex, rv_tindex, rv_lindex, rv_lcnt, bd_isx, bd_count, bd_split, bd_sindex, bd_tindex, bd_lindex_b, bd_lindex_s, bd_lcnt, so_s, so_i, idc_d, eqD_int, h])
  | rep f a b =>
    obtain ⟨h1, h2, h3, h4⟩ := hf
    have h := p_is_simple N n f h1 S
    simp [b_is_field, enc, ev_var, ev_con, ev_bin, ev_neg, ev_not, ev_and, ev_or, ev_cmp, ev_chain, ev_ife, ev_tup, ev_lst, ev_ix, ev_sl, ev_call, ev_bi, ev_ixb, ev_lc, ei_e, ei_rng1, rg_i, ei_rng2, rg_ii, ng_i, io_i, zp_l, zp_t, ei_zip, el_nil, el_cons, eo_no, eo_at, xs_nil, xs_cons, xe_asg, xe_ite, xe_ret, xe_expr, xe_raise, run_fin, bind_ite, onto_ite, cond_ite, seqR_ite, finR_ite, app_ite, cmpB, bd_len_t, bd_len_l, bd_len_r, bd_len_s, bd_list_t, bd_list_l, bd_list_r, bd_list_s, bd_tuple_t, bd_tuple_l, bd_str_i, bd_str_s, bd_int_i, bd_int_b, bd_int_s, bd_sum, bd_min, bd_max, bd_min2, bd_max2, bd_all, bd_any, bd_isi, bd_join, bn_addi, bn_adds, bn_addl, bn_addt, bn_sub, bn_mul, bn_mull, bn_mult, bn_fdiv, bn_mod, bn_pow, ix_t, ix_l, ix_r, ix_s, sl_t, sl_l, sl_s, is_t, is_l, is_r, is_s, isiD, isD, leD, ltD, assignT, setAll, ev_m1, ev_fstr, ef_nil, ef_cons, ev_dgt, xe_try, rv_count, rv_split, rv_sindex, rv_tindex, rv_lindex, rv_lcnt, bd_isx, bd_count, bd_split, bd_sindex, bd_tindex, bd_lindex_b, bd_lindex_s, bd_lcnt, so_s, so_i, idc_d, eqD_int, eqD_str, e_repeat, L2.atI, ixN, h, p_is_span]
    omega
def encR (form : List Fd) : D := .tup (form.map enc)
def okR (form : List Fd) : Prop := 1 ≤ form.length ∧ form.length ≤ 6 ∧ ∀ f ∈ form, okF f
theorem p_is_format (N n : Nat) (form : List Fd) (hf : okR form) (S : Sh) : Φs N fbs (n + 5) f_is_format [encR form] S = .ok (.bl true) S := by
  rw [u_is_format]
  obtain ⟨h1, h2, h3⟩ := hf
  have h5 : (1 : Int) ≤ form.length := by omega
  have h6 : (form.length : Int) ≤ 6 := by omega
  simp [b_is_format, encR, ev_var, ev_con, ev_bin, ev_neg, ev_not, ev_and, ev_or, ev_cmp, ev_chain, ev_ife, ev_tup, ev_lst, ev_ix, ev_sl, ev_call, ev_bi, ev_ixb, ev_lc, ei_e, ei_rng1, rg_i, ei_rng2, rg_ii, ng_i, io_i, zp_l, zp_t, ei_zip, el_nil, el_cons, eo_no, eo_at, xs_nil, xs_cons, xe_asg, xe_ite, xe_ret, xe_expr, xe_raise, run_fin, bind_ite, onto_ite, cond_ite, seqR_ite, finR_ite, app_ite, cmpB, bd_len_t, bd_len_l, bd_len_r, bd_len_s, bd_list_t, bd_list_l, bd_list_r, bd_list_s, bd_tuple_t, bd_tuple_l, bd_str_i, bd_str_s, bd_int_i, bd_int_b, bd_int_s, bd_sum, bd_min, bd_max, bd_min2, bd_max2, bd_all, bd_any, bd_isi, bd_join, bn_addi, bn_adds, bn_addl, bn_addt, bn_sub, bn_mul, bn_mull, bn_mult, bn_fdiv, bn_mod, bn_pow, ix_t, ix_l, ix_r, ix_s, sl_t, sl_l, sl_s, is_t, is_l, is_r, is_s, isiD, isD, leD, ltD, assignT, setAll, ev_m1, ev_fstr, ef_nil, ef_cons, ev_dgt, xe_try, rv_count, rv_split, rv_sindex, rv_tindex, rv_lindex, rv_lcnt, bd_isx, bd_count, bd_split, bd_sindex, bd_tindex, bd_lindex_b, bd_lindex_s, bd_lcnt, so_s, so_i, idc_d, h5, h6]
  rw [lcK_m (fun t => D.bl true) form (by show form.length ≤ 1000000; omega) fun f hf => by simp [keepF, wipeE, ev_var, ev_con, ev_bin, ev_neg, ev_not, ev_and, ev_or, ev_cmp, ev_chain, ev_ife, ev_tup, ev_lst, ev_ix, ev_sl, ev_call, ev_bi, ev_ixb, ev_lc, ei_e, ei_rng1, rg_i, ei_rng2, rg_ii, ng_i, io_i, zp_l, zp_t, ei_zip, el_nil, el_cons, eo_no, eo_at, xs_nil, xs_cons, xe_asg, xe_ite, xe_ret, xe_expr, xe_raise, run_fin, bind_ite, onto_ite, cond_ite, seqR_ite, finR_ite, app_ite, cmpB, bd_len_t, bd_len_l, bd_len_r, bd_len_s, bd_list_t, bd_list_l, bd_list_r, bd_list_s, bd_tuple_t, bd_tuple_l, bd_str_i, bd_str_s, bd_int_i, bd_int_b, bd_int_s, bd_sum, bd_min, bd_max, bd_min2, bd_max2, bd_all, bd_any, bd_isi, bd_join, bn_addi, bn_adds, bn_addl, bn_addt, bn_sub, bn_mul, bn_mull, bn_mult, bn_fdiv, bn_mod, bn_pow, ix_t, ix_l, ix_r, ix_s, sl_t, sl_l, sl_s, is_t, is_l, is_r, is_s, isiD, isD, leD, ltD, assignT, setAll, ev_m1, ev_fstr, ef_nil, ef_cons, ev_dgt, xe_try, rv_count, rv_split, rv_sindex, rv_tindex, rv_lindex, rv_lcnt, bd_isx, bd_count, bd_split, bd_sindex, bd_tindex, bd_lindex_b, bd_lindex_s, bd_lcnt, so_s, so_i, idc_d, p_is_field N n f (h3 f hf)]]
  simp [ev_var, ev_con, ev_bin, ev_neg, ev_not, ev_and, ev_or, ev_cmp, ev_chain, ev_ife, ev_tup, ev_lst, ev_ix, ev_sl, ev_call, ev_bi, ev_ixb, ev_lc, ei_e, ei_rng1, rg_i, ei_rng2, rg_ii, ng_i, io_i, zp_l, zp_t, ei_zip, el_nil, el_cons, eo_no, eo_at, xs_nil, xs_cons, xe_asg, xe_ite, xe_ret, xe_expr, xe_raise, run_fin, bind_ite, onto_ite, cond_ite, seqR_ite, finR_ite, app_ite, cmpB, bd_len_t, bd_len_l, bd_len_r, bd_len_s, bd_list_t, bd_list_l, bd_list_r, bd_list_s, bd_tuple_t, bd_tuple_l, bd_str_i, bd_str_s, bd_int_i, bd_int_b, bd_int_s, bd_sum, bd_min, bd_max, bd_min2, bd_max2, bd_all, bd_any, bd_isi, bd_join, bn_addi, bn_adds, bn_addl, bn_addt, bn_sub, bn_mul, bn_mull, bn_mult, bn_fdiv, bn_mod, bn_pow, ix_t, ix_l, ix_r, ix_s, sl_t, sl_l, sl_s, is_t, is_l, is_r, is_s, isiD, isD, leD, ltD, assignT, setAll, ev_m1, ev_fstr, ef_nil, ef_cons, ev_dgt, xe_try, rv_count, rv_split, rv_sindex, rv_tindex, rv_lindex, rv_lcnt, bd_isx, bd_count, bd_split, bd_sindex, bd_tindex, bd_lindex_b, bd_lindex_s, bd_lcnt, so_s, so_i, idc_d, blsD_map (fun _ => true)]
theorem p_check_format (N n : Nat) (form : List Fd) (hf : okR form) (S : Sh) : Φs N fbs (n + 6) f_check_format [encR form] S = .ok .non S := by
  rw [u_check_format]
  simp [b_check_format, ev_var, ev_con, ev_bin, ev_neg, ev_not, ev_and, ev_or, ev_cmp, ev_chain, ev_ife, ev_tup, ev_lst, ev_ix, ev_sl, ev_call, ev_bi, ev_ixb, ev_lc, ei_e, ei_rng1, rg_i, ei_rng2, rg_ii, ng_i, io_i, zp_l, zp_t, ei_zip, el_nil, el_cons, eo_no, eo_at, xs_nil, xs_cons, xe_asg, xe_ite, xe_ret, xe_expr, xe_raise, run_fin, bind_ite, onto_ite, cond_ite, seqR_ite, finR_ite, app_ite, cmpB, bd_len_t, bd_len_l, bd_len_r, bd_len_s, bd_list_t, bd_list_l, bd_list_r, bd_list_s, bd_tuple_t, bd_tuple_l, bd_str_i, bd_str_s, bd_int_i, bd_int_b, bd_int_s, bd_sum, bd_min, bd_max, bd_min2, bd_max2, bd_all, bd_any, bd_isi, bd_join, bn_addi, bn_adds, bn_addl, bn_addt, bn_sub, bn_mul, bn_mull, bn_mult, bn_fdiv, bn_mod, bn_pow, ix_t, ix_l, ix_r, ix_s, sl_t, sl_l, sl_s, is_t, is_l, is_r, is_s, isiD, isD, leD, ltD, assignT, setAll, ev_m1, ev_fstr, ef_nil, ef_cons, ev_dgt, xe_try, rv_count, rv_split, rv_sindex, rv_tindex, rv_lindex, rv_lcnt, bd_isx, bd_count, bd_split, bd_sindex, bd_tindex, bd_lindex_b, bd_lindex_s, bd_lcnt, so_s, so_i, idc_d, p_is_format N n form hf]
theorem join_flat : ∀ ys : List Tx, joinL [] ys = ys.flatten
  | [] => rfl
  | [x] => by simp [joinL]
  | x :: y :: r => by
    have := join_flat (y :: r)
    simp only [joinL, List.append_nil, this, List.flatten_cons]
theorem e_nil : tx "" = [] := by decide +kernel
theorem dig_len : ∀ (f n : Nat), (digF f n).length ≤ f + 1
  | 0, n => by simp [digF]
  | f + 1, n => by
    unfold digF
    split
    · simp
    · have := dig_len f (n / 10)
      simp
      omega
theorem flat_len {c : Nat} : ∀ {ys : List Tx}, (∀ y ∈ ys, y.length ≤ c) → ys.flatten.length ≤ ys.length * c
  | [], _ => by simp
  | y :: ys, h => by
    have h1 := h y List.mem_cons_self
    have h2 := flat_len fun z hz => h z (List.mem_cons_of_mem _ hz)
    simp only [List.flatten_cons, List.length_append, List.length_cons, Nat.add_mul, Nat.one_mul]
    omega
end FT
namespace FT
open PySem PySem.Spec PyProof.Rows L2
/-! ### what is drawn -/
theorem bs0 (ds : List D) (i : Int) (d : D) : boxSet [.box (.lst ds)] (.ref 0) (.int i) d = (ixN ds.length i).map fun j => [.box (.lst (ds.set j d))] := by
  show (match ixN ds.length i with
    | some j => some (([RO.box (.lst ds)] : Sh).set 0 (.box (.lst (ds.set j d))))
    | none => none) = _
  cases ixN ds.length i <;> rfl
theorem ib0 (ds : List D) (i : Int) : ixbD [.box (.lst ds)] (.ref 0) (.int i) = L2.atI ds i := rfl
theorem ixN_nat {n k : Nat} (h : k < n) : ixN n (k : Int) = some k := by
  unfold ixN
  simp
  omega
theorem eq_scr (ns : List Int) : eqD (.scr ns) (.lst []) = some ns.isEmpty := by
  have h : ∀ l : List Int, okDs (l.map D.int) 59 = true := by
    intro l
    induction l with
    | nil => rfl
    | cons x l ih => simp only [List.map_cons, okDs, okD, ih, Bool.and_self]
  have h1 : okD (norm (.scr ns)) 60 = true := by simp only [norm, okD]; exact h ns
  have h2 : okD (norm (.lst [])) 60 = true := rfl
  unfold eqD
  rw [h1, h2]
  cases ns with
  | nil => rfl
  | cons x l => rfl
/-- the town: a counter, then what is left of the script -/
def Good (ns : List Int) (b : Nat) (S : Sh) : Prop := ∃ (c : Nat) (rest : List Int), S = [.box (.lst (.int c :: rest.map D.int))] ∧ rest.length = ns.length ∧ c ≤ b
theorem Good.more {ns : List Int} {b b' : Nat} {S : Sh} (h : Good ns b S) (l : b ≤ b') : Good ns b' S := by
  obtain ⟨c, rest, e, h1, h2⟩ := h
  exact ⟨c, rest, e, h1, Nat.le_trans h2 l⟩
theorem p__law_town (N n : Nat) (ns : List Int) (hl : ns.length ≤ 63) : ∃ S, Φs N fbs (n + 1) f__law_town [.scr ns] [] = .ok (.ref 0) S ∧ Good ns 0 S := by
  rw [u__law_town]
  have h1 : 1 + ns.length ≤ lim := by show _ ≤ 1000000; omega
  refine ⟨[.box (.lst (.int 0 :: ns.map D.int))], ?_, 0, ns, rfl, rfl, Nat.le_refl _⟩
  simp [b__law_town, ev_var, ev_con, ev_bin, ev_neg, ev_not, ev_and, ev_or, ev_cmp, ev_chain, ev_ife, ev_tup, ev_lst, ev_ix, ev_sl, ev_call, ev_bi, ev_ixb, ev_lc, ei_e, ei_rng1, rg_i, ei_rng2, rg_ii, ng_i, io_i, zp_l, zp_t, ei_zip, el_nil, el_cons, eo_no, eo_at, xs_nil, xs_cons, xe_asg, xe_ite, xe_ret, xe_expr, xe_raise, run_fin, bind_ite, onto_ite, cond_ite, seqR_ite, finR_ite, app_ite, cmpB, bd_len_t, bd_len_l, bd_len_r, bd_len_s, bd_list_t, bd_list_l, bd_list_r, bd_list_s, bd_tuple_t, bd_tuple_l, bd_str_i, bd_str_s, bd_int_i, bd_int_b, bd_int_s, bd_sum, bd_min, bd_max, bd_min2, bd_max2, bd_all, bd_any, bd_isi, bd_join, bn_addi, bn_adds, bn_addl, bn_addt, bn_sub, bn_mul, bn_mull, bn_mult, bn_fdiv, bn_mod, bn_pow, ix_t, ix_l, ix_r, ix_s, sl_t, sl_l, sl_s, is_t, is_l, is_r, is_s, isiD, isD, leD, ltD, assignT, setAll, ev_m1, ev_fstr, ef_nil, ef_cons, ev_dgt, xe_try, rv_count, rv_split, rv_sindex, rv_tindex, rv_lindex, rv_lcnt, bd_isx, bd_count, bd_split, bd_sindex, bd_tindex, bd_lindex_b, bd_lindex_s, bd_lcnt, so_s, so_i, idc_d, ev_box, boxOf, h1]
theorem fmod_nat (a b : Nat) : Int.fmod (a : Int) (b : Int) = ((a % b : Nat) : Int) := by
  rw [Int.fmod_eq_emod_of_nonneg _ (by omega)]
  omega
theorem fmod_in (a L : Int) (h : 0 < L) : 0 ≤ a.fmod L ∧ a.fmod L < L := ⟨Int.fmod_nonneg_of_pos _ h, Int.fmod_lt_of_pos _ h⟩
theorem p__law_draw (N n b : Nat) (ns : List Int) (L : Int) (h1 : 1 ≤ L) (h2 : L ≤ 1000000) (S : Sh) (hG : Good ns b S) (hb : b ≤ 1000000000) :
    ∃ (r : Int) (S' : Sh), Φs N fbs (n + 1) f__law_draw [.scr ns, .ref 0, .int L] S = .ok (.int r) S' ∧ 0 ≤ r ∧ r < L ∧ Good ns (b + 1) S' := by
  obtain ⟨c, rest, rfl, hr, hc⟩ := hG
  rw [u__law_draw]
  have i0 : ixN (rest.length + 1) 0 = some 0 := ixN_nat (k := 0) (by omega)
  have a0 : ∀ (x : D) (l : List D), L2.atI (x :: l) 0 = some x := fun x l => by
    have := at_nat (x :: l) 0 (by simp)
    simpa using this
  have L0 : L ≠ 0 := by omega
  have L1 : L.natAbs < 1073741824 := by omega
  have c1 : ((c : Int) + 1).natAbs < 4611686018427387904 := by omega
  cases ns with
  | nil =>
    have hr0 : rest = [] := List.eq_nil_of_length_eq_zero hr
    subst hr0
    have fm := fmod_in ((((c : Int) + 1) * ((c : Int) + 1) * 7).fdiv 3) L (by omega)
    refine ⟨((((c : Int) + 1) * ((c : Int) + 1) * 7).fdiv 3).fmod L, [.box (.lst [.int ((c : Int) + 1)])], ?_, fm.1, fm.2, c + 1, [], rfl, rfl, by omega⟩
    simp only [List.length_nil, Nat.zero_add] at i0
    simp [b__law_draw, ev_var, ev_con, ev_bin, ev_neg, ev_not, ev_and, ev_or, ev_cmp, ev_chain, ev_ife, ev_tup, ev_lst, ev_ix, ev_sl, ev_call, ev_bi, ev_ixb, ev_lc, ei_e, ei_rng1, rg_i, ei_rng2, rg_ii, ng_i, io_i, zp_l, zp_t, ei_zip, el_nil, el_cons, eo_no, eo_at, xs_nil, xs_cons, xe_asg, xe_ite, xe_ret, xe_expr, xe_raise, run_fin, bind_ite, onto_ite, cond_ite, seqR_ite, finR_ite, app_ite, cmpB, bd_len_t, bd_len_l, bd_len_r, bd_len_s, bd_list_t, bd_list_l, bd_list_r, bd_list_s, bd_tuple_t, bd_tuple_l, bd_str_i, bd_str_s, bd_int_i, bd_int_b, bd_int_s, bd_sum, bd_min, bd_max, bd_min2, bd_max2, bd_all, bd_any, bd_isi, bd_join, bn_addi, bn_adds, bn_addl, bn_addt, bn_sub, bn_mul, bn_mull, bn_mult, bn_fdiv, bn_mod, bn_pow, ix_t, ix_l, ix_r, ix_s, sl_t, sl_l, sl_s, is_t, is_l, is_r, is_s, isiD, isD, leD, ltD, assignT, setAll, ev_m1, ev_fstr, ef_nil, ef_cons, ev_dgt, xe_try, rv_count, rv_split, rv_sindex, rv_tindex, rv_lindex, rv_lcnt, bd_isx, bd_count, bd_split, bd_sindex, bd_tindex, bd_lindex_b, bd_lindex_s, bd_lcnt, so_s, so_i, idc_d, xe_seth, bs0, ib0, a0, i0, eq_scr, L0, L1, c1]
  | cons x l =>
    have hr' : rest.length = l.length + 1 := hr
    let k : Nat := (c + 1) % (l.length + 1)
    have hk : k < l.length + 1 := Nat.mod_lt _ (by omega)
    have kl : k < rest.length := by omega
    have ek : Int.fmod ((c : Int) + 1) ((l.length : Int) + 1) = (k : Int) := by
      have := fmod_nat (c + 1) (l.length + 1)
      rw [show ((c + 1 : Nat) : Int) = (c : Int) + 1 by omega, show ((l.length + 1 : Nat) : Int) = (l.length : Int) + 1 by omega] at this
      exact this
    have n0 : ¬ ((l.length : Int) + 1 = 0) := by omega
    have at1 : L2.atI (D.int ((c : Int) + 1) :: rest.map D.int) (1 + (k : Int)) = some (.int (rest[k])) := by
      have := at_nat (D.int ((c : Int) + 1) :: rest.map D.int) (k + 1) (by simp; omega)
      rw [show ((k + 1 : Nat) : Int) = 1 + (k : Int) by omega] at this
      rw [this]
      simp
    have at2 : L2.atI (x :: l) (k : Int) = some ((x :: l)[k]) := at_nat (x :: l) k hk
    have i1 : ixN (rest.length + 1) (1 + (k : Int)) = some (k + 1) := by
      rw [show 1 + (k : Int) = ((k + 1 : Nat) : Int) by omega]
      exact ixN_nat (by omega)
    by_cases hbig : (1000000000000000000 : Int) ≤ (x :: l)[k] ∧ 0 < rest[k]
    · have fm := fmod_in (rest[k]) L (by omega)
      refine ⟨(rest[k]).fmod L, [.box (.lst (.int ((c : Int) + 1) :: (rest.set k ((rest[k]).fdiv L)).map D.int))], ?_, fm.1, fm.2, c + 1, rest.set k ((rest[k]).fdiv L), rfl, by simp [hr], by omega⟩
      simp [b__law_draw, ev_var, ev_con, ev_bin, ev_neg, ev_not, ev_and, ev_or, ev_cmp, ev_chain, ev_ife, ev_tup, ev_lst, ev_ix, ev_sl, ev_call, ev_bi, ev_ixb, ev_lc, ei_e, ei_rng1, rg_i, ei_rng2, rg_ii, ng_i, io_i, zp_l, zp_t, ei_zip, el_nil, el_cons, eo_no, eo_at, xs_nil, xs_cons, xe_asg, xe_ite, xe_ret, xe_expr, xe_raise, run_fin, bind_ite, onto_ite, cond_ite, seqR_ite, finR_ite, app_ite, cmpB, bd_len_t, bd_len_l, bd_len_r, bd_len_s, bd_list_t, bd_list_l, bd_list_r, bd_list_s, bd_tuple_t, bd_tuple_l, bd_str_i, bd_str_s, bd_int_i, bd_int_b, bd_int_s, bd_sum, bd_min, bd_max, bd_min2, bd_max2, bd_all, bd_any, bd_isi, bd_join, bn_addi, bn_adds, bn_addl, bn_addt, bn_sub, bn_mul, bn_mull, bn_mult, bn_fdiv, bn_mod, bn_pow, ix_t, ix_l, ix_r, ix_s, sl_t, sl_l, sl_s, is_t, is_l, is_r, is_s, isiD, isD, leD, ltD, assignT, setAll, ev_m1, ev_fstr, ef_nil, ef_cons, ev_dgt, xe_try, rv_count, rv_split, rv_sindex, rv_tindex, rv_lindex, rv_lcnt, bd_isx, bd_count, bd_split, bd_sindex, bd_tindex, bd_lindex_b, bd_lindex_s, bd_lcnt, so_s, so_i, idc_d, xe_seth, bs0, ib0, a0, i0, eq_scr, L0, L1, n0, ek, at1, at2, i1, hbig.1, hbig.2, List.map_set]
    · obtain ⟨m1, hm1⟩ : ∃ m, ((x :: l)[k] + 104729 * ((c : Int) + 1)).fmod 4294967291 = m := ⟨_, rfl⟩
      obtain ⟨m2, hm2⟩ : ∃ m, (m1 ^ 5).fmod 4294967279 = m := ⟨_, rfl⟩
      have g1 := fmod_in ((x :: l)[k] + 104729 * ((c : Int) + 1)) 4294967291 (by omega)
      have g2 := fmod_in (m1 ^ 5) 4294967279 (by omega)
      rw [hm1] at g1
      rw [hm2] at g2
      have e1 : m1.natAbs < 4611686018427387904 := by omega
      have e2 : (m2.fdiv 64).natAbs < 4611686018427387904 := by
        rw [Int.fdiv_eq_ediv_of_nonneg _ (by omega)]
        omega
      have fm := fmod_in (((m2.fdiv 64 * 69621 + m2).fmod 4294967231).fdiv 8) L (by omega)
      refine ⟨(((m2.fdiv 64 * 69621 + m2).fmod 4294967231).fdiv 8).fmod L, [.box (.lst (.int ((c : Int) + 1) :: rest.map D.int))], ?_, fm.1, fm.2, c + 1, rest, rfl, hr, by omega⟩
      by_cases h3 : (1000000000000000000 : Int) ≤ (x :: l)[k]
      · have h4 : ¬ 0 < rest[k] := fun z => hbig ⟨h3, z⟩
        simp [b__law_draw, ev_var, ev_con, ev_bin, ev_neg, ev_not, ev_and, ev_or, ev_cmp, ev_chain, ev_ife, ev_tup, ev_lst, ev_ix, ev_sl, ev_call, ev_bi, ev_ixb, ev_lc, ei_e, ei_rng1, rg_i, ei_rng2, rg_ii, ng_i, io_i, zp_l, zp_t, ei_zip, el_nil, el_cons, eo_no, eo_at, xs_nil, xs_cons, xe_asg, xe_ite, xe_ret, xe_expr, xe_raise, run_fin, bind_ite, onto_ite, cond_ite, seqR_ite, finR_ite, app_ite, cmpB, bd_len_t, bd_len_l, bd_len_r, bd_len_s, bd_list_t, bd_list_l, bd_list_r, bd_list_s, bd_tuple_t, bd_tuple_l, bd_str_i, bd_str_s, bd_int_i, bd_int_b, bd_int_s, bd_sum, bd_min, bd_max, bd_min2, bd_max2, bd_all, bd_any, bd_isi, bd_join, bn_addi, bn_adds, bn_addl, bn_addt, bn_sub, bn_mul, bn_mull, bn_mult, bn_fdiv, bn_mod, bn_pow, ix_t, ix_l, ix_r, ix_s, sl_t, sl_l, sl_s, is_t, is_l, is_r, is_s, isiD, isD, leD, ltD, assignT, setAll, ev_m1, ev_fstr, ef_nil, ef_cons, ev_dgt, xe_try, rv_count, rv_split, rv_sindex, rv_tindex, rv_lindex, rv_lcnt, bd_isx, bd_count, bd_split, bd_sindex, bd_tindex, bd_lindex_b, bd_lindex_s, bd_lcnt, so_s, so_i, idc_d, xe_seth, bs0, ib0, a0, i0, eq_scr, L0, L1, n0, ek, at1, at2, i1, h3, h4, hm1, e1, hm2, e2]
      · simp [b__law_draw, ev_var, ev_con, ev_bin, ev_neg, ev_not, ev_and, ev_or, ev_cmp, ev_chain, ev_ife, ev_tup, ev_lst, ev_ix, ev_sl, ev_call, ev_bi, ev_ixb, ev_lc, ei_e, ei_rng1, rg_i, ei_rng2, rg_ii, ng_i, io_i, zp_l, zp_t, ei_zip, el_nil, el_cons, eo_no, eo_at, xs_nil, xs_cons, xe_asg, xe_ite, xe_ret, xe_expr, xe_raise, run_fin, bind_ite, onto_ite, cond_ite, seqR_ite, finR_ite, app_ite, cmpB, bd_len_t, bd_len_l, bd_len_r, bd_len_s, bd_list_t, bd_list_l, bd_list_r, bd_list_s, bd_tuple_t, bd_tuple_l, bd_str_i, bd_str_s, bd_int_i, bd_int_b, bd_int_s, bd_sum, bd_min, bd_max, bd_min2, bd_max2, bd_all, bd_any, bd_isi, bd_join, bn_addi, bn_adds, bn_addl, bn_addt, bn_sub, bn_mul, bn_mull, bn_mult, bn_fdiv, bn_mod, bn_pow, ix_t, ix_l, ix_r, ix_s, sl_t, sl_l, sl_s, is_t, is_l, is_r, is_s, isiD, isD, leD, ltD, assignT, setAll, ev_m1, ev_fstr, ef_nil, ef_cons, ev_dgt, xe_try, rv_count, rv_split, rv_sindex, rv_tindex, rv_lindex, rv_lcnt, bd_isx, bd_count, bd_split, bd_sindex, bd_tindex, bd_lindex_b, bd_lindex_s, bd_lcnt, so_s, so_i, idc_d, xe_seth, bs0, ib0, a0, i0, eq_scr, L0, L1, n0, ek, at1, at2, i1, h3, hm1, e1, hm2, e2]
theorem p__law_pick_l (N n b : Nat) (ns : List Int) (xs : List D) (h1 : 1 ≤ xs.length) (h2 : xs.length ≤ 1000000) (S : Sh) (hG : Good ns b S) (hb : b ≤ 1000000000) :
    ∃ (y : D) (S' : Sh), Φs N fbs (n + 2) f__law_pick [.scr ns, .ref 0, .lst xs] S = .ok y S' ∧ y ∈ xs ∧ Good ns (b + 1) S' := by
  obtain ⟨r, S', e, r0, r1, g⟩ := p__law_draw N n b ns xs.length (by omega) (by omega) S hG hb
  have hlt : r.toNat < xs.length := by omega
  refine ⟨xs[r.toNat], S', ?_, List.getElem_mem hlt, g⟩
  have ea := at_nat xs r.toNat hlt
  rw [show ((r.toNat : Nat) : Int) = r by omega] at ea
  rw [u__law_pick]
  simp [b__law_pick, ev_var, ev_con, ev_bin, ev_neg, ev_not, ev_and, ev_or, ev_cmp, ev_chain, ev_ife, ev_tup, ev_lst, ev_ix, ev_sl, ev_call, ev_bi, ev_ixb, ev_lc, ei_e, ei_rng1, rg_i, ei_rng2, rg_ii, ng_i, io_i, zp_l, zp_t, ei_zip, el_nil, el_cons, eo_no, eo_at, xs_nil, xs_cons, xe_asg, xe_ite, xe_ret, xe_expr, xe_raise, run_fin, bind_ite, onto_ite, cond_ite, seqR_ite, finR_ite, app_ite, cmpB, bd_len_t, bd_len_l, bd_len_r, bd_len_s, bd_list_t, bd_list_l, bd_list_r, bd_list_s, bd_tuple_t, bd_tuple_l, bd_str_i, bd_str_s, bd_int_i, bd_int_b, bd_int_s, bd_sum, bd_min, bd_max, bd_min2, bd_max2, bd_all, bd_any, bd_isi, bd_join, bn_addi, bn_adds, bn_addl, bn_addt, bn_sub, bn_mul, bn_mull, bn_mult, bn_fdiv, bn_mod, bn_pow, ix_t, ix_l, ix_r, ix_s, sl_t, sl_l, sl_s, is_t, is_l, is_r, is_s, isiD, isD, leD, ltD, assignT, setAll, ev_m1, ev_fstr, ef_nil, ef_cons, ev_dgt, xe_try, rv_count, rv_split, rv_sindex, rv_tindex, rv_lindex, rv_lcnt, bd_isx, bd_count, bd_split, bd_sindex, bd_tindex, bd_lindex_b, bd_lindex_s, bd_lcnt, so_s, so_i, idc_d, e, ea]
theorem p__law_pick_t (N n b : Nat) (ns : List Int) (xs : List D) (h1 : 1 ≤ xs.length) (h2 : xs.length ≤ 1000000) (S : Sh) (hG : Good ns b S) (hb : b ≤ 1000000000) :
    ∃ (y : D) (S' : Sh), Φs N fbs (n + 2) f__law_pick [.scr ns, .ref 0, .tup xs] S = .ok y S' ∧ y ∈ xs ∧ Good ns (b + 1) S' := by
  obtain ⟨r, S', e, r0, r1, g⟩ := p__law_draw N n b ns xs.length (by omega) (by omega) S hG hb
  have hlt : r.toNat < xs.length := by omega
  refine ⟨xs[r.toNat], S', ?_, List.getElem_mem hlt, g⟩
  have ea := at_nat xs r.toNat hlt
  rw [show ((r.toNat : Nat) : Int) = r by omega] at ea
  rw [u__law_pick]
  simp [b__law_pick, ev_var, ev_con, ev_bin, ev_neg, ev_not, ev_and, ev_or, ev_cmp, ev_chain, ev_ife, ev_tup, ev_lst, ev_ix, ev_sl, ev_call, ev_bi, ev_ixb, ev_lc, ei_e, ei_rng1, rg_i, ei_rng2, rg_ii, ng_i, io_i, zp_l, zp_t, ei_zip, el_nil, el_cons, eo_no, eo_at, xs_nil, xs_cons, xe_asg, xe_ite, xe_ret, xe_expr, xe_raise, run_fin, bind_ite, onto_ite, cond_ite, seqR_ite, finR_ite, app_ite, cmpB, bd_len_t, bd_len_l, bd_len_r, bd_len_s, bd_list_t, bd_list_l, bd_list_r, bd_list_s, bd_tuple_t, bd_tuple_l, bd_str_i, bd_str_s, bd_int_i, bd_int_b, bd_int_s, bd_sum, bd_min, bd_max, bd_min2, bd_max2, bd_all, bd_any, bd_isi, bd_join, bn_addi, bn_adds, bn_addl, bn_addt, bn_sub, bn_mul, bn_mull, bn_mult, bn_fdiv, bn_mod, bn_pow, ix_t, ix_l, ix_r, ix_s, sl_t, sl_l, sl_s, is_t, is_l, is_r, is_s, isiD, isD, leD, ltD, assignT, setAll, ev_m1, ev_fstr, ef_nil, ef_cons, ev_dgt, xe_try, rv_count, rv_split, rv_sindex, rv_tindex, rv_lindex, rv_lcnt, bd_isx, bd_count, bd_split, bd_sindex, bd_tindex, bd_lindex_b, bd_lindex_s, bd_lcnt, so_s, so_i, idc_d, e, ea]
/-- signs of cs -/
theorem all2_mem {α β : Type} {R : α → β → Prop} : ∀ {l : List α} {m : List β}, All2 R l m → ∀ y ∈ m, ∃ x ∈ l, R x y
  | _, _, .cons (a := a) h r, y, hy => by
    rcases List.mem_cons.mp hy with e | e
    · exact ⟨a, List.mem_cons_self, by rw [e]; exact h⟩
    · obtain ⟨x, hx, hr⟩ := all2_mem r y e
      exact ⟨x, List.mem_cons_of_mem _ hx, hr⟩
theorem one_signs (cs : Tx) : ∀ (ys : List D), (∀ y ∈ ys, ∃ c ∈ cs, y = .str [c]) → ∃ t : Tx, strsD ys = some (t.map fun c => [c]) ∧ t.length = ys.length ∧ ∀ c ∈ t, c ∈ cs
  | [], _ => ⟨[], rfl, rfl, fun c h => by cases h⟩
  | y :: ys, h => by
    obtain ⟨c, hc, e⟩ := h y List.mem_cons_self
    obtain ⟨t, h1, h2, h3⟩ := one_signs cs ys fun z hz => h z (List.mem_cons_of_mem _ hz)
    refine ⟨c :: t, ?_, by simp [h2], fun d hd => ?_⟩
    · rw [e, strsD, h1]
      rfl
    · rcases List.mem_cons.mp hd with z | z
      · rw [z]; exact hc
      · exact h3 d z
theorem flat_one (t : Tx) : (t.map fun c => [c]).flatten = t := by
  induction t with
  | nil => rfl
  | cons c t ih => simp [ih]
theorem p__law_signs (N n b : Nat) (ns : List Int) (cs : Tx) (k : Nat) (h1 : 1 ≤ cs.length) (h2 : cs.length ≤ 1000) (hk : k ≤ 1000) (S : Sh) (hG : Good ns b S) (hb : b ≤ 900000000) :
    ∃ (t : Tx) (S' : Sh), Φs N fbs (n + 3) f__law_signs [.scr ns, .ref 0, .str cs, .int k] S = .ok (.str t) S' ∧ t.length = k ∧ (∀ c ∈ t, c ∈ cs) ∧ Good ns (b + k) S' := by
  rw [u__law_signs]
  have hcl : cs.length ≤ lim := len_lim h2
  obtain ⟨ys, S', e, g, hR⟩ := lcK_draw (S := S) (f := keepF (Φs N fbs (n + 2)) [.dat (.scr ns), .dat (.ref 0), .dat (.str cs), .dat (.int k), .no] [4] (.call f__law_pick (.cons (.var 0) (.cons (.var 1) (.cons (.bi .list (.cons (.var 2) .nil)) .nil)))) (.nm 4) (.con (.bl true)))
    (ds := (List.range k).map fun (i : Nat) => D.int i) (fun _ y => ∃ c ∈ cs, y = .str [c]) (fun i S => Good ns (b + i) S) (by rw [List.length_map, List.length_range]; exact len_lim hk) hG (fun i d S hd hI => by
      have hi := (List.getElem?_eq_some_iff.mp hd).1
      rw [List.length_map, List.length_range] at hi
      obtain ⟨y, S', e, hy, g⟩ := p__law_pick_l N n (b + i) ns (cs.map fun c => D.str [c]) (by simpa using h1) (by rw [List.length_map]; omega) S hI (by omega)
      refine ⟨y, S', ?_, ?_, g⟩
      · simp [keepF, wipeE, ev_var, ev_con, ev_bin, ev_neg, ev_not, ev_and, ev_or, ev_cmp, ev_chain, ev_ife, ev_tup, ev_lst, ev_ix, ev_sl, ev_call, ev_bi, ev_ixb, ev_lc, ei_e, ei_rng1, rg_i, ei_rng2, rg_ii, ng_i, io_i, zp_l, zp_t, ei_zip, el_nil, el_cons, eo_no, eo_at, xs_nil, xs_cons, xe_asg, xe_ite, xe_ret, xe_expr, xe_raise, run_fin, bind_ite, onto_ite, cond_ite, seqR_ite, finR_ite, app_ite, cmpB, bd_len_t, bd_len_l, bd_len_r, bd_len_s, bd_list_t, bd_list_l, bd_list_r, bd_list_s, bd_tuple_t, bd_tuple_l, bd_str_i, bd_str_s, bd_int_i, bd_int_b, bd_int_s, bd_sum, bd_min, bd_max, bd_min2, bd_max2, bd_all, bd_any, bd_isi, bd_join, bn_addi, bn_adds, bn_addl, bn_addt, bn_sub, bn_mul, bn_mull, bn_mult, bn_fdiv, bn_mod, bn_pow, ix_t, ix_l, ix_r, ix_s, sl_t, sl_l, sl_s, is_t, is_l, is_r, is_s, isiD, isD, leD, ltD, assignT, setAll, ev_m1, ev_fstr, ef_nil, ef_cons, ev_dgt, xe_try, rv_count, rv_split, rv_sindex, rv_tindex, rv_lindex, rv_lcnt, bd_isx, bd_count, bd_split, bd_sindex, bd_tindex, bd_lindex_b, bd_lindex_s, bd_lcnt, so_s, so_i, idc_d, hcl, e]
      · obtain ⟨c, hc, e⟩ := List.mem_map.mp hy
        exact ⟨c, hc, e.symm⟩)
  rw [List.length_map, List.length_range] at g
  obtain ⟨t, t1, t2, t3⟩ := one_signs cs ys fun y hy => by
    obtain ⟨_, _, h⟩ := all2_mem hR y hy
    exact h
  have tl : t.length = k := by
    rw [t2]
    have := hR.len
    rw [List.length_map, List.length_range] at this
    exact this.symm
  refine ⟨t, S', ?_, tl, t3, g⟩
  have r0 := rng_ok0 (k : Int) (by omega) (by omega)
  rw [Int.toNat_natCast] at r0
  have s1 : t.length ≤ 100000 := by omega
  have s2 : t.length ≤ lim := by show _ ≤ 1000000; omega
  have s3 : (List.map (List.length ∘ fun (c : Nat) => [c]) t).sum ≤ lim := by
    have : (List.map (List.length ∘ fun (c : Nat) => [c]) t).sum = t.length := by
      clear e t1 t2 t3 tl s1 s2
      induction t with
      | nil => rfl
      | cons c t ih => simp only [List.map_cons, List.sum_cons, ih, List.length_cons, Function.comp]; simp; omega
    rw [this]
    exact s2
  simp [b__law_signs, ev_var, ev_con, ev_bin, ev_neg, ev_not, ev_and, ev_or, ev_cmp, ev_chain, ev_ife, ev_tup, ev_lst, ev_ix, ev_sl, ev_call, ev_bi, ev_ixb, ev_lc, ei_e, ei_rng1, rg_i, ei_rng2, rg_ii, ng_i, io_i, zp_l, zp_t, ei_zip, el_nil, el_cons, eo_no, eo_at, xs_nil, xs_cons, xe_asg, xe_ite, xe_ret, xe_expr, xe_raise, run_fin, bind_ite, onto_ite, cond_ite, seqR_ite, finR_ite, app_ite, cmpB, bd_len_t, bd_len_l, bd_len_r, bd_len_s, bd_list_t, bd_list_l, bd_list_r, bd_list_s, bd_tuple_t, bd_tuple_l, bd_str_i, bd_str_s, bd_int_i, bd_int_b, bd_int_s, bd_sum, bd_min, bd_max, bd_min2, bd_max2, bd_all, bd_any, bd_isi, bd_join, bn_addi, bn_adds, bn_addl, bn_addt, bn_sub, bn_mul, bn_mull, bn_mult, bn_fdiv, bn_mod, bn_pow, ix_t, ix_l, ix_r, ix_s, sl_t, sl_l, sl_s, is_t, is_l, is_r, is_s, isiD, isD, leD, ltD, assignT, setAll, ev_m1, ev_fstr, ef_nil, ef_cons, ev_dgt, xe_try, rv_count, rv_split, rv_sindex, rv_tindex, rv_lindex, rv_lcnt, bd_isx, bd_count, bd_split, bd_sindex, bd_tindex, bd_lindex_b, bd_lindex_s, bd_lcnt, so_s, so_i, idc_d, r0, e, t1, e_nil, join_flat, flat_one, s1, s3]
theorem d_nat (N n b : Nat) (ns : List Int) (L : Int) (h1 : 1 ≤ L) (h2 : L ≤ 1000000) (S : Sh) (hG : Good ns b S) (hb : b ≤ 1000000000) :
    ∃ (r : Nat) (S' : Sh), Φs N fbs (n + 1) f__law_draw [.scr ns, .ref 0, .int L] S = .ok (.int r) S' ∧ (r : Int) < L ∧ Good ns (b + 1) S' := by
  obtain ⟨r, S', e, r0, r1, g⟩ := p__law_draw N n b ns L h1 h2 S hG hb
  obtain ⟨k, rfl⟩ := Int.eq_ofNat_of_zero_le r0
  exact ⟨k, S', e, r1, g⟩
theorem e_m0a : tx "-0a" = [45, 48, 97] := by decide +kernel
theorem e_ab : tx "ab" = [97, 98] := by decide +kernel
theorem e_01 : tx "01" = [48, 49] := by decide +kernel
theorem e_mp : tx "-." = [45, 46] := by decide +kernel
theorem e_a0 : tx "a0" = [97, 48] := by decide +kernel
theorem sgn_of (cs : Tx) (h : cs.all (has sgn) = true) {t : Tx} (ht : ∀ c ∈ t, c ∈ cs) : t.all (has sgn) = true := List.all_eq_true.mpr fun c hc => List.all_eq_true.mp h c (ht c hc)
theorem strs_id : ∀ ts : List Tx, strsD (ts.map D.str) = some ts
  | [] => rfl
  | t :: ts => by rw [List.map_cons, strsD, strs_id ts]; rfl
theorem insT_len {x : Tx} : ∀ l : List Tx, (insT x l).length ≤ l.length + 1 ∧ 1 ≤ (insT x l).length
  | [] => by simp [insT]
  | y :: r => by
    unfold insT
    split
    · simp
    · split
      · have := insT_len (x := x) r
        simp
        omega
      · simp
theorem ssetT_len : ∀ l : List Tx, (ssetT l).length ≤ l.length
  | [] => by simp [ssetT]
  | x :: r => by
    have h1 := ssetT_len r
    have h2 := (insT_len (x := x) (ssetT r)).1
    simp only [ssetT, List.length_cons]
    omega
theorem ssetT_pos {l : List Tx} (h : 1 ≤ l.length) : 1 ≤ (ssetT l).length := by
  cases l with
  | nil => simp at h
  | cons x r => exact (insT_len (x := x) (ssetT r)).2
theorem p__law_simple (N n b : Nat) (ns : List Int) (most : Nat) (m1 : 1 ≤ most) (m2 : most ≤ 4) (S : Sh) (hG : Good ns b S) (hb : b ≤ 800000000) :
    ∃ (f : Fd1) (S' : Sh), Φs N fbs (n + 4) f__law_simple [.scr ns, .ref 0, .int most] S = .ok (enc1 f) S' ∧ ok1 f ∧ Good ns (b + 30) S' := by
  rw [u__law_simple]
  obtain ⟨r, S1, e1, r1, g1⟩ := d_nat N (n + 2) b ns 6 (by omega) (by omega) S hG (by omega)
  have hr : r = 0 ∨ r = 1 ∨ r = 2 ∨ r = 3 ∨ 4 ≤ r := by omega
  rcases hr with h | h | h | h | h
  · subst h
    have hmin : (1 : Int) ≤ (if (most : Int) < 2 then (most : Int) else 2) ∧ (if (most : Int) < 2 then (most : Int) else 2) ≤ 2 := by split <;> omega
    obtain ⟨q, S2, e2, q1, g2⟩ := d_nat N (n + 2) (b + 1) ns (if (most : Int) < 2 then (most : Int) else 2) hmin.1 (by omega) S1 g1 (by omega)
    obtain ⟨t, S3, e3, t1, t2, g3⟩ := p__law_signs N n (b + 2) ns (tx "-0a") (1 + q) (by rw [e_m0a]; decide) (by rw [e_m0a]; decide) (by omega) S2 g2 (by omega)
    rw [show ((1 + q : Nat) : Int) = 1 + (q : Int) by omega] at e3
    have ts : t.all (has sgn) = true := sgn_of _ (by decide +kernel) t2
    refine ⟨.word t, S3, ?_, ⟨by omega, by omega, ts⟩, g3.more (by omega)⟩
    simp [b__law_simple, ev_var, ev_con, ev_bin, ev_neg, ev_not, ev_and, ev_or, ev_cmp, ev_chain, ev_ife, ev_tup, ev_lst, ev_ix, ev_sl, ev_call, ev_bi, ev_ixb, ev_lc, ei_e, ei_rng1, rg_i, ei_rng2, rg_ii, ng_i, io_i, zp_l, zp_t, ei_zip, el_nil, el_cons, eo_no, eo_at, xs_nil, xs_cons, xe_asg, xe_ite, xe_ret, xe_expr, xe_raise, run_fin, bind_ite, onto_ite, cond_ite, seqR_ite, finR_ite, app_ite, cmpB, bd_len_t, bd_len_l, bd_len_r, bd_len_s, bd_list_t, bd_list_l, bd_list_r, bd_list_s, bd_tuple_t, bd_tuple_l, bd_str_i, bd_str_s, bd_int_i, bd_int_b, bd_int_s, bd_sum, bd_min, bd_max, bd_min2, bd_max2, bd_all, bd_any, bd_isi, bd_join, bn_addi, bn_adds, bn_addl, bn_addt, bn_sub, bn_mul, bn_mull, bn_mult, bn_fdiv, bn_mod, bn_pow, ix_t, ix_l, ix_r, ix_s, sl_t, sl_l, sl_s, is_t, is_l, is_r, is_s, isiD, isD, leD, ltD, assignT, setAll, ev_m1, ev_fstr, ef_nil, ef_cons, ev_dgt, xe_try, rv_count, rv_split, rv_sindex, rv_tindex, rv_lindex, rv_lcnt, bd_isx, bd_count, bd_split, bd_sindex, bd_tindex, bd_lindex_b, bd_lindex_s, bd_lcnt, so_s, so_i, idc_d, e1, e2, e3, eqD_int, enc1]
  · subst h
    obtain ⟨a, S2, e2, a1, g2⟩ := d_nat N (n + 2) (b + 1) ns ((most : Int) + 1) (by omega) (by omega) S1 g1 (by omega)
    obtain ⟨q, S3, e3, q1, g3⟩ := d_nat N (n + 2) (b + 2) ns ((most : Int) + 1 - (a : Int)) (by omega) (by omega) S2 g2 (by omega)
    refine ⟨.digits a (a + q), S3, ?_, ⟨by omega, by omega⟩, g3.more (by omega)⟩
    simp [b__law_simple, ev_var, ev_con, ev_bin, ev_neg, ev_not, ev_and, ev_or, ev_cmp, ev_chain, ev_ife, ev_tup, ev_lst, ev_ix, ev_sl, ev_call, ev_bi, ev_ixb, ev_lc, ei_e, ei_rng1, rg_i, ei_rng2, rg_ii, ng_i, io_i, zp_l, zp_t, ei_zip, el_nil, el_cons, eo_no, eo_at, xs_nil, xs_cons, xe_asg, xe_ite, xe_ret, xe_expr, xe_raise, run_fin, bind_ite, onto_ite, cond_ite, seqR_ite, finR_ite, app_ite, cmpB, bd_len_t, bd_len_l, bd_len_r, bd_len_s, bd_list_t, bd_list_l, bd_list_r, bd_list_s, bd_tuple_t, bd_tuple_l, bd_str_i, bd_str_s, bd_int_i, bd_int_b, bd_int_s, bd_sum, bd_min, bd_max, bd_min2, bd_max2, bd_all, bd_any, bd_isi, bd_join, bn_addi, bn_adds, bn_addl, bn_addt, bn_sub, bn_mul, bn_mull, bn_mult, bn_fdiv, bn_mod, bn_pow, ix_t, ix_l, ix_r, ix_s, sl_t, sl_l, sl_s, is_t, is_l, is_r, is_s, isiD, isD, leD, ltD, assignT, setAll, ev_m1, ev_fstr, ef_nil, ef_cons, ev_dgt, xe_try, rv_count, rv_split, rv_sindex, rv_tindex, rv_lindex, rv_lcnt, bd_isx, bd_count, bd_split, bd_sindex, bd_tindex, bd_lindex_b, bd_lindex_s, bd_lcnt, so_s, so_i, idc_d, e1, e2, e3, eqD_int, enc1, L2.atI, ixN]
  · subst h
    obtain ⟨a, S2, e2, a1, g2⟩ := d_nat N (n + 2) (b + 1) ns ((most : Int) + 1) (by omega) (by omega) S1 g1 (by omega)
    obtain ⟨q, S3, e3, q1, g3⟩ := d_nat N (n + 2) (b + 2) ns ((most : Int) + 1 - (a : Int)) (by omega) (by omega) S2 g2 (by omega)
    refine ⟨.letters a (a + q), S3, ?_, ⟨by omega, by omega⟩, g3.more (by omega)⟩
    simp [b__law_simple, ev_var, ev_con, ev_bin, ev_neg, ev_not, ev_and, ev_or, ev_cmp, ev_chain, ev_ife, ev_tup, ev_lst, ev_ix, ev_sl, ev_call, ev_bi, ev_ixb, ev_lc, ei_e, ei_rng1, rg_i, ei_rng2, rg_ii, ng_i, io_i, zp_l, zp_t, ei_zip, el_nil, el_cons, eo_no, eo_at, xs_nil, xs_cons, xe_asg, xe_ite, xe_ret, xe_expr, xe_raise, run_fin, bind_ite, onto_ite, cond_ite, seqR_ite, finR_ite, app_ite, cmpB, bd_len_t, bd_len_l, bd_len_r, bd_len_s, bd_list_t, bd_list_l, bd_list_r, bd_list_s, bd_tuple_t, bd_tuple_l, bd_str_i, bd_str_s, bd_int_i, bd_int_b, bd_int_s, bd_sum, bd_min, bd_max, bd_min2, bd_max2, bd_all, bd_any, bd_isi, bd_join, bn_addi, bn_adds, bn_addl, bn_addt, bn_sub, bn_mul, bn_mull, bn_mult, bn_fdiv, bn_mod, bn_pow, ix_t, ix_l, ix_r, ix_s, sl_t, sl_l, sl_s, is_t, is_l, is_r, is_s, isiD, isD, leD, ltD, assignT, setAll, ev_m1, ev_fstr, ef_nil, ef_cons, ev_dgt, xe_try, rv_count, rv_split, rv_sindex, rv_tindex, rv_lindex, rv_lcnt, bd_isx, bd_count, bd_split, bd_sindex, bd_tindex, bd_lindex_b, bd_lindex_s, bd_lcnt, so_s, so_i, idc_d, e1, e2, e3, eqD_int, enc1, L2.atI, ixN]
  · subst h
    obtain ⟨a, S2, e2, a1, g2⟩ := d_nat N (n + 2) (b + 1) ns most (by omega) (by omega) S1 g1 (by omega)
    refine ⟨.number (1 + a), S2, ?_, ⟨by omega, by omega⟩, g2.more (by omega)⟩
    simp [b__law_simple, ev_var, ev_con, ev_bin, ev_neg, ev_not, ev_and, ev_or, ev_cmp, ev_chain, ev_ife, ev_tup, ev_lst, ev_ix, ev_sl, ev_call, ev_bi, ev_ixb, ev_lc, ei_e, ei_rng1, rg_i, ei_rng2, rg_ii, ng_i, io_i, zp_l, zp_t, ei_zip, el_nil, el_cons, eo_no, eo_at, xs_nil, xs_cons, xe_asg, xe_ite, xe_ret, xe_expr, xe_raise, run_fin, bind_ite, onto_ite, cond_ite, seqR_ite, finR_ite, app_ite, cmpB, bd_len_t, bd_len_l, bd_len_r, bd_len_s, bd_list_t, bd_list_l, bd_list_r, bd_list_s, bd_tuple_t, bd_tuple_l, bd_str_i, bd_str_s, bd_int_i, bd_int_b, bd_int_s, bd_sum, bd_min, bd_max, bd_min2, bd_max2, bd_all, bd_any, bd_isi, bd_join, bn_addi, bn_adds, bn_addl, bn_addt, bn_sub, bn_mul, bn_mull, bn_mult, bn_fdiv, bn_mod, bn_pow, ix_t, ix_l, ix_r, ix_s, sl_t, sl_l, sl_s, is_t, is_l, is_r, is_s, isiD, isD, leD, ltD, assignT, setAll, ev_m1, ev_fstr, ef_nil, ef_cons, ev_dgt, xe_try, rv_count, rv_split, rv_sindex, rv_tindex, rv_lindex, rv_lcnt, bd_isx, bd_count, bd_split, bd_sindex, bd_tindex, bd_lindex_b, bd_lindex_s, bd_lcnt, so_s, so_i, idc_d, e1, e2, eqD_int, enc1]
  · have h0 : ¬ (r : Int) = 0 := by omega
    have h3 : ¬ (r : Int) < 3 := by omega
    have h33 : ¬ (r : Int) = 3 := by omega
    obtain ⟨c, S2, e2, c1, g2⟩ := d_nat N (n + 2) (b + 1) ns 3 (by omega) (by omega) S1 g1 (by omega)
    have r0 := rng_ok0 ((1 + c : Nat) : Int) (by omega) (by omega)
    rw [Int.toNat_natCast, show ((1 + c : Nat) : Int) = 1 + (c : Int) by omega] at r0
    obtain ⟨env', S3, hF, ts, t1, t2, s5, s7, he, g3⟩ := for_inv (ds := (List.range (1 + c)).map fun (k : Nat) => D.int k) (S := S2) (env := [.dat (.scr ns), .dat (.ref 0), .dat (.int most), .dat (.int r), .own (.lst []), .no, .no, .no])
      (f := bodyF (Φs N fbs (n + 3)) N (.nm 5) b__law_simple_l0)
      (fun i env S => ∃ ts : List Tx, ts.length = i ∧ (∀ t ∈ ts, okT t) ∧ ∃ s5 s7, env = [.dat (.scr ns), .dat (.ref 0), .dat (.int most), .dat (.int r), .own (.lst (ts.map D.str)), s5, .no, s7] ∧ Good ns (b + 2 + 6 * i) S)
      ⟨[], rfl, (fun t h => by cases h), .no, .no, rfl, g2⟩ (fun i d env S hd ⟨ts, t1, t2, s5, s7, he, g⟩ => by
        subst he
        have hi := (List.getElem?_eq_some_iff.mp hd).1
        rw [List.length_map, List.length_range] at hi
        obtain ⟨y, S3, e3, hy, g3⟩ := p__law_pick_l N (n + 1) (b + 2 + 6 * i) ns [.str (tx "ab"), .str (tx "01"), .str (tx "-."), .str (tx "a0")] (by simp) (by simp) S g (by omega)
        obtain ⟨cs, rfl, hc1, hc2, hc3⟩ : ∃ cs, y = .str cs ∧ 1 ≤ cs.length ∧ cs.length ≤ 1000 ∧ cs.all (has sgn) = true := by
          simp only [List.mem_cons, List.not_mem_nil, or_false] at hy
          rcases hy with e | e | e | e <;> subst e <;> exact ⟨_, rfl, by decide +kernel, by decide +kernel, by decide +kernel⟩
        obtain ⟨q, S4, e4, q1, g4⟩ := d_nat N (n + 2) (b + 2 + 6 * i + 1) ns most (by omega) (by omega) S3 g3 (by omega)
        obtain ⟨t, S5, e5, u1, u2, g5⟩ := p__law_signs N n (b + 2 + 6 * i + 2) ns cs (1 + q) hc1 hc2 (by omega) S4 g4 (by omega)
        rw [show ((1 + q : Nat) : Int) = 1 + (q : Int) by omega] at e5
        have tl : ts.length < lim := by show _ < 1000000; omega
        refine ⟨[.dat (.scr ns), .dat (.ref 0), .dat (.int most), .dat (.int r), .own (.lst ((ts ++ [t]).map D.str)), .dat d, .no, .dat (.str cs)], S5, ?_, ts ++ [t], by simp [t1], fun z hz => ?_, .dat d, .dat (.str cs), rfl, g5.more (by omega)⟩
        · simp only [bodyF, b__law_simple_l0, assignT, List.set_cons_succ, List.set_cons_zero, xs_cons, xe_asg]
          simp [ev_var, ev_con, ev_bin, ev_neg, ev_not, ev_and, ev_or, ev_cmp, ev_chain, ev_ife, ev_tup, ev_lst, ev_ix, ev_sl, ev_call, ev_bi, ev_ixb, ev_lc, ei_e, ei_rng1, rg_i, ei_rng2, rg_ii, ng_i, io_i, zp_l, zp_t, ei_zip, el_nil, el_cons, eo_no, eo_at, xs_nil, xs_cons, xe_asg, xe_ite, xe_ret, xe_expr, xe_raise, run_fin, bind_ite, onto_ite, cond_ite, seqR_ite, finR_ite, app_ite, cmpB, bd_len_t, bd_len_l, bd_len_r, bd_len_s, bd_list_t, bd_list_l, bd_list_r, bd_list_s, bd_tuple_t, bd_tuple_l, bd_str_i, bd_str_s, bd_int_i, bd_int_b, bd_int_s, bd_sum, bd_min, bd_max, bd_min2, bd_max2, bd_all, bd_any, bd_isi, bd_join, bn_addi, bn_adds, bn_addl, bn_addt, bn_sub, bn_mul, bn_mull, bn_mult, bn_fdiv, bn_mod, bn_pow, ix_t, ix_l, ix_r, ix_s, sl_t, sl_l, sl_s, is_t, is_l, is_r, is_s, isiD, isD, leD, ltD, assignT, setAll, ev_m1, ev_fstr, ef_nil, ef_cons, ev_dgt, xe_try, rv_count, rv_split, rv_sindex, rv_tindex, rv_lindex, rv_lcnt, bd_isx, bd_count, bd_split, bd_sindex, bd_tindex, bd_lindex_b, bd_lindex_s, bd_lcnt, so_s, so_i, idc_d, e3]
          rw [xe_app 4 _ (ds := ts.map D.str) rfl]
          simp [ev_var, ev_con, ev_bin, ev_neg, ev_not, ev_and, ev_or, ev_cmp, ev_chain, ev_ife, ev_tup, ev_lst, ev_ix, ev_sl, ev_call, ev_bi, ev_ixb, ev_lc, ei_e, ei_rng1, rg_i, ei_rng2, rg_ii, ng_i, io_i, zp_l, zp_t, ei_zip, el_nil, el_cons, eo_no, eo_at, xs_nil, xs_cons, xe_asg, xe_ite, xe_ret, xe_expr, xe_raise, run_fin, bind_ite, onto_ite, cond_ite, seqR_ite, finR_ite, app_ite, cmpB, bd_len_t, bd_len_l, bd_len_r, bd_len_s, bd_list_t, bd_list_l, bd_list_r, bd_list_s, bd_tuple_t, bd_tuple_l, bd_str_i, bd_str_s, bd_int_i, bd_int_b, bd_int_s, bd_sum, bd_min, bd_max, bd_min2, bd_max2, bd_all, bd_any, bd_isi, bd_join, bn_addi, bn_adds, bn_addl, bn_addt, bn_sub, bn_mul, bn_mull, bn_mult, bn_fdiv, bn_mod, bn_pow, ix_t, ix_l, ix_r, ix_s, sl_t, sl_l, sl_s, is_t, is_l, is_r, is_s, isiD, isD, leD, ltD, assignT, setAll, ev_m1, ev_fstr, ef_nil, ef_cons, ev_dgt, xe_try, rv_count, rv_split, rv_sindex, rv_tindex, rv_lindex, rv_lcnt, bd_isx, bd_count, bd_split, bd_sindex, bd_tindex, bd_lindex_b, bd_lindex_s, bd_lcnt, so_s, so_i, idc_d, e4, e5, tl]
        · rcases List.mem_append.mp hz with z1 | z1
          · exact t2 z z1
          · have : z = t := by simpa using z1
            subst this
            exact ⟨by omega, by omega, sgn_of _ hc3 u2⟩)
    subst he
    rw [List.length_map, List.length_range] at t1 g3
    have tl := ssetT_len ts
    have tp := ssetT_pos (l := ts) (by omega)
    refine ⟨.choice (ssetT ts), S3, ?_, ⟨tp, by omega, fun t ht => t2 t ((ssetT_mem ts t).mp ht), ssetT_pw ts⟩, g3.more (by omega)⟩
    have hf : exec (Φs N fbs (n + 3)) N (.for (.nm 5) (.rng1 (.bin .add (.con (.int 1)) (.call f__law_draw (.cons (.var 0) (.cons (.var 1) (.cons (.con (.int 3)) .nil)))))) b__law_simple_l0)
        [.dat (.scr ns), .dat (.ref 0), .dat (.int most), .dat (.int r), .own (.lst []), .no, .no, .no] S1 = .nx [.dat (.scr ns), .dat (.ref 0), .dat (.int most), .dat (.int r), .own (.lst (ts.map D.str)), s5, .no, s7] S3 := by
      rw [xe_for]
      simp [ev_var, ev_con, ev_bin, ev_neg, ev_not, ev_and, ev_or, ev_cmp, ev_chain, ev_ife, ev_tup, ev_lst, ev_ix, ev_sl, ev_call, ev_bi, ev_ixb, ev_lc, ei_e, ei_rng1, rg_i, ei_rng2, rg_ii, ng_i, io_i, zp_l, zp_t, ei_zip, el_nil, el_cons, eo_no, eo_at, xs_nil, xs_cons, xe_asg, xe_ite, xe_ret, xe_expr, xe_raise, run_fin, bind_ite, onto_ite, cond_ite, seqR_ite, finR_ite, app_ite, cmpB, bd_len_t, bd_len_l, bd_len_r, bd_len_s, bd_list_t, bd_list_l, bd_list_r, bd_list_s, bd_tuple_t, bd_tuple_l, bd_str_i, bd_str_s, bd_int_i, bd_int_b, bd_int_s, bd_sum, bd_min, bd_max, bd_min2, bd_max2, bd_all, bd_any, bd_isi, bd_join, bn_addi, bn_adds, bn_addl, bn_addt, bn_sub, bn_mul, bn_mull, bn_mult, bn_fdiv, bn_mod, bn_pow, ix_t, ix_l, ix_r, ix_s, sl_t, sl_l, sl_s, is_t, is_l, is_r, is_s, isiD, isD, leD, ltD, assignT, setAll, ev_m1, ev_fstr, ef_nil, ef_cons, ev_dgt, xe_try, rv_count, rv_split, rv_sindex, rv_tindex, rv_lindex, rv_lcnt, bd_isx, bd_count, bd_split, bd_sindex, bd_tindex, bd_lindex_b, bd_lindex_s, bd_lcnt, so_s, so_i, idc_d, e2, r0]
      exact hF
    have h64 : ts.length < 64 := by omega
    have k0 : ¬ r = 0 := by omega
    have k3 : ¬ r < 3 := by omega
    have k33 : ¬ r = 3 := by omega
    simp [b__law_simple, ev_var, ev_con, ev_bin, ev_neg, ev_not, ev_and, ev_or, ev_cmp, ev_chain, ev_ife, ev_tup, ev_lst, ev_ix, ev_sl, ev_call, ev_bi, ev_ixb, ev_lc, ei_e, ei_rng1, rg_i, ei_rng2, rg_ii, ng_i, io_i, zp_l, zp_t, ei_zip, el_nil, el_cons, eo_no, eo_at, xs_nil, xs_cons, xe_asg, xe_ite, xe_ret, xe_expr, xe_raise, run_fin, bind_ite, onto_ite, cond_ite, seqR_ite, finR_ite, app_ite, cmpB, bd_len_t, bd_len_l, bd_len_r, bd_len_s, bd_list_t, bd_list_l, bd_list_r, bd_list_s, bd_tuple_t, bd_tuple_l, bd_str_i, bd_str_s, bd_int_i, bd_int_b, bd_int_s, bd_sum, bd_min, bd_max, bd_min2, bd_max2, bd_all, bd_any, bd_isi, bd_join, bn_addi, bn_adds, bn_addl, bn_addt, bn_sub, bn_mul, bn_mull, bn_mult, bn_fdiv, bn_mod, bn_pow, ix_t, ix_l, ix_r, ix_s, sl_t, sl_l, sl_s, is_t, is_l, is_r, is_s, isiD, isD, leD, ltD, assignT, setAll, ev_m1, ev_fstr, ef_nil, ef_cons, ev_dgt, xe_try, rv_count, rv_split, rv_sindex, rv_tindex, rv_lindex, rv_lcnt, bd_isx, bd_count, bd_split, bd_sindex, bd_tindex, bd_lindex_b, bd_lindex_s, bd_lcnt, so_s, so_i, idc_d, xe_own, moOf, e1, eqD_int, h0, h3, h33, k0, k3, k33, hf]
    rw [xe_fz 4 (ds := ts.map D.str) rfl]
    simp [ev_var, ev_con, ev_bin, ev_neg, ev_not, ev_and, ev_or, ev_cmp, ev_chain, ev_ife, ev_tup, ev_lst, ev_ix, ev_sl, ev_call, ev_bi, ev_ixb, ev_lc, ei_e, ei_rng1, rg_i, ei_rng2, rg_ii, ng_i, io_i, zp_l, zp_t, ei_zip, el_nil, el_cons, eo_no, eo_at, xs_nil, xs_cons, xe_asg, xe_ite, xe_ret, xe_expr, xe_raise, run_fin, bind_ite, onto_ite, cond_ite, seqR_ite, finR_ite, app_ite, cmpB, bd_len_t, bd_len_l, bd_len_r, bd_len_s, bd_list_t, bd_list_l, bd_list_r, bd_list_s, bd_tuple_t, bd_tuple_l, bd_str_i, bd_str_s, bd_int_i, bd_int_b, bd_int_s, bd_sum, bd_min, bd_max, bd_min2, bd_max2, bd_all, bd_any, bd_isi, bd_join, bn_addi, bn_adds, bn_addl, bn_addt, bn_sub, bn_mul, bn_mull, bn_mult, bn_fdiv, bn_mod, bn_pow, ix_t, ix_l, ix_r, ix_s, sl_t, sl_l, sl_s, is_t, is_l, is_r, is_s, isiD, isD, leD, ltD, assignT, setAll, ev_m1, ev_fstr, ef_nil, ef_cons, ev_dgt, xe_try, rv_count, rv_split, rv_sindex, rv_tindex, rv_lindex, rv_lcnt, bd_isx, bd_count, bd_split, bd_sindex, bd_tindex, bd_lindex_b, bd_lindex_s, bd_lcnt, so_s, so_i, idc_d, ev_sset, ssetD, strs_id, h64, enc1]
theorem p__law_field (N n b : Nat) (ns : List Int) (most : Nat) (m1 : 1 ≤ most) (m2 : most ≤ 4) (S : Sh) (hG : Good ns b S) (hb : b ≤ 700000000) :
    ∃ (f : Fd) (S' : Sh), Φs N fbs (n + 5) f__law_field [.scr ns, .ref 0, .int most] S = .ok (enc f) S' ∧ okF f ∧ Good ns (b + 40) S' := by
  rw [u__law_field]
  obtain ⟨f, S1, e1, ok, g1⟩ := p__law_simple N n b ns most m1 m2 S hG (by omega)
  obtain ⟨r, S2, e2, r1, g2⟩ := d_nat N (n + 3) (b + 30) ns 4 (by omega) (by omega) S1 g1 (by omega)
  by_cases h : 0 < r
  · refine ⟨.one f, S2, ?_, ok, g2.more (by omega)⟩
    have h' : (0 : Int) < r := by omega
    simp [b__law_field, ev_var, ev_con, ev_bin, ev_neg, ev_not, ev_and, ev_or, ev_cmp, ev_chain, ev_ife, ev_tup, ev_lst, ev_ix, ev_sl, ev_call, ev_bi, ev_ixb, ev_lc, ei_e, ei_rng1, rg_i, ei_rng2, rg_ii, ng_i, io_i, zp_l, zp_t, ei_zip, el_nil, el_cons, eo_no, eo_at, xs_nil, xs_cons, xe_asg, xe_ite, xe_ret, xe_expr, xe_raise, run_fin, bind_ite, onto_ite, cond_ite, seqR_ite, finR_ite, app_ite, cmpB, bd_len_t, bd_len_l, bd_len_r, bd_len_s, bd_list_t, bd_list_l, bd_list_r, bd_list_s, bd_tuple_t, bd_tuple_l, bd_str_i, bd_str_s, bd_int_i, bd_int_b, bd_int_s, bd_sum, bd_min, bd_max, bd_min2, bd_max2, bd_all, bd_any, bd_isi, bd_join, bn_addi, bn_adds, bn_addl, bn_addt, bn_sub, bn_mul, bn_mull, bn_mult, bn_fdiv, bn_mod, bn_pow, ix_t, ix_l, ix_r, ix_s, sl_t, sl_l, sl_s, is_t, is_l, is_r, is_s, isiD, isD, leD, ltD, assignT, setAll, ev_m1, ev_fstr, ef_nil, ef_cons, ev_dgt, xe_try, rv_count, rv_split, rv_sindex, rv_tindex, rv_lindex, rv_lcnt, bd_isx, bd_count, bd_split, bd_sindex, bd_tindex, bd_lindex_b, bd_lindex_s, bd_lcnt, so_s, so_i, idc_d, e1, e2, h, h', enc]
  · have h0 : r = 0 := by omega
    subst h0
    obtain ⟨lo, S3, e3, l1, g3⟩ := d_nat N (n + 3) (b + 30 + 1) ns 3 (by omega) (by omega) S2 g2 (by omega)
    obtain ⟨q, S4, e4, q1, g4⟩ := d_nat N (n + 3) (b + 30 + 1 + 1) ns 2 (by omega) (by omega) S3 g3 (by omega)
    refine ⟨.rep f lo (max 1 (lo + q)), S4, ?_, ⟨ok, by omega, by omega, by omega⟩, g4.more (by omega)⟩
    have hm : (if 1 < (lo : Int) + q then (lo : Int) + q else 1) = ((max 1 (lo + q) : Nat) : Int) := by split <;> omega
    simp only [b__law_field]
    simp [ev_var, ev_con, ev_bin, ev_neg, ev_not, ev_and, ev_or, ev_cmp, ev_chain, ev_ife, ev_tup, ev_lst, ev_ix, ev_sl, ev_call, ev_bi, ev_ixb, ev_lc, ei_e, ei_rng1, rg_i, ei_rng2, rg_ii, ng_i, io_i, zp_l, zp_t, ei_zip, el_nil, el_cons, eo_no, eo_at, xs_nil, xs_cons, xe_asg, xe_ite, xe_ret, xe_expr, xe_raise, run_fin, bind_ite, onto_ite, cond_ite, seqR_ite, finR_ite, app_ite, cmpB, bd_len_t, bd_len_l, bd_len_r, bd_len_s, bd_list_t, bd_list_l, bd_list_r, bd_list_s, bd_tuple_t, bd_tuple_l, bd_str_i, bd_str_s, bd_int_i, bd_int_b, bd_int_s, bd_sum, bd_min, bd_max, bd_min2, bd_max2, bd_all, bd_any, bd_isi, bd_join, bn_addi, bn_adds, bn_addl, bn_addt, bn_sub, bn_mul, bn_mull, bn_mult, bn_fdiv, bn_mod, bn_pow, ix_t, ix_l, ix_r, ix_s, sl_t, sl_l, sl_s, is_t, is_l, is_r, is_s, isiD, isD, leD, ltD, assignT, setAll, ev_m1, ev_fstr, ef_nil, ef_cons, ev_dgt, xe_try, rv_count, rv_split, rv_sindex, rv_tindex, rv_lindex, rv_lcnt, bd_isx, bd_count, bd_split, bd_sindex, bd_tindex, bd_lindex_b, bd_lindex_s, bd_lcnt, so_s, so_i, idc_d, e1, e2, e3, e4, enc]
    rw [hm]
theorem encs (R : D → D → Prop) : ∀ {ds ys : List D}, All2 R ds ys → (∀ d y, R d y → ∃ f, y = enc f ∧ okF f) → ∃ form : List Fd, ys = form.map enc ∧ ∀ f ∈ form, okF f
  | _, _, .nil, _ => ⟨[], rfl, fun f h => by cases h⟩
  | _, _, .cons h r, k => by
    obtain ⟨f, e, ok⟩ := k _ _ h
    obtain ⟨form, e2, ok2⟩ := encs R r k
    refine ⟨f :: form, by rw [e, e2]; rfl, fun g hg => ?_⟩
    rcases List.mem_cons.mp hg with z | z
    · rw [z]; exact ok
    · exact ok2 g z
theorem p__law_form (N n b : Nat) (ns : List Int) (fields most : Nat) (k1 : 1 ≤ fields) (k2 : fields ≤ 6) (m1 : 1 ≤ most) (m2 : most ≤ 4) (S : Sh) (hG : Good ns b S) (hb : b ≤ 600000000) :
    ∃ (form : List Fd) (S' : Sh), Φs N fbs (n + 6) f__law_form [.scr ns, .ref 0, .int fields, .int most] S = .ok (encR form) S' ∧ okR form ∧ form.length ≤ fields ∧ Good ns (b + 300) S' := by
  rw [u__law_form]
  obtain ⟨r, S1, e1, r1, g1⟩ := d_nat N (n + 4) b ns fields (by omega) (by omega) S hG (by omega)
  have r0 := rng_ok0 ((1 + r : Nat) : Int) (by omega) (by omega)
  rw [Int.toNat_natCast, show ((1 + r : Nat) : Int) = 1 + (r : Int) by omega] at r0
  obtain ⟨ys, S', e, g, hR⟩ := lcK_draw (S := S1) (f := keepF (Φs N fbs (n + 5)) [.dat (.scr ns), .dat (.ref 0), .dat (.int fields), .dat (.int most), .no] [4] (.call f__law_field (.cons (.var 0) (.cons (.var 1) (.cons (.var 3) .nil)))) (.nm 4) (.con (.bl true)))
    (ds := (List.range (1 + r)).map fun (i : Nat) => D.int i) (fun _ y => ∃ f, y = enc f ∧ okF f) (fun i S => Good ns (b + 1 + 40 * i) S) (by rw [List.length_map, List.length_range]; show _ ≤ 1000000; omega) g1 (fun i d S hd hI => by
      have hi := (List.getElem?_eq_some_iff.mp hd).1
      rw [List.length_map, List.length_range] at hi
      obtain ⟨f, S', e, ok, g⟩ := p__law_field N n (b + 1 + 40 * i) ns most m1 m2 S hI (by omega)
      exact ⟨enc f, S', by simp [keepF, wipeE, ev_var, ev_con, ev_bin, ev_neg, ev_not, ev_and, ev_or, ev_cmp, ev_chain, ev_ife, ev_tup, ev_lst, ev_ix, ev_sl, ev_call, ev_bi, ev_ixb, ev_lc, ei_e, ei_rng1, rg_i, ei_rng2, rg_ii, ng_i, io_i, zp_l, zp_t, ei_zip, el_nil, el_cons, eo_no, eo_at, xs_nil, xs_cons, xe_asg, xe_ite, xe_ret, xe_expr, xe_raise, run_fin, bind_ite, onto_ite, cond_ite, seqR_ite, finR_ite, app_ite, cmpB, bd_len_t, bd_len_l, bd_len_r, bd_len_s, bd_list_t, bd_list_l, bd_list_r, bd_list_s, bd_tuple_t, bd_tuple_l, bd_str_i, bd_str_s, bd_int_i, bd_int_b, bd_int_s, bd_sum, bd_min, bd_max, bd_min2, bd_max2, bd_all, bd_any, bd_isi, bd_join, bn_addi, bn_adds, bn_addl, bn_addt, bn_sub, bn_mul, bn_mull, bn_mult, bn_fdiv, bn_mod, bn_pow, ix_t, ix_l, ix_r, ix_s, sl_t, sl_l, sl_s, is_t, is_l, is_r, is_s, isiD, isD, leD, ltD, assignT, setAll, ev_m1, ev_fstr, ef_nil, ef_cons, ev_dgt, xe_try, rv_count, rv_split, rv_sindex, rv_tindex, rv_lindex, rv_lcnt, bd_isx, bd_count, bd_split, bd_sindex, bd_tindex, bd_lindex_b, bd_lindex_s, bd_lcnt, so_s, so_i, idc_d, e], ⟨f, rfl, ok⟩, g⟩)
  rw [List.length_map, List.length_range] at g
  obtain ⟨form, ef, okf⟩ := encs _ hR fun _ _ h => h
  have hl : form.length = 1 + r := by
    have := hR.len
    rw [List.length_map, List.length_range, ef, List.length_map] at this
    exact this.symm
  refine ⟨form, S', ?_, ⟨by omega, by omega, okf⟩, by omega, g.more (by omega)⟩
  simp [b__law_form, ev_var, ev_con, ev_bin, ev_neg, ev_not, ev_and, ev_or, ev_cmp, ev_chain, ev_ife, ev_tup, ev_lst, ev_ix, ev_sl, ev_call, ev_bi, ev_ixb, ev_lc, ei_e, ei_rng1, rg_i, ei_rng2, rg_ii, ng_i, io_i, zp_l, zp_t, ei_zip, el_nil, el_cons, eo_no, eo_at, xs_nil, xs_cons, xe_asg, xe_ite, xe_ret, xe_expr, xe_raise, run_fin, bind_ite, onto_ite, cond_ite, seqR_ite, finR_ite, app_ite, cmpB, bd_len_t, bd_len_l, bd_len_r, bd_len_s, bd_list_t, bd_list_l, bd_list_r, bd_list_s, bd_tuple_t, bd_tuple_l, bd_str_i, bd_str_s, bd_int_i, bd_int_b, bd_int_s, bd_sum, bd_min, bd_max, bd_min2, bd_max2, bd_all, bd_any, bd_isi, bd_join, bn_addi, bn_adds, bn_addl, bn_addt, bn_sub, bn_mul, bn_mull, bn_mult, bn_fdiv, bn_mod, bn_pow, ix_t, ix_l, ix_r, ix_s, sl_t, sl_l, sl_s, is_t, is_l, is_r, is_s, isiD, isD, leD, ltD, assignT, setAll, ev_m1, ev_fstr, ef_nil, ef_cons, ev_dgt, xe_try, rv_count, rv_split, rv_sindex, rv_tindex, rv_lindex, rv_lcnt, bd_isx, bd_count, bd_split, bd_sindex, bd_tindex, bd_lindex_b, bd_lindex_s, bd_lcnt, so_s, so_i, idc_d, e1, r0, e, ef, encR]
end FT
namespace FT
open PySem PySem.Spec PyProof.Rows L2
/-! ### lines: plain lemmas -/
theorem e_star : tx "*" = [42] := by decide +kernel
theorem e_comma : tx "," = [44] := by decide +kernel
theorem e_bar : tx "|" = [124] := by decide +kernel
theorem e_eqs : tx "=" = [61] := by decide +kernel
theorem e_n : tx "n" = [110] := by decide +kernel
theorem e_sp : tx " " = [32] := by decide +kernel
theorem e_d : tx "d" = [100] := by decide +kernel
theorem e_l : tx "l" = [108] := by decide +kernel
def dg5 : List Tx := [tx "0", tx "1", tx "2", tx "3", tx "4"]
def numOf (s : Tx) : Int := match idxOf (· == s) dg5 with
  | some k => (k : Int)
  | none => -1
theorem idx_any (s : Tx) : ∀ ts : List Tx, (idxOf (· == s) ts).isSome = ts.any (· == s)
  | [] => rfl
  | t :: ts => by
    simp only [idxOf, List.any_cons]
    by_cases h : (t == s) = true
    · rw [if_pos h, h]; rfl
    · rw [if_neg h, Option.isSome_map, idx_any s ts, Bool.eq_false_iff.mpr h, Bool.false_or]
theorem splitC_len (c : Nat) : ∀ s : Tx, (splitC c s).length ≤ s.length + 1
  | [] => by simp [splitC]
  | x :: r => by
    have ih := splitC_len c r
    simp only [splitC]
    split
    · simp only [List.length_cons]; omega
    · cases e : splitC c r with
      | nil => simp
      | cons p ps => rw [e] at ih; simp only [List.length_cons] at ih ⊢; omega
theorem splitC_mem (c : Nat) : ∀ (s : Tx), ∀ p ∈ splitC c s, (∀ x ∈ p, x ∈ s) ∧ p.length ≤ s.length ∧ c ∉ p
  | [], p, h => by
    have : p = [] := by simpa [splitC] using h
    subst this
    simp
  | x :: r, p, h => by
    have ih := splitC_mem c r
    simp only [splitC] at h
    split at h
    · rcases List.mem_cons.mp h with e | e
      · subst e; simp
      · obtain ⟨a, b, d⟩ := ih p e
        exact ⟨fun y hy => List.mem_cons_of_mem _ (a y hy), by simp only [List.length_cons]; omega, d⟩
    · rename_i hx
      cases e : splitC c r with
      | nil => exact absurd e (splitC_ne c r)
      | cons q qs =>
        rw [e] at h ih
        have h : p ∈ (x :: q) :: qs := h
        rcases List.mem_cons.mp h with z | z
        · obtain ⟨a, b, d⟩ := ih q List.mem_cons_self
          subst z
          refine ⟨fun y hy => ?_, by simp only [List.length_cons]; omega, fun hc => ?_⟩
          · rcases List.mem_cons.mp hy with k | k
            · rw [k]; exact List.mem_cons_self
            · exact List.mem_cons_of_mem _ (a y k)
          · rcases List.mem_cons.mp hc with k | k
            · exact hx k.symm
            · exact d k
        · obtain ⟨a, b, d⟩ := ih p (List.mem_cons_of_mem _ z)
          exact ⟨fun y hy => List.mem_cons_of_mem _ (a y hy), by simp only [List.length_cons]; omega, d⟩
/-- a sign of the text lies in a part, but for the parting sign -/
theorem splitC_has (c x : Nat) (hx : x ≠ c) : ∀ s : Tx, x ∈ s → ∃ p ∈ splitC c s, x ∈ p
  | [], h => by simp at h
  | y :: r, h => by
    simp only [splitC]
    split
    · rename_i hy
      rcases List.mem_cons.mp h with e | e
      · exact absurd (e.trans hy) hx
      · obtain ⟨p, h1, h2⟩ := splitC_has c x hx r e
        exact ⟨p, List.mem_cons_of_mem _ h1, h2⟩
    · cases e : splitC c r with
      | nil => exact absurd e (splitC_ne c r)
      | cons q qs =>
        show ∃ p ∈ (y :: q) :: qs, x ∈ p
        rcases List.mem_cons.mp h with z | z
        · exact ⟨_, List.mem_cons_self, by rw [z]; exact List.mem_cons_self⟩
        · obtain ⟨p, h1, h2⟩ := splitC_has c x hx r z
          rw [e] at h1
          rcases List.mem_cons.mp h1 with k | k
          · exact ⟨_, List.mem_cons_self, by rw [← k]; exact List.mem_cons_of_mem _ h2⟩
          · exact ⟨p, List.mem_cons_of_mem _ k, h2⟩
theorem splitC_none (c : Nat) : ∀ s : Tx, c ∉ s → splitC c s = [s]
  | [], _ => rfl
  | x :: r, h => by
    have h1 : x ≠ c := fun e => h (by rw [e]; exact List.mem_cons_self)
    have h2 := splitC_none c r fun z => h (List.mem_cons_of_mem _ z)
    simp only [splitC, if_neg h1, h2]
theorem splitC_at (c : Nat) : ∀ (a r : Tx), c ∉ a → splitC c (a ++ c :: r) = a :: splitC c r
  | [], r, _ => by simp [splitC]
  | x :: a, r, h => by
    have h1 : x ≠ c := fun e => h (by rw [e]; exact List.mem_cons_self)
    have h2 := splitC_at c a r fun z => h (List.mem_cons_of_mem _ z)
    simp only [List.cons_append, splitC, if_neg h1, h2]
theorem splitC_join (c : Nat) : ∀ (ts : List Tx), ts ≠ [] → (∀ t ∈ ts, c ∉ t) → splitC c (joinL [c] ts) = ts
  | [], h, _ => absurd rfl h
  | [t], _, h => splitC_none c t (h t List.mem_cons_self)
  | t :: u :: r, _, h => by
    have ih := splitC_join c (u :: r) (by simp) fun x hx => h x (List.mem_cons_of_mem _ hx)
    simp only [joinL, List.append_assoc, List.cons_append, List.nil_append]
    rw [splitC_at c t _ (h t List.mem_cons_self), ih]
theorem splitC_bars (c : Nat) : ∀ (ts : List Tx), (∀ t ∈ ts, c ∉ t) → splitC c (ts.map (c :: ·)).flatten = [] :: ts
  | [], _ => rfl
  | t :: r, h => by
    have ih := splitC_bars c r fun x hx => h x (List.mem_cons_of_mem _ hx)
    have ht := h t List.mem_cons_self
    simp only [List.map_cons, List.flatten_cons, List.cons_append, splitC, if_true]
    congr 1
    cases r with
    | nil => simp only [List.map_nil, List.flatten_nil, List.append_nil]; exact splitC_none c t ht
    | cons u r =>
      have e : ((u :: r).map (c :: ·)).flatten = c :: (u ++ (r.map (c :: ·)).flatten) := by simp
      rw [e] at ih ⊢
      rw [splitC_at c t _ ht]
      simp only [splitC, if_true] at ih
      exact congrArg (t :: ·) (List.cons.inj ih).2
theorem idx_at (c : Nat) : ∀ (s : Tx) (k : Nat), idxOf (· == c) s = some k → s = s.take k ++ c :: s.drop (k + 1) ∧ c ∉ s.take k ∧ k < s.length
  | [], k, h => by cases h
  | x :: r, k, h => by
    simp only [idxOf] at h
    by_cases hx : (x == c) = true
    · rw [if_pos hx] at h
      cases h
      have e : x = c := by simpa using hx
      subst e
      simp
    · rw [if_neg hx] at h
      obtain ⟨j, hj, rfl⟩ := Option.map_eq_some_iff.mp h
      obtain ⟨h1, h2, h3⟩ := idx_at c r j hj
      refine ⟨?_, ?_, by simp only [List.length_cons]; omega⟩
      · simp only [List.take_succ_cons, List.drop_succ_cons, List.cons_append]
        exact congrArg (x :: ·) h1
      · simp only [List.take_succ_cons]
        intro hm
        rcases List.mem_cons.mp hm with e | e
        · exact hx (by simp [e])
        · exact h2 e
theorem idx_none (c : Nat) : ∀ s : Tx, idxOf (· == c) s = none ↔ c ∉ s
  | [] => by simp [idxOf]
  | x :: r => by
    simp only [idxOf]
    by_cases hx : x = c
    · simp [hx]
    · have := idx_none c r
      have h2 : (x == c) = false := by simp [hx]
      rw [if_neg (by rw [h2]; simp), Option.map_eq_none_iff, this]
      exact ⟨fun q m => (List.mem_cons.mp m).elim (fun e => hx e.symm) q, fun q m => q (List.mem_cons_of_mem _ m)⟩
theorem count_at (c : Nat) (s : Tx) (k : Nat) (h : idxOf (· == c) s = some k) : s.count c = 1 + (s.drop (k + 1)).count c := by
  obtain ⟨h1, h2, h3⟩ := idx_at c s k h
  have h4 : (s.take k).count c = 0 := List.count_eq_zero.mpr h2
  conv => lhs; rw [h1]
  rw [List.count_append, h4, List.count_cons_self]
  omega
theorem split_one (c : Nat) (s : Tx) (k : Nat) (h : idxOf (· == c) s = some k) (h1 : s.count c = 1) : splitC c s = [s.take k, s.drop (k + 1)] := by
  obtain ⟨e, h2, h3⟩ := idx_at c s k h
  have h4 : c ∉ s.drop (k + 1) := by
    have := count_at c s k h
    exact List.count_eq_zero.mp (by omega)
  conv => lhs; rw [e]
  rw [splitC_at c _ _ h2, splitC_none c _ h4]
/-! what a part of a text tells -/
inductive R0 where
  | word (s : Tx)
  | choice (ts : List Tx)
  | number (i : Int)
  | nums (nm : Tx) (is : List Int)
inductive RF where
  | one (r : R0)
  | rep (r : R0) (is : List Int)
def nmOf (s : Tx) : Tx := if s.take 1 = [100] then tx "digits" else if s.take 1 = [108] then tx "letters" else tx ""
def rd0 (s : Tx) : R0 := if s.take 1 = [61] then .word (s.drop 1) else if s.take 1 = [124] then .choice (splitC 124 (s.drop 1)) else if s.take 1 = [110] then .number (numOf (s.drop 1)) else .nums (nmOf s) ((splitC 44 (s.drop 1)).map numOf)
def rd (s : Tx) : RF := match idxOf (· == 42) s with
  | some k => .rep (rd0 (s.take k)) ((splitC 44 (s.drop (k + 1))).map numOf)
  | none => .one (rd0 s)
def lp (s : Tx) : RF := if s.count 42 = 1 then rd s else .one (rd0 s)
def encR0 : R0 → D
  | .word s => .tup [.str (tx "word"), .str s]
  | .choice ts => .tup [.str (tx "choice"), .tup (ts.map D.str)]
  | .number i => .tup [.str (tx "number"), .int i]
  | .nums nm is => .tup (.str nm :: is.map D.int)
def encRF : RF → D
  | .one r => encR0 r
  | .rep r is => .tup (.str (tx "repeat") :: encR0 r :: is.map D.int)
def isTx (s : Tx) : Bool := isT (.str s) 1 4
def adj : List Tx → Bool
  | a :: b :: r => decide (a < b) && adj (b :: r)
  | _ => true
def spanB (a b lo hi : Int) : Bool := decide (0 ≤ a) && decide (a ≤ hi) && decide (lo ≤ b) && decide (b ≤ hi) && decide (a ≤ b)
def isS : R0 → Bool
  | .word s => isTx s
  | .choice ts => decide (1 ≤ ts.length) && decide (ts.length ≤ 4) && ts.all isTx && adj ts
  | .number i => decide (1 ≤ i) && decide (i ≤ 4)
  | .nums nm [a, b] => (nm == tx "digits" || nm == tx "letters") && spanB a b 0 4
  | .nums _ _ => false
def isF : RF → Bool
  | .one r => isS r
  | .rep r [a, b] => isS r && spanB a b 1 3
  | .rep _ _ => false
def isFm (rs : List RF) : Bool := decide (1 ≤ rs.length) && decide (rs.length ≤ 6) && rs.all isF
def ln0 : R0 → Tx
  | .word s => 61 :: s
  | .choice ts => (ts.map (124 :: ·)).flatten
  | .number i => [110, 48 + i.toNat]
  | .nums nm [a, b] => nm.take 1 ++ [48 + a.toNat, 44, 48 + b.toNat]
  | .nums _ _ => []
def lnR : RF → Tx
  | .one r => ln0 r
  | .rep r [a, b] => ln0 r ++ [42, 48 + a.toNat, 44, 48 + b.toNat]
  | .rep _ _ => []
/-! a part with two stars or more is no field -/
theorem sgn_no42 : 42 ∉ sgn := by rw [sgn, e_sgn]; decide
theorem isTx_star {s : Tx} (h : 42 ∈ s) : isTx s = false := by
  cases q : isTx s with
  | false => rfl
  | true =>
    simp only [isTx, isT, Bool.and_eq_true] at q
    exact absurd (has_iff.mp (List.all_eq_true.mp q.2.2 42 h)) sgn_no42
theorem numOf_star {s : Tx} (h : 42 ∈ s) : numOf s = -1 := by
  have : idxOf (· == s) dg5 = none := by
    cases q : idxOf (· == s) dg5 with
    | none => rfl
    | some k =>
      have h1 : (idxOf (· == s) dg5).isSome = true := by rw [q]; rfl
      rw [idx_any, List.any_eq_true] at h1
      obtain ⟨t, ht, e⟩ := h1
      have e : t = s := by simpa using e
      subst e
      have : ∀ t ∈ dg5, 42 ∉ t := by decide +kernel
      exact absurd h (this t ht)
  unfold numOf
  rw [this]
theorem nums_star {s : Tx} (h : 42 ∈ s) : -1 ∈ (splitC 44 s).map numOf := by
  obtain ⟨p, h1, h2⟩ := splitC_has 44 42 (by decide) s h
  exact List.mem_map.mpr ⟨p, h1, numOf_star h2⟩
theorem spanB_neg {a b lo hi : Int} (h : -1 ∈ [a, b]) : spanB a b lo hi = false := by
  unfold spanB
  simp only [List.mem_cons, List.not_mem_nil, or_false] at h
  rcases h with e | e
  · simp [← e]
  · by_cases h0 : 0 ≤ a
    · have : ¬ a ≤ b := by omega
      simp [this]
    · simp [h0]
theorem isS_nums {nm : Tx} {is : List Int} (h : -1 ∈ is) : isS (.nums nm is) = false := by
  match is, h with
  | [], h => rfl
  | [_], h => rfl
  | [a, b], h => simp only [isS, spanB_neg h, Bool.and_false]
  | _ :: _ :: _ :: _, h => rfl
theorem isF_rep {r : R0} {is : List Int} (h : -1 ∈ is) : isF (.rep r is) = false := by
  match is, h with
  | [], h => rfl
  | [_], h => rfl
  | [a, b], h => simp only [isF, spanB_neg h, Bool.and_false]
  | _ :: _ :: _ :: _, h => rfl
theorem take1_drop (s : Tx) (c : Nat) (h : s.take 1 = [c]) : s = c :: s.drop 1 := by
  cases s with
  | nil => simp at h
  | cons x r => simp at h; simp [h]
theorem star_drop {s : Tx} (h : 42 ∈ s) (h1 : s.take 1 ≠ [42]) : 42 ∈ s.drop 1 := by
  cases s with
  | nil => simp at h
  | cons x r =>
    rcases List.mem_cons.mp h with e | e
    · exact absurd (by simp [← e]) h1
    · simpa using e
theorem rd0_star {s : Tx} (h : 1 < s.count 42) : isS (rd0 s) = false := by
  have hm : 42 ∈ s.drop 1 := by
    cases s with
    | nil => simp at h
    | cons x r =>
      simp only [List.drop_succ_cons, List.drop_zero]
      by_cases hx : x = 42
      · subst hx
        rw [List.count_cons_self] at h
        exact List.count_pos_iff.mp (by omega)
      · rw [List.count_cons_of_ne hx] at h
        exact List.count_pos_iff.mp (by omega)
  unfold rd0
  split
  · exact isTx_star hm
  · split
    · obtain ⟨p, h1, h2⟩ := splitC_has 124 42 (by decide) _ hm
      have : (splitC 124 (s.drop 1)).all isTx = false := by
        cases q : (splitC 124 (s.drop 1)).all isTx with
        | false => rfl
        | true =>
          have := List.all_eq_true.mp q p h1
          rw [isTx_star h2] at this
          cases this
      simp only [isS, this, Bool.and_false, Bool.false_and]
    · split
      · simp only [isS, numOf_star hm]; rfl
      · exact isS_nums (nums_star hm)
theorem rd_lp (s : Tx) : rd s = lp s ∨ (isF (rd s) = false ∧ isF (lp s) = false) := by
  by_cases h1 : s.count 42 = 1
  · left; unfold lp; rw [if_pos h1]
  · cases hk : idxOf (· == 42) s with
    | none => left; unfold lp rd; rw [if_neg h1, hk]
    | some k =>
      right
      have h2 := count_at 42 s k hk
      constructor
      · unfold rd
        rw [hk]
        exact isF_rep (nums_star (List.count_pos_iff.mp (by omega)))
      · unfold lp
        rw [if_neg h1]
        exact rd0_star (by omega)
theorem fm_lp (ps : List Tx) (h : isFm (ps.map rd) = true ∨ isFm (ps.map lp) = true) : ps.map rd = ps.map lp := by
  refine List.map_congr_left fun p hp => ?_
  rcases rd_lp p with e | ⟨e1, e2⟩
  · exact e
  · exfalso
    rcases h with h | h
    · simp only [isFm, Bool.and_eq_true, List.all_eq_true] at h
      have := h.2 _ (List.mem_map.mpr ⟨p, hp, rfl⟩)
      rw [e1] at this; cases this
    · simp only [isFm, Bool.and_eq_true, List.all_eq_true] at h
      have := h.2 _ (List.mem_map.mpr ⟨p, hp, rfl⟩)
      rw [e2] at this; cases this
/-! valid fields -/
def rf1 : Fd1 → R0
  | .word s => .word s
  | .digits a b => .nums (tx "digits") [(a : Int), (b : Int)]
  | .letters a b => .nums (tx "letters") [(a : Int), (b : Int)]
  | .number k => .number k
  | .choice ts => .choice ts
def rf : Fd → RF
  | .one f => .one (rf1 f)
  | .rep f a b => .rep (rf1 f) [(a : Int), (b : Int)]
theorem enc_rf1 (f : Fd1) : encR0 (rf1 f) = enc1 f := by cases f <;> rfl
theorem enc_rf (f : Fd) : encRF (rf f) = enc f := by
  cases f with
  | one f => exact enc_rf1 f
  | rep f a b => simp only [rf, encRF, enc, enc_rf1, List.map_cons, List.map_nil]
theorem num5 (a : Nat) (h : a ≤ 4) : numOf [48 + a] = a := by
  have : a = 0 ∨ a = 1 ∨ a = 2 ∨ a = 3 ∨ a = 4 := by omega
  rcases this with e | e | e | e | e <;> subst e <;> decide +kernel
theorem okT_no {s : Tx} (h : okT s) (c : Nat) (hc : c ∉ sgn) : c ∉ s := fun hm => hc (has_iff.mp (List.all_eq_true.mp h.2.2 c hm))
theorem sgn_no (c : Nat) (h : c = 42 ∨ c = 44 ∨ c = 32 ∨ c = 124 ∨ c = 61) : c ∉ sgn := by
  rw [sgn, e_sgn]
  rcases h with e | e | e | e | e <;> subst e <;> decide
theorem ln0_no {f : Fd1} (hf : ok1 f) (c : Nat) (h : c = 42 ∨ c = 32) : c ∉ ln0 (rf1 f) := by
  have hs : c ∉ sgn := sgn_no c (by rcases h with e | e <;> simp [e])
  cases f with
  | word s =>
    intro hm
    rcases List.mem_cons.mp hm with e | e
    · omega
    · exact okT_no hf c hs e
  | digits a b =>
    obtain ⟨h1, h2⟩ := hf
    intro hm
    simp only [rf1, ln0, e_digits, List.take_succ_cons, List.take_zero, Int.toNat_natCast, List.cons_append, List.nil_append, List.mem_cons, List.not_mem_nil, or_false] at hm
    omega
  | letters a b =>
    obtain ⟨h1, h2⟩ := hf
    intro hm
    simp only [rf1, ln0, e_letters, List.take_succ_cons, List.take_zero, Int.toNat_natCast, List.cons_append, List.nil_append, List.mem_cons, List.not_mem_nil, or_false] at hm
    omega
  | number k =>
    obtain ⟨h1, h2⟩ := hf
    intro hm
    simp only [rf1, ln0, Int.toNat_natCast, List.mem_cons, List.not_mem_nil, or_false] at hm
    omega
  | choice ts =>
    intro hm
    obtain ⟨u, hu, hcu⟩ := List.mem_flatten.mp hm
    obtain ⟨t, ht, rfl⟩ := List.mem_map.mp hu
    rcases List.mem_cons.mp hcu with e | e
    · omega
    · exact okT_no (hf.2.2.1 t ht) c hs e
theorem rd0_ln {f : Fd1} (hf : ok1 f) : rd0 (ln0 (rf1 f)) = rf1 f := by
  cases f with
  | word s => simp [rf1, ln0, rd0]
  | number k =>
    obtain ⟨h1, h2⟩ := hf
    simp [rf1, ln0, rd0, num5 k h2]
  | digits a b =>
    obtain ⟨h1, h2⟩ := hf
    have e : splitC 44 [48 + a, 44, 48 + b] = [[48 + a], [48 + b]] := by
      have := splitC_at 44 [48 + a] [48 + b] (by simp; omega)
      rw [show [48 + a, 44, 48 + b] = [48 + a] ++ 44 :: [48 + b] from rfl, this, splitC_none 44 [48 + b] (by simp; omega)]
    simp [rf1, ln0, rd0, nmOf, e_digits, e, num5 a (by omega), num5 b h2]
  | letters a b =>
    obtain ⟨h1, h2⟩ := hf
    have e : splitC 44 [48 + a, 44, 48 + b] = [[48 + a], [48 + b]] := by
      have := splitC_at 44 [48 + a] [48 + b] (by simp; omega)
      rw [show [48 + a, 44, 48 + b] = [48 + a] ++ 44 :: [48 + b] from rfl, this, splitC_none 44 [48 + b] (by simp; omega)]
    simp [rf1, ln0, rd0, nmOf, e_letters, e, num5 a (by omega), num5 b h2]
  | choice ts =>
    obtain ⟨h1, h2, h3, h4⟩ := hf
    have hb := splitC_bars 124 ts fun t ht => okT_no (h3 t ht) 124 (sgn_no 124 (by simp))
    cases ts with
    | nil => simp at h1
    | cons t r =>
      simp only [List.map_cons, List.flatten_cons, List.cons_append, splitC, if_true] at hb
      have hb := (List.cons.inj hb).2
      simp [rf1, ln0, rd0, hb]
theorem rd_ln {f : Fd} (hf : okF f) : rd (lnR (rf f)) = rf f := by
  cases f with
  | one f =>
    have := (idx_none 42 _).mpr (ln0_no (f := f) hf 42 (by simp))
    simp only [rf, lnR, rd, this, rd0_ln hf]
  | rep f a b =>
    obtain ⟨h1, h2, h3, h4⟩ := hf
    have hno := ln0_no h1 42 (by simp)
    have hx : ∀ (p : Tx) (r : Tx), 42 ∉ p → idxOf (· == 42) (p ++ 42 :: r) = some p.length := by
      intro p r hp
      induction p with
      | nil => simp [idxOf]
      | cons x p ih =>
        have hx : ¬ x = 42 := fun e => hp (by rw [e]; exact List.mem_cons_self)
        simp [idxOf, hx, ih fun z => hp (List.mem_cons_of_mem _ z)]
    have e : splitC 44 [48 + a, 44, 48 + b] = [[48 + a], [48 + b]] := by
      have := splitC_at 44 [48 + a] [48 + b] (by simp; omega)
      rw [show [48 + a, 44, 48 + b] = [48 + a] ++ 44 :: [48 + b] from rfl, this, splitC_none 44 [48 + b] (by simp; omega)]
    simp only [rf, lnR, rd, Int.toNat_natCast, hx _ _ hno]
    rw [List.take_left, rd0_ln h1, show (ln0 (rf1 f)).length + 1 = (ln0 (rf1 f) ++ [42]).length by simp, show ln0 (rf1 f) ++ [42, 48 + a, 44, 48 + b] = (ln0 (rf1 f) ++ [42]) ++ [48 + a, 44, 48 + b] by simp, List.drop_left, e]
    simp [num5 a (by omega), num5 b (by omega)]
theorem ln_no32 {f : Fd} (hf : okF f) : 32 ∉ lnR (rf f) := by
  cases f with
  | one f => exact ln0_no (f := f) hf 32 (by simp)
  | rep f a b =>
    obtain ⟨h1, h2, h3, h4⟩ := hf
    intro hm
    rcases List.mem_append.mp hm with e | e
    · exact ln0_no h1 32 (by simp) e
    · simp only [Int.toNat_natCast, List.mem_cons, List.not_mem_nil, or_false] at e
      omega
end FT
namespace FT
open PySem PySem.Spec PyProof.Rows L2
theorem in_texts {t : Tx} {ts : List Tx} : inD (.str t) (.tup (ts.map D.str)) = some (ts.any (· == t)) := by
  have h1 : (ts.map D.str).all flatD = true := by simp [flatD]
  show (if flatD (.str t) && (ts.map D.str).all flatD then some ((ts.map D.str).any fun x => eqv x (.str t)) else none) = _
  rw [h1]
  show some ((ts.map D.str).any fun x => eqv x (.str t)) = _
  rw [List.any_map]
  rfl
/-! ### lines: what the functions answer -/
def tdD : List D := [.str (tx "0"), .str (tx "1"), .str (tx "2"), .str (tx "3"), .str (tx "4")]
theorem in_dg5 (s : Tx) : inD (.str s) (.tup [.str (tx "0"), .str (tx "1"), .str (tx "2"), .str (tx "3"), .str (tx "4")]) = some (idxOf (· == s) dg5).isSome := by
  rw [idx_any]
  exact in_texts (ts := dg5)
theorem st_dg5 : strsD [.str (tx "0"), .str (tx "1"), .str (tx "2"), .str (tx "3"), .str (tx "4")] = some dg5 := rfl
theorem p_number_of (N n : Nat) (s : Tx) (S : Sh) : Φs N fbs (n + 1) f_number_of [.str s] S = .ok (.int (numOf s)) S := by
  rw [u_number_of]
  have h1 := in_dg5 s
  cases h : idxOf (· == s) dg5 with
  | none =>
    rw [h] at h1
    simp [b_number_of, ev_var, ev_con, ev_bin, ev_neg, ev_not, ev_and, ev_or, ev_cmp, ev_chain, ev_ife, ev_tup, ev_lst, ev_ix, ev_sl, ev_call, ev_bi, ev_ixb, ev_lc, ei_e, ei_rng1, rg_i, ei_rng2, rg_ii, ng_i, io_i, zp_l, zp_t, ei_zip, el_nil, el_cons, eo_no, eo_at, xs_nil, xs_cons, xe_asg, xe_ite, xe_ret, xe_expr, xe_raise, run_fin, bind_ite, onto_ite, cond_ite, seqR_ite, finR_ite, app_ite, cmpB, bd_len_t, bd_len_l, bd_len_r, bd_len_s, bd_list_t, bd_list_l, bd_list_r, bd_list_s, bd_tuple_t, bd_tuple_l, bd_str_i, bd_str_s, bd_int_i, bd_int_b, bd_int_s, bd_sum, bd_min, bd_max, bd_min2, bd_max2, bd_all, bd_any, bd_isi, bd_join, bn_addi, bn_adds, bn_addl, bn_addt, bn_sub, bn_mul, bn_mull, bn_mult, bn_fdiv, bn_mod, bn_pow, ix_t, ix_l, ix_r, ix_s, sl_t, sl_l, sl_s, is_t, is_l, is_r, is_s, isiD, isD, leD, ltD, assignT, setAll, ev_m1, ev_fstr, ef_nil, ef_cons, ev_dgt, xe_try, rv_count, rv_split, rv_sindex, rv_tindex, rv_lindex, rv_lcnt, bd_isx, bd_count, bd_split, bd_sindex, bd_tindex, bd_lindex_b, bd_lindex_s, bd_lcnt, so_s, so_i, idc_d, h1, numOf, h]
  | some k =>
    rw [h] at h1
    simp [b_number_of, ev_var, ev_con, ev_bin, ev_neg, ev_not, ev_and, ev_or, ev_cmp, ev_chain, ev_ife, ev_tup, ev_lst, ev_ix, ev_sl, ev_call, ev_bi, ev_ixb, ev_lc, ei_e, ei_rng1, rg_i, ei_rng2, rg_ii, ng_i, io_i, zp_l, zp_t, ei_zip, el_nil, el_cons, eo_no, eo_at, xs_nil, xs_cons, xe_asg, xe_ite, xe_ret, xe_expr, xe_raise, run_fin, bind_ite, onto_ite, cond_ite, seqR_ite, finR_ite, app_ite, cmpB, bd_len_t, bd_len_l, bd_len_r, bd_len_s, bd_list_t, bd_list_l, bd_list_r, bd_list_s, bd_tuple_t, bd_tuple_l, bd_str_i, bd_str_s, bd_int_i, bd_int_b, bd_int_s, bd_sum, bd_min, bd_max, bd_min2, bd_max2, bd_all, bd_any, bd_isi, bd_join, bn_addi, bn_adds, bn_addl, bn_addt, bn_sub, bn_mul, bn_mull, bn_mult, bn_fdiv, bn_mod, bn_pow, ix_t, ix_l, ix_r, ix_s, sl_t, sl_l, sl_s, is_t, is_l, is_r, is_s, isiD, isD, leD, ltD, assignT, setAll, ev_m1, ev_fstr, ef_nil, ef_cons, ev_dgt, xe_try, rv_count, rv_split, rv_sindex, rv_tindex, rv_lindex, rv_lcnt, bd_isx, bd_count, bd_split, bd_sindex, bd_tindex, bd_lindex_b, bd_lindex_s, bd_lcnt, so_s, so_i, idc_d, h1, numOf, h, st_dg5]
theorem int_dg (k : Nat) (hk : k < 5) : biD .int [.str (dg5.getD k [])] = some (.int k) := by
  have : k = 0 ∨ k = 1 ∨ k = 2 ∨ k = 3 ∨ k = 4 := by omega
  rcases this with e | e | e | e | e <;> subst e <;> (rw [bd_int_s, if_pos (by decide +kernel)]; exact congrArg (fun z : Nat => some (D.int (z : Int))) (by decide +kernel))
theorem idx_get {s : Tx} {k : Nat} (h : idxOf (· == s) dg5 = some k) : k < 5 ∧ dg5.getD k [] = s := by
  obtain ⟨x, h1, h2, _⟩ := idxOf_some h
  have h3 : x = s := by simpa using h2
  subst h3
  have h4 := (List.getElem?_eq_some_iff.mp h1).1
  exact ⟨h4, by rw [List.getD_eq_getElem?_getD, h1]; rfl⟩
theorem p__law_number (N n : Nat) (s : Tx) (S : Sh) : Φs N fbs (n + 1) f__law_number [.str s] S = .ok (.int (numOf s)) S := by
  rw [u__law_number]
  have h1 := in_dg5 s
  cases h : idxOf (· == s) dg5 with
  | none =>
    rw [h] at h1
    simp only [b__law_number]
    simp [ev_var, ev_con, ev_bin, ev_neg, ev_not, ev_and, ev_or, ev_cmp, ev_chain, ev_ife, ev_tup, ev_lst, ev_ix, ev_sl, ev_call, ev_bi, ev_ixb, ev_lc, ei_e, ei_rng1, rg_i, ei_rng2, rg_ii, ng_i, io_i, zp_l, zp_t, ei_zip, el_nil, el_cons, eo_no, eo_at, xs_nil, xs_cons, xe_asg, xe_ite, xe_ret, xe_expr, xe_raise, run_fin, bind_ite, onto_ite, cond_ite, seqR_ite, finR_ite, app_ite, cmpB, bd_len_t, bd_len_l, bd_len_r, bd_len_s, bd_list_t, bd_list_l, bd_list_r, bd_list_s, bd_tuple_t, bd_tuple_l, bd_str_i, bd_str_s, bd_int_i, bd_int_b, bd_int_s, bd_sum, bd_min, bd_max, bd_min2, bd_max2, bd_all, bd_any, bd_isi, bd_join, bn_addi, bn_adds, bn_addl, bn_addt, bn_sub, bn_mul, bn_mull, bn_mult, bn_fdiv, bn_mod, bn_pow, ix_t, ix_l, ix_r, ix_s, sl_t, sl_l, sl_s, is_t, is_l, is_r, is_s, isiD, isD, leD, ltD, assignT, setAll, ev_m1, ev_fstr, ef_nil, ef_cons, ev_dgt, xe_try, rv_count, rv_split, rv_sindex, rv_tindex, rv_lindex, rv_lcnt, bd_isx, bd_count, bd_split, bd_sindex, bd_tindex, bd_lindex_b, bd_lindex_s, bd_lcnt, so_s, so_i, idc_d, h1, numOf, h]
  | some k =>
    rw [h] at h1
    obtain ⟨g1, g2⟩ := idx_get h
    have g3 := int_dg k g1
    rw [g2] at g3
    have e : Φs N fbs n = Φs N fbs n := rfl
    simp only [b__law_number, run_fin, List.length_cons, List.length_nil, Nat.zero_add, if_true, List.map_cons, List.map_nil, Nat.sub_self, List.replicate_zero, List.append_nil, xs_cons, xe_ret, ev_ife, ev_cmp, ev_var, List.getElem?_cons_zero, gv_dat, Res.bind_ok, ev_tup, el_cons, el_nil, ev_con, lift_some, cmpB]
    simp only [List.length_cons, List.length_nil, show (0 + 1 + 1 + 1 + 1 + 1 ≤ 1000) = True by simp, if_true, lift_some, Res.bind_ok, h1, ofB_some, condB_bl, Option.isSome_some, ev_bi, el_cons, ev_var, List.getElem?_cons_zero, gv_dat, el_nil, g3]
    simp [numOf, h]
theorem p_numbers_in (N n : Nat) (s : Tx) (hl : s.length ≤ 1000) (S : Sh) : Φs N fbs (n + 2) f_numbers_in [.str s] S = .ok (.tup ((splitC 44 s).map fun p => D.int (numOf p))) S := by
  rw [u_numbers_in]
  have h1 : s.length ≤ lim := len_lim hl
  have h2 := splitC_len 44 s
  simp [b_numbers_in, ev_var, ev_con, ev_bin, ev_neg, ev_not, ev_and, ev_or, ev_cmp, ev_chain, ev_ife, ev_tup, ev_lst, ev_ix, ev_sl, ev_call, ev_bi, ev_ixb, ev_lc, ei_e, ei_rng1, rg_i, ei_rng2, rg_ii, ng_i, io_i, zp_l, zp_t, ei_zip, el_nil, el_cons, eo_no, eo_at, xs_nil, xs_cons, xe_asg, xe_ite, xe_ret, xe_expr, xe_raise, run_fin, bind_ite, onto_ite, cond_ite, seqR_ite, finR_ite, app_ite, cmpB, bd_len_t, bd_len_l, bd_len_r, bd_len_s, bd_list_t, bd_list_l, bd_list_r, bd_list_s, bd_tuple_t, bd_tuple_l, bd_str_i, bd_str_s, bd_int_i, bd_int_b, bd_int_s, bd_sum, bd_min, bd_max, bd_min2, bd_max2, bd_all, bd_any, bd_isi, bd_join, bn_addi, bn_adds, bn_addl, bn_addt, bn_sub, bn_mul, bn_mull, bn_mult, bn_fdiv, bn_mod, bn_pow, ix_t, ix_l, ix_r, ix_s, sl_t, sl_l, sl_s, is_t, is_l, is_r, is_s, isiD, isD, leD, ltD, assignT, setAll, ev_m1, ev_fstr, ef_nil, ef_cons, ev_dgt, xe_try, rv_count, rv_split, rv_sindex, rv_tindex, rv_lindex, rv_lcnt, bd_isx, bd_count, bd_split, bd_sindex, bd_tindex, bd_lindex_b, bd_lindex_s, bd_lcnt, so_s, so_i, idc_d, e_comma, h1]
  rw [lcK_m (fun p => D.int (numOf p)) (splitC 44 s) (by show _ ≤ 1000000; omega) fun p _ => by simp [keepF, wipeE, ev_var, ev_con, ev_bin, ev_neg, ev_not, ev_and, ev_or, ev_cmp, ev_chain, ev_ife, ev_tup, ev_lst, ev_ix, ev_sl, ev_call, ev_bi, ev_ixb, ev_lc, ei_e, ei_rng1, rg_i, ei_rng2, rg_ii, ng_i, io_i, zp_l, zp_t, ei_zip, el_nil, el_cons, eo_no, eo_at, xs_nil, xs_cons, xe_asg, xe_ite, xe_ret, xe_expr, xe_raise, run_fin, bind_ite, onto_ite, cond_ite, seqR_ite, finR_ite, app_ite, cmpB, bd_len_t, bd_len_l, bd_len_r, bd_len_s, bd_list_t, bd_list_l, bd_list_r, bd_list_s, bd_tuple_t, bd_tuple_l, bd_str_i, bd_str_s, bd_int_i, bd_int_b, bd_int_s, bd_sum, bd_min, bd_max, bd_min2, bd_max2, bd_all, bd_any, bd_isi, bd_join, bn_addi, bn_adds, bn_addl, bn_addt, bn_sub, bn_mul, bn_mull, bn_mult, bn_fdiv, bn_mod, bn_pow, ix_t, ix_l, ix_r, ix_s, sl_t, sl_l, sl_s, is_t, is_l, is_r, is_s, isiD, isD, leD, ltD, assignT, setAll, ev_m1, ev_fstr, ef_nil, ef_cons, ev_dgt, xe_try, rv_count, rv_split, rv_sindex, rv_tindex, rv_lindex, rv_lcnt, bd_isx, bd_count, bd_split, bd_sindex, bd_tindex, bd_lindex_b, bd_lindex_s, bd_lcnt, so_s, so_i, idc_d, p_number_of]]
  simp [ev_var, ev_con, ev_bin, ev_neg, ev_not, ev_and, ev_or, ev_cmp, ev_chain, ev_ife, ev_tup, ev_lst, ev_ix, ev_sl, ev_call, ev_bi, ev_ixb, ev_lc, ei_e, ei_rng1, rg_i, ei_rng2, rg_ii, ng_i, io_i, zp_l, zp_t, ei_zip, el_nil, el_cons, eo_no, eo_at, xs_nil, xs_cons, xe_asg, xe_ite, xe_ret, xe_expr, xe_raise, run_fin, bind_ite, onto_ite, cond_ite, seqR_ite, finR_ite, app_ite, cmpB, bd_len_t, bd_len_l, bd_len_r, bd_len_s, bd_list_t, bd_list_l, bd_list_r, bd_list_s, bd_tuple_t, bd_tuple_l, bd_str_i, bd_str_s, bd_int_i, bd_int_b, bd_int_s, bd_sum, bd_min, bd_max, bd_min2, bd_max2, bd_all, bd_any, bd_isi, bd_join, bn_addi, bn_adds, bn_addl, bn_addt, bn_sub, bn_mul, bn_mull, bn_mult, bn_fdiv, bn_mod, bn_pow, ix_t, ix_l, ix_r, ix_s, sl_t, sl_l, sl_s, is_t, is_l, is_r, is_s, isiD, isD, leD, ltD, assignT, setAll, ev_m1, ev_fstr, ef_nil, ef_cons, ev_dgt, xe_try, rv_count, rv_split, rv_sindex, rv_tindex, rv_lindex, rv_lcnt, bd_isx, bd_count, bd_split, bd_sindex, bd_tindex, bd_lindex_b, bd_lindex_s, bd_lcnt, so_s, so_i, idc_d]
theorem dgt_nm (s : Tx) : dgtD (.dic false [.str (tx "d"), .str (tx "l")] [.str (tx "digits"), .str (tx "letters")]) (.str (s.take 1)) (.str (tx "")) = some (.str (nmOf s)) := by
  have h1 : keyOk false (.str (s.take 1)) = true := rfl
  show (if keyOk false (.str (s.take 1)) = true then some ((findD (.str (s.take 1)) [.str (tx "d"), .str (tx "l")] [.str (tx "digits"), .str (tx "letters")]).getD (.str (tx ""))) else none) = _
  unfold nmOf
  rw [if_pos h1]
  simp only [findD, eqv, e_d, e_l, beq_iff_eq]
  by_cases h1 : s.take 1 = [100]
  · simp [h1]
  · by_cases h2 : s.take 1 = [108]
    · simp [h2]
    · simp [h1, h2, Ne.symm h1, Ne.symm h2]
theorem cut1 (s : Tx) (h : s.length ≤ 1000) : cutL s none (some (1 : Int)) = s.take 1 := by
  unfold cutL
  rw [show (1 : Int) = ((1 : Nat) : Int) from rfl, HT.sIx_nat]
  simp [HT.sIx_none]
theorem cutF (s : Tx) (k : Nat) : cutL s (some (k : Int)) none = s.drop k := by
  unfold cutL
  rw [HT.sIx_nat]
  simp [HT.sIx_none]
  by_cases h : k ≤ s.length
  · rw [Nat.min_eq_left h, List.take_of_length_le (by simp)]
  · rw [Nat.min_eq_right (by omega), List.drop_eq_nil_of_le (by omega), List.drop_eq_nil_of_le (by omega)]; simp
theorem cutT (s : Tx) (k : Nat) : cutL s none (some (k : Int)) = s.take k := by
  unfold cutL
  rw [HT.sIx_nat]
  simp [HT.sIx_none]
theorem chars_take {s : Tx} (h : s.all (· < 1114112) = true) (k : Nat) : (s.take k).all (· < 1114112) = true := List.all_eq_true.mpr fun c hc => List.all_eq_true.mp h c (List.mem_of_mem_take hc)
theorem chars_drop {s : Tx} (h : s.all (· < 1114112) = true) (k : Nat) : (s.drop k).all (· < 1114112) = true := List.all_eq_true.mpr fun c hc => List.all_eq_true.mp h c (List.mem_of_mem_drop hc)
theorem p_read0 (N n : Nat) (s : Tx) (hl : s.length ≤ 1000) (hs : s.all (· < 1114112) = true) (h0 : 42 ∉ s) (S : Sh) : Φs N fbs (n + 3) f_read_field [.str s] S = .ok (encR0 (rd0 s)) S := by
  rw [u_read_field]
  have h1 : s.length ≤ lim := len_lim hl
  have h2 : has s 42 = false := by simpa [has] using h0
  have c1 := cut1 s hl
  have c2 := cutF s 1
  rw [show ((1 : Nat) : Int) = 1 from rfl] at c2
  have ht := chars_take hs 1
  have q1 := eqD_str (s.take 1) [61] ht (by decide)
  have q2 := eqD_str (s.take 1) [124] ht (by decide)
  have q3 := eqD_str (s.take 1) [110] ht (by decide)
  have hd : (s.drop 1).length ≤ 1000 := by rw [List.length_drop]; omega
  have hd2 : (s.drop 1).length ≤ lim := len_lim hd
  have pn := p_number_of N (n + 1) (s.drop 1) S
  have pi := p_numbers_in N n (s.drop 1) hd S
  have dg := dgt_nm s
  have sl := splitC_len 44 (s.drop 1)
  have sl2 : (splitC 44 (s.drop 1)).length ≤ 999999 := by omega
  unfold rd0
  generalize s.take 1 = a at c1 q1 q2 q3 dg ⊢
  generalize s.drop 1 = b at c2 hd2 pn pi sl2 ⊢
  by_cases e1 : a = [61]
  · subst e1
    simp [b_read_field, ev_var, ev_con, ev_bin, ev_neg, ev_not, ev_and, ev_or, ev_cmp, ev_chain, ev_ife, ev_tup, ev_lst, ev_ix, ev_sl, ev_call, ev_bi, ev_ixb, ev_lc, ei_e, ei_rng1, rg_i, ei_rng2, rg_ii, ng_i, io_i, zp_l, zp_t, ei_zip, el_nil, el_cons, eo_no, eo_at, xs_nil, xs_cons, xe_asg, xe_ite, xe_ret, xe_expr, xe_raise, run_fin, bind_ite, onto_ite, cond_ite, seqR_ite, finR_ite, app_ite, cmpB, bd_len_t, bd_len_l, bd_len_r, bd_len_s, bd_list_t, bd_list_l, bd_list_r, bd_list_s, bd_tuple_t, bd_tuple_l, bd_str_i, bd_str_s, bd_int_i, bd_int_b, bd_int_s, bd_sum, bd_min, bd_max, bd_min2, bd_max2, bd_all, bd_any, bd_isi, bd_join, bn_addi, bn_adds, bn_addl, bn_addt, bn_sub, bn_mul, bn_mull, bn_mult, bn_fdiv, bn_mod, bn_pow, ix_t, ix_l, ix_r, ix_s, sl_t, sl_l, sl_s, is_t, is_l, is_r, is_s, isiD, isD, leD, ltD, assignT, setAll, ev_m1, ev_fstr, ef_nil, ef_cons, ev_dgt, xe_try, rv_count, rv_split, rv_sindex, rv_tindex, rv_lindex, rv_lcnt, bd_isx, bd_count, bd_split, bd_sindex, bd_tindex, bd_lindex_b, bd_lindex_s, bd_lcnt, so_s, so_i, idc_d, e_star, in_str, h2, h1, c1, c2, e_eqs, q1, encR0]
  · have e1' : (a == [61]) = false := by simp [e1]
    rw [e1'] at q1
    by_cases e2 : a = [124]
    · subst e2
      simp [b_read_field, ev_var, ev_con, ev_bin, ev_neg, ev_not, ev_and, ev_or, ev_cmp, ev_chain, ev_ife, ev_tup, ev_lst, ev_ix, ev_sl, ev_call, ev_bi, ev_ixb, ev_lc, ei_e, ei_rng1, rg_i, ei_rng2, rg_ii, ng_i, io_i, zp_l, zp_t, ei_zip, el_nil, el_cons, eo_no, eo_at, xs_nil, xs_cons, xe_asg, xe_ite, xe_ret, xe_expr, xe_raise, run_fin, bind_ite, onto_ite, cond_ite, seqR_ite, finR_ite, app_ite, cmpB, bd_len_t, bd_len_l, bd_len_r, bd_len_s, bd_list_t, bd_list_l, bd_list_r, bd_list_s, bd_tuple_t, bd_tuple_l, bd_str_i, bd_str_s, bd_int_i, bd_int_b, bd_int_s, bd_sum, bd_min, bd_max, bd_min2, bd_max2, bd_all, bd_any, bd_isi, bd_join, bn_addi, bn_adds, bn_addl, bn_addt, bn_sub, bn_mul, bn_mull, bn_mult, bn_fdiv, bn_mod, bn_pow, ix_t, ix_l, ix_r, ix_s, sl_t, sl_l, sl_s, is_t, is_l, is_r, is_s, isiD, isD, leD, ltD, assignT, setAll, ev_m1, ev_fstr, ef_nil, ef_cons, ev_dgt, xe_try, rv_count, rv_split, rv_sindex, rv_tindex, rv_lindex, rv_lcnt, bd_isx, bd_count, bd_split, bd_sindex, bd_tindex, bd_lindex_b, bd_lindex_s, bd_lcnt, so_s, so_i, idc_d, e_star, in_str, h2, h1, c1, c2, e_eqs, q1, e_bar, q2, hd2, encR0]
    · have e2' : (a == [124]) = false := by simp [e2]
      rw [e2'] at q2
      by_cases e3 : a = [110]
      · subst e3
        simp [b_read_field, ev_var, ev_con, ev_bin, ev_neg, ev_not, ev_and, ev_or, ev_cmp, ev_chain, ev_ife, ev_tup, ev_lst, ev_ix, ev_sl, ev_call, ev_bi, ev_ixb, ev_lc, ei_e, ei_rng1, rg_i, ei_rng2, rg_ii, ng_i, io_i, zp_l, zp_t, ei_zip, el_nil, el_cons, eo_no, eo_at, xs_nil, xs_cons, xe_asg, xe_ite, xe_ret, xe_expr, xe_raise, run_fin, bind_ite, onto_ite, cond_ite, seqR_ite, finR_ite, app_ite, cmpB, bd_len_t, bd_len_l, bd_len_r, bd_len_s, bd_list_t, bd_list_l, bd_list_r, bd_list_s, bd_tuple_t, bd_tuple_l, bd_str_i, bd_str_s, bd_int_i, bd_int_b, bd_int_s, bd_sum, bd_min, bd_max, bd_min2, bd_max2, bd_all, bd_any, bd_isi, bd_join, bn_addi, bn_adds, bn_addl, bn_addt, bn_sub, bn_mul, bn_mull, bn_mult, bn_fdiv, bn_mod, bn_pow, ix_t, ix_l, ix_r, ix_s, sl_t, sl_l, sl_s, is_t, is_l, is_r, is_s, isiD, isD, leD, ltD, assignT, setAll, ev_m1, ev_fstr, ef_nil, ef_cons, ev_dgt, xe_try, rv_count, rv_split, rv_sindex, rv_tindex, rv_lindex, rv_lcnt, bd_isx, bd_count, bd_split, bd_sindex, bd_tindex, bd_lindex_b, bd_lindex_s, bd_lcnt, so_s, so_i, idc_d, e_star, in_str, h2, h1, c1, c2, e_eqs, q1, e_bar, q2, e_n, q3, pn, encR0]
      · have e3' : (a == [110]) = false := by simp [e3]
        rw [e3'] at q3
        have lm : 1 + (splitC 44 b).length ≤ lim := by show _ ≤ 1000000; omega
        simp [b_read_field, ev_var, ev_con, ev_bin, ev_neg, ev_not, ev_and, ev_or, ev_cmp, ev_chain, ev_ife, ev_tup, ev_lst, ev_ix, ev_sl, ev_call, ev_bi, ev_ixb, ev_lc, ei_e, ei_rng1, rg_i, ei_rng2, rg_ii, ng_i, io_i, zp_l, zp_t, ei_zip, el_nil, el_cons, eo_no, eo_at, xs_nil, xs_cons, xe_asg, xe_ite, xe_ret, xe_expr, xe_raise, run_fin, bind_ite, onto_ite, cond_ite, seqR_ite, finR_ite, app_ite, cmpB, bd_len_t, bd_len_l, bd_len_r, bd_len_s, bd_list_t, bd_list_l, bd_list_r, bd_list_s, bd_tuple_t, bd_tuple_l, bd_str_i, bd_str_s, bd_int_i, bd_int_b, bd_int_s, bd_sum, bd_min, bd_max, bd_min2, bd_max2, bd_all, bd_any, bd_isi, bd_join, bn_addi, bn_adds, bn_addl, bn_addt, bn_sub, bn_mul, bn_mull, bn_mult, bn_fdiv, bn_mod, bn_pow, ix_t, ix_l, ix_r, ix_s, sl_t, sl_l, sl_s, is_t, is_l, is_r, is_s, isiD, isD, leD, ltD, assignT, setAll, ev_m1, ev_fstr, ef_nil, ef_cons, ev_dgt, xe_try, rv_count, rv_split, rv_sindex, rv_tindex, rv_lindex, rv_lcnt, bd_isx, bd_count, bd_split, bd_sindex, bd_tindex, bd_lindex_b, bd_lindex_s, bd_lcnt, so_s, so_i, idc_d, e_star, in_str, h2, h1, c1, c2, e_eqs, q1, e_bar, q2, e_n, q3, dg, pi, encR0, e1, e2, e3, lm]
theorem p_read_field (N n : Nat) (s : Tx) (hl : s.length ≤ 1000) (hs : s.all (· < 1114112) = true) (S : Sh) : Φs N fbs (n + 4) f_read_field [.str s] S = .ok (encRF (rd s)) S := by
  cases hk : idxOf (· == 42) s with
  | none =>
    have := p_read0 N (n + 1) s hl hs ((idx_none 42 s).mp hk) S
    simp only [rd, hk, encRF]
    exact this
  | some k =>
    rw [u_read_field]
    obtain ⟨g1, g2, g3⟩ := idx_at 42 s k hk
    have h1 : s.length ≤ lim := len_lim hl
    have h2 : has s 42 = true := by
      rw [has_iff, g1]
      simp
    have c1 := cutT s k
    have c2 := cutF s (k + 1)
    rw [show ((k + 1 : Nat) : Int) = (k : Int) + 1 by omega] at c2
    have p1 := p_read0 N n (s.take k) (by rw [List.length_take]; omega) (chars_take hs k) g2 S
    have hd : (s.drop (k + 1)).length ≤ 1000 := by rw [List.length_drop]; omega
    have pi := p_numbers_in N (n + 1) (s.drop (k + 1)) hd S
    have sl := splitC_len 44 (s.drop (k + 1))
    have lm : 2 + (splitC 44 (s.drop (k + 1))).length ≤ lim := by show _ ≤ 1000000; omega
    simp [b_read_field, ev_var, ev_con, ev_bin, ev_neg, ev_not, ev_and, ev_or, ev_cmp, ev_chain, ev_ife, ev_tup, ev_lst, ev_ix, ev_sl, ev_call, ev_bi, ev_ixb, ev_lc, ei_e, ei_rng1, rg_i, ei_rng2, rg_ii, ng_i, io_i, zp_l, zp_t, ei_zip, el_nil, el_cons, eo_no, eo_at, xs_nil, xs_cons, xe_asg, xe_ite, xe_ret, xe_expr, xe_raise, run_fin, bind_ite, onto_ite, cond_ite, seqR_ite, finR_ite, app_ite, cmpB, bd_len_t, bd_len_l, bd_len_r, bd_len_s, bd_list_t, bd_list_l, bd_list_r, bd_list_s, bd_tuple_t, bd_tuple_l, bd_str_i, bd_str_s, bd_int_i, bd_int_b, bd_int_s, bd_sum, bd_min, bd_max, bd_min2, bd_max2, bd_all, bd_any, bd_isi, bd_join, bn_addi, bn_adds, bn_addl, bn_addt, bn_sub, bn_mul, bn_mull, bn_mult, bn_fdiv, bn_mod, bn_pow, ix_t, ix_l, ix_r, ix_s, sl_t, sl_l, sl_s, is_t, is_l, is_r, is_s, isiD, isD, leD, ltD, assignT, setAll, ev_m1, ev_fstr, ef_nil, ef_cons, ev_dgt, xe_try, rv_count, rv_split, rv_sindex, rv_tindex, rv_lindex, rv_lcnt, bd_isx, bd_count, bd_split, bd_sindex, bd_tindex, bd_lindex_b, bd_lindex_s, bd_lcnt, so_s, so_i, idc_d, e_star, in_str, h2, h1, hk, c1, c2, p1, pi, lm, rd, encRF]
theorem p__law_part0 (N n : Nat) (s : Tx) (hl : s.length ≤ 1000) (hs : s.all (· < 1114112) = true) (h0 : s.count 42 ≠ 1) (S : Sh) : Φs N fbs (n + 2) f__law_part [.str s] S = .ok (encR0 (rd0 s)) S := by
  rw [u__law_part]
  have h1 : s.length ≤ lim := len_lim hl
  have h2 : ¬ (s.count 42 : Int) = 1 := by omega
  have c1 := cut1 s hl
  have c2 := cutF s 1
  rw [show ((1 : Nat) : Int) = 1 from rfl] at c2
  have ht := chars_take hs 1
  have q1 := eqD_str (s.take 1) [61] ht (by decide)
  have q2 := eqD_str (s.take 1) [124] ht (by decide)
  have q3 := eqD_str (s.take 1) [110] ht (by decide)
  have hd : (s.drop 1).length ≤ 1000 := by rw [List.length_drop]; omega
  have hd2 : (s.drop 1).length ≤ lim := len_lim hd
  have pn := p__law_number N n (s.drop 1) S
  have dg := dgt_nm s
  have sl := splitC_len 44 (s.drop 1)
  have sl2 : (splitC 44 (s.drop 1)).length ≤ 999999 := by omega
  unfold rd0
  generalize s.take 1 = a at c1 q1 q2 q3 dg ⊢
  generalize s.drop 1 = b at c2 hd2 pn sl2 ⊢
  by_cases e1 : a = [61]
  · subst e1
    simp [b__law_part, ev_var, ev_con, ev_bin, ev_neg, ev_not, ev_and, ev_or, ev_cmp, ev_chain, ev_ife, ev_tup, ev_lst, ev_ix, ev_sl, ev_call, ev_bi, ev_ixb, ev_lc, ei_e, ei_rng1, rg_i, ei_rng2, rg_ii, ng_i, io_i, zp_l, zp_t, ei_zip, el_nil, el_cons, eo_no, eo_at, xs_nil, xs_cons, xe_asg, xe_ite, xe_ret, xe_expr, xe_raise, run_fin, bind_ite, onto_ite, cond_ite, seqR_ite, finR_ite, app_ite, cmpB, bd_len_t, bd_len_l, bd_len_r, bd_len_s, bd_list_t, bd_list_l, bd_list_r, bd_list_s, bd_tuple_t, bd_tuple_l, bd_str_i, bd_str_s, bd_int_i, bd_int_b, bd_int_s, bd_sum, bd_min, bd_max, bd_min2, bd_max2, bd_all, bd_any, bd_isi, bd_join, bn_addi, bn_adds, bn_addl, bn_addt, bn_sub, bn_mul, bn_mull, bn_mult, bn_fdiv, bn_mod, bn_pow, ix_t, ix_l, ix_r, ix_s, sl_t, sl_l, sl_s, is_t, is_l, is_r, is_s, isiD, isD, leD, ltD, assignT, setAll, ev_m1, ev_fstr, ef_nil, ef_cons, ev_dgt, xe_try, rv_count, rv_split, rv_sindex, rv_tindex, rv_lindex, rv_lcnt, bd_isx, bd_count, bd_split, bd_sindex, bd_tindex, bd_lindex_b, bd_lindex_s, bd_lcnt, so_s, so_i, idc_d, e_star, eqD_int, h2, h1, c1, c2, e_eqs, q1, encR0]
  · have e1' : (a == [61]) = false := by simp [e1]
    rw [e1'] at q1
    by_cases e2 : a = [124]
    · subst e2
      simp [b__law_part, ev_var, ev_con, ev_bin, ev_neg, ev_not, ev_and, ev_or, ev_cmp, ev_chain, ev_ife, ev_tup, ev_lst, ev_ix, ev_sl, ev_call, ev_bi, ev_ixb, ev_lc, ei_e, ei_rng1, rg_i, ei_rng2, rg_ii, ng_i, io_i, zp_l, zp_t, ei_zip, el_nil, el_cons, eo_no, eo_at, xs_nil, xs_cons, xe_asg, xe_ite, xe_ret, xe_expr, xe_raise, run_fin, bind_ite, onto_ite, cond_ite, seqR_ite, finR_ite, app_ite, cmpB, bd_len_t, bd_len_l, bd_len_r, bd_len_s, bd_list_t, bd_list_l, bd_list_r, bd_list_s, bd_tuple_t, bd_tuple_l, bd_str_i, bd_str_s, bd_int_i, bd_int_b, bd_int_s, bd_sum, bd_min, bd_max, bd_min2, bd_max2, bd_all, bd_any, bd_isi, bd_join, bn_addi, bn_adds, bn_addl, bn_addt, bn_sub, bn_mul, bn_mull, bn_mult, bn_fdiv, bn_mod, bn_pow, ix_t, ix_l, ix_r, ix_s, sl_t, sl_l, sl_s, is_t, is_l, is_r, is_s, isiD, isD, leD, ltD, assignT, setAll, ev_m1, ev_fstr, ef_nil, ef_cons, ev_dgt, xe_try, rv_count, rv_split, rv_sindex, rv_tindex, rv_lindex, rv_lcnt, bd_isx, bd_count, bd_split, bd_sindex, bd_tindex, bd_lindex_b, bd_lindex_s, bd_lcnt, so_s, so_i, idc_d, e_star, eqD_int, h2, h1, c1, c2, e_eqs, q1, e_bar, q2, hd2, encR0]
    · have e2' : (a == [124]) = false := by simp [e2]
      rw [e2'] at q2
      by_cases e3 : a = [110]
      · subst e3
        simp [b__law_part, ev_var, ev_con, ev_bin, ev_neg, ev_not, ev_and, ev_or, ev_cmp, ev_chain, ev_ife, ev_tup, ev_lst, ev_ix, ev_sl, ev_call, ev_bi, ev_ixb, ev_lc, ei_e, ei_rng1, rg_i, ei_rng2, rg_ii, ng_i, io_i, zp_l, zp_t, ei_zip, el_nil, el_cons, eo_no, eo_at, xs_nil, xs_cons, xe_asg, xe_ite, xe_ret, xe_expr, xe_raise, run_fin, bind_ite, onto_ite, cond_ite, seqR_ite, finR_ite, app_ite, cmpB, bd_len_t, bd_len_l, bd_len_r, bd_len_s, bd_list_t, bd_list_l, bd_list_r, bd_list_s, bd_tuple_t, bd_tuple_l, bd_str_i, bd_str_s, bd_int_i, bd_int_b, bd_int_s, bd_sum, bd_min, bd_max, bd_min2, bd_max2, bd_all, bd_any, bd_isi, bd_join, bn_addi, bn_adds, bn_addl, bn_addt, bn_sub, bn_mul, bn_mull, bn_mult, bn_fdiv, bn_mod, bn_pow, ix_t, ix_l, ix_r, ix_s, sl_t, sl_l, sl_s, is_t, is_l, is_r, is_s, isiD, isD, leD, ltD, assignT, setAll, ev_m1, ev_fstr, ef_nil, ef_cons, ev_dgt, xe_try, rv_count, rv_split, rv_sindex, rv_tindex, rv_lindex, rv_lcnt, bd_isx, bd_count, bd_split, bd_sindex, bd_tindex, bd_lindex_b, bd_lindex_s, bd_lcnt, so_s, so_i, idc_d, e_star, eqD_int, h2, h1, c1, c2, e_eqs, q1, e_bar, q2, e_n, q3, pn, encR0]
      · have e3' : (a == [110]) = false := by simp [e3]
        rw [e3'] at q3
        have lm : 1 + (splitC 44 b).length ≤ lim := by show _ ≤ 1000000; omega
        simp [b__law_part, ev_var, ev_con, ev_bin, ev_neg, ev_not, ev_and, ev_or, ev_cmp, ev_chain, ev_ife, ev_tup, ev_lst, ev_ix, ev_sl, ev_call, ev_bi, ev_ixb, ev_lc, ei_e, ei_rng1, rg_i, ei_rng2, rg_ii, ng_i, io_i, zp_l, zp_t, ei_zip, el_nil, el_cons, eo_no, eo_at, xs_nil, xs_cons, xe_asg, xe_ite, xe_ret, xe_expr, xe_raise, run_fin, bind_ite, onto_ite, cond_ite, seqR_ite, finR_ite, app_ite, cmpB, bd_len_t, bd_len_l, bd_len_r, bd_len_s, bd_list_t, bd_list_l, bd_list_r, bd_list_s, bd_tuple_t, bd_tuple_l, bd_str_i, bd_str_s, bd_int_i, bd_int_b, bd_int_s, bd_sum, bd_min, bd_max, bd_min2, bd_max2, bd_all, bd_any, bd_isi, bd_join, bn_addi, bn_adds, bn_addl, bn_addt, bn_sub, bn_mul, bn_mull, bn_mult, bn_fdiv, bn_mod, bn_pow, ix_t, ix_l, ix_r, ix_s, sl_t, sl_l, sl_s, is_t, is_l, is_r, is_s, isiD, isD, leD, ltD, assignT, setAll, ev_m1, ev_fstr, ef_nil, ef_cons, ev_dgt, xe_try, rv_count, rv_split, rv_sindex, rv_tindex, rv_lindex, rv_lcnt, bd_isx, bd_count, bd_split, bd_sindex, bd_tindex, bd_lindex_b, bd_lindex_s, bd_lcnt, so_s, so_i, idc_d, e_star, eqD_int, h2, h1, c1, c2, e_eqs, q1, e_bar, q2, e_n, q3, dg, e_comma, hd2]
        rw [lcK_m (fun p => D.int (numOf p)) (splitC 44 b) (by show _ ≤ 1000000; omega) fun p _ => by simp [keepF, wipeE, ev_var, ev_con, ev_bin, ev_neg, ev_not, ev_and, ev_or, ev_cmp, ev_chain, ev_ife, ev_tup, ev_lst, ev_ix, ev_sl, ev_call, ev_bi, ev_ixb, ev_lc, ei_e, ei_rng1, rg_i, ei_rng2, rg_ii, ng_i, io_i, zp_l, zp_t, ei_zip, el_nil, el_cons, eo_no, eo_at, xs_nil, xs_cons, xe_asg, xe_ite, xe_ret, xe_expr, xe_raise, run_fin, bind_ite, onto_ite, cond_ite, seqR_ite, finR_ite, app_ite, cmpB, bd_len_t, bd_len_l, bd_len_r, bd_len_s, bd_list_t, bd_list_l, bd_list_r, bd_list_s, bd_tuple_t, bd_tuple_l, bd_str_i, bd_str_s, bd_int_i, bd_int_b, bd_int_s, bd_sum, bd_min, bd_max, bd_min2, bd_max2, bd_all, bd_any, bd_isi, bd_join, bn_addi, bn_adds, bn_addl, bn_addt, bn_sub, bn_mul, bn_mull, bn_mult, bn_fdiv, bn_mod, bn_pow, ix_t, ix_l, ix_r, ix_s, sl_t, sl_l, sl_s, is_t, is_l, is_r, is_s, isiD, isD, leD, ltD, assignT, setAll, ev_m1, ev_fstr, ef_nil, ef_cons, ev_dgt, xe_try, rv_count, rv_split, rv_sindex, rv_tindex, rv_lindex, rv_lcnt, bd_isx, bd_count, bd_split, bd_sindex, bd_tindex, bd_lindex_b, bd_lindex_s, bd_lcnt, so_s, so_i, idc_d, p__law_number]]
        simp [ev_var, ev_con, ev_bin, ev_neg, ev_not, ev_and, ev_or, ev_cmp, ev_chain, ev_ife, ev_tup, ev_lst, ev_ix, ev_sl, ev_call, ev_bi, ev_ixb, ev_lc, ei_e, ei_rng1, rg_i, ei_rng2, rg_ii, ng_i, io_i, zp_l, zp_t, ei_zip, el_nil, el_cons, eo_no, eo_at, xs_nil, xs_cons, xe_asg, xe_ite, xe_ret, xe_expr, xe_raise, run_fin, bind_ite, onto_ite, cond_ite, seqR_ite, finR_ite, app_ite, cmpB, bd_len_t, bd_len_l, bd_len_r, bd_len_s, bd_list_t, bd_list_l, bd_list_r, bd_list_s, bd_tuple_t, bd_tuple_l, bd_str_i, bd_str_s, bd_int_i, bd_int_b, bd_int_s, bd_sum, bd_min, bd_max, bd_min2, bd_max2, bd_all, bd_any, bd_isi, bd_join, bn_addi, bn_adds, bn_addl, bn_addt, bn_sub, bn_mul, bn_mull, bn_mult, bn_fdiv, bn_mod, bn_pow, ix_t, ix_l, ix_r, ix_s, sl_t, sl_l, sl_s, is_t, is_l, is_r, is_s, isiD, isD, leD, ltD, assignT, setAll, ev_m1, ev_fstr, ef_nil, ef_cons, ev_dgt, xe_try, rv_count, rv_split, rv_sindex, rv_tindex, rv_lindex, rv_lcnt, bd_isx, bd_count, bd_split, bd_sindex, bd_tindex, bd_lindex_b, bd_lindex_s, bd_lcnt, so_s, so_i, idc_d, encR0, e1, e2, e3, lm]
theorem p__law_part (N n : Nat) (s : Tx) (hl : s.length ≤ 1000) (hs : s.all (· < 1114112) = true) (S : Sh) : Φs N fbs (n + 3) f__law_part [.str s] S = .ok (encRF (lp s)) S := by
  by_cases h1 : s.count 42 = 1
  · have hk0 : 42 ∈ s := List.count_pos_iff.mp (by omega)
    cases hk : idxOf (· == 42) s with
    | none => exact absurd hk0 ((idx_none 42 s).mp hk)
    | some k =>
      rw [u__law_part]
      obtain ⟨g1, g2, g3⟩ := idx_at 42 s k hk
      have l1 : s.length ≤ lim := len_lim hl
      have hsp := split_one 42 s k hk h1
      have p1 := p__law_part0 N n (s.take k) (by rw [List.length_take]; omega) (chars_take hs k) (by rw [List.count_eq_zero.mpr g2]; simp) S
      have hd : (s.drop (k + 1)).length ≤ 1000 := by rw [List.length_drop]; omega
      have hd2 : (s.drop (k + 1)).length ≤ lim := len_lim hd
      have sl := splitC_len 44 (s.drop (k + 1))
      have lm : 2 + (splitC 44 (s.drop (k + 1))).length ≤ lim := by show _ ≤ 1000000; omega
      have hd3 : s.length ≤ lim + (k + 1) := by rw [List.length_drop] at hd2; omega
      simp [b__law_part, ev_var, ev_con, ev_bin, ev_neg, ev_not, ev_and, ev_or, ev_cmp, ev_chain, ev_ife, ev_tup, ev_lst, ev_ix, ev_sl, ev_call, ev_bi, ev_ixb, ev_lc, ei_e, ei_rng1, rg_i, ei_rng2, rg_ii, ng_i, io_i, zp_l, zp_t, ei_zip, el_nil, el_cons, eo_no, eo_at, xs_nil, xs_cons, xe_asg, xe_ite, xe_ret, xe_expr, xe_raise, run_fin, bind_ite, onto_ite, cond_ite, seqR_ite, finR_ite, app_ite, cmpB, bd_len_t, bd_len_l, bd_len_r, bd_len_s, bd_list_t, bd_list_l, bd_list_r, bd_list_s, bd_tuple_t, bd_tuple_l, bd_str_i, bd_str_s, bd_int_i, bd_int_b, bd_int_s, bd_sum, bd_min, bd_max, bd_min2, bd_max2, bd_all, bd_any, bd_isi, bd_join, bn_addi, bn_adds, bn_addl, bn_addt, bn_sub, bn_mul, bn_mull, bn_mult, bn_fdiv, bn_mod, bn_pow, ix_t, ix_l, ix_r, ix_s, sl_t, sl_l, sl_s, is_t, is_l, is_r, is_s, isiD, isD, leD, ltD, assignT, setAll, ev_m1, ev_fstr, ef_nil, ef_cons, ev_dgt, xe_try, rv_count, rv_split, rv_sindex, rv_tindex, rv_lindex, rv_lcnt, bd_isx, bd_count, bd_split, bd_sindex, bd_tindex, bd_lindex_b, bd_lindex_s, bd_lcnt, so_s, so_i, idc_d, e_star, eqD_int, h1, l1, hsp, p1, e_comma, hd3]
      rw [lcK_m (fun p => D.int (numOf p)) (splitC 44 (s.drop (k + 1))) (by show _ ≤ 1000000; omega) fun p _ => by simp [keepF, wipeE, ev_var, ev_con, ev_bin, ev_neg, ev_not, ev_and, ev_or, ev_cmp, ev_chain, ev_ife, ev_tup, ev_lst, ev_ix, ev_sl, ev_call, ev_bi, ev_ixb, ev_lc, ei_e, ei_rng1, rg_i, ei_rng2, rg_ii, ng_i, io_i, zp_l, zp_t, ei_zip, el_nil, el_cons, eo_no, eo_at, xs_nil, xs_cons, xe_asg, xe_ite, xe_ret, xe_expr, xe_raise, run_fin, bind_ite, onto_ite, cond_ite, seqR_ite, finR_ite, app_ite, cmpB, bd_len_t, bd_len_l, bd_len_r, bd_len_s, bd_list_t, bd_list_l, bd_list_r, bd_list_s, bd_tuple_t, bd_tuple_l, bd_str_i, bd_str_s, bd_int_i, bd_int_b, bd_int_s, bd_sum, bd_min, bd_max, bd_min2, bd_max2, bd_all, bd_any, bd_isi, bd_join, bn_addi, bn_adds, bn_addl, bn_addt, bn_sub, bn_mul, bn_mull, bn_mult, bn_fdiv, bn_mod, bn_pow, ix_t, ix_l, ix_r, ix_s, sl_t, sl_l, sl_s, is_t, is_l, is_r, is_s, isiD, isD, leD, ltD, assignT, setAll, ev_m1, ev_fstr, ef_nil, ef_cons, ev_dgt, xe_try, rv_count, rv_split, rv_sindex, rv_tindex, rv_lindex, rv_lcnt, bd_isx, bd_count, bd_split, bd_sindex, bd_tindex, bd_lindex_b, bd_lindex_s, bd_lcnt, so_s, so_i, idc_d, p__law_number]]
      simp [ev_var, ev_con, ev_bin, ev_neg, ev_not, ev_and, ev_or, ev_cmp, ev_chain, ev_ife, ev_tup, ev_lst, ev_ix, ev_sl, ev_call, ev_bi, ev_ixb, ev_lc, ei_e, ei_rng1, rg_i, ei_rng2, rg_ii, ng_i, io_i, zp_l, zp_t, ei_zip, el_nil, el_cons, eo_no, eo_at, xs_nil, xs_cons, xe_asg, xe_ite, xe_ret, xe_expr, xe_raise, run_fin, bind_ite, onto_ite, cond_ite, seqR_ite, finR_ite, app_ite, cmpB, bd_len_t, bd_len_l, bd_len_r, bd_len_s, bd_list_t, bd_list_l, bd_list_r, bd_list_s, bd_tuple_t, bd_tuple_l, bd_str_i, bd_str_s, bd_int_i, bd_int_b, bd_int_s, bd_sum, bd_min, bd_max, bd_min2, bd_max2, bd_all, bd_any, bd_isi, bd_join, bn_addi, bn_adds, bn_addl, bn_addt, bn_sub, bn_mul, bn_mull, bn_mult, bn_fdiv, bn_mod, bn_pow, ix_t, ix_l, ix_r, ix_s, sl_t, sl_l, sl_s, is_t, is_l, is_r, is_s, isiD, isD, leD, ltD, assignT, setAll, ev_m1, ev_fstr, ef_nil, ef_cons, ev_dgt, xe_try, rv_count, rv_split, rv_sindex, rv_tindex, rv_lindex, rv_lcnt, bd_isx, bd_count, bd_split, bd_sindex, bd_tindex, bd_lindex_b, bd_lindex_s, bd_lcnt, so_s, so_i, idc_d, lp, h1, rd, hk, encRF, lm]
  · have := p__law_part0 N (n + 1) s hl hs h1 S
    simp only [lp, if_neg h1, encRF]
    exact this
end FT
namespace FT
open PySem PySem.Spec PyProof.Rows L2
/-! ### is it a format, and its text -/
theorem p_is_textS (N n : Nat) (s : Tx) (hl : s.length ≤ 1000) (hs : s.all (· < 1114112) = true) (S : Sh) : Φs N fbs (n + 1) f_is_text [.str s, .int 1, .int 4] S = .ok (.bl (isTx s)) S :=
  p_is_text N n 0 (.str s) 1 4 S (by simp only [sm, hs, decide_eq_true hl, Bool.and_self])
/-- texts in a part are small -/
def smR0 : R0 → Prop
  | .word s => s.length ≤ 1000 ∧ s.all (· < 1114112) = true
  | .choice ts => ts.length ≤ 1000 ∧ ∀ t ∈ ts, t.length ≤ 1000 ∧ t.all (· < 1114112) = true
  | .number _ => True
  | .nums nm is => is.length ≤ 998 ∧ (nm = tx "digits" ∨ nm = tx "letters" ∨ nm = tx "")
def smRF : RF → Prop
  | .one r => smR0 r
  | .rep r is => smR0 r ∧ is.length ≤ 998
theorem g_n_digits : eqD (.str (tx "")) (.str (tx "digits")) = some false := by rw [eqD_str _ _ (by decide +kernel) (by decide +kernel)]; exact congrArg some (by decide +kernel)
theorem g_n_letters : eqD (.str (tx "")) (.str (tx "letters")) = some false := by rw [eqD_str _ _ (by decide +kernel) (by decide +kernel)]; exact congrArg some (by decide +kernel)
theorem g_n_word : eqD (.str (tx "")) (.str (tx "word")) = some false := by rw [eqD_str _ _ (by decide +kernel) (by decide +kernel)]; exact congrArg some (by decide +kernel)
theorem g_n_number : eqD (.str (tx "")) (.str (tx "number")) = some false := by rw [eqD_str _ _ (by decide +kernel) (by decide +kernel)]; exact congrArg some (by decide +kernel)
theorem g_n_choice : eqD (.str (tx "")) (.str (tx "choice")) = some false := by rw [eqD_str _ _ (by decide +kernel) (by decide +kernel)]; exact congrArg some (by decide +kernel)
theorem g_n_repeat : eqD (.str (tx "")) (.str (tx "repeat")) = some false := by rw [eqD_str _ _ (by decide +kernel) (by decide +kernel)]; exact congrArg some (by decide +kernel)
theorem adj_iff : ∀ ts : List Tx, adj ts = (List.range (ts.length - 1)).all fun k => decide (ts.getD k [] < ts.getD (k + 1) [])
  | [] => rfl
  | [_] => rfl
  | a :: b :: r => by
    have ih := adj_iff (b :: r)
    simp only [adj, ih, List.length_cons, Nat.add_sub_cancel, List.range_succ_eq_map, List.all_cons, List.all_map]
    rfl
theorem p_adj (N n : Nat) (ts : List Tx) (h1 : 1 ≤ ts.length) (hl : ts.length ≤ 4) (a0 : SV) (S : Sh) :
    (((lcK (keepF (Φs N fbs n) [a0, .dat (.tup (ts.map D.str)), .no, .no] [2] (.cmp .lt (.ix (.var 1) (.var 2)) (.ix (.var 1) (.bin .add (.var 2) (.con (.int 1))))) (.nm 2) (.con (.bl true))) ((List.range ((ts.length : Int) - 1).toNat).map fun (k : Nat) => D.int k)) S : Res D)) =
      .ok (.lst ((List.range ((ts.length : Int) - 1).toNat).map fun k => D.bl (decide (ts.getD k [] < ts.getD (k + 1) [])))) S := by
  refine lcK_m _ _ (by rw [List.length_range]; show _ ≤ 1000000; omega) fun k hk => ?_
  have hk2 : k + 1 < ts.length := by
    have := List.mem_range.mp hk
    omega
  have a1 := at_nat (ts.map D.str) k (by rw [List.length_map]; omega)
  have a2 := at_nat (ts.map D.str) (k + 1) (by rw [List.length_map]; omega)
  have a4 : ((k + 1 : Nat) : Int) = (k : Int) + 1 := by omega
  rw [a4] at a2
  rw [List.getElem_map] at a1 a2
  have b1 : ts.getD k [] = ts[k] := by rw [List.getD_eq_getElem?_getD, List.getElem?_eq_getElem (by omega)]; rfl
  have b2 : ts.getD (k + 1) [] = ts[k + 1] := by rw [List.getD_eq_getElem?_getD, List.getElem?_eq_getElem (by omega)]; rfl
  rw [b1, b2]
  simp [keepF, wipeE, ev_var, ev_con, ev_bin, ev_neg, ev_not, ev_and, ev_or, ev_cmp, ev_chain, ev_ife, ev_tup, ev_lst, ev_ix, ev_sl, ev_call, ev_bi, ev_ixb, ev_lc, ei_e, ei_rng1, rg_i, ei_rng2, rg_ii, ng_i, io_i, zp_l, zp_t, ei_zip, el_nil, el_cons, eo_no, eo_at, xs_nil, xs_cons, xe_asg, xe_ite, xe_ret, xe_expr, xe_raise, run_fin, bind_ite, onto_ite, cond_ite, seqR_ite, finR_ite, app_ite, cmpB, bd_len_t, bd_len_l, bd_len_r, bd_len_s, bd_list_t, bd_list_l, bd_list_r, bd_list_s, bd_tuple_t, bd_tuple_l, bd_str_i, bd_str_s, bd_int_i, bd_int_b, bd_int_s, bd_sum, bd_min, bd_max, bd_min2, bd_max2, bd_all, bd_any, bd_isi, bd_join, bn_addi, bn_adds, bn_addl, bn_addt, bn_sub, bn_mul, bn_mull, bn_mult, bn_fdiv, bn_mod, bn_pow, ix_t, ix_l, ix_r, ix_s, sl_t, sl_l, sl_s, is_t, is_l, is_r, is_s, isiD, isD, leD, ltD, assignT, setAll, ev_m1, ev_fstr, ef_nil, ef_cons, ev_dgt, xe_try, rv_count, rv_split, rv_sindex, rv_tindex, rv_lindex, rv_lcnt, bd_isx, bd_count, bd_split, bd_sindex, bd_tindex, bd_lindex_b, bd_lindex_s, bd_lcnt, so_s, so_i, idc_d, a1, a2]
theorem in_dl (nm : Tx) : inD (.str nm) (.tup [.str (tx "digits"), .str (tx "letters")]) = some (nm == tx "digits" || nm == tx "letters") := by
  rw [in_two]
  congr 1
  rw [show (tx "digits" == nm) = (nm == tx "digits") from Bool.eq_iff_iff.mpr ⟨fun h => by rw [beq_iff_eq] at h ⊢; exact h.symm, fun h => by rw [beq_iff_eq] at h ⊢; exact h.symm⟩, show (tx "letters" == nm) = (nm == tx "letters") from Bool.eq_iff_iff.mpr ⟨fun h => by rw [beq_iff_eq] at h ⊢; exact h.symm, fun h => by rw [beq_iff_eq] at h ⊢; exact h.symm⟩]
theorem adj_all (ts : List Tx) (h1 : 1 ≤ ts.length) : ((List.range ((ts.length : Int) - 1).toNat).map fun k => decide (ts.getD k [] < ts.getD (k + 1) [])).all id = adj ts := by
  rw [adj_iff, List.all_map, show ((ts.length : Int) - 1).toNat = ts.length - 1 by omega]
  rfl
theorem p_simpleR (N n : Nat) (r : R0) (hr : smR0 r) (S : Sh) : Φs N fbs (n + 3) f_is_simple [encR0 r] S = .ok (.bl (isS r)) S := by
  rw [u_is_simple]
  cases r with
  | word s =>
    have a0 : L2.atI [D.str (tx "word"), D.str s] 0 = some (.str (tx "word")) := rfl
    have a1 : L2.atI [D.str (tx "word"), D.str s] 1 = some (.str s) := rfl
    simp [b_is_simple, encR0, ev_var, ev_con, ev_bin, ev_neg, ev_not, ev_and, ev_or, ev_cmp, ev_chain, ev_ife, ev_tup, ev_lst, ev_ix, ev_sl, ev_call, ev_bi, ev_ixb, ev_lc, ei_e, ei_rng1, rg_i, ei_rng2, rg_ii, ng_i, io_i, zp_l, zp_t, ei_zip, el_nil, el_cons, eo_no, eo_at, xs_nil, xs_cons, xe_asg, xe_ite, xe_ret, xe_expr, xe_raise, run_fin, bind_ite, onto_ite, cond_ite, seqR_ite, finR_ite, app_ite, cmpB, bd_len_t, bd_len_l, bd_len_r, bd_len_s, bd_list_t, bd_list_l, bd_list_r, bd_list_s, bd_tuple_t, bd_tuple_l, bd_str_i, bd_str_s, bd_int_i, bd_int_b, bd_int_s, bd_sum, bd_min, bd_max, bd_min2, bd_max2, bd_all, bd_any, bd_isi, bd_join, bn_addi, bn_adds, bn_addl, bn_addt, bn_sub, bn_mul, bn_mull, bn_mult, bn_fdiv, bn_mod, bn_pow, ix_t, ix_l, ix_r, ix_s, sl_t, sl_l, sl_s, is_t, is_l, is_r, is_s, isiD, isD, leD, ltD, assignT, setAll, ev_m1, ev_fstr, ef_nil, ef_cons, ev_dgt, xe_try, rv_count, rv_split, rv_sindex, rv_tindex, rv_lindex, rv_lcnt, bd_isx, bd_count, bd_split, bd_sindex, bd_tindex, bd_lindex_b, bd_lindex_s, bd_lcnt, so_s, so_i, idc_d, a0, a1, g_word_word, g_word_digits, g_word_letters, g_word_number, g_word_choice, g_word_repeat, g_digits_word, g_digits_digits, g_digits_letters, g_digits_number, g_digits_choice, g_digits_repeat, g_letters_word, g_letters_digits, g_letters_letters, g_letters_number, g_letters_choice, g_letters_repeat, g_number_word, g_number_digits, g_number_letters, g_number_number, g_number_choice, g_number_repeat, g_choice_word, g_choice_digits, g_choice_letters, g_choice_number, g_choice_choice, g_choice_repeat, g_repeat_word, g_repeat_digits, g_repeat_letters, g_repeat_number, g_repeat_choice, g_repeat_repeat, eqD_int, p_is_textS N (n + 1) s hr.1 hr.2, isS]
  | number i =>
    have a0 : L2.atI [D.str (tx "number"), D.int i] 0 = some (.str (tx "number")) := rfl
    have a1 : L2.atI [D.str (tx "number"), D.int i] 1 = some (.int i) := rfl
    simp [b_is_simple, encR0, ev_var, ev_con, ev_bin, ev_neg, ev_not, ev_and, ev_or, ev_cmp, ev_chain, ev_ife, ev_tup, ev_lst, ev_ix, ev_sl, ev_call, ev_bi, ev_ixb, ev_lc, ei_e, ei_rng1, rg_i, ei_rng2, rg_ii, ng_i, io_i, zp_l, zp_t, ei_zip, el_nil, el_cons, eo_no, eo_at, xs_nil, xs_cons, xe_asg, xe_ite, xe_ret, xe_expr, xe_raise, run_fin, bind_ite, onto_ite, cond_ite, seqR_ite, finR_ite, app_ite, cmpB, bd_len_t, bd_len_l, bd_len_r, bd_len_s, bd_list_t, bd_list_l, bd_list_r, bd_list_s, bd_tuple_t, bd_tuple_l, bd_str_i, bd_str_s, bd_int_i, bd_int_b, bd_int_s, bd_sum, bd_min, bd_max, bd_min2, bd_max2, bd_all, bd_any, bd_isi, bd_join, bn_addi, bn_adds, bn_addl, bn_addt, bn_sub, bn_mul, bn_mull, bn_mult, bn_fdiv, bn_mod, bn_pow, ix_t, ix_l, ix_r, ix_s, sl_t, sl_l, sl_s, is_t, is_l, is_r, is_s, isiD, isD, leD, ltD, assignT, setAll, ev_m1, ev_fstr, ef_nil, ef_cons, ev_dgt, xe_try, rv_count, rv_split, rv_sindex, rv_tindex, rv_lindex, rv_lcnt, bd_isx, bd_count, bd_split, bd_sindex, bd_tindex, bd_lindex_b, bd_lindex_s, bd_lcnt, so_s, so_i, idc_d, a0, a1, g_word_word, g_word_digits, g_word_letters, g_word_number, g_word_choice, g_word_repeat, g_digits_word, g_digits_digits, g_digits_letters, g_digits_number, g_digits_choice, g_digits_repeat, g_letters_word, g_letters_digits, g_letters_letters, g_letters_number, g_letters_choice, g_letters_repeat, g_number_word, g_number_digits, g_number_letters, g_number_number, g_number_choice, g_number_repeat, g_choice_word, g_choice_digits, g_choice_letters, g_choice_number, g_choice_choice, g_choice_repeat, g_repeat_word, g_repeat_digits, g_repeat_letters, g_repeat_number, g_repeat_choice, g_repeat_repeat, eqD_int, p_is_between N (n + 1) 0 _ _ _ _ (show sm 0 (.int i) = true from rfl), isS, isB]
  | choice ts =>
    have a0 : L2.atI [D.str (tx "choice"), D.tup (ts.map D.str)] 0 = some (.str (tx "choice")) := rfl
    have a1 : L2.atI [D.str (tx "choice"), D.tup (ts.map D.str)] 1 = some (.tup (ts.map D.str)) := rfl
    by_cases h1 : 1 ≤ ts.length
    · by_cases h2 : ts.length ≤ 4
      · have h1' : (1 : Int) ≤ ts.length := by omega
        have h2' : (ts.length : Int) ≤ 4 := by omega
        have e1 : ∀ (a b c d : SV), lcK (keepF (Φs N fbs (n + 2)) [a, b, c, d] [3] (.call f_is_text (.cons (.var 3) (.cons (.con (.int 1)) (.cons (.con (.int 4)) .nil)))) (.nm 3) (.con (.bl true))) (ts.map D.str) S = .ok (.lst (ts.map fun t => D.bl (isTx t))) S := fun a b c d =>
          lcK_m (fun t => D.bl (isTx t)) ts (by show _ ≤ 1000000; omega) fun t ht => by simp [keepF, wipeE, ev_var, ev_con, ev_bin, ev_neg, ev_not, ev_and, ev_or, ev_cmp, ev_chain, ev_ife, ev_tup, ev_lst, ev_ix, ev_sl, ev_call, ev_bi, ev_ixb, ev_lc, ei_e, ei_rng1, rg_i, ei_rng2, rg_ii, ng_i, io_i, zp_l, zp_t, ei_zip, el_nil, el_cons, eo_no, eo_at, xs_nil, xs_cons, xe_asg, xe_ite, xe_ret, xe_expr, xe_raise, run_fin, bind_ite, onto_ite, cond_ite, seqR_ite, finR_ite, app_ite, cmpB, bd_len_t, bd_len_l, bd_len_r, bd_len_s, bd_list_t, bd_list_l, bd_list_r, bd_list_s, bd_tuple_t, bd_tuple_l, bd_str_i, bd_str_s, bd_int_i, bd_int_b, bd_int_s, bd_sum, bd_min, bd_max, bd_min2, bd_max2, bd_all, bd_any, bd_isi, bd_join, bn_addi, bn_adds, bn_addl, bn_addt, bn_sub, bn_mul, bn_mull, bn_mult, bn_fdiv, bn_mod, bn_pow, ix_t, ix_l, ix_r, ix_s, sl_t, sl_l, sl_s, is_t, is_l, is_r, is_s, isiD, isD, leD, ltD, assignT, setAll, ev_m1, ev_fstr, ef_nil, ef_cons, ev_dgt, xe_try, rv_count, rv_split, rv_sindex, rv_tindex, rv_lindex, rv_lcnt, bd_isx, bd_count, bd_split, bd_sindex, bd_tindex, bd_lindex_b, bd_lindex_s, bd_lcnt, so_s, so_i, idc_d, p_is_textS N (n + 1) t (hr.2 t ht).1 (hr.2 t ht).2]
        have e2 := fun a => p_adj N (n + 2) ts h1 h2 a S
        have r0 := rng_ok0 ((ts.length : Int) - 1) (by omega) (by omega)
        have e3 := adj_all ts h1
        obtain ⟨q, hq⟩ : ∃ q, ts.all isTx = q := ⟨_, rfl⟩
        have e4 : (ts.map isTx).all id = q := by rw [List.all_map, ← hq]; rfl
        cases q with
        | false =>
          simp [b_is_simple, encR0, ev_var, ev_con, ev_bin, ev_neg, ev_not, ev_and, ev_or, ev_cmp, ev_chain, ev_ife, ev_tup, ev_lst, ev_ix, ev_sl, ev_call, ev_bi, ev_ixb, ev_lc, ei_e, ei_rng1, rg_i, ei_rng2, rg_ii, ng_i, io_i, zp_l, zp_t, ei_zip, el_nil, el_cons, eo_no, eo_at, xs_nil, xs_cons, xe_asg, xe_ite, xe_ret, xe_expr, xe_raise, run_fin, bind_ite, onto_ite, cond_ite, seqR_ite, finR_ite, app_ite, cmpB, bd_len_t, bd_len_l, bd_len_r, bd_len_s, bd_list_t, bd_list_l, bd_list_r, bd_list_s, bd_tuple_t, bd_tuple_l, bd_str_i, bd_str_s, bd_int_i, bd_int_b, bd_int_s, bd_sum, bd_min, bd_max, bd_min2, bd_max2, bd_all, bd_any, bd_isi, bd_join, bn_addi, bn_adds, bn_addl, bn_addt, bn_sub, bn_mul, bn_mull, bn_mult, bn_fdiv, bn_mod, bn_pow, ix_t, ix_l, ix_r, ix_s, sl_t, sl_l, sl_s, is_t, is_l, is_r, is_s, isiD, isD, leD, ltD, assignT, setAll, ev_m1, ev_fstr, ef_nil, ef_cons, ev_dgt, xe_try, rv_count, rv_split, rv_sindex, rv_tindex, rv_lindex, rv_lcnt, bd_isx, bd_count, bd_split, bd_sindex, bd_tindex, bd_lindex_b, bd_lindex_s, bd_lcnt, so_s, so_i, idc_d, a0, a1, g_word_word, g_word_digits, g_word_letters, g_word_number, g_word_choice, g_word_repeat, g_digits_word, g_digits_digits, g_digits_letters, g_digits_number, g_digits_choice, g_digits_repeat, g_letters_word, g_letters_digits, g_letters_letters, g_letters_number, g_letters_choice, g_letters_repeat, g_number_word, g_number_digits, g_number_letters, g_number_number, g_number_choice, g_number_repeat, g_choice_word, g_choice_digits, g_choice_letters, g_choice_number, g_choice_choice, g_choice_repeat, g_repeat_word, g_repeat_digits, g_repeat_letters, g_repeat_number, g_repeat_choice, g_repeat_repeat, eqD_int, h1, h2, h1', h2', e1]
          rw [blsD_map]
          simp only [Option.map_some, lift_some, Res.bind_ok, e4]
          simp [ev_var, ev_con, ev_bin, ev_neg, ev_not, ev_and, ev_or, ev_cmp, ev_chain, ev_ife, ev_tup, ev_lst, ev_ix, ev_sl, ev_call, ev_bi, ev_ixb, ev_lc, ei_e, ei_rng1, rg_i, ei_rng2, rg_ii, ng_i, io_i, zp_l, zp_t, ei_zip, el_nil, el_cons, eo_no, eo_at, xs_nil, xs_cons, xe_asg, xe_ite, xe_ret, xe_expr, xe_raise, run_fin, bind_ite, onto_ite, cond_ite, seqR_ite, finR_ite, app_ite, cmpB, bd_len_t, bd_len_l, bd_len_r, bd_len_s, bd_list_t, bd_list_l, bd_list_r, bd_list_s, bd_tuple_t, bd_tuple_l, bd_str_i, bd_str_s, bd_int_i, bd_int_b, bd_int_s, bd_sum, bd_min, bd_max, bd_min2, bd_max2, bd_all, bd_any, bd_isi, bd_join, bn_addi, bn_adds, bn_addl, bn_addt, bn_sub, bn_mul, bn_mull, bn_mult, bn_fdiv, bn_mod, bn_pow, ix_t, ix_l, ix_r, ix_s, sl_t, sl_l, sl_s, is_t, is_l, is_r, is_s, isiD, isD, leD, ltD, assignT, setAll, ev_m1, ev_fstr, ef_nil, ef_cons, ev_dgt, xe_try, rv_count, rv_split, rv_sindex, rv_tindex, rv_lindex, rv_lcnt, bd_isx, bd_count, bd_split, bd_sindex, bd_tindex, bd_lindex_b, bd_lindex_s, bd_lcnt, so_s, so_i, idc_d, isS, h1, h2, hq]
        | true =>
          simp [b_is_simple, encR0, ev_var, ev_con, ev_bin, ev_neg, ev_not, ev_and, ev_or, ev_cmp, ev_chain, ev_ife, ev_tup, ev_lst, ev_ix, ev_sl, ev_call, ev_bi, ev_ixb, ev_lc, ei_e, ei_rng1, rg_i, ei_rng2, rg_ii, ng_i, io_i, zp_l, zp_t, ei_zip, el_nil, el_cons, eo_no, eo_at, xs_nil, xs_cons, xe_asg, xe_ite, xe_ret, xe_expr, xe_raise, run_fin, bind_ite, onto_ite, cond_ite, seqR_ite, finR_ite, app_ite, cmpB, bd_len_t, bd_len_l, bd_len_r, bd_len_s, bd_list_t, bd_list_l, bd_list_r, bd_list_s, bd_tuple_t, bd_tuple_l, bd_str_i, bd_str_s, bd_int_i, bd_int_b, bd_int_s, bd_sum, bd_min, bd_max, bd_min2, bd_max2, bd_all, bd_any, bd_isi, bd_join, bn_addi, bn_adds, bn_addl, bn_addt, bn_sub, bn_mul, bn_mull, bn_mult, bn_fdiv, bn_mod, bn_pow, ix_t, ix_l, ix_r, ix_s, sl_t, sl_l, sl_s, is_t, is_l, is_r, is_s, isiD, isD, leD, ltD, assignT, setAll, ev_m1, ev_fstr, ef_nil, ef_cons, ev_dgt, xe_try, rv_count, rv_split, rv_sindex, rv_tindex, rv_lindex, rv_lcnt, bd_isx, bd_count, bd_split, bd_sindex, bd_tindex, bd_lindex_b, bd_lindex_s, bd_lcnt, so_s, so_i, idc_d, a0, a1, g_word_word, g_word_digits, g_word_letters, g_word_number, g_word_choice, g_word_repeat, g_digits_word, g_digits_digits, g_digits_letters, g_digits_number, g_digits_choice, g_digits_repeat, g_letters_word, g_letters_digits, g_letters_letters, g_letters_number, g_letters_choice, g_letters_repeat, g_number_word, g_number_digits, g_number_letters, g_number_number, g_number_choice, g_number_repeat, g_choice_word, g_choice_digits, g_choice_letters, g_choice_number, g_choice_choice, g_choice_repeat, g_repeat_word, g_repeat_digits, g_repeat_letters, g_repeat_number, g_repeat_choice, g_repeat_repeat, eqD_int, h1, h2, h1', h2', e1]
          rw [blsD_map]
          simp only [Option.map_some, lift_some, Res.bind_ok, e4]
          simp [ev_var, ev_con, ev_bin, ev_neg, ev_not, ev_and, ev_or, ev_cmp, ev_chain, ev_ife, ev_tup, ev_lst, ev_ix, ev_sl, ev_call, ev_bi, ev_ixb, ev_lc, ei_e, ei_rng1, rg_i, ei_rng2, rg_ii, ng_i, io_i, zp_l, zp_t, ei_zip, el_nil, el_cons, eo_no, eo_at, xs_nil, xs_cons, xe_asg, xe_ite, xe_ret, xe_expr, xe_raise, run_fin, bind_ite, onto_ite, cond_ite, seqR_ite, finR_ite, app_ite, cmpB, bd_len_t, bd_len_l, bd_len_r, bd_len_s, bd_list_t, bd_list_l, bd_list_r, bd_list_s, bd_tuple_t, bd_tuple_l, bd_str_i, bd_str_s, bd_int_i, bd_int_b, bd_int_s, bd_sum, bd_min, bd_max, bd_min2, bd_max2, bd_all, bd_any, bd_isi, bd_join, bn_addi, bn_adds, bn_addl, bn_addt, bn_sub, bn_mul, bn_mull, bn_mult, bn_fdiv, bn_mod, bn_pow, ix_t, ix_l, ix_r, ix_s, sl_t, sl_l, sl_s, is_t, is_l, is_r, is_s, isiD, isD, leD, ltD, assignT, setAll, ev_m1, ev_fstr, ef_nil, ef_cons, ev_dgt, xe_try, rv_count, rv_split, rv_sindex, rv_tindex, rv_lindex, rv_lcnt, bd_isx, bd_count, bd_split, bd_sindex, bd_tindex, bd_lindex_b, bd_lindex_s, bd_lcnt, so_s, so_i, idc_d, isS, h1, h2, hq]
          rw [r0]
          simp only [lift_some, Res.bind_ok]
          rw [e2]
          simp only [lift_some, Res.bind_ok, bd_all, blsD_map, Option.map_some, e3]
          simp
      · have h2' : ¬ (ts.length : Int) ≤ 4 := by omega
        simp [b_is_simple, encR0, ev_var, ev_con, ev_bin, ev_neg, ev_not, ev_and, ev_or, ev_cmp, ev_chain, ev_ife, ev_tup, ev_lst, ev_ix, ev_sl, ev_call, ev_bi, ev_ixb, ev_lc, ei_e, ei_rng1, rg_i, ei_rng2, rg_ii, ng_i, io_i, zp_l, zp_t, ei_zip, el_nil, el_cons, eo_no, eo_at, xs_nil, xs_cons, xe_asg, xe_ite, xe_ret, xe_expr, xe_raise, run_fin, bind_ite, onto_ite, cond_ite, seqR_ite, finR_ite, app_ite, cmpB, bd_len_t, bd_len_l, bd_len_r, bd_len_s, bd_list_t, bd_list_l, bd_list_r, bd_list_s, bd_tuple_t, bd_tuple_l, bd_str_i, bd_str_s, bd_int_i, bd_int_b, bd_int_s, bd_sum, bd_min, bd_max, bd_min2, bd_max2, bd_all, bd_any, bd_isi, bd_join, bn_addi, bn_adds, bn_addl, bn_addt, bn_sub, bn_mul, bn_mull, bn_mult, bn_fdiv, bn_mod, bn_pow, ix_t, ix_l, ix_r, ix_s, sl_t, sl_l, sl_s, is_t, is_l, is_r, is_s, isiD, isD, leD, ltD, assignT, setAll, ev_m1, ev_fstr, ef_nil, ef_cons, ev_dgt, xe_try, rv_count, rv_split, rv_sindex, rv_tindex, rv_lindex, rv_lcnt, bd_isx, bd_count, bd_split, bd_sindex, bd_tindex, bd_lindex_b, bd_lindex_s, bd_lcnt, so_s, so_i, idc_d, a0, a1, g_word_word, g_word_digits, g_word_letters, g_word_number, g_word_choice, g_word_repeat, g_digits_word, g_digits_digits, g_digits_letters, g_digits_number, g_digits_choice, g_digits_repeat, g_letters_word, g_letters_digits, g_letters_letters, g_letters_number, g_letters_choice, g_letters_repeat, g_number_word, g_number_digits, g_number_letters, g_number_number, g_number_choice, g_number_repeat, g_choice_word, g_choice_digits, g_choice_letters, g_choice_number, g_choice_choice, g_choice_repeat, g_repeat_word, g_repeat_digits, g_repeat_letters, g_repeat_number, g_repeat_choice, g_repeat_repeat, eqD_int, h1, h2, h2', isS]
    · have h1' : ¬ (1 : Int) ≤ ts.length := by omega
      simp [b_is_simple, encR0, ev_var, ev_con, ev_bin, ev_neg, ev_not, ev_and, ev_or, ev_cmp, ev_chain, ev_ife, ev_tup, ev_lst, ev_ix, ev_sl, ev_call, ev_bi, ev_ixb, ev_lc, ei_e, ei_rng1, rg_i, ei_rng2, rg_ii, ng_i, io_i, zp_l, zp_t, ei_zip, el_nil, el_cons, eo_no, eo_at, xs_nil, xs_cons, xe_asg, xe_ite, xe_ret, xe_expr, xe_raise, run_fin, bind_ite, onto_ite, cond_ite, seqR_ite, finR_ite, app_ite, cmpB, bd_len_t, bd_len_l, bd_len_r, bd_len_s, bd_list_t, bd_list_l, bd_list_r, bd_list_s, bd_tuple_t, bd_tuple_l, bd_str_i, bd_str_s, bd_int_i, bd_int_b, bd_int_s, bd_sum, bd_min, bd_max, bd_min2, bd_max2, bd_all, bd_any, bd_isi, bd_join, bn_addi, bn_adds, bn_addl, bn_addt, bn_sub, bn_mul, bn_mull, bn_mult, bn_fdiv, bn_mod, bn_pow, ix_t, ix_l, ix_r, ix_s, sl_t, sl_l, sl_s, is_t, is_l, is_r, is_s, isiD, isD, leD, ltD, assignT, setAll, ev_m1, ev_fstr, ef_nil, ef_cons, ev_dgt, xe_try, rv_count, rv_split, rv_sindex, rv_tindex, rv_lindex, rv_lcnt, bd_isx, bd_count, bd_split, bd_sindex, bd_tindex, bd_lindex_b, bd_lindex_s, bd_lcnt, so_s, so_i, idc_d, a0, a1, g_word_word, g_word_digits, g_word_letters, g_word_number, g_word_choice, g_word_repeat, g_digits_word, g_digits_digits, g_digits_letters, g_digits_number, g_digits_choice, g_digits_repeat, g_letters_word, g_letters_digits, g_letters_letters, g_letters_number, g_letters_choice, g_letters_repeat, g_number_word, g_number_digits, g_number_letters, g_number_number, g_number_choice, g_number_repeat, g_choice_word, g_choice_digits, g_choice_letters, g_choice_number, g_choice_choice, g_choice_repeat, g_repeat_word, g_repeat_digits, g_repeat_letters, g_repeat_number, g_repeat_choice, g_repeat_repeat, eqD_int, h1, h1', isS]
  | nums nm is =>
    have hn := hr.2
    match is with
    | [] => simp [b_is_simple, encR0, ev_var, ev_con, ev_bin, ev_neg, ev_not, ev_and, ev_or, ev_cmp, ev_chain, ev_ife, ev_tup, ev_lst, ev_ix, ev_sl, ev_call, ev_bi, ev_ixb, ev_lc, ei_e, ei_rng1, rg_i, ei_rng2, rg_ii, ng_i, io_i, zp_l, zp_t, ei_zip, el_nil, el_cons, eo_no, eo_at, xs_nil, xs_cons, xe_asg, xe_ite, xe_ret, xe_expr, xe_raise, run_fin, bind_ite, onto_ite, cond_ite, seqR_ite, finR_ite, app_ite, cmpB, bd_len_t, bd_len_l, bd_len_r, bd_len_s, bd_list_t, bd_list_l, bd_list_r, bd_list_s, bd_tuple_t, bd_tuple_l, bd_str_i, bd_str_s, bd_int_i, bd_int_b, bd_int_s, bd_sum, bd_min, bd_max, bd_min2, bd_max2, bd_all, bd_any, bd_isi, bd_join, bn_addi, bn_adds, bn_addl, bn_addt, bn_sub, bn_mul, bn_mull, bn_mult, bn_fdiv, bn_mod, bn_pow, ix_t, ix_l, ix_r, ix_s, sl_t, sl_l, sl_s, is_t, is_l, is_r, is_s, isiD, isD, leD, ltD, assignT, setAll, ev_m1, ev_fstr, ef_nil, ef_cons, ev_dgt, xe_try, rv_count, rv_split, rv_sindex, rv_tindex, rv_lindex, rv_lcnt, bd_isx, bd_count, bd_split, bd_sindex, bd_tindex, bd_lindex_b, bd_lindex_s, bd_lcnt, so_s, so_i, idc_d, isS, eqD_int]
    | [a] =>
      have a0 : L2.atI [D.str nm, D.int a] 0 = some (.str nm) := rfl
      have a1 : L2.atI [D.str nm, D.int a] 1 = some (.int a) := rfl
      rcases hn with e | e | e <;> subst e <;> simp [b_is_simple, encR0, ev_var, ev_con, ev_bin, ev_neg, ev_not, ev_and, ev_or, ev_cmp, ev_chain, ev_ife, ev_tup, ev_lst, ev_ix, ev_sl, ev_call, ev_bi, ev_ixb, ev_lc, ei_e, ei_rng1, rg_i, ei_rng2, rg_ii, ng_i, io_i, zp_l, zp_t, ei_zip, el_nil, el_cons, eo_no, eo_at, xs_nil, xs_cons, xe_asg, xe_ite, xe_ret, xe_expr, xe_raise, run_fin, bind_ite, onto_ite, cond_ite, seqR_ite, finR_ite, app_ite, cmpB, bd_len_t, bd_len_l, bd_len_r, bd_len_s, bd_list_t, bd_list_l, bd_list_r, bd_list_s, bd_tuple_t, bd_tuple_l, bd_str_i, bd_str_s, bd_int_i, bd_int_b, bd_int_s, bd_sum, bd_min, bd_max, bd_min2, bd_max2, bd_all, bd_any, bd_isi, bd_join, bn_addi, bn_adds, bn_addl, bn_addt, bn_sub, bn_mul, bn_mull, bn_mult, bn_fdiv, bn_mod, bn_pow, ix_t, ix_l, ix_r, ix_s, sl_t, sl_l, sl_s, is_t, is_l, is_r, is_s, isiD, isD, leD, ltD, assignT, setAll, ev_m1, ev_fstr, ef_nil, ef_cons, ev_dgt, xe_try, rv_count, rv_split, rv_sindex, rv_tindex, rv_lindex, rv_lcnt, bd_isx, bd_count, bd_split, bd_sindex, bd_tindex, bd_lindex_b, bd_lindex_s, bd_lcnt, so_s, so_i, idc_d, a0, a1, g_word_word, g_word_digits, g_word_letters, g_word_number, g_word_choice, g_word_repeat, g_digits_word, g_digits_digits, g_digits_letters, g_digits_number, g_digits_choice, g_digits_repeat, g_letters_word, g_letters_digits, g_letters_letters, g_letters_number, g_letters_choice, g_letters_repeat, g_number_word, g_number_digits, g_number_letters, g_number_number, g_number_choice, g_number_repeat, g_choice_word, g_choice_digits, g_choice_letters, g_choice_number, g_choice_choice, g_choice_repeat, g_repeat_word, g_repeat_digits, g_repeat_letters, g_repeat_number, g_repeat_choice, g_repeat_repeat, g_n_word, g_n_number, g_n_choice, eqD_int, isS]
    | [a, b] =>
      have a0 : L2.atI [D.str nm, D.int a, D.int b] 0 = some (.str nm) := rfl
      have a1 : L2.atI [D.str nm, D.int a, D.int b] 1 = some (.int a) := rfl
      have a2 : L2.atI [D.str nm, D.int a, D.int b] 2 = some (.int b) := rfl
      have hd := in_dl nm
      have ps := p_is_span N n a b 0 4 S
      obtain ⟨q, hq⟩ : ∃ q, (nm == tx "digits" || nm == tx "letters") = q := ⟨_, rfl⟩
      rw [hq] at hd
      have hi : isS (.nums nm [a, b]) = (q && spanB a b 0 4) := by rw [← hq]; rfl
      rw [hi]
      cases q
      · simp [b_is_simple, encR0, ev_var, ev_con, ev_bin, ev_neg, ev_not, ev_and, ev_or, ev_cmp, ev_chain, ev_ife, ev_tup, ev_lst, ev_ix, ev_sl, ev_call, ev_bi, ev_ixb, ev_lc, ei_e, ei_rng1, rg_i, ei_rng2, rg_ii, ng_i, io_i, zp_l, zp_t, ei_zip, el_nil, el_cons, eo_no, eo_at, xs_nil, xs_cons, xe_asg, xe_ite, xe_ret, xe_expr, xe_raise, run_fin, bind_ite, onto_ite, cond_ite, seqR_ite, finR_ite, app_ite, cmpB, bd_len_t, bd_len_l, bd_len_r, bd_len_s, bd_list_t, bd_list_l, bd_list_r, bd_list_s, bd_tuple_t, bd_tuple_l, bd_str_i, bd_str_s, bd_int_i, bd_int_b, bd_int_s, bd_sum, bd_min, bd_max, bd_min2, bd_max2, bd_all, bd_any, bd_isi, bd_join, bn_addi, bn_adds, bn_addl, bn_addt, bn_sub, bn_mul, bn_mull, bn_mult, bn_fdiv, bn_mod, bn_pow, ix_t, ix_l, ix_r, ix_s, sl_t, sl_l, sl_s, is_t, is_l, is_r, is_s, isiD, isD, leD, ltD, assignT, setAll, ev_m1, ev_fstr, ef_nil, ef_cons, ev_dgt, xe_try, rv_count, rv_split, rv_sindex, rv_tindex, rv_lindex, rv_lcnt, bd_isx, bd_count, bd_split, bd_sindex, bd_tindex, bd_lindex_b, bd_lindex_s, bd_lcnt, so_s, so_i, idc_d, a0, a1, a2, eqD_int, hd]
      · simp [b_is_simple, encR0, ev_var, ev_con, ev_bin, ev_neg, ev_not, ev_and, ev_or, ev_cmp, ev_chain, ev_ife, ev_tup, ev_lst, ev_ix, ev_sl, ev_call, ev_bi, ev_ixb, ev_lc, ei_e, ei_rng1, rg_i, ei_rng2, rg_ii, ng_i, io_i, zp_l, zp_t, ei_zip, el_nil, el_cons, eo_no, eo_at, xs_nil, xs_cons, xe_asg, xe_ite, xe_ret, xe_expr, xe_raise, run_fin, bind_ite, onto_ite, cond_ite, seqR_ite, finR_ite, app_ite, cmpB, bd_len_t, bd_len_l, bd_len_r, bd_len_s, bd_list_t, bd_list_l, bd_list_r, bd_list_s, bd_tuple_t, bd_tuple_l, bd_str_i, bd_str_s, bd_int_i, bd_int_b, bd_int_s, bd_sum, bd_min, bd_max, bd_min2, bd_max2, bd_all, bd_any, bd_isi, bd_join, bn_addi, bn_adds, bn_addl, bn_addt, bn_sub, bn_mul, bn_mull, bn_mult, bn_fdiv, bn_mod, bn_pow, ix_t, ix_l, ix_r, ix_s, sl_t, sl_l, sl_s, is_t, is_l, is_r, is_s, isiD, isD, leD, ltD, assignT, setAll, ev_m1, ev_fstr, ef_nil, ef_cons, ev_dgt, xe_try, rv_count, rv_split, rv_sindex, rv_tindex, rv_lindex, rv_lcnt, bd_isx, bd_count, bd_split, bd_sindex, bd_tindex, bd_lindex_b, bd_lindex_s, bd_lcnt, so_s, so_i, idc_d, a0, a1, a2, eqD_int, hd, ps, spanB]
    | a :: b :: c :: r =>
      have h3 : ¬ ((r.length : Int) + 1 + 1 + 1 + 1) ≤ 3 := by omega
      have h2 : (2 : Int) ≤ ((r.length : Int) + 1 + 1 + 1 + 1) := by omega
      simp [b_is_simple, encR0, ev_var, ev_con, ev_bin, ev_neg, ev_not, ev_and, ev_or, ev_cmp, ev_chain, ev_ife, ev_tup, ev_lst, ev_ix, ev_sl, ev_call, ev_bi, ev_ixb, ev_lc, ei_e, ei_rng1, rg_i, ei_rng2, rg_ii, ng_i, io_i, zp_l, zp_t, ei_zip, el_nil, el_cons, eo_no, eo_at, xs_nil, xs_cons, xe_asg, xe_ite, xe_ret, xe_expr, xe_raise, run_fin, bind_ite, onto_ite, cond_ite, seqR_ite, finR_ite, app_ite, cmpB, bd_len_t, bd_len_l, bd_len_r, bd_len_s, bd_list_t, bd_list_l, bd_list_r, bd_list_s, bd_tuple_t, bd_tuple_l, bd_str_i, bd_str_s, bd_int_i, bd_int_b, bd_int_s, bd_sum, bd_min, bd_max, bd_min2, bd_max2, bd_all, bd_any, bd_isi, bd_join, bn_addi, bn_adds, bn_addl, bn_addt, bn_sub, bn_mul, bn_mull, bn_mult, bn_fdiv, bn_mod, bn_pow, ix_t, ix_l, ix_r, ix_s, sl_t, sl_l, sl_s, is_t, is_l, is_r, is_s, isiD, isD, leD, ltD, assignT, setAll, ev_m1, ev_fstr, ef_nil, ef_cons, ev_dgt, xe_try, rv_count, rv_split, rv_sindex, rv_tindex, rv_lindex, rv_lcnt, bd_isx, bd_count, bd_split, bd_sindex, bd_tindex, bd_lindex_b, bd_lindex_s, bd_lcnt, so_s, so_i, idc_d, eqD_int, isS, h3, h2]
theorem p_fieldR (N n : Nat) (r : RF) (hr : smRF r) (S : Sh) : Φs N fbs (n + 4) f_is_field [encRF r] S = .ok (.bl (isF r)) S := by
  cases r with
  | one r =>
    have h := p_simpleR N n r hr S
    have hk : Φs N fbs (n + 4) f_is_field [encR0 r] S = Φs N fbs (n + 3) f_is_simple [encR0 r] S := by
      rw [u_is_field, h]
      cases r with
      | nums nm is =>
        match is, hr.2 with
        | [], hn => simp only [encR0, List.map_nil] at h; simp [b_is_field, encR0, ev_var, ev_con, ev_bin, ev_neg, ev_not, ev_and, ev_or, ev_cmp, ev_chain, ev_ife, ev_tup, ev_lst, ev_ix, ev_sl, ev_call, ev_bi, ev_ixb, ev_lc, ei_e, ei_rng1, rg_i, ei_rng2, rg_ii, ng_i, io_i, zp_l, zp_t, ei_zip, el_nil, el_cons, eo_no, eo_at, xs_nil, xs_cons, xe_asg, xe_ite, xe_ret, xe_expr, xe_raise, run_fin, bind_ite, onto_ite, cond_ite, seqR_ite, finR_ite, app_ite, cmpB, bd_len_t, bd_len_l, bd_len_r, bd_len_s, bd_list_t, bd_list_l, bd_list_r, bd_list_s, bd_tuple_t, bd_tuple_l, bd_str_i, bd_str_s, bd_int_i, bd_int_b, bd_int_s, bd_sum, bd_min, bd_max, bd_min2, bd_max2, bd_all, bd_any, bd_isi, bd_join, bn_addi, bn_adds, bn_addl, bn_addt, bn_sub, bn_mul, bn_mull, bn_mult, bn_fdiv, bn_mod, bn_pow, ix_t, ix_l, ix_r, ix_s, sl_t, sl_l, sl_s, is_t, is_l, is_r, is_s, isiD, isD, leD, ltD, assignT, setAll, ev_m1, ev_fstr, ef_nil, ef_cons, ev_dgt, xe_try, rv_count, rv_split, rv_sindex, rv_tindex, rv_lindex, rv_lcnt, bd_isx, bd_count, bd_split, bd_sindex, bd_tindex, bd_lindex_b, bd_lindex_s, bd_lcnt, so_s, so_i, idc_d, eqD_int, h]
        | [a], hn => simp only [encR0, List.map_nil, List.map_cons] at h; simp [b_is_field, encR0, ev_var, ev_con, ev_bin, ev_neg, ev_not, ev_and, ev_or, ev_cmp, ev_chain, ev_ife, ev_tup, ev_lst, ev_ix, ev_sl, ev_call, ev_bi, ev_ixb, ev_lc, ei_e, ei_rng1, rg_i, ei_rng2, rg_ii, ng_i, io_i, zp_l, zp_t, ei_zip, el_nil, el_cons, eo_no, eo_at, xs_nil, xs_cons, xe_asg, xe_ite, xe_ret, xe_expr, xe_raise, run_fin, bind_ite, onto_ite, cond_ite, seqR_ite, finR_ite, app_ite, cmpB, bd_len_t, bd_len_l, bd_len_r, bd_len_s, bd_list_t, bd_list_l, bd_list_r, bd_list_s, bd_tuple_t, bd_tuple_l, bd_str_i, bd_str_s, bd_int_i, bd_int_b, bd_int_s, bd_sum, bd_min, bd_max, bd_min2, bd_max2, bd_all, bd_any, bd_isi, bd_join, bn_addi, bn_adds, bn_addl, bn_addt, bn_sub, bn_mul, bn_mull, bn_mult, bn_fdiv, bn_mod, bn_pow, ix_t, ix_l, ix_r, ix_s, sl_t, sl_l, sl_s, is_t, is_l, is_r, is_s, isiD, isD, leD, ltD, assignT, setAll, ev_m1, ev_fstr, ef_nil, ef_cons, ev_dgt, xe_try, rv_count, rv_split, rv_sindex, rv_tindex, rv_lindex, rv_lcnt, bd_isx, bd_count, bd_split, bd_sindex, bd_tindex, bd_lindex_b, bd_lindex_s, bd_lcnt, so_s, so_i, idc_d, eqD_int, h]
        | [a, b], hn => simp only [encR0, List.map_nil, List.map_cons] at h; simp [b_is_field, encR0, ev_var, ev_con, ev_bin, ev_neg, ev_not, ev_and, ev_or, ev_cmp, ev_chain, ev_ife, ev_tup, ev_lst, ev_ix, ev_sl, ev_call, ev_bi, ev_ixb, ev_lc, ei_e, ei_rng1, rg_i, ei_rng2, rg_ii, ng_i, io_i, zp_l, zp_t, ei_zip, el_nil, el_cons, eo_no, eo_at, xs_nil, xs_cons, xe_asg, xe_ite, xe_ret, xe_expr, xe_raise, run_fin, bind_ite, onto_ite, cond_ite, seqR_ite, finR_ite, app_ite, cmpB, bd_len_t, bd_len_l, bd_len_r, bd_len_s, bd_list_t, bd_list_l, bd_list_r, bd_list_s, bd_tuple_t, bd_tuple_l, bd_str_i, bd_str_s, bd_int_i, bd_int_b, bd_int_s, bd_sum, bd_min, bd_max, bd_min2, bd_max2, bd_all, bd_any, bd_isi, bd_join, bn_addi, bn_adds, bn_addl, bn_addt, bn_sub, bn_mul, bn_mull, bn_mult, bn_fdiv, bn_mod, bn_pow, ix_t, ix_l, ix_r, ix_s, sl_t, sl_l, sl_s, is_t, is_l, is_r, is_s, isiD, isD, leD, ltD, assignT, setAll, ev_m1, ev_fstr, ef_nil, ef_cons, ev_dgt, xe_try, rv_count, rv_split, rv_sindex, rv_tindex, rv_lindex, rv_lcnt, bd_isx, bd_count, bd_split, bd_sindex, bd_tindex, bd_lindex_b, bd_lindex_s, bd_lcnt, so_s, so_i, idc_d, eqD_int, h]
        | [a, b, c], hn =>
          have a0 : L2.atI [D.str nm, D.int a, D.int b, D.int c] 0 = some (.str nm) := rfl
          simp only [encR0, List.map_nil, List.map_cons] at h
          rcases hn with e | e | e <;> subst e <;> simp [b_is_field, encR0, ev_var, ev_con, ev_bin, ev_neg, ev_not, ev_and, ev_or, ev_cmp, ev_chain, ev_ife, ev_tup, ev_lst, ev_ix, ev_sl, ev_call, ev_bi, ev_ixb, ev_lc, ei_e, ei_rng1, rg_i, ei_rng2, rg_ii, ng_i, io_i, zp_l, zp_t, ei_zip, el_nil, el_cons, eo_no, eo_at, xs_nil, xs_cons, xe_asg, xe_ite, xe_ret, xe_expr, xe_raise, run_fin, bind_ite, onto_ite, cond_ite, seqR_ite, finR_ite, app_ite, cmpB, bd_len_t, bd_len_l, bd_len_r, bd_len_s, bd_list_t, bd_list_l, bd_list_r, bd_list_s, bd_tuple_t, bd_tuple_l, bd_str_i, bd_str_s, bd_int_i, bd_int_b, bd_int_s, bd_sum, bd_min, bd_max, bd_min2, bd_max2, bd_all, bd_any, bd_isi, bd_join, bn_addi, bn_adds, bn_addl, bn_addt, bn_sub, bn_mul, bn_mull, bn_mult, bn_fdiv, bn_mod, bn_pow, ix_t, ix_l, ix_r, ix_s, sl_t, sl_l, sl_s, is_t, is_l, is_r, is_s, isiD, isD, leD, ltD, assignT, setAll, ev_m1, ev_fstr, ef_nil, ef_cons, ev_dgt, xe_try, rv_count, rv_split, rv_sindex, rv_tindex, rv_lindex, rv_lcnt, bd_isx, bd_count, bd_split, bd_sindex, bd_tindex, bd_lindex_b, bd_lindex_s, bd_lcnt, so_s, so_i, idc_d, eqD_int, h, a0, g_word_word, g_word_digits, g_word_letters, g_word_number, g_word_choice, g_word_repeat, g_digits_word, g_digits_digits, g_digits_letters, g_digits_number, g_digits_choice, g_digits_repeat, g_letters_word, g_letters_digits, g_letters_letters, g_letters_number, g_letters_choice, g_letters_repeat, g_number_word, g_number_digits, g_number_letters, g_number_number, g_number_choice, g_number_repeat, g_choice_word, g_choice_digits, g_choice_letters, g_choice_number, g_choice_choice, g_choice_repeat, g_repeat_word, g_repeat_digits, g_repeat_letters, g_repeat_number, g_repeat_choice, g_repeat_repeat, g_n_repeat]
        | a :: b :: c :: d :: q, hn =>
          have h4 : ¬ ((q.length : Int) + 1 + 1 + 1 + 1 + 1) = 4 := by omega
          simp only [encR0, List.map_cons] at h
          simp [b_is_field, encR0, ev_var, ev_con, ev_bin, ev_neg, ev_not, ev_and, ev_or, ev_cmp, ev_chain, ev_ife, ev_tup, ev_lst, ev_ix, ev_sl, ev_call, ev_bi, ev_ixb, ev_lc, ei_e, ei_rng1, rg_i, ei_rng2, rg_ii, ng_i, io_i, zp_l, zp_t, ei_zip, el_nil, el_cons, eo_no, eo_at, xs_nil, xs_cons, xe_asg, xe_ite, xe_ret, xe_expr, xe_raise, run_fin, bind_ite, onto_ite, cond_ite, seqR_ite, finR_ite, app_ite, cmpB, bd_len_t, bd_len_l, bd_len_r, bd_len_s, bd_list_t, bd_list_l, bd_list_r, bd_list_s, bd_tuple_t, bd_tuple_l, bd_str_i, bd_str_s, bd_int_i, bd_int_b, bd_int_s, bd_sum, bd_min, bd_max, bd_min2, bd_max2, bd_all, bd_any, bd_isi, bd_join, bn_addi, bn_adds, bn_addl, bn_addt, bn_sub, bn_mul, bn_mull, bn_mult, bn_fdiv, bn_mod, bn_pow, ix_t, ix_l, ix_r, ix_s, sl_t, sl_l, sl_s, is_t, is_l, is_r, is_s, isiD, isD, leD, ltD, assignT, setAll, ev_m1, ev_fstr, ef_nil, ef_cons, ev_dgt, xe_try, rv_count, rv_split, rv_sindex, rv_tindex, rv_lindex, rv_lcnt, bd_isx, bd_count, bd_split, bd_sindex, bd_tindex, bd_lindex_b, bd_lindex_s, bd_lcnt, so_s, so_i, idc_d, eqD_int, h, h4]
      | word s => simp only [encR0] at h; simp [b_is_field, encR0, ev_var, ev_con, ev_bin, ev_neg, ev_not, ev_and, ev_or, ev_cmp, ev_chain, ev_ife, ev_tup, ev_lst, ev_ix, ev_sl, ev_call, ev_bi, ev_ixb, ev_lc, ei_e, ei_rng1, rg_i, ei_rng2, rg_ii, ng_i, io_i, zp_l, zp_t, ei_zip, el_nil, el_cons, eo_no, eo_at, xs_nil, xs_cons, xe_asg, xe_ite, xe_ret, xe_expr, xe_raise, run_fin, bind_ite, onto_ite, cond_ite, seqR_ite, finR_ite, app_ite, cmpB, bd_len_t, bd_len_l, bd_len_r, bd_len_s, bd_list_t, bd_list_l, bd_list_r, bd_list_s, bd_tuple_t, bd_tuple_l, bd_str_i, bd_str_s, bd_int_i, bd_int_b, bd_int_s, bd_sum, bd_min, bd_max, bd_min2, bd_max2, bd_all, bd_any, bd_isi, bd_join, bn_addi, bn_adds, bn_addl, bn_addt, bn_sub, bn_mul, bn_mull, bn_mult, bn_fdiv, bn_mod, bn_pow, ix_t, ix_l, ix_r, ix_s, sl_t, sl_l, sl_s, is_t, is_l, is_r, is_s, isiD, isD, leD, ltD, assignT, setAll, ev_m1, ev_fstr, ef_nil, ef_cons, ev_dgt, xe_try, rv_count, rv_split, rv_sindex, rv_tindex, rv_lindex, rv_lcnt, bd_isx, bd_count, bd_split, bd_sindex, bd_tindex, bd_lindex_b, bd_lindex_s, bd_lcnt, so_s, so_i, idc_d, eqD_int, h]
      | number s => simp only [encR0] at h; simp [b_is_field, encR0, ev_var, ev_con, ev_bin, ev_neg, ev_not, ev_and, ev_or, ev_cmp, ev_chain, ev_ife, ev_tup, ev_lst, ev_ix, ev_sl, ev_call, ev_bi, ev_ixb, ev_lc, ei_e, ei_rng1, rg_i, ei_rng2, rg_ii, ng_i, io_i, zp_l, zp_t, ei_zip, el_nil, el_cons, eo_no, eo_at, xs_nil, xs_cons, xe_asg, xe_ite, xe_ret, xe_expr, xe_raise, run_fin, bind_ite, onto_ite, cond_ite, seqR_ite, finR_ite, app_ite, cmpB, bd_len_t, bd_len_l, bd_len_r, bd_len_s, bd_list_t, bd_list_l, bd_list_r, bd_list_s, bd_tuple_t, bd_tuple_l, bd_str_i, bd_str_s, bd_int_i, bd_int_b, bd_int_s, bd_sum, bd_min, bd_max, bd_min2, bd_max2, bd_all, bd_any, bd_isi, bd_join, bn_addi, bn_adds, bn_addl, bn_addt, bn_sub, bn_mul, bn_mull, bn_mult, bn_fdiv, bn_mod, bn_pow, ix_t, ix_l, ix_r, ix_s, sl_t, sl_l, sl_s, is_t, is_l, is_r, is_s, isiD, isD, leD, ltD, assignT, setAll, ev_m1, ev_fstr, ef_nil, ef_cons, ev_dgt, xe_try, rv_count, rv_split, rv_sindex, rv_tindex, rv_lindex, rv_lcnt, bd_isx, bd_count, bd_split, bd_sindex, bd_tindex, bd_lindex_b, bd_lindex_s, bd_lcnt, so_s, so_i, idc_d, eqD_int, h]
      | choice s => simp only [encR0] at h; simp [b_is_field, encR0, ev_var, ev_con, ev_bin, ev_neg, ev_not, ev_and, ev_or, ev_cmp, ev_chain, ev_ife, ev_tup, ev_lst, ev_ix, ev_sl, ev_call, ev_bi, ev_ixb, ev_lc, ei_e, ei_rng1, rg_i, ei_rng2, rg_ii, ng_i, io_i, zp_l, zp_t, ei_zip, el_nil, el_cons, eo_no, eo_at, xs_nil, xs_cons, xe_asg, xe_ite, xe_ret, xe_expr, xe_raise, run_fin, bind_ite, onto_ite, cond_ite, seqR_ite, finR_ite, app_ite, cmpB, bd_len_t, bd_len_l, bd_len_r, bd_len_s, bd_list_t, bd_list_l, bd_list_r, bd_list_s, bd_tuple_t, bd_tuple_l, bd_str_i, bd_str_s, bd_int_i, bd_int_b, bd_int_s, bd_sum, bd_min, bd_max, bd_min2, bd_max2, bd_all, bd_any, bd_isi, bd_join, bn_addi, bn_adds, bn_addl, bn_addt, bn_sub, bn_mul, bn_mull, bn_mult, bn_fdiv, bn_mod, bn_pow, ix_t, ix_l, ix_r, ix_s, sl_t, sl_l, sl_s, is_t, is_l, is_r, is_s, isiD, isD, leD, ltD, assignT, setAll, ev_m1, ev_fstr, ef_nil, ef_cons, ev_dgt, xe_try, rv_count, rv_split, rv_sindex, rv_tindex, rv_lindex, rv_lcnt, bd_isx, bd_count, bd_split, bd_sindex, bd_tindex, bd_lindex_b, bd_lindex_s, bd_lcnt, so_s, so_i, idc_d, eqD_int, h]
    exact hk.trans h
  | rep r is =>
    have h := p_simpleR N n r hr.1 S
    have hs : ∀ is : List Int, is.length ≠ 2 → is.length ≤ 998 → Φs N fbs (n + 3) f_is_simple [.tup (.str (tx "repeat") :: encR0 r :: is.map D.int)] S = .ok (.bl false) S := by
      intro is h2 h3
      rw [u_is_simple]
      match is, h2 with
      | [], _ =>
        have a0 : L2.atI [D.str (tx "repeat"), encR0 r] 0 = some (.str (tx "repeat")) := rfl
        simp [b_is_simple, ev_var, ev_con, ev_bin, ev_neg, ev_not, ev_and, ev_or, ev_cmp, ev_chain, ev_ife, ev_tup, ev_lst, ev_ix, ev_sl, ev_call, ev_bi, ev_ixb, ev_lc, ei_e, ei_rng1, rg_i, ei_rng2, rg_ii, ng_i, io_i, zp_l, zp_t, ei_zip, el_nil, el_cons, eo_no, eo_at, xs_nil, xs_cons, xe_asg, xe_ite, xe_ret, xe_expr, xe_raise, run_fin, bind_ite, onto_ite, cond_ite, seqR_ite, finR_ite, app_ite, cmpB, bd_len_t, bd_len_l, bd_len_r, bd_len_s, bd_list_t, bd_list_l, bd_list_r, bd_list_s, bd_tuple_t, bd_tuple_l, bd_str_i, bd_str_s, bd_int_i, bd_int_b, bd_int_s, bd_sum, bd_min, bd_max, bd_min2, bd_max2, bd_all, bd_any, bd_isi, bd_join, bn_addi, bn_adds, bn_addl, bn_addt, bn_sub, bn_mul, bn_mull, bn_mult, bn_fdiv, bn_mod, bn_pow, ix_t, ix_l, ix_r, ix_s, sl_t, sl_l, sl_s, is_t, is_l, is_r, is_s, isiD, isD, leD, ltD, assignT, setAll, ev_m1, ev_fstr, ef_nil, ef_cons, ev_dgt, xe_try, rv_count, rv_split, rv_sindex, rv_tindex, rv_lindex, rv_lcnt, bd_isx, bd_count, bd_split, bd_sindex, bd_tindex, bd_lindex_b, bd_lindex_s, bd_lcnt, so_s, so_i, idc_d, a0, g_word_word, g_word_digits, g_word_letters, g_word_number, g_word_choice, g_word_repeat, g_digits_word, g_digits_digits, g_digits_letters, g_digits_number, g_digits_choice, g_digits_repeat, g_letters_word, g_letters_digits, g_letters_letters, g_letters_number, g_letters_choice, g_letters_repeat, g_number_word, g_number_digits, g_number_letters, g_number_number, g_number_choice, g_number_repeat, g_choice_word, g_choice_digits, g_choice_letters, g_choice_number, g_choice_choice, g_choice_repeat, g_repeat_word, g_repeat_digits, g_repeat_letters, g_repeat_number, g_repeat_choice, g_repeat_repeat, eqD_int]
      | [a], _ =>
        have a0 : L2.atI [D.str (tx "repeat"), encR0 r, D.int a] 0 = some (.str (tx "repeat")) := rfl
        have hi : (tx "repeat" == tx "digits" || tx "repeat" == tx "letters") = false := by decide +kernel
        have hd := in_dl (tx "repeat")
        rw [hi] at hd
        simp [b_is_simple, ev_var, ev_con, ev_bin, ev_neg, ev_not, ev_and, ev_or, ev_cmp, ev_chain, ev_ife, ev_tup, ev_lst, ev_ix, ev_sl, ev_call, ev_bi, ev_ixb, ev_lc, ei_e, ei_rng1, rg_i, ei_rng2, rg_ii, ng_i, io_i, zp_l, zp_t, ei_zip, el_nil, el_cons, eo_no, eo_at, xs_nil, xs_cons, xe_asg, xe_ite, xe_ret, xe_expr, xe_raise, run_fin, bind_ite, onto_ite, cond_ite, seqR_ite, finR_ite, app_ite, cmpB, bd_len_t, bd_len_l, bd_len_r, bd_len_s, bd_list_t, bd_list_l, bd_list_r, bd_list_s, bd_tuple_t, bd_tuple_l, bd_str_i, bd_str_s, bd_int_i, bd_int_b, bd_int_s, bd_sum, bd_min, bd_max, bd_min2, bd_max2, bd_all, bd_any, bd_isi, bd_join, bn_addi, bn_adds, bn_addl, bn_addt, bn_sub, bn_mul, bn_mull, bn_mult, bn_fdiv, bn_mod, bn_pow, ix_t, ix_l, ix_r, ix_s, sl_t, sl_l, sl_s, is_t, is_l, is_r, is_s, isiD, isD, leD, ltD, assignT, setAll, ev_m1, ev_fstr, ef_nil, ef_cons, ev_dgt, xe_try, rv_count, rv_split, rv_sindex, rv_tindex, rv_lindex, rv_lcnt, bd_isx, bd_count, bd_split, bd_sindex, bd_tindex, bd_lindex_b, bd_lindex_s, bd_lcnt, so_s, so_i, idc_d, a0, g_word_word, g_word_digits, g_word_letters, g_word_number, g_word_choice, g_word_repeat, g_digits_word, g_digits_digits, g_digits_letters, g_digits_number, g_digits_choice, g_digits_repeat, g_letters_word, g_letters_digits, g_letters_letters, g_letters_number, g_letters_choice, g_letters_repeat, g_number_word, g_number_digits, g_number_letters, g_number_number, g_number_choice, g_number_repeat, g_choice_word, g_choice_digits, g_choice_letters, g_choice_number, g_choice_choice, g_choice_repeat, g_repeat_word, g_repeat_digits, g_repeat_letters, g_repeat_number, g_repeat_choice, g_repeat_repeat, eqD_int, hd]
      | [a, b], h2 => exact absurd rfl h2
      | a :: b :: c :: q, _ =>
        have h3 : ¬ ((q.length : Int) + 1 + 1 + 1 + 1 + 1) ≤ 3 := by omega
        have h2 : (2 : Int) ≤ ((q.length : Int) + 1 + 1 + 1 + 1 + 1) := by omega
        simp [b_is_simple, ev_var, ev_con, ev_bin, ev_neg, ev_not, ev_and, ev_or, ev_cmp, ev_chain, ev_ife, ev_tup, ev_lst, ev_ix, ev_sl, ev_call, ev_bi, ev_ixb, ev_lc, ei_e, ei_rng1, rg_i, ei_rng2, rg_ii, ng_i, io_i, zp_l, zp_t, ei_zip, el_nil, el_cons, eo_no, eo_at, xs_nil, xs_cons, xe_asg, xe_ite, xe_ret, xe_expr, xe_raise, run_fin, bind_ite, onto_ite, cond_ite, seqR_ite, finR_ite, app_ite, cmpB, bd_len_t, bd_len_l, bd_len_r, bd_len_s, bd_list_t, bd_list_l, bd_list_r, bd_list_s, bd_tuple_t, bd_tuple_l, bd_str_i, bd_str_s, bd_int_i, bd_int_b, bd_int_s, bd_sum, bd_min, bd_max, bd_min2, bd_max2, bd_all, bd_any, bd_isi, bd_join, bn_addi, bn_adds, bn_addl, bn_addt, bn_sub, bn_mul, bn_mull, bn_mult, bn_fdiv, bn_mod, bn_pow, ix_t, ix_l, ix_r, ix_s, sl_t, sl_l, sl_s, is_t, is_l, is_r, is_s, isiD, isD, leD, ltD, assignT, setAll, ev_m1, ev_fstr, ef_nil, ef_cons, ev_dgt, xe_try, rv_count, rv_split, rv_sindex, rv_tindex, rv_lindex, rv_lcnt, bd_isx, bd_count, bd_split, bd_sindex, bd_tindex, bd_lindex_b, bd_lindex_s, bd_lcnt, so_s, so_i, idc_d, eqD_int, h3, h2]
    rw [u_is_field]
    match is, hr.2 with
    | [], _ => have := hs [] (by simp) (by simp); simp only [List.map_nil] at this; simp [b_is_field, encRF, ev_var, ev_con, ev_bin, ev_neg, ev_not, ev_and, ev_or, ev_cmp, ev_chain, ev_ife, ev_tup, ev_lst, ev_ix, ev_sl, ev_call, ev_bi, ev_ixb, ev_lc, ei_e, ei_rng1, rg_i, ei_rng2, rg_ii, ng_i, io_i, zp_l, zp_t, ei_zip, el_nil, el_cons, eo_no, eo_at, xs_nil, xs_cons, xe_asg, xe_ite, xe_ret, xe_expr, xe_raise, run_fin, bind_ite, onto_ite, cond_ite, seqR_ite, finR_ite, app_ite, cmpB, bd_len_t, bd_len_l, bd_len_r, bd_len_s, bd_list_t, bd_list_l, bd_list_r, bd_list_s, bd_tuple_t, bd_tuple_l, bd_str_i, bd_str_s, bd_int_i, bd_int_b, bd_int_s, bd_sum, bd_min, bd_max, bd_min2, bd_max2, bd_all, bd_any, bd_isi, bd_join, bn_addi, bn_adds, bn_addl, bn_addt, bn_sub, bn_mul, bn_mull, bn_mult, bn_fdiv, bn_mod, bn_pow, ix_t, ix_l, ix_r, ix_s, sl_t, sl_l, sl_s, is_t, is_l, is_r, is_s, isiD, isD, leD, ltD, assignT, setAll, ev_m1, ev_fstr, ef_nil, ef_cons, ev_dgt, xe_try, rv_count, rv_split, rv_sindex, rv_tindex, rv_lindex, rv_lcnt, bd_isx, bd_count, bd_split, bd_sindex, bd_tindex, bd_lindex_b, bd_lindex_s, bd_lcnt, so_s, so_i, idc_d, eqD_int, this, isF]
    | [a], _ => have := hs [a] (by simp) (by simp); simp only [List.map_nil, List.map_cons] at this; simp [b_is_field, encRF, ev_var, ev_con, ev_bin, ev_neg, ev_not, ev_and, ev_or, ev_cmp, ev_chain, ev_ife, ev_tup, ev_lst, ev_ix, ev_sl, ev_call, ev_bi, ev_ixb, ev_lc, ei_e, ei_rng1, rg_i, ei_rng2, rg_ii, ng_i, io_i, zp_l, zp_t, ei_zip, el_nil, el_cons, eo_no, eo_at, xs_nil, xs_cons, xe_asg, xe_ite, xe_ret, xe_expr, xe_raise, run_fin, bind_ite, onto_ite, cond_ite, seqR_ite, finR_ite, app_ite, cmpB, bd_len_t, bd_len_l, bd_len_r, bd_len_s, bd_list_t, bd_list_l, bd_list_r, bd_list_s, bd_tuple_t, bd_tuple_l, bd_str_i, bd_str_s, bd_int_i, bd_int_b, bd_int_s, bd_sum, bd_min, bd_max, bd_min2, bd_max2, bd_all, bd_any, bd_isi, bd_join, bn_addi, bn_adds, bn_addl, bn_addt, bn_sub, bn_mul, bn_mull, bn_mult, bn_fdiv, bn_mod, bn_pow, ix_t, ix_l, ix_r, ix_s, sl_t, sl_l, sl_s, is_t, is_l, is_r, is_s, isiD, isD, leD, ltD, assignT, setAll, ev_m1, ev_fstr, ef_nil, ef_cons, ev_dgt, xe_try, rv_count, rv_split, rv_sindex, rv_tindex, rv_lindex, rv_lcnt, bd_isx, bd_count, bd_split, bd_sindex, bd_tindex, bd_lindex_b, bd_lindex_s, bd_lcnt, so_s, so_i, idc_d, eqD_int, this, isF]
    | [a, b], _ =>
      have a0 : L2.atI [D.str (tx "repeat"), encR0 r, D.int a, D.int b] 0 = some (.str (tx "repeat")) := rfl
      have a1 : L2.atI [D.str (tx "repeat"), encR0 r, D.int a, D.int b] 1 = some (encR0 r) := rfl
      have a2 : L2.atI [D.str (tx "repeat"), encR0 r, D.int a, D.int b] 2 = some (.int a) := rfl
      have a3 : L2.atI [D.str (tx "repeat"), encR0 r, D.int a, D.int b] 3 = some (.int b) := rfl
      have ps := p_is_span N (n + 1) a b 1 3 S
      have hi : isF (.rep r [a, b]) = (isS r && spanB a b 1 3) := rfl
      rw [hi]
      cases hq : isS r
      · rw [hq] at h
        simp [b_is_field, encRF, ev_var, ev_con, ev_bin, ev_neg, ev_not, ev_and, ev_or, ev_cmp, ev_chain, ev_ife, ev_tup, ev_lst, ev_ix, ev_sl, ev_call, ev_bi, ev_ixb, ev_lc, ei_e, ei_rng1, rg_i, ei_rng2, rg_ii, ng_i, io_i, zp_l, zp_t, ei_zip, el_nil, el_cons, eo_no, eo_at, xs_nil, xs_cons, xe_asg, xe_ite, xe_ret, xe_expr, xe_raise, run_fin, bind_ite, onto_ite, cond_ite, seqR_ite, finR_ite, app_ite, cmpB, bd_len_t, bd_len_l, bd_len_r, bd_len_s, bd_list_t, bd_list_l, bd_list_r, bd_list_s, bd_tuple_t, bd_tuple_l, bd_str_i, bd_str_s, bd_int_i, bd_int_b, bd_int_s, bd_sum, bd_min, bd_max, bd_min2, bd_max2, bd_all, bd_any, bd_isi, bd_join, bn_addi, bn_adds, bn_addl, bn_addt, bn_sub, bn_mul, bn_mull, bn_mult, bn_fdiv, bn_mod, bn_pow, ix_t, ix_l, ix_r, ix_s, sl_t, sl_l, sl_s, is_t, is_l, is_r, is_s, isiD, isD, leD, ltD, assignT, setAll, ev_m1, ev_fstr, ef_nil, ef_cons, ev_dgt, xe_try, rv_count, rv_split, rv_sindex, rv_tindex, rv_lindex, rv_lcnt, bd_isx, bd_count, bd_split, bd_sindex, bd_tindex, bd_lindex_b, bd_lindex_s, bd_lcnt, so_s, so_i, idc_d, eqD_int, a0, a1, a2, a3, g_word_word, g_word_digits, g_word_letters, g_word_number, g_word_choice, g_word_repeat, g_digits_word, g_digits_digits, g_digits_letters, g_digits_number, g_digits_choice, g_digits_repeat, g_letters_word, g_letters_digits, g_letters_letters, g_letters_number, g_letters_choice, g_letters_repeat, g_number_word, g_number_digits, g_number_letters, g_number_number, g_number_choice, g_number_repeat, g_choice_word, g_choice_digits, g_choice_letters, g_choice_number, g_choice_choice, g_choice_repeat, g_repeat_word, g_repeat_digits, g_repeat_letters, g_repeat_number, g_repeat_choice, g_repeat_repeat, h]
      · rw [hq] at h
        simp [b_is_field, encRF, ev_var, ev_con, ev_bin, ev_neg, ev_not, ev_and, ev_or, ev_cmp, ev_chain, ev_ife, ev_tup, ev_lst, ev_ix, ev_sl, ev_call, ev_bi, ev_ixb, ev_lc, ei_e, ei_rng1, rg_i, ei_rng2, rg_ii, ng_i, io_i, zp_l, zp_t, ei_zip, el_nil, el_cons, eo_no, eo_at, xs_nil, xs_cons, xe_asg, xe_ite, xe_ret, xe_expr, xe_raise, run_fin, bind_ite, onto_ite, cond_ite, seqR_ite, finR_ite, app_ite, cmpB, bd_len_t, bd_len_l, bd_len_r, bd_len_s, bd_list_t, bd_list_l, bd_list_r, bd_list_s, bd_tuple_t, bd_tuple_l, bd_str_i, bd_str_s, bd_int_i, bd_int_b, bd_int_s, bd_sum, bd_min, bd_max, bd_min2, bd_max2, bd_all, bd_any, bd_isi, bd_join, bn_addi, bn_adds, bn_addl, bn_addt, bn_sub, bn_mul, bn_mull, bn_mult, bn_fdiv, bn_mod, bn_pow, ix_t, ix_l, ix_r, ix_s, sl_t, sl_l, sl_s, is_t, is_l, is_r, is_s, isiD, isD, leD, ltD, assignT, setAll, ev_m1, ev_fstr, ef_nil, ef_cons, ev_dgt, xe_try, rv_count, rv_split, rv_sindex, rv_tindex, rv_lindex, rv_lcnt, bd_isx, bd_count, bd_split, bd_sindex, bd_tindex, bd_lindex_b, bd_lindex_s, bd_lcnt, so_s, so_i, idc_d, eqD_int, a0, a1, a2, a3, g_word_word, g_word_digits, g_word_letters, g_word_number, g_word_choice, g_word_repeat, g_digits_word, g_digits_digits, g_digits_letters, g_digits_number, g_digits_choice, g_digits_repeat, g_letters_word, g_letters_digits, g_letters_letters, g_letters_number, g_letters_choice, g_letters_repeat, g_number_word, g_number_digits, g_number_letters, g_number_number, g_number_choice, g_number_repeat, g_choice_word, g_choice_digits, g_choice_letters, g_choice_number, g_choice_choice, g_choice_repeat, g_repeat_word, g_repeat_digits, g_repeat_letters, g_repeat_number, g_repeat_choice, g_repeat_repeat, h, ps, spanB]
    | a :: b :: c :: q, hl =>
      have := hs (a :: b :: c :: q) (by simp) hl
      have h4 : ¬ ((q.length : Int) + 1 + 1 + 1 + 1 + 1) = 4 := by omega
      simp only [List.map_cons] at this
      simp [b_is_field, encRF, ev_var, ev_con, ev_bin, ev_neg, ev_not, ev_and, ev_or, ev_cmp, ev_chain, ev_ife, ev_tup, ev_lst, ev_ix, ev_sl, ev_call, ev_bi, ev_ixb, ev_lc, ei_e, ei_rng1, rg_i, ei_rng2, rg_ii, ng_i, io_i, zp_l, zp_t, ei_zip, el_nil, el_cons, eo_no, eo_at, xs_nil, xs_cons, xe_asg, xe_ite, xe_ret, xe_expr, xe_raise, run_fin, bind_ite, onto_ite, cond_ite, seqR_ite, finR_ite, app_ite, cmpB, bd_len_t, bd_len_l, bd_len_r, bd_len_s, bd_list_t, bd_list_l, bd_list_r, bd_list_s, bd_tuple_t, bd_tuple_l, bd_str_i, bd_str_s, bd_int_i, bd_int_b, bd_int_s, bd_sum, bd_min, bd_max, bd_min2, bd_max2, bd_all, bd_any, bd_isi, bd_join, bn_addi, bn_adds, bn_addl, bn_addt, bn_sub, bn_mul, bn_mull, bn_mult, bn_fdiv, bn_mod, bn_pow, ix_t, ix_l, ix_r, ix_s, sl_t, sl_l, sl_s, is_t, is_l, is_r, is_s, isiD, isD, leD, ltD, assignT, setAll, ev_m1, ev_fstr, ef_nil, ef_cons, ev_dgt, xe_try, rv_count, rv_split, rv_sindex, rv_tindex, rv_lindex, rv_lcnt, bd_isx, bd_count, bd_split, bd_sindex, bd_tindex, bd_lindex_b, bd_lindex_s, bd_lcnt, so_s, so_i, idc_d, eqD_int, this, isF, h4]
def encRs (rs : List RF) : D := .tup (rs.map encRF)
theorem p_formatR (N n : Nat) (rs : List RF) (hl : rs.length ≤ 1000) (hr : ∀ r ∈ rs, smRF r) (S : Sh) : Φs N fbs (n + 5) f_is_format [encRs rs] S = .ok (.bl (isFm rs)) S := by
  rw [u_is_format]
  have e1 : ∀ a b : SV, lcK (keepF (Φs N fbs (n + 4)) [a, b] [1] (.call f_is_field (.cons (.var 1) .nil)) (.nm 1) (.con (.bl true))) (rs.map encRF) S = .ok (.lst (rs.map fun t => D.bl (isF t))) S := fun a b =>
    lcK_m (fun t => D.bl (isF t)) rs (by show _ ≤ 1000000; omega) fun t ht => by simp [keepF, wipeE, ev_var, ev_con, ev_bin, ev_neg, ev_not, ev_and, ev_or, ev_cmp, ev_chain, ev_ife, ev_tup, ev_lst, ev_ix, ev_sl, ev_call, ev_bi, ev_ixb, ev_lc, ei_e, ei_rng1, rg_i, ei_rng2, rg_ii, ng_i, io_i, zp_l, zp_t, ei_zip, el_nil, el_cons, eo_no, eo_at, xs_nil, xs_cons, xe_asg, xe_ite, xe_ret, xe_expr, xe_raise, run_fin, bind_ite, onto_ite, cond_ite, seqR_ite, finR_ite, app_ite, cmpB, bd_len_t, bd_len_l, bd_len_r, bd_len_s, bd_list_t, bd_list_l, bd_list_r, bd_list_s, bd_tuple_t, bd_tuple_l, bd_str_i, bd_str_s, bd_int_i, bd_int_b, bd_int_s, bd_sum, bd_min, bd_max, bd_min2, bd_max2, bd_all, bd_any, bd_isi, bd_join, bn_addi, bn_adds, bn_addl, bn_addt, bn_sub, bn_mul, bn_mull, bn_mult, bn_fdiv, bn_mod, bn_pow, ix_t, ix_l, ix_r, ix_s, sl_t, sl_l, sl_s, is_t, is_l, is_r, is_s, isiD, isD, leD, ltD, assignT, setAll, ev_m1, ev_fstr, ef_nil, ef_cons, ev_dgt, xe_try, rv_count, rv_split, rv_sindex, rv_tindex, rv_lindex, rv_lcnt, bd_isx, bd_count, bd_split, bd_sindex, bd_tindex, bd_lindex_b, bd_lindex_s, bd_lcnt, so_s, so_i, idc_d, p_fieldR N n t (hr t ht)]
  by_cases h1 : 1 ≤ rs.length
  · by_cases h2 : rs.length ≤ 6
    · have h1' : (1 : Int) ≤ rs.length := by omega
      have h2' : (rs.length : Int) ≤ 6 := by omega
      simp [b_is_format, encRs, ev_var, ev_con, ev_bin, ev_neg, ev_not, ev_and, ev_or, ev_cmp, ev_chain, ev_ife, ev_tup, ev_lst, ev_ix, ev_sl, ev_call, ev_bi, ev_ixb, ev_lc, ei_e, ei_rng1, rg_i, ei_rng2, rg_ii, ng_i, io_i, zp_l, zp_t, ei_zip, el_nil, el_cons, eo_no, eo_at, xs_nil, xs_cons, xe_asg, xe_ite, xe_ret, xe_expr, xe_raise, run_fin, bind_ite, onto_ite, cond_ite, seqR_ite, finR_ite, app_ite, cmpB, bd_len_t, bd_len_l, bd_len_r, bd_len_s, bd_list_t, bd_list_l, bd_list_r, bd_list_s, bd_tuple_t, bd_tuple_l, bd_str_i, bd_str_s, bd_int_i, bd_int_b, bd_int_s, bd_sum, bd_min, bd_max, bd_min2, bd_max2, bd_all, bd_any, bd_isi, bd_join, bn_addi, bn_adds, bn_addl, bn_addt, bn_sub, bn_mul, bn_mull, bn_mult, bn_fdiv, bn_mod, bn_pow, ix_t, ix_l, ix_r, ix_s, sl_t, sl_l, sl_s, is_t, is_l, is_r, is_s, isiD, isD, leD, ltD, assignT, setAll, ev_m1, ev_fstr, ef_nil, ef_cons, ev_dgt, xe_try, rv_count, rv_split, rv_sindex, rv_tindex, rv_lindex, rv_lcnt, bd_isx, bd_count, bd_split, bd_sindex, bd_tindex, bd_lindex_b, bd_lindex_s, bd_lcnt, so_s, so_i, idc_d, isFm, h1, h2, h1', h2', e1]
      rw [blsD_map]
      simp only [Option.map_some, lift_some, Res.bind_ok, List.all_map]
      simp
    · have h2' : ¬ (rs.length : Int) ≤ 6 := by omega
      simp [b_is_format, encRs, ev_var, ev_con, ev_bin, ev_neg, ev_not, ev_and, ev_or, ev_cmp, ev_chain, ev_ife, ev_tup, ev_lst, ev_ix, ev_sl, ev_call, ev_bi, ev_ixb, ev_lc, ei_e, ei_rng1, rg_i, ei_rng2, rg_ii, ng_i, io_i, zp_l, zp_t, ei_zip, el_nil, el_cons, eo_no, eo_at, xs_nil, xs_cons, xe_asg, xe_ite, xe_ret, xe_expr, xe_raise, run_fin, bind_ite, onto_ite, cond_ite, seqR_ite, finR_ite, app_ite, cmpB, bd_len_t, bd_len_l, bd_len_r, bd_len_s, bd_list_t, bd_list_l, bd_list_r, bd_list_s, bd_tuple_t, bd_tuple_l, bd_str_i, bd_str_s, bd_int_i, bd_int_b, bd_int_s, bd_sum, bd_min, bd_max, bd_min2, bd_max2, bd_all, bd_any, bd_isi, bd_join, bn_addi, bn_adds, bn_addl, bn_addt, bn_sub, bn_mul, bn_mull, bn_mult, bn_fdiv, bn_mod, bn_pow, ix_t, ix_l, ix_r, ix_s, sl_t, sl_l, sl_s, is_t, is_l, is_r, is_s, isiD, isD, leD, ltD, assignT, setAll, ev_m1, ev_fstr, ef_nil, ef_cons, ev_dgt, xe_try, rv_count, rv_split, rv_sindex, rv_tindex, rv_lindex, rv_lcnt, bd_isx, bd_count, bd_split, bd_sindex, bd_tindex, bd_lindex_b, bd_lindex_s, bd_lcnt, so_s, so_i, idc_d, isFm, h1, h2, h2']
  · have h1' : ¬ (1 : Int) ≤ rs.length := by omega
    simp [b_is_format, encRs, ev_var, ev_con, ev_bin, ev_neg, ev_not, ev_and, ev_or, ev_cmp, ev_chain, ev_ife, ev_tup, ev_lst, ev_ix, ev_sl, ev_call, ev_bi, ev_ixb, ev_lc, ei_e, ei_rng1, rg_i, ei_rng2, rg_ii, ng_i, io_i, zp_l, zp_t, ei_zip, el_nil, el_cons, eo_no, eo_at, xs_nil, xs_cons, xe_asg, xe_ite, xe_ret, xe_expr, xe_raise, run_fin, bind_ite, onto_ite, cond_ite, seqR_ite, finR_ite, app_ite, cmpB, bd_len_t, bd_len_l, bd_len_r, bd_len_s, bd_list_t, bd_list_l, bd_list_r, bd_list_s, bd_tuple_t, bd_tuple_l, bd_str_i, bd_str_s, bd_int_i, bd_int_b, bd_int_s, bd_sum, bd_min, bd_max, bd_min2, bd_max2, bd_all, bd_any, bd_isi, bd_join, bn_addi, bn_adds, bn_addl, bn_addt, bn_sub, bn_mul, bn_mull, bn_mult, bn_fdiv, bn_mod, bn_pow, ix_t, ix_l, ix_r, ix_s, sl_t, sl_l, sl_s, is_t, is_l, is_r, is_s, isiD, isD, leD, ltD, assignT, setAll, ev_m1, ev_fstr, ef_nil, ef_cons, ev_dgt, xe_try, rv_count, rv_split, rv_sindex, rv_tindex, rv_lindex, rv_lcnt, bd_isx, bd_count, bd_split, bd_sindex, bd_tindex, bd_lindex_b, bd_lindex_s, bd_lcnt, so_s, so_i, idc_d, isFm, h1, h1']
end FT
namespace FT
open PySem PySem.Spec PyProof.Rows L2
/-! ### texts of fields -/
theorem dig1 (a : Nat) (h : a ≤ 4) : dig a = [48 + a] := by
  unfold dig
  unfold digF
  rw [if_pos (by omega)]
theorem int_dig (a : Int) (h0 : 0 ≤ a) (h : a ≤ 4) : dig a.toNat = [48 + a.toNat] := dig1 _ (by omega)
theorem strOf_dg (a : Int) (h0 : 0 ≤ a) (h : a ≤ 4) : strOf (.int a) = some [48 + a.toNat] := by
  rw [so_i, if_pos ⟨h0, by omega⟩, int_dig a h0 h]
theorem str_dg (a : Int) (h0 : 0 ≤ a) (h : a ≤ 4) : biD .str [.int a] = some (.str [48 + a.toNat]) := by
  rw [bd_str_i, if_pos ⟨h0, by omega⟩, int_dig a h0 h]
theorem isTx_len {s : Tx} (h : isTx s = true) : 1 ≤ s.length ∧ s.length ≤ 4 := by
  simp only [isTx, isT, Bool.and_eq_true, decide_eq_true_eq] at h
  omega
theorem ln0_len {r : R0} (h : isS r = true) : (ln0 r).length ≤ 20 := by
  cases r with
  | word s =>
    have := isTx_len (s := s) h
    simp only [ln0, List.length_cons]
    omega
  | number i => simp [ln0]
  | nums nm is =>
    match is with
    | [a, b] => simp only [ln0, List.length_append, List.length_take, List.length_cons, List.length_nil]; omega
    | [] => simp [ln0]
    | [a] => simp [ln0]
    | a :: b :: c :: q => simp [ln0]
  | choice ts =>
    simp only [isS, Bool.and_eq_true, decide_eq_true_eq, List.all_eq_true] at h
    obtain ⟨⟨⟨h1, h2⟩, h3⟩, _⟩ := h
    have h5 := flat_len (c := 5) (ys := ts.map (124 :: ·)) fun y hy => by
      obtain ⟨t, ht, rfl⟩ := List.mem_map.mp hy
      have := isTx_len (h3 t ht)
      simp only [List.length_cons]
      omega
    rw [List.length_map] at h5
    show (ts.map (124 :: ·)).flatten.length ≤ 20
    omega
theorem lnR_len {r : RF} (h : isF r = true) : (lnR r).length ≤ 24 := by
  cases r with
  | one r => exact Nat.le_trans (ln0_len (r := r) h) (by decide)
  | rep r is =>
    match is with
    | [a, b] =>
      have h : (isS r && spanB a b 1 3) = true := h
      rw [Bool.and_eq_true] at h
      have := ln0_len h.1
      simp only [lnR, List.length_append, List.length_cons, List.length_nil]
      omega
    | [] => simp [lnR]
    | [a] => simp [lnR]
    | a :: b :: c :: q => simp [lnR]
theorem span_in {a b lo hi : Int} (h : spanB a b lo hi = true) (hh : hi ≤ 4) : 0 ≤ a ∧ a ≤ 4 ∧ 0 ≤ b ∧ b ≤ 4 := by
  simp only [spanB, Bool.and_eq_true, decide_eq_true_eq] at h
  omega
theorem p_field_text0 (N n : Nat) (r : R0) (h : isS r = true) (S : Sh) : Φs N fbs (n + 1) f_field_text [encR0 r] S = .ok (.str (ln0 r)) S := by
  rw [u_field_text]
  cases r with
  | word s =>
    have a0 : L2.atI [D.str (tx "word"), D.str s] 0 = some (.str (tx "word")) := rfl
    have a1 : L2.atI [D.str (tx "word"), D.str s] 1 = some (.str s) := rfl
    have hl : 1 + s.length ≤ lim := by have := isTx_len (s := s) h; show _ ≤ 1000000; omega
    simp [b_field_text, encR0, ev_var, ev_con, ev_bin, ev_neg, ev_not, ev_and, ev_or, ev_cmp, ev_chain, ev_ife, ev_tup, ev_lst, ev_ix, ev_sl, ev_call, ev_bi, ev_ixb, ev_lc, ei_e, ei_rng1, rg_i, ei_rng2, rg_ii, ng_i, io_i, zp_l, zp_t, ei_zip, el_nil, el_cons, eo_no, eo_at, xs_nil, xs_cons, xe_asg, xe_ite, xe_ret, xe_expr, xe_raise, run_fin, bind_ite, onto_ite, cond_ite, seqR_ite, finR_ite, app_ite, cmpB, bd_len_t, bd_len_l, bd_len_r, bd_len_s, bd_list_t, bd_list_l, bd_list_r, bd_list_s, bd_tuple_t, bd_tuple_l, bd_str_i, bd_str_s, bd_int_i, bd_int_b, bd_int_s, bd_sum, bd_min, bd_max, bd_min2, bd_max2, bd_all, bd_any, bd_isi, bd_join, bn_addi, bn_adds, bn_addl, bn_addt, bn_sub, bn_mul, bn_mull, bn_mult, bn_fdiv, bn_mod, bn_pow, ix_t, ix_l, ix_r, ix_s, sl_t, sl_l, sl_s, is_t, is_l, is_r, is_s, isiD, isD, leD, ltD, assignT, setAll, ev_m1, ev_fstr, ef_nil, ef_cons, ev_dgt, xe_try, rv_count, rv_split, rv_sindex, rv_tindex, rv_lindex, rv_lcnt, bd_isx, bd_count, bd_split, bd_sindex, bd_tindex, bd_lindex_b, bd_lindex_s, bd_lcnt, so_s, so_i, idc_d, a0, a1, g_word_word, g_word_digits, g_word_letters, g_word_number, g_word_choice, g_word_repeat, g_digits_word, g_digits_digits, g_digits_letters, g_digits_number, g_digits_choice, g_digits_repeat, g_letters_word, g_letters_digits, g_letters_letters, g_letters_number, g_letters_choice, g_letters_repeat, g_number_word, g_number_digits, g_number_letters, g_number_number, g_number_choice, g_number_repeat, g_choice_word, g_choice_digits, g_choice_letters, g_choice_number, g_choice_choice, g_choice_repeat, g_repeat_word, g_repeat_digits, g_repeat_letters, g_repeat_number, g_repeat_choice, g_repeat_repeat, e_eqs, hl, ln0]
  | number i =>
    have a0 : L2.atI [D.str (tx "number"), D.int i] 0 = some (.str (tx "number")) := rfl
    have a1 : L2.atI [D.str (tx "number"), D.int i] 1 = some (.int i) := rfl
    simp only [isS, Bool.and_eq_true, decide_eq_true_eq] at h
    have hs := strOf_dg i (by omega) h.2
    have g1 : 1 ≤ lim := by decide
    have g2 : 2 ≤ lim := by decide
    have h0 : 0 ≤ i := by omega
    have h9 : i < 1000000000000000 := by omega
    simp [b_field_text, encR0, ev_var, ev_con, ev_bin, ev_neg, ev_not, ev_and, ev_or, ev_cmp, ev_chain, ev_ife, ev_tup, ev_lst, ev_ix, ev_sl, ev_call, ev_bi, ev_ixb, ev_lc, ei_e, ei_rng1, rg_i, ei_rng2, rg_ii, ng_i, io_i, zp_l, zp_t, ei_zip, el_nil, el_cons, eo_no, eo_at, xs_nil, xs_cons, xe_asg, xe_ite, xe_ret, xe_expr, xe_raise, run_fin, bind_ite, onto_ite, cond_ite, seqR_ite, finR_ite, app_ite, cmpB, bd_len_t, bd_len_l, bd_len_r, bd_len_s, bd_list_t, bd_list_l, bd_list_r, bd_list_s, bd_tuple_t, bd_tuple_l, bd_str_i, bd_str_s, bd_int_i, bd_int_b, bd_int_s, bd_sum, bd_min, bd_max, bd_min2, bd_max2, bd_all, bd_any, bd_isi, bd_join, bn_addi, bn_adds, bn_addl, bn_addt, bn_sub, bn_mul, bn_mull, bn_mult, bn_fdiv, bn_mod, bn_pow, ix_t, ix_l, ix_r, ix_s, sl_t, sl_l, sl_s, is_t, is_l, is_r, is_s, isiD, isD, leD, ltD, assignT, setAll, ev_m1, ev_fstr, ef_nil, ef_cons, ev_dgt, xe_try, rv_count, rv_split, rv_sindex, rv_tindex, rv_lindex, rv_lcnt, bd_isx, bd_count, bd_split, bd_sindex, bd_tindex, bd_lindex_b, bd_lindex_s, bd_lcnt, so_s, so_i, idc_d, a0, a1, g_word_word, g_word_digits, g_word_letters, g_word_number, g_word_choice, g_word_repeat, g_digits_word, g_digits_digits, g_digits_letters, g_digits_number, g_digits_choice, g_digits_repeat, g_letters_word, g_letters_digits, g_letters_letters, g_letters_number, g_letters_choice, g_letters_repeat, g_number_word, g_number_digits, g_number_letters, g_number_number, g_number_choice, g_number_repeat, g_choice_word, g_choice_digits, g_choice_letters, g_choice_number, g_choice_choice, g_choice_repeat, g_repeat_word, g_repeat_digits, g_repeat_letters, g_repeat_number, g_repeat_choice, g_repeat_repeat, e_n, ln0, g1, g2, h0, h9, int_dig i h0 h.2]
  | choice ts =>
    have a0 : L2.atI [D.str (tx "choice"), D.tup (ts.map D.str)] 0 = some (.str (tx "choice")) := rfl
    have a1 : L2.atI [D.str (tx "choice"), D.tup (ts.map D.str)] 1 = some (.tup (ts.map D.str)) := rfl
    have hlen := ln0_len h
    simp only [isS, Bool.and_eq_true, decide_eq_true_eq, List.all_eq_true] at h
    obtain ⟨⟨⟨h1, h2⟩, h3⟩, _⟩ := h
    have e1 : ∀ a b : SV, lcK (keepF (Φs N fbs n) [a, b] [1] (.bin .add (.con (.str (tx "|"))) (.var 1)) (.nm 1) (.con (.bl true))) (ts.map D.str) S = .ok (.lst (ts.map fun t => D.str (124 :: t))) S := fun a b =>
      lcK_m (fun t => D.str (124 :: t)) ts (by show _ ≤ 1000000; omega) fun t ht => by
        have hl : 1 + t.length ≤ lim := by have := isTx_len (h3 t ht); show _ ≤ 1000000; omega
        simp [keepF, wipeE, ev_var, ev_con, ev_bin, ev_neg, ev_not, ev_and, ev_or, ev_cmp, ev_chain, ev_ife, ev_tup, ev_lst, ev_ix, ev_sl, ev_call, ev_bi, ev_ixb, ev_lc, ei_e, ei_rng1, rg_i, ei_rng2, rg_ii, ng_i, io_i, zp_l, zp_t, ei_zip, el_nil, el_cons, eo_no, eo_at, xs_nil, xs_cons, xe_asg, xe_ite, xe_ret, xe_expr, xe_raise, run_fin, bind_ite, onto_ite, cond_ite, seqR_ite, finR_ite, app_ite, cmpB, bd_len_t, bd_len_l, bd_len_r, bd_len_s, bd_list_t, bd_list_l, bd_list_r, bd_list_s, bd_tuple_t, bd_tuple_l, bd_str_i, bd_str_s, bd_int_i, bd_int_b, bd_int_s, bd_sum, bd_min, bd_max, bd_min2, bd_max2, bd_all, bd_any, bd_isi, bd_join, bn_addi, bn_adds, bn_addl, bn_addt, bn_sub, bn_mul, bn_mull, bn_mult, bn_fdiv, bn_mod, bn_pow, ix_t, ix_l, ix_r, ix_s, sl_t, sl_l, sl_s, is_t, is_l, is_r, is_s, isiD, isD, leD, ltD, assignT, setAll, ev_m1, ev_fstr, ef_nil, ef_cons, ev_dgt, xe_try, rv_count, rv_split, rv_sindex, rv_tindex, rv_lindex, rv_lcnt, bd_isx, bd_count, bd_split, bd_sindex, bd_tindex, bd_lindex_b, bd_lindex_s, bd_lcnt, so_s, so_i, idc_d, e_bar, hl]
    have g1 : ts.length ≤ 100000 := by omega
    have g2 : (ts.map (124 :: ·)).flatten.length ≤ lim := by have : (ts.map (124 :: ·)).flatten.length ≤ 20 := hlen; show _ ≤ 1000000; omega
    simp [b_field_text, encR0, ev_var, ev_con, ev_bin, ev_neg, ev_not, ev_and, ev_or, ev_cmp, ev_chain, ev_ife, ev_tup, ev_lst, ev_ix, ev_sl, ev_call, ev_bi, ev_ixb, ev_lc, ei_e, ei_rng1, rg_i, ei_rng2, rg_ii, ng_i, io_i, zp_l, zp_t, ei_zip, el_nil, el_cons, eo_no, eo_at, xs_nil, xs_cons, xe_asg, xe_ite, xe_ret, xe_expr, xe_raise, run_fin, bind_ite, onto_ite, cond_ite, seqR_ite, finR_ite, app_ite, cmpB, bd_len_t, bd_len_l, bd_len_r, bd_len_s, bd_list_t, bd_list_l, bd_list_r, bd_list_s, bd_tuple_t, bd_tuple_l, bd_str_i, bd_str_s, bd_int_i, bd_int_b, bd_int_s, bd_sum, bd_min, bd_max, bd_min2, bd_max2, bd_all, bd_any, bd_isi, bd_join, bn_addi, bn_adds, bn_addl, bn_addt, bn_sub, bn_mul, bn_mull, bn_mult, bn_fdiv, bn_mod, bn_pow, ix_t, ix_l, ix_r, ix_s, sl_t, sl_l, sl_s, is_t, is_l, is_r, is_s, isiD, isD, leD, ltD, assignT, setAll, ev_m1, ev_fstr, ef_nil, ef_cons, ev_dgt, xe_try, rv_count, rv_split, rv_sindex, rv_tindex, rv_lindex, rv_lcnt, bd_isx, bd_count, bd_split, bd_sindex, bd_tindex, bd_lindex_b, bd_lindex_s, bd_lcnt, so_s, so_i, idc_d, a0, a1, g_word_word, g_word_digits, g_word_letters, g_word_number, g_word_choice, g_word_repeat, g_digits_word, g_digits_digits, g_digits_letters, g_digits_number, g_digits_choice, g_digits_repeat, g_letters_word, g_letters_digits, g_letters_letters, g_letters_number, g_letters_choice, g_letters_repeat, g_number_word, g_number_digits, g_number_letters, g_number_number, g_number_choice, g_number_repeat, g_choice_word, g_choice_digits, g_choice_letters, g_choice_number, g_choice_choice, g_choice_repeat, g_repeat_word, g_repeat_digits, g_repeat_letters, g_repeat_number, g_repeat_choice, g_repeat_repeat, e1]
    have g3 : (List.map (List.length ∘ (124 :: ·)) ts).sum ≤ lim := by simpa using g2
    have g4 : (List.map (List.length ∘ List.cons 124) ts).sum ≤ lim := g3
    simp [ev_var, ev_con, ev_bin, ev_neg, ev_not, ev_and, ev_or, ev_cmp, ev_chain, ev_ife, ev_tup, ev_lst, ev_ix, ev_sl, ev_call, ev_bi, ev_ixb, ev_lc, ei_e, ei_rng1, rg_i, ei_rng2, rg_ii, ng_i, io_i, zp_l, zp_t, ei_zip, el_nil, el_cons, eo_no, eo_at, xs_nil, xs_cons, xe_asg, xe_ite, xe_ret, xe_expr, xe_raise, run_fin, bind_ite, onto_ite, cond_ite, seqR_ite, finR_ite, app_ite, cmpB, bd_len_t, bd_len_l, bd_len_r, bd_len_s, bd_list_t, bd_list_l, bd_list_r, bd_list_s, bd_tuple_t, bd_tuple_l, bd_str_i, bd_str_s, bd_int_i, bd_int_b, bd_int_s, bd_sum, bd_min, bd_max, bd_min2, bd_max2, bd_all, bd_any, bd_isi, bd_join, bn_addi, bn_adds, bn_addl, bn_addt, bn_sub, bn_mul, bn_mull, bn_mult, bn_fdiv, bn_mod, bn_pow, ix_t, ix_l, ix_r, ix_s, sl_t, sl_l, sl_s, is_t, is_l, is_r, is_s, isiD, isD, leD, ltD, assignT, setAll, ev_m1, ev_fstr, ef_nil, ef_cons, ev_dgt, xe_try, rv_count, rv_split, rv_sindex, rv_tindex, rv_lindex, rv_lcnt, bd_isx, bd_count, bd_split, bd_sindex, bd_tindex, bd_lindex_b, bd_lindex_s, bd_lcnt, so_s, so_i, idc_d, strsD_map, e_nil, join_flat, g1, g3, g4, ln0]
  | nums nm is =>
    match is, h with
    | [a, b], h =>
      have h : ((nm == tx "digits" || nm == tx "letters") && spanB a b 0 4) = true := h
      rw [Bool.and_eq_true, Bool.or_eq_true, beq_iff_eq, beq_iff_eq] at h
      obtain ⟨hn, hs⟩ := h
      obtain ⟨s1, s2, s3, s4⟩ := span_in hs (by omega)
      have a0 : L2.atI [D.str nm, D.int a, D.int b] 0 = some (.str nm) := rfl
      have a1 : L2.atI [D.str nm, D.int a, D.int b] 1 = some (.int a) := rfl
      have a2 : L2.atI [D.str nm, D.int a, D.int b] 2 = some (.int b) := rfl
      have h9 : a < 1000000000000000 := by omega
      have h8 : b < 1000000000000000 := by omega
      have g1 : 1 ≤ lim := by decide
      have g2 : 2 ≤ lim := by decide
      have g3 : 3 ≤ lim := by decide
      have g4 : 4 ≤ lim := by decide
      have g6 : 6 ≤ lim := by decide
      have g7 : 7 ≤ lim := by decide
      have x1 : L2.atI (tx "digits") (0 : Int) = some 100 := by decide +kernel
      have x2 : L2.atI (tx "letters") (0 : Int) = some 108 := by decide +kernel
      have y1 : (tx "digits").length ≤ lim := by decide +kernel
      have y2 : (tx "letters").length ≤ lim := by decide +kernel
      have z1 : (tx "digits").take 1 = [100] := by decide +kernel
      have z2 : (tx "letters").take 1 = [108] := by decide +kernel
      rcases hn with e | e <;> subst e <;> simp [b_field_text, encR0, ev_var, ev_con, ev_bin, ev_neg, ev_not, ev_and, ev_or, ev_cmp, ev_chain, ev_ife, ev_tup, ev_lst, ev_ix, ev_sl, ev_call, ev_bi, ev_ixb, ev_lc, ei_e, ei_rng1, rg_i, ei_rng2, rg_ii, ng_i, io_i, zp_l, zp_t, ei_zip, el_nil, el_cons, eo_no, eo_at, xs_nil, xs_cons, xe_asg, xe_ite, xe_ret, xe_expr, xe_raise, run_fin, bind_ite, onto_ite, cond_ite, seqR_ite, finR_ite, app_ite, cmpB, bd_len_t, bd_len_l, bd_len_r, bd_len_s, bd_list_t, bd_list_l, bd_list_r, bd_list_s, bd_tuple_t, bd_tuple_l, bd_str_i, bd_str_s, bd_int_i, bd_int_b, bd_int_s, bd_sum, bd_min, bd_max, bd_min2, bd_max2, bd_all, bd_any, bd_isi, bd_join, bn_addi, bn_adds, bn_addl, bn_addt, bn_sub, bn_mul, bn_mull, bn_mult, bn_fdiv, bn_mod, bn_pow, ix_t, ix_l, ix_r, ix_s, sl_t, sl_l, sl_s, is_t, is_l, is_r, is_s, isiD, isD, leD, ltD, assignT, setAll, ev_m1, ev_fstr, ef_nil, ef_cons, ev_dgt, xe_try, rv_count, rv_split, rv_sindex, rv_tindex, rv_lindex, rv_lcnt, bd_isx, bd_count, bd_split, bd_sindex, bd_tindex, bd_lindex_b, bd_lindex_s, bd_lcnt, so_s, so_i, idc_d, a0, a1, a2, g_word_word, g_word_digits, g_word_letters, g_word_number, g_word_choice, g_word_repeat, g_digits_word, g_digits_digits, g_digits_letters, g_digits_number, g_digits_choice, g_digits_repeat, g_letters_word, g_letters_digits, g_letters_letters, g_letters_number, g_letters_choice, g_letters_repeat, g_number_word, g_number_digits, g_number_letters, g_number_number, g_number_choice, g_number_repeat, g_choice_word, g_choice_digits, g_choice_letters, g_choice_number, g_choice_choice, g_choice_repeat, g_repeat_word, g_repeat_digits, g_repeat_letters, g_repeat_number, g_repeat_choice, g_repeat_repeat, e_comma, ln0, g1, g2, g3, g4, g6, g7, s1, s3, h8, h9, int_dig a s1 s2, int_dig b s3 s4, x1, x2, y1, y2, z1, z2]
    | [], h => cases h
    | [_], h => cases h
    | _ :: _ :: _ :: _, h => cases h
theorem p_field_textR (N n : Nat) (r : RF) (h : isF r = true) (S : Sh) : Φs N fbs (n + 2) f_field_text [encRF r] S = .ok (.str (lnR r)) S := by
  cases r with
  | one r => exact p_field_text0 N (n + 1) r h S
  | rep r is =>
    match is, h with
    | [a, b], h =>
      have h : (isS r && spanB a b 1 3) = true := h
      rw [Bool.and_eq_true] at h
      obtain ⟨s1, s2, s3, s4⟩ := span_in h.2 (by omega)
      have p0 := p_field_text0 N n r h.1 S
      have hl := ln0_len h.1
      rw [u_field_text]
      have a0 : L2.atI [D.str (tx "repeat"), encR0 r, D.int a, D.int b] 0 = some (.str (tx "repeat")) := rfl
      have a1 : L2.atI [D.str (tx "repeat"), encR0 r, D.int a, D.int b] 1 = some (encR0 r) := rfl
      have a2 : L2.atI [D.str (tx "repeat"), encR0 r, D.int a, D.int b] 2 = some (.int a) := rfl
      have a3 : L2.atI [D.str (tx "repeat"), encR0 r, D.int a, D.int b] 3 = some (.int b) := rfl
      have h9 : a < 1000000000000000 := by omega
      have h8 : b < 1000000000000000 := by omega
      have g1 : 1 ≤ lim := by decide
      have g2 : 2 ≤ lim := by decide
      have g3 : 3 ≤ lim := by decide
      have g4 : 4 ≤ lim := by decide
      have g5 : (ln0 r).length + 4 ≤ lim := by show _ ≤ 1000000; omega
      simp [b_field_text, encRF, ev_var, ev_con, ev_bin, ev_neg, ev_not, ev_and, ev_or, ev_cmp, ev_chain, ev_ife, ev_tup, ev_lst, ev_ix, ev_sl, ev_call, ev_bi, ev_ixb, ev_lc, ei_e, ei_rng1, rg_i, ei_rng2, rg_ii, ng_i, io_i, zp_l, zp_t, ei_zip, el_nil, el_cons, eo_no, eo_at, xs_nil, xs_cons, xe_asg, xe_ite, xe_ret, xe_expr, xe_raise, run_fin, bind_ite, onto_ite, cond_ite, seqR_ite, finR_ite, app_ite, cmpB, bd_len_t, bd_len_l, bd_len_r, bd_len_s, bd_list_t, bd_list_l, bd_list_r, bd_list_s, bd_tuple_t, bd_tuple_l, bd_str_i, bd_str_s, bd_int_i, bd_int_b, bd_int_s, bd_sum, bd_min, bd_max, bd_min2, bd_max2, bd_all, bd_any, bd_isi, bd_join, bn_addi, bn_adds, bn_addl, bn_addt, bn_sub, bn_mul, bn_mull, bn_mult, bn_fdiv, bn_mod, bn_pow, ix_t, ix_l, ix_r, ix_s, sl_t, sl_l, sl_s, is_t, is_l, is_r, is_s, isiD, isD, leD, ltD, assignT, setAll, ev_m1, ev_fstr, ef_nil, ef_cons, ev_dgt, xe_try, rv_count, rv_split, rv_sindex, rv_tindex, rv_lindex, rv_lcnt, bd_isx, bd_count, bd_split, bd_sindex, bd_tindex, bd_lindex_b, bd_lindex_s, bd_lcnt, so_s, so_i, idc_d, a0, a1, a2, a3, g_word_word, g_word_digits, g_word_letters, g_word_number, g_word_choice, g_word_repeat, g_digits_word, g_digits_digits, g_digits_letters, g_digits_number, g_digits_choice, g_digits_repeat, g_letters_word, g_letters_digits, g_letters_letters, g_letters_number, g_letters_choice, g_letters_repeat, g_number_word, g_number_digits, g_number_letters, g_number_number, g_number_choice, g_number_repeat, g_choice_word, g_choice_digits, g_choice_letters, g_choice_number, g_choice_choice, g_choice_repeat, g_repeat_word, g_repeat_digits, g_repeat_letters, g_repeat_number, g_repeat_choice, g_repeat_repeat, p0, e_star, e_comma, lnR, g1, g2, g3, g4, g5, s1, s3, h8, h9, int_dig a s1 s2, int_dig b s3 s4]
    | [], h => cases h
    | [_], h => cases h
    | _ :: _ :: _ :: _, h => cases h
theorem p__law_line0 (N n : Nat) (r : R0) (h : isS r = true) (S : Sh) : Φs N fbs (n + 1) f__law_line [encR0 r] S = .ok (.str (ln0 r)) S := by
  rw [u__law_line]
  cases r with
  | word s =>
    have a0 : L2.atI [D.str (tx "word"), D.str s] 0 = some (.str (tx "word")) := rfl
    have a1 : L2.atI [D.str (tx "word"), D.str s] 1 = some (.str s) := rfl
    have hl : 1 + s.length ≤ lim := by have := isTx_len (s := s) h; show _ ≤ 1000000; omega
    simp [b__law_line, encR0, ev_var, ev_con, ev_bin, ev_neg, ev_not, ev_and, ev_or, ev_cmp, ev_chain, ev_ife, ev_tup, ev_lst, ev_ix, ev_sl, ev_call, ev_bi, ev_ixb, ev_lc, ei_e, ei_rng1, rg_i, ei_rng2, rg_ii, ng_i, io_i, zp_l, zp_t, ei_zip, el_nil, el_cons, eo_no, eo_at, xs_nil, xs_cons, xe_asg, xe_ite, xe_ret, xe_expr, xe_raise, run_fin, bind_ite, onto_ite, cond_ite, seqR_ite, finR_ite, app_ite, cmpB, bd_len_t, bd_len_l, bd_len_r, bd_len_s, bd_list_t, bd_list_l, bd_list_r, bd_list_s, bd_tuple_t, bd_tuple_l, bd_str_i, bd_str_s, bd_int_i, bd_int_b, bd_int_s, bd_sum, bd_min, bd_max, bd_min2, bd_max2, bd_all, bd_any, bd_isi, bd_join, bn_addi, bn_adds, bn_addl, bn_addt, bn_sub, bn_mul, bn_mull, bn_mult, bn_fdiv, bn_mod, bn_pow, ix_t, ix_l, ix_r, ix_s, sl_t, sl_l, sl_s, is_t, is_l, is_r, is_s, isiD, isD, leD, ltD, assignT, setAll, ev_m1, ev_fstr, ef_nil, ef_cons, ev_dgt, xe_try, rv_count, rv_split, rv_sindex, rv_tindex, rv_lindex, rv_lcnt, bd_isx, bd_count, bd_split, bd_sindex, bd_tindex, bd_lindex_b, bd_lindex_s, bd_lcnt, so_s, so_i, idc_d, a0, a1, g_word_word, g_word_digits, g_word_letters, g_word_number, g_word_choice, g_word_repeat, g_digits_word, g_digits_digits, g_digits_letters, g_digits_number, g_digits_choice, g_digits_repeat, g_letters_word, g_letters_digits, g_letters_letters, g_letters_number, g_letters_choice, g_letters_repeat, g_number_word, g_number_digits, g_number_letters, g_number_number, g_number_choice, g_number_repeat, g_choice_word, g_choice_digits, g_choice_letters, g_choice_number, g_choice_choice, g_choice_repeat, g_repeat_word, g_repeat_digits, g_repeat_letters, g_repeat_number, g_repeat_choice, g_repeat_repeat, e_eqs, hl, ln0]
  | number i =>
    have a0 : L2.atI [D.str (tx "number"), D.int i] 0 = some (.str (tx "number")) := rfl
    have a1 : L2.atI [D.str (tx "number"), D.int i] 1 = some (.int i) := rfl
    simp only [isS, Bool.and_eq_true, decide_eq_true_eq] at h
    have g2 : 2 ≤ lim := by decide
    have h0 : 0 ≤ i := by omega
    have h9 : i < 1000000000000000 := by omega
    simp [b__law_line, encR0, ev_var, ev_con, ev_bin, ev_neg, ev_not, ev_and, ev_or, ev_cmp, ev_chain, ev_ife, ev_tup, ev_lst, ev_ix, ev_sl, ev_call, ev_bi, ev_ixb, ev_lc, ei_e, ei_rng1, rg_i, ei_rng2, rg_ii, ng_i, io_i, zp_l, zp_t, ei_zip, el_nil, el_cons, eo_no, eo_at, xs_nil, xs_cons, xe_asg, xe_ite, xe_ret, xe_expr, xe_raise, run_fin, bind_ite, onto_ite, cond_ite, seqR_ite, finR_ite, app_ite, cmpB, bd_len_t, bd_len_l, bd_len_r, bd_len_s, bd_list_t, bd_list_l, bd_list_r, bd_list_s, bd_tuple_t, bd_tuple_l, bd_str_i, bd_str_s, bd_int_i, bd_int_b, bd_int_s, bd_sum, bd_min, bd_max, bd_min2, bd_max2, bd_all, bd_any, bd_isi, bd_join, bn_addi, bn_adds, bn_addl, bn_addt, bn_sub, bn_mul, bn_mull, bn_mult, bn_fdiv, bn_mod, bn_pow, ix_t, ix_l, ix_r, ix_s, sl_t, sl_l, sl_s, is_t, is_l, is_r, is_s, isiD, isD, leD, ltD, assignT, setAll, ev_m1, ev_fstr, ef_nil, ef_cons, ev_dgt, xe_try, rv_count, rv_split, rv_sindex, rv_tindex, rv_lindex, rv_lcnt, bd_isx, bd_count, bd_split, bd_sindex, bd_tindex, bd_lindex_b, bd_lindex_s, bd_lcnt, so_s, so_i, idc_d, a0, a1, g_word_word, g_word_digits, g_word_letters, g_word_number, g_word_choice, g_word_repeat, g_digits_word, g_digits_digits, g_digits_letters, g_digits_number, g_digits_choice, g_digits_repeat, g_letters_word, g_letters_digits, g_letters_letters, g_letters_number, g_letters_choice, g_letters_repeat, g_number_word, g_number_digits, g_number_letters, g_number_number, g_number_choice, g_number_repeat, g_choice_word, g_choice_digits, g_choice_letters, g_choice_number, g_choice_choice, g_choice_repeat, g_repeat_word, g_repeat_digits, g_repeat_letters, g_repeat_number, g_repeat_choice, g_repeat_repeat, e_n, ln0, g2, h0, h9, int_dig i h0 h.2]
  | choice ts =>
    have a0 : L2.atI [D.str (tx "choice"), D.tup (ts.map D.str)] 0 = some (.str (tx "choice")) := rfl
    have a1 : L2.atI [D.str (tx "choice"), D.tup (ts.map D.str)] 1 = some (.tup (ts.map D.str)) := rfl
    have hlen := ln0_len h
    simp only [isS, Bool.and_eq_true, decide_eq_true_eq, List.all_eq_true] at h
    obtain ⟨⟨⟨h1, h2⟩, h3⟩, _⟩ := h
    have e1 : ∀ a b : SV, lcK (keepF (Φs N fbs n) [a, b] [1] (.bin .add (.con (.str (tx "|"))) (.var 1)) (.nm 1) (.con (.bl true))) (ts.map D.str) S = .ok (.lst (ts.map fun t => D.str (124 :: t))) S := fun a b =>
      lcK_m (fun t => D.str (124 :: t)) ts (by show _ ≤ 1000000; omega) fun t ht => by
        have hl : 1 + t.length ≤ lim := by have := isTx_len (h3 t ht); show _ ≤ 1000000; omega
        simp [keepF, wipeE, ev_var, ev_con, ev_bin, ev_neg, ev_not, ev_and, ev_or, ev_cmp, ev_chain, ev_ife, ev_tup, ev_lst, ev_ix, ev_sl, ev_call, ev_bi, ev_ixb, ev_lc, ei_e, ei_rng1, rg_i, ei_rng2, rg_ii, ng_i, io_i, zp_l, zp_t, ei_zip, el_nil, el_cons, eo_no, eo_at, xs_nil, xs_cons, xe_asg, xe_ite, xe_ret, xe_expr, xe_raise, run_fin, bind_ite, onto_ite, cond_ite, seqR_ite, finR_ite, app_ite, cmpB, bd_len_t, bd_len_l, bd_len_r, bd_len_s, bd_list_t, bd_list_l, bd_list_r, bd_list_s, bd_tuple_t, bd_tuple_l, bd_str_i, bd_str_s, bd_int_i, bd_int_b, bd_int_s, bd_sum, bd_min, bd_max, bd_min2, bd_max2, bd_all, bd_any, bd_isi, bd_join, bn_addi, bn_adds, bn_addl, bn_addt, bn_sub, bn_mul, bn_mull, bn_mult, bn_fdiv, bn_mod, bn_pow, ix_t, ix_l, ix_r, ix_s, sl_t, sl_l, sl_s, is_t, is_l, is_r, is_s, isiD, isD, leD, ltD, assignT, setAll, ev_m1, ev_fstr, ef_nil, ef_cons, ev_dgt, xe_try, rv_count, rv_split, rv_sindex, rv_tindex, rv_lindex, rv_lcnt, bd_isx, bd_count, bd_split, bd_sindex, bd_tindex, bd_lindex_b, bd_lindex_s, bd_lcnt, so_s, so_i, idc_d, e_bar, hl]
    have g1 : ts.length ≤ 100000 := by omega
    have g2 : (ts.map (124 :: ·)).flatten.length ≤ lim := by have : (ts.map (124 :: ·)).flatten.length ≤ 20 := hlen; show _ ≤ 1000000; omega
    simp [b__law_line, encR0, ev_var, ev_con, ev_bin, ev_neg, ev_not, ev_and, ev_or, ev_cmp, ev_chain, ev_ife, ev_tup, ev_lst, ev_ix, ev_sl, ev_call, ev_bi, ev_ixb, ev_lc, ei_e, ei_rng1, rg_i, ei_rng2, rg_ii, ng_i, io_i, zp_l, zp_t, ei_zip, el_nil, el_cons, eo_no, eo_at, xs_nil, xs_cons, xe_asg, xe_ite, xe_ret, xe_expr, xe_raise, run_fin, bind_ite, onto_ite, cond_ite, seqR_ite, finR_ite, app_ite, cmpB, bd_len_t, bd_len_l, bd_len_r, bd_len_s, bd_list_t, bd_list_l, bd_list_r, bd_list_s, bd_tuple_t, bd_tuple_l, bd_str_i, bd_str_s, bd_int_i, bd_int_b, bd_int_s, bd_sum, bd_min, bd_max, bd_min2, bd_max2, bd_all, bd_any, bd_isi, bd_join, bn_addi, bn_adds, bn_addl, bn_addt, bn_sub, bn_mul, bn_mull, bn_mult, bn_fdiv, bn_mod, bn_pow, ix_t, ix_l, ix_r, ix_s, sl_t, sl_l, sl_s, is_t, is_l, is_r, is_s, isiD, isD, leD, ltD, assignT, setAll, ev_m1, ev_fstr, ef_nil, ef_cons, ev_dgt, xe_try, rv_count, rv_split, rv_sindex, rv_tindex, rv_lindex, rv_lcnt, bd_isx, bd_count, bd_split, bd_sindex, bd_tindex, bd_lindex_b, bd_lindex_s, bd_lcnt, so_s, so_i, idc_d, a0, a1, g_word_word, g_word_digits, g_word_letters, g_word_number, g_word_choice, g_word_repeat, g_digits_word, g_digits_digits, g_digits_letters, g_digits_number, g_digits_choice, g_digits_repeat, g_letters_word, g_letters_digits, g_letters_letters, g_letters_number, g_letters_choice, g_letters_repeat, g_number_word, g_number_digits, g_number_letters, g_number_number, g_number_choice, g_number_repeat, g_choice_word, g_choice_digits, g_choice_letters, g_choice_number, g_choice_choice, g_choice_repeat, g_repeat_word, g_repeat_digits, g_repeat_letters, g_repeat_number, g_repeat_choice, g_repeat_repeat, e1]
    have g3 : (List.map (List.length ∘ (124 :: ·)) ts).sum ≤ lim := by simpa using g2
    have g4 : (List.map (List.length ∘ List.cons 124) ts).sum ≤ lim := g3
    simp [ev_var, ev_con, ev_bin, ev_neg, ev_not, ev_and, ev_or, ev_cmp, ev_chain, ev_ife, ev_tup, ev_lst, ev_ix, ev_sl, ev_call, ev_bi, ev_ixb, ev_lc, ei_e, ei_rng1, rg_i, ei_rng2, rg_ii, ng_i, io_i, zp_l, zp_t, ei_zip, el_nil, el_cons, eo_no, eo_at, xs_nil, xs_cons, xe_asg, xe_ite, xe_ret, xe_expr, xe_raise, run_fin, bind_ite, onto_ite, cond_ite, seqR_ite, finR_ite, app_ite, cmpB, bd_len_t, bd_len_l, bd_len_r, bd_len_s, bd_list_t, bd_list_l, bd_list_r, bd_list_s, bd_tuple_t, bd_tuple_l, bd_str_i, bd_str_s, bd_int_i, bd_int_b, bd_int_s, bd_sum, bd_min, bd_max, bd_min2, bd_max2, bd_all, bd_any, bd_isi, bd_join, bn_addi, bn_adds, bn_addl, bn_addt, bn_sub, bn_mul, bn_mull, bn_mult, bn_fdiv, bn_mod, bn_pow, ix_t, ix_l, ix_r, ix_s, sl_t, sl_l, sl_s, is_t, is_l, is_r, is_s, isiD, isD, leD, ltD, assignT, setAll, ev_m1, ev_fstr, ef_nil, ef_cons, ev_dgt, xe_try, rv_count, rv_split, rv_sindex, rv_tindex, rv_lindex, rv_lcnt, bd_isx, bd_count, bd_split, bd_sindex, bd_tindex, bd_lindex_b, bd_lindex_s, bd_lcnt, so_s, so_i, idc_d, strsD_map, e_nil, join_flat, g1, g3, g4, ln0]
  | nums nm is =>
    match is, h with
    | [a, b], h =>
      have h : ((nm == tx "digits" || nm == tx "letters") && spanB a b 0 4) = true := h
      rw [Bool.and_eq_true, Bool.or_eq_true, beq_iff_eq, beq_iff_eq] at h
      obtain ⟨hn, hs⟩ := h
      obtain ⟨s1, s2, s3, s4⟩ := span_in hs (by omega)
      have a0 : L2.atI [D.str nm, D.int a, D.int b] 0 = some (.str nm) := rfl
      have a1 : L2.atI [D.str nm, D.int a, D.int b] 1 = some (.int a) := rfl
      have a2 : L2.atI [D.str nm, D.int a, D.int b] 2 = some (.int b) := rfl
      have h9 : a < 1000000000000000 := by omega
      have h8 : b < 1000000000000000 := by omega
      have g2 : 2 ≤ lim := by decide
      have g3 : 3 ≤ lim := by decide
      have g4 : 4 ≤ lim := by decide
      have x1 : L2.atI (tx "digits") (0 : Int) = some 100 := by decide +kernel
      have x2 : L2.atI (tx "letters") (0 : Int) = some 108 := by decide +kernel
      have y1 : (tx "digits").length ≤ lim := by decide +kernel
      have y2 : (tx "letters").length ≤ lim := by decide +kernel
      have z1 : (tx "digits").take 1 = [100] := by decide +kernel
      have z2 : (tx "letters").take 1 = [108] := by decide +kernel
      rcases hn with e | e <;> subst e <;> simp [b__law_line, encR0, ev_var, ev_con, ev_bin, ev_neg, ev_not, ev_and, ev_or, ev_cmp, ev_chain, ev_ife, ev_tup, ev_lst, ev_ix, ev_sl, ev_call, ev_bi, ev_ixb, ev_lc, ei_e, ei_rng1, rg_i, ei_rng2, rg_ii, ng_i, io_i, zp_l, zp_t, ei_zip, el_nil, el_cons, eo_no, eo_at, xs_nil, xs_cons, xe_asg, xe_ite, xe_ret, xe_expr, xe_raise, run_fin, bind_ite, onto_ite, cond_ite, seqR_ite, finR_ite, app_ite, cmpB, bd_len_t, bd_len_l, bd_len_r, bd_len_s, bd_list_t, bd_list_l, bd_list_r, bd_list_s, bd_tuple_t, bd_tuple_l, bd_str_i, bd_str_s, bd_int_i, bd_int_b, bd_int_s, bd_sum, bd_min, bd_max, bd_min2, bd_max2, bd_all, bd_any, bd_isi, bd_join, bn_addi, bn_adds, bn_addl, bn_addt, bn_sub, bn_mul, bn_mull, bn_mult, bn_fdiv, bn_mod, bn_pow, ix_t, ix_l, ix_r, ix_s, sl_t, sl_l, sl_s, is_t, is_l, is_r, is_s, isiD, isD, leD, ltD, assignT, setAll, ev_m1, ev_fstr, ef_nil, ef_cons, ev_dgt, xe_try, rv_count, rv_split, rv_sindex, rv_tindex, rv_lindex, rv_lcnt, bd_isx, bd_count, bd_split, bd_sindex, bd_tindex, bd_lindex_b, bd_lindex_s, bd_lcnt, so_s, so_i, idc_d, a0, a1, a2, g_word_word, g_word_digits, g_word_letters, g_word_number, g_word_choice, g_word_repeat, g_digits_word, g_digits_digits, g_digits_letters, g_digits_number, g_digits_choice, g_digits_repeat, g_letters_word, g_letters_digits, g_letters_letters, g_letters_number, g_letters_choice, g_letters_repeat, g_number_word, g_number_digits, g_number_letters, g_number_number, g_number_choice, g_number_repeat, g_choice_word, g_choice_digits, g_choice_letters, g_choice_number, g_choice_choice, g_choice_repeat, g_repeat_word, g_repeat_digits, g_repeat_letters, g_repeat_number, g_repeat_choice, g_repeat_repeat, e_comma, ln0, g2, g3, g4, s1, s3, h8, h9, int_dig a s1 s2, int_dig b s3 s4, x1, x2, y1, y2, z1, z2]
    | [], h => cases h
    | [_], h => cases h
    | _ :: _ :: _ :: _, h => cases h
theorem p__law_lineR (N n : Nat) (r : RF) (h : isF r = true) (S : Sh) : Φs N fbs (n + 2) f__law_line [encRF r] S = .ok (.str (lnR r)) S := by
  cases r with
  | one r => exact p__law_line0 N (n + 1) r h S
  | rep r is =>
    match is, h with
    | [a, b], h =>
      have h : (isS r && spanB a b 1 3) = true := h
      rw [Bool.and_eq_true] at h
      obtain ⟨s1, s2, s3, s4⟩ := span_in h.2 (by omega)
      have p0 := p__law_line0 N n r h.1 S
      have hl := ln0_len h.1
      rw [u__law_line]
      have a0 : L2.atI [D.str (tx "repeat"), encR0 r, D.int a, D.int b] 0 = some (.str (tx "repeat")) := rfl
      have a1 : L2.atI [D.str (tx "repeat"), encR0 r, D.int a, D.int b] 1 = some (encR0 r) := rfl
      have a2 : L2.atI [D.str (tx "repeat"), encR0 r, D.int a, D.int b] 2 = some (.int a) := rfl
      have a3 : L2.atI [D.str (tx "repeat"), encR0 r, D.int a, D.int b] 3 = some (.int b) := rfl
      have h9 : a < 1000000000000000 := by omega
      have h8 : b < 1000000000000000 := by omega
      have g1 : (ln0 r).length + 1 ≤ lim := by show _ ≤ 1000000; omega
      have g2 : (ln0 r).length + 2 ≤ lim := by show _ ≤ 1000000; omega
      have g3 : (ln0 r).length + 3 ≤ lim := by show _ ≤ 1000000; omega
      have g4 : (ln0 r).length + 4 ≤ lim := by show _ ≤ 1000000; omega
      have g5 : (ln0 r).length + 1 + 1 ≤ lim := g2
      have g6 : (ln0 r).length + 1 + 1 + 1 ≤ lim := g3
      have g7 : (ln0 r).length + 1 + 1 + 1 + 1 ≤ lim := g4
      simp [b__law_line, encRF, ev_var, ev_con, ev_bin, ev_neg, ev_not, ev_and, ev_or, ev_cmp, ev_chain, ev_ife, ev_tup, ev_lst, ev_ix, ev_sl, ev_call, ev_bi, ev_ixb, ev_lc, ei_e, ei_rng1, rg_i, ei_rng2, rg_ii, ng_i, io_i, zp_l, zp_t, ei_zip, el_nil, el_cons, eo_no, eo_at, xs_nil, xs_cons, xe_asg, xe_ite, xe_ret, xe_expr, xe_raise, run_fin, bind_ite, onto_ite, cond_ite, seqR_ite, finR_ite, app_ite, cmpB, bd_len_t, bd_len_l, bd_len_r, bd_len_s, bd_list_t, bd_list_l, bd_list_r, bd_list_s, bd_tuple_t, bd_tuple_l, bd_str_i, bd_str_s, bd_int_i, bd_int_b, bd_int_s, bd_sum, bd_min, bd_max, bd_min2, bd_max2, bd_all, bd_any, bd_isi, bd_join, bn_addi, bn_adds, bn_addl, bn_addt, bn_sub, bn_mul, bn_mull, bn_mult, bn_fdiv, bn_mod, bn_pow, ix_t, ix_l, ix_r, ix_s, sl_t, sl_l, sl_s, is_t, is_l, is_r, is_s, isiD, isD, leD, ltD, assignT, setAll, ev_m1, ev_fstr, ef_nil, ef_cons, ev_dgt, xe_try, rv_count, rv_split, rv_sindex, rv_tindex, rv_lindex, rv_lcnt, bd_isx, bd_count, bd_split, bd_sindex, bd_tindex, bd_lindex_b, bd_lindex_s, bd_lcnt, so_s, so_i, idc_d, a0, a1, a2, a3, g_word_word, g_word_digits, g_word_letters, g_word_number, g_word_choice, g_word_repeat, g_digits_word, g_digits_digits, g_digits_letters, g_digits_number, g_digits_choice, g_digits_repeat, g_letters_word, g_letters_digits, g_letters_letters, g_letters_number, g_letters_choice, g_letters_repeat, g_number_word, g_number_digits, g_number_letters, g_number_number, g_number_choice, g_number_repeat, g_choice_word, g_choice_digits, g_choice_letters, g_choice_number, g_choice_choice, g_choice_repeat, g_repeat_word, g_repeat_digits, g_repeat_letters, g_repeat_number, g_repeat_choice, g_repeat_repeat, p0, e_star, e_comma, lnR, g1, g2, g3, g4, g5, g6, g7, s1, s3, h8, h9, int_dig a s1 s2, int_dig b s3 s4]
    | [], h => cases h
    | [_], h => cases h
    | _ :: _ :: _ :: _, h => cases h
end FT
namespace FT
open PySem PySem.Spec PyProof.Rows L2
/-! ### a text is read -/
def lineR (rs : List RF) : Tx := joinL [32] (rs.map lnR)
def goodR (rs : List RF) (s : Tx) : Bool := isFm rs && (lineR rs == s)
theorem joinL_len (sep : Tx) : ∀ ys : List Tx, (joinL sep ys).length ≤ (ys.map List.length).sum + ys.length * sep.length
  | [] => by simp [joinL]
  | [x] => by simp [joinL]
  | x :: y :: r => by
    have := joinL_len sep (y :: r)
    simp only [joinL, List.map_cons, List.sum_cons, List.length_cons, List.length_append, Nat.add_mul, Nat.one_mul] at this ⊢
    omega
theorem joinL_mem (sep : Tx) : ∀ (ys : List Tx) (c : Nat), c ∈ joinL sep ys → c ∈ sep ∨ ∃ y ∈ ys, c ∈ y
  | [], c, h => by simp [joinL] at h
  | [x], c, h => .inr ⟨x, List.mem_cons_self, h⟩
  | x :: y :: r, c, h => by
    simp only [joinL] at h
    rcases List.mem_append.mp h with z | z
    · rcases List.mem_append.mp z with q | q
      · exact .inr ⟨x, List.mem_cons_self, q⟩
      · exact .inl q
    · rcases joinL_mem sep (y :: r) c z with q | ⟨u, hu, q⟩
      · exact .inl q
      · exact .inr ⟨u, List.mem_cons_of_mem _ hu, q⟩
theorem joinL_count (sep : Tx) (c : Nat) (hc : c ∉ sep) : ∀ (ys : List Tx), (∀ y ∈ ys, y.count c ≤ 1) → (joinL sep ys).count c ≤ ys.length
  | [], _ => by simp [joinL]
  | [x], h => by simpa [joinL] using h x List.mem_cons_self
  | x :: y :: r, h => by
    have := joinL_count sep c hc (y :: r) fun z hz => h z (List.mem_cons_of_mem _ hz)
    have hx := h x List.mem_cons_self
    have h0 := List.count_eq_zero.mpr hc
    simp only [joinL, List.count_append, List.length_cons] at this ⊢
    omega
theorem sum_len {α : Type} (f : α → Nat) (c : Nat) : ∀ l : List α, (∀ a ∈ l, f a ≤ c) → (l.map f).sum ≤ l.length * c
  | [], _ => by simp
  | a :: l, h => by
    have h1 := sum_len f c l fun b hb => h b (List.mem_cons_of_mem _ hb)
    have h2 := h a List.mem_cons_self
    simp only [List.map_cons, List.sum_cons, List.length_cons, Nat.add_mul, Nat.one_mul]
    omega
theorem isFm_ok {rs : List RF} (h : isFm rs = true) : 1 ≤ rs.length ∧ rs.length ≤ 6 ∧ ∀ r ∈ rs, isF r = true := by
  simp only [isFm, Bool.and_eq_true, decide_eq_true_eq, List.all_eq_true] at h
  exact ⟨h.1.1, h.1.2, h.2⟩
theorem lineR_len' {rs : List RF} (h : ∀ r ∈ rs, isF r = true) : (lineR rs).length ≤ rs.length * 25 := by
  have h1 := joinL_len [32] (rs.map lnR)
  rw [List.length_map, List.map_map] at h1
  have h2 := sum_len (List.length ∘ lnR) 24 rs fun r hr => lnR_len (h r hr)
  show (joinL [32] (rs.map lnR)).length ≤ _
  simp only [List.length_cons, List.length_nil] at h1
  omega
theorem lineR_len {rs : List RF} (h : isFm rs = true) : (lineR rs).length ≤ 150 := by
  obtain ⟨_, h2, h3⟩ := isFm_ok h
  have := lineR_len' h3
  omega
theorem isTx_ch {s : Tx} (h : isTx s = true) : ∀ c ∈ s, c < 1114112 := by
  simp only [isTx, isT, Bool.and_eq_true] at h
  exact fun c hc => sgn_small (has_iff.mp (List.all_eq_true.mp h.2.2 c hc))
theorem ln0_ch {r : R0} (h : isS r = true) : ∀ c ∈ ln0 r, c < 1114112 := by
  intro c hc
  cases r with
  | word s =>
    rcases List.mem_cons.mp hc with e | e
    · omega
    · exact isTx_ch h c e
  | number i =>
    simp only [isS, Bool.and_eq_true, decide_eq_true_eq] at h
    simp only [ln0, List.mem_cons, List.not_mem_nil, or_false] at hc
    omega
  | choice ts =>
    simp only [isS, Bool.and_eq_true, List.all_eq_true] at h
    obtain ⟨u, hu, hcu⟩ := List.mem_flatten.mp hc
    obtain ⟨t, ht, rfl⟩ := List.mem_map.mp hu
    rcases List.mem_cons.mp hcu with e | e
    · omega
    · exact isTx_ch (h.1.2 t ht) c e
  | nums nm is =>
    match is, h with
    | [a, b], h =>
      have h : ((nm == tx "digits" || nm == tx "letters") && spanB a b 0 4) = true := h
      rw [Bool.and_eq_true, Bool.or_eq_true, beq_iff_eq, beq_iff_eq] at h
      obtain ⟨hn, hs⟩ := h
      obtain ⟨s1, s2, s3, s4⟩ := span_in hs (by omega)
      have hn : nm.take 1 = [100] ∨ nm.take 1 = [108] := by
        rcases hn with e | e <;> subst e
        · left; decide +kernel
        · right; decide +kernel
      simp only [ln0, List.mem_append, List.mem_cons, List.not_mem_nil, or_false] at hc
      rcases hc with e | e
      · rcases hn with q | q <;> rw [q] at e <;> simp only [List.mem_singleton] at e <;> omega
      · omega
    | [], h => cases h
    | [_], h => cases h
    | _ :: _ :: _ :: _, h => cases h
theorem lnR_ch {r : RF} (h : isF r = true) : ∀ c ∈ lnR r, c < 1114112 := by
  cases r with
  | one r => exact ln0_ch (r := r) h
  | rep r is =>
    match is, h with
    | [a, b], h =>
      have h : (isS r && spanB a b 1 3) = true := h
      rw [Bool.and_eq_true] at h
      obtain ⟨s1, s2, s3, s4⟩ := span_in h.2 (by omega)
      intro c hc
      rcases List.mem_append.mp hc with e | e
      · exact ln0_ch h.1 c e
      · simp only [List.mem_cons, List.not_mem_nil, or_false] at e
        omega
    | [], h => cases h
    | [_], h => cases h
    | _ :: _ :: _ :: _, h => cases h
theorem lineR_ch {rs : List RF} (h : ∀ r ∈ rs, isF r = true) : (lineR rs).all (· < 1114112) = true := List.all_eq_true.mpr fun c hc => decide_eq_true (by
  rcases joinL_mem [32] _ c hc with z | ⟨y, hy, hcy⟩
  · simp at z; omega
  · obtain ⟨r, hr, rfl⟩ := List.mem_map.mp hy
    exact lnR_ch (h r hr) c hcy)
theorem join_lines {rs : List RF} (h : isFm rs = true) : biD .join [.str (tx " "), .lst (rs.map fun r => D.str (lnR r))] = some (.str (lineR rs)) := by
  rw [bd_join, strsD_map, e_sp]
  have h1 := isFm_ok h
  have h2 := lineR_len h
  show (if (rs.map lnR).length ≤ 100000 && [32].length ≤ 100 && (lineR rs).length ≤ lim then some (D.str (lineR rs)) else none) = _
  rw [if_pos]
  simp only [Bool.and_eq_true, decide_eq_true_eq, List.length_map]
  exact ⟨⟨by omega, by decide⟩, by show _ ≤ 1000000; omega⟩
theorem p_form_textR (N n : Nat) (rs : List RF) (h : isFm rs = true) (S : Sh) : Φs N fbs (n + 3) f_form_text [encRs rs] S = .ok (.str (lineR rs)) S := by
  rw [u_form_text]
  have h1 := isFm_ok h
  have e1 : ∀ a b : SV, lcK (keepF (Φs N fbs (n + 2)) [a, b] [1] (.call f_field_text (.cons (.var 1) .nil)) (.nm 1) (.con (.bl true))) (rs.map encRF) S = .ok (.lst (rs.map fun t => D.str (lnR t))) S := fun a b =>
    lcK_m (fun t => D.str (lnR t)) rs (by show _ ≤ 1000000; omega) fun t ht => by simp [keepF, wipeE, ev_var, ev_con, ev_bin, ev_neg, ev_not, ev_and, ev_or, ev_cmp, ev_chain, ev_ife, ev_tup, ev_lst, ev_ix, ev_sl, ev_call, ev_bi, ev_ixb, ev_lc, ei_e, ei_rng1, rg_i, ei_rng2, rg_ii, ng_i, io_i, zp_l, zp_t, ei_zip, el_nil, el_cons, eo_no, eo_at, xs_nil, xs_cons, xe_asg, xe_ite, xe_ret, xe_expr, xe_raise, run_fin, bind_ite, onto_ite, cond_ite, seqR_ite, finR_ite, app_ite, cmpB, bd_len_t, bd_len_l, bd_len_r, bd_len_s, bd_list_t, bd_list_l, bd_list_r, bd_list_s, bd_tuple_t, bd_tuple_l, bd_str_i, bd_str_s, bd_int_i, bd_int_b, bd_int_s, bd_sum, bd_min, bd_max, bd_min2, bd_max2, bd_all, bd_any, bd_isi, bd_join, bn_addi, bn_adds, bn_addl, bn_addt, bn_sub, bn_mul, bn_mull, bn_mult, bn_fdiv, bn_mod, bn_pow, ix_t, ix_l, ix_r, ix_s, sl_t, sl_l, sl_s, is_t, is_l, is_r, is_s, isiD, isD, leD, ltD, assignT, setAll, ev_m1, ev_fstr, ef_nil, ef_cons, ev_dgt, xe_try, rv_count, rv_split, rv_sindex, rv_tindex, rv_lindex, rv_lcnt, bd_isx, bd_count, bd_split, bd_sindex, bd_tindex, bd_lindex_b, bd_lindex_s, bd_lcnt, so_s, so_i, idc_d, p_field_textR N n t (h1.2.2 t ht)]
  have hj := join_lines h
  simp only [b_form_text, encRs, run_fin, List.length_cons, List.length_nil, Nat.zero_add, if_true, List.map_cons, List.map_nil, Nat.reduceSub, List.replicate_succ, List.replicate_zero, List.cons_append, List.nil_append, xs_cons, xe_ret, ev_bi, el_cons, ev_con, Res.bind_ok, ev_lc, ei_e, ev_var, List.getElem?_cons_zero, gv_dat, is_t, lift_some, e1, el_nil, hj, Res.onto_ok, seqR_rt, finR_rt]
theorem rd0_sm (s : Tx) (hl : s.length ≤ 900) (hs : s.all (· < 1114112) = true) : smR0 (rd0 s) := by
  have hd : (s.drop 1).length ≤ 900 := by rw [List.length_drop]; omega
  have hc := chars_drop hs 1
  unfold rd0
  split
  · exact ⟨by omega, hc⟩
  · split
    · have := splitC_len 124 (s.drop 1)
      refine ⟨by omega, fun t ht => ?_⟩
      obtain ⟨h1, h2, _⟩ := splitC_mem 124 _ t ht
      exact ⟨by omega, List.all_eq_true.mpr fun c q => List.all_eq_true.mp hc c (h1 c q)⟩
    · split
      · trivial
      · have := splitC_len 44 (s.drop 1)
        refine ⟨by rw [List.length_map]; omega, ?_⟩
        unfold nmOf
        split
        · exact .inl rfl
        · split
          · exact .inr (.inl rfl)
          · exact .inr (.inr rfl)
theorem rd_sm (s : Tx) (hl : s.length ≤ 900) (hs : s.all (· < 1114112) = true) : smRF (rd s) := by
  unfold rd
  cases hk : idxOf (· == 42) s with
  | none => exact rd0_sm s hl hs
  | some k =>
    have := splitC_len 44 (s.drop (k + 1))
    rw [List.length_drop] at this
    exact ⟨rd0_sm _ (by rw [List.length_take]; omega) (chars_take hs k), by rw [List.length_map]; omega⟩
theorem lp_sm (s : Tx) (hl : s.length ≤ 900) (hs : s.all (· < 1114112) = true) : smRF (lp s) := by
  unfold lp
  split
  · exact rd_sm s hl hs
  · exact rd0_sm s hl hs
theorem parts_sm {s : Tx} (hl : s.length ≤ 900) (hs : s.all (· < 1114112) = true) : ∀ p ∈ splitC 32 s, p.length ≤ 900 ∧ p.all (· < 1114112) = true := fun p hp => by
  obtain ⟨h1, h2, _⟩ := splitC_mem 32 s p hp
  exact ⟨by omega, List.all_eq_true.mpr fun c q => List.all_eq_true.mp hs c (h1 c q)⟩
def rdL (s : Tx) : List RF := (splitC 32 s).map rd
def lpL (s : Tx) : List RF := (splitC 32 s).map lp
theorem good_rl (s : Tx) : goodR (rdL s) s = goodR (lpL s) s ∧ (goodR (lpL s) s = true → rdL s = lpL s) := by
  by_cases h : isFm (rdL s) = true ∨ isFm (lpL s) = true
  · have e : rdL s = lpL s := fm_lp _ h
    exact ⟨by rw [e], fun _ => e⟩
  · have h1 : isFm (rdL s) = false := Bool.eq_false_iff.mpr fun q => h (.inl q)
    have h2 : isFm (lpL s) = false := Bool.eq_false_iff.mpr fun q => h (.inr q)
    unfold goodR
    rw [h1, h2]
    exact ⟨rfl, fun q => by cases q⟩
theorem p_format_from (N n : Nat) (s : Tx) (hl : s.length ≤ 200) (hs : s.all (· < 1114112) = true) (hc : s.count 42 ≤ 6) (S : Sh) :
    Φs N fbs (n + 6) f_format_from [.str s] S = if goodR (rdL s) s = true then .ok (encRs (rdL s)) S else .ex 4 S := by
  rw [u_format_from]
  have l1 : s.length ≤ lim := len_lim (by omega)
  have l2 : ¬ (200 : Int) < s.length := by omega
  have l3 : ¬ (6 : Int) < (s.count 42 : Nat) := by omega
  have hp := parts_sm (s := s) (by omega) hs
  have sl := splitC_len 32 s
  have e1 : ∀ a b c : SV, lcK (keepF (Φs N fbs (n + 5)) [a, b, c] [2] (.call f_read_field (.cons (.var 2) .nil)) (.nm 2) (.con (.bl true))) ((splitC 32 s).map D.str) S = .ok (.lst ((splitC 32 s).map fun p => encRF (rd p))) S := fun a b c =>
    lcK_m (fun p => encRF (rd p)) (splitC 32 s) (by show _ ≤ 1000000; omega) fun p h => by simp [keepF, wipeE, ev_var, ev_con, ev_bin, ev_neg, ev_not, ev_and, ev_or, ev_cmp, ev_chain, ev_ife, ev_tup, ev_lst, ev_ix, ev_sl, ev_call, ev_bi, ev_ixb, ev_lc, ei_e, ei_rng1, rg_i, ei_rng2, rg_ii, ng_i, io_i, zp_l, zp_t, ei_zip, el_nil, el_cons, eo_no, eo_at, xs_nil, xs_cons, xe_asg, xe_ite, xe_ret, xe_expr, xe_raise, run_fin, bind_ite, onto_ite, cond_ite, seqR_ite, finR_ite, app_ite, cmpB, bd_len_t, bd_len_l, bd_len_r, bd_len_s, bd_list_t, bd_list_l, bd_list_r, bd_list_s, bd_tuple_t, bd_tuple_l, bd_str_i, bd_str_s, bd_int_i, bd_int_b, bd_int_s, bd_sum, bd_min, bd_max, bd_min2, bd_max2, bd_all, bd_any, bd_isi, bd_join, bn_addi, bn_adds, bn_addl, bn_addt, bn_sub, bn_mul, bn_mull, bn_mult, bn_fdiv, bn_mod, bn_pow, ix_t, ix_l, ix_r, ix_s, sl_t, sl_l, sl_s, is_t, is_l, is_r, is_s, isiD, isD, leD, ltD, assignT, setAll, ev_m1, ev_fstr, ef_nil, ef_cons, ev_dgt, xe_try, rv_count, rv_split, rv_sindex, rv_tindex, rv_lindex, rv_lcnt, bd_isx, bd_count, bd_split, bd_sindex, bd_tindex, bd_lindex_b, bd_lindex_s, bd_lcnt, so_s, so_i, idc_d, p_read_field N (n + 1) p (by have := (hp p h).1; omega) (hp p h).2]
  have e2 : (splitC 32 s).map (fun p => encRF (rd p)) = (rdL s).map encRF := by rw [rdL, List.map_map]; rfl
  rw [e2] at e1
  have e3 := p_formatR N n (rdL s) (by rw [rdL, List.length_map]; omega) (fun r hr => by
    obtain ⟨p, h, rfl⟩ := List.mem_map.mp hr
    exact rd_sm p (hp p h).1 (hp p h).2) S
  simp only [encRs] at e3
  cases hf : isFm (rdL s) with
  | false =>
    rw [hf] at e3
    simp [b_format_from, ev_var, ev_con, ev_bin, ev_neg, ev_not, ev_and, ev_or, ev_cmp, ev_chain, ev_ife, ev_tup, ev_lst, ev_ix, ev_sl, ev_call, ev_bi, ev_ixb, ev_lc, ei_e, ei_rng1, rg_i, ei_rng2, rg_ii, ng_i, io_i, zp_l, zp_t, ei_zip, el_nil, el_cons, eo_no, eo_at, xs_nil, xs_cons, xe_asg, xe_ite, xe_ret, xe_expr, xe_raise, run_fin, bind_ite, onto_ite, cond_ite, seqR_ite, finR_ite, app_ite, cmpB, bd_len_t, bd_len_l, bd_len_r, bd_len_s, bd_list_t, bd_list_l, bd_list_r, bd_list_s, bd_tuple_t, bd_tuple_l, bd_str_i, bd_str_s, bd_int_i, bd_int_b, bd_int_s, bd_sum, bd_min, bd_max, bd_min2, bd_max2, bd_all, bd_any, bd_isi, bd_join, bn_addi, bn_adds, bn_addl, bn_addt, bn_sub, bn_mul, bn_mull, bn_mult, bn_fdiv, bn_mod, bn_pow, ix_t, ix_l, ix_r, ix_s, sl_t, sl_l, sl_s, is_t, is_l, is_r, is_s, isiD, isD, leD, ltD, assignT, setAll, ev_m1, ev_fstr, ef_nil, ef_cons, ev_dgt, xe_try, rv_count, rv_split, rv_sindex, rv_tindex, rv_lindex, rv_lcnt, bd_isx, bd_count, bd_split, bd_sindex, bd_tindex, bd_lindex_b, bd_lindex_s, bd_lcnt, so_s, so_i, idc_d, l1, l2, l3, e_star, e_sp, e1, e3, goodR, hf]
  | true =>
    rw [hf] at e3
    have e4 := p_form_textR N (n + 2) (rdL s) hf S
    have e5 := eqD_str (lineR (rdL s)) s (lineR_ch (isFm_ok hf).2.2) hs
    simp only [encRs] at e4
    cases hq : (lineR (rdL s) == s) with
    | false =>
      rw [hq] at e5
      simp [b_format_from, ev_var, ev_con, ev_bin, ev_neg, ev_not, ev_and, ev_or, ev_cmp, ev_chain, ev_ife, ev_tup, ev_lst, ev_ix, ev_sl, ev_call, ev_bi, ev_ixb, ev_lc, ei_e, ei_rng1, rg_i, ei_rng2, rg_ii, ng_i, io_i, zp_l, zp_t, ei_zip, el_nil, el_cons, eo_no, eo_at, xs_nil, xs_cons, xe_asg, xe_ite, xe_ret, xe_expr, xe_raise, run_fin, bind_ite, onto_ite, cond_ite, seqR_ite, finR_ite, app_ite, cmpB, bd_len_t, bd_len_l, bd_len_r, bd_len_s, bd_list_t, bd_list_l, bd_list_r, bd_list_s, bd_tuple_t, bd_tuple_l, bd_str_i, bd_str_s, bd_int_i, bd_int_b, bd_int_s, bd_sum, bd_min, bd_max, bd_min2, bd_max2, bd_all, bd_any, bd_isi, bd_join, bn_addi, bn_adds, bn_addl, bn_addt, bn_sub, bn_mul, bn_mull, bn_mult, bn_fdiv, bn_mod, bn_pow, ix_t, ix_l, ix_r, ix_s, sl_t, sl_l, sl_s, is_t, is_l, is_r, is_s, isiD, isD, leD, ltD, assignT, setAll, ev_m1, ev_fstr, ef_nil, ef_cons, ev_dgt, xe_try, rv_count, rv_split, rv_sindex, rv_tindex, rv_lindex, rv_lcnt, bd_isx, bd_count, bd_split, bd_sindex, bd_tindex, bd_lindex_b, bd_lindex_s, bd_lcnt, so_s, so_i, idc_d, l1, l2, l3, e_star, e_sp, e1, e3, e4, e5, goodR, hf, hq]
    | true =>
      rw [hq] at e5
      simp [b_format_from, ev_var, ev_con, ev_bin, ev_neg, ev_not, ev_and, ev_or, ev_cmp, ev_chain, ev_ife, ev_tup, ev_lst, ev_ix, ev_sl, ev_call, ev_bi, ev_ixb, ev_lc, ei_e, ei_rng1, rg_i, ei_rng2, rg_ii, ng_i, io_i, zp_l, zp_t, ei_zip, el_nil, el_cons, eo_no, eo_at, xs_nil, xs_cons, xe_asg, xe_ite, xe_ret, xe_expr, xe_raise, run_fin, bind_ite, onto_ite, cond_ite, seqR_ite, finR_ite, app_ite, cmpB, bd_len_t, bd_len_l, bd_len_r, bd_len_s, bd_list_t, bd_list_l, bd_list_r, bd_list_s, bd_tuple_t, bd_tuple_l, bd_str_i, bd_str_s, bd_int_i, bd_int_b, bd_int_s, bd_sum, bd_min, bd_max, bd_min2, bd_max2, bd_all, bd_any, bd_isi, bd_join, bn_addi, bn_adds, bn_addl, bn_addt, bn_sub, bn_mul, bn_mull, bn_mult, bn_fdiv, bn_mod, bn_pow, ix_t, ix_l, ix_r, ix_s, sl_t, sl_l, sl_s, is_t, is_l, is_r, is_s, isiD, isD, leD, ltD, assignT, setAll, ev_m1, ev_fstr, ef_nil, ef_cons, ev_dgt, xe_try, rv_count, rv_split, rv_sindex, rv_tindex, rv_lindex, rv_lcnt, bd_isx, bd_count, bd_split, bd_sindex, bd_tindex, bd_lindex_b, bd_lindex_s, bd_lcnt, so_s, so_i, idc_d, l1, l2, l3, e_star, e_sp, e1, e3, e4, e5, goodR, hf, hq, encRs]
def rsd : D := .tup [.str (tx "raised"), .int 3]
theorem p__law_name (N n : Nat) (S : Sh) : Φs N fbs (n + 1) f__law_name [.exc 4] S = .ok (.int 3) S := by
  rw [u__law_name]
  have hb : blsD [.bl false, .bl false, .bl false, .bl true, .bl false, .bl false, .bl false, .bl false, .bl false, .bl false, .bl false] = some [false, false, false, true, false, false, false, false, false, false, false] := rfl
  have hi : idxOf (fun x : Bool => x) [false, false, false, true, false, false, false, false, false, false, false] = some 3 := by decide +kernel
  have g : ∀ k, k ≤ 11 → k ≤ lim := fun k h => by show _ ≤ 1000000; omega
  simp [b__law_name, ev_var, ev_con, ev_bin, ev_neg, ev_not, ev_and, ev_or, ev_cmp, ev_chain, ev_ife, ev_tup, ev_lst, ev_ix, ev_sl, ev_call, ev_bi, ev_ixb, ev_lc, ei_e, ei_rng1, rg_i, ei_rng2, rg_ii, ng_i, io_i, zp_l, zp_t, ei_zip, el_nil, el_cons, eo_no, eo_at, xs_nil, xs_cons, xe_asg, xe_ite, xe_ret, xe_expr, xe_raise, run_fin, bind_ite, onto_ite, cond_ite, seqR_ite, finR_ite, app_ite, cmpB, bd_len_t, bd_len_l, bd_len_r, bd_len_s, bd_list_t, bd_list_l, bd_list_r, bd_list_s, bd_tuple_t, bd_tuple_l, bd_str_i, bd_str_s, bd_int_i, bd_int_b, bd_int_s, bd_sum, bd_min, bd_max, bd_min2, bd_max2, bd_all, bd_any, bd_isi, bd_join, bn_addi, bn_adds, bn_addl, bn_addt, bn_sub, bn_mul, bn_mull, bn_mult, bn_fdiv, bn_mod, bn_pow, ix_t, ix_l, ix_r, ix_s, sl_t, sl_l, sl_s, is_t, is_l, is_r, is_s, isiD, isD, leD, ltD, assignT, setAll, ev_m1, ev_fstr, ef_nil, ef_cons, ev_dgt, xe_try, rv_count, rv_split, rv_sindex, rv_tindex, rv_lindex, rv_lcnt, bd_isx, bd_count, bd_split, bd_sindex, bd_tindex, bd_lindex_b, bd_lindex_s, bd_lcnt, so_s, so_i, idc_d, g, hb, hi, eqD_int]
theorem p__law_raises (N n : Nat) (S : Sh) : Φs N fbs (n + 1) f__law_raises [.str (tx "text")] S = .ok rsd S := by
  rw [u__law_raises]
  have hb : strsD [.str (tx "format"), .str (tx "field"), .str (tx "record"), .str (tx "text"), .str (tx "number"), .str (tx "places"), .str (tx "reading"), .str (tx "doubtful"), .str (tx "many"), .str (tx "last"), .str (tx "undo")] = some [tx "format", tx "field", tx "record", tx "text", tx "number", tx "places", tx "reading", tx "doubtful", tx "many", tx "last", tx "undo"] := rfl
  have hi : idxOf (· == tx "text") [tx "format", tx "field", tx "record", tx "text", tx "number", tx "places", tx "reading", tx "doubtful", tx "many", tx "last", tx "undo"] = some 3 := by decide +kernel
  have g : ∀ k, k ≤ 11 → k ≤ lim := fun k h => by show _ ≤ 1000000; omega
  simp [b__law_raises, ev_var, ev_con, ev_bin, ev_neg, ev_not, ev_and, ev_or, ev_cmp, ev_chain, ev_ife, ev_tup, ev_lst, ev_ix, ev_sl, ev_call, ev_bi, ev_ixb, ev_lc, ei_e, ei_rng1, rg_i, ei_rng2, rg_ii, ng_i, io_i, zp_l, zp_t, ei_zip, el_nil, el_cons, eo_no, eo_at, xs_nil, xs_cons, xe_asg, xe_ite, xe_ret, xe_expr, xe_raise, run_fin, bind_ite, onto_ite, cond_ite, seqR_ite, finR_ite, app_ite, cmpB, bd_len_t, bd_len_l, bd_len_r, bd_len_s, bd_list_t, bd_list_l, bd_list_r, bd_list_s, bd_tuple_t, bd_tuple_l, bd_str_i, bd_str_s, bd_int_i, bd_int_b, bd_int_s, bd_sum, bd_min, bd_max, bd_min2, bd_max2, bd_all, bd_any, bd_isi, bd_join, bn_addi, bn_adds, bn_addl, bn_addt, bn_sub, bn_mul, bn_mull, bn_mult, bn_fdiv, bn_mod, bn_pow, ix_t, ix_l, ix_r, ix_s, sl_t, sl_l, sl_s, is_t, is_l, is_r, is_s, isiD, isD, leD, ltD, assignT, setAll, ev_m1, ev_fstr, ef_nil, ef_cons, ev_dgt, xe_try, rv_count, rv_split, rv_sindex, rv_tindex, rv_lindex, rv_lcnt, bd_isx, bd_count, bd_split, bd_sindex, bd_tindex, bd_lindex_b, bd_lindex_s, bd_lcnt, so_s, so_i, idc_d, g, hb, hi, rsd]
def outS (s : Tx) : D := if goodR (rdL s) s = true then .tup [.str (tx "returned"), encRs (rdL s)] else rsd
theorem p_out_str (N n : Nat) (s : Tx) (hl : s.length ≤ 200) (hs : s.all (· < 1114112) = true) (hc : s.count 42 ≤ 6) (S : Sh) :
    Φs N fbs (n + 8) f__law_outcome [.int 0, .str s] S = .ok (outS s) S := by
  rw [u__law_outcome]
  have e1 := p_format_from N n s hl hs hc S
  have e2 : Φs N fbs (n + 7) f__law_call [.int 0, .str s] S = if goodR (rdL s) s = true then .ok (encRs (rdL s)) S else .ex 4 S := by
    rw [u__law_call]
    by_cases h : goodR (rdL s) s = true
    · rw [if_pos h] at e1 ⊢
      simp [b__law_call, ev_var, ev_con, ev_bin, ev_neg, ev_not, ev_and, ev_or, ev_cmp, ev_chain, ev_ife, ev_tup, ev_lst, ev_ix, ev_sl, ev_call, ev_bi, ev_ixb, ev_lc, ei_e, ei_rng1, rg_i, ei_rng2, rg_ii, ng_i, io_i, zp_l, zp_t, ei_zip, el_nil, el_cons, eo_no, eo_at, xs_nil, xs_cons, xe_asg, xe_ite, xe_ret, xe_expr, xe_raise, run_fin, bind_ite, onto_ite, cond_ite, seqR_ite, finR_ite, app_ite, cmpB, bd_len_t, bd_len_l, bd_len_r, bd_len_s, bd_list_t, bd_list_l, bd_list_r, bd_list_s, bd_tuple_t, bd_tuple_l, bd_str_i, bd_str_s, bd_int_i, bd_int_b, bd_int_s, bd_sum, bd_min, bd_max, bd_min2, bd_max2, bd_all, bd_any, bd_isi, bd_join, bn_addi, bn_adds, bn_addl, bn_addt, bn_sub, bn_mul, bn_mull, bn_mult, bn_fdiv, bn_mod, bn_pow, ix_t, ix_l, ix_r, ix_s, sl_t, sl_l, sl_s, is_t, is_l, is_r, is_s, isiD, isD, leD, ltD, assignT, setAll, ev_m1, ev_fstr, ef_nil, ef_cons, ev_dgt, xe_try, rv_count, rv_split, rv_sindex, rv_tindex, rv_lindex, rv_lcnt, bd_isx, bd_count, bd_split, bd_sindex, bd_tindex, bd_lindex_b, bd_lindex_s, bd_lcnt, so_s, so_i, idc_d, e1]
    · rw [if_neg h] at e1 ⊢
      simp [b__law_call, ev_var, ev_con, ev_bin, ev_neg, ev_not, ev_and, ev_or, ev_cmp, ev_chain, ev_ife, ev_tup, ev_lst, ev_ix, ev_sl, ev_call, ev_bi, ev_ixb, ev_lc, ei_e, ei_rng1, rg_i, ei_rng2, rg_ii, ng_i, io_i, zp_l, zp_t, ei_zip, el_nil, el_cons, eo_no, eo_at, xs_nil, xs_cons, xe_asg, xe_ite, xe_ret, xe_expr, xe_raise, run_fin, bind_ite, onto_ite, cond_ite, seqR_ite, finR_ite, app_ite, cmpB, bd_len_t, bd_len_l, bd_len_r, bd_len_s, bd_list_t, bd_list_l, bd_list_r, bd_list_s, bd_tuple_t, bd_tuple_l, bd_str_i, bd_str_s, bd_int_i, bd_int_b, bd_int_s, bd_sum, bd_min, bd_max, bd_min2, bd_max2, bd_all, bd_any, bd_isi, bd_join, bn_addi, bn_adds, bn_addl, bn_addt, bn_sub, bn_mul, bn_mull, bn_mult, bn_fdiv, bn_mod, bn_pow, ix_t, ix_l, ix_r, ix_s, sl_t, sl_l, sl_s, is_t, is_l, is_r, is_s, isiD, isD, leD, ltD, assignT, setAll, ev_m1, ev_fstr, ef_nil, ef_cons, ev_dgt, xe_try, rv_count, rv_split, rv_sindex, rv_tindex, rv_lindex, rv_lcnt, bd_isx, bd_count, bd_split, bd_sindex, bd_tindex, bd_lindex_b, bd_lindex_s, bd_lcnt, so_s, so_i, idc_d, e1]
  by_cases h : goodR (rdL s) s = true
  · rw [if_pos h] at e2
    simp [b__law_outcome, ev_var, ev_con, ev_bin, ev_neg, ev_not, ev_and, ev_or, ev_cmp, ev_chain, ev_ife, ev_tup, ev_lst, ev_ix, ev_sl, ev_call, ev_bi, ev_ixb, ev_lc, ei_e, ei_rng1, rg_i, ei_rng2, rg_ii, ng_i, io_i, zp_l, zp_t, ei_zip, el_nil, el_cons, eo_no, eo_at, xs_nil, xs_cons, xe_asg, xe_ite, xe_ret, xe_expr, xe_raise, run_fin, bind_ite, onto_ite, cond_ite, seqR_ite, finR_ite, app_ite, cmpB, bd_len_t, bd_len_l, bd_len_r, bd_len_s, bd_list_t, bd_list_l, bd_list_r, bd_list_s, bd_tuple_t, bd_tuple_l, bd_str_i, bd_str_s, bd_int_i, bd_int_b, bd_int_s, bd_sum, bd_min, bd_max, bd_min2, bd_max2, bd_all, bd_any, bd_isi, bd_join, bn_addi, bn_adds, bn_addl, bn_addt, bn_sub, bn_mul, bn_mull, bn_mult, bn_fdiv, bn_mod, bn_pow, ix_t, ix_l, ix_r, ix_s, sl_t, sl_l, sl_s, is_t, is_l, is_r, is_s, isiD, isD, leD, ltD, assignT, setAll, ev_m1, ev_fstr, ef_nil, ef_cons, ev_dgt, xe_try, rv_count, rv_split, rv_sindex, rv_tindex, rv_lindex, rv_lcnt, bd_isx, bd_count, bd_split, bd_sindex, bd_tindex, bd_lindex_b, bd_lindex_s, bd_lcnt, so_s, so_i, idc_d, e2, outS, h]
  · rw [if_neg h] at e2
    simp [b__law_outcome, ev_var, ev_con, ev_bin, ev_neg, ev_not, ev_and, ev_or, ev_cmp, ev_chain, ev_ife, ev_tup, ev_lst, ev_ix, ev_sl, ev_call, ev_bi, ev_ixb, ev_lc, ei_e, ei_rng1, rg_i, ei_rng2, rg_ii, ng_i, io_i, zp_l, zp_t, ei_zip, el_nil, el_cons, eo_no, eo_at, xs_nil, xs_cons, xe_asg, xe_ite, xe_ret, xe_expr, xe_raise, run_fin, bind_ite, onto_ite, cond_ite, seqR_ite, finR_ite, app_ite, cmpB, bd_len_t, bd_len_l, bd_len_r, bd_len_s, bd_list_t, bd_list_l, bd_list_r, bd_list_s, bd_tuple_t, bd_tuple_l, bd_str_i, bd_str_s, bd_int_i, bd_int_b, bd_int_s, bd_sum, bd_min, bd_max, bd_min2, bd_max2, bd_all, bd_any, bd_isi, bd_join, bn_addi, bn_adds, bn_addl, bn_addt, bn_sub, bn_mul, bn_mull, bn_mult, bn_fdiv, bn_mod, bn_pow, ix_t, ix_l, ix_r, ix_s, sl_t, sl_l, sl_s, is_t, is_l, is_r, is_s, isiD, isD, leD, ltD, assignT, setAll, ev_m1, ev_fstr, ef_nil, ef_cons, ev_dgt, xe_try, rv_count, rv_split, rv_sindex, rv_tindex, rv_lindex, rv_lcnt, bd_isx, bd_count, bd_split, bd_sindex, bd_tindex, bd_lindex_b, bd_lindex_s, bd_lcnt, so_s, so_i, idc_d, e2, outS, h, p__law_name N (n + 6), rsd]
theorem p_out_bad (N n : Nat) (v : D) (hv : isiD .str v = some false) (S : Sh) : Φs N fbs (n + 3) f__law_outcome [.int 0, v] S = .ok rsd S := by
  rw [u__law_outcome]
  have e1 : Φs N fbs (n + 1) f_format_from [v] S = .ex 4 S := by
    rw [u_format_from]
    have hb : biD (.isi .str) [v] = some (.bl false) := by rw [bd_isi, hv]; rfl
    have hne : Φs N fbs n = Φs N fbs n := rfl
    simp only [b_format_from, run_fin, List.length_cons, List.length_nil, Nat.zero_add, if_true, List.map_cons, List.map_nil, xs_cons, xe_ite, ev_or, ev_not, ev_bi, el_cons, el_nil, ev_var, List.cons_append, List.getElem?_cons_zero, gv_dat, Res.bind_ok, lift_some, hb, condB_bl, Bool.not_false, Res.onto_ok, xe_raise, seqR_ex, finR_ex]
  have e2 : Φs N fbs (n + 2) f__law_call [.int 0, v] S = .ex 4 S := by
    rw [u__law_call]
    simp [b__law_call, ev_var, ev_con, ev_bin, ev_neg, ev_not, ev_and, ev_or, ev_cmp, ev_chain, ev_ife, ev_tup, ev_lst, ev_ix, ev_sl, ev_call, ev_bi, ev_ixb, ev_lc, ei_e, ei_rng1, rg_i, ei_rng2, rg_ii, ng_i, io_i, zp_l, zp_t, ei_zip, el_nil, el_cons, eo_no, eo_at, xs_nil, xs_cons, xe_asg, xe_ite, xe_ret, xe_expr, xe_raise, run_fin, bind_ite, onto_ite, cond_ite, seqR_ite, finR_ite, app_ite, cmpB, bd_len_t, bd_len_l, bd_len_r, bd_len_s, bd_list_t, bd_list_l, bd_list_r, bd_list_s, bd_tuple_t, bd_tuple_l, bd_str_i, bd_str_s, bd_int_i, bd_int_b, bd_int_s, bd_sum, bd_min, bd_max, bd_min2, bd_max2, bd_all, bd_any, bd_isi, bd_join, bn_addi, bn_adds, bn_addl, bn_addt, bn_sub, bn_mul, bn_mull, bn_mult, bn_fdiv, bn_mod, bn_pow, ix_t, ix_l, ix_r, ix_s, sl_t, sl_l, sl_s, is_t, is_l, is_r, is_s, isiD, isD, leD, ltD, assignT, setAll, ev_m1, ev_fstr, ef_nil, ef_cons, ev_dgt, xe_try, rv_count, rv_split, rv_sindex, rv_tindex, rv_lindex, rv_lcnt, bd_isx, bd_count, bd_split, bd_sindex, bd_tindex, bd_lindex_b, bd_lindex_s, bd_lcnt, so_s, so_i, idc_d, e1]
  simp [b__law_outcome, ev_var, ev_con, ev_bin, ev_neg, ev_not, ev_and, ev_or, ev_cmp, ev_chain, ev_ife, ev_tup, ev_lst, ev_ix, ev_sl, ev_call, ev_bi, ev_ixb, ev_lc, ei_e, ei_rng1, rg_i, ei_rng2, rg_ii, ng_i, io_i, zp_l, zp_t, ei_zip, el_nil, el_cons, eo_no, eo_at, xs_nil, xs_cons, xe_asg, xe_ite, xe_ret, xe_expr, xe_raise, run_fin, bind_ite, onto_ite, cond_ite, seqR_ite, finR_ite, app_ite, cmpB, bd_len_t, bd_len_l, bd_len_r, bd_len_s, bd_list_t, bd_list_l, bd_list_r, bd_list_s, bd_tuple_t, bd_tuple_l, bd_str_i, bd_str_s, bd_int_i, bd_int_b, bd_int_s, bd_sum, bd_min, bd_max, bd_min2, bd_max2, bd_all, bd_any, bd_isi, bd_join, bn_addi, bn_adds, bn_addl, bn_addt, bn_sub, bn_mul, bn_mull, bn_mult, bn_fdiv, bn_mod, bn_pow, ix_t, ix_l, ix_r, ix_s, sl_t, sl_l, sl_s, is_t, is_l, is_r, is_s, isiD, isD, leD, ltD, assignT, setAll, ev_m1, ev_fstr, ef_nil, ef_cons, ev_dgt, xe_try, rv_count, rv_split, rv_sindex, rv_tindex, rv_lindex, rv_lcnt, bd_isx, bd_count, bd_split, bd_sindex, bd_tindex, bd_lindex_b, bd_lindex_s, bd_lcnt, so_s, so_i, idc_d, e2, p__law_name N (n + 1), rsd]
end FT
namespace FT
open PySem PySem.Spec PyProof.Rows L2
mutual
theorem sm_more : ∀ (d : D) (n m : Nat), n ≤ m → sm n d = true → sm m d = true
  | .non, n, m, _, _ => by cases m <;> simp [sm]
  | .bl _, n, m, _, _ => by cases m <;> simp [sm]
  | .int _, n, m, _, _ => by cases m <;> simp [sm]
  | .str s, n, m, _, h => by cases n <;> cases m <;> simpa [sm] using h
  | .tup xs, 0, m, _, h => by simp [sm] at h
  | .lst xs, 0, m, _, h => by simp [sm] at h
  | .tup xs, n + 1, 0, l, h => by omega
  | .lst xs, n + 1, 0, l, h => by omega
  | .tup xs, n + 1, m + 1, l, h => by
    simp only [sm, Bool.and_eq_true] at h ⊢
    exact ⟨h.1, sms_more xs n m (by omega) h.2⟩
  | .lst xs, n + 1, m + 1, l, h => by
    simp only [sm, Bool.and_eq_true] at h ⊢
    exact ⟨h.1, sms_more xs n m (by omega) h.2⟩
  | .ref _, n, m, _, h => by cases n <;> simp [sm] at h
  | .fn _, n, m, _, h => by cases n <;> simp [sm] at h
  | .exc _, n, m, _, h => by cases n <;> simp [sm] at h
  | .scr _, n, m, _, h => by cases n <;> simp [sm] at h
  | .dic _ _ _, n, m, _, h => by cases n <;> simp [sm] at h
theorem sms_more : ∀ (ds : List D) (n m : Nat), n ≤ m → sms n ds = true → sms m ds = true
  | [], n, m, _, _ => by simp [sms]
  | d :: ds, n, m, l, h => by
    simp only [sms, Bool.and_eq_true] at h ⊢
    exact ⟨sm_more d n m l h.1, sms_more ds n m l h.2⟩
end
/-! ### the law -/
mutual
theorem eqv_refl : ∀ (n : Nat) (d : D), sm n d = true → eqv d d = true
  | n, .non, _ => rfl
  | n, .bl b, _ => by simp [eqv]
  | n, .int i, _ => by simp [eqv]
  | n, .str s, _ => by simp [eqv]
  | 0, .tup xs, h => by simp [sm] at h
  | 0, .lst xs, h => by simp [sm] at h
  | n + 1, .tup xs, h => by
    simp only [sm, Bool.and_eq_true] at h
    simp only [eqv]
    exact eqvL_refl n xs h.2
  | n + 1, .lst xs, h => by
    simp only [sm, Bool.and_eq_true] at h
    simp only [eqv]
    exact eqvL_refl n xs h.2
  | n, .ref _, h => by cases n <;> simp [sm] at h
  | n, .fn _, h => by cases n <;> simp [sm] at h
  | n, .exc _, h => by cases n <;> simp [sm] at h
  | n, .scr _, h => by cases n <;> simp [sm] at h
  | n, .dic _ _ _, h => by cases n <;> simp [sm] at h
theorem eqvL_refl : ∀ (n : Nat) (ds : List D), sms n ds = true → eqvL ds ds = true
  | n, [], _ => rfl
  | n, d :: ds, h => by
    simp only [sms, Bool.and_eq_true] at h
    simp only [eqvL, Bool.and_eq_true]
    exact ⟨eqv_refl n d h.1, eqvL_refl n ds h.2⟩
end
theorem eq_self {n : Nat} {d : D} (h : sm n d = true) (hn : n ≤ 60) : eqD d d = some true := by
  rw [sm_eq h h hn hn, eqv_refl n d h]
theorem str_sm {s : Tx} (hl : s.length ≤ 1000) (hs : s.all (· < 1114112) = true) (n : Nat) : sm n (.str s) = true := by
  cases n <;> simp only [sm, hs, decide_eq_true hl, Bool.and_self]
theorem okT_chr {s : Tx} (h : okT s) : s.all (· < 1114112) = true := List.all_eq_true.mpr fun c hc => decide_eq_true (sgn_small (has_iff.mp (List.all_eq_true.mp h.2.2 c hc)))
theorem sm_two {n : Nat} {a b : D} (h1 : sm n a = true) (h2 : sm n b = true) : sm (n + 1) (.tup [a, b]) = true := by
  have h3 : sms n [a, b] = true := by simp only [sms, h1, h2, Bool.and_self]
  simp only [sm, h3, List.length_cons, List.length_nil, Bool.and_true]
  rfl
theorem e_returned : tx "returned" = [114, 101, 116, 117, 114, 110, 101, 100] := by decide +kernel
theorem e_raised : tx "raised" = [114, 97, 105, 115, 101, 100] := by decide +kernel
theorem encR0_sm {r : R0} (h : smR0 r) : sm 3 (encR0 r) = true := by
  have hw : ∀ s : Tx, s.length ≤ 1000 → s.all (· < 1114112) = true → sm 2 (.str s) = true := fun s a b => str_sm a b 2
  cases r with
  | word s => exact sm_two (hw (tx "word") (by decide +kernel) (by decide +kernel)) (hw _ h.1 h.2)
  | number i => exact sm_two (hw (tx "number") (by decide +kernel) (by decide +kernel)) rfl
  | choice ts =>
    have h2 : sms 1 (ts.map D.str) = true := sms_of fun d hd => by
      obtain ⟨t, ht, rfl⟩ := List.mem_map.mp hd
      exact str_sm (h.2 t ht).1 (h.2 t ht).2 1
    have h3 : sm 2 (.tup (ts.map D.str)) = true := by simp only [sm, h2, List.length_map, decide_eq_true h.1, Bool.and_self]
    exact sm_two (hw (tx "choice") (by decide +kernel) (by decide +kernel)) h3
  | nums nm is =>
    have hn : sm 2 (.str nm) = true := by
      rcases h.2 with e | e | e <;> subst e <;> exact hw _ (by decide +kernel) (by decide +kernel)
    have h2 : sms 2 (is.map D.int) = true := sms_of fun d hd => by
      obtain ⟨t, ht, rfl⟩ := List.mem_map.mp hd
      rfl
    have h3 : sms 2 (.str nm :: is.map D.int) = true := by simp only [sms, hn, h2, Bool.and_self]
    have h5 : is.length + 1 ≤ 1000 := by have := h.1; omega
    simp only [encR0, sm, h3, List.length_cons, List.length_map, decide_eq_true h5, Bool.and_self]
theorem encRF_sm {r : RF} (h : smRF r) : sm 4 (encRF r) = true := by
  cases r with
  | one r => exact sm_more _ 3 4 (by omega) (encR0_sm h)
  | rep r is =>
    have h1 := encR0_sm h.1
    have h2 : sms 3 (is.map D.int) = true := sms_of fun d hd => by
      obtain ⟨t, ht, rfl⟩ := List.mem_map.mp hd
      rfl
    have hw : sm 3 (.str (tx "repeat")) = true := str_sm (by decide +kernel) (by decide +kernel) 3
    have h3 : sms 3 (.str (tx "repeat") :: encR0 r :: is.map D.int) = true := by simp only [sms, hw, h1, h2, Bool.and_self]
    have h5 : is.length + 1 + 1 ≤ 1000 := by have := h.2; omega
    simp only [encRF, sm, h3, List.length_cons, List.length_map, decide_eq_true h5, Bool.and_self]
theorem encRs_sm {rs : List RF} (hl : rs.length ≤ 1000) (h : ∀ r ∈ rs, smRF r) : sm 5 (encRs rs) = true := by
  have h2 : sms 4 (rs.map encRF) = true := sms_of fun d hd => by
    obtain ⟨t, ht, rfl⟩ := List.mem_map.mp hd
    exact encRF_sm (h t ht)
  simp only [encRs, sm, h2, List.length_map, decide_eq_true hl, Bool.and_self]
theorem ret_sm {d : D} {n : Nat} (h : sm n d = true) : sm (n + 1) (.tup [.str (tx "returned"), d]) = true := by
  exact sm_two (str_sm (by decide +kernel) (by decide +kernel) n) h
theorem rsd_sm : sm 6 rsd = true := by
  exact sm_two (str_sm (by decide +kernel) (by decide +kernel) 5) rfl
theorem rdL_sm {s : Tx} (hl : s.length ≤ 900) (hs : s.all (· < 1114112) = true) : sm 5 (encRs (rdL s)) = true := by
  have hp := parts_sm hl hs
  have sl := splitC_len 32 s
  exact encRs_sm (by rw [rdL, List.length_map]; omega) fun r hr => by
    obtain ⟨p, h, rfl⟩ := List.mem_map.mp hr
    exact rd_sm p (hp p h).1 (hp p h).2
theorem outS_self {s : Tx} (hl : s.length ≤ 900) (hs : s.all (· < 1114112) = true) : eqD (outS s) (outS s) = some true := by
  unfold outS
  split
  · exact eq_self (ret_sm (rdL_sm hl hs)) (by omega)
  · exact eq_self rsd_sm (by omega)
/-! the form that was drawn -/
theorem rf_sm {f : Fd} (h : okF f) : smRF (rf f) := by
  have h1 : ∀ f : Fd1, ok1 f → smR0 (rf1 f) := by
    intro f h
    cases f with
    | word s => exact ⟨by have := h.2.1; omega, okT_chr h⟩
    | number k => trivial
    | digits a b => exact ⟨by simp, .inl rfl⟩
    | letters a b => exact ⟨by simp, .inr (.inl rfl)⟩
    | choice ts => exact ⟨by have := h.2.1; omega, fun t ht => ⟨by have := (h.2.2.1 t ht).2.1; omega, okT_chr (h.2.2.1 t ht)⟩⟩
  cases f with
  | one f => exact h1 f h
  | rep f a b => exact ⟨h1 f h.1, by simp⟩
theorem encRs_rf (form : List Fd) : encRs (form.map rf) = encR form := by
  unfold encRs encR
  rw [List.map_map]
  congr 1
  exact List.map_congr_left fun f _ => enc_rf f
theorem isFm_rf (form : List Fd) (hf : okR form) : isFm (form.map rf) = true := by
  have h1 := p_is_format 0 0 form hf []
  have h2 := p_formatR 0 0 (form.map rf) (by rw [List.length_map]; have := hf.2.1; omega) (fun r hr => by
    obtain ⟨f, h, rfl⟩ := List.mem_map.mp hr
    exact rf_sm (hf.2.2 f h)) []
  rw [encRs_rf, h1] at h2
  simpa using h2
def lineF (form : List Fd) : Tx := lineR (form.map rf)
theorem lineF_split (form : List Fd) (hf : okR form) : rdL (lineF form) = form.map rf := by
  have h1 := hf.1
  have e : splitC 32 (lineF form) = (form.map rf).map lnR := by
    refine splitC_join 32 _ (fun e => ?_) fun t ht => ?_
    · have := congrArg List.length e
      simp only [List.length_map, List.length_nil] at this
      omega
    · obtain ⟨r, hr, rfl⟩ := List.mem_map.mp ht
      obtain ⟨f, h, rfl⟩ := List.mem_map.mp hr
      exact ln_no32 (hf.2.2 f h)
  rw [rdL, e, List.map_map, List.map_map]
  exact List.map_congr_left fun f h => rd_ln (hf.2.2 f h)
theorem outS_line (form : List Fd) (hf : okR form) : outS (lineF form) = .tup [.str (tx "returned"), encR form] := by
  unfold outS
  rw [lineF_split form hf, if_pos, encRs_rf]
  unfold goodR
  rw [isFm_rf form hf]
  simp [lineF]
theorem lnR_count {f : Fd} (h : okF f) : (lnR (rf f)).count 42 ≤ 1 := by
  cases f with
  | one f =>
    have := List.count_eq_zero.mpr (ln0_no (f := f) h 42 (by simp))
    show (ln0 (rf1 f)).count 42 ≤ 1
    omega
  | rep f a b =>
    have h0 := List.count_eq_zero.mpr (ln0_no h.1 42 (by simp))
    show (ln0 (rf1 f) ++ [42, 48 + (a : Int).toNat, 44, 48 + (b : Int).toNat]).count 42 ≤ 1
    obtain ⟨_, h2, h3, h4⟩ := h
    rw [List.count_append, h0]
    have n1 : 48 + a ≠ 42 := by omega
    have n2 : 48 + b ≠ 42 := by omega
    simp only [Int.toNat_natCast, List.count_cons_self, List.count_cons_of_ne n1, List.count_cons_of_ne n2, List.count_cons_of_ne (show (44 : Nat) ≠ 42 by omega), List.count_nil]
    omega
theorem lineF_ok (form : List Fd) (hf : okR form) (h4 : form.length ≤ 4) : (lineF form).length ≤ 100 ∧ (lineF form).all (· < 1114112) = true ∧ (lineF form).count 42 ≤ 4 := by
  have hv : ∀ r ∈ form.map rf, isF r = true := (isFm_ok (isFm_rf form hf)).2.2
  refine ⟨?_, lineR_ch hv, ?_⟩
  · have := lineR_len' hv
    rw [List.length_map] at this
    show (lineR (form.map rf)).length ≤ 100
    omega
  · have := joinL_count [32] 42 (by decide) ((form.map rf).map lnR) fun y hy => by
      obtain ⟨r, hr, rfl⟩ := List.mem_map.mp hy
      obtain ⟨f, h, rfl⟩ := List.mem_map.mp hr
      exact lnR_count (hf.2.2 f h)
    rw [List.length_map, List.length_map] at this
    exact Nat.le_trans this h4
theorem p_notation (N n : Nat) (form : List Fd) (hf : okR form) (S : Sh) : Φs N fbs (n + 7) f_notation [encR form] S = .ok (.str (lineF form)) S := by
  rw [u_notation]
  have e1 := p_form_textR N (n + 3) (form.map rf) (isFm_rf form hf) S
  rw [encRs_rf] at e1
  have e1 : Φs N fbs (n + 6) f_form_text [encR form] S = .ok (.str (lineF form)) S := e1
  simp [b_notation, ev_var, ev_con, ev_bin, ev_neg, ev_not, ev_and, ev_or, ev_cmp, ev_chain, ev_ife, ev_tup, ev_lst, ev_ix, ev_sl, ev_call, ev_bi, ev_ixb, ev_lc, ei_e, ei_rng1, rg_i, ei_rng2, rg_ii, ng_i, io_i, zp_l, zp_t, ei_zip, el_nil, el_cons, eo_no, eo_at, xs_nil, xs_cons, xe_asg, xe_ite, xe_ret, xe_expr, xe_raise, run_fin, bind_ite, onto_ite, cond_ite, seqR_ite, finR_ite, app_ite, cmpB, bd_len_t, bd_len_l, bd_len_r, bd_len_s, bd_list_t, bd_list_l, bd_list_r, bd_list_s, bd_tuple_t, bd_tuple_l, bd_str_i, bd_str_s, bd_int_i, bd_int_b, bd_int_s, bd_sum, bd_min, bd_max, bd_min2, bd_max2, bd_all, bd_any, bd_isi, bd_join, bn_addi, bn_adds, bn_addl, bn_addt, bn_sub, bn_mul, bn_mull, bn_mult, bn_fdiv, bn_mod, bn_pow, ix_t, ix_l, ix_r, ix_s, sl_t, sl_l, sl_s, is_t, is_l, is_r, is_s, isiD, isD, leD, ltD, assignT, setAll, ev_m1, ev_fstr, ef_nil, ef_cons, ev_dgt, xe_try, rv_count, rv_split, rv_sindex, rv_tindex, rv_lindex, rv_lcnt, bd_isx, bd_count, bd_split, bd_sindex, bd_tindex, bd_lindex_b, bd_lindex_s, bd_lcnt, so_s, so_i, idc_d, p_check_format N n form hf, e1]
end FT
namespace FT
open PySem PySem.Spec PyProof.Rows L2
theorem cut_mem {T p : Tx} (r q : Nat) : ∀ c ∈ T.take r ++ p ++ T.drop q, c ∈ T ∨ c ∈ p := fun c hc => by
  rcases List.mem_append.mp hc with z | z
  · rcases List.mem_append.mp z with y | y
    · exact .inl (List.mem_of_mem_take y)
    · exact .inr y
  · exact .inl (List.mem_of_mem_drop z)
theorem cut_count {T p : Tx} (r q c : Nat) (h : r ≤ q) : (T.take r ++ p ++ T.drop q).count c ≤ T.count c + p.count c := by
  have h1 : (T.take r).count c + (T.drop r).count c = T.count c := by rw [← List.count_append, List.take_append_drop]
  have h2 : (T.drop q).count c ≤ (T.drop r).count c := by
    have : T.drop q = (T.drop r).drop (q - r) := by rw [List.drop_drop]; congr 1; omega
    rw [this]
    exact (List.drop_sublist _ _).count_le _
  simp only [List.count_append]
  omega
def sg16 : Tx := tx "01245=|ndl*, abg"
theorem sg16_ok : sg16.all (· < 1114112) = true ∧ sg16.length = 16 := by decide +kernel
theorem law_turn (N b : Nat) (ns : List Int) (T : Tx) (hl : T.length ≤ 100) (hs : T.all (· < 1114112) = true) (hc : T.count 42 ≤ 4) (d fm : D) (a5 a6 a7 a8 a9 a10 a11 a12 a13 : SV) (S : Sh) (hG : Good ns b S) (hb : b ≤ 600000000) :
    ∃ b4 b6 b7 b8 b9 b10 b11 b13 S', (∀ a4, bodyF (Φs N fbs 20) N (.nm 4) b_law_l0 d [.dat (.scr ns), .dat (.ref 0), .dat fm, .dat (.str T), a4, a5, a6, a7, a8, a9, a10, a11, a12, a13] S =
      .nx [.dat (.scr ns), .dat (.ref 0), .dat fm, .dat (.str T), b4, a5, b6, b7, b8, b9, b10, b11, a12, b13] S') ∧ Good ns (b + 3) S' := by
  obtain ⟨r, S1, e1, r1, g1⟩ := d_nat N 19 b ns ((T.length : Int) + 1) (by omega) (by omega) S hG (by omega)
  have hsl : (sg16.map fun c => D.str [c]).length = 16 := by rw [List.length_map, sg16_ok.2]
  obtain ⟨y, S2, e2, hy, g2⟩ := p__law_pick_l N 18 (b + 1) ns ((sg16.map fun c => D.str [c]) ++ [.str (tx "")]) (by rw [List.length_append, hsl]; decide) (by rw [List.length_append, hsl]; decide) S1 g1 (by omega)
  obtain ⟨p, hp, p1, p2⟩ : ∃ p : Tx, y = .str p ∧ p.length ≤ 1 ∧ p.all (· < 1114112) = true := by
    rcases List.mem_append.mp hy with z | z
    · obtain ⟨c, hc, rfl⟩ := List.mem_map.mp z
      refine ⟨[c], rfl, Nat.le_refl _, ?_⟩
      have := List.all_eq_true.mp sg16_ok.1 c hc
      simp only [List.all_cons, List.all_nil, this, Bool.and_self]
    · refine ⟨[], ?_, by simp, rfl⟩
      have : y = .str (tx "") := by simpa using z
      rw [this, e_nil]
  subst hp
  obtain ⟨q, S3, e3, q1, g3⟩ := d_nat N 19 (b + 1 + 1) ns 2 (by omega) (by omega) S2 g2 (by omega)
  obtain ⟨O, hO⟩ : ∃ O, T.take r ++ p ++ T.drop (r + q) = O := ⟨_, rfl⟩
  have hm := cut_mem (T := T) (p := p) r (r + q)
  have hk := cut_count (T := T) (p := p) r (r + q) 42 (by omega)
  rw [hO] at hm hk
  have hOl : O.length ≤ 201 := by rw [← hO]; simp only [List.length_append, List.length_take, List.length_drop]; omega
  have hOl : O.length ≤ 200 := by
    rw [← hO]
    simp only [List.length_append, List.length_take, List.length_drop]
    by_cases h : r ≤ T.length <;> omega
  have hOs : O.all (· < 1114112) = true := List.all_eq_true.mpr fun c h => (hm c h).elim (fun z => List.all_eq_true.mp hs c z) fun z => List.all_eq_true.mp p2 c z
  have hOc : O.count 42 ≤ 6 := by
    have : p.count 42 ≤ p.length := List.count_le_length
    omega
  have hps := parts_sm (s := O) (by omega) hOs
  have sl := splitC_len 32 O
  have e4 : ∀ env : Env, env.length = 14 → lcK (keepF (Φs N fbs 20) env [13] (.call f__law_part (.cons (.var 13) .nil)) (.nm 13) (.con (.bl true))) ((splitC 32 O).map D.str) S3 = .ok (.lst ((lpL O).map encRF)) S3 := fun env he => by
    have := lcK_m (S := S3) (f := keepF (Φs N fbs 20) env [13] (.call f__law_part (.cons (.var 13) .nil)) (.nm 13) (.con (.bl true))) (h := D.str) (fun p => encRF (lp p)) (splitC 32 O) (by show _ ≤ 1000000; omega) fun p h => by
      have := p__law_part N 17 p (by have := (hps p h).1; omega) (hps p h).2 S3
      have hv : ((env.set 13 .no).set 13 (.dat (.str p)))[13]? = some (.dat (.str p)) := by
        rw [List.getElem?_set_self]
        rw [List.length_set]; omega
      simp [keepF, wipeE, ev_var, ev_con, ev_bin, ev_neg, ev_not, ev_and, ev_or, ev_cmp, ev_chain, ev_ife, ev_tup, ev_lst, ev_ix, ev_sl, ev_call, ev_bi, ev_ixb, ev_lc, ei_e, ei_rng1, rg_i, ei_rng2, rg_ii, ng_i, io_i, zp_l, zp_t, ei_zip, el_nil, el_cons, eo_no, eo_at, xs_nil, xs_cons, xe_asg, xe_ite, xe_ret, xe_expr, xe_raise, run_fin, bind_ite, onto_ite, cond_ite, seqR_ite, finR_ite, app_ite, cmpB, bd_len_t, bd_len_l, bd_len_r, bd_len_s, bd_list_t, bd_list_l, bd_list_r, bd_list_s, bd_tuple_t, bd_tuple_l, bd_str_i, bd_str_s, bd_int_i, bd_int_b, bd_int_s, bd_sum, bd_min, bd_max, bd_min2, bd_max2, bd_all, bd_any, bd_isi, bd_join, bn_addi, bn_adds, bn_addl, bn_addt, bn_sub, bn_mul, bn_mull, bn_mult, bn_fdiv, bn_mod, bn_pow, ix_t, ix_l, ix_r, ix_s, sl_t, sl_l, sl_s, is_t, is_l, is_r, is_s, isiD, isD, leD, ltD, assignT, setAll, ev_m1, ev_fstr, ef_nil, ef_cons, ev_dgt, xe_try, rv_count, rv_split, rv_sindex, rv_tindex, rv_lindex, rv_lcnt, bd_isx, bd_count, bd_split, bd_sindex, bd_tindex, bd_lindex_b, bd_lindex_s, bd_lcnt, so_s, so_i, idc_d, this, hv, he]
    rw [this, lpL, List.map_map]
    rfl
  have e5 := p_formatR N 15 (lpL O) (by rw [lpL, List.length_map]; omega) (fun r hr => by
    obtain ⟨p, h, rfl⟩ := List.mem_map.mp hr
    exact lp_sm p (hps p h).1 (hps p h).2) S3
  have e6 := p_out_str N 12 O hOl hOs hOc S3
  have e7 := outS_self (s := O) (by omega) hOs
  obtain ⟨w1, w2⟩ := good_rl O
  have c1 := cutT T r
  have c2 := cutF T (r + q)
  rw [show ((r + q : Nat) : Int) = (r : Int) + q by omega] at c2
  have t1 : T.length ≤ lim := by show _ ≤ 1000000; omega
  have t2 : sg16.length ≤ lim := by rw [sg16_ok.2]; decide
  have t3 : sg16.length + 1 ≤ lim := by rw [sg16_ok.2]; decide
  have t4 : O.length ≤ lim := by show _ ≤ 1000000; omega
  have t5 : (T.take r).length + p.length ≤ lim := by rw [List.length_take]; show _ ≤ 1000000; omega
  have t6 : (T.take r ++ p).length + (T.drop (r + q)).length ≤ lim := by rw [← List.length_append, hO]; exact t4
  have b1 : binD .add (.str (T.take r)) (.str p) = some (.str (T.take r ++ p)) := by rw [bn_adds, if_pos t5]
  have b2 : binD .add (.str (T.take r ++ p)) (.str (T.drop (r + q))) = some (.str O) := by rw [bn_adds, if_pos t6, hO]
  have b3 : biD .list [.str (tx "01245=|ndl*, abg")] = some (.lst (sg16.map fun c => D.str [c])) := by rw [bd_list_s]; exact if_pos t2
  have b4 : binD .add (.lst (sg16.map fun c => D.str [c])) (.lst [.str (tx "")]) = some (.lst ((sg16.map fun c => D.str [c]) ++ [.str (tx "")])) := by rw [bn_addl, if_pos (by rw [List.length_map]; exact t3)]
  have b5 : biD .split [.str O, .str (tx " ")] = some (.lst ((splitC 32 O).map D.str)) := by rw [e_sp, bd_split, if_pos (by simp [t4])]
  have e8 := p__law_raises N 19 S3
  simp only [encRs] at e5
  have e2 : Φs N fbs 20 f__law_pick [.scr ns, .ref 0, .lst ((sg16.map fun c => D.str [c]) ++ [.str (tx "")])] S1 = .ok (.str p) S2 := e2
  have e1 : Φs N fbs 20 f__law_draw [.scr ns, .ref 0, .int ((T.length : Int) + 1)] S = .ok (.int r) S1 := e1
  have e3 : Φs N fbs 20 f__law_draw [.scr ns, .ref 0, .int 2] S2 = .ok (.int q) S3 := e3
  have e5 : Φs N fbs 20 f_is_format [.tup ((lpL O).map encRF)] S3 = .ok (.bl (isFm (lpL O))) S3 := e5
  have e6 : Φs N fbs 20 f__law_outcome [.int 0, .str O] S3 = .ok (outS O) S3 := e6
  have e8 : Φs N fbs 20 f__law_raises [.str (tx "text")] S3 = .ok rsd S3 := e8
  have e9 : isFm (lpL O) = true → ∀ env : Env, env.length = 14 → lcK (keepF (Φs N fbs 20) env [11] (.call f__law_line (.cons (.var 11) .nil)) (.nm 11) (.con (.bl true))) ((lpL O).map encRF) S3 = .ok (.lst ((lpL O).map fun r => D.str (lnR r))) S3 := fun hf env he =>
    lcK_m (fun r => D.str (lnR r)) (lpL O) (by have := (isFm_ok hf).2.1; show _ ≤ 1000000; omega) fun r h => by
      have := p__law_lineR N 18 r ((isFm_ok hf).2.2 r h) S3
      have hv : ((env.set 11 .no).set 11 (.dat (encRF r)))[11]? = some (.dat (encRF r)) := by
        rw [List.getElem?_set_self]
        rw [List.length_set]; omega
      simp [keepF, wipeE, ev_var, ev_con, ev_bin, ev_neg, ev_not, ev_and, ev_or, ev_cmp, ev_chain, ev_ife, ev_tup, ev_lst, ev_ix, ev_sl, ev_call, ev_bi, ev_ixb, ev_lc, ei_e, ei_rng1, rg_i, ei_rng2, rg_ii, ng_i, io_i, zp_l, zp_t, ei_zip, el_nil, el_cons, eo_no, eo_at, xs_nil, xs_cons, xe_asg, xe_ite, xe_ret, xe_expr, xe_raise, run_fin, bind_ite, onto_ite, cond_ite, seqR_ite, finR_ite, app_ite, cmpB, bd_len_t, bd_len_l, bd_len_r, bd_len_s, bd_list_t, bd_list_l, bd_list_r, bd_list_s, bd_tuple_t, bd_tuple_l, bd_str_i, bd_str_s, bd_int_i, bd_int_b, bd_int_s, bd_sum, bd_min, bd_max, bd_min2, bd_max2, bd_all, bd_any, bd_isi, bd_join, bn_addi, bn_adds, bn_addl, bn_addt, bn_sub, bn_mul, bn_mull, bn_mult, bn_fdiv, bn_mod, bn_pow, ix_t, ix_l, ix_r, ix_s, sl_t, sl_l, sl_s, is_t, is_l, is_r, is_s, isiD, isD, leD, ltD, assignT, setAll, ev_m1, ev_fstr, ef_nil, ef_cons, ev_dgt, xe_try, rv_count, rv_split, rv_sindex, rv_tindex, rv_lindex, rv_lcnt, bd_isx, bd_count, bd_split, bd_sindex, bd_tindex, bd_lindex_b, bd_lindex_s, bd_lcnt, so_s, so_i, idc_d, this, hv, he]
  cases hf : isFm (lpL O) with
  | false =>
    have hg : goodR (rdL O) O = false := by rw [w1, goodR, hf]; rfl
    have ho : outS O = rsd := by unfold outS; rw [if_neg (by rw [hg]; simp)]
    rw [hf] at e5
    rw [ho] at e6 e7
    refine ⟨.dat d, .dat (.tup ((lpL O).map encRF)), .dat (.int r), .dat (.str p), .dat (.str O), .dat (.bl false), a11, a13, S3, fun a4 => ?_, g3⟩
    simp [bodyF, b_law_l0, ev_var, ev_con, ev_bin, ev_neg, ev_not, ev_and, ev_or, ev_cmp, ev_chain, ev_ife, ev_tup, ev_lst, ev_ix, ev_sl, ev_call, ev_bi, ev_ixb, ev_lc, ei_e, ei_rng1, rg_i, ei_rng2, rg_ii, ng_i, io_i, zp_l, zp_t, ei_zip, el_nil, el_cons, eo_no, eo_at, xs_nil, xs_cons, xe_asg, xe_ite, xe_ret, xe_expr, xe_raise, run_fin, bind_ite, onto_ite, cond_ite, seqR_ite, finR_ite, app_ite, cmpB, bd_len_t, bd_len_l, bd_len_r, bd_len_s, bd_list_t, bd_list_l, bd_list_r, bd_tuple_t, bd_tuple_l, bd_str_i, bd_str_s, bd_int_i, bd_int_b, bd_int_s, bd_sum, bd_min, bd_max, bd_min2, bd_max2, bd_all, bd_any, bd_isi, bd_join, bn_addi, bn_addt, bn_sub, bn_mul, bn_mull, bn_mult, bn_fdiv, bn_mod, bn_pow, ix_t, ix_l, ix_r, ix_s, sl_t, sl_l, sl_s, is_t, is_l, is_r, is_s, isiD, isD, leD, ltD, assignT, setAll, ev_m1, ev_fstr, ef_nil, ef_cons, ev_dgt, xe_try, rv_count, rv_sindex, rv_tindex, rv_lindex, rv_lcnt, bd_isx, bd_count, bd_sindex, bd_tindex, bd_lindex_b, bd_lindex_s, bd_lcnt, so_s, so_i, idc_d, rv_split, e1, t1, b3, b4, e2, c1, b1, e3, c2, b2, b5, e4, e5, e6, e7, e8]
  | true =>
    have e9 := e9 hf
    have ej := join_lines hf
    have eq := eqD_str (lineR (lpL O)) O (lineR_ch (isFm_ok hf).2.2) hOs
    rw [hf] at e5
    cases hq : (lineR (lpL O) == O) with
    | false =>
      have hg : goodR (rdL O) O = false := by rw [w1, goodR, hq, Bool.and_false]
      have ho : outS O = rsd := by unfold outS; rw [if_neg (by rw [hg]; simp)]
      rw [hq] at eq
      rw [ho] at e6 e7
      refine ⟨.dat d, .dat (.tup ((lpL O).map encRF)), .dat (.int r), .dat (.str p), .dat (.str O), .dat (.bl false), a11, a13, S3, fun a4 => ?_, g3⟩
      simp [bodyF, b_law_l0, ev_var, ev_con, ev_bin, ev_neg, ev_not, ev_and, ev_or, ev_cmp, ev_chain, ev_ife, ev_tup, ev_lst, ev_ix, ev_sl, ev_call, ev_bi, ev_ixb, ev_lc, ei_e, ei_rng1, rg_i, ei_rng2, rg_ii, ng_i, io_i, zp_l, zp_t, ei_zip, el_nil, el_cons, eo_no, eo_at, xs_nil, xs_cons, xe_asg, xe_ite, xe_ret, xe_expr, xe_raise, run_fin, bind_ite, onto_ite, cond_ite, seqR_ite, finR_ite, app_ite, cmpB, bd_len_t, bd_len_l, bd_len_r, bd_len_s, bd_list_t, bd_list_l, bd_list_r, bd_tuple_t, bd_tuple_l, bd_str_i, bd_str_s, bd_int_i, bd_int_b, bd_int_s, bd_sum, bd_min, bd_max, bd_min2, bd_max2, bd_all, bd_any, bd_isi, bn_addi, bn_addt, bn_sub, bn_mul, bn_mull, bn_mult, bn_fdiv, bn_mod, bn_pow, ix_t, ix_l, ix_r, ix_s, sl_t, sl_l, sl_s, is_t, is_l, is_r, is_s, isiD, isD, leD, ltD, assignT, setAll, ev_m1, ev_fstr, ef_nil, ef_cons, ev_dgt, xe_try, rv_count, rv_sindex, rv_tindex, rv_lindex, rv_lcnt, bd_isx, bd_count, bd_sindex, bd_tindex, bd_lindex_b, bd_lindex_s, bd_lcnt, so_s, so_i, idc_d, rv_split, e1, t1, b3, b4, e2, c1, b1, e3, c2, b2, b5, e4, e5, e6, e7, e8, e9, ej, eq]
    | true =>
      have hg : goodR (lpL O) O = true := by rw [goodR, hf, hq]; rfl
      have ho : outS O = .tup [.str (tx "returned"), .tup ((lpL O).map encRF)] := by unfold outS; rw [if_pos (by rw [w1]; exact hg), w2 hg]; rfl
      rw [hq] at eq
      rw [ho] at e6 e7
      refine ⟨.dat d, .dat (.tup ((lpL O).map encRF)), .dat (.int r), .dat (.str p), .dat (.str O), .dat (.bl true), a11, a13, S3, fun a4 => ?_, g3⟩
      simp [bodyF, b_law_l0, ev_var, ev_con, ev_bin, ev_neg, ev_not, ev_and, ev_or, ev_cmp, ev_chain, ev_ife, ev_tup, ev_lst, ev_ix, ev_sl, ev_call, ev_bi, ev_ixb, ev_lc, ei_e, ei_rng1, rg_i, ei_rng2, rg_ii, ng_i, io_i, zp_l, zp_t, ei_zip, el_nil, el_cons, eo_no, eo_at, xs_nil, xs_cons, xe_asg, xe_ite, xe_ret, xe_expr, xe_raise, run_fin, bind_ite, onto_ite, cond_ite, seqR_ite, finR_ite, app_ite, cmpB, bd_len_t, bd_len_l, bd_len_r, bd_len_s, bd_list_t, bd_list_l, bd_list_r, bd_tuple_t, bd_tuple_l, bd_str_i, bd_str_s, bd_int_i, bd_int_b, bd_int_s, bd_sum, bd_min, bd_max, bd_min2, bd_max2, bd_all, bd_any, bd_isi, bn_addi, bn_addt, bn_sub, bn_mul, bn_mull, bn_mult, bn_fdiv, bn_mod, bn_pow, ix_t, ix_l, ix_r, ix_s, sl_t, sl_l, sl_s, is_t, is_l, is_r, is_s, isiD, isD, leD, ltD, assignT, setAll, ev_m1, ev_fstr, ef_nil, ef_cons, ev_dgt, xe_try, rv_count, rv_sindex, rv_tindex, rv_lindex, rv_lcnt, bd_isx, bd_count, bd_sindex, bd_tindex, bd_lindex_b, bd_lindex_s, bd_lcnt, so_s, so_i, idc_d, rv_split, e1, t1, b3, b4, e2, c1, b1, e3, c2, b2, b5, e4, e5, e6, e7, e8, e9, ej, eq]
end FT
namespace FT
open PySem PySem.Spec PyProof.Rows L2
theorem split_tail (c : Nat) : ∀ s : Tx, [] ∈ (splitC c (s ++ [c])).tail
  | [] => by simp [splitC]
  | x :: r => by
    have ih := split_tail c r
    simp only [List.cons_append, splitC]
    split
    · exact List.mem_of_mem_tail ih
    · cases e : splitC c (r ++ [c]) with
      | nil => exact absurd e (splitC_ne c _)
      | cons p ps => rw [e] at ih; exact ih
theorem isF_nil : isF (rd []) = false := by decide +kernel
theorem good_sp (T : Tx) : goodR (rdL (T ++ [32])) (T ++ [32]) = false := by
  have h := List.mem_of_mem_tail (split_tail 32 T)
  have : isFm (rdL (T ++ [32])) = false := by
    cases q : isFm (rdL (T ++ [32])) with
    | false => rfl
    | true =>
      have := (isFm_ok q).2.2 (rd []) (List.mem_map.mpr ⟨[], h, rfl⟩)
      rw [isF_nil] at this
      cases this
  rw [goodR, this]
  rfl
def litB (s : Tx) : Bool := decide (s.length ≤ 200) && s.all (· < 1114112) && decide (s.count 42 ≤ 6) && !goodR (rdL s) s
theorem lit_out (N n : Nat) (s : Tx) (h : litB s = true) (S : Sh) : Φs N fbs (n + 8) f__law_outcome [.int 0, .str s] S = .ok rsd S := by
  simp only [litB, Bool.and_eq_true, decide_eq_true_eq, Bool.not_eq_true'] at h
  obtain ⟨⟨⟨h1, h2⟩, h3⟩, h4⟩ := h
  rw [p_out_str N n s h1 h2 h3, outS, if_neg (by rw [h4]; simp)]
def bads (fm : D) (T : Tx) : List D := [.non, .int 5, .str (tx ""), .str (tx " "), .str (tx "d"), .str (tx "d1"), .str (tx "d2,1"), .str (tx "d0,5"), .str (tx "n0"), .str (tx "n5"), .str (tx "n01"), .str (tx "="), .str (tx "=g"), .str (tx "|"), .str (tx "|b|a"), .str (tx "|a|a"), .str (tx "=a*0,0"),
  .str (tx "=a*1,1*1,1"), .str (tx "x1,2"), .str (tx "=a =b =a =b =a =b =a"), .str (tx "d 1,2"), .str (tx "d1, 2"), fm, .lst [.str T], .str (T ++ [32]), .bl true, .str (tx "*1,2")]
theorem bads_out (N : Nat) (fs : List D) (T : Tx) (hl : T.length ≤ 100) (hs : T.all (· < 1114112) = true) (hc : T.count 42 ≤ 4) (S : Sh) : ∀ y ∈ bads (.tup fs) T, Φs N fbs 20 f__law_outcome [.int 0, y] S = .ok rsd S := by
  intro y hy
  have hb : ∀ v, isiD .str v = some false → Φs N fbs 20 f__law_outcome [.int 0, v] S = .ok rsd S := fun v hv => p_out_bad N 17 v hv S
  have hx : ∀ s, litB s = true → Φs N fbs 20 f__law_outcome [.int 0, .str s] S = .ok rsd S := fun s h => lit_out N 12 s h S
  have hT : litB (T ++ [32]) = true := by
    simp only [litB, Bool.and_eq_true, decide_eq_true_eq, Bool.not_eq_true', List.all_append, List.length_append, List.count_append]
    exact ⟨⟨⟨by simp; omega, hs, by decide⟩, by simp; omega⟩, good_sp T⟩
  simp only [bads, List.mem_cons, List.not_mem_nil, or_false] at hy
  rcases hy with e | e | e | e | e | e | e | e | e | e | e | e | e | e | e | e | e | e | e | e | e | e | e | e | e | e | e <;> subst e
  · exact hb _ rfl
  · exact hb _ rfl
  · exact hx _ (by decide +kernel)
  · exact hx _ (by decide +kernel)
  · exact hx _ (by decide +kernel)
  · exact hx _ (by decide +kernel)
  · exact hx _ (by decide +kernel)
  · exact hx _ (by decide +kernel)
  · exact hx _ (by decide +kernel)
  · exact hx _ (by decide +kernel)
  · exact hx _ (by decide +kernel)
  · exact hx _ (by decide +kernel)
  · exact hx _ (by decide +kernel)
  · exact hx _ (by decide +kernel)
  · exact hx _ (by decide +kernel)
  · exact hx _ (by decide +kernel)
  · exact hx _ (by decide +kernel)
  · exact hx _ (by decide +kernel)
  · exact hx _ (by decide +kernel)
  · exact hx _ (by decide +kernel)
  · exact hx _ (by decide +kernel)
  · exact hx _ (by decide +kernel)
  · exact hb _ rfl
  · exact hb _ rfl
  · exact hx _ hT
  · exact hb _ rfl
  · exact hx _ (by decide +kernel)
theorem bads_lc (N : Nat) (fs : List D) (T : Tx) (hl : T.length ≤ 100) (hs : T.all (· < 1114112) = true) (hc : T.count 42 ≤ 4) (S : Sh) (env : Env) (he : env.length = 14) :
    lcK (keepF (Φs N fbs 20) env [12] (.var 12) (.nm 12) (.cmp .ne (.call f__law_outcome (.cons (.con (.int 0)) (.cons (.var 12) .nil))) (.call f__law_raises (.cons (.con (.str (tx "text"))) .nil)))) (bads (.tup fs) T) S = .ok (.lst []) S := by
  rw [lcK_fd (fun _ => false) (fun y => y) (bads (.tup fs) T) (by simp [bads]; show _ ≤ 1000000; omega) fun y hy => by
    have e1 := bads_out N fs T hl hs hc S y hy
    have e2 := p__law_raises N 19 S
    have e3 : eqD rsd rsd = some true := eq_self rsd_sm (by omega)
    have hv : ((env.set 12 .no).set 12 (.dat y))[12]? = some (.dat y) := by
      rw [List.getElem?_set_self]
      rw [List.length_set]; omega
    simp [keepF, wipeE, ev_var, ev_con, ev_bin, ev_neg, ev_not, ev_and, ev_or, ev_cmp, ev_chain, ev_ife, ev_tup, ev_lst, ev_ix, ev_sl, ev_call, ev_bi, ev_ixb, ev_lc, ei_e, ei_rng1, rg_i, ei_rng2, rg_ii, ng_i, io_i, zp_l, zp_t, ei_zip, el_nil, el_cons, eo_no, eo_at, xs_nil, xs_cons, xe_asg, xe_ite, xe_ret, xe_expr, xe_raise, run_fin, bind_ite, onto_ite, cond_ite, seqR_ite, finR_ite, app_ite, cmpB, bd_len_t, bd_len_l, bd_len_r, bd_len_s, bd_list_t, bd_list_l, bd_list_r, bd_list_s, bd_tuple_t, bd_tuple_l, bd_str_i, bd_str_s, bd_int_i, bd_int_b, bd_int_s, bd_sum, bd_min, bd_max, bd_min2, bd_max2, bd_all, bd_any, bd_isi, bd_join, bn_addi, bn_adds, bn_addl, bn_addt, bn_sub, bn_mul, bn_mull, bn_mult, bn_fdiv, bn_mod, bn_pow, ix_t, ix_l, ix_r, ix_s, sl_t, sl_l, sl_s, is_t, is_l, is_r, is_s, isiD, isD, leD, ltD, assignT, setAll, ev_m1, ev_fstr, ef_nil, ef_cons, ev_dgt, xe_try, rv_count, rv_split, rv_sindex, rv_tindex, rv_lindex, rv_lcnt, bd_isx, bd_count, bd_split, bd_sindex, bd_tindex, bd_lindex_b, bd_lindex_s, bd_lcnt, so_s, so_i, idc_d, e1, e2, e3, hv, he]]
  simp
def last6 : Tx := tx "|a|bc*0,3 l0,4"
theorem last_out : outS last6 = .tup [.str (tx "returned"), .tup [.tup [.str (tx "repeat"), .tup [.str (tx "choice"), .tup [.str (tx "a"), .str (tx "bc")]], .int 0, .int 3], .tup [.str (tx "letters"), .int 0, .int 4]]] := by
  have h1 : rdL last6 = [.rep (.choice [tx "a", tx "bc"]) [0, 3], .one (.nums (tx "letters") [0, 4])] := by rfl
  have h2 : goodR (rdL last6) last6 = true := by decide +kernel
  rw [outS, if_pos h2, h1]
  rfl
def dep : Nat := 20
def fuel : Nat := 1000
theorem pure_law (ns : List Int) (hl : ns.length ≤ 63) : ∃ S, Φs fuel fbs (dep + 1) f_law [.scr ns] [] = .ok (.bl true) S := by
  obtain ⟨S0, e0, g0⟩ := p__law_town fuel 19 ns hl
  obtain ⟨form, S1, e1, hf, h4, g1⟩ := p__law_form fuel 14 0 ns 4 4 (by omega) (by omega) (by omega) (by omega) S0 g0 (by omega)
  obtain ⟨T, hT⟩ : ∃ T, lineF form = T := ⟨_, rfl⟩
  obtain ⟨t1, t2, t3⟩ := lineF_ok form hf h4
  have e2 := p_notation fuel 13 form hf S1
  have e3 := p_out_str fuel 12 (lineF form) (by omega) t2 (by omega) S1
  have e4 := outS_self (s := lineF form) (by omega) t2
  rw [outS_line form hf] at e3 e4
  have hfm := isFm_rf form hf
  have ej := join_lines hfm
  have e5 : ∀ env : Env, env.length = 14 → lcK (keepF (Φs fuel fbs 20) env [11] (.call f__law_line (.cons (.var 11) .nil)) (.nm 11) (.con (.bl true))) (form.map enc) S1 = .ok (.lst ((form.map rf).map fun r => D.str (lnR r))) S1 := fun env he => by
    rw [List.map_map]
    refine lcK_m _ form (by have := hf.2.1; show _ ≤ 1000000; omega) fun f h => ?_
    have h2 := p__law_lineR fuel 18 (rf f) ((isFm_ok hfm).2.2 _ (List.mem_map.mpr ⟨f, h, rfl⟩)) S1
    rw [enc_rf] at h2
    have hv : ((env.set 11 .no).set 11 (.dat (enc f)))[11]? = some (.dat (enc f)) := by
      rw [List.getElem?_set_self]
      rw [List.length_set]; omega
    simp [keepF, wipeE, ev_var, ev_con, ev_bin, ev_neg, ev_not, ev_and, ev_or, ev_cmp, ev_chain, ev_ife, ev_tup, ev_lst, ev_ix, ev_sl, ev_call, ev_bi, ev_ixb, ev_lc, ei_e, ei_rng1, rg_i, ei_rng2, rg_ii, ng_i, io_i, zp_l, zp_t, ei_zip, el_nil, el_cons, eo_no, eo_at, xs_nil, xs_cons, xe_asg, xe_ite, xe_ret, xe_expr, xe_raise, run_fin, bind_ite, onto_ite, cond_ite, seqR_ite, finR_ite, app_ite, cmpB, bd_len_t, bd_len_l, bd_len_r, bd_len_s, bd_list_t, bd_list_l, bd_list_r, bd_list_s, bd_tuple_t, bd_tuple_l, bd_str_i, bd_str_s, bd_int_i, bd_int_b, bd_int_s, bd_sum, bd_min, bd_max, bd_min2, bd_max2, bd_all, bd_any, bd_isi, bd_join, bn_addi, bn_adds, bn_addl, bn_addt, bn_sub, bn_mul, bn_mull, bn_mult, bn_fdiv, bn_mod, bn_pow, ix_t, ix_l, ix_r, ix_s, sl_t, sl_l, sl_s, is_t, is_l, is_r, is_s, isiD, isD, leD, ltD, assignT, setAll, ev_m1, ev_fstr, ef_nil, ef_cons, ev_dgt, xe_try, rv_count, rv_split, rv_sindex, rv_tindex, rv_lindex, rv_lcnt, bd_isx, bd_count, bd_split, bd_sindex, bd_tindex, bd_lindex_b, bd_lindex_s, bd_lcnt, so_s, so_i, idc_d, h2, hv, he]
  have ej : biD .join [.str (tx " "), .lst ((form.map rf).map fun r => D.str (lnR r))] = some (.str (lineF form)) := ej
  rw [hT] at t1 t2 t3 e2 e3 ej
  obtain ⟨L, hL⟩ : ∃ L, (form.map rf).map (fun r => D.str (lnR r)) = L := ⟨_, rfl⟩
  simp only [hL] at ej e5
  obtain ⟨env', S', hF, b4, b6, b7, b8, b9, b10, b11, b13, he, g⟩ := for_inv (ds := (List.range 8).map fun (k : Nat) => D.int k) (S := S1) (env := [.dat (.scr ns), .dat (.ref 0), .dat (encR form), .dat (.str T), .no, .no, .no, .no, .no, .no, .no, .no, .no, .no]) (f := bodyF (Φs fuel fbs 20) fuel (.nm 4) b_law_l0)
    (fun i env S' => ∃ b4 b6 b7 b8 b9 b10 b11 b13, env = [.dat (.scr ns), .dat (.ref 0), .dat (encR form), .dat (.str T), b4, .no, b6, b7, b8, b9, b10, b11, .no, b13] ∧ Good ns (300 + 3 * i) S') ⟨.no, .no, .no, .no, .no, .no, .no, .no, rfl, g1.more (by omega)⟩
    (fun i d env S hd ⟨b4, b6, b7, b8, b9, b10, b11, b13, he, g⟩ => by
      have hi := (List.getElem?_eq_some_iff.mp hd).1
      rw [List.length_map, List.length_range] at hi
      obtain ⟨c4, c6, c7, c8, c9, c10, c11, c13, S', h, g'⟩ := law_turn fuel (300 + 3 * i) ns T t1 t2 t3 d (encR form) .no b6 b7 b8 b9 b10 b11 .no b13 S g (by omega)
      subst he
      exact ⟨_, S', h b4, c4, c6, c7, c8, c9, c10, c11, c13, rfl, g'⟩)
  subst he
  have r0 := rng_ok0 8 (by omega) (by omega)
  have er : exec (Φs fuel fbs 20) fuel (.for (.nm 4) (.rng1 (.con (.int 8))) b_law_l0) [.dat (.scr ns), .dat (.ref 0), .dat (encR form), .dat (.str T), .no, .no, .no, .no, .no, .no, .no, .no, .no, .no] S1 = .nx [.dat (.scr ns), .dat (.ref 0), .dat (encR form), .dat (.str T), b4, .no, b6, b7, b8, b9, b10, b11, .no, b13] S' := by
    rw [xe_for, ei_rng1, ev_con, Res.bind_ok, rg_i, r0]
    exact hF
  have e6 := fun env he => bads_lc fuel (form.map enc) T t1 t2 t3 S' env he
  have e7 := p_out_str fuel 12 last6 (by decide +kernel) (by decide +kernel) (by decide +kernel) S'
  have e8 := outS_self (s := last6) (by decide +kernel) (by decide +kernel)
  rw [last_out] at e7 e8
  have n9 : eqD (.lst []) (.lst []) = some true := rfl
  have eT := eqD_str T T t2 t2
  rw [beq_self_eq_true] at eT
  have lm : ∀ k, k ≤ 30 → k ≤ lim := fun k h => by show _ ≤ 1000000; omega
  have lT : T.length + 1 ≤ lim := by show _ ≤ 1000000; omega
  refine ⟨S', ?_⟩
  show Φs fuel fbs (20 + 1) f_law [.scr ns] [] = _
  rw [u_law]
  simp only [encR, Nat.reduceAdd] at e0 e1 e2 e3 e4 er
  have e0 : Φs fuel fbs 20 f__law_town [.scr ns] [] = .ok (.ref 0) S0 := e0
  have e1 : Φs fuel fbs 20 f__law_form [.scr ns, .ref 0, .int 4, .int 4] S0 = .ok (.tup (form.map enc)) S1 := e1
  have e2 : Φs fuel fbs 20 f_notation [.tup (form.map enc)] S1 = .ok (.str T) S1 := e2
  have e3 : Φs fuel fbs 20 f__law_outcome [.int 0, .str T] S1 = .ok (.tup [.str (tx "returned"), .tup (form.map enc)]) S1 := e3
  have e7 : Φs fuel fbs 20 f__law_outcome [.int 0, .str (tx "|a|bc*0,3 l0,4")] S' = .ok (.tup [.str (tx "returned"), .tup [.tup [.str (tx "repeat"), .tup [.str (tx "choice"), .tup [.str (tx "a"), .str (tx "bc")]], .int 0, .int 3], .tup [.str (tx "letters"), .int 0, .int 4]]]) S' := e7
  simp only [bads] at e6
  have b32 : binD .add (.str T) (.str (tx " ")) = some (.str (T ++ [32])) := by rw [e_sp, bn_adds, if_pos]; exact lT
  simp [b_law, ev_var, ev_con, ev_bin, ev_neg, ev_not, ev_and, ev_or, ev_cmp, ev_chain, ev_ife, ev_tup, ev_lst, ev_ix, ev_sl, ev_call, ev_bi, ev_ixb, ev_lc, ei_e, ei_rng1, rg_i, ei_rng2, rg_ii, ng_i, io_i, zp_l, zp_t, ei_zip, el_nil, el_cons, eo_no, eo_at, xs_nil, xs_cons, xe_asg, xe_ite, xe_ret, xe_expr, xe_raise, run_fin, bind_ite, onto_ite, cond_ite, seqR_ite, finR_ite, app_ite, cmpB, bd_len_t, bd_len_l, bd_len_r, bd_len_s, bd_list_t, bd_list_l, bd_list_r, bd_list_s, bd_tuple_t, bd_tuple_l, bd_str_i, bd_str_s, bd_int_i, bd_int_b, bd_int_s, bd_sum, bd_min, bd_max, bd_min2, bd_max2, bd_all, bd_any, bd_isi, bn_addi, bn_addl, bn_addt, bn_sub, bn_mul, bn_mull, bn_mult, bn_fdiv, bn_mod, bn_pow, ix_t, ix_l, ix_r, ix_s, sl_t, sl_l, sl_s, is_t, is_l, is_r, is_s, isiD, isD, leD, ltD, assignT, setAll, ev_m1, ev_fstr, ef_nil, ef_cons, ev_dgt, xe_try, rv_count, rv_split, rv_sindex, rv_tindex, rv_lindex, rv_lcnt, bd_isx, bd_count, bd_split, bd_sindex, bd_tindex, bd_lindex_b, bd_lindex_s, bd_lcnt, so_s, so_i, idc_d, e0, e1, e5, ej, e2, eT, e3, e4, er, e6, e7, e8, n9, lm, b32]
end FT
open PySem PySem.W PySem.Calls PyProof.Rows
theorem PySem.Challenge.cw_fieldtexts_k72_whole_notation_holds : PySem.Challenge.rw_fieldtexts_k72_whole_notation.Holds := by
  w_on; o_law
  refine HandSHeadRun.head_any (r := OpenLaw.row PySem.Challenge.rw_fieldtexts_k72_whole_notation) (q := view (OpenLaw.row PySem.Challenge.rw_fieldtexts_k72_whole_notation).prog [48]) (H := FT.hk) (ob := FT.ob) (M := 20000) (loose := FT.nm) (d := HandSHeadRun.topDef (OpenLaw.row PySem.Challenge.rw_fieldtexts_k72_whole_notation).prog 48) (kwd := []) FT.ob_eq
    (by kernel_rfl) (fun s => by kernel_rfl) FT.run (by kernel_rfl) (by kernel_rfl) (by kernel_rfl) (by rfl) (by first | assumption | decide +kernel) (by decide +kernel) ⟨rfl, rfl, rfl, rfl, rfl, by decide +kernel⟩ ?hw ?hc
  case hw => w_witness2
  case hc =>
    refine L2.walk_ofE (l := PySem.Challenge.rw_fieldtexts_k72_whole_notation) (n := 63) (k := FT.dep + 1) (x := "_law_script") (CX := FT.CXa (PySem.Challenge.rw_fieldtexts_k72_whole_notation).prog) rfl (by decide) (by kernel_rfl) ⟨rfl, by decide, by decide⟩ ?F FT.no_cxa
    intro w mg fa h Y G hmg0
    obtain ⟨K, KX, c⟩ := Y
    have hmg : mg ("law" : PySem.Str) = some (.ref fa) := by
      have e : (HandSHeadRun.topDef (OpenLaw.row PySem.Challenge.rw_fieldtexts_k72_whole_notation).prog 48).name = ("law" : PySem.Str) := by kernel_rfl
      rw [← e]
      exact hmg0
    obtain ⟨fd, hb, hF⟩ := FT.lawOk (P := (PySem.Challenge.rw_fieldtexts_k72_whole_notation).prog) (w := w) (N := FT.fuel) (n := FT.dep) FT.pure_law KX G hmg c
    exact ⟨K, fd, FT.spLaw K fun ns => ns.length ≤ 63, KX, hb, fun H a ns hl _ hS => ⟨a, ns, rfl, hS, hl, fun _ => rfl⟩, hF⟩
