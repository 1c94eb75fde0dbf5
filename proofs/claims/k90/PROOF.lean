import PyProof.Rows.All
import Wide.All
import OpenK.AllK
import Wide.FinOn
import HandS.ForMost
import HandS.Exc
import HandS.ExcInit
import HandS.TryOnly
import HandS.WordsExc
import HandS.Star
import HandS.TupAny
import HandS.Conv
import HandS.Property
import HandS.IsInst
import HandS.Zip
import HandS.Flow
import HandS.DictTup
import HandS.DictComp
import HandS.TupSets
import KE.Datum
import KE.DatumOrd
import KE.DatumIndex
import KE.SortData
import HandS.Head0
import HandS.Head1
import HandS.Head2
import HandS.HeadEnd
import HandS.HeadHook1
import HandS.TupMul
import HandS.SetFor
import HandS.Style
import HandS.ExcOwn
import KE.KOwnIter
import KE.KAssignIn
import OpenK.KOps
import KE.KDictPairs
import HandS.MapObj
import KE.KDictZip
import KE.GoesZip
import KE.GoesMore
import KE.GoesEnum
import HandS.Strs
import PyProof.TupleOfSeq
import HandS.NoneIn
import PySem.Challenge.RW_keyedlines_k90_whole_keys_taken_as_hours
set_option Elab.async false
set_option linter.all false
set_option maxRecDepth 100000
set_option maxHeartbeats 4000000
/-! # K1: what expressions give, said without heaps: kinds of values (Ty) that stand in every later heap -/
namespace Kl
open PySem PySem.Spec PyProof.Rows L2

/-! ### which addresses are steady; what is known of the others -/
def Rel (ok : Addr → Prop) (H H' : Hp) : Prop := ∀ a o, ok a → H a = some o → H' a = some o
theorem Rel.refl {ok : Addr → Prop} (H : Hp) : Rel ok H H := fun _ _ _ e => e
theorem Rel.trans {ok : Addr → Prop} {H H1 H2 : Hp} (h : Rel ok H H1) (k : Rel ok H1 H2) : Rel ok H H2 := fun a o z e => k a o z (h a o z e)
theorem Rel.of {ok : Addr → Prop} {H H' : Hp} (h : Same H H') : Rel ok H H' := fun a o _ e => h a o e
/-- what no comprehension ever changes -/
def Firm (o : HO) : Prop := (∀ xs, o ≠ .lst xs) ∧ ∀ kvs, o ≠ .dT kvs
/-- what holds of the addresses that may change -/
structure Wd (ok : Addr → Prop) where
  J : Hp → Prop
  loc : ∀ {H H' : Hp}, J H → (∀ a o, ok a → Firm o → H a = some o → H' a = some o) → (∀ a, ¬ ok a → H' a = H a) → J H'
  fresh : ∀ {H : Hp} {p : Addr}, J H → H p = none → ok p
  tup : ∀ {H : Hp} {p : Addr} {xs : List V}, J H → H p = some (.tup xs) → ok p
theorem Wd.up {ok : Addr → Prop} (W : Wd ok) {H H' : Hp} (j : W.J H) (s : Same H H') : W.J H' := W.loc j (fun a o _ _ e => s a o e) fun a ha => by
  cases e : H a with
  | none => exact absurd (W.fresh j e) ha
  | some o => exact s a o e
/-- steady ones stand, of the others J holds -/
structure Le {ok : Addr → Prop} (W : Wd ok) (H H' : Hp) : Prop where
  rel : Rel ok H H'
  j : W.J H'
section
variable {ok : Addr → Prop} {W : Wd ok} {H H1 H2 : Hp}
theorem Le.refl (j : W.J H) : Le W H H := ⟨Rel.refl H, j⟩
theorem Le.trans (h : Le W H H1) (k : Le W H1 H2) : Le W H H2 := ⟨h.rel.trans k.rel, k.j⟩
theorem Le.of (j : W.J H) (s : Same H H1) : Le W H H1 := ⟨Rel.of s, W.up j s⟩
theorem same_upd {p : Addr} {o : HO} (h : H p = none) : Same H (upd H p o) := fun b x e => by
  rw [upd_ne (ne_of_none e h)]
  exact e
theorem le_upd (j : W.J H) {p : Addr} {o : HO} (h : H p = none) : Le W H (upd H p o) := .of j (same_upd h)
end
/-- all is steady -/
def W0 : Wd fun _ => True := ⟨fun _ => True, fun _ _ _ => trivial, fun _ _ => trivial, fun _ _ => trivial⟩

/-! ### data that stand in the tracked heap, at steady addresses -/
section
variable {ok : Addr → Prop}
/-- a tuple of these values, of these data: laid, or (where its first item is a tuple) laid with its object -/
def Td (H : Hp) (a : Addr) (xs : List V) (ds : List PyData) : Prop := H a = some (.tup xs) ∨ ∃ o es r, H a = some (.frz o (.tup xs)) ∧ ds = .tuple es :: r
theorem Td.rd {H : Hp} {a : Addr} {xs : List V} {ds : List PyData} (h : Td H a xs ds) : Rd H a (.tup xs) := h.elim .inl fun ⟨o, _, _, e, _⟩ => .inr ⟨o, e⟩
theorem Td.mono {H H' : Hp} {a : Addr} {xs : List V} {ds : List PyData} (h : Td H a xs ds) (e : ∀ o, H a = some o → H' a = some o) : Td H' a xs ds := h.elim (fun h => .inl (e _ h)) fun ⟨o, es, r, h, z⟩ => .inr ⟨o, es, r, e _ h, z⟩
theorem Td.ne {H : Hp} {a p : Addr} {xs : List V} {ds : List PyData} (h : Td H a xs ds) (hp : H p = none) : a ≠ p := h.elim (fun h => ne_of_none h hp) fun ⟨_, _, _, h, _⟩ => ne_of_none h hp
theorem Td.neL {H : Hp} {a p : Addr} {xs zs : List V} {ds : List PyData} (h : Td H a xs ds) (hp : H p = some (.lst zs)) : a ≠ p := h.elim (fun h => ne_of h hp (fun z => nomatch z)) fun ⟨_, _, _, h, _⟩ => ne_of h hp (fun z => nomatch z)
theorem rdm {H H' : Hp} {a : Addr} {u : HO} (h : Rd H a u) (e : ∀ o, H a = some o → H' a = some o) : Rd H' a u := h.elim (fun h => .inl (e _ h)) fun ⟨o, h⟩ => .inr ⟨o, e _ h⟩
mutual
inductive R (ok : Addr → Prop) (H : Hp) : V → PyData → Prop
  | non : R ok H .non .none
  | bl (b : Bool) : R ok H (.bl b) (.bool b)
  | int (i : Int) : R ok H (.int i) (.int i)
  | str (x : Str) : R ok H (.str x) (.str x)
  | lst {a : Addr} {xs : List V} {ds : List PyData} : ok a → H a = some (.lst xs) → RA ok H xs ds → R ok H (.ref a) (.list ds)
  | tup {a : Addr} {xs : List V} {ds : List PyData} : ok a → Td H a xs ds → RA ok H xs ds → R ok H (.ref a) (.tuple ds)
inductive RA (ok : Addr → Prop) (H : Hp) : List V → List PyData → Prop
  | nil : RA ok H [] []
  | cons {v : V} {vs : List V} {d : PyData} {ds : List PyData} : R ok H v d → RA ok H vs ds → RA ok H (v :: vs) (d :: ds)
end
mutual
theorem R.same {H H' : Hp} (e : Rel ok H H') : ∀ {v : V} {d : PyData}, R ok H v d → R ok H' v d
  | _, _, .non => .non
  | _, _, .bl b => .bl b
  | _, _, .int i => .int i
  | _, _, .str x => .str x
  | _, _, .lst k h r => .lst k (e _ _ k h) (RA.same e r)
  | _, _, .tup k h r => .tup k (h.mono fun o => e _ o k) (RA.same e r)
theorem RA.same {H H' : Hp} (e : Rel ok H H') : ∀ {vs : List V} {ds : List PyData}, RA ok H vs ds → RA ok H' vs ds
  | _, _, .nil => .nil
  | _, _, .cons r t => .cons (R.same e r) (RA.same e t)
end
mutual
theorem R.dp {K : PySem.W.Frag} {H : Hp} : ∀ {v : V} {d : PyData}, R ok H v d → Dp K H v d
  | _, _, .non => .non
  | _, _, .bl b => .bl b
  | _, _, .int i => .int i
  | _, _, .str x => .str x
  | _, _, .lst _ h r => .lst (SqL.of h) (RA.dp r)
  | _, _, .tup _ h r => .tup (.inl h.rd) (RA.dp r)
theorem RA.dp {K : PySem.W.Frag} {H : Hp} : ∀ {vs : List V} {ds : List PyData}, RA ok H vs ds → DpAll K H vs ds
  | _, _, .nil => .nil
  | _, _, .cons r t => .cons (R.dp r) (RA.dp t)
end
theorem RA.length {H : Hp} : ∀ {vs : List V} {ds : List PyData}, RA ok H vs ds → vs.length = ds.length
  | _, _, .nil => rfl
  | _, _, .cons _ t => congrArg (· + 1) (RA.length t)
theorem RA.at {H : Hp} : ∀ {vs : List V} {ds : List PyData} {i : Nat} {d : PyData}, RA ok H vs ds → ds[i]? = some d → ∃ v, vs[i]? = some v ∧ R ok H v d
  | _, _, _, _, .nil, e => by simp at e
  | _, _, 0, _, .cons r _, e => ⟨_, rfl, by cases e; exact r⟩
  | _, _, i + 1, _, .cons _ t, e => by
    obtain ⟨v, h1, h2⟩ := RA.at (i := i) t (by simpa using e)
    exact ⟨v, by simpa using h1, h2⟩
theorem RA.at' {H : Hp} : ∀ {vs : List V} {ds : List PyData} {i : Nat} {v : V}, RA ok H vs ds → vs[i]? = some v → ∃ d, ds[i]? = some d ∧ R ok H v d
  | _, _, _, _, .nil, e => by simp at e
  | _, _, 0, _, .cons r _, e => ⟨_, rfl, by cases e; exact r⟩
  | _, _, i + 1, _, .cons _ t, e => by
    obtain ⟨d, h1, h2⟩ := RA.at' (i := i) t (by simpa using e)
    exact ⟨d, by simpa using h1, h2⟩
theorem RA.append {H : Hp} : ∀ {vs ws : List V} {ds es : List PyData}, RA ok H vs ds → RA ok H ws es → RA ok H (vs ++ ws) (ds ++ es)
  | _, _, _, _, .nil, r => r
  | _, _, _, _, .cons r t, q => .cons r (RA.append t q)
theorem RA.take {H : Hp} : ∀ (n : Nat) {vs : List V} {ds : List PyData}, RA ok H vs ds → RA ok H (vs.take n) (ds.take n)
  | 0, _, _, _ => .nil
  | _ + 1, _, _, .nil => .nil
  | n + 1, _, _, .cons r t => .cons r (RA.take n t)
theorem RA.drop {H : Hp} : ∀ (n : Nat) {vs : List V} {ds : List PyData}, RA ok H vs ds → RA ok H (vs.drop n) (ds.drop n)
  | 0, _, _, r => r
  | _ + 1, _, _, .nil => .nil
  | n + 1, _, _, .cons _ t => RA.drop n t
theorem RA.ints {H : Hp} : ∀ {vs : List V} {ns : List Int}, RA ok H vs (ns.map .int) → vs = ns.map V.int
  | _, [], .nil => rfl
  | _, n :: ns, .cons r t => by
    cases r
    rw [List.map_cons, RA.ints t]
theorem RA.bools {H : Hp} : ∀ {vs : List V} {ns : List Bool}, RA ok H vs (ns.map .bool) → vs = ns.map V.bl
  | _, [], .nil => rfl
  | _, n :: ns, .cons r t => by
    cases r
    rw [List.map_cons, RA.bools t]
theorem RA.strs {H : Hp} : ∀ {vs : List V} {ns : List Str}, RA ok H vs (ns.map .str) → vs = ns.map V.str
  | _, [], .nil => rfl
  | _, n :: ns, .cons r t => by
    cases r
    rw [List.map_cons, RA.strs t]
theorem RA.ofInts {H : Hp} : ∀ (ns : List Int), RA ok H (ns.map V.int) (ns.map .int)
  | [] => .nil
  | n :: ns => .cons (.int n) (RA.ofInts ns)
theorem RA.ofStrs {H : Hp} : ∀ (ns : List Str), RA ok H (ns.map V.str) (ns.map .str)
  | [] => .nil
  | n :: ns => .cons (.str n) (RA.ofStrs ns)
theorem RA.ofBools {H : Hp} : ∀ (ns : List Bool), RA ok H (ns.map V.bl) (ns.map .bool)
  | [] => .nil
  | n :: ns => .cons (.bl n) (RA.ofBools ns)
/-- data without a list: its tuples never change -/
def SameT (H H' : Hp) : Prop := ∀ a xs ds, Td H a xs ds → Td H' a xs ds
mutual
def imm : PyData → Bool
  | .list _ => false
  | .dict _ => false
  | .tuple xs => immAll xs
  | _ => true
def immAll : List PyData → Bool
  | [] => true
  | x :: xs => imm x && immAll xs
end
mutual
theorem R.sameT {H H' : Hp} (e : SameT H H') : ∀ {v : V} {d : PyData}, imm d = true → R ok H v d → R ok H' v d
  | _, _, _, .non => .non
  | _, _, _, .bl b => .bl b
  | _, _, _, .int i => .int i
  | _, _, _, .str x => .str x
  | _, _, h, .tup k h1 r => .tup k (e _ _ _ h1) (RA.sameT e (by simpa [imm] using h) r)
  | _, _, h, .lst _ _ _ => by simp [imm] at h
theorem RA.sameT {H H' : Hp} (e : SameT H H') : ∀ {vs : List V} {ds : List PyData}, immAll ds = true → RA ok H vs ds → RA ok H' vs ds
  | _, _, _, .nil => .nil
  | _, _, h, .cons r t => by
    simp only [immAll, Bool.and_eq_true] at h
    exact .cons (R.sameT e h.1 r) (RA.sameT e h.2 t)
end
/-! ### kinds of values -/
/-- what is known of a value, as long as the steady ones stand -/
structure Ty (ok : Addr → Prop) where
  p : Hp → V → Prop
  mono : ∀ {H H' : Hp} {v : V}, Rel ok H H' → p H v → p H' v
def D (d : PyData) : Ty ok := ⟨fun H v => R ok H v d, fun e h => h.same e⟩
abbrev DEnv (ok : Addr → Prop) := List (Option (Ty ok))
structure Sl (W : Wd ok) (H : Hp) (σ : L2.St) (δ : DEnv ok) : Prop where
  j : W.J H
  len : σ.length = δ.length
  at_ : ∀ (i : Nat) (P : Ty ok), δ[i]? = some (some P) → ∃ v, σ[i]? = some (some v) ∧ P.p H v
theorem Sl.to {W W' : Wd ok} {H H' : Hp} {σ : L2.St} {δ : DEnv ok} (s : Sl W H σ δ) (e : Rel ok H H') (j : W'.J H') : Sl W' H' σ δ :=
  ⟨j, s.len, fun i P h => let ⟨v, a, b⟩ := s.at_ i P h; ⟨v, a, P.mono e b⟩⟩
theorem Sl.same {W : Wd ok} {H H' : Hp} {σ : L2.St} {δ : DEnv ok} (s : Sl W H σ δ) (e : Le W H H') : Sl W H' σ δ := s.to e.rel e.j
theorem Sl.set {W : Wd ok} {H : Hp} {σ : L2.St} {δ : DEnv ok} (s : Sl W H σ δ) (i : Nat) {v : V} {P : Ty ok} (h : P.p H v) : Sl W H (σ.set i (some v)) (δ.set i (some P)) := by
  refine ⟨s.j, by rw [List.length_set, List.length_set, s.len], fun j Q hj => ?_⟩
  by_cases e : i = j
  · subst e
    by_cases hl : i < δ.length
    · rw [List.getElem?_set_self hl] at hj
      cases hj
      exact ⟨v, List.getElem?_set_self (by rw [s.len]; exact hl), h⟩
    · rw [List.getElem?_eq_none (by simpa using hl)] at hj
      cases hj
  · rw [List.getElem?_set_ne e] at hj
    rw [List.getElem?_set_ne e]
    exact s.at_ j Q hj
def wipeE (δ : DEnv ok) : List Nat → DEnv ok
  | [] => δ
  | v :: vs => (wipeE δ vs).set v none
theorem Sl.unset {W : Wd ok} {H : Hp} {σ : L2.St} {δ : DEnv ok} (s : Sl W H σ δ) (i : Nat) : Sl W H (σ.set i none) (δ.set i none) := by
  refine ⟨s.j, by rw [List.length_set, List.length_set, s.len], fun j Q hj => ?_⟩
  by_cases e : i = j
  · subst e
    by_cases hl : i < δ.length
    · rw [List.getElem?_set_self hl] at hj
      cases hj
    · rw [List.getElem?_eq_none (by simpa using hl)] at hj
      cases hj
  · rw [List.getElem?_set_ne e] at hj
    rw [List.getElem?_set_ne e]
    exact s.at_ j Q hj
theorem Sl.wipe {W : Wd ok} {H : Hp} {σ : L2.St} {δ : DEnv ok} (s : Sl W H σ δ) : ∀ vs : List Nat, Sl W H (wipe σ vs) (wipeE δ vs)
  | [] => s
  | v :: vs => Sl.unset (Sl.wipe s vs) v

/-! ### the weakest readings -/
section
variable (X : Cx)
def tW (e : Expr) : TE := fun σ H Q => ∀ (pins : List (Addr × Obj)) (s : Shared), Inv X pins σ H s → wpAny (model X.prog X.w) X.A (eval e X.env) (EP X pins σ Q) X.xe s
def tTW (e : Expr) : TT := fun σ H Q => ∀ (pins : List (Addr × Obj)) (s : Shared), Inv X pins σ H s → wpAny (model X.prog X.w) X.A (isTrue e X.env (eval e X.env)) (TP X pins σ Q) X.xe s
def tWW (e : Expr) : TT := fun σ H Q => ∀ (whole : Sem Value) (pins : List (Addr × Obj)) (s : Shared), Inv X pins σ H s → wpAny (model X.prog X.w) X.A (isTrue e X.env whole) (TP X pins σ Q) X.xe s
def tAW (es : List Expr) : TA := fun σ H Q => ∀ (pos : Pos) (pins : List (Addr × Obj)) (s : Shared), Inv X pins σ H s → wpAny (model X.prog X.w) X.A (spliced (backTo pos (starEach es X.env))) (AP X pins σ Q) X.xe s
def tSW (st : Stmt) : TS := fun E σ H => ∀ (pins : List (Addr × Obj)) (s : Shared), Inv X pins σ H s → wpAny (model X.prog X.w) X.A (exec st X.env) (SP X pins E) X.xe s
def tBW (st : List Stmt) : TS := fun E σ H => ∀ (pins : List (Addr × Obj)) (s : Shared), Inv X pins σ H s → wpAny (model X.prog X.w) X.A (execs st X.env) (SP X pins E) X.xe s
def iW (tg iter : Expr) : TI := fun σ H R => ∀ (pins : List (Addr × Obj)) (s : Shared), Inv X pins σ H s →
  wpAny (model X.prog X.w) X.A (eval iter X.env) (fun v s1 => wpAny (model X.prog X.w) X.A (pyIter v) (PIE X pins σ tg R) X.xe s1) X.xe s
def gW (tg : Expr) : TG := fun v σ H Q => ∀ (pins : List (Addr × Obj)) (s : Shared) (u : Value), Inv X pins σ H s → RelV v u →
  wpAny (model X.prog X.w) X.A (assign tg X.env u) (fun _ s' => ∃ σ' H', Inv X pins σ' H' s' ∧ Q σ' H') X.xe s
def gsW (tgs : List Expr) : TGs := fun vs σ H Q => ∀ (pins : List (Addr × Obj)) (s : Shared) (us : List Value), Inv X pins σ H s → Vals vs us →
  wpAny (model X.prog X.w) X.A (assignInOrder ((assignEach tgs X.env).map (·.2)) us) (fun _ s' => ∃ σ' H', Inv X pins σ' H' s' ∧ Q σ' H') X.xe s
def qW (ifs : List Expr) : TT := fun σ H Q => ∀ (pins : List (Addr × Obj)) (s : Shared), Inv X pins σ H s →
  wpAny (model X.prog X.w) X.A (forIn ifs true fun c r => if r = true then do let ok ← isTrue c X.env (eval c X.env); pure (ForInStep.yield ok) else pure (ForInStep.yield r)) (TP X pins σ Q) X.xe s
end
section
variable {X : Cx}
theorem peW {e : Expr} : PE X e (tW X e) := ⟨fun pins s _ _ _ I h => h pins s I⟩
theorem ptW {e : Expr} : PT X e (tTW X e) := ⟨fun pins s _ _ _ I h => h pins s I⟩
theorem pwW {e : Expr} : PW X e (tWW X e) := ⟨fun w pins s _ _ _ I h => h w pins s I⟩
theorem paW {es : List Expr} : PA X es (tAW X es) := ⟨fun pos pins s _ _ _ I h => h pos pins s I⟩
theorem psW {st : Stmt} : PS X st (tSW X st) := ⟨fun pins s _ _ _ I h => h pins s I⟩
theorem pbW {st : List Stmt} : PSs X st (tBW X st) := ⟨fun pins s _ _ _ I h => h pins s I⟩
theorem piW {tg iter : Expr} : PI X tg iter (iW X tg iter) := ⟨fun pins s _ _ _ I h => h pins s I⟩
theorem pgW {tg : Expr} : PG X tg (gW X tg) := ⟨fun pins s _ _ _ u _ I r h => h pins s u I r⟩
theorem pgsW {tgs : List Expr} : PGs X tgs (gsW X tgs) := ⟨fun pins s _ _ _ us _ I r h => h pins s us I r⟩
theorem ptsW {ifs : List Expr} : PTs X ifs (qW X ifs) := ⟨fun pins s _ _ _ I h => h pins s I⟩

/-! ### what an expression gives -/
structure PEv (W : Wd ok) (X : Cx) (e : Expr) (δ : DEnv ok) (P : Ty ok) : Prop where
  run : ∀ (σ : L2.St) (H : Hp) (Q : VK), Sl W H σ δ → (∀ v H2, Le W H H2 → P.p H2 v → Q v H2) → tW X e σ H Q
structure PTv (W : Wd ok) (X : Cx) (e : Expr) (δ : DEnv ok) (b : Bool) : Prop where
  run : ∀ (σ : L2.St) (H : Hp) (Q : Bool → Hp → Prop), Sl W H σ δ → (∀ H2, Le W H H2 → Q b H2) → tTW X e σ H Q
structure PWv (W : Wd ok) (X : Cx) (e : Expr) (δ : DEnv ok) (b : Bool) : Prop where
  run : ∀ (σ : L2.St) (H : Hp) (Q : Bool → Hp → Prop), Sl W H σ δ → (∀ H2, Le W H H2 → Q b H2) → tWW X e σ H Q
/-- values of these kinds, in a row -/
inductive TyA (H : Hp) : List V → List (Ty ok) → Prop
  | nil : TyA H [] []
  | cons {v : V} {vs : List V} {P : Ty ok} {Ps : List (Ty ok)} : P.p H v → TyA H vs Ps → TyA H (v :: vs) (P :: Ps)
theorem TyA.same {H H' : Hp} (e : Rel ok H H') : ∀ {vs : List V} {Ps : List (Ty ok)}, TyA H vs Ps → TyA H' vs Ps
  | _, _, .nil => .nil
  | _, _, .cons (P := P) h t => .cons (P.mono e h) (TyA.same e t)
theorem TyA.length {H : Hp} : ∀ {vs : List V} {Ps : List (Ty ok)}, TyA H vs Ps → vs.length = Ps.length
  | _, _, .nil => rfl
  | _, _, .cons _ t => congrArg (· + 1) (TyA.length t)
theorem TyA.append {H : Hp} : ∀ {vs ws : List V} {Ps Qs : List (Ty ok)}, TyA H vs Ps → TyA H ws Qs → TyA H (vs ++ ws) (Ps ++ Qs)
  | _, _, _, _, .nil, r => r
  | _, _, _, _, .cons r t, q => .cons r (TyA.append t q)
theorem TyA.at {H : Hp} : ∀ {vs : List V} {Ps : List (Ty ok)} {i : Nat} {P : Ty ok}, TyA H vs Ps → Ps[i]? = some P → ∃ v, vs[i]? = some v ∧ P.p H v
  | _, _, _, _, .nil, e => by simp at e
  | _, _, 0, _, .cons r _, e => ⟨_, rfl, by cases e; exact r⟩
  | _, _, i + 1, _, .cons _ t, e => by
    obtain ⟨v, h1, h2⟩ := TyA.at (i := i) t (by simpa using e)
    exact ⟨v, by simpa using h1, h2⟩
theorem TyA.ra {H : Hp} : ∀ {vs : List V} {ds : List PyData}, TyA H vs (ds.map (D (ok := ok))) → RA ok H vs ds
  | _, [], .nil => .nil
  | _, _ :: _, .cons h t => .cons h (TyA.ra t)
theorem RA.tya {H : Hp} : ∀ {vs : List V} {ds : List PyData}, RA ok H vs ds → TyA H vs (ds.map (D (ok := ok)))
  | _, _, .nil => .nil
  | _, _, .cons h t => .cons h (RA.tya t)
structure PAv (W : Wd ok) (X : Cx) (es : List Expr) (δ : DEnv ok) (Ps : List (Ty ok)) : Prop where
  run : ∀ (σ : L2.St) (H : Hp) (Q : List V → Hp → Prop), Sl W H σ δ → (∀ vs H2, Le W H H2 → TyA H2 vs Ps → Q vs H2) → tAW X es σ H Q
/-- only these slots are stored -/
def Out (ws : List Nat) (σ σ' : L2.St) : Prop := σ'.length = σ.length ∧ ∀ j, j ∉ ws → σ'[j]? = σ[j]?
structure PGv (W : Wd ok) (X : Cx) (tg : Expr) (δ : DEnv ok) (P : Ty ok) (δ' : DEnv ok) (ws : List Nat) : Prop where
  run : ∀ (v : V) (σ : L2.St) (H : Hp) (Q : L2.St → Hp → Prop), Sl W H σ δ → P.p H v → (∀ σ' H2, Le W H H2 → Sl W H2 σ' δ' → Out ws σ σ' → Q σ' H2) → gW X tg v σ H Q
structure PGsv (W : Wd ok) (X : Cx) (tgs : List Expr) (δ : DEnv ok) (Ps : List (Ty ok)) (δ' : DEnv ok) (ws : List Nat) : Prop where
  run : ∀ (vs : List V) (σ : L2.St) (H : Hp) (Q : L2.St → Hp → Prop), Sl W H σ δ → TyA H vs Ps → (∀ σ' H2, Le W H H2 → Sl W H2 σ' δ' → Out ws σ σ' → Q σ' H2) → gsW X tgs vs σ H Q
structure PQv (W : Wd ok) (X : Cx) (ifs : List Expr) (δ : DEnv ok) (b : Bool) : Prop where
  run : ∀ (σ : L2.St) (H : Hp) (Q : Bool → Hp → Prop), Sl W H σ δ → (∀ H2, Le W H H2 → Q b H2) → qW X ifs σ H Q
theorem PEv.of {e : Expr} {δ : DEnv ok} {P : Ty ok} {t : TE} (h : PE X e t) (k : ∀ σ H Q, Sl W H σ δ → (∀ v H2, Le W H H2 → P.p H2 v → Q v H2) → t σ H Q) : PEv W X e δ P :=
  ⟨fun σ H Q sl q pins s I => h.run pins s σ H Q I (k σ H Q sl q)⟩
theorem PTv.of {e : Expr} {δ : DEnv ok} {b : Bool} {t : TT} (h : PT X e t) (k : ∀ σ H Q, Sl W H σ δ → (∀ H2, Le W H H2 → Q b H2) → t σ H Q) : PTv W X e δ b :=
  ⟨fun σ H Q sl q pins s I => h.run pins s σ H Q I (k σ H Q sl q)⟩
theorem PWv.of {e : Expr} {δ : DEnv ok} {b : Bool} {t : TT} (h : PW X e t) (k : ∀ σ H Q, Sl W H σ δ → (∀ H2, Le W H H2 → Q b H2) → t σ H Q) : PWv W X e δ b :=
  ⟨fun σ H Q sl q w pins s I => h.run w pins s σ H Q I (k σ H Q sl q)⟩
theorem PAv.of {es : List Expr} {δ : DEnv ok} {Ps : List (Ty ok)} {t : TA} (h : PA X es t) (k : ∀ σ H Q, Sl W H σ δ → (∀ vs H2, Le W H H2 → TyA H2 vs Ps → Q vs H2) → t σ H Q) : PAv W X es δ Ps :=
  ⟨fun σ H Q sl q pos pins s I => h.run pos pins s σ H Q I (k σ H Q sl q)⟩
theorem PGv.of {tg : Expr} {δ δ' : DEnv ok} {P : Ty ok} {ws : List Nat} {t : TG} (h : PG X tg t) (k : ∀ v σ H Q, Sl W H σ δ → P.p H v → (∀ σ' H2, Le W H H2 → Sl W H2 σ' δ' → Out ws σ σ' → Q σ' H2) → t v σ H Q) : PGv W X tg δ P δ' ws :=
  ⟨fun v σ H Q sl p q pins s u I r => h.run pins s σ H v u Q I r (k v σ H Q sl p q)⟩
theorem PGsv.of {tgs : List Expr} {δ δ' : DEnv ok} {Ps : List (Ty ok)} {ws : List Nat} {t : TGs} (h : PGs X tgs t) (k : ∀ vs σ H Q, Sl W H σ δ → TyA H vs Ps → (∀ σ' H2, Le W H H2 → Sl W H2 σ' δ' → Out ws σ σ' → Q σ' H2) → t vs σ H Q) : PGsv W X tgs δ Ps δ' ws :=
  ⟨fun vs σ H Q sl p q pins s us I r => h.run pins s σ H vs us Q I r (k vs σ H Q sl p q)⟩
theorem PQv.of {ifs : List Expr} {δ : DEnv ok} {b : Bool} {t : TT} (h : PTs X ifs t) (k : ∀ σ H Q, Sl W H σ δ → (∀ H2, Le W H H2 → Q b H2) → t σ H Q) : PQv W X ifs δ b :=
  ⟨fun σ H Q sl q pins s I => h.run pins s σ H Q I (k σ H Q sl q)⟩
theorem PEv.sub {e : Expr} {δ : DEnv ok} {P P' : Ty ok} (h : PEv W X e δ P) (k : ∀ H v, P.p H v → P'.p H v) : PEv W X e δ P' :=
  ⟨fun σ H Q sl q => h.run σ H Q sl fun v H2 s p => q v H2 s (k H2 v p)⟩
theorem PEv.cast {e : Expr} {δ : DEnv ok} {P P' : Ty ok} (h : PEv W X e δ P) (k : P = P') : PEv W X e δ P' := k ▸ h
theorem PTv.cast {e : Expr} {δ : DEnv ok} {b b' : Bool} (h : PTv W X e δ b) (k : b = b') : PTv W X e δ b' := k ▸ h

/-! ### names, constants -/
section
variable {δ : DEnv ok}
theorem vv (i : Nat) {x : Str} {pos : Pos} {P : Ty ok} (hN : X.N[i]? = some x := by rfl) (hd : δ[i]? = some (some P) := by rfl) (hv : Vis X.env.scope x := by first | exact Or.inl rfl | exact Or.inr (Or.inl rfl) | exact Or.inr (Or.inr rfl))
    (hg : (x == ("__debug__" : Str)) = false := by decide) (hcd : (x == ("__classdict__" : Str)) = false := by decide) : PEv W X (.Name x pos) δ P :=
  PEv.of (pe_var hN hv hg hcd) fun σ H Q sl q => by
    obtain ⟨v, e, p⟩ := sl.at_ i P hd
    exact ⟨v, e, q v H (Le.refl sl.j) p⟩
theorem vint {i : Int} {j pos} : PEv W X (.Constant (.int i) j pos) δ (D (.int i)) := PEv.of pe_int fun _ H _ sl q => q _ H (Le.refl sl.j) (.int i)
theorem vbl {b : Bool} {j pos} : PEv W X (.Constant (.bool b) j pos) δ (D (.bool b)) := PEv.of pe_bl fun _ H _ sl q => q _ H (Le.refl sl.j) (.bl b)
theorem vnon {j pos} : PEv W X (.Constant .none j pos) δ (D .none) := PEv.of pe_non fun _ H _ sl q => q _ H (Le.refl sl.j) .non
theorem vstr {x : Str} {j pos} : PEv W X (.Constant (.str x) j pos) δ (D (.str x)) := PEv.of pe_str fun _ H _ sl q => q _ H (Le.refl sl.j) (.str x)
theorem vgi {x : Str} {i : Int} {pos : Pos} (hm : ∃ t, X.mg x = some (.int i t)) (hg : Gl X x := by rfl) (hd : (x == ("__debug__" : Str)) = false := by decide) : PEv W X (.Name x pos) δ (D (.int i)) := by
  obtain ⟨t, hm⟩ := hm
  exact PEv.of (pe_glob (v := .int i) hg hm ⟨t, rfl⟩ hd) fun _ H _ sl q => q _ H (Le.refl sl.j) (.int i)
theorem vgs {x y : Str} {pos : Pos} (hm : ∃ t, X.mg x = some (.str y t)) (hg : Gl X x := by rfl) (hd : (x == ("__debug__" : Str)) = false := by decide) : PEv W X (.Name x pos) δ (D (.str y)) := by
  obtain ⟨t, hm⟩ := hm
  exact PEv.of (pe_glob (v := .str y) hg hm ⟨t, rfl⟩ hd) fun _ H _ sl q => q _ H (Le.refl sl.j) (.str y)

/-! ### two operands -/
theorem vop {a b : Expr} {op : Operator} {pos : Pos} {r : R2} {A B C : Ty ok} (ho : OpR X (binaryOp op) r) (ha : PEv W X a δ A) (hb : PEv W X b δ B)
    (k : ∀ H x y Q, A.p H x → B.p H y → (∀ v H2, Same H H2 → C.p H2 v → Q v H2) → r x y H Q) : PEv W X (.BinOp a op b pos) δ C :=
  PEv.of (pe_op ho peW peW) fun σ H Q sl q => ha.run σ H _ sl fun x H1 s1 p1 => hb.run σ H1 _ (sl.same s1) fun y H2 s2 p2 => k H2 x y Q (A.mono s2.rel p1) p2 fun v H3 s3 p3 => q v H3 ((s1.trans s2).trans (Le.of s2.j s3)) p3
theorem vadd {a b : Expr} {pos : Pos} {i j : Int} (ha : PEv W X a δ (D (.int i))) (hb : PEv W X b δ (D (.int j))) : PEv W X (.BinOp a .Add b pos) δ (D (.int (i + j))) :=
  vop op_add ha hb fun H x y Q p q k => by
    cases p
    cases q
    exact ⟨_, _, rfl, rfl, k _ H (Same.refl H) (.int _)⟩
theorem vsub {a b : Expr} {pos : Pos} {i j : Int} (ha : PEv W X a δ (D (.int i))) (hb : PEv W X b δ (D (.int j))) : PEv W X (.BinOp a .Sub b pos) δ (D (.int (i - j))) :=
  vop op_sub ha hb fun H x y Q p q k => by
    cases p
    cases q
    exact ⟨_, _, rfl, rfl, k _ H (Same.refl H) (.int _)⟩
theorem vmul {a b : Expr} {pos : Pos} {i j : Int} (ha : PEv W X a δ (D (.int i))) (hb : PEv W X b δ (D (.int j))) (hc : CMul i j) : PEv W X (.BinOp a .Mult b pos) δ (D (.int (i * j))) :=
  vop op_mul ha hb fun H x y Q p q k => by
    cases p
    cases q
    exact ⟨_, _, rfl, rfl, hc, k _ H (Same.refl H) (.int _)⟩
theorem vmod {a b : Expr} {pos : Pos} {i j : Int} (ha : PEv W X a δ (D (.int i))) (hb : PEv W X b δ (D (.int j))) (hc : 0 < j) : PEv W X (.BinOp a .Mod b pos) δ (D (.int (i % j))) :=
  vop op_mod ha hb fun H x y Q p q k => by
    cases p
    cases q
    exact ⟨_, _, rfl, rfl, hc, k _ H (Same.refl H) (.int _)⟩
theorem vdiv {a b : Expr} {pos : Pos} {i j : Int} (ha : PEv W X a δ (D (.int i))) (hb : PEv W X b δ (D (.int j))) (hc : CDiv i j) : PEv W X (.BinOp a .FloorDiv b pos) δ (D (.int (i / j))) :=
  vop op_fdiv ha hb fun H x y Q p q k => by
    cases p
    cases q
    exact ⟨_, _, rfl, rfl, hc, k _ H (Same.refl H) (.int _)⟩
theorem vpow {a b : Expr} {pos : Pos} {i j : Int} (ha : PEv W X a δ (D (.int i))) (hb : PEv W X b δ (D (.int j))) (hc : CPow i j) : PEv W X (.BinOp a .Pow b pos) δ (D (.int (i ^ j.toNat))) :=
  vop op_pow ha hb fun H x y Q p q k => by
    cases p
    cases q
    exact ⟨_, _, rfl, rfl, hc, k _ H (Same.refl H) (.int _)⟩
theorem vneg {a : Expr} {pos : Pos} {i : Int} (ha : PEv W X a δ (D (.int i))) : PEv W X (.UnaryOp .USub a pos) δ (D (.int (-i))) :=
  PEv.of (pe_un un_neg peW) fun σ H Q sl q => ha.run σ H _ sl fun x H1 s1 p1 => by
    cases p1
    exact ⟨_, rfl, q _ H1 s1 (.int _)⟩
/-- a comparison of such values comes out so -/
structure Cm (W : Wd ok) (X : Cx) (op : CmpOp) (A B : Ty ok) (b : Bool) : Prop where
  ex : ∃ r : R2, OpR X (compareOp op) r ∧ ∀ H x y (Q : VK), A.p H x → B.p H y → Q (.bl b) H → r x y H Q
theorem vc {a b : Expr} {op : CmpOp} {pos : Pos} {A B : Ty ok} {c : Bool} (h : Cm W X op A B c) (ha : PEv W X a δ A) (hb : PEv W X b δ B) (hm : behindInMarks op b = false := by first | exact nomark _ | rfl) : PEv W X (.Compare a [op] [b] pos) δ (D (.bool c)) := by
  obtain ⟨r, ho, k⟩ := h.ex
  exact PEv.of (pe_cmpR ho peW peW hm) fun σ H Q sl q => ha.run σ H _ sl fun x H1 s1 p1 => hb.run σ H1 _ (sl.same s1) fun y H2 s2 p2 => k H2 x y Q (A.mono s2.rel p1) p2 (q _ H2 (s1.trans s2) (.bl c))
theorem tc {a b : Expr} {op : CmpOp} {pos : Pos} {A B : Ty ok} {c : Bool} (h : Cm W X op A B c) (ha : PEv W X a δ A) (hb : PEv W X b δ B) (hm : behindInMarks op b = false := by first | exact nomark _ | rfl) : PTv W X (.Compare a [op] [b] pos) δ c := by
  obtain ⟨r, ho, k⟩ := h.ex
  exact PTv.of (pt_cmpR ho peW peW hm) fun σ H Q sl q => ha.run σ H _ sl fun x H1 s1 p1 => hb.run σ H1 _ (sl.same s1) fun y H2 s2 p2 => k H2 x y _ (A.mono s2.rel p1) p2 ⟨c, rfl, q H2 (s1.trans s2)⟩
theorem c_lt {i j : Int} : Cm W X .Lt (D (.int i)) (D (.int j)) (decide (i < j)) := ⟨_, op_lt, fun H x y Q p q k => by
  cases p
  cases q
  exact ⟨_, _, rfl, rfl, k⟩⟩
theorem c_le {i j : Int} : Cm W X .LtE (D (.int i)) (D (.int j)) (decide (i ≤ j)) := ⟨_, op_le, fun H x y Q p q k => by
  cases p
  cases q
  exact ⟨_, _, rfl, rfl, k⟩⟩
theorem c_gt {i j : Int} : Cm W X .Gt (D (.int i)) (D (.int j)) (decide (j < i)) := ⟨_, op_gt, fun H x y Q p q k => by
  cases p
  cases q
  exact ⟨_, _, rfl, rfl, k⟩⟩
theorem c_ge {i j : Int} : Cm W X .GtE (D (.int i)) (D (.int j)) (decide (j ≤ i)) := ⟨_, op_ge, fun H x y Q p q k => by
  cases p
  cases q
  exact ⟨_, _, rfl, rfl, k⟩⟩
/-- ==, != of data -/
theorem c_eq {d e : PyData} (hu : X.A.units + 64 < cLine) (hd : SeqAt.shaped d = true) (he : SeqAt.shaped e = true) : Cm W X .Eq (D d) (D e) (PyData.eqv d e) :=
  ⟨_, op_eqD hu, fun H x y Q p q k => ⟨d, e, R.dp p, R.dp q, hd, he, k⟩⟩
theorem c_ne {d e : PyData} (hu : X.A.units + 64 < cLine) (hd : SeqAt.shaped d = true) (he : SeqAt.shaped e = true) : Cm W X .NotEq (D d) (D e) (!PyData.eqv d e) :=
  ⟨_, op_neD hu, fun H x y Q p q k => ⟨d, e, R.dp p, R.dp q, hd, he, k⟩⟩
def isNone : PyData → Bool
  | .none => true
  | _ => false
theorem isNone_v {H : Hp} {x : V} {d : PyData} (p : R ok H x d) : decide (x = V.non) = isNone d := by
  cases p <;> first | rfl | exact decide_eq_true rfl | exact decide_eq_false (fun e => nomatch e)
theorem c_is {d : PyData} : Cm W X .Is (D d) (D .none) (isNone d) := ⟨_, op_isN, fun H x y Q p q k => by
  cases q
  refine ⟨rfl, ?_⟩
  rw [isNone_v p]
  exact k⟩
theorem c_isnot {d : PyData} : Cm W X .IsNot (D d) (D .none) (!isNone d) := ⟨_, op_notN, fun H x y Q p q k => by
  cases q
  refine ⟨rfl, ?_⟩
  rw [isNone_v p]
  exact k⟩
end
end
end
end Kl
set_option linter.all false
set_option maxRecDepth 100000
set_option maxHeartbeats 4000000
/-! # K2: tests, displays, subscripts, calls -/
namespace Kl
open PySem PySem.Spec PyProof.Rows L2
section
variable {ok : Addr → Prop} {W : Wd ok} {X : Cx} {δ : DEnv ok}

/-! ### tests -/
theorem tval {e : Expr} {b : Bool} (h : PEv W X e δ (D (.bool b))) (he : ∀ whole, isTrue e X.env whole = (do let v ← whole; standAt e.pos; holding [v] (truthy v)) := by intro _; rfl) : PTv W X e δ b :=
  PTv.of (pt_val peW he) fun σ H Q sl q => h.run σ H _ sl fun v H2 s p => by
    cases p
    exact ⟨b, rfl, q H2 s⟩
theorem tnot {a : Expr} {pos : Pos} {b : Bool} (h : PTv W X a δ b) : PTv W X (.UnaryOp .Not a pos) δ (!b) :=
  PTv.of (pt_not ptW) fun σ H Q sl q => h.run σ H _ sl fun H2 s => q H2 s
theorem tw {e : Expr} {b : Bool} (h : PWv W X e δ b) : PTv W X e δ b := ⟨fun σ H Q sl q pins s I => h.run σ H Q sl q _ pins s I⟩
theorem wand1 {a : Expr} {pos : Pos} {b : Bool} (h : PTv W X a δ b) : PWv W X (.BoolOp .And [a] pos) δ b :=
  PWv.of (pw_and1 ptW) fun σ H Q sl q => h.run σ H Q sl q
theorem wor1 {a : Expr} {pos : Pos} {b : Bool} (h : PTv W X a δ b) : PWv W X (.BoolOp .Or [a] pos) δ b :=
  PWv.of (pw_or1 ptW) fun σ H Q sl q => h.run σ H Q sl q
theorem wand {a b : Expr} {rest : List Expr} {pos : Pos} {x y : Bool} (ha : PTv W X a δ x) (hb : x = true → PWv W X (.BoolOp .And (b :: rest) pos) δ y) : PWv W X (.BoolOp .And (a :: b :: rest) pos) δ (x && y) :=
  PWv.of (pw_and ptW pwW) fun σ H Q sl q => ha.run σ H _ sl fun H1 s => by
    cases x with
    | true => exact iteT ((hb rfl).run σ H1 Q (sl.same s) fun H2 s2 => q H2 (s.trans s2))
    | false => exact iteF (q H1 s)
theorem wor {a b : Expr} {rest : List Expr} {pos : Pos} {x y : Bool} (ha : PTv W X a δ x) (hb : x = false → PWv W X (.BoolOp .Or (b :: rest) pos) δ y) : PWv W X (.BoolOp .Or (a :: b :: rest) pos) δ (x || y) :=
  PWv.of (pw_or ptW pwW) fun σ H Q sl q => ha.run σ H _ sl fun H1 s => by
    cases x with
    | true => exact iteT (q H1 s)
    | false => exact iteF ((hb rfl).run σ H1 Q (sl.same s) fun H2 s2 => q H2 (s.trans s2))
/-- as values -/
theorem vone {op : BoolOp} {a : Expr} {pos : Pos} {P : Ty ok} (h : PEv W X a δ P) : PEv W X (.BoolOp op [a] pos) δ P :=
  PEv.of (pe_one peW) fun σ H Q sl q => h.run σ H Q sl q
theorem vand {a b : Expr} {rest : List Expr} {pos : Pos} {x y : Bool} (ha : PEv W X a δ (D (.bool x))) (hb : x = true → PEv W X (.BoolOp .And (b :: rest) pos) δ (D (.bool y))) : PEv W X (.BoolOp .And (a :: b :: rest) pos) δ (D (.bool (x && y))) :=
  PEv.of (pe_and peW peW) fun σ H Q sl q => ha.run σ H _ sl fun v H1 s p => by
    cases p
    refine ⟨x, rfl, ?_⟩
    cases x with
    | true => exact iteT ((hb rfl).run σ H1 Q (sl.same s) fun v H2 s2 p => q v H2 (s.trans s2) p)
    | false => exact iteF (q _ H1 s (.bl _))
theorem vor {a b : Expr} {rest : List Expr} {pos : Pos} {x y : Bool} (ha : PEv W X a δ (D (.bool x))) (hb : x = false → PEv W X (.BoolOp .Or (b :: rest) pos) δ (D (.bool y))) : PEv W X (.BoolOp .Or (a :: b :: rest) pos) δ (D (.bool (x || y))) :=
  PEv.of (pe_or peW peW) fun σ H Q sl q => ha.run σ H _ sl fun v H1 s p => by
    cases p
    refine ⟨x, rfl, ?_⟩
    cases x with
    | true => exact iteT (q _ H1 s (.bl _))
    | false => exact iteF ((hb rfl).run σ H1 Q (sl.same s) fun v H2 s2 p => q v H2 (s.trans s2) p)
theorem vnot {a : Expr} {pos : Pos} {x : Bool} (ha : PEv W X a δ (D (.bool x))) : PEv W X (.UnaryOp .Not a pos) δ (D (.bool (!x))) :=
  PEv.of (pe_not peW) fun σ H Q sl q => ha.run σ H _ sl fun v H1 s p => by
    cases p
    exact ⟨x, rfl, q _ H1 s (.bl _)⟩
theorem vif {c a b : Expr} {pos : Pos} {x : Bool} {P : Ty ok} (hc : PTv W X c δ x) (ha : x = true → PEv W X a δ P) (hb : x = false → PEv W X b δ P) : PEv W X (.IfExp c a b pos) δ P :=
  PEv.of (pe_ifExp ptW peW peW) fun σ H Q sl q => hc.run σ H _ sl fun H1 s => by
    cases x with
    | true => exact iteT ((ha rfl).run σ H1 Q (sl.same s) fun v H2 s2 p => q v H2 (s.trans s2) p)
    | false => exact iteF ((hb rfl).run σ H1 Q (sl.same s) fun v H2 s2 p => q v H2 (s.trans s2) p)
/-- chained -/
theorem tchain {a b c : Expr} {op op' : CmpOp} {pos : Pos} {A B C : Ty ok} {x y : Bool} (h : Cm W X op A B x) (h' : Cm W X op' B C y) (ha : PEv W X a δ A) (hb : PEv W X b δ B) (hc : PEv W X c δ C)
    (hm : behindInMarks op' c = false := by first | exact nomark _ | rfl) : PTv W X (.Compare a [op, op'] [b, c] pos) δ (x && y) := by
  obtain ⟨r, ho, k⟩ := h.ex
  obtain ⟨r', ho', k'⟩ := h'.ex
  refine PTv.of (pt_chain ho ho' peW peW peW hm) fun σ H Q sl q => ha.run σ H _ sl fun u H1 s1 p1 => hb.run σ H1 _ (sl.same s1) fun v H2 s2 p2 => k H2 u v _ (A.mono s2.rel p1) p2 ⟨x, rfl, ?_⟩
  cases x with
  | true => exact iteT (hc.run σ H2 _ ((sl.same s1).same s2) fun z H3 s3 p3 => k' H3 v z _ (B.mono s3.rel p2) p3 ⟨y, rfl, q H3 ((s1.trans s2).trans s3)⟩)
  | false => exact iteF ⟨false, rfl, q H2 (s1.trans s2)⟩

/-! ### arguments, displays -/
theorem anil : PAv W X [] δ [] := PAv.of pa_nil fun _ H _ sl q => q [] H (Le.refl sl.j) .nil
theorem acons {e : Expr} {es : List Expr} {P : Ty ok} {Ps : List (Ty ok)} (h : PEv W X e δ P) (hr : PAv W X es δ Ps) (hs : starEach (e :: es) X.env = (false, eval e X.env) :: starEach es X.env := by rfl) : PAv W X (e :: es) δ (P :: Ps) :=
  PAv.of (pa_cons peW paW hs) fun σ H Q sl q => h.run σ H _ sl fun v H1 s1 p1 => hr.run σ H1 _ (sl.same s1) fun vs H2 s2 p2 => q _ H2 (s1.trans s2) (.cons (P.mono s2.rel p1) p2)
/-- items that are data -/
structure PDv (W : Wd ok) (X : Cx) (es : List Expr) (δ : DEnv ok) (ds : List PyData) : Prop where
  run : PAv W X es δ (ds.map D)
theorem dnil : PDv W X [] δ [] := ⟨anil⟩
theorem dcons {e : Expr} {es : List Expr} {d : PyData} {ds : List PyData} (h : PEv W X e δ (D d)) (hr : PDv W X es δ ds) (hs : starEach (e :: es) X.env = (false, eval e X.env) :: starEach es X.env := by rfl) : PDv W X (e :: es) δ (d :: ds) :=
  ⟨acons h hr.run hs⟩
theorem dstar {e : Expr} {es : List Expr} {p : Pos} {ds es' : List PyData} (h : PEv W X e δ (D (.tuple ds))) (hr : PDv W X es δ es') (hs : starEach (.Starred e p :: es) X.env = (true, eval e X.env) :: starEach es X.env := by rfl) : PDv W X (.Starred e p :: es) δ (ds ++ es') :=
  ⟨PAv.of (StX.pa_star peW paW hs) fun σ H Q sl q => h.run σ H _ sl fun v H1 s1 p1 => by
    cases p1 with
    | @tup a xs _ kh1 h1 r =>
      refine ⟨a, xs, rfl, .inl (.inl h1.rd), hr.run.run σ H1 _ (sl.same s1) fun vs H2 s2 p2 => q _ H2 (s1.trans s2) ?_⟩
      rw [List.map_append]
      exact TyA.append (RA.tya (r.same s2.rel)) p2⟩
theorem vtup {es : List Expr} {x1 : Nat} {pos : Pos} {ds : List PyData} (h : PDv W X es δ ds) (hz : ds.length ≤ sizeLine) : PEv W X (.Tuple es x1 pos) δ (D (.tuple ds)) :=
  PEv.of (pe_tup paW) fun σ H Q sl q => h.run.run σ H _ sl fun vs H1 s1 p1 => by
    have r := p1.ra
    refine ⟨by rw [r.length]; exact hz, fun p hp => q _ _ (s1.trans (le_upd s1.j hp)) (.tup (W.fresh s1.j hp) (.inl upd_same) (r.same (Rel.of (same_upd hp))))⟩
theorem vlst {es : List Expr} {pos : Pos} {ds : List PyData} (h : PDv W X es δ ds) (hz : ds.length ≤ sizeLine) : PEv W X (.List es pos) δ (D (.list ds)) :=
  PEv.of (pe_lst paW) fun σ H Q sl q => h.run.run σ H _ sl fun vs H1 s1 p1 => by
    have r := p1.ra
    refine ⟨by rw [r.length]; exact hz, fun p hp => q _ _ (s1.trans (le_upd s1.j hp)) (.lst (W.fresh s1.j hp) upd_same (r.same (Rel.of (same_upd hp))))⟩
theorem few {n : Nat} (h : n ≤ 10000000) : n ≤ sizeLine := Nat.le_trans h (by rw [sizeLine_eq]; decide)
theorem few' {n : Nat} (h : n ≤ 10000000) : n < sizeLine := Nat.lt_of_le_of_lt h (by rw [sizeLine_eq]; decide)

/-! ### subscripts -/
theorem atI_ra {H : Hp} {vs : List V} {ds : List PyData} {i : Int} {d : PyData} (r : RA ok H vs ds) (h : atI ds i = some d) : ∃ v, atI vs i = some v ∧ R ok H v d := by
  unfold atI at h ⊢
  rw [r.length]
  cases e : ixN ds.length i with
  | none =>
    rw [e] at h
    cases h
  | some j =>
    rw [e] at h
    exact r.at h
theorem vixT {a b : Expr} {pos : Pos} {ds : List PyData} {i : Int} {d : PyData} (ha : PEv W X a δ (D (.tuple ds))) (hb : PEv W X b δ (D (.int i))) (h : atI ds i = some d) (hs : PlainIx b := by intro _ _; rfl) : PEv W X (.Subscript a b pos) δ (D d) :=
  PEv.of (pe_ix ix_tup peW peW hs) fun σ H Q sl q => ha.run σ H _ sl fun x H1 s1 p1 => hb.run σ H1 _ (sl.same s1) fun y H2 s2 p2 => by
    cases p2
    cases p1 with
    | @tup a xs _ kh1 h1 r =>
      obtain ⟨v, hv, rv⟩ := atI_ra (r.same s2.rel) h
      exact ⟨a, xs, i, v, rfl, rfl, (.inl (h1.mono fun o => s2.rel _ o kh1).rd), hv, q v H2 (s1.trans s2) rv⟩
theorem vixL {a b : Expr} {pos : Pos} {ds : List PyData} {i : Int} {d : PyData} (ha : PEv W X a δ (D (.list ds))) (hb : PEv W X b δ (D (.int i))) (h : atI ds i = some d) (hs : PlainIx b := by intro _ _; rfl) : PEv W X (.Subscript a b pos) δ (D d) :=
  PEv.of (pe_ix ix_list peW peW hs) fun σ H Q sl q => ha.run σ H _ sl fun x H1 s1 p1 => hb.run σ H1 _ (sl.same s1) fun y H2 s2 p2 => by
    cases p2
    cases p1 with
    | @lst a xs _ kh1 h1 r =>
      obtain ⟨v, hv, rv⟩ := atI_ra (r.same s2.rel) h
      exact ⟨a, xs, i, v, rfl, rfl, SqL.of (s2.rel _ _ kh1 h1), hv, q v H2 (s1.trans s2) rv⟩

/-! ### calls of built-ins -/
theorem vcb {x : Str} {id : String} {r : List V → Hp → VK → Prop} {e : Expr} {es : List Expr} {p pos : Pos} {Ps : List (Ty ok)} {P : Ty ok} (hc : CallR X (.builtin id) r) (hm : X.mg x = none) (hv : bootBuiltins x = some (.builtin id)) (ha : PAv W X (e :: es) δ Ps)
    (k : ∀ H vs (Q : VK), W.J H → TyA H vs Ps → (∀ v H2, Le W H H2 → P.p H2 v → Q v H2) → r vs H Q) (hg : Gl X x := by rfl) (hn : x ≠ "__name__" := by decide) (hdb : (x == ("__debug__" : Str)) = false := by decide)
    (he : starEach (e :: es) X.env = (false, eval e X.env) :: starEach es X.env := by rfl) (hpl : (backTo pos (starEach es X.env)).any (·.1) = false := by rfl) : PEv W X (.Call (.Name x p) (e :: es) [] pos) δ P :=
  PEv.of (pe_callB hc hg hm hv paW hn hdb he hpl) fun σ H Q sl q => ha.run σ H _ sl fun vs H1 s1 p1 => k H1 vs Q s1.j p1 fun v H2 s2 p2 => q v H2 (s1.trans s2) p2
theorem vct {x : Str} {T : String} {r : List V → Hp → VK → Prop} {e : Expr} {es : List Expr} {p pos : Pos} {Ps : List (Ty ok)} {P : Ty ok} (hc : CallR X (.type T) r) (hm : X.mg x = none) (hv : bootBuiltins x = some (.type T)) (ha : PAv W X (e :: es) δ Ps)
    (k : ∀ H vs (Q : VK), W.J H → TyA H vs Ps → (∀ v H2, Le W H H2 → P.p H2 v → Q v H2) → r vs H Q) (hg : Gl X x := by rfl) (hn : x ≠ "__name__" := by decide) (hdb : (x == ("__debug__" : Str)) = false := by decide)
    (he : starEach (e :: es) X.env = (false, eval e X.env) :: starEach es X.env := by rfl) (hpl : (backTo pos (starEach es X.env)).any (·.1) = false := by rfl) : PEv W X (.Call (.Name x p) (e :: es) [] pos) δ P :=
  PEv.of (pe_callTy hc hg hm hv paW hn hdb he hpl) fun σ H Q sl q => ha.run σ H _ sl fun vs H1 s1 p1 => k H1 vs Q s1.j p1 fun v H2 s2 p2 => q v H2 (s1.trans s2) p2
theorem tya1 {H : Hp} {vs : List V} {d : PyData} (h : TyA H vs [D (ok := ok) d]) : ∃ v, vs = [v] ∧ R ok H v d := by
  cases h with
  | cons h t =>
    cases t
    exact ⟨_, rfl, h⟩
theorem tya2 {H : Hp} {vs : List V} {d e : PyData} (h : TyA H vs [D (ok := ok) d, D e]) : ∃ v u, vs = [v, u] ∧ R ok H v d ∧ R ok H u e := by
  cases h with
  | cons h t =>
    cases t with
    | cons h2 t =>
      cases t
      exact ⟨_, _, rfl, h, h2⟩
theorem vlenT {a : Expr} {p pos : Pos} {ds : List PyData} (hm : X.mg "len" = none) (ha : PEv W X a δ (D (.tuple ds))) (hg : Gl X "len" := by rfl) (hs : starEach [a] X.env = (false, eval a X.env) :: starEach [] X.env := by rfl) : PEv W X (.Call (.Name "len" p) [a] [] pos) δ (D (.int ds.length)) :=
  vcb call_len_seq hm boot_len (acons ha anil hs) (fun H vs Q j h k => by
    obtain ⟨v, rfl, r⟩ := tya1 h
    cases r with
    | @tup b xs _ kh1 h1 r => exact ⟨b, xs, rfl, .inr (.inl h1.rd), by rw [r.length]; exact k _ H (Le.refl j) (.int _)⟩) hg (he := hs)
theorem vlenL {a : Expr} {p pos : Pos} {ds : List PyData} (hm : X.mg "len" = none) (ha : PEv W X a δ (D (.list ds))) (hg : Gl X "len" := by rfl) (hs : starEach [a] X.env = (false, eval a X.env) :: starEach [] X.env := by rfl) : PEv W X (.Call (.Name "len" p) [a] [] pos) δ (D (.int ds.length)) :=
  vcb call_len_seq hm boot_len (acons ha anil hs) (fun H vs Q j h k => by
    obtain ⟨v, rfl, r⟩ := tya1 h
    cases r with
    | @lst b xs _ kh1 h1 r => exact ⟨b, xs, rfl, .inl (SqL.of h1), by rw [r.length]; exact k _ H (Le.refl j) (.int _)⟩) hg (he := hs)
theorem vsum {a : Expr} {p pos : Pos} {ns : List Int} (hc : X.calm = true) (hm : X.mg "sum" = none) (ha : PEv W X a δ (D (.list (ns.map .int)))) (hg : Gl X "sum" := by rfl) (hs : starEach [a] X.env = (false, eval a X.env) :: starEach [] X.env := by rfl) : PEv W X (.Call (.Name "sum" p) [a] [] pos) δ (D (.int ns.sum)) :=
  vcb (cr_sum hc) hm (by decide +kernel) (acons ha anil hs) (fun H vs Q j h k => by
    obtain ⟨v, rfl, r⟩ := tya1 h
    cases r with
    | @lst b xs _ kh1 h1 r =>
      rw [r.ints] at h1
      exact ⟨b, ns, rfl, SqL.of h1, k _ H (Le.refl j) (.int _)⟩) hg (he := hs)
theorem vall {a : Expr} {p pos : Pos} {bs : List Bool} (hc : X.calm = true) (hm : X.mg "all" = none) (ha : PEv W X a δ (D (.list (bs.map .bool)))) (hg : Gl X "all" := by rfl) (hs : starEach [a] X.env = (false, eval a X.env) :: starEach [] X.env := by rfl) : PEv W X (.Call (.Name "all" p) [a] [] pos) δ (D (.bool (bs.all id))) :=
  vcb (cr_all hc) hm (by decide +kernel) (acons ha anil hs) (fun H vs Q j h k => by
    obtain ⟨v, rfl, r⟩ := tya1 h
    cases r with
    | @lst b xs _ kh1 h1 r =>
      rw [r.bools] at h1
      exact ⟨b, bs, rfl, SqL.of h1, k _ H (Le.refl j) (.bl _)⟩) hg (he := hs)
theorem vany {a : Expr} {p pos : Pos} {bs : List Bool} (hc : X.calm = true) (hm : X.mg "any" = none) (ha : PEv W X a δ (D (.list (bs.map .bool)))) (hg : Gl X "any" := by rfl) (hs : starEach [a] X.env = (false, eval a X.env) :: starEach [] X.env := by rfl) : PEv W X (.Call (.Name "any" p) [a] [] pos) δ (D (.bool (bs.any id))) :=
  vcb (cr_any hc) hm (by decide +kernel) (acons ha anil hs) (fun H vs Q j h k => by
    obtain ⟨v, rfl, r⟩ := tya1 h
    cases r with
    | @lst b xs _ kh1 h1 r =>
      rw [r.bools] at h1
      exact ⟨b, bs, rfl, SqL.of h1, k _ H (Le.refl j) (.bl _)⟩) hg (he := hs)
theorem vtupleL {a : Expr} {p pos : Pos} {ds : List PyData} (hm : X.mg "tuple" = none) (ha : PEv W X a δ (D (.list ds))) (hg : Gl X "tuple" := by rfl) (hs : starEach [a] X.env = (false, eval a X.env) :: starEach [] X.env := by rfl) : PEv W X (.Call (.Name "tuple" p) [a] [] pos) δ (D (.tuple ds)) :=
  vct call_tuple_of hm (by decide +kernel) (acons ha anil hs) (fun H vs Q j h k => by
    obtain ⟨v, rfl, r⟩ := tya1 h
    cases r with
    | @lst b xs _ kh1 h1 r => exact ⟨b, xs, rfl, .inl ⟨SqL.of h1, fun l hl => k _ _ (le_upd j hl) (.tup (W.fresh j hl) (.inl upd_same) (r.same (Rel.of (same_upd hl))))⟩⟩) hg (he := hs)
theorem vlistL {a : Expr} {p pos : Pos} {ds : List PyData} (hm : X.mg "list" = none) (ha : PEv W X a δ (D (.list ds))) (hg : Gl X "list" := by rfl) (hs : starEach [a] X.env = (false, eval a X.env) :: starEach [] X.env := by rfl) : PEv W X (.Call (.Name "list" p) [a] [] pos) δ (D (.list ds)) :=
  vct call_list_of hm (by decide +kernel) (acons ha anil hs) (fun H vs Q j h k => by
    obtain ⟨v, rfl, r⟩ := tya1 h
    cases r with
    | @lst b xs _ kh1 h1 r => exact ⟨b, xs, rfl, .inl (SqL.of h1), fun l hl => k _ _ (le_upd j hl) (.lst (W.fresh j hl) upd_same (r.same (Rel.of (same_upd hl))))⟩) hg (he := hs)
theorem vabs {a : Expr} {p pos : Pos} {i : Int} (hm : X.mg "abs" = none) (ha : PEv W X a δ (D (.int i))) (hg : Gl X "abs" := by rfl) (hs : starEach [a] X.env = (false, eval a X.env) :: starEach [] X.env := by rfl) : PEv W X (.Call (.Name "abs" p) [a] [] pos) δ (D (.int (if i < 0 then -i else i))) :=
  vcb call_abs hm (by decide +kernel) (acons ha anil hs) (fun H vs Q j h k => by
    obtain ⟨v, rfl, r⟩ := tya1 h
    cases r
    exact ⟨i, rfl, k _ H (Le.refl j) (.int _)⟩) hg (he := hs)
theorem vintI {a : Expr} {p pos : Pos} {i : Int} (hm : X.mg "int" = none) (ha : PEv W X a δ (D (.int i))) (hg : Gl X "int" := by rfl) (hs : starEach [a] X.env = (false, eval a X.env) :: starEach [] X.env := by rfl) : PEv W X (.Call (.Name "int" p) [a] [] pos) δ (D (.int i)) :=
  vct call_int1 hm (by decide +kernel) (acons ha anil hs) (fun H vs Q j h k => by
    obtain ⟨v, rfl, r⟩ := tya1 h
    cases r
    exact .inl ⟨i, rfl, k _ H (Le.refl j) (.int _)⟩) hg (he := hs)
theorem vintB {a : Expr} {p pos : Pos} {b : Bool} (hm : X.mg "int" = none) (ha : PEv W X a δ (D (.bool b))) (hg : Gl X "int" := by rfl) (hs : starEach [a] X.env = (false, eval a X.env) :: starEach [] X.env := by rfl) : PEv W X (.Call (.Name "int" p) [a] [] pos) δ (D (.int (if b then 1 else 0))) :=
  vct call_int1 hm (by decide +kernel) (acons ha anil hs) (fun H vs Q j h k => by
    obtain ⟨v, rfl, r⟩ := tya1 h
    cases r
    exact .inr ⟨b, rfl, k _ H (Le.refl j) (.int _)⟩) hg (he := hs)
theorem vmin2 {a b : Expr} {p pos : Pos} {i j : Int} (hc : X.calm = true) (hm : X.mg "min" = none) (ha : PEv W X a δ (D (.int i))) (hb : PEv W X b δ (D (.int j))) (hg : Gl X "min" := by rfl)
    (hs : starEach [a, b] X.env = (false, eval a X.env) :: starEach [b] X.env := by rfl) (hs2 : starEach [b] X.env = (false, eval b X.env) :: starEach [] X.env := by rfl) (hpl : (backTo pos (starEach [b] X.env)).any (·.1) = false := by rfl) : PEv W X (.Call (.Name "min" p) [a, b] [] pos) δ (D (.int (if j < i then j else i))) :=
  vcb (call_min2 hc) hm (by decide +kernel) (acons ha (acons hb anil hs2) hs) (fun H vs Q jj h k => by
    obtain ⟨v, u, rfl, r, r'⟩ := tya2 h
    cases r
    cases r'
    exact ⟨i, j, rfl, k _ H (Le.refl jj) (.int _)⟩) hg (he := hs) (hpl := hpl)

/-! ### a def of the text -/
/-- arguments of these kinds are answered by a value of that kind; all that stood stands -/
abbrev Prm := (ok : Addr → Prop) → Wd ok → Wd ok → List (Ty ok) → Ty ok → Prop
def spt (A : Prm) : Sp := fun vs H Q _ => ∃ (ok : Addr → Prop) (W W' : Wd ok) (Ps : List (Ty ok)) (P : Ty ok), W.J H ∧ TyA H vs Ps ∧ A ok W W' Ps P ∧ ∀ v H2, Rel ok H H2 → W'.J H2 → P.p H2 v → Q v H2
structure Df (P : Program) (w : World) (K : PySem.W.Frag) (mg : Str → Option Value) (base : Heap) (k : Nat) (x : Str) (ps : List Str) (sp : Sp) : Prop where
  ex : ∃ (f : Addr) (fd : FuncData), mg x = some (.ref f) ∧ PySem.W.keepIn K (.ref f) = true ∧ Binds K fd ps [] ∧ FnOk P w K mg base CX0 k f fd ps sp
theorem vcall {x : Str} {k : Nat} {ps : List Str} {A : Prm} {e : Expr} {es : List Expr} {p pos : Pos} {Ps : List (Ty ok)} {P : Ty ok} (F : Df X.prog X.w X.K X.mg X.base k x ps (spt A)) (hr : Room k X.A) (ha : PAv W X (e :: es) δ Ps) (h : A ok W W Ps P)
    (hg : Gl X x := by rfl) (hdb : (x == ("__debug__" : Str)) = false := by decide) (he : starEach (e :: es) X.env = (false, eval e X.env) :: starEach es X.env := by rfl) (hpl : (backTo pos (starEach es X.env)).any (·.1) = false := by rfl) :
    PEv W X (.Call (.Name x p) (e :: es) [] pos) δ P := by
  obtain ⟨f, fd, hm, hk, hb, F⟩ := F.ex
  refine PEv.of (pe_call F hr hg hm hk hb .nil pass0 paW hdb he hpl) fun σ H Q sl q => ha.run σ H _ sl fun vs H1 s1 p1 => ?_
  rw [List.append_nil]
  exact ⟨ok, W, W, Ps, P, s1.j, p1, h, fun v H2 s2 j2 p2 => q v H2 (s1.trans ⟨s2, j2⟩) p2⟩
end
end Kl
set_option linter.all false
set_option maxRecDepth 100000
set_option maxHeartbeats 4000000
/-! # K3: targets, what is walked, comprehensions, statements, defs -/
namespace Kl
open PySem PySem.Spec PyProof.Rows L2
section
variable {ok : Addr → Prop} {W : Wd ok} {X : Cx} {δ : DEnv ok}
/-! ### targets -/
theorem out_set {σ : L2.St} {i : Nat} {v : V} : Out [i] σ (σ.set i (some v)) := ⟨List.length_set, fun j h => List.getElem?_set_ne (fun e => h (by rw [e]; exact List.mem_singleton.mpr rfl))⟩
theorem Out.trans {σ σ1 σ2 : L2.St} {a b : List Nat} (h : Out a σ σ1) (k : Out b σ1 σ2) : Out (a ++ b) σ σ2 :=
  ⟨k.1.trans h.1, fun j hj => (k.2 j fun z => hj (List.mem_append_right _ z)).trans (h.2 j fun z => hj (List.mem_append_left _ z))⟩
theorem gname (i : Nat) {x : Str} {pos : Pos} {P : Ty ok} (hN : X.N.Nodup) (hi : X.N[i]? = some x := by rfl) (hx : Loc X.env.scope x := by first | exact Or.inl rfl | exact Or.inr rfl) (hf : X.fn x = true ∨ X.env.scope.names.lookup x = some .local := by first | exact .inl rfl | exact .inr rfl) :
    PGv W X (.Name x pos) δ P (δ.set i (some P)) [i] := PGv.of (pg_name hN hi hx hf) fun v σ H Q sl p q => q _ H (Le.refl sl.j) (sl.set i p) out_set
theorem gsnil : PGsv W X [] δ [] δ [] := PGsv.of pgs_nil fun vs σ H Q sl p q => by
  cases p
  exact ⟨rfl, q σ H (Le.refl sl.j) sl ⟨rfl, fun _ _ => rfl⟩⟩
theorem gscons {e : Expr} {es : List Expr} {P : Ty ok} {Ps : List (Ty ok)} {δ1 δ2 : DEnv ok} {a b : List Nat} (h1 : PGv W X e δ P δ1 a) (h2 : PGsv W X es δ1 Ps δ2 b) (hs : (assignEach (e :: es) X.env).map (·.2) = assign e X.env :: (assignEach es X.env).map (·.2) := by rfl) : PGsv W X (e :: es) δ (P :: Ps) δ2 (a ++ b) :=
  PGsv.of (pgs_cons pgW pgsW hs) fun vs σ H Q sl p q => by
    cases p with
    | cons p ps => exact ⟨_, _, rfl, h1.run _ σ H _ sl p fun σ1 H1 s1 sl1 o1 => h2.run _ σ1 H1 _ sl1 (ps.same s1.rel) fun σ2 H2 s2 sl2 o2 => q σ2 H2 (s1.trans s2) sl2 (o1.trans o2)⟩
theorem gtup {es : List Expr} {k : Nat} {pos : Pos} {ds : List PyData} {δ' : DEnv ok} {n : Nat} {ws : List Nat} (hc : X.calm = true) (h : PGsv W X es δ (ds.map D) δ' ws) (hl : ds.length = n := by rfl) (hn : (assignEach es X.env).length = n := by rfl) (hst : (assignEach es X.env).findIdx? (·.1) = none := by rfl) :
    PGv W X (.Tuple es k pos) δ (D (.tuple ds)) δ' ws := PGv.of (pg_tup hc pgsW hn hst) fun v σ H Q sl p q => by
  cases p with
  | @tup a xs _ kh1 h1 r => exact ⟨a, xs, rfl, .inl h1.rd, by rw [r.length]; exact hl, h.run xs σ H Q sl r.tya q⟩

/-! ### what is walked -/
/-- while G stands J goes through items of these kinds -/
structure Yv (W : Wd ok) (J : It) (G : Hp → Prop) (Ts : List (Ty ok)) : Prop where
  up : ∀ H H', Le W H H' → G H → G H'
  go : ∀ i H, i < Ts.length → W.J H → G H → J.go i H
  stop : ∀ H, W.J H → G H → J.stop Ts.length H
  yld : ∀ i H x H' T, W.J H → G H → J.yld i H x H' → Ts[i]? = some T → Le W H H' ∧ T.p H' x
structure PIv (W : Wd ok) (X : Cx) (tg iter : Expr) (δ : DEnv ok) (Ts : List (Ty ok)) : Prop where
  run : ∀ (σ : L2.St) (H : Hp) (R : It → Hp → Prop), Sl W H σ δ → (∀ J G H1, Le W H H1 → G H1 → (∀ W' : Wd ok, Yv W' J G Ts) → R J H1) → iW X tg iter σ H R
theorem PIv.of {tg iter : Expr} {Ts : List (Ty ok)} {wi : TI} (h : PI X tg iter wi) (k : ∀ σ H R, Sl W H σ δ → (∀ J G H1, Le W H H1 → G H1 → (∀ W' : Wd ok, Yv W' J G Ts) → R J H1) → wi σ H R) : PIv W X tg iter δ Ts :=
  ⟨fun σ H R sl q pins s I => h.run pins s σ H R I (k σ H R sl q)⟩
/-- the same, as long as this world stands -/
structure PIj (W : Wd ok) (X : Cx) (tg iter : Expr) (δ : DEnv ok) (Ts : List (Ty ok)) : Prop where
  run : ∀ (σ : L2.St) (H : Hp) (R : It → Hp → Prop), Sl W H σ δ → (∀ J G H1, Le W H H1 → G H1 → Yv W J G Ts → R J H1) → iW X tg iter σ H R
theorem PIv.j {tg iter : Expr} {Ts : List (Ty ok)} (h : PIv W X tg iter δ Ts) : PIj W X tg iter δ Ts := ⟨fun σ H R sl q => h.run σ H R sl fun J G H1 s1 g1 y => q J G H1 s1 g1 (y W)⟩
theorem PIj.of {tg iter : Expr} {Ts : List (Ty ok)} {wi : TI} (h : PI X tg iter wi) (k : ∀ σ H R, Sl W H σ δ → (∀ J G H1, Le W H H1 → G H1 → Yv W J G Ts → R J H1) → wi σ H R) : PIj W X tg iter δ Ts :=
  ⟨fun σ H R sl q pins s I => h.run pins s σ H R I (k σ H R sl q)⟩
theorem tya_get {H : Hp} {vs : List V} {Ts : List (Ty ok)} {i : Nat} {T : Ty ok} {x : V} (r : TyA H vs Ts) (hx : vs[i]? = some x) (hT : Ts[i]? = some T) : T.p H x := by
  obtain ⟨v, e, p⟩ := r.at hT
  rw [hx] at e
  cases e
  exact p
theorem yv_tup {K : PySem.W.Frag} {a : Addr} {vs : List V} {Ts : List (Ty ok)} {H0 : Hp} (ka : ok a) (r : TyA H0 vs Ts) : Yv W (Itt K a) (fun H => Rel ok H0 H ∧ Rd H a (.tup vs)) Ts where
  up := fun H H' s g => ⟨g.1.trans s.rel, rdm g.2 fun o => s.rel _ o ka⟩
  go := fun i H hi _ g => by
    have hl : i < vs.length := by rw [r.length]; exact hi
    exact ⟨vs, vs[i], .inl g.2, List.getElem?_eq_getElem hl⟩
  stop := fun H _ g => ⟨vs, .inl g.2, by rw [r.length]; exact Nat.le_refl _⟩
  yld := fun i H x H' T j g y hT => by
    obtain ⟨rfl, y⟩ := y
    exact ⟨Le.refl j, T.mono g.1 (tya_get r (y vs (.inl g.2)) hT)⟩
theorem yv_lst {K : PySem.W.Frag} {a : Addr} {vs : List V} {Ts : List (Ty ok)} {H0 : Hp} (ka : ok a) (r : TyA H0 vs Ts) : Yv W (Itl K a) (fun H => Rel ok H0 H ∧ H a = some (.lst vs)) Ts where
  up := fun H H' s g => ⟨g.1.trans s.rel, s.rel _ _ ka g.2⟩
  go := fun i H hi _ g => by
    have hl : i < vs.length := by rw [r.length]; exact hi
    exact ⟨vs, vs[i], SqL.of g.2, List.getElem?_eq_getElem hl⟩
  stop := fun H _ g => ⟨vs, SqL.of g.2, by rw [r.length]; exact Nat.le_refl _⟩
  yld := fun i H x H' T j g y hT => by
    obtain ⟨rfl, y⟩ := y
    exact ⟨Le.refl j, T.mono g.1 (tya_get r (y vs (SqL.of g.2)) hT)⟩
theorem iT {tg e : Expr} {ds : List PyData} (h : PEv W X e δ (D (.tuple ds))) : PIv W X tg e δ (ds.map D) := PIv.of (pi_tup peW) fun σ H R sl q => h.run σ H _ sl fun v H1 s1 p1 => by
  cases p1 with
  | @tup a xs _ ka h1 r => exact ⟨a, rfl, ⟨xs, .inl h1.rd⟩, q _ _ H1 s1 ⟨Rel.refl _, h1.rd⟩ (fun _ => yv_tup ka r.tya)⟩
theorem iL {tg e : Expr} {ds : List PyData} (h : PEv W X e δ (D (.list ds))) : PIv W X tg e δ (ds.map D) := PIv.of (pi_list peW) fun σ H R sl q => h.run σ H _ sl fun v H1 s1 p1 => by
  cases p1 with
  | @lst a xs _ ka h1 r => exact ⟨a, rfl, ⟨xs, SqL.of h1⟩, q _ _ H1 s1 ⟨Rel.refl _, h1⟩ (fun _ => yv_lst ka r.tya)⟩
/-- a list of values of these kinds -/
def Ls (Ps : List (Ty ok)) : Ty ok := ⟨fun H v => ∃ a vs, v = .ref a ∧ ok a ∧ H a = some (.lst vs) ∧ TyA H vs Ps, fun e ⟨a, vs, h1, ka, h2, h3⟩ => ⟨a, vs, h1, ka, e _ _ ka h2, h3.same e⟩⟩
theorem Ls.d {ds : List PyData} {H : Hp} {v : V} (h : (Ls (ok := ok) (ds.map D)).p H v) : (D (ok := ok) (.list ds)).p H v := by
  obtain ⟨a, vs, rfl, ka, h1, h2⟩ := h
  exact R.lst ka h1 h2.ra
theorem iLs {tg e : Expr} {Ps : List (Ty ok)} (h : PEv W X e δ (Ls Ps)) : PIv W X tg e δ Ps := PIv.of (pi_list peW) fun σ H R sl q => h.run σ H _ sl fun v H1 s1 p1 => by
  obtain ⟨a, vs, rfl, ka, h1, r⟩ := p1
  exact ⟨a, rfl, ⟨vs, SqL.of h1⟩, q _ _ H1 s1 ⟨Rel.refl _, h1⟩ (fun _ => yv_lst ka r)⟩
theorem yv_rng {n : Nat} : Yv W (Itr 0 n) (fun _ => True) ((List.range n).map fun i => D (ok := ok) (.int (i : Nat))) where
  up := fun _ _ _ _ => trivial
  go := fun i H hi _ _ => by
    show i < n
    simpa using hi
  stop := fun H _ _ => by simp [Itr]
  yld := fun i H x H' T j _ y hT => by
    obtain ⟨rfl, rfl⟩ := y
    rw [List.getElem?_map] at hT
    cases e : (List.range n)[i]? with
    | none =>
      rw [e] at hT
      cases hT
    | some j =>
      rw [e] at hT
      cases hT
      obtain ⟨hi, e⟩ := List.getElem?_eq_some_iff.mp e
      rw [List.getElem_range] at e
      subst e
      rw [Int.zero_add]
      exact ⟨Le.refl j, .int _⟩
theorem iRng {tg a : Expr} {p pos : Pos} {n : Nat} (hm : X.mg "range" = none) (ha : PEv W X a δ (D (.int (n : Nat)))) (hz : n ≤ 10000000) (hg : Gl X "range" := by rfl) (hs : starEach [a] X.env = [(false, eval a X.env)] := by rfl) :
    PIv W X tg (.Call (.Name "range" p) [a] [] pos) δ ((List.range n).map fun i => D (.int (i : Nat))) := PIv.of (pi_range1 hg hm paW hs) fun σ H R sl q => (acons ha anil hs).run σ H _ sl fun vs H1 s1 p1 => by
  obtain ⟨v, rfl, r⟩ := tya1 p1
  cases r
  refine ⟨(n : Nat), rfl, by omega, by omega, ?_⟩
  rw [Int.toNat_natCast]
  exact q _ _ H1 s1 trivial fun _ => yv_rng
/-- enumerate of a list -/
theorem yv_enum {K : PySem.W.Frag} {a : Addr} {vs : List V} {ds : List PyData} {H0 : Hp} (ka : ok a) (r : RA ok H0 vs ds) : Yv W (Ite K a) (fun H => Rel ok H0 H ∧ H a = some (.lst vs)) (ds.zipIdx.map fun p => D (ok := ok) (.tuple [.int (p.2 : Nat), p.1])) where
  up := fun H H' s g => ⟨g.1.trans s.rel, s.rel _ _ ka g.2⟩
  go := fun i H hi _ g => by
    have hl : i < vs.length := by rw [r.length]; simpa using hi
    exact ⟨vs, vs[i], SqL.of g.2, List.getElem?_eq_getElem hl⟩
  stop := fun H _ g => ⟨vs, SqL.of g.2, by rw [r.length]; simp⟩
  yld := fun i H x H' T j g y hT => by
    obtain ⟨t, u, rfl, nt, rfl, y⟩ := y
    have hx := y vs (SqL.of g.2)
    rw [List.getElem?_map, List.getElem?_zipIdx] at hT
    obtain ⟨d, hd, rd⟩ := r.at' hx
    rw [hd] at hT
    cases hT
    refine ⟨le_upd j nt, R.tup (W.fresh j nt) (.inl upd_same) (.cons ?_ (.cons (rd.same (g.1.trans (Rel.of (same_upd nt)))) .nil))⟩
    show R ok _ (V.int ((i : Nat) : Int)) (.int ((0 + i : Nat) : Int))
    rw [Nat.zero_add]
    exact .int _
theorem iEnL {e : Expr} {elts : List Expr} {kk : Nat} {p pos tpos : Pos} {ds : List PyData} (hm : X.mg "enumerate" = none) (h : PEv W X e δ (D (.list ds))) (hg : Gl X "enumerate" := by rfl) (hs : starEach [e] X.env = [(false, eval e X.env)] := by rfl) :
    PIv W X (.Tuple elts kk tpos) (.Call (.Name "enumerate" p) [e] [] pos) δ (ds.zipIdx.map fun p => D (.tuple [.int (p.2 : Nat), p.1])) := PIv.of (pi_enum hg hm paW hs) fun σ H R sl q => (acons h anil hs).run σ H _ sl fun vs H1 s1 p1 => by
  obtain ⟨v, rfl, r⟩ := tya1 p1
  cases r with
  | @lst a xs _ ka h1 r => exact ⟨a, xs, rfl, SqL.of h1, q _ _ H1 s1 ⟨Rel.refl _, h1⟩ (fun _ => yv_enum ka r)⟩
/-- zip of two tuples of data, of two lists -/
theorem yv_zipT {K : PySem.W.Frag} {a b : Addr} {vs us : List V} {ds es : List PyData} {H0 : Hp} (ka : ok a) (kb : ok b) (r : RA ok H0 vs ds) (r' : RA ok H0 us es) : Yv W (RZ.ItzT K a b) (fun H => Rel ok H0 H ∧ Rd H a (.tup vs) ∧ Rd H b (.tup us)) ((ds.zip es).map fun p => D (ok := ok) (.tuple [p.1, p.2])) where
  up := fun H H' s g => ⟨g.1.trans s.rel, rdm g.2.1 fun o => s.rel _ o ka, rdm g.2.2 fun o => s.rel _ o kb⟩
  go := fun i H hi _ g => by
    rw [List.length_map, List.length_zip] at hi
    have h1 : i < vs.length := by rw [r.length]; omega
    have h2 : i < us.length := by rw [r'.length]; omega
    exact ⟨vs, us, vs[i], us[i], .inl g.2.1, .inl g.2.2, List.getElem?_eq_getElem h1, List.getElem?_eq_getElem h2⟩
  stop := fun H _ g => ⟨vs, us, .inl g.2.1, .inl g.2.2, by
    rw [r.length, r'.length, List.length_map, List.length_zip]
    omega⟩
  yld := fun i H x H' T j g y hT => by
    obtain ⟨t, u, u', rfl, nt, rfl, y, y'⟩ := y
    obtain ⟨d, hd, rd⟩ := r.at' (y vs (.inl g.2.1))
    obtain ⟨d', hd', rd'⟩ := r'.at' (y' us (.inl g.2.2))
    rw [List.getElem?_map, (List.getElem?_zip_eq_some (z := (d, d'))).mpr ⟨hd, hd'⟩] at hT
    cases hT
    exact ⟨le_upd j nt, R.tup (W.fresh j nt) (.inl upd_same) (.cons (rd.same (g.1.trans (Rel.of (same_upd nt)))) (.cons (rd'.same (g.1.trans (Rel.of (same_upd nt)))) .nil))⟩
theorem yv_zipL {K : PySem.W.Frag} {a b : Addr} {vs us : List V} {ds es : List PyData} {H0 : Hp} (ka : ok a) (kb : ok b) (r : RA ok H0 vs ds) (r' : RA ok H0 us es) : Yv W (Itz K a b) (fun H => Rel ok H0 H ∧ H a = some (.lst vs) ∧ H b = some (.lst us)) ((ds.zip es).map fun p => D (ok := ok) (.tuple [p.1, p.2])) where
  up := fun H H' s g => ⟨g.1.trans s.rel, s.rel _ _ ka g.2.1, s.rel _ _ kb g.2.2⟩
  go := fun i H hi _ g => by
    rw [List.length_map, List.length_zip] at hi
    have h1 : i < vs.length := by rw [r.length]; omega
    have h2 : i < us.length := by rw [r'.length]; omega
    exact ⟨vs, us, vs[i], us[i], SqL.of g.2.1, SqL.of g.2.2, List.getElem?_eq_getElem h1, List.getElem?_eq_getElem h2⟩
  stop := fun H _ g => ⟨vs, us, SqL.of g.2.1, SqL.of g.2.2, by
    rw [r.length, r'.length, List.length_map, List.length_zip]
    omega⟩
  yld := fun i H x H' T j g y hT => by
    obtain ⟨t, u, u', rfl, nt, rfl, y, y'⟩ := y
    obtain ⟨d, hd, rd⟩ := r.at' (y vs (SqL.of g.2.1))
    obtain ⟨d', hd', rd'⟩ := r'.at' (y' us (SqL.of g.2.2))
    rw [List.getElem?_map, (List.getElem?_zip_eq_some (z := (d, d'))).mpr ⟨hd, hd'⟩] at hT
    cases hT
    exact ⟨le_upd j nt, R.tup (W.fresh j nt) (.inl upd_same) (.cons (rd.same (g.1.trans (Rel.of (same_upd nt)))) (.cons (rd'.same (g.1.trans (Rel.of (same_upd nt)))) .nil))⟩
theorem iZip {e e2 : Expr} {elts : List Expr} {kk : Nat} {p pos tpos : Pos} {ds es : List PyData} (hm : X.mg "zip" = none) (h : (PEv W X e δ (D (.tuple ds)) ∧ PEv W X e2 δ (D (.tuple es))) ∨ (PEv W X e δ (D (.list ds)) ∧ PEv W X e2 δ (D (.list es)))) (hg : Gl X "zip" := by rfl)
    (hs : starEach [e, e2] X.env = (false, eval e X.env) :: starEach [e2] X.env := by rfl) (hs2 : starEach [e2] X.env = (false, eval e2 X.env) :: starEach [] X.env := by rfl) (hpl : (backTo pos (starEach [e2] X.env)).any (·.1) = false := by rfl) :
    PIv W X (.Tuple elts kk tpos) (.Call (.Name "zip" p) [e, e2] [] pos) δ ((ds.zip es).map fun p => D (.tuple [p.1, p.2])) := PIv.of (RZ.pi_zipA hg hm paW hs hpl) fun σ H R sl q => by
  rcases h with ⟨h1, h2⟩ | ⟨h1, h2⟩
  · refine (acons h1 (acons h2 anil hs2) hs).run σ H _ sl fun vs H1 s1 p1 => ?_
    obtain ⟨v, u, rfl, r, r'⟩ := tya2 p1
    cases r with
    | @tup a xs _ ka g1 r =>
      cases r' with
      | @tup b ys _ kb g2 r' => exact ⟨a, b, xs, ys, rfl, .inr ⟨.inl g1.rd, .inl g2.rd, q _ _ H1 s1 ⟨Rel.refl _, g1.rd, g2.rd⟩ (fun _ => yv_zipT ka kb r r')⟩⟩
  · refine (acons h1 (acons h2 anil hs2) hs).run σ H _ sl fun vs H1 s1 p1 => ?_
    obtain ⟨v, u, rfl, r, r'⟩ := tya2 p1
    cases r with
    | @lst a xs _ ka g1 r =>
      cases r' with
      | @lst b ys _ kb g2 r' => exact ⟨a, b, xs, ys, rfl, .inl ⟨SqL.of g1, SqL.of g2, q _ _ H1 s1 ⟨Rel.refl _, g1, g2⟩ (fun _ => yv_zipL ka kb r r')⟩⟩

/-! ### comprehensions -/
/-- it does not lean on a list that may still change -/
def Nol (P : Ty ok) : Prop := ∀ (H : Hp) (a : Addr) (xs ys : List V) (v : V), H a = some (.lst xs) → P.p H v → P.p (upd H a (.lst ys)) v
theorem sameT_lst {H : Hp} {a : Addr} {xs ys : List V} (h : H a = some (.lst xs)) : SameT H (upd H a (.lst ys)) := fun b us ds e => e.mono fun o z => by
  rw [upd_ne (e.neL h)]
  exact z
theorem nol_imm {d : PyData} (h : imm d = true) : Nol (D (ok := ok) d) := fun H a xs ys v e p => R.sameT (sameT_lst e) h p
theorem tya_nol {H : Hp} {a : Addr} {xs ys : List V} (e : H a = some (.lst xs)) : ∀ {vs : List V} {Ps : List (Ty ok)}, (∀ P ∈ Ps, Nol P) → TyA H vs Ps → TyA (upd H a (.lst ys)) vs Ps
  | _, _, _, .nil => .nil
  | _, _, h, .cons p t => .cons (h _ List.mem_cons_self _ _ _ _ _ e p) (tya_nol e (fun P hP => h P (List.mem_cons_of_mem _ hP)) t)
/-- a turn of a block's environment -/
abbrev BlkAll (X : Cx) (scope : Scope) (F : Cx → Prop) : Prop := ∀ (s : Shared) (H : Hp) (C : Addr) (cl : List (Str × Addr)) (fp : List Addr), F (X.blk s H scope (compEnvC scope cl C X.env) fp)
section
variable {α : Type} {elt tg iter : Expr} {ifs : List Expr} {scope : Scope} {own : List (Str × Nat)} {pos : Pos}
def gAll (X : Cx) (scope : Scope) (tg : Expr) : TG := fun v σ H Q => BlkAll X scope fun Y => gW Y tg v σ H Q
def qAll (X : Cx) (scope : Scope) (ifs : List Expr) : TT := fun σ H Q => BlkAll X scope fun Y => qW Y ifs σ H Q
def eAll (X : Cx) (scope : Scope) (elt : Expr) : TE := fun σ H Q => BlkAll X scope fun Y => tW Y elt σ H Q
theorem pgAll (s : Shared) (H : Hp) (C : Addr) (cl : List (Str × Addr)) (fp : List Addr) : PG (X.blk s H scope (compEnvC scope cl C X.env) fp) tg (gAll X scope tg) := ⟨fun pins s' σ' H' v u Q I r h => h s H C cl fp pins s' u I r⟩
theorem pqAll (s : Shared) (H : Hp) (C : Addr) (cl : List (Str × Addr)) (fp : List Addr) : PTs (X.blk s H scope (compEnvC scope cl C X.env) fp) ifs (qAll X scope ifs) := ⟨fun pins s' σ' H' Q I h => h s H C cl fp pins s' I⟩
theorem peAll (s : Shared) (H : Hp) (C : Addr) (cl : List (Str × Addr)) (fp : List Addr) : PE (X.blk s H scope (compEnvC scope cl C X.env) fp) elt (eAll X scope elt) := ⟨fun pins s' σ' H' Q I h => h s H C cl fp pins s' I⟩
/-- what a turn of a list comprehension does: the item's kind, whether it is kept, what is made of it -/
structure Turn1 (W : Wd ok) (X : Cx) (scope : Scope) (ow : List Nat) (δ : DEnv ok) (elt tg : Expr) (ifs : List Expr) (T : Ty ok) (b : Bool) (P : Ty ok) : Prop where
  ex : ∃ (δ' : DEnv ok) (ws : List Nat), (∀ i ∈ ws, i ∈ ow) ∧ (BlkAll X scope fun Y => PGv W Y tg (wipeE δ ow) T δ' ws) ∧ (BlkAll X scope fun Y => PQv W Y ifs δ' b) ∧ (b = true → BlkAll X scope fun Y => PEv W Y elt δ' P)
  nol : b = true → Nol P
theorem wipe_at {σ : L2.St} {i : Nat} : ∀ {vs : List Nat}, i ∈ vs → i < σ.length → (wipe σ vs)[i]? = some none
  | v :: vs, h, hl => by
    unfold wipe
    by_cases e : v = i
    · subst e
      exact List.getElem?_set_self (by rw [wipe_length]; exact hl)
    · rw [List.getElem?_set_ne e]
      exact wipe_at ((List.mem_cons.mp h).resolve_left fun z => e z.symm) hl
theorem wipe_eq {σ σ' : L2.St} {ws vs : List Nat} (o : Out ws σ σ') (h : ∀ i ∈ ws, i ∈ vs) : wipe σ' vs = wipe σ vs := by
  refine List.ext_getElem? fun i => ?_
  by_cases hi : i ∈ vs
  · by_cases hl : i < σ.length
    · rw [wipe_at hi hl, wipe_at hi (by rw [o.1]; exact hl)]
    · rw [List.getElem?_eq_none (by rw [wipe_length, o.1]; omega), List.getElem?_eq_none (by rw [wipe_length]; omega)]
  · rw [wipe_out hi, wipe_out hi]
    exact o.2 i fun z => hi (h i z)
theorem wipe_wipe {σ : L2.St} {vs : List Nat} : wipe (wipe σ vs) vs = wipe σ vs := by
  refine List.ext_getElem? fun i => ?_
  by_cases hi : i ∈ vs
  · by_cases hl : i < σ.length
    · rw [wipe_at hi hl, wipe_at hi (by rw [wipe_length]; exact hl)]
    · rw [List.getElem?_eq_none (by rw [wipe_length, wipe_length]; omega), List.getElem?_eq_none (by rw [wipe_length]; omega)]
  · rw [wipe_out hi]
/-- what is kept of so many turns -/
def kept (Ps : List (Bool × Ty ok)) : List (Ty ok) := (Ps.filter (·.1)).map (·.2)
theorem kept_len (Ps : List (Bool × Ty ok)) : (kept Ps).length ≤ Ps.length := by
  unfold kept
  rw [List.length_map]
  exact List.length_filter_le _ _
theorem vlc_read {Ts : List (Ty ok)} {Ps : List (Bool × Ty ok)} {ow : List Nat} (hl : Ps.length = Ts.length) (hz : Ts.length ≤ 10000000) (hi : PIj W X tg iter δ Ts)
    (ht : ∀ (i : Nat) (T : Ty ok) (b : Bool) (P : Ty ok), Ts[i]? = some T → Ps[i]? = some (b, P) → Turn1 W X scope ow δ elt tg ifs T b P) {σ : L2.St} {H : Hp} {Q : VK} (sl : Sl W H σ δ) (q : ∀ v H2, Le W H H2 → (Ls (kept Ps)).p H2 v → Q v H2) :
    tLc (iW X tg iter) (gAll X scope tg) (qAll X scope ifs) (eAll X scope elt) ow σ H Q := by
  refine hi.run σ H _ sl fun J G H1 s1 g1 y => ?_
  intro L hL
  have kL : ok L := W.fresh s1.j hL
  have nolAll : ∀ n, ∀ P ∈ kept (Ps.take n), Nol P := fun n P hP => by
    obtain ⟨⟨b, P'⟩, hm, rfl⟩ := List.mem_map.mp hP
    obtain ⟨hm, hb⟩ := List.mem_filter.mp hm
    obtain ⟨i, hi'⟩ := List.getElem?_of_mem (List.mem_of_mem_take hm)
    have hlt : i < Ts.length := by rw [← hl]; exact (List.getElem?_eq_some_iff.mp hi').1
    exact (ht i Ts[i] b P' (List.getElem?_eq_getElem hlt) hi').nol hb
  refine ⟨fun i m H' => i + m = Ts.length ∧ Le W H1 H' ∧ ∃ vs, H' L = some (.lst vs) ∧ TyA H' vs (kept (Ps.take i)), ⟨Ts.length, Nat.zero_add _, le_upd s1.j hL, [], upd_same, .nil⟩, ?_⟩
  rintro i m H' ⟨hm, s2, vs, h2, r2⟩
  have gH : G H' := y.up _ _ s2 g1
  by_cases hlt : i < Ts.length
  · refine .inr ⟨y.go i H' hlt s2.j gH, fun H3 => (i + 1) + (m - 1) = Ts.length ∧ Le W H1 H3 ∧ ∃ vs, H3 L = some (.lst vs) ∧ TyA H3 vs (kept (Ps.take (i + 1))), fun H3 h3 => ⟨m - 1, by omega, h3⟩, fun x H3 hy => ?_⟩
    have hT : Ts[i]? = some Ts[i] := List.getElem?_eq_getElem hlt
    have hlP : i < Ps.length := by rw [hl]; exact hlt
    obtain ⟨s3, p3⟩ := y.yld i H' x H3 Ts[i] s2.j gH hy hT
    have hP : Ps[i]? = some Ps[i] := List.getElem?_eq_getElem hlP
    generalize hbp : Ps[i] = bp at hP
    obtain ⟨b, P⟩ := bp
    have tr := ht i Ts[i] b P hT hP
    obtain ⟨δ', ws, how, hg, hq, he⟩ := tr.ex
    have ek : kept (Ps.take (i + 1)) = kept (Ps.take i) ++ (if b = true then [P] else []) := by
      unfold kept
      rw [List.take_add_one, hP, List.filter_append, List.map_append]
      cases b <;> rfl
    have slw := (((sl.same s1).same s2).same s3).wipe (ow)
    intro sb Hb C cl fp
    refine (hg sb Hb C cl fp).run x _ H3 _ slw p3 fun σ4 H4 s4 sl4 o4 => ?_
    refine ⟨(wipe_eq o4 how).trans wipe_wipe, fun sb Hb C cl fp => ?_⟩
    refine (hq sb Hb C cl fp).run σ4 H4 _ sl4 fun H5 s5 => ?_
    have s25 := (s3.trans s4).trans s5
    cases b with
    | false =>
      refine iteF ⟨by omega, s2.trans s25, vs, s25.rel _ _ kL h2, ?_⟩
      rw [ek]
      show TyA H5 vs (kept (Ps.take i) ++ [])
      rw [List.append_nil]
      exact r2.same s25.rel
    | true =>
      refine iteT fun sb Hb C cl fp => ?_
      refine (he rfl sb Hb C cl fp).run σ4 H5 _ (sl4.same s5) fun v H6 s6 p6 => ?_
      have s26 := s25.trans s6
      have h6 := s26.rel _ _ kL h2
      refine ⟨vs, h6, ?_, ⟨by omega, ⟨fun c o z e => ?_, W.loc (s2.trans s26).j (fun c o z no e => by
        rw [upd_ne (fun z => by
          subst z
          rw [h6] at e
          cases e
          exact no.1 _ rfl)]
        exact e) fun c hc => upd_ne fun z => hc (z ▸ kL)⟩, _, upd_same, ?_⟩⟩
      · rw [r2.length]
        have := kept_len (Ps.take i)
        rw [List.length_take] at this
        exact few' (by omega)
      · rw [upd_ne (ne_of_none e hL)]
        exact s26.rel _ _ z (s2.rel _ _ z e)
      · rw [ek]
        refine TyA.append (tya_nol h6 (nolAll i) (r2.same s26.rel)) ?_
        exact .cons (tr.nol rfl _ _ _ _ _ h6 p6) .nil
  · have e : i = Ts.length := by omega
    subst e
    refine .inl ⟨y.stop H' s2.j gH, q _ H' (s1.trans s2) ⟨L, vs, rfl, kL, h2, ?_⟩⟩
    rw [← hl, List.take_length] at r2
    exact r2
theorem vlcJ {Ts : List (Ty ok)} {Ps : List (Bool × Ty ok)} (hc : X.calm = true) (hN : X.N.Nodup) (bk : BlkOk X.N X.env.scope scope own) (hi : PIj W X tg iter δ Ts) (hl : Ps.length = Ts.length) (hz : Ts.length ≤ 10000000)
    (ht : ∀ (i : Nat) (T : Ty ok) (b : Bool) (P : Ty ok), Ts[i]? = some T → Ps[i]? = some (b, P) → Turn1 W X scope (own.map (·.2)) δ elt tg ifs T b P) (hs : ∀ x, foldedSetIterable iter X.env x = pure x := by intro _; rfl) : PEv W X (.ListComp elt [⟨tg, iter, ifs, 0⟩] scope pos) δ (Ls (kept Ps)) :=
  PEv.of (pe_lc hc hN piW bk pgAll pqAll peAll hs) fun σ H Q sl q => vlc_read hl hz hi ht sl q
theorem vlc {Ts : List (Ty ok)} {Ps : List (Bool × Ty ok)} (hc : X.calm = true) (hN : X.N.Nodup) (bk : BlkOk X.N X.env.scope scope own) (hi : PIv W X tg iter δ Ts) (hl : Ps.length = Ts.length) (hz : Ts.length ≤ 10000000)
    (ht : ∀ (i : Nat) (T : Ty ok) (b : Bool) (P : Ty ok), Ts[i]? = some T → Ps[i]? = some (b, P) → Turn1 W X scope (own.map (·.2)) δ elt tg ifs T b P) (hs : ∀ x, foldedSetIterable iter X.env x = pure x := by intro _; rfl) : PEv W X (.ListComp elt [⟨tg, iter, ifs, 0⟩] scope pos) δ (Ls (kept Ps)) := vlcJ hc hN bk hi.j hl hz ht hs
end
end
end Kl
set_option linter.all false
set_option maxRecDepth 100000
set_option maxHeartbeats 4000000
/-! # K4: typed comprehensions, statements, defs -/
namespace Kl
open PySem PySem.Spec PyProof.Rows L2
section
variable {ok : Addr → Prop} {W : Wd ok} {X : Cx} {δ : DEnv ok}
theorem qnil : PQv W X [] δ true := PQv.of pts_nil fun σ H Q sl q => q H (Le.refl sl.j)
theorem qone {c : Expr} {b : Bool} (h : PTv W X c δ b) : PQv W X [c] δ b := PQv.of (pts_one ptW) fun σ H Q sl q => h.run σ H Q sl q
section
variable {α : Type} {elt tg iter : Expr} {ifs : List Expr} {scope : Scope} {own : List (Str × Nat)} {pos : Pos}
theorem kept_map (xs : List α) (p : α → Bool) (f : α → Ty ok) : kept (xs.map fun x => (p x, f x)) = (xs.filter p).map f := by
  unfold kept
  induction xs with
  | nil => rfl
  | cons x xs ih =>
    rw [List.map_cons, List.filter_cons, List.filter_cons]
    cases p x with
    | true =>
      rw [if_pos rfl, if_pos rfl, List.map_cons, ih]
      rfl
    | false =>
      rw [if_neg Bool.false_ne_true, if_neg Bool.false_ne_true, ih]
theorem filter_tt {β : Type} : ∀ xs : List β, xs.filter (fun _ => true) = xs
  | [] => rfl
  | x :: xs => by rw [List.filter_cons, if_pos rfl, filter_tt xs]
/-- a turn over a typed item -/
abbrev TurnD (W : Wd ok) (X : Cx) (scope : Scope) (own : List (Str × Nat)) (δ : DEnv ok) (elt tg : Expr) (ifs : List Expr) (T : Ty ok) (b : Bool) (P : Ty ok) : Prop := Turn1 W X scope (own.map (·.2)) δ elt tg ifs T b P
theorem vlcP (xs : List α) (tx : α → Ty ok) (p : α → Bool) (f : α → Ty ok) (hc : X.calm = true) (hN : X.N.Nodup) (bk : blkC X.N X.env.scope scope own = true) (hi : PIv W X tg iter δ (xs.map tx)) (hz : xs.length ≤ 10000000)
    (ht : ∀ x ∈ xs, TurnD W X scope own δ elt tg ifs (tx x) (p x) (f x)) (hs : ∀ x, foldedSetIterable iter X.env x = pure x := by intro _; rfl) : PEv W X (.ListComp elt [⟨tg, iter, ifs, 0⟩] scope pos) δ (Ls ((xs.filter p).map f)) := by
  have h := vlc (Ts := xs.map tx) (Ps := xs.map fun x => (p x, f x)) (elt := elt) (pos := pos) hc hN (blkOk_by bk) hi (by rw [List.length_map, List.length_map]) (by rw [List.length_map]; exact hz) (fun i T b P h1 h2 => by
    rw [List.getElem?_map] at h1 h2
    cases e : xs[i]? with
    | none =>
      rw [e] at h1
      cases h1
    | some x =>
      rw [e] at h1 h2
      cases h1
      cases h2
      exact ht x (List.mem_of_getElem? e)) hs
  rw [kept_map] at h
  exact h
theorem vlcD (xs : List α) (tx : α → Ty ok) (p : α → Bool) (f : α → PyData) (hc : X.calm = true) (hN : X.N.Nodup) (bk : blkC X.N X.env.scope scope own = true) (hi : PIv W X tg iter δ (xs.map tx)) (hz : xs.length ≤ 10000000)
    (ht : ∀ x ∈ xs, TurnD W X scope own δ elt tg ifs (tx x) (p x) (D (f x))) (hs : ∀ x, foldedSetIterable iter X.env x = pure x := by intro _; rfl) : PEv W X (.ListComp elt [⟨tg, iter, ifs, 0⟩] scope pos) δ (D (.list ((xs.filter p).map f))) := by
  have h := vlcP xs tx p (fun x => D (f x)) hc hN bk hi hz ht hs (pos := pos)
  refine h.sub fun H v z => Ls.d ?_
  rw [List.map_map]
  exact z
/-- all are kept -/
theorem vlcA (xs : List α) (tx : α → Ty ok) (f : α → PyData) (hc : X.calm = true) (hN : X.N.Nodup) (bk : blkC X.N X.env.scope scope own = true) (hi : PIv W X tg iter δ (xs.map tx)) (hz : xs.length ≤ 10000000)
    (ht : ∀ x ∈ xs, TurnD W X scope own δ elt tg ifs (tx x) true (D (f x))) (hs : ∀ x, foldedSetIterable iter X.env x = pure x := by intro _; rfl) : PEv W X (.ListComp elt [⟨tg, iter, ifs, 0⟩] scope pos) δ (D (.list (xs.map f))) := by
  have h := vlcD xs tx (fun _ => true) f hc hN bk hi hz ht hs (pos := pos)
  rw [filter_tt] at h
  exact h
/-- the turn's parts: target, tests, element -/
theorem turn {ow ws : List Nat} {T : Ty ok} {b : Bool} {P : Ty ok} {δ' : DEnv ok} (hg : BlkAll X scope fun Y => PGv W Y tg (wipeE δ ow) T δ' ws) (hq : BlkAll X scope fun Y => PQv W Y ifs δ' b) (he : b = true → BlkAll X scope fun Y => PEv W Y elt δ' P) (hn : b = true → Nol P)
    (how : ∀ i ∈ ws, i ∈ ow := by decide) : Turn1 W X scope ow δ elt tg ifs T b P := ⟨⟨δ', ws, how, hg, hq, he⟩, hn⟩
end

theorem iTm {α : Type} {tg e : Expr} {xs : List α} {enc : α → PyData} (h : PEv W X e δ (D (.tuple (xs.map enc)))) : PIv W X tg e δ (xs.map fun x => D (enc x)) := by
  have z := iT (tg := tg) h
  rw [List.map_map] at z
  exact z
theorem iLm {α : Type} {tg e : Expr} {xs : List α} {enc : α → PyData} (h : PEv W X e δ (D (.list (xs.map enc)))) : PIv W X tg e δ (xs.map fun x => D (enc x)) := by
  have z := iL (tg := tg) h
  rw [List.map_map] at z
  exact z
/-! ### statements: what stands ahead (W), what stands behind (W') -/
structure PSn (W W' : Wd ok) (X : Cx) (st : Stmt) (δ δ' : DEnv ok) : Prop where
  run : ∀ (σ : L2.St) (H : Hp) (E : Ends), Sl W H σ δ → (∀ σ' H2, Rel ok H H2 → Sl W' H2 σ' δ' → E.nx σ' H2) → tSW X st E σ H
structure PNv (W W' : Wd ok) (X : Cx) (sts : List Stmt) (δ δ' : DEnv ok) : Prop where
  run : ∀ (σ : L2.St) (H : Hp) (E : Ends), Sl W H σ δ → (∀ σ' H2, Rel ok H H2 → Sl W' H2 σ' δ' → E.nx σ' H2) → tBW X sts E σ H
/-- the block hands back a value of this kind -/
structure PBv (W W' : Wd ok) (X : Cx) (sts : List Stmt) (δ : DEnv ok) (P : Ty ok) : Prop where
  run : ∀ (σ : L2.St) (H : Hp) (E : Ends), Sl W H σ δ → (∀ v H2, Rel ok H H2 → W'.J H2 → P.p H2 v → E.rt v H2) → tBW X sts E σ H
section
variable {W' W2 : Wd ok}
theorem PSn.of {st : Stmt} {δ' : DEnv ok} {t : TS} (h : PS X st t) (k : ∀ σ H E, Sl W H σ δ → (∀ σ' H2, Rel ok H H2 → Sl W' H2 σ' δ' → E.nx σ' H2) → t E σ H) : PSn W W' X st δ δ' :=
  ⟨fun σ H E sl q pins s I => h.run pins s σ H E I (k σ H E sl q)⟩
theorem PNv.of {sts : List Stmt} {δ' : DEnv ok} {t : TS} (h : PSs X sts t) (k : ∀ σ H E, Sl W H σ δ → (∀ σ' H2, Rel ok H H2 → Sl W' H2 σ' δ' → E.nx σ' H2) → t E σ H) : PNv W W' X sts δ δ' :=
  ⟨fun σ H E sl q pins s I => h.run pins s σ H E I (k σ H E sl q)⟩
theorem PBv.of {sts : List Stmt} {P : Ty ok} {t : TS} (h : PSs X sts t) (k : ∀ σ H E, Sl W H σ δ → (∀ v H2, Rel ok H H2 → W'.J H2 → P.p H2 v → E.rt v H2) → t E σ H) : PBv W W' X sts δ P :=
  ⟨fun σ H E sl q pins s I => h.run pins s σ H E I (k σ H E sl q)⟩
theorem nnil : PNv W W X [] δ δ := PNv.of pss_nil fun σ H E sl q => q σ H (Rel.refl H) sl
theorem ncons {st : Stmt} {sts : List Stmt} {δ1 δ2 : DEnv ok} (h : PSn W W' X st δ δ1) (k : PNv W' W2 X sts δ1 δ2) : PNv W W2 X (st :: sts) δ δ2 :=
  PNv.of (pss_cons psW pbW) fun σ H E sl q => h.run σ H _ sl fun σ1 H1 s1 sl1 => k.run σ1 H1 _ sl1 fun σ2 H2 s2 sl2 => q σ2 H2 (s1.trans s2) sl2
theorem bcons {st : Stmt} {sts : List Stmt} {δ1 : DEnv ok} {P : Ty ok} (h : PSn W W' X st δ δ1) (k : PBv W' W2 X sts δ1 P) : PBv W W2 X (st :: sts) δ P :=
  PBv.of (pss_cons psW pbW) fun σ H E sl q => h.run σ H _ sl fun σ1 H1 s1 sl1 => k.run σ1 H1 _ sl1 fun v H2 s2 j2 p2 => q v H2 (s1.trans s2) j2 p2
theorem bret {e : Expr} {pos : Pos} {sts : List Stmt} {P : Ty ok} (h : PEv W X e δ P) : PBv W W X (.Return (some e) pos :: sts) δ P :=
  PBv.of (pss_cons (ps_ret peW) pbW) fun σ H E sl q => h.run σ H _ sl fun v H2 s p => q v H2 s.rel s.j p
/-- an if whose outcome is known: the block goes on in the branch -/
theorem bIf {c : Expr} {a b : List Stmt} {pos : Pos} {sts : List Stmt} {x : Bool} {P : Ty ok} (hc : PTv W X c δ x) (ha : x = true → PBv W W' X a δ P) (hb : x = false → PBv W W' X b δ P) : PBv W W' X (.If c a b pos :: sts) δ P :=
  PBv.of (pss_cons (ps_if ptW pbW pbW) pbW) fun σ H E sl q => hc.run σ H _ sl fun H1 s1 => by
    cases x with
    | true => exact iteT ((ha rfl).run σ H1 _ (sl.same s1) fun v H2 s2 j2 p2 => q v H2 (s1.rel.trans s2) j2 p2)
    | false => exact iteF ((hb rfl).run σ H1 _ (sl.same s1) fun v H2 s2 j2 p2 => q v H2 (s1.rel.trans s2) j2 p2)
/-- an if without else that hands back, or the rest goes on -/
theorem bwhen {c : Expr} {a : List Stmt} {pos : Pos} {sts : List Stmt} {x : Bool} {P : Ty ok} (hc : PTv W X c δ x) (ha : x = true → PBv W W' X a δ P) (hb : x = false → PBv W W' X sts δ P) : PBv W W' X (.If c a [] pos :: sts) δ P :=
  PBv.of (pss_cons (ps_if ptW pbW pss_nil) pbW) fun σ H E sl q => hc.run σ H _ sl fun H1 s1 => by
    cases x with
    | true => exact iteT ((ha rfl).run σ H1 _ (sl.same s1) fun v H2 s2 j2 p2 => q v H2 (s1.rel.trans s2) j2 p2)
    | false => exact iteF ((hb rfl).run σ H1 _ (sl.same s1) fun v H2 s2 j2 p2 => q v H2 (s1.rel.trans s2) j2 p2)
theorem nif {c : Expr} {a b : List Stmt} {pos : Pos} {x : Bool} {δ' : DEnv ok} (hc : PTv W X c δ x) (ha : x = true → PNv W W' X a δ δ') (hb : x = false → PNv W W' X b δ δ') : PSn W W' X (.If c a b pos) δ δ' :=
  PSn.of (ps_if ptW pbW pbW) fun σ H E sl q => hc.run σ H _ sl fun H1 s1 => by
    cases x with
    | true => exact iteT ((ha rfl).run σ H1 _ (sl.same s1) fun v H2 s2 p2 => q v H2 (s1.rel.trans s2) p2)
    | false => exact iteF ((hb rfl).run σ H1 _ (sl.same s1) fun v H2 s2 p2 => q v H2 (s1.rel.trans s2) p2)
end
theorem sset (i : Nat) {x : Str} {e : Expr} {pos pos' : Pos} {P : Ty ok} (hN : X.N.Nodup) (he : PEv W X e δ P) (hi : X.N[i]? = some x := by rfl) (hx : Loc X.env.scope x := by first | exact Or.inl rfl | exact Or.inr rfl) (hs : swapsWith e (some (.Name x pos')) pos.line X.env = pure false := by rfl)
    (hf : X.fn x = true ∨ X.env.scope.names.lookup x = some .local := by first | exact .inl rfl | exact .inr rfl) : PSn W W X (.Assign [.Name x pos'] e pos) δ (δ.set i (some P)) :=
  PSn.of (ps_set hN hi hx peW hs hf) fun σ H E sl q => he.run σ H _ sl fun v H1 s1 p1 => q _ H1 s1.rel ((sl.same s1).set i p1)
theorem sasg {tg e : Expr} {pos : Pos} {P : Ty ok} {δ' : DEnv ok} {ws : List Nat} (he : PEv W X e δ P) (hg : PGv W X tg δ P δ' ws) (hs : swapsWithSole [tg] e pos.line X.env = pure false := by rfl) (hw : swappedStores [tg] e X.env = pure none := by rfl)
    (h1 : (assignEach [tg] X.env).map (·.2) = [assign tg X.env] := by rfl) : PSn W W X (.Assign [tg] e pos) δ δ' :=
  PSn.of (ps_asg peW pgW hs hw h1) fun σ H E sl q => he.run σ H _ sl fun v H1 s1 p1 => hg.run v σ H1 _ (sl.same s1) p1 fun σ2 H2 s2 sl2 _ => q σ2 H2 (s1.trans s2).rel sl2
/-- what ps_setLc does with a comprehension that is stored at once: its value is the list's -/
theorem ssetLc (i : Nat) {y : Str} {py : Pos} {elt tg iter : Expr} {ifs : List Expr} {scope : Scope} {own : List (Str × Nat)} {pos spos : Pos} {Ts : List (Ty ok)} {Ps : List (Bool × Ty ok)} (hc : X.calm = true) (hN : X.N.Nodup) (hyl : X.env.scope.names.lookup y = some .local)
    (hsw : swapsWith (.ListComp elt [⟨tg, iter, ifs, 0⟩] scope pos) (some (.Name y py)) spos.line X.env = pure true) (bk : blkC X.N X.env.scope scope own = true) (hi : PIj W X tg iter δ Ts) (hl : Ps.length = Ts.length) (hz : Ts.length ≤ 10000000)
    (ht : ∀ (i : Nat) (T : Ty ok) (b : Bool) (P : Ty ok), Ts[i]? = some T → Ps[i]? = some (b, P) → Turn1 W X scope (own.map (·.2)) δ elt tg ifs T b P) (hy : X.N[i]? = some y := by rfl) (hs : ∀ x, foldedSetIterable iter X.env x = pure x := by intro _; rfl) :
    PSn W W X (.Assign [.Name y py] (.ListComp elt [⟨tg, iter, ifs, 0⟩] scope pos) spos) δ (δ.set i (some (Ls (kept Ps)))) :=
  PSn.of (ps_setLc hc hN hy hyl hsw piW (blkOk_by bk) pgAll pqAll peAll hs) fun σ H E sl q => vlc_read hl hz hi ht sl fun v H2 s p => q _ H2 s.rel ((sl.same s).set i p)
theorem ssetLcDJ (i : Nat) {α : Type} {y : Str} {py : Pos} {elt tg iter : Expr} {ifs : List Expr} {scope : Scope} {own : List (Str × Nat)} {pos spos : Pos} (xs : List α) (tx : α → Ty ok) (p : α → Bool) (f : α → PyData) (hc : X.calm = true) (hN : X.N.Nodup) (hyl : X.env.scope.names.lookup y = some .local)
    (hsw : swapsWith (.ListComp elt [⟨tg, iter, ifs, 0⟩] scope pos) (some (.Name y py)) spos.line X.env = pure true) (bk : blkC X.N X.env.scope scope own = true) (hi : PIj W X tg iter δ (xs.map tx)) (hz : xs.length ≤ 10000000)
    (ht : ∀ x ∈ xs, TurnD W X scope own δ elt tg ifs (tx x) (p x) (D (f x))) (hy : X.N[i]? = some y := by rfl) (hs : ∀ x, foldedSetIterable iter X.env x = pure x := by intro _; rfl) :
    PSn W W X (.Assign [.Name y py] (.ListComp elt [⟨tg, iter, ifs, 0⟩] scope pos) spos) δ (δ.set i (some (D (.list ((xs.filter p).map f))))) := by
  have h := ssetLc i (Ts := xs.map tx) (Ps := xs.map fun x => (p x, D (f x))) (elt := elt) (pos := pos) (spos := spos) (py := py) hc hN hyl hsw bk hi (by rw [List.length_map, List.length_map]) (by rw [List.length_map]; exact hz) (fun i T b P h1 h2 => by
    rw [List.getElem?_map] at h1 h2
    cases e : xs[i]? with
    | none =>
      rw [e] at h1
      cases h1
    | some x =>
      rw [e] at h1 h2
      cases h1
      cases h2
      exact ht x (List.mem_of_getElem? e)) hy hs
  rw [kept_map] at h
  refine ⟨fun σ H E sl q => h.run σ H E sl fun σ' H2 s sl2 => q σ' H2 s ⟨sl2.j, sl2.len.trans (by rw [List.length_set, List.length_set]), fun j P hj => ?_⟩⟩
  by_cases e : i = j
  · subst e
    by_cases hlt : i < δ.length
    · rw [List.getElem?_set_self hlt] at hj
      cases hj
      obtain ⟨v, e1, e2⟩ := sl2.at_ i _ (List.getElem?_set_self hlt)
      refine ⟨v, e1, Ls.d ?_⟩
      rw [List.map_map]
      exact e2
    · rw [List.getElem?_eq_none (by simpa using hlt)] at hj
      cases hj
  · rw [List.getElem?_set_ne e] at hj
    exact sl2.at_ j P (by rw [List.getElem?_set_ne e]; exact hj)
theorem ssetLcD (i : Nat) {α : Type} {y : Str} {py : Pos} {elt tg iter : Expr} {ifs : List Expr} {scope : Scope} {own : List (Str × Nat)} {pos spos : Pos} (xs : List α) (tx : α → Ty ok) (p : α → Bool) (f : α → PyData) (hc : X.calm = true) (hN : X.N.Nodup) (hyl : X.env.scope.names.lookup y = some .local)
    (hsw : swapsWith (.ListComp elt [⟨tg, iter, ifs, 0⟩] scope pos) (some (.Name y py)) spos.line X.env = pure true) (bk : blkC X.N X.env.scope scope own = true) (hi : PIv W X tg iter δ (xs.map tx)) (hz : xs.length ≤ 10000000)
    (ht : ∀ x ∈ xs, TurnD W X scope own δ elt tg ifs (tx x) (p x) (D (f x))) (hy : X.N[i]? = some y := by rfl) (hs : ∀ x, foldedSetIterable iter X.env x = pure x := by intro _; rfl) :
    PSn W W X (.Assign [.Name y py] (.ListComp elt [⟨tg, iter, ifs, 0⟩] scope pos) spos) δ (δ.set i (some (D (.list ((xs.filter p).map f))))) := ssetLcDJ i xs tx p f hc hN hyl hsw bk hi.j hz ht hy hs
theorem ssetLcA (i : Nat) {α : Type} {y : Str} {py : Pos} {elt tg iter : Expr} {ifs : List Expr} {scope : Scope} {own : List (Str × Nat)} {pos spos : Pos} (xs : List α) (tx : α → Ty ok) (f : α → PyData) (hc : X.calm = true) (hN : X.N.Nodup) (hyl : X.env.scope.names.lookup y = some .local)
    (hsw : swapsWith (.ListComp elt [⟨tg, iter, ifs, 0⟩] scope pos) (some (.Name y py)) spos.line X.env = pure true) (bk : blkC X.N X.env.scope scope own = true) (hi : PIv W X tg iter δ (xs.map tx)) (hz : xs.length ≤ 10000000)
    (ht : ∀ x ∈ xs, TurnD W X scope own δ elt tg ifs (tx x) true (D (f x))) (hy : X.N[i]? = some y := by rfl) (hs : ∀ x, foldedSetIterable iter X.env x = pure x := by intro _; rfl) :
    PSn W W X (.Assign [.Name y py] (.ListComp elt [⟨tg, iter, ifs, 0⟩] scope pos) spos) δ (δ.set i (some (D (.list (xs.map f))))) := by
  have h := ssetLcD i xs tx (fun _ => true) f hc hN hyl hsw bk hi hz ht hy hs
  rw [filter_tt] at h
  exact h
end

/-! ### defs -/
def dstart {ok : Addr → Prop} (N : List Str) (Ps : List (Ty ok)) : DEnv ok := Ps.map some ++ List.replicate (N.length - Ps.length) none
theorem sl_start {ok : Addr → Prop} {W : Wd ok} {H : Hp} {N : List Str} {vs : List V} {Ps : List (Ty ok)} (j : W.J H) (r : TyA H vs Ps) : Sl W H (L2.start N vs) (dstart N Ps) := by
  refine ⟨j, ?_, fun i P h => ?_⟩
  · unfold L2.start dstart
    rw [List.length_append, List.length_append, List.length_map, List.length_map, List.length_replicate, List.length_replicate, r.length]
  · unfold dstart at h
    unfold L2.start
    by_cases hi : i < Ps.length
    · rw [List.getElem?_append_left (by rw [List.length_map]; exact hi), List.getElem?_map] at h
      cases e : Ps[i]? with
      | none =>
        rw [e] at h
        cases h
      | some Q =>
        rw [e] at h
        cases h
        obtain ⟨v, e1, p⟩ := r.at e
        exact ⟨v, by rw [List.getElem?_append_left (by rw [List.length_map, r.length]; exact hi), List.getElem?_map, e1]; rfl, p⟩
    · rw [List.getElem?_append_right (by rw [List.length_map]; omega), List.getElem?_replicate] at h
      split at h <;> cases h
theorem tya_len {ok : Addr → Prop} {H : Hp} {vs : List V} {Ps : List (Ty ok)} (r : TyA H vs Ps) : vs.length = Ps.length := r.length
section
variable {P : Program} {w : World} {K : PySem.W.Frag} {mg : Str → Option Value} {base : Heap}
/-- the context of a def's body -/
abbrev bx (P : Program) (w : World) (K : PySem.W.Frag) (mg : Str → Option Value) (base : Heap) (N : List Str) (qual : Str) (st : Stmt) (f : Addr) (cdv : Value) (A : Around) (outer : List Env) (s : Shared) (H : Hp) (E : XK) : Cx := (cxOf CX0 P w K mg base N qual (defScope st) f cdv A outer s H E).nox
theorem okp {x qual : Str} {st : Stmt} {f : Addr} {fd : FuncData} {N ps : List Str} {k : Nat} {A : Prm} (F : Fun K x qual st f fd) (S : FnScope N ps (defScope st)) (len : ∀ ok W W' Ps T, A ok W W' Ps T → Ps.length = ps.length)
    (hbody : ∀ (cdv : Value) (B : Around) (outer : List Env) (s : Shared) (H : Hp) (E : XK), Room k (B.deeper (envOfC qual (defScope st) s.heap.objs.size f cdv)) → ∀ (ok : Addr → Prop) (W W' : Wd ok) (Ps : List (Ty ok)) (T : Ty ok), A ok W W' Ps T → PBv W W' (bx P w K mg base N qual st f cdv B outer s H E) (defBody st) (dstart N Ps) T) :
    FnOk P w K mg base CX0 (k + 1) f fd ps (spt A) :=
  F.ok S (fun vs H Q E h => by
    obtain ⟨ok, W, W', Ps, T, _, r, a, _⟩ := h
    rw [r.length]
    exact len ok W W' Ps T a) fun cdv B outer s H vs Q E hr h => by
    obtain ⟨ok, W, W', Ps, T, j, r, a, q⟩ := h
    exact ⟨_, pbW, (hbody cdv B outer s H E hr ok W W' Ps T a).run _ H _ (sl_start j r) fun v H2 s2 j2 p2 => q v H2 s2 j2 p2⟩
end
end Kl
set_option linter.all false
set_option maxRecDepth 100000
set_option maxHeartbeats 4000000
/-! # K5: the text by places -/
namespace Kl
open PySem PySem.Spec PyProof.Rows L2
def topS (i : Nat) : Stmt := PySem.Challenge.pw_keyedlines_k90_whole_keys_taken_as_hours.main.body.getD i (.Pass ⟨0, 0, 0, 0⟩)
abbrev s_set_of : Stmt := topS 19
abbrev s_tupled : Stmt := topS 20
abbrev s_yard_names : Stmt := topS 30
abbrev s_keys_of : Stmt := topS 33
abbrev s_subsets_of : Stmt := topS 55
abbrev s_value_of : Stmt := topS 56
abbrev s_values_by : Stmt := topS 57
abbrev s_part_in : Stmt := topS 58
abbrev s_goes_by : Stmt := topS 59
abbrev s_goes : Stmt := topS 60
abbrev s_done_at : Stmt := topS 77
abbrev s_behind_deeds : Stmt := topS 78
abbrev s_is_within : Stmt := topS 81
abbrev s_leasts : Stmt := topS 82
abbrev s_others_of : Stmt := topS 83
abbrev s_table_of : Stmt := topS 84
abbrev s_sets_open : Stmt := topS 85
abbrev s_openers : Stmt := topS 86
abbrev s_barriers : Stmt := topS 87
abbrev s_moments : Stmt := topS 89
abbrev s_in_hand : Stmt := topS 90
abbrev s_hour : Stmt := topS 91
abbrev s_L_box : Stmt := topS 93
abbrev s_L_take : Stmt := topS 94
abbrev s_L_cells : Stmt := topS 95
abbrev s_L_of : Stmt := topS 96
abbrev s_L_same : Stmt := topS 97
abbrev s_L_pick : Stmt := topS 98
abbrev s_L_net : Stmt := topS 99
abbrev s_L_keys : Stmt := topS 100
abbrev s_L_sets : Stmt := topS 101
abbrev s_L_plans : Stmt := topS 102
abbrev s_L_wants : Stmt := topS 103
abbrev s_L_by : Stmt := topS 104
abbrev s_L_goes : Stmt := topS 105
abbrev s_L_lot : Stmt := topS 106
abbrev s_L_least : Stmt := topS 107
abbrev s_L_has_less : Stmt := topS 108
abbrev s_L_taken_right : Stmt := topS 109
abbrev s_L_lot_right : Stmt := topS 110
abbrev s_L_case_right : Stmt := topS 111
abbrev s_L_by_hand_right : Stmt := topS 112
abbrev s_L_right : Stmt := topS 113
abbrev s_law : Stmt := topS 114
abbrev s_W_init : Stmt := inClass (topS 79) 0
abbrev s_W_len : Stmt := inClass (topS 79) 2
abbrev s_W_do_deed : Stmt := inClass (topS 79) 6
abbrev s_W_take : Stmt := inClass (topS 79) 7
abbrev s_W_give : Stmt := inClass (topS 79) 8
abbrev s_W_twin : Stmt := inClass (topS 79) 11
abbrev s_W_goes : Stmt := inClass (topS 79) 13
abbrev s_W_when : Stmt := inClass (topS 79) 14
abbrev s_W_turned : Stmt := inClass (topS 79) 16
abbrev s_W_no_longer : Stmt := inClass (topS 79) 18
abbrev s_W_without : Stmt := inClass (topS 79) 19
abbrev s_W_needed : Stmt := inClass (topS 79) 20
abbrev s_W_net : Stmt := inClass (topS 79) 3
abbrev s_W_ring : Stmt := inClass (topS 79) 4
abbrev s_W_told : Stmt := inClass (topS 79) 5
abbrev s_E_NoKey : Stmt := inClass (topS 5) 0
abbrev s_E_Known : Stmt := inClass (topS 10) 0
abbrev s_E_NoNumber : Stmt := inClass (topS 7) 0
end Kl
set_option linter.all false
set_option maxRecDepth 100000
set_option maxHeartbeats 0
/-! # E0: the head: facts by names, the run (printed by mkE0.py) -/
namespace Kl
open PySem PySem.Spec PyProof.Rows L2
def fnD0 : He.FnD := ⟨("set_of", none), "set_of", "set_of", defArgs s_set_of, defBody s_set_of, defScope s_set_of⟩
def fnD1 : He.FnD := ⟨("tupled", none), "tupled", "tupled", defArgs s_tupled, defBody s_tupled, defScope s_tupled⟩
def fnD2 : He.FnD := ⟨("yard_names", none), "yard_names", "yard_names", defArgs s_yard_names, defBody s_yard_names, defScope s_yard_names⟩
def fnD3 : He.FnD := ⟨("keys_of", none), "keys_of", "keys_of", defArgs s_keys_of, defBody s_keys_of, defScope s_keys_of⟩
def fnD4 : He.FnD := ⟨("subsets_of", none), "subsets_of", "subsets_of", defArgs s_subsets_of, defBody s_subsets_of, defScope s_subsets_of⟩
def fnD5 : He.FnD := ⟨("value_of", none), "value_of", "value_of", defArgs s_value_of, defBody s_value_of, defScope s_value_of⟩
def fnD6 : He.FnD := ⟨("values_by", none), "values_by", "values_by", defArgs s_values_by, defBody s_values_by, defScope s_values_by⟩
def fnD7 : He.FnD := ⟨("part_in", none), "part_in", "part_in", defArgs s_part_in, defBody s_part_in, defScope s_part_in⟩
def fnD8 : He.FnD := ⟨("goes_by", none), "goes_by", "goes_by", defArgs s_goes_by, defBody s_goes_by, defScope s_goes_by⟩
def fnD9 : He.FnD := ⟨("goes_goes", none), "goes", "goes", defArgs s_goes, defBody s_goes, defScope s_goes⟩
def fnD10 : He.FnD := ⟨("done_at", none), "done_at", "done_at", defArgs s_done_at, defBody s_done_at, defScope s_done_at⟩
def fnD11 : He.FnD := ⟨("behind_deeds", none), "behind_deeds", "behind_deeds", defArgs s_behind_deeds, defBody s_behind_deeds, defScope s_behind_deeds⟩
def fnD12 : He.FnD := ⟨("is_within", none), "is_within", "is_within", defArgs s_is_within, defBody s_is_within, defScope s_is_within⟩
def fnD13 : He.FnD := ⟨("leasts", none), "leasts", "leasts", defArgs s_leasts, defBody s_leasts, defScope s_leasts⟩
def fnD14 : He.FnD := ⟨("others_of", none), "others_of", "others_of", defArgs s_others_of, defBody s_others_of, defScope s_others_of⟩
def fnD15 : He.FnD := ⟨("table_of", none), "table_of", "table_of", defArgs s_table_of, defBody s_table_of, defScope s_table_of⟩
def fnD16 : He.FnD := ⟨("sets_open", none), "sets_open", "sets_open", defArgs s_sets_open, defBody s_sets_open, defScope s_sets_open⟩
def fnD17 : He.FnD := ⟨("openers", none), "openers", "openers", defArgs s_openers, defBody s_openers, defScope s_openers⟩
def fnD18 : He.FnD := ⟨("barriers", none), "barriers", "barriers", defArgs s_barriers, defBody s_barriers, defScope s_barriers⟩
def fnD19 : He.FnD := ⟨("moments", none), "moments", "moments", defArgs s_moments, defBody s_moments, defScope s_moments⟩
def fnD20 : He.FnD := ⟨("in_hand", none), "in_hand", "in_hand", defArgs s_in_hand, defBody s_in_hand, defScope s_in_hand⟩
def fnD21 : He.FnD := ⟨("hour", none), "hour", "hour", defArgs s_hour, defBody s_hour, defScope s_hour⟩
def fnD22 : He.FnD := ⟨("_law_box", none), "_law_box", "_law_box", defArgs s_L_box, defBody s_L_box, defScope s_L_box⟩
def fnD23 : He.FnD := ⟨("_law_take", none), "_law_take", "_law_take", defArgs s_L_take, defBody s_L_take, defScope s_L_take⟩
def fnD24 : He.FnD := ⟨("_law_cells", none), "_law_cells", "_law_cells", defArgs s_L_cells, defBody s_L_cells, defScope s_L_cells⟩
def fnD25 : He.FnD := ⟨("_law_of", none), "_law_of", "_law_of", defArgs s_L_of, defBody s_L_of, defScope s_L_of⟩
def fnD26 : He.FnD := ⟨("_law_same", none), "_law_same", "_law_same", defArgs s_L_same, defBody s_L_same, defScope s_L_same⟩
def fnD27 : He.FnD := ⟨("_law_pick", none), "_law_pick", "_law_pick", defArgs s_L_pick, defBody s_L_pick, defScope s_L_pick⟩
def fnD28 : He.FnD := ⟨("_law_net", none), "_law_net", "_law_net", defArgs s_L_net, defBody s_L_net, defScope s_L_net⟩
def fnD29 : He.FnD := ⟨("_law_keys", none), "_law_keys", "_law_keys", defArgs s_L_keys, defBody s_L_keys, defScope s_L_keys⟩
def fnD30 : He.FnD := ⟨("_law_sets", none), "_law_sets", "_law_sets", defArgs s_L_sets, defBody s_L_sets, defScope s_L_sets⟩
def fnD31 : He.FnD := ⟨("_law_plans", none), "_law_plans", "_law_plans", defArgs s_L_plans, defBody s_L_plans, defScope s_L_plans⟩
def fnD32 : He.FnD := ⟨("_law_wants", none), "_law_wants", "_law_wants", defArgs s_L_wants, defBody s_L_wants, defScope s_L_wants⟩
def fnD33 : He.FnD := ⟨("_law_by", none), "_law_by", "_law_by", defArgs s_L_by, defBody s_L_by, defScope s_L_by⟩
def fnD34 : He.FnD := ⟨("_law_goes", none), "_law_goes", "_law_goes", defArgs s_L_goes, defBody s_L_goes, defScope s_L_goes⟩
def fnD35 : He.FnD := ⟨("_law_lot", none), "_law_lot", "_law_lot", defArgs s_L_lot, defBody s_L_lot, defScope s_L_lot⟩
def fnD36 : He.FnD := ⟨("_law_least", none), "_law_least", "_law_least", defArgs s_L_least, defBody s_L_least, defScope s_L_least⟩
def fnD37 : He.FnD := ⟨("_law_has_less", none), "_law_has_less", "_law_has_less", defArgs s_L_has_less, defBody s_L_has_less, defScope s_L_has_less⟩
def fnD38 : He.FnD := ⟨("_law_taken_right", none), "_law_taken_right", "_law_taken_right", defArgs s_L_taken_right, defBody s_L_taken_right, defScope s_L_taken_right⟩
def fnD39 : He.FnD := ⟨("_law_lot_right", none), "_law_lot_right", "_law_lot_right", defArgs s_L_lot_right, defBody s_L_lot_right, defScope s_L_lot_right⟩
def fnD40 : He.FnD := ⟨("_law_case_right", none), "_law_case_right", "_law_case_right", defArgs s_L_case_right, defBody s_L_case_right, defScope s_L_case_right⟩
def fnD41 : He.FnD := ⟨("_law_by_hand_right", none), "_law_by_hand_right", "_law_by_hand_right", defArgs s_L_by_hand_right, defBody s_L_by_hand_right, defScope s_L_by_hand_right⟩
def fnD42 : He.FnD := ⟨("_law_right", none), "_law_right", "_law_right", defArgs s_L_right, defBody s_L_right, defScope s_L_right⟩
def fnD43 : He.FnD := ⟨("law", none), "law", "law", defArgs s_law, defBody s_law, defScope s_law⟩
def fnD44 : He.FnD := ⟨("Watch", some "__init__"), "__init__", "Watch.__init__", defArgs s_W_init, defBody s_W_init, defScope s_W_init⟩
def fnD45 : He.FnD := ⟨("Watch", some "__len__"), "__len__", "Watch.__len__", defArgs s_W_len, defBody s_W_len, defScope s_W_len⟩
def fnD46 : He.FnD := ⟨("Watch", some "do_deed"), "do_deed", "Watch.do_deed", defArgs s_W_do_deed, defBody s_W_do_deed, defScope s_W_do_deed⟩
def fnD47 : He.FnD := ⟨("Watch", some "take"), "take", "Watch.take", defArgs s_W_take, defBody s_W_take, defScope s_W_take⟩
def fnD48 : He.FnD := ⟨("Watch", some "give"), "give", "Watch.give", defArgs s_W_give, defBody s_W_give, defScope s_W_give⟩
def fnD49 : He.FnD := ⟨("Watch", some "twin"), "twin", "Watch.twin", defArgs s_W_twin, defBody s_W_twin, defScope s_W_twin⟩
def fnD50 : He.FnD := ⟨("Watch", some "goes"), "goes", "Watch.goes", defArgs s_W_goes, defBody s_W_goes, defScope s_W_goes⟩
def fnD51 : He.FnD := ⟨("Watch", some "when"), "when", "Watch.when", defArgs s_W_when, defBody s_W_when, defScope s_W_when⟩
def fnD52 : He.FnD := ⟨("Watch", some "turned"), "turned", "Watch.turned", defArgs s_W_turned, defBody s_W_turned, defScope s_W_turned⟩
def fnD53 : He.FnD := ⟨("Watch", some "no_longer"), "no_longer", "Watch.no_longer", defArgs s_W_no_longer, defBody s_W_no_longer, defScope s_W_no_longer⟩
def fnD54 : He.FnD := ⟨("Watch", some "without"), "without", "Watch.without", defArgs s_W_without, defBody s_W_without, defScope s_W_without⟩
def fnD55 : He.FnD := ⟨("Watch", some "needed"), "needed", "Watch.needed", defArgs s_W_needed, defBody s_W_needed, defScope s_W_needed⟩
def fnD56 : He.FnD := ⟨("NoKey", some "__init__"), "__init__", "NoKey.__init__", defArgs s_E_NoKey, defBody s_E_NoKey, defScope s_E_NoKey⟩
def fnD57 : He.FnD := ⟨("Known", some "__init__"), "__init__", "Known.__init__", defArgs s_E_Known, defBody s_E_Known, defScope s_E_Known⟩
def fnL : List He.FnD := ([fnD0, fnD1, fnD2, fnD3, fnD4, fnD5, fnD6, fnD7, fnD8, fnD9, fnD10, fnD11, fnD12, fnD13, fnD14, fnD15, fnD16, fnD17, fnD18, fnD19] : List He.FnD) ++ ([fnD20, fnD21, fnD22, fnD23, fnD24, fnD25, fnD26, fnD27, fnD28, fnD29, fnD30, fnD31, fnD32, fnD33, fnD34, fnD35, fnD36, fnD37, fnD38, fnD39] : List He.FnD) ++ ([fnD40, fnD41, fnD42, fnD43, fnD44, fnD45, fnD46, fnD47, fnD48, fnD49, fnD50, fnD51, fnD52, fnD53, fnD54, fnD55, fnD56, fnD57] : List He.FnD)
def faL : List He.Fa := ([.glo "set_of", .keep "set_of", .glo "tupled", .keep "tupled", .glo "yard_names", .keep "yard_names", .glo "keys_of", .keep "keys_of", .glo "subsets_of", .keep "subsets_of", .glo "value_of", .keep "value_of", .glo "values_by", .keep "values_by", .glo "part_in", .keep "part_in", .glo "goes_by", .keep "goes_by", .glo "goes_goes", .keep "goes_goes", .glo "done_at", .keep "done_at", .glo "behind_deeds", .keep "behind_deeds", .glo "is_within"] : List He.Fa) ++ ([.keep "is_within", .glo "leasts", .keep "leasts", .glo "others_of", .keep "others_of", .glo "table_of", .keep "table_of", .glo "sets_open", .keep "sets_open", .glo "openers", .keep "openers", .glo "barriers", .keep "barriers", .glo "moments", .keep "moments", .glo "in_hand", .keep "in_hand", .glo "hour", .keep "hour", .glo "_law_box", .keep "_law_box", .glo "_law_take", .keep "_law_take", .glo "_law_cells", .keep "_law_cells"] : List He.Fa) ++ ([.glo "_law_of", .keep "_law_of", .glo "_law_same", .keep "_law_same", .glo "_law_pick", .keep "_law_pick", .glo "_law_net", .keep "_law_net", .glo "_law_keys", .keep "_law_keys", .glo "_law_sets", .keep "_law_sets", .glo "_law_plans", .keep "_law_plans", .glo "_law_wants", .keep "_law_wants", .glo "_law_by", .keep "_law_by", .glo "_law_goes", .keep "_law_goes", .glo "_law_lot", .keep "_law_lot", .glo "_law_least", .keep "_law_least", .glo "_law_has_less"] : List He.Fa) ++ ([.keep "_law_has_less", .glo "_law_taken_right", .keep "_law_taken_right", .glo "_law_lot_right", .keep "_law_lot_right", .glo "_law_case_right", .keep "_law_case_right", .glo "_law_by_hand_right", .keep "_law_by_hand_right", .glo "_law_right", .keep "_law_right", .glo "law", .keep "law", .glo "Watch", .glo "NoKey", .glo "Known", .glo "NetError", .free "sum", .free "all", .free "any", .free "len", .free "set", .free "sorted", .free "tuple", .free "list"] : List He.Fa) ++ ([.free "dict", .free "range", .free "zip", .free "enumerate", .free "isinstance", .free "int", .free "str", .free "bool", .free "abs", .free "min", .int "KEY" 4, .int "GOAL" 2, .int "START" 1, .int "NAME" 0, .int "MOST_goes" 3, .int "SUPPLY_goes" 1, .int "YARD_goes" 1, .int "WIDE" 5, .str "TAKE" "take", .str "GIVE" "give", .cls "Watch", .mkr "Watch", .noat "Watch" "own_states", .noat "Watch" "own_told", .meth "Watch" "__init__"] : List He.Fa) ++ ([.meth "Watch" "__len__", .meth "Watch" "do_deed", .meth "Watch" "take", .meth "Watch" "give", .meth "Watch" "twin", .meth "Watch" "goes", .meth "Watch" "when", .meth "Watch" "turned", .meth "Watch" "no_longer", .meth "Watch" "without", .meth "Watch" "needed", .noat "NoKey" "name", .exm "NoKey" "NetError" true, .meth "NoKey" "__init__", .noat "Known" "name", .exm "Known" "NetError" true, .meth "Known" "__init__"] : List He.Fa)
def looseL : List PySem.Str := ([PySem.Str.ofString "_wall", PySem.Str.ofString "NetError", PySem.Str.ofString "NoYard", PySem.Str.ofString "NoLine", PySem.Str.ofString "NoKey", PySem.Str.ofString "NoCustomer", PySem.Str.ofString "NoNumber", PySem.Str.ofString "CanNot", PySem.Str.ofString "Unfit", PySem.Str.ofString "Known", PySem.Str.ofString "NothingDone", PySem.Str.ofString "LETTERS", PySem.Str.ofString "MOST_LETTERS", PySem.Str.ofString "is_number", PySem.Str.ofString "is_count", PySem.Str.ofString "is_name", PySem.Str.ofString "is_rising", PySem.Str.ofString "set_of", PySem.Str.ofString "tupled", PySem.Str.ofString "PAIR", PySem.Str.ofString "PARTS", PySem.Str.ofString "WIDE", PySem.Str.ofString "are_rows", PySem.Str.ofString "is_supply", PySem.Str.ofString "is_line"] : List PySem.Str) ++ ([PySem.Str.ofString "is_at", PySem.Str.ofString "is_net", PySem.Str.ofString "yard_names", PySem.Str.ofString "line_names", PySem.Str.ofString "customer_names", PySem.Str.ofString "keys_of", PySem.Str.ofString "supply_of", PySem.Str.ofString "line_of", PySem.Str.ofString "yard_of", PySem.Str.ofString "fit", PySem.Str.ofString "with_supply", PySem.Str.ofString "with_most", PySem.Str.ofString "with_key", PySem.Str.ofString "with_yard", PySem.Str.ofString "with_line", PySem.Str.ofString "with_customer", PySem.Str.ofString "without_yard", PySem.Str.ofString "without_line", PySem.Str.ofString "without_customer", PySem.Str.ofString "NAME", PySem.Str.ofString "SUPPLY_goes", PySem.Str.ofString "YARD_goes", PySem.Str.ofString "START", PySem.Str.ofString "GOAL", PySem.Str.ofString "MOST_goes"] : List PySem.Str) ++ ([PySem.Str.ofString "KEY", PySem.Str.ofString "subsets_of", PySem.Str.ofString "value_of", PySem.Str.ofString "values_by", PySem.Str.ofString "part_in", PySem.Str.ofString "goes_by", PySem.Str.ofString "goes", PySem.Str.ofString "goes_goes", PySem.Str.ofString "SUPPLY_edits", PySem.Str.ofString "MOST_edits", PySem.Str.ofString "HANG", PySem.Str.ofString "YARD_edits", PySem.Str.ofString "LINE", PySem.Str.ofString "CUSTOMER", PySem.Str.ofString "MOVE", PySem.Str.ofString "CUT", PySem.Str.ofString "LEAVE", PySem.Str.ofString "moved_to", PySem.Str.ofString "edited", PySem.Str.ofString "TAKE", PySem.Str.ofString "GIVE", PySem.Str.ofString "done_at", PySem.Str.ofString "behind_deeds", PySem.Str.ofString "Watch", PySem.Str.ofString "is_within"] : List PySem.Str) ++ ([PySem.Str.ofString "leasts", PySem.Str.ofString "others_of", PySem.Str.ofString "table_of", PySem.Str.ofString "sets_open", PySem.Str.ofString "openers", PySem.Str.ofString "barriers", PySem.Str.ofString "moments", PySem.Str.ofString "in_hand", PySem.Str.ofString "hour", PySem.Str.ofString "_law_box", PySem.Str.ofString "_law_take", PySem.Str.ofString "_law_cells", PySem.Str.ofString "_law_of", PySem.Str.ofString "_law_same", PySem.Str.ofString "_law_pick", PySem.Str.ofString "_law_net", PySem.Str.ofString "_law_keys", PySem.Str.ofString "_law_sets", PySem.Str.ofString "_law_plans", PySem.Str.ofString "_law_wants", PySem.Str.ofString "_law_by", PySem.Str.ofString "_law_goes", PySem.Str.ofString "_law_lot", PySem.Str.ofString "_law_least", PySem.Str.ofString "_law_has_less"] : List PySem.Str) ++ ([PySem.Str.ofString "_law_taken_right", PySem.Str.ofString "_law_lot_right", PySem.Str.ofString "_law_case_right", PySem.Str.ofString "_law_by_hand_right", PySem.Str.ofString "_law_right"] : List PySem.Str)

/-! ### a property, an own error class -/
/-- the property's object, its getter -/
def prA (K : PySem.W.Frag) (m : Str) : Addr := He.ma K (He.ga K "Watch") m
def prG (K : PySem.W.Frag) (m : Str) : Addr := match PySem.W.recIn K (prA K m) "property" with
  | some (.ref g :: _) => g
  | _ => 0
def fnAt (K : PySem.W.Frag) (a : Addr) : He.FnV := match K.lookup a with
  | some ⟨_, _, .func fd, _⟩ => some (fd.name, fd.qualname, fd.params, fd.body, fd.scope, fd.globals, fd.closure, fd.defaults, fd.builtins)
  | _ => none
def codeAt (K : PySem.W.Frag) (a : Addr) (q : Str) : Bool := match K.lookup a with
  | some ⟨_, _, .func fd, _⟩ => PySem.W.codeIn K fd.code q
  | _ => false
def prB (K : PySem.W.Frag) (m q : Str) : Bool := He.eqO (PySem.W.findIn K (.ref (He.ga K "Watch")) m) (some (some (.ref (prA K m)))) && (He.eqO (PySem.W.specialIn K (.ref (prA K m)) "__get__") (some (some (.builtin "property.__get__"))) && (decide (PySem.W.takesIn K (.ref (prA K m)) = some true) && ((match PySem.W.recIn K (prA K m) "property" with
  | some (.ref _ :: _) => true
  | _ => false) && (PySem.W.keepIn K (.ref (prG K m)) && codeAt K (prG K m) q))))
def oexB (K : PySem.W.Frag) (C : Addr) : Bool := (match K.lookup C with
  | some ⟨.type "type", _, .cls cd, sl⟩ => (match cd.mro, sl.toList with
    | .ref C' :: bm, [_, _, _, _, some (.builtin n), _] => C' == C && (n == "ValueError.__new__" && (cd.hasDict && (!cd.hasDel && PySem.HandSPX.refsVE bm)))
    | _, _ => false)
  | _ => false) && (He.eqO (PySem.W.findIn K (.ref C) "__setattr__") (some (some (.builtin "object.__setattr__"))) && (decide (PySem.W.subIn K (.ref C) (.type "BaseException") = some true) && (decide (PySem.W.typeIn K (.ref C) = some (.type "type")) && PySem.W.keepIn K (.ref C))))
theorem oexB_ok {K : PySem.W.Frag} {C : Addr} (h : oexB K C = true) : OexC K C := by
  unfold oexB at h
  obtain ⟨q, h⟩ := He.ba h
  obtain ⟨h1, h⟩ := He.ba h
  obtain ⟨h2, h⟩ := He.ba h
  obtain ⟨h3, h4⟩ := He.ba h
  refine ⟨?_, He.eqO_ok h1, of_decide_eq_true h2, of_decide_eq_true h3, h4⟩
  split at q
  · rename_i dd cd sl ho
    split at q
    · rename_i C' bm k0 k1 k2 k3 n k5 hm hs
      simp only [Bool.and_eq_true, beq_iff_eq, Bool.not_eq_true'] at q
      obtain ⟨rfl, rfl, hdct, hdel, hr⟩ := q
      obtain ⟨nm, bs, mro, ns, qn, hd, sn, sub, ab, col, del⟩ := cd
      dsimp only at hm hdel hdct
      subst hm hdel hdct
      have hsl : sl = #[k0, k1, k2, k3, some (.builtin "ValueError.__new__"), k5] := by
        obtain ⟨l⟩ := sl
        simp only at hs
        rw [hs]
      subst hsl
      exact ⟨nm, qn, ns, bs, bm, sn, sub, ab, col, dd, k0, k1, k2, k3, k5, ho, hr⟩
    · cases q
  · cases q
theorem prB_ok {K : PySem.W.Frag} {m q : Str} (h : prB K m q = true) : PropOf K (He.ga K "Watch") m (prA K m) (prG K m) ∧ PySem.W.keepIn K (.ref (prG K m)) = true ∧ codeAt K (prG K m) q = true := by
  unfold prB at h
  obtain ⟨h1, h⟩ := He.ba h
  obtain ⟨h2, h⟩ := He.ba h
  obtain ⟨h3, h⟩ := He.ba h
  obtain ⟨h4, h⟩ := He.ba h
  obtain ⟨h5, h6⟩ := He.ba h
  refine ⟨⟨He.eqO_ok h1, He.eqO_ok h2, of_decide_eq_true h3, ?_⟩, h5, h6⟩
  unfold prG
  split at h4
  · rename_i g rest e
    rw [e]
    exact ⟨rest, rfl⟩
  · cases h4
/-- a function of the text, from what is seen -/
theorem fun_of {K : PySem.W.Frag} {x q : Str} {st : Stmt} {a : Addr} (e : fnAt K a = some (x, q, defArgs st, .stmts (defBody st), defScope st, mainGlobals, [], .none, builtinsNs)) (c : codeAt K a q = true) (k : PySem.W.keepIn K (.ref a) = true) : ∃ fd, Fun K x q st a fd := by
  unfold codeAt at c
  unfold fnAt at e
  cases l : K.lookup a with
  | none =>
    rw [l] at c
    cases c
  | some o =>
    obtain ⟨oc, od, dt, osl⟩ := o
    rw [l] at c e
    cases dt with
    | func fd =>
      obtain ⟨n1, n2, n3, n4, n5, n6, n7, n8, n9, n10, n11, n12, n13, n14, n15⟩ := fd
      have e2 : (some (n1, n2, n3, n4, n5, n6, n7, n8, n15) : He.FnV) = some (x, q, defArgs st, .stmts (defBody st), defScope st, mainGlobals, [], .none, builtinsNs) := e
      simp only [Option.some.injEq, Prod.mk.injEq] at e2
      obtain ⟨h1, h2, h3, h4, h5, h6, h7, h8, h9⟩ := e2
      subst h1 h2 h3 h4 h5 h6 h7 h8 h9
      exact ⟨_, fun_mk l c k⟩
    | _ => cases c
/-! ### the Hook -/
abbrev AlK : Type := (Bool × List He.FnV) × He.Al
def moreB (K : PySem.W.Frag) : Bool := prB K "net" "Watch.net" && (prB K "ring" "Watch.ring" && (prB K "told" "Watch.told" && (oexB K (He.ga K "NoKey") && oexB K (He.ga K "Known"))))
def obsK (K : PySem.W.Frag) : AlK := ((moreB K, [fnAt K (prG K "net"), fnAt K (prG K "ring"), fnAt K (prG K "told")]), He.obsE faL fnL K)
def valK : AlK := ((true, [some ("net", "Watch.net", defArgs s_W_net, .stmts (defBody s_W_net), defScope s_W_net, mainGlobals, [], .none, builtinsNs), some ("ring", "Watch.ring", defArgs s_W_ring, .stmts (defBody s_W_ring), defScope s_W_ring, mainGlobals, [], .none, builtinsNs), some ("told", "Watch.told", defArgs s_W_told, .stmts (defBody s_W_told), defScope s_W_told, mainGlobals, [], .none, builtinsNs)]), He.valE fnL)
def SaysK (K : PySem.W.Frag) : Prop := obsK K = valK
def adrL : List Addr := (List.range 900).reverse
def hookK : PySem.W.Hook where
  α := AlK
  obs := fun s => obsK (He.frG s.heap.get? adrL)
  val := fun _ => valK
  says := fun _ h => ∃ K : PySem.W.Frag, K.In h ∧ SaysK K
  of := fun _ _ e => ⟨_, He.frG_in, e⟩
  keeps := fun _ _ _ ⟨K, hK, c⟩ k => ⟨K, PySem.W.Frag.In.keeps hK k, c⟩
def obT (s : PySem.W.SharedT) : AlK := obsK (He.frG (HandSHeadRun.getT s) adrL)
theorem obT_eq (s : PySem.W.SharedT) : obT s = hookK.obs s.abs := by
  have e : HandSHeadRun.getT s = s.abs.heap.get? := funext (HandSHeadRun.getT_eq s)
  show obsK (He.frG (HandSHeadRun.getT s) adrL) = obsK (He.frG s.abs.heap.get? adrL)
  rw [e]
abbrev rowR : PySem.W.OpenRow := PySem.W.OpenLaw.row PySem.Challenge.rw_keyedlines_k90_whole_keys_taken_as_hours
theorem runK (w : World) : HandSHeadRun.RunEq rowR (PySem.W.view rowR.prog [114]) hookK obT 9000 looseL w := by
  intro os
  kernel_rfl
end Kl
set_option linter.all false
set_option maxRecDepth 100000
set_option maxHeartbeats 4000000
/-! # K6: loops, +, slices, isinstance, x or y -/
namespace Kl
open PySem PySem.Spec PyProof.Rows L2
section
variable {ok : Addr → Prop} {W W' W2 : Wd ok} {X : Cx} {δ : DEnv ok}
theorem wipeE_get {δ : DEnv ok} : ∀ {vs : List Nat} {i : Nat} {P : Ty ok}, (wipeE δ vs)[i]? = some (some P) → δ[i]? = some (some P)
  | [], _, _, h => h
  | v :: vs, i, P, h => by
    unfold wipeE at h
    by_cases e : v = i
    · subst e
      rw [List.getElem?_set] at h
      split at h <;> (try split at h) <;> first | cases h | exact wipeE_get h
    · rw [List.getElem?_set_ne e] at h
      exact wipeE_get h
theorem wipeE_len {δ : DEnv ok} : ∀ vs : List Nat, (wipeE δ vs).length = δ.length
  | [] => rfl
  | v :: vs => by
    unfold wipeE
    rw [List.length_set, wipeE_len vs]
theorem Sl.forget {H : Hp} {σ : L2.St} (s : Sl W H σ δ) (vs : List Nat) : Sl W H σ (wipeE δ vs) := ⟨s.j, by rw [wipeE_len, s.len], fun i P h => s.at_ i P (wipeE_get h)⟩
theorem PNv.forget {sts : List Stmt} {δ' : DEnv ok} (h : PNv W W' X sts δ δ') (vs : List Nat) : PNv W W' X sts δ (wipeE δ' vs) := ⟨fun σ H E sl q => h.run σ H E sl fun σ' H2 s sl2 => q σ' H2 s (sl2.forget vs)⟩
theorem PSn.forget {st : Stmt} {δ' : DEnv ok} (h : PSn W W' X st δ δ') (vs : List Nat) : PSn W W' X st δ (wipeE δ' vs) := ⟨fun σ H E sl q => h.run σ H E sl fun σ' H2 s sl2 => q σ' H2 s (sl2.forget vs)⟩

/-! ### for -/
section
variable {tg iter : Expr} {body rest : List Stmt} {pos : Pos} {Ts : List (Ty ok)} {P : Ty ok}
/-- a turn goes on to the next one, or hands back -/
def TurnF (W' : Wd ok) (X : Cx) (tg : Expr) (body : List Stmt) (Wi : Nat → Wd ok) (inv : Nat → DEnv ok) (Go : Nat → Prop) (P : Ty ok) (i : Nat) (T : Ty ok) : Prop :=
  ∃ (δt : DEnv ok) (ws : List Nat), PGv (Wi i) X tg (inv i) T δt ws ∧ ((Go (i + 1) ∧ ∃ (δe : DEnv ok) (vs : List Nat), PNv (Wi i) (Wi (i + 1)) X body δt δe ∧ wipeE δe vs = inv (i + 1)) ∨ PBv (Wi i) W' X body δt P)
theorem for_read (Wi : Nat → Wd ok) (inv : Nat → DEnv ok) (Go : Nat → Prop) (hi : PIv W X tg iter δ Ts) (hw : Wi 0 = W) (h0 : inv 0 = δ) (g0 : Go 0) (turn : ∀ i T, Ts[i]? = some T → Go i → TurnF W' X tg body Wi inv Go P i T) {σ : L2.St} {H : Hp} {E : Ends} (sl : Sl W H σ δ)
    (nx : ∀ σ' H2, Go Ts.length → Rel ok H H2 → Sl (Wi Ts.length) H2 σ' (inv Ts.length) → E.nx σ' H2) (rt : ∀ v H2, Rel ok H H2 → W'.J H2 → P.p H2 v → E.rt v H2) : tFor (iW X tg iter) (gW X tg) (tBW X body) E σ H := by
  refine hi.run σ H _ sl fun J G H1 s1 g1 y => ?_
  refine ⟨fun i m σ' H' => i + m = Ts.length ∧ Go i ∧ Rel ok H1 H' ∧ Sl (Wi i) H' σ' (inv i), ⟨Ts.length, Nat.zero_add _, g0, Rel.refl _, ?_⟩, ?_⟩
  · rw [hw, h0]
    exact sl.same s1
  rintro i m σ' H' ⟨hm, gi, s2, sl2⟩
  have gH : G H' := (y (Wi i)).up _ _ ⟨s2, sl2.j⟩ g1
  by_cases hlt : i < Ts.length
  · have hT : Ts[i]? = some Ts[i] := List.getElem?_eq_getElem hlt
    refine .inr ⟨(y (Wi i)).go i H' hlt sl2.j gH, fun σ3 H3 => (i + 1) + (m - 1) = Ts.length ∧ Go (i + 1) ∧ Rel ok H1 H3 ∧ Sl (Wi (i + 1)) H3 σ3 (inv (i + 1)), fun σ3 H3 h3 => ⟨m - 1, by omega, h3⟩, fun x H3 hy => ?_⟩
    obtain ⟨s3, p3⟩ := (y (Wi i)).yld i H' x H3 Ts[i] sl2.j gH hy hT
    obtain ⟨δt, ws, hg, hb⟩ := turn i Ts[i] hT gi
    refine hg.run x σ' H3 _ (sl2.same s3) p3 fun σ4 H4 s4 sl4 _ => ?_
    rcases hb with ⟨gn, δe, vs, hb, e⟩ | hb
    · refine hb.run σ4 H4 _ sl4 fun σ5 H5 s5 sl5 => ⟨by omega, gn, ((s2.trans s3.rel).trans s4.rel).trans s5, ?_⟩
      rw [← e]
      exact sl5.forget vs
    · exact hb.run σ4 H4 _ sl4 fun v H5 s5 j5 p5 => rt v H5 ((((s1.rel.trans s2).trans s3.rel).trans s4.rel).trans s5) j5 p5
  · have e : i = Ts.length := by omega
    subst e
    exact .inl ⟨(y (Wi Ts.length)).stop H' sl2.j gH, nx σ' H' gi (s1.rel.trans s2) sl2⟩
theorem bfor (Wi : Nat → Wd ok) (inv : Nat → DEnv ok) (Go : Nat → Prop) (hp : PassesOwn (model X.prog X.w) X.A X.env X.xe) (hc : X.calm = true) (hi : PIv W X tg iter δ Ts) (hw : Wi 0 = W) (h0 : inv 0 = δ) (g0 : Go 0)
    (turn : ∀ i T, Ts[i]? = some T → Go i → TurnF W' X tg body Wi inv Go P i T) (after : Go Ts.length → PBv (Wi Ts.length) W' X rest (inv Ts.length) P) (hs : ∀ x, foldedSetIterable iter X.env x = pure x := by intro _; rfl) : PBv W W' X (.For tg iter body [] pos :: rest) δ P :=
  PBv.of (pss_cons (ps_for hp hc piW pgW pbW hs) pbW) fun σ H E sl q => for_read Wi inv Go hi hw h0 g0 turn sl (fun σ' H2 g s sl2 => (after g).run σ' H2 _ sl2 fun v H3 s3 j3 p3 => q v H3 (s.trans s3) j3 p3) q
/-- every turn goes on -/
theorem sfor (Wi : Nat → Wd ok) (inv : Nat → DEnv ok) (hp : PassesOwn (model X.prog X.w) X.A X.env X.xe) (hc : X.calm = true) (hi : PIv W X tg iter δ Ts) (hw : Wi 0 = W) (h0 : inv 0 = δ)
    (turn : ∀ i T, Ts[i]? = some T → ∃ (δt : DEnv ok) (ws : List Nat) (δe : DEnv ok) (vs : List Nat), PGv (Wi i) X tg (inv i) T δt ws ∧ PNv (Wi i) (Wi (i + 1)) X body δt δe ∧ wipeE δe vs = inv (i + 1)) (hs : ∀ x, foldedSetIterable iter X.env x = pure x := by intro _; rfl) :
    PSn W (Wi Ts.length) X (.For tg iter body [] pos) δ (inv Ts.length) :=
  PSn.of (ps_for hp hc piW pgW pbW hs) fun σ H E sl q => for_read (W' := W) (P := ⟨fun _ _ => False, fun _ h => h⟩) Wi inv (fun _ => True) hi hw h0 trivial (fun i T hT _ => by
    obtain ⟨δt, ws, δe, vs, a, b, c⟩ := turn i T hT
    exact ⟨δt, ws, a, .inl ⟨trivial, δe, vs, b, c⟩⟩) sl (fun σ' H2 _ s sl2 => q σ' H2 s sl2) fun _ _ _ _ h => h.elim
end

/-! ### + of lists, of tuples -/
theorem vcatL {a b : Expr} {pos : Pos} {xs ys : List PyData} (ha : PEv W X a δ (D (.list xs))) (hb : PEv W X b δ (D (.list ys))) (hz : xs.length + ys.length ≤ 10000000) : PEv W X (.BinOp a .Add b pos) δ (D (.list (xs ++ ys))) :=
  PEv.of (pe_op op_cat peW peW) fun σ H Q sl q => ha.run σ H _ sl fun x H1 s1 p1 => hb.run σ H1 _ (sl.same s1) fun y H2 s2 p2 => by
    cases (D (ok := ok) (.list xs)).mono s2.rel p1 with
    | @lst l vs _ kl h1 r =>
      cases p2 with
      | @lst b us _ kb h2 r2 => exact ⟨l, b, vs, us, rfl, rfl, h1, h2, by rw [r.length, r2.length]; exact few hz, fun p hp => q _ _ ((s1.trans s2).trans (le_upd s2.j hp)) (.lst (W.fresh s2.j hp) upd_same ((r.append r2).same (Rel.of (same_upd hp))))⟩
theorem vcatT {a b : Expr} {pos : Pos} {xs ys : List PyData} (ha : PEv W X a δ (D (.tuple xs))) (hb : PEv W X b δ (D (.tuple ys))) (hz : xs.length + ys.length ≤ 10000000) : PEv W X (.BinOp a .Add b pos) δ (D (.tuple (xs ++ ys))) :=
  PEv.of (pe_op op_catA peW peW) fun σ H Q sl q => ha.run σ H _ sl fun x H1 s1 p1 => hb.run σ H1 _ (sl.same s1) fun y H2 s2 p2 => by
    cases (D (ok := ok) (.tuple xs)).mono s2.rel p1 with
    | @tup l vs _ kl h1 r =>
      cases p2 with
      | @tup b us _ kb h2 r2 =>
        refine ⟨l, b, vs, us, rfl, rfl, .inl h1.rd, .inl h2.rd, by rw [r.length, r2.length]; exact few hz, fun e => ?_, fun e1 e2 => ?_, fun _ _ p hp => q _ _ ((s1.trans s2).trans (le_upd s2.j hp)) (.tup (W.fresh s2.j hp) (.inl upd_same) ((r.append r2).same (Rel.of (same_upd hp))))⟩
        · subst e
          cases r
          exact q _ _ (s1.trans s2) (.tup kb h2 r2)
        · subst e2
          cases r2
          rw [List.append_nil] at *
          exact q _ _ (s1.trans s2) (.tup kl h1 r)

/-! ### slices -/
def cutD (xs : List PyData) (lo hi : Option Int) : List PyData := (xs.drop (HT.sIx xs.length 0 lo)).take (HT.sIx xs.length xs.length hi - HT.sIx xs.length 0 lo)
theorem cut_ra {H : Hp} {vs : List V} {ds : List PyData} (r : RA ok H vs ds) (lo hi : Option Int) : RA ok H (cutV vs lo hi) (cutD ds lo hi) := by
  unfold cutV cutD
  rw [r.length]
  exact (r.drop _).take _
structure POv (W : Wd ok) (X : Cx) (e : Option Expr) (δ : DEnv ok) (i : Option Int) : Prop where
  run : ∃ t : TO, PO X e t ∧ ∀ (σ : L2.St) (H : Hp) (Q : Option Int → Hp → Prop), Sl W H σ δ → (∀ H2, Le W H H2 → Q i H2) → t σ H Q
theorem onone : POv W X none δ none := ⟨_, po_none, fun σ H Q sl q => q H (Le.refl sl.j)⟩
theorem osome {e : Expr} {i : Int} (h : PEv W X e δ (D (.int i))) : POv W X (some e) δ (some i) := ⟨_, po_some peW, fun σ H Q sl q => h.run σ H _ sl fun v H2 s p => by
  cases p
  exact ⟨i, rfl, q H2 s⟩⟩
theorem vslL {e : Expr} {lo hi : Option Expr} {p2 pos : Pos} {ds : List PyData} {l h : Option Int} (he : PEv W X e δ (D (.list ds))) (hl : POv W X lo δ l) (hh : POv W X hi δ h) : PEv W X (.Subscript e (.Slice lo hi none p2) pos) δ (D (.list (cutD ds l h))) := by
  obtain ⟨tl, pl, hl⟩ := hl.run
  obtain ⟨th, ph, hh⟩ := hh.run
  refine PEv.of (pe_slice sl_list peW pl ph) fun σ H Q sl q => he.run σ H _ sl fun x H1 s1 p1 => hl σ H1 _ (sl.same s1) fun H2 s2 => hh σ H2 _ ((sl.same s1).same s2) fun H3 s3 => ?_
  cases (D (ok := ok) (.list ds)).mono (s2.trans s3).rel p1 with
  | @lst a vs _ ka h1 r => exact ⟨a, vs, rfl, SqL.of h1, fun p hp => q _ _ (((s1.trans s2).trans s3).trans (le_upd s3.j hp)) (.lst (W.fresh s3.j hp) upd_same ((cut_ra r l h).same (Rel.of (same_upd hp))))⟩
theorem vslT {e : Expr} {lo hi : Option Expr} {p2 pos : Pos} {ds : List PyData} {l h : Option Int} (he : PEv W X e δ (D (.tuple ds))) (hl : POv W X lo δ l) (hh : POv W X hi δ h) : PEv W X (.Subscript e (.Slice lo hi none p2) pos) δ (D (.tuple (cutD ds l h))) := by
  obtain ⟨tl, pl, hl⟩ := hl.run
  obtain ⟨th, ph, hh⟩ := hh.run
  refine PEv.of (pe_slice sl_tupA peW pl ph) fun σ H Q sl q => he.run σ H _ sl fun x H1 s1 p1 => hl σ H1 _ (sl.same s1) fun H2 s2 => hh σ H2 _ ((sl.same s1).same s2) fun H3 s3 => ?_
  cases (D (ok := ok) (.tuple ds)).mono (s2.trans s3).rel p1 with
  | @tup a vs _ ka h1 r =>
    refine ⟨a, vs, rfl, .inl h1.rd, fun w => q _ _ ((s1.trans s2).trans s3) ?_, fun _ p hp => q _ _ (((s1.trans s2).trans s3).trans (le_upd s3.j hp)) (.tup (W.fresh s3.j hp) (.inl upd_same) ((cut_ra r l h).same (Rel.of (same_upd hp))))⟩
    have e : cutD ds l h = ds := by
      unfold cutD
      rw [r.length] at w
      rw [w.1, w.2, Nat.sub_zero, List.drop_zero, List.take_length]
    rw [e]
    exact .tup ka h1 r
end
end Kl
set_option linter.all false
set_option maxRecDepth 100000
set_option maxHeartbeats 4000000
/-! # S1: sets of members of one kind -/
namespace Kl
open PySem PySem.Spec PyProof.Rows L2
theorem perm_unmap {α β : Type} (f : α → β) : ∀ (l : List β) (m : List α), l.Perm (m.map f) → ∃ m' : List α, l = m'.map f ∧ m'.Perm m
  | [], m, h => by
    have e : m = [] := by simpa using h.symm.eq_nil
    subst e
    exact ⟨[], rfl, List.Perm.refl _⟩
  | x :: l, m, h => by
    have hx : x ∈ m.map f := h.mem_iff.mp List.mem_cons_self
    obtain ⟨y, hy, rfl⟩ := List.mem_map.mp hx
    obtain ⟨a, b, rfl⟩ := List.append_of_mem hy
    have p1 : ((a ++ y :: b).map f).Perm (f y :: (a ++ b).map f) := by
      have z : (a ++ y :: b).Perm (y :: (a ++ b)) := List.perm_middle
      exact z.map f
    obtain ⟨m', e, p⟩ := perm_unmap f l (a ++ b) ((List.perm_cons _).mp (h.trans p1))
    exact ⟨y :: m', by rw [List.map_cons, e], (p.cons y).trans List.perm_middle.symm⟩
/-- the object that set() lays -/
def newSet (w : World) : Obj := { cls := .type "set", dict := none, data := .set #[] 0 (.fresh 0 0 (!w.params.followText "set-order")) }
/-- all that stood stands -/
def Kept (h h' : Heap) : Prop := ∀ b o, h.get? b = some o → h'.get? b = some o
theorem Kept.trans {h h' h'' : Heap} (a : Kept h h') (b : Kept h' h'') : Kept h h'' := fun c o e => b c o (a c o e)
/-- members of one kind, and the sets of them -/
structure SK (P : Program) (w : World) (κ : Type) where
  is : Heap → κ → Value → Prop
  hash : κ → Int
  draws : κ → Nat
  rep : Heap → Addr → List (Value × κ) → Prop
  keepIs : ∀ {h h' : Heap} {k : κ} {v : Value}, is h k v → Kept h h' → is h' k v
  inj : ∀ {h : Heap} {k k' : κ} {v : Value}, is h k v → is h k' v → k = k'
  pyHash : ∀ {A : Around} {E : Value → Shared → Prop} {s : Shared} {k : κ} {v : Value} {Q : Int → Shared → Prop}, A.units < cLine → is s.heap k v → Q (hash k) { s with toks := s.toks + draws k } → wpAny (model P w) A (PySem.pyHash v) Q E s
  fresh : ∀ {h : Heap} {a : Addr}, h.get? a = some (newSet w) → rep h a []
  keepRep : ∀ {h h' : Heap} {a : Addr} {L : List (Value × κ)}, rep h a L → (∀ o, h.get? a = some o → h'.get? a = some o) → (∀ p ∈ L, is h' p.2 p.1) → rep h' a L
  add : ∀ {A : Around} {E : Value → Shared → Prop} {s : Shared} {a : Addr} {L : List (Value × κ)} {k : κ} {v : Value} {Q : Bool → Shared → Prop}, rep s.heap a L → is s.heap k v → A.units < cLine → L.length + 1 < 64 →
    (∀ b h' L', Heap.SameBut a s.heap h' → rep h' a L' → (k ∈ L.map (·.2) → L' = L) → (k ∉ L.map (·.2) → L'.Perm ((v, k) :: L)) → Q b { s with heap := h' }) → wpAny (model P w) A (setAddHashed a v (hash k)) Q E s
  out : ∀ {h : Heap} {a : Addr} {L : List (Value × κ)}, rep h a L → ∃ (o : Obj) (es : Array (Int × Value)) (ep : Nat) (t : SetTable), h.get? a = some o ∧ o.ExactSet ∧ o.data = .set es ep t ∧ t.fits es.size = true ∧ es.size < scanBound ∧ Ris t.place.toList ∧
    (w.params.followText "set-order" = true ∨ t.led = true) ∧ es.toList.map (·.2) = L.map (·.1) ∧ (L.map (·.2)).Nodup ∧ ∀ p ∈ L, is h p.2 p.1

/-- what the set has of the first i items -/
structure Has {κ : Type} (ks : List (Value × κ)) (i : Nat) (L : List (Value × κ)) : Prop where
  sub : ∀ p ∈ L, p ∈ ks.take i
  all : ∀ p ∈ ks.take i, p.2 ∈ L.map (·.2)
  len : L.length ≤ i
theorem Has.zero {κ : Type} (ks : List (Value × κ)) : Has ks 0 [] := ⟨fun p h => (nomatch h), fun p h => by simp at h, Nat.le_refl _⟩
theorem Has.step {κ : Type} {ks L L' : List (Value × κ)} {i : Nat} {p : Value × κ} (g : Has ks i L) (h : ks[i]? = some p) (h1 : p.2 ∈ L.map (·.2) → L' = L) (h2 : p.2 ∉ L.map (·.2) → L'.Perm (p :: L)) : Has ks (i + 1) L' := by
  have e : ks.take (i + 1) = ks.take i ++ [p] := by rw [List.take_succ, h]; rfl
  rcases Classical.em (p.2 ∈ L.map (·.2)) with c | c
  · rw [h1 c]
    refine ⟨fun q hq => ?_, fun q hq => ?_, Nat.le_succ_of_le g.len⟩
    · rw [e]
      exact List.mem_append_left _ (g.sub q hq)
    · rw [e] at hq
      rcases List.mem_append.mp hq with z | z
      · exact g.all q z
      · rw [List.mem_singleton.mp z]
        exact c
  · have pm := h2 c
    refine ⟨fun q hq => ?_, fun q hq => ?_, ?_⟩
    · rw [e]
      rcases List.mem_cons.mp (pm.mem_iff.mp hq) with z | z
      · rw [z]
        exact List.mem_append_right _ (List.mem_singleton.mpr rfl)
      · exact List.mem_append_left _ (g.sub q z)
    · rw [(pm.map (·.2)).mem_iff, List.map_cons]
      rw [e] at hq
      rcases List.mem_append.mp hq with z | z
      · exact List.mem_cons_of_mem _ (g.all q z)
      · rw [List.mem_singleton.mp z]
        exact List.mem_cons_self
    · rw [pm.length_eq, List.length_cons]
      exact Nat.succ_le_succ g.len

section
variable {P : Program} {w : World} {κ : Type} (C : SK P w κ) {A : Around} {E : Value → Shared → Prop} {s : Shared}
/-- the loop of set.update: item after item is added -/
theorem loopK {I : Addr} {fp wr : List Addr} {G : Array GenState → Array GenState → Prop} {n : Nat} {Pv : Nat → Value → Prop} {St : Nat → Shared → Prop} {R : Result → Shared → Prop} (W : WalksS P w A.in1 I fp wr G n Pv St) {S : Addr} (hS : S ∉ fp) {ks : List (Value × κ)} (hn : n = ks.length) (hf : ks.length < 64)
    (hval : ∀ i v, Pv i v → ∃ p, ks[i]? = some p ∧ v = p.1) {h0 : Heap} (hk : ∀ p ∈ ks, C.is h0 p.2 p.1) (hS0 : h0.get? S = none) (hw : ∀ b ∈ wr, h0.get? b = none) (hu : A.in1.units < cLine) :
    ∀ (k i : Nat) (s : Shared), n - i = k → i ≤ n → St i s → Kept h0 s.heap → (∃ L, C.rep s.heap S L ∧ Has ks i L) → (∀ s' L, Moved (S :: wr) G s s' → C.rep s'.heap S L → Has ks n L → Kept h0 s'.heap → R (.ok (.ret .none)) s') →
      codeAny (model P w) A (.builtin "set.update.loop" ⟨[.ref S, .ref I], []⟩) R s := by
  have hSw : S ∉ wr := fun z => hS (W.sub _ z)
  have up : ∀ b ∈ wr, b ∈ S :: wr := fun b hb => List.mem_cons_of_mem _ hb
  have mv : ∀ {s s' : Shared}, Moved wr G s s' → Kept h0 s.heap → Kept h0 s'.heap := fun m hp b o e => m.heap b o (fun z => by rw [hw b z] at e; cases e) (hp b o e)
  have stay : ∀ {s s' : Shared} {L : List (Value × κ)} {i : Nat}, Moved wr G s s' → Kept h0 s'.heap → C.rep s.heap S L → Has ks i L → C.rep s'.heap S L := fun m hp r g =>
    C.keepRep r (fun o e => m.heap S o hSw e) fun p hpL => C.keepIs (hk p (List.mem_of_mem_take (g.sub p hpL))) hp
  intro k
  induction k with
  | zero =>
    intro i s hki hi hst hkp ⟨L, r, g⟩ hR
    have hin : i = n := by omega
    subst hin
    refine codeAny_builtin F.entry_set_update_loop ?_
    rw [Around.under_plainId F.plain_set_update_loop _]
    show wpAny _ A.in1 (pyNext (.ref I) >>= _) _ _ s
    refine wpAny_bind (W.done s _ _ hst fun s' m => ?_)
    show wpAny _ A.in1 (ret Value.none) _ _ s'
    exact wpAny_pure (hR s' L (m.mono up) (stay m (mv m hkp) r g) g (mv m hkp))
  | succ k ih =>
    intro i s hki hi hst hkp ⟨L, r, g⟩ hR
    have hlt : i < n := by omega
    refine codeAny_builtin F.entry_set_update_loop ?_
    rw [Around.under_plainId F.plain_set_update_loop _]
    show wpAny _ A.in1 (pyNext (.ref I) >>= _) _ _ s
    refine wpAny_bind (W.item i s _ _ hlt hst fun v s' hP hst' m => ?_)
    obtain ⟨p, hp, rfl⟩ := hval i v hP
    have kp := mv m hkp
    have r' := stay m kp r g
    have hx : C.is s'.heap p.2 p.1 := C.keepIs (hk p (List.mem_of_getElem? hp)) kp
    show wpAny _ A.in1 (holding [p.1] (setAdd S p.1) >>= _) _ _ s'
    refine wpAny_bind (wpAny_holding ?_)
    unfold setAdd
    refine wpAny_holding (wpAny_bind (C.pyHash hu hx ?_))
    refine C.add (s := { s' with toks := s'.toks + C.draws p.2 }) r' hx hu (by have := g.len; omega) fun b h' L' sb r2 c1 c2 => ?_
    have kp2 : Kept h0 h' := fun b o e => (sb.2 b (fun z => by rw [z, hS0] at e; cases e)).trans (kp b o e)
    refine wpAny_pure ⟨plainId_quiet F.plain_set_update_loop _, ih (i + 1) _ (by omega) hlt (W.frame _ s' _ _ hst' (Nat.le_add_right _ _) fun b hb o e => ?_) kp2 ⟨L', r2, g.step hp c1 c2⟩ fun s'' L2 m2 r3 g3 kp3 => ?_⟩
    · rw [sb.2 b (fun z : b = S => hS (by rw [← z]; exact hb))]
      exact e
    · refine hR s'' L2 (Moved.trans W.gtrans ((m.mono up).then_heap (Nat.le_add_right _ _) fun b o hb e => ?_) m2) r3 g3 kp3
      rw [sb.2 b (fun z : b = S => hb (by rw [z]; exact List.mem_cons_self))]
      exact e
end
end Kl
set_option linter.all false
set_option maxRecDepth 100000
set_option maxHeartbeats 4000000
/-! # S4: members that are scanned (texts, ints) -/
namespace Kl
open PySem PySem.Spec PyProof.Rows L2
section
variable {P : Program} {w : World} {κ : Type} [DecidableEq κ] (knd : PySem.KeyKind P w κ)
/-- the members with their hashes -/
def hrows (hash : κ → Int) (L : List (Value × κ)) : List (Int × Value) := L.map fun p => (hash p.2, p.1)
/-- the set at a has the members L, scanned -/
def ScanRep (h : Heap) (a : Addr) (L : List (Value × κ)) : Prop := ∃ (o : Obj) (es : Array (Int × Value)) (ep : Nat) (t : SetTable), h.get? a = some o ∧ o.ExactSet ∧ o.data = .set es ep t ∧ t.fits es.size = true ∧ Ris t.place.toList ∧
  (w.params.followText "set-order" = true ∨ t.led = true) ∧ es.toList = hrows knd.hash L ∧ (L.map (·.2)).Nodup ∧ L.length < 64 ∧ ∀ p ∈ L, knd.is p.2 p.1 = true
variable {knd}
theorem hrows_size {es : Array (Int × Value)} {hash : κ → Int} {L : List (Value × κ)} (h : es.toList = hrows hash L) : es.size = L.length := by
  have q := congrArg List.length h
  unfold hrows at q
  rw [Array.length_toList, List.length_map] at q
  exact q
theorem scan_elems (hs : ∀ k v, knd.is k v = true → v.scannable = true) {L : List (Value × κ)} (h : ∀ p ∈ L, knd.is p.2 p.1 = true) : ElemsOf knd (hrows knd.hash L) := fun e he => by
  obtain ⟨p, hp, rfl⟩ := List.mem_map.mp he
  exact ⟨⟨p.2, h p hp, rfl⟩, hs _ _ (h p hp)⟩
section
variable {A : Around} {E : Value → Shared → Prop} {s : Shared} {a : Addr}
/-- what the set becomes when the new member is laid, and laid anew when it is too full -/
theorem scan_tail {g : Bool → Sem Unit} (hg : ∀ (b : Bool) (s₁ : Shared) (Q' : Unit → Shared → Prop), Q' () s₁ → wpAny (model P w) A (g b) Q' E s₁) {o : Obj} {es : Array (Int × Value)} {ep : Nat} {t : SetTable} (ho : s.heap.get? a = some o) (hex : o.ExactSet) (hd : o.data = .set es ep t)
    {es1 : Array (Int × Value)} {t1 : SetTable} {L1 : List (Value × κ)} (hrw : es1.toList = hrows knd.hash L1) (nd : (L1.map (·.2)).Nodup) (hlt : L1.length < 64) (his : ∀ p ∈ L1, knd.is p.2 p.1 = true) (hf : t1.fits es1.size = true) (hr : Ris t1.place.toList)
    (hl : w.params.followText "set-order" = true ∨ t1.led = true) {wasDummy : Bool} {R : Option Bool → Shared → Prop} (hR : ∀ h' L', Heap.SameBut a s.heap h' → ScanRep knd h' a L' → L'.Perm L1 → R (some true) { s with heap := h' }) :
    wpAny (model P w) A (do
      storeSet a es1 t1
      if (!wasDummy && t1.tooFull) = true then do
        g (relayAll t1 es1 (SetTable.grown es1.size)).2.2
        storeSet a (relayAll t1 es1 (SetTable.grown es1.size)).1 (relayAll t1 es1 (SetTable.grown es1.size)).2.1
        pure (some true)
      else pure (some true)) R E s := by
  have hb : es1.size < scanBound := by
    rw [hrows_size hrw]
    unfold scanBound
    omega
  refine wpAny_bind (wpAny_storeSet_of ho hd ?_ (fits_of_scanBound hb))
  have ho1 := L2.store_at (es' := es1) (t' := t1) ho hd
  have sb := Heap.SameBut.update s.heap a (Obj.putSet es1 t1)
  split
  · have pm := relayAll_perm t1 es1 (SetTable.grown es1.size)
    have f3 := relayAll_fits t1 es1 (SetTable.grown es1.size)
    have r3 := relayAll_ris t1 es1 (SetTable.grown es1.size)
    have l3 := relayAll_led t1 es1 (SetTable.grown es1.size)
    generalize relayAll t1 es1 (SetTable.grown es1.size) = Z at pm f3 r3 l3 ⊢
    obtain ⟨es2, t2, gv⟩ := Z
    dsimp only at pm f3 r3 l3 ⊢
    rw [hrw] at pm
    obtain ⟨M, e2, p2⟩ := perm_unmap (fun p : Value × κ => (knd.hash p.2, p.1)) es2.toList L1 pm
    have hs2 : es2.size = M.length := hrows_size e2
    refine wpAny_bind (hg _ _ _ (wpAny_bind (wpAny_storeSet_of ho1 rfl ?_ (fits_of_scanBound (by rw [hs2, p2.length_eq]; unfold scanBound; omega)))))
    have ho2 := L2.store_at (es' := es2) (t' := t2) ho1 rfl
    refine wpAny_pure (hR _ M (sb.trans (Heap.SameBut.update _ a _)) ⟨_, es2, _, t2, ho2, hex, rfl, f3, r3, hl.imp id fun z => by rw [l3]; exact z, e2, (p2.map (·.2)).nodup_iff.mpr nd, by rw [p2.length_eq]; exact hlt, fun p hp => his p (p2.mem_iff.mp hp)⟩ p2)
  · exact wpAny_pure (hR _ L1 sb ⟨_, es1, _, t1, ho1, hex, rfl, hf, hr, hl, hrw, nd, hlt, his⟩ (List.Perm.refl _))
theorem scan_add (hs : ∀ k v, knd.is k v = true → v.scannable = true) {L : List (Value × κ)} {k : κ} {v : Value} {Q : Bool → Shared → Prop} (R : ScanRep knd s.heap a L) (hv : knd.is k v = true) (hroom : L.length + 1 < 64)
    (hQ : ∀ b h' L', Heap.SameBut a s.heap h' → ScanRep knd h' a L' → (k ∈ L.map (·.2) → L' = L) → (k ∉ L.map (·.2) → L'.Perm ((v, k) :: L)) → Q b { s with heap := h' }) : wpAny (model P w) A (setAddHashed a v (knd.hash k)) Q E s := by
  obtain ⟨o, es, ep, t, ho, hex, hd, hf, hr, hl, hrw, nd, hlt, his⟩ := id R
  have hsz := hrows_size hrw
  have hb : es.size < scanBound := by
    rw [hsz]
    unfold scanBound
    omega
  have hel : ElemsOf knd es.toList := by
    rw [hrw]
    exact scan_elems hs his
  unfold setAddHashed setAddHashedIn
  refine wpAny_holding (wpAny_bind (wpAny_setState_of ho hd hf ?_))
  dsimp only
  rw [byScan_of (hs _ _ hv) hb hel]
  simp only [↓reduceIte]
  unfold setAddByScan
  refine wpAny_bind (wpAny_bind (wpAny_rule (wpAny_bind (wpAny_setScan_of hv ho hd hf hel ?_))))
  have mem : ∀ {e : Int × Value}, e ∈ es.toList → knd.is k e.2 = true → k ∈ L.map (·.2) := fun {e} he hk => by
    rw [hrw] at he
    obtain ⟨p, hp, rfl⟩ := List.mem_map.mp he
    exact List.mem_map.mpr ⟨p, hp, knd.inj _ _ _ (his p hp) hk⟩
  cases hfi : List.findIdx? (fun e => knd.is k e.2) es.toList with
  | some j =>
    dsimp only
    obtain ⟨hj, pj, _⟩ := List.findIdx?_eq_some_iff_getElem.mp hfi
    exact wpAny_pure (wpAny_pure (hQ _ s.heap L (Heap.SameBut.refl a s.heap) R (fun _ => rfl) fun z => absurd (mem (List.getElem_mem hj) pj) z))
  | none =>
    dsimp only
    have hnk : k ∉ L.map (·.2) := fun z => by
      obtain ⟨p, hp, rfl⟩ := List.mem_map.mp z
      have hm : (knd.hash p.2, p.1) ∈ es.toList := by
        rw [hrw]
        exact List.mem_map.mpr ⟨p, hp, rfl⟩
      have c := List.findIdx?_eq_none_iff.mp hfi _ hm
      have d := his p hp
      rw [d] at c
      cases c
    have hgw : ∀ (b : Bool) {s₁ : Shared} {Q' : Unit → Shared → Prop}, Q' () s₁ → wpAny (model P w) A (match b with | true => rule "set.scan.the-table-gave-way" | false => pure ()) Q' E s₁ := fun b s₁ Q' q => by
      cases b
      · exact wpAny_pure q
      · exact wpAny_rule q
    have pm := layNew_perm t es (knd.hash k) v
    have f1 := layNew_fits t es (knd.hash k) v
    have r1 := layNew_ris t es (knd.hash k) v hr
    have l1 := layNew_led t es (knd.hash k) v
    generalize layNew t es (knd.hash k) v = Z at pm f1 r1 l1 ⊢
    obtain ⟨es1, t1, wd, gv⟩ := Z
    dsimp only at pm f1 r1 l1 ⊢
    rw [Array.toList_push, hrw] at pm
    obtain ⟨L1, e1, p1⟩ := perm_unmap (fun p : Value × κ => (knd.hash p.2, p.1)) es1.toList ((v, k) :: L) (pm.trans (List.perm_append_singleton _ _))
    have nd1 : (L1.map (·.2)).Nodup := (p1.map (·.2)).nodup_iff.mpr (List.nodup_cons.mpr ⟨hnk, nd⟩)
    have lt1 : L1.length < 64 := by
      rw [p1.length_eq]
      exact hroom
    have is1 : ∀ p ∈ L1, knd.is p.2 p.1 = true := fun p hp => by
      rcases List.mem_cons.mp (p1.mem_iff.mp hp) with z | z
      · rw [z]
        exact hv
      · exact his p z
    have led1 : w.params.followText "set-order" = true ∨ t1.led = true := hl.imp id fun z => by
      rw [l1]
      exact z
    have fin : ∀ h' L', Heap.SameBut a s.heap h' → ScanRep knd h' a L' → L'.Perm L1 → Q true { s with heap := h' } := fun h' L' sb r p => hQ true h' L' sb r (fun z => absurd z hnk) fun _ => p.trans p1
    refine wpAny_bind (hgw _ ?_)
    split
    · refine wpAny_bind ?_
      rw [hashByValue_scannable 8 (hs _ _ hv)]
      refine wpAny_pure ?_
      refine scan_tail (knd := knd) (L1 := L1) ?_ ho hex hd e1 nd1 lt1 is1 ?_ ?_ ?_ ?_
      · intro b s₁ Q' q
        cases b
        · exact wpAny_pure q
        · exact wpAny_rule q
      · first
          | exact f1
          | (split <;> first | exact f1 | exact SetTable.fits_plain_off f1)
      · first
          | exact r1
          | (split <;> exact r1)
      · first
          | exact led1
          | (split <;> exact led1)
      · intro h' L' sb r p
        dsimp only
        exact wpAny_pure (fin h' L' sb r p)
    · refine wpAny_bind (wpAny_pure ?_)
      simp only [↓reduceIte]
      refine scan_tail (knd := knd) (L1 := L1) ?_ ho hex hd e1 nd1 lt1 is1 f1 r1 led1 ?_
      · intro b s₁ Q' q
        cases b
        · exact wpAny_pure q
        · exact wpAny_rule q
      · intro h' L' sb r p
        dsimp only
        exact wpAny_pure (fin h' L' sb r p)
end
variable (knd)
/-- sets of members that are scanned -/
def scanK (hs : ∀ k v, knd.is k v = true → v.scannable = true) : SK P w κ where
  is := fun _ k v => knd.is k v = true
  hash := knd.hash
  draws := fun _ => 1
  rep := ScanRep knd
  keepIs := fun h _ => h
  inj := fun h1 h2 => knd.inj _ _ _ h1 h2
  pyHash := fun _ h q => knd.pyHash h q
  fresh := fun {h a} ho => ⟨_, #[], 0, .fresh 0 0 (!w.params.followText "set-order"), ho, ⟨rfl, rfl, rfl⟩, rfl, rfl, List.Pairwise.nil, by
    show _ ∨ (!w.params.followText "set-order") = true
    cases w.params.followText "set-order"
    · exact .inr rfl
    · exact .inl rfl, rfl, List.nodup_nil, Nat.zero_lt_succ 63, fun p hp => (nomatch hp)⟩
  keepRep := fun ⟨o, es, ep, t, ho, r⟩ k _ => ⟨o, es, ep, t, k o ho, r⟩
  add := fun R hv _ hroom hQ => scan_add hs R hv hroom hQ
  out := fun {h a L} ⟨o, es, ep, t, ho, hex, hd, hf, hr, hl, hrw, nd, hlt, his⟩ => ⟨o, es, ep, t, ho, hex, hd, hf, by
    rw [hrows_size hrw]
    unfold scanBound
    omega, hr, hl, by
    rw [hrw]
    unfold hrows
    rw [List.map_map]
    rfl, nd, his⟩
end
end Kl
set_option linter.all false
set_option maxRecDepth 100000
set_option maxHeartbeats 4000000
/-! # S5: members that are searched by hash and == (tuples) -/
namespace Kl
open PySem PySem.Spec PyProof.Rows L2
/-- what a search asks of the members -/
structure FK (P : Program) (w : World) (κ : Type) [DecidableEq κ] where
  is : Heap → κ → Value → Prop
  hash : κ → Int
  draws : κ → Nat
  keepIs : ∀ {h h' : Heap} {k : κ} {v : Value}, is h k v → Kept h h' → is h' k v
  keepSet : ∀ {h h' : Heap} {k : κ} {v : Value} {a : Addr} {o : Obj} {es : Array (Int × Value)} {ep : Nat} {t : SetTable}, is h k v → h.get? a = some o → o.data = .set es ep t → Heap.SameBut a h h' → is h' k v
  inj : ∀ {h : Heap} {k k' : κ} {v : Value}, is h k v → is h k' v → k = k'
  noScan : ∀ {h : Heap} {k : κ} {v : Value}, is h k v → v.scannable = false
  pyHash : ∀ {A : Around} {E : Value → Shared → Prop} {s : Shared} {k : κ} {v : Value} {Q : Int → Shared → Prop}, A.units < cLine → is s.heap k v → Q (hash k) { s with toks := s.toks + draws k } → wpAny (model P w) A (PySem.pyHash v) Q E s
  eq : ∀ {A : Around} {E : Value → Shared → Prop} {s : Shared} {k k' : κ} {v v' : Value} {Q : Bool → Shared → Prop}, A.units < cLine → is s.heap k v → is s.heap k' v' → Q (decide (k = k')) s → wpAny (model P w) A (eqBool v v') Q E s
  byValue : ∀ {A : Around} {E : Value → Shared → Prop} {s : Shared} {k : κ} {v : Value} {Q : Bool → Shared → Prop}, is s.heap k v → (∀ b, Q b s) → wpAny (model P w) A (hashByValue 8 v) Q E s
  unseen : ∀ {A : Around} {E : Value → Shared → Prop} {s : Shared} {k : κ} {v : Value} {ys : List Value} {Q : Bool → Shared → Prop}, is s.heap k v → (∀ y ∈ ys, ∃ k', is s.heap k' y) → Q false s → wpAny (model P w) A (searchCouldBeSeen v ys) Q E s
  self : ∀ {A : Around} {E : Value → Shared → Prop} {s : Shared} {k : κ} {v : Value} {Q : Bool → Shared → Prop}, is s.heap k v → Q true s → wpAny (model P w) A (isSame v v) Q E s
section
variable {P : Program} {w : World} {κ : Type} [DecidableEq κ] (C : FK P w κ)
structure FRep (h : Heap) (a : Addr) (L : List (Value × κ)) (o : Obj) (es : Array (Int × Value)) (ep : Nat) (t : SetTable) : Prop where
  ho : h.get? a = some o
  ex : o.ExactSet
  hd : o.data = .set es ep t
  rows : es.toList = hrows C.hash L
  tab : TabOk t (L.map fun p => C.hash p.2)
  nd : (L.map (·.2)).Nodup
  is : ∀ p ∈ L, C.is h p.2 p.1
  led : w.params.followText "set-order" = true ∨ t.led = true
  room : L.length * 5 < t.mask * 3
  few : L.length < 64
variable {C} {A : Around} {E : Value → Shared → Prop} {s : Shared} {a : Addr} {L : List (Value × κ)} {o : Obj} {es : Array (Int × Value)} {ep : Nat} {t : SetTable}
theorem FRep.fits (R : FRep C s.heap a L o es ep t) : t.fits es.size = true := by
  have h1 := R.tab.sz
  rw [List.length_map] at h1
  have h2 := hrows_size R.rows
  have h3 := R.room
  unfold SetTable.fits SetTable.fill
  rw [R.tab.dm, Bool.and_eq_true, beq_iff_eq, decide_eq_true_eq]
  show t.place.size = es.size ∧ t.place.size + 0 ≤ t.mask
  omega
theorem FRep.entry (R : FRep C s.heap a L o es ep t) {i : Nat} {p : Value × κ} (h : L[i]? = some p) : es[i]? = some (C.hash p.2, p.1) := by
  rw [← Array.getElem?_toList, R.rows]
  unfold hrows
  rw [List.getElem?_map, h]
  rfl
theorem FRep.steady (R : FRep C s.heap a L o es ep t) : t.gaveWay = false := by
  unfold SetTable.gaveWay
  rw [mask_odd R.tab.mok]
  rfl
theorem no_dummy (m : Nat) : ∀ (n : Nat) (p : SetTable.Probe), p.dummy = none → (nth m p n).dummy = none
  | 0, _, h => h
  | n + 1, p, h => no_dummy m n (adv m p) (by unfold adv; split <;> exact h)
/-- the start of the way of a hash -/
abbrev wayAt (m : Nat) (h : Int) : SetTable.Probe := runAt m (SetTable.bits h % (m + 1)) (SetTable.bits h)
/-- the search goes on from the c-th step of the way; K is the first empty slot -/
theorem seek (R : FRep C s.heap a L o es ep t) {v : Value} {k : κ} (hx : C.is s.heap k v) (hu : A.units < cLine) {K : Nat} (hKf : K < 10 * SetTable.turns t.mask) (hK : way t.mask (C.hash k) K ∉ t.place.toList) (hKb : ∀ c, c < K → way t.mask (C.hash k) c ∈ t.place.toList)
    {Q : SetFound → Shared → Prop} (hin : k ∈ L.map (·.2) → Q (.there none) s) (hout : k ∉ L.map (·.2) → Q (.free (way t.mask (C.hash k) K) false) s) :
    ∀ (f c : Nat) (stand : Option SetTable.Probe), stand.getD (t.probeStart (C.hash k)) = nth t.mask (wayAt t.mask (C.hash k)) c → c ≤ K → K - c < f → (∀ (i : Nat) (p : Value × κ), L[i]? = some p → p.2 = k → ∃ c', c ≤ c' ∧ c' < K ∧ t.place.toList[i]? = some (way t.mask (C.hash k) c')) →
      wpAny (model P w) A (setSearchFrom a v (C.hash k) true f stand) Q E s
  | 0, _, _, _, _, hf, _ => absurd hf (Nat.not_lt_zero _)
  | f + 1, c, stand, hst, hc, hf, hre => by
    rw [setSearchFrom_succ]
    refine wpAny_bind (wpAny_setState_of R.ho R.hd R.fits ?_)
    dsimp only
    refine wp_if_neg (by rw [R.steady]; exact Bool.false_ne_true) ?_
    try refine wpAny_bind (wpAny_pure ?_)
    have sh : ∀ q, (nth t.mask (nth t.mask (wayAt t.mask (C.hash k)) c) q) = nth t.mask (wayAt t.mask (C.hash k)) (c + q) := fun q => (nth_add t.mask c _ q).symm
    have shj : ∀ q, (nth t.mask (nth t.mask (wayAt t.mask (C.hash k)) c) q).j = way t.mask (C.hash k) (c + q) := fun q => congrArg SetTable.Probe.j (sh q)
    have hashAt : ∀ (i : Nat) (p : Value × κ), L[i]? = some p → (fun i => (es[i]?.map (·.1)).getD 0) i = C.hash p.2 := fun i p hp => by
      show (es[i]?.map (·.1)).getD 0 = _
      rw [R.entry hp]
      rfl
    rcases go_spec t R.tab.ris R.tab.dm (fun i => (es[i]?.map (·.1)).getD 0) (C.hash k) (10 * SetTable.turns t.mask) (K - c) (nth t.mask (wayAt t.mask (C.hash k)) c) (no_dummy _ c _ rfl) (by omega) (fun q hq => by rw [shj]; exact hKb (c + q) (by omega))
        (by rw [shj, show c + (K - c) = K by omega]; exact hK) with ⟨q, i, hq, hi, hh, hno, hpr⟩ | ⟨hno, hpr⟩
    · have e1 : t.probe (fun i => (es[i]?.map (·.1)).getD 0) (C.hash k) (stand.getD (t.probeStart (C.hash k))) = some (.candidate (way t.mask (C.hash k) (c + q)) i (nth t.mask (wayAt t.mask (C.hash k)) (c + (q + 1)))) := by
        rw [hst, ← shj, ← sh]
        exact hpr
      rw [e1]
      dsimp only
      rw [shj] at hi
      have hil : i < L.length := by
        have h1 : i < t.place.toList.length := (List.getElem?_eq_some_iff.mp hi).1
        have h2 := R.tab.sz
        rw [List.length_map] at h2
        rw [Array.length_toList] at h1
        omega
      obtain ⟨p, hp⟩ : ∃ p, L[i]? = some p := ⟨_, List.getElem?_eq_getElem hil⟩
      have hm : p ∈ L := List.mem_of_getElem? hp
      have rest : wpAny (model P w) A (searchRest a v (C.hash k) true f es t (way t.mask (C.hash k) (c + q)) i (nth t.mask (wayAt t.mask (C.hash k)) (c + (q + 1)))) Q E s := by
        unfold searchRest
        rw [R.entry hp]
        dsimp only
        refine wpAny_bind (wpAny_holding (C.eq hu (R.is p hm) hx ?_))
        refine wpAny_bind (wpAny_setState_of R.ho R.hd R.fits ?_)
        dsimp only
        by_cases hkk : p.2 = k
        · exact wp_if_pos (by simp [hkk]) (wpAny_pure (hin (List.mem_map.mpr ⟨p, hm, hkk⟩)))
        · refine wp_if_neg (by simp [hkk]) ?_
          try refine wpAny_bind (wpAny_pure ?_)
          rw [sameMem]
          dsimp only
          have hsl : t.slot (way t.mask (C.hash k) (c + q)) = .live i := slot_live R.tab.ris hi
          simp only [if_true, hsl, R.entry hp]
          refine wpAny_bind (C.self (R.is p hm) (wpAny_bind (wpAny_pure ?_)))
          simp only [if_true]
          refine wp_if_neg (by simp [hkk]) (seek R hx hu hKf hK hKb hin hout f (c + (q + 1)) _ rfl (by omega) (by omega) fun i0 p0 h0 hk0 => ?_)
          obtain ⟨c', a1, a2, a3⟩ := hre i0 p0 h0 hk0
          refine ⟨c', ?_, a2, a3⟩
          have hh0 : (fun i => (es[i]?.map (·.1)).getD 0) i0 = C.hash k := (hashAt i0 p0 h0).trans (congrArg C.hash hk0)
          rcases Nat.lt_trichotomy c' (c + q) with z | z | z
          · exact absurd hh0 (hno (c' - c) i0 (by omega) (by rw [shj, show c + (c' - c) = c' by omega]; exact a3))
          · rw [z] at a3
            have s0 := slot_live R.tab.ris a3
            rw [hsl] at s0
            injection s0 with s0
            rw [← s0, hp] at h0
            exact absurd ((congrArg Prod.snd (Option.some.inj h0)).trans hk0) hkk
          · omega
      by_cases hl : t.led = true
      · refine wp_if_neg (by simp [hl]) ?_
        try refine wpAny_bind (wpAny_pure ?_)
        exact rest
      · refine wp_if_pos (by simp [hl]) (wpAny_bind (C.unseen hx (fun y hy => ?_) ?_))
        · obtain ⟨e, he, rfl⟩ := List.mem_map.mp hy
          have he1 : e ∈ es ∧ e.1 = C.hash k := by simpa using he
          have he2 : e ∈ es.toList := by simpa using he1.1
          rw [R.rows] at he2
          obtain ⟨p2, hp2, rfl⟩ := List.mem_map.mp he2
          exact ⟨p2.2, R.is p2 hp2⟩
        · refine wp_if_neg (by decide) ?_
          try refine wpAny_bind (wpAny_pure ?_)
          exact rest
    · have e1 : t.probe (fun i => (es[i]?.map (·.1)).getD 0) (C.hash k) (stand.getD (t.probeStart (C.hash k))) = some (.empty (way t.mask (C.hash k) K) none) := by
        have e2 : way t.mask (C.hash k) K = (nth t.mask (nth t.mask (wayAt t.mask (C.hash k)) c) (K - c)).j := by rw [shj, show c + (K - c) = K by omega]
        rw [hst, e2]
        exact hpr
      rw [e1]
      dsimp only
      refine wpAny_pure (hout fun hm => ?_)
      obtain ⟨p0, h0, hk0⟩ := List.mem_map.mp hm
      obtain ⟨i0, hi0, e0⟩ := List.getElem_of_mem h0
      have h00 : L[i0]? = some p0 := by rw [List.getElem?_eq_getElem hi0, e0]
      obtain ⟨c', a1, a2, a3⟩ := hre i0 p0 h00 hk0
      exact hno (c' - c) i0 (by omega) (by rw [shj, show c + (c' - c) = c' by omega]; exact a3) ((hashAt i0 p0 h00).trans (congrArg C.hash hk0))
theorem seekNew (R : FRep C s.heap a L o es ep t) {v : Value} {k : κ} (hx : C.is s.heap k v) (hu : A.units < cLine) {Q : SetFound → Shared → Prop} (hin : k ∈ L.map (·.2) → Q (.there none) s)
    (hout : ∀ K, k ∉ L.map (·.2) → way t.mask (C.hash k) K ∉ t.place.toList → (∀ c, c < K → way t.mask (C.hash k) c ∈ t.place.toList) → Q (.free (way t.mask (C.hash k) K) false) s) : wpAny (model P w) A (setSearch a v (C.hash k) true) Q E s := by
  have hroom := R.room
  obtain ⟨K, hKf, hK, hKb⟩ := R.tab.first (by rw [List.length_map]; omega) (C.hash k)
  have hbig : K < 100000 := by
    have z : 10 * SetTable.turns t.mask ≤ 1420 := by
      unfold SetTable.turns
      rcases R.tab.mok with e | e | e <;> omega
    omega
  unfold setSearch
  refine seek R hx hu hKf hK hKb hin (fun z => hout K z hK hKb) 100000 0 none rfl (Nat.zero_le _) (by omega) fun i p hp hk => ?_
  have hi : (L.map fun p => C.hash p.2)[i]? = some (C.hash k) := by
    rw [List.getElem?_map, hp, ← hk]
    rfl
  have hil : i < t.place.toList.length := by
    have h1 : i < L.length := (List.getElem?_eq_some_iff.mp hp).1
    have h2 := R.tab.sz
    rw [List.length_map] at h2
    rw [Array.length_toList]
    omega
  have hj := List.getElem?_eq_getElem hil
  obtain ⟨c, hc, e⟩ := R.tab.before hK hi hj
  exact ⟨c, Nat.zero_le _, hc, by rw [hj, e]⟩
end
end Kl
set_option linter.all false
set_option maxRecDepth 100000
set_option maxHeartbeats 4000000
/-! # S6: adding to searched sets; tuples of texts, of ints -/
namespace Kl
open PySem PySem.Spec PyProof.Rows L2
section
variable {P : Program} {w : World} {κ : Type} [DecidableEq κ] {C : FK P w κ} {A : Around} {E : Value → Shared → Prop} {s : Shared} {a : Addr} {L : List (Value × κ)} {o : Obj} {es : Array (Int × Value)} {ep : Nat} {t : SetTable}
theorem hrows_at {hash : κ → Int} (h : es.toList = hrows hash L) {i : Nat} (hi : i < L.length) : es[i]? = some (hash (L[i]).2, (L[i]).1) := by
  rw [← Array.getElem?_toList, h]
  unfold hrows
  rw [List.getElem?_map, List.getElem?_eq_getElem hi]
  rfl
/-- the rows in another order -/
theorem hrows_order {hash : κ → Int} (h : es.toList = hrows hash L) (order : Array Nat) (hp : order.toList.Perm (List.range L.length)) :
    ∃ M, (order.filterMap (es[·]?)).toList = hrows hash M ∧ M.Perm L ∧ (M.map fun p => hash p.2) = order.toList.map fun i => (es.map (·.1)).getD i 0 := by
  have hsz := hrows_size h
  have go : ∀ l : List Nat, (∀ i ∈ l, i < L.length) → l.filterMap (fun i => es[i]?) = hrows hash (l.filterMap fun i => L[i]?) ∧ ((l.filterMap fun i => L[i]?).map fun p => hash p.2) = l.map fun i => (es.map (·.1)).getD i 0 := by
    intro l
    induction l with
    | nil => exact fun _ => ⟨rfl, rfl⟩
    | cons i l ih =>
      intro hl
      have hi := hl i List.mem_cons_self
      obtain ⟨e1, e2⟩ := ih fun j hj => hl j (List.mem_cons_of_mem _ hj)
      have z := hrows_at h hi
      rw [List.filterMap_cons_some z, List.filterMap_cons_some (List.getElem?_eq_getElem hi), e1]
      refine ⟨rfl, ?_⟩
      rw [List.map_cons, List.map_cons, e2]
      have e5 : (es.map (·.1))[i]? = some (hash (L[i]).2) := by
        rw [Array.getElem?_map, z]
        rfl
      congr 1
      rw [Array.getD_eq_getD_getElem?, e5]
      rfl
  obtain ⟨e1, e2⟩ := go order.toList fun i hi => List.mem_range.mp (hp.mem_iff.mp hi)
  refine ⟨_, by rw [Array.toList_filterMap]; exact e1, ?_, e2⟩
  have h1 : (order.toList.filterMap fun i => L[i]?).Perm ((List.range L.length).filterMap fun i => L[i]?) := hp.filterMap _
  have h2 : (List.range L.length).filterMap (fun i => L[i]?) = L := by
    have z : ∀ n, n ≤ L.length → (List.range n).filterMap (fun i => L[i]?) = L.take n := by
      intro n
      induction n with
      | zero => exact fun _ => rfl
      | succ n ih =>
        intro hn
        have hlt : n < L.length := hn
        rw [List.range_succ, List.filterMap_append, ih (Nat.le_of_lt hlt), List.take_succ, List.getElem?_eq_getElem hlt]
        rw [List.filterMap_cons_some (List.getElem?_eq_getElem hlt)]
        rfl
    rw [z L.length (Nat.le_refl _), List.take_length]
  rw [h2] at h1
  exact h1
theorem is_sb (ho : s.heap.get? a = some o) (hd : o.data = .set es ep t) {h' : Heap} (sb : Heap.SameBut a s.heap h') {k : κ} {v : Value} (h : C.is s.heap k v) : C.is h' k v := C.keepSet h ho hd sb
/-- the table laid anew, larger -/
theorem relayF (ho : s.heap.get? a = some o) (hex : o.ExactSet) (hd : o.data = .set es ep t) (hrw : es.toList = hrows C.hash L) (T : TabOk t (L.map fun p => C.hash p.2)) (hlt : L.length ≤ t.mask) (nd : (L.map (·.2)).Nodup) (his : ∀ p ∈ L, C.is s.heap p.2 p.1)
    (ld : w.params.followText "set-order" = true ∨ t.led = true) (few : L.length < 64) {wanted M : Nat} (hw : SetTable.sizeAbove wanted - 1 = M) (hM : MaskOk M) (hw2 : SetTable.sizeAbove wanted ≤ 128) (hn : L.length * 5 < M * 3) {Q : Unit → Shared → Prop}
    (hQ : ∀ h' L' o' es' ep' t', Heap.SameBut a s.heap h' → FRep C h' a L' o' es' ep' t' → L'.Perm L → Q () { s with heap := h' }) : wpAny (model P w) A (setRelay a wanted) Q E s := by
  have hsl := hrows_size hrw
  have hpz := T.sz
  rw [List.length_map] at hpz
  have hfits : t.fits es.size = true := by
    unfold SetTable.fits SetTable.fill
    rw [T.dm, Bool.and_eq_true, beq_iff_eq, decide_eq_true_eq]
    show t.place.size = es.size ∧ t.place.size + 0 ≤ t.mask
    omega
  obtain ⟨t', order, e, hp, T', em, el, epl, ed⟩ := relaid_ok t (hs := es.map (·.1)) (wanted := wanted) hw hM (by rw [Array.size_map, hsl]; omega)
  rw [Array.size_map, hsl] at hp
  obtain ⟨L2, r1, r2, r3⟩ := hrows_order hrw order hp
  rw [← r3] at T'
  have hs2 : (order.filterMap (es[·]?)).size = es.size := by rw [hrows_size r1, r2.length_eq, hsl]
  rw [setRelay_eq]
  refine wpAny_bind (wpAny_setState_of ho hd hfits ?_)
  dsimp only
  refine wp_if_neg (by rw [sizeLine_eq]; omega) ?_
  try refine wpAny_bind (wpAny_pure ?_)
  rw [e]
  dsimp only
  refine wpAny_bind (wp_if_neg (by rw [hs2]; simp) ?_)
  try refine wpAny_bind (wpAny_pure ?_)
  refine wpAny_pure ?_
  dsimp only
  refine wpAny_storeSet_of ho hd ?_ (by rw [hs2, hsl, sizeLine_eq]; omega)
  have sb : Heap.SameBut a s.heap (s.heap.update a (Obj.putSet (order.filterMap (es[·]?)) t')) := Heap.SameBut.update ..
  refine hQ _ L2 _ (order.filterMap (es[·]?)) (ep + 1) t' sb ⟨store_at ho hd, ⟨hex.1, hex.2.1, hex.2.2⟩, rfl, r1, T', (r2.map (·.2)).nodup_iff.mpr nd, fun p hpm => is_sb ho hd sb (his p (r2.mem_iff.mp hpm)), by rw [el]; exact ld, ?_, by rw [r2.length_eq]; exact few⟩ r2
  rw [r2.length_eq, em]
  exact hn
theorem addF (R : FRep C s.heap a L o es ep t) {v : Value} {k : κ} (hx : C.is s.heap k v) (hu : A.units < cLine) (hfew : L.length + 1 < 64) {Q : Bool → Shared → Prop}
    (hQ : ∀ b h' L' o' es' ep' t', Heap.SameBut a s.heap h' → FRep C h' a L' o' es' ep' t' → (k ∈ L.map (·.2) → L' = L) → (k ∉ L.map (·.2) → L'.Perm ((v, k) :: L)) → Q b { s with heap := h' }) : wpAny (model P w) A (setAddHashed a v (C.hash k)) Q E s := by
  have ho := R.ho
  have hd := R.hd
  have hsl := hrows_size R.rows
  have hroom := R.room
  unfold setAddHashed
  refine wpAny_holding ?_
  rw [show (100000 : Nat) = 99999 + 1 from rfl, setAddHashedIn_succ]
  refine wpAny_bind (wpAny_setState_of ho hd R.fits ?_)
  dsimp only
  refine wp_if_neg (by unfold byScan; rw [C.noScan hx]; simp) ?_
  try refine wpAny_bind (wpAny_pure ?_)
  refine wpAny_bind (seekNew R hx hu (fun hm => ?_) fun K hm hK hb => ?_)
  · dsimp only
    exact wpAny_pure (hQ false s.heap L o es ep t (Heap.SameBut.refl a s.heap) R (fun _ => rfl) fun z => absurd hm z)
  · dsimp only
    refine wpAny_bind (wpAny_setState_of ho hd R.fits ?_)
    dsimp only
    obtain ⟨q1, q2, q3, q4, q5, q6, q7, q8, q9⟩ := R.tab.put hK hb
    generalize hpt : t.put (way t.mask (C.hash k) K) = pt at q1 q3 q4 q5 q6 q7 q8 q9 ⊢
    obtain ⟨t1, p⟩ := pt
    dsimp only at q1 q3 q4 q5 q6 q7 q8 q9 ⊢
    subst q1
    have ask : ∀ {α : Type} (c : Bool) {f : Bool → Sem α} {Q' : α → Shared → Prop}, (∀ b, wpAny (model P w) A (f b) Q' E s) → wpAny (model P w) A (if c = true then (do let b ← hashByValue 8 v; f b) else (do let b ← pure true; f b)) Q' E s := fun c f Q' q => by
      cases c with
      | true => exact wp_if_pos rfl (wpAny_bind (C.byValue hx q))
      | false => exact wp_if_neg Bool.false_ne_true (wpAny_bind (wpAny_pure (q true)))
    refine ask _ fun bv => ?_
    have q3b : TabOk (if bv = true then t1 else { t1 with plain := false }) (List.take (SetTable.below t.place (way t.mask (C.hash k) K)) (List.map (fun p => C.hash p.2) L) ++ C.hash k :: List.drop (SetTable.below t.place (way t.mask (C.hash k) K)) (List.map (fun p => C.hash p.2) L)) ∧ (if bv = true then t1 else { t1 with plain := false }).mask = t.mask ∧ (if bv = true then t1 else { t1 with plain := false }).led = t.led ∧ (if bv = true then t1 else { t1 with plain := false }).fill = (L.map fun p => C.hash p.2).length + 1 := by
      cases bv with
      | true => exact ⟨q3, q4, q5, q9⟩
      | false => exact ⟨⟨q3.ris, q3.dm, q3.sz, q3.mok, q3.bd, q3.reach⟩, q4, q5, q9⟩
    clear q3 q4 q5 q6 q7 q8 q9
    generalize (if bv = true then t1 else { t1 with plain := false }) = t2 at q3b ⊢
    obtain ⟨q3, q4, q5, q9⟩ := q3b
    have hin : (SetTable.insertAt es (SetTable.below t.place (way t.mask (C.hash k) K)) (C.hash k, v)).toList = hrows C.hash (L.take (SetTable.below t.place (way t.mask (C.hash k) K)) ++ (v, k) :: L.drop (SetTable.below t.place (way t.mask (C.hash k) K))) := by
      rw [SetTable.toList_insertAt, R.rows]
      unfold hrows
      rw [List.map_append, List.map_cons, List.map_take, List.map_drop]
    generalize SetTable.below t.place (way t.mask (C.hash k) K) = p at q2 q3 hin ⊢
    have pm : (L.take p ++ (v, k) :: L.drop p).Perm ((v, k) :: L) := by
      have z : (L.take p ++ (v, k) :: L.drop p).Perm ((v, k) :: (L.take p ++ L.drop p)) := List.perm_middle
      rw [List.take_append_drop] at z
      exact z
    have q3' : TabOk t2 ((L.take p ++ (v, k) :: L.drop p).map fun p => C.hash p.2) := by
      rw [List.map_append, List.map_cons, List.map_take, List.map_drop]
      exact q3
    have hlen : (L.take p ++ (v, k) :: L.drop p).length = L.length + 1 := pm.length_eq
    generalize SetTable.insertAt es p (C.hash k, v) = es1 at hin ⊢
    generalize L.take p ++ (v, k) :: L.drop p = L1 at pm hlen q3' hin
    have nd1 : (L1.map (·.2)).Nodup := (pm.map (·.2)).nodup_iff.mpr (List.nodup_cons.mpr ⟨hm, R.nd⟩)
    have hes : es1.size = L.length + 1 := by rw [hrows_size hin, hlen]
    refine wpAny_bind (wpAny_storeSet_of ho hd ?_ (by rw [hes, sizeLine_eq]; omega))
    have sb : Heap.SameBut a s.heap (s.heap.update a (Obj.putSet es1 t2)) := Heap.SameBut.update ..
    have ho1 := store_at (es' := es1) (t' := t2) ho hd
    have is1 : ∀ p ∈ L1, C.is (s.heap.update a (Obj.putSet es1 t2)) p.2 p.1 := fun p hp => by
      rcases List.mem_cons.mp (pm.mem_iff.mp hp) with z | z
      · rw [z]
        exact is_sb ho hd sb hx
      · exact is_sb ho hd sb (R.is p z)
    generalize s.heap.update a (Obj.putSet es1 t2) = h1 at sb ho1 is1 ⊢
    have ld1 : w.params.followText "set-order" = true ∨ t2.led = true := by
      rw [q5]
      exact R.led
    have lt2 : L1.length < 64 := by
      rw [hlen]
      exact hfew
    by_cases hf : t2.tooFull = true
    · first
        | (refine wpAny_bind (wp_if_pos (by simp [hf]) ?_))
        | (refine wp_if_pos (by simp [hf]) (wpAny_bind ?_))
      have hfull : (L.length + 1) * 5 ≥ t2.mask * 3 := by
        have z := hf
        unfold SetTable.tooFull at z
        rw [decide_eq_true_eq, q9, List.length_map] at z
        exact z
      rw [hsl]
      have two : (t.mask = 7 ∧ L.length = 4) ∨ (t.mask = 31 ∧ L.length = 18) := by
        rcases R.tab.mok with e | e | e
        · left
          rw [q4, e] at hfull
          rw [e] at hroom
          exact ⟨e, by omega⟩
        · right
          rw [q4, e] at hfull
          rw [e] at hroom
          exact ⟨e, by omega⟩
        · exfalso
          rw [q4, e] at hfull
          omega
      have go : ∀ M, SetTable.sizeAbove (SetTable.grown (L.length + 1)) - 1 = M → MaskOk M → SetTable.sizeAbove (SetTable.grown (L.length + 1)) ≤ 128 → (L.length + 1) * 5 < M * 3 →
          wpAny (model P w) A (setRelay a (SetTable.grown (L.length + 1))) (fun _ s' => wpAny (model P w) A (pure true) Q E s') E { s with heap := h1 } := fun M a1 a2 a3 a4 =>
        relayF (s := { s with heap := h1 }) ho1 ⟨R.ex.1, R.ex.2.1, R.ex.2.2⟩ rfl hin q3' (by rw [hlen, q4]; rcases two with ⟨e, e2⟩ | ⟨e, e2⟩ <;> omega) nd1 is1 ld1 lt2 a1 a2 a3 (by rw [hlen]; exact a4) fun h2 L2 o2 es2 ep2 t2 sb2 R2 pm2 =>
          wpAny_pure (hQ true h2 L2 o2 es2 ep2 t2 (sb.trans sb2) R2 (fun z => absurd z hm) fun _ => pm2.trans pm)
      rcases two with ⟨_, e2⟩ | ⟨_, e2⟩
      · exact go 31 (by rw [e2, size_20]) (.inr (.inl rfl)) (by rw [e2, size_20]; decide) (by omega)
      · exact go 127 (by rw [e2, size_76]) (.inr (.inr rfl)) (by rw [e2, size_76]; decide) (by omega)
    · first
        | refine wp_if_neg (by simp [hf]) ?_
        | (refine wpAny_bind (wp_if_neg (by simp [hf]) (wpAny_pure ?_)))
      refine wpAny_pure (hQ true h1 L1 _ es1 (ep + 1) t2 sb ⟨ho1, ⟨R.ex.1, R.ex.2.1, R.ex.2.2⟩, rfl, hin, q3', nd1, is1, ld1, ?_, lt2⟩ (fun z => absurd z hm) fun _ => pm)
      have z := hf
      unfold SetTable.tooFull at z
      rw [decide_eq_true_eq, q9, List.length_map] at z
      rw [hlen]
      omega
variable (C)
/-- sets of members that are searched -/
def seekK : SK P w κ where
  is := C.is
  hash := C.hash
  draws := C.draws
  rep := fun h a L => ∃ o es ep t, FRep C h a L o es ep t
  keepIs := C.keepIs
  inj := C.inj
  pyHash := C.pyHash
  fresh := fun {h a} ho => ⟨_, #[], 0, .fresh 0 0 (!w.params.followText "set-order"), ho, ⟨rfl, rfl, rfl⟩, rfl, rfl, ⟨List.Pairwise.nil, rfl, rfl, .inl rfl, fun x hx => (nomatch hx), fun i z j hi => by simp at hi⟩, List.nodup_nil, fun p hp => (nomatch hp), by
    show _ ∨ (!w.params.followText "set-order") = true
    cases w.params.followText "set-order"
    · exact .inr rfl
    · exact .inl rfl, by
    show 0 * 5 < 7 * 3
    decide, Nat.zero_lt_succ 63⟩
  keepRep := fun ⟨o, es, ep, t, R⟩ k i => ⟨o, es, ep, t, k o R.ho, R.ex, R.hd, R.rows, R.tab, R.nd, i, R.led, R.room, R.few⟩
  add := fun ⟨o, es, ep, t, R⟩ hx hu hf hQ => addF R hx hu hf fun b h' L' o' es' ep' t' sb R' c1 c2 => hQ b h' L' sb ⟨o', es', ep', t', R'⟩ c1 c2
  out := fun {h a L} ⟨o, es, ep, t, R⟩ => ⟨o, es, ep, t, R.ho, R.ex, R.hd, FRep.fits (s := { heap := h }) R, by
    rw [hrows_size R.rows]
    have z := R.few
    unfold scanBound
    omega, R.tab.ris, R.led, by
    rw [R.rows]
    unfold hrows
    rw [List.map_map]
    rfl, R.nd, R.is⟩
end
end Kl
set_option linter.all false
set_option maxRecDepth 100000
set_option maxHeartbeats 8000000
/-! # S2: set(xs), sorted(set) -/
namespace Kl
open PySem PySem.Spec PyProof.Rows L2
section
variable {P : Program} {w : World} {κ : Type} (C : SK P w κ) {A : Around} {E : Value → Shared → Prop} {s : Shared}

/-- set(xs), xs a list -/
theorem callSetL {l : Addr} {its : Array Value} (ks : List (Value × κ)) {Q : Value → Shared → Prop} (hh : A.handled = none) (hl : s.heap.IsList l its) (hit : its.toList = ks.map (·.1)) (hk : ∀ p ∈ ks, C.is s.heap p.2 p.1) (hf : ks.length < 64) (hu : A.units + 3 < cLine)
    (h : ∀ (h' : Heap) (tk : Nat) L, C.rep h' s.heap.objs.size L → Has ks ks.length L → Kept s.heap h' → Q (.ref s.heap.objs.size) { s with heap := h', toks := tk }) : wpAny (model P w) A (call (.type "set") [.ref l]) Q E s := by
  have hsz : its.size = ks.length := by
    have q := congrArg List.length hit
    rw [Array.length_toList, List.length_map] at q
    exact q
  obtain ⟨c, tl, hmro⟩ := F.called_set.mro
  have hmade := F.called_set.made
  have hsub := F.called_set.sub
  refine wpAny_call (codeAny_of_tree ?_)
  show wpAny _ _ (callAny (.type "set") _) _ _ _
  refine wpAny_pure ⟨Code.quiet_builtin _ (by decide +kernel), codeAny_builtin F.entry_type_call ?_⟩
  rw [Around.under_plain (weight_type_call_type "set" [.ref l] []) rfl]
  have h1 := F.called_set.notType
  have h2 := F.called_set.canCreate
  have hct := F.typeCall_set_1 (.ref l)
  repeat (any_goals (first | assumption | wp_step))
  refine codeAny_mono (code_set_led1 (.ref l) (E := E) (Q₁ := fun obj s₁ => obj = .ref s.heap.objs.size ∧ s₁ = { s with heap := s.heap.push (newSet w) }) ⟨rfl, rfl⟩) fun r s₁ hr => ?_
  cases r with
  | error e => exact hr
  | ok fl =>
    cases fl with
    | ret obj =>
      obtain ⟨rfl, rfl⟩ := hr
      have hS : (s.heap.push (newSet w)).get? s.heap.objs.size = some (newSet w) := Heap.get?_push_size _ rfl
      have hT : Shared.TypeIs { s with heap := s.heap.push (newSet w) } (.ref s.heap.objs.size) "set" := ⟨_, hS, rfl⟩
      have hli := F.called_set.init.lookup
      have hbi := F.called_set.init.bind (.ref s.heap.objs.size)
      repeat (any_goals (first | assumption | wp_step))
      refine codeAny_mono (codeAny_call_builtin (R := wants (fun r s₂ => r = .none ∧ ∃ h' tk L, s₂ = { s with heap := h', toks := tk } ∧ C.rep h' s.heap.objs.size L ∧ Has ks ks.length L ∧ Kept s.heap h') E) F.called_set.init.plain F.entry_set_init (check_set_init_1 hT ?_)) fun r₂ s₂ hr₂ => ?_
      · obtain ⟨ol, hol, hcl, nl, hdl⟩ := hl
        obtain ⟨ocls, odict, odata, oslots⟩ := ol
        simp only at hcl hdl
        subst hcl
        subst hdl
        have hol' : (s.heap.push (newSet w)).get? l = some { cls := .type "list", dict := odict, data := .seq its nl, slots := oslots } := Heap.get?_push_of_some _ hol
        have hsls := F.sub_list_set
        have hslf := F.sub_list_frozenset
        have hne : (Value.type "list" == Value.type "dict") = false := by decide
        have hl1 : (s.heap.push (newSet w)).IsList l its := ⟨_, hol', rfl, nl, rfl⟩
        unfold Builtin.«set.__init__» noKeywords Builtin.Frozenset.updateFrom
        generalize hPI : pyIter = PI
        wp_walk
        subst hPI
        refine wpAny_pyIter_list hl1 (wpAny_bind (wpAny_runValue ?_))
        have hlS : l < s.heap.objs.size := Heap.lt_size hol
        have hh3 : A.in1.in1.in1.handled = none := by simp [hh]
        have hneI : l ≠ (s.heap.push (newSet w)).objs.size := by
          rw [Heap.size_push]
          exact Nat.ne_of_lt (Nat.lt_succ_of_lt hlS)
        have hSf : s.heap.objs.size ∉ [(s.heap.push (newSet w)).objs.size, l] := by
          rw [Heap.size_push]
          simp only [List.mem_cons, List.mem_singleton, List.not_mem_nil, or_false, not_or]
          exact ⟨Nat.ne_of_lt (Nat.lt_succ_self _), Nat.ne_of_gt hlS⟩
        have hval : ∀ (i : Nat) (v : Value), its[i]? = some v → ∃ p, ks[i]? = some p ∧ v = p.1 := fun i v hv => by
          have q : its.toList[i]? = some v := by
            rw [Array.getElem?_toList]
            exact hv
          rw [hit, List.getElem?_map] at q
          cases hq : ks[i]? with
          | none =>
            rw [hq] at q
            cases q
          | some p =>
            rw [hq] at q
            exact ⟨p, rfl, (Option.some.inj q).symm⟩
        have gone : ∀ b, s.heap.objs.size ≤ b → s.heap.get? b = none := fun b hb => by
          cases q : s.heap.get? b with
          | none => rfl
          | some o => exact absurd (Nat.lt_of_lt_of_le (Heap.lt_size q) hb) (Nat.lt_irrefl _)
        refine loopK C ((Walks.list hh3 _ l hneI its).toS) (S := s.heap.objs.size) hSf (ks := ks) hsz hf hval (h0 := s.heap) hk (gone _ (Nat.le_refl _)) (fun b hb => gone b (by
            rw [List.mem_singleton.mp hb, Heap.size_push]
            exact Nat.le_succ _)) hu (its.size - 0) 0 _ (by omega) (Nat.zero_le _) ⟨⟨_, Heap.get?_push_size _ rfl, rfl, rfl⟩, (hl1.push _)⟩ (fun b o e => Heap.get?_push_of_some _ (Heap.get?_push_of_some _ e)) ?st ?en
        case st => exact ⟨[], C.fresh (Heap.get?_push_of_some _ hS), Has.zero ks⟩
        case en =>
          intro s' L m r' g' kp
          obtain ⟨h', g2, d', tk', os'⟩ := s'
          have eg : g2 = s.gens := m.gens
          have ed : d' = s.drawn := m.drawn
          have eo : os' = s.os := m.os
          subst eg
          subst ed
          subst eo
          show wpAny _ _ _ _ _ _
          refine wpAny_pure ?_
          show wpAny _ _ (ret Value.none) _ _ _
          rw [hsz] at g'
          exact wpAny_pure ⟨rfl, h', tk', L, rfl, r', g', kp⟩
      · cases r₂ with
        | error e => exact hr₂
        | ok fl₂ =>
          cases fl₂ with
          | ret r =>
            obtain ⟨rfl, h', tk, L, rfl, r', g', k'⟩ := hr₂
            repeat (any_goals (first | assumption | wp_step))
            exact h _ _ _ r' g' k'
          | _ => exact hr₂.elim
    | _ => exact hr.elim

/-- set(xs), xs a tuple -/
theorem callSetT {l : Addr} {its : Array Value} (ks : List (Value × κ)) {Q : Value → Shared → Prop} (hh : A.handled = none) (hl : s.heap.IsTuple l its) (hit : its.toList = ks.map (·.1)) (hk : ∀ p ∈ ks, C.is s.heap p.2 p.1) (hf : ks.length < 64) (hu : A.units + 3 < cLine)
    (h : ∀ (h' : Heap) (tk : Nat) L, C.rep h' s.heap.objs.size L → Has ks ks.length L → Kept s.heap h' → Q (.ref s.heap.objs.size) { s with heap := h', toks := tk }) : wpAny (model P w) A (call (.type "set") [.ref l]) Q E s := by
  have hsz : its.size = ks.length := by
    have q := congrArg List.length hit
    rw [Array.length_toList, List.length_map] at q
    exact q
  obtain ⟨c, tl, hmro⟩ := F.called_set.mro
  have hmade := F.called_set.made
  have hsub := F.called_set.sub
  refine wpAny_call (codeAny_of_tree ?_)
  show wpAny _ _ (callAny (.type "set") _) _ _ _
  refine wpAny_pure ⟨Code.quiet_builtin _ (by decide +kernel), codeAny_builtin F.entry_type_call ?_⟩
  rw [Around.under_plain (weight_type_call_type "set" [.ref l] []) rfl]
  have h1 := F.called_set.notType
  have h2 := F.called_set.canCreate
  have hct := F.typeCall_set_1 (.ref l)
  repeat (any_goals (first | assumption | wp_step))
  refine codeAny_mono (code_set_led1 (.ref l) (E := E) (Q₁ := fun obj s₁ => obj = .ref s.heap.objs.size ∧ s₁ = { s with heap := s.heap.push (newSet w) }) ⟨rfl, rfl⟩) fun r s₁ hr => ?_
  cases r with
  | error e => exact hr
  | ok fl =>
    cases fl with
    | ret obj =>
      obtain ⟨rfl, rfl⟩ := hr
      have hS : (s.heap.push (newSet w)).get? s.heap.objs.size = some (newSet w) := Heap.get?_push_size _ rfl
      have hT : Shared.TypeIs { s with heap := s.heap.push (newSet w) } (.ref s.heap.objs.size) "set" := ⟨_, hS, rfl⟩
      have hli := F.called_set.init.lookup
      have hbi := F.called_set.init.bind (.ref s.heap.objs.size)
      repeat (any_goals (first | assumption | wp_step))
      refine codeAny_mono (codeAny_call_builtin (R := wants (fun r s₂ => r = .none ∧ ∃ h' tk L, s₂ = { s with heap := h', toks := tk } ∧ C.rep h' s.heap.objs.size L ∧ Has ks ks.length L ∧ Kept s.heap h') E) F.called_set.init.plain F.entry_set_init (check_set_init_1 hT ?_)) fun r₂ s₂ hr₂ => ?_
      · obtain ⟨ol, hol, hcl, nl, hdl⟩ := hl
        obtain ⟨ocls, odict, odata, oslots⟩ := ol
        simp only at hcl hdl
        subst hcl
        subst hdl
        have hol' : (s.heap.push (newSet w)).get? l = some { cls := .type "tuple", dict := odict, data := .seq its nl, slots := oslots } := Heap.get?_push_of_some _ hol
        have hsls := F.sub_tuple_set
        have hslf := F.sub_tuple_frozenset
        have hne : (Value.type "tuple" == Value.type "dict") = false := by decide
        have hl1 : (s.heap.push (newSet w)).IsTuple l its := ⟨_, hol', rfl, nl, rfl⟩
        unfold Builtin.«set.__init__» noKeywords Builtin.Frozenset.updateFrom
        generalize hPI : pyIter = PI
        wp_walk
        subst hPI
        refine wpAny_pyIter_tuple hl1 (wpAny_bind (wpAny_runValue ?_))
        have hlS : l < s.heap.objs.size := Heap.lt_size hol
        have hh3 : A.in1.in1.in1.handled = none := by simp [hh]
        have hneI : l ≠ (s.heap.push (newSet w)).objs.size := by
          rw [Heap.size_push]
          exact Nat.ne_of_lt (Nat.lt_succ_of_lt hlS)
        have hSf : s.heap.objs.size ∉ [(s.heap.push (newSet w)).objs.size, l] := by
          rw [Heap.size_push]
          simp only [List.mem_cons, List.mem_singleton, List.not_mem_nil, or_false, not_or]
          exact ⟨Nat.ne_of_lt (Nat.lt_succ_self _), Nat.ne_of_gt hlS⟩
        have hval : ∀ (i : Nat) (v : Value), its[i]? = some v → ∃ p, ks[i]? = some p ∧ v = p.1 := fun i v hv => by
          have q : its.toList[i]? = some v := by
            rw [Array.getElem?_toList]
            exact hv
          rw [hit, List.getElem?_map] at q
          cases hq : ks[i]? with
          | none =>
            rw [hq] at q
            cases q
          | some p =>
            rw [hq] at q
            exact ⟨p, rfl, (Option.some.inj q).symm⟩
        have gone : ∀ b, s.heap.objs.size ≤ b → s.heap.get? b = none := fun b hb => by
          cases q : s.heap.get? b with
          | none => rfl
          | some o => exact absurd (Nat.lt_of_lt_of_le (Heap.lt_size q) hb) (Nat.lt_irrefl _)
        refine loopK C ((Walks.tuple hh3 _ l hneI its).toS) (S := s.heap.objs.size) hSf (ks := ks) hsz hf hval (h0 := s.heap) hk (gone _ (Nat.le_refl _)) (fun b hb => gone b (by
            rw [List.mem_singleton.mp hb, Heap.size_push]
            exact Nat.le_succ _)) hu (its.size - 0) 0 _ (by omega) (Nat.zero_le _) ⟨⟨_, Heap.get?_push_size _ rfl, rfl, rfl⟩, (hl1.push _)⟩ (fun b o e => Heap.get?_push_of_some _ (Heap.get?_push_of_some _ e)) ?st ?en
        case st => exact ⟨[], C.fresh (Heap.get?_push_of_some _ hS), Has.zero ks⟩
        case en =>
          intro s' L m r' g' kp
          obtain ⟨h', g2, d', tk', os'⟩ := s'
          have eg : g2 = s.gens := m.gens
          have ed : d' = s.drawn := m.drawn
          have eo : os' = s.os := m.os
          subst eg
          subst ed
          subst eo
          show wpAny _ _ _ _ _ _
          refine wpAny_pure ?_
          show wpAny _ _ (ret Value.none) _ _ _
          rw [hsz] at g'
          exact wpAny_pure ⟨rfl, h', tk', L, rfl, r', g', kp⟩
      · cases r₂ with
        | error e => exact hr₂
        | ok fl₂ =>
          cases fl₂ with
          | ret r =>
            obtain ⟨rfl, h', tk, L, rfl, r', g', k'⟩ := hr₂
            repeat (any_goals (first | assumption | wp_step))
            exact h _ _ _ r' g' k'
          | _ => exact hr₂.elim
    | _ => exact hr.elim
end
end Kl
set_option linter.all false
set_option maxRecDepth 100000
set_option maxHeartbeats 8000000
/-! # S3: sorted(set) -/
namespace Kl
open PySem PySem.Spec PyProof.Rows L2
section
variable {P : Program} {w : World} {κ : Type} (C : SK P w κ) {A : Around} {E : Value → Shared → Prop} {s : Shared}

/-- sorted(xs), xs a set: what orders its members is told by e -/
theorem callSortedSet {a : Addr} {L : List (Value × κ)} {enc : κ → PyData} {Q : Value → Shared → Prop} (r : C.rep s.heap a L) (hh : A.handled = none) (hf : L.length < 64)
    (srt : ∀ (s' : Shared) (vs : List Value) (ks : List κ), Kept s.heap s'.heap → PySem.W.EachIs (fun v k => C.is s'.heap k v) vs ks → ∃ κ' : PyProof.Rows.KeyKind, PySem.W.SortsAt P w A.in1.in1 s' κ' vs ∧ ∀ R : Value → κ → Prop, PySem.W.EachIs R vs ks → PySem.W.EachIs R (PySem.W.sortVals κ' false vs vs) (ks.mergeSort (PySem.W.dataLe false enc)))
    (hQ : ∀ (s' : Shared) (p : Addr) (out : List Value) (c : Nat) (ks : List κ), Kept s.heap s'.heap → s'.gens = s.gens → s'.os = s.os → s.heap.objs.size ≤ p → s'.heap.get? p = some (seqObj "list" out.toArray c) → ks.Perm (L.map (·.2)) →
      PySem.W.EachIs (fun v k => (v, k) ∈ L) out (ks.mergeSort (PySem.W.dataLe false enc)) → Q (.ref p) s') :
    wpAny (model P w) A (call (.builtin "sorted") [.ref a]) Q E s := by
  obtain ⟨o, es, ep, t, ho, hex, hd, hfit, hb, hr, hl, hes, nd, his⟩ := C.out r
  refine Calls.call_function_entry kind_sorted plain_sorted entry_sorted (args_sorted1 _) ?_
  unfold Builtin.«sorted»
  refine wpAny_bind (m := checkCount "sorted" 1 1 _) (wpAny_pure ?_)
  refine wpAny_bind (collect_set (A := A.in1) hh ⟨o, ho, hex.1, hd⟩ hfit hb hr hl fun s1 vs k1 hz g1 o1 pm => ?_)
  rw [hes] at pm
  obtain ⟨L1, rfl, pL⟩ := perm_unmap (fun p : Value × κ => p.1) vs L pm
  have hlen : L1.length < 64 := by
    rw [pL.length_eq]
    exact hf
  refine wpAny_bind (wpAny_newList ?_ (by rw [List.length_map, sizeLine_eq]; omega))
  have hoL : (s1.heap.push (seqObj "list" (L1.map fun p => p.1).toArray 0)).get? s1.heap.objs.size = some (seqObj "list" (L1.map fun p => p.1).toArray 0) := Heap.get?_push_size _ rfl
  have kp : Kept s.heap (PySem.W.sortingHeap (s1.heap.push (seqObj "list" (L1.map fun p => p.1).toArray 0)) s1.heap.objs.size (L1.map fun p => p.1)) := fun b u e => by
    have q := k1 b u e
    exact PySem.W.sortingHeap_old (Nat.ne_of_lt (Heap.lt_size q)) (Heap.get?_push_of_some _ q)
  have ei : PySem.W.EachIs (fun v k => C.is (PySem.W.sortingHeap (s1.heap.push (seqObj "list" (L1.map fun p => p.1).toArray 0)) s1.heap.objs.size (L1.map fun p => p.1)) k v) (L1.map fun p => p.1) (L1.map fun p => p.2) := by
    have mem : ∀ p ∈ L1, p ∈ L := fun p hp => pL.mem_iff.mp hp
    clear hlen hoL pm pL
    generalize PySem.W.sortingHeap (s1.heap.push (seqObj "list" (L1.map fun p => p.1).toArray 0)) s1.heap.objs.size (L1.map fun p => p.1) = hp' at kp ⊢
    induction L1 with
    | nil => exact .nil
    | cons p l ih => exact .cons (C.keepIs (his p (mem p List.mem_cons_self)) kp) (ih fun q hq => mem q (List.mem_cons_of_mem _ hq))
  obtain ⟨κ', S, eo⟩ := srt { s1 with heap := PySem.W.sortingHeap (s1.heap.push (seqObj "list" (L1.map fun p => p.1).toArray 0)) s1.heap.objs.size (L1.map fun p => p.1) } _ _ kp ei
  refine wpAny_bind (wpAny_holding (wpAny_call_entry slot_list_sort ⟨_, hoL, rfl⟩ entry_list_sort (PySem.W.list_sort_vals (s := { s1 with heap := s1.heap.push (seqObj "list" (L1.map fun p => p.1).toArray 0) }) hoL S (by rw [List.length_map, sizeLine_eq]; omega) ⟨_, rfl, ?_⟩) (args_list_sort _)))
  obtain ⟨c, hc⟩ := sortedHeap_at (vs := L1.map fun p => p.1) (out := (PySem.W.sortVals κ' false (L1.map fun p => p.1) (L1.map fun p => p.1)).toArray) hoL
  refine wpAny_pure ⟨_, rfl, hQ _ s1.heap.objs.size (PySem.W.sortVals κ' false (L1.map fun p => p.1) (L1.map fun p => p.1)) c (L1.map fun p => p.2) (fun b u e => ?_) g1 o1 hz hc (pL.map _) ?_⟩
  · have q := k1 b u e
    have hlt := Heap.lt_size q
    show (sortedHeap (s1.heap.push (seqObj "list" (L1.map fun p => p.1).toArray 0)) s1.heap.objs.size (L1.map fun p => p.1) _).get? b = some u
    rw [sortedHeap_old (Nat.ne_of_lt hlt) (by rw [size_push']; exact Nat.lt_succ_of_lt hlt)]
    exact Heap.get?_push_of_some _ q
  · refine eo _ ?_
    have mem : ∀ p ∈ L1, p ∈ L := fun p hp => pL.mem_iff.mp hp
    clear hc eo S ei kp hoL hlen pL pm
    induction L1 with
    | nil => exact .nil
    | cons p l ih => exact .cons (mem p List.mem_cons_self) (ih fun q hq => mem q (List.mem_cons_of_mem _ hq))
end
end Kl
set_option linter.all false
set_option maxRecDepth 100000
set_option maxHeartbeats 4000000
/-! # S7: tuples as members; sorting -/
namespace Kl
open PySem PySem.Spec PyProof.Rows L2
section
variable {P : Program} {w : World} {κ : Type} [DecidableEq κ] (knd : PySem.KeyKind P w κ)
variable {knd} {A : Around} {E : Value → Shared → Prop} {s : Shared}
theorem items_quiet (hc : ∀ (n : Nat) (k : κ) (v : Value), knd.is k v = true → ofAClassStatement n v = pure false ∧ ∃ b, hashByValue n v = pure b) {ks : List κ} {vs : List Value} (h : ItemsAre knd ks vs) : ∀ v ∈ vs, ∀ n, ofAClassStatement n v = pure false ∧ ∃ b, hashByValue n v = pure b := by
  induction h with
  | nil => exact fun v hv => (nomatch hv)
  | @cons k v' ks vs h1 _ ih =>
    intro v hv n
    rcases List.mem_cons.mp hv with e | hv
    · rw [e]
      exact hc n k v' h1
    · exact ih v hv n
theorem tup_ofClass (hc : ∀ (n : Nat) (k : κ) (v : Value), knd.is k v = true → ofAClassStatement n v = pure false ∧ ∃ b, hashByValue n v = pure b) {ks : List κ} {b : Addr} {Q : Bool → Shared → Prop} (hk : IsTupleKey knd s.heap ks b) (h : Q false s) : wpAny (model P w) A (ofAClassStatement 8 (.ref b)) Q E s := by
  have hT := hk.typeIs
  obtain ⟨o, its, n, ho, _, hd, hi⟩ := hk
  unfold ofAClassStatement
  refine wpAny_bind (wpAny_typeOf hT ?_)
  dsimp only
  have e : (("tuple" : String) == "tuple") = true := by decide
  simp only [e, if_true, Bool.not_true, Bool.false_eq_true, if_false]
  try refine wpAny_bind (wpAny_pure ?_)
  try simp only [Bool.not_true, Bool.false_eq_true, if_false]
  show wpAny _ _ (seqItems? (.ref b) >>= _) _ _ s
  refine wpAny_bind (wpAny_seqItems ho hd ?_)
  dsimp only
  refine wpAny_bind ?_
  show wpAny _ _ (forIn its _ _) _ _ s
  rw [← Array.forIn_toList]
  refine wpAny_forIn_list _ (fun rest r s' => r.1 = none ∧ s' = s ∧ ∀ v ∈ rest, ∀ n, ofAClassStatement n v = pure false ∧ ∃ b, hashByValue n v = pure b) _ ?_ ?_ _ _ ⟨rfl, rfl, items_quiet hc hi⟩
  · rintro v rest r s' ⟨hr, rfl, hall⟩
    rw [(hall v List.mem_cons_self _).1]
    refine wpAny_bind (wpAny_pure ?_)
    simp only [Bool.false_eq_true, if_false]
    exact wpAny_pure ⟨rfl, rfl, fun u hu' => hall u (List.mem_cons_of_mem _ hu')⟩
  · rintro ⟨r1, r2⟩ s' ⟨hr, rfl, _⟩
    simp only at hr
    subst hr
    exact wpAny_pure h
theorem tup_byValue (hc : ∀ (n : Nat) (k : κ) (v : Value), knd.is k v = true → ofAClassStatement n v = pure false ∧ ∃ b, hashByValue n v = pure b) {ks : List κ} {b : Addr} {Q : Bool → Shared → Prop} (hk : IsTupleKey knd s.heap ks b) (h : ∀ b, Q b s) : wpAny (model P w) A (hashByValue 8 (.ref b)) Q E s := by
  have hT := hk.typeIs
  obtain ⟨o, its, n, ho, _, hd, hi⟩ := hk
  unfold hashByValue
  refine wpAny_bind (wpAny_specialOf hT F.slot_tuple_hash.lookup ?_)
  show wpAny _ _ (seqItems? (.ref b) >>= _) _ _ s
  refine wpAny_bind (wpAny_seqItems ho hd ?_)
  refine wpAny_bind ?_
  show wpAny _ _ (forIn its _ _) _ _ s
  rw [← Array.forIn_toList]
  refine wpAny_forIn_list _ (fun rest r s' => r.1 = none ∧ s' = s ∧ ∀ v ∈ rest, ∀ n, ofAClassStatement n v = pure false ∧ ∃ b, hashByValue n v = pure b) _ ?_ ?_ _ _ ⟨rfl, rfl, items_quiet hc hi⟩
  · rintro v rest r s' ⟨hr, rfl, hall⟩
    obtain ⟨b, e⟩ := (hall v List.mem_cons_self _).2
    rw [e]
    refine wpAny_bind (wpAny_pure ?_)
    cases b with
    | true =>
      simp only [Bool.not_true, Bool.false_eq_true, if_false]
      exact wpAny_pure ⟨rfl, rfl, fun u hu' => hall u (List.mem_cons_of_mem _ hu')⟩
    | false =>
      simp only [Bool.not_false, if_true]
      exact wpAny_pure (wpAny_pure (h _))
  · rintro ⟨r1, r2⟩ s' ⟨hr, rfl, _⟩
    simp only at hr
    subst hr
    exact wpAny_pure (h _)
theorem tup_unseen (hc : ∀ (n : Nat) (k : κ) (v : Value), knd.is k v = true → ofAClassStatement n v = pure false ∧ ∃ b, hashByValue n v = pure b) {ks : List κ} {b : Addr} {ys : List Value} {Q : Bool → Shared → Prop} (hk : IsTupleKey knd s.heap ks b) (hy : ∀ y ∈ ys, ∃ k' c, y = Value.ref c ∧ IsTupleKey knd s.heap k' c)
    (h : Q false s) : wpAny (model P w) A (searchCouldBeSeen (.ref b) ys) Q E s := by
  unfold searchCouldBeSeen
  refine wpAny_bind (wpAny_forIn_list _ (fun rest r s' => r.1 = none ∧ s' = s ∧ ∀ y ∈ rest, ∃ k' c, y = Value.ref c ∧ IsTupleKey knd s.heap k' c) _ ?_ ?_ _ _ ⟨rfl, rfl, hy⟩)
  · rintro v rest r s' ⟨hr, rfl, hall⟩
    obtain ⟨k', c, rfl, hcc⟩ := hall v List.mem_cons_self
    have more : ∀ y ∈ rest, ∃ k' c, y = Value.ref c ∧ IsTupleKey knd s'.heap k' c := fun u hu' => hall u (List.mem_cons_of_mem _ hu')
    dsimp only
    by_cases hv : (b == c || (carriedByValue (.ref b) && carriedByValue (.ref c))) = true
    · exact wp_if_pos hv (wpAny_pure ⟨rfl, rfl, more⟩)
    · refine wp_if_neg hv (wpAny_bind (wpAny_eqIsQuiet_tuple hk ?_))
      simp only [Bool.not_true, Bool.false_eq_true, if_false]
      refine wpAny_bind (wpAny_eqIsQuiet_tuple hcc ?_)
      simp only [Bool.not_true, Bool.false_eq_true, if_false]
      refine wpAny_bind (tup_ofClass hc hk ?_)
      simp only [Bool.false_eq_true, if_false]
      refine wpAny_bind (tup_ofClass hc hcc ?_)
      simp only [Bool.false_eq_true, if_false]
      exact wpAny_pure ⟨rfl, rfl, more⟩
  · rintro ⟨r1, r2⟩ s' ⟨hr, rfl, _⟩
    simp only at hr
    subst hr
    exact wpAny_pure h
variable (knd)
/-- tuples of such items are searched -/
def tupF (hc : ∀ (n : Nat) (k : κ) (v : Value), knd.is k v = true → ofAClassStatement n v = pure false ∧ ∃ b, hashByValue n v = pure b) : FK P w (List κ) where
  is := fun h ks v => ∃ a, v = .ref a ∧ IsTupleKey knd h ks a
  hash := tupleKeyHash knd
  draws := fun ks => ks.length + 1
  keepIs := fun ⟨a, e, o, its, n, ho, r⟩ kp => ⟨a, e, o, its, n, kp a o ho, r⟩
  keepSet := fun {h h' k v a o es ep t} ⟨b, e, o', its, n, ho', hcl, hd', hi⟩ ho hd sb => ⟨b, e, o', its, n, (sb.2 b (by
    rintro rfl
    obtain rfl : o' = o := Option.some.inj (ho'.symm.trans ho)
    rw [hd] at hd'
    exact nomatch hd')).trans ho', hcl, hd', hi⟩
  inj := fun {h k k' v} ⟨a, e, x⟩ ⟨b, e', y⟩ => by
    subst e
    cases e'
    exact x.inj y
  noScan := fun ⟨a, e, _⟩ => by
    subst e
    rfl
  pyHash := fun hu ⟨a, e, x⟩ q => by
    subst e
    exact wpAny_pyHash_tuple hu x q
  eq := fun hu ⟨a, e, x⟩ ⟨b, e', y⟩ q => by
    subst e
    subst e'
    exact wpAny_eqBool_tuple hu x y q
  byValue := fun ⟨a, e, x⟩ q => by
    subst e
    exact tup_byValue hc x q
  unseen := fun ⟨a, e, x⟩ hy q => by
    subst e
    exact tup_unseen hc x (fun y hm => let ⟨k', c, e, z⟩ := hy y hm; ⟨k', c, e, z⟩) q
  self := fun ⟨a, e, x⟩ q => by
    subst e
    exact wpAny_isSame_ref_self q
end
theorem quiet_str {P : Program} {w : World} (n : Nat) (k : Str) (v : Value) (h : (PySem.strKind P w).is k v = true) : ofAClassStatement n v = pure false ∧ ∃ b, hashByValue n v = pure b := by
  obtain ⟨t, rfl⟩ := Value.isStrOf_shape h
  exact ⟨by cases n <;> rfl, _, hashByValue_scannable n rfl⟩
theorem quiet_int {P : Program} {w : World} (n : Nat) (k : Int) (v : Value) (h : (PySem.intKind P w).is k v = true) : ofAClassStatement n v = pure false ∧ ∃ b, hashByValue n v = pure b := by
  obtain ⟨t, rfl⟩ := Value.isInt_shape h
  exact ⟨by cases n <;> rfl, _, hashByValue_scannable n rfl⟩
/-- sets of texts, of ints, of tuples of texts, of tuples of ints -/
def strS (P : Program) (w : World) : SK P w Str := scanK (PySem.strKind P w) fun k v h => by
  obtain ⟨t, rfl⟩ := Value.isStrOf_shape h
  rfl
def intS (P : Program) (w : World) : SK P w Int := scanK (PySem.intKind P w) fun k v h => by
  obtain ⟨t, rfl⟩ := Value.isInt_shape h
  rfl
def strsS (P : Program) (w : World) : SK P w (List Str) := seekK (tupF (PySem.strKind P w) quiet_str)
def intsS (P : Program) (w : World) : SK P w (List Int) := seekK (tupF (PySem.intKind P w) quiet_int)
end Kl
set_option linter.all false
set_option maxRecDepth 100000
set_option maxHeartbeats 4000000
/-! # S8: tuples can be sorted, the empty one too -/
namespace Kl
open PySem PySem.Spec PyProof.Rows L2
section
variable {prog : Program} {w : World} {A : Around} {s : Shared}
abbrev RdsV (h : Heap) (v : Value) (d : PyData) : Prop := ∃ as, Reads h v d as
def full : PyData → Bool
  | .tuple [] => false
  | _ => true
theorem tup_firsts {M : Model} {E : Value → Shared → Prop} : ∀ {vs : List Value} {ds : List PyData}, PySem.W.EachIs (RdsV s.heap) vs ds → (∀ d ∈ ds, ∃ r, d = .tuple r) →
    ∃ fs : List (Option Value), fs.map Option.isSome = ds.map full ∧ ∀ Q : List (Option Value) → Shared → Prop, Q fs s → wpAny M A (vs.mapM firstOfTuple') Q E s
  | _, _, .nil, _ => ⟨[], rfl, fun Q h => by rw [List.mapM_nil]; exact wpAny_pure h⟩
  | _, _, .cons (b := d) ⟨as, r⟩ t, ht => by
    obtain ⟨fs, h1, h2⟩ := tup_firsts (M := M) (E := E) t fun d hd => ht d (List.mem_cons_of_mem _ hd)
    obtain ⟨xs, rfl⟩ := ht d List.mem_cons_self
    cases r with
    | @tuple a o its n _ _ ho hc hd hr =>
      refine ⟨its[0]? :: fs, ?_, fun Q h => ?_⟩
      · rw [List.map_cons, List.map_cons, h1]
        congr 1
        rw [← Array.getElem?_toList]
        cases q : its.toList with
        | nil =>
          rw [q] at hr
          cases hr
          rfl
        | cons f fr =>
          rw [q] at hr
          cases hr
          rfl
      · rw [List.mapM_cons]
        refine wpAny_bind ?_
        rw [PySem.W.kas_first_eq]
        refine wpAny_bind (PySem.W.Looks.here (show PySem.W.Looks M s.heap (typeOf (.ref a)) o.cls from (PySem.W.Looks.ld ho).andThen .now) ?_)
        rw [hc, if_neg (by decide)]
        refine wpAny_bind (listItems_at ho hd (wpAny_pure ?_))
        exact wpAny_bind (h2 (fun bs s' => wpAny M A (pure (its[0]? :: bs)) Q E s') (wpAny_pure h))

theorem tups_kind {M : Model} {E : Value → Shared → Prop} {vs : List Value} {ds : List PyData} (e : PySem.W.EachIs (RdsV s.heap) vs ds) (ht : ∀ d ∈ ds, ∃ r, d = .tuple r) (hno : ds.all full = false) (Q : SortKind → Shared → Prop)
    (h : Q (if (ds.head?.map full) = some true then general' else oneType') s) : wpAny M A (keyKind' vs.toArray) Q E s := by
  obtain ⟨fs, h1, h2⟩ := tup_firsts (A := A) (M := M) (E := E) e ht
  rw [keyKind'_eq, List.mapM_toArray, map_eq_pure_bind]
  refine wpAny_bind (wpAny_bind (h2 _ (wpAny_pure ?_)))
  have ha : (fs.toArray.all fun x => x.isSome) = false := by
    rw [List.all_toArray]
    have z : (fs.map Option.isSome).all id = (ds.map full).all id := by rw [h1]
    rw [List.all_map, List.all_map] at z
    exact z.trans hno
  rw [if_neg (by rw [ha]; exact Bool.false_ne_true)]
  have hh : (fs.toArray[0]?.bind id).isSome = decide (ds.head?.map full = some true) := by
    cases ds with
    | nil => exact absurd hno (by decide)
    | cons d ds =>
      cases fs with
      | nil => cases h1
      | cons f fs =>
        rw [List.map_cons, List.map_cons] at h1
        injection h1 with h1 _
        show f.isSome = decide (some (full d) = some true)
        rw [h1]
        cases full d <;> rfl
  by_cases hc : ds.head?.map full = some true
  · rw [if_pos hc] at h
    rw [if_pos (by rw [hh]; exact decide_eq_true hc)]
    exact wpAny_pure h
  · rw [if_neg hc] at h
    rw [if_neg (by rw [hh, decide_eq_false hc]; exact Bool.false_ne_true)]
    rw [oneTypeOnly'_eq, List.mapM_toArray, map_eq_pure_bind]
    refine wpAny_bind (wpAny_bind (wpAny_bind (PySem.W.kas_mapM (r := Value.type "tuple") _ (fun v hv Q' hq => ?_) (wpAny_pure ?_))))
    · obtain ⟨d, hd, as, r⟩ := e.left v hv
      obtain ⟨xs, rfl⟩ := ht d hd
      exact PySem.W.Looks.here (PySem.W.looks_reads (M := M) r) hq
    · obtain ⟨v, vs', rfl⟩ : ∃ v vs', vs = v :: vs' := by
        cases e with
        | nil => exact absurd hno (by decide)
        | cons h t => exact ⟨_, _, rfl⟩
      have hall : ((List.map (fun _ => Value.type "tuple") (v :: vs')).toArray.all fun x => x == Value.type "tuple") = true := by
        simp only [List.all_toArray, List.all_map, List.all_eq_true]
        intro _ _
        rfl
      have h0 : (List.map (fun _ => Value.type "tuple") (v :: vs')).toArray[0]? = some (Value.type "tuple") := by simp
      rw [h0]
      simp only [hall, if_true]
      exact wpAny_pure (wpAny_pure h)
open PySem.W PySem.SeqAt in
/-- one tuple against another, by tuple's own < -/
theorem tup_one {E : Value → Shared → Prop} {a b : Value} {as bs : List Addr} {xs ys : List PyData} {Q : Bool → Shared → Prop} (ra : Reads s.heap a (.tuple xs) as) (rb : Reads s.heap b (.tuple ys) bs) (hal : alikeAll xs ys = true) (hu : A.units + min (PyData.tuple xs).depth (PyData.tuple ys).depth < cLine)
    (hq : Q (dataLt (.tuple xs) (.tuple ys)) s) : wpAny (model prog w) A (oneLt' true a b) Q E s := by
  cases ra with
  | @tuple l o vs n _ _ h1 h2 h3 h4 =>
    cases rb with
    | @tuple l' o' vs' n' _ _ k1 k2 k3 k4 =>
      have n1 : vs.size = xs.length := by simpa using ReadsAll.length _ _ _ h4
      have n2 : vs'.size = ys.length := by simpa using ReadsAll.length _ _ _ k4
      obtain ⟨cls, dd, data, sl⟩ := o
      obtain ⟨cls', dd', data', sl'⟩ := o'
      simp only at h2 h3 k2 k3
      subst h2 h3 k2 k3
      rw [dataLt_tuple, ← firstLt_toks xs ys hal, ← n1, ← n2] at hq
      rw [oneLt'_eq]
      simp only [if_true]
      refine wpAny_bind (wpAny_cRoomFor (room_here hu) ?_)
      refine wpAny_bind (wpAny_callSpecialIfBound?_slot (T := "tuple") ⟨_, h1, rfl⟩ F.slot_tuple_lt (call_meets F.slot_tuple_lt ⟨_, h1, rfl⟩ F.entry_tuple_lt (F.args_tuple_lt_2 _ _)
        (tuple_ltAt l l' vs vs' n n' dd dd' sl sl' (pairEq xs ys) (fun j => dataLt (xs.getD j .none) (ys.getD j .none))) ⟨h1, k1, fun j j1 j2 => ?_, fun j j1 j2 hj => ?_, ?_⟩))
      · have := eqAt_alikeAll xs ys A.in1 s vs.toList vs'.toList _ _ h4 k4 hal (room_in hu) j (by simpa using j1) (by simpa using j2)
        simpa using this
      · have := rcLt_alikeAll xs ys A.in1 s vs.toList vs'.toList _ _ h4 k4 hal (room_in hu) j (by simpa using j1) (by simpa using j2) hj
        simpa using this
      · exact wpAny_truthy_bool hq
open PySem.W in
theorem sorts_tups {vs : List Value} {ds : List PyData} (e : EachIs (RdsV s.heap) vs ds) (hal : AllAlike ds) (ht : ∀ d ∈ ds, ∃ r, d = .tuple r) (hu : ∀ d, d ∈ ds → A.units + d.depth < cLine) : SortsAt prog w A s (dataKind s.heap ds) vs := by
  by_cases hno : ds.all full = true
  · refine SortsAt.data e hal (.inl fun d hd => ?_) hu
    obtain ⟨r, rfl⟩ := ht d hd
    have z := List.all_eq_true.mp hno _ hd
    cases r with
    | nil => cases z
    | cons x r => exact ⟨x, r, rfl⟩
  · have room : ∀ {d d' : PyData}, d ∈ ds → A.units + min d.depth d'.depth < cLine := fun {d d'} hd => Nat.lt_of_le_of_lt (Nat.add_le_add_left (Nat.min_le_left _ _) _) (hu d hd)
    refine ⟨fun v hv => ?_, if (ds.head?.map full) = some true then general' else oneType', ?_, fun _ E Q hq => tups_kind e ht (by simpa using hno) Q hq⟩
    · obtain ⟨d, hd, as, r⟩ := e.left v hv
      exact ⟨_, dataKind_some hal hd r⟩
    · intro E x y a b Q ha hb hq
      obtain ⟨d, as, hd, ra, rfl⟩ := dataKind_inv ha
      obtain ⟨d', as', hd', rb, rfl⟩ := dataKind_inv hb
      have hdd := hal d hd d' hd'
      have hroom := room (d' := d') hd
      obtain ⟨r1, rfl⟩ := ht d hd
      obtain ⟨r2, rfl⟩ := ht d' hd'
      split
      · show wpAny (model prog w) A (oneLt' false x y) Q E s
        exact oneLt_alike (fun z => absurd z Bool.false_ne_true) ra rb hdd (fun z => nomatch z) hroom hq
      · rw [keyLt'_oneType]
        exact tup_one ra rb (by simpa [alike] using hdd) hroom hq
end
end Kl
set_option linter.all false
set_option maxRecDepth 100000
set_option maxHeartbeats 4000000
/-! # S9: the order of data; sorted(list), sorted(set(xs)) as rules -/
namespace Kl
open PySem PySem.Spec PyProof.Rows L2
/-- data of one kind that have an order -/
structure En {κ : Type} (enc : κ → PyData) : Prop where
  alike : ∀ a b, PySem.W.alike (enc a) (enc b) = true
  inj : ∀ a b, PySem.W.keyToks (enc a) = PySem.W.keyToks (enc b) → a = b
  depth : ∀ a, (enc a).depth ≤ 8
  kind : (∀ a, ∃ r, enc a = .tuple r) ∨ ∀ a, enc a ≠ .none ∧ ∀ xs, enc a ≠ .tuple xs
section
variable {κ : Type} (enc : κ → PyData)
def ltE (a b : κ) : Bool := PySem.W.dataLt (enc a) (enc b)
theorem ltE_irrefl (a : κ) : ltE enc a a = false := lex_irrefl _
theorem ltE_trans {a b c : κ} (h : ltE enc a b = true) (k : ltE enc b c = true) : ltE enc a c = true := lex_trans _ _ _ h k
variable {enc}
theorem En.tri (N : En enc) {a b : κ} (h : ltE enc a b = false) (k : ltE enc b a = false) : a = b := N.inj a b (lex_total _ _ h k)
theorem En.asym (N : En enc) {a b : κ} (h : ltE enc a b = true) : ltE enc b a = false := by
  cases q : ltE enc b a with
  | false => rfl
  | true =>
    have z := ltE_trans enc h q
    rw [ltE_irrefl] at z
    exact nomatch z
theorem En.neg (N : En enc) {a b c : κ} (h : ltE enc b a = false) (k : ltE enc c b = false) : ltE enc c a = false := by
  cases q : ltE enc c a with
  | false => rfl
  | true =>
    rcases lex_negTrans _ (PySem.W.keyToks (enc b)) _ q with z | z
    · exact absurd ((show ltE enc c b = true from z).symm.trans k) Bool.true_eq_false.mp
    · exact absurd ((show ltE enc b a = true from z).symm.trans h) Bool.true_eq_false.mp
variable (enc)
/-- strictly rising -/
def Asc (l : List κ) : Prop := l.Pairwise fun a b => ltE enc a b = true
/-- rising -/
def Asl (l : List κ) : Prop := l.Pairwise fun a b => ltE enc b a = false
def insE (x : κ) : List κ → List κ
  | [] => [x]
  | y :: ys => if ltE enc y x = true then y :: insE x ys else x :: y :: ys
def srt : List κ → List κ
  | [] => []
  | x :: xs => insE enc x (srt xs)
/-- each once -/
def once [DecidableEq κ] : List κ → List κ
  | [] => []
  | x :: xs => if x ∈ once xs then once xs else x :: once xs
def setOf [DecidableEq κ] (xs : List κ) : List κ := srt enc (once xs)
theorem insE_perm (x : κ) : ∀ l : List κ, (insE enc x l).Perm (x :: l)
  | [] => List.Perm.refl _
  | y :: ys => by
    unfold insE
    split
    · exact ((insE_perm x ys).cons y).trans (List.Perm.swap x y ys)
    · exact List.Perm.refl _
theorem srt_perm : ∀ l : List κ, (srt enc l).Perm l
  | [] => List.Perm.refl _
  | x :: xs => (insE_perm enc x (srt enc xs)).trans ((srt_perm xs).cons x)
theorem mem_srt {l : List κ} {x : κ} : x ∈ srt enc l ↔ x ∈ l := (srt_perm enc l).mem_iff
variable {enc}
theorem insE_asl (N : En enc) (x : κ) : ∀ {l : List κ}, Asl enc l → Asl enc (insE enc x l)
  | [], _ => List.pairwise_singleton _ _
  | y :: ys, h => by
    obtain ⟨h1, h2⟩ := List.pairwise_cons.mp h
    unfold insE
    split
    · next c =>
      refine List.pairwise_cons.mpr ⟨fun z hz => ?_, insE_asl N x h2⟩
      rcases List.mem_cons.mp ((insE_perm enc x ys).mem_iff.mp hz) with e | hz
      · rw [e]
        exact N.asym c
      · exact h1 z hz
    · next c =>
      have c' : ltE enc y x = false := by simpa using c
      exact List.pairwise_cons.mpr ⟨fun z hz => by
        rcases List.mem_cons.mp hz with e | hz
        · rw [e]
          exact c'
        · exact N.neg c' (h1 z hz), h⟩
theorem srt_asl (N : En enc) : ∀ l : List κ, Asl enc (srt enc l)
  | [] => List.Pairwise.nil
  | x :: xs => insE_asl N x (srt_asl N xs)
theorem asl_unique (N : En enc) : ∀ {l m : List κ}, Asl enc l → Asl enc m → l.Perm m → l = m
  | [], m, _, _, p => p.symm.eq_nil.symm
  | x :: xs, [], _, _, p => p.eq_nil
  | x :: xs, y :: ys, h, k, p => by
    obtain ⟨h1, h2⟩ := List.pairwise_cons.mp h
    obtain ⟨k1, k2⟩ := List.pairwise_cons.mp k
    have e : x = y := by
      have a : x ∈ y :: ys := p.mem_iff.mp List.mem_cons_self
      have b : y ∈ x :: xs := p.mem_iff.mpr List.mem_cons_self
      rcases List.mem_cons.mp a with e | a
      · exact e
      · rcases List.mem_cons.mp b with e | b
        · exact e.symm
        · exact N.tri (k1 x a) (h1 y b) |>.symm ▸ rfl
    subst e
    rw [asl_unique N h2 k2 ((List.perm_cons _).mp p)]
theorem Asc.asl (N : En enc) {l : List κ} (h : Asc enc l) : Asl enc l := h.imp fun z => N.asym z
theorem Asl.asc (N : En enc) {l : List κ} (h : Asl enc l) (d : l.Nodup) : Asc enc l := by
  unfold Asl Asc at *
  unfold List.Nodup at d
  refine (List.pairwise_and_iff.mpr ⟨h, d⟩).imp fun {a b} ⟨x, y⟩ => ?_
  cases q : ltE enc a b with
  | true => rfl
  | false => exact absurd (N.tri q x) y
theorem Asc.nodup {l : List κ} (h : Asc enc l) : l.Nodup := h.imp fun {a b} z e => by
  subst e
  rw [ltE_irrefl] at z
  exact nomatch z
/-- two strictly rising lists with the same members are one -/
theorem asc_unique (N : En enc) {l m : List κ} (h : Asc enc l) (k : Asc enc m) (e : ∀ x, x ∈ l ↔ x ∈ m) : l = m :=
  asl_unique N (h.asl N) (k.asl N) ((List.perm_ext_iff_of_nodup h.nodup k.nodup).mpr e)
theorem mem_once [DecidableEq κ] : ∀ {l : List κ} {x : κ}, x ∈ once l ↔ x ∈ l
  | [], _ => Iff.rfl
  | y :: ys, x => by
    unfold once
    split
    · next c =>
      rw [mem_once, List.mem_cons]
      exact ⟨.inr, fun z => z.elim (fun e => e ▸ mem_once.mp c) id⟩
    · rw [List.mem_cons, List.mem_cons, mem_once]
theorem once_nodup [DecidableEq κ] : ∀ l : List κ, (once l).Nodup
  | [] => List.nodup_nil
  | y :: ys => by
    unfold once
    split
    · exact once_nodup ys
    · next c => exact List.nodup_cons.mpr ⟨c, once_nodup ys⟩
theorem mem_setOf [DecidableEq κ] {l : List κ} {x : κ} : x ∈ setOf enc l ↔ x ∈ l := (mem_srt enc).trans mem_once
theorem setOf_asc [DecidableEq κ] (N : En enc) (l : List κ) : Asc enc (setOf enc l) := (srt_asl N _).asc N ((srt_perm enc _).nodup_iff.mpr (once_nodup l))
theorem setOf_len [DecidableEq κ] (l : List κ) : (setOf enc l).length ≤ l.length := by
  have h : ∀ l : List κ, (once l).length ≤ l.length := fun l => by
    induction l with
    | nil => exact Nat.le_refl _
    | cons y ys ih =>
      unfold once
      split
      · exact Nat.le_succ_of_le ih
      · exact Nat.succ_le_succ ih
  unfold setOf
  rw [(srt_perm enc _).length_eq]
  exact h l
theorem merge_srt (N : En enc) (l : List κ) : l.mergeSort (PySem.W.dataLe false enc) = srt enc l := by
  have le : ∀ a b, PySem.W.dataLe false enc a b = !ltE enc b a := fun _ _ => rfl
  have p : (l.mergeSort (PySem.W.dataLe false enc)).Pairwise fun a b => PySem.W.dataLe false enc a b = true := List.pairwise_mergeSort (le := PySem.W.dataLe false enc) (fun a b c h k => by
      rw [le] at *
      simp only [Bool.not_eq_true', Bool.not_eq_eq_eq_not, Bool.not_true] at *
      exact N.neg h k) (fun a b => by
      rw [le, le]
      cases q : ltE enc b a with
      | false => rfl
      | true => rw [N.asym q]; rfl) l
  refine asl_unique N (p.imp fun {a b} h => by
    rw [le] at h
    simpa using h) (srt_asl N l) ((List.mergeSort_perm l _).trans (srt_perm enc l).symm)
theorem merge_set [DecidableEq κ] (N : En enc) {ks l : List κ} (d : ks.Nodup) (e : ∀ x, x ∈ ks ↔ x ∈ l) : ks.mergeSort (PySem.W.dataLe false enc) = setOf enc l := by
  rw [merge_srt N]
  exact asc_unique N ((srt_asl N _).asc N ((srt_perm enc _).nodup_iff.mpr d)) (setOf_asc N l) fun x => by rw [mem_srt, mem_setOf, e]
end
theorem en_str : En PyData.str := ⟨fun a b => by simp [PySem.W.alike], fun a b h => PySem.W.str_of_cps (by simpa [PySem.W.keyToks] using h), fun a => by simp [PyData.depth], .inr fun a => ⟨fun h => (nomatch h), fun xs h => (nomatch h)⟩⟩
theorem en_int : En PyData.int := ⟨fun a b => by simp [PySem.W.alike], fun a b h => by simpa [PySem.W.keyToks] using h, fun a => by simp [PyData.depth], .inr fun a => ⟨fun h => (nomatch h), fun xs h => (nomatch h)⟩⟩
theorem alike_map {κ : Type} {f : κ → PyData} (h : ∀ a b, PySem.W.alike (f a) (f b) = true) : ∀ xs ys : List κ, PySem.W.alikeAll (xs.map f) (ys.map f) = true
  | [], _ => by rw [List.map_nil, PySem.W.alikeAll]
  | _ :: _, [] => by rw [List.map_nil, List.map_cons, PySem.W.alikeAll]
  | x :: xs, y :: ys => by
    rw [List.map_cons, List.map_cons, PySem.W.alikeAll, h, alike_map h xs ys]
    rfl
theorem depth_map {κ : Type} {f : κ → PyData} (h : ∀ a, (f a).depth = 0) : ∀ xs : List κ, PyData.depthAll (xs.map f) = 0
  | [] => by simp [PyData.depthAll]
  | x :: xs => by
    rw [List.map_cons, PyData.depthAll, h, depth_map h xs]
    rfl
theorem en_strs : En fun xs : List Str => PyData.tuple (xs.map .str) := ⟨fun a b => by
    show PySem.W.alike (.tuple _) (.tuple _) = true
    rw [PySem.W.alike]
    exact alike_map en_str.alike a b, fun a b h => by
    simp only [PySem.W.keyToks] at h
    induction a generalizing b with
    | nil =>
      cases b with
      | nil => rfl
      | cons y ys => simp [PySem.W.keyToksAll] at h
    | cons x xs ih =>
      cases b with
      | nil => simp [PySem.W.keyToksAll] at h
      | cons y ys =>
        simp only [List.map_cons, PySem.W.keyToksAll, PySem.W.keyToks, List.cons_append, List.nil_append, List.cons.injEq, true_and] at h
        rw [PySem.W.str_of_cps (Sum.inr.inj h.1), ih _ h.2], fun a => by
    show (PyData.tuple _).depth ≤ 8
    rw [PyData.depth, depth_map (fun _ => by simp [PyData.depth])]
    decide, .inl fun a => ⟨_, rfl⟩⟩
theorem en_ints : En fun xs : List Int => PyData.tuple (xs.map .int) := ⟨fun a b => by
    show PySem.W.alike (.tuple _) (.tuple _) = true
    rw [PySem.W.alike]
    exact alike_map en_int.alike a b, fun a b h => by
    simp only [PySem.W.keyToks] at h
    induction a generalizing b with
    | nil =>
      cases b with
      | nil => rfl
      | cons y ys => simp [PySem.W.keyToksAll] at h
    | cons x xs ih =>
      cases b with
      | nil => simp [PySem.W.keyToksAll] at h
      | cons y ys =>
        simp only [List.map_cons, PySem.W.keyToksAll, PySem.W.keyToks, List.cons_append, List.nil_append, List.cons.injEq, true_and] at h
        rw [Sum.inl.inj h.1, ih _ h.2], fun a => by
    show (PyData.tuple _).depth ≤ 8
    rw [PyData.depth, depth_map (fun _ => by simp [PyData.depth])]
    decide, .inl fun a => ⟨_, rfl⟩⟩
end Kl
set_option linter.all false
set_option maxRecDepth 100000
set_option maxHeartbeats 4000000
/-! # S10: sorted(list), sorted(set(xs)) as typed rules -/
namespace Kl
open PySem PySem.Spec PyProof.Rows L2
section
variable {ok : Addr → Prop} {W : Wd ok} {X : Cx} {κ : Type} {enc : κ → PyData}
open PySem.W in
theorem sorts_en {prog : Program} {w : World} {A : Around} {s : Shared} (N : En enc) {vs : List Value} {ks : List κ} (e : EachIs (fun v k => ∃ as, Reads s.heap v (enc k) as) vs ks) (hu : A.units + 60 < cLine) : SortsAt prog w A s (dataKind s.heap (ks.map enc)) vs := by
  have e' : EachIs (RdsV s.heap) vs (ks.map enc) := each_map (R := RdsV s.heap) enc e
  have hal : AllAlike (ks.map enc) := AllAlike.of N.alike
  have hd : ∀ d, d ∈ ks.map enc → A.units + d.depth < cLine := fun d hd => by
    obtain ⟨k, _, rfl⟩ := List.mem_map.mp hd
    have := N.depth k
    omega
  rcases N.kind with h | h
  · exact sorts_tups e' hal (fun d hd => by
      obtain ⟨k, _, rfl⟩ := List.mem_map.mp hd
      exact h k) hd
  · exact SortsAt.data e' hal (Sortable.others h) hd
open PySem.W in
theorem each_sorted (N : En enc) {h : Heap} {vs : List Value} {ks : List κ} (e : EachIs (fun v k => ∃ as, Reads h v (enc k) as) vs ks) (R : Value → κ → Prop) (r : EachIs R vs ks) : EachIs R (sortVals (dataKind h (ks.map enc)) false vs vs) (ks.mergeSort (dataLe false enc)) :=
  sortVals_data false r e (AllAlike.of N.alike)
/-- values of these data, from somewhere in the tracked heap -/
theorem each_vals {H : Hp} : ∀ {out : List Value} {ks : List κ}, PySem.W.EachIs (fun v k => ∃ x, RelV x v ∧ R ok H x (enc k)) out ks → ∃ xs, Vals xs out ∧ RA ok H xs (ks.map enc)
  | _, _, .nil => ⟨[], .nil, .nil⟩
  | _, _, .cons ⟨x, r, h⟩ t => by
    obtain ⟨xs, h1, h2⟩ := each_vals t
    exact ⟨x :: xs, .cons r h1, .cons h h2⟩
theorem vals_each {H : Hp} : ∀ {xs : List V} {vs : List Value} {ks : List κ}, Vals xs vs → RA ok H xs (ks.map enc) → PySem.W.EachIs (fun v k => ∃ x, RelV x v ∧ R ok H x (enc k)) vs ks
  | _, _, [], .nil, _ => .nil
  | _, _, k :: ks, .cons r t, h => by
    cases h with
    | cons h1 h2 => exact .cons ⟨_, r, h1⟩ (vals_each t h2)
/-- sorted(xs), a list of data of one kind -/
def rSrt (W : Wd ok) (enc : κ → PyData) : List V → Hp → VK → Prop := fun vs H Q => ∃ (x : V) (ks : List κ), vs = [x] ∧ W.J H ∧ R ok H x (.list (ks.map enc)) ∧ ∀ v H2, Le W H H2 → R ok H2 v (.list ((srt enc ks).map enc)) → Q v H2
theorem cr_srt (N : En enc) (hu : X.A.units + 64 < cLine) : CallR X (.builtin "sorted") (rSrt W enc) := by
  intro pins s σ H vs us Q I r h
  obtain ⟨x, ks, rfl, j, hx, q⟩ := h
  cases hx with
  | @lst a xs _ kh1 h1 ra =>
    obtain ⟨its, rv, hl, hz⟩ := I.list (SqL.of h1)
    rw [Vals.ref1 r]
    have e := vals_each rv ra
    have rd : PySem.W.EachIs (fun v k => ∃ as, Reads (PySem.W.sortingHeap (PySem.W.copyHeap s.heap its) (s.heap.objs.size + 1) its) v (enc k) as) its ks := e.mono fun v k ⟨x, rx, hx⟩ => by
      obtain ⟨as, rr⟩ := Dp.reads I _ _ _ (R.dp hx) rx
      exact ⟨as, PyProof.Rows.Reads.keeps (fun _ _ => PySem.W.sorting_copy_old) rr⟩
    have zl : its.length ≤ sizeLine := by
      rw [← rv.length]
      exact hz
    refine PySem.W.sorted_vals hl.isList (κ := PySem.W.dataKind (PySem.W.sortingHeap (PySem.W.copyHeap s.heap its) (s.heap.objs.size + 1) its) (ks.map enc)) (sorts_en (s := { s with heap := PySem.W.sortingHeap (PySem.W.copyHeap s.heap its) (s.heap.objs.size + 1) its }) N rd (by
      show X.A.units + 2 + 60 < cLine
      omega)) zl ?_
    have eo := each_sorted N rd _ e
    rw [merge_srt N] at eo
    obtain ⟨ys, y1, y2⟩ := each_vals eo
    generalize PySem.W.sortVals (PySem.W.dataKind (PySem.W.sortingHeap (PySem.W.copyHeap s.heap its) (s.heap.objs.size + 1) its) (ks.map enc)) false its its = out at eo y1
    obtain ⟨ep, he'⟩ := PyProof.Rows.sortedAll_at s.heap its out.toArray
    have hn : H (s.heap.objs.size + 1) = none := I.hok.fresh (Nat.le_succ _)
    have hlen : ys.length ≤ sizeLine := by
      rw [y2.length, List.length_map, (srt_perm enc ks).length_eq]
      rw [ra.length, List.length_map] at hz
      exact hz
    exact ⟨.ref _, upd H (s.heap.objs.size + 1) (.lst ys), I.laid (t' := s.toks) (fun _ _ => PyProof.Rows.sortedAll_old) (Nat.le_succ _) ⟨hlen, out, ep, y1, he'⟩, rfl, q _ _ (le_upd j hn) (.lst (W.fresh j hn) upd_same (y2.same (Rel.of (same_upd hn))))⟩
variable {δ : DEnv ok}
theorem vsorted {a : Expr} {p pos : Pos} {ks : List κ} (N : En enc) (hu : X.A.units + 64 < cLine) (hm : X.mg "sorted" = none) (ha : PEv W X a δ (D (.list (ks.map enc)))) (hg : Gl X "sorted" := by rfl) (hs : starEach [a] X.env = (false, eval a X.env) :: starEach [] X.env := by rfl) :
    PEv W X (.Call (.Name "sorted" p) [a] [] pos) δ (D (.list ((srt enc ks).map enc))) :=
  vcb (cr_srt (W := W) N hu) hm (by decide +kernel) (acons ha anil hs) (fun H vs Q j h k => by
    obtain ⟨v, rfl, r⟩ := tya1 h
    exact ⟨v, ks, rfl, j, r, k⟩) hg (he := hs)
end
/-- members of one kind: how sets hold them, how they read -/
structure MkS {κ : Type} (P : Program) (w : World) (enc : κ → PyData) (C : SK P w κ) : Prop where
  en : En enc
  is : ∀ {ok : Addr → Prop} {X : Cx} {pins : List (Addr × Obj)} {σ : L2.St} {H : Hp} {s : Shared} {k : κ} {x : V} {v : Value}, X.prog = P → X.w = w → Inv X pins σ H s → R ok H x (enc k) → RelV x v → C.is s.heap k v
  reads : ∀ {h : Heap} {k : κ} {v : Value}, C.is h k v → ∃ as, Reads h v (enc k) as
section
variable {P : Program} {w : World}
theorem mk_str : MkS P w PyData.str (strS P w) := ⟨en_str, fun {ok X pins σ H s k x v} _ _ I h r => by
  cases h
  obtain ⟨t, rfl⟩ := r
  exact strKind_is _ _ _ _, fun {h k v} e => by
  obtain ⟨t, rfl⟩ := Value.isStrOf_shape e
  exact ⟨_, Reads.str k t⟩⟩
theorem mk_int : MkS P w PyData.int (intS P w) := ⟨en_int, fun {ok X pins σ H s k x v} _ _ I h r => by
  cases h
  obtain ⟨t, rfl⟩ := r
  exact intKind_is _ _ _ _, fun {h k v} e => by
  obtain ⟨t, rfl⟩ := Value.isInt_shape e
  exact ⟨_, Reads.int k t⟩⟩
theorem items_strs : ∀ {k : List Str} {us : List Value}, Vals (k.map V.str) us → ItemsAre (PySem.strKind P w) k us
  | [], _, .nil => .nil
  | n :: k, _, .cons r t => by
    obtain ⟨tk, rfl⟩ := r
    exact .cons (strKind_is P w n tk) (items_strs t)
theorem strs_reads {h : Heap} : ∀ {k : List Str} {us : List Value}, ItemsAre (PySem.strKind P w) k us → ∃ as, ReadsAll h us (k.map .str) as
  | [], _, .nil => ⟨_, .nil⟩
  | n :: k, _, .cons e t => by
    obtain ⟨as, r⟩ := strs_reads t
    obtain ⟨tk, rfl⟩ := Value.isStrOf_shape e
    exact ⟨_, .cons (.str n tk) r⟩
theorem ints_reads {h : Heap} : ∀ {k : List Int} {us : List Value}, ItemsAre (PySem.intKind P w) k us → ∃ as, ReadsAll h us (k.map .int) as
  | [], _, .nil => ⟨_, .nil⟩
  | n :: k, _, .cons e t => by
    obtain ⟨as, r⟩ := ints_reads t
    obtain ⟨tk, rfl⟩ := Value.isInt_shape e
    exact ⟨_, .cons (.int n tk) r⟩
theorem mk_strs : MkS P w (fun xs : List Str => PyData.tuple (xs.map .str)) (strsS P w) := ⟨en_strs, fun {ok X pins σ H s k x v} _ _ I h r => by
  cases h with
  | @tup a xs _ kh1 h1 ra =>
    cases r
    rw [ra.strs] at h1
    obtain ⟨its, rv, ⟨o, ho, hc, n, hd⟩, _⟩ := I.tuple (.inl h1.rd)
    exact ⟨a, rfl, o, its.toArray, n, ho, hc, hd, by simpa using items_strs rv⟩, fun {h k v} e => by
  obtain ⟨a, rfl, o, its, n, ho, hc, hd, hi⟩ := e
  obtain ⟨as, r⟩ := strs_reads (h := h) hi
  exact ⟨_, Reads.tuple ho hc hd r⟩⟩
theorem mk_ints : MkS P w (fun xs : List Int => PyData.tuple (xs.map .int)) (intsS P w) := ⟨en_ints, fun {ok X pins σ H s k x v} _ _ I h r => by
  cases h with
  | @tup a xs _ kh1 h1 ra =>
    cases r
    rw [ra.ints] at h1
    obtain ⟨its, rv, ⟨o, ho, hc, n, hd⟩, _⟩ := I.tuple (.inl h1.rd)
    exact ⟨a, rfl, o, its.toArray, n, ho, hc, hd, by simpa using items_of_vals rv⟩, fun {h k v} e => by
  obtain ⟨a, rfl, o, its, n, ho, hc, hd, hi⟩ := e
  obtain ⟨as, r⟩ := ints_reads (h := h) hi
  exact ⟨_, Reads.tuple ho hc hd r⟩⟩
end

section
variable {ok : Addr → Prop} {W : Wd ok} {X : Cx} {δ : DEnv ok} {κ : Type} [DecidableEq κ] {enc : κ → PyData}
/-- the items with the members they stand for -/
theorem each_pairs {H : Hp} : ∀ {vs : List Value} {ks : List κ}, PySem.W.EachIs (fun v k => ∃ x, RelV x v ∧ R ok H x (enc k)) vs ks → ∃ L : List (Value × κ), vs = L.map (·.1) ∧ ks = L.map (·.2) ∧ ∀ p ∈ L, ∃ x, RelV x p.1 ∧ R ok H x (enc p.2)
  | _, _, .nil => ⟨[], rfl, rfl, fun p hp => (nomatch hp)⟩
  | _, _, .cons (a := v) (b := k) h t => by
    obtain ⟨L, h1, h2, h3⟩ := each_pairs t
    refine ⟨(v, k) :: L, by rw [h1]; rfl, by rw [h2]; rfl, fun p hp => ?_⟩
    rcases List.mem_cons.mp hp with e | hp
    · rw [e]
      exact h
    · exact h3 p hp
theorem fin_set {C : SK X.prog X.w κ} (M : MkS X.prog X.w enc C) (hu : X.A.units + 64 < cLine) (hc : X.calm = true) {pins : List (Addr × Obj)} {σ : L2.St} {H : Hp} {s : Shared} (I : Inv X pins σ H s) {L0 : List (Value × κ)} {xs : List κ} (e0 : xs = L0.map (·.2)) (h0 : ∀ p ∈ L0, ∃ x, RelV x p.1 ∧ R ok H x (enc p.2))
    (hf : xs.length < 64) {a : Addr} {L : List (Value × κ)} (r : C.rep s.heap a L) (g : Has L0 L0.length L) {Q : VK} (j : W.J H) (q : ∀ v H2, Le W H H2 → R ok H2 v (.list ((setOf enc xs).map enc)) → Q v H2) : wpAny (model X.prog X.w) X.A (call (.builtin "sorted") [.ref a]) (EP X pins σ Q) X.xe s := by
  have sub : ∀ p ∈ L, p ∈ L0 := fun p hp => List.mem_of_mem_take (g.sub p hp)
  have hL : L.length < 64 := by
    have := g.len
    rw [e0, List.length_map] at hf
    omega
  refine callSortedSet C (enc := enc) r (I.ok.hd hc) hL (fun s' vs ks kp ei => ?_) fun s' p out c ks kp hg ho hp hget pm eo => ?_
  · have rd : PySem.W.EachIs (fun v k => ∃ as, Reads s'.heap v (enc k) as) vs ks := ei.mono fun v k h => M.reads h
    refine ⟨_, sorts_en (A := X.A.in1.in1) M.en rd (by
      show X.A.units + 2 + 60 < cLine
      omega), fun R' r' => each_sorted M.en rd R' r'⟩
  · obtain ⟨o, es, ep, t, _, _, _, _, _, _, _, _, nd, _⟩ := C.out r
    have mem : ∀ x, x ∈ ks ↔ x ∈ xs := fun x => by
      rw [pm.mem_iff, e0]
      constructor
      · intro hx
        obtain ⟨p, hp, rfl⟩ := List.mem_map.mp hx
        exact List.mem_map.mpr ⟨p, sub p hp, rfl⟩
      · intro hx
        obtain ⟨p, hp, rfl⟩ := List.mem_map.mp hx
        exact g.all p (by rw [List.take_length]; exact hp)
    rw [merge_set M.en (pm.nodup_iff.mpr nd) mem] at eo
    obtain ⟨ys, y1, y2⟩ := each_vals (eo.mono fun v k hm => h0 (v, k) (sub _ hm))
    have hn : H p = none := I.hok.fresh hp
    have hlen : ys.length ≤ sizeLine := by
      rw [y2.length, List.length_map, sizeLine_eq]
      have := setOf_len (enc := enc) xs
      omega
    have J : Inv X pins σ (upd H p (.lst ys)) { s with heap := s'.heap, gens := s'.gens, drawn := s'.drawn, toks := s'.toks } :=
      I.call (ch := []) (Un.laid kp hp hn) (I.hok.laid kp hp ⟨hlen, out, c, y1, hget⟩) (by rw [hg]; exact I.bare) (fun _ z => nomatch z)
    have e : s' = { s with heap := s'.heap, gens := s'.gens, drawn := s'.drawn, toks := s'.toks } := by
      cases s'
      cases s
      cases ho
      rfl
    rw [e]
    exact ⟨.ref p, _, J, rfl, q _ _ (le_upd j hn) (.lst (W.fresh j hn) upd_same (y2.same (Rel.of (same_upd hn))))⟩
/-- sorted(set(xs)), xs a list or a tuple -/
theorem vsortset {C : SK X.prog X.w κ} {a : Expr} {p p2 pos q : Pos} {xs : List κ} (M : MkS X.prog X.w enc C) (hu : X.A.units + 64 < cLine) (hc : X.calm = true) (hf : xs.length < 64) (hm : X.mg "sorted" = none) (hm2 : X.mg "set" = none)
    (ha : PEv W X a δ (D (.list (xs.map enc))) ∨ PEv W X a δ (D (.tuple (xs.map enc)))) (hg : Gl X "sorted" := by rfl) (hg2 : Gl X "set" := by rfl) (na : starEach [a] X.env = (false, eval a X.env) :: starEach [] X.env := by rfl) :
    PEv W X (.Call (.Name "sorted" p) [.Call (.Name "set" p2) [a] [] q] [] pos) δ (D (.list ((setOf enc xs).map enc))) := by
  refine ⟨fun σ H Q sl k pins s I => ?_⟩
  refine Call_ (ld_blt I hg hm (u := .builtin "sorted") (by decide +kernel) ?_)
  refine PyProof.Rows.callWith_builtin1 (PyProof.Rows.args_cons ?_ rfl) rfl rfl
  refine Call_ (ld_blt I hg2 hm2 boot_set ?_)
  refine PyProof.Rows.callWith_type1 (PyProof.Rows.args_cons ?_ na) na rfl
  rcases ha with ha | ha
  · refine thn (ha.run σ H (fun v H1 => Le W H H1 ∧ R ok H1 v (.list (xs.map enc))) sl (fun v H1 s1 r1 => ⟨s1, r1⟩) pins s I) fun v s1 ⟨x, H1, I1, r1, sm, hx⟩ => PyProof.Rows.args_nil ?_
    cases hx with
    | @lst b vs _ kh1 h1 ra =>
      cases r1
      obtain ⟨its, rv, hl, hz⟩ := I1.list (SqL.of h1)
      obtain ⟨L0, e1, e2, h0⟩ := each_pairs (vals_each rv ra)
      have hlen0 : L0.length = xs.length := by rw [e2, List.length_map]
      refine callSetL C L0 (I1.ok.hd hc) hl.isList (by simpa using e1) (fun p hp => ?_) (by rw [hlen0]; exact hf) (by omega) fun h' tk L r g kp => PyProof.Rows.args_nil ?_
      · obtain ⟨x, rx, hx⟩ := h0 p hp
        exact M.is rfl rfl I1 hx rx
      · have I2 : Inv X pins σ H1 { s1 with heap := h', toks := tk } := I1.kept kp
        exact fin_set M hu hc I2 e2 h0 hf r g sm.j fun v H2 s2 r2 => k v H2 (sm.trans s2) r2
  · refine thn (ha.run σ H (fun v H1 => Le W H H1 ∧ R ok H1 v (.tuple (xs.map enc))) sl (fun v H1 s1 r1 => ⟨s1, r1⟩) pins s I) fun v s1 ⟨x, H1, I1, r1, sm, hx⟩ => PyProof.Rows.args_nil ?_
    cases hx with
    | @tup b vs _ kh1 h1 ra =>
      cases r1
      obtain ⟨its, rv, hl, hz⟩ := I1.tuple (.inl h1.rd)
      obtain ⟨L0, e1, e2, h0⟩ := each_pairs (vals_each rv ra)
      have hlen0 : L0.length = xs.length := by rw [e2, List.length_map]
      refine callSetT C L0 (I1.ok.hd hc) hl (by simpa using e1) (fun p hp => ?_) (by rw [hlen0]; exact hf) (by omega) fun h' tk L r g kp => PyProof.Rows.args_nil ?_
      · obtain ⟨x, rx, hx⟩ := h0 p hp
        exact M.is rfl rfl I1 hx rx
      · have I2 : Inv X pins σ H1 { s1 with heap := h', toks := tk } := I1.kept kp
        exact fin_set M hu hc I2 e2 h0 hf r g sm.j fun v H2 s2 r2 => k v H2 (sm.trans s2) r2
end
end Kl
set_option linter.all false
set_option maxRecDepth 100000
set_option maxHeartbeats 4000000
/-! # P0: nets as data; the module's names -/
namespace Kl
open PySem PySem.Spec PyProof.Rows L2
structure Line where
  tag : Str
  start : Str
  goal : Str
  most : Int
  key : Str
structure Net where
  yards : List (Str × Int)
  lines : List Line
  custs : List (Str × Str)
def encY (y : Str × Int) : PyData := .tuple [.str y.1, .int y.2]
def encLn (l : Line) : PyData := .tuple [.str l.tag, .str l.start, .str l.goal, .int l.most, .str l.key]
def encC (c : Str × Str) : PyData := .tuple [.str c.1, .str c.2]
def encN (N : Net) : PyData := .tuple [.tuple (N.yards.map encY), .tuple (N.lines.map encLn), .tuple (N.custs.map encC)]
def ss (xs : List Str) : PyData := .tuple (xs.map .str)
def ii (xs : List Int) : PyData := .tuple (xs.map .int)
/-- a net within which all goes fast -/
structure Small (N : Net) : Prop where
  yards : N.yards.length ≤ 4
  lines : N.lines.length ≤ 4
  custs : N.custs.length ≤ 4
section
variable {ok : Addr → Prop} {W : Wd ok} {X : Cx} {δ : DEnv ok}
theorem inV_strs (x : Str) : ∀ xs : List Str, inV (.str x) (xs.map V.str) = decide (x ∈ xs)
  | [] => rfl
  | y :: ys => by
    show (eqV (.str y) (.str x) || inV (.str x) (ys.map V.str)) = _
    rw [inV_strs x ys]
    have e : eqV (.str y) (.str x) = decide (x = y) := by
      show (y == x) = decide (x = y)
      by_cases h : x = y
      · subst h
        simp
      · rw [decide_eq_false h]
        exact beq_eq_false_iff_ne.mpr fun z => h z.symm
    rw [e]
    by_cases h : x = y
    · simp [h]
    · simp [h]
theorem flat_strs : ∀ xs : List Str, (xs.map V.str).all flatV = true
  | [] => rfl
  | _ :: xs => flat_strs xs
theorem c_in {x : Str} {xs : List Str} : Cm W X .In (D (.str x)) (D (ss xs)) (decide (x ∈ xs)) := ⟨_, op_in_seq, fun H u v Q p q k => by
  cases p
  cases q with
  | @tup a ws _ ka h1 r =>
    rw [r.strs] at h1
    refine ⟨a, _, rfl, .inr (.inl h1.rd), rfl, flat_strs _, ?_⟩
    rw [inV_strs]
    exact k⟩
theorem c_nin {x : Str} {xs : List Str} : Cm W X .NotIn (D (.str x)) (D (ss xs)) (!decide (x ∈ xs)) := ⟨_, op_notIn_seq, fun H u v Q p q k => by
  cases p
  cases q with
  | @tup a ws _ ka h1 r =>
    rw [r.strs] at h1
    refine ⟨a, _, rfl, .inr (.inl h1.rd), rfl, flat_strs _, ?_⟩
    rw [inV_strs]
    exact k⟩
theorem c_inL {x : Str} {xs : List Str} : Cm W X .In (D (.str x)) (D (.list (xs.map .str))) (decide (x ∈ xs)) := ⟨_, op_in_seq, fun H u v Q p q k => by
  cases p
  cases q with
  | @lst a ws _ ka h1 r =>
    rw [r.strs] at h1
    refine ⟨a, _, rfl, .inl (SqL.of h1), rfl, flat_strs _, ?_⟩
    rw [inV_strs]
    exact k⟩
theorem c_ninL {x : Str} {xs : List Str} : Cm W X .NotIn (D (.str x)) (D (.list (xs.map .str))) (!decide (x ∈ xs)) := ⟨_, op_notIn_seq, fun H u v Q p q k => by
  cases p
  cases q with
  | @lst a ws _ ka h1 r =>
    rw [r.strs] at h1
    refine ⟨a, _, rfl, .inl (SqL.of h1), rfl, flat_strs _, ?_⟩
    rw [inV_strs]
    exact k⟩
theorem eqv_ss : ∀ (a b : List Str), PyData.eqv (ss a) (ss b) = decide (a = b) := fun a b => by
  show PyData.eqv (.tuple _) (.tuple _) = _
  rw [PyData.eqv]
  induction a generalizing b with
  | nil =>
    cases b with
    | nil => simp [PyData.eqvAll]
    | cons y ys => simp [PyData.eqvAll]
  | cons x xs ih =>
    cases b with
    | nil => simp [PyData.eqvAll]
    | cons y ys =>
      rw [List.map_cons, List.map_cons, PyData.eqvAll, PyData.eqv, ih]
      by_cases h : x = y
      · subst h
        simp
      · simp [h]
/-! == and in of plain data -/
def rEqP (neg : Bool) : R2 := fun x y H Q => ∃ (ok : Addr → Prop) (d e : PyData), R ok H x d ∧ R ok H y e ∧ d.plain = true ∧ e.plain = true ∧ d.depth ≤ 60 ∧ Q (.bl (if neg then !PyData.eqv d e else PyData.eqv d e)) H
theorem op_eqP (hu : X.A.units + 64 < cLine) : OpR X (compareOp .Eq) (rEqP false) := by
  intro pins s σ H x y v u Q I rx ry h
  obtain ⟨ok, d, e, hd, he, pd, pe, z, q⟩ := h
  obtain ⟨as, r1⟩ := Dp.reads I d x v (R.dp hd) rx
  obtain ⟨bs, r2⟩ := Dp.reads I e y u (R.dp he) ry
  exact SeqAt.eq_plain r1 r2 pd pe (by have := Nat.min_le_left d.depth e.depth; omega) ⟨.bl _, H, I, rfl, q⟩
theorem op_neP (hu : X.A.units + 64 < cLine) : OpR X (compareOp .NotEq) (rEqP true) := by
  intro pins s σ H x y v u Q I rx ry h
  obtain ⟨ok, d, e, hd, he, pd, pe, z, q⟩ := h
  obtain ⟨as, r1⟩ := Dp.reads I d x v (R.dp hd) rx
  obtain ⟨bs, r2⟩ := Dp.reads I e y u (R.dp he) ry
  exact SeqAt.ne_plain r1 r2 pd pe (by have := Nat.min_le_left d.depth e.depth; omega) ⟨.bl _, H, I, rfl, q⟩
theorem c_eqP {d e : PyData} (hu : X.A.units + 64 < cLine) (pd : d.plain = true) (pe : e.plain = true) (z : d.depth ≤ 60) : Cm W X .Eq (D d) (D e) (PyData.eqv d e) :=
  ⟨_, op_eqP hu, fun H x y Q p q k => ⟨ok, d, e, p, q, pd, pe, z, k⟩⟩
theorem c_neP {d e : PyData} (hu : X.A.units + 64 < cLine) (pd : d.plain = true) (pe : e.plain = true) (z : d.depth ≤ 60) : Cm W X .NotEq (D d) (D e) (!PyData.eqv d e) :=
  ⟨_, op_neP hu, fun H x y Q p q k => ⟨ok, d, e, p, q, pd, pe, z, k⟩⟩
theorem plain_strs : ∀ a : List Str, PyData.plainAll (a.map .str) = true
  | [] => rfl
  | x :: xs => by
    rw [List.map_cons, PyData.plainAll, plain_strs xs]
    rfl
theorem plain_ss (a : List Str) : (ss a).plain = true := by
  show (PyData.tuple _).plain = true
  rw [PyData.plain]
  exact plain_strs a
theorem plain_ints : ∀ a : List Int, PyData.plainAll (a.map .int) = true
  | [] => rfl
  | x :: xs => by
    rw [List.map_cons, PyData.plainAll, plain_ints xs]
    rfl
theorem plain_ii (a : List Int) : (ii a).plain = true := by
  show (PyData.tuple _).plain = true
  rw [PyData.plain]
  exact plain_ints a
theorem depth_ss (a : List Str) : (ss a).depth ≤ 60 := Nat.le_trans (en_strs.depth a) (by decide)
theorem depth_ii (a : List Int) : (ii a).depth ≤ 60 := Nat.le_trans (en_ints.depth a) (by decide)
theorem c_neS {a b : List Str} (hu : X.A.units + 64 < cLine) : Cm W X .NotEq (D (ss a)) (D (ss b)) (!decide (a = b)) := by
  rw [← eqv_ss]
  exact c_neP hu (plain_ss a) (plain_ss b) (depth_ss a)
theorem c_eqS {a b : List Str} (hu : X.A.units + 64 < cLine) : Cm W X .Eq (D (ss a)) (D (ss b)) (decide (a = b)) := by
  rw [← eqv_ss]
  exact c_eqP hu (plain_ss a) (plain_ss b) (depth_ss a)
theorem eqv_str (a b : Str) : PyData.eqv (.str a) (.str b) = decide (a = b) := by
  rw [PyData.eqv]
  by_cases h : a = b
  · subst h
    simp
  · simp [h]
theorem c_eqStr {a b : Str} (hu : X.A.units + 64 < cLine) : Cm W X .Eq (D (.str a)) (D (.str b)) (decide (a = b)) := by
  rw [← eqv_str]
  exact c_eqP hu rfl rfl (by simp [PyData.depth])
theorem c_neStr {a b : Str} (hu : X.A.units + 64 < cLine) : Cm W X .NotEq (D (.str a)) (D (.str b)) (!decide (a = b)) := by
  rw [← eqv_str]
  exact c_neP hu rfl rfl (by simp [PyData.depth])
theorem c_eqInt {a b : Int} (hu : X.A.units + 64 < cLine) : Cm W X .Eq (D (.int a)) (D (.int b)) (decide (a = b)) := by
  have e : PyData.eqv (.int a) (.int b) = decide (a = b) := by
    rw [PyData.eqv]
    by_cases h : a = b
    · subst h
      simp
    · simp [h]
  rw [← e]
  exact c_eqP hu rfl rfl (by simp [PyData.depth])
theorem c_eqB {a b : Bool} (hu : X.A.units + 64 < cLine) : Cm W X .Eq (D (.bool a)) (D (.bool b)) (a == b) := by
  have e : PyData.eqv (.bool a) (.bool b) = (a == b) := by rw [PyData.eqv]
  rw [← e]
  exact c_eqP hu rfl rfl (by simp [PyData.depth])
theorem c_neB {a b : Bool} (hu : X.A.units + 64 < cLine) : Cm W X .NotEq (D (.bool a)) (D (.bool b)) (!(a == b)) := by
  have e : PyData.eqv (.bool a) (.bool b) = (a == b) := by rw [PyData.eqv]
  rw [← e]
  exact c_neP hu rfl rfl (by simp [PyData.depth])
end
theorem at0 {α : Type} {xs : List α} (j : Nat) {v : α} (h : xs[j]? = some v := by rfl) : atI xs (j : Int) = some v := atI_nat h
/-- the module's names that hold numbers, the built-ins that are still there -/
structure Mn (mg : Str → Option Value) : Prop where
  sum : mg "sum" = none
  all : mg "all" = none
  any : mg "any" = none
  len : mg "len" = none
  set : mg "set" = none
  sorted : mg "sorted" = none
  tuple : mg "tuple" = none
  list : mg "list" = none
  dict : mg "dict" = none
  range : mg "range" = none
  zip : mg "zip" = none
  enumerate : mg "enumerate" = none
  isinstance : mg "isinstance" = none
  int : mg "int" = none
  str : mg "str" = none
  bool : mg "bool" = none
  abs : mg "abs" = none
  min : mg "min" = none
  KEY : ∃ t, mg "KEY" = some (.int 4 t)
  GOAL : ∃ t, mg "GOAL" = some (.int 2 t)
  START : ∃ t, mg "START" = some (.int 1 t)
  NAME : ∃ t, mg "NAME" = some (.int 0 t)
  MOST_goes : ∃ t, mg "MOST_goes" = some (.int 3 t)
  SUPPLY_goes : ∃ t, mg "SUPPLY_goes" = some (.int 1 t)
  YARD_goes : ∃ t, mg "YARD_goes" = some (.int 1 t)
  WIDE : ∃ t, mg "WIDE" = some (.int 5 t)
  TAKE : ∃ t, mg "TAKE" = some (.str "take" t)
  GIVE : ∃ t, mg "GIVE" = some (.str "give" t)
end Kl
set_option linter.all false
set_option maxRecDepth 100000
set_option maxHeartbeats 4000000
/-! # P1: the pure functions, first part -/
namespace Kl
open PySem PySem.Spec PyProof.Rows L2
section
variable {P : Program} {w : World} {K : PySem.W.Frag} {mg : Str → Option Value} {base : Heap}
/-! ### set_of -/
theorem sc_set_of : FnScope ["some"] ["some"] (defScope s_set_of) := ⟨rfl, rfl, rfl, by decide +kernel, rfl, by decide +kernel, by decide +kernel⟩
/-- the kinds whose sets are made -/
inductive KS : {κ : Type} → DecidableEq κ → (κ → PyData) → Prop
  | str : KS instDecidableEqStr PyData.str
  | int : KS Int.instDecidableEq PyData.int
  | tstr : KS (instDecidableEqList) ss
  | tint : KS (instDecidableEqList) ii
theorem KS.mk {κ : Type} {dec : DecidableEq κ} {enc : κ → PyData} (h : KS dec enc) : ∃ C : SK P w κ, MkS P w enc C := by
  cases h with
  | str => exact ⟨_, mk_str⟩
  | int => exact ⟨_, mk_int⟩
  | tstr => exact ⟨_, mk_strs⟩
  | tint => exact ⟨_, mk_ints⟩
def A_set_of : Prm := fun ok W W' Ps T => ∃ (κ : Type) (dec : DecidableEq κ) (enc : κ → PyData) (xs : List κ), W' = W ∧ KS dec enc ∧ xs.length < 64 ∧ (Ps = [D (.list (xs.map enc))] ∨ Ps = [D (.tuple (xs.map enc))]) ∧ T = D (.tuple ((setOf enc xs).map enc))
theorem ok_set_of {f : Addr} {fd : FuncData} (F : Fun K "set_of" "set_of" s_set_of f fd) (m : Mn mg) : FnOk P w K mg base CX0 1 f fd ["some"] (spt A_set_of) :=
  okp F sc_set_of (fun ok W W' Ps T h => by
    obtain ⟨κ, dec, enc, xs, _, _, _, rfl | rfl, _⟩ := h <;> rfl) fun cdv B outer s H E hr ok W W' Ps T h => by
  obtain ⟨κ, dec, enc, xs, rfl, ks, hl, hp, rfl⟩ := h
  obtain ⟨C, M⟩ := ks.mk (P := P) (w := w)
  rcases hp with rfl | rfl
  · exact bret (vtupleL m.tuple (vsortset M hr.units rfl hl m.sorted m.set (.inl (vv 0))))
  · exact bret (vtupleL m.tuple (vsortset M hr.units rfl hl m.sorted m.set (.inr (vv 0))))
/-! ### yard_names, keys_of -/
theorem sc_yard_names : FnScope ["net", "own"] ["net"] (defScope s_yard_names) := ⟨rfl, rfl, rfl, by decide +kernel, rfl, by decide +kernel, by decide +kernel⟩
def names (N : Net) : List Str := N.yards.map (·.1)
def keysOf (N : Net) : List Str := setOf PyData.str (N.lines.map (·.key))
def A_yard_names : Prm := fun ok W W' Ps T => ∃ N : Net, Small N ∧ W' = W ∧ Ps = [D (encN N)] ∧ T = D (ss (names N))
theorem ok_yard_names {f : Addr} {fd : FuncData} (F : Fun K "yard_names" "yard_names" s_yard_names f fd) (m : Mn mg) : FnOk P w K mg base CX0 1 f fd ["net"] (spt A_yard_names) :=
  okp F sc_yard_names (fun ok W W' Ps T h => by
    obtain ⟨N, _, _, rfl, _⟩ := h
    rfl) fun cdv B outer s H E hr ok W W' Ps T h => by
  obtain ⟨N, sm, rfl, rfl, rfl⟩ := h
  have := sm.yards
  refine bret (PEv.cast (vtupleL m.tuple (vlcA (own := [("own", 1)]) N.yards (fun y => D (encY y)) (fun y => .str y.1) rfl sc_yard_names.nd (by kernel_rfl) (iTm (vixT (vv 0) vint (at0 0))) (by omega) fun y hy =>
    turn (fun _ _ _ _ _ => gname 1 sc_yard_names.nd) (fun _ _ _ _ _ => qnil) (fun _ _ _ _ _ _ => vixT (vv 1) vint (at0 0)) (fun _ => nol_imm rfl))) ?_)
  unfold names ss
  rw [List.map_map]
  rfl
theorem sc_keys_of : FnScope ["net", "own"] ["net"] (defScope s_keys_of) := ⟨rfl, rfl, rfl, by decide +kernel, rfl, by decide +kernel, by decide +kernel⟩
def A_keys_of : Prm := fun ok W W' Ps T => ∃ N : Net, Small N ∧ W' = W ∧ Ps = [D (encN N)] ∧ T = D (ss (keysOf N))
theorem ok_keys_of {k : Nat} {f : Addr} {fd : FuncData} (F : Fun K "keys_of" "keys_of" s_keys_of f fd) (m : Mn mg) (d_set_of : Df P w K mg base k "set_of" ["some"] (spt A_set_of)) : FnOk P w K mg base CX0 (k + 1) f fd ["net"] (spt A_keys_of) :=
  okp F sc_keys_of (fun ok W W' Ps T h => by
    obtain ⟨N, _, _, rfl, _⟩ := h
    rfl) fun cdv B outer s H E hr ok W W' Ps T h => by
  obtain ⟨N, sm, rfl, rfl, rfl⟩ := h
  have := sm.lines
  refine bret (vcall d_set_of hr (acons ?_ anil) ⟨Str, _, PyData.str, N.lines.map (·.key), rfl, .str, by rw [List.length_map]; omega, .inl rfl, rfl⟩)
  rw [List.map_map]
  exact vlcA (own := [("own", 1)]) N.lines (fun l => D (encLn l)) (fun l => .str l.key) rfl sc_keys_of.nd (by kernel_rfl) (iTm (vixT (vv 0) vint (at0 1))) (by omega) fun l hl =>
    turn (fun _ _ _ _ _ => gname 1 sc_keys_of.nd) (fun _ _ _ _ _ => qnil) (fun _ _ _ _ _ _ => vixT (vv 1) (vsub (vgi m.WIDE) vint) (at0 4)) (fun _ => nol_imm rfl)
/-! ### subsets_of -/
theorem sc_subsets_of : FnScope ["names", "found", "name", "some"] ["names"] (defScope s_subsets_of) := ⟨rfl, rfl, rfl, by decide +kernel, rfl, by decide +kernel, by decide +kernel⟩
/-- the subsets in the order in which they are found -/
def subsRaw (ns : List Str) : List (List Str) := ns.foldl (fun f n => f ++ f.map (· ++ [n])) [[]]
def subs (ns : List Str) : List (List Str) := srt ss (subsRaw ns)
theorem fold_len (ns : List Str) (f : List (List Str)) : (ns.foldl (fun f n => f ++ f.map (· ++ [n])) f).length = f.length * 2 ^ ns.length := by
  induction ns generalizing f with
  | nil => simp
  | cons n ns ih =>
    rw [List.foldl_cons, ih, List.length_append, List.length_map, List.length_cons, Nat.pow_succ, ← Nat.two_mul, Nat.mul_comm 2, Nat.mul_assoc, Nat.mul_comm 2]
theorem subs_len (ns : List Str) (h : ns.length ≤ 4) : (subsRaw ns).length ≤ 16 := by
  unfold subsRaw
  rw [fold_len]
  have : 2 ^ ns.length ≤ 2 ^ 4 := Nat.pow_le_pow_right (by decide) h
  simp at *
  omega
theorem subs_take {ns : List Str} {i : Nat} {n : Str} (h : ns[i]? = some n) : subsRaw (ns.take (i + 1)) = subsRaw (ns.take i) ++ (subsRaw (ns.take i)).map (· ++ [n]) := by
  unfold subsRaw
  rw [List.take_add_one, h, List.foldl_append]
  rfl
theorem subs_mem {ns s : List Str} (h : s ∈ subsRaw ns) : s.length ≤ ns.length := by
  have go : ∀ (ns : List Str) (f : List (List Str)) (m : Nat), (∀ s ∈ f, s.length ≤ m) → ∀ s ∈ ns.foldl (fun f n => f ++ f.map (· ++ [n])) f, s.length ≤ m + ns.length := by
    intro ns
    induction ns with
    | nil => exact fun f m h s hs => h s hs
    | cons n ns ih =>
      intro f m h s hs
      rw [List.foldl_cons] at hs
      have := ih (f ++ f.map (· ++ [n])) (m + 1) (fun t ht => by
        rcases List.mem_append.mp ht with z | z
        · exact Nat.le_succ_of_le (h t z)
        · obtain ⟨u, hu, rfl⟩ := List.mem_map.mp z
          have := h u hu
          simp
          exact this) s hs
      rw [List.length_cons]
      omega
  have := go ns [[]] 0 (fun s hs => by simp at hs; subst hs; exact Nat.le_refl _) s h
  omega
theorem imm_strs : ∀ xs : List Str, immAll (xs.map .str) = true
  | [] => rfl
  | x :: xs => by
    rw [List.map_cons, immAll, imm_strs xs]
    rfl
theorem imm_ss (xs : List Str) : imm (ss xs) = true := by
  show imm (.tuple _) = true
  rw [imm]
  exact imm_strs xs
def A_subsets_of : Prm := fun ok W W' Ps T => ∃ ns : List Str, ns.length ≤ 4 ∧ W' = W ∧ Ps = [D (ss ns)] ∧ T = D (.list ((subs ns).map ss))
theorem ok_subsets_of {f : Addr} {fd : FuncData} (F : Fun K "subsets_of" "subsets_of" s_subsets_of f fd) (m : Mn mg) : FnOk P w K mg base CX0 1 f fd ["names"] (spt A_subsets_of) :=
  okp F sc_subsets_of (fun ok W W' Ps T h => by
    obtain ⟨N, _, _, rfl, _⟩ := h
    rfl) fun cdv B outer s H E hr ok W W' Ps T h => by
  obtain ⟨ns, hn, rfl, rfl, rfl⟩ := h
  refine bcons (sset 1 sc_subsets_of.nd (vlst (dcons (vtup dnil (Nat.zero_le _)) dnil) (few (by decide)))) ?_
  refine bcons (PSn.forget (sfor (Ts := ns.map fun x => D (.str x)) (fun _ => W') (fun i => [some (D (ss ns)), some (D (.list ((subsRaw (ns.take i)).map ss))), none, none]) .never rfl (iTm (vv 0)) rfl rfl fun i T hT => ?_) []) ?_
  · rw [List.getElem?_map] at hT
    cases hn' : ns[i]? with
    | none =>
      rw [hn'] at hT
      cases hT
    | some n =>
      rw [hn'] at hT
      cases hT
      have hlen : (subsRaw (ns.take i)).length ≤ 16 := subs_len _ (by rw [List.length_take]; omega)
      refine ⟨_, _, _, [2], gname 2 sc_subsets_of.nd, ncons (sset 1 sc_subsets_of.nd (vcatL (xs := (subsRaw (ns.take i)).map ss) (ys := (subsRaw (ns.take i)).map fun s => ss (s ++ [n])) (vv 1) ?_ (by rw [List.length_map, List.length_map]; omega))) nnil, ?_⟩
      · refine vlcA (own := [("some", 3)]) (subsRaw (ns.take i)) (fun s => D (ss s)) (fun s => ss (s ++ [n])) rfl sc_subsets_of.nd (by kernel_rfl) (iLm (vv 1)) (by omega) fun s hs => turn (fun _ _ _ _ _ => gname 3 sc_subsets_of.nd) (fun _ _ _ _ _ => qnil) (fun _ _ _ _ _ _ => PEv.cast (vtup (dstar (vv 3) (dcons (vv 2) dnil)) ?_) ?_) (fun _ => nol_imm (imm_ss _))
        · have := subs_mem hs
          rw [List.length_take] at this
          simp only [List.length_append, List.length_map, List.length_cons, List.length_nil]
          exact few (by omega)
        · unfold ss
          rw [List.map_append]
          rfl
      · rw [subs_take hn', List.map_append, List.map_map]
        rfl
  · rw [List.length_map, List.take_length]
    exact bret (vsorted en_strs hr.units m.sorted (vv 1))
end
end Kl
set_option linter.all false
set_option maxRecDepth 100000
set_option maxHeartbeats 4000000
/-! # P2: the pure functions, second part -/
namespace Kl
open PySem PySem.Spec PyProof.Rows L2
section
variable {ok : Addr → Prop} {W : Wd ok} {X : Cx} {δ : DEnv ok}
theorem zip_map {α β γ : Type} (f : α → PyData) (g : β → PyData) (xs : List α) (ys : List β) (h : PyData × PyData → γ) : ((xs.map f).zip (ys.map g)).map h = (xs.zip ys).map fun p => h (f p.1, g p.2) := by
  rw [List.zip_map, List.map_map]
  rfl
theorem iZipM {α β : Type} {f : α → PyData} {g : β → PyData} {xs : List α} {ys : List β} {e e2 : Expr} {elts : List Expr} {kk : Nat} {p pos tpos : Pos} (hm : X.mg "zip" = none) (h : (PEv W X e δ (D (.tuple (xs.map f))) ∧ PEv W X e2 δ (D (.tuple (ys.map g)))) ∨ (PEv W X e δ (D (.list (xs.map f))) ∧ PEv W X e2 δ (D (.list (ys.map g))))) (hg : Gl X "zip" := by rfl)
    (hs : starEach [e, e2] X.env = (false, eval e X.env) :: starEach [e2] X.env := by rfl) (hs2 : starEach [e2] X.env = (false, eval e2 X.env) :: starEach [] X.env := by rfl) (hpl : (backTo pos (starEach [e2] X.env)).any (·.1) = false := by rfl) :
    PIv W X (.Tuple elts kk tpos) (.Call (.Name "zip" p) [e, e2] [] pos) δ ((xs.zip ys).map fun p => D (.tuple [f p.1, g p.2])) := by
  have z := iZip (elts := elts) (kk := kk) (tpos := tpos) (p := p) hm h hg hs hs2 hpl
  rw [zip_map] at z
  exact z
end
section
variable {P : Program} {w : World} {K : PySem.W.Frag} {mg : Str → Option Value} {base : Heap}
/-! ### value_of -/
def into (N : Net) (ks far : List Str) : List Line := N.lines.filter fun l => decide (l.key ∈ ks) && (decide (l.goal ∈ far) && !decide (l.start ∈ far))
def value (N : Net) (ks far : List Str) : Int := ((N.yards.filter fun y => decide (y.1 ∈ far)).map (·.2)).sum + ((into N ks far).map (·.most)).sum
theorem sc_value_of : FnScope ["net", "keys", "far", "lines", "own"] ["net", "keys", "far"] (defScope s_value_of) := ⟨rfl, rfl, rfl, by decide +kernel, rfl, by decide +kernel, by decide +kernel⟩
def A_value_of : Prm := fun ok W W' Ps T => ∃ (N : Net) (ks far : List Str), Small N ∧ W' = W ∧ Ps = [D (encN N), D (ss ks), D (ss far)] ∧ T = D (.int (value N ks far))
theorem ok_value_of {f : Addr} {fd : FuncData} (F : Fun K "value_of" "value_of" s_value_of f fd) (m : Mn mg) : FnOk P w K mg base CX0 1 f fd ["net", "keys", "far"] (spt A_value_of) :=
  okp F sc_value_of (fun _ _ _ _ _ h => by
    obtain ⟨N, ks, far, _, _, rfl, _⟩ := h
    rfl) fun cdv B outer s H E hr ok W W' Ps T h => by
  obtain ⟨N, ks, far, sm, rfl, rfl, rfl⟩ := h
  have := sm.yards
  have := sm.lines
  refine bcons (ssetLcD 3 (own := [("own", 4)]) N.lines (fun l => D (encLn l)) (fun l => decide (l.key ∈ ks) && (decide (l.goal ∈ far) && !decide (l.start ∈ far))) (fun l => .int l.most) rfl sc_value_of.nd rfl (sw_true rfl rfl rfl (by decide +kernel)) (by kernel_rfl)
    (iTm (vixT (vv 0) vint (at0 1))) (by omega) fun l hl =>
      turn (fun _ _ _ _ _ => gname 4 sc_value_of.nd) (fun _ _ _ _ _ => qone (tw (wand (tc c_in (vixT (vv 4) (vgi m.KEY) (at0 4)) (vv 1)) fun _ => wand (tc c_in (vixT (vv 4) (vgi m.GOAL) (at0 2)) (vv 2)) fun _ => wand1 (tc c_nin (vixT (vv 4) (vgi m.START) (at0 1)) (vv 2)))))
        (fun _ _ _ _ _ _ => vixT (vv 4) (vgi m.MOST_goes) (at0 3)) (fun _ => nol_imm rfl)) ?_
  refine bret (vadd (vsum (ns := (N.yards.filter fun y => decide (y.1 ∈ far)).map (·.2)) rfl m.sum ?_) (vsum (ns := (into N ks far).map (·.most)) rfl m.sum ?_))
  · rw [List.map_map]
    exact vlcD (own := [("own", 4)]) N.yards (fun y => D (encY y)) (fun y => decide (y.1 ∈ far)) (fun y => .int y.2) rfl sc_value_of.nd (by kernel_rfl) (iTm (vixT (vv 0) vint (at0 0))) (by omega) fun y hy =>
      turn (fun _ _ _ _ _ => gname 4 sc_value_of.nd) (fun _ _ _ _ _ => qone (tc c_in (vixT (vv 4) (vgi m.NAME) (at0 0)) (vv 2))) (fun _ _ _ _ _ _ => vixT (vv 4) (vgi m.SUPPLY_goes) (at0 1)) (fun _ => nol_imm rfl)
  · rw [List.map_map]
    exact vv 3
/-! ### part_in -/
def partIn (N : Net) (lot : List Int) (far : List Str) : Int := (((N.custs.zip lot).filter fun p => decide (p.1.2 ∈ far)).map (·.2)).sum
theorem sc_part_in : FnScope ["net", "lot", "far", "own", "part"] ["net", "lot", "far"] (defScope s_part_in) := ⟨rfl, rfl, rfl, by decide +kernel, rfl, by decide +kernel, by decide +kernel⟩
def A_part_in : Prm := fun ok W W' Ps T => ∃ (N : Net) (lot : List Int) (far : List Str), Small N ∧ W' = W ∧ Ps = [D (encN N), D (ii lot), D (ss far)] ∧ T = D (.int (partIn N lot far))
theorem ok_part_in {f : Addr} {fd : FuncData} (F : Fun K "part_in" "part_in" s_part_in f fd) (m : Mn mg) : FnOk P w K mg base CX0 1 f fd ["net", "lot", "far"] (spt A_part_in) :=
  okp F sc_part_in (fun _ _ _ _ _ h => by
    obtain ⟨N, ks, far, _, _, rfl, _⟩ := h
    rfl) fun cdv B outer s H E hr ok W W' Ps T h => by
  obtain ⟨N, lot, far, sm, rfl, rfl, rfl⟩ := h
  have := sm.custs
  refine bret (vsum (ns := ((N.custs.zip lot).filter fun p => decide (p.1.2 ∈ far)).map (·.2)) rfl m.sum ?_)
  rw [List.map_map]
  refine vlcD (own := [("own", 3), ("part", 4)]) (N.custs.zip lot) (fun p => D (.tuple [encC p.1, .int p.2])) (fun p => decide (p.1.2 ∈ far)) (fun p => .int p.2) rfl sc_part_in.nd (by kernel_rfl) ?_ (by rw [List.length_zip]; omega) fun p hp =>
      turn (fun _ _ _ _ _ => gtup rfl (gscons (gname 3 sc_part_in.nd) (gscons (gname 4 sc_part_in.nd) gsnil))) (fun _ _ _ _ _ => qone (tc c_in (vixT (vv 3) (vgi m.YARD_goes) (at0 1)) (vv 2))) (fun _ _ _ _ _ _ => vv 4) (fun _ => nol_imm rfl)
  exact iZipM m.zip (.inl ⟨vixT (vv 0) vint (at0 2), vv 1⟩)
/-! ### is_within -/
def within (a b : List Str) : Bool := a.all fun x => decide (x ∈ b)
theorem sc_is_within : FnScope ["some", "other", "name"] ["some", "other"] (defScope s_is_within) := ⟨rfl, rfl, rfl, by decide +kernel, rfl, by decide +kernel, by decide +kernel⟩
def A_is_within : Prm := fun ok W W' Ps T => ∃ a b : List Str, a.length ≤ 100 ∧ W' = W ∧ Ps = [D (ss a), D (ss b)] ∧ T = D (.bool (within a b))
theorem ok_is_within {f : Addr} {fd : FuncData} (F : Fun K "is_within" "is_within" s_is_within f fd) (m : Mn mg) : FnOk P w K mg base CX0 1 f fd ["some", "other"] (spt A_is_within) :=
  okp F sc_is_within (fun _ _ _ _ _ h => by
    obtain ⟨a, b, _, _, rfl, _⟩ := h
    rfl) fun cdv B outer s H E hr ok W W' Ps T h => by
  obtain ⟨a, b, ha, rfl, rfl, rfl⟩ := h
  refine bret (PEv.cast (vall (bs := a.map fun x => decide (x ∈ b)) rfl m.all ?_) ?_)
  · rw [List.map_map]
    exact vlcA (own := [("name", 2)]) a (fun x => D (.str x)) (fun x => .bool (decide (x ∈ b))) rfl sc_is_within.nd (by kernel_rfl) (iTm (vv 0)) (by omega) fun x hx =>
      turn (fun _ _ _ _ _ => gname 2 sc_is_within.nd) (fun _ _ _ _ _ => qnil) (fun _ _ _ _ _ _ => vc c_in (vv 2) (vv 1)) (fun _ => nol_imm rfl)
  · unfold within
    rw [List.all_map]
    rfl
/-! ### others_of, in_hand, moments -/
def others (N : Net) (ks : List Str) : List Str := (keysOf N).filter fun x => !decide (x ∈ ks)
theorem keysOf_len {N : Net} (sm : Small N) : (keysOf N).length ≤ 4 := by
  have := setOf_len (enc := PyData.str) (N.lines.map (·.key))
  have := sm.lines
  rw [List.length_map] at *
  unfold keysOf
  omega
theorem sc_others_of : FnScope ["net", "keys", "name"] ["net", "keys"] (defScope s_others_of) := ⟨rfl, rfl, rfl, by decide +kernel, rfl, by decide +kernel, by decide +kernel⟩
def A_others_of : Prm := fun ok W W' Ps T => ∃ (N : Net) (ks : List Str), Small N ∧ W' = W ∧ Ps = [D (encN N), D (ss ks)] ∧ T = D (ss (others N ks))
theorem ok_others_of {k : Nat} {f : Addr} {fd : FuncData} (F : Fun K "others_of" "others_of" s_others_of f fd) (m : Mn mg) (d_keys_of : Df P w K mg base k "keys_of" ["net"] (spt A_keys_of)) : FnOk P w K mg base CX0 (k + 1) f fd ["net", "keys"] (spt A_others_of) :=
  okp F sc_others_of (fun _ _ _ _ _ h => by
    obtain ⟨N, ks, _, _, rfl, _⟩ := h
    rfl) fun cdv B outer s H E hr ok W W' Ps T h => by
  obtain ⟨N, ks, sm, rfl, rfl, rfl⟩ := h
  have := keysOf_len sm
  exact bret (vtupleL m.tuple (vlcD (own := [("name", 2)]) (keysOf N) (fun x => D (.str x)) (fun x => !decide (x ∈ ks)) (fun x => .str x) rfl sc_others_of.nd (by kernel_rfl) (iTm (vcall d_keys_of hr (acons (vv 0) anil) ⟨N, sm, rfl, rfl, rfl⟩)) (by omega) fun x hx =>
      turn (fun _ _ _ _ _ => gname 2 sc_others_of.nd) (fun _ _ _ _ _ => qone (tc c_nin (vv 2) (vv 1))) (fun _ _ _ _ _ _ => vv 2) (fun _ => nol_imm rfl)))
def inHand (N : Net) (hours : List Int) (n : Int) : List Str := (((keysOf N).zip hours).filter fun p => decide (p.2 ≤ n)).map (·.1)
theorem sc_in_hand : FnScope ["net", "hours", "number", "key", "own"] ["net", "hours", "number"] (defScope s_in_hand) := ⟨rfl, rfl, rfl, by decide +kernel, rfl, by decide +kernel, by decide +kernel⟩
def A_in_hand : Prm := fun ok W W' Ps T => ∃ (N : Net) (hours : List Int) (n : Int), Small N ∧ W' = W ∧ Ps = [D (encN N), D (ii hours), D (.int n)] ∧ T = D (ss (inHand N hours n))
theorem ok_in_hand {k : Nat} {f : Addr} {fd : FuncData} (F : Fun K "in_hand" "in_hand" s_in_hand f fd) (m : Mn mg) (d_keys_of : Df P w K mg base k "keys_of" ["net"] (spt A_keys_of)) : FnOk P w K mg base CX0 (k + 1) f fd ["net", "hours", "number"] (spt A_in_hand) :=
  okp F sc_in_hand (fun _ _ _ _ _ h => by
    obtain ⟨N, ks, _, _, _, rfl, _⟩ := h
    rfl) fun cdv B outer s H E hr ok W W' Ps T h => by
  obtain ⟨N, hours, n, sm, rfl, rfl, rfl⟩ := h
  have := keysOf_len sm
  refine bret (PEv.cast (vtupleL m.tuple (vlcD (own := [("key", 3), ("own", 4)]) ((keysOf N).zip hours) (fun p => D (.tuple [.str p.1, .int p.2])) (fun p => decide (p.2 ≤ n)) (fun p => .str p.1) rfl sc_in_hand.nd (by kernel_rfl) ?_ (by rw [List.length_zip]; omega) fun p hp =>
      turn (fun _ _ _ _ _ => gtup rfl (gscons (gname 3 sc_in_hand.nd) (gscons (gname 4 sc_in_hand.nd) gsnil))) (fun _ _ _ _ _ => qone (tc c_le (vv 4) (vv 2))) (fun _ _ _ _ _ _ => vv 3) (fun _ => nol_imm rfl))) ?_)
  · exact iZipM m.zip (.inl ⟨vcall d_keys_of hr (acons (vv 0) anil) ⟨N, sm, rfl, rfl, rfl⟩, vv 1⟩)
  · unfold inHand ss
    rw [List.map_map]
    rfl
def moments (hours : List Int) : List Int := setOf PyData.int (0 :: hours)
theorem sc_moments : FnScope ["hours"] ["hours"] (defScope s_moments) := ⟨rfl, rfl, rfl, by decide +kernel, rfl, by decide +kernel, by decide +kernel⟩
def A_moments : Prm := fun ok W W' Ps T => ∃ hours : List Int, hours.length ≤ 60 ∧ W' = W ∧ Ps = [D (ii hours)] ∧ T = D (ii (moments hours))
theorem ok_moments {k : Nat} {f : Addr} {fd : FuncData} (F : Fun K "moments" "moments" s_moments f fd) (m : Mn mg) (d_set_of : Df P w K mg base k "set_of" ["some"] (spt A_set_of)) : FnOk P w K mg base CX0 (k + 1) f fd ["hours"] (spt A_moments) :=
  okp F sc_moments (fun _ _ _ _ _ h => by
    obtain ⟨N, _, _, rfl, _⟩ := h
    rfl) fun cdv B outer s H E hr ok W W' Ps T h => by
  obtain ⟨hours, hz, rfl, rfl, rfl⟩ := h
  refine bret (vcall d_set_of hr (acons (vlst (dcons vint (dstar (vv 0) dnil)) ?_) anil) ⟨Int, _, PyData.int, 0 :: hours, rfl, .int, by rw [List.length_cons]; omega, .inl ?_, rfl⟩)
  · simp only [List.length_cons, List.length_append, List.length_map, List.length_nil]
    exact few (by omega)
  · rw [List.append_nil]
    rfl
end
end Kl
set_option linter.all false
set_option maxRecDepth 100000
set_option maxHeartbeats 4000000
/-! # K7: isinstance; tuples of kinds -/
namespace Kl
open PySem PySem.Spec PyProof.Rows L2
section
variable {ok : Addr → Prop} {W W' W2 : Wd ok} {X : Cx} {δ : DEnv ok}
/-- a built-in class -/
def Tv (n : String) : Ty ok := ⟨fun _ v => v = .ty n, fun _ h => h⟩
theorem vtn {x : Str} {n : String} {pos : Pos} (hm : X.mg x = none) (hv : bootBuiltins x = some (.type n) := by decide +kernel) (hg : Gl X x := by rfl) (hn : x ≠ "__name__" := by decide) (hd : (x == ("__debug__" : Str)) = false := by decide) : PEv W X (.Name x pos) δ (Tv n) :=
  PEv.of (pe_bltn (v := .ty n) hg hm hv rfl hn hd) fun _ H _ sl q => q _ H (Le.refl sl.j) rfl
/-- a tuple of values of these kinds -/
def Tp (Ps : List (Ty ok)) : Ty ok := ⟨fun H v => ∃ a vs, v = .ref a ∧ ok a ∧ H a = some (.tup vs) ∧ TyA H vs Ps, fun e ⟨a, vs, h1, ka, h2, h3⟩ => ⟨a, vs, h1, ka, e _ _ ka h2, h3.same e⟩⟩
theorem Tp.d {ds : List PyData} {H : Hp} {v : V} (h : (Tp (ok := ok) (ds.map D)).p H v) : (D (ok := ok) (.tuple ds)).p H v := by
  obtain ⟨a, vs, rfl, ka, h1, h2⟩ := h
  exact R.tup ka (.inl h1) h2.ra
theorem vtupK {es : List Expr} {x1 : Nat} {pos : Pos} {Ps : List (Ty ok)} (h : PAv W X es δ Ps) (hz : Ps.length ≤ sizeLine) : PEv W X (.Tuple es x1 pos) δ (Tp Ps) :=
  PEv.of (pe_tup paW) fun σ H Q sl q => h.run σ H _ sl fun vs H1 s1 p1 => by
    refine ⟨by rw [p1.length]; exact hz, fun p hp => q _ _ (s1.trans (le_upd s1.j hp)) ⟨p, vs, rfl, W.fresh s1.j hp, upd_same, p1.same (Rel.of (same_upd hp))⟩⟩
theorem gtupK {es : List Expr} {k : Nat} {pos : Pos} {Ps : List (Ty ok)} {δ' : DEnv ok} {n : Nat} {ws : List Nat} (hc : X.calm = true) (h : PGsv W X es δ Ps δ' ws) (hl : Ps.length = n := by rfl) (hn : (assignEach es X.env).length = n := by rfl) (hst : (assignEach es X.env).findIdx? (·.1) = none := by rfl) :
    PGv W X (.Tuple es k pos) δ (Tp Ps) δ' ws := PGv.of (pg_tup hc pgsW hn hst) fun v σ H Q sl p q => by
  obtain ⟨a, vs, rfl, ka, h1, r⟩ := p
  exact ⟨a, vs, rfl, SqT.of h1, by rw [r.length]; exact hl, h.run vs σ H Q sl r q⟩
/-- the class of a datum -/
def tyN : PyData → String
  | .none => "NoneType"
  | .bool _ => "bool"
  | .int _ => "int"
  | .str _ => "str"
  | .list _ => "list"
  | .tuple _ => "tuple"
  | .dict _ => "dict"
def subT (a b : String) : Bool := a == b || (a == "bool" && b == "int")
theorem kit_all : ∀ a ∈ ["NoneType", "bool", "int", "str", "list", "tuple"], ∀ b ∈ ["bool", "int", "str", "list", "tuple"], kitB a b = some (subT a b) := by decide +kernel
theorem tyx {K : PySem.W.Frag} {H : Hp} {x : V} {d : PyData} (p : R ok H x d) : TyX K H x (.type (tyN d)) ∧ tyN d ∈ ["NoneType", "bool", "int", "str", "list", "tuple"] := by
  cases p with
  | non => exact ⟨.base .non, by simp [tyN]⟩
  | bl b => exact ⟨.base (.bl b), by simp [tyN]⟩
  | int i => exact ⟨.base (.int i), by simp [tyN]⟩
  | str x => exact ⟨.base (.str x), by simp [tyN]⟩
  | lst k h r => exact ⟨.base (.lst h), by simp [tyN]⟩
  | tup k h r => exact ⟨h.elim (fun h => .base (.tup h)) fun ⟨_, _, _, h, _⟩ => .fTuple h, by simp [tyN]⟩
theorem kit_any {K : PySem.W.Frag} {a : String} (ha : a ∈ ["NoneType", "bool", "int", "str", "list", "tuple"]) : ∀ {ns : List String}, (∀ n ∈ ns, n ∈ ["bool", "int", "str", "list", "tuple"]) → PySem.W.kitAny K (.type a) (ns.map Value.type) = some (ns.any (subT a))
  | [], _ => rfl
  | n :: ns, h => by
    have h1 : PySem.W.kitOne K (.type a) (.type n) = some (subT a n) := kit_ty (kit_all a ha n (h n List.mem_cons_self))
    refine kitAny_cons h1 (fun e => ?_) (fun e => ?_)
    · rw [List.any_cons, e, Bool.false_or]
      exact kit_any ha fun m hm => h m (List.mem_cons_of_mem _ hm)
    · rw [List.any_cons, e, Bool.true_or]
theorem tya_tv {H : Hp} : ∀ {ns : List String} {vs : List V}, TyA H vs (ns.map (Tv (ok := ok))) → vs = ns.map V.ty
  | [], _, .nil => rfl
  | n :: ns, _, .cons h t => by
    rw [List.map_cons, tya_tv t]
    cases h
    rfl
theorem paired_ty : ∀ ns : List String, Paired ClsV (ns.map V.ty) (ns.map Value.type)
  | [] => .nil
  | n :: ns => .cons (.ty n) (paired_ty ns)
theorem visi1 {e c : Expr} {p pos : Pos} {d : PyData} {n : String} (hm : X.mg "isinstance" = none) (he : PEv W X e δ (D d)) (hc : PEv W X c δ (Tv n)) (hn : n ∈ ["bool", "int", "str", "list", "tuple"] := by decide) (hg : Gl X "isinstance" := by rfl)
    (hs : starEach [e, c] X.env = (false, eval e X.env) :: starEach [c] X.env := by rfl) (hs2 : starEach [c] X.env = (false, eval c X.env) :: starEach [] X.env := by rfl) (hpl : (backTo pos (starEach [c] X.env)).any (·.1) = false := by rfl) :
    PEv W X (.Call (.Name "isinstance" p) [e, c] [] pos) δ (D (.bool (subT (tyN d) n))) :=
  vcb call_isi hm (by decide +kernel) (acons he (acons hc anil hs2) hs) (fun H vs Q j h k => by
    cases h with
    | cons h1 t =>
      cases t with
      | cons h2 t =>
        cases t
        cases h2
        obtain ⟨a, b⟩ := tyx (K := X.K) h1
        exact ⟨_, _, _, _, _, rfl, .ty n, a, kit_ty (kit_all _ b n hn), k _ H (Le.refl j) (.bl _)⟩) hg (he := hs) (hpl := hpl)
theorem visiT {e : Expr} {cs : List Expr} {p pos tpos : Pos} {kk : Nat} {d : PyData} {ns : List String} (hm : X.mg "isinstance" = none) (he : PEv W X e δ (D d)) (hc : PAv W X cs δ (ns.map Tv)) (hz : ns.length ≤ 10) (hn : ∀ n ∈ ns, n ∈ ["bool", "int", "str", "list", "tuple"] := by decide) (hg : Gl X "isinstance" := by rfl)
    (hs : starEach [e, .Tuple cs kk tpos] X.env = (false, eval e X.env) :: starEach [.Tuple cs kk tpos] X.env := by rfl) (hs2 : starEach [.Tuple cs kk tpos] X.env = (false, eval (.Tuple cs kk tpos) X.env) :: starEach [] X.env := by rfl) (hpl : (backTo pos (starEach [.Tuple cs kk tpos] X.env)).any (·.1) = false := by rfl) :
    PEv W X (.Call (.Name "isinstance" p) [e, .Tuple cs kk tpos] [] pos) δ (D (.bool (ns.any (subT (tyN d))))) :=
  vcb call_isiT hm (by decide +kernel) (acons he (acons (vtupK hc (by rw [List.length_map]; exact few (by omega))) anil hs2) hs) (fun H vs Q j h k => by
    cases h with
    | cons h1 t =>
      cases t with
      | cons h2 t =>
        cases t
        obtain ⟨a, us, rfl, ka, hu, r⟩ := h2
        rw [tya_tv r] at hu
        obtain ⟨q1, q2⟩ := tyx (K := X.K) h1
        exact ⟨_, _, _, _, _, _, rfl, hu, paired_ty ns, q1, kit_any q2 hn, k _ H (Le.refl j) (.bl _)⟩) hg (he := hs) (hpl := hpl)
end
end Kl
set_option linter.all false
set_option maxRecDepth 100000
set_option maxHeartbeats 4000000
/-! # P3: tupled, leasts -/
namespace Kl
open PySem PySem.Spec PyProof.Rows L2
mutual
/-- lists made tuples, through and through -/
def tupD : PyData → PyData
  | .list xs => .tuple (tupDs xs)
  | .tuple xs => .tuple (tupDs xs)
  | d => d
def tupDs : List PyData → List PyData
  | [] => []
  | x :: xs => tupD x :: tupDs xs
end
theorem tupDs_map : ∀ xs : List PyData, tupDs xs = xs.map tupD
  | [] => by simp [tupDs]
  | x :: xs => by rw [tupDs, tupDs_map xs, List.map_cons]
mutual
def wideD : PyData → Bool
  | .list xs => decide (xs.length ≤ 1000) && wideDs xs
  | .tuple xs => decide (xs.length ≤ 1000) && wideDs xs
  | .dict _ => false
  | _ => true
def wideDs : List PyData → Bool
  | [] => true
  | x :: xs => wideD x && wideDs xs
end
theorem wideDs_mem : ∀ {xs : List PyData}, wideDs xs = true → ∀ x ∈ xs, wideD x = true
  | [], _, x, h => (nomatch h)
  | y :: ys, h, x, hx => by
    rw [wideDs, Bool.and_eq_true] at h
    rcases List.mem_cons.mp hx with e | hx
    · rw [e]
      exact h.1
    · exact wideDs_mem h.2 x hx
theorem depth_mem : ∀ {xs : List PyData} {x : PyData}, x ∈ xs → x.depth ≤ PyData.depthAll xs
  | y :: ys, x, h => by
    rw [PyData.depthAll]
    rcases List.mem_cons.mp h with e | h
    · rw [e]
      exact Nat.le_max_left _ _
    · exact Nat.le_trans (depth_mem h) (Nat.le_max_right _ _)
mutual
theorem imm_tupD : ∀ {d : PyData}, wideD d = true → imm (tupD d) = true
  | .list xs, h => by
    rw [wideD, Bool.and_eq_true] at h
    rw [tupD, imm]
    exact immAll_tupDs h.2
  | .tuple xs, h => by
    rw [wideD, Bool.and_eq_true] at h
    rw [tupD, imm]
    exact immAll_tupDs h.2
  | .none, _ => by simp [tupD, imm]
  | .bool _, _ => by simp [tupD, imm]
  | .int _, _ => by simp [tupD, imm]
  | .str _, _ => by simp [tupD, imm]
  | .dict _, h => by simp [wideD] at h
theorem immAll_tupDs : ∀ {xs : List PyData}, wideDs xs = true → immAll (tupDs xs) = true
  | [], _ => by simp [tupDs, immAll]
  | x :: xs, h => by
    rw [wideDs, Bool.and_eq_true] at h
    rw [tupDs, immAll, imm_tupD h.1, immAll_tupDs h.2]
    rfl
end
section
variable {P : Program} {w : World} {K : PySem.W.Frag} {mg : Str → Option Value} {base : Heap}
theorem sc_tupled : FnScope ["value", "part"] ["value"] (defScope s_tupled) := ⟨rfl, rfl, rfl, by decide +kernel, rfl, by decide +kernel, by decide +kernel⟩
/-- values nested less deep than n -/
def A_tupled (n : Nat) : Prm := fun ok W W' Ps T => ∃ d : PyData, d.depth < n ∧ wideD d = true ∧ W' = W ∧ Ps = [D d] ∧ T = D (tupD d)
theorem isi_lt {ok : Addr → Prop} {W : Wd ok} {X : Cx} {δ : DEnv ok} {e : Expr} {p p1 p2 pos tpos : Pos} {kk : Nat} {d : PyData} (m : Mn X.mg) (he : PEv W X e δ (D d)) (hg : Gl X "isinstance" := by rfl) (hg1 : Gl X "list" := by rfl) (hg2 : Gl X "tuple" := by rfl) 
    (hs : starEach [e, .Tuple [.Name "list" p1, .Name "tuple" p2] kk tpos] X.env = (false, eval e X.env) :: starEach [.Tuple [.Name "list" p1, .Name "tuple" p2] kk tpos] X.env := by rfl) :
    PEv W X (.Call (.Name "isinstance" p) [e, .Tuple [.Name "list" p1, .Name "tuple" p2] kk tpos] [] pos) δ (D (.bool (["list", "tuple"].any (subT (tyN d))))) :=
  visiT m.isinstance he (acons (vtn m.list (hg := hg1)) (acons (vtn m.tuple (hg := hg2)) anil)) (by decide) (by decide) hg hs
theorem step_tupled {k n : Nat} {f : Addr} {fd : FuncData} (F : Fun K "tupled" "tupled" s_tupled f fd) (m : Mn mg) (ih : n = 0 ∨ Df P w K mg base k "tupled" ["value"] (spt (A_tupled n))) : FnOk P w K mg base CX0 (k + 1) f fd ["value"] (spt (A_tupled (n + 1))) :=
  okp F sc_tupled (fun _ _ _ _ _ h => by
    obtain ⟨d, _, _, _, rfl, _⟩ := h
    rfl) fun cdv B outer s H E hr ok W W' Ps T h => by
  obtain ⟨d, hd, hw, rfl, rfl, rfl⟩ := h
  refine bret (vif (x := ["list", "tuple"].any (subT (tyN d))) (tval (isi_lt m (vv 0))) (fun e => ?_) fun e => ?_)
  · cases d with
    | list xs =>
      rw [wideD, Bool.and_eq_true, decide_eq_true_eq] at hw
      rw [PyData.depth] at hd
      rw [tupD, tupDs_map]
      rcases ih with rfl | ih
      · omega
      exact vtupleL m.tuple (vlcA (own := [("part", 1)]) xs (fun x => D x) tupD rfl sc_tupled.nd (by kernel_rfl) (iL (vv 0)) (by omega) fun x hx =>
        turn (fun _ _ _ _ _ => gname 1 sc_tupled.nd) (fun _ _ _ _ _ => qnil) (fun _ _ _ _ _ _ => vcall ih hr (acons (vv 1) anil) ⟨x, by have := depth_mem hx; omega, wideDs_mem hw.2 x hx, rfl, rfl, rfl⟩) (fun _ => nol_imm (imm_tupD (wideDs_mem hw.2 x hx))))
    | tuple xs =>
      rw [wideD, Bool.and_eq_true, decide_eq_true_eq] at hw
      rw [PyData.depth] at hd
      rw [tupD, tupDs_map]
      rcases ih with rfl | ih
      · omega
      exact vtupleL m.tuple (vlcA (own := [("part", 1)]) xs (fun x => D x) tupD rfl sc_tupled.nd (by kernel_rfl) (iT (vv 0)) (by omega) fun x hx =>
        turn (fun _ _ _ _ _ => gname 1 sc_tupled.nd) (fun _ _ _ _ _ => qnil) (fun _ _ _ _ _ _ => vcall ih hr (acons (vv 1) anil) ⟨x, by have := depth_mem hx; omega, wideDs_mem hw.2 x hx, rfl, rfl, rfl⟩) (fun _ => nol_imm (imm_tupD (wideDs_mem hw.2 x hx))))
    | _ => simp [tyN, subT] at e
  · cases d with
    | list xs => simp [tyN, subT] at e
    | tuple xs => simp [tyN, subT] at e
    | dict xs => simp [wideD] at hw
    | none => exact PEv.cast (vv 0) (by simp [tupD])
    | bool _ => exact PEv.cast (vv 0) (by simp [tupD])
    | int _ => exact PEv.cast (vv 0) (by simp [tupD])
    | str _ => exact PEv.cast (vv 0) (by simp [tupD])
end
end Kl
set_option linter.all false
set_option maxRecDepth 100000
set_option maxHeartbeats 4000000
/-! # P4: leasts -/
namespace Kl
open PySem PySem.Spec PyProof.Rows L2
theorem tupDs_strs : ∀ xs : List Str, tupDs (xs.map .str) = xs.map .str
  | [] => rfl
  | x :: xs => by
    rw [List.map_cons, tupDs, tupDs_strs xs]
    rfl
theorem tupD_ss (xs : List Str) : tupD (ss xs) = ss xs := by
  show tupD (.tuple _) = _
  rw [tupD, tupDs_strs]
  rfl
theorem tupDs_ints : ∀ xs : List Int, tupDs (xs.map .int) = xs.map .int
  | [] => rfl
  | x :: xs => by
    rw [List.map_cons, tupDs, tupDs_ints xs]
    rfl
theorem tupD_ii (xs : List Int) : tupD (ii xs) = ii xs := by
  show tupD (.tuple _) = _
  rw [tupD, tupDs_ints]
  rfl
theorem wideDs_strs : ∀ xs : List Str, wideDs (xs.map .str) = true
  | [] => rfl
  | x :: xs => by
    rw [List.map_cons, wideDs, wideDs_strs xs]
    rfl
theorem wideD_ss {xs : List Str} (h : xs.length ≤ 1000) : wideD (ss xs) = true := by
  show wideD (.tuple _) = true
  rw [wideD, wideDs_strs, List.length_map, decide_eq_true h]
  rfl
theorem wideDs_ints : ∀ xs : List Int, wideDs (xs.map .int) = true
  | [] => rfl
  | x :: xs => by
    rw [List.map_cons, wideDs, wideDs_ints xs]
    rfl
theorem wideD_ii {xs : List Int} (h : xs.length ≤ 1000) : wideD (ii xs) = true := by
  show wideD (.tuple _) = true
  rw [wideD, wideDs_ints, List.length_map, decide_eq_true h]
  rfl
theorem depth_ss1 (xs : List Str) : (ss xs).depth = 1 := by
  show (PyData.tuple _).depth = 1
  rw [PyData.depth, depth_map (fun _ => by simp [PyData.depth])]
theorem depth_ii1 (xs : List Int) : (ii xs).depth = 1 := by
  show (PyData.tuple _).depth = 1
  rw [PyData.depth, depth_map (fun _ => by simp [PyData.depth])]
theorem depth_le_map {α : Type} {f : α → PyData} {n : Nat} (h : ∀ a, (f a).depth ≤ n) : ∀ xs : List α, PyData.depthAll (xs.map f) ≤ n
  | [] => Nat.zero_le _
  | x :: xs => by
    rw [List.map_cons, PyData.depthAll]
    exact Nat.max_le.mpr ⟨h x, depth_le_map h xs⟩
theorem wideDs_of {α : Type} {f : α → PyData} : ∀ {xs : List α}, (∀ x ∈ xs, wideD (f x) = true) → wideDs (xs.map f) = true
  | [], _ => by simp [wideDs]
  | x :: xs, h => by
    rw [List.map_cons, wideDs, h x List.mem_cons_self, wideDs_of fun y hy => h y (List.mem_cons_of_mem _ hy)]
    rfl
theorem tupDs_of {α : Type} {f : α → PyData} (h : ∀ x, tupD (f x) = f x) : ∀ xs : List α, tupDs (xs.map f) = xs.map f
  | [] => by simp [tupDs]
  | x :: xs => by rw [List.map_cons, tupDs, h x, tupDs_of h xs]
section
variable {P : Program} {w : World} {K : PySem.W.Frag} {mg : Str → Option Value} {base : Heap}
def leastsOf (fam : List (List Str)) : List (List Str) := (setOf ss fam).filter fun s => !((setOf ss fam).filter fun far => !decide (far = s)).any fun far => within far s
theorem sc_leasts : FnScope ["family", "own", "some", "far"] ["family"] (defScope s_leasts) := ⟨rfl, rfl, rfl, by decide +kernel, rfl, by decide +kernel, by decide +kernel⟩
def A_leasts : Prm := fun ok W W' Ps T => ∃ fam : List (List Str), fam.length < 64 ∧ (∀ s ∈ fam, s.length ≤ 100) ∧ W' = W ∧ Ps = [D (.list (fam.map ss))] ∧ T = D (.tuple ((leastsOf fam).map ss))
theorem ok_leasts {k : Nat} {f : Addr} {fd : FuncData} (F : Fun K "leasts" "leasts" s_leasts f fd) (m : Mn mg) (d_set_of : Df P w K mg base k "set_of" ["some"] (spt A_set_of)) (d_tupled : Df P w K mg base k "tupled" ["value"] (spt (A_tupled 4))) (d_is_within : Df P w K mg base k "is_within" ["some", "other"] (spt A_is_within)) :
    FnOk P w K mg base CX0 (k + 1) f fd ["family"] (spt A_leasts) :=
  okp F sc_leasts (fun _ _ _ _ _ h => by
    obtain ⟨d, _, _, _, rfl, _⟩ := h
    rfl) fun cdv B outer s H E hr ok W W' Ps T h => by
  obtain ⟨fam, hl, hb, rfl, rfl, rfl⟩ := h
  have hlen := setOf_len (enc := ss) fam
  have hmem : ∀ s ∈ setOf ss fam, s.length ≤ 100 := fun s hs => hb s (mem_setOf.mp hs)
  refine bcons (sset 1 sc_leasts.nd (vcall d_set_of hr (acons (vcall d_tupled hr (acons (vv 0) anil) ⟨.list (fam.map ss), ?_, ?_, rfl, rfl, rfl⟩) anil) ⟨_, _, ss, fam, rfl, .tstr, hl, .inr ?_, rfl⟩)) ?_
  · rw [PyData.depth]
    have := depth_le_map (f := ss) (n := 1) (fun a => by rw [depth_ss1]; exact Nat.le_refl _) fam
    omega
  · rw [wideD, List.length_map, wideDs_of fun x hx => wideD_ss (by have := hb x hx; omega), decide_eq_true (by omega)]
    rfl
  · rw [tupD, tupDs_of tupD_ss]
  refine bret (vtupleL m.tuple (vlcD (own := [("some", 2)]) (setOf ss fam) (fun s => D (ss s)) (fun s => !((setOf ss fam).filter fun far => !decide (far = s)).any fun far => within far s) ss rfl sc_leasts.nd (by kernel_rfl) (iTm (vv 1)) (by omega) fun s hs =>
    turn (fun _ _ _ _ _ => gname 2 sc_leasts.nd) (fun _ _ _ _ _ => qone (tnot (tval (PEv.cast (vany (bs := ((setOf ss fam).filter fun far => !decide (far = s)).map fun far => within far s) rfl m.any ?_) ?_)))) (fun _ _ _ _ _ _ => vv 2) (fun _ => nol_imm (imm_ss _))))
  · rw [List.map_map]
    exact vlcD (own := [("far", 3)]) (setOf ss fam) (fun s => D (ss s)) (fun far => !decide (far = s)) (fun far => .bool (within far s)) rfl sc_leasts.nd (by kernel_rfl) (iTm (vv 1)) (by omega) fun far hfar =>
      turn (fun _ _ _ _ _ => gname 3 sc_leasts.nd) (fun _ _ _ _ _ => qone (tc (c_neS hr.units) (vv 3) (vv 2))) (fun _ _ _ _ _ _ => vcall d_is_within hr (acons (vv 3) (acons (vv 2) anil)) ⟨far, s, hmem far hfar, rfl, rfl, rfl⟩) (fun _ => nol_imm rfl)
  · rw [List.any_map]
    rfl
end
end Kl
set_option linter.all false
set_option maxRecDepth 100000
set_option maxHeartbeats 4000000
/-! # DC: dict comprehensions whose keys are tuples (dc_core of HandS.DictComp turned to such keys) -/
namespace Kl
open PySem PySem.Spec PyProof.Rows L2
/-- d[k] = v by a comprehension, k a tuple -/
theorem d_dictSetT {X : Cx} {pins : List (Addr × Obj)} {σ : L2.St} {H : Hp} {s : Shared} {E : Value → Shared → Prop} {D b : Addr} {kvs : List (List L2.Key × V)} {k : List L2.Key} {v : V} {r : Value} {Q : Unit → Shared → Prop} (hu : X.A.units + 1 < cLine) (I : Inv X pins σ H s) (eb : H b = some (.tup (k.map kV))) (hD : H D = some (.dT kvs))
    (hl : kvs.length < sizeLine) (rv : RelV v r) (h : ∀ s', Inv X pins σ (upd H D (.dT (putK kvs k v))) s' → Q () s') : wpAny (model X.prog X.w) X.A (dictSet D (.ref b) r) Q E s := by
  obtain ⟨z, hd, xs, rel, dd⟩ := dt_of I.hok hD
  have hz : xs.length ≤ sizeLine := by
    rw [← Paired.length rel]
    exact z
  have hl' : (putK kvs k v).length ≤ sizeLine := by
    have := length_putK kvs k v
    omega
  refine wpAny_dictSet_heap (hsz := hz) (show X.A.units < cLine by omega) (key_of I.hok eb) dd fun h' dd' hs => h _ ?_
  obtain ⟨q, es, ep, hq, h2, h3, h4, _, h5⟩ := dd'
  refine d_write I (by rw [hD]; exact True.intro) hs ⟨q, hq⟩ ⟨hl', hd, _, (rel.put k eb rv).keeps fun c ys ec => ?_, q, es, ep, hq, h2, h3, h4, h5⟩
  rw [upd_ne (ne_of ec hD (fun z => nomatch z))]
  exact ec
section
variable {X : Cx}
/-- {k: v for target in iter if ..}, the keys tuples: D the new dict -/
def tDcT (wi : TI) (g : TG) (tt : TT) (tk tv : TE) (vs : List Nat) : TE := fun σ H Q => wi σ H fun J H1 => ∀ D, H1 D = none → ∃ W : Nat → Nat → Hp → Prop, (∃ m, W 0 m (upd H1 D (.dT []))) ∧ ∀ i m H, W i m H →
  (J.stop i H ∧ Q (.ref D) H) ∨ (J.go i H ∧ ∃ Nx : Hp → Prop, (∀ H', Nx H' → ∃ m', m' < m ∧ W (i + 1) m' H') ∧ ∀ x H', J.yld i H x H' → g x (wipe σ vs) H' fun σ2 H2 => wipe σ2 vs = wipe σ vs ∧ tt σ2 H2 fun b H3 =>
    if b = true then tk σ2 H3 fun y H4 => tv σ2 H4 fun z H5 => ∃ kvs k b, y = .ref b ∧ H5 b = some (.tup (k.map kV)) ∧ H5 D = some (.dT kvs) ∧ kvs.length < sizeLine ∧ Nx (upd H5 D (.dT (putK kvs k z))) else Nx H3)
theorem dct_core {pins : List (Addr × Obj)} {s : Shared} {σ : L2.St} {H : Hp} {Q : VK} {kx vx tg iter : Expr} {ifs : List Expr} {scope : Scope} {own : List (Str × Nat)} {pos pos' : Pos} {wi : TI} {g : TG} {tt : TT} {tk tv : TE} {use : Option (Value → Sem Unit)} {Qf : Value → Shared → Prop}
    (hu : X.A.units + 1 < cLine) (hc : X.calm = true) (hN : X.N.Nodup) (I : Inv X pins σ H s) (hi : PI X tg iter wi) (ok : BlkOk X.N X.env.scope scope own)
    (hg : ∀ (s : Shared) (H : Hp) (C : Addr) (cl : List (Str × Addr)) (fp : List Addr), PG (X.blk s H scope (compEnvC scope cl C X.env) fp) tg g) (ht : ∀ (s : Shared) (H : Hp) (C : Addr) (cl : List (Str × Addr)) (fp : List Addr), PTs (X.blk s H scope (compEnvC scope cl C X.env) fp) ifs tt)
    (hk : ∀ (s : Shared) (H : Hp) (C : Addr) (cl : List (Str × Addr)) (fp : List Addr), PE (X.blk s H scope (compEnvC scope cl C X.env) fp) kx tk)
    (he : ∀ (s : Shared) (H : Hp) (C : Addr) (cl : List (Str × Addr)) (fp : List Addr), PE (X.blk s H scope (compEnvC scope cl C X.env) fp) vx tv) (hs : ∀ x, foldedSetIterable iter X.env x = pure x)
    (h : tDcT wi g tt tk tv (own.map (·.2)) σ H Q)
    (hRR : ∀ D C s' m H', Inv X pins σ H' s' → Q (.ref D) H' → s'.heap.Ns C m → FpOk X pins H' C → compPost (model X.prog X.w) X.A X.xe use Qf (.ref D) C (.ok .next) s') :
    wpAny (model X.prog X.w) X.A (comprehension (.DictComp kx vx [⟨tg, iter, ifs, 0⟩] scope pos) scope X.env pos' newDict false (eval iter X.env) use) Qf X.xe s := by
  have hfree : ∀ y ∈ scope.names, y.2 = .free → ∃ c, X.env.cells.lookup y.1 = some c := fun y hy e => by
    rcases ok.free y hy e with k | k
    · exact I.ok.has _ (.inl k)
    · exact I.ok.has _ (.inr k)
  refine wpAny_comprehension_free (use := use) rfl hs (closure_ok hfree) ok.kind (fun y hy e => by rw [ok.uniq y hy, e])
    (thn (hi.run pins s σ H _ I h) fun xv s1 hx => thn hx fun itv s2 h2 => ?_)
  obtain ⟨it, fp, tn, J, H2, e, I2, T, st2, f2, q⟩ := h2
  subst e
  refine wpAny_newObj_type (newEnv_comp ?_)
  generalize hD : s2.heap.objs.size = D
  have hDn : H2 D = none := I2.hok.fresh (Nat.le_of_eq hD)
  obtain ⟨W, ⟨m0, w0⟩, turn⟩ := q D hDn
  -- the new list
  generalize hs3 : ({ s2 with heap := s2.heap.push { cls := .type "dict", data := .dict #[] } } : Shared) = s3
  have I3 : Inv X pins σ (upd H2 D (.dT [])) s3 := by
    rw [← hs3]
    refine I2.laid (t' := s2.toks) (fun b o e => Heap.get?_push_of_some _ e) (Nat.le_of_eq hD) ?_
    rw [← hD]
    exact dt_empty s2.heap I2.big
  have h3 : s3.heap = s2.heap.push { cls := .type "dict", data := .dict #[] } := by rw [← hs3]
  have sz : ∀ b ∈ fp, b < s2.heap.objs.size := fun b hb => by
    obtain ⟨o, e, _⟩ := T.obj _ _ st2 b hb
    exact Heap.lt_size e
  have f3 : ∀ b ∈ fp, FpOk X pins (upd H2 D (.dT [])) b ∧ b < s3.heap.objs.size := fun b hb => by
    have hlt := sz b hb
    refine ⟨⟨?_, (f2 b hb).2⟩, by rw [h3, Heap.size_push]; exact Nat.lt_succ_of_lt hlt⟩
    rw [upd_ne (by rw [← hD]; exact Nat.ne_of_lt hlt)]
    exact (f2 b hb).1
  have st3 : tn 0 s3.heap := T.keep _ _ _ st2 fun b _ o e => by rw [h3]; exact Heap.get?_push_of_some _ e
  have I4 := block_start I3 ok hN f3
  have pg := hg s3 (upd H2 D (.dT [])) s3.heap.objs.size (cellsFrom (s3.heap.objs.size + 1) scope.names (cloFrom X.env.cells scope.names [])) fp
  have pt := ht s3 (upd H2 D (.dT [])) s3.heap.objs.size (cellsFrom (s3.heap.objs.size + 1) scope.names (cloFrom X.env.cells scope.names [])) fp
  have pk := hk s3 (upd H2 D (.dT [])) s3.heap.objs.size (cellsFrom (s3.heap.objs.size + 1) scope.names (cloFrom X.env.cells scope.names [])) fp
  have pe := he s3 (upd H2 D (.dT [])) s3.heap.objs.size (cellsFrom (s3.heap.objs.size + 1) scope.names (cloFrom X.env.cells scope.names [])) fp
  show codeAny _ _ (.compStart (.DictComp kx vx [⟨tg, iter, ifs, 0⟩] scope pos) 0 (.ref it) (.ref D) (compEnvC scope (cellsFrom (s3.heap.objs.size + 1) scope.names (cloFrom X.env.cells scope.names [])) s3.heap.objs.size X.env)) (compPost (model X.prog X.w) X.A X.xe use Qf (.ref D) s3.heap.objs.size) { s3 with heap := pushCells (s3.heap.push { cls := .type "dict", data := .dict #[] }) scope.names }
  have nfp : ∀ b ∈ fp, (upd H2 D (.dT [])) b = none := fun b hb => (f3 b hb).1.1
  generalize hce : compEnvC scope (cellsFrom (s3.heap.objs.size + 1) scope.names (cloFrom X.env.cells scope.names [])) s3.heap.objs.size X.env = ce at I4 pg pt pk pe ⊢
  have cL : ce.locals = s3.heap.objs.size := by subst hce; rfl
  generalize hH3 : upd H2 D (.dT []) = H3 at I3 I4 pg pt pk pe w0 nfp f3
  generalize hs4 : ({ s3 with heap := pushCells (s3.heap.push { cls := .type "dict", data := .dict #[] }) scope.names } : Shared) = s4 at I4 ⊢
  have st4 : tn 0 s4.heap := T.keep _ _ _ st3 fun b _ o e => by rw [← hs4]; exact pushCells_keeps _ _ _ _ (Heap.get?_push_of_some _ e)
  have stat : ∀ {σ' : L2.St} {H' : Hp} {s' : Shared}, Inv (X.blk s3 H3 scope ce fp) [] σ' H' s' → (∀ b ∈ fp, H' b = none) → ∀ b ∈ fp, FpOk (X.blk s3 H3 scope ce fp) [] H' b := fun {σ' H' s'} I' hn b hb =>
    ⟨hn b hb, (I'.ok.exf b hb).1, I'.ok.exfs b hb, .inl hb, fun x c e => (I'.ok.exf b hb).2 x c e, fun p hp => absurd (show p ∈ ([] : List (Addr × Obj)) ++ [] from hp) (by simp)⟩
  have loop : codeAny (model X.prog X.w) X.A (.compLoop (.DictComp kx vx [⟨tg, iter, ifs, 0⟩] scope pos) 0 (.ref it) (.ref D) ce) (compPost (model X.prog X.w) X.A X.xe use Qf (.ref D) s3.heap.objs.size) s4 := by
    refine compLoop_anyD (fun n s' => ∃ i H', Inv (X.blk s3 H3 scope ce fp) [] (wipe σ (own.map (·.2))) H' s' ∧ tn i s'.heap ∧ (∀ b ∈ fp, H' b = none) ∧ W i n H') ?_ m0 ⟨0, H3, I4, st4, nfp, w0⟩
    rintro n s5 ⟨i, H5, I5, st5, n5, w5⟩
    rcases turn i n H5 w5 with ⟨stop, qq⟩ | ⟨go, Nx, hNx, step⟩
    · have td := T.done (X.blk s3 H3 scope ce fp) rfl rfl rfl hc i [] s5 _ H5 (fun _ _ => False) I5 (stat I5 n5) st5 stop
      refine thnF td fun r s6 ⟨hr, I6⟩ => ?_
      subst hr
      -- back in the def's context
      have I7 : Inv X pins σ H5 s6 := I3.call' (ch := fp) I6.os I6.base I6.hok I6.bare fun b hb => ⟨(f3 b hb).1.2.2.2.1, (f3 b hb).1.2.1, (f3 b hb).1.2.2.2.2.1, (f3 b hb).1.2.2.2.2.2⟩
      have nC : H5 s3.heap.objs.size = none := by
        have z : H5 ce.locals = none := I6.free
        rw [cL] at z
        exact z
      obtain ⟨m, hn, _⟩ := I6.loc
      have hn : s6.heap.Ns ce.locals m := hn
      rw [cL] at hn
      exact hRR D s3.heap.objs.size s6 m H5 I7 qq hn (I3.fpOk (Nat.le_refl _) nC)
    · have ti := T.item (X.blk s3 H3 scope ce fp) rfl rfl rfl hc i [] s5 _ H5 (fun _ _ => False) I5 (stat I5 n5) st5 go
      refine thnF ti fun r s6 ⟨u, hr, h6⟩ => ?_
      subst hr
      refine thnF h6 fun _ s7 ⟨x, H7, I7, r7, y7, st7, n7⟩ => ?_
      have I7' := I7.pinned (stat I7 n7) (T.obj _ _ st7)
      refine thnF (pg.run _ s7 _ H7 x u _ I7' r7 (step x H7 y7)) fun _ s8 ⟨σ8, H8, I8, hw8, q8⟩ => ?_
      refine thnF (pt.run _ s8 σ8 H8 _ I8 q8) fun b s9 ⟨H9, I9, q9⟩ => ?_
      -- the turn's end
      have fin : ∀ {s' : Shared} {H' : Hp}, Inv (X.blk s3 H3 scope ce fp) ([] ++ pinsAt fp s7.heap) σ8 H' s' → Nx H' → ∃ m, m < n ∧ ∃ i H', Inv (X.blk s3 H3 scope ce fp) [] (wipe σ (own.map (·.2))) H' s' ∧ tn i s'.heap ∧ (∀ b ∈ fp, H' b = none) ∧ W i m H' := fun {s' H'} I' nx => by
        obtain ⟨m', hm, w'⟩ := hNx H' nx
        have pin' : ∀ b ∈ fp, ∀ o, s7.heap.get? b = some o → s'.heap.get? b = some o ∧ H' b = none := fun b hb o e =>
          let z := I'.pin (b, o) (List.mem_append_right _ (List.mem_append_right _ (mem_pinsAt hb e)))
          ⟨z.1, z.2.1⟩
        have hl : (wipe σ (own.map (·.2))).length = σ8.length := by rw [← hw8, wipe_length]
        refine ⟨m', hm, i + 1, H', (I'.unpinned (pins := [])).weak hl (fun j v e => ?_), T.keep _ _ _ st7 fun b hb o e => (pin' b hb o e).1, fun b hb => ?_, w'⟩
        · rw [← hw8] at e
          exact (wipe_some e).1
        · obtain ⟨o, e, _⟩ := T.obj _ _ st7 b hb
          exact (pin' b hb o e).2
      cases b with
      | false =>
        simp only [Bool.false_eq_true, if_false] at q9 ⊢
        exact fin I9 q9
      | true =>
        simp only [if_true] at q9 ⊢
        refine thnF (pk.run _ s9 σ8 H9 _ I9 q9) fun z s10 ⟨yk, H10, I10, r10, q10⟩ => ?_
        refine thnF (pe.run _ s10 σ8 H10 _ I10 q10) fun z2 s11 ⟨yv, H11, I11, r11, kvs, k, b, ek, hb11, hD11, hz11, nx⟩ => ?_
        subst ek
        cases (show z = Value.ref b from r10)
        exact d_dictSetT (X := X.blk s3 H3 scope ce fp) hu I11 hb11 hD11 hz11 r11 fun s12 I12 => fin I12 nx
  exact codeAny_compStart_dict loop (T.self X.A 0 _ _ _ st4 loop)
/-- as a value -/
theorem pe_dcT {kx vx tg iter : Expr} {ifs : List Expr} {scope : Scope} {own : List (Str × Nat)} {pos : Pos} {wi : TI} {g : TG} {tt : TT} {tk tv : TE} (hu : X.A.units + 1 < cLine) (hc : X.calm = true) (hN : X.N.Nodup) (hi : PI X tg iter wi) (ok : BlkOk X.N X.env.scope scope own)
    (hg : ∀ (s : Shared) (H : Hp) (C : Addr) (cl : List (Str × Addr)) (fp : List Addr), PG (X.blk s H scope (compEnvC scope cl C X.env) fp) tg g) (ht : ∀ (s : Shared) (H : Hp) (C : Addr) (cl : List (Str × Addr)) (fp : List Addr), PTs (X.blk s H scope (compEnvC scope cl C X.env) fp) ifs tt)
    (hk : ∀ (s : Shared) (H : Hp) (C : Addr) (cl : List (Str × Addr)) (fp : List Addr), PE (X.blk s H scope (compEnvC scope cl C X.env) fp) kx tk)
    (he : ∀ (s : Shared) (H : Hp) (C : Addr) (cl : List (Str × Addr)) (fp : List Addr), PE (X.blk s H scope (compEnvC scope cl C X.env) fp) vx tv) (hs : ∀ x, foldedSetIterable iter X.env x = pure x := by intro _; rfl) :
    PE X (.DictComp kx vx [⟨tg, iter, ifs, 0⟩] scope pos) (tDcT wi g tt tk tv (own.map (·.2))) := by
  refine ⟨fun pins s σ H Q I h => ?_⟩
  rw [arm_eval_DictComp]
  refine dct_core hu hc hN I hi ok hg ht hk he hs h fun D C s' m H' I' q hn f => ⟨m, hn, fun h'' sb => ?_⟩
  obtain ⟨f0, f1, f2, f3, f4, f5⟩ := f
  exact ⟨.ref D, H', I'.turned (t' := s'.toks) (fun b o hb e => (sb.2 b hb).trans e) f0 f1 f3 f4 f5, rfl, q⟩
end
end Kl
set_option linter.all false
set_option maxRecDepth 100000
set_option maxHeartbeats 4000000
/-! # K8: dicts whose keys are tuples of texts: made by a comprehension, walked by items() -/
namespace Kl
open PySem PySem.Spec PyProof.Rows L2
/-- the entries of the fixed dict at d, each as a new pair -/
def Itp (d : Addr) (o : Obj) (kvs : List (List L2.Key × V)) : It :=
  ⟨fun i H => H d = some (.frz o (.dT kvs)) ∧ i < kvs.length, fun i H x H' => ∃ T k v q, kvs[i]? = some (k, v) ∧ x = .ref T ∧ H T = none ∧ H q = some (.tup (k.map kV)) ∧ H' = upd H T (.tup [.ref q, v]), fun i H => H d = some (.frz o (.dT kvs)) ∧ kvs.length ≤ i⟩
theorem frz_entries {X : Cx} {pins : List (Addr × Obj)} {σ : L2.St} {H : Hp} {s : Shared} {d : Addr} {o : Obj} {kvs : List (List L2.Key × V)} (I : Inv X pins σ H s) (h : H d = some (.frz o (.dT kvs))) :
    (d == sysModules) = false ∧ s.heap.get? d = some o ∧ o.ExactDict ∧ ∃ (es : Array DictEntry) (ep : Nat), o.data = .dict es ep ∧ es.size = kvs.length ∧
      ∀ (i : Nat) (k : List L2.Key) (v : V), kvs[i]? = some (k, v) → ∃ (en : DictEntry) (q : Addr), es[i]? = some en ∧ en.key = .ref q ∧ H q = some (.tup (k.map kV)) ∧ RelV v en.val := by
  obtain ⟨hd, z, hs, xs, pr, o', es, ep, ho, hx, hdt, he, _⟩ := I.hok d _ h
  rw [hd] at ho
  cases ho
  refine ⟨hs, hd, hx, es, ep, hdt, ?_, fun i k v e => ?_⟩
  · have l1 : es.size = xs.length := size_of_entries he
    have l2 : kvs.length = xs.length := Paired.length pr
    omega
  · obtain ⟨b, hb, e1, e2, e3⟩ := paired_get pr e
    have q := entry_at he i
    rw [hb] at q
    exact ⟨_, b.2.1, q, rfl, e2, e3⟩
theorem turn_pairs {P : Program} {w : World} {K : PySem.W.Frag} {d : Addr} {o : Obj} {es : Array DictEntry} {ep : Nat} {kvs : List (List L2.Key × V)} {elts : List Expr} {kk : Nat} {tpos : Pos} (it : Addr) (hod : o.data = .dict es ep) :
    Turn P w K (.Tuple elts kk tpos) (Itp d o kvs) [it] it (fun i h => ∃ ok ov, IsItemIter h it d i kvs.length ep ok ov) where
  mem := by simp
  obj := fun i h st b hb => by
    have e : b = it := by simpa using hb
    subst e
    obtain ⟨ok, ov, e⟩ := st
    exact ⟨_, e, fun v z => nomatch z⟩
  keep := fun i h h' st k => let ⟨ok, ov, e⟩ := st; ⟨ok, ov, k it (by simp) _ e⟩
  item := by
    intro X hP hw hK hc i pins s σ H E I hf st hg
    subst hP hw hK
    obtain ⟨hd, hi⟩ := hg
    obtain ⟨hs, hgd, hx, es', ep', hdt, hsz, ent⟩ := frz_entries I hd
    obtain ⟨rfl, rfl⟩ := dict_ep hod hdt
    obtain ⟨⟨k, v⟩, hkv⟩ : ∃ p, kvs[i]? = some p := ⟨kvs[i], List.getElem?_eq_getElem hi⟩
    obtain ⟨en, q, hen, hkey, hq, rv⟩ := ent i k v hkv
    obtain ⟨ok, ov, he⟩ := st
    rw [← hsz] at he
    have hlt : it < s.heap.objs.size := Heap.lt_size he
    have hie : i < es'.size := by omega
    have een : es'[i] = en := by
      rw [Array.getElem?_eq_getElem hie] at hen
      exact Option.some.inj hen
    refine DT.nextI he ⟨o, hgd, hx, hdt⟩ hie fun h' ho hT hz hk => ?_
    refine ⟨_, rfl, wpAny_letOwnedTupleGo_items (s := { s with heap := h' }) ho fun h'' he' sb => ?_⟩
    have hT2 : h''.get? s.heap.objs.size = some { cls := .type "tuple", data := .seq #[es'[i].key, es'[i].val] } := (sb.2 _ (Nat.ne_of_gt hlt)).trans hT
    rw [een] at hT2
    have new : ObjOk X.prog X.w (upd H s.heap.objs.size (.tup [.ref q, v])) h'' s.heap.objs.size (.tup [.ref q, v]) :=
      ⟨by show 2 ≤ sizeLine; decide, [en.key, en.val], .cons hkey (.cons rv .nil), ⟨_, hT2, rfl, _, rfl⟩⟩
    have I1 : Inv X pins σ (upd H s.heap.objs.size (.tup [.ref q, v])) { s with heap := h'' } :=
      I.turnedNew (t' := s.toks) (ch := [it]) (fun b ob hb e => (sb.2 b (by simpa using hb)).trans (hk b ob (by simpa using hb) e)) hf (Nat.le_refl _) new
    refine ⟨.ref s.heap.objs.size, _, I1, rfl, ⟨_, k, v, q, hkv, rfl, I.hok.fresh (Nat.le_refl _), hq, rfl⟩, ⟨es'[i].key, es'[i].val, ?_⟩, fun b hb => ?_⟩
    · rw [← hsz]
      exact he'
    · have e : b = it := by simpa using hb
      rw [e, upd_ne (Nat.ne_of_lt hlt)]
      exact (hf it (by simp)).1
  done := by
    intro X hP hw hK hc i pins s σ H E I hf st hg
    subst hP hw hK
    obtain ⟨hd, hi⟩ := hg
    obtain ⟨f0, f1, f2, f3, f4, f5⟩ := hf it (by simp)
    obtain ⟨hs, hgd, hx, es', ep', hdt, hsz, ent⟩ := frz_entries I hd
    obtain ⟨rfl, rfl⟩ := dict_ep hod hdt
    obtain ⟨ok, ov, he⟩ := st
    rw [← hsz] at he
    exact DT.endI (I.ok.hd hc) he ⟨o, hgd, hx, hdt⟩ (by omega) fun h' eb => ⟨rfl, I.turned (t' := s.toks) (fun b ob hb e => eb b ob hb e) f0 f1 f3 f4 f5⟩
  self := fun A i s Q E st h => let ⟨_, _, e⟩ := st; PySem.W.kcp_self e h
def iPairs (td : TE) : TI := fun σ H R => td σ H fun x H1 => ∃ d o kvs, x = .ref d ∧ H1 d = some (.frz o (.dT kvs)) ∧ R (Itp d o kvs) H1
theorem pi_pairs {X : Cx} {e : Expr} {td : TE} {apos cpos : Pos} {elts : List Expr} {kk : Nat} {tpos : Pos} (he : PE X e td) (hbase : attributeBase e "items" X.env (eval e X.env) = eval e X.env := by rfl) (hline : (apos.endLine == cpos.line) = true := by rfl) :
    PI X (.Tuple elts kk tpos) (.Call (.Attribute e "items" apos) [] [] cpos) (iPairs td) := by
  refine ⟨fun pins s σ H R I h => ?_⟩
  refine wpAny_Call_method (T := "dict") (id := "dict.items") hbase rfl hline F.plainAttrs_dict F.slot_dict_items F.type_dict_items (thn (he.run pins s σ H _ I h) fun u s1 ⟨x, H1, I1, rx, d, o, kvs, ex, hd, q⟩ => ?_)
  subst ex
  obtain rfl : u = Value.ref d := rx
  obtain ⟨hs, hgd, hx, es, ep, hdt, hsz, ent⟩ := frz_entries I1 hd
  have raw : DT.Raw s1.heap d es ep := ⟨o, hgd, hx, hdt⟩
  refine ⟨raw.typeIs, fun a e => by
    cases e
    exact ⟨o, hgd, hx.2.1⟩, ?_⟩
  have I2 : Inv X pins σ H1 { s1 with heap := s1.heap.push { cls := .type "dict_items", data := .fields #[.ref d] } } := I1.kept (t' := s1.toks) fun b ob q => Heap.get?_push_of_some _ q
  have fin : wpAny (model X.prog X.w) X.A (pyIter (.ref s1.heap.objs.size)) (PIE X pins σ (.Tuple elts kk tpos) R) X.xe { s1 with heap := s1.heap.push { cls := .type "dict_items", data := .fields #[.ref d] } } := by
    refine DT.iterI (d := d) ⟨_, Heap.get?_push_size _ rfl, rfl, rfl⟩ (raw.push _) (pi_one (tk := s1.toks) I2 _ (turn_pairs _ hdt) ⟨.none, .none, ?_⟩ q)
    rw [← hsz]
    exact Heap.get?_push_size _ rfl
  show wpAny _ _ (callWith cpos (.builtin "dict.items") [.ref d] [] []) _ X.xe s1
  exact method_meetsIn F.slot_dict_items F.entry_dict_items rfl (PySem.evalArgs_none ⟨rfl, raw.typeIs, F.args_dict_items_1 _, _, DT.meetsItems (es := es) (ep := ep) hs, ⟨raw, fin⟩⟩)

/-! ### typed -/
section
variable {ok : Addr → Prop}
theorem Td.neT {H : Hp} {a p : Addr} {xs : List V} {ds : List PyData} {kvs : List (List L2.Key × V)} (h : Td H a xs ds) (hp : H p = some (.dT kvs)) : a ≠ p := h.elim (fun h => ne_of h hp (fun z => nomatch z)) fun ⟨_, _, _, h, _⟩ => ne_of h hp (fun z => nomatch z)
mutual
/-- data stay when steady lists and tuples do -/
theorem R.keep {H H' : Hp} (e1 : ∀ a xs, ok a → H a = some (.lst xs) → H' a = some (.lst xs)) (e2 : ∀ a xs ds, ok a → Td H a xs ds → Td H' a xs ds) : ∀ {v : V} {d : PyData}, R ok H v d → R ok H' v d
  | _, _, .non => .non
  | _, _, .bl b => .bl b
  | _, _, .int i => .int i
  | _, _, .str x => .str x
  | _, _, .lst k h r => .lst k (e1 _ _ k h) (RA.keep e1 e2 r)
  | _, _, .tup k h r => .tup k (e2 _ _ _ k h) (RA.keep e1 e2 r)
theorem RA.keep {H H' : Hp} (e1 : ∀ a xs, ok a → H a = some (.lst xs) → H' a = some (.lst xs)) (e2 : ∀ a xs ds, ok a → Td H a xs ds → Td H' a xs ds) : ∀ {vs : List V} {ds : List PyData}, RA ok H vs ds → RA ok H' vs ds
  | _, _, .nil => .nil
  | _, _, .cons r t => .cons (R.keep e1 e2 r) (RA.keep e1 e2 t)
end
/-- these entries are held -/
inductive En2 (ok : Addr → Prop) (H : Hp) : List (List L2.Key × V) → List (List Str × PyData) → Prop
  | nil : En2 ok H [] []
  | cons {v : V} {k : List Str} {d : PyData} {kvs : List (List L2.Key × V)} {ps : List (List Str × PyData)} : R ok H v d → En2 ok H kvs ps → En2 ok H ((k.map Sum.inr, v) :: kvs) ((k, d) :: ps)
theorem En2.same {H H' : Hp} (e : Rel ok H H') : ∀ {kvs : List (List L2.Key × V)} {ps : List (List Str × PyData)}, En2 ok H kvs ps → En2 ok H' kvs ps
  | _, _, .nil => .nil
  | _, _, .cons r t => .cons (r.same e) (En2.same e t)
theorem En2.keep {H H' : Hp} (e1 : ∀ a xs, ok a → H a = some (.lst xs) → H' a = some (.lst xs)) (e2 : ∀ a xs ds, ok a → Td H a xs ds → Td H' a xs ds) : ∀ {kvs : List (List L2.Key × V)} {ps : List (List Str × PyData)}, En2 ok H kvs ps → En2 ok H' kvs ps
  | _, _, .nil => .nil
  | _, _, .cons r t => .cons (R.keep e1 e2 r) (En2.keep e1 e2 t)
theorem En2.length {H : Hp} : ∀ {kvs : List (List L2.Key × V)} {ps : List (List Str × PyData)}, En2 ok H kvs ps → kvs.length = ps.length
  | _, _, .nil => rfl
  | _, _, .cons _ t => congrArg (· + 1) (En2.length t)
theorem En2.any {H : Hp} {k : List Str} : ∀ {kvs : List (List L2.Key × V)} {ps : List (List Str × PyData)}, En2 ok H kvs ps → k ∉ ps.map (·.1) → (kvs.any fun kv => decide (kv.1 = k.map Sum.inr)) = false
  | _, _, .nil, _ => rfl
  | _, _, .cons r' t, hn => by
    rw [List.map_cons, List.mem_cons, not_or] at hn
    rw [List.any_cons, En2.any t hn.2, Bool.or_false]
    exact decide_eq_false fun e => hn.1 ((List.map_inj_right (fun _ _ z => Sum.inr.inj z)).mp e).symm
theorem En2.append {H : Hp} {v : V} {k : List Str} {d : PyData} (r : R ok H v d) : ∀ {kvs : List (List L2.Key × V)} {ps : List (List Str × PyData)}, En2 ok H kvs ps → En2 ok H (kvs ++ [(k.map Sum.inr, v)]) (ps ++ [(k, d)])
  | _, _, .nil => .cons r .nil
  | _, _, .cons r' t => .cons r' (En2.append r t)
theorem En2.snoc {H : Hp} {v : V} {k : List Str} {d : PyData} (r : R ok H v d) {kvs : List (List L2.Key × V)} {ps : List (List Str × PyData)} (t : En2 ok H kvs ps) (hn : k ∉ ps.map (·.1)) : En2 ok H (putK kvs (k.map Sum.inr) v) (ps ++ [(k, d)]) := by
  unfold putK
  rw [t.any hn, if_neg Bool.false_ne_true]
  exact t.append r
theorem En2.get {H : Hp} : ∀ {kvs : List (List L2.Key × V)} {ps : List (List Str × PyData)} {i : Nat} {k : List L2.Key} {v : V}, En2 ok H kvs ps → kvs[i]? = some (k, v) → ∃ p, ps[i]? = some p ∧ k = p.1.map Sum.inr ∧ R ok H v p.2
  | _, _, _, _, _, .nil, h => by simp at h
  | _, _, 0, _, _, .cons r t, h => by
    cases h
    exact ⟨_, rfl, rfl, r⟩
  | _, _, i + 1, _, _, .cons r t, h => by
    obtain ⟨p, e, z⟩ := En2.get (i := i) t (by simpa using h)
    exact ⟨p, by simpa using e, z⟩
/-- a dict of these entries that is not written any more -/
def FT (ps : List (List Str × PyData)) : Ty ok := ⟨fun H v => ∃ a o kvs, v = .ref a ∧ ok a ∧ H a = some (.frz o (.dT kvs)) ∧ En2 ok H kvs ps, fun e ⟨a, o, kvs, h1, ka, h2, h3⟩ => ⟨a, o, kvs, h1, ka, e _ _ ka h2, h3.same e⟩⟩
end
theorem pe_fix {X : Cx} {e : Expr} {t : TE} (h : PE X e t) : PE X e (fun σ H Q => t σ H fun v H' => ∃ d u, v = .ref d ∧ H' d = some u ∧ Mut (some u) ∧ ∀ od, Q v (upd H' d (.frz od u))) := by
  refine ⟨fun pins s σ H Q I hw => ?_⟩
  refine thn (h.run pins s σ H _ I hw) fun v s1 ⟨x, H1, I1, r, d, u, ex, hd, mu, q⟩ => ?_
  obtain ⟨od, I2⟩ := I1.lock hd mu
  exact ⟨x, _, I2, r, q od⟩
section
variable {ok : Addr → Prop} {W : Wd ok} {X : Cx} {δ : DEnv ok} {α : Type} {kx vx tg iter : Expr} {scope : Scope} {own : List (Str × Nat)} {pos : Pos}
theorem key_map : ∀ k : List Str, (k.map Sum.inr : List L2.Key).map kV = k.map V.str
  | [] => rfl
  | x :: xs => by
    rw [List.map_cons, List.map_cons, key_map xs]
    rfl
/-- {key: value for target in iter} -/
theorem vdc (xs : List α) (tx : α → Ty ok) (ky : α → List Str) (vy : α → PyData) (hu : X.A.units + 64 < cLine) (hc : X.calm = true) (hN : X.N.Nodup) (bk : blkC X.N X.env.scope scope own = true) (hi : PIv W X tg iter δ (xs.map tx)) (hz : xs.length ≤ 10000000) (nd : (xs.map ky).Nodup)
    (ht : ∀ x ∈ xs, ∃ (δ' : DEnv ok) (ws : List Nat), (∀ i ∈ ws, i ∈ own.map (·.2)) ∧ (BlkAll X scope fun Y => PGv W Y tg (wipeE δ (own.map (·.2))) (tx x) δ' ws) ∧ (BlkAll X scope fun Y => PEv W Y kx δ' (D (ss (ky x)))) ∧ (BlkAll X scope fun Y => PEv W Y vx δ' (D (vy x))))
    (hs : ∀ x, foldedSetIterable iter X.env x = pure x := by intro _; rfl) : PEv W X (.DictComp kx vx [⟨tg, iter, [], 0⟩] scope pos) δ (FT (xs.map fun x => (ky x, vy x))) := by
  refine PEv.of (pe_fix (pe_dcT (by omega) hc hN piW (blkOk_by bk) pgAll pqAll peAll peAll hs)) fun σ H Q sl q => ?_
  refine hi.run σ H _ sl fun J G H1 s1 g1 y => ?_
  intro L hL
  have kL : ok L := W.fresh s1.j hL
  refine ⟨fun i m H' => i + m = xs.length ∧ Le W H1 H' ∧ ∃ kvs, H' L = some (.dT kvs) ∧ En2 ok H' kvs ((xs.take i).map fun x => (ky x, vy x)), ⟨xs.length, Nat.zero_add _, le_upd s1.j hL, [], upd_same, .nil⟩, ?_⟩
  rintro i m H' ⟨hm, s2, kvs, h2, r2⟩
  have gH : G H' := (y W).up _ _ s2 g1
  by_cases hlt : i < xs.length
  · have hlt' : i < (xs.map tx).length := by rw [List.length_map]; exact hlt
    refine .inr ⟨(y W).go i H' hlt' s2.j gH, fun H3 => (i + 1) + (m - 1) = xs.length ∧ Le W H1 H3 ∧ ∃ kvs, H3 L = some (.dT kvs) ∧ En2 ok H3 kvs ((xs.take (i + 1)).map fun x => (ky x, vy x)), fun H3 h3 => ⟨m - 1, by omega, h3⟩, fun x H3 hy => ?_⟩
    have hx : xs[i]? = some xs[i] := List.getElem?_eq_getElem hlt
    obtain ⟨s3, p3⟩ := (y W).yld i H' x H3 (tx xs[i]) s2.j gH hy (by rw [List.getElem?_map, hx]; rfl)
    obtain ⟨δ', ws, how, hg, hk, hv⟩ := ht xs[i] (List.getElem_mem hlt)
    have slw := (((sl.same s1).same s2).same s3).wipe (own.map (·.2))
    intro sb Hb C cl fp
    refine (hg sb Hb C cl fp).run x _ H3 _ slw p3 fun σ4 H4 s4 sl4 o4 => ?_
    refine ⟨(wipe_eq o4 how).trans wipe_wipe, fun sb Hb C cl fp => ?_⟩
    refine (qnil (W := W) (δ := δ')).run σ4 H4 _ sl4 fun H5 s5 => ?_
    refine iteT fun sb Hb C cl fp => ?_
    refine (hk sb Hb C cl fp).run σ4 H5 _ (sl4.same s5) fun u H6 s6 p6 => ?_
    intro sb Hb C cl fp
    refine (hv sb Hb C cl fp).run σ4 H6 _ ((sl4.same s5).same s6) fun v H7 s7 p7 => ?_
    have s37 := (((s3.trans s4).trans s5).trans s6).trans s7
    have h7 := s37.rel _ _ kL h2
    have p6' := (D (ok := ok) (ss (ky xs[i]))).mono s7.rel p6
    cases p6' with
    | @tup b us _ kb hb0 rb =>
      have hb : H7 b = some (.tup us) := hb0.elim id fun ⟨_, es, r, _, z⟩ => by
        cases hk : ky xs[i] with
        | nil => rw [hk] at z; cases z
        | cons y ys => rw [hk] at z; cases z
      rw [rb.strs, ← key_map] at hb
      have hnot : ky xs[i] ∉ ((xs.take i).map fun x => (ky x, vy x)).map (·.1) := by
        rw [List.map_map]
        intro hm
        obtain ⟨z, hz, e⟩ := List.mem_map.mp hm
        obtain ⟨j, hj⟩ := List.getElem?_of_mem hz
        rw [List.getElem?_take] at hj
        split at hj
        · next hji =>
          have e1 : (xs.map ky)[j]? = some (ky xs[i]) := by
            rw [List.getElem?_map, hj]
            exact congrArg some e
          have e2 : (xs.map ky)[i]? = some (ky xs[i]) := by
            rw [List.getElem?_map, hx]
            rfl
          have := (List.getElem?_inj (by rw [List.length_map]; omega) nd).mp (e1.trans e2.symm)
          omega
        · cases hj
      refine ⟨kvs, (ky xs[i]).map Sum.inr, b, rfl, hb, h7, ?_, by omega, ⟨fun c o z e => ?_, W.loc (s2.trans s37).j (fun c o z no e => ?_) fun c hc => upd_ne fun z => hc (z ▸ kL)⟩, _, upd_same, ?_⟩
      · rw [r2.length, List.length_map, List.length_take]
        exact few' (by omega)
      · rw [upd_ne (ne_of_none e hL)]
        exact s37.rel _ _ z (s2.rel _ _ z e)
      · rw [upd_ne (fun z => by
          subst z
          rw [h7] at e
          cases e
          exact no.2 _ rfl)]
        exact e
      · have k7 : En2 ok H7 kvs ((xs.take i).map fun x => (ky x, vy x)) := r2.same s37.rel
        have k8 := k7.snoc p7 hnot
        rw [List.take_add_one, hx, List.map_append]
        refine En2.keep (fun a zs _ e => ?_) (fun a zs es _ e => e.mono fun o z => ?_) k8
        · rw [upd_ne (fun z => by rw [z, h7] at e; cases e)]
          exact e
        · rw [upd_ne (e.neT h7)]
          exact z
  · have e : i = xs.length := by omega
    subst e
    have hstop := (y W).stop H' s2.j gH
    rw [List.length_map] at hstop
    refine .inl ⟨hstop, L, .dT kvs, rfl, h2, trivial, fun od => q _ _ ?_ ⟨L, od, kvs, rfl, kL, upd_same, ?_⟩⟩
    · refine s1.trans ⟨fun c o z e => ?_, W.loc s2.j (fun c o z no e => ?_) fun c hc => upd_ne fun z => hc (z ▸ kL)⟩
      · rw [upd_ne (ne_of_none e hL)]
        exact s2.rel _ _ z e
      · rw [upd_ne (fun z => by
          subst z
          rw [h2] at e
          cases e
          exact no.2 _ rfl)]
        exact e
    · rw [List.take_length] at r2
      refine En2.keep (fun a zs _ e => ?_) (fun a zs es _ e => e.mono fun o z => ?_) r2
      · rw [upd_ne (fun z => by rw [z, h2] at e; cases e)]
        exact e
      · rw [upd_ne (e.neT h2)]
        exact z
/-- for (key, value) in d.items() -/
theorem iItems {e : Expr} {apos cpos : Pos} {elts : List Expr} {kk : Nat} {tpos : Pos} {ps : List (List Str × PyData)} (he : PEv W X e δ (FT ps)) (hbase : attributeBase e "items" X.env (eval e X.env) = eval e X.env := by rfl) (hline : (apos.endLine == cpos.line) = true := by rfl) :
    PIv W X (.Tuple elts kk tpos) (.Call (.Attribute e "items" apos) [] [] cpos) δ (ps.map fun p => D (.tuple [ss p.1, p.2])) := PIv.of (pi_pairs peW hbase hline) fun σ H R0 sl q => he.run σ H _ sl fun v H1 s1 p1 => by
  obtain ⟨a, o, kvs, rfl, ka, h1, r⟩ := p1
  refine ⟨a, o, kvs, rfl, h1, q _ (fun H => Rel ok H1 H ∧ H a = some (.frz o (.dT kvs))) H1 s1 ⟨Rel.refl _, h1⟩ fun W' => ⟨fun H H' s g => ⟨g.1.trans s.rel, s.rel _ _ ka g.2⟩, fun i H hi _ g => ⟨g.2, by rw [r.length]; simpa using hi⟩, fun H _ g => ⟨g.2, by rw [r.length]; simp⟩, fun i H x H' T j g y hT => ?_⟩⟩
  obtain ⟨t, k, v, b, hk, rfl, nt, hb, rfl⟩ := y
  obtain ⟨p, hp, rfl, rv⟩ := r.get hk
  rw [List.getElem?_map, hp] at hT
  cases hT
  have kb := W'.tup j hb
  rw [key_map] at hb
  refine ⟨le_upd j nt, Kl.R.tup (W'.fresh j nt) (.inl upd_same) (.cons (.tup kb (.inl ?_) ((RA.ofStrs p.1))) (.cons (rv.same (g.1.trans (Rel.of (same_upd nt)))) .nil))⟩
  rw [upd_ne (ne_of_none hb nt)]
  exact hb
end
end Kl
set_option linter.all false
set_option maxRecDepth 100000
set_option maxHeartbeats 4000000
/-! # P5: values_by, goes, openers, barriers, hour -/
namespace Kl
open PySem PySem.Spec PyProof.Rows L2
theorem subs_sub {ns s : List Str} (h : s ∈ subsRaw ns) : ∀ x ∈ s, x ∈ ns := by
  have go : ∀ (ns : List Str) (f : List (List Str)) (m : List Str), (∀ s ∈ f, ∀ x ∈ s, x ∈ m) → ∀ s ∈ ns.foldl (fun f n => f ++ f.map (· ++ [n])) f, ∀ x ∈ s, x ∈ m ++ ns := by
    intro ns
    induction ns with
    | nil =>
      intro f m h s hs x hx
      rw [List.append_nil]
      exact h s hs x hx
    | cons n ns ih =>
      intro f m h s hs x hx
      rw [List.foldl_cons] at hs
      have := ih (f ++ f.map (· ++ [n])) (m ++ [n]) (fun t ht => by
        rcases List.mem_append.mp ht with z | z
        · exact fun y hy => List.mem_append_left _ (h t z y hy)
        · obtain ⟨u, hu, rfl⟩ := List.mem_map.mp z
          intro y hy
          rcases List.mem_append.mp hy with z | z
          · exact List.mem_append_left _ (h u hu y z)
          · exact List.mem_append_right _ z) s hs x hx
      rw [List.append_assoc] at this
      exact this
  exact go ns [[]] [] (fun s hs x hx => by simp at hs; subst hs; cases hx) s h
theorem subs_nodup : ∀ {ns : List Str}, ns.Nodup → (subsRaw ns).Nodup := by
  have go : ∀ (ms : List Str) (n : Str), (subsRaw ms).Nodup → n ∉ ms → (subsRaw (ms ++ [n])).Nodup := by
    intro ms n h hn
    unfold subsRaw at *
    rw [List.foldl_append]
    show (_ ++ List.map (· ++ [n]) _).Nodup
    refine List.nodup_append.mpr ⟨h, ?_, fun a ha b hb e => ?_⟩
    · exact List.pairwise_map.mpr (h.imp fun {a b} hne e => hne (List.append_cancel_right e))
    · obtain ⟨c, hc, rfl⟩ := List.mem_map.mp hb
      refine hn (subs_sub (ns := ms) ha n ?_)
      rw [e]
      exact List.mem_append_right _ (List.mem_singleton.mpr rfl)
  intro ns hns
  have key : ∀ n, n ≤ ns.length → (subsRaw (ns.take n)).Nodup := by
    intro n
    induction n with
    | zero =>
      intro _
      exact List.pairwise_singleton _ _
    | succ n ih =>
      intro hn
      have hlt : n < ns.length := hn
      have e : ns.take (n + 1) = ns.take n ++ [ns[n]] := by rw [List.take_add_one, List.getElem?_eq_getElem hlt]; rfl
      rw [e]
      refine go _ _ (ih (Nat.le_of_lt hn)) fun hm => ?_
      have h2 : (ns.take (n + 1)).Nodup := hns.sublist (List.take_sublist _ _)
      rw [e] at h2
      exact (List.nodup_append.mp h2).2.2 _ hm _ (List.mem_singleton.mpr rfl) rfl
  have := key ns.length (Nat.le_refl _)
  rw [List.take_length] at this
  exact this
theorem subs_nd {ns : List Str} (h : ns.Nodup) : (subs ns).Nodup := (srt_perm ss _).nodup_iff.mpr (subs_nodup h)
theorem subs_len2 {ns : List Str} (h : ns.length ≤ 4) : (subs ns).length ≤ 16 := by
  unfold subs
  rw [(srt_perm ss _).length_eq]
  exact subs_len ns h
theorem subs_mem2 {ns s : List Str} (h : s ∈ subs ns) : s.length ≤ ns.length := subs_mem ((mem_srt ss).mp h)
theorem keysOf_nd (N : Net) : (keysOf N).Nodup := (setOf_asc en_str _).nodup
theorem iItemsM {ok : Addr → Prop} {W : Wd ok} {X : Cx} {δ : DEnv ok} {α : Type} {xs : List α} {ky : α → List Str} {vy : α → PyData} {e : Expr} {apos cpos : Pos} {elts : List Expr} {kk : Nat} {tpos : Pos} (he : PEv W X e δ (FT (xs.map fun x => (ky x, vy x)))) (hbase : attributeBase e "items" X.env (eval e X.env) = eval e X.env := by rfl) (hline : (apos.endLine == cpos.line) = true := by rfl) :
    PIv W X (.Tuple elts kk tpos) (.Call (.Attribute e "items" apos) [] [] cpos) δ (xs.map fun x => D (.tuple [ss (ky x), vy x])) := by
  have z := iItems (elts := elts) (kk := kk) (tpos := tpos) he hbase hline
  rw [List.map_map] at z
  exact z
section
variable {P : Program} {w : World} {K : PySem.W.Frag} {mg : Str → Option Value} {base : Heap}
theorem sc_values_by : FnScope ["net", "keys", "far"] ["net", "keys"] (defScope s_values_by) := ⟨rfl, rfl, rfl, by decide +kernel, rfl, by decide +kernel, by decide +kernel⟩
def valuesBy (N : Net) (ks : List Str) : List (List Str × PyData) := (subs (names N)).map fun far => (far, .int (value N ks far))
/-- a small net whose yards are different -/
structure Nt (N : Net) : Prop where
  sm : Small N
  nd : (names N).Nodup
theorem Nt.nl {N : Net} (h : Nt N) : (names N).length ≤ 4 := by
  unfold names
  rw [List.length_map]
  exact h.sm.yards
def A_values_by : Prm := fun ok W W' Ps T => ∃ (N : Net) (ks : List Str), Nt N ∧ W' = W ∧ Ps = [D (encN N), D (ss ks)] ∧ T = FT (valuesBy N ks)
theorem ok_values_by {k : Nat} {f : Addr} {fd : FuncData} (F : Fun K "values_by" "values_by" s_values_by f fd) (m : Mn mg) (d_yard_names : Df P w K mg base k "yard_names" ["net"] (spt A_yard_names)) (d_subsets_of : Df P w K mg base k "subsets_of" ["names"] (spt A_subsets_of))
    (d_value_of : Df P w K mg base k "value_of" ["net", "keys", "far"] (spt A_value_of)) : FnOk P w K mg base CX0 (k + 1) f fd ["net", "keys"] (spt A_values_by) :=
  okp F sc_values_by (fun _ _ _ _ _ h => by
    obtain ⟨N, ks, _, _, rfl, _⟩ := h
    rfl) fun cdv B outer s H E hr ok W W' Ps T h => by
  obtain ⟨N, ks, nt, rfl, rfl, rfl⟩ := h
  have := subs_len2 nt.nl
  exact bret (vdc (own := [("far", 2)]) (subs (names N)) (fun far => D (ss far)) (fun far => far) (fun far => .int (value N ks far)) hr.units rfl sc_values_by.nd (by kernel_rfl) (iLm (vcall d_subsets_of hr (acons (vcall d_yard_names hr (acons (vv 0) anil) ⟨N, nt.sm, rfl, rfl, rfl⟩) anil) ⟨names N, nt.nl, rfl, rfl, rfl⟩)) (by omega)
    (by rw [List.map_id']; exact subs_nd nt.nd) fun far hfar => ⟨_, _, by decide, fun _ _ _ _ _ => gname 2 sc_values_by.nd, fun _ _ _ _ _ => vv 2, fun _ _ _ _ _ => vcall d_value_of hr (acons (vv 0) (acons (vv 1) (acons (vv 2) anil))) ⟨N, ks, far, nt.sm, rfl, rfl, rfl⟩⟩)
theorem sc_goes_by : FnScope ["net", "values", "lot", "far", "value"] ["net", "values", "lot"] (defScope s_goes_by) := ⟨rfl, rfl, rfl, by decide +kernel, rfl, by decide +kernel, by decide +kernel⟩
def goesB (N : Net) (ks : List Str) (lot : List Int) : Bool := (subs (names N)).all fun far => decide (partIn N lot far ≤ value N ks far)
def A_goes_by : Prm := fun ok W W' Ps T => ∃ (N : Net) (ks : List Str) (lot : List Int), Nt N ∧ W' = W ∧ Ps = [D (encN N), FT (valuesBy N ks), D (ii lot)] ∧ T = D (.bool (goesB N ks lot))
theorem ok_goes_by {k : Nat} {f : Addr} {fd : FuncData} (F : Fun K "goes_by" "goes_by" s_goes_by f fd) (m : Mn mg) (d_part_in : Df P w K mg base k "part_in" ["net", "lot", "far"] (spt A_part_in)) : FnOk P w K mg base CX0 (k + 1) f fd ["net", "values", "lot"] (spt A_goes_by) :=
  okp F sc_goes_by (fun _ _ _ _ _ h => by
    obtain ⟨N, ks, _, _, _, rfl, _⟩ := h
    rfl) fun cdv B outer s H E hr ok W W' Ps T h => by
  obtain ⟨N, ks, lot, nt, rfl, rfl, rfl⟩ := h
  have := subs_len2 nt.nl
  refine bret (PEv.cast (vall (bs := (subs (names N)).map fun far => decide (partIn N lot far ≤ value N ks far)) rfl m.all ?_) ?_)
  · rw [List.map_map]
    refine vlcA (own := [("far", 3), ("value", 4)]) (subs (names N)) (fun far => D (.tuple [ss far, .int (value N ks far)])) (fun far => .bool (decide (partIn N lot far ≤ value N ks far))) rfl sc_goes_by.nd (by kernel_rfl) ?_ (by omega) fun far hfar =>
      turn (fun _ _ _ _ _ => gtup rfl (gscons (gname 3 sc_goes_by.nd) (gscons (gname 4 sc_goes_by.nd) gsnil))) (fun _ _ _ _ _ => qnil) (fun _ _ _ _ _ _ => vc c_le (vcall d_part_in hr (acons (vv 0) (acons (vv 2) (acons (vv 3) anil))) ⟨N, lot, far, nt.sm, rfl, rfl, rfl⟩) (vv 4)) (fun _ => nol_imm rfl)
    exact iItemsM (vv 1)
  · unfold goesB
    rw [List.all_map]
    rfl
end
end Kl
set_option linter.all false
set_option maxRecDepth 100000
set_option maxHeartbeats 4000000
/-! # P6: goes, table_of, sets_open, openers, barriers, hour -/
namespace Kl
open PySem PySem.Spec PyProof.Rows L2
section
variable {P : Program} {w : World} {K : PySem.W.Frag} {mg : Str → Option Value} {base : Heap}
theorem sc_goes : FnScope ["net", "keys", "lot"] ["net", "keys", "lot"] (defScope s_goes) := ⟨rfl, rfl, rfl, by decide +kernel, rfl, by decide +kernel, by decide +kernel⟩
def A_goes : Prm := fun ok W W' Ps T => ∃ (N : Net) (ks : List Str) (lot : List Int), Nt N ∧ W' = W ∧ Ps = [D (encN N), D (ss ks), D (ii lot)] ∧ T = D (.bool (goesB N ks lot))
theorem ok_goes {k : Nat} {f : Addr} {fd : FuncData} (F : Fun K "goes" "goes" s_goes f fd) (m : Mn mg) (d_goes_by : Df P w K mg base k "goes_by" ["net", "values", "lot"] (spt A_goes_by)) (d_values_by : Df P w K mg base k "values_by" ["net", "keys"] (spt A_values_by)) : FnOk P w K mg base CX0 (k + 1) f fd ["net", "keys", "lot"] (spt A_goes) :=
  okp F sc_goes (fun _ _ _ _ _ h => by
    obtain ⟨N, ks, _, _, _, rfl, _⟩ := h
    rfl) fun cdv B outer s H E hr ok W W' Ps T h => by
  obtain ⟨N, ks, lot, nt, rfl, rfl, rfl⟩ := h
  exact bret (vcall d_goes_by hr (acons (vv 0) (acons (vcall d_values_by hr (acons (vv 0) (acons (vv 1) anil)) ⟨N, ks, nt, rfl, rfl, rfl⟩) (acons (vv 2) anil))) ⟨N, ks, lot, nt, rfl, rfl, rfl⟩)
theorem sc_table_of : FnScope ["net", "lot", "keys"] ["net", "lot"] (defScope s_table_of) := ⟨rfl, rfl, rfl, by decide +kernel, rfl, by decide +kernel, by decide +kernel⟩
def tableOf (N : Net) (lot : List Int) : List (List Str × PyData) := (subs (keysOf N)).map fun ks => (ks, .bool (goesB N ks lot))
def A_table_of : Prm := fun ok W W' Ps T => ∃ (N : Net) (lot : List Int), Nt N ∧ W' = W ∧ Ps = [D (encN N), D (ii lot)] ∧ T = FT (tableOf N lot)
theorem ok_table_of {k : Nat} {f : Addr} {fd : FuncData} (F : Fun K "table_of" "table_of" s_table_of f fd) (m : Mn mg) (d_keys_of : Df P w K mg base k "keys_of" ["net"] (spt A_keys_of)) (d_subsets_of : Df P w K mg base k "subsets_of" ["names"] (spt A_subsets_of))
    (d_goes : Df P w K mg base k "goes_goes" ["net", "keys", "lot"] (spt A_goes)) : FnOk P w K mg base CX0 (k + 1) f fd ["net", "lot"] (spt A_table_of) :=
  okp F sc_table_of (fun _ _ _ _ _ h => by
    obtain ⟨N, ks, _, _, rfl, _⟩ := h
    rfl) fun cdv B outer s H E hr ok W W' Ps T h => by
  obtain ⟨N, lot, nt, rfl, rfl, rfl⟩ := h
  have := subs_len2 (keysOf_len nt.sm)
  exact bret (vdc (own := [("keys", 2)]) (subs (keysOf N)) (fun ks => D (ss ks)) (fun ks => ks) (fun ks => .bool (goesB N ks lot)) hr.units rfl sc_table_of.nd (by kernel_rfl) (iLm (vcall d_subsets_of hr (acons (vcall d_keys_of hr (acons (vv 0) anil) ⟨N, nt.sm, rfl, rfl, rfl⟩) anil) ⟨keysOf N, keysOf_len nt.sm, rfl, rfl, rfl⟩)) (by omega)
    (by rw [List.map_id']; exact subs_nd (keysOf_nd N)) fun ks hks => ⟨_, _, by decide, fun _ _ _ _ _ => gname 2 sc_table_of.nd, fun _ _ _ _ _ => vv 2, fun _ _ _ _ _ => vcall d_goes hr (acons (vv 0) (acons (vv 2) (acons (vv 1) anil))) ⟨N, ks, lot, nt, rfl, rfl, rfl⟩⟩)
theorem sc_sets_open : FnScope ["net", "lot", "keys", "fine"] ["net", "lot"] (defScope s_sets_open) := ⟨rfl, rfl, rfl, by decide +kernel, rfl, by decide +kernel, by decide +kernel⟩
def setsOpen (N : Net) (lot : List Int) : List (List Str) := (subs (keysOf N)).filter fun ks => goesB N ks lot
def A_sets_open : Prm := fun ok W W' Ps T => ∃ (N : Net) (lot : List Int), Nt N ∧ W' = W ∧ Ps = [D (encN N), D (ii lot)] ∧ T = D (.list ((setsOpen N lot).map ss))
theorem ok_sets_open {k : Nat} {f : Addr} {fd : FuncData} (F : Fun K "sets_open" "sets_open" s_sets_open f fd) (m : Mn mg) (d_table_of : Df P w K mg base k "table_of" ["net", "lot"] (spt A_table_of)) : FnOk P w K mg base CX0 (k + 1) f fd ["net", "lot"] (spt A_sets_open) :=
  okp F sc_sets_open (fun _ _ _ _ _ h => by
    obtain ⟨N, ks, _, _, rfl, _⟩ := h
    rfl) fun cdv B outer s H E hr ok W W' Ps T h => by
  obtain ⟨N, lot, nt, rfl, rfl, rfl⟩ := h
  have := subs_len2 (keysOf_len nt.sm)
  exact bret (vlcD (own := [("keys", 2), ("fine", 3)]) (subs (keysOf N)) (fun ks => D (.tuple [ss ks, .bool (goesB N ks lot)])) (fun ks => goesB N ks lot) ss rfl sc_sets_open.nd (by kernel_rfl) (iItemsM (vcall d_table_of hr (acons (vv 0) (acons (vv 1) anil)) ⟨N, lot, nt, rfl, rfl, rfl⟩)) (by omega) fun ks hks =>
    turn (fun _ _ _ _ _ => gtup rfl (gscons (gname 2 sc_sets_open.nd) (gscons (gname 3 sc_sets_open.nd) gsnil))) (fun _ _ _ _ _ => qone (tval (vv 3))) (fun _ _ _ _ _ _ => vv 2) (fun _ => nol_imm (imm_ss _)))
def openersOf (N : Net) (lot : List Int) : List (List Str) := leastsOf (setsOpen N lot)
def barriersOf (N : Net) (lot : List Int) : List (List Str) := leastsOf (((subs (keysOf N)).filter fun ks => !goesB N ks lot).map (others N))
theorem sc_openers : FnScope ["net", "lot"] ["net", "lot"] (defScope s_openers) := ⟨rfl, rfl, rfl, by decide +kernel, rfl, by decide +kernel, by decide +kernel⟩
def A_openers : Prm := fun ok W W' Ps T => ∃ (N : Net) (lot : List Int), Nt N ∧ W' = W ∧ Ps = [D (encN N), D (ii lot)] ∧ T = D (.tuple ((openersOf N lot).map ss))
theorem ok_openers {k : Nat} {f : Addr} {fd : FuncData} (F : Fun K "openers" "openers" s_openers f fd) (m : Mn mg) (d_sets_open : Df P w K mg base k "sets_open" ["net", "lot"] (spt A_sets_open)) (d_leasts : Df P w K mg base k "leasts" ["family"] (spt A_leasts)) : FnOk P w K mg base CX0 (k + 1) f fd ["net", "lot"] (spt A_openers) :=
  okp F sc_openers (fun _ _ _ _ _ h => by
    obtain ⟨N, ks, _, _, rfl, _⟩ := h
    rfl) fun cdv B outer s H E hr ok W W' Ps T h => by
  obtain ⟨N, lot, nt, rfl, rfl, rfl⟩ := h
  have := subs_len2 (keysOf_len nt.sm)
  have kl := keysOf_len nt.sm
  exact bret (vcall d_leasts hr (acons (vcall d_sets_open hr (acons (vv 0) (acons (vv 1) anil)) ⟨N, lot, nt, rfl, rfl, rfl⟩) anil) ⟨setsOpen N lot, Nat.lt_of_le_of_lt (List.length_filter_le _ _) (by omega), fun s hs => Nat.le_trans (subs_mem2 (List.mem_filter.mp hs).1) (by omega), rfl, rfl, rfl⟩)
theorem others_len {N : Net} (sm : Small N) (ks : List Str) : (others N ks).length ≤ 4 := Nat.le_trans (List.length_filter_le _ _) (keysOf_len sm)
theorem sc_barriers : FnScope ["net", "lot", "keys", "fine"] ["net", "lot"] (defScope s_barriers) := ⟨rfl, rfl, rfl, by decide +kernel, rfl, by decide +kernel, by decide +kernel⟩
def A_barriers : Prm := fun ok W W' Ps T => ∃ (N : Net) (lot : List Int), Nt N ∧ W' = W ∧ Ps = [D (encN N), D (ii lot)] ∧ T = D (.tuple ((barriersOf N lot).map ss))
theorem ok_barriers {k : Nat} {f : Addr} {fd : FuncData} (F : Fun K "barriers" "barriers" s_barriers f fd) (m : Mn mg) (d_table_of : Df P w K mg base k "table_of" ["net", "lot"] (spt A_table_of)) (d_others_of : Df P w K mg base k "others_of" ["net", "keys"] (spt A_others_of))
    (d_leasts : Df P w K mg base k "leasts" ["family"] (spt A_leasts)) : FnOk P w K mg base CX0 (k + 1) f fd ["net", "lot"] (spt A_barriers) :=
  okp F sc_barriers (fun _ _ _ _ _ h => by
    obtain ⟨N, ks, _, _, rfl, _⟩ := h
    rfl) fun cdv B outer s H E hr ok W W' Ps T h => by
  obtain ⟨N, lot, nt, rfl, rfl, rfl⟩ := h
  have := subs_len2 (keysOf_len nt.sm)
  refine bret (vcall d_leasts hr (acons ?_ anil) ⟨((subs (keysOf N)).filter fun ks => !goesB N ks lot).map (others N), ?_, fun s hs => ?_, rfl, rfl, rfl⟩)
  · rw [List.map_map]
    exact vlcD (own := [("keys", 2), ("fine", 3)]) (subs (keysOf N)) (fun ks => D (.tuple [ss ks, .bool (goesB N ks lot)])) (fun ks => !goesB N ks lot) (fun ks => ss (others N ks)) rfl sc_barriers.nd (by kernel_rfl) (iItemsM (vcall d_table_of hr (acons (vv 0) (acons (vv 1) anil)) ⟨N, lot, nt, rfl, rfl, rfl⟩)) (by omega) fun ks hks =>
      turn (fun _ _ _ _ _ => gtup rfl (gscons (gname 2 sc_barriers.nd) (gscons (gname 3 sc_barriers.nd) gsnil))) (fun _ _ _ _ _ => qone (tnot (tval (vv 3)))) (fun _ _ _ _ _ _ => vcall d_others_of hr (acons (vv 0) (acons (vv 2) anil)) ⟨N, ks, nt.sm, rfl, rfl, rfl⟩) (fun _ => nol_imm (imm_ss _))
  · rw [List.length_map]
    exact Nat.lt_of_le_of_lt (List.length_filter_le _ _) (by omega)
  · obtain ⟨ks, _, rfl⟩ := List.mem_map.mp hs
    exact Nat.le_trans (others_len nt.sm ks) (by omega)
/-! ### hour -/
def optI : Option Int → PyData
  | some i => .int i
  | none => .none
def hourOf (N : Net) (hours : List Int) (lot : List Int) : Option Int := (moments hours).find? fun n => goesB N (inHand N hours n) lot
theorem sc_hour : FnScope ["net", "hours", "lot", "number"] ["net", "hours", "lot"] (defScope s_hour) := ⟨rfl, rfl, rfl, by decide +kernel, rfl, by decide +kernel, by decide +kernel⟩
def A_hour : Prm := fun ok W W' Ps T => ∃ (N : Net) (hours lot : List Int), Nt N ∧ hours.length ≤ 60 ∧ W' = W ∧ Ps = [D (encN N), D (ii hours), D (ii lot)] ∧ T = D (optI (hourOf N hours lot))
theorem ok_hour {k : Nat} {f : Addr} {fd : FuncData} (F : Fun K "hour" "hour" s_hour f fd) (m : Mn mg) (d_moments : Df P w K mg base k "moments" ["hours"] (spt A_moments)) (d_in_hand : Df P w K mg base k "in_hand" ["net", "hours", "number"] (spt A_in_hand))
    (d_goes : Df P w K mg base k "goes_goes" ["net", "keys", "lot"] (spt A_goes)) : FnOk P w K mg base CX0 (k + 1) f fd ["net", "hours", "lot"] (spt A_hour) :=
  okp F sc_hour (fun _ _ _ _ _ h => by
    obtain ⟨N, ks, _, _, _, _, rfl, _⟩ := h
    rfl) fun cdv B outer s H E hr ok W W' Ps T h => by
  obtain ⟨N, hours, lot, nt, hz, rfl, rfl, rfl⟩ := h
  refine bfor (Ts := (moments hours).map fun n => D (.int n)) (fun _ => W') (fun i => [some (D (encN N)), some (D (ii hours)), some (D (ii lot)), none]) (fun i => ∀ j < i, ∀ n, (moments hours)[j]? = some n → goesB N (inHand N hours n) lot = false) .never rfl (iTm (vcall d_moments hr (acons (vv 1) anil) ⟨hours, hz, rfl, rfl, rfl⟩)) rfl rfl
    (fun j hj => absurd hj (Nat.not_lt_zero _)) (fun i T hT hgo => ?_) fun hgo => ?_
  · rw [List.getElem?_map] at hT
    cases hn : (moments hours)[i]? with
    | none =>
      rw [hn] at hT
      cases hT
    | some n =>
      rw [hn] at hT
      cases hT
      refine ⟨_, _, gname 3 sc_hour.nd, ?_⟩
      cases hg : goesB N (inHand N hours n) lot with
      | false =>
        refine .inl ⟨fun j hj n' hn' => ?_, _, [3], ncons (nif (x := false) (tval (PEv.cast (vcall d_goes hr (acons (vv 0) (acons (vcall d_in_hand hr (acons (vv 0) (acons (vv 1) (acons (vv 3) anil))) ⟨N, hours, n, nt.sm, rfl, rfl, rfl⟩) (acons (vv 2) anil))) ⟨N, inHand N hours n, lot, nt, rfl, rfl, rfl⟩) (by rw [hg]))) (fun e => nomatch e) fun _ => nnil) nnil, rfl⟩
        by_cases h : j = i
        · subst h
          rw [hn] at hn'
          cases hn'
          exact hg
        · exact hgo j (by omega) n' hn'
      | true =>
        refine .inr (bwhen (x := true) (tval (PEv.cast (vcall d_goes hr (acons (vv 0) (acons (vcall d_in_hand hr (acons (vv 0) (acons (vv 1) (acons (vv 3) anil))) ⟨N, hours, n, nt.sm, rfl, rfl, rfl⟩) (acons (vv 2) anil))) ⟨N, inHand N hours n, lot, nt, rfl, rfl, rfl⟩) (by rw [hg]))) (fun _ => bret (PEv.cast (vv 3) ?_)) fun e => nomatch e)
        have e : hourOf N hours lot = some n := by
          unfold hourOf
          rw [List.find?_eq_some_iff_getElem]
          obtain ⟨hi, e⟩ := List.getElem?_eq_some_iff.mp hn
          exact ⟨hg, i, hi, e, fun j hj => by rw [hgo j hj _ (List.getElem?_eq_getElem (by omega))]; rfl⟩
        rw [e]
        rfl
  · rw [List.length_map] at hgo
    refine bret (PEv.cast vnon ?_)
    have e : hourOf N hours lot = none := by
      unfold hourOf
      rw [List.find?_eq_none]
      intro n hn
      obtain ⟨j, hj, e⟩ := List.getElem_of_mem hn
      rw [hgo j hj n (by rw [List.getElem?_eq_getElem hj, e])]
      exact Bool.false_ne_true
    rw [e]
    rfl
end
end Kl
set_option linter.all false
set_option maxRecDepth 100000
set_option maxHeartbeats 4000000
/-! # Q1: the errors; done_at -/
namespace Kl
open PySem PySem.Spec PyProof.Rows L2
theorem passF {X : Cx} : Passes (L2.CX X.prog X.w) X (fun _ _ _ => False) := fun _ _ _ _ _ _ _ h => by
  obtain ⟨_, _, _, _, _, _, _, _, _, _, _, _, f⟩ := h
  exact f.elim
/-- self.name = name, of an error that is being made -/
def spNm (K : PySem.W.Frag) : Sp := fun vs H Q _ => ∃ (a C : Addr) (v : V), vs = [.ref a, v] ∧ OexC K C ∧ PySem.W.findIn K (.ref C) "name" = some none ∧ H a = some (exo a C none) ∧
  ∀ dx, H dx = none → dx ≠ a → Q .non (upd (upd H dx (exd dx [(("name" : Str), v)])) a (exo a C (some dx)))
section
variable {ok : Addr → Prop} {W : Wd ok} {X : Cx} {δ : DEnv ok}
theorem spar (i j : Nat) {x y : Str} {a b : Expr} {px py pt pos : Pos} {kt k2 : Nat} {pt2 : Pos} {P1 P2 : Ty ok} (hc : X.calm = true) (hN : X.N.Nodup) (ha : PAv W X [a, b] δ [P1, P2]) (hx : X.env.scope.names.lookup x = some .local) (hy : X.env.scope.names.lookup y = some .local)
    (hw : swappedStores [.Tuple [.Name x px, .Name y py] kt pt] (.Tuple [a, b] k2 pt2) X.env = pure (some [x, y])) (hij : i ≠ j := by decide) (hi : X.N[i]? = some x := by rfl) (hj : X.N[j]? = some y := by rfl)
    (hs : swapsWithSole [.Tuple [.Name x px, .Name y py] kt pt] (.Tuple [a, b] k2 pt2) pos.line X.env = pure false := by rfl) : PSn W W X (.Assign [.Tuple [.Name x px, .Name y py] kt pt] (.Tuple [a, b] k2 pt2) pos) δ ((δ.set i (some P1)).set j (some P2)) :=
  PSn.of (ps_par hc hN hi hj hij hx hy paW hw hs) fun σ H E sl q => ha.run σ H _ sl fun vs H1 s1 p1 => by
    cases p1 with
    | cons p1 t =>
      cases t with
      | cons p2 t =>
        cases t
        exact ⟨_, _, rfl, q _ H1 s1.rel (((sl.same s1).set i p1).set j p2)⟩
theorem spar3 (i j l : Nat) {x y z : Str} {a b c : Expr} {px py pz pt pos : Pos} {kt k2 : Nat} {pt2 : Pos} {P1 P2 P3 : Ty ok} (hc : X.calm = true) (hN : X.N.Nodup) (ha : PAv W X [a, b, c] δ [P1, P2, P3]) (hx : X.env.scope.names.lookup x = some .local) (hy : X.env.scope.names.lookup y = some .local) (hz : X.env.scope.names.lookup z = some .local)
    (hw : swappedStores [.Tuple [.Name x px, .Name y py, .Name z pz] kt pt] (.Tuple [a, b, c] k2 pt2) X.env = pure (some [x, y, z])) (hij : i ≠ j := by decide) (hil : i ≠ l := by decide) (hjl : j ≠ l := by decide) (hi : X.N[i]? = some x := by rfl) (hj : X.N[j]? = some y := by rfl) (hl : X.N[l]? = some z := by rfl)
    (hs : swapsWithSole [.Tuple [.Name x px, .Name y py, .Name z pz] kt pt] (.Tuple [a, b, c] k2 pt2) pos.line X.env = pure false := by rfl) : PSn W W X (.Assign [.Tuple [.Name x px, .Name y py, .Name z pz] kt pt] (.Tuple [a, b, c] k2 pt2) pos) δ (((δ.set i (some P1)).set j (some P2)).set l (some P3)) :=
  PSn.of (ps_par3 hc hN hi hj hl hij hil hjl hx hy hz paW hw hs) fun σ H E sl q => ha.run σ H _ sl fun vs H1 s1 p1 => by
    cases p1 with
    | cons p1 t =>
      cases t with
      | cons p2 t =>
        cases t with
        | cons p3 t =>
          cases t
          exact ⟨_, _, _, rfl, q _ H1 s1.rel ((((sl.same s1).set i p1).set j p2).set l p3)⟩
end
/-- a block that hands back (some P) or raises an error that the text catches (none) -/
structure PXv {ok : Addr → Prop} (W : Wd ok) (X : Cx) (NE : Addr) (Wx : WX) (sts : List Stmt) (δ : DEnv ok) (o : Option (Ty ok)) : Prop where
  run : ∀ (σ : L2.St) (H : Hp) (E : Ends), Sl W H σ δ → (∀ P, o = some P → ∀ v H2, Le W H H2 → P.p H2 v → E.rt v H2) → (o = none → ∀ C dx σ' H2, PySem.W.exmOne X.K (.ref C) (.ref NE) = some true → Le W H H2 → Wx (.ref C) (some dx) σ' H2) → tBW X sts E σ H
section
variable {ok : Addr → Prop} {W : Wd ok} {X : Cx} {δ δ1 : DEnv ok} {NE : Addr} {Wx : WX} {o : Option (Ty ok)} {st : Stmt} {sts : List Stmt}
theorem xcons (h : PSn W W X st δ δ1) (k : PXv W X NE Wx sts δ1 o) : PXv W X NE Wx (st :: sts) δ o :=
  ⟨fun σ H E sl q1 q2 pins s I => (pss_cons psW pbW).run pins s σ H E I (h.run σ H _ sl fun σ1 H1 s1 sl1 => k.run σ1 H1 _ sl1 (fun P e v H2 s2 p => q1 P e v H2 ((⟨s1, sl1.j⟩ : Le W H H1).trans s2) p) fun e C dx σ' H2 t s2 => q2 e C dx σ' H2 t ((⟨s1, sl1.j⟩ : Le W H H1).trans s2))⟩
theorem xret {e : Expr} {pos : Pos} {P : Ty ok} (h : PEv W X e δ P) : PXv W X NE Wx (.Return (some e) pos :: sts) δ (some P) :=
  ⟨fun σ H E sl q1 _ pins s I => (pss_cons (ps_ret peW) pbW).run pins s σ H E I (h.run σ H _ sl fun v H2 s p => q1 P rfl v H2 s p)⟩
theorem xIf {c : Expr} {a b : List Stmt} {pos : Pos} {x : Bool} (hc : PTv W X c δ x) (ha : x = true → PXv W X NE Wx a δ o) (hb : x = false → b = [] ∧ PXv W X NE Wx sts δ o) : PXv W X NE Wx (.If c a b pos :: sts) δ o :=
  ⟨fun σ H E sl q1 q2 pins s I => by
    cases x with
    | true =>
      exact (pss_cons (ps_if ptW pbW pbW) pbW).run pins s σ H E I (hc.run σ H _ sl fun H1 s1 => iteT ((ha rfl).run σ H1 _ (sl.same s1) (fun P e v H2 s2 p => q1 P e v H2 (s1.trans s2) p) fun e C dx σ' H2 t s2 => q2 e C dx σ' H2 t (s1.trans s2)))
    | false =>
      obtain ⟨rfl, hb2⟩ := hb rfl
      exact (pss_cons (ps_if ptW pbW pss_nil) pbW).run pins s σ H E I (hc.run σ H _ sl fun H1 s1 => iteF (hb2.run σ H1 _ (sl.same s1) (fun P e v H2 s2 p => q1 P e v H2 (s1.trans s2) p) fun e C dx σ' H2 t s2 => q2 e C dx σ' H2 t (s1.trans s2)))⟩
end
section
variable {P : Program} {w : World} {K : PySem.W.Frag} {mg : Str → Option Value} {base : Heap}
theorem sc_nm : FnScope ["self", "name"] ["self", "name"] (defScope s_E_NoKey) ∧ FnScope ["self", "name"] ["self", "name"] (defScope s_E_Known) := ⟨⟨rfl, rfl, rfl, by decide +kernel, rfl, by decide +kernel, by decide +kernel⟩, ⟨rfl, rfl, rfl, by decide +kernel, rfl, by decide +kernel, by decide +kernel⟩⟩
theorem read_nm {vs : List V} {H : Hp} {Q : VK} {E : XK} (h : spNm K vs H Q E) : tSeq (tOst K "name" (tVar 0) (tVar 1)) (fun D σ H => D.nx σ H) { nx := fun _ H' => Q .non H', rt := Q } (start ["self", "name"] vs) H := by
  obtain ⟨a, C, v, rfl, T, no, ea, q⟩ := h
  exact ⟨_, rfl, _, rfl, a, C, rfl, T, no, .inl ⟨ea, fun dx n ne => q dx n ne⟩⟩
theorem ok_nmKey {f : Addr} {fd : FuncData} (F : Fun K "__init__" "NoKey.__init__" s_E_NoKey f fd) : FnOk P w K mg base CX0 1 f fd ["self", "name"] (spNm K) :=
  F.ok sc_nm.1 (fun vs H Q E h => by
    obtain ⟨a, C, v, rfl, _⟩ := h
    rfl) fun cdv A outer s H vs Q E hr h => ⟨_, pss_cons (ps_ost (pv 0) (pv 1)) pss_nil, read_nm h⟩
theorem ok_nmKnown {f : Addr} {fd : FuncData} (F : Fun K "__init__" "Known.__init__" s_E_Known f fd) : FnOk P w K mg base CX0 1 f fd ["self", "name"] (spNm K) :=
  F.ok sc_nm.2 (fun vs H Q E h => by
    obtain ⟨a, C, v, rfl, _⟩ := h
    rfl) fun cdv A outer s H vs Q E hr h => ⟨_, pss_cons (ps_ost (pv 0) (pv 1)) pss_nil, read_nm h⟩
/-- what is known of an error's class at C -/
structure ErC (P : Program) (w : World) (K : PySem.W.Frag) (mg : Str → Option Value) (base : Heap) (NE : Addr) (x : Str) (C : Addr) : Prop where
  T : OexC K C
  gm : mg x = some (.ref C)
  no : PySem.W.findIn K (.ref C) "name" = some none
  te : PySem.W.exmOne K (.ref C) (.ref NE) = some true
  ini : ∃ (fI : Addr) (fd : FuncData), PySem.W.findIn K (.ref C) "__init__" = some (some (.ref fI)) ∧ PySem.W.typeIn K (.ref fI) = some (.type "function") ∧ Binds K fd ["self", "name"] [] ∧ FnOk P w K mg base CX0 1 fI fd ["self", "name"] (spNm K)
/-- raise X(name): out with an error of that class; all that stood stands -/
theorem raise_er {ok : Addr → Prop} {W : Wd ok} {δ : DEnv ok} {X : Cx} {x : Str} {C NE : Addr} {e : Expr} {P' : Ty ok} {p pos pos2 : Pos} {WXx : WX} (M : ErC X.prog X.w X.K X.mg X.base NE x C) (hc : X.calm = true) (hr : Room 2 X.A) (tk : Takes X WXx) (he : PEv W X e δ P') {sts : List Stmt} {σ : L2.St} {H : Hp} {D : Ends} (sl : Sl W H σ δ)
    (q : ∀ d H2, Le W H H2 → WXx (.ref C) (some d) σ H2) (hg : Gl X x := by rfl) (hs : starEach [e] X.env = (false, eval e X.env) :: starEach [] X.env := by rfl) (hdb : (x == ("__debug__" : Str)) = false := by decide) (hpl : (backTo pos (starEach [] X.env)).any (·.1) = false := by rfl) :
    tBW X (.Raise (some (.Call (.Name x p) [e] [] pos)) none pos2 :: sts) D σ H := by
  obtain ⟨fI, fd, iC, tI, hb, F1⟩ := M.ini
  intro pins s I
  refine (pss_cons (ps_raise hc tk (pmk_oex (p := p) (dvs := []) (ds := []) M.T iC tI F1 hr hb .nil pass0 hg M.gm paW hdb hs hpl)) pbW).run pins s σ H D I ?_
  show tAW X [e] σ H _
  refine (acons he anil hs).run σ H _ sl fun vs H1 s1 p1 => ?_
  cases p1 with
  | @cons v _ _ _ p1 t =>
    cases t
    refine ⟨(by decide : 1 ≤ 1000), fun a ha => ?_⟩
    refine ⟨a, C, _, rfl, M.T, M.no, upd_same, fun dx hdx hne => ⟨rfl, dx, [(("name" : Str), v)], upd_same, ?_, ?_, ?_⟩⟩
    · rw [upd_ne hne]
      exact upd_same
    · rw [upd_ne hne] at hdx
      exact hdx
    · have hd1 : H1 dx = none := by
        rw [upd_ne hne] at hdx
        exact hdx
      refine q dx _ (s1.trans ⟨fun b o z eb => ?_, W.loc s1.j (fun b o z no eb => ?_) fun b hb => ?_⟩)
      · rw [upd_ne (ne_of_none eb hd1), del_ne (ne_of_none eb ha), upd_ne (ne_of_none eb ha), upd_ne (ne_of_none eb hd1), upd_ne (ne_of_none eb ha)]
        exact eb
      · rw [upd_ne (ne_of_none eb hd1), del_ne (ne_of_none eb ha), upd_ne (ne_of_none eb ha), upd_ne (ne_of_none eb hd1), upd_ne (ne_of_none eb ha)]
        exact eb
      · have n1 : b ≠ dx := fun z => hb (z ▸ W.fresh s1.j hd1)
        have n2 : b ≠ a := fun z => hb (z ▸ W.fresh s1.j ha)
        rw [upd_ne n1, del_ne n2, upd_ne n2, upd_ne n1, upd_ne n2]

theorem xraise {ok : Addr → Prop} {W : Wd ok} {δ : DEnv ok} {X : Cx} {x : Str} {C NE : Addr} {e : Expr} {P' : Ty ok} {p pos pos2 : Pos} {Wx : WX} (M : ErC X.prog X.w X.K X.mg X.base NE x C) (hc : X.calm = true) (hr : Room 2 X.A) (tk : Takes X Wx) (he : PEv W X e δ P') {sts : List Stmt} (hg : Gl X x := by rfl)
    (hs : starEach [e] X.env = (false, eval e X.env) :: starEach [] X.env := by rfl) (hdb : (x == ("__debug__" : Str)) = false := by decide) (hpl : (backTo pos (starEach [] X.env)).any (·.1) = false := by rfl) : PXv W X NE Wx (.Raise (some (.Call (.Name x p) [e] [] pos)) none pos2 :: sts) δ none :=
  ⟨fun σ H E sl _ q2 => raise_er M hc hr tk he sl (fun d H2 s2 => q2 rfl C d σ H2 M.te s2) hg hs hdb hpl⟩
/-! ### done_at -/
/-- a deed of these tests: (take, give, ..) -/
inductive Deed where
  | take (k : Str)
  | give (k : Str)
  deriving DecidableEq
def Deed.key : Deed → Str
  | .take k => k
  | .give k => k
def encD : Deed → PyData
  | .take k => .tuple [.str "take", .str k]
  | .give k => .tuple [.str "give", .str k]
def encS (N : Net) (ks : List Str) : PyData := .tuple [encN N, ss ks]
/-- the keys behind a deed, where it can be done -/
def stepK (ks : List Str) : Deed → Option (List Str)
  | .take k => if k ∈ ks then none else some (setOf PyData.str (ks ++ [k]))
  | .give k => if k ∈ ks then some (ks.filter fun x => !decide (x = k)) else none
abbrev bxX (P : Program) (w : World) (K : PySem.W.Frag) (mg : Str → Option Value) (base : Heap) (N : List Str) (qual : Str) (st : Stmt) (f : Addr) (cdv : Value) (A : Around) (outer : List Env) (s : Shared) (H : Hp) (E : XK) : Cx := cxOf (L2.CX P w) P w K mg base N qual (defScope st) f cdv A outer s H E
theorem sc_done_at : FnScope ["state", "deed", "net", "keys", "word", "name", "key"] ["state", "deed"] (defScope s_done_at) := ⟨rfl, rfl, rfl, by decide +kernel, rfl, by decide +kernel, by decide +kernel⟩
def spDone (K : PySem.W.Frag) (NE : Addr) : Sp := fun vs H Q E => ∃ (ok : Addr → Prop) (W : Wd ok) (N : Net) (ks : List Str) (d : Deed), W.J H ∧ TyA H vs [D (ok := ok) (encS N ks), D (encD d)] ∧ ks.length ≤ 40 ∧
  (∀ ks', stepK ks d = some ks' → ∀ v H2, Le W H H2 → R ok H2 v (encS N ks') → Q v H2) ∧ (stepK ks d = none → ∀ C dx H2, PySem.W.exmOne K (.ref C) (.ref NE) = some true → Le W H H2 → E (.ref C) (some dx) H2)
theorem ok_done_at {k : Nat} {f : Addr} {fd : FuncData} {NE cNoKey cKnown : Addr} (F : Fun K "done_at" "done_at" s_done_at f fd) (m : Mn mg) (d_set_of : Df P w K mg base (k + 2) "set_of" ["some"] (spt A_set_of)) (e1 : ErC P w K mg base NE "NoKey" cNoKey) (e2 : ErC P w K mg base NE "Known" cKnown) :
    FnOk P w K mg base (L2.CX P w) (k + 3) f fd ["state", "deed"] (spDone K NE) :=
  F.okX sc_done_at (fun vs H Q E h => by
    obtain ⟨ok, W, N, ks, d, _, r, _⟩ := h
    exact r.length) fun cdv A outer s H vs Q E hr h => by
  obtain ⟨ok, W, N, ks, d, j, r, hl, q1, q2⟩ := h
  refine ⟨_, pbW, ?_⟩
  have hb : PXv W (bxX P w K mg base ["state", "deed", "net", "keys", "word", "name", "key"] "done_at" s_done_at f cdv A outer s H E) NE (fun cls d _ H => E cls d H) (defBody s_done_at) (dstart ["state", "deed", "net", "keys", "word", "name", "key"] [D (encS N ks), D (encD d)]) ((stepK ks d).map fun ks' => D (encS N ks')) := by
    refine xcons (δ1 := [some (D (encS N ks)), some (D (encD d)), some (D (encN N)), some (D (ss ks)), none, none, none]) (by exact sasg (vv 0) (by exact gtup rfl (gscons (gname 2 sc_done_at.nd) (gscons (gname 3 sc_done_at.nd) gsnil)))) ?_
    cases d with
    | take key =>
      refine xcons (δ1 := [some (D (encS N ks)), some (D (encD (.take key))), some (D (encN N)), some (D (ss ks)), some (D (.str "take")), some (D (.str key)), none]) (by exact sasg (vtup (dcons (vixT (vv 1) vint (at0 0)) (dcons (vixT (vv 1) vint (at0 1)) dnil)) (few (by show 2 ≤ 10000000; decide))) (by exact gtup rfl (gscons (gname 4 sc_done_at.nd) (gscons (gname 5 sc_done_at.nd) gsnil)))) ?_
      refine xIf (x := true) (by exact tc (c_eqStr hr.units) (vv 4) (vgs m.TAKE)) (fun _ => ?_) (fun e => nomatch e)
      by_cases hk : key ∈ ks
      · rw [show stepK ks (.take key) = none from if_pos hk]
        exact xIf (x := true) (by exact PTv.cast (tc c_in (vv 5) (vv 3)) (decide_eq_true hk)) (fun _ => by exact xraise e2 rfl (hr.mono (Nat.le_add_left 2 k)) (takes_of rfl rfl rfl rfl) (vv 5)) (fun e => nomatch e)
      · rw [show stepK ks (.take key) = some (setOf PyData.str (ks ++ [key])) from if_neg hk]
        refine xIf (x := false) (by exact PTv.cast (tc c_in (vv 5) (vv 3)) (decide_eq_false hk)) (fun e => nomatch e) (fun _ => ⟨rfl, ?_⟩)
        exact xret (P := D (encS N (setOf PyData.str (ks ++ [key])))) (by exact vtup (dcons (vv 2) (dcons (vcall d_set_of hr (acons (vlst (dstar (vv 3) (dcons (vv 5) dnil)) (by simp only [List.length_append, List.length_map, List.length_cons, List.length_nil]; exact few (by omega))) anil) ⟨Str, _, PyData.str, ks ++ [key], rfl, .str, by simp; omega, .inl (by rw [List.map_append]; rfl), rfl⟩) dnil)) (few (by show 2 ≤ 10000000; decide)))
    | give key =>
      refine xcons (δ1 := [some (D (encS N ks)), some (D (encD (.give key))), some (D (encN N)), some (D (ss ks)), some (D (.str "give")), some (D (.str key)), none]) (by exact sasg (vtup (dcons (vixT (vv 1) vint (at0 0)) (dcons (vixT (vv 1) vint (at0 1)) dnil)) (few (by show 2 ≤ 10000000; decide))) (by exact gtup rfl (gscons (gname 4 sc_done_at.nd) (gscons (gname 5 sc_done_at.nd) gsnil)))) ?_
      refine xIf (x := false) (by exact tc (c_eqStr hr.units) (vv 4) (vgs m.TAKE)) (fun e => nomatch e) (fun _ => ⟨rfl, ?_⟩)
      refine xIf (x := true) (by exact tc (c_eqStr hr.units) (vv 4) (vgs m.GIVE)) (fun _ => ?_) (fun e => nomatch e)
      by_cases hk : key ∈ ks
      · rw [show stepK ks (.give key) = some (ks.filter fun x => !decide (x = key)) from if_pos hk]
        refine xIf (x := false) (by exact PTv.cast (tc c_nin (vv 5) (vv 3)) (by rw [decide_eq_true hk]; rfl)) (fun e => nomatch e) (fun _ => ⟨rfl, ?_⟩)
        exact xret (P := D (encS N (ks.filter fun x => !decide (x = key)))) (by exact vtup (dcons (vv 2) (dcons (vtupleL m.tuple (vlcD (own := [("key", 6)]) ks (fun x => D (.str x)) (fun x => !decide (x = key)) (fun x => .str x) rfl sc_done_at.nd (by kernel_rfl) (iTm (vv 3)) (by omega) fun x hx =>
          turn (fun _ _ _ _ _ => gname 6 sc_done_at.nd) (fun _ _ _ _ _ => qone (tc (c_neStr hr.units) (vv 6) (vv 5))) (fun _ _ _ _ _ _ => vv 6) (fun _ => nol_imm rfl))) dnil)) (few (by show 2 ≤ 10000000; decide)))
      · rw [show stepK ks (.give key) = none from if_neg hk]
        exact xIf (x := true) (by exact PTv.cast (tc c_nin (vv 5) (vv 3)) (by rw [decide_eq_false hk]; rfl)) (fun _ => by exact xraise e1 rfl (hr.mono (Nat.le_add_left 2 k)) (takes_of rfl rfl rfl rfl) (vv 5)) (fun e => nomatch e)
  refine hb.run _ H _ (sl_start j r) (fun P e v H2 s2 p => ?_) (fun e C dx σ' H2 t s2 => q2 (by simpa using e) C dx H2 t s2)
  cases hs : stepK ks d with
  | none =>
    rw [hs] at e
    cases e
  | some ks' =>
    rw [hs] at e
    cases e
    exact q1 ks' hs v H2 s2 p
end
end Kl
set_option linter.all false
set_option maxRecDepth 100000
set_option maxHeartbeats 4000000
/-! # Q2: behind_deeds -/
namespace Kl
open PySem PySem.Spec PyProof.Rows L2
/-- the keys behind deeds, what can't be done left out -/
def replay (ks : List Str) (ds : List Deed) : List Str := ds.foldl (fun ks d => (stepK ks d).getD ks) ks
theorem stepK_len {ks ks' : List Str} {d : Deed} (h : stepK ks d = some ks') : ks'.length ≤ ks.length + 1 := by
  cases d with
  | take k =>
    by_cases hk : k ∈ ks
    · rw [show stepK ks (.take k) = none from if_pos hk] at h
      cases h
    · rw [show stepK ks (.take k) = some (setOf PyData.str (ks ++ [k])) from if_neg hk] at h
      cases h
      have := setOf_len (enc := PyData.str) (ks ++ [k])
      simpa using this
  | give k =>
    by_cases hk : k ∈ ks
    · rw [show stepK ks (.give k) = some (ks.filter fun x => !decide (x = k)) from if_pos hk] at h
      cases h
      exact Nat.le_succ_of_le (List.length_filter_le _ _)
    · rw [show stepK ks (.give k) = none from if_neg hk] at h
      cases h
theorem replay_len (ks : List Str) : ∀ ds : List Deed, (replay ks ds).length ≤ ks.length + ds.length := by
  intro ds
  induction ds generalizing ks with
  | nil => exact Nat.le_refl _
  | cons d ds ih =>
    unfold replay
    rw [List.foldl_cons]
    have h1 := ih ((stepK ks d).getD ks)
    have h2 : ((stepK ks d).getD ks).length ≤ ks.length + 1 := by
      cases e : stepK ks d with
      | none => exact Nat.le_succ _
      | some ks' => exact stepK_len e
    unfold replay at h1
    rw [List.length_cons]
    omega
theorem replay_take {ks : List Str} {ds : List Deed} {i : Nat} {d : Deed} (h : ds[i]? = some d) : replay ks (ds.take (i + 1)) = (stepK (replay ks (ds.take i)) d).getD (replay ks (ds.take i)) := by
  unfold replay
  rw [List.take_add_one, h, List.foldl_append]
  rfl
section
variable {ok : Addr → Prop} {W : Wd ok} {X : Cx} {δ : DEnv ok}
/-- a body whose turn ends by next or continue -/
structure PCv (W : Wd ok) (X : Cx) (sts : List Stmt) (δ δ' : DEnv ok) : Prop where
  run : ∀ (σ : L2.St) (H : Hp) (E : Ends), Sl W H σ δ → (∀ σ' H2, Rel ok H H2 → Sl W H2 σ' δ' → E.nx σ' H2 ∧ E.ct σ' H2) → tBW X sts E σ H
theorem sforC {tg iter : Expr} {body : List Stmt} {pos : Pos} {Ts : List (Ty ok)} (inv : Nat → DEnv ok) (hp : PassesOwn (model X.prog X.w) X.A X.env X.xe) (hc : X.calm = true) (hi : PIv W X tg iter δ Ts) (h0 : inv 0 = δ)
    (turn : ∀ i T, Ts[i]? = some T → ∃ (δt : DEnv ok) (ws : List Nat) (δe : DEnv ok) (vs : List Nat), PGv W X tg (inv i) T δt ws ∧ PCv W X body δt δe ∧ wipeE δe vs = inv (i + 1)) (hs : ∀ x, foldedSetIterable iter X.env x = pure x := by intro _; rfl) :
    PSn W W X (.For tg iter body [] pos) δ (inv Ts.length) :=
  PSn.of (ps_for hp hc piW pgW pbW hs) fun σ H E sl q => hi.run σ H _ sl fun J G H1 s1 g1 y => by
    refine ⟨fun i m σ' H' => i + m = Ts.length ∧ Rel ok H1 H' ∧ Sl W H' σ' (inv i), ⟨Ts.length, Nat.zero_add _, Rel.refl _, by rw [h0]; exact sl.same s1⟩, ?_⟩
    rintro i m σ' H' ⟨hm, s2, sl2⟩
    have gH : G H' := (y W).up _ _ ⟨s2, sl2.j⟩ g1
    by_cases hlt : i < Ts.length
    · have hT : Ts[i]? = some Ts[i] := List.getElem?_eq_getElem hlt
      refine .inr ⟨(y W).go i H' hlt sl2.j gH, fun σ3 H3 => (i + 1) + (m - 1) = Ts.length ∧ Rel ok H1 H3 ∧ Sl W H3 σ3 (inv (i + 1)), fun σ3 H3 h3 => ⟨m - 1, by omega, h3⟩, fun x H3 hy => ?_⟩
      obtain ⟨s3, p3⟩ := (y W).yld i H' x H3 Ts[i] sl2.j gH hy hT
      obtain ⟨δt, ws, δe, vs, hg, hb, e⟩ := turn i Ts[i] hT
      refine hg.run x σ' H3 _ (sl2.same s3) p3 fun σ4 H4 s4 sl4 _ => hb.run σ4 H4 _ sl4 fun σ5 H5 s5 sl5 => ?_
      have z : (i + 1) + (m - 1) = Ts.length ∧ Rel ok H1 H5 ∧ Sl W H5 σ5 (inv (i + 1)) := ⟨by omega, ((s2.trans s3.rel).trans s4.rel).trans s5, by rw [← e]; exact sl5.forget vs⟩
      exact ⟨z, z⟩
    · have e : i = Ts.length := by omega
      subst e
      exact .inl ⟨(y W).stop H' sl2.j gH, q σ' H' (s1.rel.trans s2) sl2⟩
end
section
variable {ok : Addr → Prop} {W : Wd ok} {X : Cx} {δ δ' : DEnv ok}
/-- try: body / except x: continue -/
theorem ctry {NE : Addr} {x : Str} {body : List Stmt} {np cp pos pos' : Pos} (hs : X.stack = X.env :: X.outer) (hf : X.env.frame = some X.env.locals) (hc : Names X x (.ref NE))
    (hb : ∀ (Wx : WX) (pn : List (Addr × Obj)) (xe : Value → Shared → Prop), Takes (X.tr pn xe) Wx → ∀ (σ : L2.St) (H : Hp) (E : Ends), Sl W H σ δ → (∀ σ' H2, Rel ok H H2 → Sl W H2 σ' δ' → E.nx σ' H2) → (∀ C dx σ' H2, PySem.W.exmOne X.K (.ref C) (.ref NE) = some true → Rel ok H H2 → Sl W H2 σ' δ' → Wx (.ref C) (some dx) σ' H2) → tBW (X.tr pn xe) body E σ H) :
    PCv W X [.Try body [.ExceptHandler (some (.Name x np)) none [.Continue cp] pos'] [] [] pos] δ δ' := by
  refine ⟨fun σ H E sl q pins s I => ?_⟩
  refine (pss_one (ps_try_only (tb := fun Wx => fun E' σ H' => ∀ pn xe, Takes (X.tr pn xe) Wx → tBW (X.tr pn xe) body E' σ H') (ts := fun _ _ _ => tCont) (Wout := fun _ _ _ _ => False) hs hf hc takes0
    (fun Wx pn xe tk _ => ⟨fun pins s σ H E I h => h pn xe tk pins s I⟩) (fun a oe cls d pn _ _ => pss_one ps_continue))).run pins s σ H E I ?_
  intro pn xe tk
  refine hb _ pn xe tk σ H E sl (fun σ' H2 r2 sl2 => (q σ' H2 r2 sl2).1) (fun C dx σ' H2 t r2 sl2 => ⟨true, t, fun _ a _ => (q σ' H2 r2 sl2).2, fun z => nomatch z⟩)
end
section
variable {P : Program} {w : World} {K : PySem.W.Frag} {mg : Str → Option Value} {base : Heap}
/-- a def that may raise, as it is called -/
structure DfX (P : Program) (w : World) (K : PySem.W.Frag) (mg : Str → Option Value) (base : Heap) (k : Nat) (x : Str) (ps : List Str) (sp : Sp) : Prop where
  ex : ∃ (f : Addr) (fd : FuncData), mg x = some (.ref f) ∧ PySem.W.keepIn K (.ref f) = true ∧ Binds K fd ps [] ∧ FnOk P w K mg base (L2.CX P w) k f fd ps sp
theorem sc_behind : FnScope ["state", "deeds", "deed"] ["state", "deeds"] (defScope s_behind_deeds) := ⟨rfl, rfl, rfl, by decide +kernel, rfl, by decide +kernel, by decide +kernel⟩
def A_behind : Prm := fun ok W W' Ps T => ∃ (N : Net) (ks : List Str) (ds : List Deed), ks.length + ds.length ≤ 40 ∧ W' = W ∧ Ps = [D (encS N ks), D (.list (ds.map encD))] ∧ T = D (encS N (replay ks ds))
theorem ok_behind {k : Nat} {f : Addr} {fd : FuncData} {NE : Addr} (F : Fun K "behind_deeds" "behind_deeds" s_behind_deeds f fd) (m : Mn mg) (gNE : mg "NetError" = some (.ref NE)) (d_done : DfX P w K mg base k "done_at" ["state", "deed"] (spDone K NE)) : FnOk P w K mg base CX0 (k + 1) f fd ["state", "deeds"] (spt A_behind) :=
  okp F sc_behind (fun _ _ _ _ _ h => by
    obtain ⟨N, ks, _, _, _, rfl, _⟩ := h
    rfl) fun cdv B outer s H E hr ok W W' Ps T h => by
  obtain ⟨N, ks, ds, hz, rfl, rfl, rfl⟩ := h
  refine bcons (PSn.forget (sforC (Ts := ds.map fun d => D (encD d)) (fun i => [some (D (encS N (replay ks (ds.take i)))), some (D (.list (ds.map encD))), none]) .never rfl (iLm (vv 1)) rfl fun i T hT => ?_) []) ?_
  · rw [List.getElem?_map] at hT
    cases hd : ds[i]? with
    | none =>
      rw [hd] at hT
      cases hT
    | some d =>
      rw [hd] at hT
      cases hT
      refine ⟨[some (D (encS N (replay ks (ds.take i)))), some (D (.list (ds.map encD))), some (D (encD d))], [2], [some (D (encS N (replay ks (ds.take (i + 1))))), some (D (.list (ds.map encD))), some (D (encD d))], [2], gname 2 sc_behind.nd, ?_, rfl⟩
      obtain ⟨fT, fdT, hm, hk, hb, FT⟩ := d_done.ex
      have hi : i < ds.length := (List.getElem?_eq_some_iff.mp hd).1
      have hlen := replay_len ks (ds.take i)
      rw [List.length_take] at hlen
      refine ctry (NE := NE) (by rfl) (by rfl) (by exact ⟨rfl, by decide, .inl gNE⟩) fun Wx pn xe tk σ1 H1 E1 sl nx rz => ?_
      intro pins s1 I
      refine (pss_one (ps_set (i := 0) sc_behind.nd (by rfl) (by exact Or.inl rfl) (by exact pe_callS FT hr rfl hm hk hb (fun σ => passAt tk σ) paW)) : PSs _ _ _).run pins s1 σ1 H1 E1 I ?_
      refine (acons (W := W') (δ := [some (D (encS N (replay ks (ds.take i)))), some (D (.list (ds.map encD))), some (D (encD d))]) (by exact vv 0) (acons (by exact vv 2) anil)).run σ1 H1 _ sl fun vs H2 s2 p2 => ?_
      have step := replay_take (ks := ks) hd
      refine ⟨ok, W', N, replay ks (ds.take i), d, s2.j, p2, by omega, fun ks' e v H3 s3 p3 => ?_, fun e C dx H3 t s3 => rz C dx σ1 H3 t (s2.trans s3).rel ?_⟩
      · rw [e] at step
        have sl3 := ((sl.same s2).same s3).set 0 (P := D (encS N ks')) p3
        exact nx _ H3 (s2.trans s3).rel (by rw [step]; exact sl3)
      · rw [e] at step
        rw [step]
        exact (sl.same s2).same s3
  · rw [List.length_map, List.take_length]
    exact bret (vv 0)
end
end Kl
set_option linter.all false
set_option maxRecDepth 100000
set_option maxHeartbeats 4000000
/-! # K9: lists whose content the world tells; instances, methods, properties -/
namespace Kl
open PySem PySem.Spec PyProof.Rows L2
section
variable {ok : Addr → Prop} {W W' W2 : Wd ok} {X : Cx} {δ : DEnv ok}
/-- the address itself -/
def At (a : Addr) : Ty ok := ⟨fun _ v => v = .ref a, fun _ h => h⟩
/-- the world knows the list at a -/
def LsJ (W : Wd ok) (a : Addr) (ds : List PyData) : Prop := ∀ H, W.J H → ∃ vs, H a = some (.lst vs) ∧ RA ok H vs ds
theorem jix {a b : Expr} {pos : Pos} {l : Addr} {ds : List PyData} {i : Int} {d : PyData} (hJ : LsJ W l ds) (ha : PEv W X a δ (At l)) (hb : PEv W X b δ (D (.int i))) (h : atI ds i = some d) (hs : PlainIx b := by intro _ _; rfl) : PEv W X (.Subscript a b pos) δ (D d) :=
  PEv.of (pe_ix ix_list peW peW hs) fun σ H Q sl q => ha.run σ H _ sl fun x H1 s1 p1 => hb.run σ H1 _ (sl.same s1) fun y H2 s2 p2 => by
    cases p2
    cases p1
    obtain ⟨vs, h1, r⟩ := hJ H2 s2.j
    obtain ⟨v, hv, rv⟩ := atI_ra r h
    exact ⟨l, vs, i, v, rfl, rfl, SqL.of h1, hv, q v H2 (s1.trans s2) rv⟩
theorem jlen {a : Expr} {p pos : Pos} {l : Addr} {ds : List PyData} (hJ : LsJ W l ds) (hm : X.mg "len" = none) (ha : PEv W X a δ (At l)) (hg : Gl X "len" := by rfl) (hs : starEach [a] X.env = (false, eval a X.env) :: starEach [] X.env := by rfl) : PEv W X (.Call (.Name "len" p) [a] [] pos) δ (D (.int ds.length)) :=
  vcb call_len_seq hm boot_len (acons ha anil hs) (fun H vs Q j h k => by
    cases h with
    | cons h t =>
      cases t
      cases h
      obtain ⟨xs, h1, r⟩ := hJ H j
      exact ⟨l, xs, rfl, .inl (SqL.of h1), by rw [r.length]; exact k _ H (Le.refl j) (.int _)⟩) hg (he := hs)
theorem jtuple {a : Expr} {p pos : Pos} {l : Addr} {ds : List PyData} (hJ : LsJ W l ds) (hm : X.mg "tuple" = none) (ha : PEv W X a δ (At l)) (hg : Gl X "tuple" := by rfl) (hs : starEach [a] X.env = (false, eval a X.env) :: starEach [] X.env := by rfl) : PEv W X (.Call (.Name "tuple" p) [a] [] pos) δ (D (.tuple ds)) :=
  vct call_tuple_of hm (by decide +kernel) (acons ha anil hs) (fun H vs Q j h k => by
    cases h with
    | cons h t =>
      cases t
      cases h
      obtain ⟨xs, h1, r⟩ := hJ H j
      exact ⟨l, xs, rfl, .inl ⟨SqL.of h1, fun p hp => k _ _ (le_upd j hp) (.tup (W.fresh j hp) (.inl upd_same) (r.same (Rel.of (same_upd hp))))⟩⟩) hg (he := hs)
theorem jsl {e : Expr} {lo hi : Option Expr} {p2 pos : Pos} {a : Addr} {ds : List PyData} {l h : Option Int} (hJ : LsJ W a ds) (he : PEv W X e δ (At a)) (hl : POv W X lo δ l) (hh : POv W X hi δ h) : PEv W X (.Subscript e (.Slice lo hi none p2) pos) δ (D (.list (cutD ds l h))) := by
  obtain ⟨tl, pl, hl⟩ := hl.run
  obtain ⟨th, ph, hh⟩ := hh.run
  refine PEv.of (pe_slice sl_list peW pl ph) fun σ H Q sl q => he.run σ H _ sl fun x H1 s1 p1 => hl σ H1 _ (sl.same s1) fun H2 s2 => hh σ H2 _ ((sl.same s1).same s2) fun H3 s3 => ?_
  cases p1
  obtain ⟨vs, h1, r⟩ := hJ H3 s3.j
  exact ⟨a, vs, rfl, SqL.of h1, fun p hp => q _ _ (((s1.trans s2).trans s3).trans (le_upd s3.j hp)) (.lst (W.fresh s3.j hp) upd_same ((cut_ra r l h).same (Rel.of (same_upd hp))))⟩
/-- enumerate of such a list -/
theorem yv_enumJ {K : PySem.W.Frag} {a : Addr} {ds : List PyData} (hJ : LsJ W a ds) : Yv W (Ite K a) (fun _ => True) (ds.zipIdx.map fun p => D (ok := ok) (.tuple [.int (p.2 : Nat), p.1])) where
  up := fun _ _ _ _ => trivial
  go := fun i H hi j _ => by
    obtain ⟨vs, h1, r⟩ := hJ H j
    have hl : i < vs.length := by rw [r.length]; simpa using hi
    exact ⟨vs, vs[i], SqL.of h1, List.getElem?_eq_getElem hl⟩
  stop := fun H j _ => by
    obtain ⟨vs, h1, r⟩ := hJ H j
    exact ⟨vs, SqL.of h1, by rw [r.length]; simp⟩
  yld := fun i H x H' T j _ y hT => by
    obtain ⟨vs, h1, r⟩ := hJ H j
    obtain ⟨t, u, rfl, nt, rfl, y⟩ := y
    have hx := y vs (SqL.of h1)
    rw [List.getElem?_map, List.getElem?_zipIdx] at hT
    obtain ⟨d, hd, rd⟩ := r.at' hx
    rw [hd] at hT
    cases hT
    refine ⟨le_upd j nt, R.tup (W.fresh j nt) (.inl upd_same) (.cons ?_ (.cons (rd.same (Rel.of (same_upd nt))) .nil))⟩
    show R ok _ (V.int ((i : Nat) : Int)) (.int ((0 + i : Nat) : Int))
    rw [Nat.zero_add]
    exact .int _
theorem iEnJ {e : Expr} {elts : List Expr} {kk : Nat} {p pos tpos : Pos} {a : Addr} {α : Type} {f : α → PyData} {xs : List α} (hJ : LsJ W a (xs.map f)) (hm : X.mg "enumerate" = none) (h : PEv W X e δ (At a)) (hg : Gl X "enumerate" := by rfl) (hs : starEach [e] X.env = [(false, eval e X.env)] := by rfl) :
    PIj W X (.Tuple elts kk tpos) (.Call (.Name "enumerate" p) [e] [] pos) δ (xs.zipIdx.map fun p => D (.tuple [.int (p.2 : Nat), f p.1])) := PIj.of (pi_enum hg hm paW hs) fun σ H R sl q => (acons h anil hs).run σ H _ sl fun vs H1 s1 p1 => by
  cases p1 with
  | cons p1 t =>
    cases t
    cases p1
    obtain ⟨us, h1, r⟩ := hJ H1 s1.j
    have z := yv_enumJ (K := X.K) hJ
    have e : ((xs.map f).zipIdx.map fun p => D (ok := ok) (.tuple [.int (p.2 : Nat), p.1])) = xs.zipIdx.map fun p => D (ok := ok) (.tuple [.int (p.2 : Nat), f p.1]) := by
      rw [List.zipIdx_map, List.map_map]
      rfl
    rw [e] at z
    exact ⟨a, us, rfl, SqL.of h1, q _ _ H1 s1 trivial z⟩
section
variable {α : Type} {elt tg iter : Expr} {ifs : List Expr} {scope : Scope} {own : List (Str × Nat)} {pos : Pos}
theorem vlcDJ (xs : List α) (tx : α → Ty ok) (p : α → Bool) (f : α → PyData) (hc : X.calm = true) (hN : X.N.Nodup) (bk : blkC X.N X.env.scope scope own = true) (hi : PIj W X tg iter δ (xs.map tx)) (hz : xs.length ≤ 10000000)
    (ht : ∀ x ∈ xs, TurnD W X scope own δ elt tg ifs (tx x) (p x) (D (f x))) (hs : ∀ x, foldedSetIterable iter X.env x = pure x := by intro _; rfl) : PEv W X (.ListComp elt [⟨tg, iter, ifs, 0⟩] scope pos) δ (D (.list ((xs.filter p).map f))) := by
  have h := vlcJ (Ts := xs.map tx) (Ps := xs.map fun x => (p x, D (f x))) (elt := elt) (pos := pos) hc hN (blkOk_by bk) hi (by rw [List.length_map, List.length_map]) (by rw [List.length_map]; exact hz) (fun i T b P h1 h2 => by
    rw [List.getElem?_map] at h1 h2
    cases e : xs[i]? with
    | none =>
      rw [e] at h1
      cases h1
    | some x =>
      rw [e] at h1 h2
      cases h1
      cases h2
      exact ht x (List.mem_of_getElem? e)) hs
  rw [kept_map] at h
  refine h.sub fun H v z => Ls.d ?_
  rw [List.map_map]
  exact z
end

/-! ### instances -/
/-- the instance of Watch at x: its lists at ls, lt -/
def wfs (ls lt : Addr) : List (Str × V) := [(("own_states" : Str), .ref ls), (("own_told" : Str), .ref lt)]
def Wk (C x ls lt : Addr) : Ty ok := ⟨fun H v => v = .ref x ∧ ok x ∧ ∃ dx, H x = some (.ins C dx (wfs ls lt)), fun e ⟨h1, kx, dx, h2⟩ => ⟨h1, kx, dx, e _ _ kx h2⟩⟩
/-- what is known of the class of the instances at C -/
structure Ck (K : PySem.W.Frag) (C : Addr) : Prop where
  cls : Cls K C
  no1 : NoAttr K C "own_states"
  no2 : NoAttr K C "own_told"
theorem vstates {C x ls lt : Addr} {e : Expr} {pos : Pos} (c : Ck X.K C) (he : PEv W X e δ (Wk C x ls lt)) (hb : attributeBase e "own_states" X.env (eval e X.env) = eval e X.env := by rfl) : PEv W X (.Attribute e "own_states" pos) δ (At ls) :=
  PEv.of (pe_fld peW hb) fun σ H Q sl q => he.run σ H _ sl fun v H1 s1 ⟨h1, kx, dx, h2⟩ => ⟨x, C, dx, _, _, h1, h2, c.cls, c.no1, rfl, q _ H1 s1 rfl⟩
theorem vtold {C x ls lt : Addr} {e : Expr} {pos : Pos} (c : Ck X.K C) (he : PEv W X e δ (Wk C x ls lt)) (hb : attributeBase e "own_told" X.env (eval e X.env) = eval e X.env := by rfl) : PEv W X (.Attribute e "own_told" pos) δ (At lt) :=
  PEv.of (pe_fld peW hb) fun σ H Q sl q => he.run σ H _ sl fun v H1 s1 ⟨h1, kx, dx, h2⟩ => ⟨x, C, dx, _, _, h1, h2, c.cls, c.no2, by rfl, q _ H1 s1 rfl⟩
/-- a method of the class -/
structure Mt (P : Program) (w : World) (K : PySem.W.Frag) (mg : Str → Option Value) (base : Heap) (C : Addr) (k : Nat) (m : Str) (ps : List Str) (sp : Sp) : Prop where
  ex : ∃ (f : Addr) (fd : FuncData), Meth K C m f ∧ Binds K fd ps [] ∧ FnOk P w K mg base CX0 k f fd ps sp
/-- x.m(args): what the method does, from world to world -/
theorem meth_run {C x ls lt : Addr} {m : Str} {k : Nat} {ps : List Str} {A : Prm} {o e : Expr} {es : List Expr} {apos pos : Pos} {pl : Sem Bool} {Ps : List (Ty ok)} {P : Ty ok} (M : Mt X.prog X.w X.K X.mg X.base C k m ps (spt A)) (c : Ck X.K C) (hr : Room k X.A) (ho : PEv W X o δ (Wk C x ls lt)) (ha : PAv W X (e :: es) δ Ps) (h : A ok W W' (Wk C x ls lt :: Ps) P)
    (hm : (wfs ls lt).lookup m = none := by rfl) (hst : starEach (e :: es) X.env = (false, eval e X.env) :: starEach es X.env := by rfl) (hpl : (backTo pos (starEach es X.env)).any (·.1) = false := by rfl)
    (ht : eval (.Call (.Attribute o m apos) (e :: es) [] pos) X.env = (do
      let ov ← eval o X.env
      standAt apos.atName
      let (f, first) ← holding [ov] (getMethod ov m pl)
      callWith pos f first (backTo pos (starEach (e :: es) X.env)) (backToKw pos (keywordEach [] X.env))) := by rfl) {σ : L2.St} {H : Hp} {Q : VK} (sl : Sl W H σ δ) (q : ∀ v H2, Rel ok H H2 → W'.J H2 → P.p H2 v → Q v H2) :
    tW X (.Call (.Attribute o m apos) (e :: es) [] pos) σ H Q := by
  obtain ⟨f, fd, hM, hb, F⟩ := M.ex
  intro pins s I
  refine (pe_meth (pl := pl) peW c.cls hM F hr hb .nil pass0 paW hst hpl ht).run pins s σ H Q I ?_
  refine ho.run σ H _ sl fun v H1 s1 p1 => ?_
  obtain ⟨rfl, kx, dx, h2⟩ := id p1
  refine ⟨x, dx, wfs ls lt, rfl, h2, hm, ha.run σ H1 _ (sl.same s1) fun vs H2 s2 p2 => ?_⟩
  rw [List.append_nil]
  exact ⟨ok, W, W', _, P, s2.j, .cons ((Wk C x ls lt).mono s2.rel p1) p2, h, fun v H3 s3 j3 p3 => q v H3 ((s1.trans s2).rel.trans s3) j3 p3⟩
theorem vmeth {C x ls lt : Addr} {m : Str} {k : Nat} {ps : List Str} {A : Prm} {o e : Expr} {es : List Expr} {apos pos : Pos} {pl : Sem Bool} {Ps : List (Ty ok)} {P : Ty ok} (M : Mt X.prog X.w X.K X.mg X.base C k m ps (spt A)) (c : Ck X.K C) (hr : Room k X.A) (ho : PEv W X o δ (Wk C x ls lt)) (ha : PAv W X (e :: es) δ Ps) (h : A ok W W (Wk C x ls lt :: Ps) P)
    (hm : (wfs ls lt).lookup m = none := by rfl) (hst : starEach (e :: es) X.env = (false, eval e X.env) :: starEach es X.env := by rfl) (hpl : (backTo pos (starEach es X.env)).any (·.1) = false := by rfl)
    (ht : eval (.Call (.Attribute o m apos) (e :: es) [] pos) X.env = (do
      let ov ← eval o X.env
      standAt apos.atName
      let (f, first) ← holding [ov] (getMethod ov m pl)
      callWith pos f first (backTo pos (starEach (e :: es) X.env)) (backToKw pos (keywordEach [] X.env))) := by rfl) : PEv W X (.Call (.Attribute o m apos) (e :: es) [] pos) δ P :=
  ⟨fun σ H Q sl q => meth_run M c hr ho ha h hm hst hpl ht sl fun v H2 r j p => q v H2 ⟨r, j⟩ p⟩
/-- x.m(args) as a statement, the world changes -/
theorem smeth {C x ls lt : Addr} {m : Str} {k : Nat} {ps : List Str} {A : Prm} {o e : Expr} {es : List Expr} {apos pos spos : Pos} {pl : Sem Bool} {Ps : List (Ty ok)} {P : Ty ok} (M : Mt X.prog X.w X.K X.mg X.base C k m ps (spt A)) (c : Ck X.K C) (hr : Room k X.A) (ho : PEv W X o δ (Wk C x ls lt)) (ha : PAv W X (e :: es) δ Ps) (h : A ok W W' (Wk C x ls lt :: Ps) P)
    (hm : (wfs ls lt).lookup m = none := by rfl) (hst : starEach (e :: es) X.env = (false, eval e X.env) :: starEach es X.env := by rfl) (hpl : (backTo pos (starEach es X.env)).any (·.1) = false := by rfl)
    (ht : eval (.Call (.Attribute o m apos) (e :: es) [] pos) X.env = (do
      let ov ← eval o X.env
      standAt apos.atName
      let (f, first) ← holding [ov] (getMethod ov m pl)
      callWith pos f first (backTo pos (starEach (e :: es) X.env)) (backToKw pos (keywordEach [] X.env))) := by rfl)
    (hs : swapsWith (.Call (.Attribute o m apos) (e :: es) [] pos) none spos.line X.env = pure false := by rfl) : PSn W W' X (.Expr (.Call (.Attribute o m apos) (e :: es) [] pos) spos) δ δ :=
  PSn.of (ps_expr peW hs) fun σ H E sl q => meth_run M c hr ho ha h hm hst hpl ht sl fun v H2 r j p => q σ H2 r (sl.to r j)
/-- a property of the class -/
structure Pr (P : Program) (w : World) (K : PySem.W.Frag) (mg : Str → Option Value) (base : Heap) (C : Addr) (k : Nat) (m : Str) (sp : Sp) : Prop where
  ex : ∃ (p f : Addr) (fd : FuncData), PropOf K C m p f ∧ Binds K fd ["self"] [] ∧ FnOk P w K mg base CX0 k f fd ["self"] sp
theorem vprop {C x ls lt : Addr} {m : Str} {k : Nat} {A : Prm} {o : Expr} {pos : Pos} {P : Ty ok} (M : Pr X.prog X.w X.K X.mg X.base C k m (spt A)) (c : Ck X.K C) (hr : Room (k + 1) X.A) (ho : PEv W X o δ (Wk C x ls lt)) (h : A ok W W [Wk C x ls lt] P) (hab : attributeBase o m X.env (eval o X.env) = eval o X.env := by rfl) :
    PEv W X (.Attribute o m pos) δ P := by
  obtain ⟨p, f, fd, hp, hb, F⟩ := M.ex
  refine PEv.of (pe_prop peW c.cls hp F hr hb .nil pass0 hab) fun σ H Q sl q => ho.run σ H _ sl fun v H1 s1 p1 => ?_
  obtain ⟨rfl, kx, dx, h2⟩ := id p1
  exact ⟨x, dx, _, rfl, h2, ok, W, W, _, P, s1.j, .cons p1 .nil, h, fun v H3 s3 j3 p3 => q v H3 (s1.trans ⟨s3, j3⟩) p3⟩
end
end Kl
set_option linter.all false
set_option maxRecDepth 100000
set_option maxHeartbeats 4000000
/-! # K10: a list of the def's own that grows -/
namespace Kl
open PySem PySem.Spec PyProof.Rows L2
/-- all but p -/
def exl (ok : Addr → Prop) (p : Addr) : Addr → Prop := fun a => ok a ∧ a ≠ p
section
variable {ok : Addr → Prop} {p : Addr}
mutual
theorem R.keepT {H H' : Hp} (e : ∀ a xs ds, ok a → Td H a xs ds → Td H' a xs ds) : ∀ {v : V} {d : PyData}, imm d = true → R ok H v d → R ok H' v d
  | _, _, _, .non => .non
  | _, _, _, .bl b => .bl b
  | _, _, _, .int i => .int i
  | _, _, _, .str x => .str x
  | _, _, h, .tup k h1 r => .tup k (e _ _ _ k h1) (RA.keepT e (by simpa [imm] using h) r)
  | _, _, h, .lst _ _ _ => by simp [imm] at h
theorem RA.keepT {H H' : Hp} (e : ∀ a xs ds, ok a → Td H a xs ds → Td H' a xs ds) : ∀ {vs : List V} {ds : List PyData}, immAll ds = true → RA ok H vs ds → RA ok H' vs ds
  | _, _, _, .nil => .nil
  | _, _, h, .cons r t => by
    simp only [immAll, Bool.and_eq_true] at h
    exact .cons (R.keepT e h.1 r) (RA.keepT e h.2 t)
end
mutual
theorem R.exl {H : Hp} (hp : H p = none) : ∀ {v : V} {d : PyData}, R ok H v d → R (exl ok p) H v d
  | _, _, .non => .non
  | _, _, .bl b => .bl b
  | _, _, .int i => .int i
  | _, _, .str x => .str x
  | _, _, .lst k h r => .lst ⟨k, fun z => by rw [z, hp] at h; cases h⟩ h (RA.exl hp r)
  | _, _, .tup k h r => .tup ⟨k, h.ne hp⟩ h (RA.exl hp r)
theorem RA.exl {H : Hp} (hp : H p = none) : ∀ {vs : List V} {ds : List PyData}, RA ok H vs ds → RA (exl ok p) H vs ds
  | _, _, .nil => .nil
  | _, _, .cons r t => .cons (R.exl hp r) (RA.exl hp t)
end
mutual
theorem R.unx {H : Hp} : ∀ {v : V} {d : PyData}, R (Kl.exl ok p) H v d → R ok H v d
  | _, _, .non => .non
  | _, _, .bl b => .bl b
  | _, _, .int i => .int i
  | _, _, .str x => .str x
  | _, _, .lst k h r => .lst k.1 h (RA.unx r)
  | _, _, .tup k h r => .tup k.1 h (RA.unx r)
theorem RA.unx {H : Hp} : ∀ {vs : List V} {ds : List PyData}, RA (Kl.exl ok p) H vs ds → RA ok H vs ds
  | _, _, .nil => .nil
  | _, _, .cons r t => .cons (R.unx r) (RA.unx t)
end
/-- the world in which the list at p has these items -/
def Wd.ext (W : Wd ok) (kp : ok p) (ds : List PyData) (hd : immAll ds = true) : Wd (Kl.exl ok p) where
  J := fun H => W.J H ∧ ∃ vs, H p = some (.lst vs) ∧ RA (Kl.exl ok p) H vs ds
  loc := fun {H H'} ⟨j, vs, h, r⟩ h1 h2 => by
    have hp : H' p = H p := h2 p fun z => z.2 rfl
    refine ⟨W.loc j (fun a o ka no e => ?_) (fun a ha => h2 a fun z => ha z.1), vs, hp.trans h, RA.keepT (fun a xs es ka e => e.elim (fun e => .inl (h1 a _ ka ⟨fun _ z => (nomatch z), fun _ z => (nomatch z)⟩ e)) fun ⟨o, fs, r, e, z⟩ => .inr ⟨o, fs, r, h1 a _ ka ⟨fun _ z => (nomatch z), fun _ z => (nomatch z)⟩ e, z⟩) hd r⟩
    by_cases z : a = p
    · rw [z] at e ⊢
      rw [hp]
      exact e
    · exact h1 a o ⟨ka, z⟩ no e
  fresh := fun {H q} ⟨j, vs, h, _⟩ e => ⟨W.fresh j e, fun z => by rw [z, h] at e; cases e⟩
  tup := fun {H q xs} ⟨j, vs, h, _⟩ e => ⟨W.tup j e, fun z => by rw [z, h] at e; cases e⟩
theorem ext_ls {W : Wd ok} {kp : ok p} {ds : List PyData} {hd : immAll ds = true} : LsJ (W.ext kp ds hd) p ds := fun H j => j.2
/-- kinds that stand in every world -/
structure PK where
  t : ∀ ok : Addr → Prop, Ty ok
  to : ∀ {ok : Addr → Prop} {p : Addr} {H : Hp} {v : V}, H p = none → (t ok).p H v → (t (Kl.exl ok p)).p H v
  un : ∀ {ok : Addr → Prop} {p : Addr} {H : Hp} {v : V}, (t (Kl.exl ok p)).p H v → (t ok).p H v
def kD (d : PyData) : PK := ⟨fun ok => D d, fun hp h => h.exl hp, fun h => h.unx⟩
def kAt (a : Addr) : PK := ⟨fun ok => At a, fun _ h => h, fun h => h⟩
def kWk (C x ls lt : Addr) : PK := ⟨fun ok => Wk C x ls lt, fun hp ⟨h1, kx, dx, h2⟩ => ⟨h1, ⟨kx, fun z => by rw [z, hp] at h2; cases h2⟩, dx, h2⟩, fun ⟨h1, kx, dx, h2⟩ => ⟨h1, kx.1, dx, h2⟩⟩
def inst (ok : Addr → Prop) (δ : List (Option PK)) : DEnv ok := δ.map (Option.map fun k => k.t ok)
theorem Sl.opened {W : Wd ok} {W' : Wd (Kl.exl ok p)} {H H' : Hp} {σ : L2.St} {δ : List (Option PK)} (sl : Sl W H σ (inst ok δ)) (hp : H p = none) (r : Rel (Kl.exl ok p) H H') (j : W'.J H') : Sl W' H' σ (inst (Kl.exl ok p) δ) := by
  refine ⟨j, by rw [sl.len]; unfold inst; rw [List.length_map, List.length_map], fun i P h => ?_⟩
  unfold inst at h
  rw [List.getElem?_map] at h
  cases e : δ[i]? with
  | none =>
    rw [e] at h
    cases h
  | some o =>
    rw [e] at h
    cases o with
    | none => cases h
    | some k =>
      cases h
      obtain ⟨v, h1, h2⟩ := sl.at_ i (k.t ok) (by unfold inst; rw [List.getElem?_map, e]; rfl)
      exact ⟨v, h1, (k.t _).mono r (k.to hp h2)⟩
theorem Sl.closed {W : Wd ok} {W' : Wd (Kl.exl ok p)} {H : Hp} {σ : L2.St} {δ : List (Option PK)} (sl : Sl W' H σ (inst (Kl.exl ok p) δ)) (j : W.J H) : Sl W H σ (inst ok δ) := by
  refine ⟨j, by rw [sl.len]; unfold inst; rw [List.length_map, List.length_map], fun i P h => ?_⟩
  unfold inst at h
  rw [List.getElem?_map] at h
  cases e : δ[i]? with
  | none =>
    rw [e] at h
    cases h
  | some o =>
    rw [e] at h
    cases o with
    | none => cases h
    | some k =>
      cases h
      obtain ⟨v, h1, h2⟩ := sl.at_ i (k.t _) (by unfold inst; rw [List.getElem?_map, e]; rfl)
      exact ⟨v, h1, k.un h2⟩
/-- x = [], and from there on the list grows within the def; what is handed back is data -/
theorem bgrow (i : Nat) {W : Wd ok} {X : Cx} {δ : List (Option PK)} {x : Str} {px pl pos : Pos} {rest : List Stmt} {d : PyData} (hN : X.N.Nodup) (hrest : ∀ (p : Addr) (kp : ok p), ∃ W' : Wd (Kl.exl ok p), (∀ H, W'.J H → W.J H) ∧ PBv (W.ext kp [] rfl) W' X rest ((inst (Kl.exl ok p) δ).set i (some (At p))) (D d))
    (hi : X.N[i]? = some x := by rfl) (hx : Loc X.env.scope x := by first | exact Or.inl rfl | exact Or.inr rfl) (hs : swapsWith (.List [] pl) (some (.Name x px)) pos.line X.env = pure false := by rfl) (hf : X.fn x = true ∨ X.env.scope.names.lookup x = some .local := by first | exact .inl rfl | exact .inr rfl) :
    PBv W W X (.Assign [.Name x px] (.List [] pl) pos :: rest) (inst ok δ) (D d) :=
  PBv.of (pss_cons (ps_set hN hi hx (pe_lst pa_nil) hs hf) pbW) fun σ H E sl q => by
    refine ⟨Nat.zero_le _, fun p hp => ?_⟩
    have kp := W.fresh sl.j hp
    obtain ⟨W', h1, h2⟩ := hrest p kp
    have j1 : (W.ext kp [] rfl).J (upd H p (.lst [])) := ⟨(le_upd sl.j hp).j, [], upd_same, .nil⟩
    refine h2.run _ _ _ ((sl.opened hp (Rel.of (same_upd hp)) j1).set i (P := At p) rfl) fun v H2 r j2 p2 => q v H2 (fun a o ka e => ?_) (h1 H2 j2) p2.unx
    have ne : a ≠ p := ne_of_none e hp
    exact r a o ⟨ka, ne⟩ (by rw [upd_ne ne]; exact e)
/-- xs.append(e) -/
theorem sappend {W : Wd ok} {kp : ok p} {ds : List PyData} {hd : immAll ds = true} {X : Cx} {δ : DEnv (Kl.exl ok p)} {o e : Expr} {apos cpos pos : Pos} {d : PyData} (ho : PEv (W.ext kp ds hd) X o δ (At p)) (he : PEv (W.ext kp ds hd) X e δ (D d)) (hd2 : immAll (ds ++ [d]) = true) (hz : ds.length ≤ 1000000)
    (hbase : attributeBase o "append" X.env (eval o X.env) = eval o X.env := by rfl)
    (hfew : ((backTo cpos (starEach [e] X.env)).all (fun x => !x.1) && (backToKw cpos (keywordEach [] X.env)).all (fun x => x.1.isSome) && decide ([e].length + ([] : List Keyword).length + (if ([] : List Keyword).isEmpty then 0 else 1) < 30)) = true := by rfl)
    (hline : (apos.endLine == cpos.line) = true := by rfl) (hs : starEach [e] X.env = (false, eval e X.env) :: starEach [] X.env := by rfl) (hplain : (backTo cpos (starEach [] X.env)).any (·.1) = false := by rfl) (hsw : swapsWith (.Call (.Attribute o "append" apos) [e] [] cpos) none pos.line X.env = pure false := by rfl) :
    PSn (W.ext kp ds hd) (W.ext kp (ds ++ [d]) hd2) X (.Expr (.Call (.Attribute o "append" apos) [e] [] cpos) pos) δ δ :=
  PSn.of (ps_expr (pe_bm PySem.F.plainAttrs_list PySem.F.slot_list_append PySem.F.type_list_append mt_append peW paW hbase hfew hline hs hplain) hsw) fun σ H E sl q => ho.run σ H _ sl fun x H1 s1 p1 => by
    cases p1
    obtain ⟨vs1, h1, _⟩ := s1.j.2
    refine ⟨.inl ⟨rfl, _, SqL.of h1⟩, (acons he anil hs).run σ H1 _ (sl.same s1) fun us H2 s2 p2 => ?_⟩
    cases p2 with
    | @cons y _ _ _ p2 t =>
      cases t
      obtain ⟨j2, vs, h2, r⟩ := s2.j
      have rel2 : Rel (Kl.exl ok p) H2 (upd H2 p (.lst (vs ++ [y]))) := fun a o ka e => by
        rw [upd_ne ka.2]
        exact e
      refine ⟨p, vs, _, rfl, rfl, h2, by rw [r.length]; exact few' (by omega), q _ _ ((s1.trans s2).rel.trans rel2) (((sl.same s1).same s2).to rel2 ⟨W.loc j2 (fun a o ka no e => ?_) (fun a ha => ?_), _, upd_same, ?_⟩)⟩
      · rw [upd_ne (fun z => by
          rw [z, h2] at e
          cases e
          exact no.1 _ rfl)]
        exact e
      · exact upd_ne fun z => ha (by rw [z]; exact kp)
      · exact (r.append (.cons p2 .nil)).same rel2
end
end Kl
set_option linter.all false
set_option maxRecDepth 100000
set_option maxHeartbeats 4000000
/-! # W1: Watch: what reads it -/
namespace Kl
open PySem PySem.Spec PyProof.Rows L2
/-- the lists of a Watch: its states, its deeds -/
structure Plt {ok : Addr → Prop} (W : Wd ok) (ls lt : Addr) (N : Net) (S : List (List Str)) (T : List Deed) : Prop where
  st : LsJ W ls (S.map (encS N))
  td : LsJ W lt (T.map encD)
theorem at_back {α : Type} {xs : List α} {j : Nat} {v : α} (hj : 1 ≤ j) (hl : j ≤ xs.length) (h : xs[xs.length - j]? = some v) : atI xs (-(j : Int)) = some v := by
  unfold atI ixN
  rw [if_neg (by omega), if_pos (by omega)]
  have e : (-(j : Int) + (xs.length : Int)).toNat = xs.length - j := by omega
  rw [e]
  exact h
theorem at_last {α : Type} {xs : List α} {v : α} (h : xs.getLast? = some v) : atI xs (-1) = some v := by
  have hl : 1 ≤ xs.length := by
    cases xs with
    | nil => cases h
    | cons x xs => exact Nat.succ_pos _
  rw [List.getLast?_eq_getElem?] at h
  exact at_back (j := 1) (Nat.le_refl _) hl h
section
variable {P : Program} {w : World} {K : PySem.W.Frag} {mg : Str → Option Value} {base : Heap} {C : Addr}
theorem sc_W_net : FnScope ["self"] ["self"] (defScope s_W_net) := ⟨rfl, rfl, rfl, by decide +kernel, rfl, by decide +kernel, by decide +kernel⟩
theorem sc_W_ring : FnScope ["self"] ["self"] (defScope s_W_ring) := ⟨rfl, rfl, rfl, by decide +kernel, rfl, by decide +kernel, by decide +kernel⟩
theorem sc_W_told : FnScope ["self"] ["self"] (defScope s_W_told) := ⟨rfl, rfl, rfl, by decide +kernel, rfl, by decide +kernel, by decide +kernel⟩
theorem sc_W_len : FnScope ["self"] ["self"] (defScope s_W_len) := ⟨rfl, rfl, rfl, by decide +kernel, rfl, by decide +kernel, by decide +kernel⟩
def A_W_net (C : Addr) : Prm := fun ok W W' Ps T' => ∃ (x ls lt : Addr) (N : Net) (S : List (List Str)) (T : List Deed) (ks : List Str), Plt W ls lt N S T ∧ S.getLast? = some ks ∧ W' = W ∧ Ps = [Wk C x ls lt] ∧ T' = D (encN N)
def A_W_ring (C : Addr) : Prm := fun ok W W' Ps T' => ∃ (x ls lt : Addr) (N : Net) (S : List (List Str)) (T : List Deed) (ks : List Str), Plt W ls lt N S T ∧ S.getLast? = some ks ∧ W' = W ∧ Ps = [Wk C x ls lt] ∧ T' = D (ss ks)
def A_W_told (C : Addr) : Prm := fun ok W W' Ps T' => ∃ (x ls lt : Addr) (N : Net) (S : List (List Str)) (T : List Deed), Plt W ls lt N S T ∧ W' = W ∧ Ps = [Wk C x ls lt] ∧ T' = D (.tuple (T.map encD))
def A_W_len (C : Addr) : Prm := fun ok W W' Ps T' => ∃ (x ls lt : Addr) (N : Net) (S : List (List Str)) (T : List Deed), Plt W ls lt N S T ∧ W' = W ∧ Ps = [Wk C x ls lt] ∧ T' = D (.int (T.length : Nat))
theorem last_map {α β : Type} {f : α → β} {xs : List α} {v : α} (h : xs.getLast? = some v) : (xs.map f).getLast? = some (f v) := by rw [List.getLast?_map, h]; rfl
theorem ok_W_net {f : Addr} {fd : FuncData} (F : Fun K "net" "Watch.net" s_W_net f fd) (c : Ck K C) : FnOk P w K mg base CX0 1 f fd ["self"] (spt (A_W_net C)) :=
  okp F sc_W_net (fun _ _ _ _ _ h => by
    obtain ⟨x, ls, lt, N, S, T, ks, _, _, _, rfl, _⟩ := h
    rfl) fun cdv B outer s H E hr ok W W' Ps T h => by
  obtain ⟨x, ls, lt, N, S, T, ks, pl, hl, rfl, rfl, rfl⟩ := h
  exact bret (vixT (ds := [encN N, ss ks]) (jix pl.st (vstates c (vv 0)) (vneg vint) (at_last (last_map hl))) vint (at0 0))
theorem ok_W_ring {f : Addr} {fd : FuncData} (F : Fun K "ring" "Watch.ring" s_W_ring f fd) (c : Ck K C) : FnOk P w K mg base CX0 1 f fd ["self"] (spt (A_W_ring C)) :=
  okp F sc_W_ring (fun _ _ _ _ _ h => by
    obtain ⟨x, ls, lt, N, S, T, ks, _, _, _, rfl, _⟩ := h
    rfl) fun cdv B outer s H E hr ok W W' Ps T h => by
  obtain ⟨x, ls, lt, N, S, T, ks, pl, hl, rfl, rfl, rfl⟩ := h
  exact bret (vixT (ds := [encN N, ss ks]) (jix pl.st (vstates c (vv 0)) (vneg vint) (at_last (last_map hl))) vint (at0 1))
theorem ok_W_told {f : Addr} {fd : FuncData} (F : Fun K "told" "Watch.told" s_W_told f fd) (m : Mn mg) (c : Ck K C) : FnOk P w K mg base CX0 1 f fd ["self"] (spt (A_W_told C)) :=
  okp F sc_W_told (fun _ _ _ _ _ h => by
    obtain ⟨x, ls, lt, N, S, T, _, _, rfl, _⟩ := h
    rfl) fun cdv B outer s H E hr ok W W' Ps T h => by
  obtain ⟨x, ls, lt, N, S, T, pl, rfl, rfl, rfl⟩ := h
  exact bret (jtuple pl.td m.tuple (vtold c (vv 0)))
theorem ok_W_len {f : Addr} {fd : FuncData} (F : Fun K "__len__" "Watch.__len__" s_W_len f fd) (m : Mn mg) (c : Ck K C) : FnOk P w K mg base CX0 1 f fd ["self"] (spt (A_W_len C)) :=
  okp F sc_W_len (fun _ _ _ _ _ h => by
    obtain ⟨x, ls, lt, N, S, T, _, _, rfl, _⟩ := h
    rfl) fun cdv B outer s H E hr ok W W' Ps T h => by
  obtain ⟨x, ls, lt, N, S, T, pl, rfl, rfl, rfl⟩ := h
  exact bret (PEv.cast (jlen pl.td m.len (vtold c (vv 0))) (by rw [List.length_map]))
/-! ### goes, when -/
theorem sc_W_goes : FnScope ["self", "lot"] ["self", "lot"] (defScope s_W_goes) := ⟨rfl, rfl, rfl, by decide +kernel, rfl, by decide +kernel, by decide +kernel⟩
def A_W_goes (C : Addr) : Prm := fun ok W W' Ps T' => ∃ (x ls lt : Addr) (N : Net) (S : List (List Str)) (T : List Deed) (ks : List Str) (lot : List Int), Plt W ls lt N S T ∧ Nt N ∧ S.getLast? = some ks ∧ W' = W ∧ Ps = [Wk C x ls lt, D (ii lot)] ∧ T' = D (.bool (goesB N ks lot))
theorem ok_W_goes {k : Nat} {f : Addr} {fd : FuncData} (F : Fun K "goes" "Watch.goes" s_W_goes f fd) (c : Ck K C) (p_net : Pr P w K mg base C k "net" (spt (A_W_net C))) (p_ring : Pr P w K mg base C k "ring" (spt (A_W_ring C))) (d_goes : Df P w K mg base (k + 1) "goes_goes" ["net", "keys", "lot"] (spt A_goes)) :
    FnOk P w K mg base CX0 (k + 2) f fd ["self", "lot"] (spt (A_W_goes C)) :=
  okp F sc_W_goes (fun _ _ _ _ _ h => by
    obtain ⟨x, ls, lt, N, S, T, ks, lot, _, _, _, _, rfl, _⟩ := h
    rfl) fun cdv B outer s H E hr ok W W' Ps T h => by
  obtain ⟨x, ls, lt, N, S, T, ks, lot, pl, nt, hl, rfl, rfl, rfl⟩ := h
  exact bret (vcall d_goes hr (acons (vprop p_net c hr (vv 0) ⟨x, ls, lt, N, S, T, ks, pl, hl, rfl, rfl, rfl⟩) (acons (vprop p_ring c hr (vv 0) ⟨x, ls, lt, N, S, T, ks, pl, hl, rfl, rfl, rfl⟩) (acons (vv 1) anil))) ⟨N, ks, lot, nt, rfl, rfl, rfl⟩)
theorem sc_W_when : FnScope ["self", "lot", "number", "net", "keys"] ["self", "lot"] (defScope s_W_when) := ⟨rfl, rfl, rfl, by decide +kernel, rfl, by decide +kernel, by decide +kernel⟩
/-- the places of the states at which the lot goes -/
def whenOf (N : Net) (S : List (List Str)) (lot : List Int) : List Int := (S.zipIdx.filter fun p => goesB N p.1 lot).map fun p => (p.2 : Int)
def A_W_when (C : Addr) : Prm := fun ok W W' Ps T' => ∃ (x ls lt : Addr) (N : Net) (S : List (List Str)) (T : List Deed) (lot : List Int), Plt W ls lt N S T ∧ Nt N ∧ S.length ≤ 100 ∧ W' = W ∧ Ps = [Wk C x ls lt, D (ii lot)] ∧ T' = D (ii (whenOf N S lot))
theorem ok_W_when {k : Nat} {f : Addr} {fd : FuncData} (F : Fun K "when" "Watch.when" s_W_when f fd) (m : Mn mg) (c : Ck K C) (d_goes : Df P w K mg base k "goes_goes" ["net", "keys", "lot"] (spt A_goes)) :
    FnOk P w K mg base CX0 (k + 1) f fd ["self", "lot"] (spt (A_W_when C)) :=
  okp F sc_W_when (fun _ _ _ _ _ h => by
    obtain ⟨x, ls, lt, N, S, T, lot, _, _, _, _, rfl, _⟩ := h
    rfl) fun cdv B outer s H E hr ok W W' Ps T h => by
  obtain ⟨x, ls, lt, N, S, T, lot, pl, nt, hz, rfl, rfl, rfl⟩ := h
  refine bret (PEv.cast (vtupleL m.tuple (vlcDJ (own := [("number", 2), ("net", 3), ("keys", 4)]) S.zipIdx (fun p => D (.tuple [.int (p.2 : Nat), encS N p.1])) (fun p => goesB N p.1 lot) (fun p => .int (p.2 : Nat)) rfl sc_W_when.nd (by kernel_rfl) (iEnJ pl.st m.enumerate (vstates c (vv 0))) (by rw [List.length_zipIdx]; omega) fun p hp =>
    turn (fun _ _ _ _ _ => gtup rfl (gscons (gname 2 sc_W_when.nd) (gscons (gtup (ds := [encN N, ss p.1]) rfl (gscons (gname 3 sc_W_when.nd) (gscons (gname 4 sc_W_when.nd) gsnil))) gsnil))) (fun _ _ _ _ _ => qone (tval (vcall d_goes hr (acons (vv 3) (acons (vv 4) (acons (vv 1) anil))) ⟨N, p.1, lot, nt, rfl, rfl, rfl⟩))) (fun _ _ _ _ _ _ => vv 2) (fun _ => nol_imm rfl))) ?_)
  unfold whenOf ii
  rw [List.map_map]
  rfl
end
end Kl
set_option linter.all false
set_option maxRecDepth 100000
set_option maxHeartbeats 4000000
/-! # W2: Watch: turned, without, needed, deeds -/
namespace Kl
open PySem PySem.Spec PyProof.Rows L2
section
variable {ok : Addr → Prop}
/-- from W to W' the list at p gets d -/
structure Grow (W W' : Wd ok) (p : Addr) (ds : List PyData) (d : PyData) : Prop where
  no : ¬ ok p
  get : LsJ W p ds
  set : ∀ {H : Hp} {vs : List V} {v : V}, W.J H → H p = some (.lst vs) → RA ok H vs ds → R ok H v d → W'.J (upd H p (.lst (vs ++ [v])))
/-- o.append(e), the list is At p -/
theorem sapp {W W' : Wd ok} {p : Addr} {ds : List PyData} {X : Cx} {δ : DEnv ok} {o e : Expr} {apos cpos pos : Pos} {d : PyData} (G : Grow W W' p ds d) (ho : PEv W X o δ (At p)) (he : PEv W X e δ (D d)) (hz : ds.length ≤ 1000000)
    (hbase : attributeBase o "append" X.env (eval o X.env) = eval o X.env := by rfl)
    (hfew : ((backTo cpos (starEach [e] X.env)).all (fun x => !x.1) && (backToKw cpos (keywordEach [] X.env)).all (fun x => x.1.isSome) && decide ([e].length + ([] : List Keyword).length + (if ([] : List Keyword).isEmpty then 0 else 1) < 30)) = true := by rfl)
    (hline : (apos.endLine == cpos.line) = true := by rfl) (hs : starEach [e] X.env = (false, eval e X.env) :: starEach [] X.env := by rfl) (hplain : (backTo cpos (starEach [] X.env)).any (·.1) = false := by rfl) (hsw : swapsWith (.Call (.Attribute o "append" apos) [e] [] cpos) none pos.line X.env = pure false := by rfl) :
    PSn W W' X (.Expr (.Call (.Attribute o "append" apos) [e] [] cpos) pos) δ δ :=
  PSn.of (ps_expr (pe_bm PySem.F.plainAttrs_list PySem.F.slot_list_append PySem.F.type_list_append mt_append peW paW hbase hfew hline hs hplain) hsw) fun σ H E sl q => ho.run σ H _ sl fun x H1 s1 p1 => by
    cases p1
    obtain ⟨vs1, h1, _⟩ := G.get H1 s1.j
    refine ⟨.inl ⟨rfl, _, SqL.of h1⟩, (acons he anil hs).run σ H1 _ (sl.same s1) fun us H2 s2 p2 => ?_⟩
    cases p2 with
    | @cons y _ _ _ p2 t =>
      cases t
      obtain ⟨vs, h2, r⟩ := G.get H2 s2.j
      have rel2 : Rel ok H2 (upd H2 p (.lst (vs ++ [y]))) := fun a o ka e => by
        rw [upd_ne (fun z => G.no (by rw [← z]; exact ka))]
        exact e
      exact ⟨p, vs, y, rfl, rfl, h2, by rw [r.length]; exact few' (by omega), q _ _ ((s1.trans s2).rel.trans rel2) (((sl.same s1).same s2).to rel2 (G.set s2.j h2 r p2))⟩
end
theorem immAll_append : ∀ {xs ys : List PyData}, immAll xs = true → immAll ys = true → immAll (xs ++ ys) = true
  | [], _, _, h => h
  | x :: xs, ys, h, k => by
    rw [immAll, Bool.and_eq_true] at h
    rw [List.cons_append, immAll, h.1, immAll_append h.2 k]
    rfl
theorem immAll_map {α : Type} {f : α → PyData} (h : ∀ x, imm (f x) = true) : ∀ xs : List α, immAll (xs.map f) = true
  | [] => by simp [immAll]
  | x :: xs => by rw [List.map_cons, immAll, h x, immAll_map h xs]; rfl
theorem ext_grow {ok : Addr → Prop} {p : Addr} {W : Wd ok} {kp : ok p} {ds : List PyData} {hd : immAll ds = true} {d : PyData} (hd2 : immAll (ds ++ [d]) = true) : Grow (W.ext kp ds hd) (W.ext kp (ds ++ [d]) hd2) p ds d where
  no := fun z => z.2 rfl
  get := ext_ls
  set := fun {H vs v} ⟨j, _⟩ h r rv => by
    have rel2 : Rel (Kl.exl ok p) H (upd H p (.lst (vs ++ [v]))) := fun a o ka e => by
      rw [upd_ne ka.2]
      exact e
    refine ⟨W.loc j (fun a o ka no e => ?_) (fun a ha => upd_ne fun z => ha (by rw [z]; exact kp)), _, upd_same, (r.append (.cons rv .nil)).same rel2⟩
    rw [upd_ne (fun z => by
      rw [z, h] at e
      cases e
      exact no.1 _ rfl)]
    exact e
theorem imm_encY (y : Str × Int) : imm (encY y) = true := by simp [encY, imm, immAll]
theorem imm_encLn (l : Line) : imm (encLn l) = true := by simp [encLn, imm, immAll]
theorem imm_encC (c : Str × Str) : imm (encC c) = true := by simp [encC, imm, immAll]
theorem imm_encN (N : Net) : imm (encN N) = true := by
  unfold encN
  rw [imm, immAll, immAll, immAll, immAll, imm, imm, imm, immAll_map imm_encY, immAll_map imm_encLn, immAll_map imm_encC]
  rfl
theorem imm_encS (N : Net) (ks : List Str) : imm (encS N ks) = true := by
  unfold encS
  rw [imm, immAll, immAll, immAll, imm_encN, imm_ss]
  rfl
theorem imm_encD (d : Deed) : imm (encD d) = true := by cases d <;> simp [encD, imm, immAll]
/-- the world in which a Watch's lists stand so -/
def Wd.pl {ok : Addr → Prop} {ls lt : Addr} (W : Wd ok) (k1 : ok ls) (k2 : Kl.exl ok ls lt) (N : Net) (S : List (List Str)) (T : List Deed) : Wd (Kl.exl (Kl.exl ok ls) lt) := (W.ext k1 (S.map (encS N)) (immAll_map (imm_encS N) S)).ext k2 (T.map encD) (immAll_map imm_encD T)
section
variable {ok : Addr → Prop} {p : Addr}
mutual
/-- data without lists do not stand where a list stands -/
theorem R.immx {H : Hp} {zs : List V} (hp : H p = some (.lst zs)) : ∀ {v : V} {d : PyData}, imm d = true → R ok H v d → R (Kl.exl ok p) H v d
  | _, _, _, .non => .non
  | _, _, _, .bl b => .bl b
  | _, _, _, .int i => .int i
  | _, _, _, .str x => .str x
  | _, _, h, .tup k h1 r => .tup ⟨k, h1.neL hp⟩ h1 (RA.immx hp (by simpa [imm] using h) r)
  | _, _, h, .lst _ _ _ => by simp [imm] at h
theorem RA.immx {H : Hp} {zs : List V} (hp : H p = some (.lst zs)) : ∀ {vs : List V} {ds : List PyData}, immAll ds = true → RA ok H vs ds → RA (Kl.exl ok p) H vs ds
  | _, _, _, .nil => .nil
  | _, _, h, .cons r t => by
    simp only [immAll, Bool.and_eq_true] at h
    exact .cons (R.immx hp h.1 r) (RA.immx hp h.2 t)
end
end
section
variable {ok : Addr → Prop} {ls lt : Addr} {W : Wd ok} {k1 : ok ls} {k2 : Kl.exl ok ls lt} {N : Net} {S : List (List Str)} {T : List Deed}
theorem pl_plt : Plt (W.pl k1 k2 N S T) ls lt N S T := ⟨fun H j => by
    obtain ⟨⟨j, vs, h, r⟩, us, h2, r2⟩ := j
    exact ⟨vs, h, RA.immx h2 (immAll_map (imm_encS N) S) r⟩, ext_ls⟩
theorem pl_growS {ks : List Str} : Grow (W.pl k1 k2 N S T) (W.pl k1 k2 N (S ++ [ks]) T) ls (S.map (encS N)) (encS N ks) where
  no := fun z => z.1.2 rfl
  get := pl_plt.st
  set := fun {H vs v} ⟨⟨j, ws, h1, r1⟩, us, h2, r2⟩ h r rv => by
    have ne : lt ≠ ls := k2.2
    have g := ext_grow (W := W) (kp := k1) (ds := S.map (encS N)) (hd := immAll_map (imm_encS N) S) (d := encS N ks) (immAll_append (immAll_map (imm_encS N) S) (by rw [immAll, imm_encS]; rfl))
    obtain ⟨j', vs', e', r'⟩ := g.set ⟨j, ws, h1, r1⟩ h (by
      rw [h] at h1
      cases h1
      exact r1) rv.unx
    refine ⟨⟨j', vs', e', by rw [List.map_append]; exact r'⟩, us, by rw [upd_ne ne]; exact h2, RA.same (fun a o ka e => ?_) r2⟩
    rw [upd_ne ka.1.2]
    exact e
theorem pl_growT {d : Deed} : Grow (W.pl k1 k2 N S T) (W.pl k1 k2 N S (T ++ [d])) lt (T.map encD) (encD d) where
  no := fun z => z.2 rfl
  get := pl_plt.td
  set := fun {H vs v} j h r rv => by
    have g := ext_grow (W := W.ext k1 (S.map (encS N)) (immAll_map (imm_encS N) S)) (kp := k2) (ds := T.map encD) (hd := immAll_map imm_encD T) (d := encD d) (immAll_append (immAll_map imm_encD T) (by rw [immAll, imm_encD]; rfl))
    obtain ⟨j', vs', e', r'⟩ := g.set j h r rv
    exact ⟨j', vs', e', by rw [List.map_append]; exact r'⟩
end
section
variable {P : Program} {w : World} {K : PySem.W.Frag} {mg : Str → Option Value} {base : Heap} {C : Addr}
/-! ### do_deed, take, give -/
theorem sc_W_do_deed : FnScope ["self", "deed"] ["self", "deed"] (defScope s_W_do_deed) := ⟨rfl, rfl, rfl, by decide +kernel, rfl, by decide +kernel, by decide +kernel⟩
theorem sc_W_take : FnScope ["self", "key"] ["self", "key"] (defScope s_W_take) := ⟨rfl, rfl, rfl, by decide +kernel, rfl, by decide +kernel, by decide +kernel⟩
theorem sc_W_give : FnScope ["self", "key"] ["self", "key"] (defScope s_W_give) := ⟨rfl, rfl, rfl, by decide +kernel, rfl, by decide +kernel, by decide +kernel⟩
/-- a deed that can be done: the lists grow -/
inductive DeedW (C : Addr) (pd : Deed → Prop) (arg : Deed → PyData) : (ok : Addr → Prop) → Wd ok → Wd ok → List (Ty ok) → Ty ok → Prop
  | mk (ok : Addr → Prop) (W : Wd ok) (x ls lt : Addr) (k1 : ok ls) (k2 : Kl.exl ok ls lt) (N : Net) (S : List (List Str)) (T : List Deed) (ks ks' : List Str) (d : Deed) (hp : pd d) (hl : S.getLast? = some ks) (hd : stepK ks d = some ks') (hz : ks.length ≤ 40) (hS : S.length ≤ 100) (hT : T.length ≤ 100) :
      DeedW C pd arg (Kl.exl (Kl.exl ok ls) lt) (W.pl k1 k2 N S T) (W.pl k1 k2 N (S ++ [ks']) (T ++ [d])) [Wk C x ls lt, D (arg d)] (D .none)
/-- a def whose body ends without return -/
theorem okpN {x qual : Str} {st : Stmt} {f : Addr} {fd : FuncData} {N ps : List Str} {k : Nat} {A : Prm} (F : Fun K x qual st f fd) (S : FnScope N ps (defScope st)) (len : ∀ ok W W' Ps T, A ok W W' Ps T → Ps.length = ps.length) (ret : ∀ ok W W' Ps T, A ok W W' Ps T → T = D .none)
    (hbody : ∀ (cdv : Value) (B : Around) (outer : List Env) (s : Shared) (H : Hp) (E : XK), Room k (B.deeper (envOfC qual (defScope st) s.heap.objs.size f cdv)) → ∀ (ok : Addr → Prop) (W W' : Wd ok) (Ps : List (Ty ok)) (T : Ty ok), A ok W W' Ps T → ∃ δ', PNv W W' (bx P w K mg base N qual st f cdv B outer s H E) (defBody st) (dstart N Ps) δ') :
    FnOk P w K mg base CX0 (k + 1) f fd ps (spt A) :=
  F.ok S (fun vs H Q E h => by
    obtain ⟨ok, W, W', Ps, T, _, r, a, _⟩ := h
    rw [r.length]
    exact len ok W W' Ps T a) fun cdv B outer s H vs Q E hr h => by
    obtain ⟨ok, W, W', Ps, T, j, r, a, q⟩ := h
    obtain ⟨δ', hb⟩ := hbody cdv B outer s H E hr ok W W' Ps T a
    have e := ret ok W W' Ps T a
    subst e
    exact ⟨_, pbW, hb.run _ H _ (sl_start j r) fun σ' H2 s2 sl2 => q .non H2 s2 sl2.j .non⟩
/-- done_at(state, deed), the deed can be done -/
theorem vdone {ok : Addr → Prop} {W : Wd ok} {X : Cx} {δ : DEnv ok} {NE : Addr} {k : Nat} {e : Expr} {es : List Expr} {p pos : Pos} {N : Net} {ks ks' : List Str} {d : Deed} (F : DfX X.prog X.w X.K X.mg X.base k "done_at" ["state", "deed"] (spDone X.K NE)) (hr : Room k X.A) (ha : PAv W X (e :: es) δ [D (encS N ks), D (encD d)]) (hz : ks.length ≤ 40)
    (hd : stepK ks d = some ks') (hg : Gl X "done_at" := by rfl) (he : starEach (e :: es) X.env = (false, eval e X.env) :: starEach es X.env := by rfl) (hpl : (backTo pos (starEach es X.env)).any (·.1) = false := by rfl) : PEv W X (.Call (.Name "done_at" p) (e :: es) [] pos) δ (D (encS N ks')) := by
  obtain ⟨f, fd, hm, hk, hb, F⟩ := F.ex
  refine PEv.of (pe_call F hr hg hm hk hb .nil passF paW (by decide) he hpl) fun σ H Q sl q => ha.run σ H _ sl fun vs H1 s1 p1 => ?_
  rw [List.append_nil]
  exact ⟨ok, W, N, ks, d, s1.j, p1, hz, fun ks2 e2 v H2 s2 p2 => q v H2 (s1.trans s2) (by rw [hd] at e2; cases e2; exact p2), fun e2 => by rw [hd] at e2; cases e2⟩
theorem ok_W_do_deed {k : Nat} {f : Addr} {fd : FuncData} {NE : Addr} (F : Fun K "do_deed" "Watch.do_deed" s_W_do_deed f fd) (c : Ck K C) (d_done : DfX P w K mg base k "done_at" ["state", "deed"] (spDone K NE)) : FnOk P w K mg base CX0 (k + 1) f fd ["self", "deed"] (spt (DeedW C (fun _ => True) encD)) :=
  okpN F sc_W_do_deed (fun _ _ _ _ _ h => by
    cases h
    rfl) (fun _ _ _ _ _ h => by
    cases h
    rfl) fun cdv B outer s H E hr ok W W' Ps T h => by
  cases h with
  | mk ok W x ls lt k1 k2 N S T ks ks' d hp hl hd hz hS hT =>
    refine ⟨_, ncons (sapp (pl_growS (ks := ks')) (vstates c (vv 0)) (vdone d_done hr (acons (jix pl_plt.st (vstates c (vv 0)) (vneg vint) (at_last (last_map hl))) (acons (vv 1) anil)) hz hd) (by rw [List.length_map]; omega)) (ncons (sapp pl_growT (vtold c (vv 0)) (vv 1) (by rw [List.length_map]; omega)) nnil)⟩
theorem ok_W_take {k : Nat} {f : Addr} {fd : FuncData} (F : Fun K "take" "Watch.take" s_W_take f fd) (m : Mn mg) (c : Ck K C) (m_do : Mt P w K mg base C k "do_deed" ["self", "deed"] (spt (DeedW C (fun _ => True) encD))) : FnOk P w K mg base CX0 (k + 1) f fd ["self", "key"] (spt (DeedW C (fun d => ∃ key, d = .take key) fun d => .str d.key)) :=
  okpN F sc_W_take (fun _ _ _ _ _ h => by
    cases h
    rfl) (fun _ _ _ _ _ h => by
    cases h
    rfl) fun cdv B outer s H E hr ok W W' Ps T h => by
  cases h with
  | mk ok W x ls lt k1 k2 N S T ks ks' d hp hl hd hz hS hT =>
    obtain ⟨key, rfl⟩ := hp
    exact ⟨_, ncons (smeth m_do c hr (vv 0) (acons (vtup (dcons (vgs m.TAKE) (dcons (vv 1) dnil)) (few (by show 2 ≤ 10000000; decide))) anil) (DeedW.mk ok W x ls lt k1 k2 N S T ks ks' (.take key) trivial hl hd hz hS hT)) nnil⟩
theorem ok_W_give {k : Nat} {f : Addr} {fd : FuncData} (F : Fun K "give" "Watch.give" s_W_give f fd) (m : Mn mg) (c : Ck K C) (m_do : Mt P w K mg base C k "do_deed" ["self", "deed"] (spt (DeedW C (fun _ => True) encD))) : FnOk P w K mg base CX0 (k + 1) f fd ["self", "key"] (spt (DeedW C (fun d => ∃ key, d = .give key) fun d => .str d.key)) :=
  okpN F sc_W_give (fun _ _ _ _ _ h => by
    cases h
    rfl) (fun _ _ _ _ _ h => by
    cases h
    rfl) fun cdv B outer s H E hr ok W W' Ps T h => by
  cases h with
  | mk ok W x ls lt k1 k2 N S T ks ks' d hp hl hd hz hS hT =>
    obtain ⟨key, rfl⟩ := hp
    exact ⟨_, ncons (smeth m_do c hr (vv 0) (acons (vtup (dcons (vgs m.GIVE) (dcons (vv 1) dnil)) (few (by show 2 ≤ 10000000; decide))) anil) (DeedW.mk ok W x ls lt k1 k2 N S T ks ks' (.give key) trivial hl hd hz hS hT)) nnil⟩
end
end Kl
set_option linter.all false
set_option maxRecDepth 100000
set_option maxHeartbeats 4000000
/-! # W3: Watch: turned, no_longer, without, needed -/
namespace Kl
open PySem PySem.Spec PyProof.Rows L2
section
variable {P : Program} {w : World} {K : PySem.W.Frag} {mg : Str → Option Value} {base : Heap} {C : Addr}
theorem sc_W_turned : FnScope ["self", "lots", "now", "net", "keys", "lot"] ["self", "lots", "now"] (defScope s_W_turned) := ⟨rfl, rfl, rfl, by decide +kernel, rfl, by decide +kernel, by decide +kernel⟩
theorem sc_W_no_longer : FnScope ["self", "lots"] ["self", "lots"] (defScope s_W_no_longer) := ⟨rfl, rfl, rfl, by decide +kernel, rfl, by decide +kernel, by decide +kernel⟩
theorem sc_W_without : FnScope ["self", "number"] ["self", "number"] (defScope s_W_without) := ⟨rfl, rfl, rfl, by decide +kernel, rfl, by decide +kernel, by decide +kernel⟩
theorem sc_W_needed : FnScope ["self", "lot", "found", "number", "net", "keys"] ["self", "lot"] (defScope s_W_needed) := ⟨rfl, rfl, rfl, by decide +kernel, rfl, by decide +kernel, by decide +kernel⟩
def turnedOf (N : Net) (k1 k2 : List Str) (lots : List (List Int)) (now : Bool) : List (List Int) := setOf ii (lots.filter fun lot => (goesB N k1 lot == now) && !(goesB N k2 lot == now))
def A_W_turned (C : Addr) : Prm := fun ok W W' Ps T' => ∃ (x ls lt : Addr) (N : Net) (S : List (List Str)) (T : List Deed) (k1 k2 : List Str) (lots : List (List Int)) (now : Bool), Plt W ls lt N S T ∧ Nt N ∧ S.getLast? = some k1 ∧ 2 ≤ S.length ∧ S[S.length - 2]? = some k2 ∧ T ≠ [] ∧ lots.length < 64 ∧ (∀ l ∈ lots, l.length ≤ 100) ∧
  W' = W ∧ Ps = [Wk C x ls lt, D (.tuple (lots.map ii)), D (.bool now)] ∧ T' = D (.tuple ((turnedOf N k1 k2 lots now).map ii))
theorem imm_ints : ∀ xs : List Int, immAll (xs.map .int) = true
  | [] => rfl
  | x :: xs => by
    rw [List.map_cons, immAll, imm_ints xs]
    rfl
theorem imm_ii (xs : List Int) : imm (ii xs) = true := by
  show imm (.tuple _) = true
  rw [imm]
  exact imm_ints xs
theorem ok_W_turned {k : Nat} {f : Addr} {fd : FuncData} (F : Fun K "turned" "Watch.turned" s_W_turned f fd) (m : Mn mg) (c : Ck K C) (m_goes : Mt P w K mg base C k "goes" ["self", "lot"] (spt (A_W_goes C))) (d_goes : Df P w K mg base k "goes_goes" ["net", "keys", "lot"] (spt A_goes))
    (d_set_of : Df P w K mg base k "set_of" ["some"] (spt A_set_of)) (d_tupled : Df P w K mg base k "tupled" ["value"] (spt (A_tupled 4))) : FnOk P w K mg base CX0 (k + 1) f fd ["self", "lots", "now"] (spt (A_W_turned C)) :=
  okp F sc_W_turned (fun _ _ _ _ _ h => by
    obtain ⟨x, ls, lt, N, S, T, k1, k2, lots, now, _, _, _, _, _, _, _, _, _, rfl, _⟩ := h
    rfl) fun cdv B outer s H E hr ok W W' Ps T' h => by
  obtain ⟨x, ls, lt, N, S, T, k1, k2, lots, now, pl, nt, hl, h2, h3, hT, hz, hb, rfl, rfl, rfl⟩ := h
  have len0 : decide (((T.map encD).length : Int) = 0) = false := by
    refine decide_eq_false fun e => hT ?_
    rw [List.length_map] at e
    exact List.eq_nil_of_length_eq_zero (by omega)
  refine bwhen (x := false) (PTv.cast (tc (c_eqInt hr.units) (jlen pl.td m.len (vtold c (vv 0))) vint) len0) (fun e => nomatch e) (fun _ => ?_)
  refine bcons (sasg (jix pl.st (vstates c (vv 0)) (vneg vint) (at_back (j := 2) (by decide) (by rw [List.length_map]; exact h2) (by rw [List.length_map, List.getElem?_map, h3]; rfl))) (by exact gtup (ds := [encN N, ss k2]) rfl (gscons (gname 3 sc_W_turned.nd) (gscons (gname 4 sc_W_turned.nd) gsnil)))) ?_
  refine bret (vcall d_set_of hr (acons (vlcD (own := [("lot", 5)]) lots (fun lot => D (ii lot)) (fun lot => (goesB N k1 lot == now) && !(goesB N k2 lot == now)) ii rfl sc_W_turned.nd (by kernel_rfl) (iTm (PEv.cast (vcall d_tupled hr (acons (vv 1) anil) ⟨.tuple (lots.map ii), ?_, ?_, rfl, rfl, rfl⟩) (by rw [tupD, tupDs_of tupD_ii]))) (by omega) fun lot hlot =>
    turn (fun _ _ _ _ _ => gname 5 sc_W_turned.nd) (fun _ _ _ _ _ => qone (tw (wand (tc (c_eqB hr.units) (vmeth m_goes c hr (vv 0) (acons (vv 5) anil) ⟨x, ls, lt, N, S, T, k1, lot, pl, nt, hl, rfl, rfl, rfl⟩) (vv 2)) fun _ => wand1 (tc (c_neB hr.units) (vcall d_goes hr (acons (vv 3) (acons (vv 4) (acons (vv 5) anil))) ⟨N, k2, lot, nt, rfl, rfl, rfl⟩) (vv 2)))))
      (fun _ _ _ _ _ _ => vv 5) (fun _ => nol_imm (imm_ii _))) anil) ⟨_, _, ii, lots.filter fun lot => (goesB N k1 lot == now) && !(goesB N k2 lot == now), rfl, .tint, Nat.lt_of_le_of_lt (List.length_filter_le _ _) hz, .inl rfl, rfl⟩)
  · rw [PyData.depth]
    have := depth_le_map (f := ii) (n := 1) (fun a => by rw [depth_ii1]; exact Nat.le_refl _) lots
    omega
  · rw [wideD, List.length_map, wideDs_of fun y hy => wideD_ii (by have := hb y hy; omega), decide_eq_true (by omega)]
    rfl
def A_W_no_longer (C : Addr) : Prm := fun ok W W' Ps T' => ∃ (x ls lt : Addr) (N : Net) (S : List (List Str)) (T : List Deed) (k1 k2 : List Str) (lots : List (List Int)), Plt W ls lt N S T ∧ Nt N ∧ S.getLast? = some k1 ∧ 2 ≤ S.length ∧ S[S.length - 2]? = some k2 ∧ T ≠ [] ∧ lots.length < 64 ∧ (∀ l ∈ lots, l.length ≤ 100) ∧
  W' = W ∧ Ps = [Wk C x ls lt, D (.tuple (lots.map ii))] ∧ T' = D (.tuple ((turnedOf N k1 k2 lots false).map ii))
theorem ok_W_no_longer {k : Nat} {f : Addr} {fd : FuncData} (F : Fun K "no_longer" "Watch.no_longer" s_W_no_longer f fd) (c : Ck K C) (m_turned : Mt P w K mg base C k "turned" ["self", "lots", "now"] (spt (A_W_turned C))) : FnOk P w K mg base CX0 (k + 1) f fd ["self", "lots"] (spt (A_W_no_longer C)) :=
  okp F sc_W_no_longer (fun _ _ _ _ _ h => by
    obtain ⟨x, ls, lt, N, S, T, k1, k2, lots, _, _, _, _, _, _, _, _, _, rfl, _⟩ := h
    rfl) fun cdv B outer s H E hr ok W W' Ps T' h => by
  obtain ⟨x, ls, lt, N, S, T, k1, k2, lots, pl, nt, hl, h2, h3, hT, hz, hb, rfl, rfl, rfl⟩ := h
  exact bret (vmeth m_turned c hr (vv 0) (acons (vv 1) (acons vbl anil)) ⟨x, ls, lt, N, S, T, k1, k2, lots, false, pl, nt, hl, h2, h3, hT, hz, hb, rfl, rfl, rfl⟩)
/-! ### without, needed -/
def A_W_without (C : Addr) : Prm := fun ok W W' Ps T' => ∃ (x ls lt : Addr) (N : Net) (S : List (List Str)) (T : List Deed) (n : Nat) (ks : List Str), Plt W ls lt N S T ∧ n < T.length ∧ S[n]? = some ks ∧ ks.length + T.length ≤ 40 ∧ W' = W ∧ Ps = [Wk C x ls lt, D (.int (n : Nat))] ∧ T' = D (encS N (replay ks (T.drop (n + 1))))
theorem cut_drop (xs : List PyData) (n : Nat) : cutD xs (some ((n : Int) + 1)) none = xs.drop (n + 1) := by
  unfold cutD
  have e : HT.sIx xs.length 0 (some ((n : Int) + 1)) = min (n + 1) xs.length := by
    rw [show ((n : Int) + 1) = ((n + 1 : Nat) : Int) from by omega]
    exact HT.sIx_nat _ _ _
  rw [e]
  show (xs.drop (min (n + 1) xs.length)).take (xs.length - min (n + 1) xs.length) = _
  by_cases h : n + 1 ≤ xs.length
  · rw [Nat.min_eq_left h, List.take_of_length_le (by rw [List.length_drop]; exact Nat.le_refl _)]
  · rw [Nat.min_eq_right (by omega), List.drop_of_length_le (by omega : xs.length ≤ n + 1), List.drop_length]
    simp
theorem ok_W_without {k : Nat} {f : Addr} {fd : FuncData} (F : Fun K "without" "Watch.without" s_W_without f fd) (m : Mn mg) (c : Ck K C) (d_behind : Df P w K mg base k "behind_deeds" ["state", "deeds"] (spt A_behind)) : FnOk P w K mg base CX0 (k + 1) f fd ["self", "number"] (spt (A_W_without C)) :=
  okp F sc_W_without (fun _ _ _ _ _ h => by
    obtain ⟨x, ls, lt, N, S, T, n, ks, _, _, _, _, _, rfl, _⟩ := h
    rfl) fun cdv B outer s H E hr ok W W' Ps T' h => by
  obtain ⟨x, ls, lt, N, S, T, n, ks, pl, hn, hs, hz, rfl, rfl, rfl⟩ := h
  refine bwhen (x := false) (PTv.cast (tnot (tchain c_le c_lt vint (vv 1) (jlen pl.td m.len (vtold c (vv 0))))) ?_) (fun e => nomatch e) (fun _ => ?_)
  · rw [List.length_map, decide_eq_true (by omega), decide_eq_true (by omega)]
    rfl
  · refine bret (vcall d_behind hr (acons (jix pl.st (vstates c (vv 0)) (vv 1) (atI_nat (by rw [List.getElem?_map, hs]; rfl))) (acons (PEv.cast (jsl pl.td (vtold c (vv 0)) (osome (vadd (vv 1) vint)) onone) (by rw [cut_drop, ← List.map_drop])) anil)) ⟨N, ks, T.drop (n + 1), by rw [List.length_drop]; omega, rfl, rfl, rfl⟩)
/-- the places of the deeds that the lot needs -/
def neededOf (N : Net) (S : List (List Str)) (T : List Deed) (lot : List Int) : List Nat := (List.range T.length).filter fun n => !goesB N (replay (S.getD n []) (T.drop (n + 1))) lot
def A_W_needed (C : Addr) : Prm := fun ok W W' Ps T' => ∃ (x ls lt : Addr) (N : Net) (S : List (List Str)) (T : List Deed) (ks : List Str) (lot : List Int), Plt W ls lt N S T ∧ Nt N ∧ S.getLast? = some ks ∧ goesB N ks lot = true ∧ T.length ≤ S.length ∧ (∀ s ∈ S, s.length ≤ 10) ∧ T.length ≤ 30 ∧ W' = W ∧ Ps = [Wk C x ls lt, D (ii lot)] ∧ T' = D (ii ((neededOf N S T lot).map fun n : Nat => (n : Int)))
end
theorem LsJ.ext {ok : Addr → Prop} {W : Wd ok} {a p : Addr} {kp : ok p} {ds es : List PyData} {he : immAll es = true} (h : LsJ W a ds) (hd : immAll ds = true) : LsJ (W.ext kp es he) a ds := fun H ⟨j, us, h2, _⟩ => by
  obtain ⟨vs, h1, r⟩ := h H j
  exact ⟨vs, h1, RA.immx h2 hd r⟩
theorem Plt.ext {ok : Addr → Prop} {W : Wd ok} {ls lt p : Addr} {kp : ok p} {es : List PyData} {he : immAll es = true} {N : Net} {S : List (List Str)} {T : List Deed} (h : Plt W ls lt N S T) : Plt (W.ext kp es he) ls lt N S T := ⟨h.st.ext (immAll_map (imm_encS N) S), h.td.ext (immAll_map imm_encD T)⟩
theorem PNv.ext_eq {ok : Addr → Prop} {W : Wd ok} {p : Addr} {kp : ok p} {ds es : List PyData} {hd : immAll ds = true} {he : immAll es = true} {X : Cx} {sts : List Stmt} {W1 : Wd (Kl.exl ok p)} {δ δ' : DEnv (Kl.exl ok p)} (h : PNv W1 (W.ext kp ds hd) X sts δ δ') (e : ds = es) : PNv W1 (W.ext kp es he) X sts δ δ' := by
  subst e
  exact h
section
variable {P : Program} {w : World} {K : PySem.W.Frag} {mg : Str → Option Value} {base : Heap} {C : Addr}
theorem replay_bound {S : List (List Str)} {T : List Deed} {n : Nat} : (S.getD n [] ∈ S ∨ S.getD n [] = []) := by
  by_cases h : n < S.length
  · left
    rw [List.getD_eq_getElem?_getD, List.getElem?_eq_getElem h]
    exact List.getElem_mem h
  · right
    rw [List.getD_eq_getElem?_getD, List.getElem?_eq_none (by omega)]
    rfl
def contN (N : Net) (S : List (List Str)) (T : List Deed) (lot : List Int) (i : Nat) : List PyData := ((List.range i).filter fun n => !goesB N (replay (S.getD n []) (T.drop (n + 1))) lot).map fun n : Nat => .int (n : Int)
theorem cont_on {N : Net} {S : List (List Str)} {T : List Deed} {lot : List Int} {i : Nat} (e : (!goesB N (replay (S.getD i []) (T.drop (i + 1))) lot) = true) : contN N S T lot i ++ [.int (i : Nat)] = contN N S T lot (i + 1) := by
  unfold contN
  rw [List.range_succ, List.filter_append, List.map_append, List.filter_cons, e]
  simp
theorem cont_off {N : Net} {S : List (List Str)} {T : List Deed} {lot : List Int} {i : Nat} (e : (!goesB N (replay (S.getD i []) (T.drop (i + 1))) lot) = false) : contN N S T lot i = contN N S T lot (i + 1) := by
  unfold contN
  rw [List.range_succ, List.filter_append, List.map_append, List.filter_cons, e]
  simp
theorem cont_len {N : Net} {S : List (List Str)} {T : List Deed} {lot : List Int} (i : Nat) : (contN N S T lot i).length ≤ i := by
  unfold contN
  rw [List.length_map]
  exact Nat.le_trans (List.length_filter_le _ _) (by rw [List.length_range]; exact Nat.le_refl _)
theorem range_at {ok : Addr → Prop} {n i : Nat} {T : Ty ok} (h : ((List.range n).map fun i => D (ok := ok) (.int (i : Nat)))[i]? = some T) : i < n ∧ T = D (.int (i : Nat)) := by
  rw [List.getElem?_map] at h
  by_cases hi : i < n
  · rw [List.getElem?_range hi] at h
    exact ⟨hi, (Option.some.inj h).symm⟩
  · rw [List.getElem?_eq_none (by rw [List.length_range]; omega)] at h
    cases h
/-- sfor, ended in a known world -/
theorem sforE {ok : Addr → Prop} {W W2 : Wd ok} {X : Cx} {tg iter : Expr} {body : List Stmt} {pos : Pos} {δ δ2 : DEnv ok} {Ts : List (Ty ok)} (Wi : Nat → Wd ok) (inv : Nat → DEnv ok) (hp : PassesOwn (model X.prog X.w) X.A X.env X.xe) (hc : X.calm = true) (hi : PIv W X tg iter δ Ts) (hw : Wi 0 = W) (h0 : inv 0 = δ)
    (turn : ∀ i T, Ts[i]? = some T → ∃ (δt : DEnv ok) (ws : List Nat) (δe : DEnv ok) (vs : List Nat), PGv (Wi i) X tg (inv i) T δt ws ∧ PNv (Wi i) (Wi (i + 1)) X body δt δe ∧ wipeE δe vs = inv (i + 1)) (e1 : Wi Ts.length = W2) (e2 : inv Ts.length = δ2) (hs : ∀ x, foldedSetIterable iter X.env x = pure x := by intro _; rfl) :
    PSn W W2 X (.For tg iter body [] pos) δ δ2 := by
  have z := sfor (pos := pos) Wi inv hp hc hi hw h0 turn hs
  rw [e1, e2] at z
  exact z
theorem ok_W_needed {k : Nat} {f : Addr} {fd : FuncData} (F : Fun K "needed" "Watch.needed" s_W_needed f fd) (m : Mn mg) (c : Ck K C) (m_goes : Mt P w K mg base C k "goes" ["self", "lot"] (spt (A_W_goes C))) (m_without : Mt P w K mg base C k "without" ["self", "number"] (spt (A_W_without C)))
    (d_goes : Df P w K mg base k "goes_goes" ["net", "keys", "lot"] (spt A_goes)) : FnOk P w K mg base CX0 (k + 1) f fd ["self", "lot"] (spt (A_W_needed C)) :=
  okp F sc_W_needed (fun _ _ _ _ _ h => by
    obtain ⟨x, ls, lt, N, S, T, ks, lot, _, _, _, _, _, _, _, _, rfl, _⟩ := h
    rfl) fun cdv B outer s H E hr ok W W' Ps T' h => by
  obtain ⟨x, ls, lt, N, S, T, ks, lot, pl, nt, hl, hg, hTS, hS, hT, rfl, rfl, rfl⟩ := h
  refine bwhen (x := false) (PTv.cast (tnot (tval (vmeth m_goes c hr (vv 0) (acons (vv 1) anil) ⟨x, ls, lt, N, S, T, ks, lot, pl, nt, hl, rfl, rfl, rfl⟩))) (by rw [hg]; rfl)) (fun e => nomatch e) (fun _ => ?_)
  have imc : ∀ i, immAll (contN N S T lot i) = true := fun i => immAll_map (fun _ => by simp [imm]) _
  refine bgrow 2 (δ := [some (kWk C x ls lt), some (kD (ii lot)), none, none, none, none]) sc_W_needed.nd fun p kp => ⟨W'.ext kp (contN N S T lot T.length) (imc _), fun H j => j.1, ?_⟩
  refine bcons (W' := W'.ext kp (contN N S T lot T.length) (imc _)) (δ1 := [some (Wk C x ls lt), some (D (ii lot)), some (At p), none, none, none]) ?_ (bret (PEv.cast (jtuple ext_ls m.tuple (vv 2)) ?_))
  · exact sforE (fun i => W'.ext kp (contN N S T lot i) (imc i)) (fun _ => [some (Wk C x ls lt), some (D (ii lot)), some (At p), none, none, none]) .never rfl (iRng (n := T.length) m.range (PEv.cast (jlen pl.ext.td m.len (vtold c (vv 0))) (by rw [List.length_map])) (by omega)) rfl rfl (fun i Ti hTi => by
      obtain ⟨hi, rfl⟩ := range_at hTi
      have hs0 : S[i]? = some (S.getD i []) := by
        rw [List.getD_eq_getElem?_getD, List.getElem?_eq_getElem (by omega)]
        rfl
      have hb : (S.getD i []).length ≤ 10 := hS _ (List.mem_of_getElem? hs0)
      refine ⟨_, _, [some (Wk C x ls lt), some (D (ii lot)), some (At p), some (D (.int (i : Nat))), some (D (encN N)), some (D (ss (replay (S.getD i []) (T.drop (i + 1)))))], [3, 4, 5], gname 3 sc_W_needed.nd, ncons (W' := W'.ext kp (contN N S T lot i) (imc i)) (δ1 := [some (Wk C x ls lt), some (D (ii lot)), some (At p), some (D (.int (i : Nat))), some (D (encN N)), some (D (ss (replay (S.getD i []) (T.drop (i + 1)))))]) (by exact sasg (vmeth m_without c hr (vv 0) (acons (vv 3) anil) ⟨x, ls, lt, N, S, T, i, S.getD i [], pl.ext, hi, hs0, by omega, rfl, rfl, rfl⟩) (by exact gtup (ds := [encN N, ss (replay (S.getD i []) (T.drop (i + 1)))]) rfl (gscons (gname 4 sc_W_needed.nd) (gscons (gname 5 sc_W_needed.nd) gsnil)))) (ncons (by exact nif (tnot (tval (vcall d_goes hr (acons (vv 4) (acons (vv 5) (acons (vv 1) anil))) ⟨N, replay (S.getD i []) (T.drop (i + 1)), lot, nt, rfl, rfl, rfl⟩))) (fun e => PNv.ext_eq (ncons (by exact sapp (ext_grow (immAll_append (imc i) (by simp [immAll, imm]))) (vv 2) (vv 3) (by have := cont_len (N := N) (S := S) (T := T) (lot := lot) i; omega)) nnil) (cont_on e)) fun e => PNv.ext_eq nnil (cont_off e)) nnil), rfl⟩) (by simp only [List.length_map, List.length_range]) rfl
  · unfold contN neededOf ii
    rw [List.map_map]
    rfl
end
end Kl
set_option linter.all false
set_option maxRecDepth 100000
set_option maxHeartbeats 4000000
/-! # W4: Watches made: __init__, twin, len -/
namespace Kl
open PySem PySem.Spec PyProof.Rows L2
section
variable {ok : Addr → Prop}
/-- the world in which the instance at x is under way -/
def Wd.ins (W : Wd ok) {x : Addr} (kx : ok x) (C dx : Addr) (fs : List (Str × V)) : Wd (Kl.exl ok x) where
  J := fun H => W.J (del H x) ∧ H x = some (.ins C dx fs)
  loc := fun {H H'} ⟨j, h⟩ h1 h2 => by
    refine ⟨W.loc j (fun a o ka no e => ?_) (fun a ha => ?_), (h2 x fun z => z.2 rfl).trans h⟩
    · by_cases z : a = x
      · rw [z, del_same] at e
        cases e
      · rw [del_ne z] at e ⊢
        exact h1 a o ⟨ka, z⟩ no e
    · have z : a ≠ x := fun z => ha (by rw [z]; exact kx)
      rw [del_ne z, del_ne z]
      exact h2 a fun y => ha y.1
  fresh := fun {H q} ⟨j, h⟩ e => by
    have z : q ≠ x := fun z => by rw [z, h] at e; cases e
    exact ⟨W.fresh j (by rw [del_ne z]; exact e), z⟩
  tup := fun {H q xs} ⟨j, h⟩ e => by
    have z : q ≠ x := fun z => by rw [z, h] at e; cases e
    exact ⟨W.tup j (by rw [del_ne z]; exact e), z⟩
/-- a list stands at a -/
def LsA (ok : Addr → Prop) (H : Hp) (a : Addr) (ds : List PyData) : Prop := ∃ vs, H a = some (.lst vs) ∧ RA ok H vs ds
theorem del_upd {H : Hp} {x : Addr} {o : HO} (h : H x = none) : del (upd H x o) x = H := by
  funext a
  by_cases z : a = x
  · rw [z, del_same, h]
  · rw [del_ne z, upd_ne z]
theorem same_del {H : Hp} {x : Addr} : Same (del H x) H := fun a o e => by
  by_cases z : a = x
  · rw [z, del_same] at e
    cases e
  · rw [del_ne z] at e
    exact e
end
theorem depth_encY (y : Str × Int) : (encY y).depth ≤ 1 := by simp [encY, PyData.depth, PyData.depthAll]
theorem depth_encLn (l : Line) : (encLn l).depth ≤ 1 := by simp [encLn, PyData.depth, PyData.depthAll]
theorem depth_encC (c : Str × Str) : (encC c).depth ≤ 1 := by simp [encC, PyData.depth, PyData.depthAll]
theorem depth_encN (N : Net) : (encN N).depth < 4 := by
  have a := depth_le_map depth_encY N.yards
  have b := depth_le_map depth_encLn N.lines
  have c := depth_le_map depth_encC N.custs
  unfold encN
  simp only [PyData.depth, PyData.depthAll]
  omega
theorem wide_encN {N : Net} (s : Small N) : wideD (encN N) = true := by
  unfold encN
  have := s.yards
  have := s.lines
  have := s.custs
  rw [wideD, wideDs, wideDs, wideDs, wideDs, wideD, wideD, wideD, List.length_map, List.length_map, List.length_map]
  rw [wideDs_of fun y _ => by simp [encY, wideD, wideDs], wideDs_of fun y _ => by simp [encLn, wideD, wideDs], wideDs_of fun y _ => by simp [encC, wideD, wideDs], decide_eq_true (by show 3 ≤ 1000; decide), decide_eq_true (by omega), decide_eq_true (by omega), decide_eq_true (by omega)]
  rfl
theorem tupD_encN (N : Net) : tupD (encN N) = encN N := by
  unfold encN
  simp only [tupD, tupDs]
  rw [tupDs_of fun y => by simp [encY, tupD, tupDs], tupDs_of fun y => by simp [encLn, tupD, tupDs], tupDs_of fun y => by simp [encC, tupD, tupDs]]
/-- self.own_states = [(net, keys)], self.own_told = [], of an instance that is being made -/
def spWI (C : Addr) : Sp := fun vs H Q _ => ∃ (ok : Addr → Prop) (W : Wd ok) (N : Net) (ks : List Str) (x dx : Addr) (H0 : Hp) (v1 v2 : V), vs = [.ref x, v1, v2] ∧ W.J H0 ∧ H0 x = none ∧ H0 dx = none ∧ dx ≠ x ∧ H = upd (upd H0 dx (.own x)) x (.ins C dx []) ∧ R ok H0 v1 (encN N) ∧ R ok H0 v2 (ss ks) ∧ Small N ∧ ks.length ≤ 40 ∧
  ∀ ls lt H2, ok ls → ok lt → lt ≠ ls → H0 ls = none → H0 lt = none → H2 x = some (.ins C dx (wfs ls lt)) → LsA ok H2 ls [encS N ks] → H2 lt = some (.lst []) → Le W H0 (del H2 x) → Q .non H2
section
variable {P : Program} {w : World} {K : PySem.W.Frag} {mg : Str → Option Value} {base : Heap} {C : Addr}
theorem sc_W_init : FnScope ["self", "net", "keys"] ["self", "net", "keys"] (defScope s_W_init) := ⟨rfl, rfl, rfl, by decide +kernel, rfl, by decide +kernel, by decide +kernel⟩
theorem ok_W_init {k : Nat} {f : Addr} {fd : FuncData} (F : Fun K "__init__" "Watch.__init__" s_W_init f fd) (c : Ck K C) (d_tupled : Df P w K mg base k "tupled" ["value"] (spt (A_tupled 4))) : FnOk P w K mg base CX0 (k + 1) f fd ["self", "net", "keys"] (spWI C) :=
  F.ok sc_W_init (fun vs H Q E h => by
    obtain ⟨ok, W, N, ks, x, dx, H0, v1, v2, rfl, _⟩ := h
    rfl) fun cdv A outer s H vs Q E hr h => by
  obtain ⟨ok, W, N, ks, x, dx, H0, v1, v2, rfl, j, hx, hdx, hne, rfl, r1, r2, sm, hk, q⟩ := h
  have kx := W.fresh j hx
  have hx1 : (upd H0 dx (.own x)) x = none := by rw [upd_ne hne.symm]; exact hx
  have jj : (W.ins kx C dx []).J (upd (upd H0 dx (.own x)) x (.ins C dx [])) := ⟨by rw [del_upd hx1]; exact (le_upd j hdx).j, upd_same⟩
  have sm0 : Same H0 (upd (upd H0 dx (.own x)) x (.ins C dx [])) := (same_upd hdx).trans (same_upd hx1)
  refine ⟨_, pss_cons (ps_fld (pv 0) (pe_lst (pa_cons peW pa_nil)) rfl) (pss_cons (ps_fld (pv 0) (pe_lst pa_nil) rfl) pss_nil), ?_⟩
  show tW _ _ _ _ _
  refine (vtup (W := W.ins kx C dx []) (δ := [some (At x), some (D (encN N)), some (D (ss ks))]) (ds := [encN N, ss ks]) (dcons (PEv.cast (vcall d_tupled hr (acons (vv 1) anil) ⟨encN N, depth_encN N, wide_encN sm, rfl, rfl, rfl⟩) (by rw [tupD_encN])) (dcons (PEv.cast (vcall d_tupled hr (acons (vv 2) anil) ⟨ss ks, by rw [depth_ss1]; decide, wideD_ss (by omega), rfl, rfl, rfl⟩) (by rw [tupD_ss])) dnil)) (few (by show 2 ≤ 10000000; decide))).run _ _ _ (sl_start (Ps := [At x, D (encN N), D (ss ks)]) jj (.cons rfl (.cons ((r1.same (Rel.of (same_upd hdx))).exl hx1 |>.same (Rel.of (same_upd hx1))) (.cons ((r2.same (Rel.of (same_upd hdx))).exl hx1 |>.same (Rel.of (same_upd hx1))) .nil)))) fun v H1 s1 p1 => ?_
  refine ⟨few (by show 1 ≤ 10000000; decide), fun ls hls => ?_⟩
  obtain ⟨j1, h1⟩ := s1.j
  have kls : Kl.exl ok x ls := (W.ins kx C dx []).fresh s1.j hls
  refine ⟨_, rfl, x, C, dx, [], rfl, by rw [upd_ne (Ne.symm kls.2)]; exact h1, c.cls, c.no1, by decide, ?_⟩
  refine ⟨Nat.zero_le _, fun lt hlt => ?_⟩
  refine ⟨_, rfl, x, C, dx, [(("own_states" : Str), .ref ls)], rfl, ?_, c.cls, c.no2, by show 1 < 1000; decide, ?_⟩
  · have nx : x ≠ lt := fun z => by rw [← z, upd_same] at hlt; cases hlt
    rw [upd_ne nx, upd_same]
    rfl
  have nx : lt ≠ x := fun z => by rw [z, upd_same] at hlt; cases hlt
  have n2 : lt ≠ ls := fun z => by rw [z, upd_ne kls.2, upd_same] at hlt; cases hlt
  have h1lt : H1 lt = none := by
    rw [upd_ne nx, upd_ne n2] at hlt
    exact hlt
  have klt : Kl.exl ok x lt := (W.ins kx C dx []).fresh s1.j h1lt
  have back : ∀ a, Kl.exl ok x a → H1 a = none → H0 a = none := fun a ka e => by
    cases e0 : H0 a with
    | none => rfl
    | some o =>
      have := s1.rel a o ka (sm0 a o e0)
      rw [e] at this
      cases this
  have sm1 : Same H1 (upd (upd H1 ls (.lst [v])) lt (.lst [])) := (same_upd hls).trans (same_upd (by rw [upd_ne n2]; exact h1lt))
  have smd : Same (del H1 x) (upd (upd (upd (upd H1 ls (.lst [v])) x (.ins C dx [(("own_states" : Str), .ref ls)])) lt (.lst [])) x (.ins C dx (wfs ls lt))) := fun a o e => by
    by_cases z : a = x
    · rw [z, del_same] at e
      cases e
    · rw [del_ne z] at e
      have z1 : a ≠ lt := fun z => by rw [z, h1lt] at e; cases e
      have z2 : a ≠ ls := fun z => by rw [z, hls] at e; cases e
      rw [upd_ne z, upd_ne z1, upd_ne z, upd_ne z2]
      exact e
  have smx : Same (del H1 x) (del (upd (upd (upd (upd H1 ls (.lst [v])) x (.ins C dx [(("own_states" : Str), .ref ls)])) lt (.lst [])) x (.ins C dx (wfs ls lt))) x) := fun a o e => by
    have e' := smd a o e
    by_cases z : a = x
    · rw [z, del_same] at e
      cases e
    · rw [del_ne z]
      exact e'
  refine q ls lt _ kls.1 klt.1 n2 (back ls kls hls) (back lt klt h1lt) upd_same ⟨[v], ?_, .cons (R.unx (p1.same fun a o ka e => smd a o (by rw [del_ne ka.2]; exact e))) .nil⟩ ?_ ⟨fun a o ka e => ?_, W.up j1 smx⟩
  · rw [upd_ne kls.2, upd_ne n2.symm, upd_ne kls.2, upd_same]
  · rw [upd_ne nx, upd_same]
  · have z : a ≠ x := fun z => by rw [z, hx] at e; cases e
    have e1 := s1.rel a o ⟨ka, z⟩ (sm0 a o e)
    exact smx a o (by rw [del_ne z]; exact e1)
end
/-- an expression that makes a Watch: the instance and its lists are new -/
structure PEo {ok : Addr → Prop} (W : Wd ok) (X : Cx) (e : Expr) (δ : DEnv ok) (C : Addr) (N : Net) (S : List (List Str)) (T : List Deed) : Prop where
  run : ∀ (σ : L2.St) (H : Hp) (Q : VK), Sl W H σ δ → (∀ y dy ls lt H2, ok y → ok ls → ok lt → lt ≠ ls → H y = none → H ls = none → H lt = none → H2 y = some (.ins C dy (wfs ls lt)) → LsA ok H2 ls (S.map (encS N)) → LsA ok H2 lt (T.map encD) → Le W H (del H2 y) → Q (.ref y) H2) → tW X e σ H Q
/-- the class can be called -/
structure MkW (P : Program) (w : World) (K : PySem.W.Frag) (mg : Str → Option Value) (base : Heap) (C : Addr) (k : Nat) : Prop where
  gm : mg "Watch" = some (.ref C)
  ex : ∃ (f : Addr) (fd : FuncData), Mk K C f ∧ Binds K fd ["self", "net", "keys"] [] ∧ FnOk P w K mg base CX0 k f fd ["self", "net", "keys"] (spWI C)
section
variable {ok : Addr → Prop} {W : Wd ok} {X : Cx} {δ : DEnv ok} {C : Addr}
theorem vmake {k : Nat} {e1 e2 : Expr} {p pos : Pos} {N : Net} {ks : List Str} (M : MkW X.prog X.w X.K X.mg X.base C k) (hr : Room (k + 1) X.A) (ha : PAv W X [e1, e2] δ [D (encN N), D (ss ks)]) (sm : Small N) (hk : ks.length ≤ 40) (hg : Gl X "Watch" := by rfl)
    (he : starEach [e1, e2] X.env = (false, eval e1 X.env) :: starEach [e2] X.env := by rfl) (hpl : (backTo pos (starEach [e2] X.env)).any (·.1) = false := by rfl) : PEo W X (.Call (.Name "Watch" p) [e1, e2] [] pos) δ C N [ks] [] :=
  ⟨fun σ H Q sl q pins s I => by
    obtain ⟨f, fd, hM, hb, F⟩ := M.ex
    refine (pe_make hM F hr hg M.gm hb .nil pass0 paW (by decide) he hpl).run pins s σ H Q I ?_
    refine ha.run σ H _ sl fun vs H1 s1 p1 x dx hx hdx hne => ?_
    cases p1 with
    | cons p1 t =>
      cases t with
      | cons p2 t =>
        cases t
        refine ⟨ok, W, N, ks, x, dx, H1, _, _, rfl, s1.j, hx, hdx, hne, rfl, p1, p2, sm, hk, fun ls lt H2 k1 k2 ne e1 e2 h1 h2 h3 l => ⟨rfl, ?_⟩⟩
        have bk : ∀ a, ok a → H1 a = none → H a = none := fun a ka e => by
          cases e0 : H a with
          | none => rfl
          | some o =>
            have := s1.rel a o ka e0
            rw [e] at this
            cases this
        have kx := W.fresh s1.j hx
        exact q x dx ls lt H2 kx k1 k2 ne (bk x kx hx) (bk ls k1 e1) (bk lt k2 e2) h1 h2 ⟨_, h3, .nil⟩ (s1.trans l)⟩
end
theorem pg_fld {X : Cx} {o : Expr} {to : TE} {f : Str} {pos : Pos} (ho : PE X o to) : PG X (.Attribute o f pos) (fun v σ H Q => to σ H fun x H2 => ∃ a C dx fs, x = .ref a ∧ H2 a = some (.ins C dx fs) ∧ Cls X.K C ∧ NoAttr X.K C f ∧ fs.length < 1000 ∧ Q σ (upd H2 a (.ins C dx (putF f v fs)))) := by
  refine ⟨fun pins s σ H v u Q I r h => PySem.W.kas_attr (thn (ho.run pins s σ H _ I h) fun ov s2 ⟨x, H2, I2, rx, a, C, dx, fs, ex, ea, c, n, l, q2⟩ => ?_)⟩
  subst ex
  obtain rfl : ov = Value.ref a := rx
  exact setattr_ok I2 ea c n l r fun s3 I3 => ⟨σ, _, I3, q2⟩
/-- twin() -/
def spTwin (C : Addr) : Sp := fun vs H Q _ => ∃ (ok : Addr → Prop) (W : Wd ok) (x ls lt : Addr) (N : Net) (S : List (List Str)) (T : List Deed) (ks : List Str) (v : V), vs = [v] ∧ W.J H ∧ (Wk (ok := ok) C x ls lt).p H v ∧ Plt W ls lt N S T ∧ S.getLast? = some ks ∧ Small N ∧ ks.length ≤ 40 ∧
  ∀ y dy l2 t2 H2, ok y → ok l2 → ok t2 → t2 ≠ l2 → H y = none → H l2 = none → H t2 = none → H2 y = some (.ins C dy (wfs l2 t2)) → LsA ok H2 l2 (S.map (encS N)) → LsA ok H2 t2 (T.map encD) → Le W H (del H2 y) → Q (.ref y) H2
section
variable {P : Program} {w : World} {K : PySem.W.Frag} {mg : Str → Option Value} {base : Heap} {C : Addr}
theorem sc_W_twin : FnScope ["self", "other"] ["self"] (defScope s_W_twin) := ⟨rfl, rfl, rfl, by decide +kernel, rfl, by decide +kernel, by decide +kernel⟩
theorem ok_W_twin {k : Nat} {f : Addr} {fd : FuncData} (F : Fun K "twin" "Watch.twin" s_W_twin f fd) (m : Mn mg) (c : Ck K C) (M : MkW P w K mg base C k) (p_net : Pr P w K mg base C k "net" (spt (A_W_net C))) (p_ring : Pr P w K mg base C k "ring" (spt (A_W_ring C))) : FnOk P w K mg base CX0 (k + 2) f fd ["self"] (spTwin C) :=
  F.ok sc_W_twin (fun vs H Q E h => by
    obtain ⟨ok, W, x, ls, lt, N, S, T, ks, v, rfl, _⟩ := h
    rfl) fun cdv A outer s H vs Q E hr h => by
  obtain ⟨ok, W, x, ls, lt, N, S, T, ks, v, rfl, j, pw, pl, hl, sm, hk, q⟩ := h
  refine ⟨_, pss_cons (ps_set (i := 1) sc_W_twin.nd (by rfl) (by first | exact Or.inl rfl | exact Or.inr rfl) peW (by rfl) (by first | exact .inl rfl | exact .inr rfl)) (pss_cons (ps_asg (pe_tup (pa_cons (pe_callTy call_list_of (by rfl) m.list (by decide +kernel) (pa_cons peW pa_nil)) (pa_cons (pe_callTy call_list_of (by rfl) m.list (by decide +kernel) (pa_cons peW pa_nil)) pa_nil))) (pg_tup rfl (pgs_cons (pg_fld (pv 1)) (pgs_cons (pg_fld (pv 1)) pgs_nil)))) (pss_cons (ps_ret (pv 1)) pss_nil)), ?_⟩
  have sl0 : Sl W H (L2.start ["self", "other"] [v]) (inst ok [some (kWk C x ls lt), none]) := sl_start (Ps := [Wk C x ls lt]) j (.cons pw .nil)
  show tW _ _ _ _ _
  refine (vmake (W := W) (δ := inst ok [some (kWk C x ls lt), none]) M hr (acons (vprop p_net c hr (vv 0) ⟨x, ls, lt, N, S, T, ks, pl, hl, rfl, rfl, rfl⟩) (acons (vprop p_ring c hr (vv 0) ⟨x, ls, lt, N, S, T, ks, pl, hl, rfl, rfl, rfl⟩) anil)) sm hk).run _ _ _ sl0 fun y dy l1 t1 H1 ky _ _ _ ey _ _ h1 _ _ le => ?_
  have rel01 : Rel (Kl.exl ok y) H H1 := fun a o ka e => same_del _ _ (le.rel a o ka.1 e)
  have sl1 := (sl0.opened (W' := W.ins ky C dy (wfs l1 t1)) ey rel01 ⟨le.j, h1⟩).set 1 (v := .ref y) (P := At y) rfl
  show tW _ _ _ _ _
  refine (vstates c (vv 0)).run _ H1 _ sl1 fun v2 H2 s2 p2 => ?_
  cases p2
  obtain ⟨vs2, hv2, r2⟩ := pl.st (del H2 y) s2.j.1
  refine ⟨ls, vs2, rfl, .inl (SqL.of (same_del _ _ hv2)), fun l hl2 => ?_⟩
  have kl : Kl.exl ok y l := (W.ins ky C dy (wfs l1 t1)).fresh s2.j hl2
  have le2 := le_upd (W := W.ins ky C dy (wfs l1 t1)) (o := .lst vs2) s2.j hl2
  show tW _ _ _ _ _
  refine (vtold c (vv 0)).run _ _ _ (sl1.same (s2.trans le2)) fun v3 H3 s3 p3 => ?_
  cases p3
  obtain ⟨vs3, hv3, r3⟩ := pl.td (del H3 y) s3.j.1
  refine ⟨lt, vs3, rfl, .inl (SqL.of (same_del _ _ hv3)), fun t ht => ?_⟩
  have kt : Kl.exl ok y t := (W.ins ky C dy (wfs l1 t1)).fresh s3.j ht
  have h3l : H3 l = some (.lst vs2) := s3.rel l _ kl upd_same
  have h3y : H3 y = some (.ins C dy (wfs l1 t1)) := s3.j.2
  have ntl : t ≠ l := fun z => by rw [z, h3l] at ht; cases ht
  refine ⟨few (by show 2 ≤ 10000000; decide), fun p hp => ?_⟩
  have npt : p ≠ t := fun z => by rw [z, upd_same] at hp; cases hp
  have h3p : H3 p = none := by
    rw [upd_ne npt] at hp
    exact hp
  have npl : p ≠ l := fun z => by rw [z, h3l] at h3p; cases h3p
  have npy : p ≠ y := fun z => by rw [z, h3y] at h3p; cases h3p
  refine ⟨p, _, rfl, SqT.of upd_same, rfl, ?_⟩
  refine ⟨_, _, rfl, _, rfl, y, C, dy, wfs l1 t1, rfl, ?_, c.cls, c.no1, by show 2 < 1000; decide, ?_⟩
  · rw [upd_ne npy.symm, upd_ne kt.2.symm]
    exact h3y
  refine ⟨_, _, rfl, _, rfl, y, C, dy, wfs l t1, rfl, upd_same, c.cls, c.no2, by show 2 < 1000; decide, rfl, ?_⟩
  have smf : Same (del H3 y) (del (upd (upd (upd (upd H3 t (.lst vs3)) p (.tup [.ref l, .ref t])) y (.ins C dy (wfs l t1))) y (.ins C dy (wfs l t))) y) := fun a o e => by
    by_cases z : a = y
    · rw [z, del_same] at e
      cases e
    · rw [del_ne z] at e ⊢
      have z1 : a ≠ t := fun z => by rw [z, ht] at e; cases e
      have z2 : a ≠ p := fun z => by rw [z, h3p] at e; cases e
      rw [upd_ne z, upd_ne z, upd_ne z2, upd_ne z1]
      exact e
  have rel23 : Rel ok (del H2 y) (del H3 y) := fun a o ka e => by
    by_cases z : a = y
    · rw [z, del_same] at e
      cases e
    · rw [del_ne z] at e ⊢
      exact s3.rel a o ⟨ka, z⟩ (le2.rel a o ⟨ka, z⟩ e)
  have rel02 : Rel ok H (del H2 y) := fun a o ka e => by
    have z : a ≠ y := fun z => by rw [z, ey] at e; cases e
    rw [del_ne z]
    exact s2.rel a o ⟨ka, z⟩ (rel01 a o ⟨ka, z⟩ e)
  have bk : ∀ a, ok a → ∀ {G : Hp}, Rel ok H G → G a = none → H a = none := fun a ka G r e => by
    cases e0 : H a with
    | none => rfl
    | some o =>
      have := r a o ka e0
      rw [e] at this
      cases this
  refine ⟨_, rfl, q y dy l t _ ky kl.1 kt.1 ntl ey (bk l kl.1 rel02 (by rw [del_ne kl.2]; exact hl2)) (bk t kt.1 (rel02.trans rel23) (by rw [del_ne kt.2]; exact ht)) upd_same ⟨vs2, ?_, ?_⟩ ⟨vs3, ?_, ?_⟩ ⟨(rel02.trans rel23).trans (Rel.of smf), W.up s3.j.1 smf⟩⟩
  · rw [upd_ne kl.2, upd_ne kl.2, upd_ne npl.symm, upd_ne ntl.symm]
    exact h3l
  · exact r2.same ((rel23.trans (Rel.of smf)).trans (Rel.of same_del))
  · rw [upd_ne kt.2, upd_ne kt.2, upd_ne npt.symm, upd_same]
  · exact r3.same ((Rel.of smf).trans (Rel.of same_del))
end
end Kl
set_option linter.all false
set_option maxRecDepth 100000
set_option maxHeartbeats 4000000
/-! # W5: a Watch that is new: its world; twin(), len(x) -/
namespace Kl
open PySem PySem.Spec PyProof.Rows L2
section
variable {ok : Addr → Prop} {W : Wd ok} {X : Cx} {δ : DEnv ok} {C : Addr}
/-- x.twin() -/
theorem vtwin {x ls lt : Addr} {k : Nat} {o : Expr} {apos pos : Pos} {pl : Sem Bool} {N : Net} {S : List (List Str)} {T : List Deed} {ks : List Str} (M : Mt X.prog X.w X.K X.mg X.base C k "twin" ["self"] (spTwin C)) (c : Ck X.K C) (hr : Room k X.A) (ho : PEv W X o δ (Wk C x ls lt)) (hP : Plt W ls lt N S T) (hl : S.getLast? = some ks) (sm : Small N) (hk : ks.length ≤ 40)
    (ht : eval (.Call (.Attribute o "twin" apos) [] [] pos) X.env = (do
      let ov ← eval o X.env
      standAt apos.atName
      let (f, first) ← holding [ov] (getMethod ov "twin" pl)
      callWith pos f first (backTo pos (starEach [] X.env)) (backToKw pos (keywordEach [] X.env))) := by rfl) : PEo W X (.Call (.Attribute o "twin" apos) [] [] pos) δ C N S T :=
  ⟨fun σ H Q sl q pins s I => by
    obtain ⟨f, fd, hM, hb, F⟩ := M.ex
    refine (pe_meth0 (pl := pl) peW c.cls hM F hr hb .nil pass0 ht).run pins s σ H Q I ?_
    refine ho.run σ H _ sl fun v H1 s1 p1 => ?_
    obtain ⟨rfl, kx, dx, h2⟩ := id p1
    refine ⟨x, dx, wfs ls lt, rfl, h2, by rfl, ?_⟩
    have bk : ∀ a, ok a → H1 a = none → H a = none := fun a ka e => by
      cases e0 : H a with
      | none => rfl
      | some o =>
        have := s1.rel a o ka e0
        rw [e] at this
        cases this
    exact ⟨ok, W, x, ls, lt, N, S, T, ks, _, rfl, s1.j, p1, hP, hl, sm, hk, fun y dy l2 t2 H2 ky k1 k2 ne e0 e1 e2 h1 h2 h3 l => q y dy l2 t2 H2 ky k1 k2 ne (bk y ky e0) (bk l2 k1 e1) (bk t2 k2 e2) h1 h2 h3 (s1.trans l)⟩⟩
/-- what len of an instance needs -/
structure LenC (P : Program) (w : World) (K : PySem.W.Frag) (mg : Str → Option Value) (base : Heap) (C : Addr) (k : Nat) : Prop where
  ex : ∃ (f : Addr) (fd : FuncData), PySem.W.findIn K (.ref C) "__len__" = some (some (.ref f)) ∧ PySem.W.isFn K (.ref f) = true ∧ Binds K fd ["self"] [] ∧ FnOk P w K mg base CX0 k f fd ["self"] (spt (A_W_len C))
theorem call_lenW {k : Nat} (L : LenC X.prog X.w X.K X.mg X.base C k) (hr : Room (k + 1) X.A) : CallR X (.builtin "len") (fun xs H Q => ∃ (x dx : Addr) (fs : List (Str × V)), xs = [.ref x] ∧ H x = some (.ins C dx fs) ∧ spt (A_W_len C) [.ref x] H (fun v H2 => ∃ n : Nat, v = .int n ∧ n < 2 ^ 63 ∧ Q v H2) (fun _ _ _ => False)) := by
  intro pins s σ H xs us Q I rv h
  obtain ⟨x, dx, fs, rfl, ha, hq⟩ := h
  obtain ⟨u, rfl, ru⟩ := rv.one
  obtain rfl : u = Value.ref x := ru
  obtain ⟨f, fd, hs, hf, hb, F⟩ := L.ex
  obtain ⟨mA, J, _⟩ := ins_get I.hok ha
  obtain ⟨od, J, _⟩ := J.look
  obtain ⟨m1, hF⟩ := I.fr
  refine PySem.W.len_K hF I.ok.mod.kin J hs hf ?_
  have hl := F.len _ _ _ _ hq
  refine wpAny_call (codeAny_mono (F.run X.A.in1 X.stack s H ⟨[.ref x], []⟩ [.ref x] [.ref x] _ _ hr.in1 I.env0.in1 (by
    have := hb s [.ref x] I.kIn (by simpa using hl)
    simpa using this) (.cons rfl .nil) hq) fun r s' hq' => ?_)
  cases r with
  | error e => exact pass0 pins σ H s e s' I hq'
  | ok fl =>
    cases fl with
    | next => exact False.elim hq'
    | brk => exact False.elim hq'
    | cont => exact False.elim hq'
    | ret u =>
      obtain ⟨v, H', I', rv, n, rfl, hn, q⟩ := I.after hq'
      obtain ⟨t, rfl⟩ := (show ∃ t, u = Value.int n t from rv)
      exact ⟨⟨by omega, by omega⟩, .int n, H', I'.tok _, ⟨_, rfl⟩, q⟩
theorem vlenW {x ls lt : Addr} {k : Nat} {e : Expr} {p pos : Pos} {N : Net} {S : List (List Str)} {T : List Deed} (L : LenC X.prog X.w X.K X.mg X.base C k) (hr : Room (k + 1) X.A) (hm : X.mg "len" = none) (he : PEv W X e δ (Wk C x ls lt)) (hP : Plt W ls lt N S T) (hz : T.length ≤ 1000) (hg : Gl X "len" := by rfl)
    (hs : starEach [e] X.env = (false, eval e X.env) :: starEach [] X.env := by rfl) : PEv W X (.Call (.Name "len" p) [e] [] pos) δ (D (.int (T.length : Nat))) :=
  vcb (call_lenW L hr) hm (by decide +kernel) (acons he anil hs) (fun H vs Q j h q => by
    cases h with
    | cons p1 t =>
      cases t
      obtain ⟨rfl, kx, dx, h2⟩ := id p1
      refine ⟨x, dx, _, rfl, h2, ok, W, W, _, _, j, .cons p1 .nil, ⟨x, ls, lt, N, S, T, hP, rfl, rfl, rfl⟩, fun v H3 s3 j3 p3 => ?_⟩
      cases p3
      exact ⟨T.length, rfl, by omega, q _ H3 ⟨s3, j3⟩ (.int _)⟩) hg (he := hs)
end
/-! ### the world of a new Watch -/
section
variable {ok : Addr → Prop} {W : Wd ok} {ls lt : Addr}
theorem PK.to2 (k : PK) {H H' : Hp} {v : V} (h1 : H ls = none) (h2 : H lt = none) (r : Rel (Kl.exl (Kl.exl ok ls) lt) H H') (p : (k.t ok).p H v) : (k.t (Kl.exl (Kl.exl ok ls) lt)).p H' v := (k.t _).mono r (k.to h2 (k.to h1 p))
theorem inst_at {δ : List (Option PK)} {i : Nat} {P : Ty ok} (h : (inst ok δ)[i]? = some (some P)) : ∃ k, δ[i]? = some (some k) ∧ P = k.t ok := by
  unfold inst at h
  rw [List.getElem?_map] at h
  cases e : δ[i]? with
  | none =>
    rw [e] at h
    cases h
  | some o =>
    rw [e] at h
    cases o with
    | none => cases h
    | some k =>
      cases h
      exact ⟨k, rfl, rfl⟩
theorem at_inst {δ : List (Option PK)} {i : Nat} {k : PK} (h : δ[i]? = some (some k)) : (inst ok δ)[i]? = some (some (k.t ok)) := by
  unfold inst
  rw [List.getElem?_map, h]
  rfl
theorem inst_len {δ : List (Option PK)} : (inst ok δ).length = δ.length := List.length_map ..
theorem Sl.opened2 {W' : Wd (Kl.exl (Kl.exl ok ls) lt)} {H H' : Hp} {σ : L2.St} {δ : List (Option PK)} (sl : Sl W H σ (inst ok δ)) (h1 : H ls = none) (h2 : H lt = none) (r : Rel (Kl.exl (Kl.exl ok ls) lt) H H') (j : W'.J H') : Sl W' H' σ (inst (Kl.exl (Kl.exl ok ls) lt) δ) := by
  refine ⟨j, by rw [sl.len, inst_len, inst_len], fun i P h => ?_⟩
  obtain ⟨k, e, rfl⟩ := inst_at h
  obtain ⟨v, e1, p⟩ := sl.at_ i (k.t ok) (at_inst e)
  exact ⟨v, e1, k.to2 h1 h2 r p⟩
theorem Sl.closed2 {W' : Wd (Kl.exl (Kl.exl ok ls) lt)} {H : Hp} {σ : L2.St} {δ : List (Option PK)} (sl : Sl W' H σ (inst (Kl.exl (Kl.exl ok ls) lt) δ)) (j : W.J H) : Sl W H σ (inst ok δ) := by
  refine ⟨j, by rw [sl.len, inst_len, inst_len], fun i P h => ?_⟩
  obtain ⟨k, e, rfl⟩ := inst_at h
  obtain ⟨v, e1, p⟩ := sl.at_ i _ (at_inst e)
  exact ⟨v, e1, k.un (k.un p)⟩
/-- the lists of a new Watch make its world -/
theorem pl_new {H H2 : Hp} {y dy C : Addr} {N : Net} {S : List (List Str)} {T : List Deed} (k1 : ok ls) (k2 : Kl.exl ok ls lt) (h1 : LsA ok H2 ls (S.map (encS N))) (h2 : LsA ok H2 lt (T.map encD)) (l : Le W H (del H2 y)) : (W.pl k1 k2 N S T).J H2 := by
  obtain ⟨vs, e1, r1⟩ := h1
  obtain ⟨us, e2, r2⟩ := h2
  refine ⟨⟨W.up l.j same_del, vs, e1, RA.immx e1 (immAll_map (imm_encS N) S) r1⟩, us, e2, RA.immx e2 (immAll_map imm_encD T) (RA.immx e1 (immAll_map imm_encD T) r2)⟩
theorem Wk.new {H H2 : Hp} {y dy C : Addr} (ky : ok y) (h : H2 y = some (.ins C dy (wfs ls lt))) (e1 : H ls = none) (h1 : ∃ vs, H2 ls = some (.lst vs)) (h2 : ∃ vs, H2 lt = some (.lst vs)) : (Wk (ok := Kl.exl (Kl.exl ok ls) lt) C y ls lt).p H2 (.ref y) := by
  obtain ⟨vs, h1⟩ := h1
  obtain ⟨us, h2⟩ := h2
  exact ⟨rfl, ⟨⟨ky, fun z => by rw [z, h1] at h; cases h⟩, fun z => by rw [z, h2] at h; cases h⟩, dy, h⟩
/-- x = a new Watch, then a block within its world -/
theorem nopen (i : Nat) {X : Cx} {δ δ2 : List (Option PK)} {x : Str} {px pos : Pos} {e : Expr} {rest : List Stmt} {C : Addr} {N : Net} {S : List (List Str)} {T : List Deed} (hN : X.N.Nodup) (he : PEo W X e (inst ok δ) C N S T)
    (hrest : ∀ (y ls lt : Addr) (k1 : ok ls) (k2 : Kl.exl ok ls lt), ∃ W' : Wd (Kl.exl (Kl.exl ok ls) lt), (∀ H, W'.J H → W.J H) ∧ PNv (W.pl k1 k2 N S T) W' X rest ((inst (Kl.exl (Kl.exl ok ls) lt) δ).set i (some (Wk C y ls lt))) (inst (Kl.exl (Kl.exl ok ls) lt) δ2))
    (hi : X.N[i]? = some x := by rfl) (hx : Loc X.env.scope x := by first | exact Or.inl rfl | exact Or.inr rfl) (hs : swapsWith e (some (.Name x px)) pos.line X.env = pure false := by rfl) (hf : X.fn x = true ∨ X.env.scope.names.lookup x = some .local := by first | exact .inl rfl | exact .inr rfl) :
    PNv W W X (.Assign [.Name x px] e pos :: rest) (inst ok δ) (inst ok δ2) :=
  PNv.of (pss_cons (ps_set hN hi hx peW hs hf) pbW) fun σ H E sl q => by
    refine he.run σ H _ sl fun y dy ls lt H2 ky k1 kt ne ey e1 e2 h1 h2 h3 l => ?_
    obtain ⟨W', w1, w2⟩ := hrest y ls lt k1 ⟨kt, ne⟩
    have l1 : ∃ vs, H2 ls = some (.lst vs) := ⟨_, h2.choose_spec.1⟩
    have l2 : ∃ vs, H2 lt = some (.lst vs) := ⟨_, h3.choose_spec.1⟩
    have r : Rel (Kl.exl (Kl.exl ok ls) lt) H H2 := fun a o ka z => same_del _ _ (l.rel a o ka.1.1 z)
    refine w2.run _ _ _ ((sl.opened2 e1 e2 r (pl_new (H := H) (y := y) (dy := dy) (C := C) k1 ⟨kt, ne⟩ h2 h3 l)).set i (Wk.new (H := H) ky h1 e1 l1 l2)) fun σ' H3 r3 sl3 => q σ' H3 (fun a o ka z => ?_) (sl3.closed2 (w1 H3 sl3.j))
    have n1 : a ≠ ls := ne_of_none z e1
    have n2 : a ≠ lt := ne_of_none z e2
    exact r3 a o ⟨⟨ka, n1⟩, n2⟩ (r a o ⟨⟨ka, n1⟩, n2⟩ z)
end
end Kl
set_option linter.all false
set_option maxRecDepth 100000
set_option maxHeartbeats 4000000
/-! # L1: the law's own small defs -/
namespace Kl
open PySem PySem.Spec PyProof.Rows L2
section
variable {ok : Addr → Prop} {W : Wd ok} {X : Cx} {δ : DEnv ok}
theorem eqv_nil (xs : List Str) : PyData.eqv (.list (xs.map .str)) (.list []) = xs.isEmpty := by
  cases xs with
  | nil => simp [PyData.eqv, PyData.eqvAll]
  | cons x xs => simp [PyData.eqv, PyData.eqvAll]
theorem c_eqNil {xs : List Str} (hu : X.A.units + 64 < cLine) : Cm W X .Eq (D (.list (xs.map .str))) (D (.list [])) xs.isEmpty := by
  rw [← eqv_nil]
  refine c_eqP hu ?_ ?_ ?_
  · rw [PyData.plain]
    exact plain_strs xs
  · simp [PyData.plain, PyData.plainAll]
  · have := depth_map (f := PyData.str) (fun _ => by simp [PyData.depth]) xs
    rw [PyData.depth, this]
    decide
end
section
variable {P : Program} {w : World} {K : PySem.W.Frag} {mg : Str → Option Value} {base : Heap}
/-! ### _law_keys -/
theorem sc_L_keys : FnScope ["_law_hub", "_law_own"] ["_law_hub"] (defScope s_L_keys) := ⟨rfl, rfl, rfl, by decide +kernel, rfl, by decide +kernel, by decide +kernel⟩
theorem ok_L_keys {f : Addr} {fd : FuncData} (F : Fun K "_law_keys" "_law_keys" s_L_keys f fd) (m : Mn mg) : FnOk P w K mg base CX0 1 f fd ["_law_hub"] (spt A_keys_of) :=
  okp F sc_L_keys (fun ok W W' Ps T h => by
    obtain ⟨N, _, _, rfl, _⟩ := h
    rfl) fun cdv B outer s H E hr ok W W' Ps T h => by
  obtain ⟨N, sm, rfl, rfl, rfl⟩ := h
  have := sm.lines
  refine bret (vtupleL m.tuple (vsortset mk_str hr.units rfl (xs := N.lines.map (·.key)) (by rw [List.length_map]; omega) m.sorted m.set (.inl ?_)))
  rw [List.map_map]
  exact vlcA (own := [("_law_own", 1)]) N.lines (fun l => D (encLn l)) (fun l => .str l.key) rfl sc_L_keys.nd (by kernel_rfl) (iTm (vixT (vv 0) vint (at0 1))) (by omega) fun l hl =>
    turn (fun _ _ _ _ _ => gname 1 sc_L_keys.nd) (fun _ _ _ _ _ => qnil) (fun _ _ _ _ _ _ => vixT (vv 1) vint (at0 4)) (fun _ => nol_imm rfl)
/-! ### _law_sets -/
theorem sc_L_sets : FnScope ["_law_tags", "_law_found", "_law_tag", "_law_own"] ["_law_tags"] (defScope s_L_sets) := ⟨rfl, rfl, rfl, by decide +kernel, rfl, by decide +kernel, by decide +kernel⟩
def A_L_sets : Prm := fun ok W W' Ps T => ∃ ns : List Str, ns.length ≤ 4 ∧ W' = W ∧ Ps = [D (ss ns)] ∧ T = D (.list ((subsRaw ns).map ss))
theorem ok_L_sets {f : Addr} {fd : FuncData} (F : Fun K "_law_sets" "_law_sets" s_L_sets f fd) (m : Mn mg) : FnOk P w K mg base CX0 1 f fd ["_law_tags"] (spt A_L_sets) :=
  okp F sc_L_sets (fun ok W W' Ps T h => by
    obtain ⟨N, _, _, rfl, _⟩ := h
    rfl) fun cdv B outer s H E hr ok W W' Ps T h => by
  obtain ⟨ns, hn, rfl, rfl, rfl⟩ := h
  refine bcons (sset 1 sc_L_sets.nd (vlst (dcons (vtup dnil (Nat.zero_le _)) dnil) (few (by decide)))) ?_
  refine bcons (PSn.forget (sfor (Ts := ns.map fun x => D (.str x)) (fun _ => W') (fun i => [some (D (ss ns)), some (D (.list ((subsRaw (ns.take i)).map ss))), none, none]) .never rfl (iTm (vv 0)) rfl rfl fun i T hT => ?_) []) ?_
  · rw [List.getElem?_map] at hT
    cases hn' : ns[i]? with
    | none =>
      rw [hn'] at hT
      cases hT
    | some n =>
      rw [hn'] at hT
      cases hT
      have hlen : (subsRaw (ns.take i)).length ≤ 16 := subs_len _ (by rw [List.length_take]; omega)
      refine ⟨_, _, _, [2], gname 2 sc_L_sets.nd, ncons (sset 1 sc_L_sets.nd (vcatL (xs := (subsRaw (ns.take i)).map ss) (ys := (subsRaw (ns.take i)).map fun s => ss (s ++ [n])) (vv 1) ?_ (by rw [List.length_map, List.length_map]; omega))) nnil, ?_⟩
      · refine vlcA (own := [("_law_own", 3)]) (subsRaw (ns.take i)) (fun s => D (ss s)) (fun s => ss (s ++ [n])) rfl sc_L_sets.nd (by kernel_rfl) (iLm (vv 1)) (by omega) fun s hs => turn (fun _ _ _ _ _ => gname 3 sc_L_sets.nd) (fun _ _ _ _ _ => qnil) (fun _ _ _ _ _ _ => PEv.cast (vcatT (ys := [.str n]) (vv 3) (vtup (dcons (vv 2) dnil) (few (by show 1 ≤ 10000000; decide))) ?_) ?_) (fun _ => nol_imm (imm_ss _))
        · have := subs_mem hs
          rw [List.length_take] at this
          simp only [List.length_map, List.length_cons, List.length_nil]
          omega
        · unfold ss
          rw [List.map_append]
          rfl
      · rw [subs_take hn', List.map_append, List.map_map]
        rfl
  · rw [List.length_map, List.take_length]
    exact bret (vv 1)
/-! ### _law_has_less -/
theorem sc_L_has_less : FnScope ["_law_some", "_law_own", "_law_far", "_law_key"] ["_law_some", "_law_own"] (defScope s_L_has_less) := ⟨rfl, rfl, rfl, by decide +kernel, rfl, by decide +kernel, by decide +kernel⟩
def lessIn (own far : List Str) : Bool := !decide (far = own) && (far.filter fun k => !decide (k ∈ own)).isEmpty
def hasLess (fam : List (List Str)) (own : List Str) : Bool := fam.any (lessIn own)
def A_L_has_less : Prm := fun ok W W' Ps T => ∃ (fam : List (List Str)) (own : List Str), fam.length ≤ 100 ∧ (∀ s ∈ fam, s.length ≤ 100) ∧ W' = W ∧ Ps = [D (.list (fam.map ss)), D (ss own)] ∧ T = D (.bool (hasLess fam own))
theorem ok_L_has_less {f : Addr} {fd : FuncData} (F : Fun K "_law_has_less" "_law_has_less" s_L_has_less f fd) (m : Mn mg) : FnOk P w K mg base CX0 1 f fd ["_law_some", "_law_own"] (spt A_L_has_less) :=
  okp F sc_L_has_less (fun ok W W' Ps T h => by
    obtain ⟨_, _, _, _, _, rfl, _⟩ := h
    rfl) fun cdv B outer s H E hr ok W W' Ps T h => by
  obtain ⟨fam, own, hf, hb, rfl, rfl, rfl⟩ := h
  refine bret (PEv.cast (vany (bs := fam.map (lessIn own)) rfl m.any ?_) ?_)
  · rw [List.map_map]
    exact vlcA (own := [("_law_far", 2), ("_law_key", 3)]) fam (fun s => D (ss s)) (fun far => .bool (lessIn own far)) rfl sc_L_has_less.nd (by kernel_rfl) (iLm (vv 0)) (by omega) fun far hfar =>
      turn (fun _ _ _ _ _ => gname 2 sc_L_has_less.nd) (fun _ _ _ _ _ => qnil) (fun _ _ _ _ _ _ => vand (vc (c_neS hr.units) (vv 2) (vv 1)) fun _ => vone (vc (c_eqNil hr.units) (vlcD (own := [("_law_key", 3)]) far (fun k => D (.str k)) (fun k => !decide (k ∈ own)) (fun k => .str k) rfl sc_L_has_less.nd (by kernel_rfl) (iTm (vv 2)) (by have := hb far hfar; omega) fun k hk =>
        turn (fun _ _ _ _ _ => gname 3 sc_L_has_less.nd) (fun _ _ _ _ _ => qone (tc c_nin (vv 3) (vv 1))) (fun _ _ _ _ _ _ => vv 3) (fun _ => nol_imm rfl)) (vlst dnil (Nat.zero_le _)))) (fun _ => nol_imm rfl)
  · unfold hasLess
    rw [List.any_map]
    rfl
end
end Kl
set_option linter.all false
set_option maxRecDepth 100000
set_option maxHeartbeats 4000000
/-! # M1: tuple * 0, tuple * 1 -/
namespace Kl
open PySem PySem.Spec PyProof.Rows L2
theorem tuple_mul0 (l : Addr) (items : Array Value) (n : Nat) (dd : Option Addr) (sl : Array (Option Value)) (u : Tok) (hi : items.isEmpty = false) :
    Meets (Builtin.«tuple.__mul__» ⟨[.ref l, .int 0 u], []⟩) (fun _ R s => s.heap.get? l = some { cls := .type "tuple", dict := dd, data := .seq items n, slots := sl } ∧
      R (.ok (.ret (Value.ref s.heap.objs.size))) { s with heap := s.heap.push { cls := Value.type "tuple", data := Data.seq #[] }, toks := s.toks }) :=
  .of_wp fun prog w A R s h => by
    obtain ⟨hp, g, d, tk, os⟩ := s
    obtain ⟨hl, h⟩ := h
    have f1 := AutoSeq1.idx_int
    have c1 : (items.isEmpty || (0 : Int) == 1) = false := by rw [hi]; rfl
    wp_walk using wpAny_loadPart' hl
    repeat (first
      | (refine wpAny_ite_false (decide_eq_false (by rw [c1]; exact Bool.false_ne_true)) ?_; wp_walk using wpAny_loadPart' hl))
    all_goals exact ⟨_, rfl, h⟩
theorem tuple_mul1 (l : Addr) (items : Array Value) (n : Nat) (dd : Option Addr) (sl : Array (Option Value)) (u : Tok) :
    Meets (Builtin.«tuple.__mul__» ⟨[.ref l, .int 1 u], []⟩) (fun _ R s => s.heap.get? l = some { cls := .type "tuple", dict := dd, data := .seq items n, slots := sl } ∧ R (.ok (.ret (Value.ref l))) s) :=
  .of_wp fun prog w A R s h => by
    obtain ⟨hp, g, d, tk, os⟩ := s
    obtain ⟨hl, h⟩ := h
    have f1 := AutoSeq1.idx_int
    have c1 : (items.isEmpty || (1 : Int) == 1) = true := by rw [Bool.or_eq_true]; exact .inr rfl
    wp_walk using wpAny_loadPart' hl
    repeat (first
      | (refine wpAny_ite_true (decide_eq_true c1) ?_; wp_walk using wpAny_loadPart' hl))
    all_goals exact ⟨_, rfl, h⟩
def rRep01 (K : PySem.W.Frag) : R2 := fun x y H Q => ∃ l k xs, x = .ref l ∧ y = .int k ∧ SqT K H l xs ∧ xs ≠ [] ∧ ((k = 0 ∧ ∀ p, H p = none → Q (.ref p) (upd H p (.tup []))) ∨ (k = 1 ∧ Q (.ref l) H))
theorem op_rep01 {X : Cx} : OpR X (binaryOp .Mult) (rRep01 X.K) := by
  intro pins s σ H x y v u Q I rx ry h
  obtain ⟨l, k, xs, rfl, rfl, hT, hne, hk⟩ := h
  cases rx
  obtain ⟨t, rfl⟩ := ry
  obtain ⟨its, r, ⟨⟨cls, dd, data, sl⟩, ho, hc, n, hd⟩, hs⟩ := I.tuple hT
  simp only at hc hd
  subst hc hd
  have hi : its.toArray.isEmpty = false := by
    cases its with
    | nil =>
      cases r
      exact absurd rfl hne
    | cons a b => rfl
  rcases hk with ⟨rfl, q⟩ | ⟨rfl, q⟩
  · refine wpAny_binaryOp_repeat_ref (T := "tuple") (U := "int") (by decide) ⟨_, ho, rfl⟩ (fun s' => typeIs_int s' 0 t) noFill_tuple_mul F.fills_int_mul F.slot_int_rmul repeat_tuple F.slot_int_index.lookup
      (call_meets F.slot_int_rmul (typeIs_int s 0 t) F.entry_int_rmul (F.args_int_rmul_2 _ _) (int_rmul_tuple 0 t l its.toArray n dd sl)
        ⟨ho, rfl, ⟨_, ho, rfl⟩, call_meets F.slot_tuple_mul ⟨_, ho, rfl⟩ F.entry_tuple_mul (F.args_tuple_mul_2 _ _) (tuple_mul0 l its.toArray n dd sl t hi) ⟨ho, ?_⟩⟩)
    refine ⟨.ref s.heap.objs.size, _, I.laid (t' := s.toks) (o := .tup []) (fun b ob q => Heap.get?_push_of_some _ q) (Nat.le_refl _) ?_, rfl, q _ (I.hok.fresh (Nat.le_refl _))⟩
    exact ⟨Nat.zero_le _, [], .nil, IsTup.new _ _⟩
  · refine wpAny_binaryOp_repeat_ref (T := "tuple") (U := "int") (by decide) ⟨_, ho, rfl⟩ (fun s' => typeIs_int s' 1 t) noFill_tuple_mul F.fills_int_mul F.slot_int_rmul repeat_tuple F.slot_int_index.lookup
      (call_meets F.slot_int_rmul (typeIs_int s 1 t) F.entry_int_rmul (F.args_int_rmul_2 _ _) (int_rmul_tuple 1 t l its.toArray n dd sl)
        ⟨ho, rfl, ⟨_, ho, rfl⟩, call_meets F.slot_tuple_mul ⟨_, ho, rfl⟩ F.entry_tuple_mul (F.args_tuple_mul_2 _ _) (tuple_mul1 l its.toArray n dd sl t) ⟨ho, ?_⟩⟩)
    exact ⟨.ref l, H, I, rfl, q⟩
end Kl
set_option linter.all false
set_option maxRecDepth 100000
set_option maxHeartbeats 4000000
/-! # M2: dicts of whole numbers by names -/
namespace Kl
open PySem PySem.Spec PyProof.Rows L2
/-! ### the tables -/
def encF (ns : List Str) (f : Str → Int) : List (L2.Key × V) := ns.map fun n => (.inr n, .int (f n))
theorem valV_encF {f : Str → Int} {n : Str} : ∀ {ns : List Str}, n ∈ ns → valV (encF ns f) (.inr n : L2.Key) = some (.int (f n))
  | m :: ns, h => by
    by_cases e : m = n
    · subst e
      exact valV_pos (p := ((.inr m : L2.Key), V.int (f m))) rfl
    · show valV ((((.inr m : L2.Key)), V.int (f m)) :: encF ns f) _ = _
      rw [valV_neg (fun z => e (Sum.inr.inj z))]
      exact valV_encF ((List.mem_cons.mp h).resolve_left fun z => e z.symm)
theorem putK_encF {f : Str → Int} {n : Str} {v : Int} {ns : List Str} (h : n ∈ ns) : putK (encF ns f) (.inr n : L2.Key) (.int v) = encF ns fun m => if m = n then v else f m := by
  unfold putK encF
  rw [if_pos (by
    rw [List.any_map, List.any_eq_true]
    exact ⟨n, h, by simp⟩), List.map_map]
  refine List.map_congr_left fun m _ => ?_
  by_cases e : m = n
  · subst e
    simp
  · simp only [Function.comp_apply]
    rw [if_neg (fun z => e (Sum.inr.inj z)), if_neg e]
theorem merge_new : ∀ {more acc : List (L2.Key × V)}, (∀ p ∈ more, ∀ q ∈ acc, q.1 ≠ p.1) → (more.map (·.1)).Nodup → mergeK acc more = acc ++ more
  | [], acc, _, _ => by simp [mergeK]
  | p :: more, acc, h, nd => by
    rw [List.map_cons, List.nodup_cons] at nd
    have e : putK acc p.1 p.2 = acc ++ [p] := by
      unfold putK
      rw [if_neg]
      simp only [List.any_eq_true, decide_eq_true_eq, not_exists, not_and]
      exact fun q hq => h p List.mem_cons_self q hq
    show mergeK (putK acc p.1 p.2) more = _
    rw [e, merge_new (fun q hq r hr => ?_) nd.2, List.append_assoc]
    · rfl
    · rcases List.mem_append.mp hr with hr | hr
      · exact h q (List.mem_cons_of_mem _ hq) r hr
      · rw [List.mem_singleton.mp hr]
        exact fun z => nd.1 (z ▸ List.mem_map.mpr ⟨q, hq, rfl⟩)
def encPs (ps : List (Str × Int)) : List (L2.Key × V) := ps.map fun p => (.inr p.1, .int p.2)
theorem merge_ps {ps : List (Str × Int)} (nd : (ps.map (·.1)).Nodup) : mergeK [] (encPs ps) = encPs ps := by
  rw [merge_new (fun _ _ q hq => by cases hq), List.nil_append]
  unfold encPs
  rw [List.map_map]
  have : (List.map ((fun x : L2.Key × V => x.1) ∘ fun p : Str × Int => ((Sum.inr p.1 : L2.Key), V.int p.2)) ps) = (ps.map (·.1)).map Sum.inr := by rw [List.map_map]; rfl
  rw [this]
  exact List.Pairwise.map _ (fun a b (h : a ≠ b) z => h (Sum.inr.inj z)) nd
/-- what the first pair of this name holds -/
def stockOf (ps : List (Str × Int)) (n : Str) : Int := ((ps.find? fun p => decide (p.1 = n)).map (·.2)).getD 0
theorem stock_cons_ne {p : Str × Int} {ps : List (Str × Int)} {n : Str} (h : p.1 ≠ n) : stockOf (p :: ps) n = stockOf ps n := by
  unfold stockOf
  rw [List.find?_cons, decide_eq_false h]
theorem stock_cons {p : Str × Int} {ps : List (Str × Int)} : stockOf (p :: ps) p.1 = p.2 := by
  unfold stockOf
  rw [List.find?_cons, decide_eq_true rfl]
  rfl
theorem encPs_encF : ∀ {ps : List (Str × Int)}, (ps.map (·.1)).Nodup → encPs ps = encF (ps.map (·.1)) (stockOf ps)
  | [], _ => rfl
  | p :: ps, nd => by
    rw [List.map_cons, List.nodup_cons] at nd
    show ((.inr p.1 : L2.Key), V.int p.2) :: encPs ps = ((.inr p.1 : L2.Key), V.int (stockOf (p :: ps) p.1)) :: encF (ps.map (·.1)) (stockOf (p :: ps))
    rw [encPs_encF nd.2, stock_cons]
    congr 1
    unfold encF
    refine List.map_congr_left fun n hn => ?_
    rw [stock_cons_ne (fun z => nd.1 (z ▸ hn))]
/-! ### dict(a tuple of pairs), the tuple laid with its object -/
section
variable {X : Cx}
theorem pairs_of2 {pins : List (Addr × Obj)} {σ : L2.St} {H : Hp} {s : Shared} (I : Inv X pins σ H s) : ∀ {ps : List Addr} {kvs : List (L2.Key × V)}, Paired (fun p kv => SqT X.K H p [kV kv.1, kv.2]) ps kvs →
    ∃ (prs : List (L2.Key × Value)) (us : List (Value × Value)), KV kvs prs ∧ prs.length = ps.length ∧ us.length = ps.length ∧ ∀ (j : Nat) (u v : Value), us[j]? = some (u, v) → ∃ (b : Addr) (k : L2.Key), ps[j]? = some b ∧ prs[j]? = some (k, v) ∧ IsTup s.heap b #[u, v] ∧ keyIs k u = true
  | _, _, .nil => ⟨[], [], .nil, rfl, rfl, fun j u v e => by simp at e⟩
  | _, _, .cons (a := p) (b := kv) h t => by
    obtain ⟨prs, us, r, hl, hl2, hp⟩ := pairs_of2 I t
    obtain ⟨its, rv, ht, _⟩ := I.tuple h
    obtain ⟨u, y, ei, ru, ry⟩ := vals2 rv
    subst ei
    refine ⟨(kv.1, y) :: prs, (u, y) :: us, .cons ⟨rfl, ry⟩ r, by rw [List.length_cons, List.length_cons, hl], by rw [List.length_cons, List.length_cons, hl2], fun j u' v' e => ?_⟩
    cases j with
    | zero =>
      have e' : (u, y) = (u', v') := Option.some.inj e
      cases e'
      exact ⟨p, kv.1, rfl, rfl, ht, kV_is (P := X.prog) (w := X.w) ru⟩
    | succ j =>
      obtain ⟨b, k, e1, e2, e3, e4⟩ := hp j u' v' (by simpa using e)
      exact ⟨b, k, by simpa using e1, by simpa using e2, e3, e4⟩
theorem call_dictPT (hcalm : X.calm = true) : CallR X (.type "dict") (fun xs H Q => ∃ (a : Addr) (o : Obj) (ps : List Addr) (kvs : List (L2.Key × V)), xs = [.ref a] ∧ H a = some (.frz o (.tup (ps.map V.ref))) ∧ o.dict = none ∧ Paired (fun p kv => SqT X.K H p [kV kv.1, kv.2]) ps kvs ∧
    ∀ p, H p = none → Q (.ref p) (upd H p (.dK (mergeK [] kvs)))) := by
  intro pins s σ H xs us Q I r q
  obtain ⟨a, o, ps, kvs, ex, hq, hd, hp, q⟩ := q
  subst ex
  obtain ⟨u, eu, rx⟩ := vals1 r
  subst eu
  cases rx
  obtain ⟨ho, hz, its, rv, o', ho', hc, n, hdat⟩ : ObjOk X.prog X.w H s.heap a (.frz o (.tup (ps.map V.ref))) := I.hok a _ hq
  rw [ho] at ho'
  cases ho'
  have ei := refs_at rv
  subst ei
  rw [List.length_map] at hz
  obtain ⟨prs, us, rel, hl, hl2, hpr⟩ := pairs_of2 I hp
  have hjl : ∀ (j : Nat) (k : L2.Key) (v : Value), prs[j]? = some (k, v) → j < us.length := fun j k v e => by
    rw [hl2, ← hl]
    exact (List.getElem?_eq_some_iff.mp e).1
  refine PySem.call_dict_pairs (knd := mixKind X.prog X.w) (kvs := prs) (PairArg.tuple a (ps.map Value.ref).toArray (fun j => ps.getD j 0) us) (I.ok.hd hcalm) ⟨⟨o, n, ho, hc, hd, hdat⟩, ?_, fun j k v e => ?_⟩ ⟨by rw [hl, hl2], fun j k v e => ?_⟩ (by rw [hl2]; exact hz) fun h' tk hd' k => ?_
  · rw [List.size_toArray, List.length_map, hl2]
  · obtain ⟨b, k', e1, e2, e3, e4⟩ := hpr j k v e
    have eb : ps.getD j 0 = b := by rw [List.getD_eq_getElem?_getD, e1]; rfl
    show _ = some (Value.ref (ps.getD j 0)) ∧ PairAt s.heap (ps.getD j 0) k v
    rw [eb]
    exact ⟨by simp [e1], .inl e3⟩
  · obtain ⟨b, k', e1, e2, e3, e4⟩ := hpr j k v e
    exact ⟨k', e2, e4⟩
  · have hm : (s.heap.objs.size == sysModules) = false := beq_eq_false_iff_ne.mpr (Nat.ne_of_gt I.big)
    have hlen : (mergeK [] kvs).length ≤ sizeLine := by
      refine Nat.le_trans (length_mergeK kvs []) ?_
      rw [List.length_nil, Nat.zero_add, rel.length, hl]
      exact hz
    exact ⟨.ref s.heap.objs.size, upd H s.heap.objs.size (.dK (mergeK [] kvs)), I.laid (t' := tk) (fun b o e => k b o (fun z => by cases z) e) (Nat.le_refl _) (show ObjOk X.prog X.w _ _ _ (.dK (mergeK [] kvs)) from ⟨hlen, hm, merged [] prs, KV.merge rel .nil, hd'⟩), rfl, q _ (I.hok.fresh (Nat.le_refl _))⟩
end
end Kl
set_option linter.all false
set_option maxRecDepth 100000
set_option maxHeartbeats 4000000
/-! # M3: kinds of dicts, hubs; worlds in which a dict or a list of kinds is under way -/
namespace Kl
open PySem PySem.Spec PyProof.Rows L2
section
variable {ok : Addr → Prop}
def Dy (ns : List Str) (f : Str → Int) : Ty ok := ⟨fun H v => ∃ a, v = .ref a ∧ ok a ∧ Rd H a (.dK (encF ns f)), fun e ⟨a, h1, ka, h2⟩ => ⟨a, h1, ka, rdm h2 fun o => e _ o ka⟩⟩
def Dz (ns : List Str) (f : Str → Int) : Ty ok := ⟨fun H v => ∃ a o, v = .ref a ∧ ok a ∧ H a = some (.frz o (.dK (encF ns f))), fun e ⟨a, o, h1, ka, h2⟩ => ⟨a, o, h1, ka, e _ _ ka h2⟩⟩
theorem Dz.y {ns : List Str} {f : Str → Int} {H : Hp} {v : V} (h : (Dz (ok := ok) ns f).p H v) : (Dy (ok := ok) ns f).p H v := by
  obtain ⟨a, o, h1, ka, h2⟩ := h
  exact ⟨a, h1, ka, .inr ⟨o, h2⟩⟩
def Fz (ds : List PyData) : Ty ok := ⟨fun H v => ∃ a o vs, v = .ref a ∧ ok a ∧ H a = some (.frz o (.tup vs)) ∧ o.dict = none ∧ RA ok H vs ds, fun e ⟨a, o, vs, h1, ka, h2, hd, r⟩ => ⟨a, o, vs, h1, ka, e _ _ ka h2, hd, r.same e⟩⟩
theorem Fz.d {es : List PyData} {ds : List PyData} {H : Hp} {v : V} (h : (Fz (ok := ok) (.tuple es :: ds)).p H v) : (D (ok := ok) (.tuple (.tuple es :: ds))).p H v := by
  obtain ⟨a, o, vs, rfl, ka, h2, hd, r⟩ := h
  exact R.tup ka (.inr ⟨o, es, ds, h2, rfl⟩) r
/-- a net, its yards laid with their object -/
def Hub (N : Net) : Ty ok := Tp [Fz (N.yards.map encY), D (.tuple (N.lines.map encLn)), D (.tuple (N.custs.map encC))]
theorem Hub.d {N : Net} (hN : N.yards ≠ []) {H : Hp} {v : V} (h : (Hub (ok := ok) N).p H v) : (D (ok := ok) (encN N)).p H v := by
  obtain ⟨a, vs, rfl, ka, h2, t⟩ := h
  refine R.tup ka (.inl h2) ?_
  cases t with
  | cons p1 t =>
    cases t with
    | cons p2 t =>
      cases t with
      | cons p3 t =>
        cases t
        refine .cons ?_ (.cons p2 (.cons p3 .nil))
        cases e : N.yards with
        | nil => exact absurd e hN
        | cons y ys =>
          rw [e] at p1
          exact Fz.d p1
end
/-! ### kinds for every world -/
def kDy (ns : List Str) (f : Str → Int) : PK := ⟨fun ok => Dy ns f, fun hp ⟨a, h1, ka, h2⟩ => ⟨a, h1, ⟨ka, h2.elim (fun h => ne_of_none h hp) fun ⟨_, h⟩ => ne_of_none h hp⟩, h2⟩, fun ⟨a, h1, ka, h2⟩ => ⟨a, h1, ka.1, h2⟩⟩
def kDz (ns : List Str) (f : Str → Int) : PK := ⟨fun ok => Dz ns f, fun hp ⟨a, o, h1, ka, h2⟩ => ⟨a, o, h1, ⟨ka, ne_of_none h2 hp⟩, h2⟩, fun ⟨a, o, h1, ka, h2⟩ => ⟨a, o, h1, ka.1, h2⟩⟩
def kFz (ds : List PyData) : PK := ⟨fun ok => Fz ds, fun hp ⟨a, o, vs, h1, ka, h2, hd, r⟩ => ⟨a, o, vs, h1, ⟨ka, ne_of_none h2 hp⟩, h2, hd, r.exl hp⟩, fun ⟨a, o, vs, h1, ka, h2, hd, r⟩ => ⟨a, o, vs, h1, ka.1, h2, hd, r.unx⟩⟩
theorem tya_to {ok : Addr → Prop} {p : Addr} {H : Hp} (hp : H p = none) : ∀ {vs : List V} {ks : List PK}, TyA H vs (ks.map fun k => k.t ok) → TyA H vs (ks.map fun k => k.t (Kl.exl ok p))
  | _, [], h => by cases h; exact .nil
  | _, k :: ks, h => by
    cases h with
    | cons h t => exact .cons (k.to hp h) (tya_to hp t)
theorem tya_un {ok : Addr → Prop} {p : Addr} {H : Hp} : ∀ {vs : List V} {ks : List PK}, TyA H vs (ks.map fun k => k.t (Kl.exl ok p)) → TyA H vs (ks.map fun k => k.t ok)
  | _, [], h => by cases h; exact .nil
  | _, k :: ks, h => by
    cases h with
    | cons h t => exact .cons (k.un h) (tya_un t)
def kTp (ks : List PK) : PK := ⟨fun ok => Tp (ks.map fun k => k.t ok), fun hp ⟨a, vs, h1, ka, h2, t⟩ => ⟨a, vs, h1, ⟨ka, ne_of_none h2 hp⟩, h2, tya_to hp t⟩, fun ⟨a, vs, h1, ka, h2, t⟩ => ⟨a, vs, h1, ka.1, h2, tya_un t⟩⟩
def kLs (ks : List PK) : PK := ⟨fun ok => Ls (ks.map fun k => k.t ok), fun hp ⟨a, vs, h1, ka, h2, t⟩ => ⟨a, vs, h1, ⟨ka, ne_of_none h2 hp⟩, h2, tya_to hp t⟩, fun ⟨a, vs, h1, ka, h2, t⟩ => ⟨a, vs, h1, ka.1, h2, tya_un t⟩⟩
def kHub (N : Net) : PK := kTp [kFz (N.yards.map encY), kD (.tuple (N.lines.map encLn)), kD (.tuple (N.custs.map encC))]
section
variable {ok : Addr → Prop} {W : Wd ok} {X : Cx} {δ : DEnv ok}
/-- an item of a tuple of kinds -/
theorem vixK {a b : Expr} {pos : Pos} {Ps : List (Ty ok)} {i : Int} {P : Ty ok} (ha : PEv W X a δ (Tp Ps)) (hb : PEv W X b δ (D (.int i))) (h : atI Ps i = some P) (hs : PlainIx b := by intro _ _; rfl) : PEv W X (.Subscript a b pos) δ P :=
  PEv.of (pe_ix ix_tup peW peW hs) fun σ H Q sl q => ha.run σ H _ sl fun x H1 s1 p1 => hb.run σ H1 _ (sl.same s1) fun y H2 s2 p2 => by
    cases p2
    obtain ⟨a, xs, rfl, ka, h1, t⟩ := p1
    have hx : ∃ v, atI xs i = some v ∧ P.p H1 v := by
      unfold atI at h ⊢
      rw [t.length]
      cases e : ixN Ps.length i with
      | none =>
        rw [e] at h
        cases h
      | some j =>
        rw [e] at h
        exact t.at h
    obtain ⟨v, hv, pv⟩ := hx
    exact ⟨a, xs, i, v, rfl, rfl, SqT.of (s2.rel _ _ ka h1), hv, q v H2 (s1.trans s2) (P.mono s2.rel pv)⟩
/-! ### an object of the def's own -/
/-- the world in which what stands at p is of this kind -/
def Wd.obj (W : Wd ok) {p : Addr} (kp : ok p) (φ : HO → Prop) (nt : ∀ xs, ¬ φ (.tup xs)) : Wd (Kl.exl ok p) where
  J := fun H => W.J (del H p) ∧ ∃ o, H p = some o ∧ φ o
  loc := fun {H H'} ⟨j, o, h, z⟩ h1 h2 => by
    refine ⟨W.loc j (fun a o ka no e => ?_) (fun a ha => ?_), o, (h2 p fun z => z.2 rfl).trans h, z⟩
    · by_cases z : a = p
      · rw [z, del_same] at e
        cases e
      · rw [del_ne z] at e ⊢
        exact h1 a o ⟨ka, z⟩ no e
    · have z : a ≠ p := fun z => ha (by rw [z]; exact kp)
      rw [del_ne z, del_ne z]
      exact h2 a fun y => ha y.1
  fresh := fun {H q} ⟨j, o, h, _⟩ e => by
    have z : q ≠ p := fun z => by rw [z, h] at e; cases e
    exact ⟨W.fresh j (by rw [del_ne z]; exact e), z⟩
  tup := fun {H q xs} ⟨j, o, h, f⟩ e => by
    have z : q ≠ p := fun z => by
      rw [z, h] at e
      cases e
      exact nt xs f
    exact ⟨W.tup j (by rw [del_ne z]; exact e), z⟩
theorem obj_new {p : Addr} {kp : ok p} {φ : HO → Prop} {nt : ∀ xs, ¬ φ (.tup xs)} {H : Hp} {o : HO} (j : W.J H) (hp : H p = none) (h : φ o) : (W.obj kp φ nt).J (upd H p o) := ⟨by rw [del_upd hp]; exact j, o, upd_same, h⟩
theorem obj_set {p : Addr} {kp : ok p} {φ ψ : HO → Prop} {nt : ∀ xs, ¬ φ (.tup xs)} {nu : ∀ xs, ¬ ψ (.tup xs)} {H : Hp} {o : HO} (j : (W.obj kp φ nt).J H) (h : ψ o) : (W.obj kp ψ nu).J (upd H p o) := ⟨by
  have e : del (upd H p o) p = del H p := by
    funext a
    by_cases z : a = p
    · rw [z, del_same, del_same]
    · rw [del_ne z, del_ne z, upd_ne z]
  rw [e]
  exact j.1, o, upd_same, h⟩
theorem obj_j {p : Addr} {kp : ok p} {φ : HO → Prop} {nt : ∀ xs, ¬ φ (.tup xs)} {H : Hp} (j : (W.obj kp φ nt).J H) : W.J H := W.up j.1 same_del
abbrev Wd.dic (W : Wd ok) {p : Addr} (kp : ok p) (ns : List Str) (f : Str → Int) : Wd (Kl.exl ok p) := W.obj kp (fun o => o = .dK (encF ns f)) (fun _ z => nomatch z)
theorem dic_at {p : Addr} {kp : ok p} {ns : List Str} {f : Str → Int} {H : Hp} (j : (W.dic kp ns f).J H) : H p = some (.dK (encF ns f)) := by
  obtain ⟨_, o, h, rfl⟩ := j
  exact h
/-- a new dict -/
structure PEd (W : Wd ok) (X : Cx) (e : Expr) (δ : DEnv ok) (ns : List Str) (f : Str → Int) : Prop where
  run : ∀ (σ : L2.St) (H : Hp) (Q : VK), Sl W H σ δ → (∀ p H2, H2 p = none → Le W H H2 → Q (.ref p) (upd H2 p (.dK (encF ns f)))) → tW X e σ H Q
theorem PEd.v {e : Expr} {ns : List Str} {f : Str → Int} (h : PEd W X e δ ns f) : PEv W X e δ (Dy ns f) :=
  ⟨fun σ H Q sl q => h.run σ H Q sl fun p H2 hp s => q _ _ (s.trans (le_upd s.j hp)) ⟨p, rfl, W.fresh s.j hp, .inl upd_same⟩⟩
theorem pairs_ra {K : PySem.W.Frag} {H : Hp} : ∀ {vs : List V} {ps : List (Str × Int)}, RA ok H vs (ps.map encY) → ∃ as : List Addr, vs = as.map V.ref ∧ Paired (fun p (kv : L2.Key × V) => SqT K H p [kV kv.1, kv.2]) as (encPs ps)
  | _, [], h => by cases h; exact ⟨[], rfl, .nil⟩
  | _, p :: ps, h => by
    cases h with
    | cons h t =>
      obtain ⟨as, rfl, r⟩ := pairs_ra (K := K) t
      cases h with
      | @tup a xs _ ka h1 r1 =>
        cases r1 with
        | cons r2 r3 =>
          cases r2
          cases r3 with
          | cons r4 r5 =>
            cases r4
            cases r5
            exact ⟨a :: as, rfl, .cons (.inl h1.rd) r⟩
/-- dict(pairs) -/
theorem vdictL {a : Expr} {p pos : Pos} {ps : List (Str × Int)} (hc : X.calm = true) (hm : X.mg "dict" = none) (nd : (ps.map (·.1)).Nodup) (ha : PEv W X a δ (D (.list (ps.map encY)))) (hg : Gl X "dict" := by rfl) (hs : starEach [a] X.env = (false, eval a X.env) :: starEach [] X.env := by rfl) : PEd W X (.Call (.Name "dict" p) [a] [] pos) δ (ps.map (·.1)) (stockOf ps) :=
  ⟨fun σ H Q sl q pins s I => (pe_callTy (call_dictP hc) hg hm (by decide +kernel) paW (he := hs)).run pins s σ H Q I ((acons ha anil hs).run σ H _ sl fun vs H1 s1 p1 => by
    cases p1 with
    | cons p1 t =>
      cases t
      cases p1 with
      | @lst a xs _ ka h1 r =>
        obtain ⟨as, rfl, pr⟩ := pairs_ra (K := X.K) r
        refine ⟨a, as, encPs ps, rfl, SqL.of h1, pr, fun p hp => ?_⟩
        rw [merge_ps nd, encPs_encF nd]
        exact q p H1 hp s1)⟩
theorem vdictF {a : Expr} {p pos : Pos} {ps : List (Str × Int)} (hc : X.calm = true) (hm : X.mg "dict" = none) (nd : (ps.map (·.1)).Nodup) (ha : PEv W X a δ (Fz (ps.map encY))) (hg : Gl X "dict" := by rfl) (hs : starEach [a] X.env = (false, eval a X.env) :: starEach [] X.env := by rfl) : PEd W X (.Call (.Name "dict" p) [a] [] pos) δ (ps.map (·.1)) (stockOf ps) :=
  ⟨fun σ H Q sl q pins s I => (pe_callTy (call_dictPT hc) hg hm (by decide +kernel) paW (he := hs)).run pins s σ H Q I ((acons ha anil hs).run σ H _ sl fun vs H1 s1 p1 => by
    cases p1 with
    | cons p1 t =>
      cases t
      obtain ⟨a, o, xs, rfl, ka, h1, hd, r⟩ := p1
      obtain ⟨as, rfl, pr⟩ := pairs_ra (K := X.K) r
      refine ⟨a, o, as, encPs ps, rfl, h1, hd, pr, fun p hp => ?_⟩
      rw [merge_ps nd, encPs_encF nd]
      exact q p H1 hp s1)⟩
theorem vdcopy {a : Expr} {p pos : Pos} {ns : List Str} {f : Str → Int} (hm : X.mg "dict" = none) (ha : PEv W X a δ (Dy ns f)) (hg : Gl X "dict" := by rfl) (hs : starEach [a] X.env = (false, eval a X.env) :: starEach [] X.env := by rfl) : PEd W X (.Call (.Name "dict" p) [a] [] pos) δ ns f :=
  ⟨fun σ H Q sl q pins s I => (pe_callTy call_dictD hg hm (by decide +kernel) paW (he := hs)).run pins s σ H Q I ((acons ha anil hs).run σ H _ sl fun vs H1 s1 p1 => by
    cases p1 with
    | cons p1 t =>
      cases t
      obtain ⟨a, rfl, ka, h1⟩ := p1
      exact ⟨a, _, rfl, h1, fun p hp => q p H1 hp s1⟩)⟩
/-- d[n] -/
theorem vdget {a b : Expr} {pos : Pos} {ns : List Str} {f : Str → Int} {n : Str} (hu : X.A.units + 64 < cLine) (hn : n ∈ ns) (ha : PEv W X a δ (Dy ns f)) (hb : PEv W X b δ (D (.str n))) (hs : NoSl b := by intro _ _; rfl) : PEv W X (.Subscript a b pos) δ (D (.int (f n))) :=
  PEv.of (pe_dget (by omega) peW peW hs) fun σ H Q sl q => ha.run σ H _ sl fun x H1 s1 p1 => hb.run σ H1 _ (sl.same s1) fun y H2 s2 p2 => by
    cases p2
    obtain ⟨a, rfl, ka, h1⟩ := p1
    exact ⟨a, _, rfl, .inl ⟨encF ns f, .inr n, rdm h1 fun o => s2.rel _ o ka, rfl, (valV_encF hn).symm⟩, q _ H2 (s1.trans s2) (.int _)⟩
theorem jdget {a b : Expr} {pos : Pos} {p : Addr} {kp : ok p} {ns : List Str} {f : Str → Int} {n : Str} {δ : DEnv (Kl.exl ok p)} (hu : X.A.units + 64 < cLine) (hn : n ∈ ns) (ha : PEv (W.dic kp ns f) X a δ (At p)) (hb : PEv (W.dic kp ns f) X b δ (D (.str n))) (hs : NoSl b := by intro _ _; rfl) : PEv (W.dic kp ns f) X (.Subscript a b pos) δ (D (.int (f n))) :=
  PEv.of (pe_dget (by omega) peW peW hs) fun σ H Q sl q => ha.run σ H _ sl fun x H1 s1 p1 => hb.run σ H1 _ (sl.same s1) fun y H2 s2 p2 => by
    cases p2
    cases p1
    exact ⟨p, _, rfl, .inl ⟨encF ns f, .inr n, .inl (dic_at s2.j), rfl, (valV_encF hn).symm⟩, q _ H2 (s1.trans s2) (.int _)⟩
theorem encF_len {ns : List Str} {f : Str → Int} : (encF ns f).length = ns.length := by
  unfold encF
  rw [List.length_map]
/-- d[n] = e -/
theorem sdput {o i value : Expr} {pos pos' : Pos} {p : Addr} {kp : ok p} {ns : List Str} {f : Str → Int} {n : Str} {v : Int} {δ : DEnv (Kl.exl ok p)} (hu : X.A.units + 64 < cLine) (hn : n ∈ ns) (hz : ns.length ≤ 1000) (ho : PEv (W.dic kp ns f) X o δ (At p)) (hi : PEv (W.dic kp ns f) X i δ (D (.str n))) (hv : PEv (W.dic kp ns f) X value δ (D (.int v)))
    (hs : swapsWith value (some (.Subscript o i pos')) pos.line X.env = pure false := by rfl) : PSn (W.dic kp ns f) (W.dic kp ns fun m => if m = n then v else f m) X (.Assign [.Subscript o i pos'] value pos) δ δ :=
  PSn.of (ps_dput (by omega) peW peW peW hs) fun σ H E sl q => hv.run σ H _ sl fun y H1 s1 p1 => ho.run σ H1 _ (sl.same s1) fun x H2 s2 p2 => hi.run σ H2 _ ((sl.same s1).same s2) fun z H3 s3 p3 => by
    cases p1
    cases p2
    cases p3
    have h3 := dic_at s3.j
    refine ⟨p, _, rfl, .inl ⟨encF ns f, .inr n, h3, rfl, by rw [encF_len]; exact few' (by omega), rfl⟩, ?_⟩
    rw [putK_encF hn]
    have rel3 : Rel (Kl.exl ok p) H3 (upd H3 p (.dK (encF ns fun m => if m = n then v else f m))) := fun a o ka e => by
      rw [upd_ne ka.2]
      exact e
    exact q _ _ (((s1.trans s2).trans s3).rel.trans rel3) ((((sl.same s1).same s2).same s3).to rel3 (obj_set s3.j rfl))
end
/-! ### from the world of the own object back -/
section
variable {ok : Addr → Prop} {p : Addr}
theorem Sl.close {W : Wd ok} {W' : Wd (Kl.exl ok p)} {H : Hp} {σ : L2.St} {δ : List (Option PK)} (i : Nat) {T : Ty (Kl.exl ok p)} {P : Ty ok} (sl : Sl W' H σ ((inst (Kl.exl ok p) δ).set i (some T))) (j : W.J H) (h : ∀ v, T.p H v → P.p H v) : Sl W H σ ((inst ok δ).set i (some P)) := by
  refine ⟨j, by rw [sl.len, List.length_set, List.length_set, inst_len, inst_len], fun k Q hk => ?_⟩
  by_cases e : i = k
  · subst e
    by_cases hl : i < δ.length
    · rw [List.getElem?_set_self (by rw [inst_len]; exact hl)] at hk
      cases hk
      obtain ⟨v, h1, h2⟩ := sl.at_ i T (List.getElem?_set_self (by rw [inst_len]; exact hl))
      exact ⟨v, h1, h v h2⟩
    · rw [List.getElem?_eq_none (by rw [List.length_set, inst_len]; omega)] at hk
      cases hk
  · rw [List.getElem?_set_ne e] at hk
    obtain ⟨q, e1, rfl⟩ := inst_at hk
    obtain ⟨v, h1, h2⟩ := sl.at_ k (q.t _) (by rw [List.getElem?_set_ne e]; exact at_inst e1)
    exact ⟨v, h1, q.un h2⟩
end
section
variable {ok : Addr → Prop} {W W2 : Wd ok} {X : Cx}
/-- x = a new dict; two statements of its own; the rest has it steady -/
theorem ndict2 (i : Nat) {δ δ2 : List (Option PK)} {δ3 : DEnv ok} {x : Str} {px pos : Pos} {e : Expr} {s1 s2 : Stmt} {tail : List Stmt} {ns : List Str} {f f1 f2 : Str → Int} (hN : X.N.Nodup) (he : PEd W X e (inst ok δ) ns f)
    (h1 : ∀ (p : Addr) (kp : ok p), PSn (W.dic kp ns f) (W.dic kp ns f1) X s1 ((inst (Kl.exl ok p) δ).set i (some (At p))) ((inst (Kl.exl ok p) δ2).set i (some (At p)))) (h2 : ∀ (p : Addr) (kp : ok p), PSn (W.dic kp ns f1) (W.dic kp ns f2) X s2 ((inst (Kl.exl ok p) δ2).set i (some (At p))) ((inst (Kl.exl ok p) δ2).set i (some (At p))))
    (ht : PNv W W2 X tail ((inst ok δ2).set i (some (Dy ns f2))) δ3)
    (hi : X.N[i]? = some x := by rfl) (hx : Loc X.env.scope x := by first | exact Or.inl rfl | exact Or.inr rfl) (hs : swapsWith e (some (.Name x px)) pos.line X.env = pure false := by rfl) (hf : X.fn x = true ∨ X.env.scope.names.lookup x = some .local := by first | exact .inl rfl | exact .inr rfl) :
    PNv W W2 X (.Assign [.Name x px] e pos :: s1 :: s2 :: tail) (inst ok δ) δ3 :=
  PNv.of (pss_cons (ps_set hN hi hx peW hs hf) (pss_cons psW (pss_cons psW pbW))) fun σ H E sl q => by
    refine he.run σ H _ sl fun p H1 hp l => ?_
    have kp := W.fresh l.j hp
    have hp0 : H p = none := by
      cases e0 : H p with
      | none => rfl
      | some o =>
        have := l.rel p o kp e0
        rw [hp] at this
        cases this
    have r1 : Rel (Kl.exl ok p) H (upd H1 p (.dK (encF ns f))) := fun a o ka z => by
      rw [upd_ne ka.2]
      exact l.rel a o ka.1 z
    refine (h1 p kp).run _ _ _ ((sl.opened (W' := W.dic kp ns f) hp0 r1 (obj_new l.j hp rfl)).set i (P := At p) rfl) fun σ2 H2 r2 sl2 => (h2 p kp).run σ2 H2 _ sl2 fun σ3 H3 r3 sl3 => ?_
    refine ht.run σ3 H3 _ (sl3.close i (obj_j sl3.j) fun v hv => ⟨p, hv, kp, .inl (dic_at sl3.j)⟩) fun σ4 H4 r4 sl4 => q σ4 H4 (Rel.trans (fun a o ka z => ?_) r4) sl4
    have na : a ≠ p := ne_of_none z hp0
    exact r3 a o ⟨ka, na⟩ (r2 a o ⟨ka, na⟩ (r1 a o ⟨ka, na⟩ z))
/-- x = a new dict; a statement of its own; return it -/
theorem bdictR (i : Nat) {δ δ2 : List (Option PK)} {x : Str} {px pos rpos : Pos} {e er : Expr} {s1 : Stmt} {ns : List Str} {f f1 : Str → Int} (hN : X.N.Nodup) (he : PEd W X e (inst ok δ) ns f)
    (h1 : ∀ (p : Addr) (kp : ok p), PSn (W.dic kp ns f) (W.dic kp ns f1) X s1 ((inst (Kl.exl ok p) δ).set i (some (At p))) ((inst (Kl.exl ok p) δ2).set i (some (At p)))) (h2 : ∀ (p : Addr) (kp : ok p), PEv (W.dic kp ns f1) X er ((inst (Kl.exl ok p) δ2).set i (some (At p))) (At p))
    (hi : X.N[i]? = some x := by rfl) (hx : Loc X.env.scope x := by first | exact Or.inl rfl | exact Or.inr rfl) (hs : swapsWith e (some (.Name x px)) pos.line X.env = pure false := by rfl) (hf : X.fn x = true ∨ X.env.scope.names.lookup x = some .local := by first | exact .inl rfl | exact .inr rfl) :
    PBv W W X [.Assign [.Name x px] e pos, s1, .Return (some er) rpos] (inst ok δ) (Dz ns f1) :=
  PBv.of (pss_cons (ps_set hN hi hx peW hs hf) (pss_cons psW (pss_cons (ps_ret (pe_fix peW)) pss_nil))) fun σ H E sl q => by
    refine he.run σ H _ sl fun p H1 hp l => ?_
    have kp := W.fresh l.j hp
    have hp0 : H p = none := by
      cases e0 : H p with
      | none => rfl
      | some o =>
        have := l.rel p o kp e0
        rw [hp] at this
        cases this
    have r1 : Rel (Kl.exl ok p) H (upd H1 p (.dK (encF ns f))) := fun a o ka z => by
      rw [upd_ne ka.2]
      exact l.rel a o ka.1 z
    refine (h1 p kp).run _ _ _ ((sl.opened (W' := W.dic kp ns f) hp0 r1 (obj_new l.j hp rfl)).set i (P := At p) rfl) fun σ2 H2 r2 sl2 => ?_
    refine (h2 p kp).run σ2 H2 _ sl2 fun v H3 l3 pv => ?_
    cases pv
    have e3 := dic_at l3.j
    refine ⟨p, _, rfl, e3, trivial, fun od => q _ _ (fun a o ka z => ?_) (obj_j (obj_set (W := W) (kp := kp) (φ := fun o => o = .dK (encF ns f1)) (nt := fun _ z => nomatch z) (ψ := fun o => o = .frz od (.dK (encF ns f1))) (nu := fun _ z => nomatch z) l3.j rfl)) ⟨p, od, rfl, kp, upd_same⟩⟩
    have na : a ≠ p := ne_of_none z hp0
    rw [upd_ne na]
    exact l3.rel a o ⟨ka, na⟩ (r2 a o ⟨ka, na⟩ (r1 a o ⟨ka, na⟩ z))
end
end Kl
set_option linter.all false
set_option maxRecDepth 100000
set_option maxHeartbeats 4000000
/-! # M4: a list of kinds under way -/
namespace Kl
open PySem PySem.Spec PyProof.Rows L2
/-- kinds that stand while all but lists and tables by tuples stands -/
def FirmT {ok : Addr → Prop} (P : Ty ok) : Prop := ∀ (H H' : Hp) (v : V), (∀ a o, ok a → Firm o → H a = some o → H' a = some o) → P.p H v → P.p H' v
structure FKd extends PK where
  firm : ∀ ok : Addr → Prop, FirmT (t ok)
theorem firm_d {ok : Addr → Prop} {d : PyData} (h : imm d = true) : FirmT (D (ok := ok) d) := fun H H' v e p => R.keepT (fun a xs es ka t => t.elim (fun t => .inl (e a _ ka ⟨fun _ z => (nomatch z), fun _ z => (nomatch z)⟩ t)) fun ⟨o, fs, r, t, z⟩ => .inr ⟨o, fs, r, e a _ ka ⟨fun _ z => (nomatch z), fun _ z => (nomatch z)⟩ t, z⟩) h p
def fD (d : PyData) (h : imm d = true) : FKd := ⟨kD d, fun _ => firm_d h⟩
def fDy (ns : List Str) (f : Str → Int) : FKd := ⟨kDy ns f, fun ok H H' v e ⟨a, h1, ka, h2⟩ => ⟨a, h1, ka, h2.elim (fun h => .inl (e a _ ka ⟨fun _ z => (nomatch z), fun _ z => (nomatch z)⟩ h)) fun ⟨o, h⟩ => .inr ⟨o, e a _ ka ⟨fun _ z => (nomatch z), fun _ z => (nomatch z)⟩ h⟩⟩⟩
theorem tya_firm {ok : Addr → Prop} {H H' : Hp} (e : ∀ a o, ok a → Firm o → H a = some o → H' a = some o) : ∀ {vs : List V} {ks : List FKd}, TyA H vs (ks.map fun k => k.t ok) → TyA H' vs (ks.map fun k => k.t ok)
  | _, [], h => by cases h; exact .nil
  | _, k :: ks, h => by
    cases h with
    | cons h t => exact .cons (k.firm ok H H' _ e h) (tya_firm e t)
theorem fk_map {ok : Addr → Prop} (ks : List FKd) : (ks.map (fun k : FKd => k.toPK)).map (fun k => k.t ok) = ks.map fun k => k.t ok := by
  rw [List.map_map]
  rfl
def fTp (ks : List FKd) : FKd := ⟨kTp (ks.map fun k : FKd => k.toPK), fun ok H H' v e ⟨a, vs, h1, ka, h2, t⟩ => ⟨a, vs, h1, ka, e a _ ka ⟨fun _ z => (nomatch z), fun _ z => (nomatch z)⟩ h2, by
  rw [fk_map] at t ⊢
  exact tya_firm e t⟩⟩
section
variable {ok : Addr → Prop}
/-- the world in which the list at p has items of these kinds -/
def Wd.extK (W : Wd ok) {p : Addr} (kp : ok p) (ks : List FKd) : Wd (Kl.exl ok p) where
  J := fun H => W.J (del H p) ∧ ∃ vs, H p = some (.lst vs) ∧ TyA H vs (ks.map fun k => k.t (Kl.exl ok p))
  loc := fun {H H'} ⟨j, vs, h, t⟩ h1 h2 => by
    refine ⟨W.loc j (fun a o ka no e => ?_) (fun a ha => ?_), vs, (h2 p fun z => z.2 rfl).trans h, tya_firm h1 t⟩
    · by_cases z : a = p
      · rw [z, del_same] at e
        cases e
      · rw [del_ne z] at e ⊢
        exact h1 a o ⟨ka, z⟩ no e
    · have z : a ≠ p := fun z => ha (by rw [z]; exact kp)
      rw [del_ne z, del_ne z]
      exact h2 a fun y => ha y.1
  fresh := fun {H q} ⟨j, vs, h, _⟩ e => by
    have z : q ≠ p := fun z => by rw [z, h] at e; cases e
    exact ⟨W.fresh j (by rw [del_ne z]; exact e), z⟩
  tup := fun {H q xs} ⟨j, vs, h, _⟩ e => by
    have z : q ≠ p := fun z => by rw [z, h] at e; cases e
    exact ⟨W.tup j (by rw [del_ne z]; exact e), z⟩
variable {W : Wd ok} {p : Addr} {kp : ok p} {X : Cx}
theorem extK_j {ks : List FKd} {H : Hp} (j : (W.extK kp ks).J H) : W.J H := W.up j.1 same_del
/-- xs.append(e) -/
theorem sappK {ks : List FKd} {k : FKd} {δ : DEnv (Kl.exl ok p)} {o e : Expr} {apos cpos pos : Pos} (ho : PEv (W.extK kp ks) X o δ (At p)) (he : PEv (W.extK kp ks) X e δ (k.t (Kl.exl ok p))) (hz : ks.length ≤ 1000000)
    (hbase : attributeBase o "append" X.env (eval o X.env) = eval o X.env := by rfl)
    (hfew : ((backTo cpos (starEach [e] X.env)).all (fun x => !x.1) && (backToKw cpos (keywordEach [] X.env)).all (fun x => x.1.isSome) && decide ([e].length + ([] : List Keyword).length + (if ([] : List Keyword).isEmpty then 0 else 1) < 30)) = true := by rfl)
    (hline : (apos.endLine == cpos.line) = true := by rfl) (hs : starEach [e] X.env = (false, eval e X.env) :: starEach [] X.env := by rfl) (hplain : (backTo cpos (starEach [] X.env)).any (·.1) = false := by rfl) (hsw : swapsWith (.Call (.Attribute o "append" apos) [e] [] cpos) none pos.line X.env = pure false := by rfl) :
    PSn (W.extK kp ks) (W.extK kp (ks ++ [k])) X (.Expr (.Call (.Attribute o "append" apos) [e] [] cpos) pos) δ δ :=
  PSn.of (ps_expr (pe_bm PySem.F.plainAttrs_list PySem.F.slot_list_append PySem.F.type_list_append mt_append peW paW hbase hfew hline hs hplain) hsw) fun σ H E sl q => ho.run σ H _ sl fun x H1 s1 p1 => by
    cases p1
    obtain ⟨vs1, h1, _⟩ := s1.j.2
    refine ⟨.inl ⟨rfl, _, SqL.of h1⟩, (acons he anil hs).run σ H1 _ (sl.same s1) fun us H2 s2 p2 => ?_⟩
    cases p2 with
    | @cons y _ _ _ p2 t =>
      cases t
      obtain ⟨j2, vs, h2, r⟩ := s2.j
      have rel2 : Rel (Kl.exl ok p) H2 (upd H2 p (.lst (vs ++ [y]))) := fun a o ka e => by
        rw [upd_ne ka.2]
        exact e
      have ed : del (upd H2 p (.lst (vs ++ [y]))) p = del H2 p := by
        funext a
        by_cases z : a = p
        · rw [z, del_same, del_same]
        · rw [del_ne z, del_ne z, upd_ne z]
      have hlen : vs.length = ks.length := by rw [r.length, List.length_map]
      refine ⟨p, vs, _, rfl, rfl, h2, by rw [hlen]; exact few' (by omega), q _ _ ((s1.trans s2).rel.trans rel2) (((sl.same s1).same s2).to rel2 ⟨by rw [ed]; exact j2, _, upd_same, ?_⟩)⟩
      rw [List.map_append]
      exact TyA.append (r.same rel2) (.cons ((k.t _).mono rel2 p2) .nil)
/-- x = [], a statement that fills it; the rest has it steady -/
theorem nfill1 (i : Nat) {W2 : Wd ok} {δ δ2 : List (Option PK)} {δ3 : DEnv ok} {x : Str} {px pl pos : Pos} {s1 : Stmt} {tail : List Stmt} {ks : List FKd} (hN : X.N.Nodup)
    (h1 : ∀ (p : Addr) (kp : ok p), PSn (W.extK kp []) (W.extK kp ks) X s1 ((inst (Kl.exl ok p) δ).set i (some (At p))) ((inst (Kl.exl ok p) δ2).set i (some (At p))))
    (ht : PNv W W2 X tail ((inst ok δ2).set i (some (Ls (ks.map fun k => k.t ok)))) δ3)
    (hi : X.N[i]? = some x := by rfl) (hx : Loc X.env.scope x := by first | exact Or.inl rfl | exact Or.inr rfl) (hs : swapsWith (.List [] pl) (some (.Name x px)) pos.line X.env = pure false := by rfl) (hf : X.fn x = true ∨ X.env.scope.names.lookup x = some .local := by first | exact .inl rfl | exact .inr rfl) :
    PNv W W2 X (.Assign [.Name x px] (.List [] pl) pos :: s1 :: tail) (inst ok δ) δ3 :=
  PNv.of (pss_cons (ps_set hN hi hx (pe_lst pa_nil) hs hf) (pss_cons psW pbW)) fun σ H E sl q => by
    refine ⟨Nat.zero_le _, fun p hp => ?_⟩
    have kp := W.fresh sl.j hp
    have j1 : (W.extK kp []).J (upd H p (.lst [])) := ⟨by rw [del_upd hp]; exact sl.j, [], upd_same, .nil⟩
    have r1 : Rel (Kl.exl ok p) H (upd H p (.lst [])) := Rel.of (same_upd hp)
    refine (h1 p kp).run _ _ _ ((sl.opened (W' := W.extK kp []) hp r1 j1).set i (P := At p) rfl) fun σ2 H2 r2 sl2 => ?_
    obtain ⟨j2, vs, e2, t2⟩ := sl2.j
    refine ht.run σ2 H2 _ (sl2.close i (extK_j sl2.j) fun v hv => ⟨p, vs, hv, kp, e2, ?_⟩) fun σ4 H4 r4 sl4 => q σ4 H4 (Rel.trans (fun a o ka z => ?_) r4) sl4
    · rw [← fk_map] at t2 ⊢
      exact tya_un t2
    · have na : a ≠ p := ne_of_none z hp
      exact r2 a o ⟨ka, na⟩ (r1 a o ⟨ka, na⟩ z)
end
/-- tuple * 0, tuple * 1 -/
theorem vrep01 {ok : Addr → Prop} {W : Wd ok} {X : Cx} {δ : DEnv ok} {a b : Expr} {pos : Pos} {d : PyData} {ds : List PyData} {k : Bool} (ha : PEv W X a δ (D (.tuple (d :: ds)))) (hb : PEv W X b δ (D (.int (if k then 1 else 0)))) : PEv W X (.BinOp a .Mult b pos) δ (D (.tuple (if k then d :: ds else []))) :=
  PEv.of (pe_op op_rep01 peW peW) fun σ H Q sl q => ha.run σ H _ sl fun x H1 s1 p1 => hb.run σ H1 _ (sl.same s1) fun y H2 s2 p2 => by
    cases (D (ok := ok) (.tuple (d :: ds))).mono s2.rel p1 with
    | @tup l vs _ kl h1 r =>
      cases p2
      refine ⟨l, _, vs, rfl, rfl, .inl h1.rd, (fun z => by subst z; cases r), ?_⟩
      cases k with
      | false => exact .inl ⟨rfl, fun p hp => q _ _ ((s1.trans s2).trans (le_upd s2.j hp)) (.tup (W.fresh s2.j hp) (.inl upd_same) .nil)⟩
      | true => exact .inr ⟨rfl, q _ _ (s1.trans s2) (.tup kl h1 r)⟩
end Kl
set_option linter.all false
set_option maxRecDepth 100000
set_option maxHeartbeats 4000000
/-! # L2: all plans -/
namespace Kl
open PySem PySem.Spec PyProof.Rows L2
section
variable {ok : Addr → Prop} {W W2 : Wd ok} {X : Cx} {δ : DEnv ok}
theorem vlstK {es : List Expr} {pos : Pos} {Ps : List (Ty ok)} (h : PAv W X es δ Ps) (hz : Ps.length ≤ sizeLine) : PEv W X (.List es pos) δ (Ls Ps) :=
  PEv.of (pe_lst paW) fun σ H Q sl q => h.run σ H _ sl fun vs H1 s1 p1 =>
    ⟨by rw [p1.length]; exact hz, fun p hp => q _ _ (s1.trans (le_upd s1.j hp)) ⟨p, vs, rfl, W.fresh s1.j hp, upd_same, p1.same (Rel.of (same_upd hp))⟩⟩
theorem PNv.toW {W3 : Wd ok} {sts : List Stmt} {δ' : DEnv ok} (h : PNv W W2 X sts δ δ') (e : W2 = W3) : PNv W W3 X sts δ δ' := e ▸ h
theorem PSn.toW {W3 : Wd ok} {st : Stmt} {δ' : DEnv ok} (h : PSn W W2 X st δ δ') (e : W2 = W3) : PSn W W3 X st δ δ' := e ▸ h
end
/-! ### plans -/
abbrev Row := List Str × (Str → Int) × List Int
/-- so much carried on a line -/
def moved (l : Line) (f : Str → Int) (m : Int) : Str → Int := fun y => if y = l.goal then (if l.goal = l.start then f l.start - m else f l.goal) + m else if y = l.start then f l.start - m else f y
def rowOn (l : Line) (r : Row) (m : Nat) : Row := (r.1 ++ (if decide ((0 : Int) < (m : Nat)) then [l.key] else []), moved l r.2.1 m, r.2.2 ++ [((m : Nat) : Int)])
def stepRows (l : Line) (rs : List Row) : List Row := rs.flatMap fun r => (List.range (l.most.toNat + 1)).map (rowOn l r)
def plansAt (N : Net) (i : Nat) : List Row := (N.lines.take i).foldl (fun rs l => stepRows l rs) [([], stockOf N.yards, [])]
def plansOf (N : Net) : List Row := N.lines.foldl (fun rs l => stepRows l rs) [([], stockOf N.yards, [])]
/-- a net whose plans can be told -/
structure Nf (N : Net) : Prop where
  nt : Nt N
  ne : N.yards ≠ []
  mo : ∀ l ∈ N.lines, 0 ≤ l.most ∧ l.most ≤ 9
  st : ∀ l ∈ N.lines, l.start ∈ names N
  go : ∀ l ∈ N.lines, l.goal ∈ names N
theorem step_bound {l : Line} {rs : List Row} {i : Nat} (h : ∀ r ∈ rs, r.1.length ≤ i ∧ r.2.2.length ≤ i) : ∀ r ∈ stepRows l rs, r.1.length ≤ i + 1 ∧ r.2.2.length ≤ i + 1 := fun r hr => by
  obtain ⟨q, hq, hr⟩ := List.mem_flatMap.mp hr
  obtain ⟨m, hm, rfl⟩ := List.mem_map.mp hr
  have := h q hq
  unfold rowOn
  constructor
  · show (q.1 ++ _).length ≤ _
    rw [List.length_append]
    split <;> simp <;> omega
  · show (q.2.2 ++ _).length ≤ _
    rw [List.length_append]
    simp
    omega
theorem step_len {l : Line} {rs : List Row} (h : l.most ≤ 9) : (stepRows l rs).length ≤ rs.length * 10 := by
  unfold stepRows
  induction rs with
  | nil => simp
  | cons r rs ih =>
    rw [List.flatMap_cons, List.length_append, List.length_map, List.length_range, List.length_cons]
    have : l.most.toNat ≤ 9 := by omega
    omega
theorem plansAt_succ {N : Net} {i : Nat} {l : Line} (h : N.lines[i]? = some l) : plansAt N (i + 1) = stepRows l (plansAt N i) := by
  unfold plansAt
  rw [List.take_add_one, h, List.foldl_append]
  rfl
theorem plansAt_ok {N : Net} (hm : ∀ l ∈ N.lines, 0 ≤ l.most ∧ l.most ≤ 9) : ∀ {i : Nat}, i ≤ N.lines.length → (plansAt N i).length ≤ 10 ^ i ∧ ∀ r ∈ plansAt N i, r.1.length ≤ i ∧ r.2.2.length ≤ i
  | 0, _ => ⟨by simp [plansAt], fun r hr => by simp [plansAt] at hr; rw [hr]; simp⟩
  | i + 1, h => by
    have ih := plansAt_ok hm (i := i) (by omega)
    have hl : N.lines[i]? = some N.lines[i] := List.getElem?_eq_getElem (by omega)
    rw [plansAt_succ hl]
    refine ⟨?_, step_bound ih.2⟩
    have := step_len (rs := plansAt N i) (hm _ (List.getElem_mem (n := i) (by omega))).2
    rw [Nat.pow_succ]
    omega
def rowK (ns : List Str) (r : Row) : FKd := fTp [fD (ss r.1) (imm_ss _), fDy ns r.2.1, fD (ii r.2.2) (imm_ii _)]
def rowsK (ns : List Str) (rs : List Row) : PK := kLs (rs.map fun r => (rowK ns r).toPK)
theorem rowsK_eq {ok : Addr → Prop} (ns : List Str) (rs : List Row) : Ls ((rs.map (rowK ns)).map fun k => k.t ok) = (rowsK ns rs).t ok := by
  show Ls _ = Ls _
  rw [List.map_map, List.map_map]
  rfl
section
variable {P : Program} {w : World} {K : PySem.W.Frag} {mg : Str → Option Value} {base : Heap}
theorem sc_L_plans : FnScope ["_law_hub", "_law_rows", "_law_tag", "_law_start", "_law_goal", "_law_most", "_law_key", "_law_later", "_law_used", "_law_stock", "_law_row", "_law_much", "_law_here"] ["_law_hub"] (defScope s_L_plans) := ⟨rfl, rfl, rfl, by decide +kernel, rfl, by decide +kernel, by decide +kernel⟩
def A_L_plans : Prm := fun ok W W' Ps T => ∃ N : Net, Nf N ∧ W' = W ∧ Ps = [Hub N] ∧ T = (rowsK (names N) (plansOf N)).t ok
def dP (N : Net) (rs : List Row) (l : Line) : List (Option PK) := [some (kHub N), some (rowsK (names N) rs), some (kD (.str l.tag)), some (kD (.str l.start)), some (kD (.str l.goal)), some (kD (.int l.most)), some (kD (.str l.key)), none, none, none, none, none, none]
def dR (N : Net) (rs : List Row) (l : Line) (p : Addr) (r : Row) (m : Option PK) : List (Option PK) := [some (kHub N), some (rowsK (names N) rs), some (kD (.str l.tag)), some (kD (.str l.start)), some (kD (.str l.goal)), some (kD (.int l.most)), some (kD (.str l.key)), some (kAt p), some (kD (ss r.1)), some (kDy (names N) r.2.1), some (kD (ii r.2.2)), m, none]
theorem step_take {l : Line} {rs : List Row} {j : Nat} {r : Row} (h : rs[j]? = some r) : stepRows l (rs.take (j + 1)) = stepRows l (rs.take j) ++ (List.range (l.most.toNat + 1)).map (rowOn l r) := by
  unfold stepRows
  rw [List.take_add_one, h, List.flatMap_append]
  simp
theorem ok_L_plans {f : Addr} {fd : FuncData} (F : Fun K "_law_plans" "_law_plans" s_L_plans f fd) (m : Mn mg) : FnOk P w K mg base CX0 1 f fd ["_law_hub"] (spt A_L_plans) :=
  okp F sc_L_plans (fun ok W W' Ps T h => by
    obtain ⟨N, _, _, rfl, _⟩ := h
    rfl) fun cdv B outer s H E hr ok W W' Ps T h => by
  obtain ⟨N, nf, rfl, rfl, rfl⟩ := h
  have hyl := nf.nt.sm.yards
  have hll := nf.nt.sm.lines
  have hnl : (names N).length ≤ 4 := by unfold names; rw [List.length_map]; exact hyl
  refine bcons (sset 1 (P := (rowsK (names N) (plansAt N 0)).t ok) sc_L_plans.nd (by exact vlstK (acons (vtupK (Ps := [D (ss []), Dy (names N) (stockOf N.yards), D (ii [])]) (acons (vtup dnil (Nat.zero_le _)) (acons (vdictF (ps := N.yards) rfl m.dict nf.nt.nd (vixK (vv 0) vint (at0 0))).v (acons (vtup dnil (Nat.zero_le _)) anil))) (few (by show 3 ≤ 10000000; decide))) anil) (few (by show 1 ≤ 10000000; decide)))) ?_
  have nd := sc_L_plans.nd
  refine bcons (δ1 := inst ok [some (kHub N), some (rowsK (names N) (plansOf N)), none, none, none, none, none, none, none, none, none, none, none]) ?_ (bret (vv 1))
  refine sforE (Ts := N.lines.map fun l => D (encLn l)) (fun _ => W') (fun i => inst ok [some (kHub N), some (rowsK (names N) (plansAt N i)), none, none, none, none, none, none, none, none, none, none, none]) .never rfl (iTm (vixK (vv 0) vint (at0 1))) rfl rfl (fun i T hT => ?_) rfl ?_
  · rw [List.getElem?_map] at hT
    cases hl' : N.lines[i]? with
    | none =>
      rw [hl'] at hT
      cases hT
    | some l =>
      rw [hl'] at hT
      cases hT
      have hi : i < N.lines.length := (List.getElem?_eq_some_iff.mp hl').1
      have hmem : l ∈ N.lines := List.mem_of_getElem? hl'
      have hm := nf.mo l hmem
      have pk := plansAt_ok nf.mo (Nat.le_of_lt hi)
      have hlen : (plansAt N i).length ≤ 10000 := Nat.le_trans pk.1 (Nat.le_trans (Nat.pow_le_pow_right (by decide) (by omega : i ≤ 4)) (by decide))
      have e0 : rowsK (names N) (plansAt N (i + 1)) = rowsK (names N) (stepRows l (plansAt N i)) := by rw [plansAt_succ hl']
      rw [e0]
      refine ⟨inst ok (dP N (plansAt N i) l), [2, 3, 4, 5, 6], ((inst ok (dP N (plansAt N i) l)).set 7 (some (Ls (((stepRows l (plansAt N i)).map (rowK (names N))).map fun k => k.t ok)))).set 1 (some ((rowsK (names N) (stepRows l (plansAt N i))).t ok)), [2, 3, 4, 5, 6, 7], ?_, ?_, rfl⟩
      · exact gtup (ds := [.str l.tag, .str l.start, .str l.goal, .int l.most, .str l.key]) rfl (gscons (gname 2 nd) (gscons (gname 3 nd) (gscons (gname 4 nd) (gscons (gname 5 nd) (gscons (gname 6 nd) gsnil)))))
      refine nfill1 7 (δ2 := dP N (plansAt N i) l) nd (fun p kp => ?_) (ncons (δ1 := ((inst ok (dP N (plansAt N i) l)).set 7 (some (Ls (((stepRows l (plansAt N i)).map (rowK (names N))).map fun k => k.t ok)))).set 1 (some ((rowsK (names N) (stepRows l (plansAt N i))).t ok))) (by exact sset 1 nd (PEv.cast (vv 7) (rowsK_eq _ _))) nnil)
      refine sforE (Ts := ((plansAt N i).map fun r => (rowK (names N) r).toPK).map fun k => k.t (Kl.exl ok p)) (fun j => W'.extK kp ((stepRows l ((plansAt N i).take j)).map (rowK (names N)))) (fun _ => (inst (Kl.exl ok p) (dP N (plansAt N i) l)).set 7 (some (At p))) .never rfl (iLs (vv 1)) rfl rfl (fun j T hT => ?_) ?_ rfl
      · rw [List.map_map, List.getElem?_map] at hT
        cases hr' : (plansAt N i)[j]? with
        | none =>
          rw [hr'] at hT
          cases hT
        | some r =>
          rw [hr'] at hT
          cases hT
          have hrl := pk.2 r (List.mem_of_getElem? hr')
          refine ⟨inst (Kl.exl ok p) (dR N (plansAt N i) l p r none), [8, 9, 10], inst (Kl.exl ok p) (dR N (plansAt N i) l p r none), [8, 9, 10], ?_, ncons (W' := W'.extK kp ((stepRows l ((plansAt N i).take (j + 1))).map (rowK (names N)))) (δ1 := inst (Kl.exl ok p) (dR N (plansAt N i) l p r none)) ?_ nnil, rfl⟩
          · exact gtupK (Ps := [D (ss r.1), Dy (names N) r.2.1, D (ii r.2.2)]) rfl (gscons (gname 8 nd) (gscons (gname 9 nd) (gscons (gname 10 nd) gsnil)))
          refine sforE (Ts := (List.range (l.most.toNat + 1)).map fun i => D (.int (i : Nat))) (fun m => W'.extK kp ((stepRows l ((plansAt N i).take j) ++ (List.range m).map (rowOn l r)).map (rowK (names N)))) (fun _ => inst (Kl.exl ok p) (dR N (plansAt N i) l p r none)) .never rfl (iRng m.range (PEv.cast (vadd (vv 5) vint) (by rw [show l.most + 1 = ((l.most.toNat + 1 : Nat) : Int) from by omega])) (by omega)) (by simp) rfl (fun m' T hT => ?_) ?_ rfl
          · obtain ⟨hm', rfl⟩ := range_at hT
            have hz : (names N).length ≤ 1000 := by omega
            have hst := nf.st l hmem
            have hgo := nf.go l hmem
            have hcnt : ((stepRows l ((plansAt N i).take j) ++ (List.range m').map (rowOn l r)).map (rowK (names N))).length ≤ 1000000 := by
              rw [List.length_map, List.length_append, List.length_map, List.length_range]
              have h1 := step_len (rs := (plansAt N i).take j) hm.2
              rw [List.length_take] at h1
              have : min j (plansAt N i).length ≤ 10000 := Nat.le_trans (Nat.min_le_right _ _) hlen
              omega
            refine ⟨inst (Kl.exl ok p) (dR N (plansAt N i) l p r (some (kD (.int (m' : Nat))))), [11], (inst (Kl.exl ok p) (dR N (plansAt N i) l p r (some (kD (.int (m' : Nat)))))).set 12 (some (Dy (names N) (moved l r.2.1 (m' : Nat)))), [11, 12], gname 11 nd, ?_, rfl⟩
            refine ndict2 12 (δ2 := dR N (plansAt N i) l p r (some (kD (.int (m' : Nat))))) (f := r.2.1) (f1 := fun y => if y = l.start then r.2.1 l.start - (m' : Nat) else r.2.1 y) (f2 := moved l r.2.1 (m' : Nat)) nd (by exact vdcopy m.dict (vv 9)) (fun p' kp' => by exact sdput hr.units hst hz (vv 12) (vv 3) (vsub (jdget hr.units hst (vv 12) (vv 3)) (vv 11))) (fun p' kp' => by exact sdput hr.units hgo hz (vv 12) (vv 4) (vadd (jdget hr.units hgo (vv 12) (vv 4)) (vv 11))) ?_
            refine PNv.toW (ncons (by exact sappK (k := rowK (names N) (rowOn l r m')) (vv 7) (vtupK (Ps := [D (ss (rowOn l r m').1), Dy (names N) (moved l r.2.1 (m' : Nat)), D (ii (rowOn l r m').2.2)]) (acons (PEv.cast (vcatT (vv 8) (vrep01 (vtup (dcons (vv 6) dnil) (few (by show 1 ≤ 10000000; decide))) (vintB m.int (vc c_gt (vv 11) vint))) (by rw [List.length_map]; split <;> simp <;> omega)) (by unfold ss rowOn; rw [List.map_append]; split <;> rfl)) (acons (vv 12) (acons (PEv.cast (vcatT (vv 10) (vtup (dcons (vv 11) dnil) (few (by show 1 ≤ 10000000; decide))) (by rw [List.length_map]; simp; omega)) (by unfold ii rowOn; rw [List.map_append]; rfl)) anil))) (few (by show 3 ≤ 10000000; decide))) hcnt) nnil) ?_
            simp only [List.range_succ, List.map_append, List.map_cons, List.map_nil, List.append_assoc]
          · rw [List.length_map, List.length_range, step_take hr']
      · rw [List.length_map, List.length_map, List.take_length]
  · rw [List.length_map]
    unfold plansAt plansOf
    rw [List.take_length]
end
end Kl
set_option linter.all false
set_option maxRecDepth 100000
set_option maxHeartbeats 4000000
/-! # L3: what goes by all plans -/
namespace Kl
open PySem PySem.Spec PyProof.Rows L2
section
variable {ok : Addr → Prop} {W : Wd ok} {X : Cx} {δ : DEnv ok}
/-- for n in d -/
theorem iDz {tg e : Expr} {ns : List Str} {f : Str → Int} (h : PEv W X e δ (Dz ns f)) : PIv W X tg e δ (ns.map fun n => D (.str n)) := PIv.of (pi_keys peW) fun σ H R sl q => h.run σ H _ sl fun v H1 s1 p1 => by
  obtain ⟨a, o, rfl, ka, h1⟩ := p1
  refine ⟨a, o, rfl, .inl ⟨encF ns f, h1, q _ (fun H => H a = some (.frz o (.dK (encF ns f)))) H1 s1 h1 fun W' => ⟨fun H H' s g => s.rel _ _ ka g, fun i H hi _ g => ⟨g, ?_⟩, fun H _ g => ⟨g, ?_⟩, fun i H x H' T j g y hT => ?_⟩⟩⟩
  · rw [encF_len]
    simpa using hi
  · rw [encF_len]
    simp
  · obtain ⟨rfl, k, v, hk, rfl⟩ := y
    unfold encF at hk
    rw [List.getElem?_map] at hk hT
    cases e : ns[i]? with
    | none =>
      rw [e] at hk
      cases hk
    | some n =>
      rw [e] at hk hT
      cases hk
      cases hT
      exact ⟨Le.refl j, .str n⟩
theorem PEd.cast {e : Expr} {ns ns' : List Str} {f f' : Str → Int} (h : PEd W X e δ ns f) (e1 : ns = ns') (e2 : f = f') : PEd W X e δ ns' f' := by
  subst e1 e2
  exact h
theorem firm_nol {P : Ty ok} (h : FirmT P) : Nol P := fun H a xs ys v e p => h H _ v (fun b o kb no z => by
  rw [upd_ne (fun y => by
    rw [y, e] at z
    cases z
    exact no.1 _ rfl)]
  exact z) p
end
section
variable {P : Program} {w : World} {K : PySem.W.Frag} {mg : Str → Option Value} {base : Heap}
/-! ### _law_by -/
theorem sc_L_by : FnScope ["_law_rows", "_law_keys_here", "_law_own", "_law_key"] ["_law_rows", "_law_keys_here"] (defScope s_L_by) := ⟨rfl, rfl, rfl, by decide +kernel, rfl, by decide +kernel, by decide +kernel⟩
def byKeys (ks : List Str) (r : Row) : Bool := (r.1.filter fun k => !decide (k ∈ ks)).isEmpty
/-- keys, as a tuple or as a list -/
def KeysT {ok : Addr → Prop} (b : Bool) (ks : List Str) : Ty ok := D (if b then ss ks else .list (ks.map .str))
def A_L_by : Prm := fun ok W W' Ps T => ∃ (ns : List Str) (rs : List Row) (b : Bool) (ks : List Str), rs.length ≤ 100000 ∧ (∀ r ∈ rs, r.1.length ≤ 100) ∧ W' = W ∧ Ps = [(rowsK ns rs).t ok, KeysT b ks] ∧ T = (rowsK ns (rs.filter (byKeys ks))).t ok
theorem ok_L_by {f : Addr} {fd : FuncData} (F : Fun K "_law_by" "_law_by" s_L_by f fd) : FnOk P w K mg base CX0 1 f fd ["_law_rows", "_law_keys_here"] (spt A_L_by) :=
  okp F sc_L_by (fun _ _ _ _ _ h => by
    obtain ⟨_, _, _, _, _, _, _, rfl, _⟩ := h
    rfl) fun cdv B outer s H E hr ok W W' Ps T h => by
  obtain ⟨ns, rs, b, ks, hz, hb, rfl, rfl, rfl⟩ := h
  have e : ∀ qs : List Row, Ls (qs.map fun r => (rowK ns r).t ok) = (rowsK ns qs).t ok := fun qs => by
    show _ = Ls _
    rw [List.map_map]
    rfl
  have hin : PEv W' (bx P w K mg base ["_law_rows", "_law_keys_here", "_law_own", "_law_key"] "_law_by" s_L_by f cdv B outer s H E) (.Name "_law_rows" ⟨0, 0, 0, 0⟩) (dstart ["_law_rows", "_law_keys_here", "_law_own", "_law_key"] [(rowsK ns rs).t ok, KeysT b ks]) ((rowsK ns rs).t ok) := vv 0
  refine bret (PEv.cast (vlcP (own := [("_law_own", 2), ("_law_key", 3)]) rs (fun r => (rowK ns r).t ok) (byKeys ks) (fun r => (rowK ns r).t ok) rfl sc_L_by.nd (by kernel_rfl) (iLs (PEv.cast (vv 0) (e rs).symm)) (by omega) fun r hr' =>
    turn (fun _ _ _ _ _ => gname 2 sc_L_by.nd) (fun _ _ _ _ _ => qone (tc (c_eqNil hr.units) (vlcD (own := [("_law_key", 3)]) r.1 (fun k => D (.str k)) (fun k => !decide (k ∈ ks)) (fun k => .str k) rfl sc_L_by.nd (by kernel_rfl) (iTm (vixK (Ps := [D (ss r.1), Dy ns r.2.1, D (ii r.2.2)]) (vv 2) vint (at0 0))) (by have := hb r hr'; omega) fun k hk =>
      turn (fun _ _ _ _ _ => gname 3 sc_L_by.nd) (fun _ _ _ _ _ => qone ?_) (fun _ _ _ _ _ _ => vv 3) (fun _ => nol_imm rfl)) (vlst dnil (Nat.zero_le _)))) (fun _ _ _ _ _ _ => vv 2) (fun _ => firm_nol ((rowK ns r).firm ok))) (e _))
  cases b with
  | true => exact tc c_nin (vv 3) (vv 1)
  | false => exact tc c_ninL (vv 3) (vv 1)
/-! ### _law_wants -/
theorem stock_zero (ns : List Str) : stockOf (ns.map fun n => (n, (0 : Int))) = fun _ => 0 := by
  funext y
  unfold stockOf
  cases h : (ns.map fun n => (n, (0 : Int))).find? fun p => decide (p.1 = y) with
  | none => rfl
  | some p =>
    have := List.mem_of_find?_eq_some h
    obtain ⟨n, _, rfl⟩ := List.mem_map.mp this
    rfl
def putF1 (f : Str → Int) (n : Str) (v : Int) : Str → Int := fun y => if y = n then f n + v else f y
def wantAt (N : Net) (lot : List Int) (i : Nat) : Str → Int := ((N.custs.zip lot).take i).foldl (fun f p => putF1 f p.1.2 p.2) fun _ => 0
def wantF (N : Net) (lot : List Int) : Str → Int := (N.custs.zip lot).foldl (fun f p => putF1 f p.1.2 p.2) fun _ => 0
/-- a net whose wants can be told, too -/
structure Ng (N : Net) : Prop extends Nf N where
  cu : ∀ c ∈ N.custs, c.2 ∈ names N
theorem sc_L_wants : FnScope ["_law_hub", "_law_lot_here", "_law_own", "_law_found", "_law_much"] ["_law_hub", "_law_lot_here"] (defScope s_L_wants) := ⟨rfl, rfl, rfl, by decide +kernel, rfl, by decide +kernel, by decide +kernel⟩
def A_L_wants : Prm := fun ok W W' Ps T => ∃ (N : Net) (lot : List Int), Ng N ∧ W' = W ∧ Ps = [Hub N, D (ii lot)] ∧ T = Dz (names N) (wantF N lot)
theorem ok_L_wants {f : Addr} {fd : FuncData} (F : Fun K "_law_wants" "_law_wants" s_L_wants f fd) (m : Mn mg) : FnOk P w K mg base CX0 1 f fd ["_law_hub", "_law_lot_here"] (spt A_L_wants) :=
  okp F sc_L_wants (fun _ _ _ _ _ h => by
    obtain ⟨_, _, _, _, rfl, _⟩ := h
    rfl) fun cdv B outer s H E hr ok W W' Ps T h => by
  obtain ⟨N, lot, ng, rfl, rfl, rfl⟩ := h
  have nd := sc_L_wants.nd
  have hnl : (names N).length ≤ 4 := by unfold names; rw [List.length_map]; exact ng.nt.sm.yards
  have hp1 : ((names N).map fun n => (n, (0 : Int))).map (·.1) = names N := by rw [List.map_map]; exact List.map_id' _
  refine bdictR 3 (δ := [some (kHub N), some (kD (ii lot)), none, none, none]) (δ2 := [some (kHub N), some (kD (ii lot)), none, none, none]) (ns := names N) (f := wantAt N lot 0) (f1 := wantF N lot) nd ?_ (fun p kp => ?_) (fun p kp => by exact vv 3)
  · refine PEd.cast (vdictL (ps := (names N).map fun n => (n, (0 : Int))) rfl m.dict (by rw [hp1]; exact ng.nt.nd) ?_) hp1 (stock_zero _)
    have e : ((names N).map fun n => (n, (0 : Int))).map encY = N.yards.map fun y => .tuple [.str y.1, .int 0] := by
      unfold names
      rw [List.map_map, List.map_map]
      rfl
    rw [e]
    exact vlcA (own := [("_law_own", 2)]) N.yards (fun y => D (encY y)) (fun y => .tuple [.str y.1, .int 0]) rfl nd (by kernel_rfl) (iTm (vixT (ds := [.tuple (N.yards.map encY), .tuple (N.lines.map encLn), .tuple (N.custs.map encC)]) (PEv.sub (vv 0) fun H v h => Hub.d ng.ne h) vint (at0 0))) (by have := ng.nt.sm.yards; omega) fun y hy =>
      turn (fun _ _ _ _ _ => gname 2 nd) (fun _ _ _ _ _ => qnil) (fun _ _ _ _ _ _ => vtup (dcons (vixT (vv 2) vint (at0 0)) (dcons vint dnil)) (few (by show 2 ≤ 10000000; decide))) (fun _ => nol_imm (by simp [imm, immAll]))
  · refine sforE (Ts := (N.custs.zip lot).map fun p => D (.tuple [encC p.1, .int p.2])) (fun i => W'.dic kp (names N) (wantAt N lot i)) (fun _ => (inst (Kl.exl ok p) [some (kHub N), some (kD (ii lot)), none, none, none]).set 3 (some (At p))) .never rfl (iZipM m.zip (.inl ⟨vixK (vv 0) vint (at0 2), vv 1⟩)) rfl rfl (fun i T hT => ?_) ?_ rfl
    · rw [List.getElem?_map] at hT
      cases hz : (N.custs.zip lot)[i]? with
      | none =>
        rw [hz] at hT
        cases hT
      | some q =>
        rw [hz] at hT
        cases hT
        have hq : q.1.2 ∈ names N := ng.cu q.1 (List.of_mem_zip (List.mem_of_getElem? hz)).1
        have hs : wantAt N lot (i + 1) = putF1 (wantAt N lot i) q.1.2 q.2 := by
          unfold wantAt
          rw [List.take_add_one, hz, List.foldl_append]
          rfl
        refine ⟨[some (Hub N), some (D (ii lot)), some (D (encC q.1)), some (At p), some (D (.int q.2))], [2, 4], [some (Hub N), some (D (ii lot)), some (D (encC q.1)), some (At p), some (D (.int q.2))], [2, 4], ?_, ?_, rfl⟩
        · exact gtup (ds := [encC q.1, .int q.2]) rfl (gscons (gname 2 nd) (gscons (gname 4 nd) gsnil))
        rw [hs]
        exact ncons (by exact sdput hr.units hq (by omega) (vv 3) (vixT (vv 2) vint (at0 1)) (vadd (jdget hr.units hq (vv 3) (vixT (vv 2) vint (at0 1))) (vv 4))) nnil
    · rw [List.length_map]
      unfold wantAt wantF
      rw [List.take_length]
/-! ### _law_goes -/
theorem sc_L_goes : FnScope ["_law_hub", "_law_rows", "_law_keys_here", "_law_lot_here", "_law_wants_here", "_law_own", "_law_spot"] ["_law_hub", "_law_rows", "_law_keys_here", "_law_lot_here"] (defScope s_L_goes) := ⟨rfl, rfl, rfl, by decide +kernel, rfl, by decide +kernel, by decide +kernel⟩
/-- this plan leaves enough -/
def sates (N : Net) (lot : List Int) (r : Row) : Bool := ((names N).filter fun s => decide (r.2.1 s < wantF N lot s)).isEmpty
def goesP (N : Net) (ks : List Str) (lot : List Int) : Bool := ((plansOf N).filter (byKeys ks)).any (sates N lot)
def A_L_goes : Prm := fun ok W W' Ps T => ∃ (N : Net) (b : Bool) (ks : List Str) (lot : List Int), Ng N ∧ W' = W ∧ Ps = [Hub N, (rowsK (names N) (plansOf N)).t ok, KeysT b ks, D (ii lot)] ∧ T = D (.bool (goesP N ks lot))
theorem plans_ok {N : Net} (nf : Nf N) : (plansOf N).length ≤ 10000 ∧ ∀ r ∈ plansOf N, r.1.length ≤ 4 ∧ r.2.2.length ≤ 4 := by
  have e : plansOf N = plansAt N N.lines.length := by
    unfold plansOf plansAt
    rw [List.take_length]
  have h := plansAt_ok nf.mo (Nat.le_refl N.lines.length)
  have hl := nf.nt.sm.lines
  rw [e]
  refine ⟨Nat.le_trans h.1 (Nat.le_trans (Nat.pow_le_pow_right (by decide) hl) (by decide)), fun r hr => ?_⟩
  have := h.2 r hr
  omega
theorem ok_L_goes {k : Nat} {f : Addr} {fd : FuncData} (F : Fun K "_law_goes" "_law_goes" s_L_goes f fd) (d_wants : Df P w K mg base k "_law_wants" ["_law_hub", "_law_lot_here"] (spt A_L_wants)) (d_by : Df P w K mg base k "_law_by" ["_law_rows", "_law_keys_here"] (spt A_L_by)) : FnOk P w K mg base CX0 (k + 1) f fd ["_law_hub", "_law_rows", "_law_keys_here", "_law_lot_here"] (spt A_L_goes) :=
  okp F sc_L_goes (fun _ _ _ _ _ h => by
    obtain ⟨_, _, _, _, _, _, rfl, _⟩ := h
    rfl) fun cdv B outer s H E hr ok W W' Ps T h => by
  obtain ⟨N, b, ks, lot, ng, rfl, rfl, rfl⟩ := h
  have nd := sc_L_goes.nd
  have pk := plans_ok ng.toNf
  have hnl : (names N).length ≤ 4 := by unfold names; rw [List.length_map]; exact ng.nt.sm.yards
  refine bcons (sset 4 nd (by exact vcall d_wants hr (acons (vv 0) (acons (vv 3) anil)) ⟨N, lot, ng, rfl, rfl, rfl⟩)) ?_
  refine bfor (Ts := (((plansOf N).filter (byKeys ks)).map fun r => (rowK (names N) r).toPK).map fun k => k.t ok) (fun _ => W') (fun i => [some (Hub N), some ((rowsK (names N) (plansOf N)).t ok), some (KeysT b ks), some (D (ii lot)), some (Dz (names N) (wantF N lot)), none, none]) (fun i => ∀ j < i, ∀ r, ((plansOf N).filter (byKeys ks))[j]? = some r → sates N lot r = false) .never rfl
    (iLs (by exact vcall d_by hr (acons (vv 1) (acons (vv 2) anil)) ⟨names N, plansOf N, b, ks, by omega, fun r hr => by have := pk.2 r hr; omega, rfl, rfl, rfl⟩)) rfl rfl (fun j hj => absurd hj (Nat.not_lt_zero _)) (fun i T hT hgo => ?_) fun hgo => ?_
  · rw [List.map_map, List.getElem?_map] at hT
    cases hn : ((plansOf N).filter (byKeys ks))[i]? with
    | none =>
      rw [hn] at hT
      cases hT
    | some r =>
      rw [hn] at hT
      cases hT
      refine ⟨_, _, gname 5 nd, ?_⟩
      have ht : ∀ (Y : Cx), True := fun _ => trivial
      cases hg : sates N lot r with
      | false =>
        refine .inl ⟨fun j hj n' hn' => ?_, _, [5], ncons (nif (x := false) (PTv.cast (tc (c_eqNil hr.units) (vlcD (own := [("_law_spot", 6)]) (names N) (fun n => D (.str n)) (fun s => decide (r.2.1 s < wantF N lot s)) (fun n => .str n) rfl nd (by kernel_rfl) (iDz (vv 4)) (by omega) fun n hn =>
          turn (fun _ _ _ _ _ => gname 6 nd) (fun _ _ _ _ _ => qone (tc c_lt (vdget hr.units hn (vixK (Ps := [D (ss r.1), Dy (names N) r.2.1, D (ii r.2.2)]) (vv 5) vint (at0 1)) (vv 6)) (vdget hr.units hn (PEv.sub (vv 4) fun H v h => Dz.y h) (vv 6)))) (fun _ _ _ _ _ _ => vv 6) (fun _ => nol_imm rfl)) (vlst dnil (Nat.zero_le _))) hg) (fun e => nomatch e) fun _ => nnil) nnil, rfl⟩
        by_cases h : j = i
        · subst h
          rw [hn] at hn'
          cases hn'
          exact hg
        · exact hgo j (by omega) n' hn'
      | true =>
        refine .inr (bwhen (x := true) (PTv.cast (tc (c_eqNil hr.units) (vlcD (own := [("_law_spot", 6)]) (names N) (fun n => D (.str n)) (fun s => decide (r.2.1 s < wantF N lot s)) (fun n => .str n) rfl nd (by kernel_rfl) (iDz (vv 4)) (by omega) fun n hn =>
          turn (fun _ _ _ _ _ => gname 6 nd) (fun _ _ _ _ _ => qone (tc c_lt (vdget hr.units hn (vixK (Ps := [D (ss r.1), Dy (names N) r.2.1, D (ii r.2.2)]) (vv 5) vint (at0 1)) (vv 6)) (vdget hr.units hn (PEv.sub (vv 4) fun H v h => Dz.y h) (vv 6)))) (fun _ _ _ _ _ _ => vv 6) (fun _ => nol_imm rfl)) (vlst dnil (Nat.zero_le _))) hg) (fun _ => bret (PEv.cast vbl ?_)) fun e => nomatch e)
        have e : goesP N ks lot = true := by
          unfold goesP
          rw [List.any_eq_true]
          exact ⟨r, List.mem_of_getElem? hn, hg⟩
        rw [e]
  · rw [List.length_map, List.length_map] at hgo
    refine bret (PEv.cast vbl ?_)
    have e : goesP N ks lot = false := by
      unfold goesP
      rw [Bool.eq_false_iff]
      intro z
      rw [List.any_eq_true] at z
      obtain ⟨r, hr', hg⟩ := z
      obtain ⟨j, hj, e⟩ := List.getElem_of_mem hr'
      rw [hgo j hj r (by rw [List.getElem?_eq_getElem hj, e])] at hg
      cases hg
    rw [e]
end
end Kl
set_option linter.all false
set_option maxRecDepth 100000
set_option maxHeartbeats 4000000
/-! # L4: the least sets by all plans -/
namespace Kl
open PySem PySem.Spec PyProof.Rows L2
def fineOf (N : Net) (lot : List Int) : List (List Str) := (subsRaw (keysOf N)).filter fun s => goesP N s lot
def shutOf (N : Net) (lot : List Int) : List (List Str) := (subsRaw (keysOf N)).filter fun s => !goesP N ((keysOf N).filter fun k => !decide (k ∈ s)) lot
def minOf (fam : List (List Str)) : List (List Str) := srt ss (fam.filter fun s => !hasLess fam s)
def A_L_least : Prm := fun ok W W' Ps T => ∃ (N : Net) (lot : List Int), Ng N ∧ W' = W ∧ Ps = [Hub N, D (ii lot)] ∧ T = D (.list [.tuple ((minOf (fineOf N lot)).map ss), .tuple ((minOf (shutOf N lot)).map ss)])
section
variable {P : Program} {w : World} {K : PySem.W.Frag} {mg : Str → Option Value} {base : Heap}
theorem sc_L_least : FnScope ["_law_hub", "_law_lot_here", "_law_keys_here", "_law_rows", "_law_fine", "_law_shut", "_law_own", "_law_key", "_law_some"] ["_law_hub", "_law_lot_here"] (defScope s_L_least) := ⟨rfl, rfl, rfl, by decide +kernel, rfl, by decide +kernel, by decide +kernel⟩
theorem ok_L_least {k : Nat} {f : Addr} {fd : FuncData} (F : Fun K "_law_least" "_law_least" s_L_least f fd) (m : Mn mg) (d_keys : Df P w K mg base k "_law_keys" ["_law_hub"] (spt A_keys_of)) (d_plans : Df P w K mg base k "_law_plans" ["_law_hub"] (spt A_L_plans)) (d_sets : Df P w K mg base k "_law_sets" ["_law_tags"] (spt A_L_sets))
    (d_goes : Df P w K mg base k "_law_goes" ["_law_hub", "_law_rows", "_law_keys_here", "_law_lot_here"] (spt A_L_goes)) (d_less : Df P w K mg base k "_law_has_less" ["_law_some", "_law_own"] (spt A_L_has_less)) : FnOk P w K mg base CX0 (k + 1) f fd ["_law_hub", "_law_lot_here"] (spt A_L_least) :=
  okp F sc_L_least (fun _ _ _ _ _ h => by
    obtain ⟨_, _, _, _, rfl, _⟩ := h
    rfl) fun cdv B outer s H E hr ok W W' Ps T h => by
  obtain ⟨N, lot, ng, rfl, rfl, rfl⟩ := h
  have nd := sc_L_least.nd
  have hkl : (keysOf N).length ≤ 4 := keysOf_len ng.nt.sm
  refine bcons (δ1 := [some (Hub N), some (D (ii lot)), some (D (ss (keysOf N))), some ((rowsK (names N) (plansOf N)).t ok), none, none, none, none, none]) (by exact sasg (vtupK (Ps := [D (ss (keysOf N)), (rowsK (names N) (plansOf N)).t ok]) (acons (vcall d_keys hr (acons (PEv.sub (vv 0) fun H v h => Hub.d ng.ne h) anil) ⟨N, ng.nt.sm, rfl, rfl, rfl⟩) (acons (vcall d_plans hr (acons (vv 0) anil) ⟨N, ng.toNf, rfl, rfl, rfl⟩) anil)) (few (by show 2 ≤ 10000000; decide))) (by exact gtupK rfl (gscons (gname 2 nd) (gscons (gname 3 nd) gsnil)))) ?_
  have hsub : (subsRaw (keysOf N)).length ≤ 16 := subs_len _ hkl
  have hmem : ∀ s ∈ subsRaw (keysOf N), s.length ≤ 4 := fun s hs => by have := subs_mem hs; omega
  have hfl : ∀ fam ∈ [fineOf N lot, shutOf N lot], fam.length ≤ 16 ∧ ∀ s ∈ fam, s.length ≤ 4 := fun fam hf => by
    rcases List.mem_cons.mp hf with rfl | hf
    · exact ⟨Nat.le_trans (List.length_filter_le _ _) hsub, fun s hs => hmem s (List.mem_filter.mp hs).1⟩
    · rw [List.mem_singleton.mp hf]
      exact ⟨Nat.le_trans (List.length_filter_le _ _) hsub, fun s hs => hmem s (List.mem_filter.mp hs).1⟩
  refine bcons (ssetLcD 4 (own := [("_law_own", 6)]) (subsRaw (keysOf N)) (fun s => D (ss s)) (fun s => goesP N s lot) ss rfl nd rfl (sw_true rfl rfl rfl (by decide +kernel)) (by kernel_rfl) (iLm (by exact vcall d_sets hr (acons (vv 2) anil) ⟨keysOf N, hkl, rfl, rfl, rfl⟩)) (by omega) fun s hs =>
    turn (fun _ _ _ _ _ => gname 6 nd) (fun _ _ _ _ _ => qone (tval (vcall d_goes hr (acons (vv 0) (acons (vv 3) (acons (vv 6) (acons (vv 1) anil)))) ⟨N, true, s, lot, ng, rfl, rfl, rfl⟩))) (fun _ _ _ _ _ _ => vv 6) (fun _ => nol_imm (imm_ss _))) ?_
  refine bcons (ssetLcD 5 (own := [("_law_own", 6), ("_law_key", 7)]) (subsRaw (keysOf N)) (fun s => D (ss s)) (fun s => !goesP N ((keysOf N).filter fun k => !decide (k ∈ s)) lot) ss rfl nd rfl (sw_true rfl rfl rfl (by decide +kernel)) (by kernel_rfl) (iLm (by exact vcall d_sets hr (acons (vv 2) anil) ⟨keysOf N, hkl, rfl, rfl, rfl⟩)) (by omega) fun s hs =>
    turn (fun _ _ _ _ _ => gname 6 nd) (fun _ _ _ _ _ => qone (tnot (tval (vcall d_goes hr (acons (vv 0) (acons (vv 3) (acons (vlcD (own := [("_law_key", 7)]) (keysOf N) (fun k => D (.str k)) (fun k => !decide (k ∈ s)) (fun k => .str k) rfl nd (by kernel_rfl) (iTm (vv 2)) (by omega) fun k hk =>
      turn (fun _ _ _ _ _ => gname 7 nd) (fun _ _ _ _ _ => qone (tc c_nin (vv 7) (vv 6))) (fun _ _ _ _ _ _ => vv 7) (fun _ => nol_imm rfl)) (acons (vv 1) anil)))) ⟨N, false, (keysOf N).filter fun k => !decide (k ∈ s), lot, ng, rfl, rfl, rfl⟩)))) (fun _ _ _ _ _ _ => vv 6) (fun _ => nol_imm (imm_ss _))) ?_
  refine bret (vlcA (own := [("_law_some", 8), ("_law_own", 6)]) [fineOf N lot, shutOf N lot] (fun fam => D (.list (fam.map ss))) (fun fam => .tuple ((minOf fam).map ss)) rfl nd (by kernel_rfl) (iTm (enc := fun fam : List (List Str) => .list (fam.map ss)) (vtup (dcons (vv 4) (dcons (vv 5) dnil)) (few (by show 2 ≤ 10000000; decide)))) (by show 2 ≤ 10000000; decide) fun fam hfam =>
    turn (fun _ _ _ _ _ => gname 8 nd) (fun _ _ _ _ _ => qnil) (fun _ _ _ _ _ _ => vtupleL m.tuple (vsorted en_strs hr.units m.sorted (vlcD (own := [("_law_own", 6)]) fam (fun s => D (ss s)) (fun s => !hasLess fam s) ss rfl nd (by kernel_rfl) (iLm (vv 8)) ?_ fun s hs =>
      turn (fun _ _ _ _ _ => gname 6 nd) (fun _ _ _ _ _ => qone (tnot (tval (vcall d_less hr (acons (vv 8) (acons (vv 6) anil)) ⟨fam, s, ?_, ?_, rfl, rfl, rfl⟩)))) (fun _ _ _ _ _ _ => vv 6) (fun _ => nol_imm (imm_ss _))))) (fun _ => nol_imm ?_))
  · have := (hfl fam hfam).1
    omega
  · have := (hfl fam hfam).1
    omega
  · intro t ht
    have := (hfl fam hfam).2 t ht
    omega
  · rw [imm, immAll_map imm_ss]
end
end Kl
set_option linter.all false
set_option maxRecDepth 100000
set_option maxHeartbeats 4000000
/-! # L5: the same -/
namespace Kl
open PySem PySem.Spec PyProof.Rows L2
section
variable {P : Program} {w : World} {K : PySem.W.Frag} {mg : Str → Option Value} {base : Heap}
theorem sc_L_same : FnScope ["_law_got", "_law_goal", "_law_mine", "_law_own"] ["_law_got", "_law_goal"] (defScope s_L_same) := ⟨rfl, rfl, rfl, by decide +kernel, rfl, by decide +kernel, by decide +kernel⟩
def A_L_same (n : Nat) : Prm := fun ok W W' Ps T => ∃ d : PyData, d.depth < n ∧ wideD d = true ∧ W' = W ∧ Ps = [D d, D d] ∧ T = D (.bool true)
theorem zip_self {α β : Type} (xs : List α) (h : α × α → β) : (xs.zip xs).map h = xs.map fun x => h (x, x) := by
  induction xs with
  | nil => rfl
  | cons x xs ih => rw [List.zip_cons_cons, List.map_cons, List.map_cons, ih]
theorem all_true {α : Type} (xs : List α) : (xs.map fun _ => true).all id = true := by
  rw [List.all_eq_true]
  intro b hb
  obtain ⟨_, _, rfl⟩ := List.mem_map.mp hb
  rfl
section
variable {ok : Addr → Prop} {W : Wd ok} {X : Cx} {δ : DEnv ok}
theorem isi1 {n : String} {x : Str} {e : Expr} {p p1 pos : Pos} {d : PyData} (m : Mn X.mg) (he : PEv W X e δ (D d)) (hm : X.mg x = none) (hv : bootBuiltins x = some (.type n) := by decide +kernel) (hn : n ∈ ["bool", "int", "str", "list", "tuple"] := by decide) (hg : Gl X "isinstance" := by rfl) (hg1 : Gl X x := by rfl) (h1 : x ≠ "__name__" := by decide) (h2 : (x == ("__debug__" : Str)) = false := by decide)
    (hs : starEach [e, .Name x p1] X.env = (false, eval e X.env) :: starEach [.Name x p1] X.env := by rfl) : PEv W X (.Call (.Name "isinstance" p) [e, .Name x p1] [] pos) δ (D (.bool (subT (tyN d) n))) :=
  visi1 m.isinstance he (vtn hm hv hg1 h1 h2) hn hg hs
theorem isi_bs {e : Expr} {p p1 p2 pos tpos : Pos} {kk : Nat} {d : PyData} (m : Mn X.mg) (he : PEv W X e δ (D d)) (hg : Gl X "isinstance" := by rfl) (hg1 : Gl X "bool" := by rfl) (hg2 : Gl X "str" := by rfl) 
    (hs : starEach [e, .Tuple [.Name "bool" p1, .Name "str" p2] kk tpos] X.env = (false, eval e X.env) :: starEach [.Tuple [.Name "bool" p1, .Name "str" p2] kk tpos] X.env := by rfl) :
    PEv W X (.Call (.Name "isinstance" p) [e, .Tuple [.Name "bool" p1, .Name "str" p2] kk tpos] [] pos) δ (D (.bool (["bool", "str"].any (subT (tyN d))))) :=
  visiT m.isinstance he (acons (vtn m.bool (hg := hg1)) (acons (vtn m.str (hg := hg2)) anil)) (by decide) (by decide) hg hs
end
theorem step_same {k n : Nat} {f : Addr} {fd : FuncData} (F : Fun K "_law_same" "_law_same" s_L_same f fd) (m : Mn mg) (ih : n = 0 ∨ Df P w K mg base k "_law_same" ["_law_got", "_law_goal"] (spt (A_L_same n))) : FnOk P w K mg base CX0 (k + 1) f fd ["_law_got", "_law_goal"] (spt (A_L_same (n + 1))) :=
  okp F sc_L_same (fun _ _ _ _ _ h => by
    obtain ⟨d, _, _, _, rfl, _⟩ := h
    rfl) fun cdv B outer s H E hr ok W W' Ps T h => by
  obtain ⟨d, hd, hw, rfl, rfl, rfl⟩ := h
  have nd := sc_L_same.nd
  refine bwhen (x := ["list", "tuple"].any (subT (tyN d))) (tval (isi_lt m (vv 1))) (fun e => ?_) fun e => ?_
  · refine bwhen (x := false) (PTv.cast (tw (wor (tc (c_neB hr.units) (isi1 (n := "list") m (vv 0) m.list) (isi1 (n := "list") m (vv 1) m.list)) fun _ => wor1 (tc (c_neB hr.units) (isi1 (n := "tuple") m (vv 0) m.tuple) (isi1 (n := "tuple") m (vv 1) m.tuple)))) (by simp)) (fun e => nomatch e) fun _ => ?_
    cases d with
    | list xs =>
      rw [wideD, Bool.and_eq_true, decide_eq_true_eq] at hw
      rw [PyData.depth] at hd
      rcases ih with rfl | ih
      · omega
      refine bret (PEv.cast (vand (vc (c_eqInt hr.units) (vlenL m.len (vv 0)) (vlenL m.len (vv 1))) fun _ => vone (vall (bs := xs.map fun _ => true) rfl m.all ?_)) (by rw [all_true]; simp))
      rw [List.map_map]
      exact vlcA (own := [("_law_mine", 2), ("_law_own", 3)]) xs (fun x => D (.tuple [x, x])) (fun _ => .bool true) rfl nd (by kernel_rfl) (by
        rw [← zip_self xs fun p => D (ok := ok) (.tuple [p.1, p.2])]
        exact iZip m.zip (.inr ⟨vv 0, vv 1⟩)) (by omega) fun x hx =>
        turn (fun _ _ _ _ _ => gtup (ds := [x, x]) rfl (gscons (gname 2 nd) (gscons (gname 3 nd) gsnil))) (fun _ _ _ _ _ => qnil) (fun _ _ _ _ _ _ => vcall ih hr (acons (vv 2) (acons (vv 3) anil)) ⟨x, by have := depth_mem hx; omega, wideDs_mem hw.2 x hx, rfl, rfl, rfl⟩) (fun _ => nol_imm rfl)
    | tuple xs =>
      rw [wideD, Bool.and_eq_true, decide_eq_true_eq] at hw
      rw [PyData.depth] at hd
      rcases ih with rfl | ih
      · omega
      refine bret (PEv.cast (vand (vc (c_eqInt hr.units) (vlenT m.len (vv 0)) (vlenT m.len (vv 1))) fun _ => vone (vall (bs := xs.map fun _ => true) rfl m.all ?_)) (by rw [all_true]; simp))
      rw [List.map_map]
      exact vlcA (own := [("_law_mine", 2), ("_law_own", 3)]) xs (fun x => D (.tuple [x, x])) (fun _ => .bool true) rfl nd (by kernel_rfl) (by
        rw [← zip_self xs fun p => D (ok := ok) (.tuple [p.1, p.2])]
        exact iZip m.zip (.inl ⟨vv 0, vv 1⟩)) (by omega) fun x hx =>
        turn (fun _ _ _ _ _ => gtup (ds := [x, x]) rfl (gscons (gname 2 nd) (gscons (gname 3 nd) gsnil))) (fun _ _ _ _ _ => qnil) (fun _ _ _ _ _ _ => vcall ih hr (acons (vv 2) (acons (vv 3) anil)) ⟨x, by have := depth_mem hx; omega, wideDs_mem hw.2 x hx, rfl, rfl, rfl⟩) (fun _ => nol_imm rfl)
    | _ => simp [tyN, subT] at e
  · have hat : (∀ xs, d ≠ .list xs) ∧ (∀ xs, d ≠ .tuple xs) := ⟨fun xs z => by subst z; simp [tyN, subT] at e, fun xs z => by subst z; simp [tyN, subT] at e⟩
    have pl : d.plain = true := by
      cases d with
      | list xs => exact absurd rfl (hat.1 xs)
      | tuple xs => exact absurd rfl (hat.2 xs)
      | dict xs => simp [wideD] at hw
      | _ => rfl
    have hself : PyData.eqv d d = true := by
      cases d with
      | list xs => exact absurd rfl (hat.1 xs)
      | tuple xs => exact absurd rfl (hat.2 xs)
      | dict xs => simp [wideD] at hw
      | _ => simp [PyData.eqv]
    have hdep : d.depth ≤ 60 := by
      cases d with
      | list xs => exact absurd rfl (hat.1 xs)
      | tuple xs => exact absurd rfl (hat.2 xs)
      | dict xs => simp [wideD] at hw
      | _ => simp [PyData.depth]
    refine bwhen (x := isNone d || ["bool", "str"].any (subT (tyN d))) (tw (wor (tc c_is (vv 1) vnon) fun _ => wor1 (tval (isi_bs m (vv 1))))) (fun e2 => ?_) fun e2 => ?_
    · exact bret (PEv.cast (vand (vc (c_eqP hr.units pl pl hdep) (vv 0) (vv 1)) fun _ => vand (vc (c_eqB hr.units) (isi1 (n := "bool") m (vv 0) m.bool) (isi1 (n := "bool") m (vv 1) m.bool)) fun _ => vone (vc (c_eqB hr.units) (vc c_is (vv 0) vnon) (vc c_is (vv 1) vnon))) (by rw [hself]; simp))
    · cases d with
      | list xs => exact absurd rfl (hat.1 xs)
      | tuple xs => exact absurd rfl (hat.2 xs)
      | dict xs => simp [wideD] at hw
      | none => simp [isNone] at e2
      | bool _ => simp [isNone, tyN, subT] at e2
      | str _ => simp [isNone, tyN, subT] at e2
      | int i => exact bret (PEv.cast (vand (isi1 (n := "int") m (vv 0) m.int) fun _ => vand (vnot (isi1 (n := "bool") m (vv 0) m.bool)) fun _ => vone (vc (c_eqInt hr.units) (vv 0) (vv 1))) (by simp [tyN, subT]))
end
end Kl
set_option linter.all false
set_option maxRecDepth 100000
set_option maxHeartbeats 4000000
/-! # M5: what a zip hands out, collected -/
namespace Kl
open PySem
section
variable {prog : Program} {w : World} {A : Around} {E : Value → Shared → Prop} {s : Shared} {z TI TO i1 i2 T : Addr} {fp1 fp2 : List Addr} {n1 n2 i : Nat} {P1 P2 : Nat → Value → Prop} {St1 St2 : Nat → Heap → Prop} {f : Bool} {oT : Obj}
/-- the next pair while the first tuple is still out: a new tuple -/
theorem held_item {Q : Value → Shared → Prop} (S : ZipSep2 z TI TO i1 i2 fp1 fp2) (D1 : Draws prog w A i1 fp1 n1 P1 St1) (D2 : Draws prog w A i2 fp2 n2 P2 St2) (hz : IsZipHeld s.heap z TI TO T f) (hT : s.heap.get? T = some oT)
    (hTI : IsTupOf2 s.heap TI (.ref i1) (.ref i2)) (st1 : St1 i s.heap) (st2 : St2 i s.heap) (l1 : i < n1) (l2 : i < n2)
    (hQ : ∀ x1 x2 h' tk, P1 i x1 → P2 i x2 → IsZipHeld h' z TI TO T true → St1 (i + 1) h' → St2 (i + 1) h' → IsTupOf2 h' s.heap.objs.size x1 x2 →
      (∀ c o, c ≠ z → c ≠ i1 → c ≠ i2 → s.heap.get? c = some o → h'.get? c = some o) → Q (.ref s.heap.objs.size) { s with heap := h', toks := tk }) :
    wpAny (model prog w) A (Builtin.«zip.__next__» ⟨[.ref z], []⟩) (fun fin s' => ∃ v, fin = .done (.ret v) ∧ Q v s') E s := by
  obtain ⟨hp, g, d, tk0, os⟩ := s
  show wpAny _ _ (field (.ref z) 2 >>= _) _ _ _
  refine wpAny_bind (wpAny_field hz rfl (x := .bool false) rfl ?_)
  show wpAny _ _ (field (.ref z) 3 >>= _) _ _ _
  refine wpAny_bind (wpAny_field hz rfl (x := .ref TI) rfl ?_)
  refine wpAny_bind (wpAny_seqItems hTI rfl ?_)
  show wpAny _ _ (Builtin.SmallTypes.ownedTupleIsFree (.ref z) >>= _) _ _ _
  refine wpAny_bind (wpAny_tupleHeld_zip hz hT fun ha hza sa => ?_)
  replace sa : Heap.SameBut z hp ha := sa
  simp only [Bool.false_eq_true, if_false]
  refine wpAny_bind ?_
  rw [← Array.forIn_toList]
  simp only [List.forIn_cons, List.forIn_nil]
  refine wpAny_bind (wpAny_bind (wpAny_holding ?_))
  show wpAny _ _ (Builtin.SmallTypes.nextOf (.ref i1) >>= _) _ _ _
  refine wpAny_bind (D1.item i ⟨ha, g, d, tk0, os⟩ _ _ l1 (D1.over st1 sa S.zf1) fun x1 hb tkb p1 stb sb => wpAny_pure (wpAny_pure ?_))
  replace sb : Heap.SameBut i1 ha hb := sb
  refine wpAny_bind (wpAny_bind (wpAny_holding ?_))
  show wpAny _ _ (Builtin.SmallTypes.nextOf (.ref i2) >>= _) _ _ _
  refine wpAny_bind (D2.item i ⟨hb, g, d, tkb, os⟩ _ _ l2 (D2.over (D2.over st2 sa S.zf2) sb S.sep1_2) fun x2 hc tkc p2 stc sc => wpAny_pure (wpAny_pure (wpAny_pure ?_)))
  replace sc : Heap.SameBut i2 hb hc := sc
  show wpAny _ _ (newTuple [x1, x2] >>= _) _ _ _
  refine wpAny_bind (wpAny_newTuple (wpAny_pure ⟨_, rfl, ?_⟩))
  have hsz : hc.objs.size = hp.objs.size := by rw [sc.1, sb.1, sa.1]
  have up : ∀ c o, hc.get? c = some o → (hc.push { cls := .type "tuple", data := .seq #[x1, x2] }).get? c = some o := fun c o e => Heap.get?_push_of_some _ e
  have key := hQ x1 x2 (hc.push { cls := .type "tuple", data := .seq #[x1, x2] }) tkc p1 p2 (up _ _ (sc.extBut _ _ S.zi2 (sb.extBut _ _ S.zi1 hza))) (D1.frame _ _ _ (D1.over stb sc S.sep2_1) fun b _ o e => up b o e) (D2.frame _ _ _ stc fun b _ o e => up b o e)
    (by
      show IsTupOf2 _ hp.objs.size x1 x2
      rw [← hsz]
      exact Heap.get?_push_size _ rfl) fun c o c1 c2 c3 e => up c o (sc.extBut _ _ c3 (sb.extBut _ _ c2 (sa.extBut _ _ c1 e)))
  show Q (.ref hc.objs.size) _
  rw [hsz]
  exact key
theorem held_end {Q : Fin → Shared → Prop} (S : ZipSep2 z TI TO i1 i2 fp1 fp2) (D1 : Draws prog w A i1 fp1 n1 P1 St1) (D2 : Draws prog w A i2 fp2 n2 P2 St2) (hz : IsZipHeld s.heap z TI TO T f) (hT : s.heap.get? T = some oT)
    (hTI : IsTupOf2 s.heap TI (.ref i1) (.ref i2)) (st1 : St1 i s.heap) (st2 : St2 i s.heap) (l1 : i ≤ n1) (l2 : i ≤ n2) (hend : i = n1 ∨ i = n2)
    (hE : ∀ h' tk e, (∀ c o, c ≠ z → c ≠ i1 → c ≠ i2 → s.heap.get? c = some o → h'.get? c = some o) → (∃ o, h'.get? e = some o ∧ o.cls = .type "StopIteration") → E (.ref e) { s with heap := h', toks := tk }) :
    wpAny (model prog w) A (Builtin.«zip.__next__» ⟨[.ref z], []⟩) Q E s := by
  obtain ⟨hp, g, d, tk0, os⟩ := s
  show wpAny _ _ (field (.ref z) 2 >>= _) _ _ _
  refine wpAny_bind (wpAny_field hz rfl (x := .bool false) rfl ?_)
  show wpAny _ _ (field (.ref z) 3 >>= _) _ _ _
  refine wpAny_bind (wpAny_field hz rfl (x := .ref TI) rfl ?_)
  refine wpAny_bind (wpAny_seqItems hTI rfl ?_)
  show wpAny _ _ (Builtin.SmallTypes.ownedTupleIsFree (.ref z) >>= _) _ _ _
  refine wpAny_bind (wpAny_tupleHeld_zip hz hT fun ha hza sa => ?_)
  replace sa : Heap.SameBut z hp ha := sa
  simp only [Bool.false_eq_true, if_false]
  refine wpAny_bind ?_
  rw [← Array.forIn_toList]
  simp only [List.forIn_cons, List.forIn_nil]
  refine wpAny_bind (wpAny_bind (wpAny_holding ?_))
  show wpAny _ _ (Builtin.SmallTypes.nextOf (.ref i1) >>= _) _ _ _
  by_cases e1 : i = n1
  · subst e1
    refine wpAny_bind (D1.done ⟨ha, g, d, tk0, os⟩ _ _ (D1.over st1 sa S.zf1) fun hb e sb he => ?_)
    exact hE hb tk0 e (fun c o c1 c2 _ x => sb _ _ c2 (sa.extBut _ _ c1 x)) he
  · refine wpAny_bind (D1.item i ⟨ha, g, d, tk0, os⟩ _ _ (by omega) (D1.over st1 sa S.zf1) fun x1 hb tkb p1 stb sb => wpAny_pure (wpAny_pure ?_))
    replace sb : Heap.SameBut i1 ha hb := sb
    have e2 : i = n2 := hend.resolve_left e1
    subst e2
    refine wpAny_bind (wpAny_bind (wpAny_holding ?_))
    show wpAny _ _ (Builtin.SmallTypes.nextOf (.ref i2) >>= _) _ _ _
    refine wpAny_bind (D2.done ⟨hb, g, d, tkb, os⟩ _ _ (D2.over (D2.over st2 sa S.zf2) sb S.sep1_2) fun hc e sc he => ?_)
    exact hE hc tkb e (fun c o c1 c2 c3 x => sc _ _ c3 (sb.extBut _ _ c2 (sa.extBut _ _ c1 x))) he
/-! ### the state of a zip that is collected into the list at S -/
def ZSt (z TI TO i1 i2 S : Addr) (St1 St2 : Nat → Heap → Prop) (i : Nat) (h : Heap) : Prop := IsTupOf2 h TI (.ref i1) (.ref i2) ∧ St1 i h ∧ St2 i h ∧ ((IsZip h z TI TO .none ∧ ∃ a b, IsTupOf2 h TO a b) ∨ ∃ T f oT, IsZipHeld h z TI TO T f ∧ h.get? T = some oT ∧ T ≠ z ∧ T ≠ i1 ∧ T ≠ i2 ∧ T ≠ S)
theorem ZSt.frame {S : Addr} {h h' : Heap} (Z : ZSt z TI TO i1 i2 S St1 St2 i h) (D1 : Draws prog w A i1 fp1 n1 P1 St1) (D2 : Draws prog w A i2 fp2 n2 P2 St2) (hS : S ≠ z ∧ S ≠ TI ∧ S ≠ TO ∧ S ∉ fp1 ∧ S ∉ fp2) (hk : ∀ b o, b ≠ S → h.get? b = some o → h'.get? b = some o) : ZSt z TI TO i1 i2 S St1 St2 i h' := by
  obtain ⟨hTI, s1, s2, hz⟩ := Z
  obtain ⟨e1, e2, e3, e4, e5⟩ := hS
  refine ⟨hk _ _ e2.symm hTI, D1.frame _ _ _ s1 fun b hb o e => hk b o (fun q => e4 (q ▸ hb)) e, D2.frame _ _ _ s2 fun b hb o e => hk b o (fun q => e5 (q ▸ hb)) e, ?_⟩
  rcases hz with ⟨hz, a, b, hTO⟩ | ⟨T, f, oT, hz, hT, r1, r2, r3, r4⟩
  · exact .inl ⟨hk _ _ e1.symm hz, a, b, hk _ _ e3.symm hTO⟩
  · exact .inr ⟨T, f, oT, hk _ _ e1.symm hz, hk _ _ r4 hT, r1, r2, r3, r4⟩
theorem ZSt.type {S : Addr} (Z : ZSt z TI TO i1 i2 S St1 St2 i s.heap) : s.TypeIs (.ref z) "zip" := by
  obtain ⟨_, _, _, ⟨hz, _⟩ | ⟨T, f, oT, hz, _⟩⟩ := Z
  · exact ⟨_, hz, rfl⟩
  · exact ⟨_, hz, rfl⟩
theorem zs_next {SL : Addr} {Q : Option Value → Shared → Prop} (S : ZipSep2 z TI TO i1 i2 fp1 fp2) (D1 : Draws prog w A.in1 i1 fp1 n1 P1 St1) (D2 : Draws prog w A.in1 i2 fp2 n2 P2 St2) (Z : ZSt z TI TO i1 i2 SL St1 St2 i s.heap) (hSL : SL < s.heap.objs.size) (l1 : i < n1) (l2 : i < n2)
    (hQ : ∀ x1 x2 h' tk, P1 i x1 → P2 i x2 → ZSt z TI TO i1 i2 SL St1 St2 (i + 1) h' → IsTupOf2 h' s.heap.objs.size x1 x2 → (∀ c o, c ≠ z → c ≠ TO → c ≠ i1 → c ≠ i2 → s.heap.get? c = some o → h'.get? c = some o) → Q (some (.ref s.heap.objs.size)) { s with heap := h', toks := tk }) :
    wpAny (model prog w) A (pyNext (.ref z)) Q E s := by
  have hTy := Z.type
  obtain ⟨hTI, s1, s2, hz⟩ := Z
  have ne : ∀ {c o}, s.heap.get? c = some o → s.heap.objs.size ≠ c := fun e => Nat.ne_of_gt (Heap.lt_size e)
  obtain ⟨_, g1⟩ := D1.live _ _ s1
  obtain ⟨_, g2⟩ := D2.live _ _ s2
  rcases hz with ⟨hz, a, b, hTO⟩ | ⟨T, f, oT, hz, hT, r1, r2, r3, r4⟩
  · refine wpAny_pyNext_zipD2_item S D1 D2 hz hTI hTO s1 s2 l1 l2 fun x1 x2 h' tk p1 p2 a1 a2 a3 a4 a5 a6 hk => ?_
    exact hQ x1 x2 h' tk p1 p2 ⟨hk _ _ S.TIz S.TITO S.TIi1 S.TIi2 hTI, a3, a4, .inr ⟨s.heap.objs.size, false, _, a1, a5, ne hz, ne g1, ne g2, Nat.ne_of_gt hSL⟩⟩ a5 fun c o c1 c2 c3 c4 e => hk c o c1 c2 c3 c4 e
  · unfold pyNext
    refine wpAny_bind (wpAny_attempt (wpAny_callSpecial?_slot (name := Str.ofString "__next__") hTy F.slot_zip_next (wpAny_call_entry F.slot_zip_next hTy F.entry_zip_next
      (held_item S D1 D2 hz hT hTI s1 s2 l1 l2 fun x1 x2 h' tk p1 p2 a1 a2 a3 a4 hk => wpAny_pure ?_) (F.args_zip_next_1 _))))
    exact hQ x1 x2 h' tk p1 p2 ⟨hk _ _ S.TIz S.TIi1 S.TIi2 hTI, a2, a3, .inr ⟨T, true, oT, a1, hk _ _ r1 r2 r3 hT, r1, r2, r3, r4⟩⟩ a4 fun c o c1 _ c3 c4 e => hk c o c1 c3 c4 e
theorem zs_end {SL : Addr} {Q : Option Value → Shared → Prop} (hh : A.handled = none) (S : ZipSep2 z TI TO i1 i2 fp1 fp2) (D1 : Draws prog w A.in1 i1 fp1 n1 P1 St1) (D2 : Draws prog w A.in1 i2 fp2 n2 P2 St2) (Z : ZSt z TI TO i1 i2 SL St1 St2 i s.heap) (l1 : i ≤ n1) (l2 : i ≤ n2) (hend : i = n1 ∨ i = n2)
    (hQ : ∀ h' tk, (∀ c o, c ≠ z → c ≠ TO → c ≠ i1 → c ≠ i2 → s.heap.get? c = some o → h'.get? c = some o) → Q none { s with heap := h', toks := tk }) : wpAny (model prog w) A (pyNext (.ref z)) Q E s := by
  have hTy := Z.type
  obtain ⟨hTI, s1, s2, hz⟩ := Z
  rcases hz with ⟨hz, a, b, hTO⟩ | ⟨T, f, oT, hz, hT, r1, r2, r3, r4⟩
  · exact wpAny_pyNext_zipD2_end S D1 D2 hz hTI hTO s1 s2 l1 l2 hend fun h' tk hk => hQ h' tk hk
  · unfold pyNext
    refine wpAny_bind (wpAny_attempt (wpAny_callSpecial?_slot (name := Str.ofString "__next__") hTy F.slot_zip_next (wpAny_call_entry F.slot_zip_next hTy F.entry_zip_next
      (held_end S D1 D2 hz hT hTI s1 s2 l1 l2 hend fun h' tk e hk he => ?_) (F.args_zip_next_1 _))))
    obtain ⟨o, ho, hc⟩ := he
    refine wpAny_bind (wpAny_isInstance (T := "StopIteration") (b := true) ⟨o, ho, hc⟩ isSubtype_stop ?_)
    exact wpAny_pure (hQ _ _ fun c o c1 _ c3 c4 e => hk c o c1 c3 c4 e)
def Coll (base : Nat) (P1 P2 : Nat → Value → Prop) (h : Heap) (L : List (Addr × Value × Value)) : Prop := (L.map (·.1)).Pairwise (· < ·) ∧ (∀ t ∈ L, base ≤ t.1 ∧ IsTupOf2 h t.1 t.2.1 t.2.2) ∧ ∀ j t, L[j]? = some t → P1 j t.2.1 ∧ P2 j t.2.2
theorem Coll.keep {base : Nat} {h h' : Heap} {L : List (Addr × Value × Value)} (C : Coll base P1 P2 h L) (hk : ∀ b o, base ≤ b → h.get? b = some o → h'.get? b = some o) : Coll base P1 P2 h' L := ⟨C.1, fun t ht => ⟨(C.2.1 t ht).1, hk _ _ (C.2.1 t ht).1 (C.2.1 t ht).2⟩, C.2.2⟩
theorem Coll.push {base : Nat} {h : Heap} {L : List (Addr × Value × Value)} {T : Addr} {x1 x2 : Value} (C : Coll base P1 P2 h L) (hb : base ≤ T) (hT : IsTupOf2 h T x1 x2) (hlt : ∀ t ∈ L, t.1 < T) (p1 : P1 L.length x1) (p2 : P2 L.length x2) : Coll base P1 P2 h (L ++ [(T, x1, x2)]) := by
  refine ⟨?_, fun t ht => ?_, fun j t hj => ?_⟩
  · rw [List.map_append]
    refine List.pairwise_append.mpr ⟨C.1, List.pairwise_singleton _ _, fun a ha b hb => ?_⟩
    obtain ⟨t, ht, rfl⟩ := List.mem_map.mp ha
    rw [List.mem_singleton.mp hb]
    exact hlt t ht
  · rcases List.mem_append.mp ht with ht | ht
    · exact C.2.1 t ht
    · rw [List.mem_singleton.mp ht]
      exact ⟨hb, hT⟩
  · by_cases hl : j < L.length
    · rw [List.getElem?_append_left hl] at hj
      exact C.2.2 j t hj
    · rw [List.getElem?_append_right (by omega)] at hj
      cases hjj : j - L.length with
      | zero =>
        rw [hjj] at hj
        cases hj
        have : j = L.length := by omega
        subst this
        exact ⟨p1, p2⟩
      | succ m =>
        rw [hjj] at hj
        cases hj
abbrev lsObj (L : List (Addr × Value × Value)) (c : Nat) : Obj := { cls := .type "list", dict := none, data := .seq (L.map fun t => Value.ref t.1).toArray c, slots := #[] }
theorem zs_loop {SL : Addr} {base : Nat} {R : Result → Shared → Prop} (hh : A.handled = none) (S : ZipSep2 z TI TO i1 i2 fp1 fp2) (D1 : Draws prog w A.in1.in1 i1 fp1 n1 P1 St1) (D2 : Draws prog w A.in1.in1 i2 fp2 n2 P2 St2) (hS : SL ≠ z ∧ SL ≠ TI ∧ SL ≠ TO ∧ SL ∉ fp1 ∧ SL ∉ fp2) (hi : SL ≠ i1 ∧ SL ≠ i2) (hb : z < base ∧ TO < base ∧ i1 < base ∧ i2 < base ∧ SL < base) (hn : min n1 n2 ≤ sizeLine) (res : Value) :
    ∀ (k i : Nat) (s : Shared) (L : List (Addr × Value × Value)) (c : Nat), min n1 n2 - i = k → i ≤ min n1 n2 → ZSt z TI TO i1 i2 SL St1 St2 i s.heap → s.heap.get? SL = some (lsObj L c) → L.length = i → Coll base P1 P2 s.heap L → base ≤ s.heap.objs.size →
      (∀ h' tk L' c', (∀ b o, b ≠ SL → b ≠ z → b ≠ TO → b ≠ i1 → b ≠ i2 → s.heap.get? b = some o → h'.get? b = some o) → h'.get? SL = some (lsObj L' c') → L'.length = min n1 n2 → Coll base P1 P2 h' L' → R (.ok (.ret res)) { s with heap := h', toks := tk }) →
      codeAny (model prog w) A (.builtin "list.extend.loop" ⟨[.ref SL, .ref z, res], []⟩) R s := by
  have ge : ∀ {c b : Nat}, c < base → base ≤ b → b ≠ c := fun h1 h2 => Nat.ne_of_gt (Nat.lt_of_lt_of_le h1 h2)
  intro k
  induction k with
  | zero =>
    intro i s L c hk hle Z hL hlen C hbs hR
    have hin : i = min n1 n2 := by omega
    refine codeAny_builtin F.entry_extend_loop ?_
    rw [Around.under_plainId F.plain_extend_loop _]
    show wpAny _ A.in1 (pyNext (.ref z) >>= _) _ _ s
    refine wpAny_bind (zs_end (A := A.in1) hh S D1 D2 Z (by omega) (by omega) (by omega) fun h' tk hk' => ?_)
    refine wpAny_pure (hR h' tk L c (fun b o _ b1 b2 b3 b4 e => hk' b o b1 b2 b3 b4 e) (hk' _ _ hS.1 hS.2.2.1 hi.1 hi.2 hL) (by omega) (C.keep fun b o hbb e => hk' b o (ge hb.1 hbb) (ge hb.2.1 hbb) (ge hb.2.2.1 hbb) (ge hb.2.2.2.1 hbb) e))
  | succ k ih =>
    intro i s L c hk hle Z hL hlen C hbs hR
    refine codeAny_builtin F.entry_extend_loop ?_
    rw [Around.under_plainId F.plain_extend_loop _]
    show wpAny _ A.in1 (pyNext (.ref z) >>= _) _ _ s
    refine wpAny_bind (zs_next (A := A.in1) S D1 D2 Z (Heap.lt_size hL) (by omega) (by omega) fun x1 x2 h' tk p1 p2 Z' hT hk' => ?_)
    have hL' : h'.get? SL = some (lsObj L c) := hk' _ _ hS.1 hS.2.2.1 hi.1 hi.2 hL
    show wpAny _ A.in1 (updateSeq SL (·.push (.ref s.heap.objs.size)) >>= _) _ _ _
    refine wpAny_bind ?_
    have hC' : Coll base P1 P2 h' L := C.keep fun b o hbb e => hk' b o (ge hb.1 hbb) (ge hb.2.1 hbb) (ge hb.2.2.1 hbb) (ge hb.2.2.2.1 hbb) e
    have hC2 : Coll base P1 P2 h' (L ++ [(s.heap.objs.size, x1, x2)]) := hC'.push hbs hT (fun t ht => Heap.lt_size (C.2.1 t ht).2) (by rw [hlen]; exact p1) (by rw [hlen]; exact p2)
    have oth : ∀ b o, b ≠ SL → h'.get? b = some o → (h'.update SL (Obj.mapSeq (·.push (Value.ref s.heap.objs.size)))).get? b = some o := fun b o hb' e => (Heap.get?_update_other _ _ (Ne.symm hb')).trans e
    obtain ⟨c3, eL⟩ : ∃ c3, Obj.mapSeq (·.push (Value.ref s.heap.objs.size)) (lsObj L c) = lsObj (L ++ [(s.heap.objs.size, x1, x2)]) c3 := by
      refine ⟨if ((L.map fun t => Value.ref t.1).toArray.push (Value.ref s.heap.objs.size)).size == (L.map fun t => Value.ref t.1).toArray.size then c else c + 1, ?_⟩
      have e : (L.map fun t => Value.ref t.1).toArray.push (Value.ref s.heap.objs.size) = ((L ++ [(s.heap.objs.size, x1, x2)]).map fun t => Value.ref t.1).toArray := by simp
      show Obj.mk _ _ (.seq ((L.map fun t => Value.ref t.1).toArray.push (Value.ref s.heap.objs.size)) _) _ = Obj.mk _ _ (.seq ((L ++ [(s.heap.objs.size, x1, x2)]).map fun t => Value.ref t.1).toArray _) _
      rw [← e]
    have zf : ZSt z TI TO i1 i2 SL St1 St2 (i + 1) (h'.update SL (Obj.mapSeq (·.push (Value.ref s.heap.objs.size)))) := ZSt.frame Z' D1 D2 hS oth
    have gL : (h'.update SL (Obj.mapSeq (·.push (Value.ref s.heap.objs.size)))).get? SL = some (lsObj (L ++ [(s.heap.objs.size, x1, x2)]) c3) := by rw [Heap.get?_update_self _ hL' rfl, eL]
    refine wpAny_updateSeq hL' rfl (wpAny_pure ⟨plainId_quiet F.plain_extend_loop _, ih (i + 1) _ (L ++ [(s.heap.objs.size, x1, x2)]) c3 (by omega) (by omega) zf gL (by simp [hlen]) (hC2.keep fun b o hbb e => oth b o (ge hb.2.2.2.2 hbb) e) ?_ fun h2 tk2 L2 c2 hk2 hL2 hl2 hc2 => ?_⟩) ?_ ?_
    · rw [Heap.size_update]
      exact Nat.le_trans hbs (Nat.le_of_lt (Heap.lt_size hT))
    · exact hR h2 tk2 L2 c2 (fun b o b0 b1 b2 b3 b4 e => hk2 b o b0 b1 b2 b3 b4 (oth b o b0 (hk' b o b1 b2 b3 b4 e))) hL2 hl2 hc2
    · simp [hlen]; omega
    · simp [hlen]; omega
theorem zip_no_len : typeLookup (.type "zip") "__len__" = pure none := am_miss_of_fast (by decide +kernel)
theorem zip_no_hint : typeLookup (.type "zip") "__length_hint__" = pure none := am_miss_of_fast (by decide +kernel)
/-- collect(zip(..)) -/
theorem collect_zs {Q : List Value → Shared → Prop} (hh : A.handled = none) (S : ZipSep2 z TI TO i1 i2 fp1 fp2) (D1 : Draws prog w A.in1.in1 i1 fp1 n1 P1 St1) (D2 : Draws prog w A.in1.in1 i2 fp2 n2 P2 St2) (hz : IsZip s.heap z TI TO .none) (hTI : IsTupOf2 s.heap TI (.ref i1) (.ref i2)) {a1 a2 : Value} (hTO : IsTupOf2 s.heap TO a1 a2) (st1 : St1 0 s.heap) (st2 : St2 0 s.heap)
    (hf1 : ∀ b ∈ fp1, b < s.heap.objs.size) (hf2 : ∀ b ∈ fp2, b < s.heap.objs.size) (hn : min n1 n2 ≤ sizeLine)
    (hQ : ∀ h' tk L, (∀ b o, b ≠ z → b ≠ TO → b ≠ i1 → b ≠ i2 → s.heap.get? b = some o → h'.get? b = some o) → L.length = min n1 n2 → Coll (s.heap.objs.size + 1) P1 P2 h' L → s.heap.objs.size < h'.objs.size → Q (L.map fun t => Value.ref t.1) { s with heap := h', toks := tk }) :
    wpAny (model prog w) A (collect (.ref z)) Q E s := by
  have lz : z < s.heap.objs.size := Heap.lt_size hz
  have lTI : TI < s.heap.objs.size := Heap.lt_size hTI
  have lTO : TO < s.heap.objs.size := Heap.lt_size hTO
  have l1 : i1 < s.heap.objs.size := hf1 _ S.mem1
  have l2 : i2 < s.heap.objs.size := hf2 _ S.mem2
  have hSz : s.heap.objs.size ≠ z := Nat.ne_of_gt lz
  have hSf : s.heap.objs.size ≠ z ∧ s.heap.objs.size ≠ TI ∧ s.heap.objs.size ≠ TO ∧ s.heap.objs.size ∉ fp1 ∧ s.heap.objs.size ∉ fp2 := ⟨hSz, Nat.ne_of_gt lTI, Nat.ne_of_gt lTO, fun h => Nat.lt_irrefl _ (hf1 _ h), fun h => Nat.lt_irrefl _ (hf2 _ h)⟩
  unfold collect
  refine wpAny_bind (wpAny_runValue (codeAny_builtin F.entry_proto_collect ?_))
  rw [Around.under_plainId F.plain_proto_collect _]
  show wpAny _ A.in1 (newList [] >>= fun l => again (.builtin "list.__iadd__" ⟨[l, .ref z], []⟩)) _ _ s
  refine wpAny_bind (wpAny_newObj_type ?_)
  refine wpAny_pure ⟨plainId_quiet F.plain_list_iadd _, codeAny_builtin F.entry_list_iadd ?_⟩
  rw [Around.under_plainId F.plain_list_iadd _]
  have up : ∀ b o, s.heap.get? b = some o → (s.heap.push { cls := .type "list", data := .seq ([] : List Value).toArray }).get? b = some o := fun b o e => Heap.get?_push_of_some _ e
  have hz1 := up _ _ hz
  show wpAny _ A.in1 (Builtin.List.listExtendWith (.ref s.heap.objs.size) (.ref z) (.ref s.heap.objs.size)) _ _ _
  unfold Builtin.List.listExtendWith
  have hTy : Shared.TypeIs { s with heap := s.heap.push { cls := .type "list", data := .seq ([] : List Value).toArray } } (.ref z) "zip" := ⟨_, hz1, rfl⟩
  refine wpAny_bind (wpAny_typeOf hTy ?_)
  have h1 : Builtin.List.listSameRef (.ref s.heap.objs.size) (.ref z) = false := by simp [Builtin.List.listSameRef, hSz]
  have h2 : (Value.type "zip" == Value.type "list") = false := by decide
  have h3 : (Value.type "zip" == Value.type "tuple") = false := by decide
  simp only [h1, h2, h3, Bool.or_false, Bool.false_eq_true, if_false]
  refine wpAny_bind (wpAny_pyIter_zip hz1 ?_)
  refine wpAny_bind (wpAny_holding ?_)
  unfold Builtin.List.listLengthHint
  refine wpAny_bind (wpAny_specialOf hTy zip_no_len ?_)
  show wpAny _ A.in1 (specialOf (Value.ref z) (Str.ofString "__length_hint__") >>= _) _ _ _
  refine wpAny_bind (wpAny_specialOf hTy zip_no_hint ?_)
  refine wpAny_pure ?_
  show wpAny _ A.in1 (rule "list.extend.makes-room" >>= fun _ => Builtin.List.listTouch (.ref s.heap.objs.size) >>= fun _ =>
    again (.builtin "list.extend.loop" ⟨[.ref s.heap.objs.size, .ref z, .ref s.heap.objs.size], []⟩)) _ _ _
  refine wpAny_bind (wpAny_rule ?_)
  have hS₁ : (s.heap.push { cls := .type "list", data := .seq ([] : List Value).toArray }).get? s.heap.objs.size = some { cls := .type "list", data := .seq ([] : List Value).toArray } := Heap.get?_push_size _ rfl
  refine wpAny_bind ?_
  show wpAny _ A.in1 (updateSeq s.heap.objs.size (·.push .none) >>= fun _ => updateSeq s.heap.objs.size (·.pop)) _ _ _
  refine wpAny_bind (wpAny_updateSeq hS₁ rfl ?_)
  have hS₂ := Heap.get?_update_self (Obj.mapSeq (·.push Value.none)) hS₁ rfl
  refine wpAny_updateSeq hS₂ rfl ?_
  have hS₃ := Heap.get?_update_self (Obj.mapSeq (·.pop)) hS₂ rfl
  have oth : ∀ b o, b ≠ s.heap.objs.size → s.heap.get? b = some o →
      (((s.heap.push { cls := .type "list", data := .seq ([] : List Value).toArray }).update s.heap.objs.size (Obj.mapSeq (·.push Value.none))).update s.heap.objs.size (Obj.mapSeq (·.pop))).get? b = some o :=
    fun b o hb e => (Heap.get?_update_other _ _ (Ne.symm hb)).trans ((Heap.get?_update_other _ _ (Ne.symm hb)).trans (up b o e))
  have Z0 : ZSt z TI TO i1 i2 s.heap.objs.size St1 St2 0 s.heap := ⟨hTI, st1, st2, .inl ⟨hz, a1, a2, hTO⟩⟩
  have size3 : s.heap.objs.size + 1 = (((s.heap.push { cls := .type "list", data := .seq ([] : List Value).toArray }).update s.heap.objs.size (Obj.mapSeq (·.push Value.none))).update s.heap.objs.size (Obj.mapSeq (·.pop))).objs.size := by
    rw [Heap.size_update, Heap.size_update, Heap.size_push]
  refine wpAny_pure ⟨plainId_quiet F.plain_extend_loop _, zs_loop (base := s.heap.objs.size + 1) hh S D1 D2 hSf ⟨Nat.ne_of_gt l1, Nat.ne_of_gt l2⟩ ⟨Nat.lt_succ_of_lt lz, Nat.lt_succ_of_lt lTO, Nat.lt_succ_of_lt l1, Nat.lt_succ_of_lt l2, Nat.lt_succ_self _⟩ hn _ _ 0 _ [] _ rfl (Nat.zero_le _)
    (ZSt.frame Z0 D1 D2 hSf oth) hS₃ rfl ⟨List.Pairwise.nil, fun t ht => (nomatch ht), fun j t hj => by simp at hj⟩ (Nat.le_of_eq size3) fun h' tk L' c' hk hL hlen hC => ?_⟩
  show wpAny _ A (load s.heap.objs.size >>= _) _ _ _
  refine wpAny_bind (wpAny_load hL ?_)
  refine wpAny_pure ?_
  have key := hQ h' tk L' (fun b o b1 b2 b3 b4 e => by
    have hb : b ≠ s.heap.objs.size := Nat.ne_of_lt (Heap.lt_size e)
    exact hk b o hb b1 b2 b3 b4 (oth b o hb e)) hlen hC (Heap.lt_size hL)
  simpa using key
end
end Kl
set_option linter.all false
set_option maxRecDepth 100000
set_option maxHeartbeats 4000000
/-! # M6: sorted(zip(..)), tuple(zip(..)) -/
namespace Kl
open PySem PySem.Spec PyProof.Rows L2
section
variable {ok : Addr → Prop}
theorem RA.of_at {H : Hp} : ∀ {vs : List V} {ds : List PyData}, vs.length = ds.length → (∀ (j : Nat) (v : V) (d : PyData), vs[j]? = some v → ds[j]? = some d → R ok H v d) → RA ok H vs ds
  | [], [], _, _ => .nil
  | v :: vs, d :: ds, hl, h => .cons (h 0 v d rfl rfl) (RA.of_at (by simpa using hl) fun j x y e1 e2 => h (j + 1) x y (by simpa using e1) (by simpa using e2))
  | [], d :: ds, hl, _ => by simp at hl
  | v :: vs, [], hl, _ => by simp at hl
/-- what collecting a zip gives: pairs, laid and tracked -/
def ZipV (X : Cx) (pins : List (Addr × Obj)) (σ : L2.St) (W : Wd ok) (H1 : Hp) (ds es : List PyData) (v : Value) (s' : Shared) : Prop := ∀ (A' : Around) (E' : Value → Shared → Prop) (Q' : List Value → Shared → Prop), A'.handled = none →
  (∀ (h' : Heap) (tk : Nat) (Ts : List Addr) (H2 : Hp), Inv X pins σ H2 { s' with heap := h', toks := tk } → Le W H1 H2 → RA ok H2 (Ts.map V.ref) ((ds.zip es).map fun p => .tuple [p.1, p.2]) → Q' (Ts.map Value.ref) { s' with heap := h', toks := tk }) → wpAny (model X.prog X.w) A' (collect v) Q' E' s'
theorem laid_pairs {X : Cx} {pins : List (Addr × Obj)} {σ : L2.St} {H1 : Hp} {s1 : Shared} {W : Wd ok} {h2 : Heap} {tk : Nat} {xs ys : List V} {its its2 : List Value} {ds es : List PyData} {L : List (Addr × Value × Value)} {base : Nat} (I : Inv X pins σ H1 s1) (j1 : W.J H1) (rx : Vals xs its) (ry : Vals ys its2) (rd : RA ok H1 xs ds) (re : RA ok H1 ys es)
    (hb : s1.heap.objs.size ≤ base) (hk : ∀ b o, s1.heap.get? b = some o → h2.get? b = some o) (hl : L.length = min its.length its2.length) (C : Coll base (fun i v => its.toArray[i]? = some v) (fun i v => its2.toArray[i]? = some v) h2 L) :
    ∃ H2, Inv X pins σ H2 { s1 with heap := h2, toks := tk } ∧ Le W H1 H2 ∧ RA ok H2 ((L.map (·.1)).map V.ref) ((ds.zip es).map fun p => .tuple [p.1, p.2]) := by
  have nd : (L.map (·.1)).Nodup := List.Pairwise.imp (fun h => Nat.ne_of_lt h) C.1
  have none_of : ∀ t ∈ L, H1 t.1 = none := fun t ht => I.hok.fresh (Nat.le_trans hb (C.2.1 t ht).1)
  have I1 : Inv X pins σ H1 { s1 with heap := h2, toks := tk } := I.kept hk
  have look : ∀ (j : Nat) (t : Addr × Value × Value), L[j]? = some t → ∃ v1 v2, xs[j]? = some v1 ∧ ys[j]? = some v2 ∧ RelV v1 t.2.1 ∧ RelV v2 t.2.2 := fun j t hj => by
    obtain ⟨e1, e2⟩ := C.2.2 j t hj
    have one : ∀ {zs : List V} {us : List Value} {x : Value}, Vals zs us → us.toArray[j]? = some x → ∃ v, zs[j]? = some v ∧ RelV v x := fun {zs us x} r e => by
      have e' : us[j]? = some x := by simpa using e
      have hl : j < zs.length := by
        rw [r.length]
        exact (List.getElem?_eq_some_iff.mp e').1
      obtain ⟨u, hu, ru⟩ := r.get (List.getElem?_eq_getElem hl)
      rw [e'] at hu
      cases hu
      exact ⟨_, List.getElem?_eq_getElem hl, ru⟩
    obtain ⟨v1, f1, r1⟩ := one rx e1
    obtain ⟨v2, f2, r2⟩ := one ry e2
    exact ⟨v1, v2, f1, f2, r1, r2⟩
  obtain ⟨H2, I2, g, q⟩ := DX.takeT (P := fun T vs => ∀ (j : Nat) (t : Addr × Value × Value), L[j]? = some t → t.1 = T → ∃ v1 v2, vs = [v1, v2] ∧ xs[j]? = some v1 ∧ ys[j]? = some v2) (tk := tk) I (L.map (·.1)) H1 I1 nd fun a ha => by
    obtain ⟨t, ht, rfl⟩ := List.mem_map.mp ha
    obtain ⟨j, hj⟩ := List.getElem?_of_mem ht
    obtain ⟨v1, v2, e1, e2, r1, r2⟩ := look j t hj
    refine ⟨Nat.le_trans hb (C.2.1 t ht).1, none_of t ht, [v1, v2], fun j' t' hj' e => ?_, fun H2 => ⟨few (by show 2 ≤ 10000000; decide), [t.2.1, t.2.2], .cons r1 (.cons r2 .nil), ⟨_, (C.2.1 t ht).2, rfl, _, rfl⟩⟩⟩
    have ej : j' = j := by
      have h1 : (L.map (·.1))[j']? = some t.1 := by rw [List.getElem?_map, hj', ← e]; rfl
      have h2 : (L.map (·.1))[j]? = some t.1 := by rw [List.getElem?_map, hj]; rfl
      exact (List.getElem?_inj (List.getElem?_eq_some_iff.mp h1).1 nd).mp (h1.trans h2.symm)
    subst ej
    exact ⟨v1, v2, rfl, e1, e2⟩
  have sm : Same H1 H2 := g
  refine ⟨H2, I2, Le.of j1 sm, RA.of_at ?_ fun j v d hv hd => ?_⟩
  · rw [List.length_map, List.length_map, List.length_map, List.length_zip, hl, ← rx.length, ← ry.length, rd.length, re.length]
  · rw [List.getElem?_map, List.getElem?_map] at hv
    cases hj : L[j]? with
    | none =>
      rw [hj] at hv
      cases hv
    | some t =>
      rw [hj] at hv
      cases hv
      obtain ⟨vs, hp, h2t⟩ := q t.1 (List.mem_map.mpr ⟨t, List.mem_of_getElem? hj, rfl⟩)
      obtain ⟨v1, v2, rfl, e1, e2⟩ := hp j t hj rfl
      obtain ⟨d1, f1, r1⟩ := rd.at' e1
      obtain ⟨d2, f2, r2⟩ := re.at' e2
      rw [List.getElem?_map, (List.getElem?_zip_eq_some (z := (d1, d2))).mpr ⟨f1, f2⟩] at hd
      cases hd
      exact .tup (W.fresh j1 (none_of t (List.mem_of_getElem? hj))) (.inl h2t) (.cons (r1.same (Rel.of sm)) (.cons (r2.same (Rel.of sm)) .nil))
/-- zip(a, b) of tuples, or of lists -/
theorem zip_makes {X : Cx} {pins : List (Addr × Obj)} {σ : L2.St} {H1 : Hp} {s1 : Shared} {W : Wd ok} {A : Around} {E : Value → Shared → Prop} {a b : Addr} {xs ys : List V} {ds es : List PyData} (I : Inv X pins σ H1 s1) (j1 : W.J H1) (hq : (SqT X.K H1 a xs ∧ SqT X.K H1 b ys) ∨ (SqL X.K H1 a xs ∧ SqL X.K H1 b ys)) (rd : RA ok H1 xs ds) (re : RA ok H1 ys es) :
    wpAny (model X.prog X.w) A (call (.type "zip") [.ref a, .ref b]) (fun v s' => ∃ z : Addr, v = .ref z ∧ Inv X pins σ H1 s' ∧ ZipV X pins σ W H1 ds es v s' ∧ Shared.TypeIs s' v "zip") E s1 := by
  rcases hq with ⟨h1, h2⟩ | ⟨h1, h2⟩
  · obtain ⟨its, rx, p1, z1⟩ := I.tuple h1
    obtain ⟨its2, ry, p2, z2⟩ := I.tuple h2
    have la : a < s1.heap.objs.size := by obtain ⟨o, e, _⟩ := id p1; exact Heap.lt_size e
    have lb : b < s1.heap.objs.size := by obtain ⟨o, e, _⟩ := id p2; exact Heap.lt_size e
    refine zip_begins2 (begins_tuple a its.toArray) (begins_tuple b its2.toArray) p1 p2 fun h' hz hTI hTO g1 g2 hsz hk => ⟨_, rfl, I.kept (t' := s1.toks) hk, fun A' E' Q' hh q => ?_, ⟨_, hz, rfl⟩⟩
    have S := zip_sep2 (N := s1.heap.objs.size) (fp1 := [a]) (fp2 := [b]) (fun c hc => by rw [List.mem_singleton.mp hc]; exact la) (fun c hc => by rw [List.mem_singleton.mp hc]; exact lb)
    refine collect_zs (s := { s1 with heap := h' }) hh S (Draws.tuple (A := A'.in1.in1) hh _ a (Nat.ne_of_lt la) its.toArray) (Draws.tuple (A := A'.in1.in1) hh _ b (Nat.ne_of_lt (Nat.lt_succ_of_lt lb)) its2.toArray) hz hTI hTO ⟨⟨_, g1, rfl, rfl⟩, p1.keeps hk⟩ ⟨⟨_, g2, rfl, rfl⟩, p2.keeps hk⟩
      (fun c hc => by
        show c < h'.objs.size
        rw [hsz]
        rcases List.mem_cons.mp hc with rfl | hc
        · exact Nat.lt_add_of_pos_right (by decide)
        · rw [List.mem_singleton.mp hc]
          exact Nat.lt_of_lt_of_le la (Nat.le_add_right _ _)) (fun c hc => by
        show c < h'.objs.size
        rw [hsz]
        rcases List.mem_cons.mp hc with rfl | hc
        · exact Nat.add_lt_add_left (by decide) _
        · rw [List.mem_singleton.mp hc]
          exact Nat.lt_of_lt_of_le lb (Nat.le_add_right _ _)) (by rw [List.size_toArray, ← rx.length]; exact Nat.le_trans (Nat.min_le_left _ _) z1) fun h2 tk L hk2 hl C hlt => ?_
    have hk3 : ∀ c o, s1.heap.get? c = some o → h2.get? c = some o := fun c o e => by
      have lc := Heap.lt_size e
      exact hk2 c o (Nat.ne_of_lt (Nat.lt_of_lt_of_le lc (Nat.le_add_right _ _))) (Nat.ne_of_lt (Nat.lt_of_lt_of_le lc (Nat.le_add_right _ _))) (Nat.ne_of_lt lc) (Nat.ne_of_lt (Nat.lt_of_lt_of_le lc (Nat.le_add_right _ _))) (hk c o e)
    obtain ⟨H2, I2, l2, r2⟩ := laid_pairs (tk := tk) I j1 rx ry rd re (base := h'.objs.size + 1) (by rw [hsz]; exact Nat.le_trans (Nat.le_add_right _ 5) (Nat.le_succ _)) hk3 (by simpa using hl) C
    have e : (L.map fun t => Value.ref t.1) = (L.map (·.1)).map Value.ref := by rw [List.map_map]; rfl
    rw [e]
    exact q h2 tk (L.map (·.1)) H2 I2 l2 r2
  · obtain ⟨its, rx, p1', z1⟩ := I.list h1
    obtain ⟨its2, ry, p2', z2⟩ := I.list h2
    have p1 := p1'.isList
    have p2 := p2'.isList
    have la : a < s1.heap.objs.size := by obtain ⟨o, e, _⟩ := id p1; exact Heap.lt_size e
    have lb : b < s1.heap.objs.size := by obtain ⟨o, e, _⟩ := id p2; exact Heap.lt_size e
    refine zip_begins2 (begins_list a its.toArray) (begins_list b its2.toArray) p1 p2 fun h' hz hTI hTO g1 g2 hsz hk => ⟨_, rfl, I.kept (t' := s1.toks) hk, fun A' E' Q' hh q => ?_, ⟨_, hz, rfl⟩⟩
    have S := zip_sep2 (N := s1.heap.objs.size) (fp1 := [a]) (fp2 := [b]) (fun c hc => by rw [List.mem_singleton.mp hc]; exact la) (fun c hc => by rw [List.mem_singleton.mp hc]; exact lb)
    refine collect_zs (s := { s1 with heap := h' }) hh S (Draws.list (A := A'.in1.in1) hh _ a (Nat.ne_of_lt la) its.toArray) (Draws.list (A := A'.in1.in1) hh _ b (Nat.ne_of_lt (Nat.lt_succ_of_lt lb)) its2.toArray) hz hTI hTO ⟨⟨_, g1, rfl, rfl⟩, p1.at fun o e => hk a o e⟩ ⟨⟨_, g2, rfl, rfl⟩, p2.at fun o e => hk b o e⟩
      (fun c hc => by
        show c < h'.objs.size
        rw [hsz]
        rcases List.mem_cons.mp hc with rfl | hc
        · exact Nat.lt_add_of_pos_right (by decide)
        · rw [List.mem_singleton.mp hc]
          exact Nat.lt_of_lt_of_le la (Nat.le_add_right _ _)) (fun c hc => by
        show c < h'.objs.size
        rw [hsz]
        rcases List.mem_cons.mp hc with rfl | hc
        · exact Nat.add_lt_add_left (by decide) _
        · rw [List.mem_singleton.mp hc]
          exact Nat.lt_of_lt_of_le lb (Nat.le_add_right _ _)) (by rw [List.size_toArray, ← rx.length]; exact Nat.le_trans (Nat.min_le_left _ _) z1) fun h2 tk L hk2 hl C hlt => ?_
    have hk3 : ∀ c o, s1.heap.get? c = some o → h2.get? c = some o := fun c o e => by
      have lc := Heap.lt_size e
      exact hk2 c o (Nat.ne_of_lt (Nat.lt_of_lt_of_le lc (Nat.le_add_right _ _))) (Nat.ne_of_lt (Nat.lt_of_lt_of_le lc (Nat.le_add_right _ _))) (Nat.ne_of_lt lc) (Nat.ne_of_lt (Nat.lt_of_lt_of_le lc (Nat.le_add_right _ _))) (hk c o e)
    obtain ⟨H2, I2, l2, r2⟩ := laid_pairs (tk := tk) I j1 rx ry rd re (base := h'.objs.size + 1) (by rw [hsz]; exact Nat.le_trans (Nat.le_add_right _ 5) (Nat.le_succ _)) hk3 (by simpa using hl) C
    have e : (L.map fun t => Value.ref t.1) = (L.map (·.1)).map Value.ref := by rw [List.map_map]; rfl
    rw [e]
    exact q h2 tk (L.map (·.1)) H2 I2 l2 r2
theorem vals_refs : ∀ Ts : List Addr, Vals (Ts.map V.ref) (Ts.map Value.ref)
  | [] => .nil
  | T :: Ts => .cons rfl (vals_refs Ts)
/-- a tuple, laid in either way -/
def Tr (ds : List PyData) : Ty ok := ⟨fun H v => ∃ a vs, v = .ref a ∧ ok a ∧ Rd H a (.tup vs) ∧ RA ok H vs ds, fun e ⟨a, vs, h1, ka, h2, r⟩ => ⟨a, vs, h1, ka, rdm h2 fun o => e _ o ka, r.same e⟩⟩
theorem Tr.ofD {ds : List PyData} {H : Hp} {v : V} (h : (D (ok := ok) (.tuple ds)).p H v) : (Tr (ok := ok) ds).p H v := by
  cases h with
  | @tup a xs _ ka h1 r => exact ⟨a, xs, rfl, ka, h1.rd, r⟩
theorem Tr.ofF {ds : List PyData} {H : Hp} {v : V} (h : (Fz (ok := ok) ds).p H v) : (Tr (ok := ok) ds).p H v := by
  obtain ⟨a, o, vs, h1, ka, h2, _, r⟩ := h
  exact ⟨a, vs, h1, ka, .inr ⟨o, h2⟩, r⟩
/-- sorted(zip(a, b)), two tuples -/
theorem vsortedZip {W : Wd ok} {X : Cx} {δ : DEnv ok} {κ : Type} {enc : κ → PyData} {e1 e2 : Expr} {p p2 pos q : Pos} {ds es : List PyData} {ks : List κ} (N : En enc) (hu : X.A.units + 64 < cLine) (hc : X.calm = true) (hm : X.mg "sorted" = none) (hm2 : X.mg "zip" = none) (hks : ((ds.zip es).map fun p => .tuple [p.1, p.2]) = ks.map enc)
    (ha : PAv W X [e1, e2] δ [Tr ds, Tr es]) (hg : Gl X "sorted" := by rfl) (hg2 : Gl X "zip" := by rfl) (hs : starEach [e1, e2] X.env = (false, eval e1 X.env) :: starEach [e2] X.env := by rfl) (hpl : (backTo q (starEach [e2] X.env)).any (·.1) = false := by rfl) :
    PEv W X (.Call (.Name "sorted" p) [.Call (.Name "zip" p2) [e1, e2] [] q] [] pos) δ (D (.list ((srt enc ks).map enc))) := by
  refine ⟨fun σ H Q sl k pins s I => ?_⟩
  refine Call_ (ld_blt I hg hm (u := .builtin "sorted") (by decide +kernel) ?_)
  refine PyProof.Rows.callWith_builtin1 (PyProof.Rows.args_cons ?_ rfl) rfl rfl
  refine Call_ (ld_blt I hg2 hm2 PyProof.Rows.boot_zip ?_)
  refine PyProof.Rows.callWith_type1 (thn (paW.run q pins s σ H (fun vs H1 => Le W H H1 ∧ TyA H1 vs [Tr ds, Tr es]) I (ha.run σ H _ sl fun vs H1 s1 r => ⟨s1, r⟩)) fun us s1 ⟨vs, H1, I1, r1, l1, t1⟩ => ?_) hs hpl
  cases t1 with
  | cons t1 t =>
    cases t with
    | cons t2 t =>
      cases t
      obtain ⟨a, xs, rfl, ka, ta, ra⟩ := t1
      · obtain ⟨b, ys, rfl, kb, tb, rb⟩ := t2
        · cases r1 with
          | cons r1 rr =>
            cases rr with
            | cons r2 rr =>
              cases rr
              cases r1
              cases r2
              refine thn (zip_makes I1 l1.j (.inl ⟨.inl ta, .inl tb⟩) ra rb) fun v s2 ⟨z, ev, I2, zv, hT⟩ => PyProof.Rows.args_nil ?_
              subst ev
              refine Calls.call_function_entry kind_sorted plain_sorted entry_sorted (args_sorted1 _) ?_
              unfold Builtin.«sorted»
              refine wpAny_bind (m := checkCount "sorted" 1 1 _) (wpAny_pure ?_)
              refine wpAny_bind (zv X.A.in1 _ _ (I1.ok.hd hc) fun h3 tk Ts H3 I3 l3 r3 => ?_)
              rw [hks] at r3
              have hz : (Ts.map Value.ref).length ≤ sizeLine := by
                obtain ⟨_, _, _, z1⟩ := I1.tuple (.inl ta)
                have q1 := r3.length
                rw [← hks, List.length_map, List.length_map, List.length_zip] at q1
                rw [List.length_map, q1, ← ra.length]
                exact Nat.le_trans (Nat.min_le_left _ _) z1
              refine wpAny_bind (wpAny_newList ?_ hz)
              have hoL : (h3.push (seqObj "list" (Ts.map Value.ref).toArray 0)).get? h3.objs.size = some (seqObj "list" (Ts.map Value.ref).toArray 0) := Heap.get?_push_size _ rfl
              have e := vals_each (vals_refs Ts) r3
              have rd : PySem.W.EachIs (fun v k => ∃ as, Reads (PySem.W.sortingHeap (h3.push (seqObj "list" (Ts.map Value.ref).toArray 0)) h3.objs.size (Ts.map Value.ref)) v (enc k) as) (Ts.map Value.ref) ks := e.mono fun v k ⟨x, rx, hx⟩ => by
                obtain ⟨as, rr⟩ := Dp.reads I3 _ _ _ (R.dp hx) rx
                exact ⟨as, PyProof.Rows.Reads.keeps (fun b u e => PySem.W.sortingHeap_old (Nat.ne_of_lt (Heap.lt_size e)) (Heap.get?_push_of_some _ e)) rr⟩
              refine wpAny_bind (wpAny_holding (wpAny_call_entry slot_list_sort ⟨_, hoL, rfl⟩ entry_list_sort (PySem.W.list_sort_vals (s := { s2 with heap := h3.push (seqObj "list" (Ts.map Value.ref).toArray 0), toks := tk }) (κ := PySem.W.dataKind (PySem.W.sortingHeap (h3.push (seqObj "list" (Ts.map Value.ref).toArray 0)) h3.objs.size (Ts.map Value.ref)) (ks.map enc)) hoL (sorts_en N rd (by
                show X.A.units + 2 + 60 < cLine
                omega)) hz ⟨_, rfl, ?_⟩) (args_list_sort _)))
              have eo := each_sorted N rd _ e
              rw [merge_srt N] at eo
              obtain ⟨ys2, y1, y2⟩ := each_vals eo
              generalize PySem.W.sortVals (PySem.W.dataKind (PySem.W.sortingHeap (h3.push (seqObj "list" (Ts.map Value.ref).toArray 0)) h3.objs.size (Ts.map Value.ref)) (ks.map enc)) false (Ts.map Value.ref) (Ts.map Value.ref) = out at eo y1
              obtain ⟨c, hcc⟩ := sortedHeap_at (vs := Ts.map Value.ref) (out := out.toArray) hoL
              have hn : H3 h3.objs.size = none := I3.hok.fresh (Nat.le_refl _)
              have hlen : ys2.length ≤ sizeLine := by
                rw [y2.length, List.length_map, (srt_perm enc ks).length_eq, ← List.length_map (f := enc), ← r3.length, List.length_map]
                rw [List.length_map] at hz
                exact hz
              refine wpAny_pure ⟨_, rfl, .ref _, upd H3 h3.objs.size (.lst ys2), I3.laid (t' := tk) (fun b u e => ?_) (Nat.le_refl _) ⟨hlen, out, c, y1, hcc⟩, rfl, k _ _ ((l1.trans l3).trans (le_upd l3.j hn)) (.lst (W.fresh l3.j hn) upd_same (y2.same (Rel.of (same_upd hn))))⟩
              have hlt := Heap.lt_size e
              show (sortedHeap (h3.push (seqObj "list" (Ts.map Value.ref).toArray 0)) h3.objs.size (Ts.map Value.ref) _).get? b = some u
              rw [sortedHeap_old (Nat.ne_of_lt hlt) (by rw [size_push']; exact Nat.lt_succ_of_lt hlt)]
              exact Heap.get?_push_of_some _ e
end
end Kl
set_option linter.all false
set_option maxRecDepth 100000
set_option maxHeartbeats 4000000
/-! # M7: tuple(zip(..)) -/
namespace Kl
open PySem PySem.Spec PyProof.Rows L2
section
variable {prog : Program} {w : World} {A : Around} {E : Value → Shared → Prop} {s : Shared}
/-- tuple(z), z a zip whose collecting is known -/
theorem call_tuple_zip {z : Addr} {Q : Value → Shared → Prop} (hT : s.TypeIs (.ref z) "zip") (G : List Value → Shared → Prop)
    (hcol : ∀ (A' : Around) (E' : Value → Shared → Prop) (Q' : List Value → Shared → Prop), A'.handled = A.handled → (∀ vs s1, G vs s1 → Q' vs s1) → wpAny (model prog w) A' (collect (.ref z)) Q' E' s)
    (hQ : ∀ vs s1, G vs s1 → vs.length ≤ sizeLine ∧ Q (.ref s1.heap.objs.size) { s1 with heap := s1.heap.push { cls := .type "tuple", data := .seq vs.toArray } }) : wpAny (model prog w) A (call (.type "tuple") [.ref z]) Q E s := by
  refine callType_codes (Q₁ := fun obj s₁ => s₁.TypeIs obj "tuple" ∧ Q obj s₁) F.called_tuple (F.typeCall_tuple_1 _) F.entry_object_init ?_ fun obj s₁ h₁ => ?_
  · refine codeAny_of_tree ?_
    show wpAny _ A.in1.in1 (do checkBuiltinCall "tuple.__new__" ⟨[.type "tuple", .ref z], []⟩; again (.builtin "tuple.__new__" ⟨[.type "tuple", .ref z], []⟩)) _ _ s
    refine wpAny_bind (wpAny_of_eq (F.newCall_tuple_1 _) (wpAny_pure ⟨plainId_quiet F.plain_tuple_new _, codeAny_builtin F.entry_tuple_new ?_⟩))
    rw [Around.under_plainId F.plain_tuple_new _]
    have hsub := sub_tuple_self
    have hinit := init_tuple_lookup
    have hmh := madeHere_tuple
    have hc2 : ∀ {E' : Value → Shared → Prop} {Q' : List Value → Shared → Prop}, (∀ vs s1, G vs s1 → Q' vs s1) → wpAny (model prog w) A.in1.in1 (collect (.ref z)) Q' E' s := fun h => hcol _ _ _ rfl h
    wp_walk using wpAny_typeOf hT, hc2
    intro vs s1 g
    obtain ⟨hz, q⟩ := hQ vs s1 g
    show wpAny _ _ (Builtin.Tuple.tupleExact vs.toArray >>= fun v => ret v) _ _ _
    unfold Builtin.Tuple.tupleExact
    refine wpAny_bind (wpAny_newObj_type ?_ (by show vs.toArray.size ≤ sizeLine; simpa using hz))
    exact wpAny_pure ⟨⟨_, Heap.get?_push_size _ rfl, rfl⟩, q⟩
  · exact ⟨h₁.1, F.args_object_init_2 obj _, object_init_meets F.called_tuple.init.lookup F.called_tuple.made (by decide) prog w A.in1 _ s₁ ⟨h₁.1, rfl, h₁.2⟩⟩
end
section
variable {ok : Addr → Prop}
/-- tuple(zip(a, b)), two lists -/
theorem vtupleZipF {W : Wd ok} {X : Cx} {δ : DEnv ok} {e1 e2 : Expr} {p p2 pos q : Pos} {ds es : List PyData} (hc : X.calm = true) (hm : X.mg "tuple" = none) (hm2 : X.mg "zip" = none)
    (ha : PAv W X [e1, e2] δ [D (.list ds), D (.list es)]) (hg : Gl X "tuple" := by rfl) (hg2 : Gl X "zip" := by rfl) (hs : starEach [e1, e2] X.env = (false, eval e1 X.env) :: starEach [e2] X.env := by rfl) (hpl : (backTo q (starEach [e2] X.env)).any (·.1) = false := by rfl) :
    PEv W X (.Call (.Name "tuple" p) [.Call (.Name "zip" p2) [e1, e2] [] q] [] pos) δ (Fz ((ds.zip es).map fun p => .tuple [p.1, p.2])) := by
  refine ⟨fun σ H Q sl k pins s I => ?_⟩
  refine Call_ (ld_blt I hg hm (u := .type "tuple") (by decide +kernel) ?_)
  refine PyProof.Rows.callWith_type1 (PyProof.Rows.args_cons ?_ rfl) rfl rfl
  refine Call_ (ld_blt I hg2 hm2 PyProof.Rows.boot_zip ?_)
  refine PyProof.Rows.callWith_type1 (thn (paW.run q pins s σ H (fun vs H1 => Le W H H1 ∧ TyA H1 vs [D (.list ds), D (.list es)]) I (ha.run σ H _ sl fun vs H1 s1 r => ⟨s1, r⟩)) fun us s1 ⟨vs, H1, I1, r1, l1, t1⟩ => ?_) hs hpl
  cases t1 with
  | cons t1 t =>
    cases t with
    | cons t2 t =>
      cases t
      cases t1 with
      | @lst a xs _ ka ta ra =>
        cases t2 with
        | @lst b ys _ kb tb rb =>
          cases r1 with
          | cons r1 rr =>
            cases rr with
            | cons r2 rr =>
              cases rr
              cases r1
              cases r2
              refine thn (zip_makes I1 l1.j (.inr ⟨SqL.of ta, SqL.of tb⟩) ra rb) fun v s2 ⟨z, ev, I2, zv, hT⟩ => PyProof.Rows.args_nil ?_
              subst ev
              refine call_tuple_zip hT (fun us s3 => ∃ (h' : Heap) (tk : Nat) (Ts : List Addr) (H2 : Hp), us = Ts.map Value.ref ∧ s3 = { s2 with heap := h', toks := tk } ∧ Inv X pins σ H2 { s2 with heap := h', toks := tk } ∧ Le W H1 H2 ∧ RA ok H2 (Ts.map V.ref) ((ds.zip es).map fun p => .tuple [p.1, p.2]))
                (fun A' E' Q' hA q => zv A' E' Q' (hA.trans (I1.ok.hd hc)) fun h' tk Ts H2 I3 l3 r3 => q _ _ ⟨h', tk, Ts, H2, rfl, rfl, I3, l3, r3⟩) fun us s3 hG => ?_
              obtain ⟨h3, tk, Ts, H3, rfl, rfl, I3, l3, r3⟩ := hG
              have hz : Ts.length ≤ sizeLine := by
                obtain ⟨_, _, _, z1⟩ := I1.list (SqL.of ta)
                have q1 := r3.length
                rw [List.length_map, List.length_map, List.length_zip] at q1
                rw [q1, ← ra.length]
                exact Nat.le_trans (Nat.min_le_left _ _) z1
              have hn : H3 h3.objs.size = none := I3.hok.fresh (Nat.le_refl _)
              refine ⟨by rw [List.length_map]; exact hz, .ref h3.objs.size, upd H3 h3.objs.size (.frz { cls := .type "tuple", data := .seq (Ts.map Value.ref).toArray } (.tup (Ts.map V.ref))), I3.laid (t' := tk) (fun b u e => Heap.get?_push_of_some _ e) (Nat.le_refl _) ?_, rfl, k _ _ ((l1.trans l3).trans (le_upd l3.j hn)) ⟨h3.objs.size, _, _, rfl, W.fresh l3.j hn, upd_same, rfl, r3.same (Rel.of (same_upd hn))⟩⟩
              exact ⟨Heap.get?_push_size _ rfl, by rw [List.length_map]; exact hz, Ts.map Value.ref, vals_refs Ts, ⟨_, Heap.get?_push_size _ rfl, rfl, _, rfl⟩⟩
/-- tuple(zip(a, b)), two lists -/
theorem vtupleZipD {W : Wd ok} {X : Cx} {δ : DEnv ok} {e1 e2 : Expr} {p p2 pos q : Pos} {ds es : List PyData} (hc : X.calm = true) (hm : X.mg "tuple" = none) (hm2 : X.mg "zip" = none)
    (ha : PAv W X [e1, e2] δ [D (.list ds), D (.list es)]) (hg : Gl X "tuple" := by rfl) (hg2 : Gl X "zip" := by rfl) (hs : starEach [e1, e2] X.env = (false, eval e1 X.env) :: starEach [e2] X.env := by rfl) (hpl : (backTo q (starEach [e2] X.env)).any (·.1) = false := by rfl) :
    PEv W X (.Call (.Name "tuple" p) [.Call (.Name "zip" p2) [e1, e2] [] q] [] pos) δ (D (.tuple ((ds.zip es).map fun p => .tuple [p.1, p.2]))) := by
  refine ⟨fun σ H Q sl k pins s I => ?_⟩
  refine Call_ (ld_blt I hg hm (u := .type "tuple") (by decide +kernel) ?_)
  refine PyProof.Rows.callWith_type1 (PyProof.Rows.args_cons ?_ rfl) rfl rfl
  refine Call_ (ld_blt I hg2 hm2 PyProof.Rows.boot_zip ?_)
  refine PyProof.Rows.callWith_type1 (thn (paW.run q pins s σ H (fun vs H1 => Le W H H1 ∧ TyA H1 vs [D (.list ds), D (.list es)]) I (ha.run σ H _ sl fun vs H1 s1 r => ⟨s1, r⟩)) fun us s1 ⟨vs, H1, I1, r1, l1, t1⟩ => ?_) hs hpl
  cases t1 with
  | cons t1 t =>
    cases t with
    | cons t2 t =>
      cases t
      cases t1 with
      | @lst a xs _ ka ta ra =>
        cases t2 with
        | @lst b ys _ kb tb rb =>
          cases r1 with
          | cons r1 rr =>
            cases rr with
            | cons r2 rr =>
              cases rr
              cases r1
              cases r2
              refine thn (zip_makes I1 l1.j (.inr ⟨SqL.of ta, SqL.of tb⟩) ra rb) fun v s2 ⟨z, ev, I2, zv, hT⟩ => PyProof.Rows.args_nil ?_
              subst ev
              refine call_tuple_zip hT (fun us s3 => ∃ (h' : Heap) (tk : Nat) (Ts : List Addr) (H2 : Hp), us = Ts.map Value.ref ∧ s3 = { s2 with heap := h', toks := tk } ∧ Inv X pins σ H2 { s2 with heap := h', toks := tk } ∧ Le W H1 H2 ∧ RA ok H2 (Ts.map V.ref) ((ds.zip es).map fun p => .tuple [p.1, p.2]))
                (fun A' E' Q' hA q => zv A' E' Q' (hA.trans (I1.ok.hd hc)) fun h' tk Ts H2 I3 l3 r3 => q _ _ ⟨h', tk, Ts, H2, rfl, rfl, I3, l3, r3⟩) fun us s3 hG => ?_
              obtain ⟨h3, tk, Ts, H3, rfl, rfl, I3, l3, r3⟩ := hG
              have hz : Ts.length ≤ sizeLine := by
                obtain ⟨_, _, _, z1⟩ := I1.list (SqL.of ta)
                have q1 := r3.length
                rw [List.length_map, List.length_map, List.length_zip] at q1
                rw [q1, ← ra.length]
                exact Nat.le_trans (Nat.min_le_left _ _) z1
              have hn : H3 h3.objs.size = none := I3.hok.fresh (Nat.le_refl _)
              refine ⟨by rw [List.length_map]; exact hz, .ref h3.objs.size, upd H3 h3.objs.size (.tup (Ts.map V.ref)), I3.laid (t' := tk) (fun b u e => Heap.get?_push_of_some _ e) (Nat.le_refl _) ?_, rfl, k _ _ ((l1.trans l3).trans (le_upd l3.j hn)) (.tup (W.fresh l3.j hn) (.inl upd_same) (r3.same (Rel.of (same_upd hn))))⟩
              exact ⟨by rw [List.length_map]; exact hz, Ts.map Value.ref, vals_refs Ts, ⟨_, Heap.get?_push_size _ rfl, rfl, _, rfl⟩⟩
end
end Kl
set_option linter.all false
set_option maxRecDepth 100000
set_option maxHeartbeats 4000000
/-! # M8: tuples laid with their object: made, asked; list.index -/
namespace Kl
open PySem PySem.Spec PyProof.Rows L2
section
variable {ok : Addr → Prop} {W : Wd ok} {X : Cx} {δ : DEnv ok}
/-- tuple(list), laid with its object -/
theorem vtupleLF {a : Expr} {p pos : Pos} {ds : List PyData} (hm : X.mg "tuple" = none) (ha : PEv W X a δ (D (.list ds))) (hg : Gl X "tuple" := by rfl) (hs : starEach [a] X.env = (false, eval a X.env) :: starEach [] X.env := by rfl) : PEv W X (.Call (.Name "tuple" p) [a] [] pos) δ (Fz ds) := by
  refine ⟨fun σ H Q sl k pins s I => ?_⟩
  refine Call_ (ld_blt I hg hm (u := .type "tuple") (by decide +kernel) ?_)
  refine PyProof.Rows.callWith_type1 (PyProof.Rows.args_cons (thn (ha.run σ H (fun v H1 => Le W H H1 ∧ R ok H1 v (.list ds)) sl (fun v H1 s1 r1 => ⟨s1, r1⟩) pins s I) fun v s1 ⟨x, H1, I1, r1, l1, hx⟩ => PyProof.Rows.args_nil ?_) hs) hs rfl
  cases hx with
  | @lst b xs _ kb h1 ra =>
    cases r1
    obtain ⟨its, rv, pl, hz⟩ := I1.list (SqL.of h1)
    have hlen := rv.length
    refine call_tuple_list pl.isList (fun h' kp => ?_) (by simp only [List.size_toArray] <;> omega)
    have I2 : Inv X pins σ H1 { s1 with heap := h' } := I1.kept (t' := s1.toks) kp
    have hn : H1 h'.objs.size = none := I2.hok.fresh (Nat.le_refl _)
    refine ⟨.ref h'.objs.size, upd H1 h'.objs.size (.frz { cls := .type "tuple", data := .seq its.toArray } (.tup xs)), I2.laid (t' := s1.toks) (fun b o e => Heap.get?_push_of_some _ e) (Nat.le_refl _) ?_, rfl, k _ _ (l1.trans (le_upd l1.j hn)) ⟨h'.objs.size, _, _, rfl, W.fresh l1.j hn, upd_same, rfl, ra.same (Rel.of (same_upd hn))⟩⟩
    exact ⟨Heap.get?_push_size _ rfl, hz, its, rv, ⟨_, Heap.get?_push_size _ rfl, rfl, _, rfl⟩⟩
/-- t.index(x), t laid with its object -/
theorem vindexF {o e : Expr} {apos cpos : Pos} {ns : List Str} {x : Str} {j : Nat} (ho : PEv W X o δ (Fz (ns.map .str))) (he : PEv W X e δ (D (.str x))) (hj : ns[j]? = some x) (hno : ∀ m, m < j → ns[m]? ≠ some x)
    (hbase : attributeBase o "index" X.env (eval o X.env) = eval o X.env := by rfl)
    (hfew : ((backTo cpos (starEach [e] X.env)).all (fun x => !x.1) && (backToKw cpos (keywordEach [] X.env)).all (fun x => x.1.isSome) && decide ([e].length + ([] : List Keyword).length + (if ([] : List Keyword).isEmpty then 0 else 1) < 30)) = true := by rfl)
    (hline : (apos.endLine == cpos.line) = true := by rfl) (hs : starEach [e] X.env = (false, eval e X.env) :: starEach [] X.env := by rfl) (hplain : (backTo cpos (starEach [] X.env)).any (·.1) = false := by rfl) : PEv W X (.Call (.Attribute o "index" apos) [e] [] cpos) δ (D (.int (j : Nat))) := by
  refine ⟨fun σ H Q sl q pins s I => ?_⟩
  refine wpAny_Call_method_late hbase hfew hline rfl (thn (ho.run σ H (fun v H1 => Le W H H1 ∧ (Fz (ok := ok) (ns.map .str)).p H1 v) sl (fun v H1 l p => ⟨l, p⟩) pins s I) fun v s1 ⟨z, H1, I1, r1, l1, p1⟩ => ?_)
  obtain ⟨a, ob, vs, rfl, ka, h1, hd, ra⟩ := p1
  obtain rfl : v = Value.ref a := r1
  obtain ⟨hob, hz, its, rv, o', ho', hc, n, hdat⟩ : ObjOk X.prog X.w H1 s1.heap a (.frz ob (.tup vs)) := I1.hok a _ h1
  rw [hob] at ho'
  cases ho'
  refine ⟨"tuple", "tuple.index", PySem.F.plainAttrs_tuple, PySem.F.slot_tuple_index, PySem.F.type_tuple_index, ⟨ob, hob, hc⟩, fun b e => by cases e; exact ⟨ob, hob, hd⟩, ?_⟩
  have hA := paW.run cpos pins s1 σ H1 (fun vs H2 => Le W H1 H2 ∧ TyA H2 vs [D (ok := ok) (.str x)]) I1 ((acons he anil hs).run σ H1 _ (sl.same l1) fun vs H2 l p => ⟨l, p⟩)
  rw [hs] at hA ⊢
  refine Calls.callWith_builtin (by show (false || (backTo cpos (starEach [] X.env)).any (·.1)) = false; rw [hplain] <;> rfl) (Calls.evalArgs_plain ?_)
  refine thn hA fun us s2 ⟨ws, H2, I2, r2, l2, t2⟩ => ?_
  cases t2 with
  | cons t2 t =>
    cases t
    cases t2
    refine L2.mt_tup_index pins s2 σ H2 (.ref a) _ (.ref a) us Q I2 rfl r2 ⟨a, ns, x, j, rfl, rfl, ?_, hj, hno, q _ H2 (l1.trans l2) (.int _)⟩
    rw [← ra.strs]
    exact .inl (.inr ⟨ob, l2.rel _ _ ka h1⟩)
/-- xs.index(True) -/
theorem vindexT {o e : Expr} {apos cpos : Pos} {bs : List Bool} {j : Nat} (ho : PEv W X o δ (D (.list (bs.map .bool)))) (he : PEv W X e δ (D (.bool true))) (hj : bs[j]? = some true) (hno : ∀ m, m < j → bs[m]? = some false)
    (hbase : attributeBase o "index" X.env (eval o X.env) = eval o X.env := by rfl)
    (hfew : ((backTo cpos (starEach [e] X.env)).all (fun x => !x.1) && (backToKw cpos (keywordEach [] X.env)).all (fun x => x.1.isSome) && decide ([e].length + ([] : List Keyword).length + (if ([] : List Keyword).isEmpty then 0 else 1) < 30)) = true := by rfl)
    (hline : (apos.endLine == cpos.line) = true := by rfl) (hs : starEach [e] X.env = (false, eval e X.env) :: starEach [] X.env := by rfl) (hplain : (backTo cpos (starEach [] X.env)).any (·.1) = false := by rfl) : PEv W X (.Call (.Attribute o "index" apos) [e] [] cpos) δ (D (.int (j : Nat))) :=
  PEv.of (pe_bm PySem.F.plainAttrs_list PySem.F.slot_list_index PySem.F.type_list_index mt_index peW paW hbase hfew hline hs hplain) fun σ H Q sl q => ho.run σ H _ sl fun x H1 s1 p1 => by
    cases p1 with
    | @lst a xs _ ka h1 ra =>
      refine ⟨.inl ⟨rfl, xs, SqL.of h1⟩, (acons he anil hs).run σ H1 _ (sl.same s1) fun us H2 s2 p2 => ?_⟩
      cases p2 with
      | cons p2 t =>
        cases t
        cases p2
        rw [ra.bools] at h1
        refine ⟨a, bs.map V.bl, .bl true, j, .bl true, rfl, rfl, SqL.of (s2.rel _ _ ka h1), rfl, ?_, by rw [List.getElem?_map, hj]; rfl, rfl, fun m z' hm hz => ?_, q _ H2 (s1.trans s2) (.int _)⟩
        · rw [List.all_eq_true]
          intro y hy
          obtain ⟨b, _, rfl⟩ := List.mem_map.mp hy
          rfl
        · rw [List.getElem?_map, hno m hm] at hz
          cases hz
          rfl
/-- True in xs -/
theorem c_inB {b : Bool} {bs : List Bool} : Cm W X .In (D (.bool b)) (D (.list (bs.map .bool))) (bs.contains b) := ⟨_, op_in_seq, fun H u v Q p q k => by
  cases p
  cases q with
  | @lst a ws _ ka h1 r =>
    rw [r.bools] at h1
    refine ⟨a, _, rfl, .inl (SqL.of h1), rfl, ?_, ?_⟩
    · rw [List.all_eq_true]
      intro y hy
      obtain ⟨b, _, rfl⟩ := List.mem_map.mp hy
      rfl
    · have e : inV (.bl b) (bs.map V.bl) = bs.contains b := by
        clear h1 r k
        induction bs with
        | nil => rfl
        | cons c cs ih =>
          show (eqV (.bl c) (.bl b) || inV (.bl b) (cs.map V.bl)) = _
          rw [ih, List.contains_cons]
          cases b <;> cases c <;> rfl
      rw [e]
      exact k⟩
end
end Kl
set_option linter.all false
set_option maxRecDepth 100000
set_option maxHeartbeats 4000000
/-! # L6: parts of taken_right -/
namespace Kl
open PySem PySem.Spec PyProof.Rows L2
/-- (hour, key) -/
def encHK (p : Int × Str) : PyData := .tuple [.int p.1, .str p.2]
theorem en_hk : En encHK := ⟨fun a b => by simp [encHK, PySem.W.alike, PySem.W.alikeAll], fun a b h => by
    simp only [encHK, PySem.W.keyToks, PySem.W.keyToksAll, List.cons_append, List.nil_append, List.cons.injEq, true_and] at h
    exact Prod.ext (Sum.inl.inj h.1) (PySem.W.str_of_cps (Sum.inr.inj h.2.1)), fun a => by simp [encHK, PyData.depth, PyData.depthAll], .inl fun a => ⟨_, rfl⟩⟩
/-- the keys in the order in which their hours come -/
def orderOf (hours : List Int) (keys : List Str) : List Str := (srt encHK (hours.zip keys)).map (·.2)
section
variable {P : Program} {w : World} {K : PySem.W.Frag} {mg : Str → Option Value} {base : Heap}
def A_L_keysF : Prm := fun ok W W' Ps T => ∃ N : Net, Small N ∧ W' = W ∧ Ps = [D (encN N)] ∧ T = Fz ((keysOf N).map .str)
theorem ok_L_keysF {f : Addr} {fd : FuncData} (F : Fun K "_law_keys" "_law_keys" s_L_keys f fd) (m : Mn mg) : FnOk P w K mg base CX0 1 f fd ["_law_hub"] (spt A_L_keysF) :=
  okp F sc_L_keys (fun ok W W' Ps T h => by
    obtain ⟨N, _, _, rfl, _⟩ := h
    rfl) fun cdv B outer s H E hr ok W W' Ps T h => by
  obtain ⟨N, sm, rfl, rfl, rfl⟩ := h
  have := sm.lines
  refine bret (vtupleLF m.tuple (vsortset mk_str hr.units rfl (xs := N.lines.map (·.key)) (by rw [List.length_map]; omega) m.sorted m.set (.inl ?_)))
  rw [List.map_map]
  exact vlcA (own := [("_law_own", 1)]) N.lines (fun l => D (encLn l)) (fun l => .str l.key) rfl sc_L_keys.nd (by kernel_rfl) (iTm (vixT (vv 0) vint (at0 1))) (by omega) fun l hl =>
    turn (fun _ _ _ _ _ => gname 1 sc_L_keys.nd) (fun _ _ _ _ _ => qnil) (fun _ _ _ _ _ _ => vixT (vv 1) vint (at0 4)) (fun _ => nol_imm rfl)
end
section
variable {ok : Addr → Prop} {W : Wd ok} {X : Cx} {δ : DEnv ok}
/-- for x in an own list -/
theorem iLJ {tg e : Expr} {a : Addr} {α : Type} {f : α → PyData} {xs : List α} (hJ : LsJ W a (xs.map f)) (h : PEv W X e δ (At a)) : PIj W X tg e δ (xs.map fun x => D (f x)) := PIj.of (pi_list peW) fun σ H R sl q => h.run σ H _ sl fun v H1 s1 p1 => by
  cases p1
  obtain ⟨vs, h1, r⟩ := hJ H1 s1.j
  refine ⟨a, rfl, ⟨vs, SqL.of h1⟩, q _ (fun _ => True) H1 s1 trivial ⟨fun _ _ _ _ => trivial, fun i H hi j _ => ?_, fun H j _ => ?_, fun i H x H' T j _ y hT => ?_⟩⟩
  · obtain ⟨us, h2, r2⟩ := hJ H j
    have hl : i < us.length := by
      rw [r2.length, List.length_map]
      simpa using hi
    exact ⟨us, us[i], SqL.of h2, List.getElem?_eq_getElem hl⟩
  · obtain ⟨us, h2, r2⟩ := hJ H j
    exact ⟨us, SqL.of h2, by rw [r2.length, List.length_map, List.length_map]; exact Nat.le_refl _⟩
  · obtain ⟨rfl, y⟩ := y
    obtain ⟨us, h2, r2⟩ := hJ _ j
    have hx := y us (SqL.of h2)
    rw [List.getElem?_map] at hT
    cases e : xs[i]? with
    | none =>
      rw [e] at hT
      cases hT
    | some x0 =>
      rw [e] at hT
      cases hT
      obtain ⟨d, hd, rd⟩ := r2.at' hx
      rw [List.getElem?_map, e] at hd
      cases hd
      exact ⟨Le.refl j, rd⟩
end
/-- an own list grows under a Watch's world -/
theorem grow_pl {ok : Addr → Prop} {p ls lt : Addr} {W W' : Wd ok} {ds : List PyData} {d : PyData} {k1 : ok ls} {k2 : Kl.exl ok ls lt} {N : Net} {S : List (List Str)} {T : List Deed} (G : Grow W W' p ds d) (hds : immAll ds = true) (hd : imm d = true) : Grow (W.pl k1 k2 N S T) (W'.pl k1 k2 N S T) p ds d where
  no := fun z => G.no z.1.1
  get := fun H j => by
    obtain ⟨⟨j, vs, h, r⟩, us, h2, r2⟩ := j
    obtain ⟨ws, h3, r3⟩ := G.get H j
    exact ⟨ws, h3, RA.immx h2 hds (RA.immx h hds r3)⟩
  set := fun {H vs v} j h r rv => by
    obtain ⟨⟨j, ws, h1, r1⟩, us, h2, r2⟩ := j
    have n1 : ls ≠ p := fun z => G.no (z ▸ k1)
    have n2 : lt ≠ p := fun z => G.no (z ▸ k2.1)
    have j' := G.set j h (RA.unx (RA.unx r)) (R.unx (R.unx rv))
    exact ⟨⟨j', ws, by rw [upd_ne n1]; exact h1, RA.same (fun a o ka e => by rw [upd_ne (show a ≠ p from fun z => G.no (by rw [← z]; exact ka.1))]; exact e) r1⟩, us, by rw [upd_ne n2]; exact h2, RA.same (fun a o ka e => by rw [upd_ne (show a ≠ p from fun z => G.no (by rw [← z]; exact ka.1.1))]; exact e) r2⟩
end Kl
set_option linter.all false
set_option maxRecDepth 100000
set_option maxHeartbeats 4000000
/-! # L7: a, b, c = e, a new Watch, [d] -/
namespace Kl
open PySem PySem.Spec PyProof.Rows L2
section
variable {ok : Addr → Prop} {W : Wd ok}
/-- keys, plate, had = e1, a new Watch, [d] : the block goes on in the world of the Watch's lists over that of the list; a Watch of that world is handed back -/
theorem topen (i j l : Nat) {X : Cx} {δ : List (Option PK)} {T1 : PK} {x y z : Str} {e1 e2 e3 : Expr} {px py pz pt lp pos : Pos} {kt k2 : Nat} {pt2 : Pos} {rest : List Stmt} {C : Addr} {N : Net} {S : List (List Str)} {T : List Deed} {d0 : PyData} {S2 : List (List Str)} {T2 : List Deed} {hs2 : List PyData} (hc : X.calm = true) (hN : X.N.Nodup)
    (h1 : PEv W X e1 (inst ok δ) (T1.t ok)) (h2 : PEo W X e2 (inst ok δ) C N S T) (h3 : PEv W X e3 (inst ok δ) (D d0)) (im0 : immAll [d0] = true) (im2 : immAll hs2 = true)
    (hrest : ∀ (p : Addr) (kp : ok p) (w ls lt : Addr) (k1 : Kl.exl ok p ls) (k2 : Kl.exl (Kl.exl ok p) ls lt), PBv ((W.ext kp [d0] im0).pl k1 k2 N S T) ((W.ext kp hs2 im2).pl k1 k2 N S2 T2) X rest ((((inst (Kl.exl (Kl.exl (Kl.exl ok p) ls) lt) δ).set i (some (T1.t _))).set j (some (Wk C w ls lt))).set l (some (At p))) (Wk C w ls lt))
    (hx : X.env.scope.names.lookup x = some .local) (hy : X.env.scope.names.lookup y = some .local) (hz : X.env.scope.names.lookup z = some .local)
    (hw : swappedStores [.Tuple [.Name x px, .Name y py, .Name z pz] kt pt] (.Tuple [e1, e2, .List [e3] lp] k2 pt2) X.env = pure (some [x, y, z])) (hij : i ≠ j := by decide) (hil : i ≠ l := by decide) (hjl : j ≠ l := by decide) (hi : X.N[i]? = some x := by rfl) (hj : X.N[j]? = some y := by rfl) (hl : X.N[l]? = some z := by rfl)
    (hs : swapsWithSole [.Tuple [.Name x px, .Name y py, .Name z pz] kt pt] (.Tuple [e1, e2, .List [e3] lp] k2 pt2) pos.line X.env = pure false := by rfl)
    (s1 : starEach [e1, e2, .List [e3] lp] X.env = (false, eval e1 X.env) :: starEach [e2, .List [e3] lp] X.env := by rfl) (s2 : starEach [e2, .List [e3] lp] X.env = (false, eval e2 X.env) :: starEach [.List [e3] lp] X.env := by rfl) (s3 : starEach [.List [e3] lp] X.env = (false, eval (.List [e3] lp) X.env) :: starEach [] X.env := by rfl) (s4 : starEach [e3] X.env = (false, eval e3 X.env) :: starEach [] X.env := by rfl)
    {σ : L2.St} {H : Hp} {E : Ends} (sl : Sl W H σ (inst ok δ)) (q : ∀ w dw ls lt H2, ok w → ok ls → ok lt → lt ≠ ls → H w = none → H ls = none → H lt = none → H2 w = some (.ins C dw (wfs ls lt)) → LsA ok H2 ls (S2.map (encS N)) → LsA ok H2 lt (T2.map encD) → Le W H H2 → E.rt (.ref w) H2) :
    tBW X (.Assign [.Tuple [.Name x px, .Name y py, .Name z pz] kt pt] (.Tuple [e1, e2, .List [e3] lp] k2 pt2) pos :: rest) E σ H := by
  intro pins s I
  refine (pss_cons (ps_par3 hc hN hi hj hl hij hil hjl hx hy hz (pa_cons peW (pa_cons peW (pa_cons (pe_lst (pa_cons peW pa_nil s4)) pa_nil s3) s2) s1) hw hs) pbW).run pins s σ H E I ?_
  show tW _ _ _ _ _
  refine h1.run σ H _ sl fun v1 H1 l1 p1 => ?_
  show tW _ _ _ _ _
  refine h2.run σ H1 _ (sl.same l1) fun w dw ls lt H2 kw kls klt ne ew els elt hw2 hls hlt l2 => ?_
  have l2' : Le W H1 H2 := l2.trans ⟨Rel.of same_del, W.up l2.j same_del⟩
  show tW _ _ _ _ _
  refine h3.run σ H2 _ ((sl.same l1).same l2') fun v3 H3 l3 p3 => ?_
  refine ⟨few (by show 1 ≤ 10000000; decide), fun p hp => ?_⟩
  obtain ⟨vS, eS, rS⟩ := hls
  obtain ⟨vT, eT, rT⟩ := hlt
  have kp := W.fresh l3.j hp
  have eS3 : H3 ls = some (.lst vS) := l3.rel _ _ kls eS
  have eT3 : H3 lt = some (.lst vT) := l3.rel _ _ klt eT
  have ew3 : H3 w = some (.ins C dw (wfs ls lt)) := l3.rel _ _ kw hw2
  have n1 : ls ≠ p := ne_of_none eS3 hp
  have n2 : lt ≠ p := ne_of_none eT3 hp
  have nw : w ≠ p := ne_of_none ew3 hp
  have nwS : w ≠ ls := ne_of ew3 eS3 (fun z => nomatch z)
  have nwT : w ≠ lt := ne_of ew3 eT3 (fun z => nomatch z)
  have k1 : Kl.exl ok p ls := ⟨kls, n1⟩
  have k2' : Kl.exl (Kl.exl ok p) ls lt := ⟨⟨klt, n2⟩, ne⟩
  have bk : ∀ {a : Addr} {G G' : Hp}, ok a → Rel ok G G' → G' a = none → G a = none := fun {a G G'} ka r e => by
    cases e0 : G a with
    | none => rfl
    | some o =>
      have := r a o ka e0
      rw [e] at this
      cases this
  have r13 : Rel ok H1 H3 := l2'.rel.trans l3.rel
  have p1none : H1 p = none := bk kp r13 hp
  have pnone : H p = none := bk kp l1.rel p1none
  have snone : H ls = none := bk kls l1.rel els
  have tnone : H lt = none := bk klt l1.rel elt
  have wnone : H w = none := bk kw l1.rel ew
  have r34 : Rel ok H3 (upd H3 p (.lst [v3])) := Rel.of (same_upd hp)
  have rel1 : Rel (Kl.exl (Kl.exl (Kl.exl ok p) ls) lt) H1 (upd H3 p (.lst [v3])) := fun a o ka e => r34 a o ka.1.1.1 (r13 a o ka.1.1.1 e)
  have rel0 : Rel (Kl.exl (Kl.exl (Kl.exl ok p) ls) lt) H (upd H3 p (.lst [v3])) := fun a o ka e => rel1 a o ka (l1.rel a o ka.1.1.1 e)
  have e4p : upd H3 p (.lst [v3]) p = some (.lst [v3]) := upd_same
  have e4S : upd H3 p (.lst [v3]) ls = some (.lst vS) := by rw [upd_ne n1]; exact eS3
  have e4T : upd H3 p (.lst [v3]) lt = some (.lst vT) := by rw [upd_ne n2]; exact eT3
  have jV : ((W.ext kp [d0] im0).pl k1 k2' N S T).J (upd H3 p (.lst [v3])) := by
    refine ⟨⟨⟨(le_upd l3.j hp).j, [v3], e4p, RA.immx e4p im0 (.cons (R.same r34 p3) .nil)⟩, vS, e4S, ?_⟩, vT, e4T, ?_⟩
    · exact RA.immx e4S (immAll_map (imm_encS N) S) (RA.immx e4p (immAll_map (imm_encS N) S) (RA.same r34 (RA.same l3.rel rS)))
    · exact RA.immx e4T (immAll_map imm_encD T) (RA.immx e4S (immAll_map imm_encD T) (RA.immx e4p (immAll_map imm_encD T) (RA.same r34 (RA.same l3.rel rT))))
  have slV : Sl ((W.ext kp [d0] im0).pl k1 k2' N S T) (upd H3 p (.lst [v3])) σ (inst (Kl.exl (Kl.exl (Kl.exl ok p) ls) lt) δ) := by
    refine ⟨jV, by rw [sl.len, inst_len, inst_len], fun m Q hm => ?_⟩
    obtain ⟨k, e, rfl⟩ := inst_at hm
    obtain ⟨v, g1, g2⟩ := sl.at_ m (k.t ok) (at_inst e)
    exact ⟨v, g1, (k.t _).mono rel0 (k.to tnone (k.to snone (k.to pnone g2)))⟩
  have pT1 : (T1.t (Kl.exl (Kl.exl (Kl.exl ok p) ls) lt)).p (upd H3 p (.lst [v3])) v1 := (T1.t _).mono rel1 (T1.to elt (T1.to els (T1.to p1none p1)))
  have pW : (Wk (ok := Kl.exl (Kl.exl (Kl.exl ok p) ls) lt) C w ls lt).p (upd H3 p (.lst [v3])) (.ref w) := ⟨rfl, ⟨⟨⟨kw, nw⟩, nwS⟩, nwT⟩, dw, by rw [upd_ne nw]; exact ew3⟩
  refine ⟨v1, .ref w, .ref p, rfl, ?_⟩
  refine (hrest p kp w ls lt k1 k2').run _ _ _ (((slV.set i pT1).set j pW).set l (P := At p) rfl) fun v H5 r5 j5 p5 => ?_
  obtain ⟨rfl, kw5, dx, e5⟩ := p5
  obtain ⟨⟨⟨j5, _⟩, us, f1, g1⟩, us2, f2, g2⟩ := j5
  refine q w dx ls lt H5 kw kls klt ne wnone snone tnone e5 ⟨us, f1, g1.unx.unx⟩ ⟨us2, f2, g2.unx.unx.unx⟩ ⟨fun a o ka e => ?_, j5⟩
  have a1 : a ≠ p := ne_of_none e pnone
  have a2 : a ≠ ls := ne_of_none e snone
  have a3 : a ≠ lt := ne_of_none e tnone
  exact r5 a o ⟨⟨⟨ka, a1⟩, a2⟩, a3⟩ (rel0 a o ⟨⟨⟨ka, a1⟩, a2⟩, a3⟩ e)
end
end Kl
set_option linter.all false
set_option maxRecDepth 100000
set_option maxHeartbeats 4000000
/-! # M9: sorted(a tuple) -/
namespace Kl
open PySem PySem.Spec PyProof.Rows L2
section
variable {ok : Addr → Prop} {W : Wd ok} {X : Cx} {δ : DEnv ok} {κ : Type} {enc : κ → PyData}
theorem vsortedT {a : Expr} {p pos : Pos} {ks : List κ} (N : En enc) (hu : X.A.units + 64 < cLine) (hm : X.mg "sorted" = none) (ha : PEv W X a δ (D (.tuple (ks.map enc)))) (hg : Gl X "sorted" := by rfl) (hs : starEach [a] X.env = (false, eval a X.env) :: starEach [] X.env := by rfl) :
    PEv W X (.Call (.Name "sorted" p) [a] [] pos) δ (D (.list ((srt enc ks).map enc))) := by
  refine ⟨fun σ H Q sl k pins s I => ?_⟩
  refine Call_ (ld_blt I hg hm (u := .builtin "sorted") (by decide +kernel) ?_)
  refine PyProof.Rows.callWith_builtin1 (PyProof.Rows.args_cons (thn (ha.run σ H (fun v H1 => Le W H H1 ∧ R ok H1 v (.tuple (ks.map enc))) sl (fun v H1 s1 r1 => ⟨s1, r1⟩) pins s I) fun v s1 ⟨x, H1, I1, r1, l1, hx⟩ => PyProof.Rows.args_nil ?_) hs) hs rfl
  cases hx with
  | @tup b xs _ kb h1 ra =>
    cases r1
    obtain ⟨its, rv, pl, hz⟩ := I1.tuple (.inl h1.rd)
    obtain ⟨o, ho, hc, n, hd⟩ := id pl
    have hlen := rv.length
    have hz2 : its.length ≤ sizeLine := by rw [← hlen]; exact hz
    refine Calls.call_function_entry kind_sorted plain_sorted entry_sorted (args_sorted1 _) ?_
    unfold Builtin.«sorted»
    refine wpAny_bind (m := checkCount "sorted" 1 1 _) (wpAny_pure ?_)
    refine wpAny_bind (wpAny_collect_seq (hsz := by rw [List.size_toArray]; exact hz2) b (.inr rfl) ho hc hd fun h3 hk => ?_)
    have I3 : Inv X pins σ H1 { s1 with heap := h3 } := I1.kept (t' := s1.toks) hk
    show wpAny _ _ (newList its.toArray.toList >>= _) _ _ _
    rw [List.toList_toArray]
    refine wpAny_bind (wpAny_newList ?_ hz2)
    have hoL : (h3.push (seqObj "list" its.toArray 0)).get? h3.objs.size = some (seqObj "list" its.toArray 0) := Heap.get?_push_size _ rfl
    have e := vals_each rv ra
    have rd : PySem.W.EachIs (fun v k => ∃ as, Reads (PySem.W.sortingHeap (h3.push (seqObj "list" its.toArray 0)) h3.objs.size its) v (enc k) as) its ks := e.mono fun v k ⟨x, rx, hx⟩ => by
      obtain ⟨as, rr⟩ := Dp.reads I3 _ _ _ (R.dp hx) rx
      exact ⟨as, PyProof.Rows.Reads.keeps (fun b u e => PySem.W.sortingHeap_old (Nat.ne_of_lt (Heap.lt_size e)) (Heap.get?_push_of_some _ e)) rr⟩
    refine wpAny_bind (wpAny_holding (wpAny_call_entry slot_list_sort ⟨_, hoL, rfl⟩ entry_list_sort (PySem.W.list_sort_vals (s := { s1 with heap := h3.push (seqObj "list" its.toArray 0) }) (κ := PySem.W.dataKind (PySem.W.sortingHeap (h3.push (seqObj "list" its.toArray 0)) h3.objs.size its) (ks.map enc)) hoL (sorts_en N rd (by
      show X.A.units + 2 + 60 < cLine
      omega)) hz2 ⟨_, rfl, ?_⟩) (args_list_sort _)))
    have eo := each_sorted N rd _ e
    rw [merge_srt N] at eo
    obtain ⟨ys2, y1, y2⟩ := each_vals eo
    generalize PySem.W.sortVals (PySem.W.dataKind (PySem.W.sortingHeap (h3.push (seqObj "list" its.toArray 0)) h3.objs.size its) (ks.map enc)) false its its = out at eo y1
    obtain ⟨c, hcc⟩ := sortedHeap_at (vs := its) (out := out.toArray) hoL
    have hn : H1 h3.objs.size = none := I3.hok.fresh (Nat.le_refl _)
    have hlen2 : ys2.length ≤ sizeLine := by
      rw [y2.length, List.length_map, (srt_perm enc ks).length_eq, ← List.length_map (f := enc), ← ra.length]
      exact hz
    refine wpAny_pure ⟨_, rfl, .ref _, upd H1 h3.objs.size (.lst ys2), I3.laid (t' := s1.toks) (fun b u e => ?_) (Nat.le_refl _) ⟨hlen2, out, c, y1, hcc⟩, rfl, k _ _ (l1.trans (le_upd l1.j hn)) (.lst (W.fresh l1.j hn) upd_same (y2.same (Rel.of (same_upd hn))))⟩
    have hlt := Heap.lt_size e
    show (sortedHeap (h3.push (seqObj "list" its.toArray 0)) h3.objs.size its _).get? b = some u
    rw [sortedHeap_old (Nat.ne_of_lt hlt) (by rw [size_push']; exact Nat.lt_succ_of_lt hlt)]
    exact Heap.get?_push_of_some _ e
end
end Kl
set_option linter.all false
set_option maxRecDepth 100000
set_option maxHeartbeats 4000000
/-! # L8: taken_right -/
namespace Kl
open PySem PySem.Spec PyProof.Rows L2
section
variable {ok : Addr → Prop} {W : Wd ok} {X : Cx} {δ : DEnv ok}
theorem ssetLcAJ (i : Nat) {α : Type} {y : Str} {py : Pos} {elt tg iter : Expr} {ifs : List Expr} {scope : Scope} {own : List (Str × Nat)} {pos spos : Pos} (xs : List α) (tx : α → Ty ok) (f : α → PyData) (hc : X.calm = true) (hN : X.N.Nodup) (hyl : X.env.scope.names.lookup y = some .local)
    (hsw : swapsWith (.ListComp elt [⟨tg, iter, ifs, 0⟩] scope pos) (some (.Name y py)) spos.line X.env = pure true) (bk : blkC X.N X.env.scope scope own = true) (hi : PIj W X tg iter δ (xs.map tx)) (hz : xs.length ≤ 10000000)
    (ht : ∀ x ∈ xs, TurnD W X scope own δ elt tg ifs (tx x) true (D (f x))) (hy : X.N[i]? = some y := by rfl) (hs : ∀ x, foldedSetIterable iter X.env x = pure x := by intro _; rfl) :
    PSn W W X (.Assign [.Name y py] (.ListComp elt [⟨tg, iter, ifs, 0⟩] scope pos) spos) δ (δ.set i (some (D (.list (xs.map f))))) := by
  have h := ssetLcDJ i xs tx (fun _ => true) f hc hN hyl hsw bk hi hz ht hy hs
  rw [filter_tt] at h
  exact h
theorem iEnLm {e : Expr} {elts : List Expr} {kk : Nat} {p pos tpos : Pos} {α : Type} {f : α → PyData} {xs : List α} (hm : X.mg "enumerate" = none) (h : PEv W X e δ (D (.list (xs.map f)))) (hg : Gl X "enumerate" := by rfl) (hs : starEach [e] X.env = [(false, eval e X.env)] := by rfl) :
    PIv W X (.Tuple elts kk tpos) (.Call (.Name "enumerate" p) [e] [] pos) δ (xs.zipIdx.map fun p => D (.tuple [.int (p.2 : Nat), f p.1])) := by
  have z := iEnL (elts := elts) (kk := kk) (p := p) (pos := pos) (tpos := tpos) hm h hg hs
  rw [List.zipIdx_map, List.map_map] at z
  exact z
end
theorem wideDs_mapN {α : Type} {f : α → PyData} (h : ∀ x, wideD (f x) = true) : ∀ xs : List α, wideDs (xs.map f) = true
  | [] => rfl
  | x :: xs => by
    rw [List.map_cons, wideDs, h, wideDs_mapN h]
    rfl
/-- the keys in hand behind so many takes -/
def hadAt (ord : List Str) (i : Nat) : List Str := (ord.take i).foldl (fun h k => srt PyData.str (h ++ [k])) []
def hadsTo (ord : List Str) (n : Nat) : List (List Str) := (List.range (n + 1)).map (hadAt ord)
theorem hadAt_succ {ord : List Str} {i : Nat} {k : Str} (h : ord[i]? = some k) : hadAt ord (i + 1) = srt PyData.str (hadAt ord i ++ [k]) := by
  unfold hadAt
  rw [List.take_add_one, h, List.foldl_append]
  rfl
theorem hadAt_perm (ord : List Str) (i : Nat) : (hadAt ord i).Perm (ord.take i) := by
  induction i with
  | zero => exact List.Perm.refl _
  | succ i ih =>
    cases h : ord[i]? with
    | none =>
      have hl : ord.length ≤ i := List.getElem?_eq_none_iff.mp h
      have e1 : ord.take (i + 1) = ord.take i := by rw [List.take_of_length_le (by omega), List.take_of_length_le hl]
      unfold hadAt at *
      rw [e1]
      exact ih
    | some k =>
      rw [hadAt_succ h, List.take_add_one, h]
      exact (srt_perm _ _).trans (ih.append_right _)
theorem hadsTo_succ (ord : List Str) (i : Nat) : hadsTo ord (i + 1) = hadsTo ord i ++ [hadAt ord (i + 1)] := by
  unfold hadsTo
  rw [List.range_succ, List.map_append]
  rfl
theorem hadsTo_last (ord : List Str) (i : Nat) : (hadsTo ord i).getLast? = some (hadAt ord i) := by
  unfold hadsTo
  rw [List.range_succ, List.map_append]
  simp
theorem ext_congr {ok : Addr → Prop} {W : Wd ok} {p : Addr} {kp : ok p} {ds es : List PyData} {hd : immAll ds = true} {he : immAll es = true} (e : ds = es) : W.ext kp ds hd = W.ext kp es he := by
  subst e
  rfl
theorem keysOf_nodup (N : Net) : (keysOf N).Nodup := (setOf_asc en_str (N.lines.map Line.key)).nodup
theorem once_same {κ : Type} [DecidableEq κ] : ∀ {l : List κ}, l.Nodup → once l = l
  | [], _ => rfl
  | x :: xs, h => by
    rw [List.nodup_cons] at h
    show (if x ∈ once xs then once xs else x :: once xs) = _
    rw [once_same h.2, if_neg h.1]
/-- one take of a key that is not in hand -/
theorem step_take_key {ord : List Str} {i : Nat} {k : Str} (nd : ord.Nodup) (h : ord[i]? = some k) : stepK (hadAt ord i) (.take k) = some (hadAt ord (i + 1)) := by
  have hl : i < ord.length := (List.getElem?_eq_some_iff.mp h).1
  have hni : k ∉ ord.take i := fun hm => by
    obtain ⟨j, hj, e⟩ := List.getElem_of_mem hm
    rw [List.length_take] at hj
    rw [List.getElem_take] at e
    have := (List.getElem?_inj hl nd (j := j)).mp (by rw [h, List.getElem?_eq_getElem (by omega), e])
    omega
  have hk : k ∉ hadAt ord i := fun z => hni ((hadAt_perm ord i).mem_iff.mp z)
  unfold stepK
  simp only
  rw [if_neg hk, hadAt_succ h]
  have ndk : (hadAt ord i ++ [k]).Nodup := by
    rw [List.nodup_append]
    refine ⟨((hadAt_perm ord i).nodup_iff).mpr (List.Nodup.sublist (List.take_sublist _ _) nd), by simp, fun a ha b hb => ?_⟩
    rw [List.mem_singleton.mp hb]
    exact fun z => hk (z ▸ ha)
  unfold setOf
  rw [once_same ndk]
def ordOf (N : Net) (hours : List Int) : List Str := orderOf hours (keysOf N)
/-- the row of a lot: whether it goes, state by state -/
def tblOf (N : Net) (hours lot : List Int) : List Bool := (hadsTo (ordOf N hours) (ordOf N hours).length).map fun ks => goesP N ks lot
/-- when it goes at last -/
def dueOf (N : Net) (hours lot : List Int) : Option Int := match (tblOf N hours lot).findIdx? id with
  | none => none
  | some 0 => some 0
  | some (f + 1) => (((ordOf N hours)[f]?).bind fun k => (keysOf N).findIdx? fun x => decide (x = k)).bind fun i => hours[i]?
/-- what the tests of taken_right ask of a lot -/
structure Tl (N : Net) (hours lot : List Int) : Prop where
  len : lot.length ≤ 100
  same : ∀ i ≤ (ordOf N hours).length, goesB N (hadAt (ordOf N hours) i) lot = goesP N (hadAt (ordOf N hours) i) lot
  hour : hourOf N hours lot = dueOf N hours lot
  due : ∀ t, dueOf N hours lot = some t → goesP N (inHand N hours t) lot = true
structure Tk (N : Net) (hours : List Int) (lots : List (List Int)) : Prop where
  ng : Ng N
  hl : hours.length = (keysOf N).length
  ll : lots.length ≤ 100
  lots : ∀ l ∈ lots, Tl N hours l
theorem ord_perm {N : Net} {hours : List Int} (h : hours.length = (keysOf N).length) : (ordOf N hours).Perm (keysOf N) := by
  unfold ordOf orderOf
  refine ((srt_perm encHK _).map _).trans ?_
  rw [List.map_snd_zip (by omega)]
/-- a number or none -/
def optN : Option Nat → PyData
  | some i => .int (i : Nat)
  | none => .none
theorem findIdx_some {bs : List Bool} {f : Nat} (h : bs.findIdx? id = some f) : bs[f]? = some true ∧ ∀ m, m < f → bs[m]? = some false := by
  rw [List.findIdx?_eq_some_iff_getElem] at h
  obtain ⟨hl, h1, h2⟩ := h
  refine ⟨by rw [List.getElem?_eq_getElem hl]; simpa using h1, fun m hm => ?_⟩
  have := h2 m hm
  rw [List.getElem?_eq_getElem (by omega)]
  simpa using this
theorem findIdx_none {bs : List Bool} (h : bs.findIdx? id = none) : bs.contains true = false := by
  rw [List.findIdx?_eq_none_iff] at h
  cases e : bs.contains true with
  | false => rfl
  | true =>
    have := h true (by simpa using e)
    simp at this
theorem findIdx_has {bs : List Bool} {f : Nat} (h : bs.findIdx? id = some f) : bs.contains true = true := by
  have := (findIdx_some h).1
  simpa using List.mem_of_getElem? this
theorem findStr_some {ns : List Str} {x : Str} {j : Nat} (h : ns.findIdx? (fun y => decide (y = x)) = some j) : ns[j]? = some x ∧ ∀ m, m < j → ns[m]? ≠ some x := by
  rw [List.findIdx?_eq_some_iff_getElem] at h
  obtain ⟨hl, h1, h2⟩ := h
  refine ⟨by rw [List.getElem?_eq_getElem hl]; simpa using h1, fun m hm e => ?_⟩
  have := h2 m hm
  rw [List.getElem?_eq_getElem (by omega)] at e
  cases e
  simp at this
theorem findStr_has {ns : List Str} {x : Str} (h : x ∈ ns) : ∃ j, ns.findIdx? (fun y => decide (y = x)) = some j ∧ j < ns.length := by
  cases e : ns.findIdx? (fun y => decide (y = x)) with
  | none =>
    rw [List.findIdx?_eq_none_iff] at e
    have := e x h
    simp at this
  | some j =>
    rw [List.findIdx?_eq_some_iff_getElem] at e
    exact ⟨j, rfl, e.1⟩
theorem tbl_len (N : Net) (hours lot : List Int) : (tblOf N hours lot).length = (ordOf N hours).length + 1 := by
  unfold tblOf hadsTo
  rw [List.length_map, List.length_map, List.length_range]
theorem when_tbl {N : Net} {hours lot : List Int} (h : ∀ i ≤ (ordOf N hours).length, goesB N (hadAt (ordOf N hours) i) lot = goesP N (hadAt (ordOf N hours) i) lot) :
    (((tblOf N hours lot).zipIdx.filter fun p => p.1).map fun p => PyData.int (p.2 : Nat)) = (whenOf N (hadsTo (ordOf N hours) (ordOf N hours).length) lot).map .int := by
  unfold whenOf tblOf
  rw [List.map_map, List.zipIdx_map, List.filter_map, List.map_map]
  have : ((hadsTo (ordOf N hours) (ordOf N hours).length).zipIdx.filter ((fun p : Bool × Nat => p.1) ∘ Prod.map (fun ks => goesP N ks lot) id)) = (hadsTo (ordOf N hours) (ordOf N hours).length).zipIdx.filter fun p => goesB N p.1 lot := by
    refine List.filter_congr fun p hp => ?_
    have hm : p.1 ∈ hadsTo (ordOf N hours) (ordOf N hours).length := by
      have := List.mem_map_of_mem (f := Prod.fst) hp
      rwa [List.zipIdx_map_fst] at this
    unfold hadsTo at hm
    obtain ⟨i, hi, e⟩ := List.mem_map.mp hm
    rw [List.mem_range] at hi
    show goesP N p.1 lot = goesB N p.1 lot
    rw [← e, h i (by omega)]
  rw [this]
  rfl
def spTaken (C : Addr) : Sp := fun vs H Q _ => ∃ (ok : Addr → Prop) (W : Wd ok) (N : Net) (hours : List Int) (lots : List (List Int)), W.J H ∧ TyA H vs [Hub (ok := ok) N, D (ii hours), D (.list (lots.map ii))] ∧ Tk N hours lots ∧
  ∀ w dw ls lt H2, ok w → ok ls → ok lt → lt ≠ ls → H w = none → H ls = none → H lt = none → H2 w = some (.ins C dw (wfs ls lt)) → LsA ok H2 ls ((hadsTo (ordOf N hours) (ordOf N hours).length).map (encS N)) → LsA ok H2 lt (((ordOf N hours).map Deed.take).map encD) → Le W H H2 → Q (.ref w) H2
section
variable {P : Program} {w : World} {K : PySem.W.Frag} {mg : Str → Option Value} {base : Heap} {C : Addr}
theorem sc_L_taken : FnScope ["_law_hub", "_law_hours_so", "_law_lots", "_law_keys_here", "_law_plate", "_law_had", "_law_key", "_law_order", "_law_rows", "_law_lot_here", "_law_table", "_law_first", "_law_due", "_law_got", "_law_late", "_law_own", "_law_k"] ["_law_hub", "_law_hours_so", "_law_lots"] (defScope s_L_taken_right) := ⟨rfl, rfl, rfl, by decide +kernel, rfl, by decide +kernel, by decide +kernel⟩
def dT0 (N : Net) (hours : List Int) (lots : List (List Int)) : List (Option PK) := [some (kHub N), some (kD (ii hours)), some (kD (.list (lots.map ii))), none, none, none, none, none, none, none, none, none, none, none, none, none, none]
theorem ok_L_taken {k : Nat} {f : Addr} {fd : FuncData} (F : Fun K "_law_taken_right" "_law_taken_right" s_L_taken_right f fd) (m : Mn mg) (c : Ck K C) (M : MkW P w K mg base C k) (m_take : Mt P w K mg base C (k + 1) "take" ["self", "key"] (spt (DeedW C (fun d => ∃ key, d = .take key) fun d => .str d.key))) (d_plans : Df P w K mg base (k + 1) "_law_plans" ["_law_hub"] (spt A_L_plans)) (d_keysF : Df P w K mg base (k + 1) "_law_keys" ["_law_hub"] (spt A_L_keysF))
    (d_goes : Df P w K mg base (k + 1) "_law_goes" ["_law_hub", "_law_rows", "_law_keys_here", "_law_lot_here"] (spt A_L_goes)) (d_hour : Df P w K mg base (k + 1) "hour" ["net", "hours", "lot"] (spt A_hour)) (d_in_hand : Df P w K mg base (k + 1) "in_hand" ["net", "hours", "number"] (spt A_in_hand)) (d_same : Df P w K mg base (k + 1) "_law_same" ["_law_got", "_law_goal"] (spt (A_L_same 8)))
    (m_when : Mt P w K mg base C (k + 1) "when" ["self", "lot"] (spt (A_W_when C))) (m_goes : Mt P w K mg base C (k + 1) "goes" ["self", "lot"] (spt (A_W_goes C))) : FnOk P w K mg base CX0 (k + 2) f fd ["_law_hub", "_law_hours_so", "_law_lots"] (spTaken C) :=
  F.ok sc_L_taken (fun vs H Q E h => by
    obtain ⟨ok, W, N, hours, lots, _, r, _⟩ := h
    exact r.length) fun cdv A outer s H vs Q E hr h => by
  obtain ⟨ok, W, N, hours, lots, j, r, tk, q⟩ := h
  have nd := sc_L_taken.nd
  refine ⟨_, pbW, ?_⟩
  refine topen (W := W) (N := N) (C := C) (S := [[]]) (T := []) (S2 := hadsTo (ordOf N hours) (ordOf N hours).length) (T2 := (ordOf N hours).map Deed.take) (hs2 := (hadsTo (ordOf N hours) (ordOf N hours).length).map ss) (T1 := kFz ((keysOf N).map .str)) (d0 := ss []) (δ := dT0 N hours lots) 3 4 5 rfl nd (by exact vcall d_keysF hr (acons (PEv.sub (vv 0) fun H v h => Hub.d tk.ng.ne h) anil) ⟨N, tk.ng.nt.sm, rfl, rfl, rfl⟩) (by exact vmake M hr (acons (PEv.sub (vv 0) fun H v h => Hub.d tk.ng.ne h) (acons (vtup dnil (Nat.zero_le _)) anil)) tk.ng.nt.sm (Nat.zero_le _)) (by exact vtup dnil (Nat.zero_le _)) rfl (immAll_map imm_ss _) (fun p kp wd ls lt k1 k2 => ?_) rfl rfl rfl rfl (sl := sl_start j r) (q := q)
  have hkl := keysOf_len tk.ng.nt.sm
  have hol : (ordOf N hours).length = (keysOf N).length := (ord_perm tk.hl).length_eq
  have hks : (((hours.map PyData.int).zip ((keysOf N).map PyData.str)).map fun p => PyData.tuple [p.1, p.2]) = (hours.zip (keysOf N)).map encHK := by
    rw [zip_map]
    rfl
  have hw : (srt encHK (hours.zip (keysOf N))).length ≤ 10000000 := by
    rw [(srt_perm encHK _).length_eq, List.length_zip]
    omega
  refine bcons (ssetLcA 7 (own := [("_law_late", 14), ("_law_key", 6)]) (srt encHK (hours.zip (keysOf N))) (fun p => D (encHK p)) (fun p => .str p.2) rfl nd rfl (sw_true rfl rfl rfl (by decide +kernel)) (by kernel_rfl) (iLm (by exact vsortedZip en_hk hr.units rfl m.sorted m.zip hks (acons (PEv.sub (vv 1) fun H v h => Tr.ofD h) (acons (PEv.sub (vv 3) fun H v h => Tr.ofF h) anil)))) hw fun p hp =>
    turn (fun _ _ _ _ _ => gtup (ds := [.int p.1, .str p.2]) rfl (gscons (gname 14 nd) (gscons (gname 6 nd) gsnil))) (fun _ _ _ _ _ => qnil) (fun _ _ _ _ _ _ => vv 6) (fun _ => nol_imm rfl)) ?_
  have eo : D (ok := Kl.exl (Kl.exl (Kl.exl ok p) ls) lt) (.list ((srt encHK (hours.zip (keysOf N))).map fun p => .str p.2)) = D (.list ((ordOf N hours).map .str)) := by
    unfold ordOf orderOf
    rw [List.map_map]
    rfl
  rw [eo]
  refine bcons (W' := (W.ext kp ((hadsTo (ordOf N hours) (ordOf N hours).length).map ss) (immAll_map imm_ss _)).pl k1 k2 N (hadsTo (ordOf N hours) (ordOf N hours).length) ((ordOf N hours).map Deed.take)) (δ1 := inst (Kl.exl (Kl.exl (Kl.exl ok p) ls) lt) [some (kHub N), some (kD (ii hours)), some (kD (.list (lots.map ii))), some (kFz ((keysOf N).map .str)), some (kWk C wd ls lt), some (kAt p), none, some (kD (.list ((ordOf N hours).map .str))), none, none, none, none, none, none, none, none, none]) ?_ ?_
  · refine sforE (Ts := (ordOf N hours).map fun k => D (.str k)) (fun i => (W.ext kp ((hadsTo (ordOf N hours) i).map ss) (immAll_map imm_ss _)).pl k1 k2 N (hadsTo (ordOf N hours) i) (((ordOf N hours).take i).map Deed.take)) (fun _ => inst (Kl.exl (Kl.exl (Kl.exl ok p) ls) lt) [some (kHub N), some (kD (ii hours)), some (kD (.list (lots.map ii))), some (kFz ((keysOf N).map .str)), some (kWk C wd ls lt), some (kAt p), none, some (kD (.list ((ordOf N hours).map .str))), none, none, none, none, none, none, none, none, none]) .never rfl (iLm (vv 7)) rfl rfl (fun i T hT => ?_) ?_ rfl
    · rw [List.getElem?_map] at hT
      cases hk : (ordOf N hours)[i]? with
      | none =>
        rw [hk] at hT
        cases hT
      | some key =>
        rw [hk] at hT
        cases hT
        have hi : i < (ordOf N hours).length := (List.getElem?_eq_some_iff.mp hk).1
        have hlen : (hadAt (ordOf N hours) i).length ≤ 4 := by
          rw [(hadAt_perm _ i).length_eq, List.length_take]
          omega
        have e1 := hadsTo_succ (ordOf N hours) i
        have e2 : ((ordOf N hours).take (i + 1)).map Deed.take = ((ordOf N hours).take i).map Deed.take ++ [.take key] := by
          rw [List.take_add_one, hk, List.map_append]
          rfl
        have hstep := step_take_key (((ord_perm tk.hl).nodup_iff).mpr (keysOf_nodup N)) hk
        refine ⟨inst (Kl.exl (Kl.exl (Kl.exl ok p) ls) lt) [some (kHub N), some (kD (ii hours)), some (kD (.list (lots.map ii))), some (kFz ((keysOf N).map .str)), some (kWk C wd ls lt), some (kAt p), some (kD (.str key)), some (kD (.list ((ordOf N hours).map .str))), none, none, none, none, none, none, none, none, none], [6], inst (Kl.exl (Kl.exl (Kl.exl ok p) ls) lt) [some (kHub N), some (kD (ii hours)), some (kD (.list (lots.map ii))), some (kFz ((keysOf N).map .str)), some (kWk C wd ls lt), some (kAt p), some (kD (.str key)), some (kD (.list ((ordOf N hours).map .str))), none, none, none, none, none, none, none, none, none], [6], gname 6 nd, ncons (δ1 := inst (Kl.exl (Kl.exl (Kl.exl ok p) ls) lt) [some (kHub N), some (kD (ii hours)), some (kD (.list (lots.map ii))), some (kFz ((keysOf N).map .str)), some (kWk C wd ls lt), some (kAt p), some (kD (.str key)), some (kD (.list ((ordOf N hours).map .str))), none, none, none, none, none, none, none, none, none]) (W' := (W.ext kp ((hadsTo (ordOf N hours) i).map ss) (immAll_map imm_ss _)).pl k1 k2 N (hadsTo (ordOf N hours) (i + 1)) (((ordOf N hours).take (i + 1)).map Deed.take)) (by
          rw [e1, e2]
          exact smeth m_take c hr (vv 4) (acons (vv 6) anil) (DeedW.mk _ _ wd ls lt k1 k2 N (hadsTo (ordOf N hours) i) (((ordOf N hours).take i).map Deed.take) (hadAt (ordOf N hours) i) (hadAt (ordOf N hours) (i + 1)) (.take key) ⟨key, rfl⟩ (hadsTo_last _ _) hstep (by omega) (by unfold hadsTo; simp; omega) (by simp; omega))) (ncons (by
          have hd2 : immAll ((hadsTo (ordOf N hours) i).map ss ++ [ss (hadAt (ordOf N hours) (i + 1))]) = true := immAll_append (immAll_map imm_ss _) (by rw [immAll, imm_ss]; rfl)
          have G := grow_pl (k1 := k1) (k2 := k2) (N := N) (S := hadsTo (ordOf N hours) (i + 1)) (T := ((ordOf N hours).take (i + 1)).map Deed.take) (ext_grow (W := W) (kp := kp) (ds := (hadsTo (ordOf N hours) i).map ss) (hd := immAll_map imm_ss _) hd2) (immAll_map imm_ss _) (imm_ss _)
          refine PSn.toW (by exact sapp G (vv 5) (PEv.cast (vtupleL m.tuple (vsortedT (ks := hadAt (ordOf N hours) i ++ [key]) en_str hr.units m.sorted (PEv.cast (vcatT (ys := [.str key]) (jix G.get (vv 5) (vneg vint) (at_last (last_map (hadsTo_last _ _)))) (vtup (dcons (vv 6) dnil) (few (by show 1 ≤ 10000000; decide))) (by rw [List.length_map]; simp; omega)) (by rw [List.map_append]; rfl)))) (by rw [← hadAt_succ hk]; rfl)) (by unfold hadsTo; simp; omega)) ?_
          rw [ext_congr (W := W) (kp := kp) (he := immAll_map imm_ss _) (show (hadsTo (ordOf N hours) i).map ss ++ [ss (hadAt (ordOf N hours) (i + 1))] = (hadsTo (ordOf N hours) (i + 1)).map ss from by rw [e1, List.map_append]; rfl)]) nnil), rfl⟩
    · rw [List.length_map, List.take_length]
  · refine bcons (sset 8 nd (by exact vcall d_plans hr (acons (vv 0) anil) ⟨N, tk.ng.toNf, rfl, rfl, rfl⟩)) ?_
    refine bcons (δ1 := inst (Kl.exl (Kl.exl (Kl.exl ok p) ls) lt) [some (kHub N), some (kD (ii hours)), some (kD (.list (lots.map ii))), some (kFz ((keysOf N).map .str)), some (kWk C wd ls lt), some (kAt p), none, some (kD (.list ((ordOf N hours).map .str))), some (rowsK (names N) (plansOf N)), none, none, none, none, none, none, none, none]) ?_ (bret (vv 4))
    refine sforE (Ts := lots.map fun l => D (ii l)) (fun _ => (W.ext kp ((hadsTo (ordOf N hours) (ordOf N hours).length).map ss) (immAll_map imm_ss _)).pl k1 k2 N (hadsTo (ordOf N hours) (ordOf N hours).length) ((ordOf N hours).map Deed.take)) (fun _ => inst (Kl.exl (Kl.exl (Kl.exl ok p) ls) lt) [some (kHub N), some (kD (ii hours)), some (kD (.list (lots.map ii))), some (kFz ((keysOf N).map .str)), some (kWk C wd ls lt), some (kAt p), none, some (kD (.list ((ordOf N hours).map .str))), some (rowsK (names N) (plansOf N)), none, none, none, none, none, none, none, none]) .never rfl (iLm (vv 2)) rfl rfl (fun i T hT => ?_) rfl rfl
    rw [List.getElem?_map] at hT
    cases hk : lots[i]? with
    | none =>
      rw [hk] at hT
      cases hT
    | some lot =>
      rw [hk] at hT
      cases hT
      have tl := tk.lots lot (List.mem_of_getElem? hk)
      have hadJ : LsJ ((W.ext kp ((hadsTo (ordOf N hours) (ordOf N hours).length).map ss) (immAll_map imm_ss _)).pl k1 k2 N (hadsTo (ordOf N hours) (ordOf N hours).length) ((ordOf N hours).map Deed.take)) p ((hadsTo (ordOf N hours) (ordOf N hours).length).map ss) := (ext_ls.ext (immAll_map imm_ss _)).ext (immAll_map imm_ss _)
      have hsl : (hadsTo (ordOf N hours) (ordOf N hours).length).length ≤ 100 := by
        unfold hadsTo
        simp
        omega
      have hub : ∀ {Y : Cx} {δ' : DEnv (Kl.exl (Kl.exl (Kl.exl ok p) ls) lt)} {e : Expr} {V : Wd (Kl.exl (Kl.exl (Kl.exl ok p) ls) lt)}, PEv V Y e δ' (Hub N) → PEv V Y e δ' (D (encN N)) := fun h => PEv.sub h fun H v h => Hub.d tk.ng.ne h
      have eT : D (ok := Kl.exl (Kl.exl (Kl.exl ok p) ls) lt) (.list ((hadsTo (ordOf N hours) (ordOf N hours).length).map fun s => .bool (goesP N s lot))) = D (.list ((tblOf N hours lot).map .bool)) := by
        unfold tblOf
        rw [List.map_map]
        rfl
      have hrng := tl.same
      have htl := tbl_len N hours lot
      have hlast : (tblOf N hours lot).getLast? = some (goesB N (hadAt (ordOf N hours) (ordOf N hours).length) lot) := by
        rw [tl.same _ (Nat.le_refl _)]
        unfold tblOf
        rw [List.getLast?_map, hadsTo_last]
        rfl
      refine ⟨inst (Kl.exl (Kl.exl (Kl.exl ok p) ls) lt) [some (kHub N), some (kD (ii hours)), some (kD (.list (lots.map ii))), some (kFz ((keysOf N).map .str)), some (kWk C wd ls lt), some (kAt p), none, some (kD (.list ((ordOf N hours).map .str))), some (rowsK (names N) (plansOf N)), some (kD (ii lot)), none, none, none, none, none, none, none], [9], inst (Kl.exl (Kl.exl (Kl.exl ok p) ls) lt) [some (kHub N), some (kD (ii hours)), some (kD (.list (lots.map ii))), some (kFz ((keysOf N).map .str)), some (kWk C wd ls lt), some (kAt p), none, some (kD (.list ((ordOf N hours).map .str))), some (rowsK (names N) (plansOf N)), some (kD (ii lot)), some (kD (.list ((tblOf N hours lot).map .bool))), some (kD (optN ((tblOf N hours lot).findIdx? id))), some (kD (optI (dueOf N hours lot))), some (kD (.list [ii (whenOf N (hadsTo (ordOf N hours) (ordOf N hours).length) lot), optI (hourOf N hours lot), .bool (goesB N (hadAt (ordOf N hours) (ordOf N hours).length) lot)])), none, none, none], [9, 10, 11, 12, 13], gname 9 nd, ?_, rfl⟩
      refine ncons (δ1 := inst (Kl.exl (Kl.exl (Kl.exl ok p) ls) lt) [some (kHub N), some (kD (ii hours)), some (kD (.list (lots.map ii))), some (kFz ((keysOf N).map .str)), some (kWk C wd ls lt), some (kAt p), none, some (kD (.list ((ordOf N hours).map .str))), some (rowsK (names N) (plansOf N)), some (kD (ii lot)), some (kD (.list ((tblOf N hours lot).map .bool))), none, none, none, none, none, none]) (by
        show PSn _ _ _ _ _ (List.set (inst (Kl.exl (Kl.exl (Kl.exl ok p) ls) lt) [some (kHub N), some (kD (ii hours)), some (kD (.list (lots.map ii))), some (kFz ((keysOf N).map .str)), some (kWk C wd ls lt), some (kAt p), none, some (kD (.list ((ordOf N hours).map .str))), some (rowsK (names N) (plansOf N)), some (kD (ii lot)), none, none, none, none, none, none, none]) 10 (some (D (ok := Kl.exl (Kl.exl (Kl.exl ok p) ls) lt) (.list ((tblOf N hours lot).map .bool)))))
        rw [← eT]
        exact ssetLcAJ 10 (own := [("_law_own", 15)]) (hadsTo (ordOf N hours) (ordOf N hours).length) (fun s => D (ss s)) (fun s => .bool (goesP N s lot)) rfl nd rfl (sw_true rfl rfl rfl (by decide +kernel)) (by kernel_rfl) (iLJ hadJ (vv 5)) (by omega) fun s hs =>
          turn (fun _ _ _ _ _ => gname 15 nd) (fun _ _ _ _ _ => qnil) (fun _ _ _ _ _ _ => vcall d_goes hr (acons (vv 0) (acons (vv 8) (acons (vv 15) (acons (vv 9) anil)))) ⟨N, true, s, lot, tk.ng, rfl, rfl, rfl⟩) (fun _ => nol_imm rfl)) ?_
      refine ncons (δ1 := inst (Kl.exl (Kl.exl (Kl.exl ok p) ls) lt) [some (kHub N), some (kD (ii hours)), some (kD (.list (lots.map ii))), some (kFz ((keysOf N).map .str)), some (kWk C wd ls lt), some (kAt p), none, some (kD (.list ((ordOf N hours).map .str))), some (rowsK (names N) (plansOf N)), some (kD (ii lot)), some (kD (.list ((tblOf N hours lot).map .bool))), some (kD (optN ((tblOf N hours lot).findIdx? id))), none, none, none, none, none]) (sset 11 nd (by
        cases hfo : (tblOf N hours lot).findIdx? id with
        | none => exact vif (x := false) (PTv.cast (tc c_inB vbl (vv 10)) (findIdx_none hfo)) (fun e => nomatch e) (fun _ => vnon)
        | some fo => exact vif (x := true) (PTv.cast (tc c_inB vbl (vv 10)) (findIdx_has hfo)) (fun _ => vindexT (vv 10) vbl (findIdx_some hfo).1 (findIdx_some hfo).2) (fun e => nomatch e))) ?_
      refine ncons (δ1 := inst (Kl.exl (Kl.exl (Kl.exl ok p) ls) lt) [some (kHub N), some (kD (ii hours)), some (kD (.list (lots.map ii))), some (kFz ((keysOf N).map .str)), some (kWk C wd ls lt), some (kAt p), none, some (kD (.list ((ordOf N hours).map .str))), some (rowsK (names N) (plansOf N)), some (kD (ii lot)), some (kD (.list ((tblOf N hours lot).map .bool))), some (kD (optN ((tblOf N hours lot).findIdx? id))), some (kD (optI (dueOf N hours lot))), none, none, none, none]) (sset 12 nd (by
        have hd0 : dueOf N hours lot = dueOf N hours lot := rfl
        conv at hd0 => rhs; unfold dueOf
        cases hfo : (tblOf N hours lot).findIdx? id with
        | none =>
          rw [hfo] at hd0
          rw [hd0]
          exact vif (x := true) (PTv.cast (tc c_is (vv 11) vnon) rfl) (fun _ => vnon) (fun e => nomatch e)
        | some fo =>
          rw [hfo] at hd0
          refine vif (x := false) (PTv.cast (tc c_is (vv 11) vnon) rfl) (fun e => nomatch e) (fun _ => ?_)
          cases fo with
          | zero =>
            rw [hd0]
            exact vif (x := true) (PTv.cast (tc (c_eqInt (a := ((0 : Nat) : Int)) (b := 0) hr.units) (vv 11) vint) rfl) (fun _ => vint) (fun e => nomatch e)
          | succ fo =>
            have hf1 := (findIdx_some hfo).1
            have hlt : fo < (ordOf N hours).length := by
              have := (List.getElem?_eq_some_iff.mp hf1).1
              omega
            have ho : (ordOf N hours)[fo]? = some (ordOf N hours)[fo] := List.getElem?_eq_getElem hlt
            obtain ⟨j, hj, hjl⟩ := findStr_has (ns := keysOf N) (x := (ordOf N hours)[fo]) ((ord_perm tk.hl).mem_iff.mp (List.getElem_mem hlt))
            have hjh : j < hours.length := by
              have := tk.hl
              omega
            have hd1 : dueOf N hours lot = some hours[j] := by
              rw [hd0]
              show (((ordOf N hours)[fo]?).bind _).bind _ = _
              rw [ho]
              show (((keysOf N).findIdx? fun x => decide (x = (ordOf N hours)[fo])).bind _) = _
              rw [hj]
              exact List.getElem?_eq_getElem hjh
            rw [hd1]
            refine vif (x := false) (PTv.cast (tc (c_eqInt (a := ((fo + 1 : Nat) : Int)) (b := 0) hr.units) (vv 11) vint) (decide_eq_false (by omega))) (fun e => nomatch e) (fun _ => ?_)
            exact vixT (ds := hours.map .int) (vv 1) (vindexF (vv 3) (vixL (ds := (ordOf N hours).map .str) (vv 7) (vsub (i := ((fo + 1 : Nat) : Int)) (j := 1) (vv 11) vint) (by
              rw [show ((fo + 1 : Nat) : Int) - 1 = ((fo : Nat) : Int) from by omega]
              exact at0 fo (by rw [List.getElem?_map, ho]; rfl))) (findStr_some hj).1 (findStr_some hj).2) (at0 j (by rw [List.getElem?_map, List.getElem?_eq_getElem hjh]; rfl)))) ?_
      refine ncons (δ1 := inst (Kl.exl (Kl.exl (Kl.exl ok p) ls) lt) [some (kHub N), some (kD (ii hours)), some (kD (.list (lots.map ii))), some (kFz ((keysOf N).map .str)), some (kWk C wd ls lt), some (kAt p), none, some (kD (.list ((ordOf N hours).map .str))), some (rowsK (names N) (plansOf N)), some (kD (ii lot)), some (kD (.list ((tblOf N hours lot).map .bool))), some (kD (optN ((tblOf N hours lot).findIdx? id))), some (kD (optI (dueOf N hours lot))), some (kD (.list [ii (whenOf N (hadsTo (ordOf N hours) (ordOf N hours).length) lot), optI (hourOf N hours lot), .bool (goesB N (hadAt (ordOf N hours) (ordOf N hours).length) lot)])), none, none, none]) (sset 13 nd (vlst (dcons (vmeth m_when c hr (vv 4) (acons (vv 9) anil) ⟨wd, ls, lt, N, _, _, lot, pl_plt, tk.ng.nt, hsl, rfl, rfl, rfl⟩) (dcons (vcall d_hour hr (acons (hub (vv 0)) (acons (vv 1) (acons (vv 9) anil))) ⟨N, hours, lot, tk.ng.nt, by have := tk.hl; omega, rfl, rfl, rfl⟩) (dcons (vmeth m_goes c hr (vv 4) (acons (vv 9) anil) ⟨wd, ls, lt, N, _, _, hadAt (ordOf N hours) (ordOf N hours).length, lot, pl_plt, tk.ng.nt, hadsTo_last _ _, rfl, rfl, rfl⟩) dnil))) (few (by show 3 ≤ 10000000; decide)))) ?_
      refine ncons (W' := (W.ext kp ((hadsTo (ordOf N hours) (ordOf N hours).length).map ss) (immAll_map imm_ss _)).pl k1 k2 N (hadsTo (ordOf N hours) (ordOf N hours).length) ((ordOf N hours).map Deed.take)) (δ1 := inst (Kl.exl (Kl.exl (Kl.exl ok p) ls) lt) [some (kHub N), some (kD (ii hours)), some (kD (.list (lots.map ii))), some (kFz ((keysOf N).map .str)), some (kWk C wd ls lt), some (kAt p), none, some (kD (.list ((ordOf N hours).map .str))), some (rowsK (names N) (plansOf N)), some (kD (ii lot)), some (kD (.list ((tblOf N hours lot).map .bool))), some (kD (optN ((tblOf N hours lot).findIdx? id))), some (kD (optI (dueOf N hours lot))), some (kD (.list [ii (whenOf N (hadsTo (ordOf N hours) (ordOf N hours).length) lot), optI (hourOf N hours lot), .bool (goesB N (hadAt (ordOf N hours) (ordOf N hours).length) lot)])), none, none, none]) ?_ (ncons ?_ nnil)
      · refine nif (x := false) (PTv.cast (tnot (tval (vcall d_same hr (acons (vv 13) (acons (vlst (ds := [ii (whenOf N (hadsTo (ordOf N hours) (ordOf N hours).length) lot), optI (hourOf N hours lot), .bool (goesB N (hadAt (ordOf N hours) (ordOf N hours).length) lot)]) (dcons ?_ (dcons ?_ (dcons ?_ dnil))) (few (by show 3 ≤ 10000000; decide))) anil)) ⟨_, ?_, ?_, rfl, rfl, rfl⟩))) rfl) (fun e => nomatch e) fun _ => nnil
        · unfold ii
          rw [← when_tbl tl.same]
          exact vtupleL m.tuple (vlcD (own := [("_law_k", 16), ("_law_own", 15)]) (tblOf N hours lot).zipIdx (fun q => D (.tuple [.int (q.2 : Nat), .bool q.1])) (fun q => q.1) (fun q => .int (q.2 : Nat)) rfl nd (by kernel_rfl) (iEnLm m.enumerate (vv 10)) (by rw [List.length_zipIdx]; omega) fun q hq =>
            turn (fun _ _ _ _ _ => gtup (ds := [.int (q.2 : Nat), .bool q.1]) rfl (gscons (gname 16 nd) (gscons (gname 15 nd) gsnil))) (fun _ _ _ _ _ => qone (tval (vv 15))) (fun _ _ _ _ _ _ => vv 16) (fun _ => nol_imm rfl))
        · rw [tl.hour]
          exact vv 12
        · exact vixL (ds := (tblOf N hours lot).map .bool) (vv 10) (vneg vint) (at_last (last_map hlast))
        · have d1 := depth_ii1 (whenOf N (hadsTo (ordOf N hours) (ordOf N hours).length) lot)
          cases hourOf N hours lot <;> simp [PyData.depth, PyData.depthAll, optI] <;> omega
        · have d1 : wideD (ii (whenOf N (hadsTo (ordOf N hours) (ordOf N hours).length) lot)) = true := wideD_ii (by
            unfold whenOf
            rw [List.length_map]
            refine Nat.le_trans (List.length_filter_le _ _) ?_
            rw [List.length_zipIdx]
            omega)
          cases hourOf N hours lot <;> simp [wideD, wideDs, optI, d1]
      · cases hdu : dueOf N hours lot with
        | none => exact nif (x := false) (tw (wand (x := false) (y := false) (PTv.cast (tc c_isnot (vv 12) vnon) rfl) (fun e => nomatch e))) (fun e => nomatch e) fun _ => nnil
        | some t =>
          exact nif (x := false) (tw (wand (x := true) (y := false) (PTv.cast (tc c_isnot (vv 12) vnon) rfl) (fun _ => wand1 (PTv.cast (tnot (tval (vcall d_goes hr (acons (vv 0) (acons (vv 8) (acons (vcall d_in_hand hr (acons (hub (vv 0)) (acons (vv 1) (acons (vv 12) anil))) ⟨N, hours, t, tk.ng.nt.sm, rfl, rfl, rfl⟩) (acons (vv 9) anil)))) ⟨N, true, inHand N hours t, lot, tk.ng, rfl, rfl, rfl⟩))) (by rw [tl.due t hdu]; rfl))))) (fun e => nomatch e) fun _ => nnil
end
end Kl
set_option linter.all false
set_option maxRecDepth 100000
set_option maxHeartbeats 4000000
/-! # N1: enumerate of a tuple -/
namespace Kl
open PySem PySem.Spec PyProof.Rows L2
theorem meets_enumerate_newB1 {v : Value} {o : Obj} {H : Heap → Prop} (B : Begins v o H) :
    Meets (Builtin.«enumerate.__new__» ⟨[.type "enumerate", v], []⟩) (fun _ R s => H s.heap ∧
      R (.ok (.ret (.ref (s.heap.push o).objs.size))) { s with heap := (s.heap.push o).push { cls := .type "enumerate", data := .fields #[.none, .bool false, .ref s.heap.objs.size, rawInt 0, .none, .none] } }) :=
  .of_wp fun prog w A R s h => by
    obtain ⟨hp, g, d, tk, os⟩ := s; obtain ⟨h1, h⟩ := h
    have hsub := sub_enumerate
    have q1 : ∀ {A' : Around} {E : Value → Shared → Prop} {Q : Value → Shared → Prop}, Q (.ref hp.objs.size) ⟨hp.push o, g, d, tk, os⟩ → wpAny (model prog w) A' (pyIter v) Q E ⟨hp, g, d, tk, os⟩ :=
      fun q => B.iter prog w _ _ ⟨hp, g, d, tk, os⟩ _ h1 q
    wp_walk using q1
    refine wpAny_stack_any fun st => wpAny_pure ?_
    split
    · rename_i c _ _ _ _ _
      cases (c == Value.type "enumerate")
      · wp_walk using q1
        exact ⟨_, rfl, h⟩
      · wp_walk using q1
        exact ⟨_, rfl, h⟩
    · wp_walk using q1
      exact ⟨_, rfl, h⟩
theorem enum_begins1 {prog : Program} {w : World} {A : Around} {E : Value → Shared → Prop} {s : Shared} {v : Value} {o : Obj} {H : Heap → Prop} {Q : Value → Shared → Prop} (B : Begins v o H) (h1 : H s.heap)
    (h : ∀ h', IsEnum h' (s.heap.objs.size + 1) s.heap.objs.size 0 .none → h'.get? s.heap.objs.size = some o → h'.objs.size = s.heap.objs.size + 2 →
      (∀ b o, s.heap.get? b = some o → h'.get? b = some o) → Q (.ref (s.heap.objs.size + 1)) { s with heap := h' }) :
    wpAny (model prog w) A (call (.type "enumerate") [v]) Q E s := by
  refine callType_new F.called_enumerate (by decide) (F.typeCall_enumerate_1 _) (F.newCall_enumerate_1 _) (fun obj => F.args_object_init_2 obj _) F.entry_enumerate_new
    (meets_enumerate_newB1 B) ⟨h1, ?_⟩
  have hz : (s.heap.push o).objs.size = s.heap.objs.size + 1 := Heap.size_push ..
  show _ ∧ _
  rw [hz]
  have he : IsEnum ((s.heap.push o).push { cls := .type "enumerate", data := .fields #[.none, .bool false, .ref s.heap.objs.size, rawInt 0, .none, .none] }) (s.heap.objs.size + 1) s.heap.objs.size 0 .none := by
    have := Heap.get?_push_size (s.heap.push o) (o := { cls := .type "enumerate", data := .fields #[.none, .bool false, .ref s.heap.objs.size, rawInt 0, .none, .none] }) rfl
    rw [hz] at this; exact this
  refine ⟨⟨_, he, rfl⟩, h _ he (Heap.get?_push_of_some _ (Heap.get?_push_size _ B.free)) (by rw [Heap.size_push, hz]) fun b o x => Heap.get?_push_of_some _ (Heap.get?_push_of_some _ x)⟩
theorem pyNext_enum_endT {prog : Program} {w : World} {A : Around} {E : Value → Shared → Prop} {s : Shared} {e it t : Addr} {i : Nat} {k : Int} {items : Array Value} {old : Value} {Q : Option Value → Shared → Prop} (hh : A.handled = none) (he : IsEnum s.heap e it k old) (hit : s.heap.IsTupleIter it t i) (ht : s.heap.IsTuple t items) (hx : items[i]? = none)
    (hQ : ∀ h', Heap.ExtBut it s.heap h' → Q none { s with heap := h' }) : wpAny (model prog w) A (pyNext (.ref e)) Q E s := by
  have hT : s.TypeIs (.ref e) "enumerate" := ⟨_, he, rfl⟩
  unfold pyNext
  refine wpAny_bind (wpAny_attempt (wpAny_callSpecial?_slot (name := Str.ofString "__next__") hT F.slot_enumerate_next
    (wpAny_call_entry F.slot_enumerate_next hT F.entry_enumerate_next ?_ (F.args_enumerate_next_1 _))))
  show wpAny _ _ (field (.ref e) 2 >>= _) _ _ _
  refine wpAny_bind (wpAny_field he rfl (x := .ref it) rfl ?_)
  refine wpAny_bind (wpAny_nextOf_tuple_end (A := A.in1) hh hit ht hx fun h' x he' hx' => ?_)
  obtain ⟨o, ho, hc⟩ := hx'
  refine wpAny_bind (wpAny_isInstance (T := "StopIteration") (b := true) ⟨o, ho, hc⟩ isSubtype_stop ?_)
  exact wpAny_pure (hQ _ he')
/-- the tuple at a, each item in a new pair -/
def IteT (K : PySem.W.Frag) (a : Addr) : It :=
  ⟨fun i H => ∃ (xs : List V) (x : V), SqT K H a xs ∧ xs[i]? = some x, fun i H v H' => ∃ T x, v = .ref T ∧ H T = none ∧ H' = upd H T (.tup [.int (i : Nat), x]) ∧ ∀ xs, SqT K H a xs → xs[i]? = some x, fun i H => ∃ xs : List V, SqT K H a xs ∧ xs.length ≤ i⟩
theorem turn_enumT {P : Program} {w : World} {K : PySem.W.Frag} {elts : List Expr} {kk : Nat} {tpos : Pos} (a e it : Addr) :
    Turn P w K (.Tuple elts kk tpos) (IteT K a) [e, it] e (fun i h => (∃ old, IsEnum h e it ((i : Nat) : Int) old) ∧ h.IsTupleIter it a i ∧ e ≠ it ∧ e ≠ a ∧ a ≠ it) where
  mem := by simp
  obj := fun i h st b hb => by
    obtain ⟨⟨old, he⟩, ⟨o, ho, hc, hd⟩, _⟩ := st
    have e' : b = e ∨ b = it := by simpa using hb
    rcases e' with z | z
    · rw [z]; exact ⟨_, he, fun v q => nomatch q⟩
    · rw [z]; exact ⟨o, ho, fun v q => by rw [hd] at q; cases q⟩
  keep := fun i h h' st k => let ⟨⟨old, he⟩, hi, hne⟩ := st; ⟨⟨old, k e (by simp) _ he⟩, hi.at fun o q => k it (by simp) o q, hne⟩
  item := by
    intro X hP hw hK hc i pins s σ H E I hf st hg
    subst hP hw hK
    obtain ⟨⟨old, he⟩, hit, hne, hea, hai⟩ := st
    obtain ⟨xs, x, hq, hx⟩ := hg
    obtain ⟨its, rv, p, hz⟩ := I.tuple hq
    obtain ⟨u, hu, ru⟩ := rv.get hx
    have hil' : i < its.toArray.size := by
      have := (List.getElem?_eq_some_iff.mp hu).1
      simpa using this
    have hel : e < s.heap.objs.size := Heap.lt_size he
    have hil : it < s.heap.objs.size := by obtain ⟨_, q, _⟩ := hit; exact Heap.lt_size q
    refine wpAny_pyNext_enum_itemD (Draws.tuple (A := X.A.in1) (I.ok.hd hc) it a hai its.toArray) he ⟨hit, show s.heap.IsTuple a its.toArray from p⟩ hil' hne (by simp [hne, hea]) fun x' h' tk hx' ho st' hT hsz hk => ?_
    have exu : x' = u := by
      have : its[i]? = some x' := by simpa using hx'
      rw [hu] at this
      exact (Option.some.inj this).symm
    subst exu
    refine ⟨_, rfl, wpAny_letOwnedTupleGo_enum (s := { s with heap := h', toks := tk + 1 }) ho fun h'' he' sb => ?_⟩
    have hT2 : h''.get? s.heap.objs.size = some { cls := .type "tuple", data := .seq #[.int i tk, x'] } := (sb.2 _ (Nat.ne_of_gt hel)).trans hT
    have new : ObjOk X.prog X.w (upd H s.heap.objs.size (.tup [.int (i : Nat), x])) h'' s.heap.objs.size (.tup [.int (i : Nat), x]) :=
      ⟨by show 2 ≤ sizeLine; decide, [.int i tk, x'], .cons ⟨_, rfl⟩ (.cons ru .nil), ⟨_, hT2, rfl, _, rfl⟩⟩
    have I1 : Inv X pins σ (upd H s.heap.objs.size (.tup [.int (i : Nat), x])) { s with heap := h'', toks := tk + 1 } :=
      I.turnedNew (ch := [e, it]) (fun b ob hb q => (sb.2 b (fun z => hb (by simp [z]))).trans (hk b ob (fun z => hb (by simp [z])) (fun z => hb (by simp [z])) q)) hf (Nat.le_refl _) new
    refine ⟨.ref s.heap.objs.size, _, I1, rfl, ⟨_, x, rfl, I.hok.fresh (Nat.le_refl _), rfl, fun ys hy => by rw [I.tuple_inj hy hq]; exact hx⟩, ⟨⟨x', ?_⟩, st'.1.at fun o q => (sb.2 it (Ne.symm hne)).trans q, hne, hea, hai⟩, fun b hb => ?_⟩
    · have e1 : ((i + 1 : Nat) : Int) = (i : Int) + 1 := by omega
      rw [e1]; exact he'
    · have hb' : b < s.heap.objs.size := by
        have e' : b = e ∨ b = it := by simpa using hb
        rcases e' with z | z
        · rw [z]; exact hel
        · rw [z]; exact hil
      rw [upd_ne (Nat.ne_of_lt hb')]
      exact (hf b hb).1
  done := by
    intro X hP hw hK hc i pins s σ H E I hf st hg
    subst hP hw hK
    obtain ⟨⟨old, he⟩, hit, hne, hea, hai⟩ := st
    obtain ⟨xs, hq, hx⟩ := hg
    obtain ⟨its, rv, p, hz⟩ := I.tuple hq
    obtain ⟨f0, f1, f2, f3, f4, f5⟩ := hf it (by simp)
    have hl := rv.length
    exact pyNext_enum_endT (I.ok.hd hc) he hit (show s.heap.IsTuple a its.toArray from p) (by simp; omega) fun h' eb => ⟨rfl, I.turned (t' := s.toks) (fun b o hb q => eb b o hb q) f0 f1 f3 f4 f5⟩
  self := fun A i s Q E st h => let ⟨⟨_, he⟩, _⟩ := st; wpAny_pyIter_enum he h
def iEnumT (K : PySem.W.Frag) (ta : TA) : TI := fun σ H R => ta σ H fun vs H1 => ∃ a xs, vs = [.ref a] ∧ SqT K H1 a xs ∧ R (IteT K a) H1
theorem pi_enumT {X : Cx} {e : Expr} {ta : TA} {p pos tpos : Pos} {elts : List Expr} {kk : Nat} (hg : Gl X "enumerate") (hm : X.mg "enumerate" = none) (ha : PA X [e] ta) (hs : starEach [e] X.env = [(false, eval e X.env)] := by rfl) :
    PI X (.Tuple elts kk tpos) (.Call (.Name "enumerate" p) [e] [] pos) (iEnumT X.K ta) := by
  refine ⟨fun pins s σ H R I h => ?_⟩
  refine Call_ (ld_blt I hg hm boot_enumerate (PyProof.Rows.callWith_type1 (thn (ha.run pos pins s σ H _ I h) fun us s1 ⟨vs, H1, I1, r1, q1⟩ => ?_) hs rfl))
  obtain ⟨a, xs, ex, hq, q⟩ := q1
  subst ex
  cases r1 with
  | cons r rr =>
    cases rr
    cases r
    obtain ⟨its, rv, p', hz⟩ := I1.tuple hq
    have hal : a < s1.heap.objs.size := by obtain ⟨_, q, _⟩ := p'; exact Heap.lt_size q
    refine enum_begins1 (begins_tuple a its.toArray) p' fun h' he hit hsz hk => wpAny_pyIter_enum he ?_
    have I2 : Inv X pins σ H1 { s1 with heap := h' } := I1.kept (t' := s1.toks) hk
    refine ⟨s1.heap.objs.size + 1, [s1.heap.objs.size + 1, s1.heap.objs.size], _, _, H1, rfl, I2, turn_enumT a (s1.heap.objs.size + 1) s1.heap.objs.size, ⟨⟨.none, he⟩, ⟨_, hit, rfl, rfl⟩, Nat.succ_ne_self _, Nat.ne_of_gt (Nat.lt_succ_of_lt hal), Nat.ne_of_lt hal⟩, fun b hb => ?_, q⟩
    have e' : b = s1.heap.objs.size + 1 ∨ b = s1.heap.objs.size := by simpa using hb
    have hle : s1.heap.objs.size ≤ b := by
      rcases e' with z | z
      · rw [z]; exact Nat.le_add_right _ _
      · rw [z]; exact Nat.le_refl _
    exact I1.fpOk hle (I1.hok.fresh hle)
section
variable {ok : Addr → Prop} {W : Wd ok} {X : Cx} {δ : DEnv ok}
theorem yv_enumT {K : PySem.W.Frag} {a : Addr} {vs : List V} {ds : List PyData} {H0 : Hp} (ka : ok a) (r : RA ok H0 vs ds) : Yv W (IteT K a) (fun H => Rel ok H0 H ∧ Rd H a (.tup vs)) (ds.zipIdx.map fun p => D (ok := ok) (.tuple [.int (p.2 : Nat), p.1])) where
  up := fun H H' s g => ⟨g.1.trans s.rel, rdm g.2 fun o => s.rel _ o ka⟩
  go := fun i H hi _ g => by
    rw [List.length_map, List.length_zipIdx] at hi
    have hl : i < vs.length := by rw [r.length]; exact hi
    exact ⟨vs, vs[i], .inl g.2, List.getElem?_eq_getElem hl⟩
  stop := fun H _ g => ⟨vs, .inl g.2, by rw [r.length]; simp⟩
  yld := fun i H x H' T j g y hT => by
    obtain ⟨p, v, rfl, hp, rfl, y⟩ := y
    have hv := y vs (.inl g.2)
    obtain ⟨d, hd, rd⟩ := r.at' hv
    have l := le_upd (W := W) (o := .tup [.int ((i : Nat) : Int), v]) j hp
    refine ⟨l, ?_⟩
    rw [List.getElem?_map, List.getElem?_zipIdx, hd] at hT
    cases hT
    refine .tup (W.fresh j hp) (.inl upd_same) (.cons ?_ (.cons ((rd.same g.1).same l.rel) .nil))
    show R ok _ (V.int ((i : Nat) : Int)) (.int ((0 + i : Nat) : Int))
    rw [Nat.zero_add]
    exact .int _
/-- for i, x in enumerate(a tuple) -/
theorem iEnT {e : Expr} {elts : List Expr} {kk : Nat} {p pos tpos : Pos} {α : Type} {f : α → PyData} {xs : List α} (hm : X.mg "enumerate" = none) (h : PEv W X e δ (D (.tuple (xs.map f)))) (hg : Gl X "enumerate" := by rfl) (hs : starEach [e] X.env = [(false, eval e X.env)] := by rfl) :
    PIv W X (.Tuple elts kk tpos) (.Call (.Name "enumerate" p) [e] [] pos) δ (xs.zipIdx.map fun p => D (.tuple [.int (p.2 : Nat), f p.1])) := PIv.of (pi_enumT hg hm paW hs) fun σ H R sl q => (acons h anil hs).run σ H _ sl fun vs H1 s1 p1 => by
  obtain ⟨v, rfl, r⟩ := tya1 p1
  cases r with
  | @tup a xs' _ ka h1 r =>
    refine ⟨a, xs', rfl, .inl h1.rd, q (IteT X.K a) (fun H => Rel ok H1 H ∧ Rd H a (.tup xs')) H1 s1 ⟨Rel.refl _, h1.rd⟩ (fun W' => ?_)⟩
    have z := yv_enumT (W := W') (K := X.K) ka r
    rw [List.zipIdx_map, List.map_map] at z
    exact z
end
end Kl
set_option linter.all false
set_option maxRecDepth 100000
set_option maxHeartbeats 4000000
/-! # N2: unpacking a list; ints in a tuple; a Watch is not None; a block within a new Watch's world -/
namespace Kl
open PySem PySem.Spec PyProof.Rows L2
section
variable {ok : Addr → Prop} {W : Wd ok} {X : Cx} {δ : DEnv ok}
theorem gunl {es : List Expr} {k : Nat} {pos : Pos} {ds : List PyData} {δ' : DEnv ok} {n : Nat} {ws : List Nat} (hc : X.calm = true) (h : PGsv W X es δ (ds.map D) δ' ws) (hl : ds.length = n := by rfl) (hn : (assignEach es X.env).length = n := by rfl) (hst : (assignEach es X.env).findIdx? (·.1) = none := by rfl) :
    PGv W X (.Tuple es k pos) δ (D (.list ds)) δ' ws := PGv.of (pg_unl hc pgsW hn hst) fun v σ H Q sl p q => by
  cases p with
  | @lst a xs _ kh1 h1 r => exact ⟨a, xs, rfl, SqL.of h1, by rw [r.length]; exact hl, h.run xs σ H Q sl r.tya q⟩
theorem PSn.toD {W' : Wd ok} {st : Stmt} {δ1 δ2 : DEnv ok} (h : PSn W W' X st δ δ1) (e : δ1 = δ2) : PSn W W' X st δ δ2 := e ▸ h
theorem inV_ints (x : Int) : ∀ xs : List Int, inV (.int x) (xs.map V.int) = decide (x ∈ xs)
  | [] => rfl
  | y :: ys => by
    show (eqV (.int y) (.int x) || inV (.int x) (ys.map V.int)) = _
    rw [inV_ints x ys]
    have : eqV (.int y) (.int x) = decide (y = x) := by
      unfold eqV
      first
        | rfl
        | simp
    rw [this, ← Bool.decide_or]
    exact decide_eq_decide.mpr ⟨fun h => h.elim (fun e => by rw [e]; exact List.mem_cons_self) fun h => List.mem_cons_of_mem _ h, fun h => (List.mem_cons.mp h).elim (fun e => .inl e.symm) .inr⟩
theorem flat_ints : ∀ xs : List Int, (xs.map V.int).all flatV = true
  | [] => rfl
  | _ :: xs => by
    show (true && (xs.map V.int).all flatV) = true
    rw [flat_ints xs]
    rfl
theorem c_ninI {x : Int} {xs : List Int} : Cm W X .NotIn (D (.int x)) (D (ii xs)) (!decide (x ∈ xs)) := ⟨_, op_notIn_seq, fun H u v Q p q k => by
  cases p
  cases q with
  | @tup a ws _ ka h1 r =>
    rw [r.ints] at h1
    refine ⟨a, _, rfl, .inr (.inl h1.rd), rfl, flat_ints _, ?_⟩
    rw [inV_ints]
    exact k⟩
theorem c_isW {C x ls lt : Addr} : Cm W X .Is (Wk C x ls lt) (D .none) false := ⟨_, op_isN, fun H u v Q p q k => by
  obtain ⟨rfl, _⟩ := p
  cases q
  refine ⟨rfl, ?_⟩
  have : decide (V.ref x = V.non) = false := decide_eq_false (fun h => nomatch h)
  rw [this]
  exact k⟩
theorem cut_take2 (xs : List PyData) : cutD xs none (some 2) = xs.take 2 := by
  unfold cutD
  have e1 : HT.sIx xs.length 0 none = 0 := rfl
  rw [e1, List.drop_zero, Nat.sub_zero]
  have e2 : HT.sIx xs.length xs.length (some 2) = min 2 xs.length := rfl
  rw [e2]
  by_cases h : xs.length ≤ 2
  · rw [Nat.min_eq_right h, List.take_length, List.take_of_length_le h]
  · rw [Nat.min_eq_left (by omega)]
end
section
variable {ok : Addr → Prop} {W : Wd ok} {C : Addr}
/-- a new Watch, of which all that stood stands -/
structure PEw (W : Wd ok) (X : Cx) (e : Expr) (δ : DEnv ok) (C : Addr) (N : Net) (S : List (List Str)) (T : List Deed) : Prop where
  run : ∀ (σ : L2.St) (H : Hp) (Q : VK), Sl W H σ δ → (∀ y dy ls lt H2, ok y → ok ls → ok lt → lt ≠ ls → H y = none → H ls = none → H lt = none → H2 y = some (.ins C dy (wfs ls lt)) → LsA ok H2 ls (S.map (encS N)) → LsA ok H2 lt (T.map encD) → Le W H H2 → Q (.ref y) H2) → tW X e σ H Q
/-- x = a new Watch, and a block within its world that hands back data -/
theorem bopen (i : Nat) {X : Cx} {δ : List (Option PK)} {x : Str} {px pos : Pos} {e : Expr} {rest : List Stmt} {N : Net} {S : List (List Str)} {T : List Deed} {d : PyData} (hN : X.N.Nodup) (he : PEw W X e (inst ok δ) C N S T)
    (hrest : ∀ (y ls lt : Addr) (k1 : ok ls) (k2 : Kl.exl ok ls lt), ∃ W' : Wd (Kl.exl (Kl.exl ok ls) lt), (∀ H, W'.J H → W.J H) ∧ PBv (W.pl k1 k2 N S T) W' X rest ((inst (Kl.exl (Kl.exl ok ls) lt) δ).set i (some (Wk C y ls lt))) (D d))
    (hi : X.N[i]? = some x := by rfl) (hx : Loc X.env.scope x := by first | exact Or.inl rfl | exact Or.inr rfl) (hs : swapsWith e (some (.Name x px)) pos.line X.env = pure false := by rfl) (hf : X.fn x = true ∨ X.env.scope.names.lookup x = some .local := by first | exact .inl rfl | exact .inr rfl) :
    PBv W W X (.Assign [.Name x px] e pos :: rest) (inst ok δ) (D d) :=
  PBv.of (pss_cons (ps_set hN hi hx peW hs hf) pbW) fun σ H E sl q => by
    refine he.run σ H _ sl fun y dy ls lt H2 ky k1 kt ne ey e1 e2 h1 h2 h3 l => ?_
    obtain ⟨W', w1, w2⟩ := hrest y ls lt k1 ⟨kt, ne⟩
    have l1 : ∃ vs, H2 ls = some (.lst vs) := ⟨_, h2.choose_spec.1⟩
    have l2 : ∃ vs, H2 lt = some (.lst vs) := ⟨_, h3.choose_spec.1⟩
    have r : Rel (Kl.exl (Kl.exl ok ls) lt) H H2 := fun a o ka z => l.rel a o ka.1.1 z
    have jn : (W.pl k1 ⟨kt, ne⟩ N S T).J H2 := by
      obtain ⟨vs, g1, r1⟩ := h2
      obtain ⟨us, g2, r2⟩ := h3
      exact ⟨⟨l.j, vs, g1, RA.immx g1 (immAll_map (imm_encS N) S) r1⟩, us, g2, RA.immx g2 (immAll_map imm_encD T) (RA.immx g1 (immAll_map imm_encD T) r2)⟩
    refine w2.run _ _ _ ((sl.opened2 e1 e2 r jn).set i (Wk.new (H := H) ky h1 e1 l1 l2)) fun v H3 r3 j3 p3 => q v H3 (fun a o ka z => ?_) (w1 H3 j3) p3.unx.unx
    have n1 : a ≠ ls := ne_of_none z e1
    have n2 : a ≠ lt := ne_of_none z e2
    exact r3 a o ⟨⟨ka, n1⟩, n2⟩ (r a o ⟨⟨ka, n1⟩, n2⟩ z)
end
end Kl
set_option linter.all false
set_option maxRecDepth 100000
set_option maxHeartbeats 4000000
/-! # L9: lot_right -/
namespace Kl
open PySem PySem.Spec PyProof.Rows L2
/-- the keys in hand behind so many gives -/
def gives (ks so : List Str) (i : Nat) : List Str := ks.filter fun k => !decide (k ∈ so.take i)
def eyeS (S : List (List Str)) (ks so : List Str) (i : Nat) : List (List Str) := S ++ (List.range i).map fun j => gives ks so (j + 1)
def eyeT (T : List Deed) (so : List Str) (i : Nat) : List Deed := T ++ (so.take i).map Deed.give
theorem gives_zero (ks so : List Str) : gives ks so 0 = ks := by
  unfold gives
  rw [List.filter_eq_self]
  intro a _
  simp
theorem eyeS_zero (S : List (List Str)) (ks so : List Str) : eyeS S ks so 0 = S := by
  unfold eyeS
  simp
theorem eyeT_zero (T : List Deed) (so : List Str) : eyeT T so 0 = T := by
  unfold eyeT
  simp
theorem eye_last {S : List (List Str)} {ks so : List Str} (h : S.getLast? = some ks) : ∀ i, (eyeS S ks so i).getLast? = some (gives ks so i)
  | 0 => by
    unfold eyeS
    rw [gives_zero]
    simpa using h
  | i + 1 => by
    unfold eyeS
    rw [List.range_succ, List.map_append, ← List.append_assoc]
    simp
theorem eyeS_succ (S : List (List Str)) (ks so : List Str) (i : Nat) : eyeS S ks so (i + 1) = eyeS S ks so i ++ [gives ks so (i + 1)] := by
  unfold eyeS
  rw [List.range_succ, List.map_append, ← List.append_assoc]
  rfl
theorem eyeT_succ {T : List Deed} {so : List Str} {i : Nat} {k : Str} (h : so[i]? = some k) : eyeT T so (i + 1) = eyeT T so i ++ [.give k] := by
  unfold eyeT
  rw [List.take_add_one, h, List.map_append, ← List.append_assoc]
  rfl
theorem eyeS_len (S : List (List Str)) (ks so : List Str) (i : Nat) : (eyeS S ks so i).length = S.length + i := by
  unfold eyeS
  simp
theorem eyeT_len {T : List Deed} {so : List Str} {i : Nat} (h : i ≤ so.length) : (eyeT T so i).length = T.length + i := by
  unfold eyeT
  simp
  omega
theorem eyeS_back {S : List (List Str)} {ks so : List Str} (h : S.getLast? = some ks) {n : Nat} (hn : 0 < n) : (eyeS S ks so n)[(eyeS S ks so n).length - 2]? = some (gives ks so (n - 1)) := by
  obtain ⟨m, rfl⟩ : ∃ m, n = m + 1 := ⟨n - 1, by omega⟩
  have h1 := eye_last (so := so) h m
  rw [eyeS_succ]
  rw [List.length_append, List.length_singleton]
  rw [List.getLast?_eq_getElem?] at h1
  have hl : 0 < (eyeS S ks so m).length := by
    cases e : eyeS S ks so m with
    | nil =>
      rw [e] at h1
      cases h1
    | cons a b => simp
  rw [List.getElem?_append_left (by omega)]
  rw [show (eyeS S ks so m).length + 1 - 2 = (eyeS S ks so m).length - 1 from by omega, h1]
  rfl
/-- one give of a key that is in hand -/
theorem step_give {ks so : List Str} {i : Nat} {k : Str} (nd : so.Nodup) (h : so[i]? = some k) (hk : k ∈ ks) : stepK (gives ks so i) (.give k) = some (gives ks so (i + 1)) := by
  have hl : i < so.length := (List.getElem?_eq_some_iff.mp h).1
  have hni : k ∉ so.take i := fun hm => by
    obtain ⟨j, hj, e⟩ := List.getElem_of_mem hm
    rw [List.length_take] at hj
    rw [List.getElem_take] at e
    have := (List.getElem?_inj hl nd (j := j)).mp (by rw [h, List.getElem?_eq_getElem (by omega), e])
    omega
  have hg : k ∈ gives ks so i := by
    unfold gives
    rw [List.mem_filter]
    exact ⟨hk, by simp [hni]⟩
  unfold stepK
  simp only
  rw [if_pos hg]
  congr 1
  unfold gives
  rw [List.filter_filter]
  refine List.filter_congr fun x _ => ?_
  rw [List.take_add_one, h]
  simp
  cases e : decide (x = k) <;> simp_all
/-- what the tests of lot_right ask of a barrier -/
structure Br (N : Net) (lot : List Int) (ks : List Str) (S : List (List Str)) (T : List Deed) (so : List Str) (k0 : Str) (k3 : List Str) : Prop where
  nd : so.Nodup
  sub : ∀ k ∈ so, k ∈ ks
  hd : so[0]? = some k0
  len : so.length ≤ 5
  go : ∀ i < so.length, goesB N (gives ks so i) lot = true
  no : goesB N (gives ks so so.length) lot = false
  st : stepK (gives ks so so.length) (.take k0) = some k3
  l3 : k3.length ≤ 10
  back : goesB N k3 lot = true
  need : T.length + so.length ∈ neededOf N (eyeS S ks so so.length ++ [k3]) (eyeT T so so.length ++ [.take k0]) lot
  meet : ∀ own ∈ minOf (fineOf N lot), (own.filter fun k => decide (k ∈ so)).isEmpty = false
/-- what they ask of a lot -/
structure Lr (N : Net) (ks : List Str) (S : List (List Str)) (T : List Deed) (lot : List Int) : Prop where
  ng : Ng N
  len : lot.length ≤ 100
  last : S.getLast? = some ks
  lk : ks.length ≤ 5
  hS : ∀ s ∈ S, s.length ≤ 5
  lS : S.length ≤ 6
  lT : T.length ≤ 5
  lTS : T.length + 1 = S.length
  opn : openersOf N lot = minOf (fineOf N lot)
  bar : barriersOf N lot = minOf (shutOf N lot)
  no : goesB N ks lot = false → minOf (fineOf N lot) = []
  need : goesB N ks lot = true → (T.zipIdx.filter fun p => (minOf (fineOf N lot)).all fun own => decide (p.1.key ∈ own)).map (·.2) = neededOf N S T lot
  br : goesB N ks lot = true → ∀ so ∈ (minOf (shutOf N lot)).take 2, ∃ k0 k3, Br N lot ks S T so k0 k3
def A_L_lot (C : Addr) : Prm := fun ok W W' Ps T' => ∃ (x ls lt : Addr) (N : Net) (ks : List Str) (S : List (List Str)) (T : List Deed) (lot : List Int), Plt W ls lt N S T ∧ Lr N ks S T lot ∧ W' = W ∧ Ps = [Wk C x ls lt, Hub N, D (ii lot)] ∧ T' = D (.bool true)
theorem minOf_len {N : Net} (sm : Small N) (lot : List Int) : (minOf (fineOf N lot)).length ≤ 16 ∧ (minOf (shutOf N lot)).length ≤ 16 ∧ (∀ s ∈ minOf (fineOf N lot), s.length ≤ 4) ∧ ∀ s ∈ minOf (shutOf N lot), s.length ≤ 4 := by
  have hkl : (keysOf N).length ≤ 4 := keysOf_len sm
  have hsub : (subsRaw (keysOf N)).length ≤ 16 := subs_len _ hkl
  have hmem : ∀ s ∈ subsRaw (keysOf N), s.length ≤ 4 := fun s hs => by have := subs_mem hs; omega
  have key : ∀ fam : List (List Str), (∀ s ∈ fam, s ∈ subsRaw (keysOf N)) → fam.length ≤ 16 → (minOf fam).length ≤ 16 ∧ ∀ s ∈ minOf fam, s.length ≤ 4 := fun fam h1 h2 => by
    refine ⟨?_, fun s hs => ?_⟩
    · unfold minOf
      rw [(srt_perm ss _).length_eq]
      exact Nat.le_trans (List.length_filter_le _ _) h2
    · unfold minOf at hs
      rw [mem_srt, List.mem_filter] at hs
      exact hmem s (h1 s hs.1)
  have a := key (fineOf N lot) (fun s hs => (List.mem_filter.mp hs).1) (Nat.le_trans (List.length_filter_le _ _) hsub)
  have b := key (shutOf N lot) (fun s hs => (List.mem_filter.mp hs).1) (Nat.le_trans (List.length_filter_le _ _) hsub)
  exact ⟨a.1, b.1, a.2, b.2⟩
theorem tops_data {N : Net} (sm : Small N) (lot : List Int) : (PyData.list [.tuple ((minOf (fineOf N lot)).map ss), .tuple ((minOf (shutOf N lot)).map ss)]).depth < 8 ∧ wideD (PyData.list [.tuple ((minOf (fineOf N lot)).map ss), .tuple ((minOf (shutOf N lot)).map ss)]) = true := by
  obtain ⟨h1, h2, h3, h4⟩ := minOf_len sm lot
  have d1 := depth_le_map (f := ss) (n := 1) (fun a => by rw [depth_ss1]; exact Nat.le_refl _) (minOf (fineOf N lot))
  have d2 := depth_le_map (f := ss) (n := 1) (fun a => by rw [depth_ss1]; exact Nat.le_refl _) (minOf (shutOf N lot))
  refine ⟨?_, ?_⟩
  · simp only [PyData.depth, PyData.depthAll]
    omega
  · have w1 : wideDs ((minOf (fineOf N lot)).map ss) = true := wideDs_of fun s hs => wideD_ss (by have := h3 s hs; omega)
    have w2 : wideDs ((minOf (shutOf N lot)).map ss) = true := wideDs_of fun s hs => wideD_ss (by have := h4 s hs; omega)
    simp only [wideD, wideDs, List.length_map, List.length_cons, List.length_nil, w1, w2, decide_eq_true (show (minOf (fineOf N lot)).length ≤ 1000 by omega), decide_eq_true (show (minOf (shutOf N lot)).length ≤ 1000 by omega)]
    rfl
section
variable {P : Program} {w : World} {K : PySem.W.Frag} {mg : Str → Option Value} {base : Heap} {C : Addr}
theorem sc_L_lot_right : FnScope ["_law_plate", "_law_hub", "_law_lot_here", "_law_tops", "_law_lows", "_law_takes", "_law_some", "_law_eyes", "_law_k", "_law_key", "_law_deed", "_law_own"] ["_law_plate", "_law_hub", "_law_lot_here"] (defScope s_L_lot_right) := ⟨rfl, rfl, rfl, by decide +kernel, rfl, by decide +kernel, by decide +kernel⟩
theorem ok_L_lot {k : Nat} {f : Addr} {fd : FuncData} (F : Fun K "_law_lot_right" "_law_lot_right" s_L_lot_right f fd) (m : Mn mg) (c : Ck K C) (d_least : Df P w K mg base (k + 1) "_law_least" ["_law_hub", "_law_lot_here"] (spt A_L_least)) (d_same : Df P w K mg base (k + 1) "_law_same" ["_law_got", "_law_goal"] (spt (A_L_same 8)))
    (d_openers : Df P w K mg base (k + 1) "openers" ["net", "lot"] (spt A_openers)) (d_barriers : Df P w K mg base (k + 1) "barriers" ["net", "lot"] (spt A_barriers)) (m_goes : Mt P w K mg base C (k + 1) "goes" ["self", "lot"] (spt (A_W_goes C))) (p_told : Pr P w K mg base C k "told" (spt (A_W_told C)))
    (m_needed : Mt P w K mg base C (k + 1) "needed" ["self", "lot"] (spt (A_W_needed C))) (m_twin : Mt P w K mg base C (k + 1) "twin" ["self"] (spTwin C)) (m_give : Mt P w K mg base C (k + 1) "give" ["self", "key"] (spt (DeedW C (fun d => ∃ key, d = .give key) fun d => .str d.key)))
    (m_take : Mt P w K mg base C (k + 1) "take" ["self", "key"] (spt (DeedW C (fun d => ∃ key, d = .take key) fun d => .str d.key))) (m_no_longer : Mt P w K mg base C (k + 1) "no_longer" ["self", "lots"] (spt (A_W_no_longer C))) (L : LenC P w K mg base C k) : FnOk P w K mg base CX0 (k + 2) f fd ["_law_plate", "_law_hub", "_law_lot_here"] (spt (A_L_lot C)) :=
  okp F sc_L_lot_right (fun _ _ _ _ _ h => by
    obtain ⟨x, ls, lt, N, ks, S, T, lot, _, _, _, rfl, _⟩ := h
    rfl) fun cdv B outer s H E hr ok W W' Ps T' h => by
  obtain ⟨x, ls, lt, N, ks, S, T, lot, pl, lr, rfl, rfl, rfl⟩ := h
  have nd := sc_L_lot_right.nd
  have ng := lr.ng
  obtain ⟨hl1, hl2, hl3, hl4⟩ := minOf_len ng.nt.sm lot
  have hub : ∀ {Y : Cx} {δ' : DEnv ok} {e : Expr}, PEv W' Y e δ' (Hub N) → PEv W' Y e δ' (D (encN N)) := fun h => PEv.sub h fun H v h => Hub.d ng.ne h
  refine bcons (δ1 := [some (Wk C x ls lt), some (Hub N), some (D (ii lot)), some (D (.tuple ((minOf (fineOf N lot)).map ss))), some (D (.tuple ((minOf (shutOf N lot)).map ss))), none, none, none, none, none, none, none]) (by exact sasg (vcall d_least hr (acons (vv 1) (acons (vv 2) anil)) ⟨N, lot, ng, rfl, rfl, rfl⟩) (by exact gunl (ds := [.tuple ((minOf (fineOf N lot)).map ss), .tuple ((minOf (shutOf N lot)).map ss)]) rfl (gscons (gname 3 nd) (gscons (gname 4 nd) gsnil)))) ?_
  refine bwhen (x := false) (PTv.cast (tnot (tval (vcall d_same hr (acons (vlst (ds := [.tuple ((minOf (fineOf N lot)).map ss), .tuple ((minOf (shutOf N lot)).map ss)]) (dcons (PEv.cast (vcall d_openers hr (acons (hub (vv 1)) (acons (vv 2) anil)) ⟨N, lot, ng.nt, rfl, rfl, rfl⟩) (by rw [lr.opn])) (dcons (PEv.cast (vcall d_barriers hr (acons (hub (vv 1)) (acons (vv 2) anil)) ⟨N, lot, ng.nt, rfl, rfl, rfl⟩) (by rw [lr.bar])) dnil)) (few (by show 2 ≤ 10000000; decide))) (acons (vlst (ds := [.tuple ((minOf (fineOf N lot)).map ss), .tuple ((minOf (shutOf N lot)).map ss)]) (dcons (vv 3) (dcons (vv 4) dnil)) (few (by show 2 ≤ 10000000; decide))) anil)) ⟨_, (tops_data ng.nt.sm lot).1, (tops_data ng.nt.sm lot).2, rfl, rfl, rfl⟩))) rfl) (fun e => nomatch e) (fun _ => ?_)
  cases hg : goesB N ks lot with
  | false =>
    refine bwhen (x := true) (PTv.cast (tnot (tval (vmeth m_goes c hr (vv 0) (acons (vv 2) anil) ⟨x, ls, lt, N, S, T, ks, lot, pl, ng.nt, lr.last, rfl, rfl, rfl⟩))) (by rw [hg]; rfl)) (fun _ => bret ?_) (fun e => nomatch e)
    refine PEv.cast (vc (c_eqP (d := .tuple ((minOf (fineOf N lot)).map ss)) (e := .tuple []) hr.units (by rw [lr.no hg]; rfl) rfl (by rw [lr.no hg]; decide)) (vv 3) (vtup dnil (Nat.zero_le _))) (by rw [lr.no hg]; rfl)
  | true =>
    have hneed : (T.zipIdx.filter fun p => (minOf (fineOf N lot)).all fun own => decide (p.1.key ∈ own)).map (fun p => PyData.int (p.2 : Nat)) = (neededOf N S T lot).map fun n : Nat => .int (n : Int) := by
      rw [← lr.need hg, List.map_map]
      rfl
    have hlT := lr.lT
    have hnl : (neededOf N S T lot).length ≤ T.length := by
      unfold neededOf
      refine Nat.le_trans (List.length_filter_le _ _) ?_
      rw [List.length_range]
      exact Nat.le_refl _
    refine bwhen (x := false) (PTv.cast (tnot (tval (vmeth m_goes c hr (vv 0) (acons (vv 2) anil) ⟨x, ls, lt, N, S, T, ks, lot, pl, ng.nt, lr.last, rfl, rfl, rfl⟩))) (by rw [hg]; rfl)) (fun e => nomatch e) (fun _ => ?_)
    refine bcons (δ1 := inst (ok) [some (kWk C x ls lt), some (kHub N), some (kD (ii lot)), some (kD (.tuple ((minOf (fineOf N lot)).map ss))), some (kD (.tuple ((minOf (shutOf N lot)).map ss))), some (kD (.list ((neededOf N S T lot).map fun n : Nat => .int (n : Int)))), none, none, none, none, none, none]) (by
      refine PSn.toD (ssetLcD 5 (own := [("_law_k", 8), ("_law_deed", 10), ("_law_own", 11)]) T.zipIdx (fun p => D (.tuple [.int (p.2 : Nat), encD p.1])) (fun p => (minOf (fineOf N lot)).all fun own => decide (p.1.key ∈ own)) (fun p => .int (p.2 : Nat)) rfl nd rfl (sw_true rfl rfl rfl (by decide +kernel)) (by kernel_rfl) (iEnT m.enumerate (vprop p_told c hr (vv 0) ⟨x, ls, lt, N, S, T, pl, rfl, rfl, rfl⟩)) (by rw [List.length_zipIdx]; omega) fun p hp =>
        turn (fun _ _ _ _ _ => gtup (ds := [.int (p.2 : Nat), encD p.1]) rfl (gscons (gname 8 nd) (gscons (gname 10 nd) gsnil))) (fun _ _ _ _ _ => qone (tval (PEv.cast (vall (bs := (minOf (fineOf N lot)).map fun own => decide (p.1.key ∈ own)) rfl m.all (by
          rw [List.map_map]
          refine vlcA (own := [("_law_own", 11)]) (minOf (fineOf N lot)) (fun own => D (ss own)) (fun own => .bool (decide (p.1.key ∈ own))) rfl nd (by kernel_rfl) (iTm (vv 3)) (by omega) fun own ho =>
            turn (fun _ _ _ _ _ => gname 11 nd) (fun _ _ _ _ _ => qnil) (fun _ _ _ _ _ _ => vc c_in ?_ (vv 11)) (fun _ => nol_imm rfl)
          cases p.1 with
          | take key => exact vixT (ds := [.str "take", .str key]) (vv 10) vint (at0 1)
          | give key => exact vixT (ds := [.str "give", .str key]) (vv 10) vint (at0 1))) (by rw [List.all_map]; rfl)))) (fun _ _ _ _ _ _ => vv 8) (fun _ => nol_imm rfl)) (by rw [hneed]; rfl)) ?_
    have hnd : (ii ((neededOf N S T lot).map fun n : Nat => (n : Int))).depth < 8 ∧ wideD (ii ((neededOf N S T lot).map fun n : Nat => (n : Int))) = true := ⟨by rw [depth_ii1]; decide, wideD_ii (by rw [List.length_map]; omega)⟩
    refine bwhen (x := false) (PTv.cast (tnot (tval (vcall d_same hr (acons (vmeth m_needed c hr (vv 0) (acons (vv 2) anil) ⟨x, ls, lt, N, S, T, ks, lot, pl, ng.nt, lr.last, hg, by have := lr.lTS; omega, fun s hs => by have := lr.hS s hs; omega, by omega, rfl, rfl, rfl⟩) (acons (PEv.cast (vtupleL m.tuple (vv 5)) (by unfold ii; rw [List.map_map]; rfl)) anil)) ⟨_, hnd.1, hnd.2, rfl, rfl, rfl⟩))) rfl) (fun e => nomatch e) (fun _ => ?_)
    refine bcons (W' := W') (δ1 := inst (ok) [some (kWk C x ls lt), some (kHub N), some (kD (ii lot)), some (kD (.tuple ((minOf (fineOf N lot)).map ss))), some (kD (.tuple ((minOf (shutOf N lot)).map ss))), some (kD (.list ((neededOf N S T lot).map fun n : Nat => .int (n : Int)))), none, none, none, none, none, none]) ?_ (bret vbl)
    refine sforE (Ts := ((minOf (shutOf N lot)).take 2).map fun so => D (ss so)) (fun _ => W') (fun _ => inst (ok) [some (kWk C x ls lt), some (kHub N), some (kD (ii lot)), some (kD (.tuple ((minOf (fineOf N lot)).map ss))), some (kD (.tuple ((minOf (shutOf N lot)).map ss))), some (kD (.list ((neededOf N S T lot).map fun n : Nat => .int (n : Int)))), none, none, none, none, none, none]) .never rfl (iTm (PEv.cast (vslT (vv 4) onone (osome vint)) (by rw [cut_take2, List.map_take]))) rfl rfl (fun i Ti hTi => ?_) rfl rfl
    rw [List.getElem?_map] at hTi
    cases hk : ((minOf (shutOf N lot)).take 2)[i]? with
    | none =>
      rw [hk] at hTi
      cases hTi
    | some so =>
      rw [hk] at hTi
      cases hTi
      obtain ⟨k0, k3, br⟩ := lr.br hg so (List.mem_of_getElem? hk)
      have hsl := br.len
      have hpos : 0 < so.length := (List.getElem?_eq_some_iff.mp br.hd).1
      refine ⟨inst (ok) [some (kWk C x ls lt), some (kHub N), some (kD (ii lot)), some (kD (.tuple ((minOf (fineOf N lot)).map ss))), some (kD (.tuple ((minOf (shutOf N lot)).map ss))), some (kD (.list ((neededOf N S T lot).map fun n : Nat => .int (n : Int)))), some (kD (ss so)), none, none, none, none, none], [6], inst (ok) [some (kWk C x ls lt), some (kHub N), some (kD (ii lot)), some (kD (.tuple ((minOf (fineOf N lot)).map ss))), some (kD (.tuple ((minOf (shutOf N lot)).map ss))), some (kD (.list ((neededOf N S T lot).map fun n : Nat => .int (n : Int)))), some (kD (ss so)), none, none, none, none, none], [6], gname 6 nd, ?_, rfl⟩
      refine nopen (δ2 := [some (kWk C x ls lt), some (kHub N), some (kD (ii lot)), some (kD (.tuple ((minOf (fineOf N lot)).map ss))), some (kD (.tuple ((minOf (shutOf N lot)).map ss))), some (kD (.list ((neededOf N S T lot).map fun n : Nat => .int (n : Int)))), some (kD (ss so)), none, none, none, none, none]) 7 nd (vtwin m_twin c hr (vv 0) pl lr.last ng.nt.sm (by have := lr.lk; omega)) (fun y ls2 lt2 k1 k2 => ⟨W'.pl k1 k2 N (eyeS S ks so so.length ++ [k3]) (eyeT T so so.length ++ [.take k0]), fun H j => j.1.1, ?_⟩)
      have hgl : ∀ i, (gives ks so i).length ≤ 5 := fun i => Nat.le_trans (List.length_filter_le _ _) lr.lk
      have hlS := lr.lS
      have hlTS := lr.lTS
      refine ncons (W' := W'.pl k1 k2 N (eyeS S ks so so.length) (eyeT T so so.length)) (δ1 := inst (Kl.exl (Kl.exl ok ls2) lt2) [some (kWk C x ls lt), some (kHub N), some (kD (ii lot)), some (kD (.tuple ((minOf (fineOf N lot)).map ss))), some (kD (.tuple ((minOf (shutOf N lot)).map ss))), some (kD (.list ((neededOf N S T lot).map fun n : Nat => .int (n : Int)))), some (kD (ss so)), some (kWk C y ls2 lt2), none, none, none, none]) (sforE (Ts := so.zipIdx.map fun p => D (.tuple [.int (p.2 : Nat), .str p.1])) (fun i => W'.pl k1 k2 N (eyeS S ks so i) (eyeT T so i)) (fun _ => inst (Kl.exl (Kl.exl ok ls2) lt2) [some (kWk C x ls lt), some (kHub N), some (kD (ii lot)), some (kD (.tuple ((minOf (fineOf N lot)).map ss))), some (kD (.tuple ((minOf (shutOf N lot)).map ss))), some (kD (.list ((neededOf N S T lot).map fun n : Nat => .int (n : Int)))), some (kD (ss so)), some (kWk C y ls2 lt2), none, none, none, none]) .never rfl (iEnT m.enumerate (vv 6)) (by rw [eyeS_zero, eyeT_zero]) rfl (fun i Ti hTi => ?_) (by rw [List.length_map, List.length_zipIdx]) rfl) ?_
      · rw [List.getElem?_map, List.getElem?_zipIdx] at hTi
        cases hki : so[i]? with
        | none =>
          rw [hki] at hTi
          cases hTi
        | some key =>
          rw [hki] at hTi
          cases hTi
          have hi : i < so.length := (List.getElem?_eq_some_iff.mp hki).1
          refine ⟨inst (Kl.exl (Kl.exl ok ls2) lt2) [some (kWk C x ls lt), some (kHub N), some (kD (ii lot)), some (kD (.tuple ((minOf (fineOf N lot)).map ss))), some (kD (.tuple ((minOf (shutOf N lot)).map ss))), some (kD (.list ((neededOf N S T lot).map fun n : Nat => .int (n : Int)))), some (kD (ss so)), some (kWk C y ls2 lt2), some (kD (.int (i : Nat))), some (kD (.str key)), none, none], _, inst (Kl.exl (Kl.exl ok ls2) lt2) [some (kWk C x ls lt), some (kHub N), some (kD (ii lot)), some (kD (.tuple ((minOf (fineOf N lot)).map ss))), some (kD (.tuple ((minOf (shutOf N lot)).map ss))), some (kD (.list ((neededOf N S T lot).map fun n : Nat => .int (n : Int)))), some (kD (ss so)), some (kWk C y ls2 lt2), some (kD (.int (i : Nat))), some (kD (.str key)), none, none], [8, 9], (by
            show PGv _ _ _ _ (D (.tuple [.int ((0 + i : Nat) : Int), .str key])) _ _
            rw [Nat.zero_add]
            exact gtup (ds := [.int ((i : Nat) : Int), .str key]) rfl (gscons (gname 8 nd) (gscons (gname 9 nd) gsnil))), ncons (W' := W'.pl k1 k2 N (eyeS S ks so i) (eyeT T so i)) (δ1 := inst (Kl.exl (Kl.exl ok ls2) lt2) [some (kWk C x ls lt), some (kHub N), some (kD (ii lot)), some (kD (.tuple ((minOf (fineOf N lot)).map ss))), some (kD (.tuple ((minOf (shutOf N lot)).map ss))), some (kD (.list ((neededOf N S T lot).map fun n : Nat => .int (n : Int)))), some (kD (ss so)), some (kWk C y ls2 lt2), some (kD (.int (i : Nat))), some (kD (.str key)), none, none]) (nif (x := false) (PTv.cast (tnot (tval (vmeth m_goes c hr (vv 7) (acons (vv 2) anil) ⟨y, ls2, lt2, N, _, _, gives ks so i, lot, pl_plt, ng.nt, eye_last lr.last i, rfl, rfl, rfl⟩))) (by rw [br.go i hi]; rfl)) (fun e => nomatch e) fun _ => nnil) (ncons (by
              show PSn _ (W'.pl k1 k2 N (eyeS S ks so (i + 1)) (eyeT T so (i + 1))) _ _ _ _
              rw [eyeS_succ, eyeT_succ hki]
              exact smeth m_give c hr (vv 7) (acons (vv 9) anil) (DeedW.mk _ _ y ls2 lt2 k1 k2 N (eyeS S ks so i) (eyeT T so i) (gives ks so i) (gives ks so (i + 1)) (.give key) ⟨key, rfl⟩ (eye_last lr.last i) (step_give br.nd hki (br.sub key (List.mem_of_getElem? hki))) (by have := hgl i; omega) (by rw [eyeS_len]; omega) (by rw [eyeT_len (by omega)]; omega))) nnil), rfl⟩
      refine ncons (W' := W'.pl k1 k2 N (eyeS S ks so so.length) (eyeT T so so.length)) (δ1 := inst (Kl.exl (Kl.exl ok ls2) lt2) [some (kWk C x ls lt), some (kHub N), some (kD (ii lot)), some (kD (.tuple ((minOf (fineOf N lot)).map ss))), some (kD (.tuple ((minOf (shutOf N lot)).map ss))), some (kD (.list ((neededOf N S T lot).map fun n : Nat => .int (n : Int)))), some (kD (ss so)), some (kWk C y ls2 lt2), none, none, none, none]) ?_ (ncons (W' := W'.pl k1 k2 N (eyeS S ks so so.length ++ [k3]) (eyeT T so so.length ++ [.take k0])) (δ1 := inst (Kl.exl (Kl.exl ok ls2) lt2) [some (kWk C x ls lt), some (kHub N), some (kD (ii lot)), some (kD (.tuple ((minOf (fineOf N lot)).map ss))), some (kD (.tuple ((minOf (shutOf N lot)).map ss))), some (kD (.list ((neededOf N S T lot).map fun n : Nat => .int (n : Int)))), some (kD (ss so)), some (kWk C y ls2 lt2), none, none, none, none]) ?_ (ncons (W' := W'.pl k1 k2 N (eyeS S ks so so.length ++ [k3]) (eyeT T so so.length ++ [.take k0])) (δ1 := inst (Kl.exl (Kl.exl ok ls2) lt2) [some (kWk C x ls lt), some (kHub N), some (kD (ii lot)), some (kD (.tuple ((minOf (fineOf N lot)).map ss))), some (kD (.tuple ((minOf (shutOf N lot)).map ss))), some (kD (.list ((neededOf N S T lot).map fun n : Nat => .int (n : Int)))), some (kD (ss so)), some (kWk C y ls2 lt2), none, none, none, none]) ?_ (ncons (W' := W'.pl k1 k2 N (eyeS S ks so so.length ++ [k3]) (eyeT T so so.length ++ [.take k0])) (δ1 := inst (Kl.exl (Kl.exl ok ls2) lt2) [some (kWk C x ls lt), some (kHub N), some (kD (ii lot)), some (kD (.tuple ((minOf (fineOf N lot)).map ss))), some (kD (.tuple ((minOf (shutOf N lot)).map ss))), some (kD (.list ((neededOf N S T lot).map fun n : Nat => .int (n : Int)))), some (kD (ss so)), some (kWk C y ls2 lt2), none, none, none, none]) ?_ (PNv.forget nnil [7]))))
      · have hT0 : eyeT T so so.length ≠ [] := fun z => by
          have := eyeT_len (T := T) (so := so) (Nat.le_refl _)
          rw [z] at this
          simp at this
          omega
        have htu : turnedOf N (gives ks so so.length) (gives ks so (so.length - 1)) [lot] false = [lot] := by
          unfold turnedOf
          rw [List.filter_cons, br.no, br.go (so.length - 1) (by omega)]
          simp [setOf, once, srt, insE]
        refine nif (x := false) (tw (wor (x := false) (y := false) (tval (PEv.cast (vmeth m_goes c hr (vv 7) (acons (vv 2) anil) ⟨y, ls2, lt2, N, _, _, gives ks so so.length, lot, pl_plt, ng.nt, eye_last lr.last _, rfl, rfl, rfl⟩) (by rw [br.no]))) fun _ => wor1 (PTv.cast (tnot (tval (vcall d_same hr (acons (vmeth m_no_longer c hr (vv 7) (acons (vtup (ds := [ii lot]) (dcons (vv 2) dnil) (few (by show 1 ≤ 10000000; decide))) anil) ⟨y, ls2, lt2, N, _, _, gives ks so so.length, gives ks so (so.length - 1), [lot], pl_plt, ng.nt, eye_last lr.last _, by rw [eyeS_len]; omega, eyeS_back lr.last hpos, hT0, by show 1 < 64; decide, fun l hl => by rw [List.mem_singleton.mp hl]; exact lr.len, rfl, rfl, rfl⟩) (acons (vtup (ds := [ii lot]) (dcons (vv 2) dnil) (few (by show 1 ≤ 10000000; decide))) anil)) ⟨.tuple [ii lot], by simp [PyData.depth, PyData.depthAll, depth_ii1], by simp [wideD, wideDs, wideD_ii (show lot.length ≤ 1000 by have := lr.len; omega)], rfl, by rw [htu]; rfl, rfl⟩))) rfl))) (fun e => nomatch e) fun _ => nnil
      · exact smeth m_take c hr (vv 7) (acons (vixT (ds := so.map .str) (vv 6) vint (at0 0 (by rw [List.getElem?_map, br.hd]; rfl))) anil) (DeedW.mk _ _ y ls2 lt2 k1 k2 N (eyeS S ks so so.length) (eyeT T so so.length) (gives ks so so.length) k3 (.take k0) ⟨k0, rfl⟩ (eye_last lr.last _) br.st (by have := hgl so.length; omega) (by rw [eyeS_len]; omega) (by rw [eyeT_len (Nat.le_refl _)]; omega))
      · have hlast : (eyeS S ks so so.length ++ [k3]).getLast? = some k3 := by simp
        have hTl : (eyeT T so so.length ++ [Deed.take k0]).length = T.length + so.length + 1 := by
          rw [List.length_append, eyeT_len (Nat.le_refl _)]
          rfl
        refine nif (x := false) (tw (wor (x := false) (y := false) (PTv.cast (tnot (tval (vmeth m_goes c hr (vv 7) (acons (vv 2) anil) ⟨y, ls2, lt2, N, _, _, k3, lot, pl_plt, ng.nt, hlast, rfl, rfl, rfl⟩))) (by rw [br.back]; rfl)) fun _ => wor1 (PTv.cast (tc c_ninI (vsub (vlenW L hr m.len (vv 7) pl_plt (by omega)) vint) (vmeth m_needed c hr (vv 7) (acons (vv 2) anil) ⟨y, ls2, lt2, N, _, _, k3, lot, pl_plt, ng.nt, hlast, br.back, by rw [hTl, List.length_append, eyeS_len]; simp; omega, fun s hs => ?_, by omega, rfl, rfl, rfl⟩)) ?_))) (fun e => nomatch e) fun _ => nnil
        · rcases List.mem_append.mp hs with hs | hs
          · unfold eyeS at hs
            rcases List.mem_append.mp hs with hs | hs
            · have := lr.hS s hs
              omega
            · obtain ⟨j, _, rfl⟩ := List.mem_map.mp hs
              have := hgl (j + 1)
              omega
          · rw [List.mem_singleton.mp hs]
            exact br.l3
        · rw [hTl]
          rw [decide_eq_true]
          · rfl
          · have := br.need
            rw [show ((T.length + so.length + 1 : Nat) : Int) - 1 = ((T.length + so.length : Nat) : Int) from by omega]
            exact List.mem_map_of_mem (f := fun n : Nat => (n : Int)) this
      · have hm0 : (minOf (fineOf N lot)).filter (fun own => (own.filter fun k => decide (k ∈ so)).isEmpty) = [] := by
          rw [List.filter_eq_nil_iff]
          intro own ho
          rw [br.meet own ho]
          exact Bool.false_ne_true
        refine nif (x := false) (PTv.cast (tc (c_neP (d := .list (((minOf (fineOf N lot)).filter fun own => (own.filter fun k => decide (k ∈ so)).isEmpty).map ss)) (e := .list []) hr.units (by rw [hm0]; rfl) rfl (by rw [hm0]; decide)) (vlcD (own := [("_law_own", 11), ("_law_key", 9)]) (minOf (fineOf N lot)) (fun own => D (ss own)) (fun own => (own.filter fun k => decide (k ∈ so)).isEmpty) ss rfl nd (by kernel_rfl) (iTm (vv 3)) (by omega) fun own ho =>
          turn (fun _ _ _ _ _ => gname 11 nd) (fun _ _ _ _ _ => qone (tc (c_eqNil hr.units) (vlcD (own := [("_law_key", 9)]) own (fun k => D (.str k)) (fun k => decide (k ∈ so)) (fun k => .str k) rfl nd (by kernel_rfl) (iTm (vv 11)) (by have := hl3 own ho; omega) fun k hk =>
            turn (fun _ _ _ _ _ => gname 9 nd) (fun _ _ _ _ _ => qone (tc c_in (vv 9) (vv 6))) (fun _ _ _ _ _ _ => vv 9) (fun _ => nol_imm rfl)) (vlst dnil (Nat.zero_le _)))) (fun _ _ _ _ _ _ => vv 11) (fun _ => nol_imm (imm_ss _))) (vlst dnil (Nat.zero_le _))) (by rw [hm0]; rfl)) (fun e => nomatch e) fun _ => nnil
end
end Kl
set_option linter.all false
set_option maxRecDepth 100000
set_option maxHeartbeats 4000000
/-! # L10: case_right -/
namespace Kl
open PySem PySem.Spec PyProof.Rows L2
theorem bkNone {ok : Addr → Prop} {a : Addr} {G G' : Hp} (ka : ok a) (r : Rel ok G G') (e : G' a = none) : G a = none := by
  cases e0 : G a with
  | none => rfl
  | some o =>
    have := r a o ka e0
    rw [e] at this
    cases this
section
variable {ok : Addr → Prop} {W : Wd ok} {X : Cx} {δ : DEnv ok} {C : Addr}
/-- taken_right(hub, hours, lots) -/
theorem vtaken {k : Nat} {e1 e2 e3 : Expr} {p pos : Pos} {N : Net} {hours : List Int} {lots : List (List Int)} (F : Df X.prog X.w X.K X.mg X.base k "_law_taken_right" ["_law_hub", "_law_hours_so", "_law_lots"] (spTaken C)) (hr : Room k X.A) (ha : PAv W X [e1, e2, e3] δ [Hub N, D (ii hours), D (.list (lots.map ii))]) (tk : Tk N hours lots)
    (hg : Gl X "_law_taken_right" := by rfl) (he : starEach [e1, e2, e3] X.env = (false, eval e1 X.env) :: starEach [e2, e3] X.env := by rfl) (hpl : (backTo pos (starEach [e2, e3] X.env)).any (·.1) = false := by rfl) :
    PEw W X (.Call (.Name "_law_taken_right" p) [e1, e2, e3] [] pos) δ C N (hadsTo (ordOf N hours) (ordOf N hours).length) ((ordOf N hours).map Deed.take) := by
  obtain ⟨f, fd, hm, hk, hb, F⟩ := F.ex
  refine ⟨fun σ H Q sl q pins s I => (pe_call F hr hg hm hk hb .nil pass0 paW (by decide) he hpl).run pins s σ H Q I ?_⟩
  refine ha.run σ H _ sl fun vs H1 s1 p1 => ?_
  rw [List.append_nil]
  refine ⟨ok, W, N, hours, lots, s1.j, p1, tk, fun y dy ls lt H2 ky k1 kt ne ey e1 e2 h1 h2 h3 l => q y dy ls lt H2 ky k1 kt ne ?_ ?_ ?_ h1 h2 h3 (s1.trans l)⟩
  all_goals
    first
      | exact bkNone ky s1.rel ey
      | exact bkNone k1 s1.rel e1
      | exact bkNone kt s1.rel e2
end
/-- what the tests of case_right ask -/
structure Ca (N : Net) (hours : List Int) (lots : List (List Int)) : Prop where
  tk : Tk N hours lots
  lr : ∀ lot ∈ lots, Lr N (hadAt (ordOf N hours) (ordOf N hours).length) (hadsTo (ordOf N hours) (ordOf N hours).length) ((ordOf N hours).map Deed.take) lot
  ring : hadAt (ordOf N hours) (ordOf N hours).length = keysOf N
def A_L_case : Prm := fun ok W W' Ps T' => ∃ (N : Net) (hours : List Int) (lots : List (List Int)), Ca N hours lots ∧ W' = W ∧ Ps = [Hub N, D (ii hours), D (.list (lots.map ii))] ∧ T' = D (.bool true)
section
variable {P : Program} {w : World} {K : PySem.W.Frag} {mg : Str → Option Value} {base : Heap} {C : Addr}
theorem sc_L_case : FnScope ["_law_hub", "_law_hours_so", "_law_lots", "_law_plate", "_law_lot_here"] ["_law_hub", "_law_hours_so", "_law_lots"] (defScope s_L_case_right) := ⟨rfl, rfl, rfl, by decide +kernel, rfl, by decide +kernel, by decide +kernel⟩
theorem ok_L_case {k : Nat} {f : Addr} {fd : FuncData} (F : Fun K "_law_case_right" "_law_case_right" s_L_case_right f fd) (m : Mn mg) (c : Ck K C) (d_taken : Df P w K mg base (k + 1) "_law_taken_right" ["_law_hub", "_law_hours_so", "_law_lots"] (spTaken C)) (d_lot : Df P w K mg base (k + 1) "_law_lot_right" ["_law_plate", "_law_hub", "_law_lot_here"] (spt (A_L_lot C)))
    (p_ring : Pr P w K mg base C k "ring" (spt (A_W_ring C))) (d_keys : Df P w K mg base (k + 1) "_law_keys" ["_law_hub"] (spt A_keys_of)) : FnOk P w K mg base CX0 (k + 2) f fd ["_law_hub", "_law_hours_so", "_law_lots"] (spt A_L_case) :=
  okp F sc_L_case (fun _ _ _ _ _ h => by
    obtain ⟨N, hours, lots, _, _, rfl, _⟩ := h
    rfl) fun cdv B outer s H E hr ok W W' Ps T' h => by
  obtain ⟨N, hours, lots, ca, rfl, rfl, rfl⟩ := h
  have nd := sc_L_case.nd
  refine bopen (δ := [some (kHub N), some (kD (ii hours)), some (kD (.list (lots.map ii))), none, none]) 3 nd (vtaken d_taken hr (acons (vv 0) (acons (vv 1) (acons (vv 2) anil))) ca.tk) fun y ls lt k1 k2 => ⟨W'.pl k1 k2 N (hadsTo (ordOf N hours) (ordOf N hours).length) ((ordOf N hours).map Deed.take), fun H j => j.1.1, ?_⟩
  refine bwhen (x := false) (tc c_isW (vv 3) vnon) (fun e => nomatch e) (fun _ => ?_)
  refine bcons (W' := W'.pl k1 k2 N (hadsTo (ordOf N hours) (ordOf N hours).length) ((ordOf N hours).map Deed.take)) (δ1 := inst (Kl.exl (Kl.exl ok ls) lt) [some (kHub N), some (kD (ii hours)), some (kD (.list (lots.map ii))), some (kWk C y ls lt), none]) ?_ (bret (PEv.cast (vc (c_eqS hr.units) (vprop p_ring c hr (vv 3) ⟨y, ls, lt, N, _, _, _, pl_plt, hadsTo_last _ _, rfl, rfl, rfl⟩) (vcall d_keys hr (acons (PEv.sub (vv 0) fun H v h => Hub.d ca.tk.ng.ne h) anil) ⟨N, ca.tk.ng.nt.sm, rfl, rfl, rfl⟩)) (by rw [ca.ring, decide_eq_true rfl])))
  refine sforE (Ts := lots.map fun l => D (ii l)) (fun _ => W'.pl k1 k2 N (hadsTo (ordOf N hours) (ordOf N hours).length) ((ordOf N hours).map Deed.take)) (fun _ => inst (Kl.exl (Kl.exl ok ls) lt) [some (kHub N), some (kD (ii hours)), some (kD (.list (lots.map ii))), some (kWk C y ls lt), none]) .never rfl (iLm (vv 2)) rfl rfl (fun i Ti hTi => ?_) rfl rfl
  rw [List.getElem?_map] at hTi
  cases hk : lots[i]? with
  | none =>
    rw [hk] at hTi
    cases hTi
  | some lot =>
    rw [hk] at hTi
    cases hTi
    exact ⟨inst (Kl.exl (Kl.exl ok ls) lt) [some (kHub N), some (kD (ii hours)), some (kD (.list (lots.map ii))), some (kWk C y ls lt), some (kD (ii lot))], [4], inst (Kl.exl (Kl.exl ok ls) lt) [some (kHub N), some (kD (ii hours)), some (kD (.list (lots.map ii))), some (kWk C y ls lt), some (kD (ii lot))], [4], gname 4 nd, ncons (nif (x := false) (PTv.cast (tnot (tval (vcall d_lot hr (acons (vv 3) (acons (vv 0) (acons (vv 4) anil))) ⟨y, ls, lt, N, _, _, _, lot, pl_plt, ca.lr lot (List.mem_of_getElem? hk), rfl, rfl, rfl⟩))) rfl) (fun e => nomatch e) fun _ => nnil) nnil, rfl⟩
end
end Kl
set_option linter.all false
set_option maxRecDepth 100000
set_option maxHeartbeats 4000000
/-! # Z1: draws: a list of three numbers that changes; what is drawn is not known -/
namespace Kl
open PySem PySem.Spec PyProof.Rows L2
/-- the urn behind at most so many draws of its own -/
structure Ub (n : Nat) (a b c : Int) : Prop where
  a0 : 0 ≤ a
  b0 : 0 ≤ b
  b1 : b < 2 ^ 62
  c0 : 0 ≤ c
  cn : c ≤ n
section
variable {ok : Addr → Prop}
/-- worlds with an urn at u, by how many draws -/
structure Us (u : Addr) (U : Nat → Wd ok) : Prop where
  no : ¬ ok u
  get : ∀ {n : Nat} {H : Hp}, (U n).J H → ∃ a b c : Int, H u = some (.lst [.int a, .int b, .int c]) ∧ Ub n a b c
  set : ∀ {n m : Nat} {H : Hp} {a b c : Int}, (U n).J H → Ub m a b c → (U m).J (upd H u (.lst [.int a, .int b, .int c]))
/-- a world in which besides this stands at u -/
def Wd.pin (W : Wd ok) {u : Addr} (no : ¬ ok u) (o : HO) : Wd ok where
  J := fun H => W.J H ∧ H u = some o
  loc := fun {H H'} j h1 h2 => ⟨W.loc j.1 h1 h2, by rw [h2 u no]; exact j.2⟩
  fresh := fun {H p} j e => W.fresh j.1 e
  tup := fun {H p xs} j e => W.tup j.1 e
theorem upd_id {H : Hp} {u : Addr} {o : HO} (h : H u = some o) : upd H u o = H := by
  funext x
  by_cases e : x = u
  · subst e
    rw [upd_same, h]
  · exact upd_ne e
theorem Us.mono {u : Addr} {U : Nat → Wd ok} (us : Us u U) {n m : Nat} (hm : n ≤ m) {H : Hp} (j : (U n).J H) : (U m).J H := by
  obtain ⟨a, b, c, h, k⟩ := us.get j
  have := us.set (m := m) j ⟨k.a0, k.b0, k.b1, k.c0, Int.le_trans k.cn (by omega)⟩
  rwa [upd_id h] at this
/-- one of these kinds -/
def Ek {α : Type} (good : α → Prop) (T : α → Ty ok) : Ty ok := ⟨fun H v => ∃ a, good a ∧ (T a).p H v, fun e ⟨a, g, h⟩ => ⟨a, g, (T a).mono e h⟩⟩
structure PEz (W W1 : Wd ok) (X : Cx) (e : Expr) (δ : DEnv ok) (P : Ty ok) : Prop where
  run : ∀ (σ : L2.St) (H : Hp) (Q : VK), Sl W H σ δ → (∀ v H2, Rel ok H H2 → W1.J H2 → P.p H2 v → Q v H2) → tW X e σ H Q
structure PTz (W W1 : Wd ok) (X : Cx) (e : Expr) (δ : DEnv ok) : Prop where
  run : ∀ (σ : L2.St) (H : Hp) (Q : Bool → Hp → Prop), Sl W H σ δ → (∀ b H2, Rel ok H H2 → W1.J H2 → Q b H2) → tTW X e σ H Q
structure PAz (W W1 : Wd ok) (X : Cx) (es : List Expr) (δ : DEnv ok) (Ps : List (Ty ok)) : Prop where
  run : ∀ (σ : L2.St) (H : Hp) (Q : List V → Hp → Prop), Sl W H σ δ → (∀ vs H2, Rel ok H H2 → W1.J H2 → TyA H2 vs Ps → Q vs H2) → tAW X es σ H Q
variable {W W1 W2 W' : Wd ok} {X : Cx} {δ : DEnv ok}
theorem PEz.of {e : Expr} {P : Ty ok} {t : TE} (h : PE X e t) (k : ∀ σ H Q, Sl W H σ δ → (∀ v H2, Rel ok H H2 → W1.J H2 → P.p H2 v → Q v H2) → t σ H Q) : PEz W W1 X e δ P :=
  ⟨fun σ H Q sl q pins s I => h.run pins s σ H Q I (k σ H Q sl q)⟩
theorem PEv.z {e : Expr} {P : Ty ok} (h : PEv W X e δ P) : PEz W W X e δ P := ⟨fun σ H Q sl q => h.run σ H Q sl fun v H2 l p => q v H2 l.rel l.j p⟩
theorem PEz.sub {e : Expr} {P P' : Ty ok} (h : PEz W W1 X e δ P) (k : ∀ H v, P.p H v → P'.p H v) : PEz W W1 X e δ P' := ⟨fun σ H Q sl q => h.run σ H Q sl fun v H2 l j p => q v H2 l j (k H2 v p)⟩
theorem PEz.to {e : Expr} {P : Ty ok} (h : PEz W W1 X e δ P) (k : ∀ H, W1.J H → W2.J H) : PEz W W2 X e δ P := ⟨fun σ H Q sl q => h.run σ H Q sl fun v H2 l j p => q v H2 l (k H2 j) p⟩
theorem PBv.to {sts : List Stmt} {P : Ty ok} (h : PBv W W1 X sts δ P) (k : ∀ H, W1.J H → W2.J H) : PBv W W2 X sts δ P := ⟨fun σ H E sl q => h.run σ H E sl fun v H2 l j p => q v H2 l (k H2 j) p⟩
theorem PBv.sub {sts : List Stmt} {P P' : Ty ok} (h : PBv W W1 X sts δ P) (k : ∀ H v, P.p H v → P'.p H v) : PBv W W1 X sts δ P' := ⟨fun σ H E sl q => h.run σ H E sl fun v H2 l j p => q v H2 l j (k H2 v p)⟩
theorem PBv.from {sts : List Stmt} {P : Ty ok} (h : PBv W1 W2 X sts δ P) (k : ∀ H, W.J H → W1.J H) : PBv W W2 X sts δ P := ⟨fun σ H E sl q => h.run σ H E (sl.to (Rel.refl H) (k H sl.j)) q⟩
theorem PSn.to {st : Stmt} {δ' : DEnv ok} (h : PSn W W1 X st δ δ') (k : ∀ H, W1.J H → W2.J H) : PSn W W2 X st δ δ' := ⟨fun σ H E sl q => h.run σ H E sl fun σ' H2 l sl2 => q σ' H2 l (sl2.to (Rel.refl H2) (k H2 sl2.j))⟩
theorem bretz {e : Expr} {pos : Pos} {sts : List Stmt} {P : Ty ok} (h : PEz W W1 X e δ P) : PBv W W1 X (.Return (some e) pos :: sts) δ P :=
  PBv.of (pss_cons (ps_ret peW) pbW) fun σ H E sl q => h.run σ H _ sl q
/-- the numbers of the urn are told -/
theorem bpin {u : Addr} {U : Nat → Wd ok} (us : Us u U) {n : Nat} {sts : List Stmt} {P : Ty ok} (h : ∀ a b c : Int, Ub n a b c → PBv ((U n).pin us.no (.lst [.int a, .int b, .int c])) W' X sts δ P) : PBv (U n) W' X sts δ P :=
  ⟨fun σ H E sl q => by
    obtain ⟨a, b, c, e, k⟩ := us.get sl.j
    exact (h a b c k).run σ H E (sl.to (Rel.refl H) ⟨sl.j, e⟩) q⟩
theorem pin_ls {u : Addr} {no : ¬ ok u} {a b c : Int} : LsJ (W.pin no (.lst [.int a, .int b, .int c])) u [.int a, .int b, .int c] := fun H j => ⟨_, j.2, .cons (.int a) (.cons (.int b) (.cons (.int c) .nil))⟩
theorem bretU {u : Addr} {no : ¬ ok u} {o : HO} {e : Expr} {pos : Pos} {sts : List Stmt} {P P' : Ty ok} (h : PEv (W.pin no o) X e δ P) (k : ∀ H v, P.p H v → P'.p H v) : PBv (W.pin no o) W X (.Return (some e) pos :: sts) δ P' :=
  PBv.sub (PBv.to (bret h) fun H j => j.1) k
/-- urn[i] = e -/
theorem sputU {u : Addr} {U : Nat → Wd ok} (us : Us u U) {n m : Nat} {o i value : Expr} {pos pos' : Pos} {a b c a' b' c' v k : Int} {j : Nat} (ho : PEv ((U n).pin us.no (.lst [.int a, .int b, .int c])) X o δ (At u)) (hi : PEv ((U n).pin us.no (.lst [.int a, .int b, .int c])) X i δ (D (.int k)))
    (hv : PEv ((U n).pin us.no (.lst [.int a, .int b, .int c])) X value δ (D (.int v))) (hj : ixN 3 k = some j) (hset : ([V.int a, V.int b, V.int c] : List V).set j (.int v) = [.int a', .int b', .int c']) (hb : Ub m a' b' c')
    (hs : swapsWithSole [.Subscript o i pos'] value pos.line X.env = pure false := by rfl) (hw : swappedStores [.Subscript o i pos'] value X.env = pure none := by rfl)
    (h1 : (assignEach [.Subscript o i pos'] X.env).map (·.2) = [assign (.Subscript o i pos') X.env] := by rfl)
    (ha : ∀ v, assign (.Subscript o i pos') X.env v = (do
      let ov ← holding [v] (eval o X.env)
      let iv ← holding [v, ov] (eval i X.env)
      standAt pos'
      holding [v, ov, iv] (setItem ov iv v)
      release [v, ov, iv] []) := by intro _; rfl) :
    PSn ((U n).pin us.no (.lst [.int a, .int b, .int c])) ((U m).pin us.no (.lst [.int a', .int b', .int c'])) X (.Assign [.Subscript o i pos'] value pos) δ δ :=
  PSn.of (ps_asg peW (pg_sub peW peW set_list ha) hs hw h1) fun σ H E sl q => hv.run σ H _ sl fun y H1 s1 p1 => ho.run σ H1 _ (sl.same s1) fun x H2 s2 p2 => hi.run σ H2 _ ((sl.same s1).same s2) fun z H3 s3 p3 => by
    cases p1
    cases p2
    cases p3
    obtain ⟨j3, e3⟩ := s3.j
    refine ⟨u, _, k, j, rfl, rfl, e3, hj, ?_⟩
    rw [hset]
    have rel3 : Rel ok H3 (upd H3 u (.lst [.int a', .int b', .int c'])) := fun x o kx e => by
      rw [upd_ne (fun z => us.no (by rw [← z]; exact kx))]
      exact e
    exact q _ _ (((s1.trans s2).trans s3).rel.trans rel3) ((((sl.same s1).same s2).same s3).to rel3 ⟨us.set j3 hb, upd_same⟩)
end
section
variable {P : Program} {w : World} {K : PySem.W.Frag} {mg : Str → Option Value} {base : Heap}
theorem sc_L_take : FnScope ["_law_urn", "_law_low", "_law_drawn", "_law_once", "_law_far", "_law_twice"] ["_law_urn", "_law_low"] (defScope s_L_take) := ⟨rfl, rfl, rfl, by decide +kernel, rfl, by decide +kernel, by decide +kernel⟩
def dInt {ok : Addr → Prop} (x : Int) : Ty ok := D (.int x)
/-- a number from 0, less than low -/
def Drawn {ok : Addr → Prop} (low : Int) : Ty ok := Ek (fun x : Int => 0 ≤ x ∧ x < low) dInt
def A_take : Prm := fun ok W W' Ps T => ∃ (u : Addr) (U : Nat → Wd ok) (n : Nat) (low : Int), Us u U ∧ n ≤ 1000000 ∧ 0 < low ∧ low ≤ 1000 ∧ W = U n ∧ W' = U (n + 1) ∧ Ps = [At u, D (.int low)] ∧ T = Drawn low
theorem ok_L_take {f : Addr} {fd : FuncData} (F : Fun K "_law_take" "_law_take" s_L_take f fd) (m : Mn mg) : FnOk P w K mg base CX0 1 f fd ["_law_urn", "_law_low"] (spt A_take) :=
  okp F sc_L_take (fun _ _ _ _ _ h => by
    obtain ⟨u, U, n, low, _, _, _, _, _, _, rfl, _⟩ := h
    rfl) fun cdv B outer s H E hr ok W W' Ps T' h => by
  obtain ⟨u, U, n, low, us, hn, h0, h1, rfl, rfl, rfl, rfl⟩ := h
  have nd := sc_L_take.nd
  have mod0 : ∀ x : Int, 0 ≤ x % low ∧ x % low < low := fun x => ⟨Int.emod_nonneg _ (by omega), Int.emod_lt_of_pos _ h0⟩
  refine bpin us fun a b c ub => ?_
  have ua := ub.a0; have u1 := ub.b0; have u2 := ub.b1; have u3 := ub.c0; have u4 := ub.cn
  refine bwhen (x := decide (0 < a)) (tc c_gt (jix pin_ls (vv 0) vint (at0 0)) vint) (fun e => ?_) fun e => ?_
  · refine bcons (sset 2 nd (vmod (vintI m.int (jix pin_ls (vv 0) vint (at0 0))) (vv 1) h0)) ?_
    refine bcons (sputU us (m := n + 1) (a' := a / low) (b' := b) (c' := c) (j := 0) (vv 0) vint (vdiv (jix pin_ls (vv 0) vint (at0 0)) (vv 1) ⟨h0, by omega⟩) rfl rfl ⟨Int.ediv_nonneg ua (by omega), u1, u2, u3, by omega⟩) ?_
    exact bretU (vv 2) fun H v p => ⟨_, mod0 _, p⟩
  · refine bcons (sputU us (m := n + 1) (a' := a) (b' := b) (c' := c + 1) (j := 2) (vv 0) vint (vadd (jix pin_ls (vv 0) vint (at0 2)) vint) rfl rfl ⟨ua, u1, u2, by omega, by omega⟩) ?_
    refine bcons (sset 3 nd (vmod (vintI m.int (vmul (vadd (jix pin_ls (vv 0) vint (at0 1)) (vmul vint (jix pin_ls (vv 0) vint (at0 2)) (.inl ⟨by decide, by decide⟩))) (vadd vint (jix pin_ls (vv 0) vint (at0 2))) (.inr ⟨by omega, by omega⟩))) vint (by decide))) ?_
    generalize (b + 48271 * (c + 1)) * (39373 + (c + 1)) % 2147483647 = once
    refine bcons (sset 4 nd (vadd (vmod (vintI m.int (vv 3)) vint (by decide)) vint)) ?_
    have f1 : 0 ≤ once % 40009 := Int.emod_nonneg _ (by decide)
    have f2 : once % 40009 < 40009 := Int.emod_lt_of_pos _ (by decide)
    refine bcons (sset 5 nd (vmod (vintI m.int (vmul (vadd (vadd (vv 3) (jix pin_ls (vv 0) vint (at0 2))) (vdiv (jix pin_ls (vv 0) vint (at0 1)) vint ⟨by decide, by decide⟩)) (vv 4) (.inr ⟨by omega, by omega⟩))) vint (by decide))) ?_
    exact bretU (vmod (vintI m.int (vdiv (vmod (vintI m.int (vadd (vmul (vv 5) vint (.inr ⟨by decide, by decide⟩)) (vv 3))) vint (by decide)) vint ⟨by decide, by decide⟩)) (vv 1) h0) fun H v p => ⟨_, mod0 _, p⟩
end
end Kl
set_option linter.all false
set_option maxRecDepth 100000
set_option maxHeartbeats 4000000
/-! # Z2: expressions with draws -/
namespace Kl
open PySem PySem.Spec PyProof.Rows L2
section
variable {ok : Addr → Prop} {W W1 W2 W' : Wd ok} {X : Cx} {δ : DEnv ok}
theorem azof {es : List Expr} {Ps : List (Ty ok)} (h : PAv W X es δ Ps) : PAz W W X es δ Ps := ⟨fun σ H Q sl q => h.run σ H Q sl fun vs H2 l p => q vs H2 l.rel l.j p⟩
theorem azcons {e : Expr} {es : List Expr} {P : Ty ok} {Ps : List (Ty ok)} (h : PEz W W1 X e δ P) (hr : PAz W1 W2 X es δ Ps) (hs : starEach (e :: es) X.env = (false, eval e X.env) :: starEach es X.env := by rfl) : PAz W W2 X (e :: es) δ (P :: Ps) :=
  ⟨fun σ H Q sl q pos pins s I => (pa_cons peW paW hs).run pos pins s σ H Q I (h.run σ H _ sl fun v H1 r1 j1 p1 => hr.run σ H1 _ (sl.to r1 j1) fun vs H2 r2 j2 p2 => q _ H2 (r1.trans r2) j2 (.cons (P.mono r2 p1) p2))⟩
theorem zcall {x : Str} {k : Nat} {ps : List Str} {A : Prm} {e : Expr} {es : List Expr} {p pos : Pos} {Ps : List (Ty ok)} {P : Ty ok} (F : Df X.prog X.w X.K X.mg X.base k x ps (spt A)) (hr : Room k X.A) (ha : PAz W W1 X (e :: es) δ Ps) (h : A ok W1 W2 Ps P)
    (hg : Gl X x := by rfl) (hdb : (x == ("__debug__" : Str)) = false := by decide) (he : starEach (e :: es) X.env = (false, eval e X.env) :: starEach es X.env := by rfl) (hpl : (backTo pos (starEach es X.env)).any (·.1) = false := by rfl) :
    PEz W W2 X (.Call (.Name x p) (e :: es) [] pos) δ P := by
  obtain ⟨f, fd, hm, hk, hb, F⟩ := F.ex
  refine PEz.of (pe_call F hr hg hm hk hb .nil pass0 paW hdb he hpl) fun σ H Q sl q => ha.run σ H _ sl fun vs H1 r1 j1 p1 => ?_
  rw [List.append_nil]
  exact ⟨ok, W1, W2, Ps, P, j1, p1, h, fun v H2 s2 j2 p2 => q v H2 (r1.trans s2) j2 p2⟩
/-- ds[i], i drawn -/
theorem zix {a b : Expr} {pos : Pos} {ds : List PyData} {n : Nat} (ha : PEv W X a δ (D (.list ds))) (hb : PEz W W1 X b δ (Drawn n)) (hn : ds.length = n) (hs : PlainIx b := by intro _ _; rfl) : PEz W W1 X (.Subscript a b pos) δ (Ek (fun d => d ∈ ds) fun d => D d) :=
  PEz.of (pe_ix ix_list peW peW hs) fun σ H Q sl q => ha.run σ H _ sl fun x H1 s1 p1 => hb.run σ H1 _ (sl.same s1) fun y H2 r2 j2 p2 => by
    obtain ⟨i, ⟨i0, i1⟩, p2⟩ := p2
    cases p2
    cases p1 with
    | @lst a xs _ kh1 h1 r =>
      have hl : i.toNat < ds.length := by omega
      have hd : ds[i.toNat]? = some ds[i.toNat] := List.getElem?_eq_getElem hl
      obtain ⟨v, hv, rv⟩ := atI_ra (i := ((i.toNat : Nat) : Int)) (r.same r2) (at0 _ hd)
      rw [Int.toNat_of_nonneg i0] at hv
      exact ⟨a, xs, i, v, rfl, rfl, SqL.of (r2 _ _ kh1 h1), hv, q v H2 (s1.rel.trans r2) j2 ⟨_, List.getElem_mem hl, rv⟩⟩
theorem zif {c a b : Expr} {pos : Pos} {P : Ty ok} (hc : PTz W W1 X c δ) (ha : PEz W1 W2 X a δ P) (hb : PEz W1 W2 X b δ P) : PEz W W2 X (.IfExp c a b pos) δ P :=
  PEz.of (pe_ifExp ptW peW peW) fun σ H Q sl q => hc.run σ H _ sl fun b H1 r j => by
    cases b with
    | true => exact iteT (ha.run σ H1 Q (sl.to r j) fun v H2 r2 j2 p => q v H2 (r.trans r2) j2 p)
    | false => exact iteF (hb.run σ H1 Q (sl.to r j) fun v H2 r2 j2 p => q v H2 (r.trans r2) j2 p)
/-- a comparison of a drawn number -/
theorem tz {a b : Expr} {op : CmpOp} {pos : Pos} {low y : Int} {f : Int → Bool} (h : ∀ x, Cm W1 X op (D (.int x)) (D (.int y)) (f x)) (ho : ∃ r : R2, OpR X (compareOp op) r ∧ ∀ x H (Q : VK), Q (.bl (f x)) H → r (.int x) (.int y) H Q) (ha : PEz W W1 X a δ (Drawn low)) (hb : PEv W1 X b δ (D (.int y))) (hm : behindInMarks op b = false := by first | exact nomark _ | rfl) : PTz W W1 X (.Compare a [op] [b] pos) δ := by
  obtain ⟨r, ho, k⟩ := ho
  refine ⟨fun σ H Q sl q pins s I => (pt_cmpR ho peW peW hm).run pins s σ H Q I (ha.run σ H _ sl fun x H1 r1 j1 p1 => hb.run σ H1 _ (sl.to r1 j1) fun v H2 s2 p2 => ?_)⟩
  obtain ⟨i, _, p1⟩ := p1
  cases p1
  cases p2
  exact k i H2 _ ⟨f i, rfl, q _ H2 (r1.trans s2.rel) s2.j⟩
theorem tz_gt {a b : Expr} {pos : Pos} {low y : Int} (ha : PEz W W1 X a δ (Drawn low)) (hb : PEv W1 X b δ (D (.int y))) (hm : behindInMarks .Gt b = false := by first | exact nomark _ | rfl) : PTz W W1 X (.Compare a [.Gt] [b] pos) δ :=
  tz (f := fun x => decide (y < x)) (fun x => c_gt) ⟨_, op_gt, fun x H Q q => ⟨_, _, rfl, rfl, q⟩⟩ ha hb hm
/-- the same, as a number: int(x > y) -/
theorem zgt {a b : Expr} {pos : Pos} {low y : Int} (ha : PEz W W1 X a δ (Drawn low)) (hb : PEv W1 X b δ (D (.int y))) (hm : behindInMarks .Gt b = false := by first | exact nomark _ | rfl) : PEz W W1 X (.Compare a [.Gt] [b] pos) δ (Ek (fun _ : Bool => True) fun b => D (.bool b)) :=
  PEz.of (pe_cmpR op_gt peW peW hm) fun σ H Q sl q => ha.run σ H _ sl fun x H1 r1 j1 p1 => hb.run σ H1 _ (sl.to r1 j1) fun v H2 s2 p2 => by
    obtain ⟨i, _, p1⟩ := p1
    cases p1
    cases p2
    exact ⟨_, _, rfl, rfl, q _ H2 (r1.trans s2.rel) s2.j ⟨_, trivial, .bl _⟩⟩
/-- numbers between bounds -/
def Btw {ok : Addr → Prop} (lo hi : Int) : Ty ok := Ek (fun x : Int => lo ≤ x ∧ x ≤ hi) dInt
theorem drawn_btw {e : Expr} {low : Int} (h : PEz W W1 X e δ (Drawn low)) : PEz W W1 X e δ (Btw 0 (low - 1)) := h.sub fun H v ⟨x, g, p⟩ => ⟨x, ⟨g.1, by omega⟩, p⟩
theorem btw_of {e : Expr} {x : Int} (h : PEv W X e δ (D (.int x))) : PEz W W X e δ (Btw x x) := h.z.sub fun H v p => ⟨x, ⟨Int.le_refl _, Int.le_refl _⟩, p⟩
theorem btw_wide {e : Expr} {lo hi lo' hi' : Int} (h : PEz W W1 X e δ (Btw lo hi)) (h1 : lo' ≤ lo) (h2 : hi ≤ hi') : PEz W W1 X e δ (Btw lo' hi') := h.sub fun H v ⟨x, g, p⟩ => ⟨x, ⟨Int.le_trans h1 g.1, Int.le_trans g.2 h2⟩, p⟩
theorem zadd {a b : Expr} {pos : Pos} {l1 h1 l2 h2 : Int} (ha : PEz W W1 X a δ (Btw l1 h1)) (hb : PEz W1 W2 X b δ (Btw l2 h2)) : PEz W W2 X (.BinOp a .Add b pos) δ (Btw (l1 + l2) (h1 + h2)) :=
  PEz.of (pe_op op_add peW peW) fun σ H Q sl q => ha.run σ H _ sl fun x H1 r1 j1 p1 => hb.run σ H1 _ (sl.to r1 j1) fun y H2 r2 j2 p2 => by
    obtain ⟨x, g1, p1⟩ := p1
    obtain ⟨y, g2, p2⟩ := p2
    cases p1
    cases p2
    exact ⟨_, _, rfl, rfl, q _ H2 (r1.trans r2) j2 ⟨x + y, ⟨by omega, by omega⟩, .int _⟩⟩
theorem zintB {a : Expr} {p pos : Pos} (hm : X.mg "int" = none) (ha : PEz W W1 X a δ (Ek (fun _ : Bool => True) fun b => D (.bool b))) (hg : Gl X "int" := by rfl) (hs : starEach [a] X.env = (false, eval a X.env) :: starEach [] X.env := by rfl) : PEz W W1 X (.Call (.Name "int" p) [a] [] pos) δ (Btw 0 1) :=
  PEz.of (pe_callTy call_int1 hg hm (by decide +kernel) paW (by decide) (by decide) hs rfl) fun σ H Q sl q => (azcons ha (azof anil) hs).run σ H _ sl fun vs H1 r1 j1 p1 => by
    cases p1 with
    | cons p t =>
      cases t
      obtain ⟨b, _, p⟩ := p
      cases p
      refine .inr ⟨b, rfl, q _ H1 r1 j1 ⟨if b then 1 else 0, ?_, ?_⟩⟩
      · cases b <;> decide
      · cases b <;> exact .int _
theorem zmin2 {a b : Expr} {p pos : Pos} {l1 h1 l2 h2 : Int} (hc : X.calm = true) (hm : X.mg "min" = none) (ha : PEz W W1 X a δ (Btw l1 h1)) (hb : PEz W1 W2 X b δ (Btw l2 h2)) (hg : Gl X "min" := by rfl)
    (hs : starEach [a, b] X.env = (false, eval a X.env) :: starEach [b] X.env := by rfl) (hs2 : starEach [b] X.env = (false, eval b X.env) :: starEach [] X.env := by rfl) (hpl : (backTo pos (starEach [b] X.env)).any (·.1) = false := by rfl) : PEz W W2 X (.Call (.Name "min" p) [a, b] [] pos) δ (Btw (min l1 l2) (min h1 h2)) :=
  PEz.of (pe_callB (call_min2 hc) hg hm (by decide +kernel) paW (by decide) (by decide) hs hpl) fun σ H Q sl q => (azcons ha (azcons hb (azof anil) hs2) hs).run σ H _ sl fun vs H1 r1 j1 p1 => by
    cases p1 with
    | cons p t =>
      cases t with
      | cons p' t =>
        cases t
        obtain ⟨x, g1, p⟩ := p
        obtain ⟨y, g2, p'⟩ := p'
        cases p
        cases p'
        refine ⟨x, y, rfl, q _ H1 r1 j1 ⟨if y < x then y else x, ?_, .int _⟩⟩
        split <;> omega
/-- small × (0 or 1) -/
theorem zmul01 {a b : Expr} {pos : Pos} {h1 : Int} (ha : PEv W X a δ (Btw 0 h1)) (hh : h1 < 1000) (hb : PEz W W2 X b δ (Btw 0 1)) : PEz W W2 X (.BinOp a .Mult b pos) δ (Btw 0 h1) :=
  PEz.of (pe_op op_mul peW peW) fun σ H Q sl q => ha.run σ H _ sl fun x H1 s1 p1 => hb.run σ H1 _ (sl.same s1) fun y H2 r2 j2 p2 => by
    obtain ⟨x, g1, p1⟩ := p1
    obtain ⟨y, g2, p2⟩ := p2
    cases p1
    cases p2
    have hy : y = 0 ∨ y = 1 := by omega
    refine ⟨_, _, rfl, rfl, .inl ⟨by omega, by omega⟩, q _ H2 (s1.rel.trans r2) j2 ⟨x * y, ?_, .int _⟩⟩
    rcases hy with rfl | rfl
    · simp; omega
    · simp; omega
end
end Kl
set_option linter.all false
set_option maxRecDepth 100000
set_option maxHeartbeats 4000000
/-! # Z3: of, pick -/
namespace Kl
open PySem PySem.Spec PyProof.Rows L2
section
variable {ok : Addr → Prop} {W W1 W2 W' : Wd ok} {X : Cx} {δ : DEnv ok}
/-- the kind of a slot is told -/
theorem bex (i : Nat) {α : Type} {good : α → Prop} {T : α → Ty ok} {sts : List Stmt} {P : Ty ok} (hd : δ[i]? = some (some (Ek good T))) (h : ∀ a, good a → PBv W W' X sts (δ.set i (some (T a))) P) : PBv W W' X sts δ P :=
  ⟨fun σ H E sl q => by
    obtain ⟨v, hv, a, g, p⟩ := sl.at_ i _ hd
    have e : σ.set i (some v) = σ := by
      refine List.ext_getElem? fun j => ?_
      by_cases hj : i = j
      · subst hj
        rw [List.getElem?_set_self (List.getElem?_eq_some_iff.mp hv).1, hv]
      · rw [List.getElem?_set_ne hj]
    have z := sl.set i p
    rw [e] at z
    exact (h a g).run σ H E z q⟩
/-- two own lists of names -/
def Wd.two (W : Wd ok) {r f : Addr} (kr : ok r) (kf : Kl.exl ok r f) (φ : List Str → List Str → Prop) : Wd (Kl.exl (Kl.exl ok r) f) where
  J := fun H => W.J H ∧ ∃ rs fs : List Str, φ rs fs ∧ H r = some (.lst (rs.map V.str)) ∧ H f = some (.lst (fs.map V.str))
  loc := fun {H H'} ⟨j, rs, fs, h, e1, e2⟩ h1 h2 => by
    refine ⟨W.loc j (fun a o ka no e => h1 a o ⟨⟨ka, fun z => ?_⟩, fun z => ?_⟩ no e) (fun a ha => h2 a fun z => ha z.1.1), rs, fs, h, ?_, ?_⟩
    · rw [z, e1] at e
      cases e
      exact no.1 _ rfl
    · rw [z, e2] at e
      cases e
      exact no.1 _ rfl
    · rw [h2 r fun z => z.1.2 rfl]
      exact e1
    · rw [h2 f fun z => z.2 rfl]
      exact e2
  fresh := fun {H p} ⟨j, rs, fs, h, e1, e2⟩ e => ⟨⟨W.fresh j e, fun z => by rw [z, e1] at e; cases e⟩, fun z => by rw [z, e2] at e; cases e⟩
  tup := fun {H p xs} ⟨j, rs, fs, h, e1, e2⟩ e => ⟨⟨W.tup j e, fun z => by rw [z, e1] at e; cases e⟩, fun z => by rw [z, e2] at e; cases e⟩
theorem us_two {u : Addr} {U : Nat → Wd ok} (us : Us u U) {r f : Addr} (kr : ok r) (kf : Kl.exl ok r f) (φ : List Str → List Str → Prop) : Us u fun n => (U n).two kr kf φ where
  no := fun z => us.no z.1.1
  get := fun j => us.get j.1
  set := fun {n m H a b c} ⟨j, rs, fs, h, e1, e2⟩ k => ⟨us.set j k, rs, fs, h, by rw [upd_ne (fun z => us.no (by rw [← z]; exact kr))]; exact e1, by rw [upd_ne (fun z => us.no (by rw [← z]; exact kf.1))]; exact e2⟩
/-- len of an own list -/
theorem jlenN {a : Expr} {p pos : Pos} {l : Addr} {n : Nat} (hJ : ∀ H, W.J H → ∃ vs : List V, H l = some (.lst vs) ∧ vs.length = n) (hm : X.mg "len" = none) (ha : PEv W X a δ (At l)) (hg : Gl X "len" := by rfl) (hs : starEach [a] X.env = (false, eval a X.env) :: starEach [] X.env := by rfl) : PEv W X (.Call (.Name "len" p) [a] [] pos) δ (D (.int (n : Nat))) :=
  vcb call_len_seq hm boot_len (acons ha anil hs) (fun H vs Q j h k => by
    cases h with
    | cons h t =>
      cases t
      cases h
      obtain ⟨xs, h1, r⟩ := hJ H j
      exact ⟨l, xs, rfl, .inl (SqL.of h1), by rw [r]; exact k _ H (Le.refl j) (.int _)⟩) hg (he := hs)
/-- rest, found = list(some), [] -/
theorem popen (i j : Nat) {δ : List (Option PK)} {x y : Str} {e : Expr} {p px py lp cp pt pos : Pos} {kt k2 : Nat} {pt2 : Pos} {tail : List Stmt} {ns : List Str} {P : Ty ok} {φ ψ : List Str → List Str → Prop} (hc : X.calm = true) (hN : X.N.Nodup) (hm : X.mg "list" = none) (he : PEv W X e (inst ok δ) (D (.list (ns.map .str)))) (h0 : φ ns [])
    (hrest : ∀ (r f : Addr) (kr : ok r) (kf : Kl.exl ok r f), PBv (W.two kr kf φ) (W'.two kr kf ψ) X tail (((inst (Kl.exl (Kl.exl ok r) f) δ).set i (some (At r))).set j (some (At f))) (At f)) (hP : ∀ H f rs fs, ok f → ψ rs fs → H f = some (.lst (fs.map V.str)) → P.p H (.ref f))
    (hx : X.env.scope.names.lookup x = some .local) (hy : X.env.scope.names.lookup y = some .local)
    (hw : swappedStores [.Tuple [.Name x px, .Name y py] kt pt] (.Tuple [.Call (.Name "list" p) [e] [] cp, .List [] lp] k2 pt2) X.env = pure (some [x, y])) (hij : i ≠ j := by decide) (hi : X.N[i]? = some x := by rfl) (hj : X.N[j]? = some y := by rfl)
    (hs : swapsWithSole [.Tuple [.Name x px, .Name y py] kt pt] (.Tuple [.Call (.Name "list" p) [e] [] cp, .List [] lp] k2 pt2) pos.line X.env = pure false := by rfl)
    (s1 : starEach [.Call (.Name "list" p) [e] [] cp, .List [] lp] X.env = (false, eval (.Call (.Name "list" p) [e] [] cp) X.env) :: starEach [.List [] lp] X.env := by rfl) (s2 : starEach [.List [] lp] X.env = (false, eval (.List [] lp) X.env) :: starEach [] X.env := by rfl) (s3 : starEach [e] X.env = (false, eval e X.env) :: starEach [] X.env := by rfl) (hg : Gl X "list" := by rfl) :
    PBv W W' X (.Assign [.Tuple [.Name x px, .Name y py] kt pt] (.Tuple [.Call (.Name "list" p) [e] [] cp, .List [] lp] k2 pt2) pos :: tail) (inst ok δ) P :=
  PBv.of (pss_cons (ps_par hc hN hi hj hij hx hy (pa_cons (pe_callTy call_list_of hg hm (by decide +kernel) paW (by decide) (by decide) s3 rfl) (pa_cons (pe_lst pa_nil) pa_nil s2) s1) hw hs) pbW) fun σ H E sl q => (acons he anil s3).run σ H _ sl fun vs H1 l1 p1 => by
    obtain ⟨v, rfl, r⟩ := tya1 p1
    cases r with
    | @lst b xs _ kb h1 ra =>
      rw [ra.strs] at h1
      refine ⟨b, _, rfl, .inl (SqL.of h1), fun r hr => ⟨Nat.zero_le _, fun f hf => ?_⟩⟩
      have kr : ok r := W.fresh l1.j hr
      have l2 := le_upd (o := .lst (ns.map V.str)) l1.j hr
      have kf : ok f := W.fresh l2.j hf
      have ne : f ≠ r := fun z => by
        rw [z, upd_same] at hf
        cases hf
      have l3 := le_upd (o := .lst []) l2.j hf
      have hf1 : H1 f = none := by
        rw [upd_ne ne] at hf
        exact hf
      have bk : ∀ {a : Addr}, ok a → H1 a = none → H a = none := fun {a} ka e => bkNone ka l1.rel e
      have rel : Rel (Kl.exl (Kl.exl ok r) f) H (upd (upd H1 r (.lst (ns.map V.str))) f (.lst [])) := fun a o ka e => ((l1.trans l2).trans l3).rel a o ka.1.1 e
      have jt : (W.two kr ⟨kf, ne⟩ φ).J (upd (upd H1 r (.lst (ns.map V.str))) f (.lst [])) := ⟨l3.j, ns, [], h0, by rw [upd_ne (Ne.symm ne)]; exact upd_same, upd_same⟩
      refine ⟨_, _, rfl, ?_⟩
      refine (hrest r f kr ⟨kf, ne⟩).run _ _ _ (((sl.opened2 (bk kr hr) (bk kf hf1) rel jt).set i (P := At r) rfl).set j (P := At f) rfl) fun v H3 r3 j3 p3 => ?_
      cases p3
      obtain ⟨j4, rs, fs, hψ, e1, e2⟩ := j3
      refine q _ H3 (fun a o ka e => ?_) j4 (hP H3 f rs fs kf hψ e2)
      have n1 : a ≠ r := ne_of_none e (bk kr hr)
      have n2 : a ≠ f := ne_of_none e (bk kf hf1)
      exact r3 a o ⟨⟨ka, n1⟩, n2⟩ (rel a o ⟨⟨ka, n1⟩, n2⟩ e)
end
def phi (ns : List Str) (i : Nat) (rs fs : List Str) : Prop := (fs ++ rs).Perm ns ∧ fs.length = i
section
variable {ok : Addr → Prop}
theorem erase_perm {α : Type} : ∀ {l : List α} {k : Nat} (h : k < l.length), (l[k] :: l.eraseIdx k).Perm l
  | x :: l, 0, h => List.Perm.refl _
  | x :: l, k + 1, h => by
    show (l[k]'(by simpa using h) :: x :: l.eraseIdx k).Perm (x :: l)
    exact (List.Perm.swap x _ _).trans ((erase_perm (l := l) (k := k) (by simpa using h)).cons x)
theorem erase_map {α β : Type} (g : α → β) : ∀ (l : List α) (k : Nat), (l.map g).eraseIdx k = (l.eraseIdx k).map g
  | [], k => rfl
  | x :: l, 0 => rfl
  | x :: l, k + 1 => by
    show g x :: (l.map g).eraseIdx k = g x :: (l.eraseIdx k).map g
    rw [erase_map g l k]
theorem lst_loc {V : Wd ok} {p : Addr} {H : Hp} {xs ys : List L2.V} (kp : ok p) (j : V.J H) (h : H p = some (.lst xs)) : V.J (upd H p (.lst ys)) := V.loc j (fun a o ka no e => by
  rw [upd_ne (fun z => by
    rw [z, h] at e
    cases e
    exact no.1 _ rfl)]
  exact e) fun a ha => upd_ne fun z => ha (by rw [z]; exact kp)
/-- found.append(rest.pop(i)), i drawn -/
theorem spopapp {V V1 : Wd ok} {r f : Addr} {kr : ok r} {kf : Kl.exl ok r f} {X : Cx} {δ : DEnv (Kl.exl (Kl.exl ok r) f)} {ns : List Str} {i : Nat} {o1 o2 e : Expr} {ap ap2 cp cp2 pos : Pos} (hi : i < ns.length) (hz : ns.length ≤ 1000) (h1 : PEv (V.two kr kf (phi ns i)) X o1 δ (At f)) (h2 : PEv (V.two kr kf (phi ns i)) X o2 δ (At r)) (he : PEz (V.two kr kf (phi ns i)) (V1.two kr kf (phi ns i)) X e δ (Drawn ((ns.length - i : Nat) : Int)))
    (b1 : attributeBase o1 "append" X.env (eval o1 X.env) = eval o1 X.env := by rfl) (b2 : attributeBase o2 "pop" X.env (eval o2 X.env) = eval o2 X.env := by rfl)
    (f1 : ((backTo cp (starEach [.Call (.Attribute o2 "pop" ap2) [e] [] cp2] X.env)).all (fun x => !x.1) && (backToKw cp (keywordEach [] X.env)).all (fun x => x.1.isSome) && decide ([Expr.Call (.Attribute o2 "pop" ap2) [e] [] cp2].length + ([] : List Keyword).length + (if ([] : List Keyword).isEmpty then 0 else 1) < 30)) = true := by rfl)
    (f2 : ((backTo cp2 (starEach [e] X.env)).all (fun x => !x.1) && (backToKw cp2 (keywordEach [] X.env)).all (fun x => x.1.isSome) && decide ([e].length + ([] : List Keyword).length + (if ([] : List Keyword).isEmpty then 0 else 1) < 30)) = true := by rfl)
    (l1 : (ap.endLine == cp.line) = true := by rfl) (l2 : (ap2.endLine == cp2.line) = true := by rfl)
    (s1 : starEach [.Call (.Attribute o2 "pop" ap2) [e] [] cp2] X.env = (false, eval (.Call (.Attribute o2 "pop" ap2) [e] [] cp2) X.env) :: starEach [] X.env := by rfl) (s2 : starEach [e] X.env = (false, eval e X.env) :: starEach [] X.env := by rfl)
    (p1 : (backTo cp (starEach [] X.env)).any (·.1) = false := by rfl) (p2 : (backTo cp2 (starEach [] X.env)).any (·.1) = false := by rfl) (hsw : swapsWith (.Call (.Attribute o1 "append" ap) [.Call (.Attribute o2 "pop" ap2) [e] [] cp2] [] cp) none pos.line X.env = pure false := by rfl) :
    PSn (V.two kr kf (phi ns i)) (V1.two kr kf (phi ns (i + 1))) X (.Expr (.Call (.Attribute o1 "append" ap) [.Call (.Attribute o2 "pop" ap2) [e] [] cp2] [] cp) pos) δ δ := by
  have hrf : r ≠ f := fun z => kf.2 z.symm
  refine PSn.of (ps_expr (pe_bm PySem.F.plainAttrs_list PySem.F.slot_list_append PySem.F.type_list_append mt_append peW (pa_cons (pe_bm PySem.F.plainAttrs_list PySem.F.slot_list_pop PySem.F.type_list_pop mt_popAt peW paW b2 f2 l2 s2 p2) pa_nil s1) b1 f1 l1 s1 p1) hsw) fun σ H E sl q => ?_
  refine h1.run σ H _ sl fun x H1 a1 g1 => ?_
  cases g1
  obtain ⟨_, rs1, fs1, _, _, e1⟩ := id a1.j
  refine ⟨.inl ⟨rfl, _, SqL.of e1⟩, ?_⟩
  refine h2.run σ H1 _ (sl.same a1) fun x H2 a2 g2 => ?_
  cases g2
  obtain ⟨_, rs2, fs2, _, e2, _⟩ := id a2.j
  refine ⟨.inl ⟨rfl, _, SqL.of e2⟩, ?_⟩
  refine (azcons he (azof anil) s2).run σ H2 _ ((sl.same a1).same a2) fun us H3 r3 j3 g3 => ?_
  cases g3 with
  | cons g3 t =>
    cases t
    obtain ⟨d, ⟨d0, d1⟩, g3⟩ := g3
    cases g3
    obtain ⟨j4, rs, fs, ⟨hp, hl⟩, e3, e4⟩ := j3
    have hlen := hp.length_eq
    rw [List.length_append] at hlen
    have hk : d.toNat < rs.length := by omega
    have hsi : seqIndex? d (rs.map L2.V.str).length = some d.toNat := by
      unfold seqIndex?
      rw [List.length_map]
      simp only [if_neg (show ¬ d < 0 by omega)]
      rw [if_pos (by simp; omega)]
    have hd63 : d < 2 ^ 63 := by omega
    refine ⟨r, rs.map L2.V.str, d, d.toNat, .str rs[d.toNat], rfl, rfl, e3, by omega, hd63, hsi, by rw [List.getElem?_map, List.getElem?_eq_getElem hk]; rfl, ?_⟩
    have e4' : upd H3 r (.lst ((rs.map L2.V.str).eraseIdx d.toNat)) f = some (.lst (fs.map L2.V.str)) := by
      rw [upd_ne (Ne.symm hrf)]
      exact e4
    refine ⟨f, fs.map L2.V.str, .str rs[d.toNat], rfl, rfl, e4', ?_, ?_⟩
    · rw [List.length_map]
      exact few' (by omega)
    · have jr : V1.J (upd H3 r (.lst ((rs.map L2.V.str).eraseIdx d.toNat))) := lst_loc kr j4 e3
      have jf : V1.J (upd (upd H3 r (.lst ((rs.map L2.V.str).eraseIdx d.toNat))) f (.lst (fs.map L2.V.str ++ [L2.V.str rs[d.toNat]]))) := lst_loc kf.1 jr e4'
      have rel : Rel (Kl.exl (Kl.exl ok r) f) H3 (upd (upd H3 r (.lst ((rs.map L2.V.str).eraseIdx d.toNat))) f (.lst (fs.map L2.V.str ++ [L2.V.str rs[d.toNat]]))) := fun a o ka e => by
        rw [upd_ne (fun z => ka.2 z), upd_ne (fun z => ka.1.2 z)]
        exact e
      have hperm : ((fs ++ [rs[d.toNat]]) ++ rs.eraseIdx d.toNat).Perm ns := by
        refine List.Perm.trans ?_ hp
        rw [List.append_assoc]
        refine List.Perm.append_left _ ?_
        exact erase_perm hk
      refine q σ _ (((a1.trans a2).rel.trans r3).trans rel) ((((sl.same a1).same a2).to (W' := V1.two kr kf (phi ns i)) r3 ⟨j4, rs, fs, ⟨hp, hl⟩, e3, e4⟩).to rel ⟨jf, rs.eraseIdx d.toNat, fs ++ [rs[d.toNat]], ⟨hperm, by rw [List.length_append, hl]; rfl⟩, ?_, ?_⟩)
      · rw [upd_ne hrf, upd_same, erase_map]
      · rw [upd_same, List.map_append]
        rfl
end
section
variable {P : Program} {w : World} {K : PySem.W.Frag} {mg : Str → Option Value} {base : Heap}
theorem sc_L_of : FnScope ["_law_urn", "_law_some"] ["_law_urn", "_law_some"] (defScope s_L_of) := ⟨rfl, rfl, rfl, by decide +kernel, rfl, by decide +kernel, by decide +kernel⟩
def A_of : Prm := fun ok W W' Ps T => ∃ (u : Addr) (U : Nat → Wd ok) (n : Nat) (ds : List PyData), Us u U ∧ n ≤ 900000 ∧ ds ≠ [] ∧ ds.length ≤ 1000 ∧ W = U n ∧ W' = U (n + 1) ∧ Ps = [At u, D (.list ds)] ∧ T = Ek (fun d => d ∈ ds) fun d => D d
theorem ok_L_of {k : Nat} {f : Addr} {fd : FuncData} (F : Fun K "_law_of" "_law_of" s_L_of f fd) (m : Mn mg) (d_take : Df P w K mg base k "_law_take" ["_law_urn", "_law_low"] (spt A_take)) : FnOk P w K mg base CX0 (k + 1) f fd ["_law_urn", "_law_some"] (spt A_of) :=
  okp F sc_L_of (fun _ _ _ _ _ h => by
    obtain ⟨u, U, n, ds, _, _, _, _, _, _, rfl, _⟩ := h
    rfl) fun cdv B outer s H E hr ok W W' Ps T' h => by
  obtain ⟨u, U, n, ds, us, hn, h0, h1, rfl, rfl, rfl, rfl⟩ := h
  have hp : 0 < ds.length := List.length_pos_iff.mpr h0
  exact bretz (zix (n := ds.length) (vv 1) (zcall d_take hr (azof (acons (vv 0) (acons (vlenL m.len (vv 1)) anil))) ⟨u, U, n, ds.length, us, by omega, by omega, by omega, rfl, rfl, rfl, rfl⟩) rfl)
theorem sc_L_pick : FnScope ["_law_urn", "_law_some", "_law_many", "_law_rest", "_law_found", "_law_lap"] ["_law_urn", "_law_some", "_law_many"] (defScope s_L_pick) := ⟨rfl, rfl, rfl, by decide +kernel, rfl, by decide +kernel, by decide +kernel⟩
/-- up to so many of these, each at most as often as it is there -/
structure Picked (ns : List Str) (lo hi : Int) (fs : List Str) : Prop where
  part : ∃ rest, (fs ++ rest).Perm ns
  low : min lo ns.length ≤ fs.length
  high : (fs.length : Int) ≤ hi
def A_pick : Prm := fun ok W W' Ps T => ∃ (u : Addr) (U : Nat → Wd ok) (n : Nat) (ns : List Str) (lo hi : Int), Us u U ∧ n ≤ 800000 ∧ ns.length ≤ 10 ∧ 0 ≤ lo ∧ W = U n ∧ W' = U (n + 10) ∧ Ps = [At u, D (.list (ns.map .str)), Btw lo hi] ∧ T = Ek (Picked ns lo hi) fun fs => D (.list (fs.map .str))
theorem ok_L_pick {k : Nat} {f : Addr} {fd : FuncData} (F : Fun K "_law_pick" "_law_pick" s_L_pick f fd) (m : Mn mg) (d_take : Df P w K mg base k "_law_take" ["_law_urn", "_law_low"] (spt A_take)) : FnOk P w K mg base CX0 (k + 1) f fd ["_law_urn", "_law_some", "_law_many"] (spt A_pick) :=
  okp F sc_L_pick (fun _ _ _ _ _ h => by
    obtain ⟨u, U, n, ns, lo, hi, _, _, _, _, _, _, rfl, _⟩ := h
    rfl) fun cdv B outer s H E hr ok W W' Ps T' h => by
  obtain ⟨u, U, n, ns, lo, hi, us, hn, hl, hlo, rfl, rfl, rfl, rfl⟩ := h
  have nd := sc_L_pick.nd
  refine bex 2 rfl fun many ⟨hm1, hm2⟩ => ?_
  have hmany : ∃ t : Nat, (t : Int) = (if (ns.length : Int) < many then (ns.length : Int) else many) ∧ t ≤ ns.length := by
    split
    · exact ⟨ns.length, rfl, Nat.le_refl _⟩
    · exact ⟨many.toNat, by omega, by omega⟩
  obtain ⟨t, ht, htl⟩ := hmany
  refine popen (δ := [some (kAt u), some (kD (.list (ns.map .str))), some (kD (.int many)), none, none, none]) (φ := phi ns 0) (ψ := phi ns t) (W' := U (n + 10)) 3 4 rfl nd m.list (vv 1) ⟨List.Perm.refl _, rfl⟩ (fun r f kr kf => ?_) (fun H f rs fs kf hψ e => ⟨fs, ⟨⟨rs, hψ.1⟩, by have := hψ.2; omega, by have := hψ.2; omega⟩, .lst kf e (RA.ofStrs fs)⟩) rfl rfl rfl
  have len_of : ∀ {i : Nat} (n' : Nat) H, ((U n').two kr kf (phi ns i)).J H → ∃ vs : List V, H r = some (.lst vs) ∧ vs.length = ns.length - i := fun n' H j => by
    obtain ⟨_, rs, fs, ⟨h1, h2⟩, e1, _⟩ := j
    refine ⟨_, e1, ?_⟩
    have := h1.length_eq
    rw [List.length_append] at this
    rw [List.length_map]
    omega
  refine bcons (W' := (U (n + t)).two kr kf (phi ns t)) (δ1 := inst (Kl.exl (Kl.exl ok r) f) [some (kAt u), some (kD (.list (ns.map .str))), some (kD (.int many)), some (kAt r), some (kAt f), none]) ?_ ((bret (vv 4)).to fun H j => ⟨us.mono (by omega) j.1, j.2⟩)
  refine sforE (Ts := (List.range t).map fun i => D (.int (i : Nat))) (fun i => (U (n + i)).two kr kf (phi ns i)) (fun _ => inst (Kl.exl (Kl.exl ok r) f) [some (kAt u), some (kD (.list (ns.map .str))), some (kD (.int many)), some (kAt r), some (kAt f), none]) .never rfl (iRng (n := t) m.range (PEv.cast (vmin2 rfl m.min (vv 2) (jlenN (len_of n) m.len (vv 3))) (by rw [ht]; rfl)) (by omega)) rfl rfl (fun i Ti hTi => ?_) (by rw [List.length_map, List.length_range]) rfl
  obtain ⟨hi', rfl⟩ := range_at hTi
  refine ⟨inst (Kl.exl (Kl.exl ok r) f) [some (kAt u), some (kD (.list (ns.map .str))), some (kD (.int many)), some (kAt r), some (kAt f), some (kD (.int (i : Nat)))], [5], inst (Kl.exl (Kl.exl ok r) f) [some (kAt u), some (kD (.list (ns.map .str))), some (kD (.int many)), some (kAt r), some (kAt f), some (kD (.int (i : Nat)))], [5], gname 5 nd, ncons ?_ nnil, rfl⟩
  exact spopapp (V := U (n + i)) (V1 := U (n + (i + 1))) (i := i) (by omega) (by omega) (vv 4) (vv 3) (zcall d_take hr (azof (acons (vv 0) (acons (jlenN (len_of (n + i)) m.len (vv 3)) anil))) ⟨u, fun m => (U m).two kr kf (phi ns i), n + i, ((ns.length - i : Nat) : Int), us_two us kr kf (phi ns i), by omega, by omega, by omega, rfl, rfl, rfl, rfl⟩)
end
end Kl
set_option linter.all false
set_option maxRecDepth 100000
set_option maxHeartbeats 4000000
/-! # Z4: comprehensions, loops and assignments with draws -/
namespace Kl
open PySem PySem.Spec PyProof.Rows L2
section
variable {ok : Addr → Prop} {W W1 W2 W' : Wd ok} {X : Cx} {δ : DEnv ok}
section
variable {α : Type} {elt tg iter : Expr} {scope : Scope} {own : List (Str × Nat)} {pos : Pos}
/-- a turn of a comprehension whose element draws -/
structure TurnZ (W W1 : Wd ok) (X : Cx) (scope : Scope) (ow : List Nat) (δ : DEnv ok) (elt tg : Expr) (T P : Ty ok) : Prop where
  ex : ∃ (δ' : DEnv ok) (ws : List Nat), (∀ i ∈ ws, i ∈ ow) ∧ (BlkAll X scope fun Y => PGv W Y tg (wipeE δ ow) T δ' ws) ∧ (BlkAll X scope fun Y => PEz W W1 Y elt δ' P)
  nol : Nol P
theorem turnz {ow ws : List Nat} {T P : Ty ok} {δ' : DEnv ok} (hg : BlkAll X scope fun Y => PGv W Y tg (wipeE δ ow) T δ' ws) (he : BlkAll X scope fun Y => PEz W W1 Y elt δ' P) (hn : Nol P) (how : ∀ i ∈ ws, i ∈ ow := by decide) : TurnZ W W1 X scope ow δ elt tg T P := ⟨⟨δ', ws, how, hg, he⟩, hn⟩
theorem vlcz_read {Ts Ps : List (Ty ok)} {ow : List Nat} (Wi : Nat → Wd ok) (hl : Ps.length = Ts.length) (hz : Ts.length ≤ 10000000) (hi : PIv (Wi 0) X tg iter δ Ts)
    (ht : ∀ (i : Nat) (T P : Ty ok), Ts[i]? = some T → Ps[i]? = some P → TurnZ (Wi i) (Wi (i + 1)) X scope ow δ elt tg T P) {σ : L2.St} {H : Hp} {Q : VK} (sl : Sl (Wi 0) H σ δ) (q : ∀ v H2, Rel ok H H2 → (Wi Ts.length).J H2 → (Ls Ps).p H2 v → Q v H2) :
    tLc (iW X tg iter) (gAll X scope tg) (qAll X scope []) (eAll X scope elt) ow σ H Q := by
  refine hi.run σ H _ sl fun J G H1 s1 g1 y => ?_
  intro L hL
  have kL : ok L := (Wi 0).fresh s1.j hL
  have nolAll : ∀ n, ∀ P ∈ Ps.take n, Nol P := fun n P hP => by
    obtain ⟨i, hi'⟩ := List.getElem?_of_mem (List.mem_of_mem_take hP)
    have hlt : i < Ts.length := by rw [← hl]; exact (List.getElem?_eq_some_iff.mp hi').1
    exact (ht i Ts[i] P (List.getElem?_eq_getElem hlt) hi').nol
  have l1 := le_upd (o := .lst []) s1.j hL
  refine ⟨fun i m H' => i + m = Ts.length ∧ Rel ok H1 H' ∧ (Wi i).J H' ∧ ∃ vs, H' L = some (.lst vs) ∧ TyA H' vs (Ps.take i), ⟨Ts.length, Nat.zero_add _, l1.rel, l1.j, [], upd_same, .nil⟩, ?_⟩
  rintro i m H' ⟨hm, r2, j2, vs, h2, t2⟩
  have gH : G H' := (y (Wi i)).up _ _ ⟨r2, j2⟩ g1
  by_cases hlt : i < Ts.length
  · refine .inr ⟨(y (Wi i)).go i H' hlt j2 gH, fun H3 => (i + 1) + (m - 1) = Ts.length ∧ Rel ok H1 H3 ∧ (Wi (i + 1)).J H3 ∧ ∃ vs, H3 L = some (.lst vs) ∧ TyA H3 vs (Ps.take (i + 1)), fun H3 h3 => ⟨m - 1, by omega, h3⟩, fun x H3 hy => ?_⟩
    have hT : Ts[i]? = some Ts[i] := List.getElem?_eq_getElem hlt
    have hlP : i < Ps.length := by rw [hl]; exact hlt
    obtain ⟨s3, p3⟩ := (y (Wi i)).yld i H' x H3 Ts[i] j2 gH hy hT
    have hP : Ps[i]? = some Ps[i] := List.getElem?_eq_getElem hlP
    generalize Ps[i] = P at hP
    have tr := ht i Ts[i] P hT hP
    obtain ⟨δ', ws, how, hg, he⟩ := tr.ex
    have ek : Ps.take (i + 1) = Ps.take i ++ [P] := by
      rw [List.take_add_one, hP]
      rfl
    have slw : Sl (Wi i) H3 (wipe σ ow) (wipeE δ ow) := ((sl.to (W' := Wi i) (s1.rel.trans r2) j2).same s3).wipe ow
    intro sb Hb C cl fp
    refine (hg sb Hb C cl fp).run x _ H3 _ slw p3 fun σ4 H4 s4 sl4 o4 => ?_
    refine ⟨(wipe_eq o4 how).trans wipe_wipe, fun sb Hb C cl fp => ?_⟩
    refine (qnil (W := Wi i) (δ := δ') (X := X.blk sb Hb scope (compEnvC scope cl C X.env) fp)).run σ4 H4 _ sl4 fun H5 s5 => ?_
    have s25 := (s3.trans s4).trans s5
    refine iteT fun sb Hb C cl fp => ?_
    refine (he sb Hb C cl fp).run σ4 H5 _ (sl4.same s5) fun v H6 r6 j6 p6 => ?_
    have r26 := s25.rel.trans r6
    have h6 := r26 _ _ kL h2
    refine ⟨vs, h6, ?_, ⟨by omega, fun c o z e => ?_, lst_loc kL j6 h6, _, upd_same, ?_⟩⟩
    · rw [t2.length, List.length_take]
      exact few' (by omega)
    · rw [upd_ne (ne_of_none e hL)]
      exact r26 _ _ z (r2 _ _ z e)
    · rw [ek]
      refine TyA.append (tya_nol h6 (nolAll i) (t2.same r26)) ?_
      exact .cons (tr.nol _ _ _ _ _ h6 p6) .nil
  · have e : i = Ts.length := by omega
    subst e
    refine .inl ⟨(y (Wi Ts.length)).stop H' j2 gH, q _ H' (s1.rel.trans r2) j2 ⟨L, vs, rfl, kL, h2, ?_⟩⟩
    rw [← hl, List.take_length] at t2
    exact t2
/-- [element for target in iter], the element draws one of these kinds -/
theorem vlcz (xs : List α) (tx px : α → Ty ok) (Wi : Nat → Wd ok) (hc : X.calm = true) (hN : X.N.Nodup) (bk : blkC X.N X.env.scope scope own = true) (hi : PIv (Wi 0) X tg iter δ (xs.map tx)) (hz : xs.length ≤ 10000000)
    (ht : ∀ i x, xs[i]? = some x → TurnZ (Wi i) (Wi (i + 1)) X scope (own.map (·.2)) δ elt tg (tx x) (px x)) (hs : ∀ x, foldedSetIterable iter X.env x = pure x := by intro _; rfl) : PEz (Wi 0) (Wi xs.length) X (.ListComp elt [⟨tg, iter, [], 0⟩] scope pos) δ (Ls (xs.map px)) :=
  PEz.of (pe_lc hc hN piW (blkOk_by bk) pgAll pqAll peAll hs) fun σ H Q sl q => vlcz_read (Ts := xs.map tx) (Ps := xs.map px) Wi (by rw [List.length_map, List.length_map]) (by rw [List.length_map]; exact hz) hi (fun i T P h1 h2 => by
    rw [List.getElem?_map] at h1 h2
    cases e : xs[i]? with
    | none =>
      rw [e] at h1
      cases h1
    | some x =>
      rw [e] at h1 h2
      cases h1
      cases h2
      exact ht i x e) sl (by rw [List.length_map]; exact q)
/-- the same, stored at once -/
theorem ssetLcZ (i : Nat) {y : Str} {py spos : Pos} (xs : List α) (tx px : α → Ty ok) (Wi : Nat → Wd ok) (hc : X.calm = true) (hN : X.N.Nodup) (hyl : X.env.scope.names.lookup y = some .local)
    (hsw : swapsWith (.ListComp elt [⟨tg, iter, [], 0⟩] scope pos) (some (.Name y py)) spos.line X.env = pure true) (bk : blkC X.N X.env.scope scope own = true) (hi : PIv (Wi 0) X tg iter δ (xs.map tx)) (hz : xs.length ≤ 10000000)
    (ht : ∀ i x, xs[i]? = some x → TurnZ (Wi i) (Wi (i + 1)) X scope (own.map (·.2)) δ elt tg (tx x) (px x)) (hy : X.N[i]? = some y := by rfl) (hs : ∀ x, foldedSetIterable iter X.env x = pure x := by intro _; rfl) :
    PSn (Wi 0) (Wi xs.length) X (.Assign [.Name y py] (.ListComp elt [⟨tg, iter, [], 0⟩] scope pos) spos) δ (δ.set i (some (Ls (xs.map px)))) :=
  PSn.of (ps_setLc hc hN hy hyl hsw piW (blkOk_by bk) pgAll pqAll peAll hs) fun σ H E sl q => vlcz_read (Ts := xs.map tx) (Ps := xs.map px) Wi (by rw [List.length_map, List.length_map]) (by rw [List.length_map]; exact hz) hi (fun i T P h1 h2 => by
    rw [List.getElem?_map] at h1 h2
    cases e : xs[i]? with
    | none =>
      rw [e] at h1
      cases h1
    | some x =>
      rw [e] at h1 h2
      cases h1
      cases h2
      exact ht i x e) sl fun v H2 r j p => q _ H2 r ((sl.to r (by rw [List.length_map] at j; exact j)).set i p)
end
theorem nol_ek {α : Type} {good : α → Prop} {T : α → Ty ok} (h : ∀ a, Nol (T a)) : Nol (Ek good T) := fun H a xs ys v e ⟨x, g, p⟩ => ⟨x, g, h x H a xs ys v e p⟩
/-- a list of drawn data, as data -/
theorem ls_ek {α β : Type} {good : β → Prop} {enc : β → PyData} {H : Hp} {v : V} {xs : List α} (h : (Ls (ok := ok) (xs.map fun _ => Ek good fun b => D (enc b))).p H v) : (Ek (ok := ok) (fun bs : List β => bs.length = xs.length ∧ ∀ b ∈ bs, good b) fun bs => D (.list (bs.map enc))).p H v := by
  obtain ⟨a, vs, rfl, ka, h1, t⟩ := h
  have key : ∀ (xs : List α) (vs : List V), TyA H vs (xs.map fun _ => Ek (ok := ok) good fun b => D (enc b)) → ∃ bs : List β, bs.length = xs.length ∧ (∀ b ∈ bs, good b) ∧ RA ok H vs (bs.map enc) := by
    intro xs
    induction xs with
    | nil =>
      intro vs t
      cases t
      exact ⟨[], rfl, fun b hb => (nomatch hb), .nil⟩
    | cons x xs ih =>
      intro vs t
      cases t with
      | cons p t =>
        obtain ⟨b, g, p⟩ := p
        obtain ⟨bs, e, hg, r⟩ := ih _ t
        exact ⟨b :: bs, by rw [List.length_cons, e, List.length_cons], fun c hc => by
          rcases List.mem_cons.mp hc with rfl | hc
          · exact g
          · exact hg c hc, .cons p r⟩
  obtain ⟨bs, e, hg, r⟩ := key xs vs t
  exact ⟨bs, ⟨e, hg⟩, .lst ka h1 r⟩
theorem ztuple {α : Type} {good : α → Prop} {f : α → List PyData} {a : Expr} {p pos : Pos} (hm : X.mg "tuple" = none) (ha : PEz W W1 X a δ (Ek good fun x => D (.list (f x)))) (hg : Gl X "tuple" := by rfl) (hs : starEach [a] X.env = (false, eval a X.env) :: starEach [] X.env := by rfl) : PEz W W1 X (.Call (.Name "tuple" p) [a] [] pos) δ (Ek good fun x => D (.tuple (f x))) :=
  PEz.of (pe_callTy call_tuple_of hg hm (by decide +kernel) paW (by decide) (by decide) hs rfl) fun σ H Q sl q => (azcons ha (azof anil) hs).run σ H _ sl fun vs H1 r1 j1 p1 => by
    cases p1 with
    | cons p t =>
      cases t
      obtain ⟨x, g, p⟩ := p
      cases p with
      | @lst b xs _ kb h1 r => exact ⟨b, xs, rfl, .inl ⟨SqL.of h1, fun l hl => q _ _ (r1.trans (Rel.of (same_upd hl))) (le_upd j1 hl).j ⟨x, g, .tup (W1.fresh j1 hl) (.inl upd_same) (r.same (Rel.of (same_upd hl)))⟩⟩⟩
theorem zsorted {α κ : Type} {enc : κ → PyData} {good : α → Prop} {f : α → List κ} {a : Expr} {p pos : Pos} (N : En enc) (hu : X.A.units + 64 < cLine) (hm : X.mg "sorted" = none) (ha : PEz W W1 X a δ (Ek good fun x => D (.list ((f x).map enc)))) (hg : Gl X "sorted" := by rfl) (hs : starEach [a] X.env = (false, eval a X.env) :: starEach [] X.env := by rfl) : PEz W W1 X (.Call (.Name "sorted" p) [a] [] pos) δ (Ek good fun x => D (.list ((srt enc (f x)).map enc))) :=
  PEz.of (pe_callB (cr_srt (W := W1) N hu) hg hm (by decide +kernel) paW (by decide) (by decide) hs rfl) fun σ H Q sl q => (azcons ha (azof anil) hs).run σ H _ sl fun vs H1 r1 j1 p1 => by
    cases p1 with
    | cons p t =>
      cases t
      obtain ⟨x, g, p⟩ := p
      exact ⟨_, f x, rfl, j1, p, fun v H2 l p2 => q v H2 (r1.trans l.rel) l.j ⟨x, g, p2⟩⟩
theorem ssetz (i : Nat) {x : Str} {e : Expr} {pos pos' : Pos} {P : Ty ok} (hN : X.N.Nodup) (he : PEz W W1 X e δ P) (hi : X.N[i]? = some x := by rfl) (hx : Loc X.env.scope x := by first | exact Or.inl rfl | exact Or.inr rfl) (hs : swapsWith e (some (.Name x pos')) pos.line X.env = pure false := by rfl)
    (hf : X.fn x = true ∨ X.env.scope.names.lookup x = some .local := by first | exact .inl rfl | exact .inr rfl) : PSn W W1 X (.Assign [.Name x pos'] e pos) δ (δ.set i (some P)) :=
  PSn.of (ps_set hN hi hx peW hs hf) fun σ H E sl q => he.run σ H _ sl fun v H1 r1 j1 p1 => q _ H1 r1 ((sl.to r1 j1).set i p1)
theorem nex (i : Nat) {α : Type} {good : α → Prop} {T : α → Ty ok} {sts : List Stmt} {δ' : DEnv ok} (hd : δ[i]? = some (some (Ek good T))) (h : ∀ a, good a → PNv W W' X sts (δ.set i (some (T a))) δ') : PNv W W' X sts δ δ' :=
  ⟨fun σ H E sl q => by
    obtain ⟨v, hv, a, g, p⟩ := sl.at_ i _ hd
    have e : σ.set i (some v) = σ := by
      refine List.ext_getElem? fun j => ?_
      by_cases hj : i = j
      · subst hj
        rw [List.getElem?_set_self (List.getElem?_eq_some_iff.mp hv).1, hv]
      · rw [List.getElem?_set_ne hj]
    have z := sl.set i p
    rw [e] at z
    exact (h a g).run σ H E z q⟩
theorem PNv.to {sts : List Stmt} {δ' : DEnv ok} (h : PNv W W1 X sts δ δ') (k : ∀ H, W1.J H → W2.J H) : PNv W W2 X sts δ δ' := ⟨fun σ H E sl q => h.run σ H E sl fun σ' H2 l sl2 => q σ' H2 l (sl2.to (Rel.refl H2) (k H2 sl2.j))⟩
/-- a test whose outcome is known, branches that draw -/
theorem zifv {c a b : Expr} {pos : Pos} {x : Bool} {P : Ty ok} (hc : PTv W X c δ x) (ha : x = true → PEz W W1 X a δ P) (hb : x = false → PEz W W1 X b δ P) : PEz W W1 X (.IfExp c a b pos) δ P :=
  PEz.of (pe_ifExp ptW peW peW) fun σ H Q sl q => hc.run σ H _ sl fun H1 s => by
    cases x with
    | true => exact iteT ((ha rfl).run σ H1 Q (sl.same s) fun v H2 r j p => q v H2 (s.rel.trans r) j p)
    | false => exact iteF ((hb rfl).run σ H1 Q (sl.same s) fun v H2 r j p => q v H2 (s.rel.trans r) j p)
/-- what is walked is drawn -/
structure PIz (W W1 : Wd ok) (X : Cx) (tg iter : Expr) (δ : DEnv ok) {α : Type} (good : α → Prop) (Ts : α → List (Ty ok)) : Prop where
  run : ∀ (σ : L2.St) (H : Hp) (R : It → Hp → Prop), Sl W H σ δ → (∀ a J G H1, good a → Rel ok H H1 → W1.J H1 → G H1 → (∀ W' : Wd ok, Yv W' J G (Ts a)) → R J H1) → iW X tg iter σ H R
theorem izL {α β : Type} {good : α → Prop} {f : α → List β} {enc : β → PyData} {tg e : Expr} (h : PEz W W1 X e δ (Ek good fun x => D (.list ((f x).map enc)))) : PIz W W1 X tg e δ good fun x => (f x).map fun b => D (enc b) :=
  ⟨fun σ H R sl q pins s I => (pi_list peW).run pins s σ H R I (h.run σ H _ sl fun v H1 r1 j1 p1 => by
    obtain ⟨x, g, p⟩ := p1
    cases p with
    | @lst a xs _ ka h1 r =>
      have t := RA.tya r
      rw [List.map_map] at t
      exact ⟨a, rfl, ⟨xs, SqL.of h1⟩, q x (Itl X.K a) (fun H => Rel ok H1 H ∧ H a = some (.lst xs)) H1 g r1 j1 ⟨Rel.refl _, h1⟩ fun W'' => yv_lst ka t⟩)⟩
theorem sforZ {α : Type} {good : α → Prop} {Ts : α → List (Ty ok)} {tg iter : Expr} {body : List Stmt} {pos : Pos} (Wi : Nat → Wd ok) (hp : PassesOwn (model X.prog X.w) X.A X.env X.xe) (hc : X.calm = true) (hi : PIz W (Wi 0) X tg iter δ good Ts)
    (turn : ∀ a, good a → ∀ i T, (Ts a)[i]? = some T → ∃ (δt : DEnv ok) (ws : List Nat) (δe : DEnv ok) (vs : List Nat), PGv (Wi i) X tg δ T δt ws ∧ PNv (Wi i) (Wi (i + 1)) X body δt δe ∧ wipeE δe vs = δ) (hend : ∀ a, good a → ∀ H, (Wi (Ts a).length).J H → W2.J H) (hs : ∀ x, foldedSetIterable iter X.env x = pure x := by intro _; rfl) :
    PSn W W2 X (.For tg iter body [] pos) δ δ :=
  PSn.of (ps_for hp hc piW pgW pbW hs) fun σ H E sl q => by
    refine hi.run σ H _ sl fun a J G H1 ga r1 j1 g1 y => ?_
    refine ⟨fun i m σ' H' => i + m = (Ts a).length ∧ Rel ok H1 H' ∧ Sl (Wi i) H' σ' δ, ⟨(Ts a).length, Nat.zero_add _, Rel.refl _, sl.to r1 j1⟩, ?_⟩
    rintro i m σ' H' ⟨hm, s2, sl2⟩
    have gH : G H' := (y (Wi i)).up _ _ ⟨s2, sl2.j⟩ g1
    by_cases hlt : i < (Ts a).length
    · have hT : (Ts a)[i]? = some (Ts a)[i] := List.getElem?_eq_getElem hlt
      refine .inr ⟨(y (Wi i)).go i H' hlt sl2.j gH, fun σ3 H3 => (i + 1) + (m - 1) = (Ts a).length ∧ Rel ok H1 H3 ∧ Sl (Wi (i + 1)) H3 σ3 δ, fun σ3 H3 h3 => ⟨m - 1, by omega, h3⟩, fun x H3 hy => ?_⟩
      obtain ⟨s3, p3⟩ := (y (Wi i)).yld i H' x H3 (Ts a)[i] sl2.j gH hy hT
      obtain ⟨δt, ws, δe, vs, hg, hb, e⟩ := turn a ga i (Ts a)[i] hT
      refine hg.run x σ' H3 _ (sl2.same s3) p3 fun σ4 H4 s4 sl4 _ => ?_
      refine hb.run σ4 H4 _ sl4 fun σ5 H5 s5 sl5 => ⟨by omega, ((s2.trans s3.rel).trans s4.rel).trans s5, ?_⟩
      rw [← e]
      exact sl5.forget vs
    · have e : i = (Ts a).length := by omega
      subst e
      exact .inl ⟨(y (Wi (Ts a).length)).stop H' sl2.j gH, q σ' H' (r1.trans s2) (sl2.to (Rel.refl H') (hend a ga H' sl2.j))⟩
end
section
variable {P : Program} {w : World} {K : PySem.W.Frag} {mg : Str → Option Value} {base : Heap}
theorem sc_L_lot : FnScope ["_law_urn", "_law_hub", "_law_own"] ["_law_urn", "_law_hub"] (defScope s_L_lot) := ⟨rfl, rfl, rfl, by decide +kernel, rfl, by decide +kernel, by decide +kernel⟩
def AnyI {ok : Addr → Prop} : Ty ok := Ek (fun _ : Int => True) fun x => D (.int x)
theorem any_of {ok : Addr → Prop} {W W1 : Wd ok} {X : Cx} {δ : DEnv ok} {e : Expr} {xs : List Int} (h : PEz W W1 X e δ (Ek (fun d => d ∈ xs.map PyData.int) fun d => D d)) : PEz W W1 X e δ AnyI := h.sub fun H v ⟨d, hd, p⟩ => by
  obtain ⟨x, _, rfl⟩ := List.mem_map.mp hd
  exact ⟨x, trivial, p⟩
def A_lot : Prm := fun ok W W' Ps T => ∃ (u : Addr) (U : Nat → Wd ok) (n : Nat) (N : Net), Us u U ∧ n ≤ 800000 ∧ N.custs.length ≤ 4 ∧ N.yards ≠ [] ∧ W = U n ∧ W' = U (n + 4) ∧ Ps = [At u, Hub N] ∧ T = Ek (fun lot : List Int => lot.length ≤ 4) fun lot => D (ii lot)
theorem ok_L_lot_draw {k : Nat} {f : Addr} {fd : FuncData} (F : Fun K "_law_lot" "_law_lot" s_L_lot f fd) (m : Mn mg) (d_of : Df P w K mg base k "_law_of" ["_law_urn", "_law_some"] (spt A_of)) : FnOk P w K mg base CX0 (k + 1) f fd ["_law_urn", "_law_hub"] (spt A_lot) :=
  okp F sc_L_lot (fun _ _ _ _ _ h => by
    obtain ⟨u, U, n, N, _, _, _, _, _, _, rfl, _⟩ := h
    rfl) fun cdv B outer s H E hr ok W W' Ps T' h => by
  obtain ⟨u, U, n, N, us, hn, hl, hne, rfl, rfl, rfl, rfl⟩ := h
  have nd := sc_L_lot.nd
  refine bretz (PEz.sub (PEz.to (ztuple m.tuple (PEz.sub (vlcz (own := [("_law_own", 2)]) N.custs (fun c => D (encC c)) (fun _ => AnyI) (fun i => U (n + i)) rfl nd (by kernel_rfl) (iTm (vixT (ds := [.tuple (N.yards.map encY), .tuple (N.lines.map encLn), .tuple (N.custs.map encC)]) (PEv.sub (vv 1) fun H v h => Hub.d hne h) vint (at0 2))) (by omega) fun i c hc => turnz (fun _ _ _ _ _ => gname 2 nd) (fun _ _ _ _ _ => any_of (xs := [0, 1, 1, 1, 2, 3]) (zcall d_of hr (azof (acons (vv 0) (acons (vlst (dcons vint (dcons vint (dcons vint (dcons vint (dcons vint (dcons vint dnil)))))) (few (by show 6 ≤ 10000000; decide))) anil))) ⟨u, U, n + i, [0, 1, 1, 1, 2, 3].map PyData.int, us, by have := (List.getElem?_eq_some_iff.mp hc).1; omega, by decide, by decide, rfl, rfl, rfl, rfl⟩)) (nol_ek fun _ => nol_imm rfl)) fun H v p => ls_ek p)) fun H j => us.mono (by omega) j) fun H v ⟨lot, ⟨g, _⟩, p⟩ => ⟨lot, by omega, p⟩)
end
end Kl
set_option linter.all false
set_option maxRecDepth 100000
set_option maxHeartbeats 4000000
/-! # Z5: a list that grows by what is drawn -/
namespace Kl
open PySem PySem.Spec PyProof.Rows L2
section
variable {ok : Addr → Prop} {W W1 W2 W3 : Wd ok} {X : Cx} {δ : DEnv ok} {p : Addr}
/-- the world in which the list at p has some such items -/
def Wd.extE (W : Wd ok) (kp : ok p) {α : Type} (enc : α → PyData) (him : ∀ x, imm (enc x) = true) (φ : List α → Prop) : Wd (Kl.exl ok p) where
  J := fun H => ∃ xs, φ xs ∧ (W.ext kp (xs.map enc) (immAll_map him xs)).J H
  loc := fun {H H'} ⟨xs, h, j⟩ h1 h2 => ⟨xs, h, (W.ext kp (xs.map enc) (immAll_map him xs)).loc j h1 h2⟩
  fresh := fun {H q} ⟨xs, h, j⟩ e => (W.ext kp (xs.map enc) (immAll_map him xs)).fresh j e
  tup := fun {H q ys} ⟨xs, h, j⟩ e => (W.ext kp (xs.map enc) (immAll_map him xs)).tup j e
theorem us_ext {u : Addr} {U : Nat → Wd ok} (us : Us u U) (kp : ok p) {ds : List PyData} (hd : immAll ds = true) : Us u fun n => (U n).ext kp ds hd where
  no := fun z => us.no z.1
  get := fun j => us.get j.1
  set := fun {n m H a b c} ⟨j, vs, h, r⟩ k => by
    refine ⟨us.set j k, vs, by rw [upd_ne (fun z => us.no (by rw [← z]; exact kp))]; exact h, r.same fun x o kx e => ?_⟩
    rw [upd_ne (fun z => us.no (by rw [← z]; exact kx.1))]
    exact e
theorem us_extE {u : Addr} {U : Nat → Wd ok} (us : Us u U) (kp : ok p) {α : Type} {enc : α → PyData} (him : ∀ x, imm (enc x) = true) (φ : List α → Prop) : Us u fun n => (U n).extE kp enc him φ where
  no := fun z => us.no z.1
  get := fun ⟨xs, h, j⟩ => us.get j.1
  set := fun {n m H a b c} ⟨xs, h, j⟩ k => ⟨xs, h, (us_ext us kp (immAll_map him xs)).set j k⟩
theorem bexE {α : Type} {kp : ok p} {enc : α → PyData} {him : ∀ x, imm (enc x) = true} {φ : List α → Prop} {δ : DEnv (Kl.exl ok p)} {sts : List Stmt} {W' : Wd (Kl.exl ok p)} {P : Ty (Kl.exl ok p)} (h : ∀ xs, φ xs → PBv (W.ext kp (xs.map enc) (immAll_map him xs)) W' X sts δ P) : PBv (W.extE kp enc him φ) W' X sts δ P :=
  ⟨fun σ H E sl q => by
    obtain ⟨xs, hx, j⟩ := sl.j
    exact (h xs hx).run σ H E (sl.to (Rel.refl H) j) q⟩
/-- o.append(e), e drawn -/
theorem sappE {V V1 : Wd ok} {α : Type} {kp : ok p} {enc : α → PyData} {him : ∀ x, imm (enc x) = true} {φ φ' : List α → Prop} {good : α → Prop} {δ : DEnv (Kl.exl ok p)} {o e : Expr} {apos cpos pos : Pos} (ho : PEv (V.extE kp enc him φ) X o δ (At p)) (he : PEz (V.extE kp enc him φ) (V1.extE kp enc him φ) X e δ (Ek good fun x => D (enc x))) (hz : ∀ xs, φ xs → xs.length ≤ 1000000) (hφ : ∀ xs x, φ xs → good x → φ' (xs ++ [x]))
    (hbase : attributeBase o "append" X.env (eval o X.env) = eval o X.env := by rfl)
    (hfew : ((backTo cpos (starEach [e] X.env)).all (fun x => !x.1) && (backToKw cpos (keywordEach [] X.env)).all (fun x => x.1.isSome) && decide ([e].length + ([] : List Keyword).length + (if ([] : List Keyword).isEmpty then 0 else 1) < 30)) = true := by rfl)
    (hline : (apos.endLine == cpos.line) = true := by rfl) (hs : starEach [e] X.env = (false, eval e X.env) :: starEach [] X.env := by rfl) (hplain : (backTo cpos (starEach [] X.env)).any (·.1) = false := by rfl) (hsw : swapsWith (.Call (.Attribute o "append" apos) [e] [] cpos) none pos.line X.env = pure false := by rfl) :
    PSn (V.extE kp enc him φ) (V1.extE kp enc him φ') X (.Expr (.Call (.Attribute o "append" apos) [e] [] cpos) pos) δ δ :=
  PSn.of (ps_expr (pe_bm PySem.F.plainAttrs_list PySem.F.slot_list_append PySem.F.type_list_append mt_append peW paW hbase hfew hline hs hplain) hsw) fun σ H E sl q => ho.run σ H _ sl fun x H1 s1 p1 => by
    cases p1
    obtain ⟨xs1, _, j1⟩ := id s1.j
    obtain ⟨vs1, h1, _⟩ := j1.2
    refine ⟨.inl ⟨rfl, _, SqL.of h1⟩, (azcons he (azof anil) hs).run σ H1 _ (sl.same s1) fun us H2 r2 j2 p2 => ?_⟩
    cases p2 with
    | @cons y _ _ _ p2 t =>
      cases t
      obtain ⟨x, gx, p2⟩ := p2
      obtain ⟨xs, hx, j2⟩ := j2
      obtain ⟨vs, h2, r⟩ := id j2.2
      have G := ext_grow (W := V1) (kp := kp) (hd := immAll_map him xs) (d := enc x) (immAll_append (immAll_map him xs) (by rw [immAll, him]; rfl))
      have rel2 : Rel (Kl.exl ok p) H2 (upd H2 p (.lst (vs ++ [y]))) := fun a o ka e => by
        rw [upd_ne (fun z => ka.2 z)]
        exact e
      have j3 := G.set (v := y) j2 h2 r p2
      have hl : vs.length = xs.length := by rw [r.length, List.length_map]
      refine ⟨p, vs, y, rfl, rfl, h2, by rw [hl]; exact few' (by have := hz xs hx; omega), q _ _ ((s1.rel.trans r2).trans rel2) ((sl.same s1).to (r2.trans rel2) ⟨xs ++ [x], hφ xs x hx gx, ?_⟩)⟩
      rw [ext_congr (W := V1) (kp := kp) (he := immAll_append (immAll_map him xs) (by rw [immAll, him]; rfl)) (show (xs ++ [x]).map enc = xs.map enc ++ [enc x] from by rw [List.map_append]; rfl)]
      exact j3
/-- x, y, z = e1, [], e3 -/
theorem npar3 (i j l : Nat) {δ : List (Option PK)} {α β : Type} {g1 : α → Prop} {g3 : β → Prop} {f1 : α → PyData} {f3 : β → PyData} {x y z : Str} {e1 e3 : Expr} {px py pz pt lp pos : Pos} {kt k2 : Nat} {pt2 : Pos} {tail : List Stmt} {P : Ty ok} (hc : X.calm = true) (hN : X.N.Nodup)
    (h1 : PEz W W1 X e1 (inst ok δ) (Ek g1 fun a => D (f1 a))) (h3 : PEz W1 W2 X e3 (inst ok δ) (Ek g3 fun b => D (f3 b))) (him : ∀ b, imm (f3 b) = true)
    (hrest : ∀ (a : α) (b : β) (p : Addr) (kp : ok p), g1 a → g3 b → ∃ (W' : Wd (Kl.exl ok p)) (P' : Ty (Kl.exl ok p)), (∀ H, W'.J H → W3.J H) ∧ (∀ H v, P'.p H v → P.p H v) ∧ PBv (W2.ext kp [] rfl) W' X tail ((((inst (Kl.exl ok p) δ).set i (some (D (f1 a)))).set j (some (At p))).set l (some (D (f3 b)))) P')
    (hi : X.N[i]? = some x := by rfl) (hj : X.N[j]? = some y := by rfl) (hl : X.N[l]? = some z := by rfl)
    (hx : Loc X.env.scope x := by first | exact Or.inl rfl | exact Or.inr rfl) (hy : Loc X.env.scope y := by first | exact Or.inl rfl | exact Or.inr rfl) (hz : Loc X.env.scope z := by first | exact Or.inl rfl | exact Or.inr rfl)
    (fx : X.fn x = true ∨ X.env.scope.names.lookup x = some .local := by first | exact .inl rfl | exact .inr rfl) (fy : X.fn y = true ∨ X.env.scope.names.lookup y = some .local := by first | exact .inl rfl | exact .inr rfl) (fz : X.fn z = true ∨ X.env.scope.names.lookup z = some .local := by first | exact .inl rfl | exact .inr rfl)
    (hs : swapsWithSole [.Tuple [.Name x px, .Name y py, .Name z pz] kt pt] (.Tuple [e1, .List [] lp, e3] k2 pt2) pos.line X.env = pure false := by rfl) (hw : swappedStores [.Tuple [.Name x px, .Name y py, .Name z pz] kt pt] (.Tuple [e1, .List [] lp, e3] k2 pt2) X.env = pure none := by rfl)
    (ha : (assignEach [.Tuple [.Name x px, .Name y py, .Name z pz] kt pt] X.env).map (·.2) = [assign (.Tuple [.Name x px, .Name y py, .Name z pz] kt pt) X.env] := by rfl)
    (hn : (assignEach [.Name x px, .Name y py, .Name z pz] X.env).length = 3 := by rfl) (hst : (assignEach [.Name x px, .Name y py, .Name z pz] X.env).findIdx? (·.1) = none := by rfl)
    (g1' : (assignEach [.Name x px, .Name y py, .Name z pz] X.env).map (·.2) = assign (.Name x px) X.env :: (assignEach [.Name y py, .Name z pz] X.env).map (·.2) := by rfl) (g2' : (assignEach [.Name y py, .Name z pz] X.env).map (·.2) = assign (.Name y py) X.env :: (assignEach [.Name z pz] X.env).map (·.2) := by rfl) (g3' : (assignEach [.Name z pz] X.env).map (·.2) = assign (.Name z pz) X.env :: (assignEach [] X.env).map (·.2) := by rfl)
    (s1 : starEach [e1, .List [] lp, e3] X.env = (false, eval e1 X.env) :: starEach [.List [] lp, e3] X.env := by rfl) (s2 : starEach [.List [] lp, e3] X.env = (false, eval (.List [] lp) X.env) :: starEach [e3] X.env := by rfl) (s3 : starEach [e3] X.env = (false, eval e3 X.env) :: starEach [] X.env := by rfl) :
    PBv W W3 X (.Assign [.Tuple [.Name x px, .Name y py, .Name z pz] kt pt] (.Tuple [e1, .List [] lp, e3] k2 pt2) pos :: tail) (inst ok δ) P :=
  PBv.of (pss_cons (ps_asg (pe_tup (pa_cons peW (pa_cons (pe_lst pa_nil) (pa_cons peW pa_nil s3) s2) s1)) (pg_tup hc (pgs_cons (pg_name hN hi hx fx) (pgs_cons (pg_name hN hj hy fy) (pgs_cons (pg_name hN hl hz fz) pgs_nil g3') g2') g1') hn hst) hs hw ha) pbW) fun σ H E sl q => h1.run σ H _ sl fun v1 H1 r1 j1 p1 => by
    obtain ⟨a, ga, p1⟩ := p1
    refine ⟨Nat.zero_le _, fun p hp => ?_⟩
    have kp : ok p := W1.fresh j1 hp
    have l2 := le_upd (o := .lst []) j1 hp
    refine h3.run σ _ _ (sl.to (r1.trans l2.rel) l2.j) fun v3 H3 r3 j3 p3 => ?_
    obtain ⟨b, gb, p3⟩ := p3
    refine ⟨few (by show 3 ≤ 10000000; decide), fun T hT => ?_⟩
    have l4 := le_upd (o := .tup [v1, .ref p, v3]) j3 hT
    have e3 : H3 p = some (.lst []) := r3 _ _ kp upd_same
    have e4 : upd H3 T (.tup [v1, .ref p, v3]) p = some (.lst []) := l4.rel _ _ kp e3
    have pn : H p = none := bkNone kp r1 hp
    obtain ⟨W', P', w1, w2, w3⟩ := hrest a b p kp ga gb
    have rel : Rel (Kl.exl ok p) H (upd H3 T (.tup [v1, .ref p, v3])) := fun c o kc e => l4.rel _ _ kc.1 (r3 _ _ kc.1 (l2.rel _ _ kc.1 (r1 _ _ kc.1 e)))
    have jx : (W2.ext kp [] rfl).J (upd H3 T (.tup [v1, .ref p, v3])) := ⟨l4.j, [], e4, .nil⟩
    have q1 : R (Kl.exl ok p) (upd H3 T (.tup [v1, .ref p, v3])) v1 (f1 a) := by
      have z1 : R (Kl.exl ok p) H1 v1 (f1 a) := R.exl hp p1
      refine z1.same fun c o kc e => ?_
      exact l4.rel _ _ kc.1 (r3 _ _ kc.1 (by rw [upd_ne kc.2]; exact e))
    have q3 : R (Kl.exl ok p) (upd H3 T (.tup [v1, .ref p, v3])) v3 (f3 b) := R.immx e4 (him b) (R.same l4.rel p3)
    refine ⟨T, [v1, .ref p, v3], rfl, .inl (.inl upd_same), rfl, ⟨v1, _, rfl, ⟨.ref p, _, rfl, ⟨v3, _, rfl, rfl, ?_⟩⟩⟩⟩
    refine w3.run _ _ _ ((((sl.opened pn rel jx).set i (P := D (f1 a)) q1).set j (P := At p) rfl).set l (P := D (f3 b)) q3) fun v H4 r4 j4 p4 => q v H4 (fun c o kc e => ?_) (w1 H4 j4) (w2 H4 v p4)
    have ne : c ≠ p := ne_of_none e pn
    exact r4 c o ⟨kc, ne⟩ (rel c o ⟨kc, ne⟩ e)
end
end Kl
set_option linter.all false
set_option maxRecDepth 100000
set_option maxHeartbeats 4000000
/-! # Z6: net -/
namespace Kl
open PySem PySem.Spec PyProof.Rows L2
section
variable {ok : Addr → Prop} {W W1 W2 W3 : Wd ok} {X : Cx} {δ : DEnv ok}
theorem zmul01z {a b : Expr} {pos : Pos} {h1 : Int} (ha : PEz W W1 X a δ (Btw 0 h1)) (hh : h1 < 1000) (hb : PEz W1 W2 X b δ (Btw 0 1)) : PEz W W2 X (.BinOp a .Mult b pos) δ (Btw 0 h1) :=
  PEz.of (pe_op op_mul peW peW) fun σ H Q sl q => ha.run σ H _ sl fun x H1 r1 j1 p1 => hb.run σ H1 _ (sl.to r1 j1) fun y H2 r2 j2 p2 => by
    obtain ⟨x, g1, p1⟩ := p1
    obtain ⟨y, g2, p2⟩ := p2
    cases p1
    cases p2
    have hy : y = 0 ∨ y = 1 := by omega
    refine ⟨_, _, rfl, rfl, .inl ⟨by omega, by omega⟩, q _ H2 (r1.trans r2) j2 ⟨x * y, ?_, .int _⟩⟩
    rcases hy with rfl | rfl
    · simp; omega
    · simp; omega
theorem R.new {H : Hp} {l : Addr} {o : HO} {v : V} {d : PyData} (h : H l = none) (r : R ok H v d) : R ok (upd H l o) v d := r.same (Rel.of (same_upd h))
/-- [x, e], e drawn -/
theorem zlst2 {a b : Expr} {pos : Pos} {α : Type} {good : α → Prop} {x : PyData} {f : α → PyData} (ha : PEv W X a δ (D x)) (hb : PEz W W1 X b δ (Ek good fun y => D (f y))) (hs : starEach [a, b] X.env = (false, eval a X.env) :: starEach [b] X.env := by rfl) (hs2 : starEach [b] X.env = (false, eval b X.env) :: starEach [] X.env := by rfl) :
    PEz W W1 X (.List [a, b] pos) δ (Ek good fun y => D (.list [x, f y])) :=
  PEz.of (pe_lst paW) fun σ H Q sl q => (azcons ha.z (azcons hb (azof anil) hs2) hs).run σ H _ sl fun vs H1 r1 j1 p1 => by
    cases p1 with
    | cons p t =>
      cases t with
      | cons p' t =>
        cases t
        obtain ⟨y, g, p'⟩ := p'
        refine ⟨few (by show 2 ≤ 10000000; decide), fun l hl => ?_⟩
        exact q _ _ (r1.trans (Rel.of (same_upd hl))) (le_upd j1 hl).j ⟨y, g, .lst (W1.fresh j1 hl) upd_same (.cons (R.new hl p) (.cons (R.new hl p') .nil))⟩
/-- (tag, start, goal, most, key), the last two drawn -/
theorem ztupLn {es : List Expr} {x1 : Nat} {pos : Pos} {t s g : Str} {ms : List Int} {ks : List Str} (h : PAz W W1 X es δ [D (.str t), D (.str s), D (.str g), Ek (fun d => d ∈ ms.map PyData.int) fun d => D d, Ek (fun d => d ∈ ks.map PyData.str) fun d => D d]) :
    PEz W W1 X (.Tuple es x1 pos) δ (Ek (fun l : Line => l.tag = t ∧ l.start = s ∧ l.goal = g ∧ l.most ∈ ms ∧ l.key ∈ ks) fun l => D (encLn l)) :=
  PEz.of (pe_tup paW) fun σ H Q sl q => h.run σ H _ sl fun vs H1 r1 j1 p1 => by
    cases p1 with
    | cons p1 t1 =>
      cases t1 with
      | cons p2 t2 =>
        cases t2 with
        | cons p3 t3 =>
          cases t3 with
          | cons p4 t4 =>
            cases t4 with
            | cons p5 t5 =>
              cases t5
              obtain ⟨d4, h4, p4⟩ := p4
              obtain ⟨d5, h5, p5⟩ := p5
              obtain ⟨m, hm, rfl⟩ := List.mem_map.mp h4
              obtain ⟨k, hk, rfl⟩ := List.mem_map.mp h5
              refine ⟨few (by show 5 ≤ 10000000; decide), fun l hl => ?_⟩
              exact q _ _ (r1.trans (Rel.of (same_upd hl))) (le_upd j1 hl).j ⟨⟨t, s, g, m, k⟩, ⟨rfl, rfl, rfl, hm, hk⟩, .tup (W1.fresh j1 hl) (.inl upd_same) (.cons (R.new hl p1) (.cons (R.new hl p2) (.cons (R.new hl p3) (.cons (R.new hl p4) (.cons (R.new hl p5) .nil)))))⟩
theorem tz_eq {a b : Expr} {pos : Pos} {low y : Int} (hu : X.A.units + 64 < cLine) (ha : PEz W W1 X a δ (Drawn low)) (hb : PEv W1 X b δ (D (.int y))) (hm : behindInMarks .Eq b = false := by first | exact nomark _ | rfl) : PTz W W1 X (.Compare a [.Eq] [b] pos) δ := by
  refine ⟨fun σ H Q sl q pins s I => (pt_cmpR (op_eqP hu) peW peW hm).run pins s σ H Q I (ha.run σ H _ sl fun x H1 r1 j1 p1 => hb.run σ H1 _ (sl.to r1 j1) fun v H2 s2 p2 => ?_)⟩
  obtain ⟨i, _, p1⟩ := p1
  cases p1
  cases p2
  exact ⟨ok, .int i, .int y, .int i, .int y, rfl, rfl, by simp [PyData.depth], _, rfl, q _ H2 (r1.trans s2.rel) s2.j⟩
/-- the kind of a slot is told in other words -/
theorem bexk (i : Nat) {α : Type} {good : α → Prop} {T : α → Ty ok} {P0 : Ty ok} {sts : List Stmt} {P : Ty ok} {W' : Wd ok} (hd : δ[i]? = some (some P0)) (hk : ∀ H v, P0.p H v → ∃ a, good a ∧ (T a).p H v) (h : ∀ a, good a → PBv W W' X sts (δ.set i (some (T a))) P) : PBv W W' X sts δ P :=
  ⟨fun σ H E sl q => by
    obtain ⟨v, hv, p0⟩ := sl.at_ i _ hd
    obtain ⟨a, g, p⟩ := hk H v p0
    have e : σ.set i (some v) = σ := by
      refine List.ext_getElem? fun j => ?_
      by_cases hj : i = j
      · subst hj
        rw [List.getElem?_set_self (List.getElem?_eq_some_iff.mp hv).1, hv]
      · rw [List.getElem?_set_ne hj]
    have z := sl.set i p
    rw [e] at z
    exact (h a g).run σ H E z q⟩
/-- a call whose second argument is one of some kinds -/
theorem zcall2 {x : Str} {k : Nat} {ps : List Str} {A : Prm} {e e2 : Expr} {p pos : Pos} {P1 P : Ty ok} {α : Type} {good : α → Prop} {T : α → Ty ok} (F : Df X.prog X.w X.K X.mg X.base k x ps (spt A)) (hr : Room k X.A) (h1 : PEv W X e δ P1) (h2 : PEz W W1 X e2 δ (Ek good T)) (h : ∀ a, good a → ∃ P', A ok W1 W2 [P1, T a] P' ∧ ∀ H v, P'.p H v → P.p H v)
    (hg : Gl X x := by rfl) (hdb : (x == ("__debug__" : Str)) = false := by decide) (he : starEach [e, e2] X.env = (false, eval e X.env) :: starEach [e2] X.env := by rfl) (he2 : starEach [e2] X.env = (false, eval e2 X.env) :: starEach [] X.env := by rfl) (hpl : (backTo pos (starEach [e2] X.env)).any (·.1) = false := by rfl) :
    PEz W W2 X (.Call (.Name x p) [e, e2] [] pos) δ P := by
  obtain ⟨f, fd, hm, hk, hb, F⟩ := F.ex
  refine PEz.of (pe_call F hr hg hm hk hb .nil pass0 paW hdb he hpl) fun σ H Q sl q => (azcons h1.z (azcons h2 (azof anil) he2) he).run σ H _ sl fun vs H1 r1 j1 p1 => ?_
  rw [List.append_nil]
  cases p1 with
  | cons p t =>
    cases t with
    | cons p' t =>
      cases t
      obtain ⟨a, g, p'⟩ := p'
      obtain ⟨P', hA, hP⟩ := h a g
      exact ⟨ok, W1, W2, _, P', j1, .cons p (.cons p' .nil), hA, fun v H2 s2 j2 p2 => q v H2 (r1.trans s2) j2 (hP H2 v p2)⟩
end
def okLn (spots : List Str) (l : Line) : Prop := l.start ∈ spots ∧ l.goal ∈ spots ∧ 0 ≤ l.most ∧ l.most ≤ 9
def phiL (spots : List Str) (i : Nat) (lines : List Line) : Prop := lines.length ≤ i ∧ ∀ l ∈ lines, okLn spots l
/-- what is known of a drawn net -/
structure Dn (N : Net) : Prop where
  ng : Ng N
  few : N.lines.length ≤ 3
theorem net_ok {spots : List Str} {stock : List Int} {lines : List Line} {tags goals : List Str} (nd : spots.Nodup) (h1 : spots.length ≤ 3) (h0 : spots ≠ []) (hs : stock.length = spots.length) (hl : lines.length ≤ 3) (ho : ∀ l ∈ lines, okLn spots l) (ht : tags.length ≤ 3) (hg : ∀ g ∈ goals, g ∈ spots) : Dn ⟨spots.zip stock, lines, tags.zip goals⟩ := by
  have hn : names ⟨spots.zip stock, lines, tags.zip goals⟩ = spots := by
    unfold names
    exact List.map_fst_zip (by omega)
  refine ⟨⟨⟨⟨⟨?_, by show lines.length ≤ 4; omega, ?_⟩, by rw [hn]; exact nd⟩, ?_, fun l hl => ⟨(ho l hl).2.2.1, (ho l hl).2.2.2⟩, fun l hl => by rw [hn]; exact (ho l hl).1, fun l hl => by rw [hn]; exact (ho l hl).2.1⟩, fun c hc => ?_⟩, hl⟩
  · show (spots.zip stock).length ≤ 4
    rw [List.length_zip]
    omega
  · show (tags.zip goals).length ≤ 4
    rw [List.length_zip]
    omega
  · show spots.zip stock ≠ []
    intro z
    have := congrArg List.length z
    rw [List.length_zip, hs, Nat.min_self] at this
    exact h0 (List.length_eq_zero_iff.mp this)
  · rw [hn]
    have hc : c ∈ tags.zip goals := hc
    exact hg c.2 (List.of_mem_zip hc).2
theorem picked_sub {ns fs : List Str} {lo hi : Int} (h : Picked ns lo hi fs) : ∀ x ∈ fs, x ∈ ns := fun x hx => by
  obtain ⟨rest, p⟩ := h.part
  exact p.mem_iff.mp (List.mem_append_left _ hx)
theorem picked_nodup {ns fs : List Str} {lo hi : Int} (nd : ns.Nodup) (h : Picked ns lo hi fs) : fs.Nodup := by
  obtain ⟨rest, p⟩ := h.part
  exact (List.nodup_append.mp (p.nodup_iff.mpr nd)).1
def yardNames : List Str := ["a", "b", "c", "yard"]
def keyNames : List Str := ["blue", "k", "red", "zz"]
def lineNames : List Str := ["a", "l", "line", "m", "n"]
def custNames : List Str := ["a", "p", "q", "zoe"]
section
variable {P : Program} {w : World} {K : PySem.W.Frag} {mg : Str → Option Value} {base : Heap}
theorem sc_L_net : FnScope ["_law_urn", "_law_sites", "_law_ways", "_law_rings", "_law_folk", "_law_spots", "_law_words", "_law_home", "_law_rows", "_law_many", "_law_rest", "_law_tag", "_law_ends", "_law_tags", "_law_stock", "_law_goals"] ["_law_urn", "_law_sites", "_law_ways", "_law_rings", "_law_folk"] (defScope s_L_net) := ⟨rfl, rfl, rfl, by decide +kernel, rfl, by decide +kernel, by decide +kernel⟩
def A_net : Prm := fun ok W W' Ps T => ∃ (u : Addr) (U : Nat → Wd ok) (n : Nat), Us u U ∧ n ≤ 1000 ∧ W = U n ∧ W' = U (n + 500) ∧ Ps = [At u, D (.int 3), D (.int 3), D (.int 3), D (.int 2)] ∧ T = Ek Dn fun N => Hub N
theorem ok_L_net {k : Nat} {f : Addr} {fd : FuncData} (F : Fun K "_law_net" "_law_net" s_L_net f fd) (m : Mn mg) (d_take : Df P w K mg base (k + 1) "_law_take" ["_law_urn", "_law_low"] (spt A_take)) (d_of : Df P w K mg base (k + 1) "_law_of" ["_law_urn", "_law_some"] (spt A_of)) (d_pick : Df P w K mg base (k + 1) "_law_pick" ["_law_urn", "_law_some", "_law_many"] (spt A_pick)) : FnOk P w K mg base CX0 (k + 2) f fd ["_law_urn", "_law_sites", "_law_ways", "_law_rings", "_law_folk"] (spt A_net) :=
  okp F sc_L_net (fun _ _ _ _ _ h => by
    obtain ⟨u, U, n, _, _, _, _, rfl, _⟩ := h
    rfl) fun cdv B outer s H E hr ok W W' Ps T' h => by
  obtain ⟨u, U, n, us, hn, rfl, rfl, rfl, rfl⟩ := h
  have nd := sc_L_net.nd
  -- spots
  refine bcons (ssetz 5 nd (zsorted (enc := PyData.str) (f := fun fs => fs) en_str hr.units m.sorted (zcall d_pick hr (azcons (vv 0).z (azcons (PEv.z (vlst (ds := yardNames.map PyData.str) (dcons vstr (dcons vstr (dcons vstr (dcons vstr (dnil))))) (few (by show 4 ≤ 10000000; decide)))) (azcons (btw_wide (lo' := 2) (hi' := 3) (zadd (btw_of vint) (drawn_btw (zcall d_take hr (azof (acons (vv 0) (acons (vsub (vv 1) vint) anil))) ⟨u, U, n, 2, us, by omega, by decide, by decide, rfl, rfl, rfl, rfl⟩))) (by decide) (by decide)) (azof anil)))) ⟨u, U, n + 1, yardNames, 2, 3, us, by omega, by decide, by decide, rfl, rfl, rfl, rfl⟩))) ?_
  refine bex 5 rfl fun fs hfs => ?_
  have ynd : yardNames.Nodup := by decide +kernel
  have hsp : (srt PyData.str fs).Nodup := (srt_perm _ _).nodup_iff.mpr (picked_nodup ynd hfs)
  have hsl : (srt PyData.str fs).length = fs.length := (srt_perm _ _).length_eq
  have hs2 : 2 ≤ fs.length := by have := hfs.low; have e : yardNames.length = 4 := rfl; rw [e] at this; omega
  have hs3 : fs.length ≤ 3 := by have := hfs.high; omega
  generalize srt PyData.str fs = spots at hsp hsl
  -- words
  refine bcons (ssetz 6 nd (zcall d_pick hr (azcons (vv 0).z (azcons (PEv.z (vlst (ds := keyNames.map PyData.str) (dcons vstr (dcons vstr (dcons vstr (dcons vstr (dnil))))) (few (by show 4 ≤ 10000000; decide)))) (azcons (btw_wide (lo' := 1) (hi' := 3) (zmin2 rfl m.min (btw_of (vv 3)) (zadd (zadd (btw_of vint) (zintB m.int (zgt (zcall d_take hr (azof (acons (vv 0) (acons (vint) anil))) ⟨u, U, n + 11, 6, us, by omega, by decide, by decide, rfl, rfl, rfl, rfl⟩) vint))) (drawn_btw (zcall d_take hr (azof (acons (vv 0) (acons (vv 3) anil))) ⟨u, U, n + 12, 3, us, by omega, by decide, by decide, rfl, rfl, rfl, rfl⟩)))) (by decide) (by decide)) (azof anil)))) ⟨u, U, n + 13, keyNames, 1, 3, us, by omega, by decide, by decide, rfl, rfl, rfl, rfl⟩)) ?_
  refine bex 6 rfl fun words hws => ?_
  have hw1 : words ≠ [] := fun z => by
    have := hws.low
    rw [z] at this
    have e : keyNames.length = 4 := rfl
    rw [e] at this
    simp at this
    omega
  have hw3 : words.length ≤ 3 := by have := hws.high; omega
  have hmne : spots.map PyData.str ≠ [] := fun z => by
    have h0 : ([] : List Str).length = 0 := rfl
    rw [List.map_eq_nil_iff] at z
    rw [z, h0] at hsl
    omega
  have hwne : words.map PyData.str ≠ [] := fun z => hw1 (by simpa using z)
  -- home, rows, many
  refine npar3 (δ := [some (kAt u), some (kD (.int 3)), some (kD (.int 3)), some (kD (.int 3)), some (kD (.int 2)), some (kD (.list (spots.map .str))), some (kD (.list (words.map .str))), none, none, none, none, none, none, none, none, none]) (g1 := fun h : Str => h ∈ spots) (f1 := PyData.str) (g3 := fun x : Int => 1 ≤ x ∧ x ≤ 3) (f3 := PyData.int) 7 8 9 rfl nd (PEz.sub (zcall d_of hr (azof (acons (vv 0) (acons (vv 5) anil))) ⟨u, U, n + 23, spots.map PyData.str, us, by omega, hmne, by rw [List.length_map]; omega, rfl, rfl, rfl, rfl⟩) fun H v ⟨d, hd, p⟩ => by
    obtain ⟨h, hh, rfl⟩ := List.mem_map.mp hd
    exact ⟨h, hh, p⟩) (btw_wide (lo' := 1) (hi' := 3) (zmin2 rfl m.min (btw_of (vv 2)) (zadd (btw_of vint) (drawn_btw (zcall d_take hr (azof (acons (vv 0) (acons (vadd (vv 2) vint) anil))) ⟨u, U, n + 24, 5, us, by omega, by decide, by decide, rfl, rfl, rfl, rfl⟩)))) (by decide) (by decide)) (fun _ => rfl) (fun home many p kp hhome hmany => ⟨(U (n + 500)).extE kp encLn imm_encLn fun _ => True, Ek Dn fun N => Hub N, fun H ⟨xs, _, j⟩ => j.1, fun H v ⟨N, g, z⟩ => ⟨N, g, (kHub N).un z⟩, ?_⟩)
  obtain ⟨hm1, hm2⟩ := hmany
  -- rest
  refine bcons (sset 10 nd (by exact vlcD (own := [("_law_tag", 11)]) spots (fun t => D (.str t)) (fun t => !decide (t = home)) (fun t => .str t) rfl nd (by kernel_rfl) (iLm (vv 5)) (by omega) fun t ht => turn (fun _ _ _ _ _ => gname 11 nd) (fun _ _ _ _ _ => qone (tc (c_neStr hr.units) (vv 11) (vv 7))) (fun _ _ _ _ _ _ => vv 11) (fun _ => nol_imm rfl))) ?_
  have hrsub : ∀ x ∈ spots.filter (fun t => !decide (t = home)), x ∈ spots := fun x hx => (List.mem_filter.mp hx).1
  have hrlen : (spots.filter (fun t => !decide (t = home))).length ≤ 3 := Nat.le_trans (List.length_filter_le _ _) (by omega)
  have hrne : (spots.filter (fun t => !decide (t = home))).map PyData.str ≠ [] := fun z => by
    have z : spots.filter (fun t => !decide (t = home)) = [] := by simpa using z
    rw [List.filter_eq_nil_iff] at z
    have all : ∀ x ∈ spots, x = home := fun x hx => by
      have := z x hx
      simpa using this
    match spots, hsp, hsl, all with
    | [], _, hl, _ => simp at hl; omega
    | [x], _, hl, _ => simp at hl; omega
    | x :: y :: r, nd', _, all =>
      have e1 := all x (by simp)
      have e2 := all y (by simp)
      rw [e1, e2] at nd'
      simp at nd'
  generalize spots.filter (fun t => !decide (t = home)) = rest at hrsub hrlen hrne
  -- the lines
  refine bcons (W' := (U (n + 80)).extE kp encLn imm_encLn (phiL spots 3)) (δ1 := [some (At u), some (D (.int 3)), some (D (.int 3)), some (D (.int 3)), some (D (.int 2)), some (D (.list (spots.map .str))), some (D (.list (words.map .str))), some (D (.str home)), some (At p), some (D (.int many)), some (D (.list (rest.map .str))), none, none, none, none, none]) (sforZ (fun i => (U (n + 36 + 13 * i)).extE kp encLn imm_encLn (phiL spots i)) .never rfl (izL (f := fun fs => srt PyData.str fs) (enc := PyData.str) (PEz.to (zsorted (enc := PyData.str) (f := fun fs => fs) en_str hr.units m.sorted (zcall d_pick hr (azcons (vv 0).z (azcons (PEv.z (vlst (ds := lineNames.map PyData.str) (dcons vstr (dcons vstr (dcons vstr (dcons vstr (dcons vstr (dnil)))))) (few (by show 5 ≤ 10000000; decide)))) (azcons (zmul01 (h1 := 3) (PEv.sub (vv 9) fun H v z => ⟨many, ⟨by omega, hm2⟩, z⟩) (by decide) (zintB m.int (zgt (zcall d_take hr (azof (acons (vv 0) (acons (vint) anil))) ⟨u, (fun n => (U n).ext kp [] rfl), n + 25, 9, (us_ext us kp rfl), by omega, by decide, by decide, rfl, rfl, rfl, rfl⟩) vint))) (azof anil)))) ⟨u, (fun n => (U n).ext kp [] rfl), n + 26, lineNames, 0, 3, (us_ext us kp rfl), by omega, by decide, by decide, rfl, rfl, rfl, rfl⟩)) fun H j => ⟨[], ⟨Nat.zero_le _, fun l hl => (nomatch hl)⟩, j⟩)) (fun a ga i T hT => ?_) (fun a ga H j => ?_)) ?_
  · have hla : (srt PyData.str a).length ≤ 3 := by
      rw [(srt_perm _ _).length_eq]
      have := ga.high
      omega
    rw [List.getElem?_map] at hT
    cases htag : (srt PyData.str a)[i]? with
    | none =>
      rw [htag] at hT
      cases hT
    | some tag =>
      rw [htag] at hT
      cases hT
      have hi : i < 3 := by
        have := (List.getElem?_eq_some_iff.mp htag).1
        omega
      refine ⟨[some (At u), some (D (.int 3)), some (D (.int 3)), some (D (.int 3)), some (D (.int 2)), some (D (.list (spots.map .str))), some (D (.list (words.map .str))), some (D (.str home)), some (At p), some (D (.int many)), some (D (.list (rest.map .str))), some (D (.str tag)), none, none, none, none], [11], [some (At u), some (D (.int 3)), some (D (.int 3)), some (D (.int 3)), some (D (.int 2)), some (D (.list (spots.map .str))), some (D (.list (words.map .str))), some (D (.str home)), some (At p), some (D (.int many)), some (D (.list (rest.map .str))), some (D (.str tag)), none, none, none, none], [11], gname 11 nd, ?_, rfl⟩
      refine ncons (ssetz 12 nd (P := (Ek (fun q : Str × Str => q.1 ∈ spots ∧ q.2 ∈ spots) fun q => D (.list [.str q.1, .str q.2]))) (W1 := (U (n + 36 + 13 * i + 11)).extE kp encLn imm_encLn (phiL spots i)) (zif (tz_gt (zcall d_take hr (azof (acons (vv 0) (acons (vint) anil))) ⟨u, (fun n => (U n).extE kp encLn imm_encLn (phiL spots i)), n + 36 + 13 * i, 3, (us_extE us kp imm_encLn (phiL spots i)), by omega, by decide, by decide, rfl, rfl, rfl, rfl⟩) vint) (PEz.to (PEz.sub (zlst2 (good := fun d => d ∈ rest.map PyData.str) (x := .str home) (f := fun d => d) (vv 7) (zcall d_of hr (azof (acons (vv 0) (acons (vv 10) anil))) ⟨u, (fun n => (U n).extE kp encLn imm_encLn (phiL spots i)), n + 36 + 13 * i + 1, rest.map PyData.str, (us_extE us kp imm_encLn (phiL spots i)), by omega, hrne, by rw [List.length_map]; omega, rfl, rfl, rfl, rfl⟩)) fun H v ⟨d, hd, z⟩ => by
        obtain ⟨g, hg, rfl⟩ := List.mem_map.mp hd
        exact ⟨(home, g), ⟨hhome, hrsub g hg⟩, z⟩) fun H j => (us_extE us kp imm_encLn (phiL spots i)).mono (n := n + 36 + 13 * i + 2) (by omega) j) (PEz.sub (zcall d_pick hr (azcons (vv 0).z (azcons (PEv.z (vv 5)) (azcons (btw_of vint) (azof anil)))) ⟨u, (fun n => (U n).extE kp encLn imm_encLn (phiL spots i)), n + 36 + 13 * i + 1, spots, 2, 2, (us_extE us kp imm_encLn (phiL spots i)), by omega, by omega, by decide, rfl, rfl, rfl, rfl⟩) fun H v ⟨q, hq, z⟩ => by
        have h1 := hq.low
        have h2 := hq.high
        have h3 := picked_sub hq
        match q, h1, h2, h3, z with
        | [], h1, _, _, _ => simp at h1; omega
        | [x], h1, _, _, _ => simp at h1; omega
        | [x, y], _, _, h3, z => exact ⟨(x, y), ⟨h3 x (by simp), h3 y (by simp)⟩, z⟩
        | x :: y :: z' :: r, _, h2, _, _ => simp at h2; omega))) ?_
      refine nex 12 rfl fun ends hends => ?_
      refine ncons (sappE (V := U (n + 36 + 13 * i + 11)) (V1 := U (n + 36 + 13 * (i + 1))) (φ := phiL spots i) (φ' := phiL spots (i + 1)) (good := okLn spots) (vv 8) (PEz.to (PEz.sub (ztupLn (t := tag) (s := ends.1) (g := ends.2) (ms := [0, 1, 1, 1, 2, 2, 3]) (ks := words) (azcons (vv 11).z (azcons (vixL (vv 12) vint (at0 0)).z (azcons (vixL (vv 12) vint (at0 1)).z (azcons (zcall d_of hr (azof (acons (vv 0) (acons (vlst (ds := ([0, 1, 1, 1, 2, 2, 3] : List Int).map PyData.int) (dcons vint (dcons vint (dcons vint (dcons vint (dcons vint (dcons vint (dcons vint (dnil)))))))) (few (by show 7 ≤ 10000000; decide))) anil))) ⟨u, (fun n => (U n).extE kp encLn imm_encLn (phiL spots i)), n + 36 + 13 * i + 11, [0, 1, 1, 1, 2, 2, 3].map PyData.int, (us_extE us kp imm_encLn (phiL spots i)), by omega, by decide, by decide, rfl, rfl, rfl, rfl⟩) (azcons (zcall d_of hr (azof (acons (vv 0) (acons (vv 6) anil))) ⟨u, (fun n => (U n).extE kp encLn imm_encLn (phiL spots i)), n + 36 + 13 * i + 12, words.map PyData.str, (us_extE us kp imm_encLn (phiL spots i)), by omega, hwne, by rw [List.length_map]; omega, rfl, rfl, rfl, rfl⟩) (azof anil))))))) fun H v ⟨l, ⟨_, l2, l3, l4, _⟩, z⟩ => ⟨l, ⟨by rw [l2]; exact hends.1, by rw [l3]; exact hends.2, by
          simp at l4
          omega, by
          simp at l4
          omega⟩, z⟩) fun H j => (us_extE us kp imm_encLn (phiL spots i)).mono (n := n + 36 + 13 * i + 13) (by omega) j) (fun xs hx => by have := hx.1; omega) fun xs x hx gx => ⟨by rw [List.length_append]; have := hx.1; simp; omega, fun l hl => by
          rcases List.mem_append.mp hl with hl | hl
          · exact hx.2 l hl
          · rw [List.mem_singleton.mp hl]; exact gx⟩) (PNv.forget nnil [12])
  · obtain ⟨xs, ⟨h1, h2⟩, j⟩ := j
    have hla : (srt PyData.str a).length ≤ 3 := by
      rw [(srt_perm _ _).length_eq]
      have := ga.high
      omega
    rw [List.length_map] at h1 j
    exact ⟨xs, ⟨by omega, h2⟩, (us_ext us kp (immAll_map imm_encLn xs)).mono (by omega) j⟩
  refine bexE fun lines hlines => ?_
  -- tags
  refine bcons (ssetz 13 nd (zsorted (enc := PyData.str) (f := fun fs => fs) en_str hr.units m.sorted (zcall d_pick hr (azcons (vv 0).z (azcons (PEv.z (vlst (ds := custNames.map PyData.str) (dcons vstr (dcons vstr (dcons vstr (dcons vstr (dnil))))) (few (by show 4 ≤ 10000000; decide)))) (azcons (zmul01z (h1 := 2) (btw_wide (zmin2 rfl m.min (btw_of (vv 4)) (zadd (btw_of vint) (drawn_btw (zcall d_take hr (azof (acons (vv 0) (acons (vv 4) anil))) ⟨u, (fun n => (U n).ext kp (lines.map encLn) (immAll_map imm_encLn lines)), n + 80, 2, (us_ext us kp (immAll_map imm_encLn lines)), by omega, by decide, by decide, rfl, rfl, rfl, rfl⟩)))) (by decide) (by decide)) (by decide) (zintB m.int (zgt (zcall d_take hr (azof (acons (vv 0) (acons (vint) anil))) ⟨u, (fun n => (U n).ext kp (lines.map encLn) (immAll_map imm_encLn lines)), n + 81, 9, (us_ext us kp (immAll_map imm_encLn lines)), by omega, by decide, by decide, rfl, rfl, rfl, rfl⟩) vint))) (azof anil)))) ⟨u, (fun n => (U n).ext kp (lines.map encLn) (immAll_map imm_encLn lines)), n + 82, custNames, 0, 2, (us_ext us kp (immAll_map imm_encLn lines)), by omega, by decide, by decide, rfl, rfl, rfl, rfl⟩))) ?_
  refine bex 13 rfl fun tfs htfs => ?_
  have htl : (srt PyData.str tfs).length ≤ 2 := by
    rw [(srt_perm _ _).length_eq]
    have := htfs.high
    omega
  generalize srt PyData.str tfs = tags at htl
  -- stock
  refine bcons (ssetLcZ 14 (own := [("_law_tag", 11)]) spots (fun t => D (.str t)) (fun _ => AnyI) (fun i => (U (n + 92 + i)).ext kp (lines.map encLn) (immAll_map imm_encLn lines)) rfl nd rfl (sw_true rfl rfl rfl (by decide +kernel)) (by kernel_rfl) (iLm (vv 5)) (by omega) fun i t ht => turnz (fun _ _ _ _ _ => gname 11 nd) (fun _ _ _ _ _ => zifv (tc (c_eqStr hr.units) (vv 11) (vv 7)) (fun _ => PEz.sub (zadd (btw_of vint) (drawn_btw (zcall d_take hr (azof (acons (vv 0) (acons (vint) anil))) ⟨u, (fun n => (U n).ext kp (lines.map encLn) (immAll_map imm_encLn lines)), n + 92 + i, 4, (us_ext us kp (immAll_map imm_encLn lines)), by have := (List.getElem?_eq_some_iff.mp ht).1; omega, by decide, by decide, rfl, rfl, rfl, rfl⟩))) fun H v ⟨x, _, z⟩ => ⟨x, trivial, z⟩) (fun _ => any_of (xs := [0, 0, 0, 1]) (zcall d_of hr (azof (acons (vv 0) (acons (vlst (ds := ([0, 0, 0, 1] : List Int).map PyData.int) (dcons vint (dcons vint (dcons vint (dcons vint (dnil))))) (few (by show 4 ≤ 10000000; decide))) anil))) ⟨u, (fun n => (U n).ext kp (lines.map encLn) (immAll_map imm_encLn lines)), n + 92 + i, [0, 0, 0, 1].map PyData.int, (us_ext us kp (immAll_map imm_encLn lines)), by have := (List.getElem?_eq_some_iff.mp ht).1; omega, by decide, by decide, rfl, rfl, rfl, rfl⟩))) (nol_ek fun _ => nol_imm rfl)) ?_
  refine bexk 14 rfl (fun H v z => ls_ek z) fun stock hstock => ?_
  -- goals
  refine bcons (ssetLcZ 15 (own := [("_law_tag", 11)]) tags (fun t => D (.str t)) (fun _ => Ek (fun g : Str => g ∈ spots) fun g => D (.str g)) (fun i => (U (n + 92 + spots.length + 2 * i)).ext kp (lines.map encLn) (immAll_map imm_encLn lines)) rfl nd rfl (sw_true rfl rfl rfl (by decide +kernel)) (by kernel_rfl) (iLm (vv 13)) (by omega) fun i t ht => turnz (fun _ _ _ _ _ => gname 11 nd) (fun _ _ _ _ _ => PEz.to (zcall2 (T := fun ns : List Str => D (.list (ns.map .str))) (good := fun ns : List Str => ns.map PyData.str ≠ [] ∧ ns.length ≤ 3 ∧ ∀ x ∈ ns, x ∈ spots) d_of hr (vv 0) (zif (tz_eq hr.units (zcall d_take hr (azof (acons (vv 0) (acons (vint) anil))) ⟨u, (fun n => (U n).ext kp (lines.map encLn) (immAll_map imm_encLn lines)), n + 92 + spots.length + 2 * i, 6, (us_ext us kp (immAll_map imm_encLn lines)), by have := (List.getElem?_eq_some_iff.mp ht).1; omega, by decide, by decide, rfl, rfl, rfl, rfl⟩) vint) (PEz.sub (PEv.z (vv 5)) fun H v z => ⟨spots, ⟨hmne, by omega, fun x hx => hx⟩, z⟩) (PEz.sub (PEv.z (vv 10)) fun H v z => ⟨rest, ⟨hrne, hrlen, hrsub⟩, z⟩)) (fun ns hns => ⟨_, ⟨u, (fun n => (U n).ext kp (lines.map encLn) (immAll_map imm_encLn lines)), n + 92 + spots.length + 2 * i + 1, ns.map PyData.str, (us_ext us kp (immAll_map imm_encLn lines)), by have := (List.getElem?_eq_some_iff.mp ht).1; omega, hns.1, by rw [List.length_map]; have := hns.2.1; omega, rfl, rfl, rfl, rfl⟩, fun H v ⟨d, hd, z⟩ => by
    obtain ⟨g, hg, rfl⟩ := List.mem_map.mp hd
    exact ⟨g, hns.2.2 g hg, z⟩⟩)) fun H j => (us_ext us kp (immAll_map imm_encLn lines)).mono (n := n + 92 + spots.length + 2 * i + 2) (by omega) j) (nol_ek fun _ => nol_imm rfl)) ?_
  refine bexk 15 rfl (fun H v z => ls_ek z) fun goals hgoals => ?_
  -- the net
  have e1 : (((spots.map PyData.str).zip (stock.map PyData.int)).map fun p => PyData.tuple [p.1, p.2]) = (spots.zip stock).map encY := by
    rw [zip_map]
    rfl
  have e2 : (((tags.map PyData.str).zip (goals.map PyData.str)).map fun p => PyData.tuple [p.1, p.2]) = (tags.zip goals).map encC := by
    rw [zip_map]
    rfl
  have hne : spots ≠ [] := fun z => hmne (by rw [z]; rfl)
  have hD := net_ok (stock := stock) (tags := tags) (goals := goals) hsp (by omega) hne hstock.1 hlines.1 hlines.2 (by omega) hgoals.2
  refine PBv.sub (PBv.to (bret (vtupK (Ps := [Fz ((spots.zip stock).map encY), D (.tuple (lines.map encLn)), D (.tuple ((tags.zip goals).map encC))]) (acons (PEv.cast (vtupleZipF rfl m.tuple m.zip (acons (vv 5) (acons (vv 14) anil))) (by rw [e1])) (acons (jtuple ext_ls m.tuple (vv 8)) (acons (PEv.cast (vtupleZipD rfl m.tuple m.zip (acons (vv 13) (acons (vv 15) anil))) (by rw [e2])) anil))) (few (by show 3 ≤ 10000000; decide)))) fun H j => ⟨lines, trivial, (us_ext us kp (immAll_map imm_encLn lines)).mono (n := n + 92 + spots.length + 2 * tags.length) (m := n + 500) (by omega) j⟩) fun H v z => ⟨⟨spots.zip stock, lines, tags.zip goals⟩, hD, z⟩
end
end Kl
set_option linter.all false
set_option maxRecDepth 100000
set_option maxHeartbeats 4000000
/-! # Z7: box, cells, right, law -/
namespace Kl
open PySem PySem.Spec PyProof.Rows L2
section
variable {ok : Addr → Prop} {W : Wd ok} {X : Cx} {δ δ1 : DEnv ok}
/-- the block hands back a new urn -/
structure PBn (W : Wd ok) (X : Cx) (sts : List Stmt) (δ : DEnv ok) : Prop where
  run : ∀ (σ : L2.St) (H : Hp) (E : Ends), Sl W H σ δ → (∀ a b p H2, Ub 0 a b 0 → H2 p = none → Le W H H2 → E.rt (.ref p) (upd H2 p (.lst [.int a, .int b, .int 0]))) → tBW X sts E σ H
theorem ncons_n {st : Stmt} {sts : List Stmt} (h : PSn W W X st δ δ1) (k : PBn W X sts δ1) : PBn W X (st :: sts) δ :=
  ⟨fun σ H E sl q pins s I => (pss_cons psW pbW).run pins s σ H E I (h.run σ H _ sl fun σ1 H1 r sl1 => k.run σ1 H1 _ sl1 fun a b p H2 ub hp l => q a b p H2 ub hp ⟨r.trans l.rel, l.j⟩)⟩
theorem nret_n {es : List Expr} {pos pos2 : Pos} {sts : List Stmt} {a b : Int} (h : PAv W X es δ [D (.int a), D (.int b), D (.int 0)]) (ub : Ub 0 a b 0) : PBn W X (.Return (some (.List es pos)) pos2 :: sts) δ :=
  ⟨fun σ H E sl q pins s I => (pss_cons (ps_ret (pe_lst paW)) pbW).run pins s σ H E I (h.run σ H _ sl fun vs H1 l p => by
    cases p with
    | cons p1 t =>
      cases t with
      | cons p2 t =>
        cases t with
        | cons p3 t =>
          cases t
          cases p1
          cases p2
          cases p3
          exact ⟨few (by show 3 ≤ 10000000; decide), fun p hp => q a b p H1 ub hp l⟩)⟩
end
section
variable {P : Program} {w : World} {K : PySem.W.Frag} {mg : Str → Option Value} {base : Heap}
theorem b01 (b : Bool) : -(2 ^ 64) < (if b = true then (1 : Int) else 0) ∧ (if b = true then (1 : Int) else 0) < 2 ^ 64 := by cases b <;> decide
theorem b01p (b : Bool) : 0 ≤ (if b = true then (1 : Int) else 0) := by cases b <;> decide
theorem RA.set {ok : Addr → Prop} {H : Hp} {y : V} {d : PyData} (h : R ok H y d) : ∀ {vs : List V} {ds : List PyData} (j : Nat), RA ok H vs ds → RA ok H (vs.set j y) (ds.set j d)
  | _, _, _, .nil => .nil
  | _, _, 0, .cons _ t => .cons h t
  | _, _, j + 1, .cons r t => .cons r (RA.set h j t)
/-- box: a new urn -/
def spBox : Sp := fun vs H Q _ => ∃ (ok : Addr → Prop) (W : Wd ok) (x : Int), W.J H ∧ TyA H vs [D (ok := ok) (.list [.int x]), D (.int 0)] ∧ ∀ a b p H2, Ub 0 a b 0 → H2 p = none → Le W H H2 → Q (.ref p) (upd H2 p (.lst [.int a, .int b, .int 0]))
theorem sc_L_box : FnScope ["_law_script", "_law_k", "_law_bit"] ["_law_script", "_law_k"] (defScope s_L_box) := ⟨rfl, rfl, rfl, by decide +kernel, rfl, by decide +kernel, by decide +kernel⟩
theorem ok_L_box {k : Nat} {f : Addr} {fd : FuncData} (F : Fun K "_law_box" "_law_box" s_L_box f fd) (m : Mn mg) : FnOk P w K mg base CX0 (k + 1) f fd ["_law_script", "_law_k"] spBox :=
  F.ok sc_L_box (fun vs H Q E h => by
    obtain ⟨ok, W, x, _, r, _⟩ := h
    exact r.length) fun cdv A outer s H vs Q E hr h => by
  obtain ⟨ok, W, x, j, r, q⟩ := h
  have nd := sc_L_box.nd
  have m0 : 0 ≤ x % 2305843009213693951 := Int.emod_nonneg _ (by decide)
  have m1 : x % 2305843009213693951 < 2305843009213693951 := Int.emod_lt_of_pos _ (by decide)
  have hb : PBn W (bx P w K mg base ["_law_script", "_law_k", "_law_bit"] "_law_box" s_L_box f cdv A outer s H E) (defBody s_L_box) (dstart ["_law_script", "_law_k", "_law_bit"] [D (.list [.int x]), D (.int 0)]) := by
    refine ncons_n (δ1 := [some (D (.list [.int x])), some (D (.int 0)), some (D (.int x))]) (sset 2 nd (vif (x := true) (PTv.cast (tc c_lt (vv 1) (vlenL m.len (vv 0))) rfl) (fun _ => vixL (vv 0) (vv 1) (at0 0)) (fun e => nomatch e))) ?_
    refine nret_n (a := (if x < 0 then -x else x) * (if decide ((10 : Int) ^ (18 : Int).toNat ≤ (if x < 0 then -x else x)) then 1 else 0)) (b := x % 2305843009213693951 + 39373 * 0 + 93290) (acons (vmul (vabs m.abs (vv 2)) (vintB m.int (vc c_ge (vabs m.abs (vv 2)) (vpow vint vint ⟨by decide, by decide, by decide⟩))) (.inr (b01 _))) (acons (vadd (vadd (vmod (vintI m.int (vv 2)) vint (by decide)) (vmul vint (vv 1) (.inr ⟨by decide, by decide⟩))) vint) (acons vint anil))) ⟨?_, by omega, by omega, Int.le_refl _, Int.le_refl _⟩
    refine Int.mul_nonneg ?_ ?_
    · split <;> omega
    · exact b01p _
  exact ⟨_, pbW, hb.run _ H _ (sl_start j r) q⟩
/-- the cell behind so many later numbers -/
def cellAt (x0 : Int) (bs : List Int) (i : Nat) : Int := (bs.zipIdx.take i).foldl (fun x p => x + p.1 * ((p.2 : Nat) + 2)) x0
def cellOf (xs : List Int) : Int := cellAt (xs.headD 0) ((xs.drop 1).take 62) ((xs.drop 1).take 62).length
theorem cellAt_succ {x0 : Int} {bs : List Int} {i : Nat} {b : Int} (h : bs[i]? = some b) : cellAt x0 bs (i + 1) = cellAt x0 bs i + b * ((i : Nat) + 2) := by
  unfold cellAt
  rw [List.take_add_one, List.getElem?_zipIdx, h, List.foldl_append]
  show (bs.zipIdx.take i).foldl _ x0 + b * (((0 + i : Nat) : Int) + 2) = _
  rw [Nat.zero_add]
end
section
variable {ok : Addr → Prop} {W W2 : Wd ok} {X : Cx} {p : Addr} {kp : ok p}
/-- xs[i] = e, an own list -/
theorem sputE {ds : List PyData} {hd : immAll ds = true} {δ : DEnv (Kl.exl ok p)} {o i value : Expr} {pos pos' : Pos} {k : Int} {j : Nat} {d : PyData} (hd2 : immAll (ds.set j d) = true) (ho : PEv (W.ext kp ds hd) X o δ (At p)) (hi : PEv (W.ext kp ds hd) X i δ (D (.int k))) (hv : PEv (W.ext kp ds hd) X value δ (D d)) (hj : ixN ds.length k = some j)
    (hs : swapsWithSole [.Subscript o i pos'] value pos.line X.env = pure false := by rfl) (hw : swappedStores [.Subscript o i pos'] value X.env = pure none := by rfl)
    (h1 : (assignEach [.Subscript o i pos'] X.env).map (·.2) = [assign (.Subscript o i pos') X.env] := by rfl)
    (ha : ∀ v, assign (.Subscript o i pos') X.env v = (do
      let ov ← holding [v] (eval o X.env)
      let iv ← holding [v, ov] (eval i X.env)
      standAt pos'
      holding [v, ov, iv] (setItem ov iv v)
      release [v, ov, iv] []) := by intro _; rfl) :
    PSn (W.ext kp ds hd) (W.ext kp (ds.set j d) hd2) X (.Assign [.Subscript o i pos'] value pos) δ δ :=
  PSn.of (ps_asg peW (pg_sub peW peW set_list ha) hs hw h1) fun σ H E sl q => hv.run σ H _ sl fun y H1 s1 p1 => ho.run σ H1 _ (sl.same s1) fun x H2 s2 p2 => hi.run σ H2 _ ((sl.same s1).same s2) fun z H3 s3 p3 => by
    cases p2
    cases p3
    obtain ⟨j3, vs, e3, r3⟩ := s3.j
    refine ⟨p, vs, k, j, rfl, rfl, e3, by rw [r3.length]; exact hj, ?_⟩
    have rel3 : Rel (Kl.exl ok p) H3 (upd H3 p (.lst (vs.set j y))) := fun x o kx e => by
      rw [upd_ne (fun z => kx.2 z)]
      exact e
    exact q _ _ (((s1.trans s2).trans s3).rel.trans rel3) ((((sl.same s1).same s2).same s3).to rel3 ⟨lst_loc kp j3 e3, _, upd_same, (RA.set (R.same (s2.trans s3).rel p1) j r3).same rel3⟩)
end
end Kl
set_option linter.all false
set_option maxRecDepth 100000
set_option maxHeartbeats 4000000
/-! # Z8: cells -/
namespace Kl
open PySem PySem.Spec PyProof.Rows L2
/-- the script: a list of numbers, laid in any way -/
def Sq {ok : Addr → Prop} (K : PySem.W.Frag) (xs : List Int) : Ty ok := ⟨fun H v => ∃ a, v = .ref a ∧ ((ok a ∧ Rd H a (.lst (xs.map V.int))) ∨ ∃ (o : Obj) (its : Array Value) (n : Nat), K.lookup a = some o ∧ o.cls = .type "list" ∧ o.dict = none ∧ o.data = .seq its n ∧ its.size ≤ sizeLine ∧ Vals (xs.map V.int) its.toList),
  fun e ⟨a, h1, h⟩ => ⟨a, h1, h.imp (fun ⟨ka, h⟩ => ⟨ka, rdm h fun o => e _ o ka⟩) fun h => h⟩⟩
theorem Sq.sq {ok : Addr → Prop} {K : PySem.W.Frag} {xs : List Int} {H : Hp} {v : V} (h : (Sq (ok := ok) K xs).p H v) : ∃ a, v = .ref a ∧ SqL K H a (xs.map V.int) := by
  obtain ⟨a, h1, h⟩ := h
  exact ⟨a, h1, h.imp (fun h => h.2) fun h => h⟩
def kSq (K : PySem.W.Frag) (xs : List Int) : PK := ⟨fun ok => Sq K xs, fun hp ⟨a, h1, h⟩ => ⟨a, h1, h.imp (fun ⟨ka, h⟩ => ⟨⟨ka, h.elim (fun h => ne_of_none h hp) fun ⟨_, h⟩ => ne_of_none h hp⟩, h⟩) fun h => h⟩, fun ⟨a, h1, h⟩ => ⟨a, h1, h.imp (fun ⟨ka, h⟩ => ⟨ka.1, h⟩) fun h => h⟩⟩
section
variable {ok : Addr → Prop} {W W2 : Wd ok} {X : Cx}
theorem vslS {δ : DEnv ok} {e : Expr} {lo hi : Option Expr} {p2 pos : Pos} {xs : List Int} {l h : Option Int} (he : PEv W X e δ (Sq X.K xs)) (hl : POv W X lo δ l) (hh : POv W X hi δ h) : PEv W X (.Subscript e (.Slice lo hi none p2) pos) δ (D (.list (cutD (xs.map .int) l h))) := by
  obtain ⟨tl, pl, hl⟩ := hl.run
  obtain ⟨th, ph, hh⟩ := hh.run
  refine PEv.of (pe_slice sl_list peW pl ph) fun σ H Q sl q => he.run σ H _ sl fun x H1 s1 p1 => hl σ H1 _ (sl.same s1) fun H2 s2 => hh σ H2 _ ((sl.same s1).same s2) fun H3 s3 => ?_
  obtain ⟨a, rfl, h1⟩ := Sq.sq ((Sq (ok := ok) X.K xs).mono (s2.trans s3).rel p1)
  exact ⟨a, _, rfl, h1, fun p hp => q _ _ (((s1.trans s2).trans s3).trans (le_upd s3.j hp)) (.lst (W.fresh s3.j hp) upd_same (cut_ra (RA.ofInts xs) l h))⟩
end
section
variable {ok : Addr → Prop} {W W2 : Wd ok} {X : Cx}
/-- x = list(e) or [0], e a list of one number at most -/
theorem bcells (i : Nat) {δ : List (Option PK)} {x : Str} {e z0 : Expr} {px p cp lp bp pos : Pos} {tail : List Stmt} {xs : List Int} {y : Int} (hxs : xs.length ≤ 1) (hm : X.mg "list" = none) (hN : X.N.Nodup) (he : PEv W X e (inst ok δ) (D (.list (xs.map .int)))) (hz : PEv W X z0 (inst ok δ) (D (.int 0)))
    (hrest : ∀ (p : Addr) (kp : ok p), PBv (W.ext kp [.int (xs.headD 0)] rfl) (W.ext kp [.int y] rfl) X tail ((inst (Kl.exl ok p) δ).set i (some (At p))) (At p))
    (hi : X.N[i]? = some x := by rfl) (hx : Loc X.env.scope x := by first | exact Or.inl rfl | exact Or.inr rfl) (hs : swapsWith (.BoolOp .Or [.Call (.Name "list" p) [e] [] cp, .List [z0] lp] bp) (some (.Name x px)) pos.line X.env = pure false := by rfl) (hf : X.fn x = true ∨ X.env.scope.names.lookup x = some .local := by first | exact .inl rfl | exact .inr rfl)
    (s3 : starEach [e] X.env = (false, eval e X.env) :: starEach [] X.env := by rfl) (s4 : starEach [z0] X.env = (false, eval z0 X.env) :: starEach [] X.env := by rfl) (hg : Gl X "list" := by rfl) :
    PBv W W X (.Assign [.Name x px] (.BoolOp .Or [.Call (.Name "list" p) [e] [] cp, .List [z0] lp] bp) pos :: tail) (inst ok δ) (D (.list [.int y])) :=
  PBv.of (pss_cons (ps_set hN hi hx (pe_orT (pe_callTy call_list_of hg hm (by decide +kernel) paW (by decide) (by decide) s3 rfl) (pe_one (pe_lst (pa_cons peW pa_nil s4)))) hs hf) pbW) fun σ H E sl q => by
    have fin : ∀ (p : Addr) (H2 : Hp), H2 p = none → Le W H H2 → E = E → tBW X tail E (σ.set i (some (.ref p))) (upd H2 p (.lst [.int (xs.headD 0)])) := fun p H2 hp l _ => by
      have kp : ok p := W.fresh l.j hp
      have l2 := le_upd (o := .lst [.int (xs.headD 0)]) l.j hp
      have pn : H p = none := bkNone kp l.rel hp
      have rel : Rel (Kl.exl ok p) H (upd H2 p (.lst [.int (xs.headD 0)])) := fun a o ka e => (l.trans l2).rel a o ka.1 e
      have jx : (W.ext kp [.int (xs.headD 0)] rfl).J (upd H2 p (.lst [.int (xs.headD 0)])) := ⟨l2.j, _, upd_same, .cons (.int _) .nil⟩
      refine (hrest p kp).run _ _ _ ((sl.opened pn rel jx).set i (P := At p) rfl) fun v H3 r3 j3 p3 => ?_
      cases p3
      obtain ⟨j4, vs, e3, r⟩ := j3
      refine q _ H3 (fun a o ka e => ?_) j4 (.lst kp e3 r.unx)
      have ne : a ≠ p := ne_of_none e pn
      exact r3 a o ⟨ka, ne⟩ (rel a o ⟨ka, ne⟩ e)
    refine (acons he anil s3).run σ H _ sl fun vs H1 l1 p1 => ?_
    obtain ⟨v, rfl, r⟩ := tya1 p1
    cases r with
    | @lst b us _ kb h1 ra =>
      rw [ra.ints] at h1
      refine ⟨b, _, rfl, .inl (SqL.of h1), fun l hl => ?_⟩
      have l2 := le_upd (o := .lst (xs.map V.int)) l1.j hl
      match xs, hxs with
      | [], _ =>
        refine ⟨false, .inl ⟨_, SqL.of upd_same, rfl⟩, iteF ?_⟩
        refine hz.run σ _ _ ((sl.same l1).same l2) fun v H3 l3 p3 => ?_
        cases p3
        exact ⟨few (by show 1 ≤ 10000000; decide), fun p hp => fin p H3 hp ((l1.trans l2).trans l3) rfl⟩
      | [x0], _ =>
        refine ⟨true, .inl ⟨_, SqL.of upd_same, rfl⟩, iteT ?_⟩
        exact fin l H1 hl l1 rfl
      | _ :: _ :: _, h => simp at h
end
theorem cut_to1 (xs : List PyData) : cutD xs none (some 1) = xs.take 1 := by
  unfold cutD
  have e1 : HT.sIx xs.length 0 none = 0 := rfl
  rw [e1, List.drop_zero, Nat.sub_zero]
  have e2 : HT.sIx xs.length xs.length (some 1) = min 1 xs.length := rfl
  rw [e2]
  by_cases h : xs.length ≤ 1
  · rw [Nat.min_eq_right h, List.take_length, List.take_of_length_le h]
  · rw [Nat.min_eq_left (by omega)]
theorem cut_1_63 (xs : List PyData) (h : xs.length ≤ 63) : cutD xs (some 1) (some 63) = (xs.drop 1).take 62 := by
  unfold cutD
  have e1 : HT.sIx xs.length 0 (some 1) = min 1 xs.length := rfl
  have e2 : HT.sIx xs.length xs.length (some 63) = min 63 xs.length := rfl
  rw [e1, e2, Nat.min_eq_right h]
  by_cases h0 : xs.length = 0
  · rw [List.length_eq_zero_iff.mp h0]
    rfl
  · rw [Nat.min_eq_left (by omega), List.take_of_length_le (by rw [List.length_drop]; omega), List.take_of_length_le (by rw [List.length_drop]; omega)]
section
variable {P : Program} {w : World} {K : PySem.W.Frag} {mg : Str → Option Value} {base : Heap}
theorem sc_L_cells : FnScope ["_law_script", "_law_roof", "_law_bits", "_law_k", "_law_bit", "_law_at"] ["_law_script", "_law_roof"] (defScope s_L_cells) := ⟨rfl, rfl, rfl, by decide +kernel, rfl, by decide +kernel, by decide +kernel⟩
def A_cells (K : PySem.W.Frag) : Prm := fun ok W W' Ps T => ∃ xs : List Int, xs.length ≤ 63 ∧ W' = W ∧ Ps = [Sq K xs, D (.int 1)] ∧ T = D (.list [.int (cellOf xs)])
theorem ok_L_cells {k : Nat} {f : Addr} {fd : FuncData} (F : Fun K "_law_cells" "_law_cells" s_L_cells f fd) (m : Mn mg) : FnOk P w K mg base CX0 (k + 1) f fd ["_law_script", "_law_roof"] (spt (A_cells K)) :=
  okp F sc_L_cells (fun _ _ _ _ _ h => by
    obtain ⟨xs, _, _, rfl, _⟩ := h
    rfl) fun cdv B outer s H E hr ok W W' Ps T' h => by
  obtain ⟨xs, hl, rfl, rfl, rfl⟩ := h
  have nd := sc_L_cells.nd
  refine bcells (δ := [some (kSq K xs), some (kD (.int 1)), none, none, none, none]) (xs := xs.take 1) 2 (by rw [List.length_take]; omega) m.list nd (PEv.cast (vslS (vv 0) onone (osome (vv 1))) (by rw [cut_to1, List.map_take])) vint fun p kp => ?_
  have hh : (xs.take 1).headD 0 = xs.headD 0 := by cases xs <;> rfl
  rw [show (W'.ext kp [.int ((xs.take 1).headD 0)] rfl) = W'.ext kp [.int (cellAt (xs.headD 0) ((xs.drop 1).take 62) 0)] rfl from ext_congr (by rw [hh]; rfl)]
  refine bcons (W' := W'.ext kp [.int (cellOf xs)] rfl) (δ1 := inst (Kl.exl ok p) [some (kSq K xs), some (kD (.int 1)), some (kAt p), none, none, none]) ?_ (bret (vv 2))
  have hbl : ((xs.drop 1).take 62).length ≤ 62 := by rw [List.length_take]; omega
  refine sforE (Ts := ((xs.drop 1).take 62).zipIdx.map fun q => D (.tuple [.int (q.2 : Nat), .int q.1])) (fun i => W'.ext kp [.int (cellAt (xs.headD 0) ((xs.drop 1).take 62) i)] rfl) (fun _ => inst (Kl.exl ok p) [some (kSq K xs), some (kD (.int 1)), some (kAt p), none, none, none]) .never rfl (iEnLm m.enumerate (PEv.cast (vslS (vv 0) (osome (vv 1)) (osome vint)) (by rw [cut_1_63 _ (by rw [List.length_map]; exact hl), List.map_take, List.map_drop]))) rfl rfl (fun i Ti hTi => ?_) (by rw [List.length_map, List.length_zipIdx]; rfl) rfl
  rw [List.getElem?_map, List.getElem?_zipIdx] at hTi
  cases hb : ((xs.drop 1).take 62)[i]? with
  | none =>
    rw [hb] at hTi
    cases hTi
  | some b =>
    rw [hb] at hTi
    cases hTi
    have hi : i < ((xs.drop 1).take 62).length := (List.getElem?_eq_some_iff.mp hb).1
    refine ⟨inst (Kl.exl ok p) [some (kSq K xs), some (kD (.int 1)), some (kAt p), some (kD (.int (i : Nat))), some (kD (.int b)), none], _, inst (Kl.exl ok p) [some (kSq K xs), some (kD (.int 1)), some (kAt p), some (kD (.int (i : Nat))), some (kD (.int b)), some (kD (.int 0))], [3, 4, 5], (by
      show PGv _ _ _ _ (D (.tuple [.int ((0 + i : Nat) : Int), .int b])) _ _
      rw [Nat.zero_add]
      exact gtup (ds := [.int ((i : Nat) : Int), .int b]) rfl (gscons (gname 3 nd) (gscons (gname 4 nd) gsnil))), ncons (sset 5 nd (PEv.cast (vmod (vintI m.int (vv 3)) (vv 1) (by decide)) (by rw [Int.emod_one]))) (ncons ?_ nnil), rfl⟩
    rw [cellAt_succ hb]
    exact sputE (j := 0) (d := .int (cellAt (xs.headD 0) ((xs.drop 1).take 62) i + b * ((i : Nat) + 2))) rfl (vv 2) (vv 5) (vadd (jix ext_ls (vv 2) (vv 5) (at0 0)) (vmul (vv 4) (vadd (vv 3) vint) (.inr ⟨by omega, by omega⟩))) rfl
end
end Kl
set_option linter.all false
/-! # G1: cuts and plans, with no program in sight -/
namespace Kg
section
variable {α : Type} [DecidableEq α]
structure Arc (α : Type) where
  start : α
  goal : α
  most : Int
  op : Bool
def wsum (ns : List α) (S : α → Bool) (f : α → Int) : Int := ((ns.filter S).map f).sum
def into (ls : List (Arc α)) (S : α → Bool) : Int := ((ls.filter fun l => l.op && (S l.goal && !S l.start)).map (·.most)).sum
def cap (S T : α → Bool) : α → Bool := fun a => S a && T a
def cup (S T : α → Bool) : α → Bool := fun a => S a || T a
theorem wsum_nil (S : α → Bool) (f : α → Int) : wsum [] S f = 0 := rfl
theorem wsum_cons (a : α) (ns : List α) (S : α → Bool) (f : α → Int) : wsum (a :: ns) S f = (if S a then f a else 0) + wsum ns S f := by
  unfold wsum
  by_cases h : S a = true
  · rw [List.filter_cons_of_pos h, if_pos h, List.map_cons, List.sum_cons]
  · rw [List.filter_cons_of_neg h, if_neg h, Int.zero_add]
theorem into_nil (S : α → Bool) : into ([] : List (Arc α)) S = 0 := rfl
theorem into_cons (l : Arc α) (ls : List (Arc α)) (S : α → Bool) : into (l :: ls) S = (if l.op && (S l.goal && !S l.start) then l.most else 0) + into ls S := by
  unfold into
  rw [List.filter_cons]
  by_cases h : (l.op && (S l.goal && !S l.start)) = true
  · rw [if_pos h, if_pos h, List.map_cons, List.sum_cons]
  · rw [if_neg h, if_neg h, Int.zero_add]
theorem wsum_mod (ns : List α) (S T : α → Bool) (f : α → Int) : wsum ns S f + wsum ns T f = wsum ns (cap S T) f + wsum ns (cup S T) f := by
  induction ns with
  | nil => rfl
  | cons a ns ih =>
    rw [wsum_cons, wsum_cons, wsum_cons, wsum_cons]
    have : (if S a then f a else 0) + (if T a then f a else 0) = (if cap S T a then f a else 0) + (if cup S T a then f a else 0) := by
      unfold cap cup
      cases S a <;> cases T a <;> simp
    omega
theorem into_mod (ls : List (Arc α)) (h : ∀ l ∈ ls, 0 ≤ l.most) (S T : α → Bool) : into ls (cap S T) + into ls (cup S T) ≤ into ls S + into ls T := by
  induction ls with
  | nil => exact Int.le_refl _
  | cons l ls ih =>
    have ih := ih fun x hx => h x (List.mem_cons_of_mem _ hx)
    have hl := h l List.mem_cons_self
    rw [into_cons, into_cons, into_cons, into_cons]
    have : (if l.op && (cap S T l.goal && !cap S T l.start) then l.most else 0) + (if l.op && (cup S T l.goal && !cup S T l.start) then l.most else 0) ≤ (if l.op && (S l.goal && !S l.start) then l.most else 0) + (if l.op && (T l.goal && !T l.start) then l.most else 0) := by
      unfold cap cup
      cases l.op <;> cases S l.goal <;> cases S l.start <;> cases T l.goal <;> cases T l.start <;> simp <;> omega
    omega
theorem wsum_add (ns : List α) (S : α → Bool) (f g : α → Int) : wsum ns S (fun a => f a + g a) = wsum ns S f + wsum ns S g := by
  induction ns with
  | nil => rfl
  | cons a ns ih =>
    rw [wsum_cons, wsum_cons, wsum_cons, ih]
    cases S a <;> simp <;> omega
theorem wsum_no {ns : List α} {a : α} (h : a ∉ ns) (S : α → Bool) (m : Int) : wsum ns S (fun y => if y = a then m else 0) = 0 := by
  induction ns with
  | nil => rfl
  | cons b ns ih =>
    rw [List.mem_cons, not_or] at h
    rw [wsum_cons, ih h.2, if_neg (show ¬ b = a from fun z => h.1 z.symm)]
    cases S b <;> rfl
theorem wsum_one {ns : List α} {a : α} (nd : ns.Nodup) (h : a ∈ ns) (S : α → Bool) (m : Int) : wsum ns S (fun y => if y = a then m else 0) = if S a then m else 0 := by
  induction ns with
  | nil => cases h
  | cons b ns ih =>
    rw [List.nodup_cons] at nd
    rw [wsum_cons]
    by_cases e : b = a
    · subst e
      rw [wsum_no nd.1, if_pos rfl, Int.add_zero]
    · rw [if_neg e]
      rw [ih nd.2 ((List.mem_cons.mp h).resolve_left fun z => e z.symm)]
      cases S b <;> simp
theorem wsum_congr {ns : List α} {S : α → Bool} {f g : α → Int} (h : ∀ a ∈ ns, S a = true → f a = g a) : wsum ns S f = wsum ns S g := by
  induction ns with
  | nil => rfl
  | cons a ns ih =>
    rw [wsum_cons, wsum_cons, ih fun b hb => h b (List.mem_cons_of_mem _ hb)]
    cases e : S a with
    | false => rfl
    | true => rw [h a List.mem_cons_self e]
theorem wsum_le {ns : List α} {S : α → Bool} {f g : α → Int} (h : ∀ a ∈ ns, f a ≤ g a) : wsum ns S f ≤ wsum ns S g := by
  induction ns with
  | nil => exact Int.le_refl _
  | cons a ns ih =>
    rw [wsum_cons, wsum_cons]
    have := ih fun b hb => h b (List.mem_cons_of_mem _ hb)
    have := h a List.mem_cons_self
    cases S a <;> simp <;> omega
/-- so much moved -/
def mv (s t : α) (m : Int) (f : α → Int) : α → Int := fun y => (f y + if y = s then -m else 0) + if y = t then m else 0
theorem wsum_mv {ns : List α} (nd : ns.Nodup) {s t : α} (hs : s ∈ ns) (ht : t ∈ ns) (S : α → Bool) (m : Int) (f : α → Int) : wsum ns S (mv s t m f) = wsum ns S f - (if S s then m else 0) + (if S t then m else 0) := by
  unfold mv
  rw [wsum_add, wsum_add, wsum_one nd hs, wsum_one nd ht]
  cases S s <;> simp <;> omega
theorem least_nat {p : Nat → Prop} : ∀ {M : Nat}, p M → ∃ m, m ≤ M ∧ p m ∧ (m = 0 ∨ ¬ p (m - 1))
  | 0, h => ⟨0, Nat.le_refl _, h, .inl rfl⟩
  | M + 1, h => by
    by_cases e : p M
    · obtain ⟨m, h1, h2, h3⟩ := least_nat e
      exact ⟨m, by omega, h2, h3⟩
    · exact ⟨M + 1, Nat.le_refl _, h, .inr e⟩
/-- what the first line is to carry -/
theorem pick {G : (α → Bool) → Int} (mod : ∀ S T, G (cap S T) + G (cup S T) ≤ G S + G T) {s t : α} {M : Int} (h0 : 0 ≤ M) (h : ∀ S, 0 ≤ G S + (if S t && !S s then M else 0)) : ∃ m : Nat, (m : Int) ≤ M ∧ ∀ S, 0 ≤ G S - (if S s then (m : Int) else 0) + (if S t then (m : Int) else 0) := by
  have hM : ∀ S : α → Bool, S t = true → S s = false → 0 ≤ G S + (M.toNat : Int) := fun S h1 h2 => by
    have := h S
    rw [h1, h2] at this
    simp at this
    omega
  obtain ⟨m, hm, hg, hl⟩ := least_nat (p := fun m : Nat => ∀ S : α → Bool, S t = true → S s = false → 0 ≤ G S + (m : Int)) hM
  refine ⟨m, by omega, fun S => ?_⟩
  have h1 := h S
  cases es : S s <;> cases et : S t
  · rw [es, et] at h1
    simp at h1 ⊢
    exact h1
  · have := hg S et es
    simp
    omega
  · rw [es, et] at h1
    simp at h1 ⊢
    rcases hl with rfl | hl
    · simpa using h1
    · have : ∃ T : α → Bool, T t = true ∧ T s = false ∧ ¬ 0 ≤ G T + ((m - 1 : Nat) : Int) := by
        apply Classical.byContradiction
        intro hn
        apply hl
        intro T k1 k2
        apply Classical.byContradiction
        intro k3
        exact hn ⟨T, k1, k2, k3⟩
      obtain ⟨T, k1, k2, k3⟩ := this
      have km := mod S T
      have ka := h (cap S T)
      have kb := h (cup S T)
      simp [cap, cup, es, et, k1, k2] at ka kb
      by_cases hz : m = 0
      · subst hz; simpa using h1
      · omega
  · rw [es, et] at h1
    simp at h1 ⊢
    omega
/-- every cut is wide enough -/
def CutOk (ns : List α) (ls : List (Arc α)) (sup dem : α → Int) : Prop := ∀ S, wsum ns S dem ≤ wsum ns S sup + into ls S
theorem cut_nil {ns : List α} (nd : ns.Nodup) {sup dem : α → Int} : CutOk ns [] sup dem ↔ ∀ a ∈ ns, dem a ≤ sup a := by
  refine ⟨fun h a ha => ?_, fun h S => ?_⟩
  · have h1 := h fun y => decide (y = a)
    rw [into_nil, Int.add_zero] at h1
    have key : ∀ f : α → Int, wsum ns (fun y => decide (y = a)) f = f a := fun f => by
      have e : wsum ns (fun y => decide (y = a)) f = wsum ns (fun y => decide (y = a)) (fun y => if y = a then f a else 0) := wsum_congr fun b _ hb => by
        have : b = a := by simpa using hb
        rw [if_pos this, this]
      rw [e, wsum_one nd ha]
      simp
    rw [key, key] at h1
    exact h1
  · rw [into_nil, Int.add_zero]
    exact wsum_le h
theorem cut_cons {ns : List α} (nd : ns.Nodup) {l : Arc α} {ls : List (Arc α)} {sup dem : α → Int} (hs : l.start ∈ ns) (ht : l.goal ∈ ns) (h0 : 0 ≤ l.most) (hl : ∀ x ∈ ls, 0 ≤ x.most) :
    CutOk ns (l :: ls) sup dem ↔ ∃ m : Nat, (m : Int) ≤ l.most ∧ (0 < m → l.op = true) ∧ CutOk ns ls (mv l.start l.goal m sup) dem := by
  constructor
  · intro h
    cases ho : l.op with
    | false =>
      refine ⟨0, h0, fun z => absurd z (by decide), fun S => ?_⟩
      have := h S
      rw [into_cons, ho] at this
      rw [wsum_mv nd hs ht]
      simp at this ⊢
      exact this
    | true =>
      obtain ⟨m, hm, hg⟩ := pick (G := fun S => wsum ns S sup - wsum ns S dem + into ls S) (s := l.start) (t := l.goal) (fun S T => by
        have := wsum_mod ns S T sup
        have := wsum_mod ns S T dem
        have := into_mod ls hl S T
        show wsum ns (cap S T) sup - wsum ns (cap S T) dem + into ls (cap S T) + (wsum ns (cup S T) sup - wsum ns (cup S T) dem + into ls (cup S T)) ≤ wsum ns S sup - wsum ns S dem + into ls S + (wsum ns T sup - wsum ns T dem + into ls T)
        omega) h0 (fun S => by
        have := h S
        rw [into_cons, ho, Bool.true_and] at this
        show 0 ≤ wsum ns S sup - wsum ns S dem + into ls S + _
        omega)
      refine ⟨m, hm, fun _ => rfl, fun S => ?_⟩
      have := hg S
      rw [wsum_mv nd hs ht]
      omega
  · intro ⟨m, hm, ho, h⟩ S
    have := h S
    rw [wsum_mv nd hs ht] at this
    rw [into_cons]
    by_cases hz : m = 0
    · subst hz
      simp at this
      cases l.op <;> cases S l.goal <;> cases S l.start <;> simp <;> omega
    · rw [ho (by omega), Bool.true_and]
      cases e1 : S l.goal <;> cases e2 : S l.start <;> rw [e1, e2] at this <;> simp at this ⊢ <;> omega
end
end Kg
set_option linter.all false
set_option maxRecDepth 100000
set_option maxHeartbeats 4000000
/-! # G2: what goes by cuts goes by plans -/
namespace Kl
open PySem
/-! ### sets of names -/
theorem mem_fold_subs {s : List Str} : ∀ {ns : List Str} {F : List (List Str)}, s ∈ ns.foldl (fun f n => f ++ f.map (· ++ [n])) F ↔ ∃ a ∈ F, ∃ b, b.Sublist ns ∧ s = a ++ b
  | [], F => by
    refine ⟨fun h => ⟨s, h, [], List.Sublist.refl _, by simp⟩, fun ⟨a, h, b, hb, e⟩ => ?_⟩
    rw [List.sublist_nil] at hb
    subst hb
    rw [List.append_nil] at e
    rw [e]
    exact h
  | n :: ns, F => by
    rw [List.foldl_cons, mem_fold_subs]
    constructor
    · rintro ⟨a, ha, b, hb, e⟩
      rcases List.mem_append.mp ha with ha | ha
      · exact ⟨a, ha, b, hb.cons n, e⟩
      · obtain ⟨a0, h0, rfl⟩ := List.mem_map.mp ha
        exact ⟨a0, h0, n :: b, hb.cons₂ n, by rw [e, List.append_assoc]; rfl⟩
    · rintro ⟨a, ha, b, hb, e⟩
      rcases List.sublist_cons_iff.mp hb with hb | ⟨r, rfl, hr⟩
      · exact ⟨a, List.mem_append_left _ ha, b, hb, e⟩
      · exact ⟨a ++ [n], List.mem_append_right _ (List.mem_map_of_mem (f := (· ++ [n])) ha), r, hr, by rw [e, List.append_assoc]; rfl⟩
theorem mem_subsRaw {ns s : List Str} : s ∈ subsRaw ns ↔ s.Sublist ns := by
  unfold subsRaw
  rw [mem_fold_subs]
  refine ⟨fun ⟨a, ha, b, hb, e⟩ => ?_, fun h => ⟨[], List.mem_singleton.mpr rfl, s, h, rfl⟩⟩
  rw [List.mem_singleton.mp ha] at e
  rw [e]
  exact hb
theorem mem_subs {ns s : List Str} : s ∈ subs ns ↔ s.Sublist ns := by
  unfold subs
  rw [mem_srt, mem_subsRaw]
theorem sub_eq_filter {l s : List Str} (nd : l.Nodup) (h : s.Sublist l) : l.filter (fun x => decide (x ∈ s)) = s := by
  induction h with
  | slnil => rfl
  | @cons s l a h ih =>
    rw [List.nodup_cons] at nd
    have : a ∉ s := fun z => nd.1 (h.subset z)
    rw [List.filter_cons, if_neg (by simpa using this)]
    exact ih nd.2
  | @cons_cons s l a h ih =>
    rw [List.nodup_cons] at nd
    rw [List.filter_cons, if_pos (by simp)]
    congr 1
    refine Eq.trans (List.filter_congr fun x hx => ?_) (ih nd.2)
    have : x ≠ a := fun z => nd.1 (z ▸ hx)
    simp [this]
/-! ### the net as arcs -/
def arcs (ks : List Str) (ls : List Line) : List (Kg.Arc Str) := ls.map fun l => ⟨l.start, l.goal, l.most, decide (l.key ∈ ks)⟩
theorem moved_mv (l : Line) (f : Str → Int) (m : Int) : moved l f m = Kg.mv l.start l.goal m f := by
  funext y
  unfold moved Kg.mv
  by_cases h1 : y = l.goal
  · rw [if_pos h1, if_pos h1]
    by_cases h2 : l.goal = l.start
    · rw [if_pos h2, if_pos (h1.trans h2), ← h2, h1]
      omega
    · rw [if_neg h2, if_neg (fun z => h2 (h1 ▸ z)), h1]
      omega
  · rw [if_neg h1, if_neg h1]
    by_cases h2 : y = l.start
    · rw [if_pos h2, if_pos h2, h2]
      omega
    · rw [if_neg h2, if_neg h2]
      omega
theorem mem_rows {r' : Row} : ∀ {ls : List Line} {rs : List Row}, r' ∈ ls.foldl (fun rs l => stepRows l rs) rs ↔ ∃ r ∈ rs, r' ∈ ls.foldl (fun rs l => stepRows l rs) [r]
  | [], rs => by simp
  | l :: ls, rs => by
    rw [List.foldl_cons, mem_rows]
    constructor
    · rintro ⟨q, hq, h⟩
      unfold stepRows at hq
      obtain ⟨r, hr, hq⟩ := List.mem_flatMap.mp hq
      refine ⟨r, hr, ?_⟩
      rw [List.foldl_cons, mem_rows]
      refine ⟨q, ?_, h⟩
      unfold stepRows
      rw [List.flatMap_cons, List.flatMap_nil, List.append_nil]
      exact hq
    · rintro ⟨r, hr, h⟩
      rw [List.foldl_cons, mem_rows] at h
      obtain ⟨q, hq, h⟩ := h
      unfold stepRows at hq
      rw [List.flatMap_cons, List.flatMap_nil, List.append_nil] at hq
      refine ⟨q, ?_, h⟩
      unfold stepRows
      exact List.mem_flatMap.mpr ⟨r, hr, hq⟩
theorem by_row {ks : List Str} {l : Line} {r : Row} {m : Nat} : byKeys ks (rowOn l r m) = true ↔ byKeys ks r = true ∧ (0 < m → decide (l.key ∈ ks) = true) := by
  unfold byKeys rowOn
  simp only [List.isEmpty_iff, List.filter_append, List.append_eq_nil_iff]
  refine and_congr Iff.rfl ?_
  by_cases h : 0 < m
  · have : decide ((0 : Int) < ((m : Nat) : Int)) = true := decide_eq_true (by omega)
    rw [if_pos this]
    simp [h, List.filter_cons]
  · have : decide ((0 : Int) < ((m : Nat) : Int)) = false := decide_eq_false (by omega)
    rw [this]
    simp [h]
theorem good_rows {ns : List Str} (nd : ns.Nodup) {ks : List Str} {dem : Str → Int} : ∀ {ls : List Line} {r : Row}, (∀ l ∈ ls, 0 ≤ l.most) → (∀ l ∈ ls, l.start ∈ ns) → (∀ l ∈ ls, l.goal ∈ ns) →
    ((∃ r' ∈ ls.foldl (fun rs l => stepRows l rs) [r], byKeys ks r' = true ∧ ∀ s ∈ ns, dem s ≤ r'.2.1 s) ↔ byKeys ks r = true ∧ Kg.CutOk ns (arcs ks ls) r.2.1 dem)
  | [], r, _, _, _ => by
    rw [show arcs ks [] = [] from rfl, Kg.cut_nil nd]
    simp
  | l :: ls, r, h0, hs, ht => by
    have ih := fun q : Row => good_rows nd (ks := ks) (dem := dem) (ls := ls) (r := q) (fun x hx => h0 x (List.mem_cons_of_mem _ hx)) (fun x hx => hs x (List.mem_cons_of_mem _ hx)) (fun x hx => ht x (List.mem_cons_of_mem _ hx))
    have h0l := h0 l List.mem_cons_self
    rw [show arcs ks (l :: ls) = ⟨l.start, l.goal, l.most, decide (l.key ∈ ks)⟩ :: arcs ks ls from rfl]
    rw [Kg.cut_cons nd (hs l List.mem_cons_self) (ht l List.mem_cons_self) h0l (fun x hx => by
      obtain ⟨y, hy, rfl⟩ := List.mem_map.mp hx
      exact h0 y (List.mem_cons_of_mem _ hy))]
    constructor
    · rintro ⟨r', hr', hb, hd⟩
      rw [List.foldl_cons, mem_rows] at hr'
      obtain ⟨q, hq, hr'⟩ := hr'
      unfold stepRows at hq
      rw [List.flatMap_cons, List.flatMap_nil, List.append_nil] at hq
      obtain ⟨m, hm, rfl⟩ := List.mem_map.mp hq
      rw [List.mem_range] at hm
      obtain ⟨g1, g2⟩ := (ih _).mp ⟨r', hr', hb, hd⟩
      obtain ⟨b1, b2⟩ := by_row.mp g1
      refine ⟨b1, m, by show (m : Int) ≤ l.most; omega, b2, ?_⟩
      show Kg.CutOk ns (arcs ks ls) (Kg.mv l.start l.goal m r.2.1) dem
      rw [← moved_mv]
      exact g2
    · rintro ⟨b1, m, hm, b2, g2⟩
      replace hm : (m : Int) ≤ l.most := hm
      replace g2 : Kg.CutOk ns (arcs ks ls) (Kg.mv l.start l.goal m r.2.1) dem := g2
      rw [← moved_mv] at g2
      obtain ⟨r', hr', hb, hd⟩ := (ih (rowOn l r m)).mpr ⟨by_row.mpr ⟨b1, b2⟩, g2⟩
      refine ⟨r', ?_, hb, hd⟩
      rw [List.foldl_cons, mem_rows]
      refine ⟨rowOn l r m, ?_, hr'⟩
      unfold stepRows
      rw [List.flatMap_cons, List.flatMap_nil, List.append_nil]
      exact List.mem_map_of_mem (f := rowOn l r) (List.mem_range.mpr (by omega))
theorem goesP_iff {N : Net} (ng : Ng N) {ks : List Str} {lot : List Int} : goesP N ks lot = true ↔ Kg.CutOk (names N) (arcs ks N.lines) (stockOf N.yards) (wantF N lot) := by
  unfold goesP
  rw [List.any_eq_true]
  have key := good_rows ng.nt.nd (ks := ks) (dem := wantF N lot) (ls := N.lines) (r := ([], stockOf N.yards, [])) (fun l hl => (ng.mo l hl).1) ng.st ng.go
  constructor
  · rintro ⟨r', hr', hs⟩
    obtain ⟨h1, h2⟩ := List.mem_filter.mp hr'
    refine (key.mp ⟨r', h1, h2, fun s hsn => ?_⟩).2
    unfold sates at hs
    rw [List.isEmpty_iff, List.filter_eq_nil_iff] at hs
    have := hs s hsn
    simp at this
    exact this
  · intro h
    obtain ⟨r', h1, h2, h3⟩ := key.mpr ⟨rfl, h⟩
    refine ⟨r', List.mem_filter.mpr ⟨h1, h2⟩, ?_⟩
    unfold sates
    rw [List.isEmpty_iff, List.filter_eq_nil_iff]
    intro s hsn
    have := h3 s hsn
    simpa using this
/-! ### cuts -/
theorem wsum_want {ns : List Str} (nd : ns.Nodup) (S : Str → Bool) : ∀ {ps : List ((Str × Str) × Int)} {f : Str → Int}, (∀ p ∈ ps, p.1.2 ∈ ns) → Kg.wsum ns S (ps.foldl (fun f p => putF1 f p.1.2 p.2) f) = Kg.wsum ns S f + ((ps.filter fun p => S p.1.2).map (·.2)).sum
  | [], f, _ => by simp
  | p :: ps, f, h => by
    rw [List.foldl_cons, wsum_want nd S (fun q hq => h q (List.mem_cons_of_mem _ hq))]
    have e : putF1 f p.1.2 p.2 = fun y => f y + if y = p.1.2 then p.2 else 0 := by
      funext y
      unfold putF1
      by_cases e : y = p.1.2
      · rw [if_pos e, if_pos e, e]
      · rw [if_neg e, if_neg e, Int.add_zero]
    rw [e, Kg.wsum_add, Kg.wsum_one nd (h p List.mem_cons_self), List.filter_cons]
    by_cases hS : S p.1.2 = true
    · rw [if_pos hS, if_pos hS, List.map_cons, List.sum_cons]
      omega
    · rw [if_neg hS, if_neg hS]
      omega
theorem wsum_zero (ns : List Str) (S : Str → Bool) : Kg.wsum ns S (fun _ => 0) = 0 := by
  induction ns with
  | nil => rfl
  | cons a ns ih =>
    rw [Kg.wsum_cons, ih]
    cases S a <;> rfl
theorem part_want {N : Net} (ng : Ng N) (lot : List Int) (S : Str → Bool) : partIn N lot ((names N).filter S) = Kg.wsum (names N) S (wantF N lot) := by
  unfold wantF
  rw [wsum_want ng.nt.nd S (fun p hp => ng.cu _ (List.of_mem_zip hp).1), wsum_zero, Int.zero_add]
  unfold partIn
  congr 2
  refine List.filter_congr fun p hp => ?_
  have := ng.cu _ (List.of_mem_zip hp).1
  simp [List.mem_filter, this]
theorem stock_sum : ∀ {ps : List (Str × Int)} (S : Str → Bool), (ps.map (·.1)).Nodup → ((ps.filter fun y => S y.1).map (·.2)).sum = Kg.wsum (ps.map (·.1)) S (stockOf ps)
  | [], S, _ => rfl
  | p :: ps, S, nd => by
    rw [List.map_cons, List.nodup_cons] at nd
    rw [List.map_cons, Kg.wsum_cons, List.filter_cons, stock_cons]
    have e : Kg.wsum (ps.map (·.1)) S (stockOf (p :: ps)) = Kg.wsum (ps.map (·.1)) S (stockOf ps) := Kg.wsum_congr fun a ha _ => stock_cons_ne fun z => nd.1 (z ▸ ha)
    rw [e, ← stock_sum S nd.2]
    by_cases hS : S p.1 = true
    · rw [if_pos hS, if_pos hS, List.map_cons, List.sum_cons]
    · rw [if_neg hS, if_neg hS, Int.zero_add]
theorem value_cut {N : Net} (ng : Ng N) (ks : List Str) (S : Str → Bool) : value N ks ((names N).filter S) = Kg.wsum (names N) S (stockOf N.yards) + Kg.into (arcs ks N.lines) S := by
  unfold value
  congr 1
  · unfold names
    rw [← stock_sum S ng.nt.nd]
    congr 2
    refine List.filter_congr fun y hy => ?_
    have : y.1 ∈ N.yards.map (·.1) := List.mem_map_of_mem (f := Prod.fst) hy
    simp [List.mem_filter, this]
  · unfold into Kg.into arcs
    rw [List.filter_map, List.map_map]
    have : N.lines.filter (fun l => decide (l.key ∈ ks) && (decide (l.goal ∈ (names N).filter S) && !decide (l.start ∈ (names N).filter S))) = N.lines.filter ((fun l : Kg.Arc Str => l.op && (S l.goal && !S l.start)) ∘ fun l : Line => ⟨l.start, l.goal, l.most, decide (l.key ∈ ks)⟩) := by
      refine List.filter_congr fun l hl => ?_
      have h1 := ng.st l hl
      have h2 := ng.go l hl
      simp [List.mem_filter, h1, h2]
    rw [this]
    rfl
theorem goesB_iff {N : Net} (ng : Ng N) {ks : List Str} {lot : List Int} : goesB N ks lot = true ↔ Kg.CutOk (names N) (arcs ks N.lines) (stockOf N.yards) (wantF N lot) := by
  unfold goesB
  rw [List.all_eq_true]
  constructor
  · intro h S
    have := h ((names N).filter S) (mem_subs.mpr List.filter_sublist)
    rw [part_want ng, value_cut ng] at this
    simpa using this
  · intro h far hf
    have e := sub_eq_filter ng.nt.nd (mem_subs.mp hf)
    have := h fun x => decide (x ∈ far)
    rw [← part_want ng, ← value_cut ng, e] at this
    simpa using this
/-- what goes by cuts goes by plans -/
theorem goes_same {N : Net} (ng : Ng N) (ks : List Str) (lot : List Int) : goesB N ks lot = goesP N ks lot := by
  cases h : goesB N ks lot with
  | true => exact ((goesP_iff ng).mpr ((goesB_iff ng).mp h)).symm
  | false =>
    cases k : goesP N ks lot with
    | false => rfl
    | true =>
      rw [(goesB_iff ng).mpr ((goesP_iff ng).mp k)] at h
      cases h
/-! ### more keys do more -/
theorem into_mono {ls : List Line} (h0 : ∀ l ∈ ls, 0 ≤ l.most) {p q : Line → Bool} (h : ∀ l ∈ ls, p l = true → q l = true) : ((ls.filter p).map (·.most)).sum ≤ ((ls.filter q).map (·.most)).sum := by
  induction ls with
  | nil => exact Int.le_refl _
  | cons l ls ih =>
    have ih := ih (fun x hx => h0 x (List.mem_cons_of_mem _ hx)) fun x hx => h x (List.mem_cons_of_mem _ hx)
    have h1 := h0 l List.mem_cons_self
    have h2 := h l List.mem_cons_self
    rw [List.filter_cons, List.filter_cons]
    cases e1 : p l with
    | true =>
      rw [if_pos rfl, if_pos (h2 e1), List.map_cons, List.map_cons, List.sum_cons, List.sum_cons]
      omega
    | false =>
      rw [if_neg (by simp)]
      cases e2 : q l with
      | true =>
        rw [if_pos rfl, List.map_cons, List.sum_cons]
        omega
      | false =>
        rw [if_neg (by simp)]
        exact ih
theorem g_mono {N : Net} (ng : Ng N) {lot : List Int} {ks ks' : List Str} (h : ∀ k ∈ keysOf N, k ∈ ks → k ∈ ks') (g : goesB N ks lot = true) : goesB N ks' lot = true := by
  unfold goesB at *
  rw [List.all_eq_true] at *
  intro far hf
  have := g far hf
  rw [decide_eq_true_eq] at *
  refine Int.le_trans this ?_
  unfold value
  have : ((into N ks far).map (·.most)).sum ≤ ((into N ks' far).map (·.most)).sum := by
    unfold into
    refine into_mono (fun l hl => (ng.mo l hl).1) fun l hl hp => ?_
    rw [Bool.and_eq_true] at hp ⊢
    refine ⟨?_, hp.2⟩
    have hk : l.key ∈ keysOf N := by
      unfold keysOf
      rw [mem_setOf]
      exact List.mem_map_of_mem (f := Line.key) hl
    have := hp.1
    rw [decide_eq_true_eq] at *
    exact h _ hk this
  omega
theorem g_congr {N : Net} (ng : Ng N) {lot : List Int} {ks ks' : List Str} (h : ∀ k ∈ keysOf N, k ∈ ks ↔ k ∈ ks') : goesB N ks lot = goesB N ks' lot := by
  cases e : goesB N ks lot with
  | true => exact (g_mono ng (fun k hk => (h k hk).mp) e).symm
  | false =>
    cases e' : goesB N ks' lot with
    | false => rfl
    | true =>
      rw [g_mono ng (fun k hk => (h k hk).mpr) e'] at e
      cases e
end Kl
set_option linter.all false
set_option maxRecDepth 100000
set_option maxHeartbeats 4000000
/-! # G3: openers and barriers -/
namespace Kl
open PySem
theorem en_ss : En ss := en_strs
theorem lessIn_iff {own far : List Str} : lessIn own far = true ↔ far ≠ own ∧ ∀ k ∈ far, k ∈ own := by
  unfold lessIn
  rw [Bool.and_eq_true, List.isEmpty_iff, List.filter_eq_nil_iff]
  simp
theorem hasLess_iff {fam : List (List Str)} {own : List Str} : hasLess fam own = true ↔ ∃ far ∈ fam, far ≠ own ∧ ∀ k ∈ far, k ∈ own := by
  unfold hasLess
  rw [List.any_eq_true]
  exact ⟨fun ⟨f, h, z⟩ => ⟨f, h, lessIn_iff.mp z⟩, fun ⟨f, h, z⟩ => ⟨f, h, lessIn_iff.mpr z⟩⟩
theorem mem_minOf {fam : List (List Str)} {s : List Str} : s ∈ minOf fam ↔ s ∈ fam ∧ ¬ ∃ far ∈ fam, far ≠ s ∧ ∀ k ∈ far, k ∈ s := by
  unfold minOf
  rw [mem_srt, List.mem_filter]
  refine and_congr Iff.rfl ?_
  rw [← hasLess_iff]
  cases hasLess fam s <;> simp
theorem leasts_min {fam fam' : List (List Str)} (nd : fam'.Nodup) (h : ∀ s, s ∈ fam ↔ s ∈ fam') : leastsOf fam = minOf fam' := by
  refine asc_unique en_ss ?_ ?_ fun x => ?_
  · unfold leastsOf
    exact (setOf_asc en_ss fam).sublist List.filter_sublist
  · unfold minOf
    refine (srt_asl en_ss _).asc en_ss ?_
    exact (srt_perm ss _).nodup_iff.mpr (nd.sublist List.filter_sublist)
  · rw [mem_minOf]
    unfold leastsOf
    rw [List.mem_filter, mem_setOf, h]
    refine and_congr Iff.rfl ?_
    rw [Bool.not_eq_true', ← Bool.not_eq_true, List.any_eq_true]
    refine not_congr ⟨fun ⟨far, hf, hw⟩ => ?_, fun ⟨far, hf, hne, hw⟩ => ?_⟩
    · obtain ⟨h1, h2⟩ := List.mem_filter.mp hf
      rw [mem_setOf, h] at h1
      refine ⟨far, h1, by simpa using h2, fun k hk => ?_⟩
      unfold within at hw
      rw [List.all_eq_true] at hw
      simpa using hw k hk
    · refine ⟨far, List.mem_filter.mpr ⟨?_, by simpa using hne⟩, ?_⟩
      · rw [mem_setOf, h]
        exact hf
      · unfold within
        rw [List.all_eq_true]
        intro k hk
        simpa using hw k hk
theorem opn_eq {N : Net} (ng : Ng N) (lot : List Int) : openersOf N lot = minOf (fineOf N lot) := by
  unfold openersOf
  refine leasts_min ?_ fun s => ?_
  · unfold fineOf
    exact (subs_nodup (keysOf_nd N)).sublist List.filter_sublist
  · unfold setsOpen fineOf
    rw [List.mem_filter, List.mem_filter, mem_subs, mem_subsRaw, goes_same ng]
theorem others_others {N : Net} {s : List Str} (h : s.Sublist (keysOf N)) : others N (others N s) = s := by
  refine Eq.trans ?_ (sub_eq_filter (keysOf_nd N) h)
  unfold others
  refine List.filter_congr fun x hx => ?_
  simp [List.mem_filter, hx]
theorem others_sub (N : Net) (s : List Str) : (others N s).Sublist (keysOf N) := List.filter_sublist
theorem bar_eq {N : Net} (ng : Ng N) (lot : List Int) : barriersOf N lot = minOf (shutOf N lot) := by
  unfold barriersOf
  refine leasts_min ?_ fun s => ?_
  · unfold shutOf
    exact (subs_nodup (keysOf_nd N)).sublist List.filter_sublist
  · unfold shutOf
    rw [List.mem_map, List.mem_filter, mem_subsRaw]
    constructor
    · rintro ⟨ks, hk, rfl⟩
      obtain ⟨h1, h2⟩ := List.mem_filter.mp hk
      refine ⟨others_sub N ks, ?_⟩
      show (!goesP N (others N (others N ks)) lot) = true
      rw [others_others (mem_subs.mp h1), ← goes_same ng]
      exact h2
    · rintro ⟨h1, h2⟩
      refine ⟨others N s, List.mem_filter.mpr ⟨mem_subs.mpr (others_sub N s), ?_⟩, others_others h1⟩
      rw [goes_same ng]
      exact h2
/-! ### the least ones below -/
theorem less_len {l a b : List Str} (nd : l.Nodup) (ha : a.Sublist l) (hb : b.Sublist l) (h : ∀ k ∈ a, k ∈ b) (ne : a ≠ b) : a.length < b.length := by
  have e : a.Sublist b := by
    rw [← sub_eq_filter nd ha, ← sub_eq_filter nd hb]
    have : l.filter (fun x => decide (x ∈ a)) = (l.filter fun x => decide (x ∈ b)).filter fun x => decide (x ∈ a) := by
      rw [List.filter_filter]
      refine List.filter_congr fun x _ => ?_
      by_cases hx : x ∈ a
      · simp [hx, h x hx]
      · simp [hx]
    rw [this]
    exact List.filter_sublist
  have := e.length_le
  refine Nat.lt_of_le_of_ne this fun z => ne (e.eq_of_length z)
theorem below {l : List Str} (nd : l.Nodup) {fam : List (List Str)} (hf : ∀ s ∈ fam, s.Sublist l) : ∀ (n : Nat) (s : List Str), s.length ≤ n → s ∈ fam → ∃ own ∈ minOf fam, ∀ k ∈ own, k ∈ s
  | n, s, hn, hs => by
    by_cases h : ∃ far ∈ fam, far ≠ s ∧ ∀ k ∈ far, k ∈ s
    · obtain ⟨far, h1, h2, h3⟩ := h
      have hl := less_len nd (hf far h1) (hf s hs) h3 h2
      match n, hn with
      | 0, hn => omega
      | n + 1, hn =>
        obtain ⟨own, o1, o2⟩ := below nd hf n far (by omega) h1
        exact ⟨own, o1, fun k hk => h3 k (o2 k hk)⟩
    · exact ⟨s, mem_minOf.mpr ⟨hs, h⟩, fun k hk => hk⟩
theorem fine_sub {N : Net} {lot : List Int} : ∀ s ∈ fineOf N lot, s.Sublist (keysOf N) := fun s hs => mem_subsRaw.mp (List.mem_filter.mp hs).1
theorem shut_sub {N : Net} {lot : List Int} : ∀ s ∈ shutOf N lot, s.Sublist (keysOf N) := fun s hs => mem_subsRaw.mp (List.mem_filter.mp hs).1
theorem mem_fine {N : Net} (ng : Ng N) {lot : List Int} {s : List Str} : s ∈ fineOf N lot ↔ s.Sublist (keysOf N) ∧ goesB N s lot = true := by
  unfold fineOf
  rw [List.mem_filter, mem_subsRaw, goes_same ng]
theorem mem_shut {N : Net} (ng : Ng N) {lot : List Int} {s : List Str} : s ∈ shutOf N lot ↔ s.Sublist (keysOf N) ∧ goesB N (others N s) lot = false := by
  unfold shutOf
  rw [List.mem_filter, mem_subsRaw, goes_same ng]
  show _ ∧ (!goesP N (others N s) lot) = true ↔ _
  cases goesP N (others N s) lot <;> simp
theorem mem_others {N : Net} {s : List Str} {k : Str} : k ∈ others N s ↔ k ∈ keysOf N ∧ k ∉ s := by
  unfold others
  rw [List.mem_filter]
  simp
/-- an opener within these keys -/
theorem opener_in {N : Net} (ng : Ng N) {lot : List Int} {ks : List Str} (h : goesB N ks lot = true) : ∃ own ∈ minOf (fineOf N lot), ∀ k ∈ own, k ∈ ks := by
  have hs : (keysOf N).filter (fun k => decide (k ∈ ks)) ∈ fineOf N lot := (mem_fine ng).mpr ⟨List.filter_sublist, g_mono ng (fun k hk z => List.mem_filter.mpr ⟨hk, by simpa using z⟩) h⟩
  obtain ⟨own, h1, h2⟩ := below (keysOf_nd N) fine_sub _ _ (Nat.le_refl _) hs
  refine ⟨own, h1, fun k hk => ?_⟩
  have := (List.mem_filter.mp (h2 k hk)).2
  simpa using this
theorem opener_goes {N : Net} (ng : Ng N) {lot : List Int} {own ks : List Str} (ho : own ∈ minOf (fineOf N lot)) (h : ∀ k ∈ own, k ∈ ks) : goesB N ks lot = true :=
  g_mono ng (fun k _ z => h k z) ((mem_fine ng).mp (mem_minOf.mp ho).1).2
/-- less than a barrier does not stop -/
theorem barrier_less {N : Net} (ng : Ng N) {lot : List Int} {so t : List Str} (ho : so ∈ minOf (shutOf N lot)) (ht : t.Sublist so) (ne : t ≠ so) : goesB N (others N t) lot = true := by
  obtain ⟨h1, h2⟩ := mem_minOf.mp ho
  cases e : goesB N (others N t) lot with
  | true => rfl
  | false => exact absurd ⟨t, (mem_shut ng).mpr ⟨ht.trans (shut_sub so h1), e⟩, ne, fun k hk => ht.subset hk⟩ h2
end Kl
set_option linter.all false
set_option maxRecDepth 100000
set_option maxHeartbeats 4000000
/-! # G4: keys that come one by one -/
namespace Kl
open PySem
theorem hk_lt {a b : Int × Str} (h : b.1 < a.1) : ltE encHK b a = true := by
  unfold ltE PySem.W.dataLt encHK
  simp only [PySem.W.keyToks, PySem.W.keyToksAll, List.cons_append, List.nil_append]
  rw [PyProof.Rows.lex_true]
  refine .inr ⟨?_, ?_⟩
  · show decide ((1 : Int) < 1) = false
    decide
  · rw [PyProof.Rows.lex_true]
    refine .inl ?_
    show decide (b.1 < a.1) = true
    exact decide_eq_true h
theorem int_lt {a b : Int} : ltE PyData.int a b = decide (a < b) := by
  unfold ltE PySem.W.dataLt
  simp only [PySem.W.keyToks]
  show (decide (a < b) || (!decide (b < a) && false)) = _
  simp
theorem zip_swap' {α β : Type} {xs : List α} {ys : List β} {a : α} {b : β} : (a, b) ∈ xs.zip ys ↔ (b, a) ∈ ys.zip xs := by
  rw [List.mem_iff_getElem?, List.mem_iff_getElem?]
  simp only [List.getElem?_zip_eq_some]
  exact ⟨fun ⟨i, h1, h2⟩ => ⟨i, h2, h1⟩, fun ⟨i, h1, h2⟩ => ⟨i, h2, h1⟩⟩
theorem mem_take' {α : Type} {l : List α} {n : Nat} {x : α} : x ∈ l.take n ↔ ∃ m, m < n ∧ l[m]? = some x := by
  rw [List.mem_iff_getElem?]
  constructor
  · rintro ⟨m, hm⟩
    rw [List.getElem?_take] at hm
    split at hm
    · exact ⟨m, by assumption, hm⟩
    · cases hm
  · rintro ⟨m, h1, h2⟩
    exact ⟨m, by rw [List.getElem?_take, if_pos h1, h2]⟩
/-- hours and keys in the order in which they come -/
def pairsOf (N : Net) (hours : List Int) : List (Int × Str) := srt encHK (hours.zip (keysOf N))
theorem ord_pairs (N : Net) (hours : List Int) : ordOf N hours = (pairsOf N hours).map (·.2) := rfl
theorem pairs_le {N : Net} {hours : List Int} {i j : Nat} {a b : Int × Str} (hij : i < j) (h1 : (pairsOf N hours)[i]? = some a) (h2 : (pairsOf N hours)[j]? = some b) : a.1 ≤ b.1 := by
  have h := srt_asl en_hk (hours.zip (keysOf N))
  obtain ⟨l1, e1⟩ := List.getElem?_eq_some_iff.mp h1
  obtain ⟨l2, e2⟩ := List.getElem?_eq_some_iff.mp h2
  have := (List.pairwise_iff_getElem.mp h) i j l1 l2 hij
  unfold pairsOf at e1 e2
  rw [e1, e2] at this
  by_cases z : a.1 ≤ b.1
  · exact z
  · rw [hk_lt (show b.1 < a.1 by omega)] at this
    cases this
theorem mem_inHand {N : Net} {hours : List Int} {n : Int} {k : Str} : k ∈ inHand N hours n ↔ ∃ h, (h, k) ∈ pairsOf N hours ∧ h ≤ n := by
  unfold inHand pairsOf
  constructor
  · intro hk
    obtain ⟨p, hp, rfl⟩ := List.mem_map.mp hk
    obtain ⟨h1, h2⟩ := List.mem_filter.mp hp
    refine ⟨p.2, ?_, by simpa using h2⟩
    rw [mem_srt]
    exact zip_swap'.mp h1
  · rintro ⟨h, h1, h2⟩
    rw [mem_srt] at h1
    exact List.mem_map.mpr ⟨(k, h), List.mem_filter.mpr ⟨zip_swap'.mp h1, decide_eq_true h2⟩, rfl⟩
theorem hadAt_mem {ord : List Str} {i : Nat} {k : Str} : k ∈ hadAt ord i ↔ k ∈ ord.take i := (hadAt_perm ord i).mem_iff
theorem ord_mem {N : Net} {hours : List Int} (h : hours.length = (keysOf N).length) {k : Str} : k ∈ ordOf N hours ↔ k ∈ keysOf N := (ord_perm h).mem_iff
theorem ord_nodup {N : Net} {hours : List Int} (h : hours.length = (keysOf N).length) : (ordOf N hours).Nodup := (ord_perm h).nodup_iff.mpr (keysOf_nodup N)
theorem hadAll {N : Net} {hours : List Int} (h : hours.length = (keysOf N).length) {k : Str} : k ∈ hadAt (ordOf N hours) (ordOf N hours).length ↔ k ∈ keysOf N := by
  rw [hadAt_mem, List.take_length, ord_mem h]
theorem tbl_at {N : Net} {hours lot : List Int} {i : Nat} (hi : i ≤ (ordOf N hours).length) : (tblOf N hours lot)[i]? = some (goesP N (hadAt (ordOf N hours) i) lot) := by
  unfold tblOf hadsTo
  rw [List.getElem?_map, List.getElem?_map, List.getElem?_range (by omega)]
  rfl
theorem find_asc {p : Int → Bool} {h : Int} : ∀ {l : List Int}, Asc PyData.int l → h ∈ l → p h = true → (∀ n ∈ l, n < h → p n = false) → l.find? p = some h
  | [], _, hm, _, _ => nomatch hm
  | m :: l, ha, hm, hp, hn => by
    rw [List.find?_cons]
    unfold Asc at ha
    rw [List.pairwise_cons] at ha
    by_cases e : m = h
    · subst e
      rw [hp]
    · have hm' : h ∈ l := (List.mem_cons.mp hm).resolve_left fun z => e z.symm
      have hlt := ha.1 h hm'
      rw [int_lt, decide_eq_true_eq] at hlt
      rw [hn m List.mem_cons_self hlt]
      exact find_asc ha.2 hm' hp fun n hn' => hn n (List.mem_cons_of_mem _ hn')
theorem moments_asc (hours : List Int) : Asc PyData.int (moments hours) := setOf_asc en_int _
theorem mem_moments {hours : List Int} {n : Int} : n ∈ moments hours ↔ n = 0 ∨ n ∈ hours := by
  unfold moments
  rw [mem_setOf, List.mem_cons]
theorem hour_due {N : Net} (ng : Ng N) {hours : List Int} (hl : hours.length = (keysOf N).length) (h0 : ∀ h ∈ hours, 0 ≤ h) (lot : List Int) : hourOf N hours lot = dueOf N hours lot := by
  have hol : (ordOf N hours).length = (keysOf N).length := (ord_perm hl).length_eq
  unfold dueOf
  cases hf : (tblOf N hours lot).findIdx? id with
  | none =>
    unfold hourOf
    rw [List.find?_eq_none]
    intro n _ hg
    have hall : goesB N (hadAt (ordOf N hours) (ordOf N hours).length) lot = true := g_mono ng (fun k hk _ => (hadAll hl).mpr hk) hg
    rw [goes_same ng] at hall
    have h1 := tbl_at (N := N) (hours := hours) (lot := lot) (Nat.le_refl _)
    rw [hall] at h1
    have := findIdx_none hf
    rw [List.contains_eq_mem, decide_eq_false_iff_not] at this
    exact this (List.mem_of_getElem? h1)
  | some f =>
    obtain ⟨f1, f2⟩ := findIdx_some hf
    have hfl : f ≤ (ordOf N hours).length := by
      have := (List.getElem?_eq_some_iff.mp f1).1
      rw [tbl_len] at this
      omega
    have g1 : goesB N (hadAt (ordOf N hours) f) lot = true := by
      rw [tbl_at hfl] at f1
      rw [goes_same ng]
      exact Option.some.inj f1
    cases f with
    | zero =>
      show hourOf N hours lot = some 0
      unfold hourOf
      refine find_asc (moments_asc hours) (mem_moments.mpr (.inl rfl)) ?_ fun n hn hlt => ?_
      · exact g_mono ng (fun k _ hk => by
          rw [hadAt_mem, List.take_zero] at hk
          cases hk) g1
      · rcases mem_moments.mp hn with rfl | hn
        · omega
        · have := h0 n hn
          omega
    | succ f =>
      have hlt : f < (ordOf N hours).length := by omega
      have g0 : goesB N (hadAt (ordOf N hours) f) lot = false := by
        have := f2 f (Nat.lt_succ_self f)
        rw [tbl_at (by omega)] at this
        rw [goes_same ng]
        exact Option.some.inj this
      have hpl : (pairsOf N hours).length = (ordOf N hours).length := by rw [ord_pairs, List.length_map]
      have hp : (pairsOf N hours)[f]? = some (pairsOf N hours)[f] := List.getElem?_eq_getElem (by omega)
      generalize hq : (pairsOf N hours)[f] = q at hp
      have ho : (ordOf N hours)[f]? = some q.2 := by rw [ord_pairs, List.getElem?_map, hp]; rfl
      have hz : (q.1, q.2) ∈ hours.zip (keysOf N) := by
        have := List.mem_of_getElem? hp
        unfold pairsOf at this
        rw [mem_srt] at this
        exact this
      obtain ⟨j, hj⟩ := List.getElem?_of_mem hz
      rw [List.getElem?_zip_eq_some] at hj
      obtain ⟨i, hi, hil⟩ := findStr_has (ns := keysOf N) (x := q.2) (List.of_mem_zip hz).2
      have hij : i = j := by
        have a := (findStr_some hi).1
        exact (List.getElem?_inj hil (keysOf_nodup N)).mp (by rw [a, hj.2])
      show hourOf N hours lot = (((ordOf N hours)[f]?).bind _).bind _
      rw [ho]
      show hourOf N hours lot = ((keysOf N).findIdx? fun x => decide (x = q.2)).bind _
      rw [hi]
      show hourOf N hours lot = hours[i]?
      rw [hij, hj.1]
      unfold hourOf
      refine find_asc (moments_asc hours) (mem_moments.mpr (.inr (List.mem_of_getElem? hj.1))) ?_ fun n hn hlt => ?_
      · refine g_mono ng (fun k _ hk => ?_) g1
        rw [hadAt_mem, mem_take'] at hk
        obtain ⟨m, hm, e⟩ := hk
        rw [mem_inHand]
        rw [ord_pairs, List.getElem?_map] at e
        cases hr : (pairsOf N hours)[m]? with
        | none =>
          rw [hr] at e
          cases e
        | some r =>
          rw [hr] at e
          cases e
          refine ⟨r.1, List.mem_of_getElem? hr, ?_⟩
          by_cases z : m = f
          · subst z
            rw [hp] at hr
            cases hr
            exact Int.le_refl _
          · exact pairs_le (show m < f by omega) hr hp
      · cases e : goesB N (inHand N hours n) lot with
        | false => rfl
        | true =>
          rw [g_mono ng (fun k _ hk => ?_) e] at g0
          · cases g0
          · rw [mem_inHand] at hk
            obtain ⟨h, hm, hle⟩ := hk
            obtain ⟨m, hm⟩ := List.getElem?_of_mem hm
            rw [hadAt_mem, mem_take']
            refine ⟨m, ?_, by rw [ord_pairs, List.getElem?_map, hm]; rfl⟩
            by_cases z : m < f
            · exact z
            · exfalso
              by_cases z2 : f = m
              · subst z2
                rw [hp] at hm
                cases hm
                have h3 : n < h := hlt
                omega
              · have := pairs_le (show f < m by omega) hp hm
                have h3 : q.1 ≤ h := this
                omega
end Kl
set_option linter.all false
set_option maxRecDepth 100000
set_option maxHeartbeats 4000000
/-! # G5: all that case_right asks -/
namespace Kl
open PySem
theorem mem_replay {x : Str} : ∀ {l ks : List Str}, x ∈ replay ks (l.map Deed.take) ↔ x ∈ ks ∨ x ∈ l
  | [], ks => by
    unfold replay
    simp
  | k :: l, ks => by
    show x ∈ replay ((stepK ks (.take k)).getD ks) (l.map Deed.take) ↔ _
    rw [mem_replay]
    have : x ∈ (stepK ks (.take k)).getD ks ↔ x ∈ ks ∨ x = k := by
      unfold stepK
      by_cases hk : k ∈ ks
      · simp only [if_pos hk]
        show x ∈ ks ↔ _
        exact ⟨.inl, fun h => h.elim id fun e => e ▸ hk⟩
      · simp only [if_neg hk]
        show x ∈ setOf PyData.str (ks ++ [k]) ↔ _
        rw [mem_setOf]
        simp
    rw [this, List.mem_cons]
    exact ⟨fun h => h.elim (fun h => h.elim .inl fun e => .inr (.inl e)) fun h => .inr (.inr h), fun h => h.elim (fun h => .inl (.inl h)) fun h => h.elim (fun e => .inl (.inr e)) .inr⟩
theorem zipIdx_range {α : Type} [Inhabited α] (l : List α) : l.zipIdx = (List.range l.length).map fun n => (l.getD n default, n) := by
  refine List.ext_getElem? fun i => ?_
  rw [List.getElem?_zipIdx, List.getElem?_map]
  by_cases h : i < l.length
  · rw [List.getElem?_range h, List.getElem?_eq_getElem h]
    simp [List.getD_eq_getElem?_getD, List.getElem?_eq_getElem h]
  · rw [List.getElem?_eq_none (by omega), List.getElem?_eq_none (by rw [List.length_range]; omega)]
    rfl
instance : Inhabited Deed := ⟨.take default⟩
theorem split_at {l : List Str} (nd : l.Nodup) {n : Nat} {k x : Str} (h : l[n]? = some k) : (x ∈ l.take n ∨ x ∈ l.drop (n + 1)) ↔ x ∈ l ∧ x ≠ k := by
  have hn : n < l.length := (List.getElem?_eq_some_iff.mp h).1
  have e : l = l.take n ++ k :: l.drop (n + 1) := by
    have := (List.getElem?_eq_some_iff.mp h).2
    rw [← this, List.getElem_cons_drop, List.take_append_drop]
  constructor
  · intro hx
    refine ⟨hx.elim (fun h => List.mem_of_mem_take h) fun h => List.mem_of_mem_drop h, fun z => ?_⟩
    subst z
    rw [e, List.nodup_append] at nd
    obtain ⟨_, n2, n3⟩ := nd
    rw [List.nodup_cons] at n2
    rcases hx with hx | hx
    · exact n3 x hx x List.mem_cons_self rfl
    · exact n2.1 hx
  · rintro ⟨hx, hne⟩
    rw [e, List.mem_append, List.mem_cons] at hx
    rcases hx with hx | hx | hx
    · exact .inl hx
    · exact absurd hx hne
    · exact .inr hx
section
variable {N : Net} {hours lot : List Int}
theorem keys_few (ng : Ng N) (hl : hours.length = (keysOf N).length) : (ordOf N hours).length ≤ 4 := by
  have := (ord_perm hl).length_eq
  have := keysOf_len ng.nt.sm
  omega
theorem had_len (ord : List Str) (i : Nat) : (hadAt ord i).length ≤ ord.length := by
  rw [(hadAt_perm ord i).length_eq, List.length_take]
  omega
/-- a key that is in all openers, and one without which the lot does not go -/
theorem all_openers (ng : Ng N) {k : Str} : ((minOf (fineOf N lot)).all fun own => decide (k ∈ own)) = !goesB N (others N [k]) lot := by
  cases h : goesB N (others N [k]) lot with
  | true =>
    obtain ⟨own, h1, h2⟩ := opener_in ng h
    show _ = false
    rw [← Bool.not_eq_true, List.all_eq_true]
    intro z
    have := z own h1
    rw [decide_eq_true_eq] at this
    have := (mem_others.mp (h2 k this)).2
    exact this (List.mem_singleton.mpr rfl)
  | false =>
    show _ = true
    rw [List.all_eq_true]
    intro own ho
    rw [decide_eq_true_eq]
    apply Classical.byContradiction
    intro hk
    have hs := fine_sub own (mem_minOf.mp ho).1
    rw [opener_goes ng ho (fun x hx => mem_others.mpr ⟨hs.subset hx, fun z => hk (by rw [← List.mem_singleton.mp z]; exact hx)⟩)] at h
    cases h
theorem need_eq (ng : Ng N) (hl : hours.length = (keysOf N).length) :
    ((((ordOf N hours).map Deed.take).zipIdx.filter fun p => (minOf (fineOf N lot)).all fun own => decide (p.1.key ∈ own)).map (·.2)) = neededOf N (hadsTo (ordOf N hours) (ordOf N hours).length) ((ordOf N hours).map Deed.take) lot := by
  rw [zipIdx_range, List.filter_map, List.map_map]
  unfold neededOf
  have e : ((fun p : Deed × Nat => p.2) ∘ fun n => (((ordOf N hours).map Deed.take).getD n default, n)) = id := by
    funext n
    rfl
  rw [e, List.map_id]
  refine List.filter_congr fun n hn => ?_
  rw [List.mem_range, List.length_map] at hn
  have hk : (ordOf N hours)[n]? = some (ordOf N hours)[n] := List.getElem?_eq_getElem hn
  generalize (ordOf N hours)[n] = k at hk
  have h1 : ((ordOf N hours).map Deed.take).getD n default = .take k := by
    rw [List.getD_eq_getElem?_getD, List.getElem?_map, hk]
    rfl
  have h2 : (hadsTo (ordOf N hours) (ordOf N hours).length).getD n [] = hadAt (ordOf N hours) n := by
    rw [List.getD_eq_getElem?_getD]
    unfold hadsTo
    rw [List.getElem?_map, List.getElem?_range (by omega)]
    rfl
  show ((minOf (fineOf N lot)).all fun own => decide ((((ordOf N hours).map Deed.take).getD n default).key ∈ own)) = _
  rw [h1, h2]
  show ((minOf (fineOf N lot)).all fun own => decide (k ∈ own)) = _
  rw [all_openers ng]
  congr 1
  refine g_congr ng fun x hx => ?_
  rw [← List.map_drop, mem_replay, hadAt_mem, split_at (ord_nodup hl) hk, mem_others, List.mem_singleton, ord_mem hl]
theorem br_of (ng : Ng N) (hl : hours.length = (keysOf N).length) (hg : goesB N (hadAt (ordOf N hours) (ordOf N hours).length) lot = true) {so : List Str} (ho : so ∈ minOf (shutOf N lot)) :
    ∃ k0 k3, Br N lot (hadAt (ordOf N hours) (ordOf N hours).length) (hadsTo (ordOf N hours) (ordOf N hours).length) ((ordOf N hours).map Deed.take) so k0 k3 := by
  have hs := shut_sub so (mem_minOf.mp ho).1
  have hno := ((mem_shut ng).mp (mem_minOf.mp ho).1).2
  have nd : so.Nodup := (keysOf_nodup N).sublist hs
  have hf := keys_few ng hl
  have hlen : so.length ≤ 4 := by
    have := hs.length_le
    have := keysOf_len ng.nt.sm
    omega
  have hgive : ∀ i, goesB N (gives (hadAt (ordOf N hours) (ordOf N hours).length) so i) lot = goesB N (others N (so.take i)) lot := fun i => g_congr ng fun x hx => by
    unfold gives
    rw [List.mem_filter, hadAll hl, mem_others]
    simp
  have hall : goesB N (others N []) lot = true := g_mono ng (fun k hk _ => mem_others.mpr ⟨hk, by simp⟩) hg
  cases so with
  | nil =>
    rw [hall] at hno
    cases hno
  | cons k0 rest =>
    have hni : k0 ∉ gives (hadAt (ordOf N hours) (ordOf N hours).length) (k0 :: rest) (k0 :: rest).length := fun z => by
      unfold gives at z
      have := (List.mem_filter.mp z).2
      rw [List.take_length] at this
      simp at this
    refine ⟨k0, setOf PyData.str (gives (hadAt (ordOf N hours) (ordOf N hours).length) (k0 :: rest) (k0 :: rest).length ++ [k0]), nd, fun k hk => (hadAll hl).mpr (hs.subset hk), rfl, by omega, fun i hi => ?_, ?_, ?_, ?_, ?_, ?_, fun own hown => ?_⟩
    · rw [hgive]
      refine barrier_less ng ho (List.take_sublist _ _) fun z => ?_
      have := congrArg List.length z
      rw [List.length_take] at this
      omega
    · rw [hgive, List.take_length]
      exact hno
    · unfold stepK
      simp only
      rw [if_neg hni]
    · have h1 := setOf_len (enc := PyData.str) (gives (hadAt (ordOf N hours) (ordOf N hours).length) (k0 :: rest) (k0 :: rest).length ++ [k0])
      have h2 : (gives (hadAt (ordOf N hours) (ordOf N hours).length) (k0 :: rest) (k0 :: rest).length).length ≤ 4 := Nat.le_trans (List.length_filter_le _ _) (Nat.le_trans (had_len _ _) hf)
      rw [List.length_append, List.length_singleton] at h1
      omega
    · have h1 : goesB N (others N rest) lot = true := barrier_less ng ho (List.sublist_cons_self _ _) fun z => by
        have := congrArg List.length z
        simp at this
      refine g_mono ng (fun x hx hm => ?_) h1
      rw [mem_setOf, List.mem_append, List.mem_singleton]
      by_cases e : x = k0
      · exact .inr e
      · refine .inl ?_
        unfold gives
        rw [List.mem_filter, hadAll hl, List.take_length]
        refine ⟨hx, ?_⟩
        have := (mem_others.mp hm).2
        simp [e, this]
    · unfold neededOf
      have hTl := eyeT_len (T := (ordOf N hours).map Deed.take) (Nat.le_refl (k0 :: rest).length)
      rw [List.mem_filter, List.mem_range, List.length_append, hTl, List.length_singleton]
      refine ⟨by omega, ?_⟩
      have hd : List.drop (((ordOf N hours).map Deed.take).length + (k0 :: rest).length + 1) (eyeT ((ordOf N hours).map Deed.take) (k0 :: rest) (k0 :: rest).length ++ [Deed.take k0]) = [] := by
        rw [List.drop_eq_nil_iff, List.length_append, hTl, List.length_singleton]
        exact Nat.le_refl _
      rw [hd]
      have hSl := eyeS_len (hadsTo (ordOf N hours) (ordOf N hours).length) (hadAt (ordOf N hours) (ordOf N hours).length) (k0 :: rest) (k0 :: rest).length
      have hlS : (hadsTo (ordOf N hours) (ordOf N hours).length).length = (ordOf N hours).length + 1 := by
        unfold hadsTo
        rw [List.length_map, List.length_range]
      have hlast := eye_last (so := k0 :: rest) (hadsTo_last (ordOf N hours) (ordOf N hours).length) (k0 :: rest).length
      rw [List.getLast?_eq_getElem?, hSl, hlS] at hlast
      have hget : (eyeS (hadsTo (ordOf N hours) (ordOf N hours).length) (hadAt (ordOf N hours) (ordOf N hours).length) (k0 :: rest) (k0 :: rest).length ++ [setOf PyData.str (gives (hadAt (ordOf N hours) (ordOf N hours).length) (k0 :: rest) (k0 :: rest).length ++ [k0])]).getD (((ordOf N hours).map Deed.take).length + (k0 :: rest).length) [] = gives (hadAt (ordOf N hours) (ordOf N hours).length) (k0 :: rest) (k0 :: rest).length := by
        rw [List.getD_eq_getElem?_getD, List.length_map, List.getElem?_append_left (by rw [hSl, hlS]; omega)]
        rw [show (ordOf N hours).length + (k0 :: rest).length = (ordOf N hours).length + 1 + (k0 :: rest).length - 1 from by omega, hlast]
        rfl
      rw [hget]
      show (!goesB N (gives _ _ _) lot) = true
      rw [hgive, List.take_length, hno]
      rfl
    · rw [← Bool.not_eq_true, List.isEmpty_iff, List.filter_eq_nil_iff]
      intro z
      have hsub := fine_sub own (mem_minOf.mp hown).1
      rw [opener_goes ng hown (fun x hx => mem_others.mpr ⟨hsub.subset hx, fun w => z x hx (by simpa using w)⟩)] at hno
      cases hno
theorem lr_of (ng : Ng N) (hl : hours.length = (keysOf N).length) (hlen : lot.length ≤ 100) : Lr N (hadAt (ordOf N hours) (ordOf N hours).length) (hadsTo (ordOf N hours) (ordOf N hours).length) ((ordOf N hours).map Deed.take) lot := by
  have hf := keys_few ng hl
  have hb : ∀ i, (hadAt (ordOf N hours) i).length ≤ 4 := fun i => Nat.le_trans (had_len _ _) hf
  have hlS : (hadsTo (ordOf N hours) (ordOf N hours).length).length = (ordOf N hours).length + 1 := by
    unfold hadsTo
    rw [List.length_map, List.length_range]
  refine ⟨ng, hlen, hadsTo_last _ _, Nat.le_trans (hb _) (by decide), fun s hs => ?_, by omega, by rw [List.length_map]; omega, by rw [List.length_map, hlS], opn_eq ng lot, bar_eq ng lot, fun h => ?_, fun _ => need_eq ng hl, fun h so ho => br_of ng hl h (List.mem_of_mem_take ho)⟩
  · unfold hadsTo at hs
    obtain ⟨i, _, rfl⟩ := List.mem_map.mp hs
    have := hb i
    omega
  · have : fineOf N lot = [] := by
      rw [List.eq_nil_iff_forall_not_mem]
      intro s hs
      obtain ⟨h1, h2⟩ := (mem_fine ng).mp hs
      rw [g_mono ng (fun k hk _ => (hadAll hl).mpr hk) h2] at h
      cases h
    rw [this]
    rfl
/-- all that case_right asks holds -/
theorem ca_of (ng : Ng N) (hl : hours.length = (keysOf N).length) (h0 : ∀ h ∈ hours, 0 ≤ h) {lots : List (List Int)} (ll : lots.length ≤ 100) (hlen : ∀ l ∈ lots, l.length ≤ 100) : Ca N hours lots := by
  refine ⟨⟨ng, hl, ll, fun lot hlot => ⟨hlen lot hlot, fun i _ => goes_same ng _ _, hour_due ng hl h0 lot, fun t ht => ?_⟩⟩, fun lot hlot => lr_of ng hl (hlen lot hlot), ?_⟩
  · rw [← hour_due ng hl h0 lot] at ht
    unfold hourOf at ht
    have := List.find?_some ht
    rw [← goes_same ng]
    exact this
  · refine asc_unique en_str ?_ (setOf_asc en_str _) fun x => hadAll hl
    have nd : (hadAt (ordOf N hours) (ordOf N hours).length).Nodup := (hadAt_perm _ _).nodup_iff.mpr (List.Nodup.sublist (List.take_sublist _ _) (ord_nodup hl))
    cases h : (ordOf N hours).length with
    | zero =>
      unfold hadAt
      rw [List.take_zero]
      exact List.Pairwise.nil
    | succ n =>
      have hn : (ordOf N hours)[n]? = some (ordOf N hours)[n] := List.getElem?_eq_getElem (by omega)
      rw [h] at nd
      rw [hadAt_succ hn] at nd ⊢
      exact (srt_asl en_str _).asc en_str nd
end
end Kl
set_option linter.all false
set_option maxRecDepth 100000
set_option maxHeartbeats 4000000
/-! # Z9: right, law -/
namespace Kl
open PySem PySem.Spec PyProof.Rows L2
section
variable {ok : Addr → Prop} {W W1 W2 : Wd ok} {X : Cx} {δ : DEnv ok}
/-- a call whose third argument is one of some kinds -/
theorem zcall3 {x : Str} {k : Nat} {ps : List Str} {A : Prm} {e e2 e3 : Expr} {p pos : Pos} {P1 P2 P : Ty ok} {α : Type} {good : α → Prop} {T : α → Ty ok} (F : Df X.prog X.w X.K X.mg X.base k x ps (spt A)) (hr : Room k X.A) (h1 : PEv W X e δ P1) (h2 : PEv W X e2 δ P2) (h3 : PEz W W1 X e3 δ (Ek good T)) (h : ∀ a, good a → A ok W1 W2 [P1, P2, T a] P)
    (hg : Gl X x := by rfl) (hdb : (x == ("__debug__" : Str)) = false := by decide) (he : starEach [e, e2, e3] X.env = (false, eval e X.env) :: starEach [e2, e3] X.env := by rfl) (he2 : starEach [e2, e3] X.env = (false, eval e2 X.env) :: starEach [e3] X.env := by rfl) (he3 : starEach [e3] X.env = (false, eval e3 X.env) :: starEach [] X.env := by rfl) (hpl : (backTo pos (starEach [e2, e3] X.env)).any (·.1) = false := by rfl) :
    PEz W W2 X (.Call (.Name x p) [e, e2, e3] [] pos) δ P := by
  obtain ⟨f, fd, hm, hk, hb, F⟩ := F.ex
  refine PEz.of (pe_call F hr hg hm hk hb .nil pass0 paW hdb he hpl) fun σ H Q sl q => (azcons h1.z (azcons h2.z (azcons h3 (azof anil) he3) he2) he).run σ H _ sl fun vs H1 r1 j1 p1 => ?_
  rw [List.append_nil]
  cases p1 with
  | cons p t =>
    cases t with
    | cons p2 t =>
      cases t with
      | cons p3 t =>
        cases t
        obtain ⟨a, g, p3⟩ := p3
        exact ⟨ok, W1, W2, _, P, j1, .cons p (.cons p2 (.cons p3 .nil)), h a g, fun v H2 s2 j2 p => q v H2 (r1.trans s2) j2 p⟩
/-- f() -/
theorem vcall0 {x : Str} {k : Nat} {A : Prm} {p pos : Pos} {P : Ty ok} (F : Df X.prog X.w X.K X.mg X.base k x [] (spt A)) (hr : Room k X.A) (h : A ok W W [] P) (hg : Gl X x := by rfl) (hdb : (x == ("__debug__" : Str)) = false := by decide) : PEv W X (.Call (.Name x p) [] [] pos) δ P := by
  obtain ⟨f, fd, hm, hk, hb, F⟩ := F.ex
  refine PEv.of (pe_call0 F hr hg hm hk hb .nil pass0 hdb) fun σ H Q sl q => ?_
  exact ⟨ok, W, W, [], P, sl.j, .nil, h, fun v H2 s2 j2 p2 => q v H2 ⟨s2, j2⟩ p2⟩
/-- the worlds of an urn at p -/
def urnW (W : Wd ok) {p : Addr} (kp : ok p) (n : Nat) : Wd (Kl.exl ok p) := W.obj kp (fun o => ∃ a b c : Int, o = .lst [.int a, .int b, .int c] ∧ Ub n a b c) fun xs ⟨_, _, _, z, _⟩ => nomatch z
theorem us_urn {p : Addr} (kp : ok p) : Us p (urnW W kp) where
  no := fun z => z.2 rfl
  get := fun {n H} ⟨j, o, h, a, b, c, e, k⟩ => ⟨a, b, c, by rw [h, e], k⟩
  set := fun {n m H a b c} j k => obj_set j ⟨a, b, c, rfl, k⟩
end
section
variable {P : Program} {w : World} {K : PySem.W.Frag} {mg : Str → Option Value} {base : Heap}
def A_right : Prm := fun ok W W' Ps T => ∃ (u : Addr) (U : Nat → Wd ok), Us u U ∧ W = U 0 ∧ W' = U 2000 ∧ Ps = [At u] ∧ T = D (.bool true)
theorem sc_L_right : FnScope ["_law_urn", "_law_hub", "_law_hours_so", "_law_key", "_law_lap"] ["_law_urn"] (defScope s_L_right) := ⟨rfl, rfl, rfl, by decide +kernel, rfl, by decide +kernel, by decide +kernel⟩
def lateHours : List Int := [0, 1, 2, 3, 10 ^ 30]
theorem late_pos : ∀ h ∈ lateHours, 0 ≤ h := by decide +kernel
theorem ok_L_right {k : Nat} {f : Addr} {fd : FuncData} (F : Fun K "_law_right" "_law_right" s_L_right f fd) (m : Mn mg) (d_net : Df P w K mg base (k + 1) "_law_net" ["_law_urn", "_law_sites", "_law_ways", "_law_rings", "_law_folk"] (spt A_net)) (d_of : Df P w K mg base (k + 1) "_law_of" ["_law_urn", "_law_some"] (spt A_of))
    (d_keys : Df P w K mg base (k + 1) "_law_keys" ["_law_hub"] (spt A_keys_of)) (d_lot : Df P w K mg base (k + 1) "_law_lot" ["_law_urn", "_law_hub"] (spt A_lot)) (d_case : Df P w K mg base (k + 1) "_law_case_right" ["_law_hub", "_law_hours_so", "_law_lots"] (spt A_L_case)) : FnOk P w K mg base CX0 (k + 2) f fd ["_law_urn"] (spt A_right) :=
  okp F sc_L_right (fun _ _ _ _ _ h => by
    obtain ⟨u, U, _, _, _, rfl, _⟩ := h
    rfl) fun cdv B outer s H E hr ok W W' Ps T' h => by
  obtain ⟨u, U, us, rfl, rfl, rfl, rfl⟩ := h
  have nd := sc_L_right.nd
  refine bcons (ssetz 1 nd (zcall d_net hr (azof (acons (vv 0) (acons vint (acons vint (acons vint (acons vint anil)))))) ⟨u, U, 0, us, by omega, rfl, rfl, rfl, rfl⟩)) ?_
  refine bex 1 rfl fun N dn => ?_
  have ng := dn.ng
  have hkl := keysOf_len ng.nt.sm
  refine bcons (ssetz 2 nd (W1 := U 600) (P := Ek (fun hs : List Int => hs.length = (keysOf N).length ∧ ∀ h ∈ hs, 0 ≤ h) fun hs => D (ii hs)) (PEz.to (ztuple m.tuple (PEz.sub (vlcz (own := [("_law_key", 3)]) (keysOf N) (fun c => D (.str c)) (fun _ => Ek (fun h : Int => 0 ≤ h) fun h => D (.int h)) (fun i => U (500 + i)) rfl nd (by kernel_rfl) (iTm (vcall d_keys hr (acons (PEv.sub (vv 1) fun H v h => Hub.d ng.ne h) anil) ⟨N, ng.nt.sm, rfl, rfl, rfl⟩)) (by omega) fun i c hc => turnz (fun _ _ _ _ _ => gname 3 nd) (fun _ _ _ _ _ => PEz.sub (zcall d_of hr (azof (acons (vv 0) (acons (vlst (ds := lateHours.map PyData.int) (dcons vint (dcons vint (dcons vint (dcons vint (dcons (vpow vint vint ⟨by decide, by decide, by decide⟩) dnil))))) (few (by show 5 ≤ 10000000; decide))) anil))) ⟨u, U, 500 + i, lateHours.map PyData.int, us, by have := (List.getElem?_eq_some_iff.mp hc).1; omega, by decide +kernel, by decide +kernel, rfl, rfl, rfl, rfl⟩) fun H v ⟨d, hd, z⟩ => by
      obtain ⟨h, hh, rfl⟩ := List.mem_map.mp hd
      exact ⟨h, late_pos h hh, z⟩) (nol_ek fun _ => nol_imm rfl)) fun H v p => ls_ek p)) fun H j => us.mono (by omega) j)) ?_
  refine bex 2 rfl fun hours hhours => ?_
  refine bretz (PEz.to (zcall3 (W2 := U 610) d_case hr (vv 1) (vv 2) (PEz.to (PEz.sub (vlcz (own := [("_law_lap", 4)]) (List.range 2) (fun i => D (.int (i : Nat))) (fun _ => Ek (fun l : List Int => l.length ≤ 4) fun l => D (ii l)) (fun i => U (600 + 4 * i)) rfl nd (by kernel_rfl) (iRng m.range vint (by decide)) (by decide) fun i c hc => turnz (fun _ _ _ _ _ => gname 4 nd) (fun _ _ _ _ _ => PEz.to (zcall d_lot hr (azof (acons (vv 0) (acons (vv 1) anil))) ⟨u, U, 600 + 4 * i, N, us, by have := (List.getElem?_eq_some_iff.mp hc).1; rw [List.length_range] at this; omega, ng.nt.sm.custs, ng.ne, rfl, rfl, rfl, rfl⟩) fun H j => us.mono (by omega) j) (nol_ek fun _ => nol_imm (imm_ii _))) fun H v p => ls_ek p) fun H j => us.mono (n := 600 + 4 * (List.range 2).length) (by rw [List.length_range]; omega) j) fun lots hlots => ⟨N, hours, lots, ca_of ng hhours.1 hhours.2 (by have := hlots.1; rw [List.length_range] at this; omega) (fun l hl => by have := hlots.2 l hl; omega), rfl, rfl, rfl⟩) fun H j => us.mono (by omega) j)
def A_hand : Prm := fun ok W W' Ps T => W' = W ∧ Ps = [] ∧ T = D (.bool true)
/-- right(box(cells, k)) -/
theorem vright {ok : Addr → Prop} {W : Wd ok} {X : Cx} {δ : DEnv ok} {k : Nat} {e1 e2 : Expr} {p p2 pos pos2 : Pos} {x : Int} (F1 : Df X.prog X.w X.K X.mg X.base k "_law_right" ["_law_urn"] (spt A_right)) (F2 : Df X.prog X.w X.K X.mg X.base k "_law_box" ["_law_script", "_law_k"] spBox) (hr : Room k X.A) (ha : PAv W X [e1, e2] δ [D (.list [.int x]), D (.int 0)])
    (hg : Gl X "_law_right" := by rfl) (hg2 : Gl X "_law_box" := by rfl) (he : starEach [.Call (.Name "_law_box" p2) [e1, e2] [] pos2] X.env = (false, eval (.Call (.Name "_law_box" p2) [e1, e2] [] pos2) X.env) :: starEach [] X.env := by rfl) (he2 : starEach [e1, e2] X.env = (false, eval e1 X.env) :: starEach [e2] X.env := by rfl) (hpl : (backTo pos (starEach [] X.env)).any (·.1) = false := by rfl) (hpl2 : (backTo pos2 (starEach [e2] X.env)).any (·.1) = false := by rfl) :
    PEv W X (.Call (.Name "_law_right" p) [.Call (.Name "_law_box" p2) [e1, e2] [] pos2] [] pos) δ (D (.bool true)) := by
  obtain ⟨f, fd, hm, hk, hb, F1⟩ := F1.ex
  obtain ⟨f2, fd2, hm2, hk2, hb2, F2⟩ := F2.ex
  refine PEv.of (pe_call F1 hr hg hm hk hb .nil pass0 (pa_cons (pe_call F2 hr hg2 hm2 hk2 hb2 .nil pass0 paW (by decide) he2 hpl2) pa_nil he) (by decide) he hpl) fun σ H Q sl q => ha.run σ H _ sl fun vs H1 l1 p1 => ?_
  rw [List.append_nil]
  refine ⟨ok, W, x, l1.j, p1, fun a b u H2 ub hu l2 => ?_⟩
  have ku : ok u := W.fresh l2.j hu
  have un : H u = none := bkNone ku (l1.trans l2).rel hu
  refine ⟨Kl.exl ok u, urnW W ku 0, urnW W ku 2000, [At u], D (.bool true), obj_new l2.j hu ⟨a, b, 0, rfl, ub⟩, .cons rfl .nil, ⟨u, urnW W ku, us_urn ku, rfl, rfl, rfl, rfl⟩, fun v H3 r3 j3 p3 => q v H3 ⟨fun c o kc e => ?_, obj_j j3⟩ p3.unx⟩
  have ne : c ≠ u := ne_of_none e un
  exact r3 c o ⟨kc, ne⟩ (by rw [upd_ne ne]; exact (l1.trans l2).rel c o kc e)
theorem range1 {i : Nat} (hi : i ∈ List.range 1) : i = 0 := by
  rw [List.mem_range] at hi
  omega
theorem sc_law : FnScope ["_law_script", "_law_cells_here", "_law_k"] ["_law_script"] (defScope s_law) := ⟨rfl, rfl, rfl, by decide +kernel, rfl, by decide +kernel, by decide +kernel⟩
def A_law (K : PySem.W.Frag) : Prm := fun ok W W' Ps T => ∃ xs : List Int, xs.length ≤ 63 ∧ W' = W ∧ Ps = [Sq K xs] ∧ T = D (.bool true)
theorem ok_law {k : Nat} {f : Addr} {fd : FuncData} (F : Fun K "law" "law" s_law f fd) (m : Mn mg) (d_hand : Df P w K mg base (k + 1) "_law_by_hand_right" [] (spt A_hand)) (d_cells : Df P w K mg base (k + 1) "_law_cells" ["_law_script", "_law_roof"] (spt (A_cells K))) (d_right : Df P w K mg base (k + 1) "_law_right" ["_law_urn"] (spt A_right)) (d_box : Df P w K mg base (k + 1) "_law_box" ["_law_script", "_law_k"] spBox) : FnOk P w K mg base CX0 (k + 2) f fd ["_law_script"] (spt (A_law K)) :=
  okp F sc_law (fun _ _ _ _ _ h => by
    obtain ⟨xs, _, _, rfl, _⟩ := h
    rfl) fun cdv B outer s H E hr ok W W' Ps T' h => by
  obtain ⟨xs, hl, rfl, rfl, rfl⟩ := h
  have nd := sc_law.nd
  refine bwhen (x := false) (PTv.cast (tnot (tval (vcall0 d_hand hr ⟨rfl, rfl, rfl⟩))) rfl) (fun e => nomatch e) (fun _ => ?_)
  refine bcons (sset 1 nd (vcall d_cells hr (acons (vv 0) (acons vint anil)) ⟨xs, hl, rfl, rfl, rfl⟩)) ?_
  refine bret (PEv.cast (vall (bs := (List.range 1).map fun _ => true) rfl m.all (by
    rw [List.map_map]
    exact vlcA (own := [("_law_k", 2)]) (List.range 1) (fun i => D (.int (i : Nat))) (fun _ => .bool true) rfl nd (by kernel_rfl) (iRng (n := 1) m.range (vlenL (ds := [.int (cellOf xs)]) m.len (vv 1)) (by decide)) (by decide) fun i hi => turn (fun _ _ _ _ _ => gname 2 nd) (fun _ _ _ _ _ => qnil) (fun _ _ _ _ _ _ => vright d_right d_box hr (acons (vv 1) (acons (PEv.cast (vv 2) (by rw [range1 hi]; rfl)) anil))) (fun _ => nol_imm rfl))) rfl)
end
end Kl
set_option linter.all false
set_option maxRecDepth 100000
set_option maxHeartbeats 4000000
/-! # ZA: by hand -/
namespace Kl
open PySem PySem.Spec PyProof.Rows L2
mutual
/-- no list of two or three within -/
def noL : PyData → Bool
  | .list xs => decide (xs.length ≠ 2) && decide (xs.length ≠ 3) && noLs xs
  | .tuple xs => noLs xs
  | _ => true
def noLs : List PyData → Bool
  | [] => true
  | x :: xs => noL x && noLs xs
end
section
variable {ok : Addr → Prop} {p : Addr}
mutual
theorem R.exlL {H : Hp} {zs : List V} (hp : H p = some (.lst zs)) (hz : zs.length = 2 ∨ zs.length = 3) : ∀ {v : V} {d : PyData}, noL d = true → R ok H v d → R (Kl.exl ok p) H v d
  | _, _, _, .non => .non
  | _, _, _, .bl b => .bl b
  | _, _, _, .int i => .int i
  | _, _, _, .str x => .str x
  | _, _, h, .tup k h1 r => .tup ⟨k, h1.neL hp⟩ h1 (RA.exlL hp hz (by simpa [noL] using h) r)
  | _, _, h, .lst (xs := xs) k h1 r => by
    simp only [noL, Bool.and_eq_true, decide_eq_true_eq] at h
    refine .lst ⟨k, fun z => ?_⟩ h1 (RA.exlL hp hz h.2 r)
    rw [z, hp] at h1
    cases h1
    have := r.length
    omega
theorem RA.exlL {H : Hp} {zs : List V} (hp : H p = some (.lst zs)) (hz : zs.length = 2 ∨ zs.length = 3) : ∀ {vs : List V} {ds : List PyData}, noLs ds = true → RA ok H vs ds → RA (Kl.exl ok p) H vs ds
  | _, _, _, .nil => .nil
  | _, _, h, .cons r t => by
    simp only [noLs, Bool.and_eq_true] at h
    exact .cons (R.exlL hp hz h.1 r) (RA.exlL hp hz h.2 t)
end
end
section
variable {ok : Addr → Prop} {W W2 : Wd ok} {X : Cx}
/-- a tuple display, laid with its object -/
theorem vtupF {δ : DEnv ok} {es : List Expr} {x1 : Nat} {pos : Pos} {ds : List PyData} (h : PDv W X es δ ds) (hz : ds.length ≤ sizeLine) : PEv W X (.Tuple es x1 pos) δ (Fz ds) :=
  ⟨fun σ H Q sl q pins s I => by
    refine wpAny_Tuple_spliced (thn (paW.run pos pins s σ H (fun vs H1 => Le W H H1 ∧ TyA H1 vs (ds.map D)) I (h.run.run σ H _ sl fun vs H1 l p => ⟨l, p⟩)) fun us s1 ⟨xs, H1, I1, r, l1, p⟩ => ?_)
    have ra := p.ra
    have hl := ra.length
    refine ⟨by rw [← r.length, hl]; exact hz, ?_⟩
    have hf : H1 s1.heap.objs.size = none := I1.hok.fresh (Nat.le_refl _)
    refine ⟨.ref s1.heap.objs.size, upd H1 s1.heap.objs.size (.frz { cls := .type "tuple", data := .seq us.toArray } (.tup xs)), I1.laid (t' := s1.toks) (fun b u e => Heap.get?_push_of_some _ e) (Nat.le_refl _) ?_, rfl, q _ _ (l1.trans (le_upd l1.j hf)) ⟨s1.heap.objs.size, _, _, rfl, W.fresh l1.j hf, upd_same, rfl, ra.same (Rel.of (same_upd hf))⟩⟩
    exact ⟨Heap.get?_push_size _ rfl, by rw [hl]; exact hz, us, r, ⟨_, Heap.get?_push_size _ rfl, rfl, _, rfl⟩⟩⟩
/-- o.append(e), o a steady list of which nothing is known to lean on it -/
theorem sapp_raw {δ : DEnv ok} {o e : Expr} {apos cpos pos : Pos} {p : Addr} {d : PyData} (ho : PEv W X o δ (At p)) (he : PEv W X e δ (D d)) (kp : ok p)
    (hbase : attributeBase o "append" X.env (eval o X.env) = eval o X.env := by rfl)
    (hfew : ((backTo cpos (starEach [e] X.env)).all (fun x => !x.1) && (backToKw cpos (keywordEach [] X.env)).all (fun x => x.1.isSome) && decide ([e].length + ([] : List Keyword).length + (if ([] : List Keyword).isEmpty then 0 else 1) < 30)) = true := by rfl)
    (hline : (apos.endLine == cpos.line) = true := by rfl) (hs : starEach [e] X.env = (false, eval e X.env) :: starEach [] X.env := by rfl) (hplain : (backTo cpos (starEach [] X.env)).any (·.1) = false := by rfl) (hsw : swapsWith (.Call (.Attribute o "append" apos) [e] [] cpos) none pos.line X.env = pure false := by rfl) :
    ∀ (σ : L2.St) (H : Hp) (E : Ends) (vs : List V), Sl W H σ δ → H p = some (.lst vs) → vs.length ≤ 1000 → (∀ v H2, Le W H H2 → R ok H2 v d → E.nx σ (upd H2 p (.lst (vs ++ [v])))) → tSW X (.Expr (.Call (.Attribute o "append" apos) [e] [] cpos) pos) E σ H := fun σ H E vs sl hp hl q pins s I =>
  (ps_expr (pe_bm PySem.F.plainAttrs_list PySem.F.slot_list_append PySem.F.type_list_append mt_append peW paW hbase hfew hline hs hplain) hsw).run pins s σ H E I (ho.run σ H _ sl fun x H1 s1 p1 => by
    cases p1
    refine ⟨.inl ⟨rfl, _, SqL.of (s1.rel _ _ kp hp)⟩, (acons he anil hs).run σ H1 _ (sl.same s1) fun us H2 s2 p2 => ?_⟩
    cases p2 with
    | cons p2 t =>
      cases t
      exact ⟨p, vs, _, rfl, rfl, (s1.trans s2).rel _ _ kp hp, few' (by omega), q _ H2 (s1.trans s2) p2⟩)
/-- x = [..]; y = [..]; x.append(e3); y.append(e4) -/
theorem bgot (i j : Nat) {δ : List (Option PK)} {x y : Str} {es1 es2 : List Expr} {e3 e4 : Expr} {px py l1 l2 ps1 ps2 ap3 cp3 ps3 ap4 cp4 ps4 pn3 pn4 : Pos} {tail : List Stmt} {ds1 ds2 : List PyData} {d3 d4 : PyData} {P : Ty ok} (hN : X.N.Nodup) (hij : i ≠ j)
    (h1 : PDv W X es1 (inst ok δ) ds1) (h2 : ∀ p, PDv W X es2 (inst ok (δ.set i (some (kAt p)))) ds2) (h3 : ∀ p q, PEv W X e3 (inst ok ((δ.set i (some (kAt p))).set j (some (kAt q)))) (D d3)) (h4 : ∀ p q, PEv W X e4 (inst ok ((δ.set i (some (kAt p))).set j (some (kAt q)))) (D d4))
    (o3 : ∀ p q, PEv W X (.Name x pn3) (inst ok ((δ.set i (some (kAt p))).set j (some (kAt q)))) (At p)) (o4 : ∀ p q, PEv W X (.Name y pn4) (inst ok ((δ.set i (some (kAt p))).set j (some (kAt q)))) (At q))
    (n1 : ds1.length = 2) (n2 : ds2.length = 2) (m2 : noLs ds2 = true) (m3 : noL d3 = true) (m4 : noL d4 = true)
    (htail : PBv W W2 X tail (inst ok ((δ.set i (some (kD (.list (ds1 ++ [d3]))))).set j (some (kD (.list (ds2 ++ [d4])))))) P)
    (hi : X.N[i]? = some x := by rfl) (hj : X.N[j]? = some y := by rfl) (hx : Loc X.env.scope x := by first | exact Or.inl rfl | exact Or.inr rfl) (hy : Loc X.env.scope y := by first | exact Or.inl rfl | exact Or.inr rfl)
    (w1 : swapsWith (.List es1 l1) (some (.Name x px)) ps1.line X.env = pure false := by rfl) (w2 : swapsWith (.List es2 l2) (some (.Name y py)) ps2.line X.env = pure false := by rfl)
    (fx : X.fn x = true ∨ X.env.scope.names.lookup x = some .local := by first | exact .inl rfl | exact .inr rfl) (fy : X.fn y = true ∨ X.env.scope.names.lookup y = some .local := by first | exact .inl rfl | exact .inr rfl)
    (b3 : attributeBase (.Name x pn3) "append" X.env (eval (.Name x pn3) X.env) = eval (.Name x pn3) X.env := by rfl) (b4 : attributeBase (.Name y pn4) "append" X.env (eval (.Name y pn4) X.env) = eval (.Name y pn4) X.env := by rfl)
    (f3 : ((backTo cp3 (starEach [e3] X.env)).all (fun x => !x.1) && (backToKw cp3 (keywordEach [] X.env)).all (fun x => x.1.isSome) && decide ([e3].length + ([] : List Keyword).length + (if ([] : List Keyword).isEmpty then 0 else 1) < 30)) = true := by rfl) (f4 : ((backTo cp4 (starEach [e4] X.env)).all (fun x => !x.1) && (backToKw cp4 (keywordEach [] X.env)).all (fun x => x.1.isSome) && decide ([e4].length + ([] : List Keyword).length + (if ([] : List Keyword).isEmpty then 0 else 1) < 30)) = true := by rfl)
    (k3 : (ap3.endLine == cp3.line) = true := by rfl) (k4 : (ap4.endLine == cp4.line) = true := by rfl) (s3 : starEach [e3] X.env = (false, eval e3 X.env) :: starEach [] X.env := by rfl) (s4 : starEach [e4] X.env = (false, eval e4 X.env) :: starEach [] X.env := by rfl)
    (q3 : (backTo cp3 (starEach [] X.env)).any (·.1) = false := by rfl) (q4 : (backTo cp4 (starEach [] X.env)).any (·.1) = false := by rfl)
    (v3 : swapsWith (.Call (.Attribute (.Name x pn3) "append" ap3) [e3] [] cp3) none ps3.line X.env = pure false := by rfl) (v4 : swapsWith (.Call (.Attribute (.Name y pn4) "append" ap4) [e4] [] cp4) none ps4.line X.env = pure false := by rfl) :
    PBv W W2 X (.Assign [.Name x px] (.List es1 l1) ps1 :: .Assign [.Name y py] (.List es2 l2) ps2 :: .Expr (.Call (.Attribute (.Name x pn3) "append" ap3) [e3] [] cp3) ps3 :: .Expr (.Call (.Attribute (.Name y pn4) "append" ap4) [e4] [] cp4) ps4 :: tail) (inst ok δ) P :=
  PBv.of (pss_cons (ps_set hN hi hx (pe_lst paW) w1 fx) (pss_cons (ps_set hN hj hy (pe_lst paW) w2 fy) (pss_cons psW (pss_cons psW pbW)))) fun σ H E sl q => by
    refine h1.run.run σ H _ sl fun vs1 H1 a1 p1 => ?_
    have r1 := p1.ra
    refine ⟨by rw [r1.length, n1]; exact few (by decide), fun p hp => ?_⟩
    have kp : ok p := W.fresh a1.j hp
    have a2 := le_upd (o := .lst vs1) a1.j hp
    have pn : H p = none := bkNone kp a1.rel hp
    have set_at : ∀ {δ : List (Option PK)} {i : Nat} {k : PK}, (inst ok δ).set i (some (k.t ok)) = inst ok (δ.set i (some k)) := fun {δ i k} => by
      unfold inst
      rw [List.map_set]
      rfl
    have sl2 : Sl W (upd H1 p (.lst vs1)) (σ.set i (some (.ref p))) (inst ok (δ.set i (some (kAt p)))) := by
      have z := ((sl.same a1).same a2).set i (P := At p) (v := .ref p) rfl
      rw [show At p = (kAt p).t ok from rfl, set_at] at z
      exact z
    have g1 : RA (Kl.exl ok p) (upd H1 p (.lst vs1)) vs1 ds1 := (RA.exl hp r1).same fun c o kc e => by
      rw [upd_ne kc.2]
      exact e
    have e1 : upd H1 p (.lst vs1) p = some (.lst vs1) := upd_same
    generalize upd H1 p (.lst vs1) = H1' at a2 sl2 g1 e1
    refine (h2 p).run.run _ H1' _ sl2 fun vs2 H2 a3 p2 => ?_
    have r2 := p2.ra
    refine ⟨by rw [r2.length, n2]; exact few (by decide), fun u hu => ?_⟩
    have ku : ok u := W.fresh a3.j hu
    have a4 := le_upd (o := .lst vs2) a3.j hu
    have hup : u ≠ p := fun z => by
      rw [z, a3.rel _ _ kp e1] at hu
      cases hu
    have un1 : H1' u = none := bkNone ku a3.rel hu
    have un : H u = none := bkNone ku ((a1.trans a2).rel) un1
    have sl3 : Sl W (upd H2 u (.lst vs2)) ((σ.set i (some (.ref p))).set j (some (.ref u))) (inst ok ((δ.set i (some (kAt p))).set j (some (kAt u)))) := by
      have z := ((sl2.same a3).same a4).set j (P := At u) (v := .ref u) rfl
      rw [show At u = (kAt u).t ok from rfl, set_at] at z
      exact z
    have ep2 : H2 p = some (.lst vs1) := a3.rel _ _ kp e1
    have l1' : vs1.length = 2 := by rw [r1.length, n1]
    have l2' : vs2.length = 2 := by rw [r2.length, n2]
    have g2 : RA (Kl.exl (Kl.exl ok p) u) (upd H2 u (.lst vs2)) vs2 ds2 := (RA.exl hu (RA.exlL ep2 (.inl l1') m2 r2)).same fun c o kc e => by
      rw [upd_ne kc.2]
      exact e
    have g1' : RA (Kl.exl (Kl.exl ok p) u) (upd H2 u (.lst vs2)) vs1 ds1 := (RA.exl hu (g1.same fun c o kc e => a3.rel _ _ kc.1 e)).same fun c o kc e => by
      rw [upd_ne kc.2]
      exact e
    have e3 : upd H2 u (.lst vs2) p = some (.lst vs1) := by rw [upd_ne (Ne.symm hup)]; exact ep2
    have e4 : upd H2 u (.lst vs2) u = some (.lst vs2) := upd_same
    have rel0 : Rel ok H (upd H2 u (.lst vs2)) := ((a1.trans a2).trans (a3.trans a4)).rel
    generalize upd H2 u (.lst vs2) = H3 at a4 sl3 g2 g1' e3 e4 rel0
    have sl_at : ∀ {H' : Hp}, Rel (Kl.exl (Kl.exl ok p) u) H H' → W.J H' → Sl W H' ((σ.set i (some (.ref p))).set j (some (.ref u))) (inst ok ((δ.set i (some (kAt p))).set j (some (kAt u)))) := fun {H'} r jj => by
      have z : Sl W H' σ (inst ok δ) := ⟨jj, sl.len, fun m Q hm => by
        obtain ⟨k, e, rfl⟩ := inst_at hm
        obtain ⟨v, b1, b2⟩ := sl.at_ m (k.t ok) (at_inst e)
        exact ⟨v, b1, k.un (k.un ((k.t _).mono r (k.to un (k.to pn b2))))⟩⟩
      have z := (z.set i (P := At p) (v := .ref p) rfl).set j (P := At u) (v := .ref u) rfl
      rw [show At p = (kAt p).t ok from rfl, set_at, show At u = (kAt u).t ok from rfl, set_at] at z
      exact z
    have relx : ∀ {H' : Hp}, Rel (Kl.exl (Kl.exl ok p) u) H3 H' → Rel (Kl.exl (Kl.exl ok p) u) H H' := fun {H'} r c o kc e => r c o kc (rel0 c o kc.1.1 e)
    refine sapp_raw (o3 p u) (h3 p u) kp b3 f3 k3 s3 q3 v3 _ H3 _ vs1 sl3 e3 (by omega) fun v3' H4 a5 r5 => ?_
    have ep4 : H4 p = some (.lst vs1) := a5.rel _ _ kp e3
    have eu4 : H4 u = some (.lst vs2) := a5.rel _ _ ku e4
    have j4 : W.J (upd H4 p (.lst (vs1 ++ [v3']))) := lst_loc kp a5.j ep4
    have rp4 : Rel (Kl.exl (Kl.exl ok p) u) H4 (upd H4 p (.lst (vs1 ++ [v3']))) := fun c o kc e => by
      rw [upd_ne kc.1.2]
      exact e
    have rel4 : Rel (Kl.exl (Kl.exl ok p) u) H3 (upd H4 p (.lst (vs1 ++ [v3']))) := fun c o kc e => rp4 c o kc (a5.rel c o kc.1.1 e)
    have g3 : R (Kl.exl (Kl.exl ok p) u) (upd H4 p (.lst (vs1 ++ [v3']))) v3' d3 := (R.exlL (ok := Kl.exl ok p) eu4 (.inl l2') m3 (R.exlL ep4 (.inl l1') m3 r5)).same rp4
    have e5 : upd H4 p (.lst (vs1 ++ [v3'])) p = some (.lst (vs1 ++ [v3'])) := upd_same
    have e6 : upd H4 p (.lst (vs1 ++ [v3'])) u = some (.lst vs2) := by rw [upd_ne hup]; exact eu4
    generalize upd H4 p (.lst (vs1 ++ [v3'])) = H5 at j4 rel4 g3 e5 e6
    refine sapp_raw (o4 p u) (h4 p u) ku b4 f4 k4 s4 q4 v4 _ H5 _ vs2 (sl_at (relx rel4) j4) e6 (by omega) fun v4' H6 a7 r7 => ?_
    have ep6 : H6 p = some (.lst (vs1 ++ [v3'])) := a7.rel _ _ kp e5
    have eu6 : H6 u = some (.lst vs2) := a7.rel _ _ ku e6
    have j7 : W.J (upd H6 u (.lst (vs2 ++ [v4']))) := lst_loc ku a7.j eu6
    have ru6 : Rel (Kl.exl (Kl.exl ok p) u) H6 (upd H6 u (.lst (vs2 ++ [v4']))) := fun c o kc e => by
      rw [upd_ne kc.2]
      exact e
    have rel6 : Rel (Kl.exl (Kl.exl ok p) u) H5 (upd H6 u (.lst (vs2 ++ [v4']))) := fun c o kc e => ru6 c o kc (a7.rel c o kc.1.1 e)
    have g4 : R (Kl.exl (Kl.exl ok p) u) (upd H6 u (.lst (vs2 ++ [v4']))) v4' d4 := (R.exlL (ok := Kl.exl ok p) eu6 (.inl l2') m4 (R.exlL ep6 (.inr (by simp [l1'])) m4 r7)).same ru6
    have e7 : upd H6 u (.lst (vs2 ++ [v4'])) p = some (.lst (vs1 ++ [v3'])) := by rw [upd_ne (Ne.symm hup)]; exact ep6
    have e8 : upd H6 u (.lst (vs2 ++ [v4'])) u = some (.lst (vs2 ++ [v4'])) := upd_same
    generalize upd H6 u (.lst (vs2 ++ [v4'])) = H7 at j7 rel6 g4 e7 e8
    have relT : Rel (Kl.exl (Kl.exl ok p) u) H3 H7 := fun c o kc e => rel6 c o kc (rel4 c o kc e)
    have fp : R ok H7 (.ref p) (.list (ds1 ++ [d3])) := .lst kp e7 (RA.append (g1'.same relT) (.cons (g3.same rel6) .nil)).unx.unx
    have fu : R ok H7 (.ref u) (.list (ds2 ++ [d4])) := .lst ku e8 (RA.append (g2.same relT) (.cons g4 .nil)).unx.unx
    have slF : Sl W H7 ((σ.set i (some (.ref p))).set j (some (.ref u))) (inst ok ((δ.set i (some (kD (.list (ds1 ++ [d3]))))).set j (some (kD (.list (ds2 ++ [d4])))))) := by
      have z0 : Sl W H7 σ (inst ok δ) := ⟨j7, sl.len, fun m Q hm => by
        obtain ⟨k, e, rfl⟩ := inst_at hm
        obtain ⟨v, b1, b2⟩ := sl.at_ m (k.t ok) (at_inst e)
        exact ⟨v, b1, k.un (k.un ((k.t _).mono (relx relT) (k.to un (k.to pn b2))))⟩⟩
      have z := (z0.set i (P := D (.list (ds1 ++ [d3]))) fp).set j (P := D (.list (ds2 ++ [d4]))) fu
      rw [show D (ok := ok) (.list (ds1 ++ [d3])) = (kD (.list (ds1 ++ [d3]))).t ok from rfl, set_at, show D (ok := ok) (.list (ds2 ++ [d4])) = (kD (.list (ds2 ++ [d4]))).t ok from rfl, set_at] at z
      exact z
    refine htail.run _ H7 _ slF fun v H8 r8 j8 p8 => q v H8 (fun c o kc e => r8 c o kc ?_) j8 p8
    have c1 : c ≠ p := ne_of_none e pn
    have c2 : c ≠ u := ne_of_none e un
    exact relx relT c o ⟨⟨kc, c1⟩, c2⟩ e
end
end Kl
set_option linter.all false
set_option maxRecDepth 100000
set_option maxHeartbeats 4000000
/-! # ZB: by_hand_right -/
namespace Kl
open PySem PySem.Spec PyProof.Rows L2
def handN : Net := ⟨[("a", 5), ("b", 0), ("c", 0)], [⟨"l", "a", "b", 2, "k"⟩, ⟨"m", "b", "c", 2, "j"⟩, ⟨"n", "a", "c", 1, "z"⟩, ⟨"o", "c", "a", 9, "i"⟩], [("x", "c")]⟩
def handTop : Int := (10 : Int) ^ (30 : Int).toNat
def handH : List Int := [0, 4, handTop, 9]
def handO : List (List (List Str)) := [[[]], [["j", "k"], ["z"]], [["j", "k"]], [["j", "k", "z"]], []]
def handB : List (List (List Str)) := [[], [["j", "z"], ["k", "z"]], [["j"], ["k"]], [["j"], ["k"], ["z"]], [[]]]
def handDue : List (Option Int) := [some 0, some 9, some handTop, some handTop, none]
theorem hand_small : Small handN := ⟨by decide +kernel, by decide +kernel, by decide +kernel⟩
theorem hand_ng : Ng handN := ⟨⟨⟨hand_small, by decide +kernel⟩, by decide +kernel, by decide +kernel, by decide +kernel, by decide +kernel⟩, by decide +kernel⟩
theorem hand_keys : keysOf handN = (["i", "j", "k", "z"] : List Str) := by decide +kernel
theorem hand_o : ((List.range 5).map fun m : Nat => openersOf handN [(m : Int)]) = handO := by decide +kernel
theorem hand_b : ((List.range 5).map fun m : Nat => barriersOf handN [(m : Int)]) = handB := by decide +kernel
theorem hand_h : ((List.range 5).map fun m : Nat => hourOf handN handH [(m : Int)]) = handDue := by decide +kernel
def handLots : List (List Int) := (List.range 5).map fun m : Nat => [(m : Int)]
theorem hand_len : handH.length = (keysOf handN).length := by rw [hand_keys]; rfl
theorem hand_ca {hs : List Int} (h1 : hs.length = 4) (h2 : ∀ h ∈ hs, 0 ≤ h) : Ca handN hs handLots := ca_of hand_ng (by rw [hand_keys, h1]; rfl) h2 (by decide +kernel) (by decide +kernel)
def dgot : PyData := .list ([.list (handO.map fun fam => .tuple (fam.map ss)), .list (handB.map fun fam => .tuple (fam.map ss))] ++ [.list (handDue.map optI)])
theorem dgot_ok : dgot.depth < 8 ∧ wideD dgot = true := by decide +kernel
section
variable {P : Program} {w : World} {K : PySem.W.Frag} {mg : Str → Option Value} {base : Heap}
theorem sc_L_hand : FnScope ["_law_ways", "_law_hub", "_law_top", "_law_got", "_law_much", "_law_due", "_law_lots"] [] (defScope s_L_by_hand_right) := ⟨rfl, rfl, rfl, by decide +kernel, rfl, by decide +kernel, by decide +kernel⟩
theorem ok_L_hand {k : Nat} {f : Addr} {fd : FuncData} (F : Fun K "_law_by_hand_right" "_law_by_hand_right" s_L_by_hand_right f fd) (m : Mn mg) (d_openers : Df P w K mg base k "openers" ["net", "lot"] (spt A_openers)) (d_barriers : Df P w K mg base k "barriers" ["net", "lot"] (spt A_barriers)) (d_hour : Df P w K mg base k "hour" ["net", "hours", "lot"] (spt A_hour))
    (d_same : Df P w K mg base k "_law_same" ["_law_got", "_law_goal"] (spt (A_L_same 8))) (d_case : Df P w K mg base k "_law_case_right" ["_law_hub", "_law_hours_so", "_law_lots"] (spt A_L_case)) : FnOk P w K mg base CX0 (k + 1) f fd [] (spt A_hand) :=
  okp F sc_L_hand (fun _ _ _ _ _ h => by
    obtain ⟨_, rfl, _⟩ := h
    rfl) fun cdv B outer s H E hr ok W W' Ps T' h => by
  obtain ⟨rfl, rfl, rfl⟩ := h
  have nd := sc_L_hand.nd
  have hne : handN.yards ≠ [] := by decide +kernel
  refine bcons (sset 0 nd (P := D (.tuple (handN.lines.map encLn))) (by
    repeat' (first | exact dnil | refine dcons ?_ ?_ | exact vstr | exact vint | refine vtup ?_ ?_ | exact few (by decide)))) ?_
  refine bcons (δ1 := inst ok [some (kD (.tuple (handN.lines.map encLn))), some (kHub handN), some (kD (.int handTop)), none, none, none, none]) (by
    refine sasg (P := Tp [Hub handN, D (.int handTop)]) (by
      refine vtupK (Ps := [Hub handN, D (.int handTop)]) (acons ?_ (acons (vpow vint vint ⟨by decide, by decide, by decide⟩) anil)) (few (by show 2 ≤ 10000000; decide))
      refine vtupK (Ps := [Fz (handN.yards.map encY), D (.tuple (handN.lines.map encLn)), D (.tuple (handN.custs.map encC))]) (acons ?_ (acons (vv 0) (acons ?_ anil))) (few (by show 3 ≤ 10000000; decide))
      · refine vtupF (ds := handN.yards.map encY) ?_ (few (by decide))
        repeat' (first | exact dnil | refine dcons ?_ ?_ | exact vstr | exact vint | refine vtup ?_ ?_ | exact few (by decide))
      · repeat' (first | exact dnil | refine dcons ?_ ?_ | exact vstr | exact vint | refine vtup ?_ ?_ | exact few (by decide))) (by exact gtupK rfl (gscons (gname 1 nd) (gscons (gname 2 nd) gsnil)))) ?_
  have e1 : ((List.range 5).map fun i : Nat => PyData.tuple ((openersOf handN [(i : Int)]).map ss)) = handO.map fun fam => .tuple (fam.map ss) := by
    rw [← hand_o, List.map_map]
    rfl
  have e2 : ((List.range 5).map fun i : Nat => PyData.tuple ((barriersOf handN [(i : Int)]).map ss)) = handB.map fun fam => .tuple (fam.map ss) := by
    rw [← hand_b, List.map_map]
    rfl
  have e3 : ((List.range 5).map fun i : Nat => optI (hourOf handN handH [(i : Int)])) = handDue.map optI := by
    rw [← hand_h, List.map_map]
    rfl
  refine bgot (δ := [some (kD (.tuple (handN.lines.map encLn))), some (kHub handN), some (kD (.int handTop)), none, none, none, none]) (ds1 := [.list (handO.map fun fam => .tuple (fam.map ss)), .list (handB.map fun fam => .tuple (fam.map ss))]) (ds2 := [.list (handO.map fun fam => .tuple (fam.map ss)), .list (handB.map fun fam => .tuple (fam.map ss))]) (d3 := .list (handDue.map optI)) (d4 := .list (handDue.map optI)) 3 5 nd (by decide)
    (dcons (PEv.cast (vlcA (own := [("_law_much", 4)]) (List.range 5) (fun i => D (.int (i : Nat))) (fun i => .tuple ((openersOf handN [(i : Int)]).map ss)) rfl nd (by kernel_rfl) (iRng (n := 5) m.range vint (by decide)) (by decide) fun i hi => turn (fun _ _ _ _ _ => gname 4 nd) (fun _ _ _ _ _ => qnil) (fun _ _ _ _ _ _ => vcall d_openers hr (acons (PEv.sub (vv 1) fun H v h => Hub.d hne h) (acons (vtup (ds := [.int ((i : Nat) : Int)]) (dcons (vv 4) dnil) (few (by show 1 ≤ 10000000; decide))) anil)) ⟨handN, [(i : Int)], hand_ng.nt, rfl, rfl, rfl⟩) (fun _ => nol_imm (by rw [imm, immAll_map imm_ss]))) (by rw [e1])) (dcons (PEv.cast (vlcA (own := [("_law_much", 4)]) (List.range 5) (fun i => D (.int (i : Nat))) (fun i => .tuple ((barriersOf handN [(i : Int)]).map ss)) rfl nd (by kernel_rfl) (iRng (n := 5) m.range vint (by decide)) (by decide) fun i hi => turn (fun _ _ _ _ _ => gname 4 nd) (fun _ _ _ _ _ => qnil) (fun _ _ _ _ _ _ => vcall d_barriers hr (acons (PEv.sub (vv 1) fun H v h => Hub.d hne h) (acons (vtup (ds := [.int ((i : Nat) : Int)]) (dcons (vv 4) dnil) (few (by show 1 ≤ 10000000; decide))) anil)) ⟨handN, [(i : Int)], hand_ng.nt, rfl, rfl, rfl⟩) (fun _ => nol_imm (by rw [imm, immAll_map imm_ss]))) (by rw [e2])) dnil)) (fun p => ?_)
    (fun p q => PEv.cast (vlcA (own := [("_law_much", 4)]) (List.range 5) (fun i => D (.int (i : Nat))) (fun i => optI (hourOf handN handH [(i : Int)])) rfl nd (by kernel_rfl) (iRng (n := 5) m.range vint (by decide)) (by decide) fun i hi => turn (fun _ _ _ _ _ => gname 4 nd) (fun _ _ _ _ _ => qnil) (fun _ _ _ _ _ _ => vcall d_hour hr (acons (PEv.sub (vv 1) fun H v h => Hub.d hne h) (acons (vtup (ds := handH.map .int) (dcons vint (dcons vint (dcons (vv 2) (dcons vint dnil)))) (few (by decide))) (acons (vtup (ds := [.int ((i : Nat) : Int)]) (dcons (vv 4) dnil) (few (by show 1 ≤ 10000000; decide))) anil))) ⟨handN, handH, [(i : Int)], hand_ng.nt, by decide, rfl, rfl, rfl⟩) (fun _ => nol_imm (by cases hourOf handN handH [(i : Int)] <;> rfl))) (by rw [e3]))
    (fun p q => vlst (ds := handDue.map optI) (dcons vint (dcons vint (dcons (vv 2) (dcons (vv 2) (dcons vnon dnil))))) (few (by decide)))
    (fun p q => vv 3) (fun p q => vv 5) rfl rfl (by decide +kernel) (by decide +kernel) (by decide +kernel) ?_
  · repeat' (first | exact dnil | refine dcons ?_ ?_ | exact vstr | exact vint | refine vtup ?_ ?_ | refine vlst ?_ ?_ | exact few (by decide))
  · refine bwhen (x := false) (PTv.cast (tnot (tval (vcall d_same hr (acons (vv 3) (acons (vv 5) anil)) ⟨dgot, dgot_ok.1, dgot_ok.2, rfl, rfl, rfl⟩))) rfl) (fun e => nomatch e) (fun _ => ?_)
    refine bcons (ssetLcA 6 (own := [("_law_much", 4)]) (List.range 5) (fun i => D (.int (i : Nat))) (fun i => ii [(i : Int)]) rfl nd rfl (sw_true rfl rfl rfl (by decide +kernel)) (by kernel_rfl) (iRng (n := 5) m.range vint (by decide)) (by decide) fun i hi => turn (fun _ _ _ _ _ => gname 4 nd) (fun _ _ _ _ _ => qnil) (fun _ _ _ _ _ _ => (vtup (ds := [.int ((i : Nat) : Int)]) (dcons (vv 4) dnil) (few (by show 1 ≤ 10000000; decide)))) (fun _ => nol_imm (imm_ii _))) ?_
    have el : ((List.range 5).map fun i : Nat => ii [(i : Int)]) = handLots.map ii := by
      unfold handLots
      rw [List.map_map]
      rfl
    rw [el]
    refine bret (PEv.cast (vand (vcall d_case hr (acons (vv 1) (acons (vtup (ds := handH.map .int) (dcons vint (dcons vint (dcons (vv 2) (dcons vint dnil)))) (few (by decide))) (acons (vv 6) anil))) ⟨handN, handH, handLots, hand_ca rfl (by decide +kernel), rfl, rfl, rfl⟩) fun _ => vone (vcall d_case hr (acons (vv 1) (acons (vtup (ds := ([7, 7, 7, 7] : List Int).map .int) (dcons vint (dcons vint (dcons vint (dcons vint dnil)))) (few (by decide))) (acons (vv 6) anil))) ⟨handN, [7, 7, 7, 7], handLots, hand_ca rfl (by decide +kernel), rfl, rfl, rfl⟩)) rfl)
end
end Kl
set_option linter.all false
set_option maxRecDepth 100000
set_option maxHeartbeats 0
/-! # E1: the defs put together, the theorem (printed by mkE1.py) -/
namespace Kl
open PySem PySem.Spec PyProof.Rows L2
section
variable {P : Program} {w : World} {K : PySem.W.Frag} {mg : Str → Option Value} {base : Heap} {C : Addr} {j k : Nat} {x : Str} {ps : List Str} {sp : Sp}
theorem Df.up (F : Df P w K mg base j x ps sp) (h : j ≤ k) : Df P w K mg base k x ps sp := let ⟨f, fd, a, b, c, F⟩ := F.ex; ⟨f, fd, a, b, c, F.mono h⟩
theorem DfX.up (F : DfX P w K mg base j x ps sp) (h : j ≤ k) : DfX P w K mg base k x ps sp := let ⟨f, fd, a, b, c, F⟩ := F.ex; ⟨f, fd, a, b, c, F.mono h⟩
theorem Mt.up (F : Mt P w K mg base C j x ps sp) (h : j ≤ k) : Mt P w K mg base C k x ps sp := let ⟨f, fd, a, b, F⟩ := F.ex; ⟨f, fd, a, b, F.mono h⟩
theorem Pr.up (F : Pr P w K mg base C j x sp) (h : j ≤ k) : Pr P w K mg base C k x sp := let ⟨p, f, fd, a, b, F⟩ := F.ex; ⟨p, f, fd, a, b, F.mono h⟩
theorem MkW.up (F : MkW P w K mg base C j) (h : j ≤ k) : MkW P w K mg base C k := let ⟨f, fd, a, b, G⟩ := F.ex; ⟨F.gm, f, fd, a, b, G.mono h⟩
theorem LenC.up (F : LenC P w K mg base C j) (h : j ≤ k) : LenC P w K mg base C k := let ⟨f, fd, a, b, c, G⟩ := F.ex; ⟨f, fd, a, b, c, G.mono h⟩
theorem fnOf_ (c : He.SaysE faL fnL K) (i : Nat) {at_ : Str × Option Str} {x q : Str} {st : Stmt} (h : fnL[i]? = some ⟨at_, x, q, defArgs st, defBody st, defScope st⟩) (k : PySem.W.keepIn K (.ref (He.fAd K at_)) = true) : ∃ fd, Fun K x q st (He.fAd K at_) fd := by
  obtain ⟨oc, od, osl, kV, doc, pm, an, cdv, ct, l, cc⟩ := c.def_ i h
  exact ⟨_, fun_mk l cc k⟩
def gtV (x q : Str) (st : Stmt) : He.FnV := some (x, q, defArgs st, .stmts (defBody st), defScope st, mainGlobals, [], .none, builtinsNs)
theorem says_parts (c : SaysK K) : moreB K = true ∧ [fnAt K (prG K "net"), fnAt K (prG K "ring"), fnAt K (prG K "told")] = valK.1.2 ∧ He.SaysE faL fnL K :=
  ⟨congrArg (fun z : AlK => z.1.1) c, congrArg (fun z : AlK => z.1.2) c, congrArg (fun z : AlK => z.2) c⟩
end
theorem mn_of {K : PySem.W.Frag} {h : Heap} {mg : Str → Option Value} (X : K.In h) (G : h.Ns mainGlobals mg) (c : He.SaysE faL fnL K) : Mn mg where
  sum := He.free_ok X G (c.fact 92 (f := .free "sum") rfl)
  all := He.free_ok X G (c.fact 93 (f := .free "all") rfl)
  any := He.free_ok X G (c.fact 94 (f := .free "any") rfl)
  len := He.free_ok X G (c.fact 95 (f := .free "len") rfl)
  set := He.free_ok X G (c.fact 96 (f := .free "set") rfl)
  sorted := He.free_ok X G (c.fact 97 (f := .free "sorted") rfl)
  tuple := He.free_ok X G (c.fact 98 (f := .free "tuple") rfl)
  list := He.free_ok X G (c.fact 99 (f := .free "list") rfl)
  dict := He.free_ok X G (c.fact 100 (f := .free "dict") rfl)
  range := He.free_ok X G (c.fact 101 (f := .free "range") rfl)
  zip := He.free_ok X G (c.fact 102 (f := .free "zip") rfl)
  enumerate := He.free_ok X G (c.fact 103 (f := .free "enumerate") rfl)
  isinstance := He.free_ok X G (c.fact 104 (f := .free "isinstance") rfl)
  int := He.free_ok X G (c.fact 105 (f := .free "int") rfl)
  str := He.free_ok X G (c.fact 106 (f := .free "str") rfl)
  bool := He.free_ok X G (c.fact 107 (f := .free "bool") rfl)
  abs := He.free_ok X G (c.fact 108 (f := .free "abs") rfl)
  min := He.free_ok X G (c.fact 109 (f := .free "min") rfl)
  KEY := He.int_ok X G (c.fact 110 (f := .int "KEY" 4) rfl)
  GOAL := He.int_ok X G (c.fact 111 (f := .int "GOAL" 2) rfl)
  START := He.int_ok X G (c.fact 112 (f := .int "START" 1) rfl)
  NAME := He.int_ok X G (c.fact 113 (f := .int "NAME" 0) rfl)
  MOST_goes := He.int_ok X G (c.fact 114 (f := .int "MOST_goes" 3) rfl)
  SUPPLY_goes := He.int_ok X G (c.fact 115 (f := .int "SUPPLY_goes" 1) rfl)
  YARD_goes := He.int_ok X G (c.fact 116 (f := .int "YARD_goes" 1) rfl)
  WIDE := He.int_ok X G (c.fact 117 (f := .int "WIDE" 5) rfl)
  TAKE := He.str_ok X G (c.fact 118 (f := .str "TAKE" "take") rfl)
  GIVE := He.str_ok X G (c.fact 119 (f := .str "GIVE" "give") rfl)
theorem facts {P : Program} {w : World} {K : PySem.W.Frag} {h : Heap} {mg : Str → Option Value} {f : Addr} (X : K.In h) (G : h.Ns mainGlobals mg) (hfa : mg ("law" : Str) = some (.ref f)) (cc : SaysK K) :
    ∃ fd : FuncData, (∀ (s : Shared) (v : Value), BindsTo s fd ⟨[v], []⟩ [("_law_script", v)]) ∧ ∀ base : Heap, K.In base → base.Ns mainGlobals mg → FnOk P w K mg base CX0 60 f fd ["_law_script"] (spt (A_law K)) := by
  obtain ⟨mB, gB, c⟩ := says_parts cc
  have m := mn_of X G c
  obtain ⟨fd_set_of, F_set_of⟩ := fnOf_ c 0 (at_ := ("set_of", none)) (x := "set_of") (q := "set_of") (st := s_set_of) rfl (He.keep_ok (c.fact 1 (f := .keep "set_of") rfl))
  have g_set_of : mg "set_of" = some (.ref (He.fAd K ("set_of", none))) := He.glo_ok X G (c.fact 0 (f := .glo "set_of") rfl)
  obtain ⟨fd_tupled, F_tupled⟩ := fnOf_ c 1 (at_ := ("tupled", none)) (x := "tupled") (q := "tupled") (st := s_tupled) rfl (He.keep_ok (c.fact 3 (f := .keep "tupled") rfl))
  have g_tupled : mg "tupled" = some (.ref (He.fAd K ("tupled", none))) := He.glo_ok X G (c.fact 2 (f := .glo "tupled") rfl)
  obtain ⟨fd_yard_names, F_yard_names⟩ := fnOf_ c 2 (at_ := ("yard_names", none)) (x := "yard_names") (q := "yard_names") (st := s_yard_names) rfl (He.keep_ok (c.fact 5 (f := .keep "yard_names") rfl))
  have g_yard_names : mg "yard_names" = some (.ref (He.fAd K ("yard_names", none))) := He.glo_ok X G (c.fact 4 (f := .glo "yard_names") rfl)
  obtain ⟨fd_keys_of, F_keys_of⟩ := fnOf_ c 3 (at_ := ("keys_of", none)) (x := "keys_of") (q := "keys_of") (st := s_keys_of) rfl (He.keep_ok (c.fact 7 (f := .keep "keys_of") rfl))
  have g_keys_of : mg "keys_of" = some (.ref (He.fAd K ("keys_of", none))) := He.glo_ok X G (c.fact 6 (f := .glo "keys_of") rfl)
  obtain ⟨fd_subsets_of, F_subsets_of⟩ := fnOf_ c 4 (at_ := ("subsets_of", none)) (x := "subsets_of") (q := "subsets_of") (st := s_subsets_of) rfl (He.keep_ok (c.fact 9 (f := .keep "subsets_of") rfl))
  have g_subsets_of : mg "subsets_of" = some (.ref (He.fAd K ("subsets_of", none))) := He.glo_ok X G (c.fact 8 (f := .glo "subsets_of") rfl)
  obtain ⟨fd_value_of, F_value_of⟩ := fnOf_ c 5 (at_ := ("value_of", none)) (x := "value_of") (q := "value_of") (st := s_value_of) rfl (He.keep_ok (c.fact 11 (f := .keep "value_of") rfl))
  have g_value_of : mg "value_of" = some (.ref (He.fAd K ("value_of", none))) := He.glo_ok X G (c.fact 10 (f := .glo "value_of") rfl)
  obtain ⟨fd_values_by, F_values_by⟩ := fnOf_ c 6 (at_ := ("values_by", none)) (x := "values_by") (q := "values_by") (st := s_values_by) rfl (He.keep_ok (c.fact 13 (f := .keep "values_by") rfl))
  have g_values_by : mg "values_by" = some (.ref (He.fAd K ("values_by", none))) := He.glo_ok X G (c.fact 12 (f := .glo "values_by") rfl)
  obtain ⟨fd_part_in, F_part_in⟩ := fnOf_ c 7 (at_ := ("part_in", none)) (x := "part_in") (q := "part_in") (st := s_part_in) rfl (He.keep_ok (c.fact 15 (f := .keep "part_in") rfl))
  have g_part_in : mg "part_in" = some (.ref (He.fAd K ("part_in", none))) := He.glo_ok X G (c.fact 14 (f := .glo "part_in") rfl)
  obtain ⟨fd_goes_by, F_goes_by⟩ := fnOf_ c 8 (at_ := ("goes_by", none)) (x := "goes_by") (q := "goes_by") (st := s_goes_by) rfl (He.keep_ok (c.fact 17 (f := .keep "goes_by") rfl))
  have g_goes_by : mg "goes_by" = some (.ref (He.fAd K ("goes_by", none))) := He.glo_ok X G (c.fact 16 (f := .glo "goes_by") rfl)
  obtain ⟨fd_goes, F_goes⟩ := fnOf_ c 9 (at_ := ("goes_goes", none)) (x := "goes") (q := "goes") (st := s_goes) rfl (He.keep_ok (c.fact 19 (f := .keep "goes_goes") rfl))
  have g_goes : mg "goes_goes" = some (.ref (He.fAd K ("goes_goes", none))) := He.glo_ok X G (c.fact 18 (f := .glo "goes_goes") rfl)
  obtain ⟨fd_done_at, F_done_at⟩ := fnOf_ c 10 (at_ := ("done_at", none)) (x := "done_at") (q := "done_at") (st := s_done_at) rfl (He.keep_ok (c.fact 21 (f := .keep "done_at") rfl))
  have g_done_at : mg "done_at" = some (.ref (He.fAd K ("done_at", none))) := He.glo_ok X G (c.fact 20 (f := .glo "done_at") rfl)
  obtain ⟨fd_behind_deeds, F_behind_deeds⟩ := fnOf_ c 11 (at_ := ("behind_deeds", none)) (x := "behind_deeds") (q := "behind_deeds") (st := s_behind_deeds) rfl (He.keep_ok (c.fact 23 (f := .keep "behind_deeds") rfl))
  have g_behind_deeds : mg "behind_deeds" = some (.ref (He.fAd K ("behind_deeds", none))) := He.glo_ok X G (c.fact 22 (f := .glo "behind_deeds") rfl)
  obtain ⟨fd_is_within, F_is_within⟩ := fnOf_ c 12 (at_ := ("is_within", none)) (x := "is_within") (q := "is_within") (st := s_is_within) rfl (He.keep_ok (c.fact 25 (f := .keep "is_within") rfl))
  have g_is_within : mg "is_within" = some (.ref (He.fAd K ("is_within", none))) := He.glo_ok X G (c.fact 24 (f := .glo "is_within") rfl)
  obtain ⟨fd_leasts, F_leasts⟩ := fnOf_ c 13 (at_ := ("leasts", none)) (x := "leasts") (q := "leasts") (st := s_leasts) rfl (He.keep_ok (c.fact 27 (f := .keep "leasts") rfl))
  have g_leasts : mg "leasts" = some (.ref (He.fAd K ("leasts", none))) := He.glo_ok X G (c.fact 26 (f := .glo "leasts") rfl)
  obtain ⟨fd_others_of, F_others_of⟩ := fnOf_ c 14 (at_ := ("others_of", none)) (x := "others_of") (q := "others_of") (st := s_others_of) rfl (He.keep_ok (c.fact 29 (f := .keep "others_of") rfl))
  have g_others_of : mg "others_of" = some (.ref (He.fAd K ("others_of", none))) := He.glo_ok X G (c.fact 28 (f := .glo "others_of") rfl)
  obtain ⟨fd_table_of, F_table_of⟩ := fnOf_ c 15 (at_ := ("table_of", none)) (x := "table_of") (q := "table_of") (st := s_table_of) rfl (He.keep_ok (c.fact 31 (f := .keep "table_of") rfl))
  have g_table_of : mg "table_of" = some (.ref (He.fAd K ("table_of", none))) := He.glo_ok X G (c.fact 30 (f := .glo "table_of") rfl)
  obtain ⟨fd_sets_open, F_sets_open⟩ := fnOf_ c 16 (at_ := ("sets_open", none)) (x := "sets_open") (q := "sets_open") (st := s_sets_open) rfl (He.keep_ok (c.fact 33 (f := .keep "sets_open") rfl))
  have g_sets_open : mg "sets_open" = some (.ref (He.fAd K ("sets_open", none))) := He.glo_ok X G (c.fact 32 (f := .glo "sets_open") rfl)
  obtain ⟨fd_openers, F_openers⟩ := fnOf_ c 17 (at_ := ("openers", none)) (x := "openers") (q := "openers") (st := s_openers) rfl (He.keep_ok (c.fact 35 (f := .keep "openers") rfl))
  have g_openers : mg "openers" = some (.ref (He.fAd K ("openers", none))) := He.glo_ok X G (c.fact 34 (f := .glo "openers") rfl)
  obtain ⟨fd_barriers, F_barriers⟩ := fnOf_ c 18 (at_ := ("barriers", none)) (x := "barriers") (q := "barriers") (st := s_barriers) rfl (He.keep_ok (c.fact 37 (f := .keep "barriers") rfl))
  have g_barriers : mg "barriers" = some (.ref (He.fAd K ("barriers", none))) := He.glo_ok X G (c.fact 36 (f := .glo "barriers") rfl)
  obtain ⟨fd_moments, F_moments⟩ := fnOf_ c 19 (at_ := ("moments", none)) (x := "moments") (q := "moments") (st := s_moments) rfl (He.keep_ok (c.fact 39 (f := .keep "moments") rfl))
  have g_moments : mg "moments" = some (.ref (He.fAd K ("moments", none))) := He.glo_ok X G (c.fact 38 (f := .glo "moments") rfl)
  obtain ⟨fd_in_hand, F_in_hand⟩ := fnOf_ c 20 (at_ := ("in_hand", none)) (x := "in_hand") (q := "in_hand") (st := s_in_hand) rfl (He.keep_ok (c.fact 41 (f := .keep "in_hand") rfl))
  have g_in_hand : mg "in_hand" = some (.ref (He.fAd K ("in_hand", none))) := He.glo_ok X G (c.fact 40 (f := .glo "in_hand") rfl)
  obtain ⟨fd_hour, F_hour⟩ := fnOf_ c 21 (at_ := ("hour", none)) (x := "hour") (q := "hour") (st := s_hour) rfl (He.keep_ok (c.fact 43 (f := .keep "hour") rfl))
  have g_hour : mg "hour" = some (.ref (He.fAd K ("hour", none))) := He.glo_ok X G (c.fact 42 (f := .glo "hour") rfl)
  obtain ⟨fd_L_box, F_L_box⟩ := fnOf_ c 22 (at_ := ("_law_box", none)) (x := "_law_box") (q := "_law_box") (st := s_L_box) rfl (He.keep_ok (c.fact 45 (f := .keep "_law_box") rfl))
  have g_L_box : mg "_law_box" = some (.ref (He.fAd K ("_law_box", none))) := He.glo_ok X G (c.fact 44 (f := .glo "_law_box") rfl)
  obtain ⟨fd_L_take, F_L_take⟩ := fnOf_ c 23 (at_ := ("_law_take", none)) (x := "_law_take") (q := "_law_take") (st := s_L_take) rfl (He.keep_ok (c.fact 47 (f := .keep "_law_take") rfl))
  have g_L_take : mg "_law_take" = some (.ref (He.fAd K ("_law_take", none))) := He.glo_ok X G (c.fact 46 (f := .glo "_law_take") rfl)
  obtain ⟨fd_L_cells, F_L_cells⟩ := fnOf_ c 24 (at_ := ("_law_cells", none)) (x := "_law_cells") (q := "_law_cells") (st := s_L_cells) rfl (He.keep_ok (c.fact 49 (f := .keep "_law_cells") rfl))
  have g_L_cells : mg "_law_cells" = some (.ref (He.fAd K ("_law_cells", none))) := He.glo_ok X G (c.fact 48 (f := .glo "_law_cells") rfl)
  obtain ⟨fd_L_of, F_L_of⟩ := fnOf_ c 25 (at_ := ("_law_of", none)) (x := "_law_of") (q := "_law_of") (st := s_L_of) rfl (He.keep_ok (c.fact 51 (f := .keep "_law_of") rfl))
  have g_L_of : mg "_law_of" = some (.ref (He.fAd K ("_law_of", none))) := He.glo_ok X G (c.fact 50 (f := .glo "_law_of") rfl)
  obtain ⟨fd_L_same, F_L_same⟩ := fnOf_ c 26 (at_ := ("_law_same", none)) (x := "_law_same") (q := "_law_same") (st := s_L_same) rfl (He.keep_ok (c.fact 53 (f := .keep "_law_same") rfl))
  have g_L_same : mg "_law_same" = some (.ref (He.fAd K ("_law_same", none))) := He.glo_ok X G (c.fact 52 (f := .glo "_law_same") rfl)
  obtain ⟨fd_L_pick, F_L_pick⟩ := fnOf_ c 27 (at_ := ("_law_pick", none)) (x := "_law_pick") (q := "_law_pick") (st := s_L_pick) rfl (He.keep_ok (c.fact 55 (f := .keep "_law_pick") rfl))
  have g_L_pick : mg "_law_pick" = some (.ref (He.fAd K ("_law_pick", none))) := He.glo_ok X G (c.fact 54 (f := .glo "_law_pick") rfl)
  obtain ⟨fd_L_net, F_L_net⟩ := fnOf_ c 28 (at_ := ("_law_net", none)) (x := "_law_net") (q := "_law_net") (st := s_L_net) rfl (He.keep_ok (c.fact 57 (f := .keep "_law_net") rfl))
  have g_L_net : mg "_law_net" = some (.ref (He.fAd K ("_law_net", none))) := He.glo_ok X G (c.fact 56 (f := .glo "_law_net") rfl)
  obtain ⟨fd_L_keys, F_L_keys⟩ := fnOf_ c 29 (at_ := ("_law_keys", none)) (x := "_law_keys") (q := "_law_keys") (st := s_L_keys) rfl (He.keep_ok (c.fact 59 (f := .keep "_law_keys") rfl))
  have g_L_keys : mg "_law_keys" = some (.ref (He.fAd K ("_law_keys", none))) := He.glo_ok X G (c.fact 58 (f := .glo "_law_keys") rfl)
  obtain ⟨fd_L_sets, F_L_sets⟩ := fnOf_ c 30 (at_ := ("_law_sets", none)) (x := "_law_sets") (q := "_law_sets") (st := s_L_sets) rfl (He.keep_ok (c.fact 61 (f := .keep "_law_sets") rfl))
  have g_L_sets : mg "_law_sets" = some (.ref (He.fAd K ("_law_sets", none))) := He.glo_ok X G (c.fact 60 (f := .glo "_law_sets") rfl)
  obtain ⟨fd_L_plans, F_L_plans⟩ := fnOf_ c 31 (at_ := ("_law_plans", none)) (x := "_law_plans") (q := "_law_plans") (st := s_L_plans) rfl (He.keep_ok (c.fact 63 (f := .keep "_law_plans") rfl))
  have g_L_plans : mg "_law_plans" = some (.ref (He.fAd K ("_law_plans", none))) := He.glo_ok X G (c.fact 62 (f := .glo "_law_plans") rfl)
  obtain ⟨fd_L_wants, F_L_wants⟩ := fnOf_ c 32 (at_ := ("_law_wants", none)) (x := "_law_wants") (q := "_law_wants") (st := s_L_wants) rfl (He.keep_ok (c.fact 65 (f := .keep "_law_wants") rfl))
  have g_L_wants : mg "_law_wants" = some (.ref (He.fAd K ("_law_wants", none))) := He.glo_ok X G (c.fact 64 (f := .glo "_law_wants") rfl)
  obtain ⟨fd_L_by, F_L_by⟩ := fnOf_ c 33 (at_ := ("_law_by", none)) (x := "_law_by") (q := "_law_by") (st := s_L_by) rfl (He.keep_ok (c.fact 67 (f := .keep "_law_by") rfl))
  have g_L_by : mg "_law_by" = some (.ref (He.fAd K ("_law_by", none))) := He.glo_ok X G (c.fact 66 (f := .glo "_law_by") rfl)
  obtain ⟨fd_L_goes, F_L_goes⟩ := fnOf_ c 34 (at_ := ("_law_goes", none)) (x := "_law_goes") (q := "_law_goes") (st := s_L_goes) rfl (He.keep_ok (c.fact 69 (f := .keep "_law_goes") rfl))
  have g_L_goes : mg "_law_goes" = some (.ref (He.fAd K ("_law_goes", none))) := He.glo_ok X G (c.fact 68 (f := .glo "_law_goes") rfl)
  obtain ⟨fd_L_lot, F_L_lot⟩ := fnOf_ c 35 (at_ := ("_law_lot", none)) (x := "_law_lot") (q := "_law_lot") (st := s_L_lot) rfl (He.keep_ok (c.fact 71 (f := .keep "_law_lot") rfl))
  have g_L_lot : mg "_law_lot" = some (.ref (He.fAd K ("_law_lot", none))) := He.glo_ok X G (c.fact 70 (f := .glo "_law_lot") rfl)
  obtain ⟨fd_L_least, F_L_least⟩ := fnOf_ c 36 (at_ := ("_law_least", none)) (x := "_law_least") (q := "_law_least") (st := s_L_least) rfl (He.keep_ok (c.fact 73 (f := .keep "_law_least") rfl))
  have g_L_least : mg "_law_least" = some (.ref (He.fAd K ("_law_least", none))) := He.glo_ok X G (c.fact 72 (f := .glo "_law_least") rfl)
  obtain ⟨fd_L_has_less, F_L_has_less⟩ := fnOf_ c 37 (at_ := ("_law_has_less", none)) (x := "_law_has_less") (q := "_law_has_less") (st := s_L_has_less) rfl (He.keep_ok (c.fact 75 (f := .keep "_law_has_less") rfl))
  have g_L_has_less : mg "_law_has_less" = some (.ref (He.fAd K ("_law_has_less", none))) := He.glo_ok X G (c.fact 74 (f := .glo "_law_has_less") rfl)
  obtain ⟨fd_L_taken_right, F_L_taken_right⟩ := fnOf_ c 38 (at_ := ("_law_taken_right", none)) (x := "_law_taken_right") (q := "_law_taken_right") (st := s_L_taken_right) rfl (He.keep_ok (c.fact 77 (f := .keep "_law_taken_right") rfl))
  have g_L_taken_right : mg "_law_taken_right" = some (.ref (He.fAd K ("_law_taken_right", none))) := He.glo_ok X G (c.fact 76 (f := .glo "_law_taken_right") rfl)
  obtain ⟨fd_L_lot_right, F_L_lot_right⟩ := fnOf_ c 39 (at_ := ("_law_lot_right", none)) (x := "_law_lot_right") (q := "_law_lot_right") (st := s_L_lot_right) rfl (He.keep_ok (c.fact 79 (f := .keep "_law_lot_right") rfl))
  have g_L_lot_right : mg "_law_lot_right" = some (.ref (He.fAd K ("_law_lot_right", none))) := He.glo_ok X G (c.fact 78 (f := .glo "_law_lot_right") rfl)
  obtain ⟨fd_L_case_right, F_L_case_right⟩ := fnOf_ c 40 (at_ := ("_law_case_right", none)) (x := "_law_case_right") (q := "_law_case_right") (st := s_L_case_right) rfl (He.keep_ok (c.fact 81 (f := .keep "_law_case_right") rfl))
  have g_L_case_right : mg "_law_case_right" = some (.ref (He.fAd K ("_law_case_right", none))) := He.glo_ok X G (c.fact 80 (f := .glo "_law_case_right") rfl)
  obtain ⟨fd_L_by_hand_right, F_L_by_hand_right⟩ := fnOf_ c 41 (at_ := ("_law_by_hand_right", none)) (x := "_law_by_hand_right") (q := "_law_by_hand_right") (st := s_L_by_hand_right) rfl (He.keep_ok (c.fact 83 (f := .keep "_law_by_hand_right") rfl))
  have g_L_by_hand_right : mg "_law_by_hand_right" = some (.ref (He.fAd K ("_law_by_hand_right", none))) := He.glo_ok X G (c.fact 82 (f := .glo "_law_by_hand_right") rfl)
  obtain ⟨fd_L_right, F_L_right⟩ := fnOf_ c 42 (at_ := ("_law_right", none)) (x := "_law_right") (q := "_law_right") (st := s_L_right) rfl (He.keep_ok (c.fact 85 (f := .keep "_law_right") rfl))
  have g_L_right : mg "_law_right" = some (.ref (He.fAd K ("_law_right", none))) := He.glo_ok X G (c.fact 84 (f := .glo "_law_right") rfl)
  obtain ⟨fd_law, F_law⟩ := fnOf_ c 43 (at_ := ("law", none)) (x := "law") (q := "law") (st := s_law) rfl (He.keep_ok (c.fact 87 (f := .keep "law") rfl))
  have g_law : mg "law" = some (.ref (He.fAd K ("law", none))) := He.glo_ok X G (c.fact 86 (f := .glo "law") rfl)
  have h_init := He.meth_ok (c.fact 124 (f := .meth "Watch" "__init__") rfl)
  obtain ⟨fd_W_init, F_W_init⟩ := fnOf_ c 44 (at_ := ("Watch", some "__init__")) (x := "__init__") (q := "Watch.__init__") (st := s_W_init) rfl h_init.3
  have h_len := He.meth_ok (c.fact 125 (f := .meth "Watch" "__len__") rfl)
  obtain ⟨fd_W_len, F_W_len⟩ := fnOf_ c 45 (at_ := ("Watch", some "__len__")) (x := "__len__") (q := "Watch.__len__") (st := s_W_len) rfl h_len.3
  have h_do_deed := He.meth_ok (c.fact 126 (f := .meth "Watch" "do_deed") rfl)
  obtain ⟨fd_W_do_deed, F_W_do_deed⟩ := fnOf_ c 46 (at_ := ("Watch", some "do_deed")) (x := "do_deed") (q := "Watch.do_deed") (st := s_W_do_deed) rfl h_do_deed.3
  have h_take := He.meth_ok (c.fact 127 (f := .meth "Watch" "take") rfl)
  obtain ⟨fd_W_take, F_W_take⟩ := fnOf_ c 47 (at_ := ("Watch", some "take")) (x := "take") (q := "Watch.take") (st := s_W_take) rfl h_take.3
  have h_give := He.meth_ok (c.fact 128 (f := .meth "Watch" "give") rfl)
  obtain ⟨fd_W_give, F_W_give⟩ := fnOf_ c 48 (at_ := ("Watch", some "give")) (x := "give") (q := "Watch.give") (st := s_W_give) rfl h_give.3
  have h_twin := He.meth_ok (c.fact 129 (f := .meth "Watch" "twin") rfl)
  obtain ⟨fd_W_twin, F_W_twin⟩ := fnOf_ c 49 (at_ := ("Watch", some "twin")) (x := "twin") (q := "Watch.twin") (st := s_W_twin) rfl h_twin.3
  have h_goes := He.meth_ok (c.fact 130 (f := .meth "Watch" "goes") rfl)
  obtain ⟨fd_W_goes, F_W_goes⟩ := fnOf_ c 50 (at_ := ("Watch", some "goes")) (x := "goes") (q := "Watch.goes") (st := s_W_goes) rfl h_goes.3
  have h_when := He.meth_ok (c.fact 131 (f := .meth "Watch" "when") rfl)
  obtain ⟨fd_W_when, F_W_when⟩ := fnOf_ c 51 (at_ := ("Watch", some "when")) (x := "when") (q := "Watch.when") (st := s_W_when) rfl h_when.3
  have h_turned := He.meth_ok (c.fact 132 (f := .meth "Watch" "turned") rfl)
  obtain ⟨fd_W_turned, F_W_turned⟩ := fnOf_ c 52 (at_ := ("Watch", some "turned")) (x := "turned") (q := "Watch.turned") (st := s_W_turned) rfl h_turned.3
  have h_no_longer := He.meth_ok (c.fact 133 (f := .meth "Watch" "no_longer") rfl)
  obtain ⟨fd_W_no_longer, F_W_no_longer⟩ := fnOf_ c 53 (at_ := ("Watch", some "no_longer")) (x := "no_longer") (q := "Watch.no_longer") (st := s_W_no_longer) rfl h_no_longer.3
  have h_without := He.meth_ok (c.fact 134 (f := .meth "Watch" "without") rfl)
  obtain ⟨fd_W_without, F_W_without⟩ := fnOf_ c 54 (at_ := ("Watch", some "without")) (x := "without") (q := "Watch.without") (st := s_W_without) rfl h_without.3
  have h_needed := He.meth_ok (c.fact 135 (f := .meth "Watch" "needed") rfl)
  obtain ⟨fd_W_needed, F_W_needed⟩ := fnOf_ c 55 (at_ := ("Watch", some "needed")) (x := "needed") (q := "Watch.needed") (st := s_W_needed) rfl h_needed.3
  have h_NoKey := He.meth_ok (c.fact 138 (f := .meth "NoKey" "__init__") rfl)
  obtain ⟨fd_NoKey, F_NoKey⟩ := fnOf_ c 56 (at_ := ("NoKey", some "__init__")) (x := "__init__") (q := "NoKey.__init__") (st := s_E_NoKey) rfl h_NoKey.3
  have h_Known := He.meth_ok (c.fact 141 (f := .meth "Known" "__init__") rfl)
  obtain ⟨fd_Known, F_Known⟩ := fnOf_ c 57 (at_ := ("Known", some "__init__")) (x := "__init__") (q := "Known.__init__") (st := s_E_Known) rfl h_Known.3
  obtain ⟨b1, b⟩ := He.ba mB
  obtain ⟨b2, b⟩ := He.ba b
  obtain ⟨b3, b⟩ := He.ba b
  obtain ⟨b4, b5⟩ := He.ba b
  obtain ⟨pN, kN, cN⟩ := prB_ok b1
  obtain ⟨pR, kR, cR⟩ := prB_ok b2
  obtain ⟨pT, kT, cT⟩ := prB_ok b3
  have oK := oexB_ok b4
  have oW := oexB_ok b5
  have gB1 : fnAt K (prG K "net") = gtV "net" "Watch.net" s_W_net := congrArg (fun z : List He.FnV => z.getD 0 (Option.none)) gB
  have gB2 : fnAt K (prG K "ring") = gtV "ring" "Watch.ring" s_W_ring := congrArg (fun z : List He.FnV => z.getD 1 (Option.none)) gB
  have gB3 : fnAt K (prG K "told") = gtV "told" "Watch.told" s_W_told := congrArg (fun z : List He.FnV => z.getD 2 (Option.none)) gB
  obtain ⟨fd_W_net, F_W_net⟩ := fun_of (x := "net") (st := s_W_net) gB1 cN kN
  obtain ⟨fd_W_ring, F_W_ring⟩ := fun_of (x := "ring") (st := s_W_ring) gB2 cR kR
  obtain ⟨fd_W_told, F_W_told⟩ := fun_of (x := "told") (st := s_W_told) gB3 cT kT
  have g_Watch : mg "Watch" = some (.ref (He.ga K "Watch")) := He.glo_ok X G (c.fact 88 (f := .glo "Watch") rfl)
  have g_NoKey : mg "NoKey" = some (.ref (He.ga K "NoKey")) := He.glo_ok X G (c.fact 89 (f := .glo "NoKey") rfl)
  have g_Known : mg "Known" = some (.ref (He.ga K "Known")) := He.glo_ok X G (c.fact 90 (f := .glo "Known") rfl)
  have g_NE : mg "NetError" = some (.ref (He.ga K "NetError")) := He.glo_ok X G (c.fact 91 (f := .glo "NetError") rfl)
  have ck : Ck K (He.ga K "Watch") := ⟨He.cls_ok (c.fact 120 (f := .cls "Watch") rfl), He.noat_ok (c.fact 122 (f := .noat "Watch" "own_states") rfl), He.noat_ok (c.fact 123 (f := .noat "Watch" "own_told") rfl)⟩
  have mk := He.mkr_ok (c.fact 121 (f := .mkr "Watch") rfl)
  have ef : f = He.fAd K ("law", none) := by
    have e := hfa.symm.trans g_law
    cases e
    rfl
  subst ef
  refine ⟨fd_law, fun s v => ?_, fun base KB GB => ?_⟩
  · obtain ⟨oc, od, kV, doc, pm, an, cdv, ct, osl, rfl, _, _⟩ := F_law.ex
    exact .of_eq rfl
  · skip
    have d_set_of : Df P w K mg base 1 "set_of" ["some"] (spt A_set_of) := ⟨_, _, g_set_of, F_set_of.kp, (F_set_of.binds fun _ _ _ _ _ _ us hl => match us, hl with | [_], _ => rfl), ok_set_of F_set_of m⟩
    have d_yard_names : Df P w K mg base 1 "yard_names" ["net"] (spt A_yard_names) := ⟨_, _, g_yard_names, F_yard_names.kp, (F_yard_names.binds fun _ _ _ _ _ _ us hl => match us, hl with | [_], _ => rfl), ok_yard_names F_yard_names m⟩
    have d_subsets_of : Df P w K mg base 1 "subsets_of" ["names"] (spt A_subsets_of) := ⟨_, _, g_subsets_of, F_subsets_of.kp, (F_subsets_of.binds fun _ _ _ _ _ _ us hl => match us, hl with | [_], _ => rfl), ok_subsets_of F_subsets_of m⟩
    have d_value_of : Df P w K mg base 1 "value_of" ["net", "keys", "far"] (spt A_value_of) := ⟨_, _, g_value_of, F_value_of.kp, (F_value_of.binds fun _ _ _ _ _ _ us hl => match us, hl with | [_, _, _], _ => rfl), ok_value_of F_value_of m⟩
    have d_part_in : Df P w K mg base 1 "part_in" ["net", "lot", "far"] (spt A_part_in) := ⟨_, _, g_part_in, F_part_in.kp, (F_part_in.binds fun _ _ _ _ _ _ us hl => match us, hl with | [_, _, _], _ => rfl), ok_part_in F_part_in m⟩
    have d_is_within : Df P w K mg base 1 "is_within" ["some", "other"] (spt A_is_within) := ⟨_, _, g_is_within, F_is_within.kp, (F_is_within.binds fun _ _ _ _ _ _ us hl => match us, hl with | [_, _], _ => rfl), ok_is_within F_is_within m⟩
    have d_L_take : Df P w K mg base 1 "_law_take" ["_law_urn", "_law_low"] (spt A_take) := ⟨_, _, g_L_take, F_L_take.kp, (F_L_take.binds fun _ _ _ _ _ _ us hl => match us, hl with | [_, _], _ => rfl), ok_L_take F_L_take m⟩
    have d_L_keys : Df P w K mg base 1 "_law_keys" ["_law_hub"] (spt A_keys_of) := ⟨_, _, g_L_keys, F_L_keys.kp, (F_L_keys.binds fun _ _ _ _ _ _ us hl => match us, hl with | [_], _ => rfl), ok_L_keys F_L_keys m⟩
    have d_L_keysF : Df P w K mg base 1 "_law_keys" ["_law_hub"] (spt A_L_keysF) := ⟨_, _, g_L_keys, F_L_keys.kp, (F_L_keys.binds fun _ _ _ _ _ _ us hl => match us, hl with | [_], _ => rfl), ok_L_keysF F_L_keys m⟩
    have d_L_sets : Df P w K mg base 1 "_law_sets" ["_law_tags"] (spt A_L_sets) := ⟨_, _, g_L_sets, F_L_sets.kp, (F_L_sets.binds fun _ _ _ _ _ _ us hl => match us, hl with | [_], _ => rfl), ok_L_sets F_L_sets m⟩
    have d_L_has_less : Df P w K mg base 1 "_law_has_less" ["_law_some", "_law_own"] (spt A_L_has_less) := ⟨_, _, g_L_has_less, F_L_has_less.kp, (F_L_has_less.binds fun _ _ _ _ _ _ us hl => match us, hl with | [_, _], _ => rfl), ok_L_has_less F_L_has_less m⟩
    have d_L_plans : Df P w K mg base 1 "_law_plans" ["_law_hub"] (spt A_L_plans) := ⟨_, _, g_L_plans, F_L_plans.kp, (F_L_plans.binds fun _ _ _ _ _ _ us hl => match us, hl with | [_], _ => rfl), ok_L_plans F_L_plans m⟩
    have d_L_wants : Df P w K mg base 1 "_law_wants" ["_law_hub", "_law_lot_here"] (spt A_L_wants) := ⟨_, _, g_L_wants, F_L_wants.kp, (F_L_wants.binds fun _ _ _ _ _ _ us hl => match us, hl with | [_, _], _ => rfl), ok_L_wants F_L_wants m⟩
    have d_L_by : Df P w K mg base 1 "_law_by" ["_law_rows", "_law_keys_here"] (spt A_L_by) := ⟨_, _, g_L_by, F_L_by.kp, (F_L_by.binds fun _ _ _ _ _ _ us hl => match us, hl with | [_, _], _ => rfl), ok_L_by F_L_by⟩
    have d_tupled1 : Df P w K mg base 1 "tupled" ["value"] (spt (A_tupled 1)) := ⟨_, _, g_tupled, F_tupled.kp, (F_tupled.binds fun _ _ _ _ _ _ us hl => match us, hl with | [_], _ => rfl), step_tupled (k := 0) (n := 0) F_tupled m (.inl rfl)⟩
    have d_tupled2 : Df P w K mg base 2 "tupled" ["value"] (spt (A_tupled 2)) := ⟨_, _, g_tupled, F_tupled.kp, (F_tupled.binds fun _ _ _ _ _ _ us hl => match us, hl with | [_], _ => rfl), step_tupled (k := 1) (n := 1) F_tupled m (.inr d_tupled1)⟩
    have d_tupled3 : Df P w K mg base 3 "tupled" ["value"] (spt (A_tupled 3)) := ⟨_, _, g_tupled, F_tupled.kp, (F_tupled.binds fun _ _ _ _ _ _ us hl => match us, hl with | [_], _ => rfl), step_tupled (k := 2) (n := 2) F_tupled m (.inr d_tupled2)⟩
    have d_tupled4 : Df P w K mg base 4 "tupled" ["value"] (spt (A_tupled 4)) := ⟨_, _, g_tupled, F_tupled.kp, (F_tupled.binds fun _ _ _ _ _ _ us hl => match us, hl with | [_], _ => rfl), step_tupled (k := 3) (n := 3) F_tupled m (.inr d_tupled3)⟩
    have d_same1 : Df P w K mg base 1 "_law_same" ["_law_got", "_law_goal"] (spt (A_L_same 1)) := ⟨_, _, g_L_same, F_L_same.kp, (F_L_same.binds fun _ _ _ _ _ _ us hl => match us, hl with | [_, _], _ => rfl), step_same (k := 0) (n := 0) F_L_same m (.inl rfl)⟩
    have d_same2 : Df P w K mg base 2 "_law_same" ["_law_got", "_law_goal"] (spt (A_L_same 2)) := ⟨_, _, g_L_same, F_L_same.kp, (F_L_same.binds fun _ _ _ _ _ _ us hl => match us, hl with | [_, _], _ => rfl), step_same (k := 1) (n := 1) F_L_same m (.inr d_same1)⟩
    have d_same3 : Df P w K mg base 3 "_law_same" ["_law_got", "_law_goal"] (spt (A_L_same 3)) := ⟨_, _, g_L_same, F_L_same.kp, (F_L_same.binds fun _ _ _ _ _ _ us hl => match us, hl with | [_, _], _ => rfl), step_same (k := 2) (n := 2) F_L_same m (.inr d_same2)⟩
    have d_same4 : Df P w K mg base 4 "_law_same" ["_law_got", "_law_goal"] (spt (A_L_same 4)) := ⟨_, _, g_L_same, F_L_same.kp, (F_L_same.binds fun _ _ _ _ _ _ us hl => match us, hl with | [_, _], _ => rfl), step_same (k := 3) (n := 3) F_L_same m (.inr d_same3)⟩
    have d_same5 : Df P w K mg base 5 "_law_same" ["_law_got", "_law_goal"] (spt (A_L_same 5)) := ⟨_, _, g_L_same, F_L_same.kp, (F_L_same.binds fun _ _ _ _ _ _ us hl => match us, hl with | [_, _], _ => rfl), step_same (k := 4) (n := 4) F_L_same m (.inr d_same4)⟩
    have d_same6 : Df P w K mg base 6 "_law_same" ["_law_got", "_law_goal"] (spt (A_L_same 6)) := ⟨_, _, g_L_same, F_L_same.kp, (F_L_same.binds fun _ _ _ _ _ _ us hl => match us, hl with | [_, _], _ => rfl), step_same (k := 5) (n := 5) F_L_same m (.inr d_same5)⟩
    have d_same7 : Df P w K mg base 7 "_law_same" ["_law_got", "_law_goal"] (spt (A_L_same 7)) := ⟨_, _, g_L_same, F_L_same.kp, (F_L_same.binds fun _ _ _ _ _ _ us hl => match us, hl with | [_, _], _ => rfl), step_same (k := 6) (n := 6) F_L_same m (.inr d_same6)⟩
    have d_same8 : Df P w K mg base 8 "_law_same" ["_law_got", "_law_goal"] (spt (A_L_same 8)) := ⟨_, _, g_L_same, F_L_same.kp, (F_L_same.binds fun _ _ _ _ _ _ us hl => match us, hl with | [_, _], _ => rfl), step_same (k := 7) (n := 7) F_L_same m (.inr d_same7)⟩
    have d_keys_of : Df P w K mg base 2 "keys_of" ["net"] (spt A_keys_of) := ⟨_, _, g_keys_of, F_keys_of.kp, (F_keys_of.binds fun _ _ _ _ _ _ us hl => match us, hl with | [_], _ => rfl), ok_keys_of (k := 1) F_keys_of m (d_set_of.up (by decide))⟩
    have d_others_of : Df P w K mg base 3 "others_of" ["net", "keys"] (spt A_others_of) := ⟨_, _, g_others_of, F_others_of.kp, (F_others_of.binds fun _ _ _ _ _ _ us hl => match us, hl with | [_, _], _ => rfl), ok_others_of (k := 2) F_others_of m (d_keys_of.up (by decide))⟩
    have d_in_hand : Df P w K mg base 3 "in_hand" ["net", "hours", "number"] (spt A_in_hand) := ⟨_, _, g_in_hand, F_in_hand.kp, (F_in_hand.binds fun _ _ _ _ _ _ us hl => match us, hl with | [_, _, _], _ => rfl), ok_in_hand (k := 2) F_in_hand m (d_keys_of.up (by decide))⟩
    have d_moments : Df P w K mg base 2 "moments" ["hours"] (spt A_moments) := ⟨_, _, g_moments, F_moments.kp, (F_moments.binds fun _ _ _ _ _ _ us hl => match us, hl with | [_], _ => rfl), ok_moments (k := 1) F_moments m (d_set_of.up (by decide))⟩
    have d_leasts : Df P w K mg base 5 "leasts" ["family"] (spt A_leasts) := ⟨_, _, g_leasts, F_leasts.kp, (F_leasts.binds fun _ _ _ _ _ _ us hl => match us, hl with | [_], _ => rfl), ok_leasts (k := 4) F_leasts m (d_set_of.up (by decide)) (d_tupled4.up (by decide)) (d_is_within.up (by decide))⟩
    have d_values_by : Df P w K mg base 2 "values_by" ["net", "keys"] (spt A_values_by) := ⟨_, _, g_values_by, F_values_by.kp, (F_values_by.binds fun _ _ _ _ _ _ us hl => match us, hl with | [_, _], _ => rfl), ok_values_by (k := 1) F_values_by m (d_yard_names.up (by decide)) (d_subsets_of.up (by decide)) (d_value_of.up (by decide))⟩
    have d_goes_by : Df P w K mg base 2 "goes_by" ["net", "values", "lot"] (spt A_goes_by) := ⟨_, _, g_goes_by, F_goes_by.kp, (F_goes_by.binds fun _ _ _ _ _ _ us hl => match us, hl with | [_, _, _], _ => rfl), ok_goes_by (k := 1) F_goes_by m (d_part_in.up (by decide))⟩
    have d_goes : Df P w K mg base 3 "goes_goes" ["net", "keys", "lot"] (spt A_goes) := ⟨_, _, g_goes, F_goes.kp, (F_goes.binds fun _ _ _ _ _ _ us hl => match us, hl with | [_, _, _], _ => rfl), ok_goes (k := 2) F_goes m d_goes_by d_values_by⟩
    have d_table_of : Df P w K mg base 4 "table_of" ["net", "lot"] (spt A_table_of) := ⟨_, _, g_table_of, F_table_of.kp, (F_table_of.binds fun _ _ _ _ _ _ us hl => match us, hl with | [_, _], _ => rfl), ok_table_of (k := 3) F_table_of m (d_keys_of.up (by decide)) (d_subsets_of.up (by decide)) (d_goes.up (by decide))⟩
    have d_sets_open : Df P w K mg base 5 "sets_open" ["net", "lot"] (spt A_sets_open) := ⟨_, _, g_sets_open, F_sets_open.kp, (F_sets_open.binds fun _ _ _ _ _ _ us hl => match us, hl with | [_, _], _ => rfl), ok_sets_open (k := 4) F_sets_open m (d_table_of.up (by decide))⟩
    have d_openers : Df P w K mg base 6 "openers" ["net", "lot"] (spt A_openers) := ⟨_, _, g_openers, F_openers.kp, (F_openers.binds fun _ _ _ _ _ _ us hl => match us, hl with | [_, _], _ => rfl), ok_openers (k := 5) F_openers m (d_sets_open.up (by decide)) (d_leasts.up (by decide))⟩
    have d_barriers : Df P w K mg base 6 "barriers" ["net", "lot"] (spt A_barriers) := ⟨_, _, g_barriers, F_barriers.kp, (F_barriers.binds fun _ _ _ _ _ _ us hl => match us, hl with | [_, _], _ => rfl), ok_barriers (k := 5) F_barriers m (d_table_of.up (by decide)) (d_others_of.up (by decide)) (d_leasts.up (by decide))⟩
    have d_hour : Df P w K mg base 4 "hour" ["net", "hours", "lot"] (spt A_hour) := ⟨_, _, g_hour, F_hour.kp, (F_hour.binds fun _ _ _ _ _ _ us hl => match us, hl with | [_, _, _], _ => rfl), ok_hour (k := 3) F_hour m (d_moments.up (by decide)) (d_in_hand.up (by decide)) (d_goes.up (by decide))⟩
    have e_NoKey : ErC P w K mg base (He.ga K "NetError") "NoKey" (He.ga K "NoKey") := ⟨oK, g_NoKey, He.noat_ok (c.fact 136 (f := .noat "NoKey" "name") rfl), He.exm_ok (c.fact 137 (f := .exm "NoKey" "NetError" true) rfl), _, _, h_NoKey.1, (by have := h_NoKey.2; unfold PySem.W.isFn at this; exact beq_iff_eq.mp this), (F_NoKey.binds fun _ _ _ _ _ _ us hl => match us, hl with | [_, _], _ => rfl), ok_nmKey F_NoKey⟩
    have e_Known : ErC P w K mg base (He.ga K "NetError") "Known" (He.ga K "Known") := ⟨oW, g_Known, He.noat_ok (c.fact 139 (f := .noat "Known" "name") rfl), He.exm_ok (c.fact 140 (f := .exm "Known" "NetError" true) rfl), _, _, h_Known.1, (by have := h_Known.2; unfold PySem.W.isFn at this; exact beq_iff_eq.mp this), (F_Known.binds fun _ _ _ _ _ _ us hl => match us, hl with | [_, _], _ => rfl), ok_nmKnown F_Known⟩
    have d_done_at : DfX P w K mg base 4 "done_at" ["state", "deed"] (spDone K (He.ga K "NetError")) := ⟨_, _, g_done_at, F_done_at.kp, (F_done_at.binds fun _ _ _ _ _ _ us hl => match us, hl with | [_, _], _ => rfl), ok_done_at (k := 1) F_done_at m (d_set_of.up (by decide)) e_NoKey e_Known⟩
    have d_behind_deeds : Df P w K mg base 5 "behind_deeds" ["state", "deeds"] (spt A_behind) := ⟨_, _, g_behind_deeds, F_behind_deeds.kp, (F_behind_deeds.binds fun _ _ _ _ _ _ us hl => match us, hl with | [_, _], _ => rfl), ok_behind (k := 4) F_behind_deeds m g_NE d_done_at⟩
    have p_net : Pr P w K mg base (He.ga K "Watch") 1 "net" (spt (A_W_net (He.ga K "Watch"))) := ⟨_, _, _, pN, (F_W_net.binds fun _ _ _ _ _ _ us hl => match us, hl with | [_], _ => rfl), ok_W_net F_W_net ck⟩
    have p_ring : Pr P w K mg base (He.ga K "Watch") 1 "ring" (spt (A_W_ring (He.ga K "Watch"))) := ⟨_, _, _, pR, (F_W_ring.binds fun _ _ _ _ _ _ us hl => match us, hl with | [_], _ => rfl), ok_W_ring F_W_ring ck⟩
    have p_told : Pr P w K mg base (He.ga K "Watch") 1 "told" (spt (A_W_told (He.ga K "Watch"))) := ⟨_, _, _, pT, (F_W_told.binds fun _ _ _ _ _ _ us hl => match us, hl with | [_], _ => rfl), ok_W_told F_W_told m ck⟩
    have m_goes : Mt P w K mg base (He.ga K "Watch") 4 "goes" ["self", "lot"] (spt (A_W_goes (He.ga K "Watch"))) := ⟨_, _, h_goes, (F_W_goes.binds fun _ _ _ _ _ _ us hl => match us, hl with | [_, _], _ => rfl), ok_W_goes (k := 2) F_W_goes ck (p_net.up (by decide)) (p_ring.up (by decide)) (d_goes.up (by decide))⟩
    have m_when : Mt P w K mg base (He.ga K "Watch") 4 "when" ["self", "lot"] (spt (A_W_when (He.ga K "Watch"))) := ⟨_, _, h_when, (F_W_when.binds fun _ _ _ _ _ _ us hl => match us, hl with | [_, _], _ => rfl), ok_W_when (k := 3) F_W_when m ck (d_goes.up (by decide))⟩
    have m_do_deed : Mt P w K mg base (He.ga K "Watch") 5 "do_deed" ["self", "deed"] (spt (DeedW (He.ga K "Watch") (fun _ => True) encD)) := ⟨_, _, h_do_deed, (F_W_do_deed.binds fun _ _ _ _ _ _ us hl => match us, hl with | [_, _], _ => rfl), ok_W_do_deed (k := 4) F_W_do_deed ck d_done_at⟩
    have m_take : Mt P w K mg base (He.ga K "Watch") 6 "take" ["self", "key"] (spt (DeedW (He.ga K "Watch") (fun d => ∃ key, d = .take key) fun d => .str d.key)) := ⟨_, _, h_take, (F_W_take.binds fun _ _ _ _ _ _ us hl => match us, hl with | [_, _], _ => rfl), ok_W_take (k := 5) F_W_take m ck m_do_deed⟩
    have m_give : Mt P w K mg base (He.ga K "Watch") 6 "give" ["self", "key"] (spt (DeedW (He.ga K "Watch") (fun d => ∃ key, d = .give key) fun d => .str d.key)) := ⟨_, _, h_give, (F_W_give.binds fun _ _ _ _ _ _ us hl => match us, hl with | [_, _], _ => rfl), ok_W_give (k := 5) F_W_give m ck m_do_deed⟩
    have m_turned : Mt P w K mg base (He.ga K "Watch") 5 "turned" ["self", "lots", "now"] (spt (A_W_turned (He.ga K "Watch"))) := ⟨_, _, h_turned, (F_W_turned.binds fun _ _ _ _ _ _ us hl => match us, hl with | [_, _, _], _ => rfl), ok_W_turned (k := 4) F_W_turned m ck m_goes (d_goes.up (by decide)) (d_set_of.up (by decide)) (d_tupled4.up (by decide))⟩
    have m_no_longer : Mt P w K mg base (He.ga K "Watch") 6 "no_longer" ["self", "lots"] (spt (A_W_no_longer (He.ga K "Watch"))) := ⟨_, _, h_no_longer, (F_W_no_longer.binds fun _ _ _ _ _ _ us hl => match us, hl with | [_, _], _ => rfl), ok_W_no_longer (k := 5) F_W_no_longer ck m_turned⟩
    have m_without : Mt P w K mg base (He.ga K "Watch") 6 "without" ["self", "number"] (spt (A_W_without (He.ga K "Watch"))) := ⟨_, _, h_without, (F_W_without.binds fun _ _ _ _ _ _ us hl => match us, hl with | [_, _], _ => rfl), ok_W_without (k := 5) F_W_without m ck (d_behind_deeds.up (by decide))⟩
    have m_needed : Mt P w K mg base (He.ga K "Watch") 7 "needed" ["self", "lot"] (spt (A_W_needed (He.ga K "Watch"))) := ⟨_, _, h_needed, (F_W_needed.binds fun _ _ _ _ _ _ us hl => match us, hl with | [_, _], _ => rfl), ok_W_needed (k := 6) F_W_needed m ck (m_goes.up (by decide)) (m_without.up (by decide)) (d_goes.up (by decide))⟩
    have M : MkW P w K mg base (He.ga K "Watch") 5 := ⟨g_Watch, _, _, mk, (F_W_init.binds fun _ _ _ _ _ _ us hl => match us, hl with | [_, _, _], _ => rfl), ok_W_init (k := 4) F_W_init ck d_tupled4⟩
    have m_twin : Mt P w K mg base (He.ga K "Watch") 7 "twin" ["self"] (spTwin (He.ga K "Watch")) := ⟨_, _, h_twin, (F_W_twin.binds fun _ _ _ _ _ _ us hl => match us, hl with | [_], _ => rfl), ok_W_twin (k := 5) F_W_twin m ck M (p_net.up (by decide)) (p_ring.up (by decide))⟩
    have L : LenC P w K mg base (He.ga K "Watch") 1 := ⟨_, _, h_len.1, h_len.2, (F_W_len.binds fun _ _ _ _ _ _ us hl => match us, hl with | [_], _ => rfl), ok_W_len F_W_len m ck⟩
    have d_L_goes : Df P w K mg base 2 "_law_goes" ["_law_hub", "_law_rows", "_law_keys_here", "_law_lot_here"] (spt A_L_goes) := ⟨_, _, g_L_goes, F_L_goes.kp, (F_L_goes.binds fun _ _ _ _ _ _ us hl => match us, hl with | [_, _, _, _], _ => rfl), ok_L_goes (k := 1) F_L_goes (d_L_wants.up (by decide)) (d_L_by.up (by decide))⟩
    have d_L_least : Df P w K mg base 3 "_law_least" ["_law_hub", "_law_lot_here"] (spt A_L_least) := ⟨_, _, g_L_least, F_L_least.kp, (F_L_least.binds fun _ _ _ _ _ _ us hl => match us, hl with | [_, _], _ => rfl), ok_L_least (k := 2) F_L_least m (d_L_keys.up (by decide)) (d_L_plans.up (by decide)) (d_L_sets.up (by decide)) (d_L_goes.up (by decide)) (d_L_has_less.up (by decide))⟩
    have d_L_taken_right : Df P w K mg base 12 "_law_taken_right" ["_law_hub", "_law_hours_so", "_law_lots"] (spTaken (He.ga K "Watch")) := ⟨_, _, g_L_taken_right, F_L_taken_right.kp, (F_L_taken_right.binds fun _ _ _ _ _ _ us hl => match us, hl with | [_, _, _], _ => rfl), ok_L_taken (k := 10) F_L_taken_right m ck (M.up (by decide)) (m_take.up (by decide)) (d_L_plans.up (by decide)) (d_L_keysF.up (by decide)) (d_L_goes.up (by decide)) (d_hour.up (by decide)) (d_in_hand.up (by decide)) (d_same8.up (by decide)) (m_when.up (by decide)) (m_goes.up (by decide))⟩
    have d_L_lot_right : Df P w K mg base 12 "_law_lot_right" ["_law_plate", "_law_hub", "_law_lot_here"] (spt (A_L_lot (He.ga K "Watch"))) := ⟨_, _, g_L_lot_right, F_L_lot_right.kp, (F_L_lot_right.binds fun _ _ _ _ _ _ us hl => match us, hl with | [_, _, _], _ => rfl), ok_L_lot (k := 10) F_L_lot_right m ck (d_L_least.up (by decide)) (d_same8.up (by decide)) (d_openers.up (by decide)) (d_barriers.up (by decide)) (m_goes.up (by decide)) (p_told.up (by decide)) (m_needed.up (by decide)) (m_twin.up (by decide)) (m_give.up (by decide)) (m_take.up (by decide)) (m_no_longer.up (by decide)) (L.up (by decide))⟩
    have d_L_case_right : Df P w K mg base 14 "_law_case_right" ["_law_hub", "_law_hours_so", "_law_lots"] (spt A_L_case) := ⟨_, _, g_L_case_right, F_L_case_right.kp, (F_L_case_right.binds fun _ _ _ _ _ _ us hl => match us, hl with | [_, _, _], _ => rfl), ok_L_case (k := 12) F_L_case_right m ck (d_L_taken_right.up (by decide)) (d_L_lot_right.up (by decide)) (p_ring.up (by decide)) (d_L_keys.up (by decide))⟩
    have d_L_of : Df P w K mg base 2 "_law_of" ["_law_urn", "_law_some"] (spt A_of) := ⟨_, _, g_L_of, F_L_of.kp, (F_L_of.binds fun _ _ _ _ _ _ us hl => match us, hl with | [_, _], _ => rfl), ok_L_of (k := 1) F_L_of m (d_L_take.up (by decide))⟩
    have d_L_pick : Df P w K mg base 2 "_law_pick" ["_law_urn", "_law_some", "_law_many"] (spt A_pick) := ⟨_, _, g_L_pick, F_L_pick.kp, (F_L_pick.binds fun _ _ _ _ _ _ us hl => match us, hl with | [_, _, _], _ => rfl), ok_L_pick (k := 1) F_L_pick m (d_L_take.up (by decide))⟩
    have d_L_lot : Df P w K mg base 3 "_law_lot" ["_law_urn", "_law_hub"] (spt A_lot) := ⟨_, _, g_L_lot, F_L_lot.kp, (F_L_lot.binds fun _ _ _ _ _ _ us hl => match us, hl with | [_, _], _ => rfl), ok_L_lot_draw (k := 2) F_L_lot m (d_L_of.up (by decide))⟩
    have d_L_net : Df P w K mg base 5 "_law_net" ["_law_urn", "_law_sites", "_law_ways", "_law_rings", "_law_folk"] (spt A_net) := ⟨_, _, g_L_net, F_L_net.kp, (F_L_net.binds fun _ _ _ _ _ _ us hl => match us, hl with | [_, _, _, _, _], _ => rfl), ok_L_net (k := 3) F_L_net m (d_L_take.up (by decide)) (d_L_of.up (by decide)) (d_L_pick.up (by decide))⟩
    have d_L_box : Df P w K mg base 1 "_law_box" ["_law_script", "_law_k"] spBox := ⟨_, _, g_L_box, F_L_box.kp, (F_L_box.binds fun _ _ _ _ _ _ us hl => match us, hl with | [_, _], _ => rfl), ok_L_box (k := 0) F_L_box m⟩
    have d_L_cells : Df P w K mg base 1 "_law_cells" ["_law_script", "_law_roof"] (spt (A_cells K)) := ⟨_, _, g_L_cells, F_L_cells.kp, (F_L_cells.binds fun _ _ _ _ _ _ us hl => match us, hl with | [_, _], _ => rfl), ok_L_cells (k := 0) F_L_cells m⟩
    have d_L_right : Df P w K mg base 16 "_law_right" ["_law_urn"] (spt A_right) := ⟨_, _, g_L_right, F_L_right.kp, (F_L_right.binds fun _ _ _ _ _ _ us hl => match us, hl with | [_], _ => rfl), ok_L_right (k := 14) F_L_right m (d_L_net.up (by decide)) (d_L_of.up (by decide)) (d_L_keys.up (by decide)) (d_L_lot.up (by decide)) (d_L_case_right.up (by decide))⟩
    have d_L_by_hand_right : Df P w K mg base 15 "_law_by_hand_right" [] (spt A_hand) := ⟨_, _, g_L_by_hand_right, F_L_by_hand_right.kp, (F_L_by_hand_right.binds fun _ _ _ _ _ _ us hl => match us, hl with | [], _ => rfl), ok_L_hand (k := 14) F_L_by_hand_right m (d_openers.up (by decide)) (d_barriers.up (by decide)) (d_hour.up (by decide)) (d_same8.up (by decide)) (d_L_case_right.up (by decide))⟩
    exact (ok_law (k := 20) F_law m (d_L_by_hand_right.up (by decide)) (d_L_cells.up (by decide)) (d_L_right.up (by decide)) (d_L_box.up (by decide))).mono (by decide)
end Kl
open PySem PySem.W PySem.Calls PyProof.Rows
theorem PySem.Challenge.cw_keyedlines_k90_whole_keys_taken_as_hours_holds : PySem.Challenge.rw_keyedlines_k90_whole_keys_taken_as_hours.Holds := by
  w_on; o_law
  refine HandSHeadRun.head_any (r := OpenLaw.row PySem.Challenge.rw_keyedlines_k90_whole_keys_taken_as_hours) (q := view (OpenLaw.row PySem.Challenge.rw_keyedlines_k90_whole_keys_taken_as_hours).prog [114]) (H := Kl.hookK) (ob := Kl.obT) (M := 9000) (loose := Kl.looseL) (d := HandSHeadRun.topDef (OpenLaw.row PySem.Challenge.rw_keyedlines_k90_whole_keys_taken_as_hours).prog 114) (kwd := []) Kl.obT_eq
    (by kernel_rfl) (fun s => by kernel_rfl) Kl.runK (by kernel_rfl) (by kernel_rfl) (by kernel_rfl) (by rfl) (by first | assumption | decide +kernel) (by decide +kernel) ⟨rfl, rfl, rfl, rfl, rfl, by decide +kernel⟩ ?hw ?hc
  case hw => w_witness2
  case hc =>
    refine L2.walk_ofE (l := PySem.Challenge.rw_keyedlines_k90_whole_keys_taken_as_hours) (n := 63) (k := 60) (x := "_law_script") (CX := L2.CX0) rfl (by decide) (by kernel_rfl) ⟨rfl, by decide, by decide⟩ ?F (fun _ _ _ _ z => z)
    intro w mg fa h Y G hmg0
    obtain ⟨K, KX, c⟩ := Y
    have hmg : mg ("law" : PySem.Str) = some (.ref fa) := by
      have e : (HandSHeadRun.topDef (OpenLaw.row PySem.Challenge.rw_keyedlines_k90_whole_keys_taken_as_hours).prog 114).name = ("law" : PySem.Str) := by kernel_rfl
      rw [← e]
      exact hmg0
    obtain ⟨fd, hb, hF⟩ := Kl.facts (P := (PySem.Challenge.rw_keyedlines_k90_whole_keys_taken_as_hours).prog) (w := w) KX G hmg c
    refine ⟨K, fd, _, KX, hb, fun H a ns hl _ hS => ?_, hF⟩
    have hq : (Kl.Sq (ok := fun _ => True) K ns).p H (.ref a) := ⟨a, rfl, hS.imp (fun h => ⟨trivial, h⟩) fun h => h⟩
    refine ⟨fun _ => True, Kl.W0, Kl.W0, [Kl.Sq K ns], Kl.D (.bool true), trivial, .cons hq .nil, ⟨ns, hl, rfl, rfl, rfl⟩, fun v H2 _ _ p => ?_⟩
    have p2 : Kl.R (fun _ => True) H2 v (.bool true) := p
    cases p2
    rfl
