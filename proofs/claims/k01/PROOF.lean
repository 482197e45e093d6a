import PyProof.Rows.All
import Wide.All
import OpenK.AllK
import Wide.FinOn
import HandS.ForMost
import HandS.Deep
import HandS.IsInst
import HandS.TupAny
import HandS.TupMul
import HandS.Flow
import HandS.Style
import KE.KDictPairs
import HandS.RaiseMore
import HandS.Zip
import KE.GoesEnum
import KE.KDictZip
import HandS.Strs
import KE.SortData
import KE.KDictItemsList
import HandS.Sort
import HandS.More
import HandS.DictComp
import KE.KxIndex
import PySem.Challenge.RW_copyshapes_k01_books
set_option linter.all false
set_option maxHeartbeats 2000000
section
set_option Elab.async false
set_option maxRecDepth 100000
namespace Cy
open PySem L2

/-! ### data: what Python's values stand for -/
abbrev D := PyData
/-- what a name or an expression holds: data; a dict by value; the k-th object of the store; the script -/
inductive R where
  | dat (d : D)
  | dic (kvs : List (Key × D))
  | obj (k : Nat)
  | scr (ns : List Int)
  | itm (ds : List D)
  | dif (kvs : List (Key × D))
/-- an object that is written: a list, a dict, an instance (its class by a name) -/
inductive Ob where
  | lst (ds : List D)
  | dic (kvs : List (Key × D))
  | ins (c : Str) (fs : List (Str × D))

abbrev SS := List Ob
abbrev Dl := List (Option R)
/-- an expression's meaning; a test's; an argument list's -/
abbrev Em := Dl → SS → Option (R × SS)
abbrev Tm := Dl → SS → Option (Bool × SS)
abbrev Am := Dl → SS → Option (List R × SS)
inductive Fl where
  | nx (δ : Dl)
  | rt (r : R)
abbrev Sm := Dl → SS → Option (Fl × SS)

section
variable (K : PySem.W.Frag) (A : List Addr) (H : Hp)
def LsAt (a : Addr) (xs : List V) : Prop := H a = some (.lst xs) ∧ a ∉ A ∧ xs.length ≤ sizeLine
/-- a tuple, and its object has no dict of its own -/
def TpAt (a : Addr) (xs : List V) : Prop := (∃ o : Obj, H a = some (.frz o (.tup xs)) ∧ o.dict = none ∧ a ∉ A ∧ xs.length ≤ sizeLine) ∨
  ∃ (o : Obj) (its : Array Value) (n : Nat), K.lookup a = some o ∧ o.cls = .type "tuple" ∧ o.dict = none ∧ o.data = .seq its n ∧ its.size ≤ sizeLine ∧ Vals xs its.toList
/-- a pair of a walk: it is taken apart at once -/
def ItAt (a : Addr) (xs : List V) : Prop := H a = some (.tup xs) ∧ a ∉ A
mutual
inductive Dr : V → D → Prop
  | non : Dr .non .none
  | bl (b : Bool) : Dr (.bl b) (.bool b)
  | int (i : Int) : Dr (.int i) (.int i)
  | str (x : Str) : Dr (.str x) (.str x)
  | lst {a : Addr} {xs : List V} {ds : List D} : LsAt A H a xs → DrL xs ds → Dr (.ref a) (.list ds)
  | tup {a : Addr} {xs : List V} {ds : List D} : TpAt K A H a xs → DrL xs ds → Dr (.ref a) (.tuple ds)
inductive DrL : List V → List D → Prop
  | nil : DrL [] []
  | cons {v : V} {vs : List V} {d : D} {ds : List D} : Dr v d → DrL vs ds → DrL (v :: vs) (d :: ds)
end
inductive DrK : List (Key × V) → List (Key × D) → Prop
  | nil : DrK [] []
  | cons {k : Key} {v : V} {d : D} {vs : List (Key × V)} {ds : List (Key × D)} : Dr K A H v d → DrK vs ds → DrK ((k, v) :: vs) ((k, d) :: ds)
def DcAt (a : Addr) (kvs : List (Key × V)) : Prop := H a = some (.dK kvs) ∧ a ∉ A
/-- the script: read, never written -/
def ScAt (a : Addr) (xs : List V) : Prop := (Rd H a (.lst xs) ∧ a ∉ A) ∨
  ∃ (o : Obj) (its : Array Value) (n : Nat), K.lookup a = some o ∧ o.cls = .type "list" ∧ o.dict = none ∧ o.data = .seq its n ∧ its.size ≤ sizeLine ∧ Vals xs its.toList
def Rr : V → R → Prop
  | v, .dat d => Dr K A H v d
  | v, .dic kvs => ∃ a ks, v = .ref a ∧ DcAt A H a ks ∧ DrK K A H ks kvs
  | v, .obj k => ∃ a, v = .ref a ∧ A[k]? = some a
  | v, .scr ns => ∃ a, v = .ref a ∧ ScAt K A H a (ns.map V.int)
  | v, .itm ds => ∃ a xs, v = .ref a ∧ ItAt A H a xs ∧ DrL K A H xs ds
  | v, .dif kvs => ∃ (a : Addr) (o : Obj) (ks : List (Key × V)), v = .ref a ∧ (H a = some (.frz o (.dK ks)) ∧ a ∉ A) ∧ DrK K A H ks kvs
inductive RrL : List V → List R → Prop
  | nil : RrL [] []
  | cons {v : V} {vs : List V} {d : R} {ds : List R} : Rr K A H v d → RrL vs ds → RrL (v :: vs) (d :: ds)
inductive DrF : List (Str × V) → List (Str × D) → Prop
  | nil : DrF [] []
  | cons {k : Str} {v : V} {d : D} {vs : List (Str × V)} {ds : List (Str × D)} : Dr K A H v d → DrF vs ds → DrF ((k, v) :: vs) ((k, d) :: ds)
end
/-- the addresses of the classes, by their names -/
abbrev Cls0 := Str → Addr
section
variable (K : PySem.W.Frag) (cl : Cls0) (A : List Addr) (H : Hp)
def Or : Addr → Ob → Prop
  | a, .lst ds => ∃ vs, H a = some (.lst vs) ∧ DrL K A H vs ds ∧ vs.length ≤ sizeLine
  | a, .dic kvs => ∃ ks, H a = some (.dK ks) ∧ DrK K A H ks kvs
  | a, .ins c fs => ∃ dx vs, H a = some (.ins (cl c) dx vs) ∧ DrF K A H vs fs
structure Wr (S : SS) : Prop where
  len : A.length = S.length
  nd : A.Nodup
  ob : ∀ (k : Nat) (a : Addr) (o : Ob), A[k]? = some a → S[k]? = some o → Or K cl A H a o
/-- the slots -/
structure Sr (σ : St) (δ : Dl) : Prop where
  at_ : ∀ (i : Nat) (r : R), δ[i]? = some (some r) → ∃ v, σ[i]? = some (some v) ∧ Rr K A H v r
end
/-- how the heap goes on: the new objects are new, all but the store's objects stay -/
structure Ext (A : List Addr) (H : Hp) (A' : List Addr) (H' : Hp) : Prop where
  pre : ∃ B, A' = A ++ B
  new : ∀ b ∈ A', b ∉ A → H b = none
  kp : ∀ b o, H b = some o → b ∉ A → H' b = some o

section
variable {K : PySem.W.Frag} {cl : Cls0} {A A' A2 : List Addr} {H H' H2 : Hp}
theorem Ext.refl : Ext A H A H := ⟨⟨[], by simp⟩, fun _ h n => absurd h n, fun _ _ h _ => h⟩
theorem Ext.same (h : Same H H') : Ext A H A H' := ⟨⟨[], by simp⟩, fun _ h n => absurd h n, fun b o e _ => h b o e⟩
theorem Ext.sub (e : Ext A H A' H') : ∀ b ∈ A, b ∈ A' := by
  obtain ⟨B, rfl⟩ := e.pre
  intro b hb
  exact List.mem_append_left _ hb
theorem Ext.off (e : Ext A H A' H') {b : Addr} {o : HO} (h : H b = some o) (n : b ∉ A) : b ∉ A' := fun hb => by
  have := e.new b hb n
  rw [h] at this; cases this
theorem Ext.trans (e : Ext A H A' H') (f : Ext A' H' A2 H2) : Ext A H A2 H2 := by
  refine ⟨?_, fun b hb n => ?_, fun b o h n => f.kp b o (e.kp b o h n) (e.off h n)⟩
  · obtain ⟨B, h1⟩ := e.pre
    obtain ⟨C, h2⟩ := f.pre
    exact ⟨B ++ C, by rw [h2, h1, List.append_assoc]⟩
  · by_cases h : b ∈ A'
    · exact e.new b h n
    · have q := f.new b hb h
      cases z : H b with
      | none => rfl
      | some o =>
        rw [e.kp b o z n] at q; cases q
theorem Ext.at_ (e : Ext A H A' H') {k : Nat} {a : Addr} (h : A[k]? = some a) : A'[k]? = some a := by
  obtain ⟨B, rfl⟩ := e.pre
  rw [List.getElem?_append_left (List.getElem?_eq_some_iff.mp h).1]
  exact h
theorem LsAt.mono (e : Ext A H A' H') {a : Addr} {xs : List V} (h : LsAt A H a xs) : LsAt A' H' a xs := ⟨e.kp _ _ h.1 h.2.1, e.off h.1 h.2.1, h.2.2⟩
theorem DcAt.mono (e : Ext A H A' H') {a : Addr} {xs : List (Key × V)} (h : DcAt A H a xs) : DcAt A' H' a xs := ⟨e.kp _ _ h.1 h.2, e.off h.1 h.2⟩
theorem TpAt.mono (e : Ext A H A' H') {a : Addr} {xs : List V} (h : TpAt K A H a xs) : TpAt K A' H' a xs := by
  rcases h with ⟨o, h⟩ | h
  · exact .inl ⟨o, e.kp _ _ h.1 h.2.2.1, h.2.1, e.off h.1 h.2.2.1, h.2.2.2⟩
  · exact .inr h
theorem ItAt.mono (e : Ext A H A' H') {a : Addr} {xs : List V} (h : ItAt A H a xs) : ItAt A' H' a xs := ⟨e.kp _ _ h.1 h.2, e.off h.1 h.2⟩
theorem TpAt.le {a : Addr} {xs : List V} (h : TpAt K A H a xs) : xs.length ≤ sizeLine := by
  rcases h with ⟨o, h⟩ | ⟨o, its, n, _, _, _, _, h1, h2⟩
  · exact h.2.2.2
  · rw [h2.length, Array.length_toList]; exact h1
theorem LsAt.sq {a : Addr} {xs : List V} (h : LsAt A H a xs) : SqL K H a xs := SqL.of h.1
theorem TpAt.sq {a : Addr} {xs : List V} (h : TpAt K A H a xs) : SqT K H a xs := by
  rcases h with ⟨o, h⟩ | ⟨o, its, n, h1, h2, _, h3⟩
  · exact .inl (.inr ⟨o, h.1⟩)
  · exact .inr ⟨o, its, n, h1, h2, h3⟩
mutual
theorem Dr.mono (e : Ext A H A' H') : ∀ (d : D) (v : V), Dr K A H v d → Dr K A' H' v d
  | .none, _, h => by cases h; exact .non
  | .bool _, _, h => by cases h; exact .bl _
  | .int _, _, h => by cases h; exact .int _
  | .str _, _, h => by cases h; exact .str _
  | .list ds, _, h => by
    cases h with
    | lst h1 h2 => exact .lst (h1.mono e) (DrL.mono e ds _ h2)
  | .tuple ds, _, h => by
    cases h with
    | tup h1 h2 => exact .tup (h1.mono e) (DrL.mono e ds _ h2)
  | .dict _, _, h => by cases h
theorem DrL.mono (e : Ext A H A' H') : ∀ (ds : List D) (vs : List V), DrL K A H vs ds → DrL K A' H' vs ds
  | [], _, h => by cases h; exact .nil
  | d :: ds, _, h => by
    cases h with
    | cons h1 h2 => exact .cons (Dr.mono e d _ h1) (DrL.mono e ds _ h2)
end
theorem DrK.mono (e : Ext A H A' H') {ks : List (Key × V)} {kvs : List (Key × D)} (h : DrK K A H ks kvs) : DrK K A' H' ks kvs := by
  induction h with
  | nil => exact .nil
  | cons h1 _ ih => exact .cons (Dr.mono e _ _ h1) ih
theorem Ext.rd (e : Ext A H A' H') {a : Addr} {u : HO} (h : Rd H a u) (n : a ∉ A) : Rd H' a u ∧ a ∉ A' := by
  rcases h with h | ⟨o, h⟩
  · exact ⟨.inl (e.kp _ _ h n), e.off h n⟩
  · exact ⟨.inr ⟨o, e.kp _ _ h n⟩, e.off h n⟩
theorem ScAt.mono (e : Ext A H A' H') {a : Addr} {xs : List V} (h : ScAt K A H a xs) : ScAt K A' H' a xs := by
  rcases h with h | h
  · exact .inl (e.rd h.1 h.2)
  · exact .inr h
theorem ScAt.sq {a : Addr} {xs : List V} (h : ScAt K A H a xs) : SqL K H a xs := by
  rcases h with h | h
  · exact .inl h.1
  · exact .inr h
theorem Rr.mono (e : Ext A H A' H') : ∀ {r : R} {v : V}, Rr K A H v r → Rr K A' H' v r
  | .dat d, v, h => Dr.mono e d v h
  | .dic kvs, v, h => by
    obtain ⟨a, ks, rfl, h1, h2⟩ := h
    exact ⟨a, ks, rfl, h1.mono e, h2.mono e⟩
  | .obj k, v, h => by
    obtain ⟨a, rfl, h1⟩ := h
    exact ⟨a, rfl, e.at_ h1⟩
  | .scr ns, v, h => by
    obtain ⟨a, rfl, h1⟩ := h
    exact ⟨a, rfl, h1.mono e⟩
  | .itm ds, v, h => by
    obtain ⟨a, xs, rfl, h1, h2⟩ := h
    exact ⟨a, xs, rfl, h1.mono e, DrL.mono e _ _ h2⟩
  | .dif kvs, v, h => by
    obtain ⟨a, o, ks, rfl, h1, h2⟩ := h
    exact ⟨a, o, ks, rfl, ⟨e.kp _ _ h1.1 h1.2, e.off h1.1 h1.2⟩, h2.mono e⟩
theorem RrL.mono (e : Ext A H A' H') {vs : List V} {rs : List R} (h : RrL K A H vs rs) : RrL K A' H' vs rs := by
  induction h with
  | nil => exact .nil
  | cons h1 _ ih => exact .cons (h1.mono e) ih
theorem DrF.mono (e : Ext A H A' H') {vs : List (Str × V)} {rs : List (Str × D)} (h : DrF K A H vs rs) : DrF K A' H' vs rs := by
  induction h with
  | nil => exact .nil
  | cons h1 _ ih => exact .cons (Dr.mono e _ _ h1) ih
theorem Sr.mono (e : Ext A H A' H') {σ : L2.St} {δ : Dl} (h : Sr K A H σ δ) : Sr K A' H' σ δ := ⟨fun i r hr => by
  obtain ⟨v, h1, h2⟩ := h.at_ i r hr
  exact ⟨v, h1, h2.mono e⟩⟩
theorem Wr.same {S : SS} (w : Wr K cl A H S) (h : Same H H') : Wr K cl A H' S := ⟨w.len, w.nd, fun k a o h1 h2 => by
  have q := w.ob k a o h1 h2
  have e : Ext A H A H' := .same h
  cases o with
  | lst ds =>
    obtain ⟨vs, q1, q2, q3⟩ := q
    exact ⟨vs, h _ _ q1, DrL.mono e _ _ q2, q3⟩
  | dic kvs =>
    obtain ⟨vs, q1, q2⟩ := q
    exact ⟨vs, h _ _ q1, q2.mono e⟩
  | ins c fs =>
    obtain ⟨dx, vs, q1, q2⟩ := q
    exact ⟨dx, vs, h _ _ q1, q2.mono e⟩⟩
theorem Wr.trk {S : SS} (w : Wr K cl A H S) {a : Addr} (h : a ∈ A) : ∃ o, H a = some o ∧ Mut (some o) := by
  obtain ⟨k, hk, e⟩ := List.getElem_of_mem h
  have hS : k < S.length := by rw [← w.len]; exact hk
  have q := w.ob k a S[k] (by rw [List.getElem?_eq_getElem hk, e]) (List.getElem?_eq_getElem hS)
  cases z : S[k] with
  | lst ds =>
    rw [z] at q
    obtain ⟨vs, q1, q2⟩ := q
    exact ⟨_, q1, trivial⟩
  | dic kvs =>
    rw [z] at q
    obtain ⟨vs, q1, q2⟩ := q
    exact ⟨_, q1, trivial⟩
  | ins c fs =>
    rw [z] at q
    obtain ⟨dx, vs, q1, q2⟩ := q
    exact ⟨_, q1, trivial⟩
theorem Wr.fresh {S : SS} (w : Wr K cl A H S) {p : Addr} (h : H p = none) : p ∉ A := fun hp => by
  obtain ⟨o, e, _⟩ := w.trk hp
  rw [h] at e; cases e
/-- a new object, not the store's -/
theorem same_upd {p : Addr} (h : H p = none) (o : HO) : Same H (upd H p o) := fun b u q => by
  rw [upd_ne (ne_of_none q h)]; exact q
end

/-! ### readings -/
section
variable (K : PySem.W.Frag) (cl : Cls0)
/-- behind an expression -/
def Post (A : List Addr) (H : Hp) (S' : SS) (r : R) (Q : VK) : Prop := ∀ v A' H', Ext A H A' H' → Wr K cl A' H' S' → Rr K A' H' v r → Q v H'
def tE (f : Em) : TE := fun σ H Q => ∃ A δ S r S', Sr K A H σ δ ∧ Wr K cl A H S ∧ f δ S = some (r, S') ∧ Post K cl A H S' r Q
def tT (f : Tm) : TT := fun σ H Q => ∃ A δ S r S', Sr K A H σ δ ∧ Wr K cl A H S ∧ f δ S = some (r, S') ∧ ∀ A' H', Ext A H A' H' → Wr K cl A' H' S' → Q r H'
def tA (f : Am) : TA := fun σ H Q => ∃ A δ S rs S', Sr K A H σ δ ∧ Wr K cl A H S ∧ f δ S = some (rs, S') ∧ ∀ vs A' H', Ext A H A' H' → Wr K cl A' H' S' → RrL K A' H' vs rs → Q vs H'
def PostS (A : List Addr) (H : Hp) (S' : SS) (fl : Fl) (E : Ends) : Prop := match fl with
  | .nx δ' => ∀ σ' A' H', Ext A H A' H' → Wr K cl A' H' S' → Sr K A' H' σ' δ' → E.nx σ' H'
  | .rt r => ∀ v A' H', Ext A H A' H' → Wr K cl A' H' S' → Rr K A' H' v r → E.rt v H'
def tS (f : Sm) : TS := fun E σ H => ∃ A δ S fl S', Sr K A H σ δ ∧ Wr K cl A H S ∧ f δ S = some (fl, S') ∧ PostS K cl A H S' fl E
end

/-- the judgements: cl is the classes' addresses -/
def Ev (cl : Cls0) (X : Cx) (e : Expr) (f : Em) : Prop := PE X e (tE X.K cl f)
def Tv (cl : Cls0) (X : Cx) (e : Expr) (f : Tm) : Prop := PT X e (tT X.K cl f)
def Av (cl : Cls0) (X : Cx) (es : List Expr) (f : Am) : Prop := PA X es (tA X.K cl f)
def Sv (cl : Cls0) (X : Cx) (s : Stmt) (f : Sm) : Prop := PS X s (tS X.K cl f)
def Bv (cl : Cls0) (X : Cx) (ss : List Stmt) (f : Sm) : Prop := PSs X ss (tS X.K cl f)

section
variable {X : Cx} {cl : Cls0} {e a b : Expr} {es : List Expr} {st : Stmt} {sts : List Stmt} {pos : Pos}
theorem pe_imp {t t' : TE} (h : PE X e t) (i : ∀ σ H Q, t' σ H Q → t σ H Q) : PE X e t' := ⟨fun pins s σ H Q I q => h.run pins s σ H Q I (i σ H Q q)⟩
theorem pt_imp {t t' : TT} (h : PT X e t) (i : ∀ σ H Q, t' σ H Q → t σ H Q) : PT X e t' := ⟨fun pins s σ H Q I q => h.run pins s σ H Q I (i σ H Q q)⟩
theorem pa_imp {t t' : TA} (h : PA X es t) (i : ∀ σ H Q, t' σ H Q → t σ H Q) : PA X es t' := ⟨fun pos pins s σ H Q I q => h.run pos pins s σ H Q I (i σ H Q q)⟩
theorem ps_imp {t t' : TS} (h : PS X st t) (i : ∀ D σ H, t' D σ H → t D σ H) : PS X st t' := ⟨fun pins s σ H D I q => h.run pins s σ H D I (i D σ H q)⟩
theorem pss_imp {t t' : TS} (h : PSs X sts t) (i : ∀ D σ H, t' D σ H → t D σ H) : PSs X sts t' := ⟨fun pins s σ H D I q => h.run pins s σ H D I (i D σ H q)⟩

/-! ### names, constants -/
@[reducible] def eVar (i : Nat) : Em := fun δ S => match δ[i]? with
  | some (some r) => some (r, S)
  | _ => none
def eC (d : D) : Em := fun _ S => some (.dat d, S)
theorem ev_var {i : Nat} (h : PE X e (tVar i)) : Ev cl X e (eVar i) := by
  refine pe_imp h fun σ H Q ⟨A, δ, S, r, S', hs, hw, hf, q⟩ => ?_
  have : δ[i]? = some (some r) ∧ S' = S := by
    unfold eVar at hf
    split at hf
    · rename_i r' hr'
      cases hf
      exact ⟨hr', rfl⟩
    · cases hf
  obtain ⟨h1, rfl⟩ := this
  obtain ⟨v, h2, h3⟩ := hs.at_ i r h1
  exact ⟨v, h2, q v A H .refl hw h3⟩
theorem ev_c {v : V} {d : D} (h : PE X e (tC v)) (hd : ∀ A H, Dr X.K A H v d) : Ev cl X e (eC d) := by
  refine pe_imp h fun σ H Q ⟨A, δ, S, r, S', hs, hw, hf, q⟩ => ?_
  cases hf
  exact q v A H .refl hw (hd A H)
theorem ev_int {i j} : Ev cl X (.Constant (.int i) j pos) (eC (.int i)) := ev_c pe_int fun _ _ => .int _
theorem ev_bl {i j} : Ev cl X (.Constant (.bool i) j pos) (eC (.bool i)) := ev_c pe_bl fun _ _ => .bl _
theorem ev_non {j} : Ev cl X (.Constant .none j pos) (eC .none) := ev_c pe_non fun _ _ => .non
theorem ev_str {x j} : Ev cl X (.Constant (.str x) j pos) (eC (.str x)) := ev_c pe_str fun _ _ => .str _

/-! ### argument lists -/
def aNil : Am := fun _ S => some ([], S)
def aCons (f : Em) (g : Am) : Am := fun δ S => match f δ S with
  | some (r, S1) => (match g δ S1 with
    | some (rs, S2) => some (r :: rs, S2)
    | none => none)
  | none => none
theorem aCons_some {f : Em} {g : Am} {δ : Dl} {S S' : SS} {rs : List R} (h : aCons f g δ S = some (rs, S')) : ∃ r r2 S1, f δ S = some (r, S1) ∧ g δ S1 = some (r2, S') ∧ rs = r :: r2 := by
  unfold aCons at h
  split at h
  · rename_i r S1 h1
    split at h
    · rename_i r2 S2 h2
      cases h
      exact ⟨r, r2, S1, h1, h2, rfl⟩
    · cases h
  · cases h
theorem av_nil : Av cl X [] aNil := pa_imp pa_nil fun σ H Q ⟨A, δ, S, r, S', hs, hw, hf, q⟩ => by
  cases hf
  exact q [] A H .refl hw .nil
/-- one after the other -/
theorem tE_then {K : PySem.W.Frag} {f : Em} {σ : L2.St} {H : Hp} {A : List Addr} {δ : Dl} {S S1 : SS} {r : R} {Q : VK} (hs : Sr K A H σ δ) (hw : Wr K cl A H S) (hf : f δ S = some (r, S1))
    (h : ∀ v A1 H1, Ext A H A1 H1 → Wr K cl A1 H1 S1 → Rr K A1 H1 v r → Sr K A1 H1 σ δ → Q v H1) : tE K cl f σ H Q :=
  ⟨A, δ, S, r, S1, hs, hw, hf, fun v A1 H1 e w rv => h v A1 H1 e w rv (hs.mono e)⟩
theorem tA_then {K : PySem.W.Frag} {f : Am} {σ : L2.St} {H : Hp} {A : List Addr} {δ : Dl} {S S1 : SS} {r : List R} {Q : List V → Hp → Prop} (hs : Sr K A H σ δ) (hw : Wr K cl A H S) (hf : f δ S = some (r, S1))
    (h : ∀ v A1 H1, Ext A H A1 H1 → Wr K cl A1 H1 S1 → RrL K A1 H1 v r → Sr K A1 H1 σ δ → Q v H1) : tA K cl f σ H Q :=
  ⟨A, δ, S, r, S1, hs, hw, hf, fun v A1 H1 e w rv => h v A1 H1 e w rv (hs.mono e)⟩
theorem tT_then {K : PySem.W.Frag} {f : Tm} {σ : L2.St} {H : Hp} {A : List Addr} {δ : Dl} {S S1 : SS} {r : Bool} {Q : Bool → Hp → Prop} (hs : Sr K A H σ δ) (hw : Wr K cl A H S) (hf : f δ S = some (r, S1))
    (h : ∀ A1 H1, Ext A H A1 H1 → Wr K cl A1 H1 S1 → Sr K A1 H1 σ δ → Q r H1) : tT K cl f σ H Q :=
  ⟨A, δ, S, r, S1, hs, hw, hf, fun A1 H1 e w => h A1 H1 e w (hs.mono e)⟩
theorem av_cons {f : Em} {g : Am} (h1 : Ev cl X e f) (h2 : Av cl X es g) (hs : starEach (e :: es) X.env = (false, eval e X.env) :: starEach es X.env := by rfl) : Av cl X (e :: es) (aCons f g) := by
  refine pa_imp (pa_cons h1 h2 hs) fun σ H Q ⟨A, δ, S, r, S', hs, hw, hf, q⟩ => ?_
  obtain ⟨r1, r2, S1, f1, f2, rfl⟩ := aCons_some hf
  refine tE_then hs hw f1 fun v A1 H1 e1 w1 rv s1 => ?_
  refine tA_then s1 w1 f2 fun vs A2 H2 e2 w2 rvs s2 => ?_
  exact q _ A2 H2 (e1.trans e2) w2 (.cons (rv.mono e2) rvs)

/-! ### operations by values: what is done is told by a function of data; the heap may get new objects -/
/-- behind a step that writes nothing -/
def PPost (K : PySem.W.Frag) (A : List Addr) (H : Hp) (r : R) (Q : VK) : Prop := ∀ v H', Same H H' → Rr K A H' v r → Q v H'
def Op1 (cl : Cls0) (K : PySem.W.Frag) (g : SS → R → Option R) (t : V → Hp → VK → Prop) : Prop :=
  ∀ (A : List Addr) (H : Hp) (S : SS) (x : V) (rx r : R) (Q : VK), Wr K cl A H S → Rr K A H x rx → g S rx = some r → PPost K A H r Q → t x H Q
def Op2 (cl : Cls0) (K : PySem.W.Frag) (g : SS → R → R → Option R) (t : R2) : Prop :=
  ∀ (A : List Addr) (H : Hp) (S : SS) (x y : V) (rx ry r : R) (Q : VK), Wr K cl A H S → Rr K A H x rx → Rr K A H y ry → g S rx ry = some r → PPost K A H r Q → t x y H Q
def OpN (cl : Cls0) (K : PySem.W.Frag) (g : SS → List R → Option R) (t : List V → Hp → VK → Prop) : Prop :=
  ∀ (A : List Addr) (H : Hp) (S : SS) (xs : List V) (rs : List R) (r : R) (Q : VK), Wr K cl A H S → RrL K A H xs rs → g S rs = some r → PPost K A H r Q → t xs H Q
def e1 (g : SS → R → Option R) (f : Em) : Em := fun δ S => match f δ S with
  | some (x, S1) => (match g S1 x with
    | some r => some (r, S1)
    | none => none)
  | none => none
def e2 (g : SS → R → R → Option R) (f1 f2 : Em) : Em := fun δ S => match f1 δ S with
  | some (x, S1) => (match f2 δ S1 with
    | some (y, S2) => (match g S2 x y with
      | some r => some (r, S2)
      | none => none)
    | none => none)
  | none => none
def eN (g : SS → List R → Option R) (f : Am) : Em := fun δ S => match f δ S with
  | some (x, S1) => (match g S1 x with
    | some r => some (r, S1)
    | none => none)
  | none => none
theorem e1_some {g : SS → R → Option R} {f : Em} {δ : Dl} {S S' : SS} {r : R} (h : e1 g f δ S = some (r, S')) : ∃ x, f δ S = some (x, S') ∧ g S' x = some r := by
  unfold e1 at h
  split at h
  · split at h
    · cases h
      exact ⟨_, by assumption, by assumption⟩
    · cases h
  · cases h
theorem eN_some {g : SS → List R → Option R} {f : Am} {δ : Dl} {S S' : SS} {r : R} (h : eN g f δ S = some (r, S')) : ∃ x, f δ S = some (x, S') ∧ g S' x = some r := by
  unfold eN at h
  split at h
  · split at h
    · cases h
      exact ⟨_, by assumption, by assumption⟩
    · cases h
  · cases h
theorem e2_some {g : SS → R → R → Option R} {f f' : Em} {δ : Dl} {S S' : SS} {r : R} (h : e2 g f f' δ S = some (r, S')) : ∃ x y S1, f δ S = some (x, S1) ∧ f' δ S1 = some (y, S') ∧ g S' x y = some r := by
  unfold e2 at h
  split at h
  · split at h
    · split at h
      · cases h
        exact ⟨_, _, _, by assumption, by assumption, by assumption⟩
      · cases h
    · cases h
  · cases h
/-- the readings of one, two, n operands -/
theorem op1_go {K : PySem.W.Frag} {g : SS → R → Option R} {t : V → Hp → VK → Prop} {f : Em} (ho : Op1 cl K g t) : ∀ σ H Q, tE K cl (e1 g f) σ H Q → tE K cl f σ H fun x H1 => t x H1 Q := by
  intro σ H Q ⟨A, δ, S, r, S', hs, hw, hf, q⟩
  obtain ⟨x, f1, h1⟩ := e1_some hf
  refine tE_then hs hw f1 fun v A1 H1 e1 w1 rv s1 => ?_
  exact ho A1 H1 S' v x r Q w1 rv h1 fun v2 H2 sm r2 => q v2 A1 H2 (e1.trans (.same sm)) (w1.same sm) r2
theorem op2_go {K : PySem.W.Frag} {g : SS → R → R → Option R} {t : R2} {f f' : Em} (ho : Op2 cl K g t) : ∀ σ H Q, tE K cl (e2 g f f') σ H Q → tE K cl f σ H fun x H1 => tE K cl f' σ H1 fun y H2 => t x y H2 Q := by
  intro σ H Q ⟨A, δ, S, r, S', hs, hw, hf, q⟩
  obtain ⟨x, y, S1, f1, f2, h1⟩ := e2_some hf
  refine tE_then hs hw f1 fun v A1 H1 e1 w1 rv s1 => ?_
  refine tE_then s1 w1 f2 fun u A2 H2 e2 w2 ru s2 => ?_
  exact ho A2 H2 S' v u x y r Q w2 (rv.mono e2) ru h1 fun v2 H3 sm r2 => q v2 A2 H3 ((e1.trans e2).trans (.same sm)) (w2.same sm) r2
theorem opN_go {K : PySem.W.Frag} {g : SS → List R → Option R} {t : List V → Hp → VK → Prop} {f : Am} (ho : OpN cl K g t) : ∀ σ H Q, tE K cl (eN g f) σ H Q → tA K cl f σ H fun x H1 => t x H1 Q := by
  intro σ H Q ⟨A, δ, S, r, S', hs, hw, hf, q⟩
  obtain ⟨x, f1, h1⟩ := eN_some hf
  refine tA_then hs hw f1 fun v A1 H1 e1 w1 rv s1 => ?_
  exact ho A1 H1 S' v x r Q w1 rv h1 fun v2 H2 sm r2 => q v2 A1 H2 (e1.trans (.same sm)) (w1.same sm) r2
end
end Cy
end
section
set_option Elab.async false
set_option maxRecDepth 100000
set_option maxHeartbeats 2000000
/-! the making of tuples, and that the new object has no dict of its own -/
namespace Cy
open PySem PySem.Spec PyProof.Rows L2 HT
/-- a new tuple at p -/
def NewT (H : Hp) (xs : List V) (Q : VK) : Prop := ∀ p o, H p = none → o.dict = none → Q (.ref p) (upd H p (.frz o (.tup xs)))
section
variable {X : Cx}
theorem laidT {pins : List (Addr × Obj)} {σ : L2.St} {H : Hp} {s : Shared} (I : Inv X pins σ H s) {xs : List V} {its : List Value} (r : Vals xs its) (z : xs.length ≤ sizeLine) {Q : VK} (q : NewT H xs Q) :
    EP X pins σ Q (.ref s.heap.objs.size) { s with heap := s.heap.push { cls := .type "tuple", data := .seq its.toArray } } :=
  ⟨.ref s.heap.objs.size, _, I.laid (t' := s.toks) (o := .frz { cls := .type "tuple", data := .seq its.toArray } (.tup xs)) (fun b ob q => Heap.get?_push_of_some _ q) (Nat.le_refl _) ⟨Heap.get?_push_size _ rfl, z, its, r, IsTup.new _ _⟩, rfl, q _ _ (I.hok.fresh (Nat.le_refl _)) rfl⟩
def tTupF (t : TA) : TE := fun σ H Q => t σ H fun xs H1 => xs.length ≤ sizeLine ∧ NewT H1 xs Q
theorem pe_tupF {es : List Expr} {t : TA} {pos : Pos} {x1} (h : PA X es t) : PE X (.Tuple es x1 pos) (tTupF t) := by
  refine ⟨fun pins s σ H Q I hq => ?_⟩
  refine wpAny_Tuple_spliced (thn (h.run pos pins s σ H _ I hq) fun us s1 ⟨xs, H1, I1, r, z, q⟩ => ⟨by rw [← r.length]; exact z, ?_⟩)
  exact laidT I1 r z q
def rTupF (K : PySem.W.Frag) : List V → Hp → VK → Prop := fun xs H Q => ∃ p ys, xs = [.ref p] ∧ ((SqL K H p ys ∧ NewT H ys Q) ∨ (SqT K H p ys ∧ Q (.ref p) H))
theorem call_tupleF : CallR X (.type "tuple") (rTupF X.K) := by
  intro pins s σ H xs us Q I r h
  obtain ⟨p, ys, rfl, h⟩ := h
  obtain ⟨u, rfl, rx⟩ := vals1 r
  cases rx
  rcases h with ⟨hq, q⟩ | ⟨hq, q⟩
  · obtain ⟨its, r', pl, hz⟩ := I.list hq
    have hlen := r'.length
    refine call_tuple_list pl.isList (fun h' kp => ?_) (by simp only [List.size_toArray] <;> omega)
    have I1 : Inv X pins σ H { s with heap := h' } := I.kept (t' := s.toks) kp
    exact laidT I1 r' hz q
  · obtain ⟨its, r', pl, hz⟩ := I.tuple hq
    exact call_tuple_same pl ⟨.ref p, H, I, rfl, q⟩
def rSlF (K : PySem.W.Frag) : V → Option Int → Option Int → Hp → VK → Prop := fun x lo hi H Q => ∃ a xs, x = .ref a ∧ SqT K H a xs ∧
  (HT.sIx xs.length 0 lo = 0 ∧ HT.sIx xs.length xs.length hi = xs.length → Q (.ref a) H) ∧ (¬ (HT.sIx xs.length 0 lo = 0 ∧ HT.sIx xs.length xs.length hi = xs.length) → NewT H (cutV xs lo hi) Q)
theorem sl_tupF : SlR X (rSlF X.K) := by
  intro pins s σ H x v vl vu lo hi sl Q I rx hs pl pu h
  obtain ⟨a, xs, rfl, hx, q1, q2⟩ := h
  cases rx
  obtain ⟨its, r, ht, hz⟩ := I.tuple hx
  have hlen : its.toArray.size = xs.length := by rw [List.size_toArray]; exact r.length.symm
  refine ⟨"tuple", _, PyProof.Rows.slot_tuple_getitem.lookup, ht.typeIs, ?_⟩
  by_cases hw : HT.sIx xs.length 0 lo = 0 ∧ HT.sIx xs.length xs.length hi = xs.length
  · exact getItem_tuple_whole ht hs pl pu (by rw [hlen]; exact hw) ⟨.ref a, H, I, rfl, q1 hw⟩
  · refine HT.getItem_tuple_cut ht hs pl pu (by rw [hlen]; exact hw) ?_ (by rw [hlen]; exact hz)
    rw [hlen]
    exact laidT I ((r.drop (HT.sIx xs.length 0 lo)).take (HT.sIx xs.length xs.length hi - HT.sIx xs.length 0 lo)) (Nat.le_trans (cutV_length xs lo hi) hz) (q2 hw)
def rCatF (K : PySem.W.Frag) : R2 := fun x y H Q => ∃ a b xs ys, x = .ref a ∧ y = .ref b ∧ SqT K H a xs ∧ SqT K H b ys ∧ xs.length + ys.length ≤ sizeLine ∧
  (xs = [] → Q (.ref b) H) ∧ (xs ≠ [] → ys = [] → Q (.ref a) H) ∧ (xs ≠ [] → ys ≠ [] → NewT H (xs ++ ys) Q)
theorem op_catF : OpR X (binaryOp .Add) (rCatF X.K) := by
  intro pins s σ H x y v u Q I rx ry h
  obtain ⟨a, b, xs, ys, rfl, rfl, ha, hb, hz, q0, q1, q2⟩ := h
  cases rx
  cases ry
  obtain ⟨its, r1, p1, _⟩ := I.tuple ha
  obtain ⟨its2, r2, p2, _⟩ := I.tuple hb
  by_cases hx : xs = []
  · subst hx
    cases r1
    exact cat_tup0 p1 p2 ⟨.ref b, H, I, rfl, q0 rfl⟩
  · refine HT.cat_tup p1 p2 (fun z => hx (r1.nil_iff.mp z)) (fun z => ⟨.ref a, H, I, rfl, q1 hx (r2.nil_iff.mp z)⟩) (fun z => ?_) (by rw [← r1.length, ← r2.length]; exact hz)
    exact laidT I (r1.append r2) (by rw [List.length_append]; exact hz) (q2 hx fun w => z (r2.nil_iff.mpr w))
end
end Cy
end
section
set_option Elab.async false
set_option maxRecDepth 100000
set_option maxHeartbeats 2000000
/-! tuples whose object has no dict of its own: dict(t), t.m(..) -/
namespace Cy
open PySem PySem.Spec PyProof.Rows L2 HT
def PlT (K : PySem.W.Frag) (H : Hp) (a : Addr) (xs : List V) : Prop := (∃ o : Obj, H a = some (.frz o (.tup xs)) ∧ o.dict = none) ∨
  ∃ (o : Obj) (its : Array Value) (n : Nat), K.lookup a = some o ∧ o.cls = .type "tuple" ∧ o.dict = none ∧ o.data = .seq its n ∧ its.size ≤ sizeLine ∧ Vals xs its.toList
theorem TpAt.pl {K : PySem.W.Frag} {A : List Addr} {H : Hp} {a : Addr} {xs : List V} (h : TpAt K A H a xs) : PlT K H a xs := h.imp (fun ⟨o, h1, h2, _⟩ => ⟨o, h1, h2⟩) id
section
variable {X : Cx} {pins : List (Addr × Obj)} {σ : L2.St} {H : Hp} {s : Shared}
theorem PlT.at_ {a : Addr} {xs : List V} (I : Inv X pins σ H s) (h : PlT X.K H a xs) : ∃ (o : Obj) (n : Nat) (its : List Value), s.heap.get? a = some o ∧ o.cls = .type "tuple" ∧ o.dict = none ∧ o.data = .seq its.toArray n ∧ Vals xs its ∧ its.length ≤ sizeLine := by
  rcases h with ⟨o, h1, h2⟩ | ⟨o, its, n, h1, h2, h3, h4, h5, h6⟩
  · obtain ⟨e, z, its, r, o', e', hc, n, hd⟩ := (show ObjOk X.prog X.w H s.heap a (.frz o (.tup xs)) from I.hok a _ h1)
    rw [e] at e'
    cases e'
    exact ⟨o, n, its, e, hc, h2, hd, r, by rw [← r.length]; exact z⟩
  · exact ⟨o, n, its.toList, I.kIn a o h1, h2, h3, by simpa using h4, h6, by simpa using h5⟩
/-- dict(t) of a tuple of pairs (key, value) -/
theorem call_dictT (hcalm : X.calm = true) : CallR X (.type "dict") (fun xs H Q => ∃ (a : Addr) (ps : List Addr) (kvs : List (Key × V)), xs = [.ref a] ∧ PlT X.K H a (ps.map V.ref) ∧ Paired (fun p kv => SqT X.K H p [kV kv.1, kv.2]) ps kvs ∧
    ∀ p, H p = none → Q (.ref p) (upd H p (.dK (mergeK [] kvs)))) := by
  intro pins s σ H xs us Q I r q
  obtain ⟨a, ps, kvs, ex, hq, hp, q⟩ := q
  subst ex
  obtain ⟨u, eu, rx⟩ := vals1 r
  subst eu
  cases rx
  obtain ⟨o, n, its, ho, hc, hd, hdat, rv, hz⟩ := hq.at_ I
  have ei := refs_at rv
  subst ei
  rw [List.length_map] at hz
  obtain ⟨prs, rel, hl, hpr⟩ := pairs_of I hp
  have hat : ∀ (j : Nat) (p : Key × Value), prs[j]? = some p → ∃ (b : Addr) (u : Value), ps[j]? = some b ∧ IsTup s.heap b #[u, p.2] ∧ keyIs p.1 u = true := hpr
  -- the keys, as they stand
  have ks : ∃ kl : List Value, kl.length = prs.length ∧ ∀ (j : Nat) (p : Key × Value) (k : Value), prs[j]? = some p → kl[j]? = some k → ∃ b, ps[j]? = some b ∧ IsTup s.heap b #[k, p.2] ∧ keyIs p.1 k = true := by
    clear rel hl hpr q hz hdat rv hp hq
    induction prs generalizing ps with
    | nil => exact ⟨[], rfl, fun j p k e => by simp at e⟩
    | cons p0 prs ih =>
      obtain ⟨b0, u0, g1, g2, g3⟩ := hat 0 p0 rfl
      cases ps with
      | nil => simp at g1
      | cons b1 ps =>
        obtain ⟨kl, k1, k2⟩ := ih (ps := ps) (fun j p e => by
          obtain ⟨b, u, h1, h2⟩ := hat (j + 1) p (by simpa using e)
          exact ⟨b, u, by simpa using h1, h2⟩)
        refine ⟨u0 :: kl, by simp [k1], fun j p k e1 e2 => ?_⟩
        cases j with
        | zero =>
          simp at e1 e2
          subst e1 e2
          exact ⟨b0, g1, g2, g3⟩
        | succ j => exact k2 j p k (by simpa using e1) (by simpa using e2)
  obtain ⟨kl, kl1, kl2⟩ := ks
  have hk : ∀ (j : Nat) (p : Key × Value), prs[j]? = some p → ∃ k, kl[j]? = some k := fun j p e => by
    have := (List.getElem?_eq_some_iff.mp e).1
    exact ⟨kl[j]'(by omega), List.getElem?_eq_getElem _⟩
  let pv : List (Value × Value) := (kl.zip prs).map fun z => (z.1, z.2.2)
  have pl : pv.length = ps.length := by simp only [pv, List.length_map, List.length_zip]; omega
  have pa : ∀ (j : Nat) (k v : Value), pv[j]? = some (k, v) → ∃ (p : Key × Value) (b : Addr), prs[j]? = some p ∧ p.2 = v ∧ ps[j]? = some b ∧ IsTup s.heap b #[k, v] ∧ keyIs p.1 k = true := fun j k v e => by
    simp only [pv, List.getElem?_map] at e
    cases hz : (kl.zip prs)[j]? with
    | none => rw [hz] at e; cases e
    | some z =>
      rw [hz] at e
      obtain ⟨z1, z2⟩ := List.getElem?_zip_eq_some.mp hz
      have e1 : z.1 = k := congrArg Prod.fst (Option.some.inj e)
      have e2 : z.2.2 = v := congrArg Prod.snd (Option.some.inj e)
      obtain ⟨b, b1, b2, b3⟩ := kl2 j z.2 z.1 z2 z1
      subst e1 e2
      exact ⟨z.2, b, z2, rfl, b1, b2, b3⟩
  have Ts : ∃ f : Nat → Addr, ∀ j b, ps[j]? = some b → f j = b := ⟨fun j => (ps[j]?).getD 0, fun j b e => by simp [e]⟩
  obtain ⟨f, hf⟩ := Ts
  refine call_dict_pairs (knd := mixKind X.prog X.w) (kvs := prs) (PairArg.tuple a (ps.map Value.ref).toArray f pv) (I.ok.hd hcalm) ⟨⟨o, n, ho, hc, hd, hdat⟩, by simp [pl], fun j k v e => ?_⟩ ⟨by rw [pl, hl], fun i key v e => ?_⟩ (by rw [pl]; exact hz) fun h' tk hd' k => ?_
  · obtain ⟨p, b, e1, e2, e3, e4, e5⟩ := pa j k v e
    rw [hf j b e3]
    exact ⟨by simp [e3], .inl e4⟩
  · obtain ⟨p, b, e1, e2, e3, e4, e5⟩ := pa i key v e
    exact ⟨p.1, by rw [e1, ← e2], e5⟩
  · have hm : (s.heap.objs.size == sysModules) = false := beq_eq_false_iff_ne.mpr (Nat.ne_of_gt I.big)
    have hlen : (mergeK [] kvs).length ≤ sizeLine := by
      refine Nat.le_trans (length_mergeK kvs []) ?_
      rw [List.length_nil, Nat.zero_add, rel.length, hl]
      exact hz
    exact ⟨.ref s.heap.objs.size, upd H s.heap.objs.size (.dK (mergeK [] kvs)), I.laid (t' := tk) (fun b o e => k b o (by simp) e) (Nat.le_refl _) (show ObjOk X.prog X.w _ _ _ (.dK (mergeK [] kvs)) from ⟨hlen, hm, merged [] prs, KV.merge rel .nil, hd'⟩), rfl, q _ (I.hok.fresh (Nat.le_refl _))⟩
/-! a method of a tuple -/
def tBMT (K : PySem.W.Frag) (r : V → List V → Hp → VK → Prop) (to : TE) (t : TA) : TE := fun σ H Q => to σ H fun x H1 => (∃ p xs, x = .ref p ∧ PlT K H1 p xs) ∧ t σ H1 fun xs H2 => r x xs H2 Q
theorem pe_bmT {o e : Expr} {es : List Expr} {to : TE} {t : TA} {name : Str} {apos cpos : Pos} {id : String} {r : V → List V → Hp → VK → Prop} (pa : PlainAttrs "tuple") (slot : Slot "tuple" name id) (hty : typeOf (.builtin id) = pure (.type "method_descriptor")) (hm : MtR X id r) (ho : PE X o to) (ha : PA X (e :: es) t)
    (hbase : attributeBase o name X.env (eval o X.env) = eval o X.env := by rfl)
    (hfew : ((backTo cpos (starEach (e :: es) X.env)).all (fun x => !x.1) && (backToKw cpos (keywordEach [] X.env)).all (fun x => x.1.isSome)
      && decide ((e :: es).length + ([] : List Keyword).length + (if ([] : List Keyword).isEmpty then 0 else 1) < 30)) = true := by rfl)
    (hline : (apos.endLine == cpos.line) = true := by rfl) (hs : starEach (e :: es) X.env = (false, eval e X.env) :: starEach es X.env := by rfl) (hplain : (backTo cpos (starEach es X.env)).any (·.1) = false := by rfl) :
    PE X (.Call (.Attribute o name apos) (e :: es) [] cpos) (tBMT X.K r to t) := by
  refine ⟨fun pins s σ H Q I h => ?_⟩
  refine wpAny_Call_method_late hbase hfew hline rfl (thn (ho.run pins s σ H _ I h) fun v s1 ⟨x, H1, I1, r1, ty, q1⟩ => ?_)
  obtain ⟨p, xs, rfl, hp⟩ := ty
  obtain ⟨o', n, its, ho', hc, hd, _⟩ := hp.at_ I1
  have r1' := r1
  cases r1'
  refine ⟨"tuple", id, pa, slot, hty, ⟨o', ho', hc⟩, fun a e => by cases e; exact ⟨o', ho', hd⟩, ?_⟩
  have hA := ha.run cpos pins s1 σ H1 _ I1 q1
  rw [hs] at hA ⊢
  refine Calls.callWith_builtin (by show (false || (backTo cpos (starEach es X.env)).any (·.1)) = false; rw [hplain] <;> rfl) (Calls.evalArgs_plain ?_)
  exact thn hA fun us s2 ⟨vs, H2, I2, r2, q2⟩ => hm pins s2 σ H2 _ vs _ us Q I2 r1 r2 q2
end
end Cy
end
section
set_option Elab.async false
set_option maxRecDepth 100000
namespace Cy
open PySem L2

/-! ### data behind a value -/
def asD (S : SS) : R → Option D
  | .dat d => some d
  | .obj k => (match S[k]? with
    | some (.lst ds) => some (.list ds)
    | _ => none)
  | .dic _ => none
  | .scr _ => none
  | .itm _ => none
  | .dif _ => none
def asKv (S : SS) : R → Option (List (Key × D))
  | .dic kvs => some kvs
  | .obj k => (match S[k]? with
    | some (.dic kvs) => some kvs
    | _ => none)
  | .dat _ => none
  | .scr _ => none
  | .itm _ => none
  | .dif _ => none
def Fr (A : List Addr) (H : Hp) : Prop := ∀ p, H p = none → p ∉ A
section
variable {K : PySem.W.Frag} {cl : Cls0} {A A' A2 : List Addr} {H H' H2 : Hp} {S : SS}
/-- data whose outermost list may be the store's -/
def DrO (K : PySem.W.Frag) (A : List Addr) (H : Hp) (v : V) (d : D) : Prop := Dr K A H v d ∨ ∃ a vs ds, v = .ref a ∧ d = .list ds ∧ H a = some (.lst vs) ∧ DrL K A H vs ds ∧ vs.length ≤ sizeLine
theorem asD_rel (w : Wr K cl A H S) {x : V} {r : R} {d : D} (h : Rr K A H x r) (e : asD S r = some d) : DrO K A H x d := by
  cases r with
  | dat d' => cases e; exact .inl h
  | dic kvs => cases e
  | scr ns => cases e
  | itm ds => cases e
  | dif kvs => cases e
  | obj k =>
    obtain ⟨a, rfl, ha⟩ := h
    unfold asD at e
    simp only at e
    split at e
    · rename_i ds hS
      cases e
      obtain ⟨vs, q1, q2⟩ := w.ob k a _ ha hS
      exact .inr ⟨a, vs, ds, rfl, rfl, q1, q2⟩
    · cases e
theorem asKv_rel (w : Wr K cl A H S) {x : V} {r : R} {d : List (Key × D)} (h : Rr K A H x r) (e : asKv S r = some d) : ∃ a ks, x = .ref a ∧ H a = some (.dK ks) ∧ DrK K A H ks d := by
  cases r with
  | dat d' => cases e
  | dic kvs =>
    cases e
    obtain ⟨a, ks, rfl, q1, q2⟩ := h
    exact ⟨a, ks, rfl, q1.1, q2⟩
  | scr ns => cases e
  | itm ds => cases e
  | dif kvs => cases e
  | obj k =>
    obtain ⟨a, rfl, ha⟩ := h
    unfold asKv at e
    simp only at e
    split at e
    · rename_i ds hS
      cases e
      obtain ⟨vs, q1, q2⟩ := w.ob k a _ ha hS
      exact ⟨a, vs, rfl, q1, q2⟩
    · cases e
theorem DrO.non {v : V} (h : DrO K A H v .none) : v = .non := by
  rcases h with h | ⟨_, _, _, _, e, _⟩
  · cases h; rfl
  · cases e
theorem DrO.bool {v : V} {b : Bool} (h : DrO K A H v (.bool b)) : v = .bl b := by
  rcases h with h | ⟨_, _, _, _, e, _⟩
  · cases h; rfl
  · cases e
theorem DrO.int {v : V} {b : Int} (h : DrO K A H v (.int b)) : v = .int b := by
  rcases h with h | ⟨_, _, _, _, e, _⟩
  · cases h; rfl
  · cases e
theorem DrO.str {v : V} {b : Str} (h : DrO K A H v (.str b)) : v = .str b := by
  rcases h with h | ⟨_, _, _, _, e, _⟩
  · cases h; rfl
  · cases e
theorem DrO.tuple {v : V} {ds : List D} (h : DrO K A H v (.tuple ds)) : ∃ a xs, v = .ref a ∧ TpAt K A H a xs ∧ DrL K A H xs ds := by
  rcases h with h | ⟨_, _, _, _, e, _⟩
  · cases h with
    | tup h1 h2 => exact ⟨_, _, rfl, h1, h2⟩
  · cases e
theorem DrO.list' {v : V} {ds : List D} (h : DrO K A H v (.list ds)) : ∃ a xs, v = .ref a ∧ H a = some (.lst xs) ∧ DrL K A H xs ds ∧ xs.length ≤ sizeLine := by
  rcases h with h | ⟨a, vs, ds', rfl, e, h1, h2⟩
  · cases h with
    | lst h1 h2 => exact ⟨_, _, rfl, h1.1, h2, h1.2.2⟩
  · cases e
    exact ⟨a, vs, rfl, h1, h2⟩
theorem DrO.list {v : V} {ds : List D} (h : DrO K A H v (.list ds)) : ∃ a xs, v = .ref a ∧ H a = some (.lst xs) ∧ DrL K A H xs ds :=
  let ⟨a, xs, h1, h2, h3, _⟩ := h.list'; ⟨a, xs, h1, h2, h3⟩
theorem DrO.dict {v : V} {ds} (h : DrO K A H v (.dict ds)) : False := by
  rcases h with h | ⟨_, _, _, _, e, _⟩
  · cases h
  · cases e
mutual
theorem Dr.dp : ∀ (d : D) (v : V), Dr K A H v d → Dp K H v d
  | .none, _, h => by cases h; exact .non
  | .bool _, _, h => by cases h; exact .bl _
  | .int _, _, h => by cases h; exact .int _
  | .str _, _, h => by cases h; exact .str _
  | .list ds, _, h => by
    cases h with
    | lst h1 h2 => exact .lst h1.sq (DrL.dp ds _ h2)
  | .tuple ds, _, h => by
    cases h with
    | tup h1 h2 => exact .tup h1.sq (DrL.dp ds _ h2)
  | .dict _, _, h => by cases h
theorem DrL.dp : ∀ (ds : List D) (vs : List V), DrL K A H vs ds → DpAll K H vs ds
  | [], _, h => by cases h; exact .nil
  | d :: ds, _, h => by
    cases h with
    | cons h1 h2 => exact .cons (Dr.dp d _ h1) (DrL.dp ds _ h2)
end
theorem DrO.dp {v : V} {d : D} (h : DrO K A H v d) : Dp K H v d := by
  rcases h with h | ⟨a, vs, ds, rfl, rfl, h1, h2, _⟩
  · exact Dr.dp d v h
  · exact .lst (SqL.of h1) (DrL.dp ds _ h2)
theorem DrL.length {vs : List V} {ds : List D} (h : DrL K A H vs ds) : vs.length = ds.length := by
  induction ds generalizing vs with
  | nil => cases h; rfl
  | cons d ds ih =>
    cases h with
    | cons h1 h2 => rw [List.length_cons, List.length_cons, ih h2]
theorem DrL.app {vs us : List V} {ds es : List D} (h : DrL K A H vs ds) (h' : DrL K A H us es) : DrL K A H (vs ++ us) (ds ++ es) := by
  induction ds generalizing vs with
  | nil => cases h; exact h'
  | cons d ds ih =>
    cases h with
    | cons h1 h2 => exact .cons h1 (ih h2)
theorem DrL.get {vs : List V} {ds : List D} (h : DrL K A H vs ds) {i : Nat} {d : D} (e : ds[i]? = some d) : ∃ v, vs[i]? = some v ∧ Dr K A H v d := by
  induction ds generalizing vs i with
  | nil => simp at e
  | cons d' ds ih =>
    cases h with
    | cons h1 h2 =>
      cases i with
      | zero => simp at e; subst e; exact ⟨_, rfl, h1⟩
      | succ i =>
        obtain ⟨v, e1, e2⟩ := ih h2 (i := i) (by simpa using e)
        exact ⟨v, by simpa using e1, e2⟩
theorem DrL.get' {vs : List V} {ds : List D} (h : DrL K A H vs ds) {i : Nat} {v : V} (e : vs[i]? = some v) : ∃ d, ds[i]? = some d ∧ Dr K A H v d := by
  induction ds generalizing vs i with
  | nil => cases h; simp at e
  | cons d' ds ih =>
    cases h with
    | cons h1 h2 =>
      cases i with
      | zero => simp at e; subst e; exact ⟨_, rfl, h1⟩
      | succ i =>
        obtain ⟨v, e1, e2⟩ := ih h2 (i := i) (by simpa using e)
        exact ⟨v, by simpa using e1, e2⟩
theorem DrL.take {vs : List V} {ds : List D} (h : DrL K A H vs ds) (n : Nat) : DrL K A H (vs.take n) (ds.take n) := by
  induction n generalizing vs ds with
  | zero => exact .nil
  | succ n ih =>
    cases h with
    | nil => exact .nil
    | cons h1 h2 => exact .cons h1 (ih h2)
theorem DrL.drop {vs : List V} {ds : List D} (h : DrL K A H vs ds) (n : Nat) : DrL K A H (vs.drop n) (ds.drop n) := by
  induction n generalizing vs ds with
  | zero => exact h
  | succ n ih =>
    cases h with
    | nil => exact .nil
    | cons h1 h2 => exact ih h2
theorem DrL.rev {vs : List V} {ds : List D} (h : DrL K A H vs ds) : DrL K A H vs.reverse ds.reverse := by
  induction ds generalizing vs with
  | nil => cases h; exact .nil
  | cons d ds ih =>
    cases h with
    | cons h1 h2 =>
      rw [List.reverse_cons, List.reverse_cons]
      exact (ih h2).app (.cons h1 .nil)
theorem DrL.ints {vs : List V} {ns : List Int} (h : DrL K A H vs (ns.map .int)) : vs = ns.map V.int := by
  induction ns generalizing vs with
  | nil => cases h; rfl
  | cons n ns ih =>
    cases h with
    | cons h1 h2 =>
      cases h1
      rw [ih h2] <;> rfl
theorem DrL.strs {vs : List V} {ns : List Str} (h : DrL K A H vs (ns.map .str)) : vs = ns.map V.str := by
  induction ns generalizing vs with
  | nil => cases h; rfl
  | cons n ns ih =>
    cases h with
    | cons h1 h2 =>
      cases h1
      rw [ih h2] <;> rfl
theorem DrL.bls {vs : List V} {ns : List Bool} (h : DrL K A H vs (ns.map .bool)) : vs = ns.map V.bl := by
  induction ns generalizing vs with
  | nil => cases h; rfl
  | cons n ns ih =>
    cases h with
    | cons h1 h2 =>
      cases h1
      rw [ih h2] <;> rfl
/-- a new list, a new tuple -/
theorem new_list (f : Fr A H) {p : Addr} (hp : H p = none) {vs : List V} {ds : List D} (h : DrL K A H vs ds) (z : ds.length ≤ sizeLine) : Dr K A (upd H p (.lst vs)) (.ref p) (.list ds) :=
  .lst ⟨upd_same, f p hp, by rw [h.length]; exact z⟩ (DrL.mono (.same (same_upd hp _)) _ _ h)
theorem new_tup (f : Fr A H) {p : Addr} (hp : H p = none) {o : Obj} (ho : o.dict = none) {vs : List V} {ds : List D} (h : DrL K A H vs ds) (z : ds.length ≤ sizeLine) : Dr K A (upd H p (.frz o (.tup vs))) (.ref p) (.tuple ds) :=
  .tup (.inl ⟨o, upd_same, ho, f p hp, by rw [h.length]; exact z⟩) (DrL.mono (.same (same_upd hp _)) _ _ h)
/-- a tuple is its value again -/
theorem DrO.dr_tup {v : V} {ds : List D} (h : DrO K A H v (.tuple ds)) : Dr K A H v (.tuple ds) := by
  obtain ⟨a, xs, rfl, h1, h2⟩ := h.tuple
  exact .tup h1 h2
end
def PPostD (K : PySem.W.Frag) (A : List Addr) (H : Hp) (d : D) (Q : VK) : Prop := ∀ v H', Same H H' → Dr K A H' v d → Q v H'
def OpD1 (K : PySem.W.Frag) (g : D → Option D) (t : V → Hp → VK → Prop) : Prop :=
  ∀ (A : List Addr) (H : Hp) (x : V) (a d : D) (Q : VK), Fr A H → DrO K A H x a → g a = some d → PPostD K A H d Q → t x H Q
def OpD2 (K : PySem.W.Frag) (g : D → D → Option D) (t : R2) : Prop :=
  ∀ (A : List Addr) (H : Hp) (x y : V) (a b d : D) (Q : VK), Fr A H → DrO K A H x a → DrO K A H y b → g a b = some d → PPostD K A H d Q → t x y H Q
def l1 (g : D → Option D) : SS → R → Option R := fun S x => match asD S x with
  | some a => (match g a with
    | some d => some (.dat d)
    | none => none)
  | none => none
def l2 (g : D → D → Option D) : SS → R → R → Option R := fun S x y => match asD S x with
  | some a => (match asD S y with
    | some b => (match g a b with
      | some d => some (.dat d)
      | none => none)
    | none => none)
  | none => none
section
variable {K : PySem.W.Frag} {cl : Cls0}
theorem l1_op {g : D → Option D} {t : V → Hp → VK → Prop} (h : OpD1 K g t) : Op1 cl K (l1 g) t := by
  intro A H S x rx r Q w hx e q
  unfold l1 at e
  split at e
  · rename_i a ha
    split at e
    · rename_i d hd
      cases e
      exact h A H x a d Q (fun p hp => w.fresh hp) (asD_rel w hx ha) hd fun v H' s r => q v H' s r
    · cases e
  · cases e
theorem l2_op {g : D → D → Option D} {t : R2} (h : OpD2 K g t) : Op2 cl K (l2 g) t := by
  intro A H S x y rx ry r Q w hx hy e q
  unfold l2 at e
  split at e
  · rename_i a ha
    split at e
    · rename_i b hb
      split at e
      · rename_i d hd
        cases e
        exact h A H x y a b d Q (fun p hp => w.fresh hp) (asD_rel w hx ha) (asD_rel w hy hb) hd fun v H' s r => q v H' s r
      · cases e
    · cases e
  · cases e
end

/-! ### operators -/
def addD : D → D → Option D
  | .int i, .int j => some (.int (i + j))
  | .str x, .str y => if x.length + y.length ≤ sizeLine then some (.str (x ++ y)) else none
  | .list xs, .list ys => if xs.length + ys.length ≤ sizeLine then some (.list (xs ++ ys)) else none
  | .tuple xs, .tuple ys => if xs.length + ys.length ≤ sizeLine then some (.tuple (xs ++ ys)) else none
  | _, _ => none
def subD : D → D → Option D
  | .int i, .int j => some (.int (i - j))
  | _, _ => none
def fitD (i : Int) : Bool := decide (-(2 ^ 64) < i) && decide (i < 2 ^ 64)
def mulD : D → D → Option D
  | .int i, .int j => if fitD i || fitD j then some (.int (i * j)) else none
  | .list xs, .int k => if 0 ≤ k ∧ k ≤ 1000 ∧ xs.length ≤ 1000 then some (.list (List.replicate k.toNat xs).flatten) else none
  | _, _ => none
def fdivD : D → D → Option D
  | .int i, .int j => if 0 < j ∧ j < 1073741824 then some (.int (i / j)) else none
  | _, _ => none
def modD : D → D → Option D
  | .int i, .int j => if 0 < j then some (.int (i % j)) else none
  | _, _ => none
def negD : D → Option D
  | .int i => some (.int (-i))
  | _ => none
def eqD (a b : D) : Option D := if SeqAt.shaped a && SeqAt.shaped b then some (.bool (PyData.eqv a b)) else none
def neD (a b : D) : Option D := if SeqAt.shaped a && SeqAt.shaped b then some (.bool (!PyData.eqv a b)) else none
def ltD : D → D → Option D
  | .int i, .int j => some (.bool (decide (i < j)))
  | .str i, .str j => some (.bool (decide (i.cps.toList < j.cps.toList)))
  | _, _ => none
def leD : D → D → Option D
  | .int i, .int j => some (.bool (decide (i ≤ j)))
  | .str i, .str j => some (.bool (!decide (j.cps.toList < i.cps.toList)))
  | _, _ => none
def gtD : D → D → Option D
  | .int i, .int j => some (.bool (decide (j < i)))
  | _, _ => none
def geD : D → D → Option D
  | .int i, .int j => some (.bool (decide (j ≤ i)))
  | _, _ => none
def isNoneD : D → D → Option D
  | .none, .none => some (.bool true)
  | _, .none => some (.bool false)
  | .bool a, .bool b => some (.bool (decide (a = b)))
  | _, _ => none
section
variable {X : Cx} {K : PySem.W.Frag}
theorem DrO.fr_mono {A : List Addr} {H H' : Hp} {v : V} {d : D} (h : Dr K A H v d) (s : Same H H') : Dr K A H' v d := Dr.mono (.same s) d v h
def rAdd (K : PySem.W.Frag) : R2 := fun x y H Q => (rI0 fun i j => .int (i + j)) x y H Q ∨ ((∃ i j, x = .str i ∧ y = .str j ∧ i.length + j.length ≤ sizeLine ∧ Q (.str (i ++ j)) H) ∨ (rCat x y H Q ∨ rCatF K x y H Q))
theorem or_add : OpR X (binaryOp .Add) (rAdd X.K) := op_add.or (op_add_str.or (op_cat.or op_catF))
theorem od_add : OpD2 K addD (rAdd K) := by
  intro A H x y a b d Q f hx hy e q
  unfold addD at e
  split at e
  · cases e
    cases hx.int; cases hy.int
    exact .inl ⟨_, _, rfl, rfl, q _ H (Same.refl H) (.int _)⟩
  · split at e
    · rename_i hz
      cases e
      cases hx.str; cases hy.str
      exact .inr (.inl ⟨_, _, rfl, rfl, hz, q _ H (Same.refl H) (.str _)⟩)
    · cases e
  · split at e
    · rename_i hz
      cases e
      obtain ⟨p, xs, rfl, h1, h2⟩ := hx.list
      obtain ⟨p', xs', rfl, h1', h2'⟩ := hy.list
      refine .inr (.inr (.inl ⟨p, p', xs, xs', rfl, rfl, h1, h1', by rw [h2.length, h2'.length]; exact hz, fun l hl => ?_⟩))
      exact q _ _ (same_upd hl _) (new_list f hl (h2.app h2') (by rw [List.length_append]; exact hz))
    · cases e
  · split at e
    · rename_i hz
      cases e
      obtain ⟨p, xs, rfl, h1, h2⟩ := hx.tuple
      obtain ⟨p', xs', rfl, h1', h2'⟩ := hy.tuple
      refine .inr (.inr (.inr ⟨p, p', xs, xs', rfl, rfl, h1.sq, h1'.sq, by rw [h2.length, h2'.length]; exact hz, fun e => ?_, fun _ e => ?_, fun _ _ l o hl ho => ?_⟩))
      · subst e
        cases h2
        exact q _ H (Same.refl H) (.tup h1' h2')
      · subst e
        cases h2'
        rw [List.append_nil] at q
        exact q _ H (Same.refl H) (.tup h1 h2)
      · exact q _ _ (same_upd hl _) (new_tup f hl ho (h2.app h2') (by rw [List.length_append]; exact hz))
    · cases e
  · cases e
theorem od_sub : OpD2 K subD (rI0 fun i j => .int (i - j)) := by
  intro A H x y a b d Q f hx hy e q
  unfold subD at e
  split at e
  · cases e
    cases hx.int; cases hy.int
    exact ⟨_, _, rfl, rfl, q _ H (Same.refl H) (.int _)⟩
  · cases e
def rMul (K : PySem.W.Frag) : R2 := fun x y H Q => (rI CMul fun i j => .int (i * j)) x y H Q ∨ rRep x y H Q
theorem or_mul : OpR X (binaryOp .Mult) (rMul X.K) := op_mul.or op_rep
theorem fit_of {i : Int} (h : fitD i = true) : -(2 ^ 64) < i ∧ i < 2 ^ 64 := by
  unfold fitD at h
  rw [Bool.and_eq_true] at h
  exact ⟨of_decide_eq_true h.1, of_decide_eq_true h.2⟩
theorem len_rep {α : Type} (ds : List α) : ∀ n, (List.replicate n ds).flatten.length = ds.length * n
  | 0 => by simp
  | n + 1 => by
    rw [List.replicate_succ, List.flatten_cons, List.length_append, len_rep ds n, Nat.mul_succ, Nat.add_comm]
theorem DrL.rep {A : List Addr} {H : Hp} {vs : List V} {ds : List D} (h : DrL K A H vs ds) : ∀ n, DrL K A H (List.replicate n vs).flatten (List.replicate n ds).flatten
  | 0 => .nil
  | n + 1 => by
    rw [List.replicate_succ, List.replicate_succ, List.flatten_cons, List.flatten_cons]
    exact h.app (h.rep n)
theorem od_mul : OpD2 K mulD (rMul K) := by
  intro A H x y a b d Q f hx hy e q
  unfold mulD at e
  split at e
  · split at e
    · rename_i hc
      cases e
      cases hx.int; cases hy.int
      refine .inl ⟨_, _, rfl, rfl, ?_, q _ H (Same.refl H) (.int _)⟩
      rcases (Bool.or_eq_true _ _).mp hc with h | h
      · exact .inl (fit_of h)
      · exact .inr (fit_of h)
    · cases e
  · split at e
    · rename_i hc
      cases e
      obtain ⟨p, xs, rfl, h1, h2⟩ := hx.list
      cases hy.int
      refine .inr ⟨p, _, xs, rfl, rfl, h1, by omega, by omega, ?_, fun l hl => ?_⟩
      · rw [h2.length, sizeLine_eq]
        have := Nat.mul_le_mul hc.2.2 (show _ ≤ 1000 from Int.toNat_le.mpr hc.2.1)
        omega
      · refine q _ _ (same_upd hl _) (new_list f hl (h2.rep _) ?_)
        rw [len_rep, sizeLine_eq]
        have := Nat.mul_le_mul hc.2.2 (show _ ≤ 1000 from Int.toNat_le.mpr hc.2.1)
        omega
    · cases e
  · cases e
theorem od_fdiv : OpD2 K fdivD (rI CDiv fun i j => .int (i / j)) := by
  intro A H x y a b d Q f hx hy e q
  unfold fdivD at e
  split at e
  · split at e
    · rename_i hc
      cases e
      cases hx.int; cases hy.int
      exact ⟨_, _, rfl, rfl, hc, q _ H (Same.refl H) (.int _)⟩
    · cases e
  · cases e
theorem od_mod : OpD2 K modD (rI (fun _ j => 0 < j) fun i j => .int (i % j)) := by
  intro A H x y a b d Q f hx hy e q
  unfold modD at e
  split at e
  · split at e
    · rename_i hc
      cases e
      cases hx.int; cases hy.int
      exact ⟨_, _, rfl, rfl, hc, q _ H (Same.refl H) (.int _)⟩
    · cases e
  · cases e
theorem od_neg : OpD1 K negD (rU fun i => .int (-i)) := by
  intro A H x a d Q f hx e q
  unfold negD at e
  split at e
  · cases e
    cases hx.int
    exact ⟨_, rfl, q _ H (Same.refl H) (.int _)⟩
  · cases e
theorem od_eq : OpD2 K eqD (rEqD K) := by
  intro A H x y a b d Q f hx hy e q
  unfold eqD at e
  split at e
  · rename_i hc
    rw [Bool.and_eq_true] at hc
    cases e
    exact ⟨_, _, hx.dp, hy.dp, hc.1, hc.2, q _ H (Same.refl H) (.bl _)⟩
  · cases e
theorem od_ne : OpD2 K neD (rNeD K) := by
  intro A H x y a b d Q f hx hy e q
  unfold neD at e
  split at e
  · rename_i hc
    rw [Bool.and_eq_true] at hc
    cases e
    exact ⟨_, _, hx.dp, hy.dp, hc.1, hc.2, q _ H (Same.refl H) (.bl _)⟩
  · cases e
def rLt : R2 := fun x y H Q => (rI0 fun i j => .bl (decide (i < j))) x y H Q ∨ ∃ i j, x = .str i ∧ y = .str j ∧ Q (.bl (decide (i.cps.toList < j.cps.toList))) H
theorem or_lt : OpR X (compareOp .Lt) rLt := op_lt.or op_lt_str
theorem od_lt : OpD2 K ltD rLt := by
  intro A H x y a b d Q f hx hy e q
  unfold ltD at e
  split at e
  · cases e
    cases hx.int; cases hy.int
    exact .inl ⟨_, _, rfl, rfl, q _ H (Same.refl H) (.bl _)⟩
  · cases e
    cases hx.str; cases hy.str
    exact .inr ⟨_, _, rfl, rfl, q _ H (Same.refl H) (.bl _)⟩
  · cases e
def rLe : R2 := fun x y H Q => (rI0 fun i j => .bl (decide (i ≤ j))) x y H Q ∨ ∃ i j, x = .str i ∧ y = .str j ∧ Q (.bl (!decide (j.cps.toList < i.cps.toList))) H
theorem or_le : OpR X (compareOp .LtE) rLe := op_le.or op_le_str
theorem od_le : OpD2 K leD rLe := by
  intro A H x y a b d Q f hx hy e q
  unfold leD at e
  split at e
  · cases e
    cases hx.int; cases hy.int
    exact .inl ⟨_, _, rfl, rfl, q _ H (Same.refl H) (.bl _)⟩
  · cases e
    cases hx.str; cases hy.str
    exact .inr ⟨_, _, rfl, rfl, q _ H (Same.refl H) (.bl _)⟩
  · cases e
theorem od_gt : OpD2 K gtD (rI0 fun i j => .bl (decide (j < i))) := by
  intro A H x y a b d Q f hx hy e q
  unfold gtD at e
  split at e
  · cases e
    cases hx.int; cases hy.int
    exact ⟨_, _, rfl, rfl, q _ H (Same.refl H) (.bl _)⟩
  · cases e
theorem od_ge : OpD2 K geD (rI0 fun i j => .bl (decide (j ≤ i))) := by
  intro A H x y a b d Q f hx hy e q
  unfold geD at e
  split at e
  · cases e
    cases hx.int; cases hy.int
    exact ⟨_, _, rfl, rfl, q _ H (Same.refl H) (.bl _)⟩
  · cases e
end
end Cy
end
section
set_option Elab.async false
set_option maxRecDepth 100000
namespace Cy
open PySem L2

/-! ### subscripts -/
def keyOf : D → Option Key
  | .int i => some (.inl i)
  | .str x => some (.inr x)
  | _ => none
def getK {α : Type} (kvs : List (Key × α)) (k : Key) : Option α := (kvs.find? fun kv => decide (kv.1 = k)).map (·.2)
def putK' {α : Type} : List (Key × α) → Key → α → List (Key × α)
  | [], k, v => [(k, v)]
  | p :: r, k, v => if p.1 = k then (p.1, v) :: (r.map fun kv => if kv.1 = k then (kv.1, v) else kv) else p :: putK' r k v
def ixD : D → D → Option D
  | .list ds, .int i => atI ds i
  | .tuple ds, .int i => atI ds i
  | .str z, .int i => if z.length ≤ sizeLine then (atI z.cps.toList i).map fun c => .str ⟨#[c]⟩ else none
  | _, _ => none
def ixR (S : SS) (x y : R) : Option R := match x, y with
  | .scr ns, .dat (.int i) => (atI ns i).map fun n => .dat (.int n)
  | .dif kvs, .dat k => (match keyOf k with
    | some k => (getK kvs k).map .dat
    | none => none)
  | x, y => match asKv S x with
    | some kvs => (match y with
      | .dat k => (match keyOf k with
        | some k => (getK kvs k).map .dat
        | none => none)
      | _ => none)
    | none => l2 ixD S x y
section
variable {X : Cx} {K : PySem.W.Frag} {cl : Cls0} {A : List Addr} {H : Hp}
theorem keyOf_dr {d : D} {k : Key} (e : keyOf d = some k) {v : V} (h : Dr K A H v d) : v = kV k := by
  unfold keyOf at e
  split at e
  · cases e; cases h; rfl
  · cases e; cases h; rfl
  · cases e
theorem DrK.val {ks : List (Key × V)} {kvs : List (Key × D)} (h : DrK K A H ks kvs) {k : Key} {d : D} (e : getK kvs k = some d) : ∃ v, valV ks k = some v ∧ Dr K A H v d := by
  induction h with
  | nil => cases e
  | @cons k' v' d' vs ds h1 h2 ih =>
    by_cases hk : k' = k
    · have e' : getK ((k', d') :: ds) k = some d' := by simp [getK, hk]
      rw [e'] at e; cases e
      exact ⟨v', valV_pos hk, h1⟩
    · have e' : getK ((k', d') :: ds) k = getK ds k := by simp [getK, List.find?_cons, hk]
      rw [e'] at e
      obtain ⟨v, q1, q2⟩ := ih e
      exact ⟨v, by rw [valV_neg (p := (k', v')) hk]; exact q1, q2⟩
theorem DrK.none {ks : List (Key × V)} {kvs : List (Key × D)} (h : DrK K A H ks kvs) {k : Key} (e : getK kvs k = .none) : valV ks k = .none := by
  induction h with
  | nil => rfl
  | @cons k' v' d' vs ds h1 h2 ih =>
    by_cases hk : k' = k
    · have e' : getK ((k', d') :: ds) k = some d' := by simp [getK, hk]
      rw [e'] at e; cases e
    · have e' : getK ((k', d') :: ds) k = getK ds k := by simp [getK, List.find?_cons, hk]
      rw [e'] at e
      rw [valV_neg (p := (k', v')) hk]
      exact ih e
theorem DrK.length {ks : List (Key × V)} {kvs : List (Key × D)} (h : DrK K A H ks kvs) : ks.length = kvs.length := by
  induction h with
  | nil => rfl
  | cons _ _ ih => rw [List.length_cons, List.length_cons, ih]
theorem DrL.atI {vs : List V} {ds : List D} (h : DrL K A H vs ds) {i : Int} {d : D} (e : L2.atI ds i = some d) : ∃ v, L2.atI vs i = some v ∧ Dr K A H v d := by
  unfold L2.atI at e ⊢
  rw [h.length]
  cases q : ixN ds.length i with
  | none => rw [q] at e; cases e
  | some j =>
    rw [q] at e
    exact h.get e
open PySem.Spec PyProof.Rows in
/-- d[k] among the subscripts -/
theorem ix_dict (hu : X.A.units + 1 < cLine) : IxR X (fun x y H Q => ∃ a v, x = .ref a ∧ DGet H a y (some v) ∧ Q v H) := by
  intro value slice pins s σ H x y v u Q I rx ry ⟨a, w', e, g, q⟩ hs
  subst e
  obtain rfl : v = Value.ref a := rx
  have hT := dict_typeIs I g
  unfold subscriptTail
  refine wpAny_bind ?_
  rw [getitemInPython_of_ne hT.not_modules]
  refine wpAny_bind (wpAny_specialOf hT PySem.F.slot_dict_getitem.lookup ?_)
  have fin : wpAny (model X.prog X.w) X.A (subscripted slice false (.ref a) u) (fun r s₃ => wpAny (model X.prog X.w) X.A (letTemporaryGo value (.ref a) r >>= fun _ => pure r) (EP X pins σ Q) X.xe s₃) X.xe s := by
    rw [hs]
    exact wpAny_operating (d_getItem hu I g ry fun w'' s3 I3 rw' => wpAny_bind (wpAny_letTemporaryGo (wpAny_pure ⟨_, H, I3, rw', q⟩)))
  first
    | exact wpAny_pure (wpAny_bind fin)
    | exact wpAny_bind (wpAny_pure (wpAny_bind fin))
    | exact wpAny_bind fin
def rIxA (K : PySem.W.Frag) : R2 := fun x y H Q => (∃ a v, x = .ref a ∧ DGet H a y (some v) ∧ Q v H) ∨ rIx K x y H Q
theorem ix_all (hu : X.A.units + 1 < cLine) : IxR X (rIxA X.K) := (ix_dict hu).or ix_seq
theorem oR_ix : Op2 cl K ixR (rIxA K) := by
  intro A H S x y rx ry r Q w hx hy e q
  unfold ixR at e
  split at e
  · rename_i ns i
    cases he : atI ns i with
    | none => rw [he] at e; cases e
    | some n =>
      rw [he] at e
      cases e
      obtain ⟨a, rfl, h1⟩ := hx
      cases (show y = .int i from by cases hy; rfl)
      refine .inr (.inl ⟨a, _, _, _, rfl, rfl, h1.sq, ?_, q (.int n) H (Same.refl H) (.int _)⟩)
      unfold atI at he ⊢
      rw [List.length_map]
      cases q2 : ixN ns.length i with
      | none => rw [q2] at he; cases he
      | some j =>
        rw [q2] at he
        show (ns.map V.int)[j]? = _
        rw [List.getElem?_map, show ns[j]? = some n from he]
        rfl
  · rename_i kvs d
    split at e
    · rename_i k hkk
      cases hg : getK kvs k with
      | none => rw [hg] at e; cases e
      | some dd =>
        rw [hg] at e
        cases e
        obtain ⟨a, o, ks, rfl, h1, h2⟩ := hx
        obtain ⟨v, q1, q2⟩ := h2.val hg
        cases keyOf_dr hkk hy
        refine .inl ⟨a, v, rfl, ?_, q v H (Same.refl H) q2⟩
        rw [← q1]
        exact .inl ⟨ks, k, .inr ⟨o, h1.1⟩, rfl, rfl⟩
    · cases e
  · split at e
    · rename_i kvs hk
      split at e
      · split at e
        · rename_i d k hkk
          cases hg : getK kvs k with
          | none => rw [hg] at e; cases e
          | some dd =>
            rw [hg] at e
            cases e
            obtain ⟨a, ks, rfl, h1, h2⟩ := asKv_rel w hx hk
            obtain ⟨v, q1, q2⟩ := h2.val hg
            cases keyOf_dr hkk hy
            refine .inl ⟨a, v, rfl, ?_, q v H (Same.refl H) q2⟩
            rw [← q1]
            exact DGet.k h1
        · cases e
      · cases e
    · unfold l2 at e
      split at e
      · rename_i a ha
        split at e
        · rename_i b hb
          have hx := asD_rel w hx ha
          have hy := asD_rel w hy hb
          split at e
          · rename_i d hd
            cases e
            unfold ixD at hd
            split at hd
            · obtain ⟨p, xs, rfl, h1, h2⟩ := hx.list
              cases hy.int
              obtain ⟨v, q1, q2⟩ := h2.atI hd
              exact .inr (.inl ⟨p, xs, _, v, rfl, rfl, SqL.of h1, q1, q v H (Same.refl H) q2⟩)
            · obtain ⟨p, xs, rfl, h1, h2⟩ := hx.tuple
              cases hy.int
              obtain ⟨v, q1, q2⟩ := h2.atI hd
              exact .inr (.inr (.inl ⟨p, xs, _, v, rfl, rfl, h1.sq, q1, q v H (Same.refl H) q2⟩))
            · rename_i z i
              split at hd
              · rename_i hz
                cases hx.str
                cases hy.int
                cases hc : atI z.cps.toList i with
                | none => rw [hc] at hd; cases hd
                | some c =>
                  rw [hc] at hd
                  cases hd
                  exact .inr (.inr (.inr ⟨z, i, c, rfl, rfl, hz, hc, q _ H (Same.refl H) (.str _)⟩))
              · cases hd
            · cases hd
          · cases e
        · cases e
      · cases e

/-! ### slices -/
def cutL {α : Type} (xs : List α) (lo hi : Option Int) : List α := (xs.drop (HT.sIx xs.length 0 lo)).take (HT.sIx xs.length xs.length hi - HT.sIx xs.length 0 lo)
theorem cutL_le {α : Type} (xs : List α) (lo hi : Option Int) : (cutL xs lo hi).length ≤ xs.length := by
  unfold cutL
  rw [List.length_take, List.length_drop]
  omega
def slD : D → Option Int → Option Int → Option D
  | .list ds, lo, hi => some (.list (cutL ds lo hi))
  | .tuple ds, lo, hi => some (.tuple (cutL ds lo hi))
  | .str z, lo, hi => if z.length ≤ sizeLine then some (.str (cutS z lo hi)) else none
  | _, _, _ => none
def rSl (K : PySem.W.Frag) : V → Option Int → Option Int → Hp → VK → Prop := fun x lo hi H Q => rSlL K x lo hi H Q ∨ (rSlF K x lo hi H Q ∨ rSlS x lo hi H Q)
theorem sl_all : SlR X (rSl X.K) := sl_list.or (sl_tupF.or sl_str)
theorem DrL.cut {vs : List V} {ds : List D} (h : DrL K A H vs ds) (lo hi : Option Int) : DrL K A H (cutV vs lo hi) (cutL ds lo hi) := by
  unfold cutV cutL
  rw [h.length]
  exact (h.drop _).take _
theorem slD_ok {x : V} {d r : D} {lo hi : Option Int} {Q : VK} (f : Fr A H) (hx : DrO K A H x d) (e : slD d lo hi = some r) (q : PPostD K A H r Q) : rSl K x lo hi H Q := by
  unfold slD at e
  split at e
  · cases e
    obtain ⟨p, xs, rfl, h1, h2, h3⟩ := hx.list'
    exact .inl ⟨p, xs, rfl, SqL.of h1, fun l hl => q _ _ (same_upd hl _) (new_list f hl (h2.cut lo hi) (Nat.le_trans (cutL_le _ _ _) (by rw [← h2.length]; exact h3)))⟩
  · rename_i ds
    cases e
    obtain ⟨p, xs, rfl, h1, h2⟩ := hx.tuple
    refine .inr (.inl ⟨p, xs, rfl, h1.sq, fun hw => ?_, fun hw l o hl ho => q _ _ (same_upd hl _) (new_tup f hl ho (h2.cut lo hi) (Nat.le_trans (cutL_le _ _ _) (by rw [← h2.length]; exact h1.le)))⟩)
    have : cutL ds lo hi = ds := by
      unfold cutL
      rw [h2.length] at hw
      rw [hw.1, hw.2]
      simp
    rw [this] at q
    exact q _ H (Same.refl H) (.tup h1 h2)
  · split at e
    · rename_i z hz
      cases e
      cases hx.str
      exact .inr (.inr ⟨z, rfl, hz, q _ H (Same.refl H) (.str _)⟩)
    · cases e
  · cases e
/-- a bound of a slice -/
abbrev Om := Dl → SS → Option (Option Int × SS)
def oNone : Om := fun _ S => some (none, S)
def oSome (f : Em) : Om := fun δ S => match f δ S with
  | some (.dat (.int i), S1) => some (some i, S1)
  | _ => none
def tO (K : PySem.W.Frag) (cl : Cls0) (f : Om) : TO := fun σ H Q => ∃ A δ S r S', Sr K A H σ δ ∧ Wr K cl A H S ∧ f δ S = some (r, S') ∧ ∀ A' H', Ext A H A' H' → Wr K cl A' H' S' → Q r H'
def Ov (cl : Cls0) (X : Cx) (e : Option Expr) (f : Om) : Prop := PO X e (tO X.K cl f)
theorem po_imp {e : Option Expr} {t t' : TO} (h : PO X e t) (i : ∀ σ H Q, t' σ H Q → t σ H Q) : PO X e t' := ⟨fun pins s σ H Q I q => h.run pins s σ H Q I (i σ H Q q)⟩
theorem ov_none : Ov cl X none oNone := po_imp po_none fun σ H Q ⟨A, δ, S, r, S', hs, hw, hf, q⟩ => by
  cases hf
  exact q A H .refl hw
theorem ov_some {e : Expr} {f : Em} (h : Ev cl X e f) : Ov cl X (some e) (oSome f) := po_imp (po_some h) fun σ H Q ⟨A, δ, S, r, S', hs, hw, hf, q⟩ => by
  unfold oSome at hf
  split at hf
  · rename_i i S1 h1
    cases hf
    refine tE_then hs hw h1 fun v A1 H1 e1 w1 rv s1 => ?_
    cases rv
    exact ⟨i, rfl, q A1 H1 e1 w1⟩
  · cases hf
def eSl (f : Em) (lo hi : Om) : Em := fun δ S => match f δ S with
  | some (x, S1) => (match lo δ S1 with
    | some (l, S2) => (match hi δ S2 with
      | some (h, S3) => (match asD S3 x with
        | some d => (match slD d l h with
          | some r => some (.dat r, S3)
          | none => none)
        | none => none)
      | none => none)
    | none => none)
  | none => none
theorem ev_sl {e : Expr} {lo hi : Option Expr} {f : Em} {fl fh : Om} {p pos : Pos} (he : Ev cl X e f) (hl : Ov cl X lo fl) (hh : Ov cl X hi fh) : Ev cl X (.Subscript e (.Slice lo hi none p) pos) (eSl f fl fh) := by
  refine pe_imp (pe_slice sl_all he hl hh) fun σ H Q ⟨A, δ, S, r, S', hs, hw, hf, q⟩ => ?_
  unfold eSl at hf
  split at hf
  · rename_i x S1 h1
    split at hf
    · rename_i l S2 h2
      split at hf
      · rename_i hi' S3 h3
        split at hf
        · rename_i d hd
          split at hf
          · rename_i r' hr
            cases hf
            refine tE_then hs hw h1 fun v A1 H1 e1 w1 rv s1 => ⟨A1, δ, S1, l, S2, s1, w1, h2, fun A2 H2 e2 w2 => ⟨A2, δ, S2, hi', S', s1.mono e2, w2, h3, fun A3 H3 e3 w3 => ?_⟩⟩
            refine slD_ok (fun p hp => w3.fresh hp) (asD_rel w3 (rv.mono (e2.trans e3)) hd) hr fun v' H' sm dr => ?_
            exact q v' A3 H' ((e1.trans (e2.trans e3)).trans (.same sm)) (w3.same sm) dr
          · cases hf
        · cases hf
      · cases hf
    · cases hf
  · cases hf

/-! ### in -/
def inD : D → D → Option D
  | d, .list ds => if SeqAt.shaped d && SeqAt.shaped (.list ds) then some (.bool (ds.any fun z => PyData.eqv z d)) else none
  | d, .tuple ds => if SeqAt.shaped d && SeqAt.shaped (.list ds) then some (.bool (ds.any fun z => PyData.eqv z d)) else none
  | .str x, .str y => some (.bool (!(Builtin.Str.occurrences y x 0 y.length 1).isEmpty))
  | _, _ => none
def notD : D → Option D
  | .bool b => some (.bool (!b))
  | _ => none
def inR (S : SS) (x y : R) : Option R := match asKv S y with
  | some kvs => (match x with
    | .dat k => (match keyOf k with
      | some k => some (.dat (.bool (getK kvs k).isSome))
      | none => none)
    | _ => none)
  | none => l2 inD S x y
def notInR (S : SS) (x y : R) : Option R := match inR S x y with
  | some (.dat (.bool b)) => some (.dat (.bool !b))
  | _ => none
def rInT (K : PySem.W.Frag) : R2 := fun x y H Q => ∃ d ds, Dp K H x d ∧ Dp K H y (.tuple ds) ∧ SeqAt.shaped d = true ∧ SeqAt.shaped (.list ds) = true ∧ Q (.bl (ds.any fun z => PyData.eqv z d)) H
def rNotInT (K : PySem.W.Frag) : R2 := fun x y H Q => ∃ d ds, Dp K H x d ∧ Dp K H y (.tuple ds) ∧ SeqAt.shaped d = true ∧ SeqAt.shaped (.list ds) = true ∧ Q (.bl (!ds.any fun z => PyData.eqv z d)) H
theorem room_shaped {A : Around} {da : D} {n : Nat} (h : SeqAt.shaped da = true) (hu : A.units + 65 < cLine) : A.units + 1 + min n da.depth < cLine := by
  have h1 := SeqAt.depth_of_shaped h
  have h2 : min n da.depth ≤ da.depth := Nat.min_le_right _ _
  omega
theorem op_inT (hu : X.A.units + 65 < cLine) : OpR X (compareOp .In) (rInT X.K) := by
  intro pins s σ H x y v u Q I rx ry h
  obtain ⟨d, ds, hd, he, sd, se, q⟩ := h
  obtain ⟨as, r1⟩ := Dp.reads I d x v hd rx
  obtain ⟨bs, r2⟩ := Dp.reads I (.tuple ds) y u he ry
  exact SeqAt.in_tuple_reads r2 r1 (SeqAt.canLay_of_shaped (d := .list ds) se) (SeqAt.canLay_of_shaped sd) (room_shaped sd hu) ⟨.bl _, H, I, rfl, q⟩
theorem op_notInT (hu : X.A.units + 65 < cLine) : OpR X (compareOp .NotIn) (rNotInT X.K) := by
  intro pins s σ H x y v u Q I rx ry h
  obtain ⟨d, ds, hd, he, sd, se, q⟩ := h
  obtain ⟨as, r1⟩ := Dp.reads I d x v hd rx
  obtain ⟨bs, r2⟩ := Dp.reads I (.tuple ds) y u he ry
  exact SeqAt.notIn_tuple_reads r2 r1 (SeqAt.canLay_of_shaped (d := .list ds) se) (SeqAt.canLay_of_shaped sd) (room_shaped sd hu) ⟨.bl _, H, I, rfl, q⟩
def rDIn : R2 := fun y x H Q => ∃ a o, x = .ref a ∧ DGet H a y o ∧ Q (.bl o.isSome) H
def rDNotIn : R2 := fun y x H Q => ∃ a o, x = .ref a ∧ DGet H a y o ∧ Q (.bl (!o.isSome)) H
theorem op_dIn (hu : X.A.units + 1 < cLine) : OpR X (compareOp .In) rDIn := by
  intro pins s σ H y x v u Q I ry rx ⟨a, o, e, g, q⟩
  subst e
  obtain rfl : u = Value.ref a := rx
  exact d_in hu I g ry fun s' I' => ⟨.bl _, H, I', rfl, q⟩
theorem op_dNotIn (hu : X.A.units + 1 < cLine) : OpR X (compareOp .NotIn) rDNotIn := by
  intro pins s σ H y x v u Q I ry rx ⟨a, o, e, g, q⟩
  subst e
  obtain rfl : u = Value.ref a := rx
  exact d_notIn hu I g ry fun s' I' => ⟨.bl _, H, I', rfl, q⟩
def rInStr : R2 := fun x y H Q => ∃ i j, x = .str i ∧ y = .str j ∧ Q (.bl (!(Builtin.Str.occurrences j i 0 j.length 1).isEmpty)) H
def rNotInStr : R2 := fun x y H Q => ∃ i j, x = .str i ∧ y = .str j ∧ Q (.bl (!(!(Builtin.Str.occurrences j i 0 j.length 1).isEmpty))) H
def rInA (K : PySem.W.Frag) : R2 := fun x y H Q => rDIn x y H Q ∨ (rInD K x y H Q ∨ (rInT K x y H Q ∨ rInStr x y H Q))
def rNotInA (K : PySem.W.Frag) : R2 := fun x y H Q => rDNotIn x y H Q ∨ (rNotInD K x y H Q ∨ (rNotInT K x y H Q ∨ rNotInStr x y H Q))
theorem or_in (hu : X.A.units + 65 < cLine) : OpR X (compareOp .In) (rInA X.K) := (op_dIn (by omega)).or ((op_inD hu).or ((op_inT hu).or op_in_str))
theorem or_notIn (hu : X.A.units + 65 < cLine) : OpR X (compareOp .NotIn) (rNotInA X.K) := (op_dNotIn (by omega)).or ((op_notInD hu).or ((op_notInT hu).or op_notin_str))
theorem in_core {S : SS} {x y : V} {rx ry r : R} {Q : VK} (w : Wr K cl A H S) (hx : Rr K A H x rx) (hy : Rr K A H y ry) (e : inR S rx ry = some r) :
    ∃ b, r = .dat (.bool b) ∧ (Q (.bl b) H → rInA K x y H Q) ∧ (Q (.bl !b) H → rNotInA K x y H Q) := by
  unfold inR at e
  split at e
  · rename_i kvs hk
    split at e
    · split at e
      · rename_i d k hkk
        cases e
        obtain ⟨a, ks, rfl, h1, h2⟩ := asKv_rel w hy hk
        cases keyOf_dr hkk hx
        have es : (valV ks k).isSome = (getK kvs k).isSome := by
          cases hg : getK kvs k with
          | none => rw [h2.none hg]; rfl
          | some d =>
            obtain ⟨v, q1, _⟩ := h2.val hg
            rw [q1]; rfl
        exact ⟨_, rfl, fun q => .inl ⟨a, _, rfl, DGet.k h1, by rw [es]; exact q⟩, fun q => .inl ⟨a, _, rfl, DGet.k h1, by rw [es]; exact q⟩⟩
      · cases e
    · cases e
  · unfold l2 at e
    split at e
    · rename_i a ha
      split at e
      · rename_i b hb
        have hx := asD_rel w hx ha
        have hy := asD_rel w hy hb
        split at e
        · rename_i d hd
          cases e
          unfold inD at hd
          split at hd
          · split at hd
            · rename_i hc
              rw [Bool.and_eq_true] at hc
              cases hd
              exact ⟨_, rfl, fun q => .inr (.inl ⟨_, _, hx.dp, hy.dp, hc.1, hc.2, q⟩), fun q => .inr (.inl ⟨_, _, hx.dp, hy.dp, hc.1, hc.2, q⟩)⟩
            · cases hd
          · split at hd
            · rename_i hc
              rw [Bool.and_eq_true] at hc
              cases hd
              exact ⟨_, rfl, fun q => .inr (.inr (.inl ⟨_, _, hx.dp, hy.dp, hc.1, hc.2, q⟩)), fun q => .inr (.inr (.inl ⟨_, _, hx.dp, hy.dp, hc.1, hc.2, q⟩))⟩
            · cases hd
          · cases hd
            cases hx.str; cases hy.str
            exact ⟨_, rfl, fun q => .inr (.inr (.inr ⟨_, _, rfl, rfl, q⟩)), fun q => .inr (.inr (.inr ⟨_, _, rfl, rfl, q⟩))⟩
          · cases hd
        · cases e
      · cases e
    · cases e
theorem oR_in : Op2 cl K inR (rInA K) := by
  intro A H S x y rx ry r Q w hx hy e q
  obtain ⟨b, rfl, h1, _⟩ := in_core (Q := Q) w hx hy e
  exact h1 (q _ H (Same.refl H) (.bl _))
theorem oR_notIn : Op2 cl K notInR (rNotInA K) := by
  intro A H S x y rx ry r Q w hx hy e q
  unfold notInR at e
  split at e
  · rename_i b hb
    cases e
    obtain ⟨b', e', _, h2⟩ := in_core (Q := Q) w hx hy hb
    cases e'
    exact h2 (q _ H (Same.refl H) (.bl _))
  · cases e

/-! ### is None -/
def isR (S : SS) (x y : R) : Option R := match x, y with
  | .dat .none, .dat .none => some (.dat (.bool true))
  | .dat (.bool a), .dat (.bool b) => some (.dat (.bool (decide (a = b))))
  | _, .dat .none => some (.dat (.bool false))
  | _, _ => none
def isNotR (S : SS) (x y : R) : Option R := match isR S x y with
  | some (.dat (.bool b)) => some (.dat (.bool !b))
  | _ => none
def rIs : R2 := fun x y H Q => (y = .non ∧ Q (.bl (decide (x = .non))) H) ∨ rIsB x y H Q
def rIsNot : R2 := fun x y H Q => (y = .non ∧ Q (.bl (!decide (x = .non))) H) ∨ rNotB x y H Q
theorem or_is : OpR X (compareOp .Is) rIs := op_isN.or op_isBl
theorem or_isNot : OpR X (compareOp .IsNot) rIsNot := op_notN.or op_notBl
theorem Rr.non_iff {x : V} {r : R} (h : Rr K A H x r) (hn : r ≠ .dat .none) : x ≠ .non := by
  intro e
  subst e
  cases r with
  | dat d => cases h; exact hn rfl
  | dic kvs => obtain ⟨a, ks, e, _⟩ := h; cases e
  | obj k => obtain ⟨a, e, _⟩ := h; cases e
  | scr ns => obtain ⟨a, e, _⟩ := h; cases e
  | itm ds => obtain ⟨a, xs, e, _⟩ := h; cases e
  | dif kvs => obtain ⟨a, o, ks, e, _⟩ := h; cases e
theorem is_core {S : SS} {x y : V} {rx ry r : R} {Q : VK} (hx : Rr K A H x rx) (hy : Rr K A H y ry) (e : isR S rx ry = some r) :
    ∃ b, r = .dat (.bool b) ∧ (Q (.bl b) H → rIs x y H Q) ∧ (Q (.bl !b) H → rIsNot x y H Q) := by
  unfold isR at e
  split at e
  · cases e
    cases hx; cases hy
    exact ⟨true, rfl, fun q => .inl ⟨rfl, q⟩, fun q => .inl ⟨rfl, q⟩⟩
  · cases e
    cases hx; cases hy
    exact ⟨_, rfl, fun q => .inr ⟨_, _, rfl, rfl, q⟩, fun q => .inr ⟨_, _, rfl, rfl, q⟩⟩
  · rename_i h1
    cases e
    cases hy
    have hn : x ≠ .non := Rr.non_iff hx fun e => h1 e
    exact ⟨false, rfl, fun q => .inl ⟨rfl, by rw [decide_eq_false hn]; exact q⟩, fun q => .inl ⟨rfl, by rw [decide_eq_false hn]; exact q⟩⟩
  · cases e
theorem oR_is : Op2 cl K isR rIs := by
  intro A H S x y rx ry r Q w hx hy e q
  obtain ⟨b, rfl, h1, _⟩ := is_core (Q := Q) hx hy e
  exact h1 (q _ H (Same.refl H) (.bl _))
theorem oR_isNot : Op2 cl K isNotR rIsNot := by
  intro A H S x y rx ry r Q w hx hy e q
  unfold isNotR at e
  split at e
  · rename_i b hb
    cases e
    obtain ⟨b', e', _, h2⟩ := is_core (Q := Q) hx hy hb
    cases e'
    exact h2 (q _ H (Same.refl H) (.bl _))
  · cases e
end

/-! ### the rules by the text -/
section
variable {X : Cx} {cl : Cls0} {a b c : Expr} {pos : Pos} {f g k : Em}
theorem ev_bin {op : Operator} {t : R2} {o : SS → R → R → Option R} (ho : OpR X (binaryOp op) t) (hd : Op2 cl X.K o t) (ha : Ev cl X a f) (hb : Ev cl X b g) : Ev cl X (.BinOp a op b pos) (e2 o f g) :=
  pe_imp (pe_op ho ha hb) (op2_go hd)
theorem ev_un {op : UnaryOp} {t : V → Hp → VK → Prop} {o : SS → R → Option R} (ho : UnR X (unaryOp op) t) (hd : Op1 cl X.K o t) (ha : Ev cl X a f) : Ev cl X (.UnaryOp op a pos) (e1 o f) :=
  pe_imp (pe_un ho ha) (op1_go hd)
theorem ev_cmp {op : CmpOp} {t : R2} {o : SS → R → R → Option R} (ho : OpR X (compareOp op) t) (hd : Op2 cl X.K o t) (ha : Ev cl X a f) (hb : Ev cl X b g) (hm : behindInMarks op b = false) : Ev cl X (.Compare a [op] [b] pos) (e2 o f g) :=
  pe_imp (pe_cmpR ho ha hb hm) (op2_go hd)
/-- a value as a test: it is a truth -/
def tOf (f : Em) : Tm := fun δ S => match f δ S with
  | some (.dat (.bool b), S1) => some (b, S1)
  | _ => none
theorem tOf_some {δ : Dl} {S S' : SS} {b : Bool} (h : tOf f δ S = some (b, S')) : f δ S = some (.dat (.bool b), S') := by
  unfold tOf at h
  split at h
  · rename_i b' S1 h1
    cases h
    exact h1
  · cases h
theorem tv_go (σ : L2.St) (H : Hp) (Q : Bool → Hp → Prop) {K : PySem.W.Frag} (h : tT K cl (tOf f) σ H Q) : tB (tE K cl f) σ H Q := by
  obtain ⟨A, δ, S, r, S', hs, hw, hf, q⟩ := h
  refine ⟨A, δ, S, _, S', hs, hw, tOf_some hf, fun v A1 H1 e1 w1 rv => ?_⟩
  cases rv
  exact ⟨_, rfl, q A1 H1 e1 w1⟩
theorem tv_val (ha : Ev cl X a f) (he : ∀ whole, isTrue a X.env whole = (do let v ← whole; standAt a.pos; holding [v] (truthy v)) := by intro _; rfl) : Tv cl X a (tOf f) :=
  pt_imp (pt_val ha he) fun σ H Q h => tv_go σ H Q h
theorem tv_cmp {op : CmpOp} {t : R2} {o : SS → R → R → Option R} (ho : OpR X (compareOp op) t) (hd : Op2 cl X.K o t) (ha : Ev cl X a f) (hb : Ev cl X b g) (hm : behindInMarks op b = false) : Tv cl X (.Compare a [op] [b] pos) (tOf (e2 o f g)) := by
  refine pt_imp (pt_cmpR ho ha hb hm) fun σ H Q ⟨A, δ, S, r, S', hs, hw, hf, q⟩ => ?_
  refine op2_go hd σ H _ ⟨A, δ, S, _, S', hs, hw, tOf_some hf, fun v A1 H1 e1 w1 rv => ?_⟩
  cases rv
  exact ⟨_, rfl, q A1 H1 e1 w1⟩
def tNo (f : Tm) : Tm := fun δ S => match f δ S with
  | some (b, S1) => some (!b, S1)
  | none => none
theorem tv_not {f : Tm} (ha : Tv cl X a f) : Tv cl X (.UnaryOp .Not a pos) (tNo f) := by
  refine pt_imp (pt_not ha) fun σ H Q ⟨A, δ, S, r, S', hs, hw, hf, q⟩ => ?_
  unfold tNo at hf
  split at hf
  · rename_i b S1 h1
    cases hf
    exact tT_then hs hw h1 fun A1 H1 e1 w1 s1 => q A1 H1 e1 w1
  · cases hf
/-- and, or as tests -/
def tAn (f g : Tm) : Tm := fun δ S => match f δ S with
  | some (b, S1) => if b = true then g δ S1 else some (false, S1)
  | none => none
def tOr' (f g : Tm) : Tm := fun δ S => match f δ S with
  | some (b, S1) => if b = true then some (true, S1) else g δ S1
  | none => none
def Wv (cl : Cls0) (X : Cx) (e : Expr) (f : Tm) : Prop := PW X e (tT X.K cl f)
theorem pw_imp {e : Expr} {t t' : TT} (h : PW X e t) (i : ∀ σ H Q, t' σ H Q → t σ H Q) : PW X e t' := ⟨fun wh pins s σ H Q I q => h.run wh pins s σ H Q I (i σ H Q q)⟩
theorem tv_w {f : Tm} {e : Expr} (h : Wv cl X e f) : Tv cl X e f := h.pt
theorem wv_and1 {f : Tm} (h : Tv cl X a f) : Wv cl X (.BoolOp .And [a] pos) f := pw_and1 h
theorem wv_or1 {f : Tm} (h : Tv cl X a f) : Wv cl X (.BoolOp .Or [a] pos) f := pw_or1 h
theorem wv_and {f g : Tm} {rest : List Expr} (h : Tv cl X a f) (h2 : Wv cl X (.BoolOp .And (b :: rest) pos) g) : Wv cl X (.BoolOp .And (a :: b :: rest) pos) (tAn f g) := by
  refine pw_imp (pw_and h h2) fun σ H Q ⟨A, δ, S, r, S', hs, hw, hf, q⟩ => ?_
  unfold tAn at hf
  split at hf
  · rename_i b S1 h1
    refine tT_then hs hw h1 fun A1 H1 e1 w1 s1 => ?_
    cases b with
    | true =>
      rw [if_pos rfl] at hf ⊢
      exact tT_then s1 w1 hf fun A2 H2 e2 w2 s2 => q A2 H2 (e1.trans e2) w2
    | false =>
      rw [if_neg Bool.false_ne_true] at hf ⊢
      cases hf
      exact q A1 H1 e1 w1
  · cases hf
theorem wv_or {f g : Tm} {rest : List Expr} (h : Tv cl X a f) (h2 : Wv cl X (.BoolOp .Or (b :: rest) pos) g) : Wv cl X (.BoolOp .Or (a :: b :: rest) pos) (tOr' f g) := by
  refine pw_imp (pw_or h h2) fun σ H Q ⟨A, δ, S, r, S', hs, hw, hf, q⟩ => ?_
  unfold tOr' at hf
  split at hf
  · rename_i b S1 h1
    refine tT_then hs hw h1 fun A1 H1 e1 w1 s1 => ?_
    cases b with
    | true =>
      rw [if_pos rfl] at hf ⊢
      cases hf
      exact q A1 H1 e1 w1
    | false =>
      rw [if_neg Bool.false_ne_true] at hf ⊢
      exact tT_then s1 w1 hf fun A2 H2 e2 w2 s2 => q A2 H2 (e1.trans e2) w2
  · cases hf
/-- not, and, or as values (truths) -/
def eNo (f : Em) : Em := fun δ S => match f δ S with
  | some (.dat (.bool b), S1) => some (.dat (.bool !b), S1)
  | _ => none
theorem ev_not (ha : Ev cl X a f) : Ev cl X (.UnaryOp .Not a pos) (eNo f) := by
  refine pe_imp (pe_not ha) fun σ H Q ⟨A, δ, S, r, S', hs, hw, hf, q⟩ => ?_
  unfold eNo at hf
  split at hf
  · rename_i b S1 h1
    cases hf
    refine tE_then hs hw h1 fun v A1 H1 e1 w1 rv s1 => ?_
    cases rv
    exact ⟨_, rfl, q _ A1 H1 e1 w1 (.bl _)⟩
  · cases hf
def eAn (f g : Em) : Em := fun δ S => match f δ S with
  | some (.dat (.bool b), S1) => if b = true then g δ S1 else some (.dat (.bool false), S1)
  | _ => none
def eOr (f g : Em) : Em := fun δ S => match f δ S with
  | some (.dat (.bool b), S1) => if b = true then some (.dat (.bool true), S1) else g δ S1
  | _ => none
theorem ev_bone {op} (h : Ev cl X a f) : Ev cl X (.BoolOp op [a] pos) f := pe_one h
theorem ev_and {rest : List Expr} (h : Ev cl X a f) (h2 : Ev cl X (.BoolOp .And (b :: rest) pos) g) : Ev cl X (.BoolOp .And (a :: b :: rest) pos) (eAn f g) := by
  refine pe_imp (pe_and h h2) fun σ H Q ⟨A, δ, S, r, S', hs, hw, hf, q⟩ => ?_
  unfold eAn at hf
  split at hf
  · rename_i b S1 h1
    refine tE_then hs hw h1 fun v A1 H1 e1 w1 rv s1 => ?_
    cases rv
    refine ⟨b, rfl, ?_⟩
    cases b with
    | true =>
      rw [if_pos rfl] at hf ⊢
      exact tE_then s1 w1 hf fun v A2 H2 e2 w2 rv s2 => q v A2 H2 (e1.trans e2) w2 rv
    | false =>
      rw [if_neg Bool.false_ne_true] at hf ⊢
      cases hf
      exact q _ A1 H1 e1 w1 (.bl _)
  · cases hf
theorem ev_or {rest : List Expr} (h : Ev cl X a f) (h2 : Ev cl X (.BoolOp .Or (b :: rest) pos) g) : Ev cl X (.BoolOp .Or (a :: b :: rest) pos) (eOr f g) := by
  refine pe_imp (pe_or h h2) fun σ H Q ⟨A, δ, S, r, S', hs, hw, hf, q⟩ => ?_
  unfold eOr at hf
  split at hf
  · rename_i b S1 h1
    refine tE_then hs hw h1 fun v A1 H1 e1 w1 rv s1 => ?_
    cases rv
    refine ⟨b, rfl, ?_⟩
    cases b with
    | true =>
      rw [if_pos rfl] at hf ⊢
      cases hf
      exact q _ A1 H1 e1 w1 (.bl _)
    | false =>
      rw [if_neg Bool.false_ne_true] at hf ⊢
      exact tE_then s1 w1 hf fun v A2 H2 e2 w2 rv s2 => q v A2 H2 (e1.trans e2) w2 rv
  · cases hf
theorem ev_ix (hu : X.A.units + 1 < cLine) (ha : Ev cl X a f) (hb : Ev cl X b g) (hs : PlainIx b := by exact fun _ _ => rfl) : Ev cl X (.Subscript a b pos) (e2 ixR f g) :=
  pe_imp (pe_ix (ix_all hu) ha hb hs) (op2_go oR_ix)
end
end Cy
end
section
set_option Elab.async false
set_option maxRecDepth 100000
namespace Cy
open PySem L2

theorem le1000 : 1000 ≤ sizeLine := by rw [sizeLine_eq]; decide
section
variable {K : PySem.W.Frag} {cl : Cls0} {A A' A2 : List Addr} {H H' H2 : Hp} {S : SS}

/-! ### the store grows, is written -/
theorem Ext.push {p : Addr} (hp : H p = none) (o : HO) : Ext A H (A ++ [p]) (upd H p o) := by
  refine ⟨⟨[p], rfl⟩, fun b hb n => ?_, fun b u q n => same_upd hp o b u q⟩
  rcases List.mem_append.mp hb with h | h
  · exact absurd h n
  · rw [List.mem_singleton.mp h]; exact hp
theorem Or.mono (e : Ext A H A' H') {a : Addr} {o : Ob} (h : Or K cl A H a o) (hk : ∀ u, H a = some u → H' a = some u) : Or K cl A' H' a o := by
  cases o with
  | lst ds =>
    obtain ⟨vs, q1, q2, q3⟩ := h
    exact ⟨vs, hk _ q1, DrL.mono e _ _ q2, q3⟩
  | dic kvs =>
    obtain ⟨vs, q1, q2⟩ := h
    exact ⟨vs, hk _ q1, q2.mono e⟩
  | ins c fs =>
    obtain ⟨dx, vs, q1, q2⟩ := h
    exact ⟨dx, vs, hk _ q1, q2.mono e⟩
theorem Wr.push (w : Wr K cl A H S) {p : Addr} (hp : H p = none) {o : HO} {ob : Ob} (h : Or K cl (A ++ [p]) (upd H p o) p ob) : Wr K cl (A ++ [p]) (upd H p o) (S ++ [ob]) := by
  have hf := w.fresh hp
  refine ⟨by rw [List.length_append, List.length_append, w.len] <;> rfl, ?_, fun k a u h1 h2 => ?_⟩
  · rw [List.nodup_append]
    exact ⟨w.nd, by simp, fun x hx y hy e => by rw [List.mem_singleton.mp hy] at e; exact hf (e ▸ hx)⟩
  · by_cases hk : k < A.length
    · rw [List.getElem?_append_left hk] at h1
      rw [List.getElem?_append_left (by rw [← w.len]; exact hk)] at h2
      exact (w.ob k a u h1 h2).mono (Ext.push hp o) fun u q => same_upd hp o _ _ q
    · have hk' : k = A.length := by
        have := (List.getElem?_eq_some_iff.mp h1).1
        rw [List.length_append] at this
        simp at this
        omega
      subst hk'
      have e1 : a = p := by simpa using h1.symm
      have e2 : u = ob := by rw [w.len] at h2; simpa using h2.symm
      rw [e1, e2]
      exact h
/-- the k-th object is written -/
theorem Ext.write {k : Nat} {a : Addr} (ha : A[k]? = some a) (o : HO) : Ext A H A (upd H a o) := by
  refine ⟨⟨[], by simp⟩, fun b hb n => absurd hb n, fun b u q n => ?_⟩
  rw [upd_ne fun e => n (by rw [e]; exact List.mem_of_getElem? ha)]
  exact q
theorem Wr.write (w : Wr K cl A H S) {k : Nat} {a : Addr} (ha : A[k]? = some a) {o : HO} {ob : Ob} (h : Or K cl A (upd H a o) a ob) : Wr K cl A (upd H a o) (S.set k ob) := by
  refine ⟨by rw [List.length_set, w.len], w.nd, fun j b u h1 h2 => ?_⟩
  by_cases hj : j = k
  · subst hj
    rw [ha] at h1
    cases h1
    have hl : j < S.length := by rw [← w.len]; exact (List.getElem?_eq_some_iff.mp ha).1
    rw [List.getElem?_set_self hl] at h2
    cases h2
    exact h
  · rw [List.getElem?_set_ne (Ne.symm hj)] at h2
    have hne : b ≠ a := by
      intro e
      subst e
      obtain ⟨l1, e1⟩ := List.getElem?_eq_some_iff.mp h1
      obtain ⟨l2, e2⟩ := List.getElem?_eq_some_iff.mp ha
      exact hj ((List.getElem_inj w.nd).mp (e1.trans e2.symm))
    exact (w.ob j b u h1 h2).mono (Ext.write ha o) fun v q => by rw [upd_ne hne]; exact q
end

/-! ### displays -/
def datsOf : List R → Option (List D)
  | [] => some []
  | .dat d :: r => (match datsOf r with
    | some ds => some (d :: ds)
    | none => none)
  | _ :: _ => none
def datR : R → Option D
  | .dat d => some d
  | _ => none
section
variable {K : PySem.W.Frag} {cl : Cls0} {A : List Addr} {H : Hp} {X : Cx} {es : List Expr} {pos : Pos} {f : Em} {g : Am} {a : Expr}
theorem datsOf_rel : ∀ {rs : List R} {vs : List V} {ds : List D}, RrL K A H vs rs → datsOf rs = some ds → DrL K A H vs ds
  | [], _, _, h, e => by cases h; cases e; exact .nil
  | .dat d :: r, _, ds, h, e => by
    cases h with
    | cons h1 h2 =>
      unfold datsOf at e
      split at e
      · rename_i ds' hd
        cases e
        exact .cons h1 (datsOf_rel h2 hd)
      · cases e
  | .dic _ :: r, _, ds, h, e => by cases e
  | .obj _ :: r, _, ds, h, e => by cases e
  | .scr _ :: r, _, ds, h, e => by cases e
  | .itm _ :: r, _, ds, h, e => by cases e
  | .dif _ :: r, _, ds, h, e => by cases e
def tupR (S : SS) (rs : List R) : Option R := match datsOf rs with
  | some ds => if ds.length ≤ 1000 then some (.dat (.tuple ds)) else none
  | none => none
def lstR (S : SS) (rs : List R) : Option R := match datsOf rs with
  | some ds => if ds.length ≤ 1000 then some (.dat (.list ds)) else none
  | none => none
theorem ev_tup {x1} (h : Av cl X es g) : Ev cl X (.Tuple es x1 pos) (eN tupR g) := by
  refine pe_imp (pe_tupF h) (opN_go (K := X.K) (g := tupR) (t := fun xs H Q => xs.length ≤ sizeLine ∧ NewT H xs Q) ?_)
  intro A H S xs rs r Q w hx e q
  unfold tupR at e
  split at e
  · rename_i ds hd
    split at e
    · rename_i hz
      cases e
      have h2 := datsOf_rel hx hd
      refine ⟨by rw [h2.length]; exact Nat.le_trans hz le1000, fun p o hp ho => q _ _ (same_upd hp _) (new_tup (fun p hp => w.fresh hp) hp ho h2 (Nat.le_trans hz le1000))⟩
    · cases e
  · cases e
theorem ev_lst (h : Av cl X es g) : Ev cl X (.List es pos) (eN lstR g) := by
  refine pe_imp (pe_lst h) (opN_go (K := X.K) (g := lstR) (t := fun xs H Q => xs.length ≤ sizeLine ∧ ∀ p, H p = none → Q (.ref p) (upd H p (.lst xs))) ?_)
  intro A H S xs rs r Q w hx e q
  unfold lstR at e
  split at e
  · rename_i ds hd
    split at e
    · rename_i hz
      cases e
      have h2 := datsOf_rel hx hd
      refine ⟨by rw [h2.length]; exact Nat.le_trans hz le1000, fun p hp => q _ _ (same_upd hp _) (new_list (fun p hp => w.fresh hp) hp h2 (Nat.le_trans hz le1000))⟩
    · cases e
  · cases e
/-- a list that will be written: an object of the store -/
def eLstO (g : Am) : Em := fun δ S => match g δ S with
  | some (rs, S1) => (match datsOf rs with
    | some ds => if ds.length ≤ 1000 then some (.obj S1.length, S1 ++ [.lst ds]) else none
    | none => none)
  | none => none
theorem ev_lstO (h : Av cl X es g) : Ev cl X (.List es pos) (eLstO g) := by
  refine pe_imp (pe_lst h) fun σ H Q ⟨A, δ, S, r, S', hs, hw, hf, q⟩ => ?_
  unfold eLstO at hf
  split at hf
  · rename_i rs S1 h1
    split at hf
    · rename_i ds hd
      split at hf
      · rename_i hz
        cases hf
        refine tA_then hs hw h1 fun vs A1 H1 e1 w1 rv s1 => ?_
        have h2 := datsOf_rel rv hd
        have hl : vs.length ≤ sizeLine := by rw [h2.length]; exact Nat.le_trans hz le1000
        refine ⟨hl, fun p hp => q _ (A1 ++ [p]) _ (e1.trans (Ext.push hp _)) (w1.push hp ⟨vs, upd_same, DrL.mono (Ext.push hp _) _ _ h2, hl⟩) ⟨p, rfl, ?_⟩⟩
        rw [← w1.len]
        simp
      · cases hf
    · cases hf
  · cases hf
/-- an empty dict that will be written -/
def eDicO : Em := fun _ S => some (.obj S.length, S ++ [.dic []])
theorem ev_dicO : Ev cl X (.Dict [] [] pos) eDicO := by
  refine pe_imp pe_dnewK fun σ H Q ⟨A, δ, S, r, S', hs, hw, hf, q⟩ => ?_
  cases hf
  refine fun p hp => q _ (A ++ [p]) _ (Ext.push hp _) (hw.push hp ⟨[], upd_same, .nil⟩) ⟨p, rfl, ?_⟩
  rw [← hw.len]
  simp

/-! ### calls of built-in functions -/
theorem e1_of {t : V → Hp → VK → Prop} {o : SS → R → Option R} (ho : Op1 cl K o t) : ∀ σ H Q, tE K cl (e1 o f) σ H Q → tE K cl f σ H fun x H1 => t x H1 Q := op1_go ho
theorem ev_b1 {x id : String} {p : Pos} {r : List V → Hp → VK → Prop} {o : SS → R → Option R} (hc : CallR X (.builtin id) r) (hg : Gl X x) (hm : X.mg x = none) (hv : bootBuiltins x = some (.builtin id)) (ho : Op1 cl X.K o (fun v H Q => r [v] H Q)) (ha : Ev cl X a f)
    (hn : (x : Str) ≠ "__name__") (hdb : ((x : Str) == ("__debug__" : Str)) = false) (he : starEach [a] X.env = (false, eval a X.env) :: starEach [] X.env := by rfl) (hpl : (backTo pos (starEach [] X.env)).any (·.1) = false := by rfl) : Ev cl X (.Call (.Name x p) [a] [] pos) (e1 o f) :=
  pe_imp (pe_callB hc hg hm hv (pa_cons ha pa_nil he) hn hdb he hpl) fun σ H Q h => op1_go ho σ H Q h
theorem ev_t1 {x T : String} {p : Pos} {r : List V → Hp → VK → Prop} {o : SS → R → Option R} (hc : CallR X (.type T) r) (hg : Gl X x) (hm : X.mg x = none) (hv : bootBuiltins x = some (.type T)) (ho : Op1 cl X.K o (fun v H Q => r [v] H Q)) (ha : Ev cl X a f)
    (hn : (x : Str) ≠ "__name__") (hdb : ((x : Str) == ("__debug__" : Str)) = false) (he : starEach [a] X.env = (false, eval a X.env) :: starEach [] X.env := by rfl) (hpl : (backTo pos (starEach [] X.env)).any (·.1) = false := by rfl) : Ev cl X (.Call (.Name x p) [a] [] pos) (e1 o f) :=
  pe_imp (pe_callTy hc hg hm hv (pa_cons ha pa_nil he) hn hdb he hpl) fun σ H Q h => op1_go ho σ H Q h

/-! #### len -/
def lenD : D → Option D
  | .list ds => some (.int ds.length)
  | .tuple ds => some (.int ds.length)
  | .str z => if z.length ≤ sizeLine then some (.int z.length) else none
  | _ => none
def lenR (S : SS) (x : R) : Option R := match x with
  | .scr ns => some (.dat (.int ns.length))
  | x => match asKv S x with
    | some kvs => some (.dat (.int kvs.length))
    | none => l1 lenD S x
def rLen (K : PySem.W.Frag) : List V → Hp → VK → Prop := fun xs H Q => (∃ a kvs, xs = [V.ref a] ∧ H a = some (.dK kvs) ∧ Q (.int kvs.length) H) ∨ ∃ x n, xs = [x] ∧ LenV K x H n ∧ Q (.int n) H
theorem cr_len : CallR X (.builtin "len") (rLen X.K) := call_lenD.or call_len
theorem oR_len : Op1 cl K lenR (fun v H Q => rLen K [v] H Q) := by
  intro A H S x rx r Q w hx e q
  unfold lenR at e
  split at e
  · rename_i ns
    cases e
    obtain ⟨a, rfl, h1⟩ := hx
    refine .inr ⟨_, _, rfl, .inl ⟨_, h1.sq, rfl⟩, ?_⟩
    rw [List.length_map]
    exact q _ H (Same.refl H) (.int _)
  · split at e
    · rename_i kvs hk
      cases e
      obtain ⟨a, ks, rfl, h1, h2⟩ := asKv_rel w hx hk
      refine .inl ⟨a, ks, rfl, h1, ?_⟩
      rw [h2.length]
      exact q _ H (Same.refl H) (.int _)
    · unfold l1 at e
      split at e
      · rename_i d hd
        have hx := asD_rel w hx hd
        unfold lenD at e
        split at e
        · rename_i d' he
          cases e
          split at he
          · cases he
            obtain ⟨p, xs, rfl, h1, h2⟩ := hx.list
            refine .inr ⟨_, _, rfl, .inl ⟨_, SqL.of h1, rfl⟩, ?_⟩
            rw [h2.length]
            exact q _ H (Same.refl H) (.int _)
          · cases he
            obtain ⟨p, xs, rfl, h1, h2⟩ := hx.tuple
            refine .inr ⟨_, _, rfl, .inr ⟨_, h1.sq, rfl⟩, ?_⟩
            rw [h2.length]
            exact q _ H (Same.refl H) (.int _)
          · split at he
            · rename_i hz
              cases he
              cases hx.str
              exact .inr ⟨_, _, rfl, ⟨hz, rfl⟩, q _ H (Same.refl H) (.int _)⟩
            · cases he
          · cases he
        · cases e
      · cases e
theorem ev_len {p : Pos} (hg : Gl X "len") (hm : X.mg "len" = none) (ha : Ev cl X a f) (he : starEach [a] X.env = (false, eval a X.env) :: starEach [] X.env := by rfl) (hpl : (backTo pos (starEach [] X.env)).any (·.1) = false := by rfl) :
    Ev cl X (.Call (.Name "len" p) [a] [] pos) (e1 lenR f) := ev_b1 cr_len hg hm PySem.boot_len oR_len ha (by decide) (by decide) he hpl

/-! #### str, int, tuple, list, all, sum -/
def strD : D → Option D
  | .int i => if i.natAbs.log2 < 1920 then some (.str (toString i)) else none
  | .str x => some (.str x)
  | _ => none
def rStr : List V → Hp → VK → Prop := fun xs H Q => (∃ i, xs = [.int i] ∧ i.natAbs.log2 < 1920 ∧ Q (.str (toString i)) H) ∨ ∃ a, xs = [.str a] ∧ Q (.str a) H
theorem cr_str : CallR X (.type "str") rStr := call_str_int.or SkE.call_str_str
theorem od_str : OpD1 K strD (fun v H Q => rStr [v] H Q) := by
  intro A H x a d Q f hx e q
  unfold strD at e
  split at e
  · split at e
    · rename_i hz
      cases e
      cases hx.int
      exact .inl ⟨_, rfl, hz, q _ H (Same.refl H) (.str _)⟩
    · cases e
  · cases e
    cases hx.str
    exact .inr ⟨_, rfl, q _ H (Same.refl H) (.str _)⟩
  · cases e
theorem ev_str1 {p : Pos} (hg : Gl X "str") (hm : X.mg "str" = none) (ha : Ev cl X a f) (he : starEach [a] X.env = (false, eval a X.env) :: starEach [] X.env := by rfl) (hpl : (backTo pos (starEach [] X.env)).any (·.1) = false := by rfl) :
    Ev cl X (.Call (.Name "str" p) [a] [] pos) (e1 (l1 strD) f) := ev_t1 cr_str hg hm (by decide +kernel) (l1_op od_str) ha (by decide) (by decide) he hpl
def intD : D → Option D
  | .int i => some (.int i)
  | .bool b => some (.int (if b then 1 else 0))
  | _ => none
theorem od_int : OpD1 K intD (fun v H Q => (∃ i, [v] = [.int i] ∧ Q (.int i) H) ∨ ∃ k, [v] = [.bl k] ∧ Q (.int (if k then 1 else 0)) H) := by
  intro A H x a d Q f hx e q
  unfold intD at e
  split at e
  · cases e
    cases hx.int
    exact .inl ⟨_, rfl, q _ H (Same.refl H) (.int _)⟩
  · cases e
    cases hx.bool
    exact .inr ⟨_, rfl, q _ H (Same.refl H) (.int _)⟩
  · cases e
theorem ev_int1 {p : Pos} (hg : Gl X "int") (hm : X.mg "int" = none) (ha : Ev cl X a f) (he : starEach [a] X.env = (false, eval a X.env) :: starEach [] X.env := by rfl) (hpl : (backTo pos (starEach [] X.env)).any (·.1) = false := by rfl) :
    Ev cl X (.Call (.Name "int" p) [a] [] pos) (e1 (l1 intD) f) := ev_t1 call_int1 hg hm (by decide +kernel) (l1_op od_int) ha (by decide) (by decide) he hpl
def tupD : D → Option D
  | .list ds => some (.tuple ds)
  | .tuple ds => some (.tuple ds)
  | _ => none
theorem od_tup : OpD1 K tupD (fun v H Q => rTupF K [v] H Q) := by
  intro A H x a d Q f hx e q
  unfold tupD at e
  split at e
  · cases e
    obtain ⟨p, xs, rfl, h1, h2, h3⟩ := hx.list'
    exact ⟨p, xs, rfl, .inl ⟨SqL.of h1, fun l o hl ho => q _ _ (same_upd hl _) (new_tup f hl ho h2 (by rw [← h2.length]; exact h3))⟩⟩
  · cases e
    obtain ⟨p, xs, rfl, h1, h2⟩ := hx.tuple
    exact ⟨p, xs, rfl, .inr ⟨h1.sq, q _ H (Same.refl H) (.tup h1 h2)⟩⟩
  · cases e
theorem ev_tuple1 {p : Pos} (hg : Gl X "tuple") (hm : X.mg "tuple" = none) (ha : Ev cl X a f) (he : starEach [a] X.env = (false, eval a X.env) :: starEach [] X.env := by rfl) (hpl : (backTo pos (starEach [] X.env)).any (·.1) = false := by rfl) :
    Ev cl X (.Call (.Name "tuple" p) [a] [] pos) (e1 (l1 tupD) f) := ev_t1 call_tupleF hg hm (by decide +kernel) (l1_op od_tup) ha (by decide) (by decide) he hpl
def listD : D → Option D
  | .list ds => some (.list ds)
  | .tuple ds => some (.list ds)
  | _ => none
theorem od_list : OpD1 K listD (fun v H Q => ∃ p ys, [v] = [.ref p] ∧ (SqL K H p ys ∨ SqT K H p ys) ∧ ∀ l, H l = none → Q (.ref l) (upd H l (.lst ys))) := by
  intro A H x a d Q f hx e q
  unfold listD at e
  split at e
  · cases e
    obtain ⟨p, xs, rfl, h1, h2, h3⟩ := hx.list'
    exact ⟨p, xs, rfl, .inl (SqL.of h1), fun l hl => q _ _ (same_upd hl _) (new_list f hl h2 (by rw [← h2.length]; exact h3))⟩
  · cases e
    obtain ⟨p, xs, rfl, h1, h2⟩ := hx.tuple
    exact ⟨p, xs, rfl, .inr h1.sq, fun l hl => q _ _ (same_upd hl _) (new_list f hl h2 (by rw [← h2.length]; exact h1.le))⟩
  · cases e
theorem ev_list1 {p : Pos} (hg : Gl X "list") (hm : X.mg "list" = none) (ha : Ev cl X a f) (he : starEach [a] X.env = (false, eval a X.env) :: starEach [] X.env := by rfl) (hpl : (backTo pos (starEach [] X.env)).any (·.1) = false := by rfl) :
    Ev cl X (.Call (.Name "list" p) [a] [] pos) (e1 (l1 listD) f) := ev_t1 call_list_of hg hm (by decide +kernel) (l1_op od_list) ha (by decide) (by decide) he hpl
/-- a list of truths, of ints, of texts -/
def boolsOf : List D → Option (List Bool)
  | [] => some []
  | .bool b :: r => (match boolsOf r with
    | some bs => some (b :: bs)
    | none => none)
  | _ :: _ => none
def intsOf : List D → Option (List Int)
  | [] => some []
  | .int b :: r => (match intsOf r with
    | some bs => some (b :: bs)
    | none => none)
  | _ :: _ => none
def strsOf : List D → Option (List Str)
  | [] => some []
  | .str b :: r => (match strsOf r with
    | some bs => some (b :: bs)
    | none => none)
  | _ :: _ => none
theorem boolsOf_eq : ∀ {ds : List D} {bs : List Bool}, boolsOf ds = some bs → ds = bs.map .bool := by
  intro ds
  induction ds with
  | nil => intro bs e; cases e; rfl
  | cons d ds ih =>
    intro bs e
    cases d <;> (unfold boolsOf at e; try (cases e; done))
    split at e
    · rename_i h; cases e; rw [ih h] <;> rfl
    · cases e
theorem intsOf_eq : ∀ {ds : List D} {bs : List Int}, intsOf ds = some bs → ds = bs.map .int := by
  intro ds
  induction ds with
  | nil => intro bs e; cases e; rfl
  | cons d ds ih =>
    intro bs e
    cases d <;> (unfold intsOf at e; try (cases e; done))
    split at e
    · rename_i h; cases e; rw [ih h] <;> rfl
    · cases e
theorem strsOf_eq : ∀ {ds : List D} {bs : List Str}, strsOf ds = some bs → ds = bs.map .str := by
  intro ds
  induction ds with
  | nil => intro bs e; cases e; rfl
  | cons d ds ih =>
    intro bs e
    cases d <;> (unfold strsOf at e; try (cases e; done))
    split at e
    · rename_i h; cases e; rw [ih h] <;> rfl
    · cases e
def allD : D → Option D
  | .list ds => (match boolsOf ds with
    | some bs => some (.bool (bs.all id))
    | none => none)
  | _ => none
theorem od_all : OpD1 K allD (fun v H Q => rAll K [v] H Q) := by
  intro A H x a d Q f hx e q
  unfold allD at e
  split at e
  · split at e
    · rename_i bs hb
      cases e
      obtain ⟨p, xs, rfl, h1, h2⟩ := hx.list
      rw [boolsOf_eq hb] at h2
      rw [h2.bls] at h1
      exact ⟨p, bs, rfl, SqL.of h1, q _ H (Same.refl H) (.bl _)⟩
    · cases e
  · cases e
theorem ev_all {p : Pos} (hc : X.calm = true) (hg : Gl X "all") (hm : X.mg "all" = none) (ha : Ev cl X a f) (he : starEach [a] X.env = (false, eval a X.env) :: starEach [] X.env := by rfl) (hpl : (backTo pos (starEach [] X.env)).any (·.1) = false := by rfl) :
    Ev cl X (.Call (.Name "all" p) [a] [] pos) (e1 (l1 allD) f) := ev_b1 (cr_all hc) hg hm (by decide +kernel) (l1_op od_all) ha (by decide) (by decide) he hpl
def sumD : D → Option D
  | .list ds => (match intsOf ds with
    | some bs => some (.int bs.sum)
    | none => none)
  | _ => none
theorem od_sum : OpD1 K sumD (fun v H Q => rSum K [v] H Q) := by
  intro A H x a d Q f hx e q
  unfold sumD at e
  split at e
  · split at e
    · rename_i bs hb
      cases e
      obtain ⟨p, xs, rfl, h1, h2⟩ := hx.list
      rw [intsOf_eq hb] at h2
      rw [h2.ints] at h1
      exact ⟨p, bs, rfl, SqL.of h1, q _ H (Same.refl H) (.int _)⟩
    · cases e
  · cases e
theorem ev_sum {p : Pos} (hc : X.calm = true) (hg : Gl X "sum") (hm : X.mg "sum" = none) (ha : Ev cl X a f) (he : starEach [a] X.env = (false, eval a X.env) :: starEach [] X.env := by rfl) (hpl : (backTo pos (starEach [] X.env)).any (·.1) = false := by rfl) :
    Ev cl X (.Call (.Name "sum" p) [a] [] pos) (e1 (l1 sumD) f) := ev_b1 (cr_sum hc) hg hm (by decide +kernel) (l1_op od_sum) ha (by decide) (by decide) he hpl
/-! #### dict(a list of pairs) -/
def pairsOf : List D → Option (List (Key × D))
  | [] => some []
  | .tuple [k, v] :: r => (match keyOf k with
    | some k' => (match pairsOf r with
      | some ps => some ((k', v) :: ps)
      | none => none)
    | none => none)
  | _ :: _ => none
def putD (kvs : List (Key × D)) (k : Key) (v : D) : List (Key × D) :=
  if kvs.any (fun kv => decide (kv.1 = k)) then kvs.map (fun kv => if kv.1 = k then (kv.1, v) else kv) else kvs ++ [(k, v)]
def mergeD (kvs more : List (Key × D)) : List (Key × D) := more.foldl (fun acc kv => putD acc kv.1 kv.2) kvs
def dicR (S : SS) (x : R) : Option R := match asD S x with
  | some (.list ds) => (match pairsOf ds with
    | some ps => some (.dic (mergeD [] ps))
    | none => none)
  | some (.tuple ds) => (match pairsOf ds with
    | some ps => some (.dic (mergeD [] ps))
    | none => none)
  | _ => none
theorem DrK.any {ks : List (Key × V)} {kvs : List (Key × D)} (h : DrK K A H ks kvs) (k : Key) : (ks.any fun kv => decide (kv.1 = k)) = kvs.any fun kv => decide (kv.1 = k) := by
  induction h with
  | nil => rfl
  | cons _ _ ih => rw [List.any_cons, List.any_cons, ih]
theorem DrK.repl {ks : List (Key × V)} {kvs : List (Key × D)} (h : DrK K A H ks kvs) (k : Key) {v : V} {d : D} (hv : Dr K A H v d) :
    DrK K A H (ks.map fun kv => if kv.1 = k then (kv.1, v) else kv) (kvs.map fun kv => if kv.1 = k then (kv.1, d) else kv) := by
  induction h with
  | nil => exact .nil
  | @cons k' v' d' vs ds h1 _ ih =>
    rw [List.map_cons, List.map_cons]
    by_cases e : k' = k
    · rw [if_pos e, if_pos e]; exact .cons hv ih
    · rw [if_neg e, if_neg e]; exact .cons h1 ih
theorem DrK.snoc {ks : List (Key × V)} {kvs : List (Key × D)} (h : DrK K A H ks kvs) (k : Key) {v : V} {d : D} (hv : Dr K A H v d) :
    DrK K A H (ks ++ [(k, v)]) (kvs ++ [(k, d)]) := by
  induction h with
  | nil => exact .cons hv .nil
  | cons h1 _ ih => exact .cons h1 ih
theorem DrK.put {ks : List (Key × V)} {kvs : List (Key × D)} (h : DrK K A H ks kvs) (k : Key) {v : V} {d : D} (hv : Dr K A H v d) : DrK K A H (putK ks k v) (putD kvs k d) := by
  unfold putK putD
  rw [h.any]
  split
  · exact h.repl k hv
  · exact h.snoc k hv
theorem DrK.merge {more : List (Key × V)} {mk : List (Key × D)} (hm : DrK K A H more mk) : ∀ {ks : List (Key × V)} {kvs : List (Key × D)}, DrK K A H ks kvs → DrK K A H (mergeK ks more) (mergeD kvs mk) := by
  induction hm with
  | nil => intro ks kvs h; exact h
  | cons h1 _ ih =>
    intro ks kvs h
    exact ih (h.put _ h1)
theorem pairs_rel : ∀ {ds : List D} {vs : List V} {ps : List (Key × D)}, DrL K A H vs ds → pairsOf ds = some ps → ∃ (as : List Addr) (ks : List (Key × V)), vs = as.map V.ref ∧ Paired (fun p kv => SqT K H p [kV kv.1, kv.2]) as ks ∧ DrK K A H ks ps := by
  intro ds
  induction ds with
  | nil => intro vs ps h e; cases h; cases e; exact ⟨[], [], rfl, .nil, .nil⟩
  | cons d ds ih =>
    intro vs ps h e
    unfold pairsOf at e
    split at e
    · rename_i heq; cases heq
    · rename_i k v r heq
      cases heq
      split at e
      · rename_i k' hk
        split at e
        · rename_i ps' hp
          cases e
          cases h with
          | cons h1 h2 =>
            obtain ⟨as, ks, rfl, q1, q2⟩ := ih h2 hp
            cases h1 with
            | tup t1 t2 =>
              cases t2 with
              | cons u1 u2 =>
                cases u2 with
                | cons u3 u4 =>
                  cases u4
                  cases keyOf_dr hk u1
                  exact ⟨_ :: as, (k', _) :: ks, rfl, .cons t1.sq q1, .cons u3 q2⟩
        · cases e
      · cases e
    · cases e
def rDicL (K : PySem.W.Frag) : List V → Hp → VK → Prop := fun xs H Q => ∃ (a : Addr) (ps : List Addr) (kvs : List (Key × V)), xs = [.ref a] ∧ SqL K H a (ps.map V.ref) ∧ Paired (fun p kv => SqT K H p [kV kv.1, kv.2]) ps kvs ∧
    ∀ p, H p = none → Q (.ref p) (upd H p (.dK (mergeK [] kvs)))
def rDicT (K : PySem.W.Frag) : List V → Hp → VK → Prop := fun xs H Q => ∃ (a : Addr) (ps : List Addr) (kvs : List (Key × V)), xs = [.ref a] ∧ PlT K H a (ps.map V.ref) ∧ Paired (fun p kv => SqT K H p [kV kv.1, kv.2]) ps kvs ∧
    ∀ p, H p = none → Q (.ref p) (upd H p (.dK (mergeK [] kvs)))
theorem call_dicA (hc : X.calm = true) : CallR X (.type "dict") (fun xs H Q => rDicL X.K xs H Q ∨ rDicT X.K xs H Q) := (call_dictP hc).or (call_dictT hc)
/-- what dicR needs of the argument -/
theorem dicR_go {S : SS} {x : V} {rx r : R} (w : Wr K cl A H S) (hx : Rr K A H x rx) (e : dicR S rx = some r) : ∃ ps ks, r = .dic (mergeD [] ps) ∧ DrK K A H ks ps ∧ ∀ Q : VK, (∀ p, H p = none → Q (.ref p) (upd H p (.dK (mergeK [] ks)))) → rDicL K [x] H Q ∨ rDicT K [x] H Q := by
  unfold dicR at e
  split at e
  · rename_i ds hd
    split at e
    · rename_i ps hp
      cases e
      obtain ⟨a, xs, rfl, h1, h2⟩ := (asD_rel w hx hd).list
      obtain ⟨as, ks, rfl, q1, q2⟩ := pairs_rel h2 hp
      exact ⟨ps, ks, rfl, q2, fun Q q => .inl ⟨a, as, ks, rfl, SqL.of h1, q1, q⟩⟩
    · cases e
  · rename_i ds hd
    split at e
    · rename_i ps hp
      cases e
      obtain ⟨a, xs, rfl, h1, h2⟩ := (asD_rel w hx hd).tuple
      obtain ⟨as, ks, rfl, q1, q2⟩ := pairs_rel h2 hp
      exact ⟨ps, ks, rfl, q2, fun Q q => .inr ⟨a, as, ks, rfl, h1.pl, q1, q⟩⟩
    · cases e
  · cases e
theorem oR_dic : Op1 cl K dicR (fun v H Q => rDicL K [v] H Q ∨ rDicT K [v] H Q) := by
  intro A H S x rx r Q w hx e q
  obtain ⟨ps, ks, rfl, q2, go⟩ := dicR_go w hx e
  exact go Q fun p hp => q _ _ (same_upd hp _) ⟨p, _, rfl, ⟨upd_same, w.fresh hp⟩, (DrK.merge q2 .nil).mono (.same (same_upd hp _))⟩
theorem ev_dic {p : Pos} (hc : X.calm = true) (hg : Gl X "dict") (hm : X.mg "dict" = none) (ha : Ev cl X a f) (he : starEach [a] X.env = (false, eval a X.env) :: starEach [] X.env := by rfl) (hpl : (backTo pos (starEach [] X.env)).any (·.1) = false := by rfl) :
    Ev cl X (.Call (.Name "dict" p) [a] [] pos) (e1 dicR f) := ev_t1 (call_dicA hc) hg hm (by decide +kernel) oR_dic ha (by decide) (by decide) he hpl

/-! #### isinstance -/
def isD (T : String) : D → Option Bool
  | .none => if T = "tuple" ∨ T = "str" ∨ T = "int" ∨ T = "bool" ∨ T = "list" then some false else none
  | .bool _ => if T = "int" ∨ T = "bool" then some true else if T = "tuple" ∨ T = "str" ∨ T = "list" then some false else none
  | .int _ => if T = "int" then some true else if T = "tuple" ∨ T = "str" ∨ T = "bool" ∨ T = "list" then some false else none
  | .str _ => if T = "str" then some true else if T = "tuple" ∨ T = "int" ∨ T = "bool" ∨ T = "list" then some false else none
  | .tuple _ => if T = "tuple" then some true else if T = "str" ∨ T = "int" ∨ T = "bool" ∨ T = "list" then some false else none
  | .list _ => if T = "list" then some true else if T = "tuple" ∨ T = "str" ∨ T = "int" ∨ T = "bool" then some false else none
  | .dict _ => none
def isiD (T : String) (d : D) : Option D := match isD T d with
  | some b => some (.bool b)
  | none => none
def tyNm : D → String
  | .none => "NoneType" | .bool _ => "bool" | .int _ => "int" | .str _ => "str" | .tuple _ => "tuple" | .list _ => "list" | .dict _ => "dict"
theorem isD_kit {T : String} {d : D} {b : Bool} (h : isD T d = some b) : kitB (tyNm d) T = some b := by
  cases d <;> simp only [isD, tyNm] at h ⊢ <;> (repeat' split at h) <;> first
    | (cases h; done)
    | (rename_i e; cases h; rcases e with rfl | rfl | rfl | rfl | rfl <;> decide +kernel)
    | (rename_i e; cases h; rcases e with rfl | rfl | rfl | rfl <;> decide +kernel)
    | (rename_i e; cases h; rcases e with rfl | rfl | rfl <;> decide +kernel)
    | (rename_i e; cases h; rcases e with rfl | rfl <;> decide +kernel)
    | (rename_i e; cases h; subst e; decide +kernel)
theorem DrO.ty {v : V} {d : D} (h : DrO K A H v d) : TyX K H v (.type (tyNm d)) := by
  cases d with
  | none => cases h.non; exact .base .non
  | bool b => cases h.bool; exact .base (.bl _)
  | int b => cases h.int; exact .base (.int _)
  | str b => cases h.str; exact .base (.str _)
  | dict b => exact h.dict.elim
  | list ds =>
    obtain ⟨p, xs, rfl, h1, _⟩ := h.list
    exact .base (.lst h1)
  | tuple ds =>
    obtain ⟨p, xs, rfl, h1, _⟩ := h.tuple
    rcases h1 with ⟨o, h1⟩ | ⟨o, its, n, e1, e2, _⟩
    · exact .fTuple h1.1
    · exact .kTuple e1 e2
theorem od_isi (T : String) : OpD1 K (isiD T) (fun v H Q => rIsi K [v, .ty T] H Q) := by
  intro A H x a d Q f hx e q
  unfold isiD at e
  split at e
  · rename_i b hb
    cases e
    exact ⟨x, .ty T, _, _, b, rfl, .ty T, hx.ty, kit_ty (isD_kit hb), q _ H (Same.refl H) (.bl _)⟩
  · cases e
theorem ev_isi {T : String} {p p2 : Pos} (hg : Gl X "isinstance") (hm : X.mg "isinstance" = none) (ha : Ev cl X a f) (hT : PE X (.Name T p2) (tC (.ty T))) (he : starEach [a, .Name T p2] X.env = (false, eval a X.env) :: starEach [.Name T p2] X.env := by rfl)
    (he2 : starEach [.Name T p2] X.env = (false, eval (.Name T p2) X.env) :: starEach [] X.env := by rfl) (hpl : (backTo pos (starEach [.Name T p2] X.env)).any (·.1) = false := by rfl) :
    Ev cl X (.Call (.Name "isinstance" p) [a, .Name T p2] [] pos) (e1 (l1 (isiD T)) f) :=
  pe_imp (pe_callB call_isi hg hm PyProof.Rows.boot_isinstance (pa_cons ha (pa_cons hT pa_nil he2) he) (by decide) (by decide) he hpl) fun σ H Q h => op1_go (l1_op (od_isi T)) σ H Q h
end
end Cy
end
section
set_option Elab.async false
set_option maxRecDepth 100000
namespace Cy
open PySem L2

/-! ### targets -/
abbrev Gm := R → Dl → Option Dl
def Agree (is : List Nat) (σ σ' : L2.St) : Prop := σ'.length = σ.length ∧ ∀ j, j ∉ is → σ'[j]? = σ[j]?
def tG (K : PySem.W.Frag) (g : Gm) (is : List Nat) : TG := fun v σ H Q => ∃ A r δ δ', Rr K A H v r ∧ Sr K A H σ δ ∧ g r δ = some δ' ∧ ∀ σ', Sr K A H σ' δ' → Agree is σ σ' → Q σ' H
def Gv (X : Cx) (tg : Expr) (g : Gm) (is : List Nat) : Prop := PG X tg (tG X.K g is)
abbrev Gms := List D → Dl → Option Dl
def tGs (K : PySem.W.Frag) (g : Gms) (is : List Nat) : TGs := fun vs σ H Q => ∃ A ds δ δ', DrL K A H vs ds ∧ Sr K A H σ δ ∧ g ds δ = some δ' ∧ ∀ σ', Sr K A H σ' δ' → Agree is σ σ' → Q σ' H
def Gvs (X : Cx) (ts : List Expr) (g : Gms) (is : List Nat) : Prop := PGs X ts (tGs X.K g is)
def gNm (i : Nat) : Gm := fun r δ => some (δ.set i (some r))
def gsNil : Gms := fun ds δ => match ds with
  | [] => some δ
  | _ :: _ => none
def gsCons (g : Gm) (gs : Gms) : Gms := fun ds δ => match ds with
  | d :: ds => (match g (.dat d) δ with
    | some δ1 => gs ds δ1
    | none => none)
  | [] => none
def gTp (n : Nat) (gs : Gms) : Gm := fun r δ => match r with
  | .dat (.tuple ds) => if ds.length = n then gs ds δ else none
  | .itm ds => if ds.length = n then gs ds δ else none
  | _ => none
section
variable {X : Cx} {cl : Cls0} {pos : Pos} {A : List Addr} {H : Hp} {K : PySem.W.Frag}
theorem pg_imp {tg : Expr} {t t' : TG} (h : PG X tg t) (i : ∀ v σ H Q, t' v σ H Q → t v σ H Q) : PG X tg t' := ⟨fun pins s σ H v u Q I r q => h.run pins s σ H v u Q I r (i v σ H Q q)⟩
theorem pgs_imp {tg : List Expr} {t t' : TGs} (h : PGs X tg t) (i : ∀ v σ H Q, t' v σ H Q → t v σ H Q) : PGs X tg t' := ⟨fun pins s σ H v u Q I r q => h.run pins s σ H v u Q I r (i v σ H Q q)⟩
theorem Sr.put {σ : L2.St} {δ : Dl} (h : Sr K A H σ δ) (i : Nat) {v : V} {r : R} (hv : Rr K A H v r) (hl : i < σ.length) : Sr K A H (σ.set i (some v)) (δ.set i (some r)) := ⟨fun j r' e => by
  by_cases hj : i = j
  · subst hj
    have : i < δ.length := by
      have := (List.getElem?_eq_some_iff.mp e).1
      rw [List.length_set] at this
      exact this
    rw [List.getElem?_set_self this] at e
    cases e
    exact ⟨v, by rw [List.getElem?_set_self hl], hv⟩
  · rw [List.getElem?_set_ne hj] at e
    rw [List.getElem?_set_ne hj]
    exact h.at_ j r' e⟩
theorem Agree.set (is : List Nat) (σ : L2.St) {i : Nat} (x : Option V) (h : i ∈ is) : Agree is σ (σ.set i x) := ⟨List.length_set .., fun j hj => by
  rw [List.getElem?_set_ne]
  intro e
  exact hj (e ▸ h)⟩
theorem Agree.trans {is : List Nat} {σ σ1 σ2 : L2.St} (a : Agree is σ σ1) (b : Agree is σ1 σ2) : Agree is σ σ2 := ⟨b.1.trans a.1, fun j hj => (b.2 j hj).trans (a.2 j hj)⟩
theorem Agree.mono {is js : List Nat} {σ σ1 : L2.St} (a : Agree is σ σ1) (h : ∀ i ∈ is, i ∈ js) : Agree js σ σ1 := ⟨a.1, fun j hj => a.2 j fun hi => hj (h j hi)⟩
theorem gv_name {i : Nat} {x : Str} (hN : X.N.Nodup) (hi : X.N[i]? = some x) (hx : Loc X.env.scope x) (hf : X.fn x = true ∨ X.env.scope.names.lookup x = some .local := by first | exact .inl rfl | exact .inr rfl | assumption) : Gv X (.Name x pos) (gNm i) [i] := by
  refine ⟨fun pins s σ H v u Q I r h => ?_⟩
  obtain ⟨A, rv, δ, δ', h1, h2, h3, q⟩ := h
  cases h3
  have hl : i < σ.length := by rw [I.len]; exact (List.getElem?_eq_some_iff.mp hi).1
  exact (pg_name hN hi hx hf).run pins s σ H v u Q I r (q _ (h2.put i h1 hl) (Agree.set _ _ _ (List.mem_singleton.mpr rfl)))
theorem gvs_nil : Gvs X [] gsNil [] := pgs_imp pgs_nil fun vs σ H Q ⟨A, ds, δ, δ', h1, h2, h3, q⟩ => by
  unfold gsNil at h3
  split at h3
  · cases h3
    cases h1
    exact ⟨rfl, q σ h2 ⟨rfl, fun _ _ => rfl⟩⟩
  · cases h3
theorem gvs_cons {e : Expr} {es : List Expr} {g : Gm} {gs : Gms} {is js : List Nat} (h1 : Gv X e g is) (h2 : Gvs X es gs js) (hs : (assignEach (e :: es) X.env).map (·.2) = assign e X.env :: (assignEach es X.env).map (·.2) := by rfl) :
    Gvs X (e :: es) (gsCons g gs) (is ++ js) := pgs_imp (pgs_cons h1 h2 hs) fun vs σ H Q ⟨A, ds, δ, δ', r1, r2, r3, q⟩ => by
  unfold gsCons at r3
  split at r3
  · rename_i d ds'
    split at r3
    · rename_i δ1 hg
      cases r1 with
      | cons u1 u2 =>
        refine ⟨_, _, rfl, A, .dat d, δ, δ1, u1, r2, hg, fun σ1 s1 a1 => ⟨A, ds', δ1, δ', u2, s1, r3, fun σ2 s2 a2 => q σ2 s2 ?_⟩⟩
        exact (a1.mono fun i hi => List.mem_append_left _ hi).trans (a2.mono fun i hi => List.mem_append_right _ hi)
    · cases r3
  · cases r3
theorem gv_tup {es : List Expr} {k : Nat} {gs : Gms} {is : List Nat} {n : Nat} (hc : X.calm = true) (h : Gvs X es gs is)
    (hn : (assignEach es X.env).length = n := by rfl) (hst : (assignEach es X.env).findIdx? (·.1) = none := by rfl) : Gv X (.Tuple es k pos) (gTp n gs) is :=
  pg_imp (pg_tup hc h hn hst) fun v σ H Q ⟨A, r, δ, δ', r1, r2, r3, q⟩ => by
  unfold gTp at r3
  split at r3
  · rename_i ds
    split at r3
    · rename_i hlen
      cases r1 with
      | tup t1 t2 => exact ⟨_, _, rfl, t1.sq, by rw [t2.length]; exact hlen, A, ds, δ, δ', t2, r2, r3, q⟩
    · cases r3
  · rename_i ds
    split at r3
    · rename_i hlen
      obtain ⟨a, xs, rfl, t1, t2⟩ := r1
      exact ⟨_, _, rfl, SqT.of t1.1, by rw [t2.length]; exact hlen, A, ds, δ, δ', t2, r2, r3, q⟩
    · cases r3
  · cases r3

/-! ### statements -/
def sSeq (f g : Sm) : Sm := fun δ S => match f δ S with
  | some (.nx δ1, S1) => g δ1 S1
  | some (.rt r, S1) => some (.rt r, S1)
  | none => none
def sSkip : Sm := fun δ S => some (.nx δ, S)
def sRet (f : Em) : Sm := fun δ S => match f δ S with
  | some (r, S1) => some (.rt r, S1)
  | none => none
def sAsg (f : Em) (g : Gm) : Sm := fun δ S => match f δ S with
  | some (r, S1) => (match g r δ with
    | some δ1 => some (.nx δ1, S1)
    | none => none)
  | none => none
def sIf (c : Tm) (f g : Sm) : Sm := fun δ S => match c δ S with
  | some (b, S1) => if b = true then f δ S1 else g δ S1
  | none => none
def sExpr (f : Em) : Sm := fun δ S => match f δ S with
  | some (_, S1) => some (.nx δ, S1)
  | none => none
variable {st : Stmt} {sts : List Stmt} {e c : Expr} {f : Em}
theorem tS_then {f : Sm} {σ : L2.St} {δ : Dl} {S S1 : SS} {fl : Fl} {E : Ends} (hs : Sr K A H σ δ) (hw : Wr K cl A H S) (hf : f δ S = some (fl, S1)) (h : PostS K cl A H S1 fl E) : tS K cl f E σ H :=
  ⟨A, δ, S, fl, S1, hs, hw, hf, h⟩
theorem PostS.mono {A1 : List Addr} {H1 : Hp} {S1 : SS} {fl : Fl} {E : Ends} (h : PostS K cl A H S1 fl E) (e : Ext A H A1 H1) : PostS K cl A1 H1 S1 fl E := by
  cases fl with
  | nx δ' => exact fun σ' A' H' e' w s => h σ' A' H' (e.trans e') w s
  | rt r => exact fun σ' A' H' e' w s => h σ' A' H' (e.trans e') w s
theorem bv_nil : Bv cl X [] sSkip := pss_imp pss_nil fun E σ H ⟨A, δ, S, fl, S', hs, hw, hf, q⟩ => by
  cases hf
  exact q σ A H .refl hw hs
theorem bv_cons {f g : Sm} (h1 : Sv cl X st f) (h2 : Bv cl X sts g) : Bv cl X (st :: sts) (sSeq f g) := pss_imp (pss_cons h1 h2) fun E σ H ⟨A, δ, S, fl, S', hs, hw, hf, q⟩ => by
  unfold sSeq at hf
  split at hf
  · rename_i δ1 S1 h1
    exact tS_then hs hw h1 fun σ1 A1 H1 e1 w1 s1 => tS_then s1 w1 hf (q.mono e1)
  · rename_i r S1 h1
    cases hf
    exact tS_then hs hw h1 q
  · cases hf
theorem bv_one {f : Sm} (h1 : Sv cl X st f) : Bv cl X [st] f := pss_one h1
theorem sv_ret (h : Ev cl X e f) : Sv cl X (.Return (some e) pos) (sRet f) := ps_imp (ps_ret h) fun E σ H ⟨A, δ, S, fl, S', hs, hw, hf, q⟩ => by
  unfold sRet at hf
  split at hf
  · rename_i r S1 h1
    cases hf
    exact ⟨A, δ, S, r, _, hs, hw, h1, q⟩
  · cases hf
theorem sv_asg {tg : Expr} {g : Gm} {is : List Nat} (h : Ev cl X e f) (hg : Gv X tg g is) (hs : swapsWithSole [tg] e pos.line X.env = pure false) (hw : swappedStores [tg] e X.env = pure none)
    (h1 : (assignEach [tg] X.env).map (·.2) = [assign tg X.env]) : Sv cl X (.Assign [tg] e pos) (sAsg f g) := ps_imp (ps_asg h hg hs hw h1) fun E σ H ⟨A, δ, S, fl, S', hs, hw, hf, q⟩ => by
  unfold sAsg at hf
  split at hf
  · rename_i r S1 h1
    split at hf
    · rename_i δ1 h2
      cases hf
      exact tE_then hs hw h1 fun v A1 H1 e1 w1 rv s1 => ⟨A1, r, δ, δ1, rv, s1, h2, fun σ' s' _ => q σ' A1 H1 e1 w1 s'⟩
    · cases hf
  · cases hf
theorem sv_set {i : Nat} {x : Str} {pos' : Pos} (hN : X.N.Nodup) (hi : X.N[i]? = some x) (hx : Loc X.env.scope x) (h : Ev cl X e f) (hs : swapsWith e (some (.Name x pos')) pos.line X.env = pure false) (hf : X.fn x = true ∨ X.env.scope.names.lookup x = some .local := by first | exact .inl rfl | exact .inr rfl | assumption) :
    Sv cl X (.Assign [.Name x pos'] e pos) (sAsg f (gNm i)) := by
  refine ⟨fun pins s σ H D I ⟨A, δ, S, fl, S', hs', hw, hf', q⟩ => (ps_set (te := tE X.K cl f) hN hi hx h hs hf).run pins s σ H D I ?_⟩
  have hl : i < σ.length := by rw [I.len]; exact (List.getElem?_eq_some_iff.mp hi).1
  unfold sAsg at hf'
  split at hf'
  · rename_i r S1 h1
    cases hf'
    exact tE_then hs' hw h1 fun v A1 H1 e1 w1 rv s1 => q _ A1 H1 e1 w1 (s1.put i rv hl)
  · cases hf'
theorem sv_if {a b : List Stmt} {tc : Tm} {f g : Sm} (hc : Tv cl X c tc) (ha : Bv cl X a f) (hb : Bv cl X b g) : Sv cl X (.If c a b pos) (sIf tc f g) := ps_imp (ps_if hc ha hb) fun E σ H ⟨A, δ, S, fl, S', hs, hw, hf, q⟩ => by
  unfold sIf at hf
  split at hf
  · rename_i b S1 h1
    refine tT_then hs hw h1 fun A1 H1 e1 w1 s1 => ?_
    cases b with
    | true =>
      rw [if_pos rfl] at hf ⊢
      exact tS_then s1 w1 hf (q.mono e1)
    | false =>
      rw [if_neg Bool.false_ne_true] at hf ⊢
      exact tS_then s1 w1 hf (q.mono e1)
  · cases hf
theorem sv_expr (h : Ev cl X e f) (hs : swapsWith e none pos.line X.env = pure false := by rfl) : Sv cl X (.Expr e pos) (sExpr f) := ps_imp (ps_expr h hs) fun E σ H ⟨A, δ, S, fl, S', hs, hw, hf, q⟩ => by
  unfold sExpr at hf
  split at hf
  · rename_i r S1 h1
    cases hf
    exact tE_then hs hw h1 fun v A1 H1 e1 w1 rv s1 => q σ A1 H1 e1 w1 s1
  · cases hf

/-! ### what is walked -/
/-- the items; where they are a list of the store's: which, as it must stay; the store -/
abbrev Im := Dl → SS → Option (List R × Option (Nat × List D) × SS)
def Stays (gd : Option (Nat × List D)) (S : SS) : Prop := match gd with
  | none => True
  | some (k, ds) => S[k]? = some (.lst ds)
structure Walk (K : PySem.W.Frag) (cl : Cls0) (A : List Addr) (H : Hp) (J : It) (items : List R) (gd : Option (Nat × List D)) : Prop where
  few : items.length ≤ sizeLine
  go : ∀ A' H' S', Ext A H A' H' → Wr K cl A' H' S' → Stays gd S' → ∀ (i : Nat) (r : R), items[i]? = some r → J.go i H' ∧ ∀ x H'', J.yld i H' x H'' → Same H' H'' ∧ Rr K A' H'' x r
  stop : ∀ A' H' S', Ext A H A' H' → Wr K cl A' H' S' → Stays gd S' → ∀ i, items.length = i → J.stop i H'
def tI (K : PySem.W.Frag) (cl : Cls0) (f : Im) : TI := fun σ H Q => ∃ A δ S items gd S', Sr K A H σ δ ∧ Wr K cl A H S ∧ f δ S = some (items, gd, S') ∧ ∀ J A' H', Ext A H A' H' → Wr K cl A' H' S' → Stays gd S' → Walk K cl A' H' J items gd → Q J H'
def Iv (cl : Cls0) (X : Cx) (tg iter : Expr) (f : Im) : Prop := PI X tg iter (tI X.K cl f)
theorem pi_imp {tg iter : Expr} {t t' : TI} (h : PI X tg iter t) (i : ∀ σ H Q, t' σ H Q → t σ H Q) : PI X tg iter t' := ⟨fun pins s σ H R I q => h.run pins s σ H R I (i σ H R q)⟩

/-! ### for -/
/-- the slots that are forgotten between the turns -/
def clrS : List Nat → Dl → Dl
  | [], δ => δ
  | i :: is, δ => (clrS is δ).set i none
theorem Sr.clr {σ : L2.St} {δ : Dl} (h : Sr K A H σ δ) : ∀ is, Sr K A H σ (clrS is δ)
  | [] => h
  | i :: is => ⟨fun j r e => by
    have ih := h.clr is
    unfold clrS at e
    by_cases hj : i = j
    · subst hj
      by_cases hl : i < (clrS is δ).length
      · rw [List.getElem?_set_self hl] at e; cases e
      · rw [List.getElem?_eq_none (by simpa using hl)] at e; cases e
    · rw [List.getElem?_set_ne hj] at e
      exact ih.at_ j r e⟩
open Classical in
noncomputable def forL (g : Gm) (body : Sm) (clr : List Nat) (gd : Option (Nat × List D)) : List R → Dl → SS → Option (Fl × SS)
  | [], δ, S => some (.nx δ, S)
  | r :: rs, δ, S => match g r δ with
    | some δ1 => (match body δ1 S with
      | some (.nx δ2, S2) => if Stays gd S2 then forL g body clr gd rs (clrS clr δ2) S2 else none
      | some (.rt v, S2) => some (.rt v, S2)
      | none => none)
    | none => none
noncomputable def sFor (src : Im) (g : Gm) (body : Sm) (clr : List Nat) : Sm := fun δ S => match src δ S with
  | some (items, gd, S1) => forL g body clr gd items δ S1
  | none => none
theorem sv_for {tg iter : Expr} {body : List Stmt} {src : Im} {g : Gm} {is : List Nat} {fb : Sm} {clr : List Nat} (hc : X.calm = true) (hp : PassesOwn (model X.prog X.w) X.A X.env X.xe) (hi : Iv cl X tg iter src) (hg : Gv X tg g is) (hb : Bv cl X body fb)
    (hs : ∀ x, foldedSetIterable iter X.env x = pure x := by intro _; rfl) : Sv cl X (.For tg iter body [] pos) (sFor src g fb clr) := ps_imp (ps_for hp hc hi hg hb hs) fun E σ H ⟨A, δ, S, fl, S', hs, hw, hf, q⟩ => by
  unfold sFor at hf
  split at hf
  · rename_i items gd S1 h1
    refine ⟨A, δ, S, items, gd, S1, hs, hw, h1, fun J A1 H1 e1 w1 g1 W => ?_⟩
    refine ⟨fun i m σ H => m = items.length - i ∧ i ≤ items.length ∧ ∃ A2 δ2 S2, Ext A1 H1 A2 H ∧ Wr X.K cl A2 H S2 ∧ Stays gd S2 ∧ Sr X.K A2 H σ δ2 ∧ forL g fb clr gd (items.drop i) δ2 S2 = some (fl, S') ∧ PostS X.K cl A2 H S' fl E,
      ⟨_, rfl, Nat.zero_le _, A1, δ, S1, .refl, w1, g1, hs.mono e1, by rw [List.drop_zero]; exact hf, q.mono e1⟩, ?_⟩
    rintro i m σ2 H2 ⟨rfl, hle, A2, δ2, S2, e2, w2, g2, s2, f2, q2⟩
    by_cases hlt : i < items.length
    · have hd : items.drop i = items[i] :: items.drop (i + 1) := List.drop_eq_getElem_cons hlt
      obtain ⟨hgo, hy⟩ := W.go A2 H2 S2 e2 w2 g2 i items[i] (List.getElem?_eq_getElem hlt)
      refine .inr ⟨hgo, fun σ H => ∃ A3 δ3 S3, Ext A1 H1 A3 H ∧ Wr X.K cl A3 H S3 ∧ Stays gd S3 ∧ Sr X.K A3 H σ δ3 ∧ forL g fb clr gd (items.drop (i + 1)) δ3 S3 = some (fl, S') ∧ PostS X.K cl A3 H S' fl E,
        fun σ' H' z => ⟨items.length - (i + 1), by omega, rfl, hlt, z⟩, fun x H' y => ?_⟩
      obtain ⟨sm, rx⟩ := hy x H' y
      have e3 : Ext A2 H2 A2 H' := .same sm
      have w3 := w2.same sm
      have s3 := s2.mono e3
      rw [hd] at f2
      unfold forL at f2
      split at f2
      · rename_i δ1 hg1
        refine ⟨A2, items[i], δ2, δ1, rx, s3, hg1, fun σ' s' _ => ?_⟩
        split at f2
        · rename_i δ4 S4 hb4
          split at f2
          · rename_i g4
            exact tS_then s' w3 hb4 fun σ5 A5 H5 e5 w5 s5 => ⟨A5, clrS clr δ4, S4, e2.trans (e3.trans e5), w5, g4, s5.clr clr, f2, q2.mono (e3.trans e5)⟩
          · cases f2
        · rename_i v S4 hb4
          cases f2
          exact tS_then s' w3 hb4 (q2.mono e3)
        · cases f2
      · cases f2
    · have hi : i = items.length := by omega
      subst hi
      rw [List.drop_length] at f2
      unfold forL at f2
      cases f2
      exact .inl ⟨W.stop A2 H2 _ e2 w2 g2 _ rfl, q2 σ2 A2 H2 .refl w2 s2⟩
  · cases hf

/-! ### while -/
def whL (c : Tm) (body : Sm) (clr : List Nat) : Nat → Dl → SS → Option (Fl × SS)
  | 0, _, _ => none
  | n + 1, δ, S => match c δ S with
    | some (b, S1) => if b = true then (match body δ S1 with
      | some (.nx δ2, S2) => whL c body clr n (clrS clr δ2) S2
      | some (.rt v, S2) => some (.rt v, S2)
      | none => none) else some (.nx δ, S1)
    | none => none
def sWhile (n : Nat) (c : Tm) (body : Sm) (clr : List Nat) : Sm := fun δ S => whL c body clr n δ S
theorem sv_while {n : Nat} {body : List Stmt} {tc : Tm} {fb : Sm} {clr : List Nat} (hp : PassesOwn (model X.prog X.w) X.A X.env X.xe) (hc : Tv cl X c tc) (hb : Bv cl X body fb) : Sv cl X (.While c body [] pos) (sWhile n tc fb clr) := ps_imp (ps_while hp hc hb) fun E σ H ⟨A, δ, S, fl, S', hs, hw, hf, q⟩ => by
  unfold sWhile at hf
  refine ⟨fun m σ H => ∃ A2 δ2 S2, Wr X.K cl A2 H S2 ∧ Sr X.K A2 H σ δ2 ∧ whL tc fb clr m δ2 S2 = some (fl, S') ∧ PostS X.K cl A2 H S' fl E, ⟨n, A, δ, S, hw, hs, hf, q⟩, ?_⟩
  rintro m σ2 H2 ⟨A2, δ2, S2, w2, s2, f2, q2⟩
  cases m with
  | zero => cases f2
  | succ m =>
    unfold whL at f2
    split at f2
    · rename_i b S1 h1
      refine tT_then s2 w2 h1 fun A3 H3 e3 w3 s3 => ?_
      cases b with
      | false =>
        rw [if_neg Bool.false_ne_true] at f2 ⊢
        cases f2
        exact q2 σ2 A3 H3 e3 w3 s3
      | true =>
      rw [if_pos rfl] at f2 ⊢
      refine ⟨fun σ H => ∃ A4 δ4 S4, Wr X.K cl A4 H S4 ∧ Sr X.K A4 H σ δ4 ∧ whL tc fb clr m δ4 S4 = some (fl, S') ∧ PostS X.K cl A4 H S' fl E, fun σ' H' z => ⟨m, Nat.lt_succ_self m, z⟩, ?_⟩
      split at f2
      · rename_i δ4 S4 hb4
        exact tS_then s3 w3 hb4 fun σ5 A5 H5 e5 w5 s5 => ⟨A5, _, S4, w5, s5.clr clr, f2, q2.mono (e3.trans e5)⟩
      · rename_i v S4 hb4
        cases f2
        exact tS_then s3 w3 hb4 (q2.mono e3)
      · cases f2
    · cases f2

/-! ### comprehensions -/
def lookO (S : SS) (k : Nat) : Option (List D) := match S[k]? with
  | some (.lst ds) => some ds
  | _ => none
open Classical in
noncomputable def compL (g : Gm) (c : Tm) (e : Em) (δ : Dl) (gd : Option (Nat × List D)) (k : Nat) : List R → Nat → SS → Option SS
  | [], _, S => some S
  | r :: rs, n, S => match g r δ with
    | some δ1 => (match c δ1 S with
      | some (b, S1) => if b = true then (match e δ1 S1 with
        | some (.dat d, S2) => (match lookO S2 k with
          | some acc => if Stays gd (S2.set k (.lst (acc ++ [d]))) ∧ acc.length ≤ n then compL g c e δ gd k rs (n + 1) (S2.set k (.lst (acc ++ [d]))) else none
          | none => none)
        | _ => none) else if Stays gd S1 then compL g c e δ gd k rs (n + 1) S1 else none
      | none => none)
    | none => none
noncomputable def eComp (own : List Nat) (src : Im) (g : Gm) (c : Tm) (e : Em) : Em := fun δ S => match src δ S with
  | some (items, gd, S1) => (match compL g c e (clrS own δ) gd S1.length items 0 (S1 ++ [.lst []]) with
    | some S2 => (match lookO S2 S1.length with
      | some ds => some (.dat (.list ds), S2.take S1.length)
      | none => none)
    | none => none)
  | none => none
def tTrue : Tm := fun _ S => some (true, S)
def Tsv (cl : Cls0) (X : Cx) (ifs : List Expr) (f : Tm) : Prop := PTs X ifs (tT X.K cl f)
theorem tsv_nil : Tsv cl X [] tTrue := ⟨fun pins s σ H Q I ⟨A, δ, S, b, S', hs, hw, hf, q⟩ => by
  cases hf
  exact pts_nil.run pins s σ H Q I (q A H .refl hw)⟩
theorem tsv_one {f : Tm} (h : Tv cl X c f) : Tsv cl X [c] f := pts_one h

theorem wipe_get (σ : L2.St) (j : Nat) : ∀ vs : List Nat, (wipe σ vs)[j]? = if j ∈ vs ∧ j < σ.length then some none else σ[j]?
  | [] => by simp [wipe]
  | v :: vs => by
    unfold wipe
    have ih := wipe_get σ j vs
    by_cases h : v = j
    · subst h
      by_cases hl : v < σ.length
      · rw [List.getElem?_set_self (by rw [wipe_length]; exact hl), if_pos ⟨List.mem_cons_self, hl⟩]
      · rw [List.getElem?_eq_none (by rw [List.length_set, wipe_length]; omega), if_neg fun z => hl z.2, List.getElem?_eq_none (by omega)]
    · rw [List.getElem?_set_ne h, ih]
      have : (j ∈ v :: vs ∧ j < σ.length) ↔ (j ∈ vs ∧ j < σ.length) := by
        constructor
        · rintro ⟨h1, h2⟩
          rcases List.mem_cons.mp h1 with e | e
          · exact absurd e.symm h
          · exact ⟨e, h2⟩
        · rintro ⟨h1, h2⟩
          exact ⟨List.mem_cons_of_mem _ h1, h2⟩
      by_cases hm : j ∈ vs ∧ j < σ.length
      · rw [if_pos hm, if_pos (this.mpr hm)]
      · rw [if_neg hm, if_neg fun z => hm (this.mp z)]
theorem wipe_agree {σ σ' : L2.St} {vs is : List Nat} (a : Agree is (wipe σ vs) σ') (h : ∀ i ∈ is, i ∈ vs) : wipe σ' vs = wipe σ vs := by
  have hl : σ'.length = σ.length := by rw [a.1, wipe_length]
  refine List.ext_getElem? fun j => ?_
  rw [wipe_get, wipe_get, hl]
  by_cases hm : j ∈ vs ∧ j < σ.length
  · rw [if_pos hm, if_pos hm]
  · rw [if_neg hm, if_neg hm]
    by_cases hj : j ∈ vs
    · have : ¬ j < σ.length := fun z => hm ⟨hj, z⟩
      rw [List.getElem?_eq_none (by omega), List.getElem?_eq_none (by omega)]
    · rw [a.2 j fun z => hj (h j z), wipe_get, if_neg fun z => hj z.1]
theorem clr_get (δ : Dl) (j : Nat) {r : R} : ∀ vs : List Nat, (clrS vs δ)[j]? = some (some r) → δ[j]? = some (some r) ∧ j ∉ vs
  | [], h => ⟨h, by simp⟩
  | v :: vs, h => by
    unfold clrS at h
    by_cases e : v = j
    · subst e
      by_cases hl : v < (clrS vs δ).length
      · rw [List.getElem?_set_self hl] at h; cases h
      · rw [List.getElem?_eq_none (by simpa using hl)] at h; cases h
    · rw [List.getElem?_set_ne e] at h
      obtain ⟨h1, h2⟩ := clr_get δ j vs h
      exact ⟨h1, by simp only [List.mem_cons, not_or]; exact ⟨fun z => e z.symm, h2⟩⟩
theorem Sr.wipe {σ : L2.St} {δ : Dl} (h : Sr K A H σ δ) (vs : List Nat) : Sr K A H (L2.wipe σ vs) (clrS vs δ) := ⟨fun j r e => by
  obtain ⟨h1, h2⟩ := clr_get δ j vs e
  obtain ⟨v, q1, q2⟩ := h.at_ j r h1
  exact ⟨v, by rw [wipe_get, if_neg fun z => h2 z.1]; exact q1, q2⟩⟩
theorem DrK.anti' {B : List Addr} (han : ∀ d v, Dr K (A ++ B) H v d → Dr K A H v d) {ks : List (Key × V)} {kvs : List (Key × D)} (h : DrK K (A ++ B) H ks kvs) : DrK K A H ks kvs := by
  induction h with
  | nil => exact .nil
  | cons u1 _ ih => exact .cons (han _ _ u1) ih
theorem DrF.anti' {B : List Addr} (han : ∀ d v, Dr K (A ++ B) H v d → Dr K A H v d) {ks : List (Str × V)} {kvs : List (Str × D)} (h : DrF K (A ++ B) H ks kvs) : DrF K A H ks kvs := by
  induction h with
  | nil => exact .nil
  | cons u1 _ ih => exact .cons (han _ _ u1) ih
theorem Wr.take {S : SS} {B : List Addr} (w : Wr K cl (A ++ B) H S) (han : ∀ d v, Dr K (A ++ B) H v d → Dr K A H v d) : Wr K cl A H (S.take A.length) := by
  have hl : A.length ≤ S.length := by rw [← w.len, List.length_append]; omega
  refine ⟨by rw [List.length_take, Nat.min_eq_left hl], (List.nodup_append.mp w.nd).1, fun k a o h1 h2 => ?_⟩
  have hk : k < A.length := (List.getElem?_eq_some_iff.mp h1).1
  have q := w.ob k a o (by rw [List.getElem?_append_left hk]; exact h1) (by rw [List.getElem?_take_of_lt hk] at h2; exact h2)
  have hanL : ∀ (ds : List D) (vs : List V), DrL K (A ++ B) H vs ds → DrL K A H vs ds := fun ds => by
    induction ds with
    | nil => intro vs h; cases h; exact .nil
    | cons d ds ih =>
      intro vs h
      cases h with
      | cons u1 u2 => exact .cons (han _ _ u1) (ih _ u2)
  cases o with
  | lst ds =>
    obtain ⟨vs, q1, q2, q3⟩ := q
    exact ⟨vs, q1, hanL _ _ q2, q3⟩
  | dic kvs =>
    obtain ⟨vs, q1, q2⟩ := q
    exact ⟨vs, q1, DrK.anti' han q2⟩
  | ins c fs =>
    obtain ⟨dx, vs, q1, q2⟩ := q
    exact ⟨dx, vs, q1, DrF.anti' han q2⟩
mutual
theorem Dr.anti {B : List Addr} : ∀ (d : D) (v : V), Dr K (A ++ B) H v d → Dr K A H v d
  | .none, _, h => by cases h; exact .non
  | .bool _, _, h => by cases h; exact .bl _
  | .int _, _, h => by cases h; exact .int _
  | .str _, _, h => by cases h; exact .str _
  | .list ds, _, h => by
    cases h with
    | lst h1 h2 => exact .lst ⟨h1.1, fun z => h1.2.1 (List.mem_append_left _ z), h1.2.2⟩ (DrL.anti ds _ h2)
  | .tuple ds, _, h => by
    cases h with
    | tup h1 h2 =>
      refine .tup ?_ (DrL.anti ds _ h2)
      rcases h1 with ⟨o, h1⟩ | h1
      · exact .inl ⟨o, h1.1, h1.2.1, fun z => h1.2.2.1 (List.mem_append_left _ z), h1.2.2.2⟩
      · exact .inr h1
  | .dict _, _, h => by cases h
theorem DrL.anti {B : List Addr} : ∀ (ds : List D) (vs : List V), DrL K (A ++ B) H vs ds → DrL K A H vs ds
  | [], _, h => by cases h; exact .nil
  | d :: ds, _, h => by
    cases h with
    | cons h1 h2 => exact .cons (Dr.anti d _ h1) (DrL.anti ds _ h2)
end
theorem Wr.cut {S : SS} {B : List Addr} (w : Wr K cl (A ++ B) H S) : Wr K cl A H (S.take A.length) := w.take fun d v h => Dr.anti d v h
theorem comp_go {own : List (Str × Nat)} {src : Im} {g : Gm} {is : List Nat} {fc : Tm} {fe : Em} (his : ∀ i ∈ is, i ∈ own.map (·.2)) : ∀ σ H Q, tE K cl (eComp (own.map (·.2)) src g fc fe) σ H Q → tLc (tI K cl src) (tG K g is) (tT K cl fc) (tE K cl fe) (own.map (·.2)) σ H Q := by
  intro σ H Q ⟨A, δ, S, r, S', hs, hw, hf, q⟩
  unfold eComp at hf
  split at hf
  · rename_i items gd S1 h1
    split at hf
    · rename_i S2 h2
      split at hf
      · rename_i ds hds
        cases hf
        refine ⟨A, δ, S, items, gd, S1, hs, hw, h1, fun J A1 H1 e1 w1 g1 W D hD => ?_⟩
        have eD := Ext.push (A := A1) hD (.lst [])
        have gsame : ∀ {S : SS} {ob : Ob}, Stays gd S1 → True := fun _ => trivial
        have wD : Wr K cl (A1 ++ [D]) (upd H1 D (.lst [])) (S1 ++ [.lst []]) := w1.push hD ⟨[], upd_same, .nil, Nat.zero_le _⟩
        have gD : Stays gd (S1 ++ [.lst []]) := by
          unfold Stays at g1 ⊢
          cases gd with
          | none => trivial
          | some p =>
            have : p.1 < S1.length := (List.getElem?_eq_some_iff.mp g1).1
            show (S1 ++ [.lst []])[p.1]? = _
            rw [List.getElem?_append_left this]
            exact g1
        have hkA : (A1 ++ [D])[S1.length]? = some D := by rw [← w1.len]; simp
        refine ⟨fun i m H => m = items.length - i ∧ i ≤ items.length ∧ ∃ A2 S3, Ext (A1 ++ [D]) (upd H1 D (.lst [])) A2 H ∧ Wr K cl A2 H S3 ∧ Stays gd S3 ∧ compL g fc fe (clrS (own.map (·.2)) δ) gd S1.length (items.drop i) i S3 = some S2,
          ⟨_, rfl, Nat.zero_le _, A1 ++ [D], _, .refl, wD, gD, by rw [List.drop_zero]; exact h2⟩, ?_⟩
        rintro i m H2 ⟨rfl, hle, A2, S3, e2, w2, g2, f2⟩
        have hkA2 : A2[S1.length]? = some D := e2.at_ hkA
        have s2 : Sr K A2 H2 (wipe σ (own.map (·.2))) (clrS (own.map (·.2)) δ) := ((hs.mono (e1.trans (eD.trans e2))).wipe _)
        by_cases hlt : i < items.length
        · have hd : items.drop i = items[i] :: items.drop (i + 1) := List.drop_eq_getElem_cons hlt
          obtain ⟨hgo, hy⟩ := W.go A2 H2 S3 (eD.trans e2) w2 g2 i items[i] (List.getElem?_eq_getElem hlt)
          refine .inr ⟨hgo, fun H => ∃ A3 S4, Ext (A1 ++ [D]) (upd H1 D (.lst [])) A3 H ∧ Wr K cl A3 H S4 ∧ Stays gd S4 ∧ compL g fc fe (clrS (own.map (·.2)) δ) gd S1.length (items.drop (i + 1)) (i + 1) S4 = some S2,
            fun H' z => ⟨items.length - (i + 1), by omega, rfl, hlt, z⟩, fun x H' y => ?_⟩
          obtain ⟨sm, rx⟩ := hy x H' y
          have e3 : Ext A2 H2 A2 H' := .same sm
          have w3 := w2.same sm
          have s3 := s2.mono e3
          rw [hd] at f2
          unfold compL at f2
          split at f2
          · rename_i δ1 hg1
            refine ⟨A2, items[i], _, δ1, rx, s3, hg1, fun σ' s' ag => ⟨wipe_agree ag his, ?_⟩⟩
            split at f2
            · rename_i b S4 hc4
              refine tT_then s' w3 hc4 fun A4 H4 e4 w4 s4 => ?_
              cases b with
              | false =>
                rw [if_neg Bool.false_ne_true] at f2 ⊢
                split at f2
                · rename_i hst
                  exact ⟨A4, S4, e2.trans (e3.trans e4), w4, hst, f2⟩
                · cases f2
              | true =>
              rw [if_pos rfl] at f2 ⊢
              split at f2
              · rename_i d S5 he5
                split at f2
                · rename_i acc hacc
                  split at f2
                  · rename_i hst
                    refine tE_then s4 w4 he5 fun v A5 H5 e5 w5 rv s5 => ?_
                    have hk5 : A5[S1.length]? = some D := (e3.trans (e4.trans e5)).at_ hkA2
                    have hS5 : S5[S1.length]? = some (.lst acc) := by
                      unfold lookO at hacc
                      split at hacc
                      · rename_i z; cases hacc; exact z
                      · cases hacc
                    obtain ⟨vs, o1, o2, o3⟩ := w5.ob _ _ _ hk5 hS5
                    have ew := Ext.write (H := H5) hk5 (.lst (vs ++ [v]))
                    have hlt2 : vs.length < sizeLine := by
                      rw [o2.length]
                      exact Nat.lt_of_lt_of_le (Nat.lt_of_le_of_lt hst.2 hlt) W.few
                    refine ⟨vs, o1, hlt2, A5, _, e2.trans ((e3.trans (e4.trans e5)).trans ew), w5.write (ob := .lst (acc ++ [d])) hk5 ⟨vs ++ [v], upd_same, ?_, by rw [List.length_append]; exact hlt2⟩, hst.1, f2⟩
                    exact (DrL.mono ew _ _ o2).app (.cons (Dr.mono ew _ _ rv) .nil)
                  · cases f2
                · cases f2
              · cases f2
            · cases f2
          · cases f2
        · have hi : i = items.length := by omega
          subst hi
          rw [List.drop_length] at f2
          unfold compL at f2
          cases f2
          refine .inl ⟨W.stop A2 H2 S2 (eD.trans e2) w2 g2 _ rfl, ?_⟩
          have eA := e1.trans (eD.trans e2)
          obtain ⟨B, hB⟩ := e2.pre
          have hA2 : A2 = A1 ++ (D :: B) := by rw [hB, List.append_assoc] <;> rfl
          subst hA2
          have w2' := w2.cut
          rw [w1.len] at w2'
          have hS2 : S2[S1.length]? = some (.lst ds) := by
            unfold lookO at hds
            split at hds
            · rename_i z; cases hds; exact z
            · cases hds
          obtain ⟨vs, o1, o2, o3⟩ := w2.ob _ _ _ hkA2 hS2
          have hDA : D ∉ A1 := w1.fresh hD
          refine q _ A1 H2 (e1.trans ⟨⟨[], by simp⟩, fun b hb n => absurd hb n, fun b u hu n => ?_⟩) w2' (.lst ⟨o1, hDA, o3⟩ (DrL.anti _ _ o2))
          have hbD : b ≠ D := ne_of_none hu hD
          exact e2.kp b u (by rw [upd_ne hbD]; exact hu) fun z => (List.mem_append.mp z).elim n fun z => hbD (List.mem_singleton.mp z)
      · cases hf
    · cases hf
  · cases hf
theorem ev_comp {tg iter elt : Expr} {ifs : List Expr} {scope : Scope} {own : List (Str × Nat)} {src : Im} {g : Gm} {is : List Nat} {fc : Tm} {fe : Em} (hc : X.calm = true) (hN : X.N.Nodup) (hi : Iv cl X tg iter src) (ok : BlkOk X.N X.env.scope scope own)
    (hg : ∀ (s : Shared) (H : Hp) (C : Addr) (ce : List (Str × Addr)) (fp : List Addr), Gv (X.blk s H scope (compEnvC scope ce C X.env) fp) tg g is)
    (ht : ∀ (s : Shared) (H : Hp) (C : Addr) (ce : List (Str × Addr)) (fp : List Addr), Tsv cl (X.blk s H scope (compEnvC scope ce C X.env) fp) ifs fc)
    (he : ∀ (s : Shared) (H : Hp) (C : Addr) (ce : List (Str × Addr)) (fp : List Addr), Ev cl (X.blk s H scope (compEnvC scope ce C X.env) fp) elt fe)
    (his : ∀ i ∈ is, i ∈ own.map (·.2)) (hs : ∀ x, foldedSetIterable iter X.env x = pure x := by intro _; rfl) :
    Ev cl X (.ListComp elt [⟨tg, iter, ifs, 0⟩] scope pos) (eComp (own.map (·.2)) src g fc fe) := by
  exact pe_imp (pe_lc (g := tG X.K g is) (tt := tT X.K cl fc) (te := tE X.K cl fe) hc hN hi ok hg ht he hs) fun σ H Q h => comp_go his σ H Q h
end
end Cy
end
section
set_option Elab.async false
set_option maxRecDepth 100000
set_option maxHeartbeats 2000000
/-! zip of a list and a tuple, over the kit's draws -/
namespace Cy
open PySem PySem.Spec PyProof.Rows L2
def ItzM (K : PySem.W.Frag) (a b : Addr) : It :=
  ⟨fun i H => ∃ (xs ys : List V) (x y : V), SqL K H a xs ∧ SqT K H b ys ∧ xs[i]? = some x ∧ ys[i]? = some y,
    fun i H v H' => ∃ T x y, v = .ref T ∧ H T = none ∧ H' = upd H T (.tup [x, y]) ∧ (∀ xs, SqL K H a xs → xs[i]? = some x) ∧ ∀ ys, SqT K H b ys → ys[i]? = some y,
    fun i H => ∃ xs ys : List V, SqL K H a xs ∧ SqT K H b ys ∧ i ≤ xs.length ∧ i ≤ ys.length ∧ (xs.length ≤ i ∨ ys.length ≤ i)⟩
theorem turn_zipM {P : Program} {w : World} {K : PySem.W.Frag} {elts : List Expr} {kk : Nat} {tpos : Pos} {a b z TI TO i1 i2 : Addr} (D : ZipSep2 z TI TO i1 i2 [i1, a] [i2, b]) (na : a ≠ i1) (nb : b ≠ i2) :
    Turn P w K (.Tuple elts kk tpos) (ItzM K a b) [z, TI, TO, i1, i2] z (fun i h => IsZip h z TI TO .none ∧ IsTupOf2 h TI (.ref i1) (.ref i2) ∧ (∃ x y, IsTupOf2 h TO x y) ∧ h.IsListIter i1 a i ∧ h.IsTupleIter i2 b i) where
  mem := by simp
  obj := fun i h st c hc => by
    obtain ⟨hz, hTI, ⟨x, y, hTO⟩, ⟨o1, e1, _, d1⟩, ⟨o2, e2, _, d2⟩⟩ := st
    have e' : c = z ∨ c = TI ∨ c = TO ∨ c = i1 ∨ c = i2 := by simpa using hc
    rcases e' with q | q | q | q | q
    · rw [q]; exact ⟨_, hz, fun v q => nomatch q⟩
    · rw [q]; exact ⟨_, hTI, fun v q => nomatch q⟩
    · rw [q]; exact ⟨_, hTO, fun v q => nomatch q⟩
    · rw [q]; exact ⟨o1, e1, fun v q => by rw [d1] at q; cases q⟩
    · rw [q]; exact ⟨o2, e2, fun v q => by rw [d2] at q; cases q⟩
  keep := fun i h h' st k => by
    obtain ⟨hz, hTI, ⟨x, y, hTO⟩, h1, h2⟩ := st
    exact ⟨k z (by simp) _ hz, k TI (by simp) _ hTI, ⟨x, y, k TO (by simp) _ hTO⟩, h1.at fun o q => k i1 (by simp) o q, h2.at fun o q => k i2 (by simp) o q⟩
  item := by
    intro X hP hw hK hc i pins s σ H E I hf st hg
    subst hP hw hK
    obtain ⟨hz, hTI, ⟨x0, y0, hTO⟩, h1, h2⟩ := st
    obtain ⟨xs, ys, x, y, hqx, hqy, hx, hy⟩ := hg
    obtain ⟨its, rv, p, _⟩ := I.list hqx
    obtain ⟨its2, rv2, p2, _⟩ := I.tuple hqy
    obtain ⟨u, hu, ru⟩ := rv.get hx
    obtain ⟨u2, hu2, ru2⟩ := rv2.get hy
    have hzl : z < s.heap.objs.size := Heap.lt_size hz
    have b1 : i < its.toArray.size := by have := (List.getElem?_eq_some_iff.mp hu).1; simpa using this
    have b2 : i < its2.toArray.size := by have := (List.getElem?_eq_some_iff.mp hu2).1; simpa using this
    refine wpAny_pyNext_zipD2_item D (Draws.list (A := X.A.in1) (I.ok.hd hc) i1 a na its.toArray) (Draws.tuple (A := X.A.in1) (I.ok.hd hc) i2 b nb its2.toArray) hz hTI hTO ⟨h1, p.isList⟩ ⟨h2, show s.heap.IsTuple b its2.toArray from p2⟩ b1 b2 fun v1 v2 h' tk y1 y2 z' TO' st1 st2 hT hsz hk => ?_
    have ev1 : v1 = u := by
      have : its.toArray[i]? = some u := by simpa using hu
      rw [this] at y1
      exact (Option.some.inj y1).symm
    have ev2 : v2 = u2 := by
      have : its2.toArray[i]? = some u2 := by simpa using hu2
      rw [this] at y2
      exact (Option.some.inj y2).symm
    subst ev1 ev2
    refine ⟨_, rfl, wpAny_letOwnedTupleGo_zip (s := { s with heap := h', toks := tk }) z' fun h'' z'' sb => ?_⟩
    have hT2 : h''.get? s.heap.objs.size = some { cls := .type "tuple", data := .seq #[v1, v2] } := (sb.2 _ (Nat.ne_of_gt hzl)).trans hT
    have new : ObjOk X.prog X.w (upd H s.heap.objs.size (.tup [x, y])) h'' s.heap.objs.size (.tup [x, y]) :=
      ⟨by show 2 ≤ sizeLine; decide, [v1, v2], .cons ru (.cons ru2 .nil), ⟨_, hT2, rfl, _, rfl⟩⟩
    have I1 : Inv X pins σ (upd H s.heap.objs.size (.tup [x, y])) { s with heap := h'', toks := tk } :=
      I.turnedNew (ch := [z, TI, TO, i1, i2]) (fun c o hb q => (sb.2 c (fun q' => hb (by simp [q']))).trans (hk c o (fun q' => hb (by simp [q'])) (fun q' => hb (by simp [q'])) (fun q' => hb (by simp [q'])) (fun q' => hb (by simp [q'])) q)) hf (Nat.le_refl _) new
    refine ⟨.ref s.heap.objs.size, _, I1, rfl, ⟨_, x, y, rfl, I.hok.fresh (Nat.le_refl _), rfl, fun l hl => by rw [I.list_inj hl hqx]; exact hx, fun l hl => by rw [I.tuple_inj hl hqy]; exact hy⟩, ⟨z'', ?_, ⟨v1, v2, ?_⟩, ?_, ?_⟩, fun c hcm => ?_⟩
    · exact (sb.2 _ D.TIz).trans (hk _ _ D.TIz D.TITO D.TIi1 D.TIi2 hTI)
    · exact (sb.2 _ D.TOz).trans TO'
    · exact st1.1.at fun o q => (sb.2 _ (Ne.symm D.zi1)).trans q
    · exact st2.1.at fun o q => (sb.2 _ (Ne.symm D.zi2)).trans q
    · have hlt : c < s.heap.objs.size := by
        have e' : c = z ∨ c = TI ∨ c = TO ∨ c = i1 ∨ c = i2 := by simpa using hcm
        rcases e' with q | q | q | q | q
        · rw [q]; exact hzl
        · rw [q]; exact Heap.lt_size hTI
        · rw [q]; exact Heap.lt_size hTO
        · rw [q]; obtain ⟨_, e1, _⟩ := h1; exact Heap.lt_size e1
        · rw [q]; obtain ⟨_, e2, _⟩ := h2; exact Heap.lt_size e2
      rw [upd_ne (Nat.ne_of_lt hlt)]
      exact (hf c hcm).1
  done := by
    intro X hP hw hK hc i pins s σ H E I hf st hg
    subst hP hw hK
    obtain ⟨hz, hTI, ⟨x0, y0, hTO⟩, h1, h2⟩ := st
    obtain ⟨xs, ys, hqx, hqy, le1, le2, hend⟩ := hg
    obtain ⟨its, rv, p, _⟩ := I.list hqx
    obtain ⟨its2, rv2, p2, _⟩ := I.tuple hqy
    have l1 := rv.length
    have l2 := rv2.length
    refine wpAny_pyNext_zipD2_end D (Draws.list (A := X.A.in1) (I.ok.hd hc) i1 a na its.toArray) (Draws.tuple (A := X.A.in1) (I.ok.hd hc) i2 b nb its2.toArray) hz hTI hTO ⟨h1, p.isList⟩ ⟨h2, show s.heap.IsTuple b its2.toArray from p2⟩ (by simp; omega) (by simp; omega) (by simp; omega) fun h' tk hk => ⟨rfl, I.turnedL (t' := tk) (ch := [z, TI, TO, i1, i2]) (fun c o hb q =>
      hk c o (fun q' => hb (by simp [q'])) (fun q' => hb (by simp [q'])) (fun q' => hb (by simp [q'])) (fun q' => hb (by simp [q'])) q) hf⟩
  self := fun A i s Q E st h => wpAny_pyIter_zip st.1 h
def iZipM (K : PySem.W.Frag) (ta : TA) : TI := fun σ H R => ta σ H fun vs H1 => ∃ a b xs ys, vs = [.ref a, .ref b] ∧ SqL K H1 a xs ∧ SqT K H1 b ys ∧ R (ItzM K a b) H1
theorem pi_zipM {X : Cx} {e e2 : Expr} {ta : TA} {p pos tpos : Pos} {elts : List Expr} {kk : Nat} (hg : Gl X "zip") (hm : X.mg "zip" = none) (ha : PA X [e, e2] ta)
    (hs : starEach [e, e2] X.env = (false, eval e X.env) :: starEach [e2] X.env := by rfl) (hpl : (backTo pos (starEach [e2] X.env)).any (·.1) = false := by rfl) :
    PI X (.Tuple elts kk tpos) (.Call (.Name "zip" p) [e, e2] [] pos) (iZipM X.K ta) := by
  refine ⟨fun pins s σ H R I h => ?_⟩
  refine Call_ (ld_blt I hg hm PyProof.Rows.boot_zip (PyProof.Rows.callWith_type1 (thn (ha.run pos pins s σ H _ I h) fun us s1 ⟨vs, H1, I1, r1, q1⟩ => ?_) hs hpl))
  obtain ⟨a, b, xs, ys, ex, hqx, hqy, q⟩ := q1
  subst ex
  cases r1 with
  | cons r rr =>
    cases rr with
    | cons r' rr =>
      cases rr
      cases r
      cases r'
      have fresh5 : ∀ c, c ∈ [s1.heap.objs.size + 4, s1.heap.objs.size + 2, s1.heap.objs.size + 3, s1.heap.objs.size, s1.heap.objs.size + 1] → FpOk X pins H1 c := fun c hcm => by
        have e' : c = s1.heap.objs.size + 4 ∨ c = s1.heap.objs.size + 2 ∨ c = s1.heap.objs.size + 3 ∨ c = s1.heap.objs.size ∨ c = s1.heap.objs.size + 1 := by simpa using hcm
        have hle : s1.heap.objs.size ≤ c := by
          rcases e' with z | z | z | z | z
          · rw [z]; exact Nat.le_add_right _ _
          · rw [z]; exact Nat.le_add_right _ _
          · rw [z]; exact Nat.le_add_right _ _
          · rw [z]; exact Nat.le_refl _
          · rw [z]; exact Nat.le_add_right _ _
        exact I1.fpOk hle (I1.hok.fresh hle)
      obtain ⟨its, rv, p1, _⟩ := I1.list hqx
      obtain ⟨its2, rv2, p2, _⟩ := I1.tuple hqy
      obtain ⟨o2, ho2, _⟩ := id p2
      have la : a < s1.heap.objs.size := p1.lt
      have lb : b < s1.heap.objs.size := Heap.lt_size ho2
      refine zip_begins2 (begins_list a its.toArray) (begins_tuple b its2.toArray) p1.isList (show s1.heap.IsTuple b its2.toArray from p2) fun h' hz hTI hTO h1 h2 hsz hk => wpAny_pyIter_zip hz ?_
      have I2 : Inv X pins σ H1 { s1 with heap := h' } := I1.kept (t' := s1.toks) hk
      exact ⟨s1.heap.objs.size + 4, [s1.heap.objs.size + 4, s1.heap.objs.size + 2, s1.heap.objs.size + 3, s1.heap.objs.size, s1.heap.objs.size + 1], _, _, H1, rfl, I2, turn_zipM (zip_sep2 (by simpa using la) (by simpa using lb)) (Nat.ne_of_lt la) (Nat.ne_of_lt (Nat.lt_succ_of_lt lb)), ⟨hz, hTI, ⟨_, _, hTO⟩, ⟨_, h1, rfl, rfl⟩, ⟨_, h2, rfl, rfl⟩⟩, fresh5, q⟩
end Cy
end
section
set_option Elab.async false
set_option maxRecDepth 100000
namespace Cy
open PySem L2

/-! ### iterables -/
def kyD : Key → D
  | .inl i => .int i
  | .inr x => .str x
def itemsR (S : SS) : R → Option (List R × Option (Nat × List D))
  | .dat (.list ds) => some (ds.map .dat, none)
  | .dat (.tuple ds) => some (ds.map .dat, none)
  | .dat (.str z) => if z.cps.size ≤ sizeLine then some (z.cps.toList.map fun c => .dat (.str ⟨#[c]⟩), none) else none
  | .obj k => (match S[k]? with
    | some (.lst ds) => some (ds.map .dat, some (k, ds))
    | _ => none)
  | .scr ns => if ns.length ≤ sizeLine then some (ns.map fun n => .dat (.int n), none) else none
  | .dif kvs => if kvs.length ≤ sizeLine then some (kvs.map fun p => .dat (kyD p.1), none) else none
  | _ => none
def iSeq (f : Em) : Im := fun δ S => match f δ S with
  | some (x, S1) => (match itemsR S1 x with
    | some (items, gd) => some (items, gd, S1)
    | none => none)
  | none => none
section
variable {X : Cx} {cl : Cls0} {pos : Pos} {A : List Addr} {H : Hp} {K : PySem.W.Frag} {tg e : Expr} {f : Em} {S : SS}
theorem pi_or {w1 w2 : TI} (h1 : PI X tg e w1) (h2 : PI X tg e w2) : PI X tg e (fun σ H R => w1 σ H R ∨ w2 σ H R) := ⟨fun pins s σ H R I q => q.elim (h1.run pins s σ H R I) (h2.run pins s σ H R I)⟩
theorem walk_list (w : Wr K cl A H S) {a : Addr} {vs : List V} {ds : List D} (h : LsAt A H a vs) (hd : DrL K A H vs ds) : Walk K cl A H (Itl K a) (ds.map .dat) none where
  few := by rw [List.length_map, ← hd.length]; exact h.2.2
  go := fun A' H' S' e w' _ i r hr => by
    rw [List.getElem?_map] at hr
    cases q : ds[i]? with
    | none => rw [q] at hr; cases hr
    | some d =>
      rw [q] at hr
      cases hr
      obtain ⟨v, q1, q2⟩ := hd.get q
      have hq := (h.mono e).sq (K := K)
      refine ⟨⟨vs, v, hq, q1⟩, fun x H'' y => ?_⟩
      obtain ⟨rfl, y⟩ := y
      have := y vs hq
      rw [q1] at this
      cases this
      exact ⟨Same.refl _, Dr.mono e _ _ q2⟩
  stop := fun A' H' S' e w' _ i hi => ⟨vs, (h.mono e).sq (K := K), by rw [List.length_map] at hi; rw [hd.length]; exact Nat.le_of_eq hi⟩
theorem walk_tup (w : Wr K cl A H S) {a : Addr} {vs : List V} {ds : List D} (h : TpAt K A H a vs) (hd : DrL K A H vs ds) : Walk K cl A H (Itt K a) (ds.map .dat) none where
  few := by rw [List.length_map, ← hd.length]; exact h.le
  go := fun A' H' S' e w' _ i r hr => by
    rw [List.getElem?_map] at hr
    cases q : ds[i]? with
    | none => rw [q] at hr; cases hr
    | some d =>
      rw [q] at hr
      cases hr
      obtain ⟨v, q1, q2⟩ := hd.get q
      have hq := (h.mono e).sq (K := K)
      refine ⟨⟨vs, v, hq, q1⟩, fun x H'' y => ?_⟩
      obtain ⟨rfl, y⟩ := y
      have := y vs hq
      rw [q1] at this
      cases this
      exact ⟨Same.refl _, Dr.mono e _ _ q2⟩
  stop := fun A' H' S' e w' _ i hi => ⟨vs, (h.mono e).sq (K := K), by rw [List.length_map] at hi; rw [hd.length]; exact Nat.le_of_eq hi⟩
theorem walk_scr {a : Addr} {ns : List Int} (h : ScAt K A H a (ns.map V.int)) (z : ns.length ≤ sizeLine) : Walk K cl A H (Itl K a) (ns.map fun n => .dat (.int n)) none where
  few := by rw [List.length_map]; exact z
  go := fun A' H' S' e w' _ i r hr => by
    rw [List.getElem?_map] at hr
    cases q : ns[i]? with
    | none => rw [q] at hr; cases hr
    | some d =>
      rw [q] at hr
      cases hr
      have hq := (h.mono e).sq (K := K)
      have q1 : (ns.map V.int)[i]? = some (.int d) := by rw [List.getElem?_map, q] <;> rfl
      refine ⟨⟨_, _, hq, q1⟩, fun x H'' y => ?_⟩
      obtain ⟨rfl, y⟩ := y
      have := y _ hq
      rw [q1] at this
      cases this
      exact ⟨Same.refl _, .int _⟩
  stop := fun A' H' S' e w' _ i hi => ⟨_, (h.mono e).sq (K := K), by rw [List.length_map] at hi ⊢; exact Nat.le_of_eq hi⟩
theorem walk_obj (w : Wr K cl A H S) {a : Addr} {k : Nat} {ds : List D} (ha : A[k]? = some a) (hS : S[k]? = some (.lst ds)) : Walk K cl A H (Itl K a) (ds.map .dat) (some (k, ds)) where
  few := by
    obtain ⟨vs, q1, q2, q3⟩ := w.ob k a _ ha hS
    rw [List.length_map, ← q2.length]; exact q3
  go := fun A' H' S' e w' st i r hr => by
    rw [List.getElem?_map] at hr
    cases q : ds[i]? with
    | none => rw [q] at hr; cases hr
    | some d =>
      rw [q] at hr
      cases hr
      obtain ⟨vs, u1, u2, u3⟩ := w'.ob k a _ (e.at_ ha) st
      obtain ⟨v, q1, q2⟩ := u2.get q
      have hq : SqL K H' a vs := SqL.of u1
      refine ⟨⟨vs, v, hq, q1⟩, fun x H'' y => ?_⟩
      obtain ⟨rfl, y⟩ := y
      have := y vs hq
      rw [q1] at this
      cases this
      exact ⟨Same.refl _, q2⟩
  stop := fun A' H' S' e w' st i hi => by
    obtain ⟨vs, u1, u2, u3⟩ := w'.ob k a _ (e.at_ ha) st
    exact ⟨vs, SqL.of u1, by rw [List.length_map] at hi; rw [u2.length]; exact Nat.le_of_eq hi⟩
theorem walk_str {z : Str} (h : z.cps.size ≤ sizeLine) : Walk K cl A H (Its z) (z.cps.toList.map fun c => .dat (.str ⟨#[c]⟩)) none where
  few := by rw [List.length_map, Array.length_toList]; exact h
  go := fun A' H' S' e w' _ i r hr => by
    rw [List.getElem?_map, Array.getElem?_toList] at hr
    cases q : z.cps[i]? with
    | none => rw [q] at hr; cases hr
    | some c =>
      rw [q] at hr
      cases hr
      refine ⟨(Array.getElem?_eq_some_iff.mp q).1, fun x H'' y => ?_⟩
      obtain ⟨rfl, c', e1, rfl⟩ := y
      rw [q] at e1
      cases e1
      exact ⟨Same.refl _, .str _⟩
  stop := fun A' H' S' e w' _ i hi => by rw [List.length_map, Array.length_toList] at hi; exact Nat.le_of_eq hi
theorem drk_get {ks : List (Key × V)} {kvs : List (Key × D)} (h : DrK K A H ks kvs) : ∀ {i : Nat} {p : Key × D}, kvs[i]? = some p → ∃ v, ks[i]? = some (p.1, v) := by
  induction h with
  | nil => intro i p e; simp at e
  | @cons k v d vs ds h1 _ ih =>
    intro i p e
    cases i with
    | zero => simp at e; subst e; exact ⟨v, rfl⟩
    | succ i => exact ih (by simpa using e)
theorem walk_keys {a : Addr} {o : Obj} {ks : List (Key × V)} {kvs : List (Key × D)} (h1 : H a = some (.frz o (.dK ks))) (h2 : a ∉ A) (hd : DrK K A H ks kvs) (z : kvs.length ≤ sizeLine) : Walk K cl A H (Itk a o ks) (kvs.map fun p => .dat (kyD p.1)) none where
  few := by rw [List.length_map]; exact z
  go := fun A' H' S' e w' _ i r hr => by
    rw [List.getElem?_map] at hr
    cases q : kvs[i]? with
    | none => rw [q] at hr; cases hr
    | some p =>
      rw [q] at hr
      cases hr
      obtain ⟨v, q1⟩ := drk_get hd q
      refine ⟨⟨e.kp _ _ h1 h2, (List.getElem?_eq_some_iff.mp q1).1⟩, fun x H'' y => ?_⟩
      obtain ⟨rfl, k, v', e1, rfl⟩ := y
      rw [q1] at e1
      cases e1
      refine ⟨Same.refl _, ?_⟩
      obtain ⟨k, d⟩ := p
      cases k with
      | inl i => exact .int i
      | inr x => exact .str x
  stop := fun A' H' S' e w' _ i hi => ⟨e.kp _ _ h1 h2, by rw [List.length_map] at hi; rw [hd.length]; exact Nat.le_of_eq hi⟩
theorem iv_seq (h : Ev cl X e f) : Iv cl X tg e (iSeq f) := by
  refine pi_imp (pi_or (pi_list (tl := tE X.K cl f) h) (pi_or (pi_tup (tl := tE X.K cl f) h) (pi_or (pi_str (te := tE X.K cl f) h) (pi_keys (td := tE X.K cl f) h)))) fun σ H Q ⟨A, δ, S, items, gd, S', hs, hw, hf, q⟩ => ?_
  unfold iSeq at hf
  split at hf
  · rename_i x S1 h1
    split at hf
    · rename_i it2 gd2 h2
      cases hf
      unfold itemsR at h2
      split at h2
      · cases h2
        refine .inl (tE_then hs hw h1 fun v A1 H1 e1 w1 rv s1 => ?_)
        cases rv with
        | lst t1 t2 => exact ⟨_, rfl, ⟨_, t1.sq⟩, q _ A1 H1 e1 w1 trivial (walk_list w1 t1 t2)⟩
      · cases h2
        refine .inr (.inl (tE_then hs hw h1 fun v A1 H1 e1 w1 rv s1 => ?_))
        cases rv with
        | tup t1 t2 => exact ⟨_, rfl, ⟨_, t1.sq⟩, q _ A1 H1 e1 w1 trivial (walk_tup w1 t1 t2)⟩
      · split at h2
        · rename_i hz
          cases h2
          refine .inr (.inr (.inl (tE_then hs hw h1 fun v A1 H1 e1 w1 rv s1 => ?_)))
          cases rv
          exact ⟨_, rfl, q _ A1 H1 e1 w1 trivial (walk_str hz)⟩
        · cases h2
      · split at h2
        · rename_i ds hS
          cases h2
          refine .inl (tE_then hs hw h1 fun v A1 H1 e1 w1 rv s1 => ?_)
          obtain ⟨a, rfl, ha⟩ := rv
          obtain ⟨vs, u1, u2, u3⟩ := w1.ob _ a _ ha hS
          exact ⟨_, rfl, ⟨_, SqL.of u1⟩, q _ A1 H1 e1 w1 hS (walk_obj w1 ha hS)⟩
        · cases h2
      · split at h2
        · rename_i ns hz
          cases h2
          refine .inl (tE_then hs hw h1 fun v A1 H1 e1 w1 rv s1 => ?_)
          obtain ⟨a, rfl, ha⟩ := rv
          exact ⟨_, rfl, ⟨_, ha.sq⟩, q _ A1 H1 e1 w1 trivial (walk_scr ha hz)⟩
        · cases h2
      · split at h2
        · rename_i kvs hz
          cases h2
          refine .inr (.inr (.inr (tE_then hs hw h1 fun v A1 H1 e1 w1 rv s1 => ?_)))
          obtain ⟨a, o, ks, rfl, ⟨h3, h4⟩, h5⟩ := rv
          exact ⟨a, o, rfl, .inl ⟨ks, h3, q _ A1 H1 e1 w1 trivial (walk_keys h3 h4 h5 hz)⟩⟩
        · cases h2
      · cases h2
    · cases hf
  · cases hf
/-- range(n), range(a, b) -/
def rangeR (a : Int) (n : Nat) : List R := (List.range n).map fun (i : Nat) => .dat (.int (a + (i : Int)))
def iRange1 (f : Em) : Im := fun δ S => match f δ S with
  | some (.dat (.int j), S1) => if j ≤ 1000000 ∧ -1000000 ≤ j then some (rangeR 0 j.toNat, none, S1) else none
  | _ => none
def iRange2 (f g : Em) : Im := fun δ S => match f δ S with
  | some (.dat (.int i), S1) => (match g δ S1 with
    | some (.dat (.int j), S2) => if j ≤ 1000000 ∧ -1000000 ≤ j ∧ i ≤ 1000000 ∧ -1000000 ≤ i then some (rangeR i (j - i).toNat, none, S2) else none
    | _ => none)
  | _ => none
theorem walk_range {a : Int} {n : Nat} (h : n ≤ sizeLine) : Walk K cl A H (Itr a n) (rangeR a n) none where
  few := by unfold rangeR; rw [List.length_map, List.length_range]; exact h
  go := fun A' H' S' e w' _ i r hr => by
    unfold rangeR at hr
    rw [List.getElem?_map] at hr
    by_cases hi : i < n
    · rw [List.getElem?_range hi] at hr
      cases hr
      refine ⟨hi, fun x H'' y => ?_⟩
      obtain ⟨rfl, rfl⟩ := y
      exact ⟨Same.refl _, .int _⟩
    · rw [List.getElem?_eq_none (by rw [List.length_range]; omega)] at hr
      cases hr
  stop := fun A' H' S' e w' _ i hi => by unfold rangeR at hi; rw [List.length_map, List.length_range] at hi; exact Nat.le_of_eq hi
theorem iv_range1 {a : Expr} {p : Pos} (hg : Gl X "range") (hm : X.mg "range" = none) (h : Ev cl X a f) (hs : starEach [a] X.env = [(false, eval a X.env)] := by rfl) (hs2 : starEach [a] X.env = (false, eval a X.env) :: starEach [] X.env := by rfl) :
    Iv cl X tg (.Call (.Name "range" p) [a] [] pos) (iRange1 f) := by
  refine pi_imp (pi_range1 hg hm (pa_cons h pa_nil hs2) hs) fun σ H Q ⟨A, δ, S, items, gd, S', hs, hw, hf, q⟩ => ?_
  unfold iRange1 at hf
  split at hf
  · rename_i j S1 h1
    split at hf
    · rename_i hz
      cases hf
      refine tE_then hs hw h1 fun v A1 H1 e1 w1 rv s1 => ?_
      cases rv
      exact ⟨j, rfl, by omega, by omega, q _ A1 H1 e1 w1 trivial (walk_range (by rw [sizeLine_eq]; omega))⟩
    · cases hf
  · cases hf
theorem iv_range2 {a b : Expr} {g : Em} {p : Pos} (hg : Gl X "range") (hm : X.mg "range" = none) (h : Ev cl X a f) (h' : Ev cl X b g) (hs : starEach [a, b] X.env = [(false, eval a X.env), (false, eval b X.env)] := by rfl) (hs2 : starEach [b] X.env = [(false, eval b X.env)] := by rfl)
    (ht : starEach [a, b] X.env = (false, eval a X.env) :: starEach [b] X.env := by rfl) (ht2 : starEach [b] X.env = (false, eval b X.env) :: starEach [] X.env := by rfl) :
    Iv cl X tg (.Call (.Name "range" p) [a, b] [] pos) (iRange2 f g) := by
  refine pi_imp (pi_range2 hg hm (pa_cons h (pa_cons h' pa_nil ht2) ht) hs hs2) fun σ H Q ⟨A, δ, S, items, gd, S', hs, hw, hf, q⟩ => ?_
  unfold iRange2 at hf
  split at hf
  · rename_i i S1 h1
    split at hf
    · rename_i j S2 h2
      split at hf
      · rename_i hz
        cases hf
        refine tE_then hs hw h1 fun v A1 H1 e1 w1 rv s1 => ?_
        refine tE_then s1 w1 h2 fun v2 A2 H2 e2 w2 rv2 s2 => ?_
        cases rv
        cases rv2
        exact ⟨i, j, rfl, ⟨by omega, by omega, by omega, by omega⟩, q _ A2 H2 (e1.trans e2) w2 trivial (walk_range (by rw [sizeLine_eq]; omega))⟩
      · cases hf
    · cases hf
  · cases hf
/-- a new pair, given out by an iterator -/
theorem pair_new (w : Wr K cl A H S) {p : Addr} (hp : H p = none) {v u : V} {d d' : D} (h1 : Dr K A H v d) (h2 : Dr K A H u d') : Rr K A (upd H p (.tup [v, u])) (.ref p) (.itm [d, d']) :=
  ⟨p, _, rfl, ⟨upd_same, w.fresh hp⟩, DrL.mono (.same (same_upd hp _)) _ _ (.cons h1 (.cons h2 .nil))⟩
/-- enumerate(a list) -/
def enumR (ds : List D) : List R := ds.zipIdx.map fun p => .itm [.int (p.2 : Nat), p.1]
theorem enumR_get {ds : List D} {i : Nat} {r : R} (h : (enumR ds)[i]? = some r) : ∃ d, ds[i]? = some d ∧ r = .itm [.int (i : Nat), d] := by
  unfold enumR at h
  rw [List.getElem?_map, List.getElem?_zipIdx] at h
  cases q : ds[i]? with
  | none => rw [q] at h; cases h
  | some d => rw [q] at h; cases h; exact ⟨d, rfl, by simp⟩
theorem enumR_length (ds : List D) : (enumR ds).length = ds.length := by unfold enumR; rw [List.length_map, List.length_zipIdx]
def iEnum' (f : Em) : Im := fun δ S => match f δ S with
  | some (.dat (.list ds), S1) => some (enumR ds, none, S1)
  | some (.dat (.tuple ds), S1) => some (enumR ds, none, S1)
  | some (.obj k, S1) => (match S1[k]? with
    | some (.lst ds) => some (enumR ds, some (k, ds), S1)
    | _ => none)
  | _ => none
end
end Cy

namespace Cy
open PySem PySem.Spec PyProof.Rows L2
/-- the tuple at a as it stands at each turn, with the places -/
def IteT (K : PySem.W.Frag) (a : Addr) : It :=
  ⟨fun i H => ∃ (xs : List V) (x : V), SqT K H a xs ∧ xs[i]? = some x, fun i H v H' => ∃ T x, v = .ref T ∧ H T = none ∧ H' = upd H T (.tup [.int (i : Nat), x]) ∧ ∀ xs, SqT K H a xs → xs[i]? = some x, fun i H => ∃ xs : List V, SqT K H a xs ∧ xs.length = i⟩
theorem turn_enumT {P : Program} {w : World} {K : PySem.W.Frag} {elts : List Expr} {kk : Nat} {tpos : Pos} (a e it : Addr) :
    Turn P w K (.Tuple elts kk tpos) (IteT K a) [e, it] e (fun i h => (∃ old, IsEnum h e it ((i : Nat) : Int) old) ∧ h.IsTupleIter it a i ∧ e ≠ it) where
  mem := by simp
  obj := fun i h st b hb => by
    obtain ⟨⟨old, he⟩, ⟨o, ho, hc, hd⟩, _⟩ := st
    have e' : b = e ∨ b = it := by simpa using hb
    rcases e' with z | z
    · rw [z]; exact ⟨_, he, fun v q => nomatch q⟩
    · rw [z]; exact ⟨o, ho, fun v q => by rw [hd] at q; cases q⟩
  keep := fun i h h' st k => let ⟨⟨old, he⟩, hi, hne⟩ := st; ⟨⟨old, k e (by simp) _ he⟩, hi.at fun o q => k it (by simp) o q, hne⟩
  item := by
    intro X hP hw hK hc i pins s σ H E I hf st hg
    subst hP hw hK
    obtain ⟨⟨old, he⟩, hit, hne⟩ := st
    obtain ⟨xs, x, hq, hx⟩ := hg
    obtain ⟨its, rv, p, hz⟩ := I.tuple hq
    obtain ⟨u, hu, ru⟩ := rv.get hx
    have hlen : i < its.toArray.size := by
      have := (List.getElem?_eq_some_iff.mp hu).1
      simpa using this
    have hel : e < s.heap.objs.size := Heap.lt_size he
    have hil : it < s.heap.objs.size := by obtain ⟨_, q, _⟩ := hit; exact Heap.lt_size q
    have hai : a ≠ it := fun z => by
      obtain ⟨o1, q1, q2, _⟩ := id hit
      obtain ⟨o2, q3, q4, _⟩ := id p
      rw [z, q1] at q3
      cases q3
      rw [q2] at q4
      exact absurd (Value.type.inj q4) (by decide)
    have hae : e ∉ [it, a] := fun z => by
      rcases List.mem_cons.mp z with z | z
      · exact hne z
      · obtain ⟨o2, q3, q4, _⟩ := id p
        rw [← List.mem_singleton.mp z, he] at q3
        cases q3
        exact absurd (Value.type.inj q4) (by decide)
    have hpt : s.heap.IsTuple a its.toArray := p
    refine wpAny_pyNext_enum_itemD (Draws.tuple (A := X.A.in1) (I.ok.hd hc) it a hai its.toArray) he ⟨hit, hpt⟩ hlen hne hae fun y h' tk hy ho st' hT hsz hk => ?_
    have hyu : y = u := by
      have : its.toArray[i]? = some u := by simpa using hu
      rw [this] at hy
      exact (Option.some.inj hy).symm
    subst hyu
    refine ⟨_, rfl, wpAny_letOwnedTupleGo_enum (s := { s with heap := h', toks := tk + 1 }) ho fun h'' he' sb => ?_⟩
    have hT2 : h''.get? s.heap.objs.size = some { cls := .type "tuple", data := .seq #[.int i tk, y] } := (sb.2 _ (Nat.ne_of_gt hel)).trans hT
    have new : ObjOk X.prog X.w (upd H s.heap.objs.size (.tup [.int (i : Nat), x])) h'' s.heap.objs.size (.tup [.int (i : Nat), x]) :=
      ⟨by show 2 ≤ sizeLine; decide, [.int i tk, y], .cons ⟨_, rfl⟩ (.cons ru .nil), ⟨_, hT2, rfl, _, rfl⟩⟩
    have I1 : Inv X pins σ (upd H s.heap.objs.size (.tup [.int (i : Nat), x])) { s with heap := h'', toks := tk + 1 } :=
      I.turnedNew (ch := [e, it]) (fun b ob hb q => (sb.2 b (fun z => hb (by simp [z]))).trans (hk b ob (fun z => hb (by simp [z])) (fun z => hb (by simp [z])) q)) hf (Nat.le_refl _) new
    refine ⟨.ref s.heap.objs.size, _, I1, rfl, ⟨_, x, rfl, I.hok.fresh (Nat.le_refl _), rfl, fun ys hy => by rw [I.tuple_inj hy hq]; exact hx⟩, ⟨⟨y, ?_⟩, st'.1.at fun o q => (sb.2 it (Ne.symm hne)).trans q, hne⟩, fun b hb => ?_⟩
    · have e1 : ((i + 1 : Nat) : Int) = (i : Int) + 1 := by omega
      rw [e1]; exact he'
    · have hb' : b < s.heap.objs.size := by
        have e' : b = e ∨ b = it := by simpa using hb
        rcases e' with z | z
        · rw [z]; exact hel
        · rw [z]; exact hil
      rw [upd_ne (Nat.ne_of_lt hb')]
      exact (hf b hb).1
  done := by
    intro X hP hw hK hc i pins s σ H E I hf st hg
    subst hP hw hK
    obtain ⟨⟨old, he⟩, hit, hne⟩ := st
    obtain ⟨xs, hq, hx⟩ := hg
    obtain ⟨its, rv, p, hz⟩ := I.tuple hq
    obtain ⟨f0, f1, f2, f3, f4, f5⟩ := hf it (by simp)
    have hai : a ≠ it := fun z => by
      obtain ⟨o1, q1, q2, _⟩ := id hit
      obtain ⟨o2, q3, q4, _⟩ := id p
      rw [z, q1] at q3
      cases q3
      rw [q2] at q4
      exact absurd (Value.type.inj q4) (by decide)
    have hpt : s.heap.IsTuple a its.toArray := p
    have hsz : i = its.toArray.size := by rw [List.size_toArray, ← rv.length]; exact hx.symm
    rw [hsz] at hit
    exact wpAny_pyNext_enum_endD (Draws.tuple (A := X.A.in1) (I.ok.hd hc) it a hai its.toArray) he ⟨hit, hpt⟩ fun h' eb => ⟨rfl, I.turned (t' := s.toks) (fun b o hb q => eb b o hb q) f0 f1 f3 f4 f5⟩
  self := fun A i s Q E st h => let ⟨⟨_, he⟩, _⟩ := st; wpAny_pyIter_enum he h
open PySem.AutoSeq1 in
theorem meets_enumT {v : Value} {o : Obj} {H : Heap → Prop} (B : Begins v o H) :
    Meets (Builtin.«enumerate.__new__» ⟨[.type "enumerate", v], []⟩) (fun _ R s => H s.heap ∧
      R (.ok (.ret (.ref (s.heap.push o).objs.size))) { s with heap := (s.heap.push o).push { cls := .type "enumerate", data := .fields #[.none, .bool false, .ref s.heap.objs.size, rawInt 0, .none, .none] } }) :=
  .of_wp fun prog w A R s h => by
    obtain ⟨hp, g, d, tk, os⟩ := s
    obtain ⟨h1, h⟩ := h
    have hsub := sub_enumerate
    have q1 : ∀ {A' : Around} {E : Value → Shared → Prop} {Q : Value → Shared → Prop}, Q (.ref hp.objs.size) ⟨hp.push o, g, d, tk, os⟩ → wpAny (model prog w) A' (pyIter v) Q E ⟨hp, g, d, tk, os⟩ :=
      fun q => B.iter prog w _ _ ⟨hp, g, d, tk, os⟩ _ h1 q
    wp_walk using q1
    refine wpAny_stack_any fun st => wpAny_pure ?_
    split
    · rename_i c _ _ _ _ _
      cases (c == Value.type "enumerate")
      · wp_walk using q1
        exact ⟨_, rfl, h⟩
      · wp_walk using q1
        exact ⟨_, rfl, h⟩
    · wp_walk using q1
      exact ⟨_, rfl, h⟩
theorem call_enumT {prog : Program} {w : World} {A : Around} {E : Value → Shared → Prop} {s : Shared} {v : Value} {o : Obj} {H : Heap → Prop} {Q : Value → Shared → Prop} (B : Begins v o H) (h1 : H s.heap)
    (h : ∀ h', IsEnum h' (s.heap.objs.size + 1) s.heap.objs.size 0 .none → h'.get? s.heap.objs.size = some o → h'.objs.size = s.heap.objs.size + 2 →
      (∀ b o, s.heap.get? b = some o → h'.get? b = some o) → Q (.ref (s.heap.objs.size + 1)) { s with heap := h' }) :
    wpAny (model prog w) A (call (.type "enumerate") [v]) Q E s := by
  refine callType_new F.called_enumerate (by decide) (F.typeCall_enumerate_1 _) (F.newCall_enumerate_1 _) (fun obj => F.args_object_init_2 obj _) F.entry_enumerate_new
    (meets_enumT B) ⟨h1, ?_⟩
  have hz : (s.heap.push o).objs.size = s.heap.objs.size + 1 := Heap.size_push ..
  show _ ∧ _
  rw [hz]
  have he : IsEnum ((s.heap.push o).push { cls := .type "enumerate", data := .fields #[.none, .bool false, .ref s.heap.objs.size, rawInt 0, .none, .none] }) (s.heap.objs.size + 1) s.heap.objs.size 0 .none := by
    have := Heap.get?_push_size (s.heap.push o) (o := { cls := .type "enumerate", data := .fields #[.none, .bool false, .ref s.heap.objs.size, rawInt 0, .none, .none] }) rfl
    rw [hz] at this
    exact this
  exact ⟨⟨_, he, rfl⟩, h _ he (Heap.get?_push_of_some _ (Heap.get?_push_size _ B.free)) (by rw [Heap.size_push, hz]) fun b o x => Heap.get?_push_of_some _ (Heap.get?_push_of_some _ x)⟩
def iEnT (K : PySem.W.Frag) (ta : TA) : TI := fun σ H R => ta σ H fun vs H1 => ∃ a xs, vs = [.ref a] ∧ SqT K H1 a xs ∧ R (IteT K a) H1
theorem pi_enumT {X : Cx} {e : Expr} {ta : TA} {p pos tpos : Pos} {elts : List Expr} {kk : Nat} (hg : Gl X "enumerate") (hm : X.mg "enumerate" = none) (ha : PA X [e] ta) (hs : starEach [e] X.env = [(false, eval e X.env)]) :
    PI X (.Tuple elts kk tpos) (.Call (.Name "enumerate" p) [e] [] pos) (iEnT X.K ta) := by
  refine ⟨fun pins s σ H R I h => ?_⟩
  refine Call_ (ld_blt I hg hm boot_enumerate (PyProof.Rows.callWith_type1 (thn (ha.run pos pins s σ H _ I h) fun us s1 ⟨vs, H1, I1, r1, q1⟩ => ?_) hs rfl))
  obtain ⟨a, xs, ex, hq, q⟩ := q1
  subst ex
  cases r1 with
  | cons r rr =>
    cases rr
    cases r
    obtain ⟨its, rv, p', hz⟩ := I1.tuple hq
    refine call_enumT (begins_tuple a its.toArray) (show s1.heap.IsTuple a its.toArray from p') fun h' he hit hsz hk => wpAny_pyIter_enum he ?_
    have I2 : Inv X pins σ H1 { s1 with heap := h' } := I1.kept (t' := s1.toks) hk
    refine ⟨s1.heap.objs.size + 1, [s1.heap.objs.size + 1, s1.heap.objs.size], _, _, H1, rfl, I2, turn_enumT a (s1.heap.objs.size + 1) s1.heap.objs.size, ⟨⟨.none, he⟩, ⟨_, hit, rfl, rfl⟩, Nat.succ_ne_self _⟩, fun b hb => ?_, q⟩
    have e' : b = s1.heap.objs.size + 1 ∨ b = s1.heap.objs.size := by simpa using hb
    have hle : s1.heap.objs.size ≤ b := by
      rcases e' with z | z
      · rw [z]; exact Nat.le_add_right _ _
      · rw [z]; exact Nat.le_refl _
    exact I1.fpOk hle (I1.hok.fresh hle)
end Cy

namespace Cy
open PySem L2 RZ
section
variable {X : Cx} {cl : Cls0} {pos : Pos} {A : List Addr} {H : Hp} {K : PySem.W.Frag} {tg e e2 : Expr} {f g : Em} {S : SS}
theorem walk_enumL {gd : Option (Nat × List D)} {a : Addr} {ds : List D} (hz : ds.length ≤ sizeLine) (w : Wr K cl A H S) (ha : ∀ A' H' S', Ext A H A' H' → Wr K cl A' H' S' → Stays gd S' → ∃ vs, SqL K H' a vs ∧ DrL K A' H' vs ds) : Walk K cl A H (Ite K a) (enumR ds) gd where
  few := by rw [enumR_length]; exact hz
  go := fun A' H' S' e w' st i r hr => by
    obtain ⟨d, q, rfl⟩ := enumR_get hr
    obtain ⟨vs, u1, u2⟩ := ha A' H' S' e w' st
    obtain ⟨v, q1, q2⟩ := u2.get q
    refine ⟨⟨vs, v, u1, q1⟩, fun x H'' y => ?_⟩
    obtain ⟨T, y, rfl, hT, rfl, hy⟩ := y
    have := hy vs u1
    rw [q1] at this
    cases this
    exact ⟨same_upd hT _, pair_new w' hT (.int _) q2⟩
  stop := fun A' H' S' e w' st i hi => by
    obtain ⟨vs, u1, u2⟩ := ha A' H' S' e w' st
    exact ⟨vs, u1, by rw [enumR_length] at hi; rw [u2.length]; exact Nat.le_of_eq hi⟩
theorem walk_enumT {a : Addr} {vs : List V} {ds : List D} (w : Wr K cl A H S) (h : TpAt K A H a vs) (hd : DrL K A H vs ds) : Walk K cl A H (IteT K a) (enumR ds) none where
  few := by rw [enumR_length, ← hd.length]; exact h.le
  go := fun A' H' S' e w' st i r hr => by
    obtain ⟨d, q, rfl⟩ := enumR_get hr
    obtain ⟨v, q1, q2⟩ := hd.get q
    have u1 := (h.mono e).sq
    refine ⟨⟨vs, v, u1, q1⟩, fun x H'' y => ?_⟩
    obtain ⟨T, y, rfl, hT, rfl, hy⟩ := y
    have := hy vs u1
    rw [q1] at this
    cases this
    exact ⟨same_upd hT _, pair_new w' hT (.int _) (Dr.mono e _ _ q2)⟩
  stop := fun A' H' S' e w' st i hi => ⟨vs, (h.mono e).sq, by rw [enumR_length] at hi; rw [hd.length]; exact hi⟩
theorem iv_enum {p tpos : Pos} {elts : List Expr} {kk : Nat} (hg : Gl X "enumerate") (hm : X.mg "enumerate" = none) (h : Ev cl X e f) (hs : starEach [e] X.env = [(false, eval e X.env)] := by rfl) (hs2 : starEach [e] X.env = (false, eval e X.env) :: starEach [] X.env := by rfl) :
    Iv cl X (.Tuple elts kk tpos) (.Call (.Name "enumerate" p) [e] [] pos) (iEnum' f) := by
  refine pi_imp (pi_or (pi_enum hg hm (pa_cons h pa_nil hs2) hs) (pi_enumT hg hm (pa_cons h pa_nil hs2) hs)) fun σ H Q ⟨A, δ, S, items, gd, S', hs, hw, hf, q⟩ => ?_
  unfold iEnum' at hf
  split at hf
  · rename_i ds S1 h1
    cases hf
    refine .inl (tE_then hs hw h1 fun v A1 H1 e1 w1 rv s1 => ?_)
    cases rv with
    | lst t1 t2 => exact ⟨_, _, rfl, t1.sq, q _ A1 H1 e1 w1 trivial (walk_enumL (by rw [← t2.length]; exact t1.2.2) w1 fun A' H' S' e' w' _ => ⟨_, (t1.mono e').sq, DrL.mono e' _ _ t2⟩)⟩
  · rename_i ds S1 h1
    cases hf
    refine .inr (tE_then hs hw h1 fun v A1 H1 e1 w1 rv s1 => ?_)
    cases rv with
    | tup t1 t2 => exact ⟨_, _, rfl, t1.sq, q _ A1 H1 e1 w1 trivial (walk_enumT w1 t1 t2)⟩
  · rename_i k S1 h1
    split at hf
    · rename_i ds hS
      cases hf
      refine .inl (tE_then hs hw h1 fun v A1 H1 e1 w1 rv s1 => ?_)
      obtain ⟨a, rfl, ha⟩ := rv
      obtain ⟨vs, u1, u2, u3⟩ := w1.ob _ a _ ha hS
      refine ⟨_, _, rfl, SqL.of u1, q _ A1 H1 e1 w1 hS (walk_enumL (by rw [← u2.length]; exact u3) w1 fun A' H' S' e' w' st => ?_)⟩
      obtain ⟨vs', u1', u2', _⟩ := w'.ob _ a _ (e'.at_ ha) st
      exact ⟨vs', SqL.of u1', u2'⟩
    · cases hf
  · cases hf
/-- zip of two lists, of two tuples -/
def zipR (ds es : List D) : List R := (ds.zip es).map fun p => .itm [p.1, p.2]
theorem zipR_get {ds es : List D} {i : Nat} {r : R} (h : (zipR ds es)[i]? = some r) : ∃ d d', ds[i]? = some d ∧ es[i]? = some d' ∧ r = .itm [d, d'] := by
  unfold zipR at h
  rw [List.getElem?_map] at h
  cases q : (ds.zip es)[i]? with
  | none => rw [q] at h; cases h
  | some z =>
    rw [q] at h
    cases h
    obtain ⟨h1, h2⟩ := List.getElem?_zip_eq_some.mp q
    exact ⟨z.1, z.2, h1, h2, rfl⟩
theorem zipR_length (ds es : List D) : (zipR ds es).length = min ds.length es.length := by unfold zipR; rw [List.length_map, List.length_zip]
def iZip2 (f g : Em) : Im := fun δ S => match f δ S with
  | some (x, S1) => (match g δ S1 with
    | some (y, S2) => (match x, y with
      | .dat (.list ds), .dat (.list es) => some (zipR ds es, none, S2)
      | .dat (.tuple ds), .dat (.tuple es) => some (zipR ds es, none, S2)
      | .dat (.list ds), .dat (.tuple es) => some (zipR ds es, none, S2)
      | _, _ => none)
    | none => none)
  | none => none
theorem walk_zipM {a b : Addr} {vs us : List V} {ds es : List D} (w : Wr K cl A H S) (h : LsAt A H a vs) (hd : DrL K A H vs ds) (h' : TpAt K A H b us) (hd' : DrL K A H us es) : Walk K cl A H (ItzM K a b) (zipR ds es) none where
  few := by rw [zipR_length, ← hd.length]; exact Nat.le_trans (Nat.min_le_left _ _) h.2.2
  go := fun A' H' S' e w' st i r hr => by
    obtain ⟨d, d', q, q', rfl⟩ := zipR_get hr
    obtain ⟨v, q1, q2⟩ := hd.get q
    obtain ⟨u, q1', q2'⟩ := hd'.get q'
    have u1 := (h.mono e).sq (K := K)
    have u1' := (h'.mono e).sq
    refine ⟨⟨vs, us, v, u, u1, u1', q1, q1'⟩, fun x H'' y => ?_⟩
    obtain ⟨T, y, y', rfl, hT, rfl, hy, hy'⟩ := y
    have := hy vs u1
    rw [q1] at this
    cases this
    have := hy' us u1'
    rw [q1'] at this
    cases this
    exact ⟨same_upd hT _, pair_new w' hT (Dr.mono e _ _ q2) (Dr.mono e _ _ q2')⟩
  stop := fun A' H' S' e w' st i hi => ⟨vs, us, (h.mono e).sq (K := K), (h'.mono e).sq, by rw [zipR_length, ← hd.length, ← hd'.length] at hi; omega, by rw [zipR_length, ← hd.length, ← hd'.length] at hi; omega, by rw [zipR_length, ← hd.length, ← hd'.length] at hi; omega⟩
theorem walk_zipL {a b : Addr} {vs us : List V} {ds es : List D} (w : Wr K cl A H S) (h : LsAt A H a vs) (hd : DrL K A H vs ds) (h' : LsAt A H b us) (hd' : DrL K A H us es) : Walk K cl A H (Itz K a b) (zipR ds es) none where
  few := by rw [zipR_length, ← hd.length]; exact Nat.le_trans (Nat.min_le_left _ _) h.2.2
  go := fun A' H' S' e w' st i r hr => by
    obtain ⟨d, d', q, q', rfl⟩ := zipR_get hr
    obtain ⟨v, q1, q2⟩ := hd.get q
    obtain ⟨u, q1', q2'⟩ := hd'.get q'
    have u1 := (h.mono e).sq (K := K)
    have u1' := (h'.mono e).sq (K := K)
    refine ⟨⟨vs, us, v, u, u1, u1', q1, q1'⟩, fun x H'' y => ?_⟩
    obtain ⟨T, y, y', rfl, hT, rfl, hy, hy'⟩ := y
    have := hy vs u1
    rw [q1] at this
    cases this
    have := hy' us u1'
    rw [q1'] at this
    cases this
    exact ⟨same_upd hT _, pair_new w' hT (Dr.mono e _ _ q2) (Dr.mono e _ _ q2')⟩
  stop := fun A' H' S' e w' st i hi => ⟨vs, us, (h.mono e).sq (K := K), (h'.mono e).sq (K := K), by rw [zipR_length, ← hd.length, ← hd'.length] at hi; omega⟩
theorem walk_zipT {a b : Addr} {vs us : List V} {ds es : List D} (w : Wr K cl A H S) (h : TpAt K A H a vs) (hd : DrL K A H vs ds) (h' : TpAt K A H b us) (hd' : DrL K A H us es) : Walk K cl A H (ItzT K a b) (zipR ds es) none where
  few := by rw [zipR_length, ← hd.length]; exact Nat.le_trans (Nat.min_le_left _ _) h.le
  go := fun A' H' S' e w' st i r hr => by
    obtain ⟨d, d', q, q', rfl⟩ := zipR_get hr
    obtain ⟨v, q1, q2⟩ := hd.get q
    obtain ⟨u, q1', q2'⟩ := hd'.get q'
    have u1 := (h.mono e).sq
    have u1' := (h'.mono e).sq
    refine ⟨⟨vs, us, v, u, u1, u1', q1, q1'⟩, fun x H'' y => ?_⟩
    obtain ⟨T, y, y', rfl, hT, rfl, hy, hy'⟩ := y
    have := hy vs u1
    rw [q1] at this
    cases this
    have := hy' us u1'
    rw [q1'] at this
    cases this
    exact ⟨same_upd hT _, pair_new w' hT (Dr.mono e _ _ q2) (Dr.mono e _ _ q2')⟩
  stop := fun A' H' S' e w' st i hi => ⟨vs, us, (h.mono e).sq, (h'.mono e).sq, by rw [zipR_length, ← hd.length, ← hd'.length] at hi; omega⟩
theorem iv_zip {p tpos : Pos} {elts : List Expr} {kk : Nat} (hg : Gl X "zip") (hm : X.mg "zip" = none) (h : Ev cl X e f) (h' : Ev cl X e2 g) (hs : starEach [e, e2] X.env = (false, eval e X.env) :: starEach [e2] X.env := by rfl) (hs2 : starEach [e2] X.env = (false, eval e2 X.env) :: starEach [] X.env := by rfl) (hpl : (backTo pos (starEach [e2] X.env)).any (·.1) = false := by rfl) :
    Iv cl X (.Tuple elts kk tpos) (.Call (.Name "zip" p) [e, e2] [] pos) (iZip2 f g) := by
  refine pi_imp (pi_or (pi_zipA hg hm (pa_cons h (pa_cons h' pa_nil hs2) hs) hs hpl) (pi_zipM hg hm (pa_cons h (pa_cons h' pa_nil hs2) hs) hs hpl)) fun σ H Q ⟨A, δ, S, items, gd, S', hs, hw, hf, q⟩ => ?_
  unfold iZip2 at hf
  split at hf
  · rename_i x S1 h1
    split at hf
    · rename_i y S2 h2
      split at hf
      · cases hf
        refine .inl (tE_then hs hw h1 fun v A1 H1 e1 w1 rv s1 => tE_then s1 w1 h2 fun v2 A2 H2 e2 w2 rv2 s2 => ?_)
        have rv := rv.mono e2
        cases rv with
        | lst t1 t2 =>
          cases rv2 with
          | lst t3 t4 => exact ⟨_, _, _, _, rfl, .inl ⟨t1.sq, t3.sq, q _ A2 H2 (e1.trans e2) w2 trivial (walk_zipL w2 t1 t2 t3 t4)⟩⟩
      · cases hf
        refine .inl (tE_then hs hw h1 fun v A1 H1 e1 w1 rv s1 => tE_then s1 w1 h2 fun v2 A2 H2 e2 w2 rv2 s2 => ?_)
        have rv := rv.mono e2
        cases rv with
        | tup t1 t2 =>
          cases rv2 with
          | tup t3 t4 => exact ⟨_, _, _, _, rfl, .inr ⟨t1.sq, t3.sq, q _ A2 H2 (e1.trans e2) w2 trivial (walk_zipT w2 t1 t2 t3 t4)⟩⟩
      · cases hf
        refine .inr (tE_then hs hw h1 fun v A1 H1 e1 w1 rv s1 => tE_then s1 w1 h2 fun v2 A2 H2 e2 w2 rv2 s2 => ?_)
        have rv := rv.mono e2
        cases rv with
        | lst t1 t2 =>
          cases rv2 with
          | tup t3 t4 => exact ⟨_, _, _, _, rfl, t1.sq, t3.sq, q _ A2 H2 (e1.trans e2) w2 trivial (walk_zipM w2 t1 t2 t3 t4)⟩
      · cases hf
    · cases hf
  · cases hf
end
end Cy
end
section
set_option Elab.async false
set_option maxRecDepth 100000
namespace Cy
open PySem PySem.Spec PyProof.Rows L2

/-! ### defs -/
abbrev Fn := List R → SS → Option (R × SS)
def FnD (K : PySem.W.Frag) (cl : Cls0) (φ : Fn) : Sp := fun vs H Q _ => ∃ A rs S r S', RrL K A H vs rs ∧ Wr K cl A H S ∧ φ rs S = some (r, S') ∧ Post K cl A H S' r Q
/-- what leaves a def: an object of its own is frozen -/
def closeR (n : Nat) (S : SS) (r : R) : Option R := match r with
  | .obj k => if k < n then some (.obj k) else (match S[k]? with
    | some (.lst ds) => some (.dat (.list ds))
    | some (.dic kvs) => some (.dic kvs)
    | _ => none)
  | r => some r
def fin (n : Nat) : Option (Fl × SS) → Option (R × SS)
  | some (.rt r, S') => (match closeR n S' r with
    | some r' => some (r', S'.take n)
    | none => none)
  | some (.nx _, S') => some (.dat .none, S'.take n)
  | none => none
def startD (N : Nat) (rs : List R) : Dl := rs.map some ++ List.replicate (N - rs.length) none
def runFn (N np : Nat) (body : Sm) : Fn := fun rs S => if rs.length = np then fin S.length (body (startD N rs) S) else none

section
variable {K : PySem.W.Frag} {cl : Cls0} {A A' : List Addr} {H H' : Hp} {S S' : SS}
theorem RrL.length {vs : List V} {rs : List R} (h : RrL K A H vs rs) : vs.length = rs.length := by
  induction h with
  | nil => rfl
  | cons _ _ ih => rw [List.length_cons, List.length_cons, ih]
theorem RrL.get {vs : List V} {rs : List R} (h : RrL K A H vs rs) {i : Nat} {r : R} (e : rs[i]? = some r) : ∃ v, vs[i]? = some v ∧ Rr K A H v r := by
  induction h generalizing i with
  | nil => simp at e
  | cons h1 _ ih =>
    cases i with
    | zero => simp at e; subst e; exact ⟨_, rfl, h1⟩
    | succ i =>
      obtain ⟨v, q1, q2⟩ := ih (i := i) (by simpa using e)
      exact ⟨v, by simpa using q1, q2⟩
theorem start_rel {N : List Str} {vs : List V} {rs : List R} (h : RrL K A H vs rs) (m : Nat) : Sr K A H (L2.start N vs) (startD m rs) := ⟨fun i r e => by
  unfold startD at e
  by_cases hi : i < rs.length
  · rw [List.getElem?_append_left (by rw [List.length_map]; exact hi), List.getElem?_map] at e
    cases q : rs[i]? with
    | none => rw [q] at e; cases e
    | some r' =>
      rw [q] at e
      cases e
      obtain ⟨v, q1, q2⟩ := h.get q
      refine ⟨v, ?_, q2⟩
      unfold L2.start
      rw [List.getElem?_append_left (by rw [List.length_map, h.length]; exact hi), List.getElem?_map, q1]
      rfl
  · rw [List.getElem?_append_right (by rw [List.length_map]; omega), List.getElem?_replicate] at e
    split at e <;> cases e⟩
theorem exit_rel (w0 : Wr K cl A H S) (e : Ext A H A' H') (w : Wr K cl A' H' S') : Ext A H A H' ∧ Wr K cl A H' (S'.take S.length) ∧ ∀ {r r' : R} {v : V}, closeR S.length S' r = some r' → Rr K A' H' v r → Rr K A H' v r' := by
  obtain ⟨B, rfl⟩ := e.pre
  have w1 := w.cut
  rw [w0.len] at w1
  refine ⟨⟨⟨[], by simp⟩, fun b hb n => absurd hb n, fun b o h n => e.kp b o h n⟩, w1, fun {r r' v} hc hr => ?_⟩
  unfold closeR at hc
  split at hc
  · rename_i k
    obtain ⟨a, rfl, ha⟩ := hr
    split at hc
    · rename_i hk
      cases hc
      refine ⟨a, rfl, ?_⟩
      rw [List.getElem?_append_left (by rw [w0.len]; exact hk)] at ha
      exact ha
    · rename_i hk
      have haA : a ∉ A := fun hm => by
        obtain ⟨j, hj, ej⟩ := List.getElem_of_mem hm
        have h1 : (A ++ B)[j]? = some a := by rw [List.getElem?_append_left hj, List.getElem?_eq_getElem hj, ej]
        obtain ⟨l1, q1⟩ := List.getElem?_eq_some_iff.mp h1
        obtain ⟨l2, q2⟩ := List.getElem?_eq_some_iff.mp ha
        have := (List.getElem_inj w.nd).mp (q1.trans q2.symm)
        rw [← w0.len] at hk
        omega
      split at hc
      · rename_i ds hS
        cases hc
        obtain ⟨vs, o1, o2, o3⟩ := w.ob k a _ ha hS
        exact .lst ⟨o1, haA, o3⟩ (DrL.anti _ _ o2)
      · rename_i kvs hS
        cases hc
        obtain ⟨vs, o1, o2⟩ := w.ob k a _ ha hS
        exact ⟨a, vs, rfl, ⟨o1, haA⟩, o2.anti' fun d v h => Dr.anti d v h⟩
      · cases hc
  · cases hc
    cases r with
    | dat d => exact Dr.anti d v hr
    | dic kvs =>
      obtain ⟨a, ks, rfl, ⟨h1, h2⟩, h3⟩ := hr
      exact ⟨a, ks, rfl, ⟨h1, fun z => h2 (List.mem_append_left _ z)⟩, h3.anti' fun d v h => Dr.anti d v h⟩
    | scr ns =>
      obtain ⟨a, rfl, h1⟩ := hr
      refine ⟨a, rfl, ?_⟩
      rcases h1 with h1 | h1
      · exact .inl ⟨h1.1, fun z => h1.2 (List.mem_append_left _ z)⟩
      · exact .inr h1
    | itm ds =>
      obtain ⟨a, xs, rfl, h1, h2⟩ := hr
      exact ⟨a, xs, rfl, ⟨h1.1, fun z => h1.2 (List.mem_append_left _ z)⟩, DrL.anti _ _ h2⟩
    | dif kvs =>
      obtain ⟨a, o, ks, rfl, ⟨h1, h2⟩, h3⟩ := hr
      exact ⟨a, o, ks, rfl, ⟨h1, fun z => h2 (List.mem_append_left _ z)⟩, h3.anti' fun d v h => Dr.anti d v h⟩
    | obj k => rename_i hne; exact absurd rfl (hne k)
end
section
variable {P : Program} {w : World} {K : PySem.W.Frag} {mg : Str → Option Value} {base : Heap} {cl : Cls0}
/-- a def, by its body -/
theorem ok_fn {x qual : Str} {st : Stmt} {f : Addr} {fd : FuncData} {N ps : List Str} {k np nN : Nat} {g : Sm} (F : Fun K x qual st f fd) (S : FnScope N ps (defScope st)) (hn : nN = N.length) (hp : np = ps.length)
    (hbody : ∀ (cdv : Value) (A : Around) (outer : List Env) (s : Shared) (H : Hp) (E : XK), Room k (A.deeper (envOfC qual (defScope st) s.heap.objs.size f cdv)) → Bv cl (cxOf CX0 P w K mg base N qual (defScope st) f cdv A outer s H E).nox (defBody st) g) :
    FnOk P w K mg base CX0 (k + 1) f fd ps (FnD K cl (runFn nN np g)) := by
  subst hn hp
  have hlen : ∀ {φrs : List R} {S : SS} {r : R × SS}, runFn N.length ps.length g φrs S = some r → φrs.length = ps.length ∧ fin S.length (g (startD N.length φrs) S) = some r := fun {rs S r} h => by
    unfold runFn at h
    split at h
    · exact ⟨by assumption, h⟩
    · cases h
  refine F.ok S (fun vs H Q E ⟨A, rs, S, r, S', h1, h2, h3, q⟩ => by rw [h1.length]; exact (hlen h3).1) fun cdv A outer s H vs Q E hr ⟨A0, rs, S0, r, S', h1, h2, h3, q⟩ => ?_
  obtain ⟨_, h4⟩ := hlen h3
  refine ⟨tS K cl g, hbody cdv A outer s H E hr, ?_⟩
  unfold fin at h4
  split at h4
  · rename_i r0 S1 hg
    split at h4
    · rename_i r' hc
      cases h4
      refine ⟨A0, _, S0, .rt r0, S1, start_rel h1 _, h2, hg, fun v A' H' e' w' rv => ?_⟩
      obtain ⟨z1, z2, z3⟩ := exit_rel h2 e' w'
      exact q v A0 H' z1 z2 (z3 hc rv)
    · cases h4
  · rename_i δ S1 hg
    cases h4
    refine ⟨A0, _, S0, .nx δ, S1, start_rel h1 _, h2, hg, fun σ' A' H' e' w' _ => ?_⟩
    obtain ⟨z1, z2, z3⟩ := exit_rel h2 e' w'
    exact q .non A0 H' z1 z2 .non
  · cases h4
/-! ### room, a frame a level -/
structure RoomT (k : Nat) (A : Around) : Prop where
  free : A.handled = none
  deep : A.depth + k + 12 < recursionLimit
  wide : A.units + 4 * k + 300 < cLine
theorem RoomT.low {k : Nat} {A : Around} (r : RoomT k A) : Room 2 A := ⟨r.free, by have := r.deep; omega, by have := r.wide; omega⟩
theorem RoomT.body {k : Nat} {A : Around} (r : RoomT (k + 1) A) (env : Env) : RoomT k (A.deeper env) :=
  ⟨r.free, by have h := r.deep; show (A.depth + 1) + k + 12 < recursionLimit; omega, by have h := r.wide; show (A.units + 3) + 4 * k + 300 < cLine; omega⟩
theorem RoomT.le {j k : Nat} {A : Around} (r : RoomT k A) (h : j ≤ k) : RoomT j A := ⟨r.free, by have := r.deep; omega, by have := r.wide; omega⟩
/-- a def's promise, where there is this room -/
structure FnT (P : Program) (w : World) (K : PySem.W.Frag) (mg : Str → Option Value) (base : Heap) (k : Nat) (f : Addr) (fd : FuncData) (ps : List Str) (sp : Sp) : Prop where
  many : ∀ vs H Q E, sp vs H Q E → vs.length = ps.length
  goes : ∀ (A : Around) (outer : List Env) (s : Shared) (H : Hp) (args : Args) (us : List Value) (vs : List V) (Q : VK) (E : XK), RoomT k A → Env0 P w K mg base A outer s H →
    BindsTo s fd args (ps.zip us) → Vals vs us → sp vs H Q E → codeAny (model P w) A (.call (.ref f) args) (CR CX0 outer P w H s Q E) s
/-- back to the kit's room -/
theorem FnT.out {j k : Nat} {f : Addr} {fd : FuncData} {ps : List Str} {sp : Sp} (F : FnT P w K mg base k f fd ps sp) (h : k + 7 ≤ 3 * j) (h' : 4 * k + 100 ≤ 16 * j) : FnOk P w K mg base CX0 j f fd ps sp :=
  ⟨F.many, fun A outer s H args us vs Q E r => F.goes A outer s H args us vs Q E ⟨r.hd, by have := r.dp; omega, by have := r.un; omega⟩⟩
/-- a def, by its body, in this room -/
theorem fnT_body {x qual : Str} {st : Stmt} {f : Addr} {fd : FuncData} {N ps : List Str} {k : Nat} {sp : Sp} (F : Fun K x qual st f fd) (S : FnScope N ps (defScope st)) (many : ∀ vs H Q E, sp vs H Q E → vs.length = ps.length)
    (B : ∀ (cdv : Value) (A : Around) (outer : List Env) (s : Shared) (H : Hp) (vs : List V) (Q : VK) (E : XK), RoomT k (A.deeper (envOfC qual (defScope st) s.heap.objs.size f cdv)) → sp vs H Q E →
      ∃ t, PSs (cxOf CX0 P w K mg base N qual (defScope st) f cdv A outer s H E).nox (defBody st) t ∧ t { nx := fun _ H' => Q .non H', rt := Q } (start N vs) H) : FnT P w K mg base (k + 1) f fd ps sp := by
  obtain ⟨oc, od, kV, doc, pm, an, cdv, ct, osl, rfl, look, code⟩ := F.ex
  refine ⟨many, fun A outer s H args us vs Q E room en bound rel want => ?_⟩
  have long := many _ _ _ _ want
  have KI : K.In s.heap := en.mod.kin.keeps fun a ob eq => (en.bs a ob eq).1
  have kinds : ∀ y ∈ ps.zip us, (defScope st).names.lookup y.1 = some .local ∨ ((defScope st).names.lookup y.1 = some .cell ∧ ((cellsFrom (s.heap.objs.size + 1) (defScope st).names []).lookup y.1).isSome = true) := by
    rintro ⟨y, u⟩ hy
    exact (S.par y (List.of_mem_zip hy).1).imp id fun z => ⟨z, PySem.W.cellsFrom_some _ _ _ (.inl z)⟩
  refine codeAny_call_function room.low.depth (KI _ _ look) rfl S.co S.gen rfl (PySem.W.codeRec_of KI code) (bound _ _ _ _ (wpAny_newFunctionEnv_cells S.kind kinds fun env eq s1 inside => ?_))
  subst eq
  refine ⟨(en.mod.nolimit.keeps fun a ob eq => (en.bs a ob eq).1).keeps inside.toInCall.keep, codeAny_func ?_⟩
  obtain ⟨t, ht, hq⟩ := B cdv A outer s H vs Q E (room.body _) want
  have J : Inv (cxOf CX0 P w K mg base N qual (defScope st) f cdv A outer s H E) [] (start N vs) H s1 := inv_start S room.free en long rel inside
  refine wpAny_mono (ht.nox.run [] s1 (start N vs) H _ J hq) (fun flow s' done => ?_) fun e s' no => no
  match flow, done with
  | .ret u, ⟨v, σ', H', J', rv, q⟩ => exact ⟨v, H', J'.os, J'.bare, J'.base, J'.hok, rv, q⟩
  | .next, ⟨σ', H', J', q⟩ => exact ⟨.non, H', J'.os, J'.bare, J'.base, J'.hok, rfl, q⟩
  | .brk, ⟨_, _, _, q⟩ => exact q.elim
  | .cont, ⟨_, _, _, q⟩ => exact q.elim
theorem okT {x qual : Str} {st : Stmt} {f : Addr} {fd : FuncData} {N ps : List Str} {k np nN : Nat} {g : Sm} (F : Fun K x qual st f fd) (S : FnScope N ps (defScope st)) (hn : nN = N.length) (hp : np = ps.length)
    (hbody : ∀ (cdv : Value) (A : Around) (outer : List Env) (s : Shared) (H : Hp) (E : XK), RoomT k (A.deeper (envOfC qual (defScope st) s.heap.objs.size f cdv)) → Room 2 (A.deeper (envOfC qual (defScope st) s.heap.objs.size f cdv)) →
      Bv cl (cxOf CX0 P w K mg base N qual (defScope st) f cdv A outer s H E).nox (defBody st) g) :
    FnT P w K mg base (k + 1) f fd ps (FnD K cl (runFn nN np g)) := by
  subst hn hp
  have hlen : ∀ {φrs : List R} {S : SS} {r : R × SS}, runFn N.length ps.length g φrs S = some r → φrs.length = ps.length ∧ fin S.length (g (startD N.length φrs) S) = some r := fun {rs S r} h => by
    unfold runFn at h
    split at h
    · exact ⟨by assumption, h⟩
    · cases h
  refine fnT_body F S (fun vs H Q E ⟨A, rs, S, r, S', h1, h2, h3, q⟩ => by rw [h1.length]; exact (hlen h3).1) fun cdv A outer s H vs Q E hr ⟨A0, rs, S0, r, S', h1, h2, h3, q⟩ => ?_
  obtain ⟨_, h4⟩ := hlen h3
  refine ⟨tS K cl g, hbody cdv A outer s H E hr hr.low, ?_⟩
  unfold fin at h4
  split at h4
  · rename_i r0 S1 hg
    split at h4
    · rename_i r' hc
      cases h4
      refine ⟨A0, _, S0, .rt r0, S1, start_rel h1 _, h2, hg, fun v A' H' e' w' rv => ?_⟩
      obtain ⟨z1, z2, z3⟩ := exit_rel h2 e' w'
      exact q v A0 H' z1 z2 (z3 hc rv)
    · cases h4
  · rename_i δ S1 hg
    cases h4
    refine ⟨A0, _, S0, .nx δ, S1, start_rel h1 _, h2, hg, fun σ' A' H' e' w' _ => ?_⟩
    obtain ⟨z1, z2, z3⟩ := exit_rel h2 e' w'
    exact q .non A0 H' z1 z2 .non
  · cases h4
theorem noneT {x qual : Str} {st : Stmt} {f : Addr} {fd : FuncData} {ps : List Str} : FnT P w K mg base 0 f fd ps (FnD K cl fun _ _ => none) :=
  ⟨fun vs H Q E ⟨_, _, _, _, _, _, _, h, _⟩ => (by cases h), fun A outer s H args us vs Q E _ _ _ _ ⟨_, _, _, _, _, _, _, h, _⟩ => (by cases h)⟩
/-- a def that may be called by its name -/
structure Callee (P : Program) (w : World) (K : PySem.W.Frag) (mg : Str → Option Value) (base : Heap) (cl : Cls0) (n : Nat) (x : Str) (φ : Fn) : Prop where
  ex : ∃ (f : Addr) (fd : FuncData) (ps : List Str), FnT P w K mg base n f fd ps (FnD K cl φ) ∧ mg x = some (.ref f) ∧ PySem.W.keepIn K (.ref f) = true ∧ Binds K fd ps []
theorem Callee.zero {x qual : Str} {st : Stmt} {f : Addr} {fd : FuncData} {ps : List Str} (F : Fun K x qual st f fd) (hm : mg x = some (.ref f)) (hb : Binds K fd ps []) : Callee P w K mg base cl 0 x (fun _ _ => none) :=
  ⟨f, fd, ps, noneT (x := x) (qual := qual) (st := st), hm, F.kp, hb⟩
theorem Callee.succ {x qual : Str} {st : Stmt} {f : Addr} {fd : FuncData} {N ps : List Str} {k np nN : Nat} {g : Sm} (F : Fun K x qual st f fd) (hm : mg x = some (.ref f)) (hb : Binds K fd ps []) (S : FnScope N ps (defScope st)) (hn : nN = N.length) (hp : np = ps.length)
    (hbody : ∀ (cdv : Value) (A : Around) (outer : List Env) (s : Shared) (H : Hp) (E : XK), RoomT k (A.deeper (envOfC qual (defScope st) s.heap.objs.size f cdv)) → Room 2 (A.deeper (envOfC qual (defScope st) s.heap.objs.size f cdv)) →
      Bv cl (cxOf CX0 P w K mg base N qual (defScope st) f cdv A outer s H E).nox (defBody st) g) :
    Callee P w K mg base cl (k + 1) x (runFn nN np g) := ⟨f, fd, ps, okT F S hn hp hbody, hm, F.kp, hb⟩
/-- a method -/
structure CalleeM (P : Program) (w : World) (K : PySem.W.Frag) (mg : Str → Option Value) (base : Heap) (cl : Cls0) (n : Nat) (c m : Str) (φ : Fn) : Prop where
  ex : ∃ (f : Addr) (fd : FuncData) (ps : List Str), FnT P w K mg base n f fd ps (FnD K cl φ) ∧ Meth K (cl c) m f ∧ Binds K fd ps []
theorem CalleeM.zero {c m x qual : Str} {st : Stmt} {f : Addr} {fd : FuncData} {ps : List Str} (F : Fun K x qual st f fd) (hm : Meth K (cl c) m f) (hb : Binds K fd ps []) : CalleeM P w K mg base cl 0 c m (fun _ _ => none) :=
  ⟨f, fd, ps, noneT (x := x) (qual := qual) (st := st), hm, hb⟩
theorem CalleeM.succ {c m x qual : Str} {st : Stmt} {f : Addr} {fd : FuncData} {N ps : List Str} {k np nN : Nat} {g : Sm} (F : Fun K x qual st f fd) (hm : Meth K (cl c) m f) (hb : Binds K fd ps []) (S : FnScope N ps (defScope st)) (hn : nN = N.length) (hp : np = ps.length)
    (hbody : ∀ (cdv : Value) (A : Around) (outer : List Env) (s : Shared) (H : Hp) (E : XK), RoomT k (A.deeper (envOfC qual (defScope st) s.heap.objs.size f cdv)) → Room 2 (A.deeper (envOfC qual (defScope st) s.heap.objs.size f cdv)) →
      Bv cl (cxOf CX0 P w K mg base N qual (defScope st) f cdv A outer s H E).nox (defBody st) g) :
    CalleeM P w K mg base cl (k + 1) c m (runFn nN np g) := ⟨f, fd, ps, okT F S hn hp hbody, hm, hb⟩
/-- a class that may be called: its __init__ calls nothing -/
structure CalleeC (P : Program) (w : World) (K : PySem.W.Frag) (mg : Str → Option Value) (base : Heap) (cl : Cls0) (c : Str) (φ : Fn) : Prop where
  ex : ∃ (f : Addr) (fd : FuncData) (ps : List Str), FnOk P w K mg base CX0 1 f fd ps (FnD K cl φ) ∧ Mk K (cl c) f ∧ mg c = some (.ref (cl c)) ∧ Binds K fd ps []
end

/-! ### calls -/
def eCall (φ : Fn) (f : Am) : Em := fun δ S => match f δ S with
  | some (rs, S1) => φ rs S1
  | none => none
section
variable {X : Cx} {cl : Cls0} {pos : Pos} {A : List Addr} {H : Hp} {K : PySem.W.Frag} {e o k v : Expr} {es : List Expr} {f fo fk fv : Em} {g : Am} {S : SS}
/-- a callee runs -/
theorem runT {n : Nat} {f : Addr} {fd : FuncData} {ps : List Str} {sp : Sp} {pins : List (Addr × Obj)} {σ : L2.St} {s : Shared} {us : List Value} {vs : List V} {Q : VK} {E : XK} (F : FnT X.prog X.w X.K X.mg X.base n f fd ps sp) (room : RoomT n X.A)
    (bd : Binds X.K fd ps []) (J : Inv X pins σ H s) (rel : Vals vs us) (want : sp vs H Q E) : wpAny (model X.prog X.w) X.A (PySem.call (.ref f) us) (EP X pins σ Q) X.xe s := by
  have bound := bd s us J.kIn (by rw [List.append_nil, ← rel.length]; exact F.many _ _ _ _ want)
  rw [List.append_nil] at bound
  refine wpAny_call (codeAny_mono (F.goes X.A X.stack s H ⟨us, []⟩ us vs Q E room J.env0 bound rel want) fun out s' done => ?_)
  match out, done with
  | .error e, no => exact no.elim
  | .ok (.ret u), done => exact J.after done
  | .ok .next, no => exact no.elim
  | .ok .brk, no => exact no.elim
  | .ok .cont, no => exact no.elim
def tCallT (sp : Sp) (t : TA) : TE := fun σ H Q => t σ H fun vs H1 => sp vs H1 Q E0
theorem pe_callT {n : Nat} {f : Addr} {fd : FuncData} {ps : List Str} {sp : Sp} {x : Str} {p : Pos} {t : TA} (F : FnT X.prog X.w X.K X.mg X.base n f fd ps sp) (room : RoomT n X.A) (hg : Gl X x) (hm : X.mg x = some (.ref f)) (kp : PySem.W.keepIn X.K (.ref f) = true)
    (bd : Binds X.K fd ps []) (ha : PA X (e :: es) t) (hdb : (x == ("__debug__" : Str)) = false) (he : starEach (e :: es) X.env = (false, eval e X.env) :: starEach es X.env) (hpl : (backTo pos (starEach es X.env)).any (·.1) = false) :
    PE X (.Call (.Name x p) (e :: es) [] pos) (tCallT sp t) := ⟨fun pins s σ H Q J want => wpAny_Call_Name_kw (ld_glob J hg hm (PySem.W.callWith_K (h₀ := X.base) J.ok.mod.kin kp
      (thn (ha.run pos pins s σ H _ J want) fun us s1 ⟨vs, H1, J1, rel, q⟩ => ⟨J1.kIn, runT F room bd J1 rel q⟩) he hpl) hdb)⟩
theorem ev_call {n : Nat} {x : Str} {p : Pos} {φ : Fn} (C : Callee X.prog X.w X.K X.mg X.base cl n x φ) (room : RoomT n X.A) (hg : Gl X x) (ha : Av cl X (e :: es) g)
    (hdb : (x == ("__debug__" : Str)) = false) (he : starEach (e :: es) X.env = (false, eval e X.env) :: starEach es X.env := by rfl) (hpl : (backTo pos (starEach es X.env)).any (·.1) = false := by rfl) :
    Ev cl X (.Call (.Name x p) (e :: es) [] pos) (eCall φ g) := by
  obtain ⟨fa, fd, ps, F, hm, hk, hb⟩ := C.ex
  refine pe_imp (pe_callT F room hg hm hk hb ha hdb he hpl) fun σ H Q ⟨A, δ, S, r, S', hs, hw, hf, q⟩ => ?_
  unfold eCall at hf
  split at hf
  · rename_i rs S1 h1
    refine tA_then hs hw h1 fun vs A1 H1 e1 w1 rv s1 => ?_
    exact ⟨A1, rs, S1, r, S', rv, w1, hf, fun v' A2 H2 e2 w2 rv2 => q v' A2 H2 (e1.trans e2) w2 rv2⟩
  · cases hf

/-! ### what is written: x.append(e), x.extend(ys), d[k] = v -/
theorem lookO_eq {S : SS} {k : Nat} {ds : List D} (h : lookO S k = some ds) : S[k]? = some (.lst ds) := by
  unfold lookO at h
  split at h
  · cases h; assumption
  · cases h
def eAppend (fo fe : Em) : Em := fun δ S => match fo δ S with
  | some (.obj k, S1) => (match lookO S1 k with
    | some _ => (match fe δ S1 with
      | some (.dat d, S2) => (match lookO S2 k with
        | some ds => if ds.length < sizeLine then some (.dat .none, S2.set k (.lst (ds ++ [d]))) else none
        | none => none)
      | _ => none)
    | none => none)
  | _ => none
theorem ev_append {apos : Pos} (ho : Ev cl X o fo) (he : Ev cl X e fv) (hbase : attributeBase o "append" X.env (eval o X.env) = eval o X.env := by rfl)
    (hfew : ((backTo pos (starEach [e] X.env)).all (fun x => !x.1) && (backToKw pos (keywordEach [] X.env)).all (fun x => x.1.isSome)
      && decide ([e].length + ([] : List Keyword).length + (if ([] : List Keyword).isEmpty then 0 else 1) < 30)) = true := by rfl)
    (hline : (apos.endLine == pos.line) = true := by rfl) (hs : starEach [e] X.env = (false, eval e X.env) :: starEach [] X.env := by rfl) (hplain : (backTo pos (starEach [] X.env)).any (·.1) = false := by rfl) :
    Ev cl X (.Call (.Attribute o "append" apos) [e] [] pos) (eAppend fo fv) := by
  refine pe_imp (pe_bm PySem.F.plainAttrs_list PySem.F.slot_list_append PySem.F.type_list_append mt_append ho (pa_cons he pa_nil hs) hbase hfew hline hs hplain) fun σ H Q ⟨A, δ, S, r, S', hs, hw, hf, q⟩ => ?_
  unfold eAppend at hf
  split at hf
  · rename_i k S1 h1
    split at hf
    · rename_i ds0 h0
      split at hf
      · rename_i d S2 h2
        split at hf
        · rename_i ds h3
          split at hf
          · rename_i hz
            cases hf
            refine tE_then hs hw h1 fun v A1 H1 e1 w1 rv s1 => ?_
            obtain ⟨a, rfl, ha⟩ := rv
            obtain ⟨vs0, o1, o2, o3⟩ := w1.ob _ a _ ha (lookO_eq h0)
            refine ⟨.inl ⟨rfl, _, SqL.of o1⟩, tE_then s1 w1 h2 fun u A2 H2 e2 w2 ru s2 => ?_⟩
            have ha2 := e2.at_ ha
            obtain ⟨vs, o4, o5, o6⟩ := w2.ob _ a _ ha2 (lookO_eq h3)
            have ew := Ext.write (H := H2) ha2 (.lst (vs ++ [u]))
            have hl : vs.length < sizeLine := by rw [o5.length]; exact hz
            refine ⟨a, vs, u, rfl, rfl, o4, hl, q _ A2 _ (e1.trans (e2.trans ew)) (w2.write (ob := .lst (ds ++ [d])) ha2 ⟨vs ++ [u], upd_same, ?_, by rw [List.length_append]; exact hl⟩) .non⟩
            exact (DrL.mono ew _ _ o5).app (.cons (Dr.mono ew _ _ ru) .nil)
          · cases hf
        · cases hf
      · cases hf
    · cases hf
  · cases hf
def eExtend (fo fe : Em) : Em := fun δ S => match fo δ S with
  | some (.obj k, S1) => (match lookO S1 k with
    | some _ => (match fe δ S1 with
      | some (.dat (.list es), S2) => (match lookO S2 k with
        | some ds => if ds.length + es.length ≤ sizeLine then some (.dat .none, S2.set k (.lst (ds ++ es))) else none
        | none => none)
      | _ => none)
    | none => none)
  | _ => none
theorem ev_extend {apos : Pos} (ho : Ev cl X o fo) (he : Ev cl X e fv) (hbase : attributeBase o "extend" X.env (eval o X.env) = eval o X.env := by rfl)
    (hfew : ((backTo pos (starEach [e] X.env)).all (fun x => !x.1) && (backToKw pos (keywordEach [] X.env)).all (fun x => x.1.isSome)
      && decide ([e].length + ([] : List Keyword).length + (if ([] : List Keyword).isEmpty then 0 else 1) < 30)) = true := by rfl)
    (hline : (apos.endLine == pos.line) = true := by rfl) (hs : starEach [e] X.env = (false, eval e X.env) :: starEach [] X.env := by rfl) (hplain : (backTo pos (starEach [] X.env)).any (·.1) = false := by rfl) :
    Ev cl X (.Call (.Attribute o "extend" apos) [e] [] pos) (eExtend fo fv) := by
  refine pe_imp (pe_bm PySem.F.plainAttrs_list PySem.F.slot_list_extend PySem.F.type_list_extend mt_extend ho (pa_cons he pa_nil hs) hbase hfew hline hs hplain) fun σ H Q ⟨A, δ, S, r, S', hs, hw, hf, q⟩ => ?_
  unfold eExtend at hf
  split at hf
  · rename_i k S1 h1
    split at hf
    · rename_i ds0 h0
      split at hf
      · rename_i es S2 h2
        split at hf
        · rename_i ds h3
          split at hf
          · rename_i hz
            cases hf
            refine tE_then hs hw h1 fun v A1 H1 e1 w1 rv s1 => ?_
            obtain ⟨a, rfl, ha⟩ := rv
            obtain ⟨vs0, o1, o2, o3⟩ := w1.ob _ a _ ha (lookO_eq h0)
            refine ⟨.inl ⟨rfl, _, SqL.of o1⟩, tE_then s1 w1 h2 fun u A2 H2 e2 w2 ru s2 => ?_⟩
            have ha2 := e2.at_ ha
            obtain ⟨vs, o4, o5, o6⟩ := w2.ob _ a _ ha2 (lookO_eq h3)
            cases ru with
            | lst t1 t2 =>
              rename_i b us
              have ew := Ext.write (H := H2) ha2 (.lst (vs ++ us))
              have hl : vs.length + us.length ≤ sizeLine := by rw [o5.length, t2.length]; exact hz
              refine ⟨a, b, vs, us, rfl, rfl, o4, t1.1, hl, q _ A2 _ (e1.trans (e2.trans ew)) (w2.write (ob := .lst (ds ++ es)) ha2 ⟨vs ++ us, upd_same, ?_, by rw [List.length_append]; exact hl⟩) .non⟩
              exact (DrL.mono ew _ _ o5).app (DrL.mono ew _ _ t2)
          · cases hf
        · cases hf
      · cases hf
    · cases hf
  · cases hf
def lookK (S : SS) (k : Nat) : Option (List (Key × D)) := match S[k]? with
  | some (.dic ds) => some ds
  | _ => none
theorem lookK_eq {S : SS} {k : Nat} {ds : List (Key × D)} (h : lookK S k = some ds) : S[k]? = some (.dic ds) := by
  unfold lookK at h
  split at h
  · cases h; assumption
  · cases h
def sDput (fo fk fv : Em) : Sm := fun δ S => match fv δ S with
  | some (.dat d, S1) => (match fo δ S1 with
    | some (.obj j, S2) => (match fk δ S2 with
      | some (.dat kd, S3) => (match keyOf kd with
        | some k => (match lookK S3 j with
          | some kvs => if kvs.length < sizeLine then some (.nx δ, S3.set j (.dic (putD kvs k d))) else none
          | none => none)
        | none => none)
      | _ => none)
    | _ => none)
  | _ => none
theorem sv_dput {pos' : Pos} (hu : X.A.units + 1 < cLine) (ho : Ev cl X o fo) (hi : Ev cl X k fk) (hv : Ev cl X v fv) (hs : swapsWith v (some (.Subscript o k pos')) pos.line X.env = pure false := by rfl) :
    Sv cl X (.Assign [.Subscript o k pos'] v pos) (sDput fo fk fv) := by
  refine ps_imp (ps_dput hu ho hi hv hs) fun E σ H ⟨A, δ, S, fl, S', hs, hw, hf, q⟩ => ?_
  unfold sDput at hf
  split at hf
  · rename_i d S1 h1
    split at hf
    · rename_i j S2 h2
      split at hf
      · rename_i kd S3 h3
        split at hf
        · rename_i k hk
          split at hf
          · rename_i kvs h4
            split at hf
            · rename_i hz
              cases hf
              refine tE_then hs hw h1 fun v A1 H1 e1 w1 rv s1 => tE_then s1 w1 h2 fun u A2 H2 e2 w2 ru s2 => tE_then s2 w2 h3 fun y A3 H3 e3 w3 ry s3 => ?_
              obtain ⟨a, rfl, ha⟩ := ru
              have ha3 := e3.at_ ha
              obtain ⟨ks, o1, o2⟩ := w3.ob _ a _ ha3 (lookK_eq h4)
              cases keyOf_dr hk ry
              have rv3 : Dr X.K A3 H3 v d := Dr.mono (e2.trans e3) _ _ rv
              have ew := Ext.write (H := H3) ha3 (.dK (putK ks k v))
              have hl : ks.length < sizeLine := by rw [o2.length]; exact hz
              refine ⟨a, _, rfl, DPut.k o1 hl, q σ A3 _ (e1.trans (e2.trans (e3.trans ew))) (w3.write (ob := .dic (putD kvs k d)) ha3 ⟨_, upd_same, ?_⟩) (s3.mono ew)⟩
              exact (o2.put k rv3).mono ew
            · cases hf
          · cases hf
        · cases hf
      · cases hf
    · cases hf
  · cases hf

/-! ### d.get(k), d.get(k, x) -/
def eGet1 (fo fk : Em) : Em := fun δ S => match fo δ S with
  | some (r, S1) => (match asKv S1 r with
    | some _ => (match fk δ S1 with
      | some (.dat kd, S2) => (match keyOf kd with
        | some k => (match asKv S2 r with
          | some kvs => some (.dat ((getK kvs k).getD .none), S2)
          | none => none)
        | none => none)
      | _ => none)
    | none => none)
  | none => none
def eGet2 (fo fk fv : Em) : Em := fun δ S => match fo δ S with
  | some (r, S1) => (match asKv S1 r with
    | some _ => (match fk δ S1 with
      | some (.dat kd, S2) => (match fv δ S2 with
        | some (.dat d, S3) => (match keyOf kd with
          | some k => (match asKv S3 r with
            | some kvs => some (.dat ((getK kvs k).getD d), S3)
            | none => none)
          | none => none)
        | _ => none)
      | _ => none)
    | none => none)
  | none => none
theorem DrK.getD {ks : List (Key × V)} {kvs : List (Key × D)} (h : DrK K A H ks kvs) (k : Key) {v : V} {d : D} (hd : Dr K A H v d) : Dr K A H ((valV ks k).getD v) ((getK kvs k).getD d) := by
  cases hg : getK kvs k with
  | none => rw [h.none hg]; exact hd
  | some d' =>
    obtain ⟨v', q1, q2⟩ := h.val hg
    rw [q1]
    exact q2
theorem ev_get1 {apos : Pos} (hu : X.A.units + 1 < cLine) (ho : Ev cl X o fo) (he : Ev cl X k fk) (m : M1 X o "get" apos k pos := by exact ⟨rfl, rfl, rfl, rfl⟩) : Ev cl X (.Call (.Attribute o "get" apos) [k] [] pos) (eGet1 fo fk) := by
  refine pe_imp (pe_dget1 hu ho he m) fun σ H Q ⟨A, δ, S, r, S', hs, hw, hf, q⟩ => ?_
  unfold eGet1 at hf
  split at hf
  · rename_i r0 S1 h1
    split at hf
    · rename_i kv0 h0
      split at hf
      · rename_i kd S2 h2
        split at hf
        · rename_i k hk
          split at hf
          · rename_i kvs h3
            cases hf
            refine tE_then hs hw h1 fun v A1 H1 e1 w1 rv s1 => ?_
            obtain ⟨a, ks0, rfl, o1, o2⟩ := asKv_rel w1 rv h0
            refine ⟨a, rfl, .inl ⟨_, .inl o1⟩, tE_then s1 w1 h2 fun y A2 H2 e2 w2 ry s2 => ?_⟩
            obtain ⟨a', ks, e', o3, o4⟩ := asKv_rel w2 (rv.mono e2) h3
            cases e'
            cases keyOf_dr hk ry
            exact ⟨_, DGet.k o3, q _ A2 H2 (e1.trans e2) w2 (o4.getD k .non)⟩
          · cases hf
        · cases hf
      · cases hf
    · cases hf
  · cases hf
theorem ev_get2 {apos : Pos} (hu : X.A.units + 1 < cLine) (ho : Ev cl X o fo) (he : Ev cl X k fk) (hv : Ev cl X v fv) (m : M2 X o "get" apos k v pos := by exact ⟨rfl, rfl, rfl, rfl⟩) : Ev cl X (.Call (.Attribute o "get" apos) [k, v] [] pos) (eGet2 fo fk fv) := by
  refine pe_imp (pe_dget2 hu ho he hv m) fun σ H Q ⟨A, δ, S, r, S', hs, hw, hf, q⟩ => ?_
  unfold eGet2 at hf
  split at hf
  · rename_i r0 S1 h1
    split at hf
    · rename_i kv0 h0
      split at hf
      · rename_i kd S2 h2
        split at hf
        · rename_i d S3 h3
          split at hf
          · rename_i k hk
            split at hf
            · rename_i kvs h4
              cases hf
              refine tE_then hs hw h1 fun v A1 H1 e1 w1 rv s1 => ?_
              obtain ⟨a, ks0, rfl, o1, o2⟩ := asKv_rel w1 rv h0
              refine ⟨a, rfl, .inl ⟨_, .inl o1⟩, tE_then s1 w1 h2 fun y A2 H2 e2 w2 ry s2 => tE_then s2 w2 h3 fun z A3 H3 e3 w3 rz s3 => ?_⟩
              obtain ⟨a', ks, e', o3, o4⟩ := asKv_rel w3 (rv.mono (e2.trans e3)) h4
              cases e'
              cases keyOf_dr hk ry
              exact ⟨_, DGet.k o3, q _ A3 H3 (e1.trans (e2.trans e3)) w3 (o4.getD k rz)⟩
            · cases hf
          · cases hf
        · cases hf
      · cases hf
    · cases hf
  · cases hf

/-! ### sep.join(texts) -/
def joinD : D → D → Option D
  | .str a, .list ds => (match strsOf ds with
    | some ys => if (ys.map (·.length)).sum + ys.length * a.length ≤ 16777216 then some (.str (Txt.join a ys)) else none
    | none => none)
  | .str a, .tuple ds => (match strsOf ds with
    | some ys => if (ys.map (·.length)).sum + ys.length * a.length ≤ 16777216 then some (.str (Txt.join a ys)) else none
    | none => none)
  | _, _ => none
theorem ev_join {apos : Pos} (ho : Ev cl X o fo) (he : Ev cl X e fv) (hs : starEach [e] X.env = [(false, eval e X.env)] := by rfl) (hbase : attributeBase o "join" X.env (eval o X.env) = eval o X.env := by rfl) (hline : (apos.endLine == pos.line) = true := by rfl) :
    Ev cl X (.Call (.Attribute o "join" apos) [e] [] pos) (e2 (l2 joinD) fo fv) := by
  refine pe_imp (pe_join ho he hs hbase hline) fun σ H Q ⟨A, δ, S, r, S', hs, hw, hf, q⟩ => ?_
  obtain ⟨x, y, S1, f1, f2, h1⟩ := e2_some hf
  unfold l2 at h1
  split at h1
  · rename_i a ha
    split at h1
    · rename_i b hb
      split at h1
      · rename_i d hd
        cases h1
        refine tE_then hs hw f1 fun v A1 H1 e1 w1 rv s1 => ?_
        have key : ∀ z ys, a = .str z → strsOf ys = strsOf ys → (∃ z, v = .str z) := fun z ys ea _ => by
          subst ea
          have hx : ∃ d, x = .dat d ∧ d = .str z := by
            cases x with
            | dat d => cases ha; exact ⟨_, rfl, rfl⟩
            | dic _ => cases ha
            | scr _ => cases ha
            | itm _ => cases ha
            | dif _ => cases ha
            | obj k =>
              unfold asD at ha
              simp only at ha
              split at ha <;> cases ha
          obtain ⟨d', rfl, rfl⟩ := hx
          cases rv
          exact ⟨_, rfl⟩
        unfold joinD at hd
        split at hd
        · rename_i z ds
          split at hd
          · rename_i ys hy
            split at hd
            · rename_i hz
              cases hd
              refine ⟨key z [] rfl rfl, tE_then s1 w1 f2 fun u A2 H2 e2 w2 ru s2 => ?_⟩
              cases (asD_rel w2 (rv.mono e2) ha).str
              obtain ⟨p, xs, rfl, o1, o2⟩ := (asD_rel w2 ru hb).list
              rw [strsOf_eq hy] at o2
              rw [o2.strs] at o1
              exact ⟨_, p, ys, rfl, rfl, .inl (SqL.of o1), hz, q _ A2 H2 (e1.trans e2) w2 (.str _)⟩
            · cases hd
          · cases hd
        · rename_i z ds
          split at hd
          · rename_i ys hy
            split at hd
            · rename_i hz
              cases hd
              refine ⟨key z [] rfl rfl, tE_then s1 w1 f2 fun u A2 H2 e2 w2 ru s2 => ?_⟩
              cases (asD_rel w2 (rv.mono e2) ha).str
              obtain ⟨p, xs, rfl, o1, o2⟩ := (asD_rel w2 ru hb).tuple
              rw [strsOf_eq hy] at o2
              rw [o2.strs] at o1
              exact ⟨_, p, ys, rfl, rfl, .inr o1.sq, hz, q _ A2 H2 (e1.trans e2) w2 (.str _)⟩
            · cases hd
          · cases hd
        · cases hd
      · cases h1
    · cases h1
  · cases h1
/-! ### constants of the module -/
def GlobD (K : PySem.W.Frag) (mg : Str → Option Value) (x : Str) (d : D) : Prop := ∃ u v, mg x = some u ∧ RelV v u ∧ ∀ A H, Dr K A H v d
theorem ev_glob {x : Str} {d : D} (h : GlobD X.K X.mg x d) (hg : Gl X x) (hd : (x == ("__debug__" : Str)) = false := by decide) : Ev cl X (.Name x pos) (eC d) := by
  obtain ⟨u, v, hm, r, hq⟩ := h
  exact ev_c (pe_glob hg hm r hd) hq
/-! ### y = [..] on one line, y a local -/
theorem sv_setLc {i : Nat} {y : Str} {py : Pos} {elt tg iter : Expr} {ifs : List Expr} {scope : Scope} {own : List (Str × Nat)} {p spos : Pos} {src : Im} {g : Gm} {is : List Nat} {fc : Tm} {fe : Em} (hc : X.calm = true) (hN : X.N.Nodup) (hy : X.N[i]? = some y) (hyl : X.env.scope.names.lookup y = some .local)
    (hsw : swapsWith (.ListComp elt [⟨tg, iter, ifs, 0⟩] scope p) (some (.Name y py)) spos.line X.env = pure true) (hi : Iv cl X tg iter src) (ok : BlkOk X.N X.env.scope scope own)
    (hg : ∀ (s : Shared) (H : Hp) (C : Addr) (ce : List (Str × Addr)) (fp : List Addr), Gv (X.blk s H scope (compEnvC scope ce C X.env) fp) tg g is)
    (ht : ∀ (s : Shared) (H : Hp) (C : Addr) (ce : List (Str × Addr)) (fp : List Addr), Tsv cl (X.blk s H scope (compEnvC scope ce C X.env) fp) ifs fc)
    (he : ∀ (s : Shared) (H : Hp) (C : Addr) (ce : List (Str × Addr)) (fp : List Addr), Ev cl (X.blk s H scope (compEnvC scope ce C X.env) fp) elt fe)
    (his : ∀ i ∈ is, i ∈ own.map (·.2)) (hs : ∀ x, foldedSetIterable iter X.env x = pure x := by intro _; rfl) :
    Sv cl X (.Assign [.Name y py] (.ListComp elt [⟨tg, iter, ifs, 0⟩] scope p) spos) (sAsg (eComp (own.map (·.2)) src g fc fe) (gNm i)) := by
  have base := ps_setLc (g := tG X.K g is) (tt := tT X.K cl fc) (te := tE X.K cl fe) hc hN hy hyl hsw hi ok hg ht he hs
  refine ⟨fun pins s σ H D I ⟨A, δ, S, fl, S', hs', hw, hf', q⟩ => base.run pins s σ H D I ?_⟩
  have hl : i < σ.length := by rw [I.len]; exact (List.getElem?_eq_some_iff.mp hy).1
  unfold sAsg at hf'
  split at hf'
  · rename_i r S1 h1
    cases hf'
    exact comp_go his σ H _ ⟨A, δ, S, r, _, hs', hw, h1, fun v A1 H1 e1 w1 rv => q _ A1 H1 e1 w1 ((hs'.mono e1).put i rv hl)⟩
  · cases hf'
end
end Cy
end
section
set_option Elab.async false
set_option maxRecDepth 100000
namespace Cy
open PySem PySem.Spec PyProof.Rows L2
theorem u65 {n : Nat} {A : Around} (hr : Room n A) : A.units + 65 < cLine := by have := hr.un; omega
/-- the law's def, called with the script -/
theorem law_start {K : PySem.W.Frag} {φ : Fn} {H : Hp} {a : Addr} {ns : List Int} (h : φ [.scr ns] [] = some (.dat (.bool true), [])) (hS : SqL K H a (ns.map V.int)) :
    FnD K (fun _ => 0) φ [.ref a] H (fun v _ => v = .bl true) fun _ _ _ => False := by
  refine ⟨[], [.scr ns], [], _, [], .cons ⟨a, rfl, ?_⟩ .nil, ⟨rfl, .nil, fun k a o h => by simp at h⟩, h, fun v A' H' _ _ rv => ?_⟩
  · rcases hS with hS | hS
    · exact .inl ⟨hS, by simp⟩
    · exact .inr hS
  · cases rv; rfl
/-- what the law's def promises -/
def spLaw (K : PySem.W.Frag) : Sp := fun vs H Q _ => ∃ (a : Addr) (ns : List Int), vs = [.ref a] ∧ SqL K H a (ns.map V.int) ∧ ns.length ≤ 63 ∧ ∀ H', Q (.bl true) H'
theorem law_starts {K : PySem.W.Frag} {cl : Cls0} {φ : Fn} (hp : ∀ ns : List Int, ns.length ≤ 63 → φ [.scr ns] [] = some (.dat (.bool true), [])) : ∀ vs H Q E, spLaw K vs H Q E → FnD K cl φ vs H Q E := by
  rintro vs H Q E ⟨a, ns, rfl, hS, hl, q⟩
  refine ⟨[], [.scr ns], [], _, [], .cons ⟨a, rfl, ?_⟩ .nil, ⟨rfl, .nil, fun k a o h => by simp at h⟩, hp ns hl, fun v A' H' _ _ rv => ?_⟩
  · rcases hS with hS | hS
    · exact .inl ⟨hS, by simp⟩
    · exact .inr hS
  · cases rv; exact q H'
end Cy
end
section
set_option Elab.async false
set_option maxRecDepth 100000
namespace Cy
open PySem PySem.Spec PyProof.Rows L2
section
variable {X : Cx} {cl : Cls0} {pos : Pos}
/-- {}, a value -/
def eDic0 : Em := fun _ S => some (.dic [], S)
theorem ev_dic0 : Ev cl X (.Dict [] [] pos) eDic0 := by
  refine pe_imp pe_dnewK fun σ H Q ⟨A, δ, S, r, S', hs, hw, hf, q⟩ => ?_
  cases hf
  exact fun p hp => q _ A _ (.same (same_upd hp _)) (hw.same (same_upd hp _)) ⟨p, [], rfl, ⟨upd_same, hw.fresh hp⟩, .nil⟩
/-- the pairs of a display -/
def pEval : List (Em × Em) → Dl → SS → Option (List (Key × D) × SS)
  | [], _, S => some ([], S)
  | (f, g) :: r, δ, S => match f δ S with
    | some (.dat kd, S1) => (match keyOf kd with
      | some k => (match g δ S1 with
        | some (.dat d, S2) => (match pEval r δ S2 with
          | some (ps, S3) => some ((k, d) :: ps, S3)
          | none => none)
        | _ => none)
      | none => none)
    | _ => none
abbrev pNil : List (Em × Em) := []
abbrev pCons (f g : Em) (r : List (Em × Em)) : List (Em × Em) := (f, g) :: r
def trs (K : PySem.W.Frag) (cl : Cls0) (fs : List (Em × Em)) : List (TE × TE) := fs.map fun p => (tE K cl p.1, tE K cl p.2)
def Pv (cl : Cls0) (X : Cx) (pos : Pos) (ks : List (Option Expr)) (vs : List Expr) (fs : List (Em × Em)) : Prop := PPs X pos ks vs (trs X.K cl fs)
theorem pv_nil : Pv cl X pos [] [] pNil := pps_nil
theorem pv_cons {k v : Expr} {ks : List (Option Expr)} {vs : List Expr} {f g : Em} {r : List (Em × Em)} (hk : Ev cl X k f) (hv : Ev cl X v g) (hr : Pv cl X pos ks vs r) : Pv cl X pos (some k :: ks) (v :: vs) (pCons f g r) := pps_cons hk hv hr
theorem pairs_then {K : PySem.W.Frag} : ∀ {fs : List (Em × Em)} {σ : L2.St} {H : Hp} {A : List Addr} {δ : Dl} {S S1 : SS} {kvs : List (Key × D)} {Q : List (V × V) → Hp → Prop}, Sr K A H σ δ → Wr K cl A H S → pEval fs δ S = some (kvs, S1) →
    (∀ ks A1 H1, Ext A H A1 H1 → Wr K cl A1 H1 S1 → DrK K A1 H1 ks kvs → Sr K A1 H1 σ δ → Q (ks.map fun kv => (kV kv.1, kv.2)) H1) → tPairs (trs K cl fs) σ H Q := by
  intro fs
  induction fs with
  | nil =>
    intro σ H A δ S S1 kvs Q hs hw hf h
    cases hf
    exact h [] A H .refl hw .nil hs
  | cons p r ih =>
    obtain ⟨f, g⟩ := p
    intro σ H A δ S S1 kvs Q hs hw hf h
    unfold pEval at hf
    split at hf
    · rename_i kd S2 h1
      split at hf
      · rename_i k hk
        split at hf
        · rename_i d S3 h2
          split at hf
          · rename_i ps S4 h3
            cases hf
            refine tE_then hs hw h1 fun y A1 H1 e1 w1 ry s1 => tE_then s1 w1 h2 fun v A2 H2 e2 w2 rv s2 => ?_
            refine ih s2 w2 h3 fun ks A3 H3 e3 w3 rk s3 => ?_
            cases keyOf_dr hk ry
            exact h ((k, v) :: ks) A3 H3 (e1.trans (e2.trans e3)) w3 (.cons (Dr.mono e3 _ _ rv) rk) s3
          · cases hf
        · cases hf
      · cases hf
    · cases hf
/-- a display: an object of the store -/
def eDispO (fs : List (Em × Em)) : Em := fun δ S => match pEval fs δ (S ++ [.dic []]) with
  | some (kvs, S1) => (match lookK S1 S.length with
    | some [] => if kvs.length ≤ 15 then some (.obj S.length, S1.set S.length (.dic (mergeD [] kvs))) else none
    | _ => none)
  | none => none
abbrev eDisp := eDispO
theorem ev_dispO {ks : List (Option Expr)} {vs : List Expr} {fs : List (Em × Em)} (h : Pv cl X pos ks vs fs) (hall : ks.all (·.isSome) = true) (hl : ks.length = vs.length) (h0 : ks ≠ []) (h15 : ks.length ≤ 15) : Ev cl X (.Dict ks vs pos) (eDispO fs) := by
  refine pe_imp (pe_disp h hall hl h0 h15) fun σ H Q ⟨A, δ, S, r, S', hs, hw, hf, q⟩ => ?_
  unfold eDispO at hf
  split at hf
  · rename_i kvs S1 h1
    split at hf
    · rename_i h2
      split at hf
      · rename_i hz
        cases hf
        intro p hp
        have e0 : Ext A H (A ++ [p]) (upd H p (.dK [])) := Ext.push hp _
        have w0 : Wr X.K cl (A ++ [p]) (upd H p (.dK [])) (S ++ [.dic []]) := hw.push hp ⟨[], upd_same, .nil⟩
        have hp0 : (A ++ [p])[S.length]? = some p := by rw [← hw.len]; simp
        refine pairs_then (hs.mono e0) w0 h1 fun ks A1 H1 e1 w1 rk s1 => ?_
        have hp1 := e1.at_ hp0
        obtain ⟨ks0, o1, o2⟩ := w1.ob _ p _ hp1 (lookK_eq h2)
        cases o2
        have ew := Ext.write (H := H1) hp1 (.dK (mergeK [] ks))
        refine ⟨o1, ks, rfl, by rw [rk.length]; exact hz, q _ A1 _ (e0.trans (e1.trans ew)) (w1.write (ob := .dic (mergeD [] kvs)) hp1 ⟨_, upd_same, ?_⟩) ⟨p, rfl, hp1⟩⟩
        exact (DrK.merge rk .nil).mono ew
      · cases hf
    · cases hf
  · cases hf
theorem ev_disp {ks : List (Option Expr)} {vs : List Expr} {fs : List (Em × Em)} (h : Pv cl X pos ks vs fs) (hall : ks.all (·.isSome) = true) (hl : ks.length = vs.length) (h0 : ks ≠ []) (h15 : ks.length ≤ 15) : Ev cl X (.Dict ks vs pos) (eDisp fs) := ev_dispO h hall hl h0 h15

/-! ### d.update(e) -/
def tDUpd (td te : TE) : TE := fun σ H Q => td σ H fun x H1 => ∃ a, x = .ref a ∧ IsD H1 a ∧ te σ H1 fun y H2 => ∃ b kvs more, y = .ref b ∧ H2 a = some (.dK kvs) ∧ Rd H2 b (.dK more) ∧ a ≠ b ∧ kvs.length + more.length ≤ sizeLine ∧ Q .non (upd H2 a (.dK (mergeK kvs more)))
theorem KV.lengthEq {kvs : List (Key × V)} {vs : List (Key × Value)} (h : KV kvs vs) : kvs.length = vs.length := Paired.length h
theorem pe_dupdate {o e : Expr} {apos cpos : Pos} {td ty : TE} (ho : PE X o td) (he : PE X e ty) (m : M1 X o "update" apos e cpos) : PE X (.Call (.Attribute o "update" apos) [e] [] cpos) (tDUpd td ty) := by
  refine ⟨fun pins s σ H Q I h => ?_⟩
  refine wpAny_Call_method m.base m.few m.line PySem.F.plainAttrs_dict PySem.F.slot_dict_update (by first | exact PySem.F.type_dict_update | decide +kernel) (thn (ho.run pins s σ H _ I h) fun u s1 ⟨x, H1, I1, rx, a, ex, d, q1⟩ => ?_)
  subst ex
  obtain rfl : u = Value.ref a := rx
  obtain ⟨t1, t2, _⟩ := isD_at I1 d
  refine ⟨t1, t2, ?_⟩
  rw [m.trees]
  refine Calls.callWith_builtin rfl (Calls.evalArgs_plain (Calls.spliced_cons (thn (he.run pins s1 σ H1 _ I1 q1) fun iv s2 ⟨y, H2, I2, ry, b, kvs, more, ey, ea, eb, hne, hz, q2⟩ => Calls.spliced_nil ?_)))
  subst ey
  obtain rfl : iv = Value.ref b := ry
  obtain ⟨za, ha, vs, ra, da⟩ := dk_of I2.hok ea
  obtain ⟨zb, hb, vs2, rb, db⟩ := dk_rd I2.hok eb
  have la := KV.lengthEq ra
  have lb := KV.lengthEq rb
  refine call_meetsIn PySem.F.slot_dict_update da.typeIs PySem.F.entry_dict_update (PySem.F.args_dict_update_2 _ _) (meets_dict_update (mixKind X.prog X.w) a b hne hb) ⟨vs, vs2, da, db, by omega, fun h' d1 _ hs => ?_⟩
  have hz' : (mergeK kvs more).length ≤ sizeLine := by
    have h1 := length_mergeK more kvs
    omega
  have hx : ∃ q, h'.get? a = some q := let ⟨q, _, _, hq, _⟩ := d1; ⟨q, hq⟩
  exact ⟨.non, _, d_write I2 (by rw [ea]; exact True.intro) hs hx (dk_new hz' ha (rb.merge ra) d1), rfl, q2⟩
def apart (j : Nat) : R → Bool
  | .obj i => !decide (i = j)
  | .dic _ => true
  | _ => false
def eUpdate (fo fa : Em) : Em := fun δ S => match fo δ S with
  | some (.obj j, S1) => (match lookK S1 j with
    | some _ => (match fa δ S1 with
      | some (r, S2) => (match asKv S2 r with
        | some more => (match lookK S2 j with
          | some kvs => if apart j r = true ∧ kvs.length + more.length ≤ sizeLine then some (.dat .none, S2.set j (.dic (mergeD kvs more))) else none
          | none => none)
        | none => none)
      | none => none)
    | none => none)
  | _ => none
theorem ev_update {o e : Expr} {fo fa : Em} {apos : Pos} (ho : Ev cl X o fo) (he : Ev cl X e fa) (m : M1 X o "update" apos e pos := by exact ⟨rfl, rfl, rfl, rfl⟩) : Ev cl X (.Call (.Attribute o "update" apos) [e] [] pos) (eUpdate fo fa) := by
  refine pe_imp (pe_dupdate ho he m) fun σ H Q ⟨A, δ, S, r, S', hs, hw, hf, q⟩ => ?_
  unfold eUpdate at hf
  split at hf
  · rename_i j S1 h1
    split at hf
    · rename_i kv0 h0
      split at hf
      · rename_i ra S2 h2
        split at hf
        · rename_i more h3
          split at hf
          · rename_i kvs h4
            split at hf
            · rename_i hz
              cases hf
              refine tE_then hs hw h1 fun u A1 H1 e1 w1 ru s1 => ?_
              obtain ⟨a, rfl, ha⟩ := ru
              obtain ⟨k0, p1, p2⟩ := w1.ob _ a _ ha (lookK_eq h0)
              refine ⟨a, rfl, .inl ⟨_, .inl p1⟩, tE_then s1 w1 h2 fun y A2 H2 e2 w2 ry s2 => ?_⟩
              have ha2 := e2.at_ ha
              obtain ⟨ks, o1, o2⟩ := w2.ob _ a _ ha2 (lookK_eq h4)
              obtain ⟨b, ms, rfl, o3, o4⟩ := asKv_rel w2 ry h3
              have hab : a ≠ b := by
                rintro rfl
                cases ra with
                | dat d => simp [apart] at hz
                | scr ns => simp [apart] at hz
                | itm ns => simp [apart] at hz
                | dif ns => simp [apart] at hz
                | dic l =>
                  obtain ⟨a', ks', e', q1, _⟩ := ry
                  cases e'
                  exact q1.2 (List.mem_of_getElem? ha2)
                | obj i =>
                  obtain ⟨a', e', q1⟩ := ry
                  cases e'
                  have hij : i = j := by
                    obtain ⟨hi, ei⟩ := List.getElem?_eq_some_iff.mp q1
                    obtain ⟨hj, ej⟩ := List.getElem?_eq_some_iff.mp ha2
                    exact (List.getElem_inj w2.nd).mp (ei.trans ej.symm)
                  simp [apart, hij] at hz
              have ew := Ext.write (H := H2) ha2 (.dK (mergeK ks ms))
              refine ⟨b, ks, ms, rfl, o1, .inl o3, hab, by rw [o2.length, o4.length]; exact hz.2, q _ A2 _ (e1.trans (e2.trans ew)) (w2.write (ob := .dic (mergeD kvs more)) ha2 ⟨_, upd_same, ?_⟩) .non⟩
              exact (DrK.merge o4 o2).mono ew
            · cases hf
          · cases hf
        · cases hf
      · cases hf
    · cases hf
  · cases hf
end
end Cy
end
section
set_option Elab.async false
set_option maxRecDepth 100000
set_option maxHeartbeats 4000000
namespace Cy
open PySem PySem.Spec PyProof.Rows L2
theorem tuple_mul1 (l : Addr) (items : Array Value) (n : Nat) (dd : Option Addr) (sl : Array (Option Value)) (u : Tok) :
    Meets (Builtin.«tuple.__mul__» ⟨[.ref l, .int 1 u], []⟩) (fun _ R s => s.heap.get? l = some { cls := .type "tuple", dict := dd, data := .seq items n, slots := sl } ∧ R (.ok (.ret (Value.ref l))) s) :=
  .of_wp fun prog w A R s h => by
    obtain ⟨hp, g, d, tk, os⟩ := s
    obtain ⟨hl, h⟩ := h
    have f1 := AutoSeq1.idx_int
    have c0 : (decide ((1 : Int) < -(2 ^ 63)) || decide ((1 : Int) ≥ 2 ^ 63)) = false := by decide
    have c1 : (items.isEmpty || (1 : Int) == 1) = true := by simp
    wp_walk using wpAny_loadPart' hl
    repeat (first
      | (refine wpAny_ite_false (decide_eq_false (by rw [c0]; exact Bool.false_ne_true)) ?_; wp_walk using wpAny_loadPart' hl)
      | (refine wpAny_ite_true (decide_eq_true c1) ?_; wp_walk using wpAny_loadPart' hl))
    all_goals exact ⟨_, rfl, h⟩
theorem tuple_mul0 (l : Addr) (items : Array Value) (n : Nat) (dd : Option Addr) (sl : Array (Option Value)) (u : Tok) (hi : items.isEmpty = false) :
    Meets (Builtin.«tuple.__mul__» ⟨[.ref l, .int 0 u], []⟩) (fun _ R s => s.heap.get? l = some { cls := .type "tuple", dict := dd, data := .seq items n, slots := sl } ∧
      R (.ok (.ret (Value.ref s.heap.objs.size))) { s with heap := s.heap.push { cls := Value.type "tuple", data := Data.seq #[] }, toks := s.toks }) :=
  .of_wp fun prog w A R s h => by
    obtain ⟨hp, g, d, tk, os⟩ := s
    obtain ⟨hl, h⟩ := h
    have f1 := AutoSeq1.idx_int
    have c0 : (decide ((0 : Int) < -(2 ^ 63)) || decide ((0 : Int) ≥ 2 ^ 63)) = false := by decide
    have c1 : (items.isEmpty || (0 : Int) == 1) = false := by rw [hi]; rfl
    have c2 : (decide ((0 : Int) ≤ 0) || items.isEmpty) = true := by simp
    wp_walk using wpAny_loadPart' hl
    repeat (first
      | (refine wpAny_ite_false (decide_eq_false (by rw [c0]; exact Bool.false_ne_true)) ?_; wp_walk using wpAny_loadPart' hl)
      | (refine wpAny_ite_false (decide_eq_false (by rw [c1]; exact Bool.false_ne_true)) ?_; wp_walk using wpAny_loadPart' hl)
      | (refine wpAny_ite_true (decide_eq_true c2) ?_; wp_walk using wpAny_loadPart' hl))
    all_goals exact ⟨_, rfl, h⟩
def rRep1 (K : PySem.W.Frag) : R2 := fun x y H Q => ∃ l xs, x = .ref l ∧ y = .int 1 ∧ SqT K H l xs ∧ Q (.ref l) H
def rRep0 (K : PySem.W.Frag) : R2 := fun x y H Q => ∃ l xs, x = .ref l ∧ y = .int 0 ∧ SqT K H l xs ∧ xs ≠ [] ∧ NewT H [] Q
section
variable {X : Cx} {cl : Cls0}
theorem op_rep1 : OpR X (binaryOp .Mult) (rRep1 X.K) := by
  intro pins s σ H x y v u Q I rx ry h
  obtain ⟨l, xs, rfl, rfl, hT, q⟩ := h
  cases rx
  obtain ⟨t, rfl⟩ := ry
  obtain ⟨its, r, ⟨⟨cls, dd, data, sl⟩, ho, hc, n, hd⟩, hs⟩ := I.tuple hT
  simp only at hc hd
  subst hc hd
  exact wpAny_binaryOp_repeat_ref (T := "tuple") (U := "int") (by decide) ⟨_, ho, rfl⟩ (fun s' => typeIs_int s' 1 t) noFill_tuple_mul F.fills_int_mul F.slot_int_rmul repeat_tuple F.slot_int_index.lookup
    (call_meets F.slot_int_rmul (typeIs_int s 1 t) F.entry_int_rmul (F.args_int_rmul_2 _ _) (int_rmul_tuple 1 t l its.toArray n dd sl)
      ⟨ho, rfl, ⟨_, ho, rfl⟩, call_meets F.slot_tuple_mul ⟨_, ho, rfl⟩ F.entry_tuple_mul (F.args_tuple_mul_2 _ _) (tuple_mul1 l its.toArray n dd sl t) ⟨ho, ⟨.ref l, H, I, rfl, q⟩⟩⟩)
theorem op_rep0 : OpR X (binaryOp .Mult) (rRep0 X.K) := by
  intro pins s σ H x y v u Q I rx ry h
  obtain ⟨l, xs, rfl, rfl, hT, hne, q⟩ := h
  cases rx
  obtain ⟨t, rfl⟩ := ry
  obtain ⟨its, r, ⟨⟨cls, dd, data, sl⟩, ho, hc, n, hd⟩, hs⟩ := I.tuple hT
  simp only at hc hd
  subst hc hd
  have hi : its.toArray.isEmpty = false := by
    cases its with
    | nil => cases r; exact absurd rfl hne
    | cons a b => rfl
  refine wpAny_binaryOp_repeat_ref (T := "tuple") (U := "int") (by decide) ⟨_, ho, rfl⟩ (fun s' => typeIs_int s' 0 t) noFill_tuple_mul F.fills_int_mul F.slot_int_rmul repeat_tuple F.slot_int_index.lookup
    (call_meets F.slot_int_rmul (typeIs_int s 0 t) F.entry_int_rmul (F.args_int_rmul_2 _ _) (int_rmul_tuple 0 t l its.toArray n dd sl)
      ⟨ho, rfl, ⟨_, ho, rfl⟩, call_meets F.slot_tuple_mul ⟨_, ho, rfl⟩ F.entry_tuple_mul (F.args_tuple_mul_2 _ _) (tuple_mul0 l its.toArray n dd sl t hi) ⟨ho, ?_⟩⟩)
  exact laidT I .nil (Nat.zero_le _) q
/-- t * k, k two and more -/
def rRepF (K : PySem.W.Frag) : R2 := fun x y H Q => ∃ l k xs, x = .ref l ∧ y = .int k ∧ SqT K H l xs ∧ xs ≠ [] ∧ 2 ≤ k ∧ k ≤ 1000 ∧ xs.length ≤ 1000 ∧ NewT H (List.replicate k.toNat xs).flatten Q
theorem op_repF : OpR X (binaryOp .Mult) (rRepF X.K) := by
  intro pins s σ H x y v u Q I rx ry h
  obtain ⟨l, k, xs, rfl, rfl, hT, hne, h1, h2, hz, q⟩ := h
  cases rx
  obtain ⟨t, rfl⟩ := ry
  obtain ⟨its, r, ⟨⟨cls, dd, data, sl⟩, ho, hc, n, hd⟩, hs⟩ := I.tuple hT
  simp only at hc hd
  subst hc hd
  have hle : its.length = xs.length := r.length.symm
  have hi : its.toArray.isEmpty = false := by
    cases its with
    | nil => cases r; exact absurd rfl hne
    | cons a b => rfl
  have a1 : k.toNat * xs.length ≤ 1000 * 1000 := Nat.mul_le_mul (by omega) hz
  have hm : ((its.toArray.size : Nat) : Int) * k ≤ 1000000 := by
    have e : ((its.toArray.size : Nat) : Int) * k = ((k.toNat * xs.length : Nat) : Int) := by
      rw [List.size_toArray, hle, Int.natCast_mul, Int.toNat_of_nonneg (by omega), Int.mul_comm]
    omega
  have fl : (List.replicate k.toNat xs).flatten.length ≤ sizeLine := by rw [PyProof.Rows.lm_len_rep_flat, sizeLine_eq]; omega
  have c0 : (decide (k < -(2 ^ 63)) || decide (k ≥ 2 ^ 63)) = false := by rw [decide_eq_false (by omega), decide_eq_false (by omega)] <;> rfl
  have c1 : (its.toArray.isEmpty || k == 1) = false := by rw [hi, Bool.false_or]; exact beq_eq_false_iff_ne.mpr (by omega)
  have c2 : (decide (k ≤ 0) || its.toArray.isEmpty) = false := by rw [hi, Bool.or_false]; exact decide_eq_false (by omega)
  have c4 : Builtin.Tuple.tupleTooMany (((its.toArray.size : Nat) : Int) * k) = false := by unfold Builtin.Tuple.tupleTooMany; rw [sizeLine_eq]; exact decide_eq_false (by omega)
  have rr := r.rep k.toNat
  refine wpAny_binaryOp_repeat_ref (T := "tuple") (U := "int") (by decide) ⟨_, ho, rfl⟩ (fun s' => typeIs_int s' k t) noFill_tuple_mul F.fills_int_mul F.slot_int_rmul repeat_tuple F.slot_int_index.lookup
    (call_meets F.slot_int_rmul (typeIs_int s k t) F.entry_int_rmul (F.args_int_rmul_2 _ _) (int_rmul_tuple k t l its.toArray n dd sl)
      ⟨ho, rfl, ⟨_, ho, rfl⟩, call_meets F.slot_tuple_mul ⟨_, ho, rfl⟩ F.entry_tuple_mul (F.args_tuple_mul_2 _ _) (tuple_mulW l its.toArray n dd sl k t c0 c1 c2 (by omega) c4 (by rw [size_rep, List.size_toArray, ← rr.length]; exact fl)) ⟨ho, ?_⟩⟩)
  rw [size_rep]
  exact laidT I rr fl q
def rTm (K : PySem.W.Frag) : R2 := fun x y H Q => (rRep1 K x y H Q ∨ rRep0 K x y H Q) ∨ rRepF K x y H Q
theorem or_tmul : OpR X (binaryOp .Mult) (rTm X.K) := (op_rep1.or op_rep0).or op_repF
/-- a tuple, so many times -/
def tmulD : D → D → Option D
  | .tuple (d :: ds), .int k => if 0 ≤ k ∧ k ≤ 1000 ∧ (d :: ds).length ≤ 1000 then some (.tuple (List.replicate k.toNat (d :: ds)).flatten) else none
  | _, _ => none
theorem od_tmul {K : PySem.W.Frag} : OpD2 K tmulD (rTm K) := by
  intro A H x y a b d Q f hx hy e q
  unfold tmulD at e
  split at e
  · rename_i d0 ds k
    split at e
    · rename_i hc
      cases e
      obtain ⟨p, xs, rfl, h1, h2⟩ := hx.tuple
      cases hy.int
      have hne : xs ≠ [] := fun z => by subst z; cases h2
      by_cases h0 : k = 0
      · subst h0
        refine .inl (.inr ⟨p, xs, rfl, rfl, h1.sq, hne, fun l o hl ho => q _ _ (same_upd hl _) ?_⟩)
        exact new_tup f hl ho .nil (Nat.zero_le _)
      · by_cases h1' : k = 1
        · subst h1'
          refine .inl (.inl ⟨p, xs, rfl, rfl, h1.sq, q _ H (Same.refl H) ?_⟩)
          have e1 : (List.replicate (1 : Int).toNat (d0 :: ds)).flatten = d0 :: ds := by simp
          rw [e1]
          exact .tup h1 h2
        · refine .inr ⟨p, _, xs, rfl, rfl, h1.sq, hne, by omega, hc.2.1, by rw [h2.length]; exact hc.2.2, fun l o hl ho => q _ _ (same_upd hl _) (new_tup f hl ho (h2.rep _) ?_)⟩
          rw [len_rep, sizeLine_eq]
          have := Nat.mul_le_mul hc.2.2 (show _ ≤ 1000 from Int.toNat_le.mpr hc.2.1)
          omega
    · cases e
  · cases e

/-! ### l.index(x) -/
def indexD : D → D → Option D
  | .list ds, d => if SeqAt.shaped (.list ds) && SeqAt.shaped d then (match ds.findIdx? fun z => PyData.eqv z d with
    | some j => some (.int (j : Nat))
    | none => none) else none
  | _, _ => none
def eIndex (fo fe : Em) : Em := fun δ S => match fo δ S with
  | some (.dat (.list ds), S1) => (match fe δ S1 with
    | some (.dat d, S2) => (match indexD (.list ds) d with
      | some r => some (.dat r, S2)
      | none => none)
    | _ => none)
  | _ => none
theorem ev_index {pos : Pos} {o e : Expr} {fo fv : Em} {apos : Pos} {n : Nat} (hr : Room n X.A) (ho : Ev cl X o fo) (he : Ev cl X e fv) (hbase : attributeBase o "index" X.env (eval o X.env) = eval o X.env := by rfl)
    (hfew : ((backTo pos (starEach [e] X.env)).all (fun x => !x.1) && (backToKw pos (keywordEach [] X.env)).all (fun x => x.1.isSome)
      && decide ([e].length + ([] : List Keyword).length + (if ([] : List Keyword).isEmpty then 0 else 1) < 30)) = true := by rfl)
    (hline : (apos.endLine == pos.line) = true := by rfl) (hs : starEach [e] X.env = (false, eval e X.env) :: starEach [] X.env := by rfl) (hplain : (backTo pos (starEach [] X.env)).any (·.1) = false := by rfl) :
    Ev cl X (.Call (.Attribute o "index" apos) [e] [] pos) (eIndex fo fv) := by
  refine pe_imp (pe_bm PySem.F.plainAttrs_list PySem.F.slot_list_index PySem.F.type_list_index (mt_indexD (u65 hr)) ho (pa_cons he pa_nil hs) hbase hfew hline hs hplain) fun σ H Q ⟨A, δ, S, r, S', hs, hw, hf, q⟩ => ?_
  unfold eIndex at hf
  split at hf
  · rename_i ds S1 h1
    split at hf
    · rename_i d S2 h2
      split at hf
      · rename_i r0 h3
        cases hf
        unfold indexD at h3
        simp only at h3
        split at h3
        · rename_i hsh
          split at h3
          · rename_i j hj
            cases h3
            rw [Bool.and_eq_true] at hsh
            refine tE_then hs hw h1 fun v A1 H1 e1 w1 rv s1 => ?_
            have rv' : Dr X.K A1 H1 v (.list ds) := rv
            cases rv' with
            | @lst a xs _ t1 t2 =>
              refine ⟨.inl ⟨rfl, _, t1.sq⟩, tE_then s1 w1 h2 fun u A2 H2 e2 w2 ru s2 => ?_⟩
              have rl : Dr X.K A2 H2 (.ref a) (.list ds) := Dr.mono e2 _ _ (.lst t1 t2)
              have hp := List.findIdx?_eq_some_iff_getElem.mp hj
              obtain ⟨hlt, hz, hno⟩ := hp
              refine ⟨a, u, d, ds, j, ds[j], rfl, rfl, Dr.dp _ _ rl, Dr.dp _ _ ru, hsh.1, hsh.2, List.getElem?_eq_getElem hlt, hz, fun m z' hm hz' => ?_, q _ A2 H2 (e1.trans e2) w2 (.int _)⟩
              obtain ⟨hml, rfl⟩ := List.getElem?_eq_some_iff.mp hz'
              simpa using hno m hm
          · cases h3
        · cases h3
      · cases hf
    · cases hf
  · cases hf
end
end Cy
end
section
set_option Elab.async false
set_option maxRecDepth 100000
namespace Cy
open PySem PySem.Spec PyProof.Rows L2

/-! ### objects of the program's classes -/
def putFD (f : Str) (d : D) : List (Str × D) → List (Str × D)
  | [] => [(f, d)]
  | (g, x) :: r => if g = f then (g, d) :: r else (g, x) :: putFD f d r
section
variable {K : PySem.W.Frag} {cl : Cls0} {A A' : List Addr} {H H' : Hp} {S S' : SS}
theorem DrF.put {vs : List (Str × V)} {fs : List (Str × D)} (h : DrF K A H vs fs) (f : Str) {v : V} {d : D} (hv : Dr K A H v d) : DrF K A H (putF f v vs) (putFD f d fs) := by
  induction h with
  | nil => exact .cons hv .nil
  | @cons k u x us xs h1 h2 ih =>
    unfold putF putFD
    by_cases e : k = f
    · rw [if_pos e, if_pos e]; exact .cons hv h2
    · rw [if_neg e, if_neg e]; exact .cons h1 ih
theorem DrF.length {vs : List (Str × V)} {fs : List (Str × D)} (h : DrF K A H vs fs) : vs.length = fs.length := by
  induction h with
  | nil => rfl
  | cons _ _ ih => rw [List.length_cons, List.length_cons, ih]
theorem DrF.look {vs : List (Str × V)} {fs : List (Str × D)} (h : DrF K A H vs fs) {f : Str} {d : D} (e : fs.lookup f = some d) : ∃ v, vs.lookup f = some v ∧ Dr K A H v d := by
  induction h with
  | nil => cases e
  | @cons k u x us xs h1 h2 ih =>
    rw [List.lookup] at e
    rw [List.lookup]
    cases q : f == k with
    | true => rw [q] at e; cases e; exact ⟨_, rfl, h1⟩
    | false => rw [q] at e; exact ih e
theorem DrF.miss {vs : List (Str × V)} {fs : List (Str × D)} (h : DrF K A H vs fs) {f : Str} (e : fs.lookup f = none) : vs.lookup f = none := by
  induction h with
  | nil => rfl
  | @cons k u x us xs h1 h2 ih =>
    rw [List.lookup] at e
    rw [List.lookup]
    cases q : f == k with
    | true => rw [q] at e; cases e
    | false => rw [q] at e; exact ih e
end
def insAt (c : Str) (S : SS) : R → Option (Nat × List (Str × D))
  | .obj k => (match S[k]? with
    | some (.ins c' fs) => if c' = c then some (k, fs) else none
    | _ => none)
  | _ => none
theorem insAt_eq {c : Str} {S : SS} {r : R} {k : Nat} {fs : List (Str × D)} (h : insAt c S r = some (k, fs)) : r = .obj k ∧ S[k]? = some (.ins c fs) := by
  unfold insAt at h
  split at h
  · split at h
    · split at h
      · rename_i q; cases h; subst q; exact ⟨rfl, by assumption⟩
      · cases h
    · cases h
  · cases h
/-- o.f -/
def eFld (c f : Str) (fo : Em) : Em := fun δ S => match fo δ S with
  | some (r, S1) => (match insAt c S1 r with
    | some (_, fs) => (match fs.lookup f with
      | some d => some (.dat d, S1)
      | none => none)
    | none => none)
  | none => none
/-- o.f = e -/
def sFld (c f : Str) (fo fv : Em) : Sm := fun δ S => match fv δ S with
  | some (.dat d, S1) => (match fo δ S1 with
    | some (r, S2) => (match insAt c S2 r with
      | some (k, fs) => if fs.length < 1000 then some (.nx δ, S2.set k (.ins c (putFD f d fs))) else none
      | none => none)
    | none => none)
  | _ => none
/-- o.m(..) -/
def eMeth (c m : Str) (φ : Fn) (fo : Em) (g : Am) : Em := fun δ S => match fo δ S with
  | some (r, S1) => (match insAt c S1 r with
    | some (_, fs) => (match fs.lookup m with
      | none => (match g δ S1 with
        | some (rs, S2) => φ (r :: rs) S2
        | none => none)
      | some _ => none)
    | none => none)
  | none => none
/-- C(..) -/
def eMake (c : Str) (φ : Fn) (g : Am) : Em := fun δ S => match g δ S with
  | some (rs, S1) => (match φ (.obj S1.length :: rs) (S1 ++ [.ins c []]) with
    | some (.dat .none, S2) => some (.obj S1.length, S2)
    | _ => none)
  | none => none
section
variable {X : Cx} {cl : Cls0} {pos pos' apos : Pos} {A : List Addr} {H : Hp} {K : PySem.W.Frag} {e o v : Expr} {es : List Expr} {f fo fk fv : Em} {g : Am} {S : SS} {c m : Str}
theorem ev_fld (C : Cls X.K (cl c)) (N : NoAttr X.K (cl c) m) (ho : Ev cl X o fo) (hb : attributeBase o m X.env (eval o X.env) = eval o X.env := by rfl) : Ev cl X (.Attribute o m pos) (eFld c m fo) := by
  refine pe_imp (pe_fld ho hb) fun σ H Q ⟨A, δ, S, r, S', hs, hw, hf, q⟩ => ?_
  unfold eFld at hf
  split at hf
  · rename_i r1 S1 h1
    split at hf
    · rename_i k fs h2
      split at hf
      · rename_i d h3
        cases hf
        obtain ⟨rfl, h4⟩ := insAt_eq h2
        refine tE_then hs hw h1 fun v A1 H1 e1 w1 rv s1 => ?_
        obtain ⟨a, rfl, ha⟩ := rv
        obtain ⟨dx, vs, o1, o2⟩ := w1.ob _ a _ ha h4
        obtain ⟨y, y1, y2⟩ := o2.look h3
        exact ⟨a, cl c, dx, vs, y, rfl, o1, C, N, y1, q y A1 H1 e1 w1 y2⟩
      · cases hf
    · cases hf
  · cases hf
theorem sv_fld (C : Cls X.K (cl c)) (N : NoAttr X.K (cl c) m) (ho : Ev cl X o fo) (hv : Ev cl X v fv) (hs : swapsWith v (some (.Attribute o m pos')) pos.line X.env = pure false := by rfl) : Sv cl X (.Assign [.Attribute o m pos'] v pos) (sFld c m fo fv) := by
  refine ps_imp (ps_fld ho hv hs) fun E σ H ⟨A, δ, S, fl, S', hs, hw, hf, q⟩ => ?_
  unfold sFld at hf
  split at hf
  · rename_i d S1 h1
    split at hf
    · rename_i r S2 h2
      split at hf
      · rename_i k fs h3
        split at hf
        · rename_i hz
          cases hf
          obtain ⟨rfl, h4⟩ := insAt_eq h3
          refine tE_then hs hw h1 fun y A1 H1 e1 w1 ry s1 => tE_then s1 w1 h2 fun u A2 H2 e2 w2 ru s2 => ?_
          obtain ⟨a, rfl, ha⟩ := ru
          obtain ⟨dx, vs, o1, o2⟩ := w2.ob _ a _ ha h4
          have ew := Ext.write (H := H2) ha (.ins (cl c) dx (putF m y vs))
          refine ⟨a, cl c, dx, vs, rfl, o1, C, N, by rw [o2.length]; exact hz, q σ A2 _ (e1.trans (e2.trans ew)) (w2.write (ob := .ins c (putFD m d fs)) ha ⟨dx, _, upd_same, ?_⟩) (s2.mono ew)⟩
          exact (o2.put m (Dr.mono e2 _ _ ry)).mono ew
        · cases hf
      · cases hf
    · cases hf
  · cases hf
def tMethT (C : Addr) (m : Str) (sp : Sp) (ta : TE) (t : TA) : TE := fun σ H Q => ta σ H fun x H1 => ∃ a dx fs, x = .ref a ∧ H1 a = some (.ins C dx fs) ∧ fs.lookup m = none ∧ t σ H1 fun vs H2 => sp (x :: vs) H2 Q E0
theorem pe_methT {n : Nat} {f C : Addr} {fd : FuncData} {ps : List Str} {sp : Sp} {ta : TE} {t : TA} {pl : Sem Bool} (F : FnT X.prog X.w X.K X.mg X.base n f fd ps sp) (room : RoomT n X.A) (hc : Cls X.K C) (hm : Meth X.K C m f) (bd : Binds X.K fd ps []) (ho : PE X o ta) (ha : PA X (e :: es) t)
    (h1 : starEach (e :: es) X.env = (false, eval e X.env) :: starEach es X.env) (h2 : (backTo pos (starEach es X.env)).any (·.1) = false)
    (h3 : eval (.Call (.Attribute o m apos) (e :: es) [] pos) X.env = (do let y ← eval o X.env; standAt apos.atName; let (h, one) ← holding [y] (getMethod y m pl); callWith pos h one (backTo pos (starEach (e :: es) X.env)) (backToKw pos (keywordEach [] X.env)))) :
    PE X (.Call (.Attribute o m apos) (e :: es) [] pos) (tMethT C m sp ta t) := ⟨fun pins s σ H Q J want => by
  refine PySem.W.methodCall_KW (pl := pl) (thn (ho.run pins s σ H _ J want) fun u s1 ⟨x, H1, J1, rx, a, dx, fs, ex, at_, no, q⟩ => ?_) h3
  subst ex
  cases (show u = Value.ref a from rx)
  exact getmeth_ok J1 at_ hc hm no (PySem.W.callWith_K (first := [.ref a]) (h₀ := X.base) J.ok.mod.kin hm.kp (thn (ha.run pos pins s1 σ H1 _ J1 q)
    fun us s2 ⟨vs, H2, J2, rel, q2⟩ => ⟨J2.kIn, runT (us := .ref a :: us) (vs := .ref a :: vs) F room bd J2 (.cons rfl rel) q2⟩) h1 h2)⟩
theorem ev_meth {n : Nat} {φ : Fn} {pl : Sem Bool} (C : CalleeM X.prog X.w X.K X.mg X.base cl n c m φ) (room : RoomT n X.A) (hc : Cls X.K (cl c)) (ho : Ev cl X o fo) (ha : Av cl X (e :: es) g)
    (h1 : starEach (e :: es) X.env = (false, eval e X.env) :: starEach es X.env := by rfl) (h2 : (backTo pos (starEach es X.env)).any (·.1) = false := by rfl)
    (h3 : eval (.Call (.Attribute o m apos) (e :: es) [] pos) X.env = (do let y ← eval o X.env; standAt apos.atName; let (h, one) ← holding [y] (getMethod y m pl); callWith pos h one (backTo pos (starEach (e :: es) X.env)) (backToKw pos (keywordEach [] X.env))) := by rfl) :
    Ev cl X (.Call (.Attribute o m apos) (e :: es) [] pos) (eMeth c m φ fo g) := by
  obtain ⟨fa, fd, ps, F, hm, hb⟩ := C.ex
  refine pe_imp (pe_methT (pl := pl) F room hc hm hb ho ha h1 h2 h3) fun σ H Q ⟨A, δ, S, r, S', hs, hw, hf, q⟩ => ?_
  unfold eMeth at hf
  split at hf
  · rename_i r1 S1 f1
    split at hf
    · rename_i k fs f2
      split at hf
      · rename_i f3
        split at hf
        · rename_i rs S2 f4
          obtain ⟨rfl, f5⟩ := insAt_eq f2
          refine tE_then hs hw f1 fun x A1 H1 e1 w1 rx s1 => ?_
          obtain ⟨a, rfl, ha⟩ := rx
          obtain ⟨dx, vs, o1, o2⟩ := w1.ob _ a _ ha f5
          refine ⟨a, dx, vs, rfl, o1, o2.miss f3, tA_then s1 w1 f4 fun us A2 H2 e2 w2 ru s2 => ?_⟩
          exact ⟨A2, .obj k :: rs, S2, r, S', .cons ⟨a, rfl, e2.at_ ha⟩ ru, w2, hf, fun y A3 H3 e3 w3 ry => q y A3 H3 (e1.trans (e2.trans e3)) w3 ry⟩
        · cases hf
      · cases hf
    · cases hf
  · cases hf
theorem ev_make {n : Nat} {p : Pos} {φ : Fn} (C : CalleeC X.prog X.w X.K X.mg X.base cl c φ) (room : RoomT n X.A) (hg : Gl X c) (ha : Av cl X (e :: es) g)
    (hdb : (c == ("__debug__" : Str)) = false) (he : starEach (e :: es) X.env = (false, eval e X.env) :: starEach es X.env := by rfl) (hpl : (backTo pos (starEach es X.env)).any (·.1) = false := by rfl) :
    Ev cl X (.Call (.Name c p) (e :: es) [] pos) (eMake c φ g) := by
  obtain ⟨fa, fd, ps, F, M, hm, hb⟩ := C.ex
  refine pe_imp (pe_make M F room.low hg hm hb .nil pass0 ha hdb he hpl) fun σ H Q ⟨A, δ, S, r, S', hs, hw, hf, q⟩ => ?_
  unfold eMake at hf
  split at hf
  · rename_i rs S1 h1
    split at hf
    · rename_i S2 h2
      cases hf
      refine tA_then hs hw h1 fun vs A1 H1 e1 w1 rv s1 y dx ny ndx ne => ?_
      rw [List.append_nil]
      have e0 : Ext A1 H1 A1 (upd H1 dx (.own y)) := .same (same_upd ndx _)
      have w0 : Wr X.K cl A1 (upd H1 dx (.own y)) S1 := w1.same (same_upd ndx _)
      have ny' : upd H1 dx (.own y) y = none := by rw [upd_ne (Ne.symm ne)]; exact ny
      have e2 := Ext.push (A := A1) ny' (.ins (cl c) dx [])
      have w2 : Wr X.K cl (A1 ++ [y]) _ (S1 ++ [.ins c []]) := w0.push ny' ⟨dx, [], upd_same, .nil⟩
      have hy : (A1 ++ [y])[S1.length]? = some y := by rw [← w1.len]; simp
      refine ⟨A1 ++ [y], .obj S1.length :: rs, _, _, _, .cons ⟨y, rfl, hy⟩ (rv.mono (e0.trans e2)), w2, h2, fun u A3 H3 e3 w3 ru => ?_⟩
      cases ru
      exact ⟨rfl, q _ A3 H3 (e1.trans (e0.trans (e2.trans e3))) w3 ⟨y, rfl, e3.at_ hy⟩⟩
    · cases hf
  · cases hf
end
end Cy
end
section
set_option Elab.async false
set_option maxRecDepth 100000
set_option maxHeartbeats 4000000
/-! list(zip(t, u)) of two tuples -/
namespace Zl
open PySem
open PySem.Sem (wp)
section
variable {prog : Program} {w : World} {A : Around} {E : Value → Shared → Prop} {s : Shared}
/-- a pair is given out while the one before is still held -/
theorem held_step {z u v p i j a b : Addr} {f : Bool} {op : Obj} {m n : Nat} {xs ys : Array Value} {x y : Value} {Q : Value → Shared → Prop} (D : ZipApart z u v i j a b)
    (zz : IsZipHeld s.heap z u v p f) (zp : s.heap.get? p = some op) (zu : IsPair s.heap u (.ref i) (.ref j)) (zi : s.heap.IsTupleIter i a m) (zj : s.heap.IsTupleIter j b n) (za : s.heap.IsTuple a xs) (zb : s.heap.IsTuple b ys)
    (ex : xs[m]? = some x) (ey : ys[n]? = some y)
    (go : ∀ h', IsZipHeld h' z u v p true → h'.IsTupleIter i a (m + 1) → h'.IsTupleIter j b (n + 1) → IsPair h' s.heap.objs.size x y → h'.objs.size = s.heap.objs.size + 1 →
      (∀ c o, c ≠ z → c ≠ i → c ≠ j → s.heap.get? c = some o → h'.get? c = some o) → Q (.ref s.heap.objs.size) { s with heap := h' }) :
    wpAny (model prog w) A (Builtin.«zip.__next__» ⟨[.ref z], []⟩) (fun fin s' => ∃ r, fin = .done (.ret r) ∧ Q r s') E s := by
  show wpAny (model prog w) A (field (.ref z) 2 >>= _) _ E s; refine wpAny_bind (wpAny_field zz rfl (x := .bool false) rfl ?_)
  show wpAny (model prog w) A (field (.ref z) 3 >>= _) _ E s; refine wpAny_bind (wpAny_field zz rfl (x := .ref u) rfl (wpAny_bind (wpAny_seqItems zu rfl ?_)))
  show wpAny (model prog w) A (Builtin.SmallTypes.ownedTupleIsFree (.ref z) >>= _) _ E s; refine wpAny_bind (wpAny_tupleHeld_zip zz zp fun g1 z1 b1 => ?_)
  simp only [Bool.false_eq_true, if_false]; refine wpAny_bind ?_
  rw [← Array.forIn_toList]; simp only [List.forIn_cons, List.forIn_nil]; refine wpAny_bind (wpAny_bind (wpAny_holding ?_))
  show wpAny (model prog w) A (Builtin.SmallTypes.nextOf (.ref i) >>= _) _ E _
  refine wpAny_bind (RZ.nextOf_tuple_item (s := { s with heap := g1 }) (zi.extBut b1.extBut D.i1z) (za.extBut b1.extBut D.l1z) ex fun g2 i2 b2 => wpAny_pure (wpAny_pure (wpAny_bind (wpAny_bind (wpAny_holding ?_)))))
  show wpAny (model prog w) A (Builtin.SmallTypes.nextOf (.ref j) >>= _) _ E _
  refine wpAny_bind (RZ.nextOf_tuple_item (s := { s with heap := g2 }) ((zj.extBut b1.extBut D.i2z).extBut b2.extBut D.i12.symm) ((zb.extBut b1.extBut D.l2z).extBut b2.extBut D.l2i1) ey fun g3 j3 b3 => wpAny_pure (wpAny_pure (wpAny_pure ?_)))
  show wpAny (model prog w) A (newTuple [x, y] >>= _) _ E _; refine wpAny_bind (wpAny_newTuple (wpAny_pure ⟨_, rfl, ?_⟩))
  have size : g3.objs.size = s.heap.objs.size := b3.1.trans (b2.1.trans b1.1)
  have kept : ∀ c o, c ≠ z → c ≠ i → c ≠ j → s.heap.get? c = some o → g3.get? c = some o := fun c o n1 n2 n3 q => b3.extBut _ _ n3 (b2.extBut _ _ n2 (b1.extBut _ _ n1 q))
  have z3 : IsZipHeld g3 z u v p true := b3.extBut _ _ D.i2z.symm (b2.extBut _ _ D.i1z.symm z1)
  have new : IsPair (g3.push { cls := .type "tuple", data := .seq #[x, y] }) g3.objs.size x y := Heap.get?_push_size _ rfl
  have grown : (g3.push { cls := .type "tuple", data := .seq #[x, y] }).objs.size = g3.objs.size + 1 := Heap.size_push ..
  show Q (.ref g3.objs.size) _
  rw [size] at new grown ⊢
  exact go _ (Heap.get?_push_of_some _ z3) ((i2.extBut b3.extBut D.i12).at fun o q => Heap.get?_push_of_some _ q) (j3.at fun o q => Heap.get?_push_of_some _ q) new grown fun c o n1 n2 n3 q => Heap.get?_push_of_some _ (kept c o n1 n2 n3 q)
theorem held_stop {z u v p i j a b : Addr} {f : Bool} {op : Obj} {m n : Nat} {xs ys : Array Value} {Q : Fin → Shared → Prop} (calm : A.handled = none) (D : ZipApart z u v i j a b)
    (zz : IsZipHeld s.heap z u v p f) (zp : s.heap.get? p = some op) (zu : IsPair s.heap u (.ref i) (.ref j)) (zi : s.heap.IsTupleIter i a m) (zj : s.heap.IsTupleIter j b n) (za : s.heap.IsTuple a xs) (zb : s.heap.IsTuple b ys)
    (over : xs[m]? = none ∨ ys[n]? = none)
    (go : ∀ h' e, (∀ c o, c ≠ z → c ≠ i → c ≠ j → s.heap.get? c = some o → h'.get? c = some o) → (∃ o, h'.get? e = some o ∧ o.cls = .type "StopIteration") → E (.ref e) { s with heap := h' }) :
    wpAny (model prog w) A (Builtin.«zip.__next__» ⟨[.ref z], []⟩) Q E s := by
  show wpAny (model prog w) A (field (.ref z) 2 >>= _) _ E s; refine wpAny_bind (wpAny_field zz rfl (x := .bool false) rfl ?_)
  show wpAny (model prog w) A (field (.ref z) 3 >>= _) _ E s; refine wpAny_bind (wpAny_field zz rfl (x := .ref u) rfl (wpAny_bind (wpAny_seqItems zu rfl ?_)))
  show wpAny (model prog w) A (Builtin.SmallTypes.ownedTupleIsFree (.ref z) >>= _) _ E s; refine wpAny_bind (wpAny_tupleHeld_zip zz zp fun g1 z1 b1 => ?_)
  simp only [Bool.false_eq_true, if_false]; refine wpAny_bind ?_
  rw [← Array.forIn_toList]; simp only [List.forIn_cons, List.forIn_nil]; refine wpAny_bind (wpAny_bind (wpAny_holding ?_))
  show wpAny (model prog w) A (Builtin.SmallTypes.nextOf (.ref i) >>= _) _ E _
  cases ex : xs[m]? with
  | none => exact wpAny_bind (RZ.nextOf_tuple_end (s := { s with heap := g1 }) calm (zi.extBut b1.extBut D.i1z) (za.extBut b1.extBut D.l1z) ex fun g2 e b2 st => go g2 e (fun c o n1 n2 _ q => b2 _ _ n2 (b1.extBut _ _ n1 q)) st)
  | some x =>
    have ey : ys[n]? = none := over.resolve_left (by rw [ex]; exact fun q => nomatch q)
    refine wpAny_bind (RZ.nextOf_tuple_item (s := { s with heap := g1 }) (zi.extBut b1.extBut D.i1z) (za.extBut b1.extBut D.l1z) ex fun g2 i2 b2 => wpAny_pure (wpAny_pure (wpAny_bind (wpAny_bind (wpAny_holding ?_)))))
    show wpAny (model prog w) A (Builtin.SmallTypes.nextOf (.ref j) >>= _) _ E _
    exact wpAny_bind (RZ.nextOf_tuple_end (s := { s with heap := g2 }) calm ((zj.extBut b1.extBut D.i2z).extBut b2.extBut D.i12.symm) ((zb.extBut b1.extBut D.l2z).extBut b2.extBut D.l2i1) ey
      fun g3 e b3 st => go g3 e (fun c o n1 n2 n3 q => b3 _ _ n3 (b2.extBut _ _ n2 (b1.extBut _ _ n1 q))) st)

/-- the state of the zip after m pairs, N the heap's size ahead of the first -/
structure Zs (z u v i j a b N : Nat) (xs ys : Array Value) (m : Nat) (h : Heap) : Prop where
  zu : IsPair h u (.ref i) (.ref j)
  zi : h.IsTupleIter i a m
  zj : h.IsTupleIter j b m
  za : h.IsTuple a xs
  zb : h.IsTuple b ys
  size : h.objs.size = N + m
  pairs : ∀ k x y, k < m → xs[k]? = some x → ys[k]? = some y → IsPair h (N + k) x y
  st : (IsZip h z u v .none ∧ ∃ c d, IsPair h v c d) ∨ ∃ (p : Nat) (f : Bool) (op : Obj), IsZipHeld h z u v p f ∧ h.get? p = some op ∧ N ≤ p
theorem Zs.upd {z u v i j a b N S : Nat} {xs ys : Array Value} {m : Nat} {h h' : Heap} (q : Zs z u v i j a b N xs ys m h) (low : z < N ∧ u < N ∧ v < N ∧ i < N ∧ j < N ∧ a < N ∧ b < N) (hS : S < N) (apart : S ≠ z ∧ S ≠ u ∧ S ≠ v ∧ S ≠ i ∧ S ≠ j ∧ S ≠ a ∧ S ≠ b)
    (size : h'.objs.size = h.objs.size) (k : ∀ c o, c ≠ S → h.get? c = some o → h'.get? c = some o) : Zs z u v i j a b N xs ys m h' where
  zu := k _ _ apart.2.1.symm q.zu
  zi := q.zi.at fun o e => k _ o apart.2.2.2.1.symm e
  zj := q.zj.at fun o e => k _ o apart.2.2.2.2.1.symm e
  za := let ⟨o, e, r⟩ := q.za; ⟨o, k _ o apart.2.2.2.2.2.1.symm e, r⟩
  zb := let ⟨o, e, r⟩ := q.zb; ⟨o, k _ o apart.2.2.2.2.2.2.symm e, r⟩
  size := size.trans q.size
  pairs := fun c x y hc e1 e2 => k _ _ (by omega) (q.pairs c x y hc e1 e2)
  st := by
    rcases q.st with ⟨e, c, d, f⟩ | ⟨p, f, op, e1, e2, e3⟩
    · exact .inl ⟨k _ _ apart.1.symm e, c, d, k _ _ apart.2.2.1.symm f⟩
    · exact .inr ⟨p, f, op, k _ _ apart.1.symm e1, k _ _ (by omega) e2, e3⟩
/-- next of it, whichever way -/
theorem Zs.item {z u v i j a b N : Nat} {xs ys : Array Value} {m : Nat} {x y : Value} {Q : Option Value → Shared → Prop} (D : ZipApart z u v i j a b) (q : Zs z u v i j a b N xs ys m s.heap) (low : z < N ∧ u < N ∧ v < N ∧ i < N ∧ j < N ∧ a < N ∧ b < N)
    (ex : xs[m]? = some x) (ey : ys[m]? = some y) (go : ∀ h', Zs z u v i j a b N xs ys (m + 1) h' → (∀ (c : Nat) o, c ≠ z → c ≠ v → c ≠ i → c ≠ j → s.heap.get? c = some o → h'.get? c = some o) → Q (some (.ref (N + m))) { s with heap := h' }) :
    wpAny (model prog w) A (pyNext (.ref z)) Q E s := by
  have grow : ∀ h', IsPair h' s.heap.objs.size x y → (∀ (c : Nat) o, c ≠ z → c ≠ v → c ≠ i → c ≠ j → s.heap.get? c = some o → h'.get? c = some o) → ∀ k x' y', k < m + 1 → xs[k]? = some x' → ys[k]? = some y' → IsPair h' (N + k) x' y' := fun h' new kept k x' y' hk e1 e2 => by
    by_cases hkm : k = m
    · subst hkm
      rw [ex] at e1; rw [ey] at e2; cases e1; cases e2
      rw [q.size] at new
      exact new
    · exact kept _ _ (by omega) (by omega) (by omega) (by omega) (q.pairs k x' y' (by omega) e1 e2)
  have tup : ∀ {t : Addr} {ws : Array Value} {h' : Heap}, s.heap.IsTuple t ws → t ≠ z → t ≠ v → t ≠ i → t ≠ j → (∀ (c : Nat) o, c ≠ z → c ≠ v → c ≠ i → c ≠ j → s.heap.get? c = some o → h'.get? c = some o) → h'.IsTuple t ws := fun ⟨o, e, r⟩ n1 n2 n3 n4 k => ⟨o, k _ o n1 n2 n3 n4 e, r⟩
  rcases q.st with ⟨hz, c, d, hv⟩ | ⟨p, f, op, hz, hp, hN⟩
  · refine RZ.pyNext_zipT_item D hz q.zu hv q.zi q.zj q.za q.zb ex ey fun h' a1 a2 a3 a4 a5 a6 k => ?_
    have := go h' ⟨k _ _ D.TIz D.TITO D.TIi1 D.TIi2 q.zu, a3, a4, tup q.za D.l1z D.l1TO D.l1i1 D.l1i2 k, tup q.zb D.l2z D.l2TO D.l2i1 D.l2i2 k, by rw [a6, q.size]; omega, grow h' a5 k, .inr ⟨_, false, _, a1, a5, by rw [q.size]; omega⟩⟩ k
    rw [← q.size] at this
    exact this
  · have ty : s.TypeIs (.ref z) "zip" := ⟨_, hz, rfl⟩
    unfold pyNext
    refine wpAny_bind (wpAny_attempt (wpAny_callSpecial?_slot (name := Str.ofString "__next__") ty F.slot_zip_next (wpAny_call_entry F.slot_zip_next ty F.entry_zip_next
      (held_step D hz hp q.zu q.zi q.zj q.za q.zb ex ey fun h' a1 a3 a4 a5 a6 k => wpAny_pure ?_) (F.args_zip_next_1 _))))
    have k' : ∀ c o, c ≠ z → c ≠ v → c ≠ i → c ≠ j → s.heap.get? c = some o → h'.get? c = some o := fun c o n1 _ n3 n4 e => k c o n1 n3 n4 e
    have := go h' ⟨k _ _ D.TIz D.TIi1 D.TIi2 q.zu, a3, a4, tup q.za D.l1z D.l1TO D.l1i1 D.l1i2 k', tup q.zb D.l2z D.l2TO D.l2i1 D.l2i2 k', by rw [a6, q.size]; omega, grow h' a5 k', .inr ⟨p, true, op, a1, k p op (Nat.ne_of_gt (show z < p by omega)) (Nat.ne_of_gt (show i < p by omega)) (Nat.ne_of_gt (show j < p by omega)) hp, hN⟩⟩ k'
    rw [← q.size] at this
    exact this
theorem Zs.stop {z u v i j a b N : Nat} {xs ys : Array Value} {m : Nat} {Q : Option Value → Shared → Prop} (calm : A.handled = none) (D : ZipApart z u v i j a b) (q : Zs z u v i j a b N xs ys m s.heap)
    (over : xs[m]? = none ∨ ys[m]? = none) (go : ∀ h', (∀ (c : Nat) o, c ≠ z → c ≠ v → c ≠ i → c ≠ j → s.heap.get? c = some o → h'.get? c = some o) → Q none { s with heap := h' }) :
    wpAny (model prog w) A (pyNext (.ref z)) Q E s := by
  rcases q.st with ⟨hz, c, d, hv⟩ | ⟨p, f, op, hz, hp, hN⟩
  · exact RZ.pyNext_zipT_end calm D hz q.zu hv q.zi q.zj q.za q.zb over go
  · have ty : s.TypeIs (.ref z) "zip" := ⟨_, hz, rfl⟩
    unfold pyNext
    refine wpAny_bind (wpAny_attempt (wpAny_callSpecial?_slot (name := Str.ofString "__next__") ty F.slot_zip_next (wpAny_call_entry F.slot_zip_next ty F.entry_zip_next
      (held_stop calm D hz hp q.zu q.zi q.zj q.za q.zb over fun h' e k st => ?_) (F.args_zip_next_1 _))))
    obtain ⟨o, o1, o2⟩ := st
    exact wpAny_bind (wpAny_isInstance (T := "StopIteration") (b := true) ⟨o, o1, o2⟩ isSubtype_stop (wpAny_pure (go h' fun c o n1 _ n3 n4 e => k c o n1 n3 n4 e)))
/-- the loop that fills the list -/
theorem fill {R : Result → Shared → Prop} {z u v i j a b N S : Nat} {xs ys : Array Value} {res : Value} (calm : A.handled = none) (D : ZipApart z u v i j a b) (low : z < N ∧ u < N ∧ v < N ∧ i < N ∧ j < N ∧ a < N ∧ b < N) (hS : S < N)
    (apart : S ≠ z ∧ S ≠ u ∧ S ≠ v ∧ S ≠ i ∧ S ≠ j ∧ S ≠ a ∧ S ≠ b) (hl : xs.size = ys.size) (hz : xs.size ≤ sizeLine) :
    ∀ (k m : Nat) (s : Shared) (acc : Array Value) (c : Nat), xs.size - m = k → m ≤ xs.size → Zs z u v i j a b N xs ys m s.heap → s.heap.get? S = some { cls := .type "list", dict := none, data := .seq acc c, slots := #[] } → acc.toList = (List.range m).map (fun t => Value.ref (N + t)) →
    (∀ h' acc' c', (∀ (d : Nat) o, d ≠ S → d ≠ z → d ≠ v → d ≠ i → d ≠ j → s.heap.get? d = some o → h'.get? d = some o) → h'.get? S = some { cls := .type "list", dict := none, data := .seq acc' c', slots := #[] } → acc'.toList = (List.range xs.size).map (fun t => Value.ref (N + t)) →
      (∀ t x y, xs[t]? = some x → ys[t]? = some y → IsPair h' (N + t) x y) → R (.ok (.ret res)) { s with heap := h' }) →
    codeAny (model prog w) A (.builtin "list.extend.loop" ⟨[.ref S, .ref z, res], []⟩) R s := by
  intro k
  induction k with
  | zero =>
    intro m s acc c e1 e2 q e3 e4 go
    have em : m = xs.size := by omega
    subst em
    refine codeAny_builtin F.entry_extend_loop ?_
    rw [Around.under_plainId F.plain_extend_loop _]
    show wpAny (model prog w) A.in1 (pyNext (.ref z) >>= _) _ _ s
    refine wpAny_bind (q.stop calm D (.inl (Array.getElem?_eq_none (Nat.le_refl _))) fun h' kept => wpAny_pure (go h' acc c (fun d o _ n1 n2 n3 n4 e => kept d o n1 n2 n3 n4 e) (kept S _ apart.1 apart.2.2.1 apart.2.2.2.1 apart.2.2.2.2.1 e3) e4 fun t x y f1 f2 => ?_))
    have ht : t < xs.size := by
      obtain ⟨h, _⟩ := Array.getElem?_eq_some_iff.mp f1
      exact h
    exact kept _ _ (by omega) (by omega) (by omega) (by omega) (q.pairs t x y ht f1 f2)
  | succ k ih =>
    intro m s acc c e1 e2 q e3 e4 go
    have lt : m < xs.size := by omega
    have lt' : m < ys.size := by omega
    refine codeAny_builtin F.entry_extend_loop ?_
    rw [Around.under_plainId F.plain_extend_loop _]
    show wpAny (model prog w) A.in1 (pyNext (.ref z) >>= _) _ _ s
    refine wpAny_bind (q.item D low (Array.getElem?_eq_getElem lt) (Array.getElem?_eq_getElem lt') fun h' q' kept => ?_)
    have eS := kept S _ apart.1 apart.2.2.1 apart.2.2.2.1 apart.2.2.2.2.1 e3
    have zm : acc.size = m := by
      have := congrArg List.length e4
      simpa using this
    show wpAny (model prog w) A.in1 (updateSeq S (·.push (Value.ref (N + m))) >>= _) _ _ _
    refine wpAny_bind (wpAny_updateSeq eS rfl (wpAny_pure ⟨plainId_quiet F.plain_extend_loop _, ih (m + 1) _ (acc.push (Value.ref (N + m))) _ (by omega) lt
      (q'.upd low hS apart (Heap.SameBut.update ..).1 fun d o n e => (Heap.get?_update_other _ _ (Ne.symm n)).trans e) (Heap.get?_update_self _ eS rfl) ?_ fun h2 acc2 c2 kept2 r1 r2 r3 => ?_⟩) (by rw [zm]; omega) (by show (acc.push _).size ≤ sizeLine + 1; rw [Array.size_push, zm]; omega))
    · rw [Array.toList_push, e4, List.range_succ, List.map_append]
      rfl
    · exact go h2 acc2 c2 (fun d o n0 n1 n2 n3 n4 e => kept2 d o n0 n1 n2 n3 n4 ((Heap.get?_update_other _ _ (Ne.symm n0)).trans (kept d o n1 n2 n3 n4 e))) r1 r2 r3
theorem zip_no_len : typeLookup (.type "zip") "__len__" = pure none := by rw [typeLookup_type, builtinLookup_eq_fast]; kernel_rfl
theorem zip_no_hint : typeLookup (.type "zip") "__length_hint__" = pure none := by rw [typeLookup_type, builtinLookup_eq_fast]; kernel_rfl
end
end Zl
end
section
set_option Elab.async false
set_option maxRecDepth 100000
set_option maxHeartbeats 4000000
namespace Zl
open PySem
open PySem.Sem (wp)
section
variable {prog : Program} {w : World} {A : Around} {E : Value → Shared → Prop} {s : Shared}
/-- list(z), z a new zip of two tuples of one length -/
theorem call_list {Q : Value → Shared → Prop} {z u v i j a b : Nat} {xs ys : Array Value} {c d : Value} (calm : A.handled = none) (D : ZipApart z u v i j a b) (zz : IsZip s.heap z u v .none) (zu : IsPair s.heap u (.ref i) (.ref j)) (zv : IsPair s.heap v c d)
    (zi : s.heap.IsTupleIter i a 0) (zj : s.heap.IsTupleIter j b 0) (za : s.heap.IsTuple a xs) (zb : s.heap.IsTuple b ys) (hl : xs.size = ys.size) (hz : xs.size ≤ sizeLine)
    (go : ∀ h' acc' c', (∀ (d : Nat) o, d ≠ z → d ≠ v → d ≠ i → d ≠ j → s.heap.get? d = some o → h'.get? d = some o) → h'.get? s.heap.objs.size = some { cls := .type "list", dict := none, data := .seq acc' c', slots := #[] } →
      acc'.toList = (List.range xs.size).map (fun t => Value.ref (s.heap.objs.size + 1 + t)) → (∀ t x y, xs[t]? = some x → ys[t]? = some y → IsPair h' (s.heap.objs.size + 1 + t) x y) → Q (.ref s.heap.objs.size) { s with heap := h' }) :
    wpAny (model prog w) A (call (.type "list") [.ref z]) Q E s := by
  have lz : z < s.heap.objs.size := Heap.lt_size zz
  have lu : u < s.heap.objs.size := Heap.lt_size zu
  have lv : v < s.heap.objs.size := Heap.lt_size zv
  have li : i < s.heap.objs.size := let ⟨_, e, _⟩ := zi; Heap.lt_size e
  have lj : j < s.heap.objs.size := let ⟨_, e, _⟩ := zj; Heap.lt_size e
  have la : a < s.heap.objs.size := let ⟨_, e, _⟩ := za; Heap.lt_size e
  have lb : b < s.heap.objs.size := let ⟨_, e, _⟩ := zb; Heap.lt_size e
  refine callType_codes (Q₁ := fun obj t => obj = .ref s.heap.objs.size ∧ t = { s with heap := s.heap.push { cls := .type "list", data := .seq #[] } }) F.called_list (F.typeCall_list_1 _) F.entry_list_init (code_list_new _ ⟨rfl, rfl⟩) ?_
  rintro obj t ⟨rfl, rfl⟩
  generalize hS : s.heap.objs.size = S at *
  have sS : (s.heap.push { cls := .type "list", data := .seq #[] }).get? S = some { cls := .type "list", data := .seq #[] } := by rw [← hS]; exact Heap.get?_push_size _ rfl
  have size1 : (s.heap.push { cls := .type "list", data := .seq #[] }).objs.size = S + 1 := by rw [Heap.size_push, hS]
  have apart : S ≠ z ∧ S ≠ u ∧ S ≠ v ∧ S ≠ i ∧ S ≠ j ∧ S ≠ a ∧ S ≠ b := by omega
  have low : z < S + 1 ∧ u < S + 1 ∧ v < S + 1 ∧ i < S + 1 ∧ j < S + 1 ∧ a < S + 1 ∧ b < S + 1 := by omega
  -- any heap that is the pushed one, but for S
  have start : ∀ h' : Heap, h'.objs.size = S + 1 → (∀ (c : Nat) o, c ≠ S → (s.heap.push { cls := .type "list", data := .seq #[] }).get? c = some o → h'.get? c = some o) → Zs z u v i j a b (S + 1) xs ys 0 h' := fun h' e k => by
    have k' : ∀ (c : Nat) o, c < S → s.heap.get? c = some o → h'.get? c = some o := fun c o n q => k c o (by omega) (Heap.get?_push_of_some _ q)
    exact ⟨k' u _ lu zu, zi.at fun o q => k' i o li q, zj.at fun o q => k' j o lj q, let ⟨o, q, r⟩ := za; ⟨o, k' a o la q, r⟩, let ⟨o, q, r⟩ := zb; ⟨o, k' b o lb q, r⟩, e, fun k x y hk => absurd hk (Nat.not_lt_zero _), .inl ⟨k' z _ lz zz, c, d, k' v _ lv zv⟩⟩
  refine ⟨⟨_, sS, rfl⟩, F.args_list_init_2 _ _, ?_⟩
  show wpAny (model prog w) A.in1.in1 (do let old ← Builtin.List.listItems (.ref S); Builtin.List.listUpdate (.ref S) (fun _ => #[]); letGo old.toList.reverse; Builtin.List.listExtendWith (.ref S) (.ref z) .none) _ _ _
  refine wpAny_bind ?_; unfold Builtin.List.listItems; refine wpAny_bind (wpAny_seqItems sS rfl (wpAny_pure ?_))
  show wpAny (model prog w) A.in1.in1 (updateSeq S (fun _ => #[]) >>= fun _ => letGo (#[] : Array Value).toList.reverse >>= fun _ => Builtin.List.listExtendWith (.ref S) (.ref z) .none) _ _ _
  refine wpAny_bind (wpAny_updateSeq sS rfl (wpAny_bind (wpAny_letGo ?_)))
  have s2 := Heap.get?_update_self (Obj.mapSeq (fun _ => (#[] : Array Value))) sS rfl
  have q2 := start _ ((Heap.SameBut.update ..).1.trans size1) (fun c o n e => (Heap.get?_update_other _ (Obj.mapSeq (fun _ => (#[] : Array Value))) (Ne.symm n)).trans e)
  have tz : ∀ tk, Shared.TypeIs { s with heap := (s.heap.push { cls := .type "list", data := .seq #[] }).update S (Obj.mapSeq (fun _ => (#[] : Array Value))), toks := tk } (.ref z) "zip" := fun tk => by
    rcases q2.st with ⟨e, _⟩ | ⟨p, f, op, e, _⟩ <;> exact ⟨_, e, rfl⟩
  unfold Builtin.List.listExtendWith
  refine wpAny_bind (wpAny_typeOf (tz _) ?_)
  rw [if_neg (by simp [Builtin.List.listSameRef, apart.1])]
  have zz2 : IsZip ((s.heap.push { cls := .type "list", data := .seq #[] }).update S (Obj.mapSeq (fun _ => (#[] : Array Value)))) z u v .none := by
    refine (Heap.get?_update_other _ (Obj.mapSeq (fun _ => (#[] : Array Value))) apart.1).trans (Heap.get?_push_of_some _ zz)
  refine wpAny_bind (wpAny_pyIter_zip zz2 (wpAny_bind (wpAny_holding ?_)))
  unfold Builtin.List.listLengthHint
  refine wpAny_bind (wpAny_specialOf (tz _) zip_no_len ?_)
  show wpAny (model prog w) A.in1.in1 (specialOf (Value.ref z) (Str.ofString "__length_hint__") >>= _) _ _ _
  refine wpAny_bind (wpAny_specialOf (tz _) zip_no_hint (wpAny_pure ?_))
  show wpAny (model prog w) A.in1.in1 (rule "list.extend.makes-room" >>= fun _ => Builtin.List.listTouch (.ref S) >>= fun _ => again (.builtin "list.extend.loop" ⟨[.ref S, .ref z, .none], []⟩)) _ _ _
  refine wpAny_bind (wpAny_rule (wpAny_bind ?_))
  show wpAny (model prog w) A.in1.in1 (updateSeq S (·.push .none) >>= fun _ => updateSeq S (·.pop)) _ _ _
  refine wpAny_bind (wpAny_updateSeq s2 rfl ?_)
  have s3 := Heap.get?_update_self (Obj.mapSeq (·.push Value.none)) s2 rfl
  refine wpAny_updateSeq (hz := by seq_fits) s3 rfl ?_
  have s4 := Heap.get?_update_self (Obj.mapSeq (·.pop)) s3 rfl
  refine wpAny_pure ⟨plainId_quiet F.plain_extend_loop _, ?_⟩
  obtain ⟨acc0, c0, s5, e0⟩ : ∃ (acc0 : Array Value) (c0 : Nat), ((((s.heap.push { cls := .type "list", data := .seq #[] }).update S (Obj.mapSeq (fun _ => (#[] : Array Value)))).update S (Obj.mapSeq (·.push Value.none))).update S (Obj.mapSeq (·.pop))).get? S = some { cls := .type "list", dict := none, data := .seq acc0 c0, slots := #[] } ∧ acc0.toList = [] := ⟨_, _, s4, rfl⟩
  clear s4 s3 s2
  refine fill (R := wants (fun r t => r = Value.none ∧ Q (.ref S) t) E) (N := S + 1) (A := A.in1) (z := z) (u := u) (v := v) (i := i) (j := j) (a := a) (b := b) (xs := xs) (ys := ys) (res := .none) (show A.in1.handled = none from calm) D low (Nat.lt_succ_self S) apart hl hz xs.size 0 { s with heap := (((s.heap.push { cls := .type "list", data := .seq #[] }).update S (Obj.mapSeq (fun _ => (#[] : Array Value)))).update S (Obj.mapSeq (·.push Value.none))).update S (Obj.mapSeq (·.pop)) } acc0 c0 (Nat.sub_zero _) (Nat.zero_le _) (start _ ?_ ?_) s5 e0 fun h' acc' c' kept r1 r2 r3 => ?_
  · exact (Heap.SameBut.update ..).1.trans ((Heap.SameBut.update ..).1.trans ((Heap.SameBut.update ..).1.trans size1))
  · exact fun c o n e => (Heap.get?_update_other _ _ (Ne.symm n)).trans ((Heap.get?_update_other _ _ (Ne.symm n)).trans ((Heap.get?_update_other _ _ (Ne.symm n)).trans e))
  · refine ⟨rfl, go h' acc' c' (fun d o n1 n2 n3 n4 e => ?_) r1 r2 r3⟩
    have hd : d < S := by rw [← hS]; exact Heap.lt_size e
    have n0 : d ≠ S := Nat.ne_of_lt hd
    exact kept d o n0 n1 n2 n3 n4 ((Heap.get?_update_other _ _ (Ne.symm n0)).trans ((Heap.get?_update_other _ _ (Ne.symm n0)).trans ((Heap.get?_update_other _ _ (Ne.symm n0)).trans (Heap.get?_push_of_some _ e))))
end
end Zl
end
section
set_option Elab.async false
set_option maxRecDepth 100000
set_option maxHeartbeats 2000000
namespace Cy
open PySem PySem.Spec PyProof.Rows L2
/-- what list(zip(..)) lays: the list at S, the pairs behind it -/
def zH (H : Hp) (S : Nat) (ps : List (V × V)) (os : Nat → Obj) : Hp := fun b => if b = S then some (.lst ((List.range ps.length).map fun t => V.ref (S + 1 + t)))
  else if S + 1 ≤ b then (match ps[b - (S + 1)]? with
    | some p => some (.frz (os (b - (S + 1))) (.tup [p.1, p.2]))
    | none => H b) else H b
section
variable {H : Hp} {S : Nat} {ps : List (V × V)} {os : Nat → Obj}
theorem zH_at : zH H S ps os S = some (.lst ((List.range ps.length).map fun t => V.ref (S + 1 + t))) := if_pos rfl
theorem zH_pair {t : Nat} {p : V × V} (h : ps[t]? = some p) : zH H S ps os (S + 1 + t) = some (.frz (os t) (.tup [p.1, p.2])) := by
  unfold zH
  rw [if_neg (show ¬ S + 1 + t = S by omega), if_pos (show S + 1 ≤ S + 1 + t by omega), show S + 1 + t - (S + 1) = t by omega, h]
theorem zH_low {b : Nat} (h : b < S) : zH H S ps os b = H b := by
  unfold zH
  rw [if_neg (show ¬ b = S by omega), if_neg (show ¬ S + 1 ≤ b by omega)]
theorem zH_same (h : ∀ b : Nat, S ≤ b → H b = none) : Same H (zH H S ps os) := fun b u e => by
  by_cases hb : b < S
  · rw [zH_low hb]; exact e
  · rw [h b (Nat.le_of_not_lt hb)] at e; cases e
theorem zH_inv {b : Nat} {u : HO} (h : zH H S ps os b = some u) (hf : ∀ b : Nat, S ≤ b → H b = none) : (b = S ∧ u = .lst ((List.range ps.length).map fun t => V.ref (S + 1 + t))) ∨ (∃ t p, b = S + 1 + t ∧ ps[t]? = some p ∧ u = .frz (os t) (.tup [p.1, p.2])) ∨ (b < S ∧ H b = some u) := by
  by_cases h1 : b = S
  · subst h1; rw [zH_at] at h; cases h; exact .inl ⟨rfl, rfl⟩
  · by_cases h2 : S + 1 ≤ b
    · obtain ⟨t, rfl⟩ : ∃ t, b = S + 1 + t := ⟨b - (S + 1), by omega⟩
      cases hp : ps[t]? with
      | some p => rw [zH_pair hp] at h; cases h; exact .inr (.inl ⟨t, p, rfl, hp, rfl⟩)
      | none =>
        have e : zH H S ps os (S + 1 + t) = H (S + 1 + t) := by
          unfold zH
          rw [if_neg (show ¬ S + 1 + t = S by omega), if_pos (show S + 1 ≤ S + 1 + t by omega), show S + 1 + t - (S + 1) = t by omega, hp]
        rw [e, hf _ (by omega)] at h; cases h
    · have hb : b < S := by omega
      rw [zH_low hb] at h
      exact .inr (.inr ⟨hb, h⟩)
end
theorem vals_range (S : Nat) : ∀ n : Nat, Vals ((List.range n).map fun t => V.ref (S + t)) ((List.range n).map fun t => Value.ref (S + t))
  | 0 => .nil
  | n + 1 => by
    rw [List.range_succ, List.map_append, List.map_append]
    exact (vals_range S n).append (.cons rfl .nil)
section
variable {X : Cx} {cl : Cls0} {pos q zpos p : Pos} {e e2 : Expr} {f g : Em}
def tListZip (K : PySem.W.Frag) (t : TA) : TE := fun σ H Q => t σ H fun vs H1 => ∃ a b xs ys, vs = [.ref a, .ref b] ∧ SqT K H1 a xs ∧ SqT K H1 b ys ∧ xs.length = ys.length ∧ ∀ (S : Nat) (os : Nat → Obj), (∀ t, (os t).dict = none) → (∀ b : Nat, S ≤ b → H1 b = none) → Q (.ref S) (zH H1 S (xs.zip ys) os)
theorem pe_listZip {t : TA} (hc : X.calm = true) (hl : Gl X "list") (ml : X.mg "list" = none) (hz : Gl X "zip") (mz : X.mg "zip" = none) (ha : PA X [e, e2] t)
    (h1 : starEach [.Call (.Name "zip" q) [e, e2] [] zpos] X.env = (false, eval (.Call (.Name "zip" q) [e, e2] [] zpos) X.env) :: starEach [] X.env)
    (h2 : starEach [e, e2] X.env = (false, eval e X.env) :: starEach [e2] X.env) (h3 : (backTo zpos (starEach [e2] X.env)).any (·.1) = false)
    (h4 : eval (.Call (.Name "zip" q) [e, e2] [] zpos) X.env = (do callWith zpos (← eval (.Name "zip" q) X.env) [] (backTo zpos (starEach [e, e2] X.env)) (backToKw zpos (keywordEach [] X.env)))) :
    PE X (.Call (.Name "list" p) [.Call (.Name "zip" q) [e, e2] [] zpos] [] pos) (tListZip X.K t) := by
  refine ⟨fun pins s σ H Q I want => ?_⟩
  refine wpAny_Call_Name_kw (ld_blt I hl ml (u := .type "list") (by decide +kernel) (PyProof.Rows.callWith_type1 ?_ h1 rfl))
  rw [h1]
  show wpAny _ _ (spliced ((false, eval (.Call (.Name "zip" q) [e, e2] [] zpos) X.env) :: backTo pos (starEach [] X.env))) _ _ s
  refine Calls.spliced_cons (PyProof.Rows.Call_ (ld_blt I hz mz PyProof.Rows.boot_zip (PyProof.Rows.callWith_type1 (thn (ha.run zpos pins s σ H _ I want) fun us s1 ⟨vs, H1, I1, r1, a, b, xs, ys, ex, qx, qy, hlen, go⟩ => ?_) h2 h3)) h4)
  subst ex
  obtain ⟨ua, ub, rfl, rfl, rfl⟩ : ∃ ua ub : Value, us = [ua, ub] ∧ ua = .ref a ∧ ub = .ref b := by
    cases r1 with
    | cons r rr => cases rr with
      | cons r' rr => cases rr; exact ⟨_, _, rfl, r, r'⟩
  obtain ⟨its, rv, p1, hzx⟩ := I1.tuple qx
  obtain ⟨its2, rv2, p2, _⟩ := I1.tuple qy
  obtain ⟨o1, ho1, _⟩ := id p1
  obtain ⟨o2, ho2, _⟩ := id p2
  have z1 : its.length ≤ sizeLine := by rw [← rv.length]; exact hzx
  refine RZ.call_zipT (show s1.heap.IsTuple a its.toArray from p1) (show s1.heap.IsTuple b its2.toArray from p2) fun h' zz zu zv zi zj size kept => Calls.spliced_nil ?_
  have ap := PySem.W.ktu_apart s1.heap.objs.size a b (Heap.lt_size ho1) (Heap.lt_size ho2)
  have ta : h'.IsTuple a its.toArray := let ⟨o, x, r⟩ := (show s1.heap.IsTuple a its.toArray from p1); ⟨o, kept _ o x, r⟩
  have tb : h'.IsTuple b its2.toArray := let ⟨o, x, r⟩ := (show s1.heap.IsTuple b its2.toArray from p2); ⟨o, kept _ o x, r⟩
  refine Zl.call_list (s := { s1 with heap := h' }) (I1.ok.hd hc) ap zz zu zv zi zj ta tb (by simpa [← rv.length, ← rv2.length] using hlen) (by simpa using z1) fun h2 acc c k2 r1 r2 r3 => ?_
  have size' : (Shared.heap { s1 with heap := h' }).objs.size = s1.heap.objs.size + 5 := size
  rw [size'] at r1 r2 r3
  have keep : ∀ d o, s1.heap.get? d = some o → h2.get? d = some o := fun d o x => by
    have lt : d < s1.heap.objs.size := Heap.lt_size x
    exact k2 d o (Nat.ne_of_lt (Nat.lt_add_right _ lt)) (Nat.ne_of_lt (Nat.lt_add_right _ lt)) (Nat.ne_of_lt lt) (Nat.ne_of_lt (Nat.lt_add_right _ lt)) (kept d o x)
  have free : ∀ b : Nat, s1.heap.objs.size + 5 ≤ b → H1 b = none := fun b hb => I1.hok.fresh (Nat.le_trans (Nat.le_add_right _ _) hb)
  have zl : (xs.zip ys).length = its.toArray.size := by
    have := rv.length
    have := rv2.length
    simp
    omega
  let os : Nat → Obj := fun t => { cls := .type "tuple", data := .seq #[its[t]?.getD .none, its2[t]?.getD .none] }
  have sm : Same H1 (zH H1 (s1.heap.objs.size + 5) (xs.zip ys) os) := zH_same free
  show ∃ v H', Inv X pins σ H' _ ∧ RelV v _ ∧ Q v H'
  rw [size']
  refine ⟨.ref (s1.heap.objs.size + 5), zH H1 (s1.heap.objs.size + 5) (xs.zip ys) os, ?_, rfl, go _ os (fun _ => rfl) free⟩
  refine I1.call' (ch := []) rfl ⟨fun b o x _ _ _ => keep b o x, fun b o x _ _ _ => ⟨o.slots, keep b o x⟩, fun b o x n _ => ?_, fun b o x _ => ⟨o, keep b o x⟩, fun b us x => sm b _ x, fun b o u x => sm b _ x, fun b us x => ⟨#[], by rw [sm b _ x]; simp⟩⟩ (fun b u x => ?_) I1.bare fun b x => by simp at x
  · rw [zH_low (Nat.lt_add_right _ (Heap.lt_size x))]; exact n
  · rcases zH_inv x free with ⟨rfl, rfl⟩ | ⟨t, pr, rfl, hp, rfl⟩ | ⟨hb, x'⟩
    · refine ⟨?_, acc.toList, c, ?_, ?_⟩
      · rw [List.length_map, List.length_range, zl]; simpa using z1
      · rw [r2, zl]; exact vals_range _ _
      · rw [Array.toArray_toList]; exact r1
    · have hx : xs[t]? = some pr.1 := (List.getElem?_zip_eq_some.mp hp).1
      have hy : ys[t]? = some pr.2 := (List.getElem?_zip_eq_some.mp hp).2
      obtain ⟨u1, w1, w2⟩ := rv.get hx
      obtain ⟨u2, w3, w4⟩ := rv2.get hy
      have r4 := r3 t u1 u2 (by simpa using w1) (by simpa using w3)
      have eo : os t = { cls := .type "tuple", data := .seq #[u1, u2] } := by show ({ cls := .type "tuple", data := .seq #[its[t]?.getD .none, its2[t]?.getD .none] } : Obj) = _; rw [w1, w3]; rfl
      refine ⟨?_, by show 2 ≤ sizeLine; decide, [u1, u2], .cons w2 (.cons w4 .nil), ⟨_, r4, rfl, _, rfl⟩⟩
      rw [eo]; exact r4
    · exact (I1.hok b u x').stay (fun d v _ y => keep d v y) (fun d y => sm d _ y) fun d xs y => sm d _ y
theorem DrL.of_get {K : PySem.W.Frag} {A : List Addr} {H : Hp} : ∀ {vs : List V} {ds : List D}, vs.length = ds.length → (∀ (i : Nat) (v : V) (d : D), vs[i]? = some v → ds[i]? = some d → Dr K A H v d) → DrL K A H vs ds
  | [], [], _, _ => .nil
  | [], _ :: _, h, _ => by cases h
  | _ :: _, [], h, _ => by cases h
  | v :: vs, d :: ds, h, k => .cons (k 0 v d rfl rfl) (DrL.of_get (by simpa using h) fun i v' d' a b => k (i + 1) v' d' (by simpa using a) (by simpa using b))
def zipLD : D → D → Option D
  | .tuple ds, .tuple es => if ds.length = es.length ∧ ds.length ≤ 1000 then some (.list ((ds.zip es).map fun p => .tuple [p.1, p.2])) else none
  | _, _ => none
theorem zipLD_eq {a b d : D} (h : zipLD a b = some d) : ∃ ds es, a = .tuple ds ∧ b = .tuple es ∧ ds.length = es.length ∧ ds.length ≤ 1000 ∧ d = .list ((ds.zip es).map fun p => .tuple [p.1, p.2]) := by
  unfold zipLD at h
  split at h
  · split at h
    · rename_i ds es hz; cases h; exact ⟨ds, es, rfl, rfl, hz.1, hz.2, rfl⟩
    · cases h
  · cases h
theorem ev_listZip (h1 : Gl X "list") (hc : X.calm = true) (m1 : X.mg "list" = none) (h2 : Gl X "zip") (m2 : X.mg "zip" = none) (he : Ev cl X e f) (he2 : Ev cl X e2 g)
    (s1 : starEach [.Call (.Name "zip" q) [e, e2] [] zpos] X.env = (false, eval (.Call (.Name "zip" q) [e, e2] [] zpos) X.env) :: starEach [] X.env := by rfl)
    (s2 : starEach [e, e2] X.env = (false, eval e X.env) :: starEach [e2] X.env := by rfl) (s3 : (backTo zpos (starEach [e2] X.env)).any (·.1) = false := by rfl)
    (s4 : eval (.Call (.Name "zip" q) [e, e2] [] zpos) X.env = (do callWith zpos (← eval (.Name "zip" q) X.env) [] (backTo zpos (starEach [e, e2] X.env)) (backToKw zpos (keywordEach [] X.env))) := by rfl)
    (s5 : starEach [e2] X.env = (false, eval e2 X.env) :: starEach [] X.env := by rfl) :
    Ev cl X (.Call (.Name "list" p) [.Call (.Name "zip" q) [e, e2] [] zpos] [] pos) (Cy.e2 (l2 zipLD) f g) := by
  refine pe_imp (pe_listZip hc h1 m1 h2 m2 (pa_cons he (pa_cons he2 pa_nil s5) s2) s1 s2 s3 s4) fun σ H Q ⟨A, δ, S, r, S', hs, hw, hf, q⟩ => ?_
  obtain ⟨x, y, S1, f1, f2, hl⟩ := e2_some hf
  unfold l2 at hl
  split at hl
  · rename_i a ha
    split at hl
    · rename_i b hb
      split at hl
      · rename_i d hd
        cases hl
        obtain ⟨ds, es, rfl, rfl, hlen, hz, rfl⟩ := zipLD_eq hd
        refine tE_then hs hw f1 fun v A1 H1 e1 w1 rv t1 => tE_then t1 w1 f2 fun v2 A2 H2 ex2 w2 rv2 t2 => ?_
        obtain ⟨a1, xs, rfl, q1, q2⟩ := (asD_rel w2 (rv.mono ex2) ha).tuple
        obtain ⟨a2, ys, rfl, q3, q4⟩ := (asD_rel w2 rv2 hb).tuple
        have lx := q2.length
        have ly := q4.length
        refine ⟨a1, a2, xs, ys, rfl, q1.sq, q3.sq, by omega, fun S2 os hos free => ?_⟩
        have sm := zH_same (ps := xs.zip ys) (os := os) free
        have ee : Ext A2 H2 A2 (zH H2 S2 (xs.zip ys) os) := .same sm
        have off : ∀ b : Nat, S2 ≤ b → b ∉ A2 := fun b hb hm => by
          obtain ⟨o, z1, _⟩ := w2.trk hm
          rw [free b hb] at z1; cases z1
        refine q _ A2 _ (e1.trans (ex2.trans ee)) (w2.same sm) (.lst ⟨zH_at, off S2 (Nat.le_refl _), by simp; rw [sizeLine_eq]; omega⟩ (DrL.of_get (by simp; omega) fun i v d hv hd => ?_))
        rw [List.getElem?_map] at hd
        cases hzp : (ds.zip es)[i]? with
        | none => rw [hzp] at hd; cases hd
        | some pr =>
          rw [hzp] at hd
          cases hd
          obtain ⟨g1, g2⟩ := List.getElem?_zip_eq_some.mp hzp
          obtain ⟨x1, k1, k2⟩ := q2.get g1
          obtain ⟨x2, k3, k4⟩ := q4.get g2
          have hi : i < (xs.zip ys).length := by
            have := (List.getElem?_eq_some_iff.mp k1).1
            have := (List.getElem?_eq_some_iff.mp k3).1
            simp; omega
          rw [List.getElem?_map, List.getElem?_range hi] at hv
          cases hv
          have hp : (xs.zip ys)[i]? = some (x1, x2) := List.getElem?_zip_eq_some.mpr ⟨k1, k3⟩
          exact .tup (.inl ⟨os i, zH_pair hp, hos i, off _ (by omega), by show 2 ≤ sizeLine; decide⟩) (.cons (Dr.mono ee _ _ k2) (.cons (Dr.mono ee _ _ k4) .nil))
      · cases hl
    · cases hl
  · cases hl
end
end Cy
end
section
set_option Elab.async false
set_option maxRecDepth 100000
set_option maxHeartbeats 2000000
namespace Cy
open PySem PySem.Spec PyProof.Rows L2
section
variable {X : Cx} {cl : Cls0}
theorem pe_or {e : Expr} {t1 t2 : TE} (h1 : PE X e t1) (h2 : PE X e t2) : PE X e (fun σ H Q => t1 σ H Q ∨ t2 σ H Q) := ⟨fun pins s σ H Q I q => q.elim (h1.run pins s σ H Q I) (h2.run pins s σ H Q I)⟩
/-! ### t.index(x) of a tuple -/
def rIndexT (K : PySem.W.Frag) : V → List V → Hp → VK → Prop := fun x xs H Q => ∃ (a : Addr) (y : V) (d : PyData) (ds : List PyData) (j : Nat) (z : PyData), x = V.ref a ∧ xs = [y] ∧ Dp K H (V.ref a) (.tuple ds) ∧ Dp K H y d ∧
  SeqAt.shaped (.tuple ds) = true ∧ SeqAt.shaped d = true ∧ ds[j]? = some z ∧ PyData.eqv z d = true ∧ (∀ (m : Nat) (z' : PyData), m < j → ds[m]? = some z' → PyData.eqv z' d = false) ∧ Q (.int (j : Nat)) H
theorem mt_indexT (hu : X.A.units + 65 < cLine) : MtR X "tuple.index" (rIndexT X.K) := by
  rintro pins s σ H x xs v us Q I rx rxs ⟨a, y, d, ds, j, z, rfl, rfl, ht, hy, st, sd, hz, eq, first, q⟩
  cases rx
  obtain ⟨uy, rfl, ry⟩ : ∃ uy, us = [uy] ∧ RelV y uy := by
    cases rxs with
    | cons ry rt => cases rt; exact ⟨_, rfl, ry⟩
  obtain ⟨bs, r1⟩ := Dp.reads I d y uy hy ry
  have lay : PyData.canLayAll0 ds = true := by
    have := SeqAt.canLay_of_shaped st
    rw [PyData.canLay0] at this
    exact this
  have room : X.A.units + 1 + min (PyData.depthAll ds) d.depth < cLine := room_in_shaped sd hu
  cases ht with
  | tup hs ha =>
    obtain ⟨its, rv, ⟨⟨cls, dd, data, sls⟩, ho, hc, n, hdt⟩, hlen⟩ := I.tuple hs
    simp only at hc hdt
    subst hc hdt
    obtain ⟨as, h4⟩ := Dp.readsAll I ds _ its ha rv
    have hn : its.length = ds.length := SeqAt.ReadsAll.length ds its as h4
    have same : its.map (SeqAt.readOf s.heap) = ds := SeqAt.readsAll_map ds its as lay h4
    have lj : j < its.toArray.size := by
      have := (List.getElem?_eq_some_iff.mp hz).1
      simp; omega
    have at_ : ∀ (m : Nat) (hm : m < its.toArray.size) (z' : PyData), ds[m]? = some z' → SeqAt.readOf s.heap its.toArray[m] = z' := fun m hm z' hz' => by
      have hml : m < its.length := by simpa using hm
      rw [← same, List.getElem?_map, List.getElem?_eq_getElem hml] at hz'
      simpa using hz'
    refine call_meets PySem.F.slot_tuple_index ⟨_, ho, rfl⟩ PySem.F.entry_tuple_index (PySem.F.args_tuple_index_2 _ _) (TI.tuple_indexAt a its.toArray n dd sls uy (fun u => PyData.eqv (SeqAt.readOf s.heap u) d) j lj ?_ ?_)
      ⟨ho, SeqAt.items_eqAt (vs := its.toArray) (show ReadsAll s.heap its.toArray.toList ds as from h4) r1 lay (SeqAt.canLay_of_shaped sd) room, ⟨.int (j : Nat), H, I.tok _, ⟨_, rfl⟩, q⟩⟩
    · show PyData.eqv (SeqAt.readOf s.heap its.toArray[j]) d = true
      rw [at_ j lj z hz]; exact eq
    · intro m hm hmj
      have hmd : m < ds.length := by simp at hm; omega
      have hz' : ds[m]? = some ds[m] := List.getElem?_eq_getElem hmd
      show PyData.eqv (SeqAt.readOf s.heap its.toArray[m]) d = false
      rw [at_ m hm _ hz']; exact first m _ hmj hz'
/-- the first place -/
def indexF (ds : List D) (d : D) : Option D := if SeqAt.shaped (.list ds) && SeqAt.shaped (.tuple ds) && SeqAt.shaped d then (match ds.findIdx? fun z => PyData.eqv z d with
    | some j => some (.int (j : Nat))
    | none => none) else none
def eIndexT (fo fe : Em) : Em := fun δ S => match fo δ S with
  | some (.dat (.tuple ds), S1) => (match fe δ S1 with
    | some (.dat d, S2) => (match indexF ds d with
      | some r => some (.dat r, S2)
      | none => none)
    | _ => none)
  | _ => none
def eIndexO (fo fe : Em) : Em := fun δ S => match fo δ S with
  | some (.obj k, S1) => (match lookO S1 k with
    | some _ => (match fe δ S1 with
      | some (.dat d, S2) => (match lookO S2 k with
        | some ds => (match indexF ds d with
          | some r => some (.dat r, S2)
          | none => none)
        | none => none)
      | _ => none)
    | none => none)
  | _ => none
theorem indexF_some {ds : List D} {d r : D} (h : indexF ds d = some r) : ∃ j z, r = .int (j : Nat) ∧ SeqAt.shaped (.list ds) = true ∧ SeqAt.shaped (.tuple ds) = true ∧ SeqAt.shaped d = true ∧ ds[j]? = some z ∧ PyData.eqv z d = true ∧ ∀ (m : Nat) (z' : PyData), m < j → ds[m]? = some z' → PyData.eqv z' d = false := by
  unfold indexF at h
  split at h
  · rename_i hs
    split at h
    · rename_i j hj
      cases h
      simp only [Bool.and_eq_true] at hs
      obtain ⟨hlt, hz, hno⟩ := List.findIdx?_eq_some_iff_getElem.mp hj
      refine ⟨j, ds[j], rfl, hs.1.1, hs.1.2, hs.2, List.getElem?_eq_getElem hlt, hz, fun m z' hm hz' => ?_⟩
      obtain ⟨hml, rfl⟩ := List.getElem?_eq_some_iff.mp hz'
      simpa using hno m hm
    · cases h
  · cases h
variable {pos : Pos} {o e : Expr} {fo fv : Em} {apos : Pos} {n : Nat}
theorem ev_indexO (hr : Room n X.A) (ho : Ev cl X o fo) (he : Ev cl X e fv) (hbase : attributeBase o "index" X.env (eval o X.env) = eval o X.env := by rfl)
    (hfew : ((backTo pos (starEach [e] X.env)).all (fun x => !x.1) && (backToKw pos (keywordEach [] X.env)).all (fun x => x.1.isSome)
      && decide ([e].length + ([] : List Keyword).length + (if ([] : List Keyword).isEmpty then 0 else 1) < 30)) = true := by rfl)
    (hline : (apos.endLine == pos.line) = true := by rfl) (hs : starEach [e] X.env = (false, eval e X.env) :: starEach [] X.env := by rfl) (hplain : (backTo pos (starEach [] X.env)).any (·.1) = false := by rfl) :
    Ev cl X (.Call (.Attribute o "index" apos) [e] [] pos) (eIndexO fo fv) := by
  refine pe_imp (pe_bm PySem.F.plainAttrs_list PySem.F.slot_list_index PySem.F.type_list_index (mt_indexD (u65 hr)) ho (pa_cons he pa_nil hs) hbase hfew hline hs hplain) fun σ H Q ⟨A, δ, S, r, S', hs, hw, hf, q⟩ => ?_
  unfold eIndexO at hf
  split at hf
  · rename_i k S1 h1
    split at hf
    · rename_i ds0 h0
      split at hf
      · rename_i d S2 h2
        split at hf
        · rename_i ds hds
          split at hf
          · rename_i r0 h3
            cases hf
            obtain ⟨j, z, rfl, i1, i2, i3, i4, i5, i6⟩ := indexF_some h3
            refine tE_then hs hw h1 fun v A1 H1 e1 w1 rv s1 => ?_
            obtain ⟨a, rfl, ha⟩ := rv
            obtain ⟨vs0, o1, o2, o3⟩ := w1.ob _ a _ ha (lookO_eq h0)
            refine ⟨.inl ⟨rfl, _, SqL.of o1⟩, tE_then s1 w1 h2 fun u A2 H2 e2 w2 ru s2 => ?_⟩
            obtain ⟨vs, o4, o5, o6⟩ := w2.ob _ a _ (e2.at_ ha) (lookO_eq hds)
            exact ⟨a, u, d, ds, j, z, rfl, rfl, DrO.dp (.inr ⟨a, vs, ds, rfl, rfl, o4, o5, o6⟩), Dr.dp _ _ ru, i1, i3, i4, i5, i6, q _ A2 H2 (e1.trans e2) w2 (.int _)⟩
          · cases hf
        · cases hf
      · cases hf
    · cases hf
  · cases hf
/-! ### dict(pairs), written later -/
def eDicS (f : Em) : Em := fun δ S => match f δ S with
  | some (x, S1) => (match dicR S1 x with
    | some (.dic kvs) => some (.obj S1.length, S1 ++ [.dic kvs])
    | _ => none)
  | none => none
theorem ev_dicS {a : Expr} {f : Em} {p : Pos} (hg : Gl X "dict") (hc : X.calm = true) (hm : X.mg "dict" = none) (ha : Ev cl X a f) (he : starEach [a] X.env = (false, eval a X.env) :: starEach [] X.env := by rfl) (hpl : (backTo pos (starEach [] X.env)).any (·.1) = false := by rfl) :
    Ev cl X (.Call (.Name "dict" p) [a] [] pos) (eDicS f) := by
  refine pe_imp (pe_callTy (call_dicA hc) hg hm (by decide +kernel) (pa_cons ha pa_nil he) (by decide) (by decide) he hpl) fun σ H Q ⟨A, δ, S, r, S', hs, hw, hf, q⟩ => ?_
  unfold eDicS at hf
  split at hf
  · rename_i x S1 h1
    split at hf
    · rename_i kvs h2
      cases hf
      refine tE_then hs hw h1 fun v A1 H1 e1 w1 rv s1 => ?_
      obtain ⟨ps, ks, er, q2, go⟩ := dicR_go w1 rv h2
      cases er
      refine go _ fun p hp => q _ (A1 ++ [p]) _ (e1.trans (Ext.push hp _)) (w1.push (ob := .dic (mergeD [] ps)) hp ⟨_, upd_same, (DrK.merge q2 .nil).mono (Ext.push hp _)⟩) ⟨p, rfl, ?_⟩
      rw [← w1.len]
      simp
    · cases hf
  · cases hf
end
end Cy
end
section
set_option Elab.async false
set_option maxRecDepth 100000
set_option maxHeartbeats 2000000
namespace Cy
open PySem PySem.Spec PyProof.Rows L2
/-! ### a op b op c -/
def eChain (o o' : SS → R → R → Option R) (f g h : Em) : Em := fun δ S => match f δ S with
  | some (x, S1) => (match g δ S1 with
    | some (y, S2) => (match o S2 x y with
      | some (.dat (.bool b)) => if b = true then (match h δ S2 with
        | some (z, S3) => (match o' S3 y z with
          | some r => some (r, S3)
          | none => none)
        | none => none) else some (.dat (.bool false), S2)
      | _ => none)
    | none => none)
  | none => none
section
variable {X : Cx} {cl : Cls0} {pos : Pos} {a b c : Expr} {f g h : Em} {op op' : CmpOp} {r r' : R2} {o o' : SS → R → R → Option R}
theorem chain_go (hd : Op2 cl X.K o r) (hd' : Op2 cl X.K o' r') : ∀ σ H Q, tE X.K cl (eChain o o' f g h) σ H Q → tChain r r' (tE X.K cl f) (tE X.K cl g) (tE X.K cl h) σ H Q := by
  intro σ H Q ⟨A, δ, S, rr, S', hs, hw, hf, q⟩
  unfold eChain at hf
  split at hf
  · rename_i x S1 h1
    split at hf
    · rename_i y S2 h2
      split at hf
      · rename_i k h3
        refine tE_then hs hw h1 fun v A1 H1 e1 w1 rv s1 => tE_then s1 w1 h2 fun u A2 H2 ex2 w2 ru s2 => ?_
        refine hd A2 H2 S2 v u x y _ _ w2 (rv.mono ex2) ru h3 fun t H3 sm rt => ?_
        cases rt
        refine ⟨k, rfl, ?_⟩
        have w3 := w2.same sm
        have s3 := s2.mono (.same sm)
        cases k with
        | false =>
          rw [if_neg Bool.false_ne_true] at hf ⊢
          cases hf
          exact q _ A2 H3 (e1.trans (ex2.trans (.same sm))) w3 (.bl _)
        | true =>
          rw [if_pos rfl] at hf ⊢
          split at hf
          · rename_i z S3 h4
            split at hf
            · rename_i r0 h5
              cases hf
              refine tE_then s3 w3 h4 fun t2 A4 H4 e4 w4 rt2 s4 => ?_
              exact hd' A4 H4 _ u t2 y z _ _ w4 (ru.mono ((Ext.same sm).trans e4)) rt2 h5 fun t3 H5 sm5 rt3 => q t3 A4 H5 (e1.trans (ex2.trans ((Ext.same sm).trans (e4.trans (.same sm5))))) (w4.same sm5) rt3
            · cases hf
          · cases hf
      · cases hf
    · cases hf
  · cases hf
theorem ev_chain (ho : OpR X (compareOp op) r) (hd : Op2 cl X.K o r) (ho' : OpR X (compareOp op') r') (hd' : Op2 cl X.K o' r') (ha : Ev cl X a f) (hb : Ev cl X b g) (hc : Ev cl X c h) (hm : lastMarks [op, op'] [b, c] = false := by with_unfolding_all rfl) :
    Ev cl X (.Compare a [op, op'] [b, c] pos) (eChain o o' f g h) := pe_imp (pe_chain ho ho' ha hb hc hm) (chain_go hd hd')
theorem tv_chain (ho : OpR X (compareOp op) r) (hd : Op2 cl X.K o r) (ho' : OpR X (compareOp op') r') (hd' : Op2 cl X.K o' r') (ha : Ev cl X a f) (hb : Ev cl X b g) (hc : Ev cl X c h) (hm : lastMarks [op, op'] [b, c] = false := by with_unfolding_all rfl) :
    Tv cl X (.Compare a [op, op'] [b, c] pos) (tOf (eChain o o' f g h)) := by
  refine pt_imp (pt_chain ho ho' ha hb hc hm) fun σ H Q ⟨A, δ, S, rr, S', hs, hw, hf, q⟩ => ?_
  refine chain_go hd hd' σ H _ ⟨A, δ, S, _, S', hs, hw, tOf_some hf, fun v A1 H1 e1 w1 rv => ?_⟩
  cases rv
  exact ⟨_, rfl, q A1 H1 e1 w1⟩
end
end Cy
end
section
set_option Elab.async false
set_option maxRecDepth 100000
set_option maxHeartbeats 2000000
namespace Cy
open PySem PySem.Spec PyProof.Rows L2 HT
/-! ### a[::-1] -/
section
variable {prog : Program} {w : World} {A : Around} {E : Value → Shared → Prop} {s : Shared}
theorem rev_places (n : Nat) : Builtin.Slice.slicePlaces ((n : Int) - 1) (-1) (-1) = n := by
  unfold Builtin.Slice.slicePlaces
  have h1 : ¬ (-1 : Int) > 0 := by decide
  rw [if_neg h1]
  by_cases h : (n : Int) - 1 > -1
  · rw [if_pos h, show (-(-1) : Int) = 1 by decide, Int.ediv_one]
    omega
  · rw [if_neg h]
    omega
theorem rev_pick (xs : Array Value) : ((List.range xs.size).filterMap fun (k : Nat) => xs[(((xs.size : Int) - 1) + (k : Int) * (-1)).toNat]?).toArray = xs.toList.reverse.toArray := by
  have e : (fun (k : Nat) => xs[(((xs.size : Int) - 1) + (k : Int) * (-1)).toNat]?) = fun k => xs[xs.size - 1 - k]? := by
    funext k
    have : (((xs.size : Int) - 1) + (k : Int) * (-1)).toNat = xs.size - 1 - k := by omega
    rw [this]
  rw [e]
  have h2 : (List.range xs.size).filterMap (fun k => xs[xs.size - 1 - k]?) = ((List.range xs.size).map fun k => xs.size - 1 - k).filterMap (xs[·]?) := by
    rw [List.filterMap_map]
    rfl
  rw [h2, PySem.W.krv_range, List.filterMap_reverse, PySem.W.krv_all]
theorem rev_app {sl : Addr} {n : Nat} {vl vu vs : Value} {Q : Int × Int × Nat → Shared → Prop} (hs : s.heap.IsSliceOf sl vl vu vs) (pl : IsPart vl none) (pu : IsPart vu none) (ps : IsPart vs (some (-1)))
    (h : Q ((n : Int) - 1, -1, n) s) : wpAny (model prog w) A (Builtin.Slice.sliceApplied (.ref sl) (pure (n : Int))) Q E s := by
  obtain ⟨os, hos, hcs, hds⟩ := id hs
  unfold Builtin.Slice.sliceApplied Builtin.Slice.sliceFields
  refine wpAny_bind (wpAny_bind (wpAny_field hos hds (x := vl) rfl (wpAny_bind (wpAny_field hos hds (x := vu) rfl (wpAny_bind (wpAny_field hos hds (x := vs) rfl (wpAny_pure ?_)))))))
  refine wpAny_bind (slicePart_ ps ?_)
  show wpAny _ _ (if ((-1 : Int) == 0) = true then _ else _) _ _ s
  rw [if_neg (by decide)]
  refine wpAny_bind (slicePart_ pl (wpAny_bind (slicePart_ pu (wpAny_bind (wpAny_pure ?_)))))
  show wpAny _ _ (pure (((n : Nat) : Int) - 1, (-1 : Int), Builtin.Slice.slicePlaces (((n : Nat) : Int) - 1) (-1) (-1))) _ _ s
  rw [rev_places]
  exact wpAny_pure h
theorem getItem_tuple_rev {t sl : Addr} {items : Array Value} {vl vu vs : Value} {Q : Value → Shared → Prop} (ht : IsTup s.heap t items) (hs : s.heap.IsSliceOf sl vl vu vs) (pl : IsPart vl none) (pu : IsPart vu none) (ps : IsPart vs (some (-1)))
    (h : Q (.ref s.heap.objs.size) { s with heap := s.heap.push { cls := .type "tuple", data := .seq items.toList.reverse.toArray } })
    (hsz : items.size ≤ sizeLine) : wpAny (model prog w) A (getItem (.ref t) (.ref sl)) Q E s := by
  have htake : sizeOk (.seq items.toList.reverse.toArray) := by
    show items.toList.reverse.toArray.size ≤ sizeLine
    rw [List.size_toArray, List.length_reverse, Array.length_toList]
    exact hsz
  obtain ⟨os, hos, hcs, hds⟩ := id hs
  have hTs : s.TypeIs (.ref sl) "slice" := ⟨os, hos, hcs⟩
  unfold getItem
  try with_reducible refine wpAny_holding ?_
  first | refine wpAny_bind (wpAny_pure ?_) | skip
  refine wpAny_bind (wpAny_sequenceKey ht.typeIs (by decide) ?_)
  refine wpAny_bind (wpAny_callSpecial?_slot (name := Str.ofString "__getitem__") ht.typeIs PyProof.Rows.slot_tuple_getitem
    (wpAny_call_entry PyProof.Rows.slot_tuple_getitem ht.typeIs entry_tuple_getitem ?_ (args_tuple_getitem _ _)))
  show wpAny _ _ (Builtin.Tuple.tupleItemsOf (.ref t) >>= _) _ _ s
  refine wpAny_bind (tupleItemsOf_ ht ?_)
  refine wpAny_bind (wpAny_typeOf hTs ?_)
  rw [if_pos (by decide)]
  refine wpAny_bind (rev_app hs pl pu ps ?_)
  have hno : ¬ (((((items.size : Nat) : Int) - 1) == 0 && (-1 : Int) == 1 && items.size == items.size) = true) := by
    intro q
    rw [Bool.and_eq_true, Bool.and_eq_true] at q
    exact absurd q.1.2 (by decide)
  show wpAny _ _ (if ((((items.size : Nat) : Int) - 1) == 0 && (-1 : Int) == 1 && items.size == items.size) = true then _ else _) _ _ s
  rw [if_neg hno]
  show wpAny _ _ (Builtin.Tuple.tupleExact ((List.range items.size).filterMap fun (k : Nat) => items[(((items.size : Int) - 1) + (k : Int) * (-1)).toNat]?).toArray >>= _) _ _ s
  rw [rev_pick]
  first
    | exact wpAny_bind (m := Builtin.Tuple.tupleExact _) (wpAny_newObj_type (wpAny_pure ⟨_, rfl, wpAny_pure h⟩) htake)
    | exact wpAny_bind (m := Builtin.Tuple.tupleExact _) (wpAny_newObj_type (wpAny_bind (wpAny_pure (wpAny_pure ⟨_, rfl, wpAny_pure h⟩))) htake)
    | exact wpAny_bind (wpAny_bind (m := Builtin.Tuple.tupleExact _) (wpAny_newObj_type (wpAny_pure (wpAny_pure ⟨_, rfl, wpAny_pure h⟩)) htake))
    | exact wpAny_bind (wpAny_bind (m := Builtin.Tuple.tupleExact _) (wpAny_newObj_type (wpAny_pure ⟨_, rfl, wpAny_pure h⟩) htake))
end
section
variable {X : Cx} {cl : Cls0}
def tRevA (K : PySem.W.Frag) (te : TE) : TE := fun σ H Q => te σ H fun x H1 => (∃ a xs, x = .ref a ∧ SqL K H1 a xs ∧ ∀ p, H1 p = none → Q (.ref p) (upd H1 p (.lst xs.reverse))) ∨ (∃ a xs, x = .ref a ∧ SqT K H1 a xs ∧ NewT H1 xs.reverse Q)
theorem pe_revA {e : Expr} {te : TE} {k : Nat} {p1 p2 p3 pos : Pos} (he : PE X e te) : PE X (.Subscript e (.Slice none none (some (.UnaryOp .USub (.Constant (.int 1) k p1) p2)) p3) pos) (tRevA X.K te) := by
  refine ⟨fun pins s σ H Q I h => ?_⟩
  refine Subscript_ (thn (he.run pins s σ H _ I h) fun v s1 ⟨x, H1, I1, r1, q1⟩ => ?_)
  have hst : PO X (some (.UnaryOp .USub (.Constant (.int 1) k p1) p2)) (tPart (tUn (rU fun i => .int (-i)) (tC (.int 1)))) := po_some (pe_un un_neg pe_int)
  have ex : ∃ a, x = .ref a := by rcases q1 with ⟨a, _, rfl, _⟩ | ⟨a, _, rfl, _⟩ <;> exact ⟨a, rfl⟩
  obtain ⟨a, rfl⟩ := ex
  cases r1
  refine wpAny_Slice (thn (po_none.run pins s1 σ H1 (fun o H2 => o = none ∧ H2 = H1) I1 ⟨rfl, rfl⟩) fun vl s2 ⟨l, H2, I2, pl, el, e2⟩ => ?_)
  subst el e2
  refine thn (po_none.run pins s2 σ H2 (fun o H3 => o = none ∧ H3 = H2) I2 ⟨rfl, rfl⟩) fun vu s3 ⟨u, H3, I3, pu, eu, e3⟩ => ?_
  subst eu e3
  refine thn (hst.run pins s3 σ H3 (fun o H4 => o = some (-1) ∧ H4 = H3) I3 ⟨1, rfl, -1, rfl, rfl, rfl⟩) fun vs s4 ⟨o, H4, I4, ps, eo, e4⟩ => ?_
  subst eo e4
  have I5 : Inv X pins σ H4 { s4 with heap := s4.heap.push { cls := .type "slice", data := .fields #[vl, vu, vs] } } := I4.kept (t' := s4.toks) fun b ob q => Heap.get?_push_of_some _ q
  show wpAny (model X.prog X.w) X.A (subscriptTail e (.Slice none none (some (.UnaryOp .USub (.Constant (.int 1) k p1) p2)) p3) (.ref a) (.ref s4.heap.objs.size)) (EP X pins σ Q) X.xe { s4 with heap := s4.heap.push { cls := .type "slice", data := .fields #[vl, vu, vs] } }
  rcases q1 with ⟨a', xs, ea, hx, q⟩ | ⟨a', xs, ea, hx, q⟩
  · cases ea
    obtain ⟨its, r, ht, hz⟩ := I5.list hx
    have hlen := r.length
    refine tail_any (ops := [.ref a, .ref s4.heap.objs.size]) ht.isList.typeIs (PySem.slot_list_getitem.lookup) ?_ (by with_unfolding_all rfl)
    refine wpAny_getItem_list_slice ht.isList (Heap.IsSliceOf.new _ vl vu vs) pl pu ps (by decide) ?_ (by rw [List.size_toArray]; omega)
    rw [PySem.W.krv_pick]
    refine ⟨.ref _, _, I5.laid (t' := s4.toks) (o := .lst xs.reverse) (fun b ob q => Heap.get?_push_of_some _ q) (Nat.le_refl _) ?_, rfl, q _ (I5.hok.fresh (Nat.le_refl _))⟩
    exact ⟨by rw [List.length_reverse]; exact hz, _, 0, r.reverse, Heap.get?_push_size _ rfl⟩
  · cases ea
    obtain ⟨its, r, ht, hz⟩ := I5.tuple hx
    have hlen := r.length
    refine tail_any (ops := [.ref a, .ref s4.heap.objs.size]) ht.typeIs (PyProof.Rows.slot_tuple_getitem.lookup) ?_ (by with_unfolding_all rfl)
    refine getItem_tuple_rev ht (Heap.IsSliceOf.new _ vl vu vs) pl pu ps ?_ (by rw [List.size_toArray]; omega)
    exact laidT I5 r.reverse (by rw [List.length_reverse]; exact hz) q
def revD : D → Option D
  | .list ds => some (.list ds.reverse)
  | .tuple ds => some (.tuple ds.reverse)
  | _ => none
def eRev (f : Em) : Em := fun δ S => match f δ S with
  | some (x, S1) => (match asD S1 x with
    | some d => (match revD d with
      | some r => some (.dat r, S1)
      | none => none)
    | none => none)
  | none => none
theorem ev_rev {e : Expr} {f : Em} {k : Nat} {p1 p2 p3 pos : Pos} (he : Ev cl X e f) : Ev cl X (.Subscript e (.Slice none none (some (.UnaryOp .USub (.Constant (.int 1) k p1) p2)) p3) pos) (eRev f) := by
  refine pe_imp (pe_revA he) fun σ H Q ⟨A, δ, S, r, S', hs, hw, hf, q⟩ => ?_
  unfold eRev at hf
  split at hf
  · rename_i x S1 h1
    split at hf
    · rename_i d hd
      split at hf
      · rename_i r' hr
        cases hf
        refine tE_then hs hw h1 fun v A1 H1 e1 w1 rv s1 => ?_
        have hx := asD_rel w1 rv hd
        have f1 : Fr A1 H1 := fun p hp => w1.fresh hp
        unfold revD at hr
        split at hr
        · cases hr
          obtain ⟨p, xs, rfl, h1, h2, h3⟩ := hx.list'
          refine .inl ⟨p, xs, rfl, SqL.of h1, fun l hl => ?_⟩
          have sm := same_upd (H := H1) hl (.lst xs.reverse)
          exact q _ A1 _ (e1.trans (.same sm)) (w1.same sm) (new_list f1 hl h2.rev (by rw [List.length_reverse, ← h2.length]; exact h3))
        · cases hr
          obtain ⟨p, xs, rfl, h1, h2⟩ := hx.tuple
          refine .inr ⟨p, xs, rfl, h1.sq, fun l o hl ho => ?_⟩
          have sm := same_upd (H := H1) hl (.frz o (.tup xs.reverse))
          exact q _ A1 _ (e1.trans (.same sm)) (w1.same sm) (new_tup f1 hl ho h2.rev (by rw [List.length_reverse, ← h2.length]; exact h1.le))
        · cases hr
      · cases hf
    · cases hf
  · cases hf
end
end Cy
end
section
set_option Elab.async false
set_option maxRecDepth 100000
set_option maxHeartbeats 2000000
namespace Cy
open PySem PySem.Spec PyProof.Rows L2
/-! ### a, b = x, y -/
def sPar (i j : Nat) (f : Am) : Sm := fun δ S => match f δ S with
  | some ([r, r'], S1) => some (.nx ((δ.set i (some r)).set j (some r')), S1)
  | _ => none
section
variable {X : Cx} {cl : Cls0}
theorem sv_par {i j : Nat} {x y : Str} {a b : Expr} {f : Am} {px py pt pos : Pos} {kt k2 pt2} (hc : X.calm = true) (hN : X.N.Nodup) (hi : X.N[i]? = some x) (hj : X.N[j]? = some y) (hij : i ≠ j)
    (hx : X.env.scope.names.lookup x = some .local) (hy : X.env.scope.names.lookup y = some .local) (ha : Av cl X [a, b] f)
    (hw : swappedStores [.Tuple [.Name x px, .Name y py] kt pt] (.Tuple [a, b] k2 pt2) X.env = pure (some [x, y]))
    (hs : swapsWithSole [.Tuple [.Name x px, .Name y py] kt pt] (.Tuple [a, b] k2 pt2) pos.line X.env = pure false := by rfl) :
    Sv cl X (.Assign [.Tuple [.Name x px, .Name y py] kt pt] (.Tuple [a, b] k2 pt2) pos) (sPar i j f) := by
  refine ⟨fun pins s σ H D I ⟨A, δ, S, fl, S', hs', hw', hf', q⟩ => (ps_par (ta := tA X.K cl f) hc hN hi hj hij hx hy ha hw hs).run pins s σ H D I ?_⟩
  have hl : i < σ.length := by rw [I.len]; exact (List.getElem?_eq_some_iff.mp hi).1
  have hl2 : j < σ.length := by rw [I.len]; exact (List.getElem?_eq_some_iff.mp hj).1
  unfold sPar at hf'
  split at hf'
  · rename_i r r' S1 h1
    cases hf'
    refine tA_then hs' hw' h1 fun vs A1 H1 e1 w1 rv s1 => ?_
    cases rv with
    | cons p1 p2 =>
      cases p2 with
      | cons p2 p3 =>
        cases p3
        exact ⟨_, _, rfl, q _ A1 H1 e1 w1 ((s1.put i p1 hl).put j p2 (by rw [List.length_set]; exact hl2))⟩
  · cases hf'
end
end Cy
end
section
set_option Elab.async false
set_option maxRecDepth 100000
set_option maxHeartbeats 2000000
namespace Cy
open PySem PySem.Spec PyProof.Rows L2
/-! ### t.index(x), t.count(x) of a tuple -/
section
variable {X : Cx} {cl : Cls0} {pos : Pos} {o e : Expr} {fo fv : Em} {apos : Pos} {n : Nat}
theorem ev_indexT (hr : Room n X.A) (ho : Ev cl X o fo) (he : Ev cl X e fv) (hbase : attributeBase o "index" X.env (eval o X.env) = eval o X.env := by rfl)
    (hfew : ((backTo pos (starEach [e] X.env)).all (fun x => !x.1) && (backToKw pos (keywordEach [] X.env)).all (fun x => x.1.isSome)
      && decide ([e].length + ([] : List Keyword).length + (if ([] : List Keyword).isEmpty then 0 else 1) < 30)) = true := by rfl)
    (hline : (apos.endLine == pos.line) = true := by rfl) (hs : starEach [e] X.env = (false, eval e X.env) :: starEach [] X.env := by rfl) (hplain : (backTo pos (starEach [] X.env)).any (·.1) = false := by rfl) :
    Ev cl X (.Call (.Attribute o "index" apos) [e] [] pos) (eIndexT fo fv) := by
  refine pe_imp (pe_bmT PySem.F.plainAttrs_tuple PySem.F.slot_tuple_index PySem.F.type_tuple_index (mt_indexT (u65 hr)) ho (pa_cons he pa_nil hs) hbase hfew hline hs hplain) fun σ H Q ⟨A, δ, S, r, S', hs, hw, hf, q⟩ => ?_
  unfold eIndexT at hf
  split at hf
  · rename_i ds S1 h1
    split at hf
    · rename_i d S2 h2
      split at hf
      · rename_i r0 h3
        cases hf
        obtain ⟨j, z, rfl, i1, i2, i3, i4, i5, i6⟩ := indexF_some h3
        refine tE_then hs hw h1 fun v A1 H1 e1 w1 rv s1 => ?_
        have rv' : Dr X.K A1 H1 v (.tuple ds) := rv
        cases rv' with
        | @tup a xs _ t1 t2 =>
          refine ⟨⟨_, _, rfl, t1.pl⟩, tE_then s1 w1 h2 fun u A2 H2 e2 w2 ru s2 => ?_⟩
          exact ⟨a, u, d, ds, j, z, rfl, rfl, Dr.dp _ _ (Dr.mono e2 _ _ (.tup t1 t2)), Dr.dp _ _ ru, i2, i3, i4, i5, i6, q _ A2 H2 (e1.trans e2) w2 (.int _)⟩
      · cases hf
    · cases hf
  · cases hf
def rCountT (K : PySem.W.Frag) : V → List V → Hp → VK → Prop := fun x xs H Q => ∃ (a : Addr) (y : V) (d : PyData) (ds : List PyData), x = V.ref a ∧ xs = [y] ∧ Dp K H (V.ref a) (.tuple ds) ∧ Dp K H y d ∧
  SeqAt.shaped (.tuple ds) = true ∧ SeqAt.shaped d = true ∧ Q (.int ((ds.countP fun z => PyData.eqv z d : Nat) : Int)) H
theorem mt_countT (hu : X.A.units + 65 < cLine) : MtR X "tuple.count" (rCountT X.K) := by
  rintro pins s σ H x xs v us Q I rx rxs ⟨a, y, d, ds, rfl, rfl, ht, hy, st, sd, q⟩
  cases rx
  obtain ⟨uy, rfl, ry⟩ : ∃ uy, us = [uy] ∧ RelV y uy := by
    cases rxs with
    | cons ry rt => cases rt; exact ⟨_, rfl, ry⟩
  obtain ⟨bs, r1⟩ := Dp.reads I d y uy hy ry
  have lay : PyData.canLayAll0 ds = true := by
    have := SeqAt.canLay_of_shaped st
    rw [PyData.canLay0] at this
    exact this
  have room : X.A.units + 1 + min (PyData.depthAll ds) d.depth < cLine := room_in_shaped sd hu
  cases ht with
  | tup hs ha =>
    obtain ⟨its, rv, ⟨⟨cls, dd, data, sls⟩, ho, hc, n, hdt⟩, hlen⟩ := I.tuple hs
    simp only at hc hdt
    subst hc hdt
    obtain ⟨as, h4⟩ := Dp.readsAll I ds _ its ha rv
    have same : its.map (SeqAt.readOf s.heap) = ds := SeqAt.readsAll_map ds its as lay h4
    have cnt : its.toArray.toList.countP (fun u => PyData.eqv (SeqAt.readOf s.heap u) d) = ds.countP fun z => PyData.eqv z d := by
      rw [← same, List.countP_map]
      rfl
    rw [← cnt] at q
    exact call_meets PySem.F.slot_tuple_count ⟨_, ho, rfl⟩ PySem.F.entry_tuple_count (PySem.F.args_tuple_count_2 _ _) (PySem.SeqAt.tuple_countAt a its.toArray n dd sls uy (fun u => PyData.eqv (SeqAt.readOf s.heap u) d))
      ⟨ho, SeqAt.items_eqAt (vs := its.toArray) (show ReadsAll s.heap its.toArray.toList ds as from h4) r1 lay (SeqAt.canLay_of_shaped sd) room, ⟨.int ((its.toArray.toList.countP fun u => PyData.eqv (SeqAt.readOf s.heap u) d : Nat) : Int), H, I.tok _, ⟨_, rfl⟩, q⟩⟩
def countF (ds : List D) (d : D) : Option D := if SeqAt.shaped (.tuple ds) && SeqAt.shaped d then some (.int (ds.countP fun z => PyData.eqv z d : Nat)) else none
def eCount (fo fe : Em) : Em := fun δ S => match fo δ S with
  | some (.dat (.tuple ds), S1) => (match fe δ S1 with
    | some (.dat d, S2) => (match countF ds d with
      | some r => some (.dat r, S2)
      | none => none)
    | _ => none)
  | _ => none
theorem ev_count (hr : Room n X.A) (ho : Ev cl X o fo) (he : Ev cl X e fv) (hbase : attributeBase o "count" X.env (eval o X.env) = eval o X.env := by rfl)
    (hfew : ((backTo pos (starEach [e] X.env)).all (fun x => !x.1) && (backToKw pos (keywordEach [] X.env)).all (fun x => x.1.isSome)
      && decide ([e].length + ([] : List Keyword).length + (if ([] : List Keyword).isEmpty then 0 else 1) < 30)) = true := by rfl)
    (hline : (apos.endLine == pos.line) = true := by rfl) (hs : starEach [e] X.env = (false, eval e X.env) :: starEach [] X.env := by rfl) (hplain : (backTo pos (starEach [] X.env)).any (·.1) = false := by rfl) :
    Ev cl X (.Call (.Attribute o "count" apos) [e] [] pos) (eCount fo fv) := by
  refine pe_imp (pe_bmT PySem.F.plainAttrs_tuple PySem.F.slot_tuple_count PySem.F.type_tuple_count (mt_countT (u65 hr)) ho (pa_cons he pa_nil hs) hbase hfew hline hs hplain) fun σ H Q ⟨A, δ, S, r, S', hs, hw, hf, q⟩ => ?_
  unfold eCount at hf
  split at hf
  · rename_i ds S1 h1
    split at hf
    · rename_i d S2 h2
      split at hf
      · rename_i r0 h3
        cases hf
        unfold countF at h3
        split at h3
        · rename_i hsh
          cases h3
          simp only [Bool.and_eq_true] at hsh
          refine tE_then hs hw h1 fun v A1 H1 e1 w1 rv s1 => ?_
          have rv' : Dr X.K A1 H1 v (.tuple ds) := rv
          cases rv' with
          | @tup a xs _ t1 t2 =>
            refine ⟨⟨_, _, rfl, t1.pl⟩, tE_then s1 w1 h2 fun u A2 H2 e2 w2 ru s2 => ?_⟩
            exact ⟨a, u, d, ds, rfl, rfl, Dr.dp _ _ (Dr.mono e2 _ _ (.tup t1 t2)), Dr.dp _ _ ru, hsh.1, hsh.2, q _ A2 H2 (e1.trans e2) w2 (.int _)⟩
        · cases h3
      · cases hf
    · cases hf
  · cases hf
end
end Cy
end
section
set_option Elab.async false
set_option maxRecDepth 100000
set_option maxHeartbeats 2000000
/-! sorted(..) of data that are alike; sorted(d.items()) -/
namespace Cy
open PySem PySem.Spec PyProof.Rows L2
/-! ### the data -/
def tupNe : D → Bool
  | .tuple (_ :: _) => true
  | _ => false
def plainD : D → Bool
  | .none => false
  | .tuple _ => false
  | _ => true
def sortOk (ds : List D) : Bool := decide (ds.length ≤ 1000) && ds.all (fun d => ds.all fun e => PySem.W.alike d e) && (ds.all tupNe || ds.all plainD) && ds.all fun d => decide (d.depth ≤ 10)
def sortD (ds : List D) : List D := ds.mergeSort (PySem.W.dataLe false id)
theorem sortOk_eq {ds : List D} (h : sortOk ds = true) : ds.length ≤ 1000 ∧ PySem.W.AllAlike ds ∧ PySem.W.Sortable ds ∧ ∀ d ∈ ds, d.depth ≤ 10 := by
  unfold sortOk at h
  simp only [Bool.and_eq_true, Bool.or_eq_true, List.all_eq_true, decide_eq_true_eq] at h
  obtain ⟨⟨⟨h1, h2⟩, h3⟩, h4⟩ := h
  refine ⟨h1, fun d hd e he => h2 d hd e he, ?_, h4⟩
  rcases h3 with h3 | h3
  · refine .inl fun d hd => ?_
    have := h3 d hd
    unfold tupNe at this
    split at this
    · exact ⟨_, _, rfl⟩
    · cases this
  · refine .inr fun d hd => ?_
    have := h3 d hd
    unfold plainD at this
    split at this
    · cases this
    · cases this
    · rename_i a b
      exact ⟨a, b⟩
section
variable {prog : Program} {w : World} {A : Around} {E : Value → Shared → Prop} {s : Shared}
/-- sorted(v): list.sort of the list of what is gathered -/
theorem call_sorted_coll {v : Value} {Q : Value → Shared → Prop}
    (h : wpAny (model prog w) A.in1 (collect v) (fun vs s1 => vs.length ≤ sizeLine ∧ wpAny (model prog w) A.in1 (call (.builtin "list.sort") [.ref s1.heap.objs.size]) (fun _ s' => Q (.ref s1.heap.objs.size) s') E { s1 with heap := s1.heap.push { cls := .type "list", data := .seq vs.toArray } }) E s) :
    wpAny (model prog w) A (call (.builtin "sorted") [v]) Q E s := by
  refine Calls.call_function_entry kind_sorted plain_sorted entry_sorted (args_sorted1 _) ?_
  unfold Builtin.«sorted»
  refine wpAny_bind (m := checkCount "sorted" 1 1 _) (wpAny_pure ?_)
  refine wpAny_bind (wpAny_mono h (fun vs s1 hv => ?_) fun _ _ e => e)
  refine wpAny_bind (wpAny_newList ?_ hv.1)
  refine wpAny_bind (wpAny_holding (wpAny_mono hv.2 (fun _ s' x => ?_) fun _ _ e => e))
  exact wpAny_pure ⟨_, rfl, x⟩
end
/-- the values in the order of their data -/
def sortV (vs : List V) (ds : List D) : List V := ((vs.zip ds).mergeSort (PySem.W.dataLe false (·.2))).map (·.1)
section
variable {X : Cx} {cl : Cls0} {pins : List (Addr × Obj)} {σ : L2.St} {H : Hp} {s : Shared}
/-- values and their data, as the heap reads them -/
theorem reads_zip (I : Inv X pins σ H s) : ∀ {vs : List V} {ds : List D} {us : List Value}, Paired (fun v d => Dp X.K H v d) vs ds → Vals vs us →
    PySem.W.EachIs (fun v b => RelV b.1 v) us (vs.zip ds) ∧ PySem.W.EachIs (fun v b => ∃ as, Reads s.heap v b.2 as) us (vs.zip ds)
  | _, _, _, .nil, .nil => ⟨.nil, .nil⟩
  | _, _, _, .cons h hs, .cons r rs => by
    obtain ⟨h1, h2⟩ := reads_zip I hs rs
    exact ⟨.cons r h1, .cons (Dp.reads I _ _ _ h r) h2⟩
theorem vals_fst {us : List Value} {bs : List (V × D)} (h : PySem.W.EachIs (fun v b => RelV b.1 v) us bs) : Vals (bs.map (·.1)) us := by
  induction h with
  | nil => exact .nil
  | cons h _ ih => exact .cons h ih
/-- the values in order, and what they stand for -/
theorem zip_rel {K : PySem.W.Frag} {A : List Addr} : ∀ {vs : List V} {ds : List D}, DrL K A H vs ds → ∀ b ∈ vs.zip ds, Dr K A H b.1 b.2
  | [], [], _, b, hb => by cases hb
  | v :: vs, d :: ds, h, b, hb => by
    cases h with
    | cons h1 h2 =>
      rcases List.mem_cons.mp hb with rfl | hb
      · exact h1
      · exact zip_rel h2 b hb
theorem rel_map {K : PySem.W.Frag} {A : List Addr} : ∀ (bs : List (V × D)), (∀ b ∈ bs, Dr K A H b.1 b.2) → DrL K A H (bs.map (·.1)) (bs.map (·.2))
  | [], _ => .nil
  | b :: bs, h => .cons (h b (.head _)) (rel_map bs fun c hc => h c (.tail _ hc))
theorem sortD_zip {vs : List V} {ds : List D} (h : vs.length = ds.length) : sortD ds = ((vs.zip ds).mergeSort (PySem.W.dataLe false fun b : V × D => b.2)).map (·.2) := by
  have e := List.map_mergeSort (r := PySem.W.dataLe false fun b : V × D => b.2) (s := PySem.W.dataLe false id) (f := fun b : V × D => b.2) (l := vs.zip ds) (fun _ _ _ _ => rfl)
  rw [e, List.map_snd_zip (Nat.le_of_eq h.symm)]
  rfl
theorem sort_rel {K : PySem.W.Frag} {A : List Addr} {vs : List V} {ds : List D} (h : DrL K A H vs ds) : DrL K A H (sortV vs ds) (sortD ds) := by
  rw [sortD_zip h.length]
  exact rel_map _ fun b hb => zip_rel h b ((List.mergeSort_perm _ _).mem_iff.mp hb)
theorem dpl_paired {K : PySem.W.Frag} {A : List Addr} : ∀ {vs : List V} {ds : List D}, DrL K A H vs ds → Paired (fun v d => Dp K H v d) vs ds
  | [], [], _ => .nil
  | v :: vs, d :: ds, h => by
    cases h with
    | cons h1 h2 => exact .cons (Dr.dp _ _ h1) (dpl_paired h2)
theorem sort_length (vs : List V) (ds : List D) : (sortV vs ds).length = min vs.length ds.length := by
  unfold sortV
  rw [List.length_map, List.length_mergeSort, List.length_zip]
/-- sorted(l), l a list -/
def rSortL (K : PySem.W.Frag) : List V → Hp → VK → Prop := fun xs H Q => ∃ a vs ds, xs = [V.ref a] ∧ SqL K H a vs ∧ Paired (fun v d => Dp K H v d) vs ds ∧ sortOk ds = true ∧ ∀ p, H p = none → Q (.ref p) (upd H p (.lst (sortV vs ds)))
theorem cr_sortL (hu : X.A.units + 65 < cLine) : CallR X (.builtin "sorted") (rSortL X.K) := by
  intro pins s σ H xs us Q I r h
  obtain ⟨a, vs, ds, rfl, hq, hp, ok, q⟩ := h
  obtain ⟨u, rfl, rx⟩ := vals1 r
  cases rx
  obtain ⟨its, r', pl, hz⟩ := I.list hq
  obtain ⟨k1, k2, k3, k4⟩ := sortOk_eq ok
  obtain ⟨e1, e2⟩ := reads_zip I hp r'
  have hl : vs.length = ds.length := by
    clear hq ok q k1 k2 k3 k4 e1 e2 r' hz
    induction hp with
    | nil => rfl
    | cons _ _ ih => rw [List.length_cons, List.length_cons, ih]
  have em : (vs.zip ds).map (·.2) = ds := List.map_snd_zip (Nat.le_of_eq hl.symm)
  refine PySem.W.sorted_data (enc := fun b : V × D => b.2) pl.isList e1 e2 (by rw [em]; exact k2) (by rw [em]; exact k3) (by rw [List.length_zip]; exact Nat.le_trans (Nat.min_le_right _ _) (Nat.le_trans k1 le1000)) (fun b hb => ?_) fun out ho eo => ?_
  · have hd : b.2 ∈ ds := by rw [← em]; exact List.mem_map_of_mem hb
    have := k4 _ hd
    omega
  · obtain ⟨c, hc⟩ := sortedAll_at s.heap its out.toArray
    have hlen : (sortV vs ds).length ≤ sizeLine := by
      rw [sort_length]
      exact Nat.le_trans (Nat.min_le_right _ _) (Nat.le_trans k1 le1000)
    exact ⟨.ref (s.heap.objs.size + 1), _, I.laid (t' := s.toks) (o := .lst (sortV vs ds)) (fun b ob q => sortedAll_old q) (Nat.le_succ _) ⟨hlen, _, c, vals_fst eo, hc⟩, rfl, q _ (I.hok.fresh (Nat.le_succ _))⟩
def srtD : D → Option D
  | .list ds => if sortOk ds then some (.list (sortD ds)) else none
  | _ => none
theorem od_sort {K : PySem.W.Frag} : OpD1 K srtD (fun v H Q => rSortL K [v] H Q) := by
  intro A H x a d Q f hx e q
  unfold srtD at e
  split at e
  · rename_i ds
    split at e
    · rename_i ok
      cases e
      obtain ⟨p, xs, rfl, h1, h2, h3⟩ := hx.list'
      exact ⟨p, xs, ds, rfl, SqL.of h1, dpl_paired h2, ok, fun l hl => q _ _ (same_upd hl _) (new_list f hl (sort_rel h2) (by rw [← (sort_rel h2).length, sort_length]; exact Nat.le_trans (Nat.min_le_left _ _) h3))⟩
    · cases e
  · cases e
theorem ev_sort {n : Nat} {a : Expr} {f : Em} {p pos : Pos} (hr : Room n X.A) (hg : Gl X "sorted") (hm : X.mg "sorted" = none) (ha : Ev cl X a f) (he : starEach [a] X.env = (false, eval a X.env) :: starEach [] X.env := by rfl) (hpl : (backTo pos (starEach [] X.env)).any (·.1) = false := by rfl) :
    Ev cl X (.Call (.Name "sorted" p) [a] [] pos) (e1 (l1 srtD) f) := ev_b1 (cr_sortL (u65 hr)) hg hm (by decide +kernel) (l1_op od_sort) ha (by decide) (by decide) he hpl
end
end Cy
end
section
set_option Elab.async false
set_option maxRecDepth 100000
set_option maxHeartbeats 2000000
/-! sorted(d.items()) -/
namespace Cy
open PySem PySem.Spec PyProof.Rows L2
/-- a list at p, pairs where f tells them -/
def sH (H : Hp) (p : Nat) (zs : List V) (f : Nat → Option (V × V)) (os : Nat → Obj) : Hp := fun b => if b = p then some (.lst zs)
  else match f b with
    | some pr => some (.frz (os b) (.tup [pr.1, pr.2]))
    | none => H b
section
variable {H : Hp} {p : Nat} {zs : List V} {f : Nat → Option (V × V)} {os : Nat → Obj}
theorem sH_at : sH H p zs f os p = some (.lst zs) := if_pos rfl
theorem sH_pair {b : Nat} {pr : V × V} (h : f b = some pr) (hp : b ≠ p) : sH H p zs f os b = some (.frz (os b) (.tup [pr.1, pr.2])) := by
  unfold sH
  rw [if_neg hp, h]
theorem sH_old {b : Nat} (h : f b = none) (hp : b ≠ p) : sH H p zs f os b = H b := by
  unfold sH
  rw [if_neg hp, h]
theorem sH_same (h0 : H p = none) (hf : ∀ b, f b ≠ none → H b = none) : Same H (sH H p zs f os) := fun b u e => by
  have h1 : b ≠ p := fun h => by rw [h, h0] at e; cases e
  have h2 : f b = none := by
    cases h : f b with
    | none => rfl
    | some pr =>
      have := hf b (by rw [h]; exact fun q => nomatch q)
      rw [this] at e; cases e
  rw [sH_old h2 h1]; exact e
theorem sH_inv {b : Nat} {u : HO} (h : sH H p zs f os b = some u) : (b = p ∧ u = .lst zs) ∨ (∃ pr, b ≠ p ∧ f b = some pr ∧ u = .frz (os b) (.tup [pr.1, pr.2])) ∨ (b ≠ p ∧ f b = none ∧ H b = some u) := by
  by_cases h1 : b = p
  · subst h1; rw [sH_at] at h; cases h; exact .inl ⟨rfl, rfl⟩
  · cases hf : f b with
    | some pr => rw [sH_pair hf h1] at h; cases h; exact .inr (.inl ⟨pr, h1, rfl, rfl⟩)
    | none => rw [sH_old hf h1] at h; exact .inr (.inr ⟨h1, rfl, h⟩)
end
/-- a key as data -/
def keyD : Key → D
  | .inl i => .int i
  | .inr x => .str x
def itemsD (kvs : List (Key × D)) : List D := kvs.map fun kv => .tuple [keyD kv.1, kv.2]
section
variable {X : Cx} {cl : Cls0}
def tSortIt (K : PySem.W.Frag) (td : TE) : TE := fun σ H Q => td σ H fun x H1 => ∃ (a : Addr) (ks : List (Key × V)) (kvs : List (Key × D)), x = V.ref a ∧ H1 a = some (.dK ks) ∧ Paired (fun (kv : Key × V) (kd : Key × D) => kv.1 = kd.1 ∧ Dp K H1 kv.2 kd.2) ks kvs ∧ sortOk (itemsD kvs) = true ∧
  ∀ (p : Nat) (as : List Addr) (f : Nat → Option (V × V)) (os : Nat → Obj), as.length = ks.length → (∀ (j : Nat) (b : Addr) (kv : Key × V), as[j]? = some b → ks[j]? = some kv → f b = some (kV kv.1, kv.2) ∧ b ≠ p) → (∀ b, (os b).dict = none) → H1 p = none → (∀ b, f b ≠ none → H1 b = none) →
    Q (.ref p) (sH H1 p (sortV (as.map V.ref) (itemsD kvs)) f os)
theorem prd_len {α β : Type} {F : α → β → Prop} : ∀ {xs : List α} {ys : List β}, Paired F xs ys → xs.length = ys.length
  | _, _, .nil => rfl
  | _, _, .cons _ h => by rw [List.length_cons, List.length_cons, prd_len h]
theorem prd_at {α β : Type} {F : α → β → Prop} : ∀ {xs : List α} {ys : List β}, Paired F xs ys → ∀ (j : Nat) (x : α) (y : β), xs[j]? = some x → ys[j]? = some y → F x y
  | _, _, .cons h _, 0, x, y, e1, e2 => by cases e1; cases e2; exact h
  | _, _, .cons _ h, j + 1, x, y, e1, e2 => prd_at h j x y e1 e2
/-- the pairs' addresses tell them -/
theorem find_addr {β : Type} : ∀ (as : List Addr) (xs : List β), as.Pairwise (· < ·) → ∀ (j : Nat) (a : Addr) (x : β), as[j]? = some a → xs[j]? = some x → (as.zip xs).lookup a = some x
  | [], _, _, j, a, x, e, _ => by simp at e
  | a0 :: as, [], _, j, a, x, _, e => by simp at e
  | a0 :: as, x0 :: xs, h, 0, a, x, e1, e2 => by
    cases e1; cases e2
    simp [List.zip]
  | a0 :: as, x0 :: xs, h, j + 1, a, x, e1, e2 => by
    have e1' : as[j]? = some a := e1
    have hlt : a0 < a := (List.pairwise_cons.mp h).1 a (List.mem_of_getElem? e1')
    have := find_addr as xs (List.pairwise_cons.mp h).2 j a x e1' e2
    simp only [List.zip_cons_cons, List.lookup_cons]
    have hne : (a == a0) = false := beq_eq_false_iff_ne.mpr (Nat.ne_of_gt hlt)
    rw [hne]
    exact this
theorem find_inv {β : Type} : ∀ (as : List Addr) (xs : List β) (a : Addr) (x : β), (as.zip xs).lookup a = some x → ∃ j : Nat, as[j]? = some a ∧ xs[j]? = some x
  | [], _, a, x, e => by simp at e
  | a0 :: as, [], a, x, e => by simp at e
  | a0 :: as, x0 :: xs, a, x, e => by
    simp only [List.zip_cons_cons, List.lookup_cons] at e
    by_cases h : a = a0
    · subst h
      simp at e
      subst e
      exact ⟨0, rfl, rfl⟩
    · have hne : (a == a0) = false := beq_eq_false_iff_ne.mpr h
      rw [hne] at e
      obtain ⟨j, h1, h2⟩ := find_inv as xs a x e
      exact ⟨j + 1, h1, h2⟩
theorem eachIs_of {α β : Type} {F : α → β → Prop} : ∀ {xs : List α} {ys : List β}, xs.length = ys.length → (∀ (j : Nat) (x : α) (y : β), xs[j]? = some x → ys[j]? = some y → F x y) → PySem.W.EachIs F xs ys
  | [], [], _, _ => .nil
  | [], _ :: _, h, _ => by cases h
  | _ :: _, [], h, _ => by cases h
  | x :: xs, y :: ys, h, k => .cons (k 0 x y rfl rfl) (eachIs_of (by simpa using h) fun j x y a b => k (j + 1) x y (by simpa using a) (by simpa using b))
theorem keyIs_rel {k : Key} {v : Value} (h : keyIs k v = true) : RelV (kV k) v := by
  rcases keyIs_shape h with ⟨i, t, rfl, rfl⟩ | ⟨x, t, rfl, rfl⟩
  · exact ⟨t, rfl⟩
  · exact ⟨t, rfl⟩
theorem key_dp {K : PySem.W.Frag} {H : Hp} (k : Key) : Dp K H (kV k) (keyD k) := by
  cases k
  · exact .int _
  · exact .str _
end
section
variable {prog : Program} {w : World} {A : Around} {E : Value → Shared → Prop} {s : Shared} {β : Type} {enc : β → PyData} {RB : Value → β → Prop} {vs : List Value} {bs : List β} {h : Heap}
open PySem.W in
/-- a new list is sorted -/
theorem list_sort_new {Q : Value → Shared → Prop} (e : EachIs RB vs bs) (er : EachIs (fun v b => ∃ as, Reads h v (enc b) as) vs bs) (hal : AllAlike (bs.map enc)) (hk : Sortable (bs.map enc)) (hL : bs.length ≤ sizeLine)
    (hu : ∀ b, b ∈ bs → A.units + 1 + (enc b).depth < cLine)
    (go : ∀ out c h', out.length = bs.length → EachIs RB out (bs.mergeSort (dataLe false enc)) → (∀ b o, h.get? b = some o → h'.get? b = some o) → h'.get? h.objs.size = some (seqObj "list" out.toArray c) → Q .none { s with heap := h' }) :
    wpAny (model prog w) A (call (.builtin "list.sort") [.ref h.objs.size]) Q E { s with heap := h.push { cls := .type "list", data := .seq vs.toArray } } := by
  have ho : (h.push { cls := .type "list", data := .seq vs.toArray }).get? h.objs.size = some (seqObj "list" vs.toArray 0) := Heap.get?_push_size _ rfl
  have old : ∀ b o, h.get? b = some o → (sortingHeap (h.push { cls := .type "list", data := .seq vs.toArray }) h.objs.size vs).get? b = some o := fun b o q =>
    sortingHeap_old (Nat.ne_of_lt (Heap.lt_size q)) (Heap.get?_push_of_some _ q)
  have er' : EachIs (fun v b => ∃ as, Reads (sortingHeap (h.push { cls := .type "list", data := .seq vs.toArray }) h.objs.size vs) v (enc b) as) vs bs := er.mono fun _ _ ⟨as, r⟩ => ⟨as, PyProof.Rows.Reads.keeps old r⟩
  refine wpAny_call_entry PyProof.Rows.slot_list_sort ⟨_, ho, rfl⟩ entry_list_sort (list_sort_vals (s := { s with heap := h.push { cls := .type "list", data := .seq vs.toArray } }) (κ := dataKind (sortingHeap (h.push { cls := .type "list", data := .seq vs.toArray }) h.objs.size vs) (bs.map enc)) ho
    (SortsAt.data (s := { s with heap := sortingHeap (h.push { cls := .type "list", data := .seq vs.toArray }) h.objs.size vs }) (each_map (R := fun v d => ∃ as, Reads (sortingHeap (h.push { cls := .type "list", data := .seq vs.toArray }) h.objs.size vs) v d as) enc er') hal hk (bound_map hu)) (by rw [e.length]; exact hL) ⟨.none, rfl, ?_⟩) (args_list_sort _)
  obtain ⟨c, hc⟩ := sortedHeap_at (vs := vs) (out := (sortVals (dataKind (sortingHeap (h.push { cls := .type "list", data := .seq vs.toArray }) h.objs.size vs) (bs.map enc)) false vs vs).toArray) ho
  exact go _ c _ (by rw [sortVals_length false rfl]; exact e.length) (sortVals_data false e er' hal) (fun b o q => (sortedHeap_old (Nat.ne_of_lt (Heap.lt_size q)) (by rw [Heap.size_push]; exact Nat.lt_succ_of_lt (Heap.lt_size q))).trans (Heap.get?_push_of_some _ q)) hc
end
section
variable {X : Cx} {cl : Cls0}
variable {o : Expr} {p pos apos mpos : Pos} {td : TE}
theorem pe_sortIt (hc : X.calm = true) (hu : X.A.units + 65 < cLine) (hg : Gl X "sorted") (hm : X.mg "sorted" = none) (hd : PE X o td) (hbase : attributeBase o "items" X.env (eval o X.env) = eval o X.env := by rfl) (hline : (apos.endLine == mpos.line) = true := by rfl)
    (hse : starEach [Expr.Call (.Attribute o "items" apos) [] [] mpos] X.env = [(false, eval (Expr.Call (.Attribute o "items" apos) [] [] mpos) X.env)] := by rfl) :
    PE X (.Call (.Name "sorted" p) [.Call (.Attribute o "items" apos) [] [] mpos] [] pos) (tSortIt X.K td) := by
  refine ⟨fun pins s σ H Q I h => ?_⟩
  refine wpAny_Call_Name_kw (ld_blt I hg hm (u := .builtin "sorted") (by first | rfl | decide +kernel) ?_ (by first | decide +kernel | decide) (by first | decide +kernel | decide))
  rw [hse]
  refine PySem.callWith_builtin1 (wpAny_Call_method0_late hbase hline (thn (hd.run pins s σ H _ I h) fun v s1 ⟨x, H1, I1, r1, a, ks, kvs, ex, ha, hp, ok, q⟩ => ?_))
  subst ex
  obtain rfl : v = Value.ref a := r1
  obtain ⟨hz, hsys, vs, rel, dof⟩ := dk_of I1.hok ha
  obtain ⟨es, ep, raw, hes, hent⟩ := dof.raw
  obtain ⟨ob, ho, ex, hdat⟩ := id raw
  refine ⟨"dict", "dict.items", F.plainAttrs_dict, F.slot_dict_items, F.type_dict_items, ⟨ob, ho, ex.1⟩, fun b e => ?_, Calls.callWith_builtin rfl (PySem.evalArgs_none ?_)⟩
  · cases e
    exact ⟨ob, ho, ex.2.1⟩
  refine call_meetsIn F.slot_dict_items ⟨ob, ho, ex.1⟩ F.entry_dict_items (F.args_dict_items_1 _) (meets_dict_items_raw a hsys) ⟨⟨es, ep, raw⟩, ?_⟩
  have k1 : ∀ b u, s1.heap.get? b = some u → (s1.heap.push { cls := .type "dict_items", data := .fields #[.ref a] }).get? b = some u := fun b u e => Heap.get?_push_of_some _ e
  have lk : ks.length = vs.length := KV.length rel
  have hsz : es.size ≤ sizeLine := by rw [hes, ← lk]; exact hz
  refine call_sorted_coll (s := { s1 with heap := s1.heap.push { cls := .type "dict_items", data := .fields #[.ref a] } }) (PySem.W.dil_collect (A := X.A.in1) (es := es) (ep := ep) (d := a) (I.ok.hd hc) ⟨_, Heap.get?_push_size _ rfl, rfl, rfl⟩ (raw.at fun o e => k1 _ _ e) hsz fun h' tk as hk hl hG => ?_)
  refine ⟨by rw [List.length_map, hl]; exact hsz, ?_⟩
  have kp : ∀ b u, s1.heap.get? b = some u → h'.get? b = some u := fun b u e => hk b u (k1 b u e)
  have I2 : Inv X pins σ H1 { s1 with heap := h', toks := tk } := I1.kept (t' := tk) kp
  have lkv : ks.length = kvs.length := prd_len hp
  have lit : (itemsD kvs).length = kvs.length := List.length_map ..
  have lo : ∀ b ∈ as, s1.heap.objs.size ≤ b := fun b hb => by
    have := hG.above b hb
    have z : (s1.heap.push { cls := .type "dict_items", data := .fields #[.ref a] }).objs.size = s1.heap.objs.size + 1 := Heap.size_push _ _
    have this' : (s1.heap.push { cls := .type "dict_items", data := .fields #[.ref a] }).objs.size < b := this
    omega
  -- the pairs, one by one
  have each : ∀ (j : Nat) (b : Addr) (kv : Key × V), as[j]? = some b → ks[j]? = some kv → ∃ u1 u2, h'.get? b = some { cls := .type "tuple", data := .seq #[u1, u2] } ∧ RelV (kV kv.1) u1 ∧ RelV kv.2 u2 := fun j b kv e1 e2 => by
    obtain ⟨hj, e3⟩ := hG.pairs j b e1
    have hjv : j < vs.length := by rw [← hes]; exact hj
    obtain ⟨g1, g2⟩ := hent j hj vs[j].1 vs[j].2 (by rw [List.getElem?_eq_getElem hjv])
    obtain ⟨x, x1, x2⟩ := KV.at' rel (i := j) (k := vs[j].1) (v := vs[j].2) (by rw [List.getElem?_eq_getElem hjv])
    rw [e2] at x1
    cases x1
    exact ⟨_, _, e3, keyIs_rel g1, by rw [g2]; exact x2⟩
  let bs := (as.map V.ref).zip (itemsD kvs)
  have lbs : bs.length = ks.length := by
    simp only [bs, List.length_zip, List.length_map, lit]
    omega
  have bsat : ∀ (j : Nat) (b : V × D), bs[j]? = some b → ∃ (c : Addr) (kv : Key × V) (kd : Key × D), as[j]? = some c ∧ ks[j]? = some kv ∧ kvs[j]? = some kd ∧ b = (V.ref c, .tuple [keyD kd.1, kd.2]) := fun j b e => by
    obtain ⟨z1, z2⟩ := List.getElem?_zip_eq_some.mp e
    rw [List.getElem?_map] at z1
    obtain ⟨c, c1, c2⟩ := Option.map_eq_some_iff.mp z1
    obtain ⟨kd, d1, d2⟩ := Option.map_eq_some_iff.mp (by rw [← List.getElem?_map]; exact z2 : (kvs[j]?).map (fun kv : Key × D => PyData.tuple [keyD kv.1, kv.2]) = some b.2)
    have hj : j < ks.length := by
      rw [lkv]
      exact (List.getElem?_eq_some_iff.mp d1).1
    exact ⟨c, ks[j], kd, c1, List.getElem?_eq_getElem hj, d1, by rw [c2, d2]⟩
  have e1 : PySem.W.EachIs (fun v (b : V × D) => RelV b.1 v) (as.map Value.ref) bs := eachIs_of (by rw [List.length_map, lbs]; omega) fun j v b g1 g2 => by
    obtain ⟨c, kv, kd, c1, c2, c3, rfl⟩ := bsat j b g2
    rw [List.getElem?_map, c1] at g1
    cases g1
    exact rfl
  have e2 : PySem.W.EachIs (fun v (b : V × D) => ∃ as, Reads h' v b.2 as) (as.map Value.ref) bs := eachIs_of (by rw [List.length_map, lbs]; omega) fun j v b g1 g2 => by
    obtain ⟨c, kv, kd, c1, c2, c3, rfl⟩ := bsat j b g2
    rw [List.getElem?_map, c1] at g1
    cases g1
    obtain ⟨u1, u2, t1, t2, t3⟩ := each j c kv c1 c2
    obtain ⟨p1, p2⟩ := prd_at hp j kv kd c2 c3
    obtain ⟨as1, r1⟩ := Dp.reads I2 (keyD kd.1) (kV kv.1) u1 (by rw [p1]; exact key_dp _) t2
    obtain ⟨as2, r2⟩ := Dp.reads I2 kd.2 kv.2 u2 p2 t3
    exact ⟨_, Reads.tuple t1 rfl rfl (ReadsAll.cons r1 (ReadsAll.cons r2 ReadsAll.nil))⟩
  obtain ⟨o1, o2, o3, o4⟩ := sortOk_eq ok
  have em : bs.map (·.2) = itemsD kvs := List.map_snd_zip (by rw [List.length_map, lit]; omega)
  refine list_sort_new (s := { s1 with heap := h', toks := tk }) (enc := fun b : V × D => b.2) e1 e2 (by rw [em]; exact o2) (by rw [em]; exact o3) (by rw [lbs]; exact hz) (fun b hb => ?_) fun out c h2 lout eo k2 hat => ?_
  · have hd : b.2 ∈ itemsD kvs := by rw [← em]; exact List.mem_map_of_mem hb
    have := o4 _ hd
    show X.A.in1.units + 1 + _ < cLine
    have : X.A.in1.units = X.A.units + 1 := rfl
    omega
  · let f : Nat → Option (V × V) := fun b => (as.zip (ks.map fun kv => (kV kv.1, kv.2))).lookup b
    let os : Nat → Obj := fun b => match h'.get? b with
      | some o => { cls := .type "tuple", data := o.data }
      | none => { cls := .type "tuple", data := .seq #[] }
    have hf0 : ∀ b, f b ≠ none → b ∈ as := fun b hb => by
      cases e : f b with
      | none => exact absurd e hb
      | some pr =>
        obtain ⟨j, j1, j2⟩ := find_inv as _ b pr e
        exact List.mem_of_getElem? j1
    have free : ∀ b, f b ≠ none → H1 b = none := fun b hb => I1.hok.fresh (lo b (hf0 b hb))
    have hpf : H1 h'.objs.size = none := I2.hok.fresh (Nat.le_refl _)
    have sm : Same H1 (sH H1 h'.objs.size (sortV (as.map V.ref) (itemsD kvs)) f os) := sH_same hpf free
    have keep : ∀ d o, s1.heap.get? d = some o → h2.get? d = some o := fun d o x => k2 d o (kp d o x)
    show ∃ v H', Inv X pins σ H' _ ∧ RelV v _ ∧ Q v H'
    refine ⟨.ref h'.objs.size, sH H1 h'.objs.size (sortV (as.map V.ref) (itemsD kvs)) f os, ?_, rfl, q _ as f os (by rw [hl, hes, ← lk]) (fun j b kv g1 g2 => ⟨find_addr as _ hG.rise j b _ g1 (by rw [List.getElem?_map, g2]; rfl), ?_⟩) (fun b => ?_) hpf free⟩
    · refine I1.call' (ch := []) rfl ⟨fun b o x _ _ _ => keep b o x, fun b o x _ _ _ => ⟨o.slots, keep b o x⟩, fun b o x n _ => ?_, fun b o x _ => ⟨o, keep b o x⟩, fun b us x => sm b _ x, fun b o u x => sm b _ x, fun b us x => ⟨#[], by rw [sm b _ x]; simp⟩⟩ (fun b u x => ?_) I1.bare fun b x => by simp at x
      · have hlt : b < s1.heap.objs.size := Heap.lt_size x
        have hb1 : b ≠ h'.objs.size := Nat.ne_of_lt (Heap.lt_size (kp b o x))
        have hb2 : f b = none := by
          cases e : f b with
          | none => rfl
          | some pr => exact absurd (lo b (hf0 b (by rw [e]; exact fun q => nomatch q))) (Nat.not_le.mpr hlt)
        rw [sH_old hb2 hb1]; exact n
      · rcases sH_inv x with ⟨rfl, rfl⟩ | ⟨pr, hb, hp', rfl⟩ | ⟨_, _, x'⟩
        · refine ⟨?_, out, c, vals_fst eo, hat⟩
          rw [sort_length]
          exact Nat.le_trans (Nat.min_le_right _ _) (by rw [lit, ← lkv]; exact hz)
        · obtain ⟨j, j1, j2⟩ := find_inv as _ b pr hp'
          rw [List.getElem?_map] at j2
          obtain ⟨kv, v1, v2⟩ := Option.map_eq_some_iff.mp j2
          obtain ⟨u1, u2, t1, t2, t3⟩ := each j b kv j1 v1
          have eo : os b = { cls := .type "tuple", data := .seq #[u1, u2] } := by simp only [os, t1]
          subst v2
          refine ⟨?_, by show 2 ≤ sizeLine; decide, [u1, u2], .cons t2 (.cons t3 .nil), ⟨_, k2 _ _ t1, rfl, _, rfl⟩⟩
          rw [eo]; exact k2 _ _ t1
        · exact (I1.hok b u x').stay (fun d v _ y => keep d v y) (fun d y => sm d _ y) fun d xs y => sm d _ y
    · intro e
      subst e
      obtain ⟨u1, u2, t1, _⟩ := each j _ kv g1 g2
      exact absurd (Heap.lt_size t1) (Nat.lt_irrefl _)
    · simp only [os]
      split <;> rfl
def eSortIt (fd : Em) : Em := fun δ S => match fd δ S with
  | some (x, S1) => (match asKv S1 x with
    | some kvs => if sortOk (itemsD kvs) then some (.dat (.list (sortD (itemsD kvs))), S1) else none
    | none => none)
  | none => none
theorem drk_paired {K : PySem.W.Frag} {A : List Addr} {H : Hp} {ks : List (Key × V)} {kvs : List (Key × D)} (h : DrK K A H ks kvs) : Paired (fun (kv : Key × V) (kd : Key × D) => kv.1 = kd.1 ∧ Dp K H kv.2 kd.2) ks kvs := by
  induction h with
  | nil => exact .nil
  | cons h1 _ ih => exact .cons ⟨rfl, Dr.dp _ _ h1⟩ ih
theorem drk_at {K : PySem.W.Frag} {A : List Addr} {H : Hp} {ks : List (Key × V)} {kvs : List (Key × D)} (h : DrK K A H ks kvs) : ∀ (j : Nat) (kv : Key × V) (kd : Key × D), ks[j]? = some kv → kvs[j]? = some kd → kv.1 = kd.1 ∧ Dr K A H kv.2 kd.2 := by
  induction h with
  | nil => intro j kv kd e; simp at e
  | cons h1 _ ih =>
    intro j kv kd e1 e2
    cases j with
    | zero => cases e1; cases e2; exact ⟨rfl, h1⟩
    | succ j => exact ih j kv kd e1 e2
theorem keyD_dr {K : PySem.W.Frag} {A : List Addr} {H : Hp} (k : Key) : Dr K A H (kV k) (keyD k) := by
  cases k
  · exact .int _
  · exact .str _
theorem ev_sortIt {n : Nat} {o : Expr} {p pos apos mpos : Pos} {fd : Em} (hc : X.calm = true) (hr : Room n X.A) (hg : Gl X "sorted") (hm : X.mg "sorted" = none) (hd : Ev cl X o fd) (hbase : attributeBase o "items" X.env (eval o X.env) = eval o X.env := by rfl) (hline : (apos.endLine == mpos.line) = true := by rfl)
    (hse : starEach [Expr.Call (.Attribute o "items" apos) [] [] mpos] X.env = [(false, eval (Expr.Call (.Attribute o "items" apos) [] [] mpos) X.env)] := by rfl) :
    Ev cl X (.Call (.Name "sorted" p) [.Call (.Attribute o "items" apos) [] [] mpos] [] pos) (eSortIt fd) := by
  refine pe_imp (pe_sortIt hc (u65 hr) hg hm hd hbase hline hse) fun σ H Q ⟨A, δ, S, r, S', hs, hw, hf, q⟩ => ?_
  unfold eSortIt at hf
  split at hf
  · rename_i x S1 h1
    split at hf
    · rename_i kvs hk
      split at hf
      · rename_i ok
        cases hf
        refine tE_then hs hw h1 fun v A1 H1 e1 w1 rv s1 => ?_
        obtain ⟨a, ks, rfl, k1, k2⟩ := asKv_rel w1 rv hk
        have lk := k2.length
        refine ⟨a, ks, kvs, rfl, k1, drk_paired k2, ok, fun l as f os hl hat hos h0 free => ?_⟩
        have sm := sH_same (zs := sortV (as.map V.ref) (itemsD kvs)) (os := os) h0 free
        have ee : Ext A1 H1 A1 (sH H1 l (sortV (as.map V.ref) (itemsD kvs)) f os) := .same sm
        have off : ∀ b : Nat, H1 b = none → b ∉ A1 := fun b hb hm => by
          obtain ⟨o, z1, _⟩ := w1.trk hm
          rw [hb] at z1; cases z1
        have rel : DrL X.K A1 (sH H1 l (sortV (as.map V.ref) (itemsD kvs)) f os) (as.map V.ref) (itemsD kvs) := DrL.of_get (by simp [itemsD]; omega) fun i v d hv hd => by
          rw [List.getElem?_map] at hv
          obtain ⟨b, b1, rfl⟩ := Option.map_eq_some_iff.mp hv
          unfold itemsD at hd
          rw [List.getElem?_map] at hd
          obtain ⟨kd, d1, rfl⟩ := Option.map_eq_some_iff.mp hd
          have hi : i < ks.length := by rw [lk]; exact (List.getElem?_eq_some_iff.mp d1).1
          have kat : ks[i]? = some ks[i] := List.getElem?_eq_getElem hi
          obtain ⟨f1, f2⟩ := hat i b _ b1 kat
          obtain ⟨g1, g2⟩ := drk_at k2 i _ kd kat d1
          exact .tup (.inl ⟨os b, sH_pair f1 f2, hos b, off b (free b (by rw [f1]; exact fun q => nomatch q)), by show 2 ≤ sizeLine; decide⟩) (.cons (by rw [g1]; exact keyD_dr _) (.cons (Dr.mono ee _ _ g2) .nil))
        have rel2 := sort_rel rel
        refine q _ A1 _ (e1.trans ee) (w1.same sm) (.lst ⟨sH_at, off l h0, ?_⟩ rel2)
        rw [sort_length]
        exact Nat.le_trans (Nat.min_le_right _ _) (Nat.le_trans (sortOk_eq ok).1 le1000)
      · cases hf
    · cases hf
  · cases hf
end
end Cy
end
section
set_option Elab.async false
set_option maxRecDepth 100000
set_option maxHeartbeats 2000000
/-! sorted(d), d != e, a display of dicts picked from -/
namespace Cy
open PySem PySem.Spec PyProof.Rows L2
section
variable {X : Cx} {K : PySem.W.Frag} {cl : Cls0} {A : List Addr} {H : Hp}
/-! ### sorted(d), the keys are whole numbers -/
def intKeys : List (Key × D) → Option (List Int)
  | [] => some []
  | (.inl i, _) :: r => (match intKeys r with
    | some l => some (i :: l)
    | none => none)
  | _ :: _ => none
theorem intKeys_eq : ∀ {kvs : List (Key × D)} {ks : List Int}, intKeys kvs = some ks → kvs.map (·.1) = ks.map Sum.inl
  | [], ks, h => by cases h; rfl
  | (.inl i, d) :: r, ks, h => by
    unfold intKeys at h
    split at h
    · rename_i l hl
      cases h
      rw [List.map_cons, List.map_cons, intKeys_eq hl]
    · cases h
  | (.inr x, d) :: r, ks, h => by cases h
theorem drk_keys {ks : List (Key × V)} {kvs : List (Key × D)} (h : DrK K A H ks kvs) : ks.map (·.1) = kvs.map (·.1) := by
  induction h with
  | nil => rfl
  | cons _ _ ih => rw [List.map_cons, List.map_cons, ih]
def sortI (ks : List Int) : List Int := ks.mergeSort (fun a b => decide (a ≤ b))
theorem sortI_perm (ks : List Int) : (sortI ks).Perm ks := List.mergeSort_perm _ _
theorem sortI_le (ks : List Int) : (sortI ks).Pairwise (· ≤ ·) := by
  have := List.pairwise_mergeSort (le := fun a b : Int => decide (a ≤ b)) (fun a b c h1 h2 => by simp at *; omega) (fun a b => by simp; omega) ks
  exact this.imp (fun h => by simpa using h)
theorem sortI_unique {ks ys : List Int} (p : ys.Perm ks) (s : ys.Pairwise (· ≤ ·)) : ys = sortI ks :=
  List.Perm.eq_of_pairwise (le := (· ≤ ·)) (fun a b _ _ h1 h2 => Int.le_antisymm h1 h2) s (sortI_le ks) (p.trans (sortI_perm ks).symm)
def srtK (S : SS) (x : R) : Option R := match asKv S x with
  | some kvs => (match intKeys kvs with
    | some ks => if ks.length < 64 then some (.dat (.list ((sortI ks).map .int))) else none
    | none => none)
  | none => none
theorem drl_ints : ∀ l : List Int, DrL K A H (l.map V.int) (l.map PyData.int)
  | [] => .nil
  | i :: l => .cons (.int i) (drl_ints l)
def rSortK : List V → Hp → VK → Prop := fun xs H Q => ∃ (a : Addr) (kvs : List (Key × V)) (ks : List Int), xs = [.ref a] ∧ Rd H a (.dK kvs) ∧ kvs.map (·.1) = ks.map Sum.inl ∧ ks.length < 64 ∧
    ∀ (ys : List Int) (p : Addr), ys.Perm ks → ys.Pairwise (· ≤ ·) → H p = none → Q (.ref p) (upd H p (.lst (ys.map V.int)))
theorem oR_sortK : Op1 cl K srtK (fun v H Q => rSortK [v] H Q) := by
  intro A H S x rx r Q w hx e q
  unfold srtK at e
  split at e
  · rename_i kvs hk
    split at e
    · rename_i ks hi
      split at e
      · rename_i hz
        cases e
        obtain ⟨a, kv, rfl, h1, h2⟩ := asKv_rel w hx hk
        refine ⟨a, kv, ks, rfl, .inl h1, by rw [drk_keys h2, intKeys_eq hi], hz, fun ys p hp hs hn => ?_⟩
        rw [sortI_unique hp hs]
        refine q _ _ (same_upd hn _) (new_list (fun p hp => w.fresh hp) hn (drl_ints _) ?_)
        rw [List.length_map, (sortI_perm ks).length_eq]
        exact small_le (by omega)
      · cases e
    · cases e
  · cases e
where small_le {n : Nat} (h : n ≤ 1000) : n ≤ sizeLine := Nat.le_trans h le1000
theorem ev_sortK {a : Expr} {f : Em} {p pos : Pos} (hcalm : X.calm = true) (hg : Gl X "sorted") (hm : X.mg "sorted" = none) (ha : Ev cl X a f) (he : starEach [a] X.env = (false, eval a X.env) :: starEach [] X.env := by rfl) (hpl : (backTo pos (starEach [] X.env)).any (·.1) = false := by rfl) :
    Ev cl X (.Call (.Name "sorted" p) [a] [] pos) (e1 srtK f) := ev_b1 (r := rSortK) (call_sortedDI hcalm) hg hm (by decide +kernel) oR_sortK ha (by decide) (by decide) he hpl
/-! ### d != e of dicts -/
def valsOk (kvs : List (Key × D)) : Bool := kvs.all fun p => SeqAt.shaped p.2
def sameK (k1 k2 : List (Key × D)) : Bool := (k1.length == k2.length) && k1.all fun p => match getK k2 p.1 with
  | some d => PyData.eqv p.2 d
  | none => false
def neKR (S : SS) (x y : R) : Option R := match asKv S x with
  | some k1 => (match asKv S y with
    | some k2 => if valsOk k1 && valsOk k2 then some (.dat (.bool (!sameK k1 k2))) else none
    | none => none)
  | none => none
def rNeK (K : PySem.W.Frag) : R2 := fun x y H Q => ∃ (a b : Addr) (ks ls : List (Key × V)) (k1 k2 : List (Key × D)), x = .ref a ∧ y = .ref b ∧ H a = some (.dK ks) ∧ H b = some (.dK ls) ∧
  Paired (fun (kv : Key × V) (kd : Key × D) => kv.1 = kd.1 ∧ Dp K H kv.2 kd.2) ks k1 ∧ Paired (fun (kv : Key × V) (kd : Key × D) => kv.1 = kd.1 ∧ Dp K H kv.2 kd.2) ls k2 ∧ valsOk k1 = true ∧ valsOk k2 = true ∧ Q (.bl (!sameK k1 k2)) H
theorem paired_val {H : Hp} {ks : List (Key × V)} {kvs : List (Key × D)} (h : Paired (fun (kv : Key × V) (kd : Key × D) => kv.1 = kd.1 ∧ Dp K H kv.2 kd.2) ks kvs) (ok : valsOk kvs = true) (k : Key) :
    (valV ks k = none ∧ getK kvs k = none) ∨ ∃ v d, valV ks k = some v ∧ getK kvs k = some d ∧ Dp K H v d ∧ SeqAt.shaped d = true := by
  induction h with
  | nil => exact .inl ⟨rfl, rfl⟩
  | @cons kv kd vs ds h1 h2 ih =>
    obtain ⟨k', v'⟩ := kv
    obtain ⟨k'', d'⟩ := kd
    obtain ⟨e, h1⟩ := h1
    simp only at e h1
    subst e
    unfold valsOk at ok
    rw [List.all_cons, Bool.and_eq_true] at ok
    by_cases hk : k' = k
    · exact .inr ⟨v', d', valV_pos hk, by simp [getK, hk], h1, ok.1⟩
    · rw [valV_neg (p := (k', v')) hk, show getK ((k', d') :: ds) k = getK ds k by simp [getK, List.find?_cons, hk]]
      exact ih ok.2
theorem hits_dp {pins : List (Addr × Obj)} {σ : L2.St} {H : Hp} {s : Shared} (I : Inv X pins σ H s) (hu : X.A.in1.units + 64 < cLine) {ls : List (Key × V)} {vb : List (Key × Value)} (rb : KV ls vb) {k2 : List (Key × D)}
    (pb : Paired (fun (kv : Key × V) (kd : Key × D) => kv.1 = kd.1 ∧ Dp X.K H kv.2 kd.2) ls k2) (ob : valsOk k2 = true) :
    ∀ {ks : List (Key × V)} {va : List (Key × Value)} {k1 : List (Key × D)}, KV ks va → Paired (fun (kv : Key × V) (kd : Key × D) => kv.1 = kd.1 ∧ Dp X.K H kv.2 kd.2) ks k1 → valsOk k1 = true →
      PySem.W.KeqHits X.A.in1 s vb va (k1.all fun p => match getK k2 p.1 with
        | some d => PyData.eqv p.2 d
        | none => false) := by
  intro ks va k1 ra pa oa
  induction pa generalizing va with
  | nil => cases ra; exact .nil
  | @cons kv kd vs ds h1 h2 ih =>
    obtain ⟨k, v⟩ := kv
    obtain ⟨k', d⟩ := kd
    obtain ⟨e, h1⟩ := h1
    simp only at e h1
    subst e
    unfold valsOk at oa
    rw [List.all_cons, Bool.and_eq_true] at oa
    cases va with
    | nil => cases ra
    | cons q qs =>
      obtain ⟨k0, v0⟩ := q
      cases ra with
      | cons r rs =>
        obtain ⟨e0, rv⟩ := r
        simp only at e0 rv
        subst e0
        have ro := rb.val k
        rw [List.all_cons]
        rcases paired_val pb ob k with ⟨n1, n2⟩ | ⟨v2, d2, v1, g1, dp2, sh2⟩
        · rw [n1] at ro
          have n0 : valueAt vb k = none := by
            cases hh : valueAt vb k with
            | none => rfl
            | some z => rw [hh] at ro; exact ro.elim
          simp only [n2, Bool.false_and]
          exact .miss n0
        · rw [v1] at ro
          obtain ⟨y, hy, ry⟩ := ro.some_of
          simp only [g1]
          obtain ⟨as, r1⟩ := Dp.reads I _ _ _ h1 rv
          obtain ⟨bs, r2⟩ := Dp.reads I _ _ _ dp2 ry
          exact .hit hy (PySem.W.keq_at r1 r2 oa.1 sh2 hu) (ih rs oa.2)
theorem op_neK (hu : X.A.units + 65 < cLine) : OpR X (compareOp .NotEq) (rNeK X.K) := by
  intro pins s σ H x y v u Q I rx ry h
  obtain ⟨a, b, ks, ls, k1, k2, rfl, rfl, ea, eb, pa, pb, oa, ob, q⟩ := h
  obtain rfl : v = Value.ref a := rx
  obtain rfl : u = Value.ref b := ry
  obtain ⟨_, ya, va, ra, da⟩ := (show ObjOk X.prog X.w H s.heap a (.dK ks) from I.hok a _ ea)
  obtain ⟨_, yb, vb, rb, db⟩ := (show ObjOk X.prog X.w H s.heap b (.dK ls) from I.hok b _ eb)
  have hl1 : va.length = k1.length := by rw [← ra.length]; exact prd_len pa
  have hl2 : vb.length = k2.length := by rw [← rb.length]; exact prd_len pb
  refine PySem.W.keq_ne (knd := mixKind X.prog X.w) ya yb da db (by omega) (fun _ => hits_dp I (by show X.A.units + 1 + 64 < cLine; omega) rb pb ob ra pa oa) (fin_bl I q ?_)
  rw [hl1, hl2]
  rfl
theorem oR_neK : Op2 cl K neKR (rNeK K) := by
  intro A H S x y rx ry r Q w hx hy e q
  unfold neKR at e
  split at e
  · rename_i k1 h1
    split at e
    · rename_i k2 h2
      split at e
      · rename_i ok
        rw [Bool.and_eq_true] at ok
        cases e
        obtain ⟨a, ks, rfl, a1, a2⟩ := asKv_rel w hx h1
        obtain ⟨b, ls, rfl, b1, b2⟩ := asKv_rel w hy h2
        exact ⟨a, b, ks, ls, k1, k2, rfl, rfl, a1, b1, drk_paired a2, drk_paired b2, ok.1, ok.2, q _ H (Same.refl H) (.bl _)⟩
      · cases e
    · cases e
  · cases e
/-! ### a thing picked from a display -/
def ePick (g : Am) (f : Em) : Em := fun δ S => match g δ S with
  | some (rs, S1) => if rs.length ≤ 1000 then (match f δ S1 with
    | some (.dat (.int i), S2) => (match atI rs i with
      | some r => some (r, S2)
      | none => none)
    | _ => none) else none
  | none => none
theorem RrL.len {vs : List V} {rs : List R} (h : RrL K A H vs rs) : vs.length = rs.length := by
  induction h with
  | nil => rfl
  | cons _ _ ih => rw [List.length_cons, List.length_cons, ih]
theorem RrL.at {vs : List V} {rs : List R} (h : RrL K A H vs rs) : ∀ {i : Nat} {r : R}, rs[i]? = some r → ∃ v, vs[i]? = some v ∧ Rr K A H v r := by
  induction h with
  | nil => intro i r e; simp at e
  | cons h1 _ ih =>
    intro i r e
    cases i with
    | zero => simp at e; subst e; exact ⟨_, rfl, h1⟩
    | succ i => exact ih (by simpa using e)
theorem RrL.atI {vs : List V} {rs : List R} (h : RrL K A H vs rs) {i : Int} {r : R} (e : L2.atI rs i = some r) : ∃ v, L2.atI vs i = some v ∧ Rr K A H v r := by
  unfold L2.atI at e ⊢
  rw [h.len]
  cases q : ixN rs.length i with
  | none => rw [q] at e; cases e
  | some j =>
    rw [q] at e
    exact h.at e
theorem ev_pick {es : List Expr} {b : Expr} {g : Am} {f : Em} {p pos : Pos} (hu : X.A.units + 1 < cLine) (h : Av cl X es g) (hb : Ev cl X b f) (hs : PlainIx b := by exact fun _ _ => rfl) : Ev cl X (.Subscript (.List es p) b pos) (ePick g f) := by
  refine pe_imp (pe_ix (ix_all hu) (pe_lst h) hb hs) fun σ H Q ⟨A, δ, S, r, S', hs, hw, hf, q⟩ => ?_
  unfold ePick at hf
  split at hf
  · rename_i rs S1 h1
    split at hf
    · rename_i hl
      split at hf
      · rename_i i S2 h2
        split at hf
        · rename_i r' ha
          cases hf
          refine tA_then hs hw h1 fun vs A1 H1 e1 w1 rvs s1 => ⟨by rw [rvs.len]; exact Nat.le_trans hl le1000, fun p hp => ?_⟩
          have sm : Same H1 (upd H1 p (.lst vs)) := same_upd hp _
          refine tE_then (s1.mono (.same sm)) (w1.same sm) h2 fun y A2 H2 e2 w2 ry s2 => ?_
          cases ry
          obtain ⟨v, v1, v2⟩ := rvs.atI ha
          exact .inr (.inl ⟨p, vs, _, v, rfl, rfl, SqL.of (e2.kp _ _ upd_same (w1.fresh hp)), v1, q v A2 H2 (e1.trans ((Ext.same sm).trans e2)) w2 (v2.mono ((Ext.same sm).trans e2))⟩)
        · cases hf
      · cases hf
    · cases hf
  · cases hf
/-! ### the script backward -/
def eRevS (f : Em) : Em := fun δ S => match f δ S with
  | some (.scr ns, S1) => if ns.length ≤ 1000 then some (.dat (.list (ns.reverse.map .int)), S1) else none
  | _ => none
theorem ev_revS {e : Expr} {f : Em} {k : Nat} {p1 p2 p3 pos : Pos} (he : Ev cl X e f) : Ev cl X (.Subscript e (.Slice none none (some (.UnaryOp .USub (.Constant (.int 1) k p1) p2)) p3) pos) (eRevS f) := by
  refine pe_imp (pe_revA he) fun σ H Q ⟨A, δ, S, r, S', hs, hw, hf, q⟩ => ?_
  unfold eRevS at hf
  split at hf
  · rename_i ns S1 h1
    split at hf
    · rename_i hl
      cases hf
      refine tE_then hs hw h1 fun v A1 H1 e1 w1 rv s1 => ?_
      obtain ⟨p, rfl, hp⟩ := rv
      refine .inl ⟨p, _, rfl, hp.sq, fun l hn => ?_⟩
      have sm := same_upd (H := H1) hn (.lst (ns.map V.int).reverse)
      refine q _ A1 _ (e1.trans (.same sm)) (w1.same sm) ?_
      rw [← List.map_reverse]
      exact new_list (fun p hp => w1.fresh hp) hn (drl_ints _) (by rw [List.length_map, List.length_reverse]; exact Nat.le_trans hl le1000)
    · cases hf
  · cases hf
end
end Cy
end
section
set_option Elab.async false
set_option maxRecDepth 100000
set_option maxHeartbeats 4000000
/-! a dict whose object is kept (it can be walked); text * number; len(set(texts)) -/
namespace Cy
open PySem PySem.Spec PyProof.Rows L2
section
variable {X : Cx} {K : PySem.W.Frag} {cl : Cls0} {A : List Addr} {H : Hp}
/-! ### dict(list of pairs), its object kept -/
def rDicF (K : PySem.W.Frag) : List V → Hp → VK → Prop := fun xs H Q => ∃ (a : Addr) (ps : List Addr) (kvs : List (Key × V)), xs = [.ref a] ∧ SqL K H a (ps.map V.ref) ∧ Paired (fun p kv => SqT K H p [kV kv.1, kv.2]) ps kvs ∧
    ∀ p o, H p = none → Q (.ref p) (upd H p (.frz o (.dK (mergeK [] kvs))))
theorem call_dictF (hcalm : X.calm = true) : CallR X (.type "dict") (rDicF X.K) := by
  intro pins s σ H xs us Q I r q
  obtain ⟨a, ps, kvs, ex, hq, hp, q⟩ := q
  subst ex
  obtain ⟨u, eu, rx⟩ := vals1 r
  subst eu
  cases rx
  obtain ⟨its, rv, pl, hz⟩ := I.list hq
  have ei := refs_at rv
  subst ei
  rw [List.length_map] at hz
  obtain ⟨prs, rel, hl, hpr⟩ := pairs_of I hp
  obtain ⟨o, n, ho, hc, hd, hdat⟩ := pl
  refine L2.call_dict_pairs (prs := prs) (I.ok.hd hcalm) ho hc hd hdat (by simp [hl]) (by rw [hl]; exact hz) (fun j pr e => ?_) fun h' tk hd' k => ?_
  · obtain ⟨b, u, e1, e2, e3⟩ := hpr j pr e
    exact ⟨b, u, by simp [e1], e2, e3⟩
  · have big : (s.heap.objs.size == sysModules) = false := beq_eq_false_iff_ne.mpr (Nat.ne_of_gt I.big)
    have few : (mergeK [] kvs).length ≤ sizeLine := by
      refine Nat.le_trans (length_mergeK kvs []) ?_
      rw [List.length_nil, Nat.zero_add, rel.length, hl]; exact hz
    obtain ⟨ob, es, ep, g1, g2⟩ := id hd'
    exact ⟨.ref s.heap.objs.size, upd H s.heap.objs.size (.frz ob (.dK (mergeK [] kvs))), I.laid (t' := tk) k (Nat.le_refl _)
      (show ObjOk X.prog X.w _ _ _ (.frz ob (.dK (mergeK [] kvs))) from ⟨g1, few, big, merged [] prs, KV.merge rel .nil, hd'⟩), rfl, q _ _ (I.hok.fresh (Nat.le_refl _))⟩
def dicF (S : SS) (x : R) : Option R := match asD S x with
  | some (.list ds) => (match pairsOf ds with
    | some ps => some (.dif (mergeD [] ps))
    | none => none)
  | _ => none
theorem oR_dicF : Op1 cl K dicF (fun v H Q => rDicF K [v] H Q) := by
  intro A H S x rx r Q w hx e q
  unfold dicF at e
  split at e
  · rename_i ds hd
    split at e
    · rename_i ps hp
      cases e
      obtain ⟨a, xs, rfl, h1, h2⟩ := (asD_rel w hx hd).list
      obtain ⟨as, ks, rfl, q1, q2⟩ := pairs_rel h2 hp
      refine ⟨a, as, ks, rfl, SqL.of h1, q1, fun p o hn => ?_⟩
      have sm := same_upd (H := H) hn (.frz o (.dK (mergeK [] ks)))
      exact q _ _ sm ⟨p, o, mergeK [] ks, rfl, ⟨upd_same, w.fresh hn⟩, (DrK.merge q2 .nil).mono (.same sm)⟩
    · cases e
  · cases e
theorem ev_dicF {a : Expr} {f : Em} {p pos : Pos} (hcalm : X.calm = true) (hg : Gl X "dict") (hm : X.mg "dict" = none) (ha : Ev cl X a f) (he : starEach [a] X.env = (false, eval a X.env) :: starEach [] X.env := by rfl) (hpl : (backTo pos (starEach [] X.env)).any (·.1) = false := by rfl) :
    Ev cl X (.Call (.Name "dict" p) [a] [] pos) (e1 dicF f) := ev_t1 (call_dictF hcalm) hg hm (by decide +kernel) oR_dicF ha (by decide) (by decide) he hpl
/-! ### text * number -/
def smulD : D → D → Option D
  | .str z, .int k => if z.length ≤ 16 ∧ 0 ≤ k ∧ k ≤ 1000 then some (.str (Txt.mul z k)) else none
  | _, _ => none
def rSmul : R2 := fun x y H Q => ∃ z k, x = .str z ∧ y = .int k ∧ z.length ≤ 16 ∧ 0 ≤ k ∧ k ≤ 1000 ∧ Q (.str (Txt.mul z k)) H
theorem or_smul : OpR X (binaryOp .Mult) rSmul := by
  intro pins s σ H x y v u Q I rx ry h
  obtain ⟨z, k, rfl, rfl, h1, h2, h3, q⟩ := h
  obtain ⟨t, rfl⟩ := rx
  obtain ⟨t2, rfl⟩ := ry
  exact PySem.W.KXi.mul (n := z.length) rfl h1 (by omega) (by omega) fun t3 kk _ _ => ⟨.str _, H, I.tok _, ⟨_, rfl⟩, q⟩
theorem od_smul : OpD2 K smulD rSmul := by
  intro A H x y a b d Q f hx hy e q
  unfold smulD at e
  split at e
  · split at e
    · rename_i h
      cases e
      cases hx.str; cases hy.int
      exact ⟨_, _, rfl, rfl, h.1, h.2.1, h.2.2, q _ H (Same.refl H) (.str _)⟩
    · cases e
  · cases e
end
/-! ### the set of texts -/
def nubS : List Str → List Str → List Str
  | acc, [] => acc
  | acc, x :: l => if x ∈ acc then nubS acc l else nubS (acc ++ [x]) l
theorem nubS_snoc : ∀ (l acc : List Str) (x : Str), nubS acc (l ++ [x]) = if x ∈ nubS acc l then nubS acc l else nubS acc l ++ [x]
  | [], acc, x => by by_cases h : x ∈ acc <;> simp [nubS, h]
  | y :: l, acc, x => by
    rw [List.cons_append, nubS, nubS]
    split
    · exact nubS_snoc l acc x
    · exact nubS_snoc l (acc ++ [y]) x
theorem nubS_len : ∀ (l acc : List Str), (nubS acc l).length ≤ acc.length + l.length
  | [], acc => by simp [nubS]
  | y :: l, acc => by
    rw [nubS]
    split
    · have := nubS_len l acc; simp; omega
    · have := nubS_len l (acc ++ [y]); simp at this ⊢; omega
section
variable {P : Program} {w : World} {A : Around} {R : Result → Shared → Prop} {it : Addr} {fp wr : List Addr} {G : Array GenState → Array GenState → Prop} {n : Nat} {Pv : Nat → Value → Prop} {St : Nat → Shared → Prop}
def seenS (xs : List Str) (i : Nat) : Str → Bool := fun k => decide (k ∈ nubS [] (xs.take i))
theorem set_loop (W : WalksS P w A.in1 it fp wr G n Pv St) (z : Addr) (hz : z ∉ fp) (xs : List Str) (hsz : xs.length = n) (hfew : n + 1 < scanBound)
    (hval : ∀ i v, Pv i v → ∃ t, v = .str (xs.getD i Str.empty) t) :
    ∀ (k i : Nat) (s : Shared), n - i = k → i ≤ n → St i s → s.heap.SetOf (PySem.strKind P w) z (seenS xs i) (nubS [] (xs.take i)).length →
      (∀ s', Moved (z :: wr) G s s' → s'.heap.SetOf (PySem.strKind P w) z (seenS xs n) (nubS [] (xs.take n)).length → R (.ok (.ret .none)) s') →
      codeAny (model P w) A (.builtin "set.update.loop" ⟨[.ref z, .ref it], []⟩) R s := by
  have zw : z ∉ wr := fun h => hz (W.sub _ h)
  have up : ∀ b ∈ wr, b ∈ z :: wr := fun b hb => List.mem_cons_of_mem _ hb
  have stay : ∀ {s s' : Shared} {i : Nat}, Moved wr G s s' → s.heap.SetOf (PySem.strKind P w) z (seenS xs i) (nubS [] (xs.take i)).length → s'.heap.SetOf (PySem.strKind P w) z (seenS xs i) (nubS [] (xs.take i)).length :=
    fun hm ⟨o, es, ep, t, ho, rest⟩ => ⟨o, es, ep, t, hm.heap z _ zw ho, rest⟩
  intro k
  induction k with
  | zero =>
    intro i s hk hi hst hS hR
    obtain rfl : i = n := by omega
    refine codeAny_builtin PyProof.Rows.F.entry_set_update_loop ?_
    rw [Around.under_plainId PyProof.Rows.F.plain_set_update_loop _]
    refine wpAny_bind (m := pyNext (.ref it)) (W.done s _ _ hst fun s' hm => ?_)
    exact wpAny_pure (hR s' (hm.mono up) (stay hm hS))
  | succ k ih =>
    intro i s hk hi hst hS hR
    have hlt : i < n := by omega
    refine codeAny_builtin PyProof.Rows.F.entry_set_update_loop ?_
    rw [Around.under_plainId PyProof.Rows.F.plain_set_update_loop _]
    refine wpAny_bind (m := pyNext (.ref it)) (W.item i s _ _ hlt hst fun v s' hP hst' hm => ?_)
    obtain ⟨t, rfl⟩ := hval i v hP
    have hS1 := stay hm hS
    have hx : xs[i]? = some (xs.getD i Str.empty) := by
      have hl : i < xs.length := by omega
      simp [List.getD, List.getElem?_eq_getElem hl]
    have tk : xs.take (i + 1) = xs.take i ++ [xs.getD i Str.empty] := by rw [List.take_succ, hx]; rfl
    have few : (nubS [] (xs.take i)).length + 1 < scanBound := by
      have h1 := nubS_len (xs.take i) []
      rw [List.length_take] at h1
      simp only [List.length_nil] at h1
      omega
    refine wpAny_bind (m := holding [Value.str (xs.getD i Str.empty) t] (setAdd z (.str (xs.getD i Str.empty) t))) (wpAny_holding ?_)
    unfold setAdd
    refine wpAny_holding (wpAny_bind ((PySem.strKind P w).pyHash (k := xs.getD i Str.empty) (strKind_is _ _ _ _) ?_))
    refine wpAny_setAddHashed_of (knd := PySem.strKind P w) (s := { s' with toks := s'.toks + 1 }) (strKind_is _ _ _ _) rfl hS1 few fun h' hsb hS2 => ?_
    have hS3 : h'.SetOf (PySem.strKind P w) z (seenS xs (i + 1)) (nubS [] (xs.take (i + 1))).length := by
      unfold seenS at hS2 ⊢
      rw [tk, nubS_snoc]
      generalize xs.getD i Str.empty = y at hS2 ⊢
      by_cases hin : y ∈ nubS [] (xs.take i)
      · rw [if_pos hin]
        refine PyProof.Rows.SetOf_congr hS2 (fun k' => ?_) (by simp [hin])
        by_cases e : k' = y
        · subst e; simp [hin]
        · simp [e]
      · rw [if_neg hin]
        refine PyProof.Rows.SetOf_congr hS2 (fun k' => ?_) (by simp [hin])
        by_cases e : k' = y
        · subst e; simp
        · simp [e]
    refine wpAny_pure ⟨plainId_quiet PyProof.Rows.F.plain_set_update_loop _, ih (i + 1) _ (by omega) hlt (W.frame _ s' _ _ hst' (Nat.le_succ _) fun b hb o e => ?_) hS3 fun s2 hm2 hS4 => ?_⟩
    · rw [hsb.2 b (fun h : b = z => hz (by rw [← h]; exact hb))]; exact e
    · refine hR s2 (Moved.trans W.gtrans ((hm.mono up).then_heap (Nat.le_succ _) fun b o hb e => ?_) hm2) hS4
      rw [hsb.2 b (fun h : b = z => hb (by rw [h]; exact List.mem_cons_self))]; exact e
end
/-- the new, empty set -/
def setO0 (led : Bool) : Obj := { cls := .type "set", dict := none, data := .set #[] 0 (.fresh 0 0 led) }
section
variable {P : Program} {w : World} {A : Around} {E : Value → Shared → Prop} {s : Shared}
/-- set(t) of a tuple of texts -/
theorem call_setT {l : Addr} {items : Array Value} {xs : List Str} {Q : Value → Shared → Prop} (nohand : A.handled = none) (tup : s.heap.IsTuple l items) (ss : PyProof.Rows.StrsAre items.toList xs) (few : xs.length + 1 < scanBound)
    (done : ∀ (h2 : Heap) (tk : Nat), h2.SetOf (PySem.strKind P w) s.heap.objs.size (seenS xs items.size) (nubS [] (xs.take items.size)).length → (∀ b o, b < s.heap.objs.size → s.heap.get? b = some o → h2.get? b = some o) → Q (.ref s.heap.objs.size) { s with heap := h2, toks := tk }) :
    wpAny (model P w) A (call (.type "set") [.ref l]) Q E s := by
  obtain ⟨c0, tl0, hm0⟩ := PySem.F.called_set.mro
  have k1 := PySem.F.called_set.made; have k2 := PySem.F.called_set.sub
  have k3 := PySem.F.called_set.notType; have k4 := PySem.F.called_set.canCreate
  have k5 := PySem.F.typeCall_set_1 (.ref l)
  refine wpAny_call (codeAny_of_tree (show wpAny _ _ (callAny (.type "set") _) _ _ _ from wpAny_pure ⟨Code.quiet_builtin _ (by decide +kernel), codeAny_builtin PySem.F.entry_type_call ?_⟩))
  rw [Around.under_plain (weight_type_call_type "set" [.ref l] []) rfl]
  repeat (any_goals (first | assumption | wp_step))
  refine codeAny_mono (code_set_new_1 (.ref l) (E := E) (Q₁ := fun ob s1 => ∃ led, ob = .ref s.heap.objs.size ∧ s1 = { s with heap := s.heap.push (setO0 led) }) fun led => ⟨led, rfl, rfl⟩) fun r s1 hr => ?_
  cases r with
  | error e => exact hr
  | ok fl =>
    cases fl with
    | ret ob =>
      obtain ⟨led, rfl, rfl⟩ := hr
      have atS : (s.heap.push (setO0 led)).get? s.heap.objs.size = some (setO0 led) := Heap.get?_push_size _ rfl
      have tyS : Shared.TypeIs { s with heap := s.heap.push (setO0 led) } (.ref s.heap.objs.size) "set" := ⟨_, atS, rfl⟩
      have k6 := PySem.F.called_set.init.lookup; have k7 := PySem.F.called_set.init.bind (.ref s.heap.objs.size)
      repeat (any_goals (first | assumption | wp_step))
      refine codeAny_mono (codeAny_call_builtin (R := wants (fun r s2 => r = .none ∧ ∃ h2 tk, s2 = { s with heap := h2, toks := tk } ∧ h2.SetOf (PySem.strKind P w) s.heap.objs.size (seenS xs items.size) (nubS [] (xs.take items.size)).length ∧
          ∀ b o, b < s.heap.objs.size → s.heap.get? b = some o → h2.get? b = some o) E) PySem.F.called_set.init.plain PySem.F.entry_set_init (check_set_init_1 tyS ?_)) fun r2 s2 hr2 => ?_
      · obtain ⟨⟨oc, od, odat, osl⟩, ho, hc, nl, hd⟩ := tup
        simp only at hc hd
        subst hc hd
        have ho2 : (s.heap.push (setO0 led)).get? l = some { cls := .type "tuple", dict := od, data := .seq items nl, slots := osl } := Heap.get?_push_of_some _ ho
        have m1 := PySem.F.sub_tuple_set; have m2 := PySem.F.sub_tuple_frozenset
        have m3 : (Value.type "tuple" == Value.type "dict") = false := by decide
        have tup1 : (s.heap.push (setO0 led)).IsTuple l items := ⟨_, ho2, rfl, nl, rfl⟩
        unfold Builtin.«set.__init__» noKeywords Builtin.Frozenset.updateFrom
        generalize pyItEq : pyIter = PI
        wp_walk
        subst pyItEq
        refine wpAny_pyIter_tuple tup1 (wpAny_bind (wpAny_runValue ?_))
        have lt : l < s.heap.objs.size := Heap.lt_size ho
        have hn : A.in1.in1.in1.handled = none := by simp [nohand]
        have psz : (s.heap.push (setO0 led)).objs.size = s.heap.objs.size + 1 := Heap.size_push ..
        have ne1 : l ≠ (s.heap.push (setO0 led)).objs.size := by rw [psz]; exact Nat.ne_of_lt (Nat.lt_succ_of_lt lt)
        have off : s.heap.objs.size ∉ [(s.heap.push (setO0 led)).objs.size, l] := by
          simp only [List.mem_cons, List.not_mem_nil, or_false, not_or]
          exact ⟨by rw [psz]; exact Nat.ne_of_lt (Nat.lt_succ_self _), Nat.ne_of_gt lt⟩
        have len : xs.length = items.size := by rw [← StrsAre.len_eq ss, Array.length_toList]
        refine set_loop ((Walks.tuple hn _ l ne1 items).toS) s.heap.objs.size off xs len (by omega) (fun i v hv => SS.strs_at ss i v (by rw [Array.getElem?_toList]; exact hv)) (items.size - 0) 0 _ (by omega) (Nat.zero_le _)
          ⟨⟨_, Heap.get?_push_size _ rfl, rfl, rfl⟩, (tup1.push _)⟩ ?s0 ?s1
        case s0 =>
          exact PyProof.Rows.SetOf_congr ((PyProof.Rows.setObjOf_fresh (knd := PySem.strKind P w) led).setOf (Heap.get?_push_of_some _ atS) (by unfold scanBound; omega)) (fun _ => by simp [seenS, nubS]) rfl
        case s1 =>
          intro s3 mv hS
          obtain ⟨h3, g3, d3, t3, o3⟩ := s3
          have e1 : g3 = s.gens := mv.gens
          have e2 : d3 = s.drawn := mv.drawn
          have e3 : o3 = s.os := mv.os
          subst e1 e2 e3
          refine wpAny_pure (show wpAny _ _ (ret Value.none) _ _ _ from wpAny_pure ⟨rfl, h3, t3, rfl, hS, fun b o hb e => mv.heap b o ?_ (Heap.get?_push_of_some _ (Heap.get?_push_of_some _ e))⟩)
          simp only [List.mem_cons, List.not_mem_nil, or_false, not_or]
          exact ⟨Nat.ne_of_lt hb, by rw [psz]; exact Nat.ne_of_lt (Nat.lt_succ_of_lt hb)⟩
      · cases r2 with
        | error e => exact hr2
        | ok f2 =>
          cases f2 with
          | ret r =>
            obtain ⟨rfl, h2, tk, rfl, hS, hk⟩ := hr2
            repeat (any_goals (first | assumption | wp_step))
            exact done _ _ hS hk
          | _ => exact hr2.elim
    | _ => exact hr.elim
end
/-! #### len(set(t)) -/
def lenSetD : D → Option D
  | .tuple ds => (match strsOf ds with
    | some xs => if xs.length ≤ 60 then some (.int (nubS [] xs).length) else none
    | none => none)
  | _ => none
section
variable {X : Cx} {cl : Cls0} {pos : Pos} {a : Expr} {f : Em}
def tLenSetT (K : PySem.W.Frag) (ta : TE) : TE := fun σ H Q => ta σ H fun x H1 => ∃ (l : Addr) (xs : List Str), x = .ref l ∧ SqT K H1 l (xs.map V.str) ∧ xs.length ≤ 60 ∧ Q (.int (nubS [] xs).length) H1
theorem vals_strs : ∀ {xs : List Str} {us : List Value}, Vals (xs.map V.str) us → PyProof.Rows.StrsAre us xs
  | [], _, .nil => .nil
  | x :: xs, _, .cons ⟨t, e⟩ r => by subst e; exact .cons x t (vals_strs r)
theorem pe_lenSetT {ta : TE} {p p2 q : Pos} (hc : X.calm = true) (g1 : Gl X "len") (m1 : X.mg "len" = none) (g2 : Gl X "set") (m2 : X.mg "set" = none) (ha : PE X a ta) (na : starEach [a] X.env = (false, eval a X.env) :: starEach [] X.env := by rfl) :
    PE X (.Call (.Name "len" p) [.Call (.Name "set" p2) [a] [] q] [] pos) (tLenSetT X.K ta) := by
  refine ⟨fun pins s σ H Q I hq => Call_ (ld_blt I g1 m1 boot_len (PyProof.Rows.callWith_builtin1 (PyProof.Rows.args_cons (Call_ (ld_blt I g2 m2 boot_set ?_)) rfl) rfl rfl))⟩
  refine PyProof.Rows.callWith_type1 (PyProof.Rows.args_cons (thn (ha.run pins s σ H _ I hq) fun v s1 ⟨x, H1, I1, r1, l, xs, ex, h1, h2, q1⟩ => PyProof.Rows.args_nil ?_) na) na rfl
  subst ex
  cases r1
  obtain ⟨its, r, pl, hz⟩ := I1.tuple h1
  have len : its.toArray.size = xs.length := by rw [List.size_toArray, ← r.length, List.length_map]
  refine call_setT (I1.ok.hd hc) pl (by simpa using vals_strs r) (by unfold scanBound; omega) fun h2 tk hS hk => PyProof.Rows.args_nil ?_
  rw [len, List.take_length] at hS
  obtain ⟨o, es, ep, t, ho, hex, hd, _, _, _, hf, hn⟩ := hS
  have I2 : Inv X pins σ H1 { s1 with heap := h2, toks := tk } := I1.kept fun b o e => hk b o (Heap.lt_size e) e
  have few : (nubS [] xs).length ≤ 60 := by have := nubS_len xs []; simp at this; omega
  exact call_len_set ho hex hd hf (by rw [hn]; omega) ⟨.int (nubS [] xs).length, H1, I2.tok _, ⟨_, by rw [hn]⟩, q1⟩
theorem ev_lenSet {p p2 q : Pos} (hc : X.calm = true) (g1 : Gl X "len") (m1 : X.mg "len" = none) (g2 : Gl X "set") (m2 : X.mg "set" = none) (ha : Ev cl X a f) (na : starEach [a] X.env = (false, eval a X.env) :: starEach [] X.env := by rfl) :
    Ev cl X (.Call (.Name "len" p) [.Call (.Name "set" p2) [a] [] q] [] pos) (e1 (l1 lenSetD) f) := by
  refine pe_imp (pe_lenSetT hc g1 m1 g2 m2 ha na) fun σ H Q ⟨A, δ, S, r, S', hs, hw, hf, q⟩ => ?_
  obtain ⟨x, f1, h1⟩ := e1_some hf
  refine tE_then hs hw f1 fun v A1 H1 e1 w1 rv s1 => ?_
  unfold l1 at h1
  split at h1
  · rename_i d hd
    split at h1
    · rename_i d2 hd2
      cases h1
      have hx := asD_rel w1 rv hd
      unfold lenSetD at hd2
      split at hd2
      · rename_i ds
        split at hd2
        · rename_i xs hxs
          split at hd2
          · rename_i few
            cases hd2
            obtain ⟨t, vs, rfl, t1, t2⟩ := hx.tuple
            have e : ds = xs.map .str := strsOf_eq hxs
            subst e
            rw [t2.strs] at t1
            exact ⟨t, xs, rfl, t1.sq, few, q _ A1 H1 e1 w1 (.int _)⟩
          · cases hd2
        · cases hd2
      · cases hd2
    · cases h1
  · cases h1
end
end Cy
end
section
set_option Elab.async false
set_option maxRecDepth 100000
namespace Cy
open PySem L2
inductive Fid where
  | is_worth
  | is_name
  | is_call
  | is_sum
  | is_head
  | is_book_k01
  | law_cell_at
  | law_mixed
  | law_drawn
  | law_sum
  | law_again
  | law_book
  | law_worths
  | law_is_name
  | law_is_sum
  | law_is_book
  | law_spoilt_k01
  | law_k01
  | sum_words
  | all_words
  | written
  | law_words
  | law_text
  | law_k02
  | is_book_k03
  | Reader___init__
  | Reader_look
  | law_sum_in
  | law_called
  | law_places_in
  | law_otherwise
  | maker_of
  | reckoned
  | Runner___init__
  | Runner_maker
  | Runner_worth
  | Runner_call
  | go
  | law_value
  | law_reckoned
  | law_maker
  | law_go
  | law_k10
  | law_k11
  | law_k12
  | parts_of
  | with_parts
  | folded_by
  | folded
  | is_folded
  | law_fold
  | law_drawn_shape
  | law_k20
  | law_is_called
  | law_k21
  | known_by
  | folded_sum
  | shape_of
  | calls_in
  | unlike
  | inner
  | law_folded
  | law_calls
  | law_masked
  | law_shapes
  | law_k30
  | all_true
  | masked
  | shapes_by
  | shapes
  | law_k31
  | law_k32
  | names_in
  | kept_parts
  | needs_of
  | needed
  | slim_sum
  | slim
  | by_places
  | refined
  | numbers_of
  | classes
  | called
  | merged
  | replaced
  | is_simple
  | placed
  | inlined
  | law_led
  | law_book_led
  | Copier___init__
  | Copier_name_of
  | Copier_put
  | Copier_copy
  | copied_by
  | copied
  | law_drawn_masks
  | law_named
  | law_put
  | law_copied
  | law_k40
  | law_left
  | law_k41
  | law_good
  | law_k42
  | law_k50
  | all_masks
  | truths_in
  | best_masks
  | law_all
  | law_once_k51
  | law_k51
  | law_seen
  | law_needed
  | law_slim
  | law_k60
  | law_k61
  | law_look
  | law_numbers
  | law_renamed
  | law_twice
  | law_first
  | law_k70
  | law_k71
  | law_in_place
  | law_placed
  | law_k80
  | law_k81
def c_RING : D := .int 1000
def c_LONGEST : D := .int 4
def c_BARRED : D := .tuple [(.str "plus"), (.str "less"), (.str "same"), (.str "if"), (.str "call")]
def c_LETTERS : D := .str "abcdefghijklmnopqrstuvwxyz"
def c_WORDS : D := .tuple [(.str "plus"), (.str "less"), (.str "times"), (.str "same"), (.str "under")]
def c_MOST_NAMES : D := .int 3
def c_MOST_MAKERS : D := .int 4
def c_DEEPEST : D := .int 5
def c_DEEPEST_books : D := .int 5
noncomputable def b_Reader___init__ (φ : Fid → Fn) : Fn := runFn 2 2
  (sSeq (sFld "Reader" "words" (eVar 0) (eVar 1))
  (sFld "Reader" "at" (eVar 0) (eC (.int 0))))
noncomputable def b_Runner___init__ (φ : Fid → Fn) : Fn := runFn 3 3
  (sSeq (sFld "Runner" "book" (eVar 0) (eVar 1))
  (sSeq (sFld "Runner" "most" (eVar 0) (eVar 2))
  (sFld "Runner" "many" (eVar 0) (eC (.int 0)))))
noncomputable def b_Copier___init__ (φ : Fid → Fn) : Fn := runFn 4 4
  (sSeq (sFld "Copier" "book" (eVar 0) (eVar 1))
  (sSeq (sFld "Copier" "masks" (eVar 0) (eVar 2))
  (sFld "Copier" "pairs" (eVar 0) (eVar 3))))
noncomputable def b_is_worth (φ : Fid → Fn) : Fn := runFn 1 1
  (sRet (eAn (e1 (l1 (isiD "int")) (eVar 0)) (eAn (eNo (e1 (l1 (isiD "bool")) (eVar 0))) (eChain (l2 leD) (l2 ltD) (eC (.int 0)) (eVar 0) (eC c_RING)))))
noncomputable def b_is_name (φ : Fid → Fn) : Fn := runFn 2 1
  (sSeq (sIf (tOr' (tNo (tOf (e1 (l1 (isiD "str")) (eVar 0)))) (tOr' (tNo (tOf (eChain (l2 leD) (l2 leD) (eC (.int 1)) (e1 lenR (eVar 0)) (eC c_LONGEST)))) (tOf (e2 inR (eVar 0) (eC c_BARRED)))))
  (sRet (eC (.bool false)))
  sSkip)
  (sRet (e1 (l1 allD) (eComp [1] (iSeq (eVar 0)) (gNm 1) tTrue (e2 inR (eVar 1) (eC c_LETTERS))))))
noncomputable def b_is_call (φ : Fid → Fn) : Fn := runFn 5 4
  (sSeq (sIf (tOr' (tOf (e2 (l2 neD) (e1 lenR (eVar 0)) (eC (.int 3)))) (tOr' (tNo (tOf (e1 (l1 (isiD "str")) (e2 ixR (eVar 0) (eC (.int 1)))))) (tNo (tOf (e1 (l1 (isiD "tuple")) (e2 ixR (eVar 0) (eC (.int 2))))))))
  (sRet (eC (.bool false)))
  sSkip)
  (sSeq (sIf (tOf (e2 (l2 neD) (eGet2 (eVar 2) (e2 ixR (eVar 0) (eC (.int 1))) (e1 (l1 negD) (eC (.int 1)))) (e1 lenR (e2 ixR (eVar 0) (eC (.int 2))))))
  (sRet (eC (.bool false)))
  sSkip)
  (sRet (e1 (l1 allD) (eComp [4] (iSeq (e2 ixR (eVar 0) (eC (.int 2)))) (gNm 4) tTrue (eCall (φ .is_sum) (aCons (eVar 4) (aCons (eVar 1) (aCons (eVar 2) (aCons (eVar 3) aNil))))))))))
noncomputable def b_is_sum (φ : Fid → Fn) : Fn := runFn 5 4
  (sSeq (sIf (tOf (e1 (l1 (isiD "str")) (eVar 0)))
  (sRet (e2 inR (eVar 0) (eVar 1)))
  sSkip)
  (sSeq (sIf (tNo (tOf (e1 (l1 (isiD "tuple")) (eVar 0))))
  (sRet (eCall (φ .is_worth) (aCons (eVar 0) aNil)))
  sSkip)
  (sSeq (sIf (tOr' (tOf (e2 (l2 eqD) (eVar 3) (eC (.int 0)))) (tOr' (tOf (e2 (l2 eqD) (e1 lenR (eVar 0)) (eC (.int 0)))) (tNo (tOf (e1 (l1 (isiD "str")) (e2 ixR (eVar 0) (eC (.int 0))))))))
  (sRet (eC (.bool false)))
  sSkip)
  (sSeq (sIf (tOf (e2 (l2 eqD) (e2 ixR (eVar 0) (eC (.int 0))) (eC (.str "call"))))
  (sRet (eCall (φ .is_call) (aCons (eVar 0) (aCons (eVar 1) (aCons (eVar 2) (aCons (e2 (l2 subD) (eVar 3) (eC (.int 1))) aNil))))))
  sSkip)
  (sSeq (sIf (tOr' (tAn (tOf (e2 (l2 eqD) (e2 ixR (eVar 0) (eC (.int 0))) (eC (.str "if")))) (tOf (e2 (l2 eqD) (e1 lenR (eVar 0)) (eC (.int 4))))) (tAn (tOf (e2 inR (e2 ixR (eVar 0) (eC (.int 0))) (eC c_WORDS))) (tOf (e2 (l2 eqD) (e1 lenR (eVar 0)) (eC (.int 3))))))
  (sRet (e1 (l1 allD) (eComp [4] (iSeq (eSl (eVar 0) (oSome (eC (.int 1))) oNone)) (gNm 4) tTrue (eCall (φ .is_sum) (aCons (eVar 4) (aCons (eVar 1) (aCons (eVar 2) (aCons (e2 (l2 subD) (eVar 3) (eC (.int 1))) aNil))))))))
  sSkip)
  (sRet (eC (.bool false))))))))
noncomputable def b_is_head (φ : Fid → Fn) : Fn := runFn 2 1
  (sSeq (sIf (tOr' (tNo (tOf (e1 (l1 (isiD "tuple")) (eVar 0)))) (tOr' (tOf (e2 (l2 neD) (e1 lenR (eVar 0)) (eC (.int 3)))) (tOr' (tNo (tOf (eCall (φ .is_name) (aCons (e2 ixR (eVar 0) (eC (.int 0))) aNil)))) (tNo (tOf (e1 (l1 (isiD "tuple")) (e2 ixR (eVar 0) (eC (.int 1)))))))))
  (sRet (eC (.bool false)))
  sSkip)
  (sSeq (sIf (tOr' (tOf (e2 (l2 gtD) (e1 lenR (e2 ixR (eVar 0) (eC (.int 1)))) (eC c_MOST_NAMES))) (tNo (tOf (e1 (l1 allD) (eComp [1] (iSeq (e2 ixR (eVar 0) (eC (.int 1)))) (gNm 1) tTrue (eCall (φ .is_name) (aCons (eVar 1) aNil)))))))
  (sRet (eC (.bool false)))
  sSkip)
  (sRet (e2 (l2 eqD) (e1 (l1 lenSetD) (e2 ixR (eVar 0) (eC (.int 1)))) (e1 lenR (e2 ixR (eVar 0) (eC (.int 1))))))))
noncomputable def b_is_book_k01 (φ : Fid → Fn) : Fn := runFn 3 1
  (sSeq (sIf (tOr' (tNo (tOf (e1 (l1 (isiD "tuple")) (eVar 0)))) (tOr' (tNo (tOf (eChain (l2 leD) (l2 leD) (eC (.int 1)) (e1 lenR (eVar 0)) (eC c_MOST_MAKERS)))) (tNo (tOf (e1 (l1 allD) (eComp [2] (iSeq (eVar 0)) (gNm 2) tTrue (eCall (φ .is_head) (aCons (eVar 2) aNil))))))))
  (sRet (eC (.bool false)))
  sSkip)
  (sSeq (sAsg (e1 dicR (eComp [2] (iSeq (eVar 0)) (gNm 2) tTrue (eN tupR (aCons (e2 ixR (eVar 2) (eC (.int 0))) (aCons (e1 lenR (e2 ixR (eVar 2) (eC (.int 1)))) aNil))))) (gNm 1))
  (sSeq (sIf (tOf (e2 (l2 neD) (e1 lenR (eVar 1)) (e1 lenR (eVar 0))))
  (sRet (eC (.bool false)))
  sSkip)
  (sRet (e1 (l1 allD) (eComp [2] (iSeq (eVar 0)) (gNm 2) tTrue (eCall (φ .is_sum) (aCons (e2 ixR (eVar 2) (eC (.int 2))) (aCons (e2 ixR (eVar 2) (eC (.int 1))) (aCons (eVar 1) (aCons (eC c_DEEPEST) aNil)))))))))))
noncomputable def b_law_cell_at (φ : Fid → Fn) : Fn := runFn 2 2
  (sSeq (sIf (tOf (e2 (l2 ltD) (eVar 1) (e1 lenR (eVar 0))))
  (sRet (e2 ixR (eVar 0) (eVar 1)))
  sSkip)
  (sRet (eC (.int 0))))
noncomputable def b_law_mixed (φ : Fid → Fn) : Fn := runFn 3 2
  (sSeq (sAsg (e2 (l2 modD) (e2 (l2 mulD) (e2 (l2 addD) (e2 (l2 addD) (eCall (φ .law_cell_at) (aCons (eVar 0) (aCons (eVar 1) aNil))) (e2 (l2 mulD) (eC (.int 7919)) (eVar 1))) (eC (.int 1))) (eC (.int 48271))) (eC (.int 2147483647))) (gNm 2))
  (sRet (e2 (l2 modD) (e2 (l2 addD) (e2 (l2 addD) (e2 (l2 mulD) (eVar 2) (eVar 2)) (e2 (l2 mulD) (eC (.int 7)) (eVar 2))) (eVar 1)) (eC (.int 2147483629)))))
noncomputable def b_law_drawn (φ : Fid → Fn) : Fn := runFn 3 2
  (sSeq (sAsg (e2 (l2 modD) (e2 (l2 mulD) (e2 (l2 addD) (e2 (l2 addD) (eVar 0) (e2 (l2 mulD) (eC (.int 104729)) (eVar 1))) (eC (.int 17))) (eC (.int 69621))) (eC (.int 2147483647))) (gNm 2))
  (sRet (e2 (l2 modD) (e2 (l2 addD) (e2 (l2 addD) (e2 (l2 mulD) (eVar 2) (eVar 2)) (e2 (l2 mulD) (eC (.int 3)) (eVar 2))) (eVar 1)) (eC (.int 2147483629)))))
noncomputable def b_law_sum (φ : Fid → Fn) : Fn := runFn 9 4
  (sSeq (sIf (tOr' (tOf (e2 (l2 eqD) (eVar 3) (eC (.int 0)))) (tOf (e2 (l2 eqD) (e2 (l2 modD) (eVar 0) (eC (.int 4))) (eC (.int 0)))))
  (sSeq (sAsg (e2 (l2 addD) (eN lstR (aCons (e2 (l2 modD) (e2 (l2 fdivD) (eVar 0) (eC (.int 4))) (eC (.int 1000))) (aCons (e2 (l2 modD) (e2 (l2 fdivD) (eVar 0) (eC (.int 4))) (eC (.int 4))) aNil))) (e1 (l1 listD) (eVar 1))) (gNm 4))
  (sRet (e2 ixR (eVar 4) (e2 (l2 modD) (e2 (l2 fdivD) (eVar 0) (eC (.int 64))) (e1 lenR (eVar 4))))))
  sSkip)
  (sSeq (sAsg (eComp [8] (iSeq (eN tupR (aCons (eC (.int 1)) (aCons (eC (.int 2)) (aCons (eC (.int 3)) aNil))))) (gNm 8) tTrue (eCall (φ .law_sum) (aCons (e2 (l2 fdivD) (eCall (φ .law_drawn) (aCons (eVar 0) (aCons (eVar 8) aNil))) (eC (.int 4))) (aCons (eVar 1) (aCons (eVar 2) (aCons (e2 (l2 subD) (eVar 3) (eC (.int 1))) aNil)))))) (gNm 5))
  (sSeq (sIf (tAn (tOf (e2 (l2 eqD) (e2 (l2 modD) (eVar 0) (eC (.int 4))) (eC (.int 1)))) (tOf (e2 (l2 gtD) (e1 lenR (eVar 2)) (eC (.int 0)))))
  (sSeq (sAsg (e2 ixR (eVar 2) (e2 (l2 modD) (e2 (l2 fdivD) (eVar 0) (eC (.int 16))) (e1 lenR (eVar 2)))) (gTp 2 (gsCons (gNm 6) (gsCons (gNm 7) gsNil))))
  (sRet (eN tupR (aCons (eC (.str "call")) (aCons (eVar 6) (aCons (e1 (l1 tupD) (eSl (eVar 5) oNone (oSome (eVar 7)))) aNil))))))
  sSkip)
  (sSeq (sIf (tOf (e2 (l2 eqD) (e2 (l2 modD) (eVar 0) (eC (.int 4))) (eC (.int 2))))
  (sRet (eN tupR (aCons (eC (.str "if")) (aCons (e2 ixR (eVar 5) (eC (.int 0))) (aCons (e2 ixR (eVar 5) (eC (.int 1))) (aCons (e2 ixR (eVar 5) (eC (.int 2))) aNil))))))
  sSkip)
  (sRet (eN tupR (aCons (e2 ixR (eN tupR (aCons (eC (.str "plus")) (aCons (eC (.str "less")) (aCons (eC (.str "times")) (aCons (eC (.str "same")) (aCons (eC (.str "under")) (aCons (eC (.str "plus")) aNil))))))) (e2 (l2 modD) (e2 (l2 fdivD) (eVar 0) (eC (.int 16))) (eC (.int 6)))) (aCons (e2 ixR (eVar 5) (eC (.int 0))) (aCons (e2 ixR (eVar 5) (eC (.int 1))) aNil)))))))))
noncomputable def b_law_again (φ : Fid → Fn) : Fn := runFn 12 4
  (sSeq (sAsg (e2 ixR (eN lstR (aCons (eN tupR (aCons (eVar 1) (aCons (e1 lenR (eVar 2)) aNil))) (aCons (e2 ixR (eVar 3) (e2 (l2 modD) (e2 (l2 fdivD) (eVar 0) (eC (.int 4))) (e1 lenR (eVar 3)))) aNil))) (e2 (l2 modD) (eVar 0) (eC (.int 2)))) (gTp 2 (gsCons (gNm 4) (gsCons (gNm 5) gsNil))))
  (sSeq (sAsg (eLstO (aCons (eN tupR (aCons (eC (.str "less")) (aCons (e2 ixR (eVar 2) (eC (.int 0))) (aCons (eC (.int 1)) aNil)))) aNil)) (gNm 6))
  (sSeq (sFor (iRange2 (eC (.int 1)) (eVar 5)) (gNm 7)
  (sExpr (eAppend (eVar 6) (eCall (φ .law_sum) (aCons (e2 (l2 fdivD) (eCall (φ .law_drawn) (aCons (eVar 0) (aCons (e2 (l2 addD) (eC (.int 10)) (eVar 7)) aNil))) (eC (.int 4))) (aCons (eVar 2) (aCons (eN lstR aNil) (aCons (eC (.int 1)) aNil))))))) [7])
  (sSeq (sAsg (eN tupR (aCons (eC (.str "call")) (aCons (eVar 4) (aCons (e1 (l1 tupD) (eSl (eVar 6) oNone (oSome (eVar 5)))) aNil)))) (gNm 8))
  (sSeq (sAsg (eCall (φ .law_sum) (aCons (e2 (l2 fdivD) (eCall (φ .law_drawn) (aCons (eVar 0) (aCons (eC (.int 14)) aNil))) (eC (.int 4))) (aCons (eVar 2) (aCons (eN lstR aNil) (aCons (eC (.int 1)) aNil))))) (gNm 9))
  (sSeq (sAsg (eCall (φ .law_sum) (aCons (e2 (l2 fdivD) (eCall (φ .law_drawn) (aCons (eVar 0) (aCons (eC (.int 15)) aNil))) (eC (.int 4))) (aCons (eVar 2) (aCons (eN lstR aNil) (aCons (eC (.int 2)) aNil))))) (gNm 10))
  (sSeq (sAsg (e2 ixR (eN lstR (aCons (eVar 8) (aCons (eN tupR (aCons (eC (.str "plus")) (aCons (eVar 9) (aCons (eVar 8) aNil)))) (aCons (eN tupR (aCons (eC (.str "times")) (aCons (eVar 8) (aCons (eVar 9) aNil)))) (aCons (eN tupR (aCons (eC (.str "less")) (aCons (eVar 8) (aCons (eVar 9) aNil)))) aNil))))) (e2 (l2 modD) (e2 (l2 fdivD) (eVar 0) (eC (.int 64))) (eC (.int 4)))) (gNm 8))
  (sSeq (sAsg (e2 ixR (eN lstR (aCons (e2 ixR (eVar 2) (eC (.int 0))) (aCons (e2 ixR (eVar 2) (eC (.int 0))) (aCons (eN tupR (aCons (eC (.str "under")) (aCons (eC (.int 0)) (aCons (e2 ixR (eVar 2) (eC (.int 0))) aNil)))) (aCons (eN tupR (aCons (eC (.str "same")) (aCons (e2 ixR (eVar 2) (e1 (l1 negD) (eC (.int 1)))) (aCons (eC (.int 1)) aNil)))) aNil))))) (e2 (l2 modD) (e2 (l2 fdivD) (eVar 0) (eC (.int 256))) (eC (.int 4)))) (gNm 11))
  (sRet (eN tupR (aCons (eC (.str "if")) (aCons (eVar 11) (aCons (eVar 8) (aCons (eVar 10) aNil))))))))))))))
noncomputable def b_law_book (φ : Fid → Fn) : Fn := runFn 10 1
  (sSeq (sAsg (eLstO aNil) (gNm 1))
  (sSeq (sFor (iRange1 (e2 ixR (eN tupR (aCons (eC (.int 2)) (aCons (eC (.int 1)) (aCons (eC (.int 3)) (aCons (eC (.int 4)) (aCons (eC (.int 2)) (aCons (eC (.int 3)) aNil))))))) (e2 (l2 modD) (eVar 0) (eC (.int 6))))) (gNm 2)
  (sSeq (sAsg (e2 (l2 fdivD) (eCall (φ .law_drawn) (aCons (eVar 0) (aCons (eVar 2) aNil))) (eC (.int 4))) (gNm 3))
  (sSeq (sAsg (e2 ixR (eN lstR (aCons (eN tupR (aCons (eC (.str "n")) aNil)) (aCons (eN tupR (aCons (eC (.str "n")) (aCons (eC (.str "a")) aNil))) (aCons (eN tupR (aCons (eC (.str "a")) aNil)) (aCons (eN tupR (aCons (eC (.str "n")) (aCons (eC (.str "a")) (aCons (eC (.str "b")) aNil)))) (aCons (eN tupR aNil) (aCons (eN tupR (aCons (eC (.str "a")) (aCons (eC (.str "b")) aNil))) aNil))))))) (e2 (l2 modD) (eVar 3) (eC (.int 6)))) (gNm 4))
  (sExpr (eAppend (eVar 1) (eN tupR (aCons (e2 ixR (eN tupR (aCons (eC (.str "f")) (aCons (eC (.str "g")) (aCons (eC (.str "pow")) (aCons (eC (.str "h")) aNil))))) (eVar 2)) (aCons (eVar 4) aNil))))))) [2, 3, 4])
  (sSeq (sAsg (eN tupR aNil) (gNm 5))
  (sSeq (sFor (iEnum' (eVar 1)) (gTp 2 (gsCons (gNm 2) (gsCons (gNm 6) gsNil)))
  (sSeq (sAsg (e2 (l2 fdivD) (eCall (φ .law_drawn) (aCons (eVar 0) (aCons (e2 (l2 addD) (eC (.int 10)) (eVar 2)) aNil))) (eC (.int 4))) (gNm 3))
  (sSeq (sAsg (eComp [9, 4] (iSeq (eVar 1)) (gTp 2 (gsCons (gNm 9) (gsCons (gNm 4) gsNil))) tTrue (eN tupR (aCons (eVar 9) (aCons (e1 lenR (eVar 4)) aNil)))) (gNm 7))
  (sSeq (sIf (tAn (tOf (e2 (l2 gtD) (e2 (l2 modD) (eVar 3) (eC (.int 3))) (eC (.int 0)))) (tOf (e2 (l2 neD) (e2 ixR (eVar 6) (eC (.int 1))) (eN tupR aNil))))
  (sAsg (eCall (φ .law_again) (aCons (e2 (l2 fdivD) (eVar 3) (eC (.int 4))) (aCons (e2 ixR (eVar 6) (eC (.int 0))) (aCons (e2 ixR (eVar 6) (eC (.int 1))) (aCons (eVar 7) aNil))))) (gNm 8))
  (sAsg (eCall (φ .law_sum) (aCons (e2 (l2 fdivD) (eVar 3) (eC (.int 4))) (aCons (e2 ixR (eVar 6) (eC (.int 1))) (aCons (eSl (eVar 7) oNone (oSome (eVar 2))) (aCons (eC (.int 3)) aNil))))) (gNm 8)))
  (sAsg (e2 (l2 addD) (eVar 5) (eN tupR (aCons (eN tupR (aCons (e2 ixR (eVar 6) (eC (.int 0))) (aCons (e2 ixR (eVar 6) (eC (.int 1))) (aCons (eVar 8) aNil)))) aNil))) (gNm 5))))) [2, 6, 3, 7, 8])
  (sRet (eVar 5))))))
noncomputable def b_law_worths (φ : Fid → Fn) : Fn := runFn 3 2
  (sRet (e1 (l1 tupD) (eComp [2] (iRange1 (eVar 1)) (gNm 2) tTrue (e2 (l2 modD) (e2 (l2 fdivD) (eCall (φ .law_drawn) (aCons (eVar 0) (aCons (e2 (l2 addD) (eC (.int 70)) (eVar 2)) aNil))) (eC (.int 4))) (e2 ixR (eN tupR (aCons (eC (.int 1000)) (aCons (eC (.int 5)) (aCons (eC (.int 3)) (aCons (eC (.int 12)) aNil))))) (e2 (l2 modD) (e2 (l2 fdivD) (eVar 0) (eC (.int 4))) (eC (.int 4))))))))
noncomputable def b_law_is_name (φ : Fid → Fn) : Fn := runFn 2 1
  (sSeq (sIf (tOr' (tNo (tOf (e1 (l1 (isiD "str")) (eVar 0)))) (tOr' (tNo (tOf (eChain (l2 leD) (l2 leD) (eC (.int 1)) (e1 lenR (eVar 0)) (eC (.int 4))))) (tOf (e2 inR (eVar 0) (eN tupR (aCons (eC (.str "plus")) (aCons (eC (.str "less")) (aCons (eC (.str "same")) (aCons (eC (.str "if")) (aCons (eC (.str "call")) aNil))))))))))
  (sRet (eC (.bool false)))
  sSkip)
  (sRet (e2 (l2 eqD) (eComp [1] (iSeq (eVar 0)) (gNm 1) (tNo (tOf (eChain (l2 leD) (l2 leD) (eC (.str "a")) (eVar 1) (eC (.str "z"))))) (eVar 1)) (eN lstR aNil))))
noncomputable def b_law_is_sum (φ : Fid → Fn) : Fn := runFn 6 4
  (sSeq (sIf (tOf (e1 (l1 (isiD "str")) (eVar 0)))
  (sRet (e2 inR (eVar 0) (eVar 1)))
  sSkip)
  (sSeq (sIf (tNo (tOf (e1 (l1 (isiD "tuple")) (eVar 0))))
  (sRet (eAn (e1 (l1 (isiD "int")) (eVar 0)) (eAn (eNo (e1 (l1 (isiD "bool")) (eVar 0))) (eChain (l2 leD) (l2 leD) (eC (.int 0)) (eVar 0) (eC (.int 999))))))
  sSkip)
  (sSeq (sIf (tOr' (tOf (e2 (l2 eqD) (eVar 3) (eC (.int 0)))) (tOr' (tOf (e2 (l2 eqD) (eVar 0) (eN tupR aNil))) (tNo (tOf (e1 (l1 (isiD "str")) (e2 ixR (eVar 0) (eC (.int 0))))))))
  (sRet (eC (.bool false)))
  sSkip)
  (sSeq (sAsg (eSl (eVar 0) (oSome (eC (.int 1))) oNone) (gNm 4))
  (sSeq (sIf (tOf (e2 (l2 eqD) (e2 ixR (eVar 0) (eC (.int 0))) (eC (.str "call"))))
  (sSeq (sIf (tOr' (tOf (e2 (l2 neD) (e1 lenR (eVar 0)) (eC (.int 3)))) (tOr' (tNo (tOf (e1 (l1 (isiD "str")) (e2 ixR (eVar 0) (eC (.int 1)))))) (tNo (tOf (e1 (l1 (isiD "tuple")) (e2 ixR (eVar 0) (eC (.int 2))))))))
  (sRet (eC (.bool false)))
  sSkip)
  (sSeq (sIf (tOf (e2 (l2 neD) (eGet2 (eVar 2) (e2 ixR (eVar 0) (eC (.int 1))) (e1 (l1 negD) (eC (.int 1)))) (e1 lenR (e2 ixR (eVar 0) (eC (.int 2))))))
  (sRet (eC (.bool false)))
  sSkip)
  (sAsg (e2 ixR (eVar 0) (eC (.int 2))) (gNm 4))))
  (sIf (tOf (e2 (l2 neD) (e1 lenR (eVar 0)) (eGet2 (eDisp (pCons (eC (.str "if")) (eC (.int 4)) (pCons (eC (.str "plus")) (eC (.int 3)) (pCons (eC (.str "less")) (eC (.int 3)) (pCons (eC (.str "times")) (eC (.int 3)) (pCons (eC (.str "same")) (eC (.int 3)) (pCons (eC (.str "under")) (eC (.int 3)) pNil))))))) (e2 ixR (eVar 0) (eC (.int 0))) (eC (.int 0)))))
  (sRet (eC (.bool false)))
  sSkip))
  (sRet (e2 (l2 eqD) (eComp [5] (iSeq (eVar 4)) (gNm 5) (tNo (tOf (eCall (φ .law_is_sum) (aCons (eVar 5) (aCons (eVar 1) (aCons (eVar 2) (aCons (e2 (l2 subD) (eVar 3) (eC (.int 1))) aNil))))))) (eVar 5)) (eN lstR aNil))))))))
noncomputable def b_law_is_book (φ : Fid → Fn) : Fn := runFn 4 1
  (sSeq (sIf (tOr' (tNo (tOf (e1 (l1 (isiD "tuple")) (eVar 0)))) (tNo (tOf (eChain (l2 leD) (l2 leD) (eC (.int 1)) (e1 lenR (eVar 0)) (eC (.int 4))))))
  (sRet (eC (.bool false)))
  sSkip)
  (sSeq (sAsg eDicO (gNm 1))
  (sSeq (sFor (iSeq (eVar 0)) (gNm 2)
  (sSeq (sIf (tOr' (tNo (tOf (e1 (l1 (isiD "tuple")) (eVar 2)))) (tOr' (tOf (e2 (l2 neD) (e1 lenR (eVar 2)) (eC (.int 3)))) (tOr' (tNo (tOf (eCall (φ .law_is_name) (aCons (e2 ixR (eVar 2) (eC (.int 0))) aNil)))) (tOf (e2 inR (e2 ixR (eVar 2) (eC (.int 0))) (eVar 1))))))
  (sRet (eC (.bool false)))
  sSkip)
  (sSeq (sIf (tOr' (tNo (tOf (e1 (l1 (isiD "tuple")) (e2 ixR (eVar 2) (eC (.int 1)))))) (tOf (e2 (l2 gtD) (e1 lenR (e2 ixR (eVar 2) (eC (.int 1)))) (eC (.int 3)))))
  (sRet (eC (.bool false)))
  sSkip)
  (sSeq (sIf (tOr' (tOf (e2 (l2 neD) (eComp [3] (iSeq (e2 ixR (eVar 2) (eC (.int 1)))) (gNm 3) (tNo (tOf (eCall (φ .law_is_name) (aCons (eVar 3) aNil)))) (eVar 3)) (eN lstR aNil))) (tOf (e2 (l2 neD) (e1 (l1 lenSetD) (e2 ixR (eVar 2) (eC (.int 1)))) (e1 lenR (e2 ixR (eVar 2) (eC (.int 1)))))))
  (sRet (eC (.bool false)))
  sSkip)
  (sDput (eVar 1) (e2 ixR (eVar 2) (eC (.int 0))) (e1 lenR (e2 ixR (eVar 2) (eC (.int 1)))))))) [2])
  (sRet (e2 (l2 eqD) (eComp [2] (iSeq (eVar 0)) (gNm 2) (tNo (tOf (eCall (φ .law_is_sum) (aCons (e2 ixR (eVar 2) (eC (.int 2))) (aCons (e2 ixR (eVar 2) (eC (.int 1))) (aCons (eVar 1) (aCons (eC (.int 5)) aNil))))))) (eVar 2)) (eN lstR aNil))))))
noncomputable def b_law_spoilt_k01 (φ : Fid → Fn) : Fn := runFn 6 3
  (sSeq (sIf (tAn (tOf (e2 (l2 gtD) (eVar 2) (eC (.int 0)))) (tAn (tOf (e1 (l1 (isiD "tuple")) (eVar 0))) (tAn (tOf (e2 (l2 gtD) (e1 lenR (eVar 0)) (eC (.int 0)))) (tOf (e2 (l2 gtD) (e2 (l2 modD) (eVar 1) (eC (.int 6))) (eC (.int 0)))))))
  (sSeq (sAsg (e2 (l2 modD) (e2 (l2 fdivD) (eVar 1) (eC (.int 6))) (e1 lenR (eVar 0))) (gNm 3))
  (sSeq (sAsg (eCall (φ .law_spoilt_k01) (aCons (e2 ixR (eVar 0) (eVar 3)) (aCons (e2 (l2 fdivD) (eCall (φ .law_drawn) (aCons (eVar 1) (aCons (eVar 2) aNil))) (eC (.int 4))) (aCons (e2 (l2 subD) (eVar 2) (eC (.int 1))) aNil)))) (gNm 4))
  (sRet (e2 (l2 addD) (e2 (l2 addD) (eSl (eVar 0) oNone (oSome (eVar 3))) (eN tupR (aCons (eVar 4) aNil))) (eSl (eVar 0) (oSome (e2 (l2 addD) (eVar 3) (eC (.int 1)))) oNone)))))
  sSkip)
  (sSeq (sIf (tAn (tOf (e1 (l1 (isiD "tuple")) (eVar 0))) (tAn (tOf (e2 (l2 gtD) (e1 lenR (eVar 0)) (eC (.int 0)))) (tOf (e2 (l2 eqD) (e2 (l2 modD) (e2 (l2 fdivD) (eVar 1) (eC (.int 6))) (eC (.int 2))) (eC (.int 0))))))
  (sRet (e2 ixR (eN lstR (aCons (e1 (l1 listD) (eVar 0)) (aCons (eSl (eVar 0) oNone (oSome (e1 (l1 negD) (eC (.int 1))))) (aCons (e2 (l2 addD) (eVar 0) (eSl (eVar 0) (oSome (e1 (l1 negD) (eC (.int 1)))) oNone)) (aCons (eSl (eVar 0) (oSome (eC (.int 1))) oNone) (aCons (eRev (eVar 0)) (aCons (e2 (l2 tmulD) (eVar 0) (eC (.int 2))) aNil))))))) (e2 (l2 modD) (e2 (l2 fdivD) (eVar 1) (eC (.int 12))) (eC (.int 6)))))
  sSkip)
  (sSeq (sIf (tAn (tOf (e1 (l1 (isiD "int")) (eVar 0))) (tOf (e2 (l2 eqD) (e2 (l2 modD) (e2 (l2 fdivD) (eVar 1) (eC (.int 6))) (eC (.int 2))) (eC (.int 0)))))
  (sRet (e2 ixR (eN lstR (aCons (e1 (l1 strD) (eVar 0)) (aCons (e2 (l2 subD) (e1 (l1 negD) (eVar 0)) (eC (.int 1))) (aCons (e2 (l2 addD) (eVar 0) (eC (.int 1))) (aCons (e2 (l2 eqD) (eVar 0) (eC (.int 1))) (aCons (e2 (l2 addD) (eVar 0) (eC (.int 990))) (aCons (eC .none) aNil))))))) (e2 (l2 modD) (e2 (l2 fdivD) (eVar 1) (eC (.int 12))) (eC (.int 6)))))
  sSkip)
  (sSeq (sAsg (eN lstR (aCons (eC .none) (aCons (eC (.bool true)) (aCons (eC (.int 0)) (aCons (eC (.int 999)) (aCons (eC (.int 1000)) (aCons (eC (.str "")) (aCons (eC (.str "n")) (aCons (eC (.str "a")) (aCons (eC (.str "abcd")) (aCons (eC (.str "abcde")) (aCons (eC (.str "plus")) (aCons (eC (.str "if")) (aCons (eC (.str "call")) (aCons (eC (.str "A")) (aCons (eN tupR aNil) (aCons (eN tupR (aCons (eC (.str "n")) aNil)) (aCons (eN tupR (aCons (eC (.str "n")) (aCons (eC (.str "n")) aNil))) aNil)))))))))))))))))) (gNm 5))
  (sSeq (sAsg (e2 (l2 addD) (eVar 5) (eN lstR (aCons (eN tupR (aCons (eC (.str "plus")) (aCons (eC (.int 1)) (aCons (eC (.str "n")) aNil)))) (aCons (eN tupR (aCons (eC (.str "if")) (aCons (eC (.int 1)) (aCons (eC (.int 2)) (aCons (eC (.int 3)) aNil))))) (aCons (eN tupR (aCons (eC (.str "call")) (aCons (eC (.str "f")) (aCons (eN tupR aNil) aNil)))) (aCons (eN tupR (aCons (eC (.str "call")) (aCons (eC (.str "f")) (aCons (eN tupR (aCons (eC (.int 1)) aNil)) aNil)))) (aCons (eN tupR (aCons (eC (.str "call")) (aCons (eC (.str "g")) (aCons (eN tupR (aCons (eC (.int 1)) (aCons (eC (.int 2)) aNil))) aNil)))) (aCons (eN lstR aNil) aNil)))))))) (gNm 5))
  (sRet (e2 ixR (e2 (l2 addD) (eVar 5) (eN lstR (aCons (eC (.str "f")) (aCons (eC (.str "g")) (aCons (eC (.str "same")) (aCons (eC (.str "times")) (aCons (eC (.int 7)) (aCons (eN tupR (aCons (eC (.str "less")) (aCons (eC (.int 1)) (aCons (eC (.int 2)) (aCons (eC (.int 3)) aNil))))) (aCons (eN tupR (aCons (eC (.str "times")) (aCons (eC (.str "z")) (aCons (eC (.int 1)) aNil)))) (aCons (eN tupR (aCons (eC (.str "f")) aNil)) aNil)))))))))) (e2 (l2 modD) (e2 (l2 fdivD) (eVar 1) (eC (.int 6))) (eC (.int 31))))))))))
noncomputable def b_law_k01 (φ : Fid → Fn) : Fn := runFn 14 1
  (sSeq (sAsg (eCall (φ .law_book) (aCons (eCall (φ .law_mixed) (aCons (eVar 0) (aCons (eC (.int 0)) aNil))) aNil)) (gNm 1))
  (sSeq (sAsg (eCall (φ .law_mixed) (aCons (eVar 0) (aCons (eC (.int 1)) aNil))) (gNm 2))
  (sSeq (sIf (tOf (e2 (l2 gtD) (e2 (l2 modD) (eVar 2) (eC (.int 3))) (eC (.int 0))))
  (sAsg (eCall (φ .law_spoilt_k01) (aCons (eVar 1) (aCons (eCall (φ .law_mixed) (aCons (eVar 0) (aCons (eC (.int 2)) aNil))) (aCons (e2 (l2 modD) (e2 (l2 fdivD) (eVar 2) (eC (.int 3))) (eC (.int 7))) aNil)))) (gNm 1))
  sSkip)
  (sSeq (sIf (tOf (e2 (l2 eqD) (e2 (l2 modD) (e2 (l2 fdivD) (eVar 2) (eC (.int 32))) (eC (.int 4))) (eC (.int 1))))
  (sSeq (sAsg (e2 ixR (eCall (φ .law_book) (aCons (eCall (φ .law_mixed) (aCons (eVar 0) (aCons (eC (.int 0)) aNil))) aNil)) (eC (.int 0))) (gTp 3 (gsCons (gNm 3) (gsCons (gNm 4) (gsCons (gNm 5) gsNil)))))
  (sSeq (sFor (iRange1 (e2 (l2 modD) (e2 (l2 fdivD) (eVar 2) (eC (.int 128))) (eC (.int 4)))) (gNm 6)
  (sAsg (eN tupR (aCons (eC (.str "plus")) (aCons (eC (.int 1)) (aCons (eVar 5) aNil)))) (gNm 5)) [6])
  (sSeq (sIf (tOf (e2 (l2 eqD) (e2 (l2 modD) (e2 (l2 fdivD) (eVar 2) (eC (.int 16384))) (eC (.int 2))) (eC (.int 1))))
  (sAsg (eN tupR (aCons (eC (.str "call")) (aCons (eC (.str "f")) (aCons (e2 (l2 tmulD) (eN tupR (aCons (e2 ixR (eN tupR (aCons (eC (.str "a")) (aCons (eC (.int 1)) (aCons (eC (.str "z")) aNil)))) (e2 (l2 modD) (e2 (l2 fdivD) (eVar 2) (eC (.int 32768))) (eC (.int 3)))) aNil)) (e2 (l2 modD) (e2 (l2 fdivD) (eVar 2) (eC (.int 131072))) (eC (.int 4)))) aNil)))) (gNm 5))
  sSkip)
  (sAsg (eSl (eN tupR (aCons (eN tupR (aCons (eVar 3) (aCons (eVar 4) (aCons (eVar 5) aNil)))) (aCons (eN tupR (aCons (eC (.str "g")) (aCons (eSl (eN tupR (aCons (eC (.str "n")) (aCons (eC (.str "a")) (aCons (eC (.str "b")) (aCons (eC (.str "c")) aNil))))) oNone (oSome (e2 (l2 modD) (e2 (l2 fdivD) (eVar 2) (eC (.int 512))) (eC (.int 5))))) (aCons (eC (.int 1)) aNil)))) aNil))) (oSome (e2 (l2 modD) (e2 (l2 fdivD) (eVar 2) (eC (.int 4096))) (eC (.int 2)))) oNone) (gNm 1)))))
  sSkip)
  (sSeq (sAsg (eN lstR (aCons (eC (.int 0)) (aCons (eC (.int 999)) (aCons (eC (.int 1000)) (aCons (e1 (l1 negD) (eC (.int 1))) (aCons (eC (.bool true)) (aCons (eC (.bool false)) (aCons (eC .none) (aCons (eN tupR aNil) (aCons (eC (.str "n")) (aCons (eC (.str "m")) (aCons (eN tupR (aCons (eC (.str "call")) (aCons (eC (.str "a")) aNil))) (aCons (eN tupR (aCons (eC (.str "call")) (aCons (eC (.str "a")) (aCons (eN tupR (aCons (eC (.int 1)) aNil)) (aCons (eC (.int 1)) aNil))))) aNil))))))))))))) (gNm 7))
  (sSeq (sAsg (e2 (l2 addD) (eVar 7) (eN lstR (aCons (eN tupR (aCons (eC (.str "call")) (aCons (eC (.int 5)) (aCons (eN tupR (aCons (eC (.int 1)) aNil)) aNil)))) (aCons (eN tupR (aCons (eC (.str "call")) (aCons (eC (.str "a")) (aCons (eN lstR (aCons (eC (.int 1)) aNil)) aNil)))) (aCons (eN tupR (aCons (eC (.str "call")) (aCons (eC (.str "a")) (aCons (eN tupR (aCons (eC (.int 1)) aNil)) aNil)))) (aCons (eN tupR (aCons (eC (.str "call")) (aCons (eC (.str "a")) (aCons (eN tupR aNil) aNil)))) aNil)))))) (gNm 7))
  (sSeq (sAsg (e2 (l2 addD) (eVar 7) (eN lstR (aCons (eN tupR (aCons (eC (.str "call")) (aCons (eC (.str "b")) (aCons (eN tupR (aCons (eC (.int 1)) aNil)) aNil)))) (aCons (eN tupR (aCons (eC (.str "plus")) (aCons (eC (.int 1)) aNil))) (aCons (eN tupR (aCons (eC (.int 5)) (aCons (eC (.int 1)) (aCons (eC (.int 2)) aNil)))) (aCons (eN tupR (aCons (eC (.str "plus")) (aCons (eC (.int 1)) (aCons (eC (.int 2)) (aCons (eC (.int 3)) aNil))))) (aCons (eN tupR (aCons (eC (.str "if")) (aCons (eC (.int 1)) (aCons (eC (.int 2)) aNil)))) aNil))))))) (gNm 7))
  (sSeq (sAsg (e2 ixR (e2 (l2 addD) (eVar 7) (eN lstR (aCons (eN lstR (aCons (eC (.int 1)) aNil)) (aCons (eN tupR (aCons (eC (.str "less")) (aCons (eC (.str "n")) (aCons (eC (.bool true)) aNil)))) aNil)))) (e2 (l2 modD) (e2 (l2 fdivD) (eVar 2) (eC (.int 4096))) (eC (.int 23)))) (gNm 5))
  (sSeq (sAsg (eN tupR (aCons (eN tupR (aCons (eC (.str "a")) (aCons (eN tupR (aCons (eC (.str "n")) aNil)) (aCons (eVar 5) aNil)))) aNil)) (gNm 8))
  (sSeq (sIf (tOf (e2 (l2 neD) (eCall (φ .is_book_k01) (aCons (eVar 8) aNil)) (eCall (φ .law_is_book) (aCons (eVar 8) aNil))))
  (sRet (eC (.bool false)))
  sSkip)
  (sSeq (sAsg (e1 (l1 tupD) (eComp [13] (iRange1 (e2 (l2 addD) (eC (.int 3)) (e2 (l2 modD) (e2 (l2 fdivD) (eVar 2) (eC (.int 64))) (eC (.int 3))))) (gNm 13) tTrue (eN tupR (aCons (e2 ixR (eC (.str "abcdef")) (eVar 13)) (aCons (eN tupR aNil) (aCons (eC (.int 1)) aNil)))))) (gNm 9))
  (sSeq (sAsg (eSl (eC (.str "abcdef")) oNone (oSome (e2 (l2 addD) (eC (.int 3)) (e2 (l2 modD) (e2 (l2 fdivD) (eVar 2) (eC (.int 1024))) (eC (.int 3)))))) (gNm 10))
  (sSeq (sFor (iSeq (eN tupR (aCons (eVar 9) (aCons (eN tupR (aCons (eN tupR (aCons (eVar 10) (aCons (eN tupR (aCons (eVar 10) aNil)) (aCons (eVar 10) aNil)))) aNil)) aNil)))) (gNm 11)
  (sIf (tOf (e2 (l2 neD) (eCall (φ .is_book_k01) (aCons (eVar 11) aNil)) (eCall (φ .law_is_book) (aCons (eVar 11) aNil))))
  (sRet (eC (.bool false)))
  sSkip) [11])
  (sSeq (sAsg (eCall (φ .is_book_k01) (aCons (eVar 1) aNil)) (gNm 12))
  (sRet (eAn (e1 (l1 (isiD "bool")) (eVar 12)) (e2 (l2 eqD) (eVar 12) (eCall (φ .law_is_book) (aCons (eVar 1) aNil)))))))))))))))))))
noncomputable def b_sum_words (φ : Fid → Fn) : Fn := runFn 1 1
  (sSeq (sIf (tNo (tOf (e1 (l1 (isiD "tuple")) (eVar 0))))
  (sRet (eN lstR (aCons (e1 (l1 strD) (eVar 0)) aNil)))
  sSkip)
  (sSeq (sIf (tOf (e2 (l2 eqD) (e2 ixR (eVar 0) (eC (.int 0))) (eC (.str "call"))))
  (sRet (e2 (l2 addD) (e2 (l2 addD) (eN lstR (aCons (eC (.str "call")) (aCons (e2 ixR (eVar 0) (eC (.int 1))) (aCons (eC (.str "(")) aNil)))) (eCall (φ .all_words) (aCons (e2 ixR (eVar 0) (eC (.int 2))) aNil))) (eN lstR (aCons (eC (.str ")")) aNil))))
  sSkip)
  (sRet (e2 (l2 addD) (eN lstR (aCons (e2 ixR (eVar 0) (eC (.int 0))) aNil)) (eCall (φ .all_words) (aCons (eSl (eVar 0) (oSome (eC (.int 1))) oNone) aNil))))))
noncomputable def b_all_words (φ : Fid → Fn) : Fn := runFn 3 1
  (sSeq (sAsg (eN lstR aNil) (gNm 1))
  (sSeq (sFor (iSeq (eVar 0)) (gNm 2)
  (sAsg (e2 (l2 addD) (eVar 1) (eCall (φ .sum_words) (aCons (eVar 2) aNil))) (gNm 1)) [2])
  (sRet (eVar 1))))
noncomputable def b_written (φ : Fid → Fn) : Fn := runFn 5 1
  (sSeq (sAsg (eN lstR aNil) (gNm 1))
  (sSeq (sFor (iSeq (eVar 0)) (gTp 3 (gsCons (gNm 2) (gsCons (gNm 3) (gsCons (gNm 4) gsNil))))
  (sAsg (e2 (l2 addD) (e2 (l2 addD) (e2 (l2 addD) (e2 (l2 addD) (eVar 1) (eN lstR (aCons (eC (.str "maker")) (aCons (eVar 2) (aCons (eC (.str "(")) aNil))))) (e1 (l1 listD) (eVar 3))) (eN lstR (aCons (eC (.str ")")) (aCons (eC (.str "=")) aNil)))) (eCall (φ .sum_words) (aCons (eVar 4) aNil))) (gNm 1)) [2, 3, 4])
  (sRet (e2 (l2 joinD) (eC (.str " ")) (eVar 1)))))
noncomputable def b_law_words (φ : Fid → Fn) : Fn := runFn 4 1
  (sSeq (sIf (tNo (tOf (e1 (l1 (isiD "tuple")) (eVar 0))))
  (sRet (eN lstR (aCons (e1 (l1 strD) (eVar 0)) aNil)))
  sSkip)
  (sSeq (sAsg (eN lstR (aCons (e2 ixR (eVar 0) (eC (.int 0))) aNil)) (gNm 1))
  (sSeq (sAsg (eSl (eVar 0) (oSome (eC (.int 1))) oNone) (gNm 2))
  (sSeq (sIf (tOf (e2 (l2 eqD) (e2 ixR (eVar 0) (eC (.int 0))) (eC (.str "call"))))
  (sSeq (sAsg (eN lstR (aCons (eC (.str "call")) (aCons (e2 ixR (eVar 0) (eC (.int 1))) (aCons (eC (.str "(")) aNil)))) (gNm 1))
  (sAsg (e2 ixR (eVar 0) (eC (.int 2))) (gNm 2)))
  sSkip)
  (sSeq (sFor (iSeq (eVar 2)) (gNm 3)
  (sAsg (e2 (l2 addD) (eVar 1) (eCall (φ .law_words) (aCons (eVar 3) aNil))) (gNm 1)) [3])
  (sRet (e2 (l2 addD) (eVar 1) (e2 (l2 mulD) (eN lstR (aCons (eC (.str ")")) aNil)) (e1 (l1 intD) (e2 (l2 eqD) (e2 ixR (eVar 0) (eC (.int 0))) (eC (.str "call"))))))))))))
noncomputable def b_law_text (φ : Fid → Fn) : Fn := runFn 5 1
  (sSeq (sAsg (eN lstR aNil) (gNm 1))
  (sSeq (sFor (iSeq (eVar 0)) (gTp 3 (gsCons (gNm 2) (gsCons (gNm 3) (gsCons (gNm 4) gsNil))))
  (sAsg (e2 (l2 addD) (e2 (l2 addD) (e2 (l2 addD) (e2 (l2 addD) (eVar 1) (eN lstR (aCons (eC (.str "maker")) (aCons (eVar 2) (aCons (eC (.str "(")) aNil))))) (e1 (l1 listD) (eVar 3))) (eN lstR (aCons (eC (.str ")")) (aCons (eC (.str "=")) aNil)))) (eCall (φ .law_words) (aCons (eVar 4) aNil))) (gNm 1)) [2, 3, 4])
  (sRet (e2 (l2 joinD) (eC (.str " ")) (eVar 1)))))
noncomputable def b_law_k02 (φ : Fid → Fn) : Fn := runFn 2 1
  (sSeq (sAsg (eCall (φ .law_book) (aCons (eCall (φ .law_mixed) (aCons (eVar 0) (aCons (eC (.int 0)) aNil))) aNil)) (gNm 1))
  (sRet (e2 (l2 eqD) (eCall (φ .written) (aCons (eVar 1) aNil)) (eCall (φ .law_text) (aCons (eVar 1) aNil)))))
noncomputable def b_is_book_k03 (φ : Fid → Fn) : Fn := runFn 3 1
  (sSeq (sIf (tOr' (tNo (tOf (e1 (l1 (isiD "tuple")) (eVar 0)))) (tOr' (tNo (tOf (eChain (l2 leD) (l2 leD) (eC (.int 1)) (e1 lenR (eVar 0)) (eC c_MOST_MAKERS)))) (tNo (tOf (e1 (l1 allD) (eComp [2] (iSeq (eVar 0)) (gNm 2) tTrue (eCall (φ .is_head) (aCons (eVar 2) aNil))))))))
  (sRet (eC (.bool false)))
  sSkip)
  (sSeq (sAsg (e1 dicR (eComp [2] (iSeq (eVar 0)) (gNm 2) tTrue (eN tupR (aCons (e2 ixR (eVar 2) (eC (.int 0))) (aCons (e1 lenR (e2 ixR (eVar 2) (eC (.int 1)))) aNil))))) (gNm 1))
  (sSeq (sIf (tOf (e2 (l2 neD) (e1 lenR (eVar 1)) (e1 lenR (eVar 0))))
  (sRet (eC (.bool false)))
  sSkip)
  (sRet (e1 (l1 allD) (eComp [2] (iSeq (eVar 0)) (gNm 2) tTrue (eCall (φ .is_sum) (aCons (e2 ixR (eVar 2) (eC (.int 2))) (aCons (e2 ixR (eVar 2) (eC (.int 1))) (aCons (eVar 1) (aCons (eC c_DEEPEST_books) aNil)))))))))))
noncomputable def b_Reader_look (φ : Fid → Fn) : Fn := runFn 1 1
  (sSeq (sIf (tOf (e2 (l2 eqD) (eFld "Reader" "at" (eVar 0)) (e1 lenR (eFld "Reader" "words" (eVar 0)))))
  (sRet (eC (.str "")))
  sSkip)
  (sRet (e2 ixR (eFld "Reader" "words" (eVar 0)) (eFld "Reader" "at" (eVar 0)))))
noncomputable def b_law_sum_in (φ : Fid → Fn) : Fn := runFn 8 1
  (sSeq (sIf (tOf (e2 (l2 eqD) (eVar 0) (eN lstR aNil)))
  (sRet (eN tupR (aCons (eC .none) (aCons (eN lstR aNil) aNil))))
  sSkip)
  (sSeq (sAsg (eSl (eVar 0) (oSome (eC (.int 1))) oNone) (gNm 1))
  (sSeq (sIf (tAn (tOf (e2 (l2 eqD) (e2 ixR (eVar 0) (eC (.int 0))) (eC (.str "call")))) (tOf (e2 (l2 eqD) (eSl (eVar 0) (oSome (eC (.int 2))) (oSome (eC (.int 3)))) (eN lstR (aCons (eC (.str "(")) aNil)))))
  (sSeq (sAsg (eSl (eVar 0) (oSome (eC (.int 3))) oNone) (gNm 1))
  (sSeq (sAsg (eN tupR aNil) (gNm 2))
  (sSeq (sWhile 100000 (tAn (tOf (e2 (l2 neD) (eVar 1) (eN lstR aNil))) (tOf (e2 (l2 neD) (e2 ixR (eVar 1) (eC (.int 0))) (eC (.str ")")))))
  (sSeq (sAsg (eCall (φ .law_sum_in) (aCons (eVar 1) aNil)) (gTp 2 (gsCons (gNm 3) (gsCons (gNm 1) gsNil))))
  (sAsg (e2 (l2 addD) (eVar 2) (eN tupR (aCons (eVar 3) aNil))) (gNm 2))) [3])
  (sRet (eN tupR (aCons (eN tupR (aCons (eC (.str "call")) (aCons (e2 ixR (eVar 0) (eC (.int 1))) (aCons (eVar 2) aNil)))) (aCons (eSl (eVar 1) (oSome (eC (.int 1))) oNone) aNil)))))))
  sSkip)
  (sSeq (sAsg (eGet2 (eDisp (pCons (eC (.str "if")) (eC (.int 3)) (pCons (eC (.str "plus")) (eC (.int 2)) (pCons (eC (.str "less")) (eC (.int 2)) (pCons (eC (.str "times")) (eC (.int 2)) (pCons (eC (.str "same")) (eC (.int 2)) (pCons (eC (.str "under")) (eC (.int 2)) pNil))))))) (e2 ixR (eVar 0) (eC (.int 0))) (eC (.int 0))) (gNm 4))
  (sSeq (sAsg (eN tupR (aCons (e2 ixR (eVar 0) (eC (.int 0))) aNil)) (gNm 5))
  (sSeq (sFor (iRange1 (eVar 4)) (gNm 6)
  (sSeq (sAsg (eCall (φ .law_sum_in) (aCons (eVar 1) aNil)) (gTp 2 (gsCons (gNm 3) (gsCons (gNm 1) gsNil))))
  (sAsg (e2 (l2 addD) (eVar 5) (eN tupR (aCons (eVar 3) aNil))) (gNm 5))) [6, 3])
  (sSeq (sIf (tOf (e2 (l2 gtD) (eVar 4) (eC (.int 0))))
  (sRet (eN tupR (aCons (eVar 5) (aCons (eVar 1) aNil))))
  sSkip)
  (sSeq (sIf (tAn (tOf (eChain (l2 leD) (l2 leD) (eC (.int 1)) (e1 lenR (e2 ixR (eVar 0) (eC (.int 0)))) (eC (.int 3)))) (tOf (e2 (l2 eqD) (eComp [7] (iSeq (e2 ixR (eVar 0) (eC (.int 0)))) (gNm 7) (tOf (e2 notInR (eVar 7) (eC (.str "0123456789")))) (eVar 7)) (eN lstR aNil))))
  (sRet (eN tupR (aCons (e1 (l1 intD) (e2 ixR (eVar 0) (eC (.int 0)))) (aCons (eVar 1) aNil))))
  sSkip)
  (sRet (eN tupR (aCons (e2 ixR (eVar 0) (eC (.int 0))) (aCons (eVar 1) aNil))))))))))))
noncomputable def b_law_called (φ : Fid → Fn) : Fn := runFn 3 1
  (sSeq (sIf (tNo (tOf (e1 (l1 (isiD "tuple")) (eVar 0))))
  (sRet (eN lstR aNil))
  sSkip)
  (sSeq (sAsg (eN lstR aNil) (gNm 1))
  (sSeq (sFor (iSeq (e2 ixR (eN lstR (aCons (eSl (eVar 0) (oSome (eC (.int 1))) oNone) (aCons (e2 ixR (eVar 0) (e1 (l1 negD) (eC (.int 1)))) aNil))) (e1 (l1 intD) (e2 (l2 eqD) (e2 ixR (eVar 0) (eC (.int 0))) (eC (.str "call")))))) (gNm 2)
  (sAsg (e2 (l2 addD) (eVar 1) (eCall (φ .law_called) (aCons (eVar 2) aNil))) (gNm 1)) [2])
  (sRet (e2 (l2 addD) (eVar 1) (e2 (l2 mulD) (eN lstR (aCons (e2 ixR (eVar 0) (eC (.int 1))) aNil)) (e1 (l1 intD) (e2 (l2 eqD) (e2 ixR (eVar 0) (eC (.int 0))) (eC (.str "call"))))))))))
noncomputable def b_law_places_in (φ : Fid → Fn) : Fn := runFn 5 2
  (sSeq (sAsg (eN lstR (aCons (eVar 1) aNil)) (gNm 2))
  (sSeq (sIf (tOf (e1 (l1 (isiD "tuple")) (eVar 0)))
  (sFor (iEnum' (eVar 0)) (gTp 2 (gsCons (gNm 3) (gsCons (gNm 4) gsNil)))
  (sAsg (e2 (l2 addD) (eVar 2) (eCall (φ .law_places_in) (aCons (eVar 4) (aCons (e2 (l2 addD) (eVar 1) (eN tupR (aCons (eVar 3) aNil))) aNil)))) (gNm 2)) [3, 4])
  sSkip)
  (sRet (eVar 2))))
noncomputable def b_law_otherwise (φ : Fid → Fn) : Fn := runFn 3 2
  (sSeq (sIf (tOf (e1 (l1 (isiD "tuple")) (eVar 0)))
  (sSeq (sAsg (eN lstR (aCons (e1 (l1 listD) (eVar 0)) (aCons (e1 (l1 listD) (eVar 0)) (aCons (e2 (l2 addD) (eVar 0) (eSl (eVar 0) oNone (oSome (eC (.int 1))))) aNil)))) (gNm 2))
  (sRet (e2 ixR (e2 (l2 addD) (eVar 2) (eN lstR (aCons (eSl (eVar 0) (oSome (eC (.int 1))) oNone) (aCons (eN lstR (aCons (eVar 0) aNil)) aNil)))) (e2 (l2 modD) (eVar 1) (eC (.int 5))))))
  sSkip)
  (sSeq (sIf (tOf (e1 (l1 (isiD "bool")) (eVar 0)))
  (sRet (e2 ixR (eN lstR (aCons (e1 (l1 intD) (eVar 0)) (aCons (eC .none) (aCons (e1 (l1 strD) (eVar 0)) aNil)))) (e2 (l2 modD) (eVar 1) (eC (.int 3)))))
  sSkip)
  (sSeq (sIf (tOf (e1 (l1 (isiD "int")) (eVar 0)))
  (sSeq (sAsg (eN lstR (aCons (eC (.bool true)) (aCons (eC .none) (aCons (e1 (l1 strD) (eVar 0)) (aCons (eN tupR (aCons (eVar 0) aNil)) aNil))))) (gNm 2))
  (sRet (e2 ixR (e2 (l2 addD) (eVar 2) (eN lstR (aCons (e2 (l2 subD) (e1 (l1 negD) (eC (.int 1))) (eVar 0)) aNil))) (e2 (l2 modD) (eVar 1) (eC (.int 5))))))
  sSkip)
  (sRet (e2 ixR (eN lstR (aCons (eC .none) (aCons (eN tupR (aCons (eVar 0) aNil)) (aCons (eN lstR (aCons (eVar 0) aNil)) (aCons (eC (.str "")) (aCons (eC (.int 0)) aNil)))))) (e2 (l2 modD) (eVar 1) (eC (.int 5))))))))
noncomputable def b_maker_of (φ : Fid → Fn) : Fn := runFn 3 2
  (sRet (e2 ixR (eComp [2] (iSeq (eVar 0)) (gNm 2) (tOf (e2 (l2 eqD) (e2 ixR (eVar 2) (eC (.int 0))) (eVar 1))) (eVar 2)) (eC (.int 0))))
noncomputable def b_reckoned (φ : Fid → Fn) : Fn := runFn 3 3
  (sSeq (sIf (tOf (e2 (l2 eqD) (eVar 0) (eC (.str "plus"))))
  (sRet (e2 (l2 modD) (e2 (l2 addD) (eVar 1) (eVar 2)) (eC c_RING)))
  sSkip)
  (sSeq (sIf (tOf (e2 (l2 eqD) (eVar 0) (eC (.str "less"))))
  (sRet (e2 (l2 modD) (e2 (l2 subD) (eVar 1) (eVar 2)) (eC c_RING)))
  sSkip)
  (sSeq (sIf (tOf (e2 (l2 eqD) (eVar 0) (eC (.str "times"))))
  (sRet (e2 (l2 modD) (e2 (l2 mulD) (eVar 1) (eVar 2)) (eC c_RING)))
  sSkip)
  (sSeq (sIf (tOf (e2 (l2 eqD) (eVar 0) (eC (.str "same"))))
  (sRet (e1 (l1 intD) (e2 (l2 eqD) (eVar 1) (eVar 2))))
  sSkip)
  (sRet (e1 (l1 intD) (e2 (l2 ltD) (eVar 1) (eVar 2))))))))
noncomputable def b_Runner_maker (φ : Fid → Fn) : Fn := runFn 6 3
  (sSeq (sIf (tOf (e2 (l2 eqD) (eFld "Runner" "many" (eVar 0)) (eFld "Runner" "most" (eVar 0))))
  (sRet (eC .none))
  sSkip)
  (sSeq (sFld "Runner" "many" (eVar 0) (e2 (l2 addD) (eFld "Runner" "many" (eVar 0)) (eC (.int 1))))
  (sSeq (sAsg (eCall (φ .maker_of) (aCons (eFld "Runner" "book" (eVar 0)) (aCons (eVar 1) aNil))) (gTp 3 (gsCons (gNm 3) (gsCons (gNm 4) (gsCons (gNm 5) gsNil)))))
  (sRet (eMeth "Runner" "worth" (φ .Runner_worth) (eVar 0) (aCons (eVar 5) (aCons (e1 dicR (e2 (l2 zipLD) (eVar 4) (eVar 2))) aNil)))))))
noncomputable def b_Runner_worth (φ : Fid → Fn) : Fn := runFn 5 3
  (sSeq (sIf (tOf (e1 (l1 (isiD "int")) (eVar 1)))
  (sRet (eVar 1))
  sSkip)
  (sSeq (sIf (tOf (e1 (l1 (isiD "str")) (eVar 1)))
  (sRet (e2 ixR (eVar 2) (eVar 1)))
  sSkip)
  (sSeq (sIf (tOf (e2 (l2 eqD) (e2 ixR (eVar 1) (eC (.int 0))) (eC (.str "call"))))
  (sRet (eMeth "Runner" "call" (φ .Runner_call) (eVar 0) (aCons (eVar 1) (aCons (eVar 2) aNil))))
  sSkip)
  (sSeq (sAsg (eMeth "Runner" "worth" (φ .Runner_worth) (eVar 0) (aCons (e2 ixR (eVar 1) (eC (.int 1))) (aCons (eVar 2) aNil))) (gNm 3))
  (sSeq (sIf (tOf (e2 isR (eVar 3) (eC .none)))
  (sRet (eC .none))
  sSkip)
  (sSeq (sIf (tOf (e2 (l2 eqD) (e2 ixR (eVar 1) (eC (.int 0))) (eC (.str "if"))))
  (sRet (eMeth "Runner" "worth" (φ .Runner_worth) (eVar 0) (aCons (e2 ixR (eVar 1) (e2 (l2 addD) (eC (.int 2)) (e1 (l1 intD) (e2 (l2 eqD) (eVar 3) (eC (.int 0)))))) (aCons (eVar 2) aNil))))
  sSkip)
  (sSeq (sAsg (eMeth "Runner" "worth" (φ .Runner_worth) (eVar 0) (aCons (e2 ixR (eVar 1) (eC (.int 2))) (aCons (eVar 2) aNil))) (gNm 4))
  (sSeq (sIf (tOf (e2 isR (eVar 4) (eC .none)))
  (sRet (eC .none))
  sSkip)
  (sRet (eCall (φ .reckoned) (aCons (e2 ixR (eVar 1) (eC (.int 0))) (aCons (eVar 3) (aCons (eVar 4) aNil)))))))))))))
noncomputable def b_Runner_call (φ : Fid → Fn) : Fn := runFn 5 3
  (sSeq (sAsg (eLstO aNil) (gNm 3))
  (sSeq (sFor (iSeq (e2 ixR (eVar 1) (eC (.int 2)))) (gNm 4)
  (sSeq (sExpr (eAppend (eVar 3) (eMeth "Runner" "worth" (φ .Runner_worth) (eVar 0) (aCons (eVar 4) (aCons (eVar 2) aNil)))))
  (sIf (tOf (e2 isR (e2 ixR (eVar 3) (e1 (l1 negD) (eC (.int 1)))) (eC .none)))
  (sRet (eC .none))
  sSkip)) [4])
  (sRet (eMeth "Runner" "maker" (φ .Runner_maker) (eVar 0) (aCons (e2 ixR (eVar 1) (eC (.int 1))) (aCons (e1 (l1 tupD) (eVar 3)) aNil))))))
noncomputable def b_go (φ : Fid → Fn) : Fn := runFn 6 4
  (sSeq (sAsg (eMake "Runner" (b_Runner___init__ (fun _ _ _ => none)) (aCons (eVar 0) (aCons (eVar 3) aNil))) (gNm 4))
  (sSeq (sAsg (eMeth "Runner" "maker" (φ .Runner_maker) (eVar 4) (aCons (eVar 1) (aCons (eVar 2) aNil))) (gNm 5))
  (sSeq (sIf (tOf (e2 isR (eVar 5) (eC .none)))
  (sRet (eC .none))
  sSkip)
  (sRet (eN tupR (aCons (eVar 5) (aCons (eFld "Runner" "many" (eVar 4)) aNil)))))))
noncomputable def b_law_value (φ : Fid → Fn) : Fn := runFn 8 4
  (sSeq (sIf (tOf (e1 (l1 (isiD "str")) (eVar 1)))
  (sRet (e2 ixR (eVar 2) (eVar 1)))
  sSkip)
  (sSeq (sIf (tNo (tOf (e1 (l1 (isiD "tuple")) (eVar 1))))
  (sRet (eVar 1))
  sSkip)
  (sSeq (sIf (tOf (e2 (l2 eqD) (e2 ixR (eVar 1) (eC (.int 0))) (eC (.str "call"))))
  (sSeq (sAsg (eLstO aNil) (gNm 4))
  (sSeq (sFor (iSeq (e2 ixR (eVar 1) (eC (.int 2)))) (gNm 5)
  (sSeq (sExpr (eAppend (eVar 4) (eCall (φ .law_value) (aCons (eVar 0) (aCons (eVar 5) (aCons (eVar 2) (aCons (eVar 3) aNil)))))))
  (sIf (tOf (e2 isR (e2 ixR (eVar 4) (e1 (l1 negD) (eC (.int 1)))) (eC .none)))
  (sRet (eC .none))
  sSkip)) [5])
  (sRet (eCall (φ .law_maker) (aCons (eVar 0) (aCons (e2 ixR (eVar 1) (eC (.int 1))) (aCons (e1 (l1 tupD) (eVar 4)) (aCons (eVar 3) aNil))))))))
  sSkip)
  (sSeq (sAsg (eCall (φ .law_value) (aCons (eVar 0) (aCons (e2 ixR (eVar 1) (eC (.int 1))) (aCons (eVar 2) (aCons (eVar 3) aNil))))) (gNm 6))
  (sSeq (sIf (tOf (e2 isR (eVar 6) (eC .none)))
  (sRet (eC .none))
  sSkip)
  (sSeq (sIf (tOf (e2 (l2 eqD) (e2 ixR (eVar 1) (eC (.int 0))) (eC (.str "if"))))
  (sRet (eCall (φ .law_value) (aCons (eVar 0) (aCons (e2 ixR (eN lstR (aCons (e2 ixR (eVar 1) (eC (.int 3))) (aCons (e2 ixR (eVar 1) (eC (.int 2))) aNil))) (e1 (l1 intD) (e2 (l2 gtD) (eVar 6) (eC (.int 0))))) (aCons (eVar 2) (aCons (eVar 3) aNil))))))
  sSkip)
  (sSeq (sAsg (eCall (φ .law_value) (aCons (eVar 0) (aCons (e2 ixR (eVar 1) (eC (.int 2))) (aCons (eVar 2) (aCons (eVar 3) aNil))))) (gNm 7))
  (sSeq (sIf (tOf (e2 isR (eVar 7) (eC .none)))
  (sRet (eC .none))
  sSkip)
  (sRet (eCall (φ .law_reckoned) (aCons (e2 ixR (eVar 1) (eC (.int 0))) (aCons (eVar 6) (aCons (eVar 7) aNil)))))))))))))
noncomputable def b_law_reckoned (φ : Fid → Fn) : Fn := runFn 4 3
  (sSeq (sAsg (eDispO (pCons (eC (.str "plus")) (e2 (l2 addD) (eVar 1) (eVar 2)) (pCons (eC (.str "less")) (e2 (l2 subD) (eVar 1) (eVar 2)) (pCons (eC (.str "times")) (e2 (l2 mulD) (eVar 1) (eVar 2)) pNil)))) (gNm 3))
  (sSeq (sExpr (eUpdate (eVar 3) (eDisp (pCons (eC (.str "same")) (e1 (l1 intD) (e2 (l2 eqD) (eVar 1) (eVar 2))) (pCons (eC (.str "under")) (e1 (l1 intD) (e2 (l2 ltD) (eVar 1) (eVar 2))) pNil)))))
  (sRet (e2 (l2 modD) (e2 ixR (eVar 3) (eVar 0)) (eC (.int 1000))))))
noncomputable def b_law_maker (φ : Fid → Fn) : Fn := runFn 8 4
  (sSeq (sIf (tOf (e2 (l2 eqD) (e2 ixR (eVar 3) (eC (.str "left"))) (eC (.int 0))))
  (sRet (eC .none))
  sSkip)
  (sSeq (sDput (eVar 3) (eC (.str "left")) (e2 (l2 subD) (e2 ixR (eVar 3) (eC (.str "left"))) (eC (.int 1))))
  (sSeq (sAsg (e2 ixR (eComp [7] (iSeq (eVar 0)) (gNm 7) (tOf (e2 (l2 eqD) (e2 ixR (eVar 7) (eC (.int 0))) (eVar 1))) (eVar 7)) (eC (.int 0))) (gTp 3 (gsCons (gNm 4) (gsCons (gNm 5) (gsCons (gNm 6) gsNil)))))
  (sRet (eCall (φ .law_value) (aCons (eVar 0) (aCons (eVar 6) (aCons (e1 dicR (e2 (l2 zipLD) (eVar 5) (eVar 2))) (aCons (eVar 3) aNil)))))))))
noncomputable def b_law_go (φ : Fid → Fn) : Fn := runFn 6 4
  (sSeq (sAsg (eDisp (pCons (eC (.str "left")) (eVar 3) pNil)) (gNm 4))
  (sSeq (sAsg (eCall (φ .law_maker) (aCons (eVar 0) (aCons (eVar 1) (aCons (eVar 2) (aCons (eVar 4) aNil))))) (gNm 5))
  (sSeq (sIf (tOf (e2 isR (eVar 5) (eC .none)))
  (sRet (eC .none))
  sSkip)
  (sRet (eN tupR (aCons (eVar 5) (aCons (e2 (l2 subD) (eVar 3) (e2 ixR (eVar 4) (eC (.str "left")))) aNil)))))))
noncomputable def b_law_k10 (φ : Fid → Fn) : Fn := runFn 7 1
  (sSeq (sAsg (eCall (φ .law_book) (aCons (eCall (φ .law_mixed) (aCons (eVar 0) (aCons (eC (.int 0)) aNil))) aNil)) (gNm 1))
  (sSeq (sFor (iEnum' (eVar 1)) (gTp 2 (gsCons (gNm 2) (gsCons (gNm 3) gsNil)))
  (sSeq (sAsg (eCall (φ .law_mixed) (aCons (eVar 0) (aCons (e2 (l2 addD) (eC (.int 1)) (eVar 2)) aNil))) (gNm 4))
  (sSeq (sAsg (eCall (φ .law_worths) (aCons (eVar 4) (aCons (e1 lenR (e2 ixR (eVar 3) (eC (.int 1)))) aNil))) (gNm 5))
  (sSeq (sAsg (e2 ixR (eN tupR (aCons (eC (.int 40)) (aCons (e2 (l2 modD) (e2 (l2 fdivD) (eVar 4) (eC (.int 16))) (eC (.int 8))) (aCons (e2 (l2 modD) (e2 (l2 fdivD) (eVar 4) (eC (.int 16))) (eC (.int 41))) aNil)))) (e2 (l2 modD) (e2 (l2 fdivD) (eVar 4) (eC (.int 4))) (eC (.int 3)))) (gNm 6))
  (sIf (tOf (e2 (l2 neD) (eCall (φ .go) (aCons (eVar 1) (aCons (e2 ixR (eVar 3) (eC (.int 0))) (aCons (eVar 5) (aCons (eVar 6) aNil))))) (eCall (φ .law_go) (aCons (eVar 1) (aCons (e2 ixR (eVar 3) (eC (.int 0))) (aCons (eVar 5) (aCons (eVar 6) aNil)))))))
  (sRet (eC (.bool false)))
  sSkip)))) [2, 3, 4, 5, 6])
  (sRet (eC (.bool true)))))
noncomputable def b_law_k11 (φ : Fid → Fn) : Fn := runFn 9 1
  (sSeq (sAsg (eCall (φ .law_book) (aCons (eCall (φ .law_mixed) (aCons (eVar 0) (aCons (eC (.int 0)) aNil))) aNil)) (gNm 1))
  (sSeq (sAsg (eCall (φ .law_mixed) (aCons (eVar 0) (aCons (eC (.int 1)) aNil))) (gNm 2))
  (sSeq (sAsg (e2 ixR (eVar 1) (e2 (l2 modD) (eVar 2) (e1 lenR (eVar 1)))) (gNm 3))
  (sSeq (sAsg (eCall (φ .law_worths) (aCons (eCall (φ .law_mixed) (aCons (eVar 0) (aCons (eC (.int 2)) aNil))) (aCons (e1 lenR (e2 ixR (eVar 3) (eC (.int 1)))) aNil))) (gNm 4))
  (sSeq (sAsg (eCall (φ .go) (aCons (eVar 1) (aCons (e2 ixR (eVar 3) (eC (.int 0))) (aCons (eVar 4) (aCons (eC (.int 40)) aNil))))) (gNm 5))
  (sSeq (sIf (tOf (e2 isNotR (eCall (φ .go) (aCons (eVar 1) (aCons (e2 ixR (eVar 3) (eC (.int 0))) (aCons (eVar 4) (aCons (eC (.int 0)) aNil))))) (eC .none)))
  (sRet (eC (.bool false)))
  sSkip)
  (sSeq (sAsg (e2 (l2 addD) (eVar 1) (eN tupR (aCons (eN tupR (aCons (eC (.str "more")) (aCons (eN tupR aNil) (aCons (eN tupR (aCons (eC (.str "call")) (aCons (e2 ixR (eVar 3) (eC (.int 0))) (aCons (eVar 4) aNil)))) aNil)))) aNil))) (gNm 6))
  (sSeq (sIf (tOf (e2 isR (eVar 5) (eC .none)))
  (sRet (eAn (e2 isR (eCall (φ .go) (aCons (eVar 1) (aCons (e2 ixR (eVar 3) (eC (.int 0))) (aCons (eVar 4) (aCons (e2 (l2 modD) (e2 (l2 fdivD) (eVar 2) (eC (.int 8))) (eC (.int 40))) aNil))))) (eC .none)) (e2 isR (eCall (φ .go) (aCons (eVar 6) (aCons (eC (.str "more")) (aCons (eN tupR aNil) (aCons (eC (.int 41)) aNil))))) (eC .none))))
  sSkip)
  (sSeq (sAsg (eVar 5) (gTp 2 (gsCons (gNm 7) (gsCons (gNm 8) gsNil))))
  (sSeq (sIf (tOr' (tNo (tOf (eChain (l2 leD) (l2 leD) (eC (.int 1)) (eVar 8) (eC (.int 40))))) (tOr' (tOf (e2 (l2 neD) (eCall (φ .go) (aCons (eVar 1) (aCons (e2 ixR (eVar 3) (eC (.int 0))) (aCons (eVar 4) (aCons (eVar 8) aNil))))) (eVar 5))) (tOf (e2 (l2 neD) (eCall (φ .go) (aCons (eVar 1) (aCons (e2 ixR (eVar 3) (eC (.int 0))) (aCons (eVar 4) (aCons (eC (.int 41)) aNil))))) (eVar 5)))))
  (sRet (eC (.bool false)))
  sSkip)
  (sRet (eAn (e2 isR (eCall (φ .go) (aCons (eVar 1) (aCons (e2 ixR (eVar 3) (eC (.int 0))) (aCons (eVar 4) (aCons (e2 (l2 subD) (eVar 8) (eC (.int 1))) aNil))))) (eC .none)) (e2 (l2 eqD) (eCall (φ .go) (aCons (eVar 6) (aCons (eC (.str "more")) (aCons (eN tupR aNil) (aCons (e2 (l2 addD) (eVar 8) (eC (.int 1))) aNil))))) (eN tupR (aCons (eVar 7) (aCons (e2 (l2 addD) (eVar 8) (eC (.int 1))) aNil))))))))))))))))
noncomputable def b_law_k12 (φ : Fid → Fn) : Fn := runFn 20 1
  (sSeq (sAsg (eSl (eCall (φ .law_book) (aCons (eCall (φ .law_mixed) (aCons (eVar 0) (aCons (eC (.int 0)) aNil))) aNil)) oNone (oSome (eC (.int 3)))) (gNm 1))
  (sSeq (sAsg (eComp [18] (iSeq (eVar 1)) (gNm 18) tTrue (e2 ixR (eVar 18) (eC (.int 0)))) (gNm 2))
  (sSeq (sIf (tOf (e2 (l2 neD) (eComp [18] (iSeq (eVar 1)) (gNm 18) (tOf (e2 (l2 neD) (eComp [19] (iSeq (eCall (φ .law_called) (aCons (e2 ixR (eVar 18) (eC (.int 2))) aNil))) (gNm 19) (tOf (e2 notInR (eVar 19) (eVar 2))) (eVar 19)) (eN lstR aNil))) (eVar 18)) (eN lstR aNil)))
  (sRet (eC (.bool true)))
  sSkip)
  (sSeq (sPar 3 4 (aCons (e2 ixR (eVar 1) (e2 (l2 modD) (eCall (φ .law_mixed) (aCons (eVar 0) (aCons (eC (.int 1)) aNil))) (e1 lenR (eVar 1)))) (aCons (e2 ixR (eVar 1) (e2 (l2 modD) (eCall (φ .law_mixed) (aCons (eVar 0) (aCons (eC (.int 2)) aNil))) (e1 lenR (eVar 1)))) aNil)))
  (sSeq (sPar 5 6 (aCons (eCall (φ .law_worths) (aCons (eCall (φ .law_mixed) (aCons (eVar 0) (aCons (eC (.int 3)) aNil))) (aCons (e1 lenR (e2 ixR (eVar 3) (eC (.int 1)))) aNil))) (aCons (eCall (φ .law_worths) (aCons (eCall (φ .law_mixed) (aCons (eVar 0) (aCons (eC (.int 4)) aNil))) (aCons (e1 lenR (e2 ixR (eVar 4) (eC (.int 1)))) aNil))) aNil)))
  (sSeq (sPar 7 8 (aCons (eCall (φ .go) (aCons (eVar 1) (aCons (e2 ixR (eVar 3) (eC (.int 0))) (aCons (eVar 5) (aCons (eC (.int 25)) aNil))))) (aCons (eCall (φ .go) (aCons (eVar 1) (aCons (e2 ixR (eVar 4) (eC (.int 0))) (aCons (eVar 6) (aCons (eC (.int 25)) aNil))))) aNil)))
  (sSeq (sIf (tOr' (tOf (e2 (l2 neD) (eCall (φ .go) (aCons (eRev (eVar 1)) (aCons (e2 ixR (eVar 3) (eC (.int 0))) (aCons (eVar 5) (aCons (eC (.int 25)) aNil))))) (eVar 7))) (tOf (e2 isNotR (eCall (φ .go) (aCons (eVar 1) (aCons (e2 ixR (eVar 3) (eC (.int 0))) (aCons (eVar 5) (aCons (eC (.int 0)) aNil))))) (eC .none))))
  (sRet (eC (.bool false)))
  sSkip)
  (sSeq (sAsg (eN tupR (aCons (eN tupR (aCons (eC (.str "call")) (aCons (e2 ixR (eVar 3) (eC (.int 0))) (aCons (eVar 5) aNil)))) (aCons (eN tupR (aCons (eC (.str "call")) (aCons (e2 ixR (eVar 4) (eC (.int 0))) (aCons (eVar 6) aNil)))) aNil))) (gNm 9))
  (sSeq (sFor (iSeq (eN tupR (aCons (eC (.str "plus")) (aCons (eC (.str "less")) (aCons (eC (.str "times")) (aCons (eC (.str "same")) (aCons (eC (.str "under")) aNil))))))) (gNm 10)
  (sSeq (sAsg (e2 (l2 addD) (eVar 1) (eN tupR (aCons (eN tupR (aCons (eC (.str "top")) (aCons (eN tupR aNil) (aCons (eN tupR (aCons (eVar 10) (aCons (e2 ixR (eVar 9) (eC (.int 0))) (aCons (e2 ixR (eVar 9) (eC (.int 1))) aNil)))) aNil)))) aNil))) (gNm 11))
  (sSeq (sIf (tOf (e2 (l2 neD) (eCall (φ .go) (aCons (eVar 11) (aCons (e2 ixR (eVar 4) (eC (.int 0))) (aCons (eVar 6) (aCons (eC (.int 25)) aNil))))) (eVar 8)))
  (sRet (eC (.bool false)))
  sSkip)
  (sIf (tAn (tOf (e2 isNotR (eVar 7) (eC .none))) (tOf (e2 isNotR (eVar 8) (eC .none))))
  (sSeq (sAsg (eN tupR (aCons (eCall (φ .law_reckoned) (aCons (eVar 10) (aCons (e2 ixR (eVar 7) (eC (.int 0))) (aCons (e2 ixR (eVar 8) (eC (.int 0))) aNil)))) (aCons (e2 (l2 addD) (e2 (l2 addD) (eC (.int 1)) (e2 ixR (eVar 7) (eC (.int 1)))) (e2 ixR (eVar 8) (eC (.int 1)))) aNil))) (gNm 12))
  (sIf (tOr' (tOf (e2 (l2 neD) (eCall (φ .go) (aCons (eVar 11) (aCons (eC (.str "top")) (aCons (eN tupR aNil) (aCons (eC (.int 60)) aNil))))) (eVar 12))) (tOf (e2 isNotR (eCall (φ .go) (aCons (eVar 11) (aCons (eC (.str "top")) (aCons (eN tupR aNil) (aCons (e2 (l2 subD) (e2 ixR (eVar 12) (eC (.int 1))) (eC (.int 1))) aNil))))) (eC .none))))
  (sRet (eC (.bool false)))
  sSkip))
  sSkip))) [10, 11, 12])
  (sSeq (sFor (iSeq (eN tupR (aCons (eC (.int 0)) (aCons (eC (.int 1)) (aCons (eC (.int 999)) aNil))))) (gNm 13)
  (sSeq (sAsg (e2 (l2 addD) (eVar 1) (eN tupR (aCons (eN tupR (aCons (eC (.str "top")) (aCons (eN tupR aNil) (aCons (eN tupR (aCons (eC (.str "if")) (aCons (eVar 13) (aCons (e2 ixR (eVar 9) (eC (.int 0))) (aCons (e2 ixR (eVar 9) (eC (.int 1))) aNil))))) aNil)))) aNil))) (gNm 11))
  (sSeq (sAsg (e2 ixR (eN lstR (aCons (eVar 8) (aCons (eVar 7) aNil))) (e1 (l1 intD) (e2 (l2 gtD) (eVar 13) (eC (.int 0))))) (gNm 14))
  (sSeq (sAsg (eCall (φ .go) (aCons (eVar 11) (aCons (eC (.str "top")) (aCons (eN tupR aNil) (aCons (eC (.int 26)) aNil))))) (gNm 15))
  (sSeq (sIf (tOf (e2 (l2 neD) (e2 isR (eVar 15) (eC .none)) (e2 isR (eVar 14) (eC .none))))
  (sRet (eC (.bool false)))
  sSkip)
  (sIf (tAn (tOf (e2 isNotR (eVar 14) (eC .none))) (tOf (e2 (l2 neD) (eVar 15) (eN tupR (aCons (e2 ixR (eVar 14) (eC (.int 0))) (aCons (e2 (l2 addD) (e2 ixR (eVar 14) (eC (.int 1))) (eC (.int 1))) aNil))))))
  (sRet (eC (.bool false)))
  sSkip))))) [13, 11, 14, 15])
  (sSeq (sIf (tAn (tOf (e2 isNotR (eVar 7) (eC .none))) (tOf (e2 (l2 eqD) (e1 lenR (e2 ixR (eVar 3) (eC (.int 1)))) (eC (.int 1)))))
  (sSeq (sAsg (eCall (φ .go) (aCons (eVar 1) (aCons (e2 ixR (eVar 3) (eC (.int 0))) (aCons (eN tupR (aCons (e2 ixR (eVar 7) (eC (.int 0))) aNil)) (aCons (eC (.int 25)) aNil))))) (gNm 16))
  (sSeq (sAsg (eCall (φ .go) (aCons (e2 (l2 addD) (eVar 1) (eN tupR (aCons (eN tupR (aCons (eC (.str "top")) (aCons (eN tupR aNil) (aCons (eN tupR (aCons (eC (.str "call")) (aCons (e2 ixR (eVar 3) (eC (.int 0))) (aCons (eN tupR (aCons (e2 ixR (eVar 9) (eC (.int 0))) aNil)) aNil)))) aNil)))) aNil))) (aCons (eC (.str "top")) (aCons (eN tupR aNil) (aCons (eC (.int 60)) aNil))))) (gNm 17))
  (sIf (tAn (tOf (e2 isNotR (eVar 16) (eC .none))) (tOf (e2 (l2 neD) (eVar 17) (eN tupR (aCons (e2 ixR (eVar 16) (eC (.int 0))) (aCons (e2 (l2 addD) (e2 (l2 addD) (eC (.int 1)) (e2 ixR (eVar 7) (eC (.int 1)))) (e2 ixR (eVar 16) (eC (.int 1)))) aNil))))))
  (sRet (eC (.bool false)))
  sSkip)))
  sSkip)
  (sRet (e2 (l2 eqD) (eCall (φ .go) (aCons (e2 (l2 addD) (eVar 1) (eN tupR (aCons (eN tupR (aCons (eC (.str "top")) (aCons (eN tupR aNil) (aCons (eC (.int 7)) aNil)))) aNil))) (aCons (eC (.str "top")) (aCons (eN tupR aNil) (aCons (eC (.int 1)) aNil))))) (eN tupR (aCons (eC (.int 7)) (aCons (eC (.int 1)) aNil))))))))))))))))
noncomputable def b_parts_of (φ : Fid → Fn) : Fn := runFn 1 1
  (sSeq (sIf (tNo (tOf (e1 (l1 (isiD "tuple")) (eVar 0))))
  (sRet (eN tupR aNil))
  sSkip)
  (sSeq (sIf (tOf (e2 (l2 eqD) (e2 ixR (eVar 0) (eC (.int 0))) (eC (.str "call"))))
  (sRet (e2 ixR (eVar 0) (eC (.int 2))))
  sSkip)
  (sRet (eSl (eVar 0) (oSome (eC (.int 1))) oNone))))
noncomputable def b_with_parts (φ : Fid → Fn) : Fn := runFn 2 2
  (sSeq (sIf (tNo (tOf (e1 (l1 (isiD "tuple")) (eVar 0))))
  (sRet (eVar 0))
  sSkip)
  (sSeq (sIf (tOf (e2 (l2 eqD) (e2 ixR (eVar 0) (eC (.int 0))) (eC (.str "call"))))
  (sRet (eN tupR (aCons (eC (.str "call")) (aCons (e2 ixR (eVar 0) (eC (.int 1))) (aCons (e1 (l1 tupD) (eVar 1)) aNil)))))
  sSkip)
  (sRet (e2 (l2 addD) (eSl (eVar 0) oNone (oSome (eC (.int 1)))) (e1 (l1 tupD) (eVar 1))))))
noncomputable def b_folded_by (φ : Fid → Fn) : Fn := runFn 4 2
  (sSeq (sIf (tOf (e1 (l1 (isiD "str")) (eVar 0)))
  (sRet (eGet2 (eVar 1) (eVar 0) (eVar 0)))
  sSkip)
  (sSeq (sIf (tNo (tOf (e1 (l1 (isiD "tuple")) (eVar 0))))
  (sRet (eVar 0))
  sSkip)
  (sSeq (sAsg (eComp [3] (iSeq (eCall (φ .parts_of) (aCons (eVar 0) aNil))) (gNm 3) tTrue (eCall (φ .folded_by) (aCons (eVar 3) (aCons (eVar 1) aNil)))) (gNm 2))
  (sSeq (sIf (tAn (tOf (e2 (l2 eqD) (e2 ixR (eVar 0) (eC (.int 0))) (eC (.str "if")))) (tOf (e1 (l1 (isiD "int")) (e2 ixR (eVar 2) (eC (.int 0))))))
  (sRet (e2 ixR (eVar 2) (e2 (l2 addD) (eC (.int 1)) (e1 (l1 intD) (e2 (l2 eqD) (e2 ixR (eVar 2) (eC (.int 0))) (eC (.int 0)))))))
  sSkip)
  (sSeq (sIf (tAn (tOf (e2 notInR (e2 ixR (eVar 0) (eC (.int 0))) (eN tupR (aCons (eC (.str "if")) (aCons (eC (.str "call")) aNil))))) (tAn (tOf (e1 (l1 (isiD "int")) (e2 ixR (eVar 2) (eC (.int 0))))) (tOf (e1 (l1 (isiD "int")) (e2 ixR (eVar 2) (eC (.int 1)))))))
  (sRet (eCall (φ .reckoned) (aCons (e2 ixR (eVar 0) (eC (.int 0))) (aCons (e2 ixR (eVar 2) (eC (.int 0))) (aCons (e2 ixR (eVar 2) (eC (.int 1))) aNil)))))
  sSkip)
  (sRet (eCall (φ .with_parts) (aCons (eVar 0) (aCons (eVar 2) aNil)))))))))
noncomputable def b_folded (φ : Fid → Fn) : Fn := runFn 2 2
  (sRet (eCall (φ .folded_by) (aCons (eVar 0) (aCons (e1 dicR (eVar 1)) aNil))))
noncomputable def b_is_folded (φ : Fid → Fn) : Fn := runFn 1 1
  (sRet (e2 (l2 eqD) (eCall (φ .folded_by) (aCons (eVar 0) (aCons eDic0 aNil))) (eVar 0)))
noncomputable def b_law_fold (φ : Fid → Fn) : Fn := runFn 4 2
  (sSeq (sIf (tOf (e1 (l1 (isiD "str")) (eVar 0)))
  (sRet (eGet2 (eVar 1) (eVar 0) (eVar 0)))
  sSkip)
  (sSeq (sIf (tNo (tOf (e1 (l1 (isiD "tuple")) (eVar 0))))
  (sRet (eVar 0))
  sSkip)
  (sSeq (sIf (tOf (e2 (l2 eqD) (e2 ixR (eVar 0) (eC (.int 0))) (eC (.str "call"))))
  (sRet (eN tupR (aCons (eC (.str "call")) (aCons (e2 ixR (eVar 0) (eC (.int 1))) (aCons (e1 (l1 tupD) (eComp [3] (iSeq (e2 ixR (eVar 0) (eC (.int 2)))) (gNm 3) tTrue (eCall (φ .law_fold) (aCons (eVar 3) (aCons (eVar 1) aNil))))) aNil)))))
  sSkip)
  (sSeq (sAsg (eComp [3] (iSeq (eSl (eVar 0) (oSome (eC (.int 1))) oNone)) (gNm 3) tTrue (eCall (φ .law_fold) (aCons (eVar 3) (aCons (eVar 1) aNil)))) (gNm 2))
  (sSeq (sIf (tOf (e2 (l2 eqD) (e2 ixR (eVar 0) (eC (.int 0))) (eC (.str "if"))))
  (sSeq (sIf (tOf (e1 (l1 (isiD "int")) (e2 ixR (eVar 2) (eC (.int 0)))))
  (sRet (e2 ixR (eN lstR (aCons (e2 ixR (eVar 2) (eC (.int 2))) (aCons (e2 ixR (eVar 2) (eC (.int 1))) aNil))) (e1 (l1 intD) (e2 (l2 gtD) (e2 ixR (eVar 2) (eC (.int 0))) (eC (.int 0))))))
  sSkip)
  (sRet (eN tupR (aCons (eC (.str "if")) (aCons (e2 ixR (eVar 2) (eC (.int 0))) (aCons (e2 ixR (eVar 2) (eC (.int 1))) (aCons (e2 ixR (eVar 2) (eC (.int 2))) aNil)))))))
  sSkip)
  (sSeq (sIf (tAn (tOf (e1 (l1 (isiD "int")) (e2 ixR (eVar 2) (eC (.int 0))))) (tOf (e1 (l1 (isiD "int")) (e2 ixR (eVar 2) (eC (.int 1))))))
  (sRet (eCall (φ .law_reckoned) (aCons (e2 ixR (eVar 0) (eC (.int 0))) (aCons (e2 ixR (eVar 2) (eC (.int 0))) (aCons (e2 ixR (eVar 2) (eC (.int 1))) aNil)))))
  sSkip)
  (sRet (eN tupR (aCons (e2 ixR (eVar 0) (eC (.int 0))) (aCons (e2 ixR (eVar 2) (eC (.int 0))) (aCons (e2 ixR (eVar 2) (eC (.int 1))) aNil)))))))))))
noncomputable def b_law_drawn_shape (φ : Fid → Fn) : Fn := runFn 5 2
  (sSeq (sAsg (eCall (φ .law_worths) (aCons (eVar 1) (aCons (e1 lenR (e2 ixR (eVar 0) (eC (.int 1)))) aNil))) (gNm 2))
  (sRet (e1 (l1 tupD) (eComp [3, 4] (iEnum' (eVar 2)) (gTp 2 (gsCons (gNm 3) (gsCons (gNm 4) gsNil))) tTrue (e2 ixR (eN lstR (aCons (eVar 4) (aCons (eC .none) aNil))) (e2 (l2 modD) (e2 (l2 fdivD) (eCall (φ .law_drawn) (aCons (eVar 1) (aCons (e2 (l2 addD) (eC (.int 80)) (eVar 3)) aNil))) (eC (.int 4))) (eC (.int 2))))))))
noncomputable def b_law_k20 (φ : Fid → Fn) : Fn := runFn 10 1
  (sSeq (sAsg (eCall (φ .law_book) (aCons (eCall (φ .law_mixed) (aCons (eVar 0) (aCons (eC (.int 0)) aNil))) aNil)) (gNm 1))
  (sSeq (sAsg (eCall (φ .law_mixed) (aCons (eVar 0) (aCons (eC (.int 1)) aNil))) (gNm 2))
  (sSeq (sAsg (e2 ixR (eVar 1) (e2 (l2 modD) (eVar 2) (e1 lenR (eVar 1)))) (gNm 3))
  (sSeq (sAsg (eCall (φ .law_drawn_shape) (aCons (eVar 3) (aCons (eCall (φ .law_mixed) (aCons (eVar 0) (aCons (eC (.int 2)) aNil))) aNil))) (gNm 4))
  (sSeq (sAsg (e1 dicR (eComp [8, 9] (iZip2 (e2 ixR (eVar 3) (eC (.int 1))) (eVar 4)) (gTp 2 (gsCons (gNm 8) (gsCons (gNm 9) gsNil))) (tOf (e2 isNotR (eVar 9) (eC .none))) (eN tupR (aCons (eVar 8) (aCons (eVar 9) aNil))))) (gNm 5))
  (sSeq (sAsg (eCall (φ .law_fold) (aCons (e2 ixR (eVar 3) (eC (.int 2))) (aCons (eVar 5) aNil))) (gNm 6))
  (sSeq (sIf (tOr' (tOf (e2 (l2 neD) (eCall (φ .folded) (aCons (e2 ixR (eVar 3) (eC (.int 2))) (aCons (e1 (l1 tupD) (eSortIt (eVar 5))) aNil))) (eVar 6))) (tOf (e2 isNotR (eCall (φ .is_folded) (aCons (eVar 6) aNil)) (eC (.bool true)))))
  (sRet (eC (.bool false)))
  sSkip)
  (sSeq (sAsg (eCall (φ .is_folded) (aCons (e2 ixR (eVar 3) (eC (.int 2))) aNil)) (gNm 7))
  (sRet (eAn (e1 (l1 (isiD "bool")) (eVar 7)) (e2 (l2 eqD) (eVar 7) (e2 (l2 eqD) (eCall (φ .law_fold) (aCons (e2 ixR (eVar 3) (eC (.int 2))) (aCons eDic0 aNil))) (e2 ixR (eVar 3) (eC (.int 2)))))))))))))))
noncomputable def b_law_is_called (φ : Fid → Fn) : Fn := runFn 3 2
  (sRet (e2 (l2 neD) (eComp [2] (iSeq (eVar 0)) (gNm 2) (tOf (e2 inR (eVar 1) (eCall (φ .law_called) (aCons (e2 ixR (eVar 2) (eC (.int 2))) aNil)))) (eVar 2)) (eN lstR aNil)))
noncomputable def b_law_k21 (φ : Fid → Fn) : Fn := runFn 17 1
  (sSeq (sAsg (eCall (φ .law_book) (aCons (eCall (φ .law_mixed) (aCons (eVar 0) (aCons (eC (.int 0)) aNil))) aNil)) (gNm 1))
  (sSeq (sAsg (eCall (φ .law_mixed) (aCons (eVar 0) (aCons (eC (.int 1)) aNil))) (gNm 2))
  (sSeq (sAsg (e2 ixR (eVar 1) (e2 (l2 modD) (eVar 2) (e1 lenR (eVar 1)))) (gNm 3))
  (sSeq (sAsg (eCall (φ .law_worths) (aCons (eCall (φ .law_mixed) (aCons (eVar 0) (aCons (eC (.int 2)) aNil))) (aCons (e1 lenR (e2 ixR (eVar 3) (eC (.int 1)))) aNil))) (gNm 4))
  (sSeq (sAsg (e1 (l1 tupD) (eComp [12, 13] (iZip2 (e2 ixR (eVar 3) (eC (.int 1))) (eVar 4)) (gTp 2 (gsCons (gNm 12) (gsCons (gNm 13) gsNil))) tTrue (eN tupR (aCons (eVar 12) (aCons (eVar 13) aNil))))) (gNm 5))
  (sSeq (sAsg (e1 (l1 tupD) (eComp [14, 15] (iEnum' (eVar 5)) (gTp 2 (gsCons (gNm 14) (gsCons (gNm 15) gsNil))) (tOf (e2 (l2 eqD) (e2 (l2 modD) (e2 (l2 fdivD) (eVar 2) (e2 ixR (eN tupR (aCons (eC (.int 16)) (aCons (eC (.int 32)) (aCons (eC (.int 64)) aNil)))) (eVar 14))) (eC (.int 2))) (eC (.int 1)))) (eVar 15))) (gNm 6))
  (sSeq (sAsg (e1 (l1 tupD) (eComp [15] (iSeq (eVar 5)) (gNm 15) (tOf (e2 notInR (eVar 15) (eVar 6))) (eVar 15))) (gNm 7))
  (sSeq (sIf (tOf (e2 (l2 neD) (eCall (φ .folded) (aCons (eCall (φ .folded) (aCons (e2 ixR (eVar 3) (eC (.int 2))) (aCons (eVar 6) aNil))) (aCons (eVar 7) aNil))) (eCall (φ .folded) (aCons (e2 ixR (eVar 3) (eC (.int 2))) (aCons (eVar 5) aNil)))))
  (sRet (eC (.bool false)))
  sSkip)
  (sSeq (sIf (tOf (e2 (l2 neD) (eCall (φ .folded) (aCons (eCall (φ .folded) (aCons (e2 ixR (eVar 3) (eC (.int 2))) (aCons (eVar 7) aNil))) (aCons (eVar 6) aNil))) (eCall (φ .folded) (aCons (e2 ixR (eVar 3) (eC (.int 2))) (aCons (eVar 5) aNil)))))
  (sRet (eC (.bool false)))
  sSkip)
  (sSeq (sAsg (eCall (φ .go) (aCons (eVar 1) (aCons (e2 ixR (eVar 3) (eC (.int 0))) (aCons (eVar 4) (aCons (eC (.int 40)) aNil))))) (gNm 8))
  (sSeq (sFor (iSeq (eN tupR (aCons (eVar 6) (aCons (eVar 5) (aCons (eN tupR aNil) aNil))))) (gNm 9)
  (sSeq (sAsg (e1 (l1 tupD) (eComp [16] (iSeq (eVar 1)) (gNm 16) tTrue (e2 ixR (eN lstR (aCons (eVar 16) (aCons (e2 (l2 addD) (eSl (eVar 16) oNone (oSome (eC (.int 2)))) (eN tupR (aCons (eCall (φ .folded) (aCons (e2 ixR (eVar 16) (eC (.int 2))) (aCons (eVar 9) aNil))) aNil))) aNil))) (e1 (l1 intD) (e2 (l2 eqD) (eVar 16) (eVar 3)))))) (gNm 10))
  (sIf (tAn (tNo (tOf (eCall (φ .law_is_called) (aCons (eVar 1) (aCons (e2 ixR (eVar 3) (eC (.int 0))) aNil))))) (tOf (e2 (l2 neD) (eCall (φ .go) (aCons (eVar 10) (aCons (e2 ixR (eVar 3) (eC (.int 0))) (aCons (eVar 4) (aCons (eC (.int 40)) aNil))))) (eVar 8))))
  (sRet (eC (.bool false)))
  sSkip)) [9, 10])
  (sSeq (sAsg (eCall (φ .folded) (aCons (e2 ixR (eVar 3) (eC (.int 2))) (aCons (eVar 5) aNil))) (gNm 11))
  (sSeq (sIf (tAn (tOf (e1 (l1 (isiD "int")) (eVar 11))) (tOr' (tOf (e2 isR (eVar 8) (eC .none))) (tOf (e2 (l2 neD) (eVar 8) (eN tupR (aCons (eVar 11) (aCons (eC (.int 1)) aNil)))))))
  (sRet (eC (.bool false)))
  sSkip)
  (sRet (eOr (e1 (l1 (isiD "int")) (eVar 11)) (e2 (l2 neD) (eCall (φ .law_called) (aCons (eVar 11) aNil)) (eN lstR aNil)))))))))))))))))
noncomputable def b_known_by (φ : Fid → Fn) : Fn := runFn 4 2
  (sRet (e1 dicR (eComp [2, 3] (iZip2 (eVar 0) (eVar 1)) (gTp 2 (gsCons (gNm 2) (gsCons (gNm 3) gsNil))) (tOf (e2 isNotR (eVar 3) (eC .none))) (eN tupR (aCons (eVar 2) (aCons (eVar 3) aNil))))))
noncomputable def b_folded_sum (φ : Fid → Fn) : Fn := runFn 6 3
  (sSeq (sAsg (eCall (φ .maker_of) (aCons (eVar 0) (aCons (eVar 1) aNil))) (gTp 3 (gsCons (gNm 3) (gsCons (gNm 4) (gsCons (gNm 5) gsNil)))))
  (sRet (eCall (φ .folded_by) (aCons (eVar 5) (aCons (eCall (φ .known_by) (aCons (eVar 4) (aCons (eVar 2) aNil))) aNil)))))
noncomputable def b_shape_of (φ : Fid → Fn) : Fn := runFn 2 1
  (sRet (e1 (l1 tupD) (eComp [1] (iSeq (eVar 0)) (gNm 1) tTrue (e2 ixR (eN lstR (aCons (eC .none) (aCons (eVar 1) aNil))) (e1 (l1 intD) (e1 (l1 (isiD "int")) (eVar 1)))))))
noncomputable def b_calls_in (φ : Fid → Fn) : Fn := runFn 3 1
  (sSeq (sAsg (eLstO aNil) (gNm 1))
  (sSeq (sIf (tAn (tOf (e1 (l1 (isiD "tuple")) (eVar 0))) (tOf (e2 (l2 eqD) (e2 ixR (eVar 0) (eC (.int 0))) (eC (.str "call")))))
  (sExpr (eAppend (eVar 1) (eVar 0)))
  sSkip)
  (sSeq (sFor (iSeq (eCall (φ .parts_of) (aCons (eVar 0) aNil))) (gNm 2)
  (sAsg (e2 (l2 addD) (eVar 1) (eCall (φ .calls_in) (aCons (eVar 2) aNil))) (gNm 1)) [2])
  (sRet (eVar 1)))))
noncomputable def b_unlike (φ : Fid → Fn) : Fn := runFn 3 1
  (sSeq (sAsg (eLstO aNil) (gNm 1))
  (sSeq (sFor (iSeq (eVar 0)) (gNm 2)
  (sIf (tOf (e2 notInR (eVar 2) (eVar 1)))
  (sExpr (eAppend (eVar 1) (eVar 2)))
  sSkip) [2])
  (sRet (e1 (l1 tupD) (eVar 1)))))
noncomputable def b_inner (φ : Fid → Fn) : Fn := runFn 4 3
  (sRet (eCall (φ .unlike) (aCons (eComp [3] (iSeq (eCall (φ .calls_in) (aCons (eCall (φ .folded_sum) (aCons (eVar 0) (aCons (eVar 1) (aCons (eVar 2) aNil)))) aNil))) (gNm 3) tTrue (eN tupR (aCons (e2 ixR (eVar 3) (eC (.int 1))) (aCons (eCall (φ .shape_of) (aCons (e2 ixR (eVar 3) (eC (.int 2))) aNil)) aNil)))) aNil)))
noncomputable def b_law_folded (φ : Fid → Fn) : Fn := runFn 9 3
  (sSeq (sAsg (e2 ixR (eComp [6] (iSeq (eVar 0)) (gNm 6) (tOf (e2 (l2 eqD) (e2 ixR (eVar 6) (eC (.int 0))) (eVar 1))) (eVar 6)) (eC (.int 0))) (gTp 3 (gsCons (gNm 3) (gsCons (gNm 4) (gsCons (gNm 5) gsNil)))))
  (sRet (eCall (φ .law_fold) (aCons (eVar 5) (aCons (e1 dicR (eComp [7, 8] (iZip2 (eVar 4) (eVar 2)) (gTp 2 (gsCons (gNm 7) (gsCons (gNm 8) gsNil))) (tOf (e2 isNotR (eVar 8) (eC .none))) (eN tupR (aCons (eVar 7) (aCons (eVar 8) aNil))))) aNil)))))
noncomputable def b_law_calls (φ : Fid → Fn) : Fn := runFn 4 1
  (sSeq (sIf (tNo (tOf (e1 (l1 (isiD "tuple")) (eVar 0))))
  (sRet (eN lstR aNil))
  sSkip)
  (sSeq (sAsg (eN lstR aNil) (gNm 1))
  (sSeq (sAsg (eSl (eVar 0) (oSome (eC (.int 1))) oNone) (gNm 2))
  (sSeq (sIf (tOf (e2 (l2 eqD) (e2 ixR (eVar 0) (eC (.int 0))) (eC (.str "call"))))
  (sSeq (sAsg (eN lstR (aCons (eN tupR (aCons (e2 ixR (eVar 0) (eC (.int 1))) (aCons (e1 (l1 tupD) (eComp [3] (iSeq (e2 ixR (eVar 0) (eC (.int 2)))) (gNm 3) tTrue (e2 ixR (eN lstR (aCons (eC .none) (aCons (eVar 3) aNil))) (e1 (l1 intD) (e1 (l1 (isiD "int")) (eVar 3)))))) aNil))) aNil)) (gNm 1))
  (sAsg (e2 ixR (eVar 0) (eC (.int 2))) (gNm 2)))
  sSkip)
  (sSeq (sFor (iSeq (eVar 2)) (gNm 3)
  (sAsg (e2 (l2 addD) (eVar 1) (eCall (φ .law_calls) (aCons (eVar 3) aNil))) (gNm 1)) [3])
  (sRet (eVar 1)))))))
noncomputable def b_law_masked (φ : Fid → Fn) : Fn := runFn 7 3
  (sSeq (sAsg (e2 ixR (eVar 2) (eIndex (eComp [4] (iSeq (eVar 0)) (gNm 4) tTrue (e2 ixR (eVar 4) (eC (.int 0)))) (e2 ixR (eVar 1) (eC (.int 0))))) (gNm 3))
  (sRet (eN tupR (aCons (e2 ixR (eVar 1) (eC (.int 0))) (aCons (e1 (l1 tupD) (eComp [5, 6] (iZip2 (e2 ixR (eVar 1) (eC (.int 1))) (eVar 3)) (gTp 2 (gsCons (gNm 5) (gsCons (gNm 6) gsNil))) tTrue (e2 ixR (eN lstR (aCons (eC .none) (aCons (eVar 5) aNil))) (e1 (l1 intD) (eVar 6))))) aNil)))))
noncomputable def b_law_shapes (φ : Fid → Fn) : Fn := runFn 8 4
  (sSeq (sAsg (eLstO (aCons (eCall (φ .law_masked) (aCons (eVar 0) (aCons (eVar 1) (aCons (eVar 2) aNil)))) aNil)) (gNm 4))
  (sSeq (sAsg (eC (.int 0)) (gNm 5))
  (sSeq (sWhile 100000 (tOf (e2 (l2 ltD) (eVar 5) (e1 lenR (eVar 4))))
  (sSeq (sIf (tOf (e2 (l2 gtD) (e1 lenR (eVar 4)) (eVar 3)))
  (sRet (eC .none))
  sSkip)
  (sSeq (sAsg (e2 ixR (eVar 4) (eVar 5)) (gNm 6))
  (sSeq (sAsg (e2 (l2 addD) (eVar 5) (eC (.int 1))) (gNm 5))
  (sFor (iSeq (eCall (φ .law_calls) (aCons (eCall (φ .law_folded) (aCons (eVar 0) (aCons (e2 ixR (eVar 6) (eC (.int 0))) (aCons (e2 ixR (eVar 6) (eC (.int 1))) aNil)))) aNil))) (gNm 7)
  (sSeq (sAsg (eCall (φ .law_masked) (aCons (eVar 0) (aCons (eVar 7) (aCons (eVar 2) aNil)))) (gNm 7))
  (sIf (tOf (e2 notInR (eVar 7) (eVar 4)))
  (sExpr (eAppend (eVar 4) (eVar 7)))
  sSkip)) [7])))) [6, 7])
  (sRet (e2 ixR (eN lstR (aCons (e1 (l1 tupD) (eVar 4)) (aCons (eC .none) aNil))) (e1 (l1 intD) (e2 (l2 gtD) (e1 lenR (eVar 4)) (eVar 3))))))))
noncomputable def b_law_k30 (φ : Fid → Fn) : Fn := runFn 7 1
  (sSeq (sAsg (eCall (φ .law_book) (aCons (eCall (φ .law_mixed) (aCons (eVar 0) (aCons (eC (.int 0)) aNil))) aNil)) (gNm 1))
  (sSeq (sFor (iEnum' (eVar 1)) (gTp 2 (gsCons (gNm 2) (gsCons (gNm 3) gsNil)))
  (sSeq (sAsg (eCall (φ .law_drawn_shape) (aCons (eVar 3) (aCons (eCall (φ .law_mixed) (aCons (eVar 0) (aCons (e2 (l2 addD) (eC (.int 1)) (eVar 2)) aNil))) aNil))) (gNm 4))
  (sSeq (sAsg (eLstO aNil) (gNm 5))
  (sSeq (sFor (iSeq (eCall (φ .law_calls) (aCons (eCall (φ .law_folded) (aCons (eVar 1) (aCons (e2 ixR (eVar 3) (eC (.int 0))) (aCons (eVar 4) aNil)))) aNil))) (gNm 6)
  (sIf (tOf (e2 notInR (eVar 6) (eVar 5)))
  (sExpr (eAppend (eVar 5) (eVar 6)))
  sSkip) [6])
  (sIf (tOf (e2 (l2 neD) (eCall (φ .inner) (aCons (eVar 1) (aCons (e2 ixR (eVar 3) (eC (.int 0))) (aCons (eVar 4) aNil)))) (e1 (l1 tupD) (eVar 5))))
  (sRet (eC (.bool false)))
  sSkip)))) [2, 3, 4, 5, 6])
  (sRet (eC (.bool true)))))
noncomputable def b_all_true (φ : Fid → Fn) : Fn := runFn 2 1
  (sRet (e1 (l1 tupD) (eComp [1] (iSeq (eVar 0)) (gNm 1) tTrue (e2 (l2 tmulD) (eN tupR (aCons (eC (.bool true)) aNil)) (e1 lenR (e2 ixR (eVar 1) (eC (.int 1))))))))
noncomputable def b_masked (φ : Fid → Fn) : Fn := runFn 8 4
  (sSeq (sAsg (eIndex (eComp [5] (iSeq (eVar 0)) (gNm 5) tTrue (e2 ixR (eVar 5) (eC (.int 0)))) (eVar 1)) (gNm 4))
  (sRet (e1 (l1 tupD) (eComp [6, 7] (iZip2 (eVar 2) (e2 ixR (eVar 3) (eVar 4))) (gTp 2 (gsCons (gNm 6) (gsCons (gNm 7) gsNil))) tTrue (e2 ixR (eN lstR (aCons (eC .none) (aCons (eVar 6) aNil))) (e1 (l1 intD) (eVar 7)))))))
noncomputable def b_shapes_by (φ : Fid → Fn) : Fn := runFn 10 5
  (sSeq (sAsg (eLstO (aCons (eN tupR (aCons (eVar 1) (aCons (eCall (φ .masked) (aCons (eVar 0) (aCons (eVar 1) (aCons (eVar 2) (aCons (eVar 3) aNil))))) aNil))) aNil)) (gNm 5))
  (sSeq (sAsg (eC (.int 0)) (gNm 6))
  (sSeq (sWhile 100000 (tAn (tOf (e2 (l2 ltD) (eVar 6) (e1 lenR (eVar 5)))) (tOf (e2 (l2 leD) (e1 lenR (eVar 5)) (eVar 4))))
  (sSeq (sFor (iSeq (eCall (φ .inner) (aCons (eVar 0) (aCons (e2 ixR (e2 ixR (eVar 5) (eVar 6)) (eC (.int 0))) (aCons (e2 ixR (e2 ixR (eVar 5) (eVar 6)) (eC (.int 1))) aNil))))) (gTp 2 (gsCons (gNm 7) (gsCons (gNm 8) gsNil)))
  (sSeq (sAsg (eN tupR (aCons (eVar 7) (aCons (eCall (φ .masked) (aCons (eVar 0) (aCons (eVar 7) (aCons (eVar 8) (aCons (eVar 3) aNil))))) aNil))) (gNm 9))
  (sIf (tOf (e2 notInR (eVar 9) (eVar 5)))
  (sExpr (eAppend (eVar 5) (eVar 9)))
  sSkip)) [7, 8, 9])
  (sAsg (e2 (l2 addD) (eVar 6) (eC (.int 1))) (gNm 6))) [7, 8, 9])
  (sSeq (sIf (tOf (e2 (l2 gtD) (e1 lenR (eVar 5)) (eVar 4)))
  (sRet (eC .none))
  sSkip)
  (sRet (e1 (l1 tupD) (eVar 5)))))))
noncomputable def b_shapes (φ : Fid → Fn) : Fn := runFn 4 4
  (sRet (eCall (φ .shapes_by) (aCons (eVar 0) (aCons (eVar 1) (aCons (eVar 2) (aCons (eCall (φ .all_true) (aCons (eVar 0) aNil)) (aCons (eVar 3) aNil)))))))
noncomputable def b_law_k31 (φ : Fid → Fn) : Fn := runFn 13 1
  (sSeq (sAsg (eCall (φ .law_book) (aCons (eCall (φ .law_mixed) (aCons (eVar 0) (aCons (eC (.int 0)) aNil))) aNil)) (gNm 1))
  (sSeq (sAsg (eCall (φ .law_mixed) (aCons (eVar 0) (aCons (eC (.int 1)) aNil))) (gNm 2))
  (sSeq (sAsg (e2 ixR (eVar 1) (e2 (l2 modD) (eVar 2) (e1 lenR (eVar 1)))) (gNm 3))
  (sSeq (sAsg (eCall (φ .law_drawn_shape) (aCons (eVar 3) (aCons (eCall (φ .law_mixed) (aCons (eVar 0) (aCons (eC (.int 2)) aNil))) aNil))) (gNm 4))
  (sSeq (sAsg (e2 (l2 addD) (eC (.int 1)) (e2 (l2 modD) (e2 (l2 fdivD) (eVar 2) (eC (.int 16))) (eC (.int 20)))) (gNm 5))
  (sSeq (sAsg (e1 (l1 tupD) (eComp [9] (iSeq (eVar 1)) (gNm 9) tTrue (e2 (l2 tmulD) (eN tupR (aCons (eC (.bool true)) aNil)) (e1 lenR (e2 ixR (eVar 9) (eC (.int 1))))))) (gNm 6))
  (sSeq (sIf (tOf (e2 (l2 neD) (eCall (φ .shapes) (aCons (eVar 1) (aCons (e2 ixR (eVar 3) (eC (.int 0))) (aCons (eVar 4) (aCons (eVar 5) aNil))))) (eCall (φ .law_shapes) (aCons (eVar 1) (aCons (eN tupR (aCons (e2 ixR (eVar 3) (eC (.int 0))) (aCons (eVar 4) aNil))) (aCons (eVar 6) (aCons (eVar 5) aNil)))))))
  (sRet (eC (.bool false)))
  sSkip)
  (sSeq (sAsg (eN tupR aNil) (gNm 7))
  (sSeq (sFor (iEnum' (eVar 1)) (gTp 2 (gsCons (gNm 8) (gsCons (gNm 9) gsNil)))
  (sSeq (sAsg (eComp [12] (iRange1 (e1 lenR (e2 ixR (eVar 9) (eC (.int 1))))) (gNm 12) tTrue (e2 (l2 gtD) (e2 (l2 modD) (e2 (l2 fdivD) (eCall (φ .law_drawn) (aCons (eVar 2) (aCons (e2 (l2 addD) (e2 (l2 mulD) (eC (.int 9)) (eVar 8)) (eVar 12)) aNil))) (eC (.int 4))) (eC (.int 3))) (eC (.int 0)))) (gNm 10))
  (sAsg (e2 (l2 addD) (eVar 7) (eN tupR (aCons (e1 (l1 tupD) (eVar 10)) aNil))) (gNm 7))) [8, 9, 10])
  (sSeq (sAsg (eCall (φ .shapes_by) (aCons (eVar 1) (aCons (e2 ixR (eVar 3) (eC (.int 0))) (aCons (eVar 4) (aCons (eVar 7) (aCons (eVar 5) aNil)))))) (gNm 11))
  (sRet (e2 (l2 eqD) (eVar 11) (eCall (φ .law_shapes) (aCons (eVar 1) (aCons (eN tupR (aCons (e2 ixR (eVar 3) (eC (.int 0))) (aCons (eVar 4) aNil))) (aCons (eVar 7) (aCons (eVar 5) aNil)))))))))))))))))
noncomputable def b_law_k32 (φ : Fid → Fn) : Fn := runFn 11 1
  (sSeq (sAsg (eCall (φ .law_book) (aCons (eCall (φ .law_mixed) (aCons (eVar 0) (aCons (eC (.int 0)) aNil))) aNil)) (gNm 1))
  (sSeq (sAsg (eCall (φ .law_mixed) (aCons (eVar 0) (aCons (eC (.int 1)) aNil))) (gNm 2))
  (sSeq (sAsg (e2 ixR (eVar 1) (e2 (l2 modD) (eVar 2) (e1 lenR (eVar 1)))) (gNm 3))
  (sSeq (sAsg (eCall (φ .law_drawn_shape) (aCons (eVar 3) (aCons (eCall (φ .law_mixed) (aCons (eVar 0) (aCons (eC (.int 2)) aNil))) aNil))) (gNm 4))
  (sSeq (sAsg (eCall (φ .shapes) (aCons (eVar 1) (aCons (e2 ixR (eVar 3) (eC (.int 0))) (aCons (eVar 4) (aCons (eC (.int 20)) aNil))))) (gNm 5))
  (sSeq (sIf (tOf (e2 isR (eVar 5) (eC .none)))
  (sRet (e2 isR (eCall (φ .shapes) (aCons (eVar 1) (aCons (e2 ixR (eVar 3) (eC (.int 0))) (aCons (eVar 4) (aCons (e2 (l2 addD) (eC (.int 1)) (e2 (l2 modD) (e2 (l2 fdivD) (eVar 2) (eC (.int 16))) (eC (.int 20)))) aNil))))) (eC .none)))
  sSkip)
  (sSeq (sIf (tOr' (tOf (e2 (l2 neD) (e2 ixR (eVar 5) (eC (.int 0))) (eN tupR (aCons (e2 ixR (eVar 3) (eC (.int 0))) (aCons (eVar 4) aNil))))) (tOr' (tOf (e2 (l2 neD) (e1 (l1 lenSetD) (eVar 5)) (e1 lenR (eVar 5)))) (tOf (e2 (l2 gtD) (e1 lenR (eVar 5)) (eC (.int 20))))))
  (sRet (eC (.bool false)))
  sSkip)
  (sSeq (sAsg (eComp [8] (iSeq (eVar 5)) (gNm 8) tTrue (eCall (φ .inner) (aCons (eVar 1) (aCons (e2 ixR (eVar 8) (eC (.int 0))) (aCons (e2 ixR (eVar 8) (eC (.int 1))) aNil))))) (gNm 6))
  (sSeq (sFor (iEnum' (eVar 5)) (gTp 2 (gsCons (gNm 7) (gsCons (gNm 8) gsNil)))
  (sSeq (sIf (tOf (e2 (l2 neD) (eComp [9] (iSeq (e2 ixR (eVar 6) (eVar 7))) (gNm 9) (tOf (e2 notInR (eVar 9) (eVar 5))) (eVar 9)) (eN lstR aNil)))
  (sRet (eC (.bool false)))
  sSkip)
  (sIf (tAn (tOf (e2 (l2 gtD) (eVar 7) (eC (.int 0)))) (tOf (e2 (l2 eqD) (eComp [10] (iSeq (eSl (eVar 6) oNone (oSome (eVar 7)))) (gNm 10) (tOf (e2 inR (eVar 8) (eVar 10))) (eC (.int 1))) (eN lstR aNil))))
  (sRet (eC (.bool false)))
  sSkip)) [7, 8])
  (sSeq (sIf (tOf (e2 (l2 neD) (eCall (φ .shapes) (aCons (eVar 1) (aCons (e2 ixR (eVar 3) (eC (.int 0))) (aCons (eVar 4) (aCons (e1 lenR (eVar 5)) aNil))))) (eVar 5)))
  (sRet (eC (.bool false)))
  sSkip)
  (sRet (eOr (e2 (l2 eqD) (e1 lenR (eVar 5)) (eC (.int 1))) (e2 isR (eCall (φ .shapes) (aCons (eVar 1) (aCons (e2 ixR (eVar 3) (eC (.int 0))) (aCons (eVar 4) (aCons (e2 (l2 subD) (e1 lenR (eVar 5)) (eC (.int 1))) aNil))))) (eC .none))))))))))))))
noncomputable def b_names_in (φ : Fid → Fn) : Fn := runFn 4 2
  (sSeq (sIf (tOf (e1 (l1 (isiD "str")) (eVar 0)))
  (sRet (eN lstR (aCons (eVar 0) aNil)))
  sSkip)
  (sSeq (sAsg (eN lstR aNil) (gNm 2))
  (sSeq (sFor (iSeq (eCall (φ .kept_parts) (aCons (eVar 0) (aCons (eVar 1) aNil)))) (gNm 3)
  (sAsg (e2 (l2 addD) (eVar 2) (eCall (φ .names_in) (aCons (eVar 3) (aCons (eVar 1) aNil)))) (gNm 2)) [3])
  (sRet (eVar 2)))))
noncomputable def b_kept_parts (φ : Fid → Fn) : Fn := runFn 4 2
  (sSeq (sIf (tAn (tOf (e1 (l1 (isiD "tuple")) (eVar 0))) (tOf (e2 (l2 eqD) (e2 ixR (eVar 0) (eC (.int 0))) (eC (.str "call")))))
  (sRet (eComp [2, 3] (iZip2 (e2 ixR (eVar 0) (eC (.int 2))) (e2 ixR (eVar 1) (e2 ixR (eVar 0) (eC (.int 1))))) (gTp 2 (gsCons (gNm 2) (gsCons (gNm 3) gsNil))) (tOf (eVar 3)) (eVar 2)))
  sSkip)
  (sRet (eCall (φ .parts_of) (aCons (eVar 0) aNil))))
noncomputable def b_needs_of (φ : Fid → Fn) : Fn := runFn 9 1
  (sSeq (sAsg (eDicS (eComp [3, 4, 5] (iSeq (eVar 0)) (gTp 3 (gsCons (gNm 3) (gsCons (gNm 4) (gsCons (gNm 5) gsNil)))) tTrue (eN tupR (aCons (eVar 3) (aCons (e2 (l2 tmulD) (eN tupR (aCons (eC (.bool false)) aNil)) (e1 lenR (eVar 4))) aNil))))) (gNm 1))
  (sSeq (sAsg (eC (.bool true)) (gNm 2))
  (sSeq (sWhile 100000 (tOf (eVar 2))
  (sSeq (sAsg (eC (.bool false)) (gNm 2))
  (sFor (iSeq (eVar 0)) (gTp 3 (gsCons (gNm 3) (gsCons (gNm 4) (gsCons (gNm 5) gsNil))))
  (sSeq (sAsg (eCall (φ .names_in) (aCons (eVar 5) (aCons (eVar 1) aNil))) (gNm 6))
  (sSeq (sAsg (e1 (l1 tupD) (eComp [8] (iSeq (eVar 4)) (gNm 8) tTrue (e2 inR (eVar 8) (eVar 6)))) (gNm 7))
  (sIf (tOf (e2 (l2 neD) (eVar 7) (e2 ixR (eVar 1) (eVar 3))))
  (sSeq (sDput (eVar 1) (eVar 3) (eVar 7))
  (sAsg (eC (.bool true)) (gNm 2)))
  sSkip))) [3, 4, 5, 6, 7])) [3, 4, 5, 6, 7])
  (sRet (eVar 1)))))
noncomputable def b_needed (φ : Fid → Fn) : Fn := runFn 5 1
  (sSeq (sAsg (eCall (φ .needs_of) (aCons (eVar 0) aNil)) (gNm 1))
  (sRet (e1 (l1 tupD) (eComp [2, 3, 4] (iSeq (eVar 0)) (gTp 3 (gsCons (gNm 2) (gsCons (gNm 3) (gsCons (gNm 4) gsNil)))) tTrue (e2 ixR (eVar 1) (eVar 2))))))
noncomputable def b_slim_sum (φ : Fid → Fn) : Fn := runFn 3 2
  (sSeq (sIf (tNo (tOf (e1 (l1 (isiD "tuple")) (eVar 0))))
  (sRet (eVar 0))
  sSkip)
  (sRet (eCall (φ .with_parts) (aCons (eVar 0) (aCons (eComp [2] (iSeq (eCall (φ .kept_parts) (aCons (eVar 0) (aCons (eVar 1) aNil)))) (gNm 2) tTrue (eCall (φ .slim_sum) (aCons (eVar 2) (aCons (eVar 1) aNil)))) aNil)))))
noncomputable def b_slim (φ : Fid → Fn) : Fn := runFn 9 1
  (sSeq (sAsg (eCall (φ .needs_of) (aCons (eVar 0) aNil)) (gNm 1))
  (sSeq (sAsg (eLstO aNil) (gNm 2))
  (sSeq (sFor (iSeq (eVar 0)) (gTp 3 (gsCons (gNm 3) (gsCons (gNm 4) (gsCons (gNm 5) gsNil))))
  (sSeq (sAsg (e1 (l1 tupD) (eComp [7, 8] (iZip2 (eVar 4) (e2 ixR (eVar 1) (eVar 3))) (gTp 2 (gsCons (gNm 7) (gsCons (gNm 8) gsNil))) (tOf (eVar 8)) (eVar 7))) (gNm 6))
  (sExpr (eAppend (eVar 2) (eN tupR (aCons (eVar 3) (aCons (eVar 6) (aCons (eCall (φ .slim_sum) (aCons (eVar 5) (aCons (eVar 1) aNil))) aNil))))))) [3, 4, 5, 6])
  (sRet (e1 (l1 tupD) (eVar 2))))))
noncomputable def b_by_places (φ : Fid → Fn) : Fn := runFn 5 3
  (sSeq (sIf (tOf (e1 (l1 (isiD "str")) (eVar 0)))
  (sRet (eN tupR (aCons (eC (.str "place")) (aCons (eIndexT (eVar 1) (eVar 0)) aNil))))
  sSkip)
  (sSeq (sAsg (e1 (l1 tupD) (eComp [4] (iSeq (eCall (φ .parts_of) (aCons (eVar 0) aNil))) (gNm 4) tTrue (eCall (φ .by_places) (aCons (eVar 4) (aCons (eVar 1) (aCons (eVar 2) aNil)))))) (gNm 3))
  (sSeq (sIf (tAn (tOf (e1 (l1 (isiD "tuple")) (eVar 0))) (tOf (e2 (l2 eqD) (e2 ixR (eVar 0) (eC (.int 0))) (eC (.str "call")))))
  (sRet (eN tupR (aCons (eC (.str "call")) (aCons (e2 ixR (eVar 2) (e2 ixR (eVar 0) (eC (.int 1)))) (aCons (eVar 3) aNil)))))
  sSkip)
  (sRet (eCall (φ .with_parts) (aCons (eVar 0) (aCons (eVar 3) aNil)))))))
noncomputable def b_refined (φ : Fid → Fn) : Fn := runFn 8 2
  (sSeq (sAsg (eLstO aNil) (gNm 2))
  (sSeq (sAsg eDicO (gNm 3))
  (sSeq (sFor (iSeq (eVar 0)) (gTp 3 (gsCons (gNm 4) (gsCons (gNm 5) (gsCons (gNm 6) gsNil))))
  (sSeq (sAsg (eN tupR (aCons (e2 ixR (eVar 1) (eVar 4)) (aCons (e1 lenR (eVar 5)) (aCons (eCall (φ .by_places) (aCons (eVar 6) (aCons (eVar 5) (aCons (eVar 1) aNil)))) aNil)))) (gNm 7))
  (sSeq (sIf (tOf (e2 notInR (eVar 7) (eVar 2)))
  (sExpr (eAppend (eVar 2) (eVar 7)))
  sSkip)
  (sDput (eVar 3) (eVar 4) (eIndexO (eVar 2) (eVar 7))))) [4, 5, 6, 7])
  (sRet (eVar 3)))))
noncomputable def b_numbers_of (φ : Fid → Fn) : Fn := runFn 4 1
  (sSeq (sAsg (e1 dicR (eComp [3] (iSeq (eVar 0)) (gNm 3) tTrue (eN tupR (aCons (e2 ixR (eVar 3) (eC (.int 0))) (aCons (eC (.int 0)) aNil))))) (gNm 1))
  (sSeq (sAsg (eCall (φ .refined) (aCons (eVar 0) (aCons (eVar 1) aNil))) (gNm 2))
  (sSeq (sWhile 100000 (tOf (e2 neKR (eVar 2) (eVar 1)))
  (sSeq (sAsg (eVar 2) (gNm 1))
  (sAsg (eCall (φ .refined) (aCons (eVar 0) (aCons (eVar 1) aNil))) (gNm 2))) [])
  (sRet (eVar 1)))))
noncomputable def b_classes (φ : Fid → Fn) : Fn := runFn 5 1
  (sSeq (sAsg (eCall (φ .numbers_of) (aCons (eVar 0) aNil)) (gNm 1))
  (sSeq (sAsg eDicO (gNm 2))
  (sSeq (sFor (iSeq (eVar 0)) (gNm 3)
  (sDput (eVar 2) (e2 ixR (eVar 1) (e2 ixR (eVar 3) (eC (.int 0)))) (e2 (l2 addD) (eGet2 (eVar 2) (e2 ixR (eVar 1) (e2 ixR (eVar 3) (eC (.int 0)))) (eN tupR aNil)) (eN tupR (aCons (e2 ixR (eVar 3) (eC (.int 0))) aNil)))) [3])
  (sRet (e1 (l1 tupD) (eComp [4] (iSeq (e1 srtK (eVar 2))) (gNm 4) tTrue (e2 ixR (eVar 2) (eVar 4))))))))
noncomputable def b_called (φ : Fid → Fn) : Fn := runFn 4 2
  (sSeq (sAsg (eComp [3] (iSeq (eCall (φ .parts_of) (aCons (eVar 0) aNil))) (gNm 3) tTrue (eCall (φ .called) (aCons (eVar 3) (aCons (eVar 1) aNil)))) (gNm 2))
  (sSeq (sIf (tAn (tOf (e1 (l1 (isiD "tuple")) (eVar 0))) (tOf (e2 (l2 eqD) (e2 ixR (eVar 0) (eC (.int 0))) (eC (.str "call")))))
  (sRet (eN tupR (aCons (eC (.str "call")) (aCons (e2 ixR (eVar 1) (e2 ixR (eVar 0) (eC (.int 1)))) (aCons (e1 (l1 tupD) (eVar 2)) aNil)))))
  sSkip)
  (sRet (eCall (φ .with_parts) (aCons (eVar 0) (aCons (eVar 2) aNil))))))
noncomputable def b_merged (φ : Fid → Fn) : Fn := runFn 6 1
  (sSeq (sAsg eDicO (gNm 1))
  (sSeq (sFor (iSeq (eCall (φ .classes) (aCons (eVar 0) aNil))) (gNm 2)
  (sFor (iSeq (eVar 2)) (gNm 3)
  (sDput (eVar 1) (eVar 3) (e2 ixR (eVar 2) (eC (.int 0)))) [3]) [2, 3])
  (sRet (e1 (l1 tupD) (eComp [3, 4, 5] (iSeq (eVar 0)) (gTp 3 (gsCons (gNm 3) (gsCons (gNm 4) (gsCons (gNm 5) gsNil)))) (tOf (e2 (l2 eqD) (e2 ixR (eVar 1) (eVar 3)) (eVar 3))) (eN tupR (aCons (eVar 3) (aCons (eVar 4) (aCons (eCall (φ .called) (aCons (eVar 5) (aCons (eVar 1) aNil))) aNil)))))))))
noncomputable def b_replaced (φ : Fid → Fn) : Fn := runFn 3 2
  (sSeq (sIf (tOf (e1 (l1 (isiD "str")) (eVar 0)))
  (sRet (e2 ixR (eVar 1) (eVar 0)))
  sSkip)
  (sRet (eCall (φ .with_parts) (aCons (eVar 0) (aCons (eComp [2] (iSeq (eCall (φ .parts_of) (aCons (eVar 0) aNil))) (gNm 2) tTrue (eCall (φ .replaced) (aCons (eVar 2) (aCons (eVar 1) aNil)))) aNil)))))
noncomputable def b_is_simple (φ : Fid → Fn) : Fn := runFn 1 1
  (sRet (eNo (e1 (l1 (isiD "tuple")) (eVar 0))))
noncomputable def b_placed (φ : Fid → Fn) : Fn := runFn 3 2
  (sSeq (sIf (tNo (tOf (e1 (l1 (isiD "tuple")) (eVar 0))))
  (sRet (eVar 0))
  sSkip)
  (sSeq (sIf (tAn (tOf (e2 (l2 eqD) (eSl (eVar 0) oNone (oSome (eC (.int 2)))) (eN tupR (aCons (eC (.str "call")) (aCons (e2 ixR (eVar 1) (eC (.int 0))) aNil))))) (tOf (e1 (l1 allD) (eComp [2] (iSeq (e2 ixR (eVar 0) (eC (.int 2)))) (gNm 2) tTrue (eCall (φ .is_simple) (aCons (eVar 2) aNil))))))
  (sRet (eCall (φ .replaced) (aCons (e2 ixR (eVar 1) (eC (.int 2))) (aCons (e1 dicR (e2 (l2 zipLD) (e2 ixR (eVar 1) (eC (.int 1))) (e2 ixR (eVar 0) (eC (.int 2))))) aNil))))
  sSkip)
  (sRet (eCall (φ .with_parts) (aCons (eVar 0) (aCons (eComp [2] (iSeq (eCall (φ .parts_of) (aCons (eVar 0) aNil))) (gNm 2) tTrue (eCall (φ .placed) (aCons (eVar 2) (aCons (eVar 1) aNil)))) aNil))))))
noncomputable def b_inlined (φ : Fid → Fn) : Fn := runFn 5 2
  (sSeq (sAsg (eCall (φ .maker_of) (aCons (eVar 0) (aCons (eVar 1) aNil))) (gNm 2))
  (sSeq (sAsg (eLstO aNil) (gNm 3))
  (sSeq (sFor (iSeq (eVar 0)) (gNm 4)
  (sIf (tOf (e2 (l2 eqD) (e2 ixR (eVar 4) (eC (.int 0))) (eVar 1)))
  (sExpr (eAppend (eVar 3) (eVar 4)))
  (sExpr (eAppend (eVar 3) (eN tupR (aCons (e2 ixR (eVar 4) (eC (.int 0))) (aCons (e2 ixR (eVar 4) (eC (.int 1))) (aCons (eCall (φ .placed) (aCons (e2 ixR (eVar 4) (eC (.int 2))) (aCons (eVar 2) aNil))) aNil))))))) [4])
  (sRet (e1 (l1 tupD) (eVar 3))))))
noncomputable def b_law_led (φ : Fid → Fn) : Fn := runFn 4 3
  (sSeq (sIf (tOf (e1 (l1 (isiD "str")) (eVar 0)))
  (sRet (e2 ixR (eVar 1) (eVar 0)))
  sSkip)
  (sSeq (sIf (tNo (tOf (e1 (l1 (isiD "tuple")) (eVar 0))))
  (sRet (eVar 0))
  sSkip)
  (sSeq (sIf (tOf (e2 (l2 eqD) (e2 ixR (eVar 0) (eC (.int 0))) (eC (.str "call"))))
  (sRet (eN tupR (aCons (eC (.str "call")) (aCons (e2 ixR (eVar 2) (e2 ixR (eVar 0) (eC (.int 1)))) (aCons (e1 (l1 tupD) (eComp [3] (iSeq (e2 ixR (eVar 0) (eC (.int 2)))) (gNm 3) tTrue (eCall (φ .law_led) (aCons (eVar 3) (aCons (eVar 1) (aCons (eVar 2) aNil)))))) aNil)))))
  sSkip)
  (sRet (e2 (l2 addD) (eSl (eVar 0) oNone (oSome (eC (.int 1)))) (e1 (l1 tupD) (eComp [3] (iSeq (eSl (eVar 0) (oSome (eC (.int 1))) oNone)) (gNm 3) tTrue (eCall (φ .law_led) (aCons (eVar 3) (aCons (eVar 1) (aCons (eVar 2) aNil)))))))))))
noncomputable def b_law_book_led (φ : Fid → Fn) : Fn := runFn 9 3
  (sSeq (sAsg (eN tupR aNil) (gNm 3))
  (sSeq (sFor (iSeq (eVar 0)) (gTp 3 (gsCons (gNm 4) (gsCons (gNm 5) (gsCons (gNm 6) gsNil))))
  (sSeq (sAsg (e1 (l1 tupD) (eComp [8] (iSeq (eVar 5)) (gNm 8) tTrue (e2 ixR (eVar 1) (eVar 8)))) (gNm 7))
  (sAsg (e2 (l2 addD) (eVar 3) (eN tupR (aCons (eN tupR (aCons (e2 ixR (eVar 2) (eVar 4)) (aCons (eVar 7) (aCons (eCall (φ .law_led) (aCons (eVar 6) (aCons (eVar 1) (aCons (eVar 2) aNil)))) aNil)))) aNil))) (gNm 3))) [4, 5, 6, 7])
  (sRet (eVar 3))))
noncomputable def b_Copier_name_of (φ : Fid → Fn) : Fn := runFn 2 2
  (sRet (e2 (l2 addD) (e2 (l2 addD) (e2 ixR (eVar 1) (eC (.int 0))) (eC (.str "."))) (e1 (l1 strD) (eIndexT (eFld "Copier" "pairs" (eVar 0)) (eVar 1)))))
noncomputable def b_Copier_put (φ : Fid → Fn) : Fn := runFn 7 2
  (sSeq (sAsg (eComp [5] (iSeq (eCall (φ .parts_of) (aCons (eVar 1) aNil))) (gNm 5) tTrue (eMeth "Copier" "put" (φ .Copier_put) (eVar 0) (aCons (eVar 5) aNil))) (gNm 2))
  (sSeq (sIf (tOr' (tNo (tOf (e1 (l1 (isiD "tuple")) (eVar 1)))) (tOf (e2 (l2 neD) (e2 ixR (eVar 1) (eC (.int 0))) (eC (.str "call")))))
  (sRet (eCall (φ .with_parts) (aCons (eVar 1) (aCons (eVar 2) aNil))))
  sSkip)
  (sSeq (sAsg (eCall (φ .masked) (aCons (eFld "Copier" "book" (eVar 0)) (aCons (e2 ixR (eVar 1) (eC (.int 1))) (aCons (eCall (φ .shape_of) (aCons (e2 ixR (eVar 1) (eC (.int 2))) aNil)) (aCons (eFld "Copier" "masks" (eVar 0)) aNil))))) (gNm 3))
  (sSeq (sAsg (e1 (l1 tupD) (eComp [5, 6] (iZip2 (eVar 2) (eVar 3)) (gTp 2 (gsCons (gNm 5) (gsCons (gNm 6) gsNil))) (tOf (e2 isR (eVar 6) (eC .none))) (eVar 5))) (gNm 4))
  (sRet (eN tupR (aCons (eC (.str "call")) (aCons (eMeth "Copier" "name_of" (φ .Copier_name_of) (eVar 0) (aCons (eN tupR (aCons (e2 ixR (eVar 1) (eC (.int 1))) (aCons (eVar 3) aNil))) aNil)) (aCons (eVar 4) aNil)))))))))
noncomputable def b_Copier_copy (φ : Fid → Fn) : Fn := runFn 7 2
  (sSeq (sAsg (eVar 1) (gTp 2 (gsCons (gNm 2) (gsCons (gNm 3) gsNil))))
  (sSeq (sAsg (e1 (l1 tupD) (eComp [5, 6] (iZip2 (e2 ixR (eCall (φ .maker_of) (aCons (eFld "Copier" "book" (eVar 0)) (aCons (eVar 2) aNil))) (eC (.int 1))) (eVar 3)) (gTp 2 (gsCons (gNm 5) (gsCons (gNm 6) gsNil))) (tOf (e2 isR (eVar 6) (eC .none))) (eVar 5))) (gNm 4))
  (sRet (eN tupR (aCons (eMeth "Copier" "name_of" (φ .Copier_name_of) (eVar 0) (aCons (eVar 1) aNil)) (aCons (eVar 4) (aCons (eMeth "Copier" "put" (φ .Copier_put) (eVar 0) (aCons (eCall (φ .folded_sum) (aCons (eFld "Copier" "book" (eVar 0)) (aCons (eVar 2) (aCons (eVar 3) aNil)))) aNil)) aNil)))))))
noncomputable def b_copied_by (φ : Fid → Fn) : Fn := runFn 8 5
  (sSeq (sAsg (eCall (φ .shapes_by) (aCons (eVar 0) (aCons (eVar 1) (aCons (eVar 2) (aCons (eVar 3) (aCons (eVar 4) aNil)))))) (gNm 5))
  (sSeq (sIf (tOf (e2 isR (eVar 5) (eC .none)))
  (sRet (eC .none))
  sSkip)
  (sSeq (sAsg (eMake "Copier" (b_Copier___init__ (fun _ _ _ => none)) (aCons (eVar 0) (aCons (eVar 3) (aCons (eVar 5) aNil)))) (gNm 6))
  (sRet (e1 (l1 tupD) (eComp [7] (iSeq (eVar 5)) (gNm 7) tTrue (eMeth "Copier" "copy" (φ .Copier_copy) (eVar 6) (aCons (eVar 7) aNil))))))))
noncomputable def b_copied (φ : Fid → Fn) : Fn := runFn 4 4
  (sRet (eCall (φ .copied_by) (aCons (eVar 0) (aCons (eVar 1) (aCons (eVar 2) (aCons (eCall (φ .all_true) (aCons (eVar 0) aNil)) (aCons (eVar 3) aNil)))))))
noncomputable def b_law_drawn_masks (φ : Fid → Fn) : Fn := runFn 7 2
  (sSeq (sAsg (eN tupR aNil) (gNm 2))
  (sSeq (sFor (iEnum' (eVar 0)) (gTp 2 (gsCons (gNm 3) (gsCons (gNm 4) gsNil)))
  (sSeq (sAsg (eComp [6] (iRange1 (e1 lenR (e2 ixR (eVar 4) (eC (.int 1))))) (gNm 6) tTrue (e2 (l2 gtD) (e2 (l2 modD) (e2 (l2 fdivD) (eCall (φ .law_drawn) (aCons (eVar 1) (aCons (e2 (l2 addD) (e2 (l2 mulD) (eC (.int 9)) (eVar 3)) (eVar 6)) aNil))) (eC (.int 4))) (eC (.int 3))) (eC (.int 0)))) (gNm 5))
  (sAsg (e2 (l2 addD) (eVar 2) (eN tupR (aCons (e1 (l1 tupD) (eVar 5)) aNil))) (gNm 2))) [3, 4, 5])
  (sRet (eVar 2))))
noncomputable def b_law_named (φ : Fid → Fn) : Fn := runFn 2 2
  (sRet (e2 (l2 addD) (e2 (l2 addD) (e2 ixR (eVar 1) (eC (.int 0))) (eC (.str "."))) (e1 (l1 strD) (eIndexT (eVar 0) (eVar 1)))))
noncomputable def b_law_put (φ : Fid → Fn) : Fn := runFn 9 4
  (sSeq (sIf (tNo (tOf (e1 (l1 (isiD "tuple")) (eVar 1))))
  (sRet (eVar 1))
  sSkip)
  (sSeq (sIf (tOf (e2 (l2 neD) (e2 ixR (eVar 1) (eC (.int 0))) (eC (.str "call"))))
  (sRet (e2 (l2 addD) (eSl (eVar 1) oNone (oSome (eC (.int 1)))) (e1 (l1 tupD) (eComp [7] (iSeq (eSl (eVar 1) (oSome (eC (.int 1))) oNone)) (gNm 7) tTrue (eCall (φ .law_put) (aCons (eVar 0) (aCons (eVar 7) (aCons (eVar 2) (aCons (eVar 3) aNil)))))))))
  sSkip)
  (sSeq (sAsg (e1 (l1 tupD) (eComp [7] (iSeq (e2 ixR (eVar 1) (eC (.int 2)))) (gNm 7) tTrue (e2 ixR (eN lstR (aCons (eC .none) (aCons (eVar 7) aNil))) (e1 (l1 intD) (e1 (l1 (isiD "int")) (eVar 7)))))) (gNm 4))
  (sSeq (sAsg (eCall (φ .law_masked) (aCons (eVar 0) (aCons (eN tupR (aCons (e2 ixR (eVar 1) (eC (.int 1))) (aCons (eVar 4) aNil))) (aCons (eVar 2) aNil)))) (gNm 5))
  (sSeq (sAsg (eN tupR aNil) (gNm 6))
  (sSeq (sFor (iZip2 (e2 ixR (eVar 1) (eC (.int 2))) (e2 ixR (eVar 5) (eC (.int 1)))) (gTp 2 (gsCons (gNm 7) (gsCons (gNm 8) gsNil)))
  (sIf (tOf (e2 isR (eVar 8) (eC .none)))
  (sAsg (e2 (l2 addD) (eVar 6) (eN tupR (aCons (eCall (φ .law_put) (aCons (eVar 0) (aCons (eVar 7) (aCons (eVar 2) (aCons (eVar 3) aNil))))) aNil))) (gNm 6))
  sSkip) [7, 8])
  (sRet (eN tupR (aCons (eC (.str "call")) (aCons (eCall (φ .law_named) (aCons (eVar 3) (aCons (eVar 5) aNil))) (aCons (eVar 6) aNil)))))))))))
noncomputable def b_law_copied (φ : Fid → Fn) : Fn := runFn 13 4
  (sSeq (sAsg (eCall (φ .law_shapes) (aCons (eVar 0) (aCons (eVar 1) (aCons (eVar 2) (aCons (eVar 3) aNil))))) (gNm 4))
  (sSeq (sIf (tOf (e2 isR (eVar 4) (eC .none)))
  (sRet (eC .none))
  sSkip)
  (sSeq (sAsg (eN tupR aNil) (gNm 5))
  (sSeq (sFor (iSeq (eVar 4)) (gNm 6)
  (sSeq (sAsg (e2 ixR (e2 ixR (eComp [12] (iSeq (eVar 0)) (gNm 12) (tOf (e2 (l2 eqD) (e2 ixR (eVar 12) (eC (.int 0))) (e2 ixR (eVar 6) (eC (.int 0))))) (eVar 12)) (eC (.int 0))) (eC (.int 1))) (gNm 7))
  (sSeq (sAsg (e1 (l1 tupD) (eComp [10, 11] (iZip2 (eVar 7) (e2 ixR (eVar 6) (eC (.int 1)))) (gTp 2 (gsCons (gNm 10) (gsCons (gNm 11) gsNil))) (tOf (e2 isR (eVar 11) (eC .none))) (eVar 10))) (gNm 8))
  (sSeq (sAsg (eCall (φ .law_put) (aCons (eVar 0) (aCons (eCall (φ .law_folded) (aCons (eVar 0) (aCons (e2 ixR (eVar 6) (eC (.int 0))) (aCons (e2 ixR (eVar 6) (eC (.int 1))) aNil)))) (aCons (eVar 2) (aCons (eVar 4) aNil))))) (gNm 9))
  (sAsg (e2 (l2 addD) (eVar 5) (eN tupR (aCons (eN tupR (aCons (eCall (φ .law_named) (aCons (eVar 4) (aCons (eVar 6) aNil))) (aCons (eVar 8) (aCons (eVar 9) aNil)))) aNil))) (gNm 5))))) [6, 7, 8, 9])
  (sRet (eVar 5))))))
noncomputable def b_law_k40 (φ : Fid → Fn) : Fn := runFn 10 1
  (sSeq (sAsg (eCall (φ .law_book) (aCons (eCall (φ .law_mixed) (aCons (eVar 0) (aCons (eC (.int 0)) aNil))) aNil)) (gNm 1))
  (sSeq (sAsg (eCall (φ .law_mixed) (aCons (eVar 0) (aCons (eC (.int 1)) aNil))) (gNm 2))
  (sSeq (sAsg (e2 ixR (eVar 1) (e2 (l2 modD) (eVar 2) (e1 lenR (eVar 1)))) (gNm 3))
  (sSeq (sAsg (eCall (φ .law_drawn_shape) (aCons (eVar 3) (aCons (eCall (φ .law_mixed) (aCons (eVar 0) (aCons (eC (.int 2)) aNil))) aNil))) (gNm 4))
  (sSeq (sAsg (e2 (l2 addD) (eC (.int 1)) (e2 (l2 modD) (e2 (l2 fdivD) (eVar 2) (eC (.int 16))) (eC (.int 20)))) (gNm 5))
  (sSeq (sAsg (eN tupR (aCons (e2 ixR (eVar 3) (eC (.int 0))) (aCons (eVar 4) aNil))) (gNm 6))
  (sSeq (sAsg (e1 (l1 tupD) (eComp [9] (iSeq (eVar 1)) (gNm 9) tTrue (e2 (l2 tmulD) (eN tupR (aCons (eC (.bool true)) aNil)) (e1 lenR (e2 ixR (eVar 9) (eC (.int 1))))))) (gNm 7))
  (sSeq (sIf (tOf (e2 (l2 neD) (eCall (φ .copied) (aCons (eVar 1) (aCons (e2 ixR (eVar 3) (eC (.int 0))) (aCons (eVar 4) (aCons (eVar 5) aNil))))) (eCall (φ .law_copied) (aCons (eVar 1) (aCons (eVar 6) (aCons (eVar 7) (aCons (eVar 5) aNil)))))))
  (sRet (eC (.bool false)))
  sSkip)
  (sSeq (sAsg (eCall (φ .law_drawn_masks) (aCons (eVar 1) (aCons (eCall (φ .law_mixed) (aCons (eVar 0) (aCons (eC (.int 3)) aNil))) aNil))) (gNm 8))
  (sRet (e2 (l2 eqD) (eCall (φ .copied_by) (aCons (eVar 1) (aCons (e2 ixR (eVar 3) (eC (.int 0))) (aCons (eVar 4) (aCons (eVar 8) (aCons (eVar 5) aNil)))))) (eCall (φ .law_copied) (aCons (eVar 1) (aCons (eVar 6) (aCons (eVar 8) (aCons (eVar 5) aNil))))))))))))))))
noncomputable def b_law_left (φ : Fid → Fn) : Fn := runFn 4 2
  (sRet (e1 (l1 tupD) (eComp [2, 3] (iZip2 (eVar 0) (eVar 1)) (gTp 2 (gsCons (gNm 2) (gsCons (gNm 3) gsNil))) (tOf (e2 isR (eVar 3) (eC .none))) (eVar 2))))
noncomputable def b_law_k41 (φ : Fid → Fn) : Fn := runFn 15 1
  (sSeq (sAsg (eCall (φ .law_book) (aCons (eCall (φ .law_mixed) (aCons (eVar 0) (aCons (eC (.int 0)) aNil))) aNil)) (gNm 1))
  (sSeq (sAsg (eCall (φ .law_mixed) (aCons (eVar 0) (aCons (eC (.int 1)) aNil))) (gNm 2))
  (sSeq (sAsg (e2 ixR (eVar 1) (e2 (l2 modD) (eVar 2) (e1 lenR (eVar 1)))) (gNm 3))
  (sSeq (sAsg (eCall (φ .law_worths) (aCons (eCall (φ .law_mixed) (aCons (eVar 0) (aCons (eC (.int 2)) aNil))) (aCons (e1 lenR (e2 ixR (eVar 3) (eC (.int 1)))) aNil))) (gNm 4))
  (sSeq (sAsg (e1 (l1 tupD) (eComp [11, 12] (iEnum' (eVar 4)) (gTp 2 (gsCons (gNm 11) (gsCons (gNm 12) gsNil))) tTrue (e2 ixR (eN lstR (aCons (eC .none) (aCons (eVar 12) aNil))) (e2 (l2 modD) (e2 (l2 fdivD) (eCall (φ .law_drawn) (aCons (eVar 2) (aCons (eVar 11) aNil))) (eC (.int 4))) (eC (.int 2)))))) (gNm 5))
  (sSeq (sAsg (eCall (φ .law_go) (aCons (eVar 1) (aCons (e2 ixR (eVar 3) (eC (.int 0))) (aCons (eVar 4) (aCons (eC (.int 40)) aNil))))) (gNm 6))
  (sSeq (sAsg (eCall (φ .copied) (aCons (eVar 1) (aCons (e2 ixR (eVar 3) (eC (.int 0))) (aCons (eVar 5) (aCons (eC (.int 30)) aNil))))) (gNm 7))
  (sSeq (sIf (tAn (tOf (e2 isNotR (eVar 7) (eC .none))) (tOf (e2 (l2 neD) (eCall (φ .go) (aCons (eVar 7) (aCons (e2 ixR (e2 ixR (eVar 7) (eC (.int 0))) (eC (.int 0))) (aCons (eCall (φ .law_left) (aCons (eVar 4) (aCons (eVar 5) aNil))) (aCons (eC (.int 40)) aNil))))) (eVar 6))))
  (sRet (eC (.bool false)))
  sSkip)
  (sSeq (sAsg (eCall (φ .law_drawn_masks) (aCons (eVar 1) (aCons (eCall (φ .law_mixed) (aCons (eVar 0) (aCons (eC (.int 3)) aNil))) aNil))) (gNm 8))
  (sSeq (sAsg (eCall (φ .copied_by) (aCons (eVar 1) (aCons (e2 ixR (eVar 3) (eC (.int 0))) (aCons (eVar 5) (aCons (eVar 8) (aCons (eC (.int 30)) aNil)))))) (gNm 7))
  (sSeq (sAsg (e2 ixR (eVar 8) (e2 (l2 modD) (eVar 2) (e1 lenR (eVar 1)))) (gNm 9))
  (sSeq (sAsg (e1 (l1 tupD) (eComp [13, 14] (iZip2 (eVar 5) (eVar 9)) (gTp 2 (gsCons (gNm 13) (gsCons (gNm 14) gsNil))) tTrue (e2 ixR (eN lstR (aCons (eC .none) (aCons (eVar 13) aNil))) (e1 (l1 intD) (eVar 14))))) (gNm 10))
  (sRet (eOr (e2 isR (eVar 7) (eC .none)) (e2 (l2 eqD) (eCall (φ .go) (aCons (eVar 7) (aCons (e2 ixR (e2 ixR (eVar 7) (eC (.int 0))) (eC (.int 0))) (aCons (eCall (φ .law_left) (aCons (eVar 4) (aCons (eVar 10) aNil))) (aCons (eC (.int 40)) aNil))))) (eVar 6))))))))))))))))
noncomputable def b_law_good (φ : Fid → Fn) : Fn := runFn 3 2
  (sSeq (sIf (tNo (tOf (e1 (l1 (isiD "tuple")) (eVar 0))))
  (sRet (eC (.bool true)))
  sSkip)
  (sSeq (sIf (tOf (e2 (l2 neD) (e2 ixR (eVar 0) (eC (.int 0))) (eC (.str "call"))))
  (sRet (e2 (l2 eqD) (eComp [2] (iSeq (eSl (eVar 0) (oSome (eC (.int 1))) oNone)) (gNm 2) (tNo (tOf (eCall (φ .law_good) (aCons (eVar 2) (aCons (eVar 1) aNil))))) (eVar 2)) (eN lstR aNil)))
  sSkip)
  (sSeq (sIf (tOr' (tOf (e2 notInR (e2 ixR (eVar 0) (eC (.int 1))) (eVar 1))) (tOf (e2 (l2 neD) (e2 ixR (eVar 1) (e2 ixR (eVar 0) (eC (.int 1)))) (e1 lenR (e2 ixR (eVar 0) (eC (.int 2)))))))
  (sRet (eC (.bool false)))
  sSkip)
  (sSeq (sIf (tOf (e2 (l2 neD) (eComp [2] (iSeq (e2 ixR (eVar 0) (eC (.int 2)))) (gNm 2) (tOf (e1 (l1 (isiD "int")) (eVar 2))) (eVar 2)) (eN lstR aNil)))
  (sRet (eC (.bool false)))
  sSkip)
  (sRet (e2 (l2 eqD) (eComp [2] (iSeq (e2 ixR (eVar 0) (eC (.int 2)))) (gNm 2) (tNo (tOf (eCall (φ .law_good) (aCons (eVar 2) (aCons (eVar 1) aNil))))) (eVar 2)) (eN lstR aNil)))))))
noncomputable def b_law_k42 (φ : Fid → Fn) : Fn := runFn 14 1
  (sSeq (sAsg (eCall (φ .law_book) (aCons (eCall (φ .law_mixed) (aCons (eVar 0) (aCons (eC (.int 0)) aNil))) aNil)) (gNm 1))
  (sSeq (sAsg (eCall (φ .law_mixed) (aCons (eVar 0) (aCons (eC (.int 1)) aNil))) (gNm 2))
  (sSeq (sAsg (e2 ixR (eVar 1) (e2 (l2 modD) (eVar 2) (e1 lenR (eVar 1)))) (gNm 3))
  (sSeq (sAsg (eCall (φ .law_drawn_shape) (aCons (eVar 3) (aCons (eCall (φ .law_mixed) (aCons (eVar 0) (aCons (eC (.int 2)) aNil))) aNil))) (gNm 4))
  (sSeq (sAsg (eCall (φ .copied) (aCons (eVar 1) (aCons (e2 ixR (eVar 3) (eC (.int 0))) (aCons (eVar 4) (aCons (eC (.int 20)) aNil))))) (gNm 5))
  (sSeq (sIf (tOf (e2 isNotR (eVar 5) (eC .none)))
  (sSeq (sAsg (e1 dicR (eComp [13] (iSeq (eVar 5)) (gNm 13) tTrue (eN tupR (aCons (e2 ixR (eVar 13) (eC (.int 0))) (aCons (e1 lenR (e2 ixR (eVar 13) (eC (.int 1)))) aNil))))) (gNm 6))
  (sSeq (sIf (tOr' (tOf (e2 (l2 neD) (e1 lenR (eVar 6)) (e1 lenR (eVar 5)))) (tOf (e2 (l2 neD) (e1 lenR (eVar 5)) (e1 lenR (eCall (φ .shapes) (aCons (eVar 1) (aCons (e2 ixR (eVar 3) (eC (.int 0))) (aCons (eVar 4) (aCons (eC (.int 20)) aNil)))))))))
  (sRet (eC (.bool false)))
  sSkip)
  (sSeq (sFor (iSeq (eVar 5)) (gTp 3 (gsCons (gNm 7) (gsCons (gNm 8) (gsCons (gNm 9) gsNil))))
  (sIf (tOr' (tNo (tOf (eCall (φ .law_good) (aCons (eVar 9) (aCons (eVar 6) aNil))))) (tNo (tOf (eCall (φ .is_folded) (aCons (eVar 9) aNil)))))
  (sRet (eC (.bool false)))
  sSkip) [7, 8, 9])
  (sSeq (sAsg (eCall (φ .copied) (aCons (eVar 5) (aCons (e2 ixR (e2 ixR (eVar 5) (eC (.int 0))) (eC (.int 0))) (aCons (e2 (l2 tmulD) (eN tupR (aCons (eC .none) aNil)) (e1 lenR (e2 ixR (e2 ixR (eVar 5) (eC (.int 0))) (eC (.int 1))))) (aCons (eC (.int 20)) aNil))))) (gNm 10))
  (sIf (tOr' (tOf (e2 isR (eVar 10) (eC .none))) (tOf (e2 (l2 neD) (eComp [13] (iSeq (eVar 10)) (gNm 13) tTrue (e2 ixR (eVar 13) (eC (.int 1)))) (eComp [13] (iSeq (eVar 5)) (gNm 13) tTrue (e2 ixR (eVar 13) (eC (.int 1)))))))
  (sRet (eC (.bool false)))
  sSkip)))))
  sSkip)
  (sSeq (sAsg (e1 (l1 tupD) (eComp [13] (iSeq (eVar 1)) (gNm 13) tTrue (e2 (l2 tmulD) (eN tupR (aCons (eC (.bool false)) aNil)) (e1 lenR (e2 ixR (eVar 13) (eC (.int 1))))))) (gNm 11))
  (sSeq (sAsg (eCall (φ .copied_by) (aCons (eVar 1) (aCons (e2 ixR (eVar 3) (eC (.int 0))) (aCons (eVar 4) (aCons (eVar 11) (aCons (e1 lenR (eVar 1)) aNil)))))) (gNm 12))
  (sRet (eAn (e2 isNotR (eVar 12) (eC .none)) (e2 (l2 eqD) (e2 ixR (e2 ixR (eVar 12) (eC (.int 0))) (eC (.int 1))) (e2 ixR (eVar 3) (eC (.int 1))))))))))))))
noncomputable def b_law_k50 (φ : Fid → Fn) : Fn := runFn 18 1
  (sSeq (sAsg (eCall (φ .law_book) (aCons (eCall (φ .law_mixed) (aCons (eVar 0) (aCons (eC (.int 0)) aNil))) aNil)) (gNm 1))
  (sSeq (sAsg (eCall (φ .law_mixed) (aCons (eVar 0) (aCons (eC (.int 1)) aNil))) (gNm 2))
  (sSeq (sAsg (e2 ixR (eVar 1) (e2 (l2 modD) (eVar 2) (e1 lenR (eVar 1)))) (gNm 3))
  (sSeq (sAsg (eCall (φ .law_drawn_shape) (aCons (eVar 3) (aCons (eCall (φ .law_mixed) (aCons (eVar 0) (aCons (eC (.int 2)) aNil))) aNil))) (gNm 4))
  (sSeq (sAsg (e2 (l2 addD) (eC (.int 1)) (e2 (l2 modD) (e2 (l2 fdivD) (eVar 2) (eC (.int 16))) (eC (.int 20)))) (gNm 5))
  (sSeq (sAsg (e1 (l1 tupD) (eComp [14] (iSeq (eVar 1)) (gNm 14) tTrue (e2 (l2 tmulD) (eN tupR (aCons (eC (.bool true)) aNil)) (e1 lenR (e2 ixR (eVar 14) (eC (.int 1))))))) (gNm 6))
  (sSeq (sIf (tOf (e2 (l2 neD) (eCall (φ .shapes_by) (aCons (eVar 1) (aCons (e2 ixR (eVar 3) (eC (.int 0))) (aCons (eVar 4) (aCons (eVar 6) (aCons (eVar 5) aNil)))))) (eCall (φ .shapes) (aCons (eVar 1) (aCons (e2 ixR (eVar 3) (eC (.int 0))) (aCons (eVar 4) (aCons (eVar 5) aNil)))))))
  (sRet (eC (.bool false)))
  sSkip)
  (sSeq (sIf (tOf (e2 (l2 neD) (eCall (φ .copied_by) (aCons (eVar 1) (aCons (e2 ixR (eVar 3) (eC (.int 0))) (aCons (eVar 4) (aCons (eVar 6) (aCons (eVar 5) aNil)))))) (eCall (φ .copied) (aCons (eVar 1) (aCons (e2 ixR (eVar 3) (eC (.int 0))) (aCons (eVar 4) (aCons (eVar 5) aNil)))))))
  (sRet (eC (.bool false)))
  sSkip)
  (sSeq (sAsg (eCall (φ .law_drawn_masks) (aCons (eVar 1) (aCons (eCall (φ .law_mixed) (aCons (eVar 0) (aCons (eC (.int 3)) aNil))) aNil))) (gNm 7))
  (sSeq (sAsg (e1 dicR (eComp [14, 15] (iZip2 (eVar 1) (eVar 7)) (gTp 2 (gsCons (gNm 14) (gsCons (gNm 15) gsNil))) tTrue (eN tupR (aCons (e2 ixR (eVar 14) (eC (.int 0))) (aCons (eVar 15) aNil))))) (gNm 8))
  (sSeq (sAsg (eCall (φ .shapes_by) (aCons (eVar 1) (aCons (e2 ixR (eVar 3) (eC (.int 0))) (aCons (eVar 4) (aCons (eVar 7) (aCons (eVar 5) aNil)))))) (gNm 9))
  (sSeq (sIf (tOf (e2 isNotR (eVar 9) (eC .none)))
  (sSeq (sFor (iSeq (eVar 9)) (gTp 2 (gsCons (gNm 10) (gsCons (gNm 11) gsNil)))
  (sIf (tOf (e2 (l2 neD) (eComp [16, 17] (iZip2 (eVar 11) (e2 ixR (eVar 8) (eVar 10))) (gTp 2 (gsCons (gNm 16) (gsCons (gNm 17) gsNil))) (tAn (tOf (e2 isNotR (eVar 16) (eC .none))) (tNo (tOf (eVar 17)))) (eC (.int 1))) (eN lstR aNil)))
  (sRet (eC (.bool false)))
  sSkip) [10, 11])
  (sSeq (sAsg (eCall (φ .copied_by) (aCons (eVar 1) (aCons (e2 ixR (eVar 3) (eC (.int 0))) (aCons (eVar 4) (aCons (eVar 7) (aCons (eVar 5) aNil)))))) (gNm 12))
  (sIf (tOf (e2 (l2 neD) (eComp [14] (iSeq (eVar 12)) (gNm 14) tTrue (e1 lenR (e2 ixR (eVar 14) (eC (.int 1))))) (eComp [10, 11] (iSeq (eVar 9)) (gTp 2 (gsCons (gNm 10) (gsCons (gNm 11) gsNil))) tTrue (eCount (eVar 11) (eC .none)))))
  (sRet (eC (.bool false)))
  sSkip)))
  sSkip)
  (sSeq (sAsg (e1 (l1 tupD) (eComp [14] (iSeq (eVar 1)) (gNm 14) tTrue (e2 (l2 tmulD) (eN tupR (aCons (eC (.bool false)) aNil)) (e1 lenR (e2 ixR (eVar 14) (eC (.int 1))))))) (gNm 13))
  (sSeq (sAsg (eCall (φ .shapes_by) (aCons (eVar 1) (aCons (e2 ixR (eVar 3) (eC (.int 0))) (aCons (eVar 4) (aCons (eVar 13) (aCons (eC (.int 4)) aNil)))))) (gNm 9))
  (sRet (eAn (e2 isNotR (eVar 9) (eC .none)) (e2 (l2 eqD) (eComp [10, 11] (iSeq (eVar 9)) (gTp 2 (gsCons (gNm 10) (gsCons (gNm 11) gsNil))) (tOf (e2 (l2 ltD) (eCount (eVar 11) (eC .none)) (e1 lenR (eVar 11)))) (eC (.int 1))) (eN lstR aNil))))))))))))))))))
noncomputable def b_all_masks (φ : Fid → Fn) : Fn := runFn 8 1
  (sSeq (sAsg (eN lstR (aCons (eN tupR aNil) aNil)) (gNm 1))
  (sSeq (sFor (iSeq (eVar 0)) (gNm 2)
  (sSeq (sAsg (eN lstR (aCons (eN tupR aNil) aNil)) (gNm 3))
  (sSeq (sFor (iRange1 (eVar 2)) (gNm 4)
  (sSeq (sAsg (eLstO aNil) (gNm 5))
  (sSeq (sFor (iSeq (eVar 3)) (gNm 6)
  (sExpr (eExtend (eVar 5) (eN lstR (aCons (e2 (l2 addD) (eVar 6) (eN tupR (aCons (eC (.bool true)) aNil))) (aCons (e2 (l2 addD) (eVar 6) (eN tupR (aCons (eC (.bool false)) aNil))) aNil))))) [6])
  (sAsg (eVar 5) (gNm 3)))) [4, 5, 6])
  (sSeq (sAsg (eLstO aNil) (gNm 5))
  (sSeq (sFor (iSeq (eVar 1)) (gNm 7)
  (sExpr (eExtend (eVar 5) (eComp [6] (iSeq (eVar 3)) (gNm 6) tTrue (e2 (l2 addD) (eVar 7) (eN tupR (aCons (eVar 6) aNil)))))) [7])
  (sAsg (eVar 5) (gNm 1)))))) [2, 3, 4, 5, 6, 7])
  (sRet (eVar 1))))
noncomputable def b_truths_in (φ : Fid → Fn) : Fn := runFn 2 1
  (sRet (e1 (l1 sumD) (eComp [1] (iSeq (eVar 0)) (gNm 1) tTrue (eCount (eVar 1) (eC (.bool true))))))
noncomputable def b_best_masks (φ : Fid → Fn) : Fn := runFn 8 4
  (sSeq (sAsg (eComp [6] (iSeq (eCall (φ .all_masks) (aCons (eComp [7] (iSeq (eVar 0)) (gNm 7) tTrue (e1 lenR (e2 ixR (eVar 7) (eC (.int 1))))) aNil))) (gNm 6) tTrue (eN tupR (aCons (e2 (l2 subD) (eC (.int 0)) (eCall (φ .truths_in) (aCons (eVar 6) aNil))) (aCons (eVar 6) aNil)))) (gNm 4))
  (sSeq (sFor (iSeq (e1 (l1 srtD) (eVar 4))) (gTp 2 (gsCons (gNm 5) (gsCons (gNm 6) gsNil)))
  (sIf (tOf (e2 isNotR (eCall (φ .shapes_by) (aCons (eVar 0) (aCons (eVar 1) (aCons (eVar 2) (aCons (eVar 6) (aCons (eVar 3) aNil)))))) (eC .none)))
  (sRet (eVar 6))
  sSkip) [5, 6])
  (sRet (eC .none))))
noncomputable def b_law_all (φ : Fid → Fn) : Fn := runFn 8 1
  (sSeq (sAsg (eN lstR (aCons (eN tupR aNil) aNil)) (gNm 1))
  (sSeq (sFor (iSeq (eVar 0)) (gNm 2)
  (sFor (iRange1 (eVar 2)) (gNm 3)
  (sSeq (sAsg (eN lstR aNil) (gNm 4))
  (sSeq (sFor (iSeq (eVar 1)) (gNm 5)
  (sAsg (e2 (l2 addD) (eVar 4) (eN lstR (aCons (e2 (l2 addD) (eVar 5) (eN tupR (aCons (eC (.bool true)) aNil))) (aCons (e2 (l2 addD) (eVar 5) (eN tupR (aCons (eC (.bool false)) aNil))) aNil)))) (gNm 4)) [5])
  (sAsg (eVar 4) (gNm 1)))) [3, 4, 5]) [2, 3, 4, 5])
  (sSeq (sAsg (eLstO aNil) (gNm 6))
  (sSeq (sFor (iSeq (eVar 1)) (gNm 5)
  (sSeq (sAsg (eN tupR aNil) (gNm 7))
  (sSeq (sFor (iSeq (eVar 0)) (gNm 2)
  (sSeq (sAsg (e2 (l2 addD) (eVar 7) (eN tupR (aCons (eSl (eVar 5) oNone (oSome (eVar 2))) aNil))) (gNm 7))
  (sAsg (eSl (eVar 5) (oSome (eVar 2)) oNone) (gNm 5))) [2])
  (sExpr (eAppend (eVar 6) (eVar 7))))) [5, 7, 2])
  (sRet (eVar 6))))))
noncomputable def b_law_once_k51 (φ : Fid → Fn) : Fn := runFn 13 1
  (sSeq (sAsg (eCall (φ .law_book) (aCons (eCall (φ .law_mixed) (aCons (eVar 0) (aCons (eC (.int 0)) aNil))) aNil)) (gNm 1))
  (sSeq (sAsg (eCall (φ .law_mixed) (aCons (eVar 0) (aCons (eC (.int 1)) aNil))) (gNm 2))
  (sSeq (sAsg (e2 ixR (eVar 1) (e2 (l2 modD) (eVar 2) (e1 lenR (eVar 1)))) (gNm 3))
  (sSeq (sAsg (eCall (φ .law_drawn_shape) (aCons (eVar 3) (aCons (eCall (φ .law_mixed) (aCons (eVar 0) (aCons (eC (.int 2)) aNil))) aNil))) (gNm 4))
  (sSeq (sAsg (eComp [11] (iSeq (eVar 1)) (gNm 11) tTrue (e1 lenR (e2 ixR (eVar 11) (eC (.int 1))))) (gNm 5))
  (sSeq (sIf (tOf (e2 (l2 gtD) (e1 (l1 sumD) (eVar 5)) (eC (.int 6))))
  (sRet (eC (.bool true)))
  sSkip)
  (sSeq (sAsg (e2 (l2 addD) (eC (.int 1)) (e2 (l2 modD) (e2 (l2 fdivD) (eVar 2) (eC (.int 16))) (eC (.int 8)))) (gNm 6))
  (sSeq (sAsg (e1 (l1 negD) (eC (.int 1))) (gNm 7))
  (sSeq (sFor (iSeq (eCall (φ .law_all) (aCons (eVar 5) aNil))) (gNm 8)
  (sSeq (sAsg (e1 (l1 sumD) (eComp [12] (iSeq (eVar 8)) (gNm 12) tTrue (eCount (eVar 12) (eC (.bool true))))) (gNm 9))
  (sIf (tAn (tOf (e2 (l2 gtD) (eVar 9) (eVar 7))) (tOf (e2 isNotR (eCall (φ .law_shapes) (aCons (eVar 1) (aCons (eN tupR (aCons (e2 ixR (eVar 3) (eC (.int 0))) (aCons (eVar 4) aNil))) (aCons (eVar 8) (aCons (eVar 6) aNil))))) (eC .none))))
  (sAsg (eVar 9) (gNm 7))
  sSkip)) [8, 9])
  (sSeq (sAsg (eCall (φ .best_masks) (aCons (eVar 1) (aCons (e2 ixR (eVar 3) (eC (.int 0))) (aCons (eVar 4) (aCons (eVar 6) aNil))))) (gNm 10))
  (sSeq (sIf (tOr' (tOf (e2 (l2 ltD) (eVar 7) (eC (.int 0)))) (tOf (e2 isR (eVar 10) (eC .none))))
  (sRet (eAn (e2 (l2 ltD) (eVar 7) (eC (.int 0))) (e2 isR (eVar 10) (eC .none))))
  sSkip)
  (sSeq (sIf (tOr' (tOf (e2 notInR (eVar 10) (eCall (φ .law_all) (aCons (eVar 5) aNil)))) (tOf (e2 isR (eCall (φ .law_shapes) (aCons (eVar 1) (aCons (eN tupR (aCons (e2 ixR (eVar 3) (eC (.int 0))) (aCons (eVar 4) aNil))) (aCons (eVar 10) (aCons (eVar 6) aNil))))) (eC .none))))
  (sRet (eC (.bool false)))
  sSkip)
  (sRet (e2 (l2 eqD) (e1 (l1 sumD) (eComp [12] (iSeq (eVar 10)) (gNm 12) tTrue (eCount (eVar 12) (eC (.bool true))))) (eVar 7)))))))))))))))
noncomputable def b_law_k51 (φ : Fid → Fn) : Fn := runFn 2 1
  (sRet (eAn (eCall (φ .law_once_k51) (aCons (eVar 0) aNil)) (eCall (φ .law_once_k51) (aCons (eComp [1] (iSeq (eRevS (eVar 0))) (gNm 1) tTrue (e2 (l2 addD) (eVar 1) (eC (.int 1)))) aNil))))
noncomputable def b_law_seen (φ : Fid → Fn) : Fn := runFn 6 2
  (sSeq (sIf (tOf (e1 (l1 (isiD "str")) (eVar 0)))
  (sRet (eDisp (pCons (eVar 0) (eC (.bool true)) pNil)))
  sSkip)
  (sSeq (sAsg eDicO (gNm 2))
  (sSeq (sIf (tOf (e1 (l1 (isiD "tuple")) (eVar 0)))
  (sSeq (sAsg (e1 (l1 listD) (eSl (eVar 0) (oSome (eC (.int 1))) oNone)) (gNm 3))
  (sSeq (sIf (tOf (e2 (l2 eqD) (e2 ixR (eVar 0) (eC (.int 0))) (eC (.str "call"))))
  (sAsg (eComp [4, 5] (iZip2 (e2 ixR (eVar 0) (eC (.int 2))) (e2 ixR (eVar 1) (e2 ixR (eVar 0) (eC (.int 1))))) (gTp 2 (gsCons (gNm 4) (gsCons (gNm 5) gsNil))) (tOf (eVar 5)) (eVar 4)) (gNm 3))
  sSkip)
  (sFor (iSeq (eVar 3)) (gNm 4)
  (sExpr (eUpdate (eVar 2) (eCall (φ .law_seen) (aCons (eVar 4) (aCons (eVar 1) aNil))))) [4])))
  sSkip)
  (sRet (eVar 2)))))
noncomputable def b_law_needed (φ : Fid → Fn) : Fn := runFn 8 1
  (sSeq (sAsg (eDicS (eComp [3, 4, 5] (iSeq (eVar 0)) (gTp 3 (gsCons (gNm 3) (gsCons (gNm 4) (gsCons (gNm 5) gsNil)))) tTrue (eN tupR (aCons (eVar 3) (aCons (e2 (l2 tmulD) (eN tupR (aCons (eC (.bool false)) aNil)) (e1 lenR (eVar 4))) aNil))))) (gNm 1))
  (sSeq (sFor (iRange1 (eC (.int 14))) (gNm 2)
  (sFor (iSeq (eVar 0)) (gTp 3 (gsCons (gNm 3) (gsCons (gNm 4) (gsCons (gNm 5) gsNil))))
  (sSeq (sAsg (eCall (φ .law_seen) (aCons (eVar 5) (aCons (eVar 1) aNil))) (gNm 6))
  (sDput (eVar 1) (eVar 3) (e1 (l1 tupD) (eComp [7] (iSeq (eVar 4)) (gNm 7) tTrue (e2 inR (eVar 7) (eVar 6)))))) [3, 4, 5, 6]) [2, 3, 4, 5, 6])
  (sRet (eVar 1))))
noncomputable def b_law_slim (φ : Fid → Fn) : Fn := runFn 5 2
  (sSeq (sIf (tNo (tOf (e1 (l1 (isiD "tuple")) (eVar 0))))
  (sRet (eVar 0))
  sSkip)
  (sSeq (sIf (tOf (e2 (l2 eqD) (e2 ixR (eVar 0) (eC (.int 0))) (eC (.str "call"))))
  (sSeq (sAsg (eComp [3, 4] (iZip2 (e2 ixR (eVar 0) (eC (.int 2))) (e2 ixR (eVar 1) (e2 ixR (eVar 0) (eC (.int 1))))) (gTp 2 (gsCons (gNm 3) (gsCons (gNm 4) gsNil))) (tOf (eVar 4)) (eCall (φ .law_slim) (aCons (eVar 3) (aCons (eVar 1) aNil)))) (gNm 2))
  (sRet (eN tupR (aCons (eC (.str "call")) (aCons (e2 ixR (eVar 0) (eC (.int 1))) (aCons (e1 (l1 tupD) (eVar 2)) aNil))))))
  sSkip)
  (sRet (e2 (l2 addD) (eSl (eVar 0) oNone (oSome (eC (.int 1)))) (e1 (l1 tupD) (eComp [3] (iSeq (eSl (eVar 0) (oSome (eC (.int 1))) oNone)) (gNm 3) tTrue (eCall (φ .law_slim) (aCons (eVar 3) (aCons (eVar 1) aNil)))))))))
noncomputable def b_law_k60 (φ : Fid → Fn) : Fn := runFn 11 1
  (sSeq (sAsg (eCall (φ .law_book) (aCons (eCall (φ .law_mixed) (aCons (eVar 0) (aCons (eC (.int 0)) aNil))) aNil)) (gNm 1))
  (sSeq (sAsg (eCall (φ .law_needed) (aCons (eVar 1) aNil)) (gNm 2))
  (sSeq (sIf (tOf (e2 (l2 neD) (eCall (φ .needed) (aCons (eVar 1) aNil)) (e1 (l1 tupD) (eComp [8] (iSeq (eVar 1)) (gNm 8) tTrue (e2 ixR (eVar 2) (e2 ixR (eVar 8) (eC (.int 0))))))))
  (sRet (eC (.bool false)))
  sSkip)
  (sSeq (sAsg (eN tupR aNil) (gNm 3))
  (sSeq (sFor (iSeq (eVar 1)) (gTp 3 (gsCons (gNm 4) (gsCons (gNm 5) (gsCons (gNm 6) gsNil))))
  (sSeq (sAsg (e1 (l1 tupD) (eComp [9, 10] (iZip2 (eVar 5) (e2 ixR (eVar 2) (eVar 4))) (gTp 2 (gsCons (gNm 9) (gsCons (gNm 10) gsNil))) (tOf (eVar 10)) (eVar 9))) (gNm 7))
  (sAsg (e2 (l2 addD) (eVar 3) (eN tupR (aCons (eN tupR (aCons (eVar 4) (aCons (eVar 7) (aCons (eCall (φ .law_slim) (aCons (eVar 6) (aCons (eVar 2) aNil))) aNil)))) aNil))) (gNm 3))) [4, 5, 6, 7])
  (sRet (e2 (l2 eqD) (eCall (φ .slim) (aCons (eVar 1) aNil)) (eVar 3))))))))
noncomputable def b_law_k61 (φ : Fid → Fn) : Fn := runFn 15 1
  (sSeq (sAsg (eCall (φ .law_book) (aCons (eCall (φ .law_mixed) (aCons (eVar 0) (aCons (eC (.int 0)) aNil))) aNil)) (gNm 1))
  (sSeq (sAsg (eCall (φ .slim) (aCons (eVar 1) aNil)) (gNm 2))
  (sSeq (sAsg (eCall (φ .needed) (aCons (eVar 1) aNil)) (gNm 3))
  (sSeq (sIf (tOr' (tOf (e2 (l2 neD) (eCall (φ .slim) (aCons (eVar 2) aNil)) (eVar 2))) (tOf (e2 (l2 neD) (e1 lenR (eVar 3)) (e1 lenR (eVar 1)))))
  (sRet (eC (.bool false)))
  sSkip)
  (sSeq (sIf (tOf (e2 (l2 neD) (eComp [12] (iSeq (eCall (φ .needed) (aCons (eVar 2) aNil))) (gNm 12) (tOf (e2 inR (eC (.bool false)) (eVar 12))) (eVar 12)) (eN lstR aNil)))
  (sRet (eC (.bool false)))
  sSkip)
  (sSeq (sFor (iEnum' (eVar 1)) (gTp 2 (gsCons (gNm 4) (gsCons (gNm 5) gsNil)))
  (sSeq (sAsg (eCall (φ .law_worths) (aCons (eCall (φ .law_mixed) (aCons (eVar 0) (aCons (e2 (l2 addD) (eC (.int 1)) (eVar 4)) aNil))) (aCons (e1 lenR (e2 ixR (eVar 5) (eC (.int 1)))) aNil))) (gNm 6))
  (sSeq (sAsg (eCall (φ .go) (aCons (eVar 1) (aCons (e2 ixR (eVar 5) (eC (.int 0))) (aCons (eVar 6) (aCons (eC (.int 40)) aNil))))) (gNm 7))
  (sSeq (sAsg (e1 (l1 tupD) (eComp [13, 14] (iZip2 (eVar 6) (e2 ixR (eVar 3) (eVar 4))) (gTp 2 (gsCons (gNm 13) (gsCons (gNm 14) gsNil))) (tOf (eVar 14)) (eVar 13))) (gNm 8))
  (sSeq (sAsg (eCall (φ .go) (aCons (eVar 2) (aCons (e2 ixR (eVar 5) (eC (.int 0))) (aCons (eVar 8) (aCons (eC (.int 40)) aNil))))) (gNm 9))
  (sSeq (sIf (tAn (tOf (e2 isNotR (eVar 7) (eC .none))) (tOr' (tOf (e2 isR (eVar 9) (eC .none))) (tOr' (tOf (e2 (l2 neD) (e2 ixR (eVar 9) (eC (.int 0))) (e2 ixR (eVar 7) (eC (.int 0))))) (tOf (e2 (l2 gtD) (e2 ixR (eVar 9) (eC (.int 1))) (e2 ixR (eVar 7) (eC (.int 1))))))))
  (sRet (eC (.bool false)))
  sSkip)
  (sSeq (sAsg (e1 (l1 tupD) (eComp [13, 14] (iZip2 (eVar 6) (e2 ixR (eVar 3) (eVar 4))) (gTp 2 (gsCons (gNm 13) (gsCons (gNm 14) gsNil))) tTrue (e2 ixR (eN lstR (aCons (e2 (l2 modD) (e2 (l2 addD) (eVar 13) (eC (.int 7))) (eC (.int 1000))) (aCons (eVar 13) aNil))) (e1 (l1 intD) (eVar 14))))) (gNm 10))
  (sSeq (sAsg (eCall (φ .go) (aCons (eVar 1) (aCons (e2 ixR (eVar 5) (eC (.int 0))) (aCons (eVar 10) (aCons (eC (.int 40)) aNil))))) (gNm 11))
  (sIf (tAn (tOf (e2 isNotR (eVar 7) (eC .none))) (tAn (tOf (e2 isNotR (eVar 11) (eC .none))) (tOf (e2 (l2 neD) (e2 ixR (eVar 11) (eC (.int 0))) (e2 ixR (eVar 7) (eC (.int 0)))))))
  (sRet (eC (.bool false)))
  sSkip)))))))) [4, 5, 6, 7, 8, 9, 10, 11])
  (sRet (eC (.bool true)))))))))
noncomputable def b_law_look (φ : Fid → Fn) : Fn := runFn 6 3
  (sSeq (sIf (tOf (e1 (l1 (isiD "str")) (eVar 0)))
  (sRet (e2 (l2 addD) (eC (.str "place ")) (e1 (l1 strD) (eIndexT (eVar 1) (eVar 0)))))
  sSkip)
  (sSeq (sIf (tNo (tOf (e1 (l1 (isiD "tuple")) (eVar 0))))
  (sRet (e1 (l1 strD) (eVar 0)))
  sSkip)
  (sSeq (sAsg (e2 ixR (eVar 0) (eC (.int 0))) (gNm 3))
  (sSeq (sAsg (eSl (eVar 0) (oSome (eC (.int 1))) oNone) (gNm 4))
  (sSeq (sIf (tOf (e2 (l2 eqD) (eVar 3) (eC (.str "call"))))
  (sSeq (sAsg (e2 (l2 addD) (eC (.str "call ")) (e1 (l1 strD) (e2 ixR (eVar 2) (e2 ixR (eVar 0) (eC (.int 1)))))) (gNm 3))
  (sAsg (e2 ixR (eVar 0) (eC (.int 2))) (gNm 4)))
  sSkip)
  (sRet (e2 (l2 addD) (e2 (l2 addD) (e2 (l2 addD) (e2 (l2 addD) (eC (.str "(")) (eVar 3)) (eC (.str " "))) (e2 (l2 joinD) (eC (.str " ")) (eComp [5] (iSeq (eVar 4)) (gNm 5) tTrue (eCall (φ .law_look) (aCons (eVar 5) (aCons (eVar 1) (aCons (eVar 2) aNil))))))) (eC (.str ")")))))))))
noncomputable def b_law_numbers (φ : Fid → Fn) : Fn := runFn 10 1
  (sSeq (sAsg (e1 dicR (eComp [9] (iSeq (eVar 0)) (gNm 9) tTrue (eN tupR (aCons (e2 ixR (eVar 9) (eC (.int 0))) (aCons (eC (.int 0)) aNil))))) (gNm 1))
  (sSeq (sFor (iRange1 (e2 (l2 addD) (e1 lenR (eVar 0)) (eC (.int 1)))) (gNm 2)
  (sSeq (sAsg (eLstO aNil) (gNm 3))
  (sSeq (sAsg eDicO (gNm 4))
  (sSeq (sFor (iSeq (eVar 0)) (gTp 3 (gsCons (gNm 5) (gsCons (gNm 6) (gsCons (gNm 7) gsNil))))
  (sSeq (sAsg (e2 (l2 addD) (e2 (l2 addD) (e2 (l2 addD) (e1 (l1 strD) (e2 ixR (eVar 1) (eVar 5))) (eC (.str ":"))) (e1 (l1 strD) (e1 lenR (eVar 6)))) (eC (.str ":"))) (gNm 8))
  (sSeq (sAsg (e2 (l2 addD) (eVar 8) (eCall (φ .law_look) (aCons (eVar 7) (aCons (eVar 6) (aCons (eVar 1) aNil))))) (gNm 8))
  (sSeq (sIf (tOf (e2 notInR (eVar 8) (eVar 3)))
  (sExpr (eAppend (eVar 3) (eVar 8)))
  sSkip)
  (sDput (eVar 4) (eVar 5) (eIndexO (eVar 3) (eVar 8)))))) [5, 6, 7, 8])
  (sAsg (eVar 4) (gNm 1))))) [2, 3, 4, 5, 6, 7, 8])
  (sRet (eVar 1))))
noncomputable def b_law_renamed (φ : Fid → Fn) : Fn := runFn 5 3
  (sSeq (sIf (tOf (e1 (l1 (isiD "str")) (eVar 0)))
  (sRet (e2 ixR (eVar 2) (eVar 0)))
  sSkip)
  (sSeq (sIf (tNo (tOf (e1 (l1 (isiD "tuple")) (eVar 0))))
  (sRet (eVar 0))
  sSkip)
  (sSeq (sIf (tOf (e2 (l2 eqD) (e2 ixR (eVar 0) (eC (.int 0))) (eC (.str "call"))))
  (sSeq (sAsg (e1 (l1 tupD) (eComp [4] (iSeq (e2 ixR (eVar 0) (eC (.int 2)))) (gNm 4) tTrue (eCall (φ .law_renamed) (aCons (eVar 4) (aCons (eVar 1) (aCons (eVar 2) aNil)))))) (gNm 3))
  (sRet (eN tupR (aCons (eC (.str "call")) (aCons (eGet2 (eVar 1) (e2 ixR (eVar 0) (eC (.int 1))) (e2 ixR (eVar 0) (eC (.int 1)))) (aCons (eVar 3) aNil))))))
  sSkip)
  (sRet (e2 (l2 addD) (eSl (eVar 0) oNone (oSome (eC (.int 1)))) (e1 (l1 tupD) (eComp [4] (iSeq (eSl (eVar 0) (oSome (eC (.int 1))) oNone)) (gNm 4) tTrue (eCall (φ .law_renamed) (aCons (eVar 4) (aCons (eVar 1) (aCons (eVar 2) aNil)))))))))))
noncomputable def b_law_twice (φ : Fid → Fn) : Fn := runFn 13 2
  (sSeq (sAsg (e1 dicF (eComp [6] (iSeq (eVar 0)) (gNm 6) tTrue (eN tupR (aCons (e2 ixR (eVar 6) (eC (.int 0))) (aCons (e2 (l2 addD) (e2 ixR (eVar 6) (eC (.int 0))) (eC (.str "x"))) aNil))))) (gNm 2))
  (sSeq (sAsg (e1 dicR (eComp [11] (iSeq (eVar 2)) (gNm 11) (tOr' (tOf (e2 (l2 eqD) (e2 (l2 modD) (e2 (l2 fdivD) (eVar 1) (eC (.int 2))) (eC (.int 2))) (eC (.int 0)))) (tOf (e2 (l2 ltD) (eVar 11) (eC (.str "g"))))) (eN tupR (aCons (eVar 11) (aCons (e2 ixR (eVar 2) (eVar 11)) aNil))))) (gNm 3))
  (sSeq (sAsg (eN tupR aNil) (gNm 4))
  (sSeq (sFor (iEnum' (eVar 0)) (gTp 2 (gsCons (gNm 5) (gsCons (gNm 6) gsNil)))
  (sSeq (sAsg (e1 dicR (eComp [12, 11] (iEnum' (e2 ixR (eVar 6) (eC (.int 1)))) (gTp 2 (gsCons (gNm 12) (gsCons (gNm 11) gsNil))) tTrue (eN tupR (aCons (eVar 11) (aCons (e2 (l2 smulD) (eC (.str "z")) (e2 (l2 addD) (eC (.int 1)) (eVar 12))) aNil))))) (gNm 7))
  (sSeq (sAsg (e1 dicR (eComp [11] (iSeq (e2 ixR (eVar 6) (eC (.int 1)))) (gNm 11) tTrue (eN tupR (aCons (eVar 11) (aCons (eVar 11) aNil))))) (gNm 8))
  (sSeq (sAsg (eCall (φ .law_renamed) (aCons (e2 ixR (eVar 6) (eC (.int 2))) (aCons (ePick (aCons eDic0 (aCons (eVar 3) aNil)) (e2 (l2 modD) (eVar 1) (eC (.int 2)))) (aCons (eVar 8) aNil)))) (gNm 9))
  (sSeq (sAsg (e2 (l2 addD) (eVar 4) (eN tupR (aCons (eN tupR (aCons (e2 ixR (eVar 6) (eC (.int 0))) (aCons (e2 ixR (eVar 6) (eC (.int 1))) (aCons (eVar 9) aNil)))) aNil))) (gNm 4))
  (sSeq (sAsg (eN tupR (aCons (e2 ixR (eVar 2) (e2 ixR (eVar 6) (eC (.int 0)))) (aCons (e1 (l1 tupD) (eComp [11] (iSeq (e2 ixR (eVar 6) (eC (.int 1)))) (gNm 11) tTrue (e2 ixR (eVar 7) (eVar 11)))) (aCons (eCall (φ .law_renamed) (aCons (e2 ixR (eVar 6) (eC (.int 2))) (aCons (eVar 3) (aCons (eVar 7) aNil)))) aNil)))) (gNm 10))
  (sAsg (e2 (l2 addD) (eVar 4) (eN tupR (aCons (eVar 10) aNil))) (gNm 4))))))) [5, 6, 7, 8, 9, 10])
  (sRet (eVar 4))))))
noncomputable def b_law_first (φ : Fid → Fn) : Fn := runFn 3 2
  (sSeq (sIf (tNo (tOf (e1 (l1 (isiD "tuple")) (eVar 0))))
  (sRet (eVar 0))
  sSkip)
  (sSeq (sIf (tOf (e2 (l2 eqD) (e2 ixR (eVar 0) (eC (.int 0))) (eC (.str "call"))))
  (sRet (eN tupR (aCons (eC (.str "call")) (aCons (e2 ixR (eVar 1) (e2 ixR (eVar 0) (eC (.int 1)))) (aCons (e1 (l1 tupD) (eComp [2] (iSeq (e2 ixR (eVar 0) (eC (.int 2)))) (gNm 2) tTrue (eCall (φ .law_first) (aCons (eVar 2) (aCons (eVar 1) aNil))))) aNil)))))
  sSkip)
  (sRet (e2 (l2 addD) (eSl (eVar 0) oNone (oSome (eC (.int 1)))) (e1 (l1 tupD) (eComp [2] (iSeq (eSl (eVar 0) (oSome (eC (.int 1))) oNone)) (gNm 2) tTrue (eCall (φ .law_first) (aCons (eVar 2) (aCons (eVar 1) aNil)))))))))
noncomputable def b_law_k70 (φ : Fid → Fn) : Fn := runFn 14 1
  (sSeq (sAsg (eCall (φ .law_book) (aCons (eCall (φ .law_mixed) (aCons (eVar 0) (aCons (eC (.int 0)) aNil))) aNil)) (gNm 1))
  (sSeq (sAsg (eCall (φ .law_mixed) (aCons (eVar 0) (aCons (eC (.int 1)) aNil))) (gNm 2))
  (sSeq (sIf (tOf (e2 (l2 gtD) (e2 (l2 modD) (eVar 2) (eC (.int 4))) (eC (.int 0))))
  (sAsg (eCall (φ .law_twice) (aCons (eVar 1) (aCons (e2 (l2 fdivD) (eVar 2) (eC (.int 4))) aNil))) (gNm 1))
  sSkip)
  (sSeq (sAsg (eCall (φ .law_numbers) (aCons (eVar 1) aNil)) (gNm 3))
  (sSeq (sAsg eDicO (gNm 4))
  (sSeq (sFor (iSeq (eVar 1)) (gNm 5)
  (sDput (eVar 4) (e2 ixR (eVar 3) (e2 ixR (eVar 5) (eC (.int 0)))) (e2 (l2 addD) (eGet2 (eVar 4) (e2 ixR (eVar 3) (e2 ixR (eVar 5) (eC (.int 0)))) (eN tupR aNil)) (eN tupR (aCons (e2 ixR (eVar 5) (eC (.int 0))) aNil)))) [5])
  (sSeq (sAsg (e1 (l1 tupD) (eComp [11] (iSeq (e1 srtK (eVar 4))) (gNm 11) tTrue (e2 ixR (eVar 4) (eVar 11)))) (gNm 6))
  (sSeq (sIf (tOf (e2 (l2 neD) (eCall (φ .classes) (aCons (eVar 1) aNil)) (eVar 6)))
  (sRet (eC (.bool false)))
  sSkip)
  (sSeq (sAsg eDicO (gNm 7))
  (sSeq (sFor (iSeq (eVar 6)) (gNm 8)
  (sFor (iSeq (eVar 8)) (gNm 9)
  (sDput (eVar 7) (eVar 9) (e2 ixR (eVar 8) (eC (.int 0)))) [9]) [8, 9])
  (sSeq (sAsg (eComp [5] (iSeq (eVar 1)) (gNm 5) (tOf (e2 (l2 eqD) (e2 ixR (eVar 7) (e2 ixR (eVar 5) (eC (.int 0)))) (e2 ixR (eVar 5) (eC (.int 0))))) (eVar 5)) (gNm 10))
  (sRet (e2 (l2 eqD) (eCall (φ .merged) (aCons (eVar 1) aNil)) (e1 (l1 tupD) (eComp [9, 12, 13] (iSeq (eVar 10)) (gTp 3 (gsCons (gNm 9) (gsCons (gNm 12) (gsCons (gNm 13) gsNil)))) tTrue (eN tupR (aCons (eVar 9) (aCons (eVar 12) (aCons (eCall (φ .law_first) (aCons (eVar 13) (aCons (eVar 7) aNil))) aNil)))))))))))))))))))
noncomputable def b_law_k71 (φ : Fid → Fn) : Fn := runFn 11 1
  (sSeq (sAsg (eCall (φ .law_book) (aCons (eCall (φ .law_mixed) (aCons (eVar 0) (aCons (eC (.int 0)) aNil))) aNil)) (gNm 1))
  (sSeq (sAsg (eCall (φ .law_twice) (aCons (eVar 1) (aCons (eCall (φ .law_mixed) (aCons (eVar 0) (aCons (eC (.int 1)) aNil))) aNil))) (gNm 2))
  (sSeq (sAsg (eCall (φ .merged) (aCons (eVar 2) aNil)) (gNm 3))
  (sSeq (sAsg (eCall (φ .classes) (aCons (eVar 2) aNil)) (gNm 4))
  (sSeq (sIf (tOr' (tOf (e2 (l2 neD) (eCall (φ .merged) (aCons (eVar 3) aNil)) (eVar 3))) (tOr' (tOf (e2 (l2 neD) (eCall (φ .classes) (aCons (eVar 3) aNil)) (e1 (l1 tupD) (eComp [8] (iSeq (eVar 3)) (gNm 8) tTrue (eN tupR (aCons (e2 ixR (eVar 8) (eC (.int 0))) aNil)))))) (tOf (e2 (l2 neD) (e1 lenR (eVar 3)) (e1 lenR (eVar 4))))))
  (sRet (eC (.bool false)))
  sSkip)
  (sSeq (sAsg eDicO (gNm 5))
  (sSeq (sFor (iSeq (eVar 4)) (gNm 6)
  (sFor (iSeq (eVar 6)) (gNm 7)
  (sDput (eVar 5) (eVar 7) (e2 ixR (eVar 6) (eC (.int 0)))) [7]) [6, 7])
  (sSeq (sFor (iSeq (eVar 1)) (gNm 8)
  (sIf (tOf (e2 (l2 neD) (e2 ixR (eVar 5) (e2 ixR (eVar 8) (eC (.int 0)))) (e2 ixR (eVar 5) (e2 (l2 addD) (e2 ixR (eVar 8) (eC (.int 0))) (eC (.str "x"))))))
  (sRet (eC (.bool false)))
  sSkip) [8])
  (sSeq (sFor (iEnum' (eVar 2)) (gTp 2 (gsCons (gNm 9) (gsCons (gNm 8) gsNil)))
  (sSeq (sAsg (eCall (φ .law_worths) (aCons (eCall (φ .law_mixed) (aCons (eVar 0) (aCons (e2 (l2 addD) (eC (.int 2)) (eVar 9)) aNil))) (aCons (e1 lenR (e2 ixR (eVar 8) (eC (.int 1)))) aNil))) (gNm 10))
  (sIf (tOf (e2 (l2 neD) (eCall (φ .go) (aCons (eVar 2) (aCons (e2 ixR (eVar 8) (eC (.int 0))) (aCons (eVar 10) (aCons (eC (.int 40)) aNil))))) (eCall (φ .go) (aCons (eVar 3) (aCons (e2 ixR (eVar 5) (e2 ixR (eVar 8) (eC (.int 0)))) (aCons (eVar 10) (aCons (eC (.int 40)) aNil)))))))
  (sRet (eC (.bool false)))
  sSkip)) [9, 8, 10])
  (sRet (e2 (l2 leD) (e1 lenR (eVar 3)) (e1 lenR (eVar 1)))))))))))))
noncomputable def b_law_in_place (φ : Fid → Fn) : Fn := runFn 3 2
  (sSeq (sIf (tOf (e1 (l1 (isiD "str")) (eVar 0)))
  (sRet (e2 ixR (eVar 1) (eVar 0)))
  sSkip)
  (sSeq (sIf (tNo (tOf (e1 (l1 (isiD "tuple")) (eVar 0))))
  (sRet (eVar 0))
  sSkip)
  (sSeq (sIf (tOf (e2 (l2 eqD) (e2 ixR (eVar 0) (eC (.int 0))) (eC (.str "call"))))
  (sRet (eN tupR (aCons (eC (.str "call")) (aCons (e2 ixR (eVar 0) (eC (.int 1))) (aCons (e1 (l1 tupD) (eComp [2] (iSeq (e2 ixR (eVar 0) (eC (.int 2)))) (gNm 2) tTrue (eCall (φ .law_in_place) (aCons (eVar 2) (aCons (eVar 1) aNil))))) aNil)))))
  sSkip)
  (sRet (e2 (l2 addD) (eSl (eVar 0) oNone (oSome (eC (.int 1)))) (e1 (l1 tupD) (eComp [2] (iSeq (eSl (eVar 0) (oSome (eC (.int 1))) oNone)) (gNm 2) tTrue (eCall (φ .law_in_place) (aCons (eVar 2) (aCons (eVar 1) aNil))))))))))
noncomputable def b_law_placed (φ : Fid → Fn) : Fn := runFn 3 2
  (sSeq (sIf (tNo (tOf (e1 (l1 (isiD "tuple")) (eVar 0))))
  (sRet (eVar 0))
  sSkip)
  (sSeq (sIf (tOf (e2 (l2 neD) (e2 ixR (eVar 0) (eC (.int 0))) (eC (.str "call"))))
  (sRet (e2 (l2 addD) (eSl (eVar 0) oNone (oSome (eC (.int 1)))) (e1 (l1 tupD) (eComp [2] (iSeq (eSl (eVar 0) (oSome (eC (.int 1))) oNone)) (gNm 2) tTrue (eCall (φ .law_placed) (aCons (eVar 2) (aCons (eVar 1) aNil)))))))
  sSkip)
  (sSeq (sIf (tAn (tOf (e2 (l2 eqD) (e2 ixR (eVar 0) (eC (.int 1))) (e2 ixR (eVar 1) (eC (.int 0))))) (tOf (e2 (l2 eqD) (eComp [2] (iSeq (e2 ixR (eVar 0) (eC (.int 2)))) (gNm 2) (tOf (e1 (l1 (isiD "tuple")) (eVar 2))) (eVar 2)) (eN lstR aNil))))
  (sRet (eCall (φ .law_in_place) (aCons (e2 ixR (eVar 1) (eC (.int 2))) (aCons (e1 dicR (e2 (l2 zipLD) (e2 ixR (eVar 1) (eC (.int 1))) (e2 ixR (eVar 0) (eC (.int 2))))) aNil))))
  sSkip)
  (sRet (eN tupR (aCons (eC (.str "call")) (aCons (e2 ixR (eVar 0) (eC (.int 1))) (aCons (e1 (l1 tupD) (eComp [2] (iSeq (e2 ixR (eVar 0) (eC (.int 2)))) (gNm 2) tTrue (eCall (φ .law_placed) (aCons (eVar 2) (aCons (eVar 1) aNil))))) aNil))))))))
noncomputable def b_law_k80 (φ : Fid → Fn) : Fn := runFn 6 1
  (sSeq (sAsg (eCall (φ .law_book) (aCons (eCall (φ .law_mixed) (aCons (eVar 0) (aCons (eC (.int 0)) aNil))) aNil)) (gNm 1))
  (sSeq (sAsg (eCall (φ .law_mixed) (aCons (eVar 0) (aCons (eC (.int 1)) aNil))) (gNm 2))
  (sSeq (sAsg (e2 ixR (eVar 1) (e2 (l2 modD) (eVar 2) (e1 lenR (eVar 1)))) (gNm 3))
  (sSeq (sAsg (eN tupR aNil) (gNm 4))
  (sSeq (sFor (iSeq (eVar 1)) (gNm 5)
  (sSeq (sIf (tOf (e2 (l2 neD) (eVar 5) (eVar 3)))
  (sAsg (eN tupR (aCons (e2 ixR (eVar 5) (eC (.int 0))) (aCons (e2 ixR (eVar 5) (eC (.int 1))) (aCons (eCall (φ .law_placed) (aCons (e2 ixR (eVar 5) (eC (.int 2))) (aCons (eVar 3) aNil))) aNil)))) (gNm 5))
  sSkip)
  (sAsg (e2 (l2 addD) (eVar 4) (eN tupR (aCons (eVar 5) aNil))) (gNm 4))) [5])
  (sRet (e2 (l2 eqD) (eCall (φ .inlined) (aCons (eVar 1) (aCons (e2 ixR (eVar 3) (eC (.int 0))) aNil))) (eVar 4))))))))
noncomputable def b_law_k81 (φ : Fid → Fn) : Fn := runFn 11 1
  (sSeq (sAsg (eCall (φ .law_book) (aCons (eCall (φ .law_mixed) (aCons (eVar 0) (aCons (eC (.int 0)) aNil))) aNil)) (gNm 1))
  (sSeq (sAsg (eCall (φ .law_mixed) (aCons (eVar 0) (aCons (eC (.int 1)) aNil))) (gNm 2))
  (sSeq (sAsg (e2 ixR (eVar 1) (e2 (l2 modD) (eVar 2) (e1 lenR (eVar 1)))) (gNm 3))
  (sSeq (sAsg (eCall (φ .inlined) (aCons (eVar 1) (aCons (e2 ixR (eVar 3) (eC (.int 0))) aNil))) (gNm 4))
  (sSeq (sIf (tOr' (tOf (e2 (l2 neD) (eComp [7] (iSeq (eVar 4)) (gNm 7) tTrue (eSl (eVar 7) oNone (oSome (eC (.int 2))))) (eComp [7] (iSeq (eVar 1)) (gNm 7) tTrue (eSl (eVar 7) oNone (oSome (eC (.int 2))))))) (tOf (e2 (l2 neD) (e2 ixR (eVar 4) (e2 (l2 modD) (eVar 2) (e1 lenR (eVar 1)))) (eVar 3))))
  (sRet (eC (.bool false)))
  sSkip)
  (sSeq (sAsg (eComp [7] (iSeq (eVar 1)) (gNm 7) (tAn (tOf (e2 (l2 neD) (eVar 7) (eVar 3))) (tOf (e2 inR (e2 ixR (eVar 3) (eC (.int 0))) (eCall (φ .law_called) (aCons (e2 ixR (eVar 7) (eC (.int 2))) aNil))))) (eVar 7)) (gNm 5))
  (sSeq (sIf (tAn (tOf (e2 (l2 eqD) (eVar 5) (eN lstR aNil))) (tOf (e2 (l2 neD) (eVar 4) (eVar 1))))
  (sRet (eC (.bool false)))
  sSkip)
  (sSeq (sFor (iEnum' (eVar 1)) (gTp 2 (gsCons (gNm 6) (gsCons (gNm 7) gsNil)))
  (sSeq (sAsg (eCall (φ .law_worths) (aCons (eCall (φ .law_mixed) (aCons (eVar 0) (aCons (e2 (l2 addD) (eC (.int 2)) (eVar 6)) aNil))) (aCons (e1 lenR (e2 ixR (eVar 7) (eC (.int 1)))) aNil))) (gNm 8))
  (sSeq (sAsg (eCall (φ .go) (aCons (eVar 1) (aCons (e2 ixR (eVar 7) (eC (.int 0))) (aCons (eVar 8) (aCons (eC (.int 40)) aNil))))) (gNm 9))
  (sSeq (sAsg (eCall (φ .go) (aCons (eVar 4) (aCons (e2 ixR (eVar 7) (eC (.int 0))) (aCons (eVar 8) (aCons (eC (.int 40)) aNil))))) (gNm 10))
  (sIf (tAn (tOf (e2 isNotR (eVar 9) (eC .none))) (tOr' (tOf (e2 isR (eVar 10) (eC .none))) (tOr' (tOf (e2 (l2 neD) (e2 ixR (eVar 10) (eC (.int 0))) (e2 ixR (eVar 9) (eC (.int 0))))) (tOf (e2 (l2 gtD) (e2 ixR (eVar 10) (eC (.int 1))) (e2 ixR (eVar 9) (eC (.int 1))))))))
  (sRet (eC (.bool false)))
  sSkip)))) [6, 7, 8, 9, 10])
  (sRet (eC (.bool true)))))))))))
noncomputable def bodyOf : Fid → (Fid → Fn) → Fn
  | .is_worth => b_is_worth
  | .is_name => b_is_name
  | .is_call => b_is_call
  | .is_sum => b_is_sum
  | .is_head => b_is_head
  | .is_book_k01 => b_is_book_k01
  | .law_cell_at => b_law_cell_at
  | .law_mixed => b_law_mixed
  | .law_drawn => b_law_drawn
  | .law_sum => b_law_sum
  | .law_again => b_law_again
  | .law_book => b_law_book
  | .law_worths => b_law_worths
  | .law_is_name => b_law_is_name
  | .law_is_sum => b_law_is_sum
  | .law_is_book => b_law_is_book
  | .law_spoilt_k01 => b_law_spoilt_k01
  | .law_k01 => b_law_k01
  | .sum_words => b_sum_words
  | .all_words => b_all_words
  | .written => b_written
  | .law_words => b_law_words
  | .law_text => b_law_text
  | .law_k02 => b_law_k02
  | .is_book_k03 => b_is_book_k03
  | .Reader___init__ => b_Reader___init__
  | .Reader_look => b_Reader_look
  | .law_sum_in => b_law_sum_in
  | .law_called => b_law_called
  | .law_places_in => b_law_places_in
  | .law_otherwise => b_law_otherwise
  | .maker_of => b_maker_of
  | .reckoned => b_reckoned
  | .Runner___init__ => b_Runner___init__
  | .Runner_maker => b_Runner_maker
  | .Runner_worth => b_Runner_worth
  | .Runner_call => b_Runner_call
  | .go => b_go
  | .law_value => b_law_value
  | .law_reckoned => b_law_reckoned
  | .law_maker => b_law_maker
  | .law_go => b_law_go
  | .law_k10 => b_law_k10
  | .law_k11 => b_law_k11
  | .law_k12 => b_law_k12
  | .parts_of => b_parts_of
  | .with_parts => b_with_parts
  | .folded_by => b_folded_by
  | .folded => b_folded
  | .is_folded => b_is_folded
  | .law_fold => b_law_fold
  | .law_drawn_shape => b_law_drawn_shape
  | .law_k20 => b_law_k20
  | .law_is_called => b_law_is_called
  | .law_k21 => b_law_k21
  | .known_by => b_known_by
  | .folded_sum => b_folded_sum
  | .shape_of => b_shape_of
  | .calls_in => b_calls_in
  | .unlike => b_unlike
  | .inner => b_inner
  | .law_folded => b_law_folded
  | .law_calls => b_law_calls
  | .law_masked => b_law_masked
  | .law_shapes => b_law_shapes
  | .law_k30 => b_law_k30
  | .all_true => b_all_true
  | .masked => b_masked
  | .shapes_by => b_shapes_by
  | .shapes => b_shapes
  | .law_k31 => b_law_k31
  | .law_k32 => b_law_k32
  | .names_in => b_names_in
  | .kept_parts => b_kept_parts
  | .needs_of => b_needs_of
  | .needed => b_needed
  | .slim_sum => b_slim_sum
  | .slim => b_slim
  | .by_places => b_by_places
  | .refined => b_refined
  | .numbers_of => b_numbers_of
  | .classes => b_classes
  | .called => b_called
  | .merged => b_merged
  | .replaced => b_replaced
  | .is_simple => b_is_simple
  | .placed => b_placed
  | .inlined => b_inlined
  | .law_led => b_law_led
  | .law_book_led => b_law_book_led
  | .Copier___init__ => b_Copier___init__
  | .Copier_name_of => b_Copier_name_of
  | .Copier_put => b_Copier_put
  | .Copier_copy => b_Copier_copy
  | .copied_by => b_copied_by
  | .copied => b_copied
  | .law_drawn_masks => b_law_drawn_masks
  | .law_named => b_law_named
  | .law_put => b_law_put
  | .law_copied => b_law_copied
  | .law_k40 => b_law_k40
  | .law_left => b_law_left
  | .law_k41 => b_law_k41
  | .law_good => b_law_good
  | .law_k42 => b_law_k42
  | .law_k50 => b_law_k50
  | .all_masks => b_all_masks
  | .truths_in => b_truths_in
  | .best_masks => b_best_masks
  | .law_all => b_law_all
  | .law_once_k51 => b_law_once_k51
  | .law_k51 => b_law_k51
  | .law_seen => b_law_seen
  | .law_needed => b_law_needed
  | .law_slim => b_law_slim
  | .law_k60 => b_law_k60
  | .law_k61 => b_law_k61
  | .law_look => b_law_look
  | .law_numbers => b_law_numbers
  | .law_renamed => b_law_renamed
  | .law_twice => b_law_twice
  | .law_first => b_law_first
  | .law_k70 => b_law_k70
  | .law_k71 => b_law_k71
  | .law_in_place => b_law_in_place
  | .law_placed => b_law_placed
  | .law_k80 => b_law_k80
  | .law_k81 => b_law_k81
noncomputable def Φ0 : Nat → Fid → Fn
  | 0, _ => fun _ _ => none
  | n + 1, f => bodyOf f (Φ0 n)
structure PhiOk (F : Nat → Fid → Fn) : Prop where
  zero : ∀ f, F 0 f = fun _ _ => none
  succ : ∀ n f, F (n + 1) f = bodyOf f (F n)
/-- shut, so that nobody unfolds it -/
noncomputable def ΦE : {F : Nat → Fid → Fn // PhiOk F} := Classical.choice ⟨⟨Φ0, ⟨fun _ => rfl, fun _ _ => rfl⟩⟩⟩
noncomputable def Φ (n : Nat) (f : Fid) : Fn := ΦE.1 n f
theorem Φ_zero (f : Fid) : Φ 0 f = fun _ _ => none := ΦE.2.zero f
theorem Φ_succ (n : Nat) (f : Fid) : Φ (n + 1) f = bodyOf f (Φ n) := ΦE.2.succ n f
end Cy
end
section
set_option Elab.async false
set_option maxRecDepth 100000
namespace Cy
open PySem L2

/-! ### how the meanings are reckoned -/
section
variable {δ δ1 δ2 : Dl} {S S1 S2 : SS} {f g : Em} {r r1 r2 : R} {d d1 d2 : D}
@[simp] theorem eVar_eq (i : Nat) : eVar i δ S = Option.bind δ[i]? (fun o => Option.map (fun r => (r, S)) o) := by
  unfold eVar
  cases δ[i]? with
  | none => rfl
  | some o => cases o <;> rfl
@[simp] theorem eC_eq : eC d δ S = some (.dat d, S) := Eq.trans rfl rfl
@[simp] theorem aNil_eq : aNil δ S = some ([], S) := Eq.trans rfl rfl
@[simp] theorem aCons_eq (h : Am) : aCons f h δ S = (match f δ S with
  | some (r, S1) => (match h δ S1 with
    | some (rs, S2) => some (r :: rs, S2)
    | none => none)
  | none => none) := Eq.trans rfl rfl
@[simp] theorem e1_eq (o : SS → R → Option R) : e1 o f δ S = (match f δ S with
  | some (x, S1) => (match o S1 x with
    | some r => some (r, S1)
    | none => none)
  | none => none) := Eq.trans rfl rfl
@[simp] theorem e2_eq (o : SS → R → R → Option R) : e2 o f g δ S = (match f δ S with
  | some (x, S1) => (match g δ S1 with
    | some (y, S2) => (match o S2 x y with
      | some r => some (r, S2)
      | none => none)
    | none => none)
  | none => none) := Eq.trans rfl rfl
@[simp] theorem eN_eq (o : SS → List R → Option R) (h : Am) : eN o h δ S = (match h δ S with
  | some (x, S1) => (match o S1 x with
    | some r => some (r, S1)
    | none => none)
  | none => none) := Eq.trans rfl rfl
@[simp] theorem eCall_eq (φ : Fn) (h : Am) : eCall φ h δ S = (match h δ S with
  | some (rs, S1) => φ rs S1
  | none => none) := Eq.trans rfl rfl
@[simp] theorem l1_dat (o : D → Option D) : l1 o S (.dat d) = (match o d with
  | some d => some (.dat d)
  | none => none) := Eq.trans rfl rfl
@[simp] theorem l2_dat (o : D → D → Option D) : l2 o S (.dat d1) (.dat d2) = (match o d1 d2 with
  | some d => some (.dat d)
  | none => none) := Eq.trans rfl rfl
@[simp] theorem tOf_eq : tOf f δ S = (match f δ S with
  | some (.dat (.bool b), S1) => some (b, S1)
  | _ => none) := Eq.trans rfl rfl
@[simp] theorem tNo_eq (h : Tm) : tNo h δ S = (match h δ S with
  | some (b, S1) => some (!b, S1)
  | none => none) := Eq.trans rfl rfl
@[simp] theorem tAn_eq (h k : Tm) : tAn h k δ S = (match h δ S with
  | some (b, S1) => if b = true then k δ S1 else some (false, S1)
  | none => none) := Eq.trans rfl rfl
@[simp] theorem tOr_eq (h k : Tm) : tOr' h k δ S = (match h δ S with
  | some (b, S1) => if b = true then some (true, S1) else k δ S1
  | none => none) := Eq.trans rfl rfl
@[simp] theorem eNo_eq : eNo f δ S = (match f δ S with
  | some (.dat (.bool b), S1) => some (.dat (.bool !b), S1)
  | _ => none) := Eq.trans rfl rfl
@[simp] theorem eAn_eq : eAn f g δ S = (match f δ S with
  | some (.dat (.bool b), S1) => if b = true then g δ S1 else some (.dat (.bool false), S1)
  | _ => none) := Eq.trans rfl rfl
@[simp] theorem eOr_eq : eOr f g δ S = (match f δ S with
  | some (.dat (.bool b), S1) => if b = true then some (.dat (.bool true), S1) else g δ S1
  | _ => none) := Eq.trans rfl rfl
@[simp] theorem tTrue_eq : tTrue δ S = some (true, S) := Eq.trans rfl rfl
@[simp] theorem sSeq_eq (a b : Sm) : sSeq a b δ S = (match a δ S with
  | some (.nx δ1, S1) => b δ1 S1
  | some (.rt r, S1) => some (.rt r, S1)
  | none => none) := Eq.trans rfl rfl
@[simp] theorem sSkip_eq : sSkip δ S = some (.nx δ, S) := Eq.trans rfl rfl
@[simp] theorem sRet_eq : sRet f δ S = (match f δ S with
  | some (r, S1) => some (.rt r, S1)
  | none => none) := Eq.trans rfl rfl
@[simp] theorem sAsg_eq (h : Gm) : sAsg f h δ S = (match f δ S with
  | some (r, S1) => (match h r δ with
    | some δ1 => some (.nx δ1, S1)
    | none => none)
  | none => none) := Eq.trans rfl rfl
@[simp] theorem sIf_eq (c : Tm) (a b : Sm) : sIf c a b δ S = (match c δ S with
  | some (t, S1) => if t = true then a δ S1 else b δ S1
  | none => none) := Eq.trans rfl rfl
@[simp] theorem sExpr_eq : sExpr f δ S = (match f δ S with
  | some (_, S1) => some (.nx δ, S1)
  | none => none) := Eq.trans rfl rfl
@[simp] theorem gNm_eq (i : Nat) : gNm i r δ = some (δ.set i (some r)) := Eq.trans rfl rfl
@[simp] theorem gsNil_eq : gsNil [] δ = some δ := Eq.trans rfl rfl
@[simp] theorem gsCons_eq (a : Gm) (b : Gms) (ds : List D) : gsCons a b (d :: ds) δ = (match a (.dat d) δ with
  | some δ1 => b ds δ1
  | none => none) := Eq.trans rfl rfl
@[simp] theorem gTp_itm (n : Nat) (b : Gms) (ds : List D) : gTp n b (.itm ds) δ = if ds.length = n then b ds δ else none := Eq.trans rfl rfl
@[simp] theorem gTp_eq (n : Nat) (b : Gms) (ds : List D) : gTp n b (.dat (.tuple ds)) δ = if ds.length = n then b ds δ else none := Eq.trans rfl rfl
@[simp] theorem addD_int (i j : Int) : addD (.int i) (.int j) = some (.int (i + j)) := Eq.trans rfl rfl
@[simp] theorem subD_int (i j : Int) : subD (.int i) (.int j) = some (.int (i - j)) := Eq.trans rfl rfl
@[simp] theorem ltD_int (i j : Int) : ltD (.int i) (.int j) = some (.bool (decide (i < j))) := Eq.trans rfl rfl
@[simp] theorem leD_int (i j : Int) : leD (.int i) (.int j) = some (.bool (decide (i ≤ j))) := Eq.trans rfl rfl
@[simp] theorem gtD_int (i j : Int) : gtD (.int i) (.int j) = some (.bool (decide (j < i))) := Eq.trans rfl rfl
@[simp] theorem geD_int (i j : Int) : geD (.int i) (.int j) = some (.bool (decide (j ≤ i))) := Eq.trans rfl rfl
@[simp] theorem negD_int (i : Int) : negD (.int i) = some (.int (-i)) := Eq.trans rfl rfl
@[simp] theorem intD_bool (b : Bool) : intD (.bool b) = some (.int (if b then 1 else 0)) := Eq.trans rfl rfl
@[simp] theorem intD_int (i : Int) : intD (.int i) = some (.int i) := Eq.trans rfl rfl
@[simp] theorem tupD_list (ds : List D) : tupD (.list ds) = some (.tuple ds) := Eq.trans rfl rfl
@[simp] theorem tupD_tup (ds : List D) : tupD (.tuple ds) = some (.tuple ds) := Eq.trans rfl rfl
@[simp] theorem listD_list (ds : List D) : listD (.list ds) = some (.list ds) := Eq.trans rfl rfl
@[simp] theorem listD_tup (ds : List D) : listD (.tuple ds) = some (.list ds) := Eq.trans rfl rfl
@[simp] theorem lenR_list (ds : List D) : lenR S (.dat (.list ds)) = some (.dat (.int ds.length)) := Eq.trans rfl rfl
@[simp] theorem lenR_tup (ds : List D) : lenR S (.dat (.tuple ds)) = some (.dat (.int ds.length)) := Eq.trans rfl rfl
@[simp] theorem lenR_scr (ns : List Int) : lenR S (.scr ns) = some (.dat (.int ns.length)) := Eq.trans rfl rfl
@[simp] theorem ixR_dat : ixR S (.dat d1) (.dat d2) = l2 ixD S (.dat d1) (.dat d2) := by
  cases d1 <;> rfl
@[simp] theorem ixD_tup (ds : List D) (i : Int) : ixD (.tuple ds) (.int i) = atI ds i := Eq.trans rfl rfl
@[simp] theorem ixD_list (ds : List D) (i : Int) : ixD (.list ds) (.int i) = atI ds i := Eq.trans rfl rfl
@[simp] theorem atI_0 {α : Type} (a : α) (l : List α) : atI (a :: l) 0 = some a := atI_nat (j := 0) rfl
@[simp] theorem atI_1 {α : Type} (a b : α) (l : List α) : atI (a :: b :: l) 1 = some b := atI_nat (j := 1) rfl
@[simp] theorem atI_2 {α : Type} (a b c : α) (l : List α) : atI (a :: b :: c :: l) 2 = some c := atI_nat (j := 2) rfl
@[simp] theorem atI_3 {α : Type} (a b c e : α) (l : List α) : atI (a :: b :: c :: e :: l) 3 = some e := atI_nat (j := 3) rfl
@[simp] theorem datsOf_nil : datsOf [] = some [] := Eq.trans rfl rfl
@[simp] theorem datsOf_cons (rs : List R) : datsOf (.dat d :: rs) = (match datsOf rs with
  | some ds => some (d :: ds)
  | none => none) := Eq.trans rfl rfl
@[simp] theorem tupR_eq (rs : List R) : tupR S rs = (match datsOf rs with
  | some ds => if ds.length ≤ 1000 then some (.dat (.tuple ds)) else none
  | none => none) := Eq.trans rfl rfl
@[simp] theorem lstR_eq (rs : List R) : lstR S rs = (match datsOf rs with
  | some ds => if ds.length ≤ 1000 then some (.dat (.list ds)) else none
  | none => none) := Eq.trans rfl rfl
@[simp] theorem isiD_tup (ds : List D) : isiD "tuple" (.tuple ds) = some (.bool true) := Eq.trans rfl rfl
@[simp] theorem isiD_tup_int (i : Int) : isiD "tuple" (.int i) = some (.bool false) := Eq.trans rfl rfl
@[simp] theorem isiD_tup_str (x : Str) : isiD "tuple" (.str x) = some (.bool false) := Eq.trans rfl rfl
@[simp] theorem isiD_str_tup (ds : List D) : isiD "str" (.tuple ds) = some (.bool false) := Eq.trans rfl rfl
@[simp] theorem isiD_str_int (i : Int) : isiD "str" (.int i) = some (.bool false) := Eq.trans rfl rfl
@[simp] theorem isiD_str (x : Str) : isiD "str" (.str x) = some (.bool true) := Eq.trans rfl rfl
@[simp] theorem isiD_int_tup (ds : List D) : isiD "int" (.tuple ds) = some (.bool false) := Eq.trans rfl rfl
@[simp] theorem isiD_int (i : Int) : isiD "int" (.int i) = some (.bool true) := Eq.trans rfl rfl
@[simp] theorem isiD_int_str (x : Str) : isiD "int" (.str x) = some (.bool false) := Eq.trans rfl rfl
@[simp] theorem isiD_int_none : isiD "int" .none = some (.bool false) := Eq.trans rfl rfl
@[simp] theorem isiD_bool (b : Bool) : isiD "bool" (.bool b) = some (.bool true) := Eq.trans rfl rfl
@[simp] theorem isR_none : isR S (.dat .none) (.dat .none) = some (.dat (.bool true)) := Eq.trans rfl rfl
@[simp] theorem isR_tup (ds : List D) : isR S (.dat (.tuple ds)) (.dat .none) = some (.dat (.bool false)) := Eq.trans rfl rfl
@[simp] theorem isR_int (i : Int) : isR S (.dat (.int i)) (.dat .none) = some (.dat (.bool false)) := Eq.trans rfl rfl
@[simp] theorem isNotR_eq (x y : R) : isNotR S x y = (match isR S x y with
  | some (.dat (.bool b)) => some (.dat (.bool !b))
  | _ => none) := Eq.trans rfl rfl
@[simp] theorem iSeq_eq : iSeq f δ S = (match f δ S with
  | some (x, S1) => (match itemsR S1 x with
    | some (items, gd) => some (items, gd, S1)
    | none => none)
  | none => none) := Eq.trans rfl rfl
@[simp] theorem itemsR_list (ds : List D) : itemsR S (.dat (.list ds)) = some (ds.map .dat, none) := Eq.trans rfl rfl
@[simp] theorem itemsR_tup (ds : List D) : itemsR S (.dat (.tuple ds)) = some (ds.map .dat, none) := Eq.trans rfl rfl
@[simp] theorem iRange1_eq : iRange1 f δ S = (match f δ S with
  | some (.dat (.int j), S1) => if j ≤ 1000000 ∧ -1000000 ≤ j then some (rangeR 0 j.toNat, none, S1) else none
  | _ => none) := Eq.trans rfl rfl
@[simp] theorem iRange2_eq : iRange2 f g δ S = (match f δ S with
  | some (.dat (.int i), S1) => (match g δ S1 with
    | some (.dat (.int j), S2) => if j ≤ 1000000 ∧ -1000000 ≤ j ∧ i ≤ 1000000 ∧ -1000000 ≤ i then some (rangeR i (j - i).toNat, none, S2) else none
    | _ => none)
  | _ => none) := Eq.trans rfl rfl
@[simp] theorem iEnum_eq : iEnum' f δ S = (match f δ S with
  | some (.dat (.list ds), S1) => some (enumR ds, none, S1)
  | some (.dat (.tuple ds), S1) => some (enumR ds, none, S1)
  | some (.obj k, S1) => (match S1[k]? with
    | some (.lst ds) => some (enumR ds, some (k, ds), S1)
    | _ => none)
  | _ => none) := Eq.trans rfl rfl
@[simp] theorem iZip2_eq : iZip2 f g δ S = (match f δ S with
  | some (x, S1) => (match g δ S1 with
    | some (y, S2) => (match x, y with
      | .dat (.list ds), .dat (.list es) => some (zipR ds es, none, S2)
      | .dat (.tuple ds), .dat (.tuple es) => some (zipR ds es, none, S2)
      | .dat (.list ds), .dat (.tuple es) => some (zipR ds es, none, S2)
      | _, _ => none)
    | none => none)
  | none => none) := Eq.trans rfl rfl
@[simp] theorem oNone_eq : oNone δ S = some (none, S) := Eq.trans rfl rfl
@[simp] theorem oSome_eq : oSome f δ S = (match f δ S with
  | some (.dat (.int i), S1) => some (some i, S1)
  | _ => none) := Eq.trans rfl rfl
@[simp] theorem eSl_eq (lo hi : Om) : eSl f lo hi δ S = (match f δ S with
  | some (x, S1) => (match lo δ S1 with
    | some (l, S2) => (match hi δ S2 with
      | some (h, S3) => (match asD S3 x with
        | some d => (match slD d l h with
          | some r => some (.dat r, S3)
          | none => none)
        | none => none)
      | none => none)
    | none => none)
  | none => none) := Eq.trans rfl rfl
@[simp] theorem asD_dat : asD S (.dat d) = some d := Eq.trans rfl rfl
@[simp] theorem slD_list (ds : List D) (lo hi : Option Int) : slD (.list ds) lo hi = some (.list (cutL ds lo hi)) := Eq.trans rfl rfl
@[simp] theorem slD_tup (ds : List D) (lo hi : Option Int) : slD (.tuple ds) lo hi = some (.tuple (cutL ds lo hi)) := Eq.trans rfl rfl
@[simp] theorem sFor_eq (src : Im) (h : Gm) (b : Sm) (clr : List Nat) : sFor src h b clr δ S = (match src δ S with
  | some (items, gd, S1) => forL h b clr gd items δ S1
  | none => none) := Eq.trans rfl rfl
@[simp] theorem eLstO_eq (h : Am) : eLstO h δ S = (match h δ S with
  | some (rs, S1) => (match datsOf rs with
    | some ds => if ds.length ≤ 1000 then some (.obj S1.length, S1 ++ [.lst ds]) else none
    | none => none)
  | none => none) := Eq.trans rfl rfl
@[simp] theorem eDicO_eq : eDicO δ S = some (.obj S.length, S ++ [.dic []]) := Eq.trans rfl rfl
@[simp] theorem eAppend_eq : eAppend f g δ S = (match f δ S with
  | some (.obj k, S1) => (match lookO S1 k with
    | some _ => (match g δ S1 with
      | some (.dat d, S2) => (match lookO S2 k with
        | some ds => if ds.length < sizeLine then some (.dat .none, S2.set k (.lst (ds ++ [d]))) else none
        | none => none)
      | _ => none)
    | none => none)
  | _ => none) := Eq.trans rfl rfl
@[simp] theorem lookO_last (ds : List D) : lookO (S ++ [.lst ds]) S.length = some ds := by simp [lookO]
@[simp] theorem set_last (o o' : Ob) : (S ++ [o]).set S.length o' = S ++ [o'] := by simp
@[simp] theorem take_last (o : List Ob) : (S ++ o).take S.length = S := by simp
@[simp] theorem lenR_last (ds : List D) : lenR (S ++ [.lst ds]) (.obj S.length) = some (.dat (.int ds.length)) := by
  simp [lenR, asKv, l1, asD, lenD]
@[simp] theorem asD_last (ds : List D) : asD (S ++ [.lst ds]) (.obj S.length) = some (.list ds) := by simp [asD]
@[simp] theorem itemsR_last (ds : List D) : itemsR (S ++ [.lst ds]) (.obj S.length) = some (ds.map .dat, some (S.length, ds)) := by simp [itemsR]
@[simp] theorem clrS_nil : clrS [] δ = δ := Eq.trans rfl rfl
@[simp] theorem clrS_cons (i : Nat) (l : List Nat) : clrS (i :: l) δ = (clrS l δ).set i none := Eq.trans rfl rfl
@[simp] theorem joinD_list (a : Str) (ds : List D) : joinD (.str a) (.list ds) = (match strsOf ds with
  | some ys => if (ys.map (·.length)).sum + ys.length * a.length ≤ 16777216 then some (.str (Txt.join a ys)) else none
  | none => none) := Eq.trans rfl rfl
@[simp] theorem strD_int (i : Int) : strD (.int i) = if i.natAbs.log2 < 1920 then some (.str (toString i)) else none := Eq.trans rfl rfl
@[simp] theorem strD_str (x : Str) : strD (.str x) = some (.str x) := Eq.trans rfl rfl
@[simp] theorem addD_list (xs ys : List D) : addD (.list xs) (.list ys) = if xs.length + ys.length ≤ sizeLine then some (.list (xs ++ ys)) else none := Eq.trans rfl rfl
@[simp] theorem addD_tup (xs ys : List D) : addD (.tuple xs) (.tuple ys) = if xs.length + ys.length ≤ sizeLine then some (.tuple (xs ++ ys)) else none := Eq.trans rfl rfl
end

/-- a def's body, run -/
theorem run_rt {N np : Nat} {b : Sm} {rs : List R} {S S' : SS} {d : D} (h : rs.length = np) (e : b (startD N rs) S = some (.rt (.dat d), S ++ S')) : runFn N np b rs S = some (.dat d, S) := by
  unfold runFn
  rw [if_pos h, e]
  simp [fin, closeR]
theorem run_rt0 {N np : Nat} {b : Sm} {rs : List R} {S : SS} {d : D} (h : rs.length = np) (e : b (startD N rs) S = some (.rt (.dat d), S)) : runFn N np b rs S = some (.dat d, S) :=
  run_rt (S' := []) h (by rw [List.append_nil]; exact e)
/-- a comprehension -/
inductive CompOk (g : Gm) (c : Tm) (e : Em) (δ : Dl) (S : SS) : List R → List D → Prop
  | nil : CompOk g c e δ S [] []
  | yes {r : R} {rs : List R} {d : D} {ds : List D} {δ1 : Dl} : g r δ = some δ1 → (∀ acc, c δ1 (S ++ [.lst acc]) = some (true, S ++ [.lst acc])) → (∀ acc, e δ1 (S ++ [.lst acc]) = some (.dat d, S ++ [.lst acc])) →
      CompOk g c e δ S rs ds → CompOk g c e δ S (r :: rs) (d :: ds)
  | no {r : R} {rs : List R} {ds : List D} {δ1 : Dl} : g r δ = some δ1 → (∀ acc, c δ1 (S ++ [.lst acc]) = some (false, S ++ [.lst acc])) → CompOk g c e δ S rs ds → CompOk g c e δ S (r :: rs) ds
theorem compL_ok {g : Gm} {c : Tm} {e : Em} {δ : Dl} {S : SS} {rs : List R} {ds : List D} {gd : Option (Nat × List D)} (hg : ∀ acc, Stays gd (S ++ [.lst acc])) (h : CompOk g c e δ S rs ds) : ∀ (acc : List D) (n : Nat), acc.length ≤ n → compL g c e δ gd S.length rs n (S ++ [.lst acc]) = some (S ++ [.lst (acc ++ ds)]) := by
  induction h with
  | nil => intro acc n _; simp [compL]
  | @yes r rs d ds δ1 h1 h2 h3 _ ih =>
    intro acc n hn
    unfold compL
    rw [h1]
    simp only [h2, h3, if_true, lookO_last]
    rw [if_pos ⟨by rw [set_last]; exact hg _, hn⟩, set_last, ih (acc ++ [d]) (n + 1) (by rw [List.length_append]; simpa using hn)]
    simp
  | no h1 h2 _ ih =>
    intro acc n hn
    unfold compL
    rw [h1]
    simp only [h2, if_false, Bool.false_eq_true]
    rw [if_pos (hg _)]
    exact ih acc (n + 1) (by omega)
theorem eComp_okG {own : List Nat} {src : Im} {g : Gm} {c : Tm} {e : Em} {δ : Dl} {S S1 : SS} {rs : List R} {ds : List D} {gd : Option (Nat × List D)} (hs : src δ S = some (rs, gd, S1)) (hg : ∀ acc, Stays gd (S1 ++ [.lst acc])) (h : CompOk g c e (clrS own δ) S1 rs ds) :
    eComp own src g c e δ S = some (.dat (.list ds), S1) := by
  unfold eComp
  rw [hs]
  simp only [compL_ok hg h [] 0 (Nat.le_refl _), List.nil_append, lookO_last, take_last]
theorem eComp_ok {own : List Nat} {src : Im} {g : Gm} {c : Tm} {e : Em} {δ : Dl} {S S1 : SS} {rs : List R} {ds : List D} (hs : src δ S = some (rs, none, S1)) (h : CompOk g c e (clrS own δ) S1 rs ds) :
    eComp own src g c e δ S = some (.dat (.list ds), S1) := eComp_okG hs (fun _ => trivial) h
theorem stays_app {S : SS} {k : Nat} {ds : List D} (h : S[k]? = some (.lst ds)) (L : List Ob) : Stays (some (k, ds)) (S ++ L) := by
  show (S ++ L)[k]? = _
  rw [List.getElem?_append_left (List.getElem?_eq_some_iff.mp h).1]
  exact h
/-- map, filter and map -/
theorem CompOk.map {α : Type} {g : Gm} {e : Em} {δ : Dl} {S : SS} (f : α → R) (h : α → D) (l : List α) (hh : ∀ x ∈ l, ∃ δ1, g (f x) δ = some δ1 ∧ ∀ acc, e δ1 (S ++ [.lst acc]) = some (.dat (h x), S ++ [.lst acc])) : CompOk g tTrue e δ S (l.map f) (l.map h) := by
  induction l with
  | nil => exact .nil
  | cons x l ih =>
    obtain ⟨δ1, h1, h2⟩ := hh x List.mem_cons_self
    exact .yes h1 (fun _ => rfl) h2 (ih fun y hy => hh y (List.mem_cons_of_mem _ hy))
theorem CompOk.filter {α : Type} {g : Gm} {c : Tm} {e : Em} {δ : Dl} {S : SS} (f : α → R) (p : α → Bool) (h : α → D) (l : List α)
    (hh : ∀ x ∈ l, ∃ δ1, g (f x) δ = some δ1 ∧ (∀ acc, c δ1 (S ++ [.lst acc]) = some (p x, S ++ [.lst acc])) ∧ (p x = true → ∀ acc, e δ1 (S ++ [.lst acc]) = some (.dat (h x), S ++ [.lst acc]))) : CompOk g c e δ S (l.map f) ((l.filter p).map h) := by
  induction l with
  | nil => exact .nil
  | cons x l ih =>
    obtain ⟨δ1, h1, h2, h3⟩ := hh x List.mem_cons_self
    have ih' := ih fun y hy => hh y (List.mem_cons_of_mem _ hy)
    rw [List.map_cons, List.filter_cons]
    cases hp : p x with
    | true => exact .yes h1 (by rw [hp] at h2; exact h2) (h3 hp) ih'
    | false => exact .no h1 (by rw [hp] at h2; exact h2) ih'
/-- a loop that carries a state -/
theorem forL_fold {α β : Type} {g : Gm} {b : Sm} {clr : List Nat} (f : β → R) (dl : α → Dl) (st : α → SS) (step : α → β → α) (l : List β) (Inv : List β → α → Prop) (x : α) (hi : Inv l x)
    (hh : ∀ y l' x, Inv (y :: l') x → Inv l' (step x y) ∧ ∃ δ1 δ2, g (f y) (dl x) = some δ1 ∧ b δ1 (st x) = some (.nx δ2, st (step x y)) ∧ clrS clr δ2 = dl (step x y)) :
    forL g b clr none (l.map f) (dl x) (st x) = some (.nx (dl (l.foldl step x)), st (l.foldl step x)) := by
  induction l generalizing x with
  | nil => rfl
  | cons y l ih =>
    obtain ⟨h0, δ1, δ2, h1, h2, h3⟩ := hh y l x hi
    rw [List.map_cons]
    unfold forL
    rw [h1]
    simp only [h2, h3]
    rw [if_pos (show Stays none _ from trivial)]
    exact ih (step x y) h0
end Cy
end
section
set_option Elab.async false
set_option maxRecDepth 100000
namespace Cy
open PySem L2

theorem mulD_int (i j : Int) (h : (fitD i || fitD j) = true) : mulD (.int i) (.int j) = some (.int (i * j)) := by
  show (if (fitD i || fitD j) = true then some (PyData.int (i * j)) else none) = _
  rw [if_pos h]
theorem fit_small {i : Int} (h : -(2 ^ 64) < i) (h' : i < 2 ^ 64) : fitD i = true := by
  unfold fitD
  rw [decide_eq_true h, decide_eq_true h']
  rfl
theorem modD_int (i j : Int) (h : 0 < j) : modD (.int i) (.int j) = some (.int (i % j)) := by
  show (if 0 < j then some (PyData.int (i % j)) else none) = _
  rw [if_pos h]
theorem fdivD_int (i j : Int) (h : 0 < j) (h' : j < 1073741824) : fdivD (.int i) (.int j) = some (.int (i / j)) := by
  show (if 0 < j ∧ j < 1073741824 then some (PyData.int (i / j)) else none) = _
  rw [if_pos ⟨h, h'⟩]
theorem fit_lit_l (i j : Int) (h : fitD i = true) : (fitD i || fitD j) = true := by rw [h]; rfl
theorem fit_lit_r (i j : Int) (h : fitD j = true) : (fitD i || fitD j) = true := by rw [h]; exact Bool.or_true _


/-! ### numbers drawn -/
def cellAt (ns : List Int) (k : Nat) : Int := ns.getD k 0
theorem r_cell_at (n : Nat) (ns : List Int) (k : Nat) (S : SS) : Φ (n + 1) .law_cell_at [.scr ns, .dat (.int k)] S = some (.dat (.int (cellAt ns k)), S) := by
  rw [Φ_succ]
  show b_law_cell_at (Φ n) _ S = _
  unfold b_law_cell_at
  refine run_rt0 rfl ?_
  by_cases h : k < ns.length
  · have h' : (k : Int) < (ns.length : Int) := by omega
    have q : atI ns (k : Int) = some ns[k] := atI_nat (List.getElem?_eq_getElem h)
    simp [startD, h', ixR, q, cellAt, h]
  · have h' : ¬ (k : Int) < (ns.length : Int) := by omega
    simp [startD, h', cellAt, h]
def mixedZ (c k : Int) : Int :=
  let d := (c + 7919 * k + 1) * 48271 % 2147483647
  (d * d + 7 * d + k) % 2147483629
def mixed (ns : List Int) (k : Nat) : Nat := (mixedZ (cellAt ns k) k).toNat
theorem mixed_lt (ns : List Int) (k : Nat) : mixed ns k < 2147483629 := by
  unfold mixed mixedZ
  have := Int.emod_lt_of_pos (((cellAt ns k + 7919 * (k : Int) + 1) * 48271 % 2147483647) * ((cellAt ns k + 7919 * (k : Int) + 1) * 48271 % 2147483647) + 7 * ((cellAt ns k + 7919 * (k : Int) + 1) * 48271 % 2147483647) + k) (show (0 : Int) < 2147483629 by decide)
  simp only
  omega
theorem mixed_cast (ns : List Int) (k : Nat) : ((mixed ns k : Nat) : Int) = mixedZ (cellAt ns k) k := by
  unfold mixed
  refine Int.toNat_of_nonneg ?_
  unfold mixedZ
  exact Int.emod_nonneg _ (by decide)
theorem r_mixed (n : Nat) (ns : List Int) (k : Nat) (S : SS) : Φ (n + 2) .law_mixed [.scr ns, .dat (.int k)] S = some (.dat (.int (mixed ns k)), S) := by
  rw [Φ_succ]
  show b_law_mixed (Φ (n + 1)) _ S = _
  unfold b_law_mixed
  refine run_rt0 rfl ?_
  rw [mixed_cast]
  unfold mixedZ
  generalize hd : (cellAt ns k + 7919 * (k : Int) + 1) * 48271 % 2147483647 = d
  have d0 : 0 ≤ d := by rw [← hd]; exact Int.emod_nonneg _ (by decide)
  have d1 : d < 2147483647 := by rw [← hd]; exact Int.emod_lt_of_pos _ (by decide)
  have fd : fitD d = true := fit_small (by omega) (by omega)
  simp [startD, r_cell_at, mulD_int _ _ (fit_lit_l 7919 _ (by decide)), mulD_int _ _ (fit_lit_r _ 48271 (by decide)), mulD_int _ _ (fit_lit_l 7 _ (by decide)), modD_int, hd, mulD_int _ _ (fit_lit_l d _ fd)]
def drawnZ (m k : Int) : Int :=
  let d := (m + 104729 * k + 17) * 69621 % 2147483647
  (d * d + 3 * d + k) % 2147483629
def drawn (m k : Nat) : Nat := (drawnZ m k).toNat
theorem drawn_cast (m k : Nat) : ((drawn m k : Nat) : Int) = drawnZ m k := by
  unfold drawn
  refine Int.toNat_of_nonneg ?_
  unfold drawnZ
  exact Int.emod_nonneg _ (by decide)
theorem r_drawnZ (n : Nat) (m k : Int) (S : SS) : Φ (n + 1) .law_drawn [.dat (.int m), .dat (.int k)] S = some (.dat (.int (drawnZ m k)), S) := by
  rw [Φ_succ]
  show b_law_drawn (Φ n) _ S = _
  unfold b_law_drawn
  refine run_rt0 rfl ?_
  unfold drawnZ
  generalize hd : (m + 104729 * k + 17) * 69621 % 2147483647 = d
  have d0 : 0 ≤ d := by rw [← hd]; exact Int.emod_nonneg _ (by decide)
  have d1 : d < 2147483647 := by rw [← hd]; exact Int.emod_lt_of_pos _ (by decide)
  have fd : fitD d = true := fit_small (by omega) (by omega)
  simp [startD, mulD_int _ _ (fit_lit_l 104729 _ (by decide)), mulD_int _ _ (fit_lit_r _ 69621 (by decide)), mulD_int _ _ (fit_lit_l 3 _ (by decide)), modD_int, hd, mulD_int _ _ (fit_lit_l d _ fd)]
theorem r_drawn (n : Nat) (m k : Nat) (S : SS) : Φ (n + 1) .law_drawn [.dat (.int m), .dat (.int k)] S = some (.dat (.int (drawn m k)), S) := by
  rw [drawn_cast]
  exact r_drawnZ n m k S
/-- what is drawn, as a letter -/
theorem x_drawn (m k : Nat) : ∃ q : Nat, ∀ n S, Φ (n + 1) .law_drawn [.dat (.int m), .dat (.int k)] S = some (.dat (.int q), S) := ⟨drawn m k, fun n S => r_drawn n m k S⟩
theorem x_mixed (ns : List Int) (k : Nat) : ∃ q : Nat, ∀ n S, Φ (n + 2) .law_mixed [.scr ns, .dat (.int k)] S = some (.dat (.int q), S) := ⟨mixed ns k, fun n S => r_mixed n ns k S⟩
end Cy
end
section
set_option Elab.async false
set_option maxRecDepth 100000
namespace Cy
open PySem L2

/-! ### sums as trees -/
inductive Op where
  | plus | less | times | same | under
  deriving DecidableEq
def Op.nm : Op → Str
  | .plus => "plus" | .less => "less" | .times => "times" | .same => "same" | .under => "under"
inductive T where
  | w (n : Nat)
  | v (x : Str)
  | op (o : Op) (a b : T)
  | ite (c a b : T)
  | call (f : Str) (as : List T)
mutual
def enc : T → D
  | .w n => .int n
  | .v x => .str x
  | .op o a b => .tuple [.str o.nm, enc a, enc b]
  | .ite c a b => .tuple [.str "if", enc c, enc a, enc b]
  | .call f as => .tuple [.str "call", .str f, .tuple (encs as)]
def encs : List T → List D
  | [] => []
  | a :: as => enc a :: encs as
end
theorem encs_map : ∀ as : List T, encs as = as.map enc
  | [] => by simp [encs]
  | a :: as => by rw [encs, encs_map as, List.map_cons]
inductive SumOk (names : List Str) (heads : List (Str × Nat)) : Nat → T → Prop
  | w {d n : Nat} : n < 1000 → SumOk names heads d (.w n)
  | v {d : Nat} {x : Str} : x ∈ names → SumOk names heads d (.v x)
  | op {d : Nat} {o : Op} {a b : T} : SumOk names heads d a → SumOk names heads d b → SumOk names heads (d + 1) (.op o a b)
  | ite {d : Nat} {c a b : T} : SumOk names heads d c → SumOk names heads d a → SumOk names heads d b → SumOk names heads (d + 1) (.ite c a b)
  | call {d : Nat} {f : Str} {as : List T} : (f, as.length) ∈ heads → (∀ a ∈ as, SumOk names heads d a) → SumOk names heads (d + 1) (.call f as)
theorem SumOk.mono {names names' : List Str} {heads heads' : List (Str × Nat)} (hn : ∀ x ∈ names, x ∈ names') (hh : ∀ x ∈ heads, x ∈ heads') {d d' : Nat} {t : T} (h : SumOk names heads d t) (hd : d ≤ d') : SumOk names' heads' d' t := by
  induction h generalizing d' with
  | w h => exact .w h
  | v h => exact .v (hn _ h)
  | op _ _ ih1 ih2 =>
    obtain ⟨k, rfl⟩ : ∃ k, d' = k + 1 := ⟨d' - 1, by omega⟩
    exact .op (ih1 (by omega)) (ih2 (by omega))
  | ite _ _ _ ih1 ih2 ih3 =>
    obtain ⟨k, rfl⟩ : ∃ k, d' = k + 1 := ⟨d' - 1, by omega⟩
    exact .ite (ih1 (by omega)) (ih2 (by omega)) (ih3 (by omega))
  | call h _ ih =>
    obtain ⟨k, rfl⟩ : ∃ k, d' = k + 1 := ⟨d' - 1, by omega⟩
    exact .call (hh _ h) fun a ha => ih a ha (by omega)
def namesD (names : List Str) : D := .tuple (names.map .str)
def headD (p : Str × Nat) : D := .tuple [.str p.1, .int p.2]
def headsD (heads : List (Str × Nat)) : D := .list (heads.map headD)

theorem cast_div (m k : Nat) : (m : Int) / (k : Int) = ((m / k : Nat) : Int) := by simp
theorem cast_mod (m k : Nat) : (m : Int) % (k : Int) = ((m % k : Nat) : Int) := by simp
theorem cd4 (m : Nat) : (m : Int) / 4 = ((m / 4 : Nat) : Int) := cast_div m 4
theorem cd16 (m : Nat) : (m : Int) / 16 = ((m / 16 : Nat) : Int) := cast_div m 16
theorem cd64 (m : Nat) : (m : Int) / 64 = ((m / 64 : Nat) : Int) := cast_div m 64
theorem cm4 (m : Nat) : (m : Int) % 4 = ((m % 4 : Nat) : Int) := cast_mod m 4
theorem cm6 (m : Nat) : (m : Int) % 6 = ((m % 6 : Nat) : Int) := cast_mod m 6
theorem cm1000 (m : Nat) : (m : Int) % 1000 = ((m % 1000 : Nat) : Int) := cast_mod m 1000
theorem shaped_int (i : Int) : SeqAt.shaped (.int i) = true := by
  unfold SeqAt.shaped
  simp [PyData.canLay0, PyData.depth]
theorem eqD_int (i j : Int) : eqD (.int i) (.int j) = some (.bool (i == j)) := by
  unfold eqD
  rw [shaped_int, shaped_int]
  simp [PyData.eqv]
theorem neD_int (i j : Int) : neD (.int i) (.int j) = some (.bool (!(i == j))) := by
  unfold neD
  rw [shaped_int, shaped_int]
  simp [PyData.eqv]
theorem shaped_str {x : Str} (h : PyData.strOk x = true) : SeqAt.shaped (.str x) = true := by
  unfold SeqAt.shaped
  simp [PyData.canLay0, h, PyData.depth]
theorem eqD_str {x y : Str} (hx : PyData.strOk x = true) (hy : PyData.strOk y = true) : eqD (.str x) (.str y) = some (.bool (x == y)) := by
  unfold eqD
  rw [shaped_str hx, shaped_str hy]
  simp [PyData.eqv]
theorem neD_str {x y : Str} (hx : PyData.strOk x = true) (hy : PyData.strOk y = true) : neD (.str x) (.str y) = some (.bool (!(x == y))) := by
  unfold neD
  rw [shaped_str hx, shaped_str hy]
  simp [PyData.eqv]
theorem names_len {names : List Str} (h : names.length ≤ 3) : (names.map PyData.str).length ≤ 1000 := by rw [List.length_map]; omega
theorem small_line {n : Nat} (h : n ≤ 1000) : n ≤ sizeLine := Nat.le_trans h le1000

/-- the choice of a leaf -/
theorem leaf (names : List Str) (heads : List (Str × Nat)) (d m : Nat) : ∃ t, SumOk names heads d t ∧
    atI ([PyData.int ((m / 4 : Nat) % 1000 : Nat), .int ((m / 4 : Nat) % 4 : Nat)] ++ names.map .str) ((m / 64 % (names.length + 1 + 1) : Nat) : Int) = some (enc t) := by
  have hlt : m / 64 % (names.length + 1 + 1) < names.length + 1 + 1 := Nat.mod_lt _ (by omega)
  generalize m / 64 % (names.length + 1 + 1) = i at hlt
  match i with
  | 0 => exact ⟨.w (m / 4 % 1000), .w (Nat.mod_lt _ (by decide)), atI_nat rfl⟩
  | 1 => exact ⟨.w (m / 4 % 4), .w (Nat.lt_trans (Nat.mod_lt _ (by decide)) (by decide)), atI_nat rfl⟩
  | j + 2 =>
    have hj : j < names.length := by omega
    refine ⟨.v names[j], .v (List.getElem_mem hj), atI_nat ?_⟩
    show (names.map PyData.str)[j]? = _
    rw [List.getElem?_map, List.getElem?_eq_getElem hj]
    simp [enc]
end Cy
end
section
set_option Elab.async false
set_option maxRecDepth 100000


namespace Cy
open PySem L2

theorem le_sz (n : Nat) (h : n ≤ 1000) : (n ≤ sizeLine) = True := eq_true (small_line h)
@[simp] theorem Op.nm_ok (o : Op) : PyData.strOk o.nm = true := by cases o <;> decide +kernel
theorem op_choice (i : Nat) (h : i < 6) : ∃ o : Op, atI [PyData.str "plus", .str "less", .str "times", .str "same", .str "under", .str "plus"] (i : Int) = some (.str o.nm) := by
  match i, h with
  | 0, _ => exact ⟨.plus, atI_nat rfl⟩
  | 1, _ => exact ⟨.less, atI_nat rfl⟩
  | 2, _ => exact ⟨.times, atI_nat rfl⟩
  | 3, _ => exact ⟨.same, atI_nat rfl⟩
  | 4, _ => exact ⟨.under, atI_nat rfl⟩
  | 5, _ => exact ⟨.plus, atI_nat rfl⟩
theorem head_choice (heads : List (Str × Nat)) (i : Nat) (h : i < heads.length) : ∃ p ∈ heads, atI (heads.map headD) (i : Int) = some (.tuple [.str p.1, .int p.2]) :=
  ⟨heads[i], List.getElem_mem h, atI_nat (by rw [List.getElem?_map, List.getElem?_eq_getElem h] <;> rfl)⟩
theorem cut_to {α : Type} (xs : List α) (k : Nat) : cutL xs none (some (k : Int)) = xs.take k := by
  unfold cutL
  rw [HT.sIx_none, HT.sIx_nat]
  simp
theorem cut_from {α : Type} (xs : List α) (k : Nat) : cutL xs (some (k : Int)) none = xs.drop k := by
  unfold cutL
  rw [HT.sIx_none, HT.sIx_nat]
  by_cases h : k ≤ xs.length
  · rw [Nat.min_eq_left h]
    rw [List.take_of_length_le (by simp)]
  · rw [Nat.min_eq_right (by omega)]
    rw [List.drop_eq_nil_of_le (Nat.le_refl _), List.drop_eq_nil_of_le (by omega)]
    simp
theorem r_sum (names : List Str) (heads : List (Str × Nat)) (hn : names.length ≤ 3) (hh : ∀ p ∈ heads, p.2 ≤ 3) (hl : heads.length ≤ 4) :
    ∀ (d m : Nat), ∃ t, SumOk names heads d t ∧ ∀ n S, Φ (n + d + 1) .law_sum [.dat (.int m), .dat (namesD names), .dat (headsD heads), .dat (.int d)] S = some (.dat (enc t), S) := by
  have sz : 2 + names.length ≤ sizeLine := small_line (by omega)
  intro d
  induction d with
  | zero =>
    intro m
    obtain ⟨t, ht, h⟩ := leaf names heads 0 m
    refine ⟨t, ht, fun n S => ?_⟩
    rw [Φ_succ]
    show b_law_sum (Φ (n + 0)) _ S = _
    unfold b_law_sum
    refine run_rt0 rfl ?_
    have e3 : (0 : Int) < (names.length : Int) + 1 + 1 := by omega
    have h' := h
    simp at h'
    simp [startD, eqD_int, modD_int, fdivD_int, namesD, sz, e3, h']
  | succ d ih =>
    intro m
    by_cases h4 : m % 4 = 0
    · obtain ⟨t, ht, h⟩ := leaf names heads (d + 1) m
      refine ⟨t, ht, fun n S => ?_⟩
      rw [Φ_succ]
      show b_law_sum (Φ (n + (d + 1))) _ S = _
      unfold b_law_sum
      refine run_rt0 rfl ?_
      have e3 : (0 : Int) < (names.length : Int) + 1 + 1 := by omega
      have h' := h
      simp at h'
      have e4 : (m : Int) % 4 = 0 := by omega
      have e5 : ¬ ((d : Int) + 1 = 0) := by omega
      simp [startD, eqD_int, modD_int, fdivD_int, namesD, sz, e3, h', e4, e5]
    · obtain ⟨q1, d1⟩ := x_drawn m 1
      obtain ⟨q2, d2⟩ := x_drawn m 2
      obtain ⟨q3, d3⟩ := x_drawn m 3
      obtain ⟨t1, o1, f1⟩ := ih (q1 / 4)
      obtain ⟨t2, o2, f2⟩ := ih (q2 / 4)
      obtain ⟨t3, o3, f3⟩ := ih (q3 / 4)
      have e4 : ¬ (m : Int) % 4 = 0 := by omega
      have e5 : ¬ ((d : Int) + 1 = 0) := by omega
      have e6 : (d : Int) + 1 - 1 = d := by omega
      have cmp : ∀ (n : Nat) (S : SS), eComp [8] (iSeq (eN tupR (aCons (eC (.int 1)) (aCons (eC (.int 2)) (aCons (eC (.int 3)) aNil))))) (gNm 8) tTrue (eCall (Φ (n + (d + 1)) .law_sum) (aCons (e2 (l2 fdivD) (eCall (Φ (n + (d + 1)) .law_drawn) (aCons (eVar 0) (aCons (eVar 8) aNil))) (eC (.int 4))) (aCons (eVar 1) (aCons (eVar 2) (aCons (e2 (l2 subD) (eVar 3) (eC (.int 1))) aNil)))))
          [some (.dat (.int m)), some (.dat (namesD names)), some (.dat (headsD heads)), some (.dat (.int ((d : Int) + 1))), none, none, none, none, none] S = some (.dat (.list [enc t1, enc t2, enc t3]), S) := by
        intro n S
        refine eComp_ok (rs := [.dat (.int 1), .dat (.int 2), .dat (.int 3)]) (by simp) ?_
        have g1 := fun acc => f1 n (S ++ [.lst acc])
        have g2 := fun acc => f2 n (S ++ [.lst acc])
        have g3 := fun acc => f3 n (S ++ [.lst acc])
        have d1 := fun acc => d1 (n + d) (S ++ [.lst acc])
        have d2 := fun acc => d2 (n + d) (S ++ [.lst acc])
        have d3 := fun acc => d3 (n + d) (S ++ [.lst acc])
        simp at g1 g2 g3 d1 d2 d3
        rw [Nat.add_assoc] at d1 d2 d3 g1 g2 g3
        refine .yes rfl (fun _ => rfl) (fun acc => ?_) (.yes rfl (fun _ => rfl) (fun acc => ?_) (.yes rfl (fun _ => rfl) (fun acc => ?_) .nil))
        · simp [d1, e6, fdivD_int, g1]
        · simp [d2, e6, fdivD_int, g2]
        · simp [d3, e6, fdivD_int, g3]
      by_cases h1 : m % 4 = 1 ∧ 0 < heads.length
      · have hi : m / 16 % heads.length < heads.length := Nat.mod_lt _ h1.2
        obtain ⟨p, hp, hc⟩ := head_choice heads _ hi
        have hp3 := hh p hp
        refine ⟨.call p.1 ([t1, t2, t3].take p.2), .call (by rw [List.length_take]; simpa [Nat.min_eq_left hp3] using hp) fun a ha => ?_, fun n S => ?_⟩
        · have := List.mem_of_mem_take ha
          simp at this
          rcases this with rfl | rfl | rfl <;> assumption
        · rw [Φ_succ]
          show b_law_sum (Φ (n + (d + 1))) _ S = _
          unfold b_law_sum
          refine run_rt0 rfl ?_
          have e7 : (m : Int) % 4 = 1 := by omega
          have e8 : (0 : Int) < (heads.length : Int) := by omega
          have cmp := cmp n S
          unfold headsD at cmp ⊢
          simp at hc
          simp [startD, eqD_int, modD_int, fdivD_int, e4, e5, cmp, e7, h1.2, hc, cut_to, enc, encs_map]
      · have e8 : ¬ ((m : Int) % 4 = 1 ∧ 0 < heads.length) := fun z => h1 ⟨by omega, z.2⟩
        by_cases h2 : m % 4 = 2
        · refine ⟨.ite t1 t2 t3, .ite o1 o2 o3, fun n S => ?_⟩
          rw [Φ_succ]
          show b_law_sum (Φ (n + (d + 1))) _ S = _
          unfold b_law_sum
          refine run_rt0 rfl ?_
          have e7 : (m : Int) % 4 = 2 := by omega
          have cmp := cmp n S
          unfold headsD at cmp ⊢
          simp [startD, eqD_int, modD_int, fdivD_int, e4, e5, cmp, e7, enc]
        · obtain ⟨o, ho⟩ := op_choice (m / 16 % 6) (Nat.mod_lt _ (by decide))
          refine ⟨.op o t1 t2, .op o1 o2, fun n S => ?_⟩
          rw [Φ_succ]
          show b_law_sum (Φ (n + (d + 1))) _ S = _
          unfold b_law_sum
          refine run_rt0 rfl ?_
          have e7 : ¬ (m : Int) % 4 = 2 := by omega
          have cmp := cmp n S
          unfold headsD at cmp ⊢
          simp at ho
          by_cases h3 : m % 4 = 1
          · have h5 : ¬ 0 < heads.length := fun z => h1 ⟨h3, z⟩
            have h6 : (m : Int) % 4 = 1 := by omega
            simp [startD, eqD_int, modD_int, fdivD_int, e4, e5, cmp, h6, h5, ho, enc]
          · have h6 : ¬ (m : Int) % 4 = 1 := by omega
            simp [startD, eqD_int, modD_int, fdivD_int, e4, e5, cmp, e7, h6, ho, enc]
end Cy
end
section
set_option Elab.async false
set_option maxRecDepth 100000
namespace Cy
open PySem L2

@[simp] theorem sz0 : 0 < sizeLine := by rw [sizeLine_eq]; decide
@[simp] theorem sz1 : 1 < sizeLine := by rw [sizeLine_eq]; decide
@[simp] theorem sz2 : 2 < sizeLine := by rw [sizeLine_eq]; decide
@[simp] theorem sz3 : 3 < sizeLine := by rw [sizeLine_eq]; decide
section
variable {g : Gm} {b : Sm} {clr : List Nat} {δ : Dl} {S : SS} {r : R} {rs : List R}
@[simp] theorem forL_nil (gd : Option (Nat × List D)) : forL g b clr gd [] δ S = some (.nx δ, S) := by unfold forL; rfl
@[simp] theorem forL_cons : forL g b clr none (r :: rs) δ S = (match g r δ with
    | some δ1 => (match b δ1 S with
      | some (.nx δ2, S2) => forL g b clr none rs (clrS clr δ2) S2
      | some (.rt v, S2) => some (.rt v, S2)
      | none => none)
    | none => none) := by
  conv => lhs; unfold forL
  cases g r δ with
  | none => rfl
  | some δ1 =>
    simp only
    cases b δ1 S with
    | none => rfl
    | some p =>
      obtain ⟨fl, S2⟩ := p
      cases fl with
      | rt v => rfl
      | nx δ2 => simp only; rw [if_pos (show Stays none S2 from trivial)]
end
theorem forL_consG {g : Gm} {b : Sm} {clr : List Nat} {δ δ1 δ2 : Dl} {S S2 : SS} {r : R} {rs : List R} {gd : Option (Nat × List D)} (h1 : g r δ = some δ1) (h2 : b δ1 S = some (.nx δ2, S2)) (hs : Stays gd S2) :
    forL g b clr gd (r :: rs) δ S = forL g b clr gd rs (clrS clr δ2) S2 := by
  conv => lhs; unfold forL
  rw [h1]
  simp only [h2]
  rw [if_pos hs]
theorem last_of (names : List Str) (h : names ≠ []) : ∃ z ∈ names, atI (names.map PyData.str) (-1) = some (.str z) := by
  have e : names.map PyData.str = (names.dropLast.map PyData.str) ++ [.str (names.getLast h)] := by
    conv => lhs; rw [← List.dropLast_concat_getLast h]
    simp
  exact ⟨names.getLast h, List.getLast_mem h, by rw [e]; exact atI_last _ _⟩
theorem pick4 (P : T → Prop) {a b c d : T} (ha : P a) (hb : P b) (hc : P c) (hd : P d) (i : Nat) (h : i < 4) : ∃ t, P t ∧ atI [enc a, enc b, enc c, enc d] (i : Int) = some (enc t) := by
  match i, h with
  | 0, _ => exact ⟨a, ha, atI_nat rfl⟩
  | 1, _ => exact ⟨b, hb, atI_nat rfl⟩
  | 2, _ => exact ⟨c, hc, atI_nat rfl⟩
  | 3, _ => exact ⟨d, hd, atI_nat rfl⟩
/-- the sums that are handed to the maker that is called again -/
theorem x_sums (names : List Str) (hn : names.length ≤ 3) (x : Str) (hx : x ∈ names) (m : Nat) (k : Nat) (hk : k ≤ 3) : ∃ ts : List T, ts.length = k ∧ (∀ t ∈ ts, SumOk names [] 1 t) ∧
    ∀ (n : Nat) (S : SS) (a b c d e f g h i : Option R) (j : Nat), ∃ dsums,
      forL (gNm 7) (sExpr (eAppend (eVar 6) (eCall (Φ (n + 3) .law_sum) (aCons (e2 (l2 fdivD) (eCall (Φ (n + 3) .law_drawn) (aCons (eVar 0) (aCons (e2 (l2 addD) (eC (.int 10)) (eVar 7)) aNil))) (eC (.int 4))) (aCons (eVar 2) (aCons (eN lstR aNil) (aCons (eC (.int 1)) aNil))))))) [7] none (rangeR 1 ((k : Int) - 1).toNat)
        [some (.dat (.int m)), a, some (.dat (namesD names)), b, c, d, some (.obj S.length), none, e, f, g, h] (S ++ [.lst [enc (.op .less (.v x) (.w 1))]]) =
      some (.nx [some (.dat (.int m)), a, some (.dat (namesD names)), b, c, d, some (.obj S.length), none, e, f, g, h], S ++ [.lst dsums]) ∧ cutL dsums none (some (k : Int)) = encs ts := by
  obtain ⟨q1, d1⟩ := x_drawn m 11
  obtain ⟨q2, d2⟩ := x_drawn m 12
  obtain ⟨t1, o1, f1⟩ := r_sum names [] hn (by simp) (by simp) 1 (q1 / 4)
  obtain ⟨t2, o2, f2⟩ := r_sum names [] hn (by simp) (by simp) 1 (q2 / 4)
  have o0 : SumOk names [] 1 (.op .less (.v x) (.w 1)) := .op (.v hx) (.w (by decide))
  have d1 : ∀ n S, Φ (n + 3) .law_drawn [.dat (.int m), .dat (.int 11)] S = some (.dat (.int q1), S) := fun n S => d1 (n + 2) S
  have d2 : ∀ n S, Φ (n + 3) .law_drawn [.dat (.int m), .dat (.int 12)] S = some (.dat (.int q2), S) := fun n S => d2 (n + 2) S
  have f1 : ∀ n S, Φ (n + 3) .law_sum [.dat (.int ((q1 / 4 : Nat) : Int)), .dat (namesD names), .dat (.list []), .dat (.int 1)] S = some (.dat (enc t1), S) := fun n S => f1 (n + 1) S
  have f2 : ∀ n S, Φ (n + 3) .law_sum [.dat (.int ((q2 / 4 : Nat) : Int)), .dat (namesD names), .dat (.list []), .dat (.int 1)] S = some (.dat (enc t2), S) := fun n S => f2 (n + 1) S
  simp at f1 f2
  match k, hk with
  | 0, _ => exact ⟨[], rfl, by simp, fun n S a b c d e f g h i j => ⟨[enc (.op .less (.v x) (.w 1))], by simp [rangeR], by rw [cut_to]; simp [encs]⟩⟩
  | 1, _ => exact ⟨[_], rfl, by simpa using o0, fun n S a b c d e f g h i j => ⟨[enc (.op .less (.v x) (.w 1))], by simp [rangeR], by rw [cut_to]; simp [encs]⟩⟩
  | 2, _ => exact ⟨[_, t1], rfl, by simpa using ⟨o0, o1⟩, fun n S a b c d e f g h i j => ⟨[enc (.op .less (.v x) (.w 1)), enc t1], by simp [rangeR, List.range_succ, fdivD_int, d1, f1], by rw [cut_to]; simp [encs]⟩⟩
  | 3, _ => exact ⟨[_, t1, t2], rfl, by simpa using ⟨o0, o1, o2⟩, fun n S a b c d e f g h i j => ⟨[enc (.op .less (.v x) (.w 1)), enc t1, enc t2], by simp [rangeR, List.range_succ, fdivD_int, d1, f1, d2, f2, small_line], by rw [cut_to]; simp [encs]⟩⟩
end Cy
end
section
set_option Elab.async false
set_option maxRecDepth 100000
namespace Cy
open PySem L2
theorem pair_pick {a b : D} (m : Nat) : ∃ c, (c = a ∨ c = b) ∧ atI [a, b] ((m : Int) % 2) = some c := by
  have e : (m : Int) % 2 = ((m % 2 : Nat) : Int) := by omega
  rw [e]
  have h : m % 2 < 2 := Nat.mod_lt _ (by decide)
  generalize m % 2 = i at h
  match i, h with
  | 0, _ => exact ⟨a, .inl rfl, atI_nat rfl⟩
  | 1, _ => exact ⟨b, .inr rfl, atI_nat rfl⟩
/-- the step of a maker that is called again -/
inductive StepOk (names : List Str) (heads : List (Str × Nat)) : T → Prop
  | call {f : Str} {as : List T} : (f, as.length) ∈ heads → (∀ a ∈ as, SumOk names [] 1 a) → StepOk names heads (.call f as)
  | left {o : Op} {t : T} {f : Str} {as : List T} : SumOk names [] 1 t → (f, as.length) ∈ heads → (∀ a ∈ as, SumOk names [] 1 a) → StepOk names heads (.op o t (.call f as))
  | right {o : Op} {t : T} {f : Str} {as : List T} : SumOk names [] 1 t → (f, as.length) ∈ heads → (∀ a ∈ as, SumOk names [] 1 a) → StepOk names heads (.op o (.call f as) t)
inductive AgainOk (names : List Str) (heads : List (Str × Nat)) : T → Prop
  | mk {te st t2 : T} : SumOk names [] 1 te → StepOk names heads st → SumOk names [] 2 t2 → AgainOk names heads (.ite te st t2)
theorem StepOk.sum {names : List Str} {heads : List (Str × Nat)} {t : T} (h : StepOk names heads t) : SumOk names heads 3 t := by
  have up : ∀ {d d' : Nat} {t : T}, SumOk names [] d t → d ≤ d' → SumOk names heads d' t := fun h hd => h.mono (fun _ h => h) (by simp) hd
  cases h with
  | call h1 h2 => exact (SumOk.call h1 fun a ha => up (h2 a ha) (Nat.le_refl 1)).mono (fun _ h => h) (fun _ h => h) (by decide)
  | left h h1 h2 => exact .op (up h (by decide)) (.call h1 fun a ha => up (h2 a ha) (Nat.le_refl 1))
  | right h h1 h2 => exact .op (.call h1 fun a ha => up (h2 a ha) (Nat.le_refl 1)) (up h (by decide))
theorem AgainOk.sum {names : List Str} {heads : List (Str × Nat)} {t : T} (h : AgainOk names heads t) : SumOk names heads 4 t := by
  have up : ∀ {d d' : Nat} {t : T}, SumOk names [] d t → d ≤ d' → SumOk names heads d' t := fun h hd => h.mono (fun _ h => h) (by simp) hd
  cases h with
  | mk h1 h2 h3 => exact .ite (up h1 (by decide)) h2.sum (up h3 (by decide))
theorem r_again (name : Str) (names : List Str) (heads : List (Str × Nat)) (hn : names.length ≤ 3) (hne : names ≠ []) (hh : ∀ p ∈ heads, p.2 ≤ 3) (hl : heads.length ≤ 4) (h0 : (name, names.length) ∈ heads) (m : Nat) :
    ∃ t, AgainOk names heads t ∧ ∀ n S, Φ (n + 4) .law_again [.dat (.int m), .dat (.str name), .dat (namesD names), .dat (headsD heads)] S = some (.dat (enc t), S) := by
  obtain ⟨x, r, rfl⟩ : ∃ x r, names = x :: r := by
    cases names with
    | nil => exact absurd rfl hne
    | cons x r => exact ⟨x, r, rfl⟩
  have hx : x ∈ x :: r := List.mem_cons_self
  obtain ⟨z, hz, hzl⟩ := last_of (x :: r) hne
  have hlen : 0 < heads.length := List.length_pos_of_mem h0
  obtain ⟨p, hp, hc⟩ := head_choice heads (m / 4 % heads.length) (Nat.mod_lt _ hlen)
  obtain ⟨pr, hpr, hpk⟩ : ∃ pr ∈ heads, atI [PyData.tuple [.str name, .int ((x :: r).length : Nat)], .tuple [.str p.1, .int p.2]] ((m : Int) % 2) = some (.tuple [.str pr.1, .int pr.2]) := by
    obtain ⟨c, hc | hc, e⟩ := pair_pick (a := PyData.tuple [.str name, .int ((x :: r).length : Nat)]) (b := .tuple [.str p.1, .int p.2]) m
    · exact ⟨_, h0, by rw [e, hc]⟩
    · exact ⟨p, hp, by rw [e, hc]⟩
  have hk3 := hh pr hpr
  obtain ⟨ts, tl, tok, tf⟩ := x_sums (x :: r) hn x hx m pr.2 hk3
  obtain ⟨q1, d1⟩ := x_drawn m 14
  obtain ⟨q2, d2⟩ := x_drawn m 15
  obtain ⟨t1, o1, f1⟩ := r_sum (x :: r) [] hn (by simp) (by simp) 1 (q1 / 4)
  obtain ⟨t2, o2, f2⟩ := r_sum (x :: r) [] hn (by simp) (by simp) 2 (q2 / 4)
  have hm : (pr.1, ts.length) ∈ heads := by rw [tl]; exact hpr
  obtain ⟨st, so, sk⟩ := pick4 (StepOk (x :: r) heads) (a := .call pr.1 ts) (b := .op .plus t1 (.call pr.1 ts)) (c := .op .times (.call pr.1 ts) t1) (d := .op .less (.call pr.1 ts) t1) (.call hm tok) (.left o1 hm tok) (.right o1 hm tok) (.right o1 hm tok)
    (m / 64 % 4) (Nat.mod_lt _ (by decide))
  obtain ⟨te, to, tk⟩ := pick4 (SumOk (x :: r) [] 1) (a := .v x) (b := .v x) (c := .op .under (.w 0) (.v x)) (d := .op .same (.v z) (.w 1)) (.v hx) (.v hx) (.op (.w (by decide)) (.v hx)) (.op (.v hz) (.w (by decide)))
    (m / 256 % 4) (Nat.mod_lt _ (by decide))
  refine ⟨.ite te st t2, .mk to so o2, fun n S => ?_⟩
  rw [Φ_succ]
  show b_law_again (Φ (n + 3)) _ S = _
  unfold b_law_again
  have d1 : ∀ S, Φ (n + 3) .law_drawn [.dat (.int m), .dat (.int 14)] S = some (.dat (.int q1), S) := fun S => d1 (n + 2) S
  have d2 : ∀ S, Φ (n + 3) .law_drawn [.dat (.int m), .dat (.int 15)] S = some (.dat (.int q2), S) := fun S => d2 (n + 2) S
  have f1 : ∀ S, Φ (n + 3) .law_sum [.dat (.int ((q1 / 4 : Nat) : Int)), .dat (namesD (x :: r)), .dat (.list []), .dat (.int 1)] S = some (.dat (enc t1), S) := fun S => f1 (n + 1) S
  have f2 : ∀ S, Φ (n + 3) .law_sum [.dat (.int ((q2 / 4 : Nat) : Int)), .dat (namesD (x :: r)), .dat (.list []), .dat (.int 2)] S = some (.dat (enc t2), S) := fun S => f2 n S
  obtain ⟨dsums, tf, tcut⟩ := tf n S (some (.dat (.str name))) (some (.dat (headsD heads))) (some (.dat (.str pr.1))) (some (.dat (.int pr.2))) none none none none none 0
  refine run_rt (S' := [.lst dsums]) rfl ?_
  have hkz : (pr.2 : Int) ≤ 1000000 := by omega
  have hkz2 : (-1000000 : Int) ≤ (pr.2 : Int) := by omega
  simp [headsD, namesD, enc, Op.nm] at tf f1 f2 hc hpk sk tk hzl tcut
  simp [startD, eqD_int, modD_int, fdivD_int, headsD, namesD, hlen, hc, hpk, hkz, hkz2, tf, tcut, d1, d2, f1, f2, sk, tk, hzl, enc]
end Cy
end
section
set_option Elab.async false
set_option maxRecDepth 100000
namespace Cy
open PySem L2
def MK : List Str := ["f", "g", "pow", "h"]
def NS : List (List Str) := [["n"], ["n", "a"], ["a"], ["n", "a", "b"], [], ["a", "b"]]
/-- a maker: its name, names, sum -/
abbrev Mk' := Str × List Str × T
def encM (m : Mk') : D := .tuple [.str m.1, namesD m.2.1, enc m.2.2]
def encB (b : List Mk') : D := .tuple (b.map encM)
def headsOf (b : List Mk') : List (Str × Nat) := b.map fun m => (m.1, m.2.1.length)
theorem NS_ok : ∀ ns ∈ NS, ns.length ≤ 3 ∧ (∀ x ∈ ns, PyData.strOk x = true) ∧ ns.Nodup := by decide +kernel
theorem MK_ok : ∀ x ∈ MK, PyData.strOk x = true := by decide +kernel
theorem canLay_strs : ∀ ns : List Str, (∀ x ∈ ns, PyData.strOk x = true) → PyData.canLayAll0 (ns.map PyData.str) = true
  | [], _ => by simp [PyData.canLayAll0]
  | x :: r, h => by
    rw [List.map_cons, PyData.canLayAll0, canLay_strs r fun y hy => h y (List.mem_cons_of_mem _ hy)]
    simp [PyData.canLay0, h x List.mem_cons_self]
theorem depth_strs : ∀ ns : List Str, PyData.depthAll (ns.map PyData.str) = 0
  | [] => by simp [PyData.depthAll]
  | x :: r => by rw [List.map_cons, PyData.depthAll, depth_strs r]; simp [PyData.depth]
theorem shaped_names (ns : List Str) (h : ∀ x ∈ ns, PyData.strOk x = true) : SeqAt.shaped (namesD ns) = true := by
  unfold SeqAt.shaped namesD
  rw [PyData.canLay0, canLay_strs ns h, PyData.depth, depth_strs]
  decide
theorem ne_empty (ns : List Str) (h : ∀ x ∈ ns, PyData.strOk x = true) : neD (namesD ns) (.tuple []) = some (.bool (!ns.isEmpty)) := by
  unfold neD
  rw [shaped_names ns h, show SeqAt.shaped (.tuple []) = true from shaped_names [] (by simp)]
  cases ns with
  | nil => simp [namesD, PyData.eqv, PyData.eqvAll]
  | cons x r => simp [namesD, PyData.eqv, PyData.eqvAll]
theorem ns_pick (i : Nat) (h : i < 6) : ∃ ns ∈ NS, atI [namesD ["n"], namesD ["n", "a"], namesD ["a"], namesD ["n", "a", "b"], namesD [], namesD ["a", "b"]] (i : Int) = some (namesD ns) := by
  match i, h with
  | 0, _ => exact ⟨["n"], by simp [NS], atI_nat rfl⟩
  | 1, _ => exact ⟨["n", "a"], by simp [NS], atI_nat rfl⟩
  | 2, _ => exact ⟨["a"], by simp [NS], atI_nat rfl⟩
  | 3, _ => exact ⟨["n", "a", "b"], by simp [NS], atI_nat rfl⟩
  | 4, _ => exact ⟨[], by simp [NS], atI_nat rfl⟩
  | 5, _ => exact ⟨["a", "b"], by simp [NS], atI_nat rfl⟩
theorem mk_pick (i : Nat) (h : i < 4) : ∃ x, MK[i]? = some x ∧ atI [PyData.str "f", .str "g", .str "pow", .str "h"] (i : Int) = some (.str x) := by
  match i, h with
  | 0, _ => exact ⟨"f", rfl, atI_nat rfl⟩
  | 1, _ => exact ⟨"g", rfl, atI_nat rfl⟩
  | 2, _ => exact ⟨"pow", rfl, atI_nat rfl⟩
  | 3, _ => exact ⟨"h", rfl, atI_nat rfl⟩
theorem len_pick (i : Nat) (h : i < 6) : ∃ k : Nat, 1 ≤ k ∧ k ≤ 4 ∧ atI [PyData.int 2, .int 1, .int 3, .int 4, .int 2, .int 3] (i : Int) = some (.int k) := by
  match i, h with
  | 0, _ => exact ⟨2, by decide, by decide, atI_nat rfl⟩
  | 1, _ => exact ⟨1, by decide, by decide, atI_nat rfl⟩
  | 2, _ => exact ⟨3, by decide, by decide, atI_nat rfl⟩
  | 3, _ => exact ⟨4, by decide, by decide, atI_nat rfl⟩
  | 4, _ => exact ⟨2, by decide, by decide, atI_nat rfl⟩
  | 5, _ => exact ⟨3, by decide, by decide, atI_nat rfl⟩
/-- a head as the first loop lays it -/
def encHd (p : Str × List Str) : D := .tuple [.str p.1, namesD p.2]
noncomputable abbrev hdBody (n : Nat) : Sm := sSeq (sAsg (e2 (l2 fdivD) (eCall (Φ (n + 1) .law_drawn) (aCons (eVar 0) (aCons (eVar 2) aNil))) (eC (.int 4))) (gNm 3))
  (sSeq (sAsg (e2 ixR (eN lstR (aCons (eN tupR (aCons (eC (.str "n")) aNil)) (aCons (eN tupR (aCons (eC (.str "n")) (aCons (eC (.str "a")) aNil))) (aCons (eN tupR (aCons (eC (.str "a")) aNil)) (aCons (eN tupR (aCons (eC (.str "n")) (aCons (eC (.str "a")) (aCons (eC (.str "b")) aNil)))) (aCons (eN tupR aNil) (aCons (eN tupR (aCons (eC (.str "a")) (aCons (eC (.str "b")) aNil))) aNil))))))) (e2 (l2 modD) (eVar 3) (eC (.int 6)))) (gNm 4))
  (sExpr (eAppend (eVar 1) (eN tupR (aCons (e2 ixR (eN tupR (aCons (eC (.str "f")) (aCons (eC (.str "g")) (aCons (eC (.str "pow")) (aCons (eC (.str "h")) aNil))))) (eVar 2)) (aCons (eVar 4) aNil))))))
/-- the first loop -/
theorem x_heads (m : Nat) : ∀ (k i : Nat), i + k ≤ 4 → ∃ hs : List (Str × List Str), hs.length = k ∧ (∀ j p, hs[j]? = some p → MK[i + j]? = some p.1 ∧ p.2 ∈ NS) ∧
    ∀ (n : Nat) (S : SS) (acc : List D) (a b c d e : Option R), acc.length + k ≤ 4 → forL (gNm 2) (hdBody n) [2, 3, 4] none
      ((List.range' i k).map fun (j : Nat) => .dat (.int j)) [some (.dat (.int m)), some (.obj S.length), none, none, none, a, b, c, d, e] (S ++ [.lst acc]) =
      some (.nx [some (.dat (.int m)), some (.obj S.length), none, none, none, a, b, c, d, e], S ++ [.lst (acc ++ hs.map encHd)]) := by
  intro k
  induction k with
  | zero => intro i _; exact ⟨[], rfl, by simp, fun n S acc a b c d e _ => by simp⟩
  | succ k ih =>
    intro i hi
    obtain ⟨q, dr⟩ := x_drawn m i
    obtain ⟨ns, hns, nk⟩ := ns_pick (q / 4 % 6) (Nat.mod_lt _ (by decide))
    obtain ⟨x, hx, xk⟩ := mk_pick i (by omega)
    obtain ⟨hs, h1, h2, h3⟩ := ih (i + 1) (by omega)
    refine ⟨(x, ns) :: hs, by simp [h1], fun j p hj => ?_, fun n S acc a b c d e hacc => ?_⟩
    · cases j with
      | zero => simp at hj; subst hj; exact ⟨by simpa using hx, hns⟩
      | succ j =>
        have := h2 j p (by simpa using hj)
        rw [show i + (j + 1) = i + 1 + j by omega]
        exact this
    · have h3 := h3 n S (acc ++ [encHd (x, ns)]) a b c d e
      have dr : ∀ S, Φ (n + 1) .law_drawn [.dat (.int m), .dat (.int (i : Nat))] S = some (.dat (.int q), S) := fun S => dr n S
      rw [List.range'_succ, List.map_cons]
      have step : ∀ rs, forL (gNm 2) (hdBody n) [2, 3, 4] none (R.dat (.int (i : Nat)) :: rs) [some (.dat (.int m)), some (.obj S.length), none, none, none, a, b, c, d, e] (S ++ [.lst acc]) =
          forL (gNm 2) (hdBody n) [2, 3, 4] none rs [some (.dat (.int m)), some (.obj S.length), none, none, none, a, b, c, d, e] (S ++ [.lst (acc ++ [encHd (x, ns)])]) := by
        intro rs
        rw [forL_cons]
        have hsz : acc.length < sizeLine := by rw [sizeLine_eq]; omega
        simp [namesD] at nk xk dr
        simp [modD_int, fdivD_int, dr, nk, xk, hsz, namesD, encHd]
      rw [step, h3 (by rw [List.length_append]; simp; omega)]
      simp
end Cy
end
section
set_option Elab.async false
set_option maxRecDepth 100000
namespace Cy
open PySem L2
noncomputable def bkIf (n : Nat) : Sm := (sIf (tAn (tOf (e2 (l2 gtD) (e2 (l2 modD) (eVar 3) (eC (.int 3))) (eC (.int 0)))) (tOf (e2 (l2 neD) (e2 ixR (eVar 6) (eC (.int 1))) (eN tupR aNil))))
  (sAsg (eCall (Φ (n + 4) .law_again) (aCons (e2 (l2 fdivD) (eVar 3) (eC (.int 4))) (aCons (e2 ixR (eVar 6) (eC (.int 0))) (aCons (e2 ixR (eVar 6) (eC (.int 1))) (aCons (eVar 7) aNil))))) (gNm 8))
  (sAsg (eCall (Φ (n + 4) .law_sum) (aCons (e2 (l2 fdivD) (eVar 3) (eC (.int 4))) (aCons (e2 ixR (eVar 6) (eC (.int 1))) (aCons (eSl (eVar 7) oNone (oSome (eVar 2))) (aCons (eC (.int 3)) aNil))))) (gNm 8)))
noncomputable abbrev bkBody (n : Nat) : Sm :=
  (sSeq (sAsg (e2 (l2 fdivD) (eCall (Φ (n + 4) .law_drawn) (aCons (eVar 0) (aCons (e2 (l2 addD) (eC (.int 10)) (eVar 2)) aNil))) (eC (.int 4))) (gNm 3))
  (sSeq (sAsg (eComp [9, 4] (iSeq (eVar 1)) (gTp 2 (gsCons (gNm 9) (gsCons (gNm 4) gsNil))) tTrue (eN tupR (aCons (eVar 9) (aCons (e1 lenR (eVar 4)) aNil)))) (gNm 7))
  (sSeq (bkIf n)
  (sAsg (e2 (l2 addD) (eVar 5) (eN tupR (aCons (eN tupR (aCons (e2 ixR (eVar 6) (eC (.int 0))) (aCons (e2 ixR (eVar 6) (eC (.int 1))) (aCons (eVar 8) aNil)))) aNil))) (gNm 5)))))
def hdsOf (hs : List (Str × List Str)) : List (Str × Nat) := hs.map fun p => (p.1, p.2.length)
def SOk (H : List (Str × Nat)) (i : Nat) (ns : List Str) (t : T) : Prop := (ns ≠ [] ∧ AgainOk ns H t) ∨ SumOk ns (H.take i) 3 t
/-- the heads of a book, asked of it in the second loop -/
theorem x_comp (hs : List (Str × List Str)) (m : Nat) (S : SS) (a b c d e f g h : Option R) : eComp [9, 4] (iSeq (eVar 1)) (gTp 2 (gsCons (gNm 9) (gsCons (gNm 4) gsNil))) tTrue (eN tupR (aCons (eVar 9) (aCons (e1 lenR (eVar 4)) aNil)))
    [a, some (.obj S.length), b, c, d, e, f, g, h, none] (S ++ [.lst (hs.map encHd)]) = some (.dat (headsD (hdsOf hs)), S ++ [.lst (hs.map encHd)]) := by
  have hc : CompOk (gTp 2 (gsCons (gNm 9) (gsCons (gNm 4) gsNil))) tTrue (eN tupR (aCons (eVar 9) (aCons (e1 lenR (eVar 4)) aNil))) (clrS [9, 4] [a, some (.obj S.length), b, c, d, e, f, g, h, none]) (S ++ [.lst (hs.map encHd)])
      (hs.map fun p => R.dat (encHd p)) (hs.map fun p => headD (p.1, p.2.length)) := by
    refine CompOk.map _ _ hs fun p _ => ?_
    refine ⟨[a, some (.obj S.length), b, c, some (.dat (namesD p.2)), e, f, g, h, some (.dat (.str p.1))], by simp [encHd], fun acc => by simp [namesD, headD]⟩
  have := eComp_okG (src := iSeq (eVar 1)) (rs := hs.map fun p => R.dat (encHd p)) (gd := some (S.length, hs.map encHd)) (S1 := S ++ [.lst (hs.map encHd)]) (S := S ++ [.lst (hs.map encHd)])
    (δ := [a, some (.obj S.length), b, c, d, e, f, g, h, none]) (by simp) (fun acc => stays_app (by simp) _) hc
  rw [this]
  simp [headsD, hdsOf]
theorem x_book2 (m : Nat) (hs : List (Str × List Str)) (hh : ∀ p ∈ hs, p.2 ∈ NS) (hl : hs.length ≤ 4) : ∀ (r l : List (Str × List Str)), hs = l ++ r →
    ∃ b : List Mk', b.map (fun m => (m.1, m.2.1)) = r ∧ (∀ (j : Nat) (mk : Mk'), b[j]? = some mk → SOk (hdsOf hs) (l.length + j) mk.2.1 mk.2.2) ∧
      ∀ (n : Nat) (S : SS) (acc : List D), acc.length + r.length ≤ 4 → forL (gTp 2 (gsCons (gNm 2) (gsCons (gNm 6) gsNil))) (bkBody n) [2, 6, 3, 7, 8] (some (S.length, hs.map encHd)) (((r.map encHd).zipIdx l.length).map fun p => .itm [.int (p.2 : Nat), p.1])
        [some (.dat (.int m)), some (.obj S.length), none, none, none, some (.dat (.tuple acc)), none, none, none, none] (S ++ [.lst (hs.map encHd)]) =
      some (.nx [some (.dat (.int m)), some (.obj S.length), none, none, none, some (.dat (.tuple (acc ++ b.map encM))), none, none, none, none], S ++ [.lst (hs.map encHd)]) := by
  intro r
  induction r with
  | nil => intro l _; exact ⟨[], rfl, by simp, fun n S acc _ => by simp⟩
  | cons p r ih =>
    intro l hlr
    obtain ⟨x, ns⟩ := p
    have hlen : l.length + (r.length + 1) ≤ 4 := by rw [hlr] at hl; simpa using hl
    have hmem : (x, ns) ∈ hs := by rw [hlr]; simp
    obtain ⟨b, b1, b2, b3⟩ := ih (l ++ [(x, ns)]) (by rw [hlr]; simp)
    obtain ⟨q, dr⟩ := x_drawn m (10 + l.length)
    obtain ⟨hn3, hnok, hnd⟩ := NS_ok ns (hh _ hmem)
    have hH3 : ∀ p ∈ hdsOf hs, p.2 ≤ 3 := by
      intro p hp
      obtain ⟨y, hy, rfl⟩ := List.mem_map.mp hp
      exact (NS_ok y.2 (hh y hy)).1
    have hHl : (hdsOf hs).length ≤ 4 := by rw [hdsOf, List.length_map]; exact hl
    have hH0 : (x, ns.length) ∈ hdsOf hs := List.mem_map.mpr ⟨_, hmem, rfl⟩
    -- the sum
    obtain ⟨t, ok, ht⟩ : ∃ t, SOk (hdsOf hs) l.length ns t ∧ ∀ n S acc, bkIf n [some (.dat (.int m)), some (.obj S.length), some (.dat (.int (l.length : Nat))), some (.dat (.int ((q : Int) / 4))), none, some (.dat (.tuple acc)), some (.dat (.tuple [.str x, namesD ns])), some (.dat (headsD (hdsOf hs))), none, none] (S ++ [.lst (hs.map encHd)]) =
        some (.nx [some (.dat (.int m)), some (.obj S.length), some (.dat (.int (l.length : Nat))), some (.dat (.int ((q : Int) / 4))), none, some (.dat (.tuple acc)), some (.dat (.tuple [.str x, namesD ns])), some (.dat (headsD (hdsOf hs))), some (.dat (enc t)), none], (S ++ [.lst (hs.map encHd)])) := by
      have hne := ne_empty ns hnok
      by_cases hc : (0 : Int) < (q : Int) / 4 % 3 ∧ ns ≠ []
      · obtain ⟨t, ok, f⟩ := r_again x ns (hdsOf hs) hn3 hc.2 hH3 hHl hH0 (q / 4 / 4)
        refine ⟨t, .inl ⟨hc.2, ok⟩, fun n S acc => ?_⟩
        unfold bkIf
        have f := f n
        have c1 := hc.1
        have c2 : ns.isEmpty = false := by cases ns with
          | nil => exact absurd rfl hc.2
          | cons => rfl
        simp [namesD, headsD] at f hne
        simp [modD_int, fdivD_int, f, hne, namesD, headsD, c1, c2]
      · obtain ⟨t, ok, f⟩ := r_sum ns ((hdsOf hs).take l.length) hn3 (fun p hp => hH3 p (List.mem_of_mem_take hp)) (by rw [List.length_take]; omega) 3 (q / 4 / 4)
        refine ⟨t, .inr ok, fun n S acc => ?_⟩
        unfold bkIf
        have f := f n
        have tk : cutL ((hdsOf hs).map headD) none (some (l.length : Int)) = ((hdsOf hs).take l.length).map headD := by rw [cut_to, List.map_take]
        simp [namesD, headsD] at f hne tk
        by_cases c1 : (0 : Int) < (q : Int) / 4 % 3
        · have c2 : ns = [] := Classical.byContradiction fun h => hc ⟨c1, h⟩
          subst c2
          simp [namesD] at f hne
          simp [modD_int, fdivD_int, f, hne, namesD, headsD, c1, tk]
        · simp [modD_int, fdivD_int, f, hne, namesD, headsD, c1, tk]
    refine ⟨(x, ns, t) :: b, by simp [b1], fun j mk hj => ?_, fun n S acc hacc => ?_⟩
    · cases j with
      | zero => simp at hj; subst hj; exact ok
      | succ j =>
        have := b2 j mk (by simpa using hj)
        rw [List.length_append] at this
        rw [show l.length + (j + 1) = l.length + 1 + j by omega]
        exact this
    · have ht := ht n S acc
      have b3 := b3 n S (acc ++ [encM (x, ns, t)]) (by rw [List.length_append]; simp at hacc ⊢; omega)
      have dr : ∀ S, Φ (n + 4) .law_drawn [.dat (.int m), .dat (.int ((10 + l.length : Nat) : Int))] S = some (.dat (.int q), S) := fun S => dr (n + 3) S
      have hsz : acc.length + 1 ≤ sizeLine := small_line (by simp at hacc; omega)
      rw [List.map_cons, List.zipIdx_cons, List.map_cons]
      have xc := x_comp hs m S (some (.dat (.int m))) (some (.dat (.int (l.length : Nat)))) (some (.dat (.int ((q : Int) / 4)))) none (some (.dat (.tuple acc))) (some (.dat (.tuple [.str x, namesD ns]))) none none
      simp at dr
      refine (forL_consG (δ1 := [some (.dat (.int m)), some (.obj S.length), some (.dat (.int (l.length : Nat))), none, none, some (.dat (.tuple acc)), some (.dat (.tuple [.str x, namesD ns])), none, none, none])
        (δ2 := [some (.dat (.int m)), some (.obj S.length), some (.dat (.int (l.length : Nat))), some (.dat (.int ((q : Int) / 4))), none, some (.dat (.tuple (acc ++ [encM (x, ns, t)]))), some (.dat (.tuple [.str x, namesD ns])), some (.dat (headsD (hdsOf hs))), some (.dat (enc t)), none])
        (S2 := S ++ [.lst (hs.map encHd)]) (by simp [encHd]) ?_ (by show (S ++ [Ob.lst (hs.map encHd)])[S.length]? = _; simp)).trans ?_
      · unfold bkBody
        simp only [sSeq_eq, sAsg_eq]
        simp [fdivD_int, dr, xc, ht, hsz, encM]
      · rw [List.length_append] at b3
        simpa using b3
/-- a book -/
structure BookOk (b : List Mk') : Prop where
  pos : 1 ≤ b.length
  le : b.length ≤ 4
  name : ∀ (j : Nat) (mk : Mk'), b[j]? = some mk → MK[j]? = some mk.1
  names : ∀ mk ∈ b, mk.2.1 ∈ NS
  sum : ∀ (j : Nat) (mk : Mk'), b[j]? = some mk → SOk (headsOf b) j mk.2.1 mk.2.2
theorem r_book (m : Nat) : ∃ b : List Mk', BookOk b ∧ ∀ n S, Φ (n + 5) .law_book [.dat (.int m)] S = some (.dat (encB b), S) := by
  obtain ⟨k, k1, k4, hk⟩ := len_pick (m % 6) (Nat.mod_lt _ (by decide))
  obtain ⟨hs, h1, h2, h3⟩ := x_heads m k 0 (by omega)
  have hNS : ∀ p ∈ hs, p.2 ∈ NS := fun p hp => by
    obtain ⟨i, hi, rfl⟩ := List.mem_iff_getElem.mp hp
    exact (h2 i _ (List.getElem?_eq_getElem hi)).2
  obtain ⟨b, b1, b2, b3⟩ := x_book2 m hs hNS (by omega) hs [] rfl
  have hl : b.length = k := by rw [← h1, ← b1, List.length_map]
  have hget : ∀ (j : Nat) (mk : Mk'), b[j]? = some mk → hs[j]? = some (mk.1, mk.2.1) := fun j mk h => by rw [← b1, List.getElem?_map, h]; rfl
  have hH : hdsOf hs = headsOf b := by
    rw [← b1, hdsOf, headsOf, List.map_map]
    rfl
  refine ⟨b, ⟨by omega, by omega, fun j mk h => by simpa using (h2 j _ (hget j mk h)).1, fun mk hm => ?_, fun j mk h => ?_⟩, fun n S => ?_⟩
  · obtain ⟨i, hi, rfl⟩ := List.mem_iff_getElem.mp hm
    exact (h2 i _ (hget i _ (List.getElem?_eq_getElem hi))).2
  · have := b2 j mk h
    rw [← hH]
    simpa using this
  rw [Φ_succ]
  show b_law_book (Φ (n + 4)) _ S = _
  unfold b_law_book
  refine run_rt (S' := [.lst (hs.map encHd)]) rfl ?_
  have h3 := h3 (n + 3) S [] none none none none none (by simp; omega)
  have b3 := b3 n S [] (by simp; omega)
  simp at hk h3 b3
  have hr : rangeR 0 k = (List.range' 0 k).map fun j => R.dat (.int (j : Nat)) := by
    unfold rangeR
    rw [List.range_eq_range']
    simp
  have hkz : (k : Int) ≤ 1000000 := by omega
  have hkz2 : (-1000000 : Int) ≤ (k : Int) := by omega
  have he : enumR (hs.map encHd) = ((hs.map encHd).zipIdx).map fun p => R.itm [.int (p.2 : Nat), p.1] := rfl
  simp only [hdBody, show n + 3 + 1 = n + 4 from rfl] at h3
  simp only [bkBody, bkIf] at b3
  simp [startD, modD_int, hk, hkz, hkz2, hr, he, h3, b3]
  rfl
end Cy
end
section
set_option Elab.async false
set_option maxRecDepth 100000
namespace Cy
open PySem L2
def wnum (n : Nat) : Str := Str.ofString (toString (n : Int))
mutual
def words : T → List Str
  | .w n => [wnum n]
  | .v x => [x]
  | .op o a b => o.nm :: (words a ++ words b)
  | .ite c a b => "if" :: (words c ++ (words a ++ words b))
  | .call f as => Str.ofString "call" :: f :: Str.ofString "(" :: (wordsL as ++ [Str.ofString ")"])
def wordsL : List T → List Str
  | [] => []
  | a :: as => words a ++ wordsL as
end
def strsL (ws : List Str) : D := .list (ws.map .str)
theorem tupD_enc (t : T) : isiD "tuple" (enc t) = some (.bool (match t with | .w _ => false | .v _ => false | _ => true)) := by
  cases t <;> simp [enc]
def wB : Nat → Nat
  | 0 => 1
  | d + 1 => 4 + 3 * wB d
theorem wB_le {d d' : Nat} (h : d ≤ d') : wB d ≤ wB d' := by
  induction d' generalizing d with
  | zero => simp at h; subst h; exact Nat.le_refl _
  | succ k ih =>
    by_cases e : d = k + 1
    · rw [e]; exact Nat.le_refl _
    · have := ih (d := d) (by omega)
      rw [wB]
      omega
theorem wB_pos (d : Nat) : 1 ≤ wB d := by cases d <;> simp [wB] <;> omega
theorem words_all {P : Str → Prop} (hn : ∀ n, n < 1000 → P (wnum n)) (ho : ∀ o : Op, P o.nm) (hi : P "if") (hc : P "call") (hl : P "(") (hr : P ")") {names : List Str} {heads : List (Str × Nat)} (h1 : ∀ x ∈ names, P x) (h2 : ∀ p ∈ heads, P p.1)
    {d : Nat} {t : T} (h : SumOk names heads d t) : ∀ x ∈ words t, P x := by
  induction h with
  | w h => intro x hx; simp [words] at hx; subst hx; exact hn _ h
  | v h => intro x hx; simp [words] at hx; subst hx; exact h1 _ h
  | op _ _ ia ib => intro x hx; simp [words] at hx; exact hx.elim (fun e => e ▸ ho _) fun hx => hx.elim (ia _) (ib _)
  | ite _ _ _ ia ib ic => intro x hx; simp [words] at hx; exact hx.elim (fun e => e ▸ hi) fun hx => hx.elim (ia _) fun hx => hx.elim (ib _) (ic _)
  | @call d f as hf _ ih =>
    intro x hx
    simp [words] at hx
    have L : ∀ as : List T, (∀ a ∈ as, ∀ x ∈ words a, P x) → ∀ x ∈ wordsL as, P x := by
      intro as
      induction as with
      | nil => intro _ x hx; simp [wordsL] at hx
      | cons a as iha =>
        intro h x hx
        simp [wordsL] at hx
        rcases hx with hx | hx
        · exact h a List.mem_cons_self x hx
        · exact iha (fun b hb => h b (List.mem_cons_of_mem _ hb)) x hx
    rcases hx with rfl | rfl | rfl | hx | rfl
    · exact hc
    · exact h2 _ hf
    · exact hl
    · exact L as ih x hx
    · exact hr
theorem wordsL_len (k : Nat) : ∀ as : List T, (∀ a ∈ as, (words a).length ≤ k) → (wordsL as).length ≤ as.length * k
  | [], _ => by simp [wordsL]
  | a :: as, h => by
    have h1 := h a List.mem_cons_self
    have h2 := wordsL_len k as fun b hb => h b (List.mem_cons_of_mem _ hb)
    simp [wordsL, Nat.add_mul]
    omega
theorem words_len {names : List Str} {heads : List (Str × Nat)} (hh : ∀ p ∈ heads, p.2 ≤ 3) {d : Nat} {t : T} (h : SumOk names heads d t) : (words t).length ≤ wB d := by
  induction h with
  | w h => simp [words]; exact wB_pos _
  | v h => simp [words]; exact wB_pos _
  | op _ _ ia ib => simp [words, wB]; omega
  | ite _ _ _ ia ib ic => simp [words, wB]; omega
  | @call d f as hf _ ih =>
    have := wordsL_len (wB d) as ih
    have h3 := hh _ hf
    simp at h3
    have := Nat.mul_le_mul_right (wB d) h3
    simp [words, wB]
    omega
theorem r_all_words (k : Nat) (ts : List T) (hf : ∀ t ∈ ts, ∀ S, Φ k .sum_words [.dat (enc t)] S = some (.dat (strsL (words t)), S)) (hl : (wordsL ts).length ≤ 1000) : ∀ S, Φ (k + 1) .all_words [.dat (.tuple (encs ts))] S = some (.dat (strsL (wordsL ts)), S) := by
  intro S
  rw [Φ_succ]
  show b_all_words (Φ k) _ S = _
  unfold b_all_words
  refine run_rt0 rfl ?_
  have lp : ∀ (ts : List T), (∀ t ∈ ts, ∀ S, Φ k .sum_words [.dat (enc t)] S = some (.dat (strsL (words t)), S)) → ∀ (a : Option R) (acc : List Str), acc.length + (wordsL ts).length ≤ 1000 →
      forL (gNm 2) (sAsg (e2 (l2 addD) (eVar 1) (eCall (Φ k .sum_words) (aCons (eVar 2) aNil))) (gNm 1)) [2] none ((encs ts).map .dat) [a, some (.dat (strsL acc)), none] S =
      some (.nx [a, some (.dat (strsL (acc ++ wordsL ts))), none], S) := by
    intro ts
    induction ts with
    | nil => intro _ a acc _; simp [encs, wordsL]
    | cons t ts ih =>
      intro hf a acc hl
      have h1 := hf t List.mem_cons_self S
      simp [wordsL] at hl
      have h2 := ih (fun t ht => hf t (List.mem_cons_of_mem _ ht)) a (acc ++ words t) (by simp; omega)
      have sz : acc.length + (words t).length ≤ sizeLine := small_line (by omega)
      simp [strsL] at h1 h2
      simp [encs, h1, h2, strsL, sz, wordsL]
  have := lp ts hf (some (.dat (.tuple (encs ts)))) [] (by simpa using hl)
  simp [strsL] at this
  simp [startD, this, strsL]
theorem ok_call : PyData.strOk "call" = true := by decide +kernel
theorem ok_if : PyData.strOk "if" = true := by decide +kernel
theorem nm_call (o : Op) : (o.nm == Str.ofString "call") = false := by cases o <;> decide +kernel
theorem if_call : (Str.ofString "if" == Str.ofString "call") = false := by decide +kernel
theorem small_log {n : Nat} (h : n < 1000) : n.log2 < 1920 := by
  by_cases h0 : n = 0
  · subst h0; decide
  · exact (Nat.log2_lt h0).mpr (Nat.lt_of_lt_of_le h (Nat.le_trans (by decide : 1000 ≤ 2 ^ 10) (Nat.pow_le_pow_right (n := 2) (by decide) (by decide))))
theorem r_sum_words {names : List Str} {heads : List (Str × Nat)} (hh : ∀ p ∈ heads, p.2 ≤ 3) {d : Nat} {t : T} (h : SumOk names heads d t) (hd : d ≤ 4) : ∀ n S, Φ (n + 2 * d + 1) .sum_words [.dat (enc t)] S = some (.dat (strsL (words t)), S) := by
  have b4 : wB 4 = 241 := rfl
  induction h with
  | @w d n h => intro k S; rw [Φ_succ]; show b_sum_words _ _ S = _; unfold b_sum_words; refine run_rt0 rfl ?_; simp [startD, enc, words, strsL, wnum, small_log h]
  | @v d x h => intro k S; rw [Φ_succ]; show b_sum_words _ _ S = _; unfold b_sum_words; refine run_rt0 rfl ?_; simp [startD, enc, words, strsL]
  | @op d o a b ha hb ia ib =>
    intro k S
    have e := words_len hh (.op (o := o) ha hb)
    have e2 := wB_le hd
    have f := r_all_words (k + 2 * d + 1) [a, b] (by
      intro t ht S
      simp at ht
      rcases ht with rfl | rfl
      · exact ia (by omega) k S
      · exact ib (by omega) k S) (by simp [wordsL]; simp [words] at e; omega) S
    rw [Φ_succ]; show b_sum_words _ _ S = _; unfold b_sum_words; refine run_rt0 rfl ?_
    have c : cutL [PyData.str o.nm, enc a, enc b] (some (1 : Int)) none = [enc a, enc b] := by rw [show (1 : Int) = ((1 : Nat) : Int) from rfl, cut_from]; rfl
    have sz : 1 + ((words a).length + (words b).length) ≤ sizeLine := small_line (by simp [words] at e; omega)
    rw [show k + 2 * (d + 1) = k + 2 * d + 1 + 1 by omega]
    simp [encs, strsL, wordsL] at f
    simp [startD, enc, words, strsL, eqD_str, ok_call, nm_call, c, f, sz]
  | @ite d x a b hx ha hb ix ia ib =>
    intro k S
    have e := words_len hh (.ite hx ha hb)
    have e2 := wB_le hd
    have f := r_all_words (k + 2 * d + 1) [x, a, b] (by
      intro t ht S
      simp at ht
      rcases ht with rfl | rfl | rfl
      · exact ix (by omega) k S
      · exact ia (by omega) k S
      · exact ib (by omega) k S) (by simp [wordsL]; simp [words] at e; omega) S
    rw [Φ_succ]; show b_sum_words _ _ S = _; unfold b_sum_words; refine run_rt0 rfl ?_
    have c : cutL [PyData.str "if", enc x, enc a, enc b] (some (1 : Int)) none = [enc x, enc a, enc b] := by rw [show (1 : Int) = ((1 : Nat) : Int) from rfl, cut_from]; rfl
    have sz : 1 + ((words x).length + ((words a).length + (words b).length)) ≤ sizeLine := small_line (by simp [words] at e; omega)
    rw [show k + 2 * (d + 1) = k + 2 * d + 1 + 1 by omega]
    simp [encs, strsL, wordsL] at f
    simp [startD, enc, words, strsL, eqD_str, ok_call, ok_if, if_call, c, f, sz]
  | @call d f as hf has ih =>
    intro k S
    have e := words_len hh (.call hf has)
    have e2 := wB_le hd
    have f := r_all_words (k + 2 * d + 1) as (fun t ht S => ih t ht (by omega) k S) (by simp [words] at e; omega) S
    rw [Φ_succ]; show b_sum_words _ _ S = _; unfold b_sum_words; refine run_rt0 rfl ?_
    have sz : 3 + (wordsL as).length ≤ sizeLine := small_line (by simp [words] at e; omega)
    have sz2 : (wordsL as).length + 1 + 1 + 1 + 1 ≤ sizeLine := small_line (by simp [words] at e; omega)
    rw [show k + 2 * (d + 1) = k + 2 * d + 1 + 1 by omega]
    simp [strsL] at f
    simp [startD, enc, words, strsL, eqD_str, ok_call, f, sz, sz2]
end Cy
end
section
set_option Elab.async false
set_option maxRecDepth 100000
namespace Cy
open PySem L2
@[simp] theorem mulD_list0 {xs : List D} (h : xs.length ≤ 1000) : mulD (.list xs) (.int 0) = some (.list []) := by
  unfold mulD
  exact (if_pos ⟨by decide, by decide, h⟩).trans (by simp)
@[simp] theorem mulD_list1 {xs : List D} (h : xs.length ≤ 1000) : mulD (.list xs) (.int 1) = some (.list xs) := by
  unfold mulD
  exact (if_pos ⟨by decide, by decide, h⟩).trans (by simp)
theorem addL {xs ys : List D} (h : xs.length + ys.length ≤ 1000) : addD (.list xs) (.list ys) = some (.list (xs ++ ys)) := by
  rw [addD_list, if_pos (small_line h)]
theorem addT {xs ys : List D} (h : xs.length + ys.length ≤ 1000) : addD (.tuple xs) (.tuple ys) = some (.tuple (xs ++ ys)) := by
  rw [addD_tup, if_pos (small_line h)]
noncomputable abbrev lwFor (k : Nat) : Sm := sFor (iSeq (eVar 2)) (gNm 3) (sAsg (e2 (l2 addD) (eVar 1) (eCall (Φ k .law_words) (aCons (eVar 3) aNil))) (gNm 1)) [3]
theorem x_law_words (k : Nat) (ts : List T) (hf : ∀ t ∈ ts, ∀ S, Φ k .law_words [.dat (enc t)] S = some (.dat (strsL (words t)), S)) (acc : List Str) (hl : acc.length + (wordsL ts).length ≤ 1000) (a b : Option R) (S : SS) :
    forL (gNm 3) (sAsg (e2 (l2 addD) (eVar 1) (eCall (Φ k .law_words) (aCons (eVar 3) aNil))) (gNm 1)) [3] none ((encs ts).map .dat) [a, some (.dat (strsL acc)), b, none] S = some (.nx [a, some (.dat (strsL (acc ++ wordsL ts))), b, none], S) := by
  induction ts generalizing acc with
  | nil => simp [encs, wordsL]
  | cons t ts ih =>
    have h1 := hf t List.mem_cons_self S
    simp [wordsL] at hl
    have h2 := ih (fun t ht => hf t (List.mem_cons_of_mem _ ht)) (acc ++ words t) (by simp; omega)
    have sz : acc.length + (words t).length ≤ sizeLine := small_line (by omega)
    simp [strsL] at h1 h2
    simp [encs, h1, h2, strsL, sz, wordsL]
theorem r_law_words {names : List Str} {heads : List (Str × Nat)} (hh : ∀ p ∈ heads, p.2 ≤ 3) {d : Nat} {t : T} (h : SumOk names heads d t) (hd : d ≤ 4) : ∀ n S, Φ (n + d + 1) .law_words [.dat (enc t)] S = some (.dat (strsL (words t)), S) := by
  have b4 : wB 4 = 241 := rfl
  induction h with
  | @w d n h => intro k S; rw [Φ_succ]; show b_law_words _ _ S = _; unfold b_law_words; refine run_rt0 rfl ?_; simp [startD, enc, words, strsL, wnum, small_log h]
  | @v d x h => intro k S; rw [Φ_succ]; show b_law_words _ _ S = _; unfold b_law_words; refine run_rt0 rfl ?_; simp [startD, enc, words, strsL]
  | @op d o a b ha hb ia ib =>
    intro k S
    have e := words_len hh (.op (o := o) ha hb)
    have e2 := wB_le hd
    rw [Φ_succ]; show b_law_words _ _ S = _; unfold b_law_words; refine run_rt0 rfl ?_
    have f := x_law_words (k + d + 1) [a, b] (by
      intro t ht S
      simp at ht
      rcases ht with rfl | rfl
      · exact ia (by omega) k S
      · exact ib (by omega) k S) [o.nm] (by simp [wordsL]; simp [words] at e; omega) (some (.dat (enc (.op o a b)))) (some (.dat (.tuple [enc a, enc b]))) S
    have c : cutL [PyData.str o.nm, enc a, enc b] (some (1 : Int)) none = [enc a, enc b] := by rw [show (1 : Int) = ((1 : Nat) : Int) from rfl, cut_from]; rfl
    have sz : (words a).length + (words b).length + 1 ≤ sizeLine := small_line (by simp [words] at e; omega)
    rw [show k + (d + 1) = k + d + 1 by omega]
    simp [encs, strsL, wordsL, enc] at f
    simp (maxSteps := 4000000) [startD, enc, words, strsL, eqD_str, ok_call, nm_call, c, f, sz]
  | @ite d x a b hx ha hb ix ia ib =>
    intro k S
    have e := words_len hh (.ite hx ha hb)
    have e2 := wB_le hd
    rw [Φ_succ]; show b_law_words _ _ S = _; unfold b_law_words; refine run_rt0 rfl ?_
    have f := x_law_words (k + d + 1) [x, a, b] (by
      intro t ht S
      simp at ht
      rcases ht with rfl | rfl | rfl
      · exact ix (by omega) k S
      · exact ia (by omega) k S
      · exact ib (by omega) k S) [Str.ofString "if"] (by simp [wordsL]; simp [words] at e; omega) (some (.dat (enc (.ite x a b)))) (some (.dat (.tuple [enc x, enc a, enc b]))) S
    have c : cutL [PyData.str "if", enc x, enc a, enc b] (some (1 : Int)) none = [enc x, enc a, enc b] := by rw [show (1 : Int) = ((1 : Nat) : Int) from rfl, cut_from]; rfl
    have sz : (words x).length + ((words a).length + (words b).length) + 1 ≤ sizeLine := small_line (by simp [words] at e; omega)
    rw [show k + (d + 1) = k + d + 1 by omega]
    simp [encs, strsL, wordsL, enc] at f
    simp (maxSteps := 4000000) [startD, enc, words, strsL, eqD_str, ok_call, ok_if, if_call, c, f, sz]
  | @call d f as hf has ih =>
    intro k S
    have e := words_len hh (.call hf has)
    have e2 := wB_le hd
    rw [Φ_succ]; show b_law_words _ _ S = _; unfold b_law_words; refine run_rt0 rfl ?_
    have g := x_law_words (k + d + 1) as (fun t ht S => ih t ht (by omega) k S) [Str.ofString "call", f, Str.ofString "("] (by simp [words] at e; simp; omega) (some (.dat (enc (.call f as)))) (some (.dat (.tuple (encs as)))) S
    have sz : (wordsL as).length + 1 + 1 + 1 + 1 ≤ sizeLine := small_line (by simp [words] at e; omega)
    have c : cutL [PyData.str "call", .str f, .tuple (encs as)] (some (1 : Int)) none = [.str f, .tuple (encs as)] := by rw [show (1 : Int) = ((1 : Nat) : Int) from rfl, cut_from]; rfl
    rw [show k + (d + 1) = k + d + 1 by omega]
    simp [strsL, enc] at g
    simp (maxSteps := 4000000) [startD, enc, words, strsL, eqD_str, ok_call, g, c, sz]
/-- the words of a book -/
def bWords : List Mk' → List Str
  | [] => []
  | m :: b => Str.ofString "maker" :: m.1 :: Str.ofString "(" :: (m.2.1 ++ Str.ofString ")" :: Str.ofString "=" :: (words m.2.2 ++ bWords b))
def mWords (m : Mk') : List Str := Str.ofString "maker" :: m.1 :: Str.ofString "(" :: (m.2.1 ++ Str.ofString ")" :: Str.ofString "=" :: words m.2.2)
theorem x_written (F : Fn) (b : List Mk') (hf : ∀ m ∈ b, ∀ S, F [.dat (enc m.2.2)] S = some (.dat (strsL (words m.2.2)), S)) (acc : List Str) (hl : acc.length + (bWords b).length ≤ 1000) (a : Option R) (S : SS) :
    forL (gTp 3 (gsCons (gNm 2) (gsCons (gNm 3) (gsCons (gNm 4) gsNil))))
  (sAsg (e2 (l2 addD) (e2 (l2 addD) (e2 (l2 addD) (e2 (l2 addD) (eVar 1) (eN lstR (aCons (eC (.str "maker")) (aCons (eVar 2) (aCons (eC (.str "(")) aNil))))) (e1 (l1 listD) (eVar 3))) (eN lstR (aCons (eC (.str ")")) (aCons (eC (.str "=")) aNil)))) (eCall F (aCons (eVar 4) aNil))) (gNm 1)) [2, 3, 4] none ((b.map encM).map .dat) [a, some (.dat (strsL acc)), none, none, none] S =
    some (.nx [a, some (.dat (strsL (acc ++ bWords b))), none, none, none], S) := by
  induction b generalizing acc with
  | nil => simp [bWords]
  | cons m b ih =>
    obtain ⟨x, ns, t⟩ := m
    have h1 := hf (x, ns, t) List.mem_cons_self S
    simp [bWords] at hl
    have h2 := ih (fun m hm => hf m (List.mem_cons_of_mem _ hm)) (acc ++ mWords (x, ns, t)) (by simp [mWords]; omega)
    simp [strsL, mWords] at h1 h2
    simp (disch := first | (simp; done) | omega | (simp; omega)) [-addD_list, addL, encM, namesD, h1, strsL, bWords, h2]
end Cy
end
section
set_option Elab.async false
set_option maxRecDepth 100000
namespace Cy
open PySem L2
def wOk (x : Str) : Prop := PyData.strOk x = true ∧ x.length ≤ 8
instance (x : Str) : Decidable (wOk x) := inferInstanceAs (Decidable (_ ∧ _))
theorem wnum_ok : ∀ n, n < 1000 → wOk (wnum n) := by decide +kernel
theorem strOk_app {a b : Str} (ha : PyData.strOk a = true) (hb : PyData.strOk b = true) : PyData.strOk (a ++ b) = true := by
  show (a.cps ++ b.cps).all _ = true
  rw [Array.all_append]
  exact Bool.and_eq_true_iff.mpr ⟨ha, hb⟩
theorem strOk_join {s : Str} (hs : PyData.strOk s = true) : ∀ ws : List Str, (∀ x ∈ ws, PyData.strOk x = true) → PyData.strOk (Txt.join s ws) = true := by
  intro ws
  rw [show Txt.join s ws = Str.join s ws from TL.join_eq s ws]
  induction ws with
  | nil => intro _; show PyData.strOk Str.empty = true; decide +kernel
  | cons x r ih =>
    intro h
    cases r with
    | nil => exact h x List.mem_cons_self
    | cons y r => exact strOk_app (strOk_app (h x List.mem_cons_self) hs) (ih fun z hz => h z (List.mem_cons_of_mem _ hz))
theorem strsOf_map : ∀ ws : List Str, strsOf (ws.map .str) = some ws
  | [] => rfl
  | x :: r => by rw [List.map_cons, strsOf, strsOf_map r]
theorem join_strs {ws : List Str} (h : ∀ x ∈ ws, wOk x) (hl : ws.length ≤ 1000) : joinD (.str " ") (strsL ws) = some (.str (Txt.join " " ws)) := by
  have hs : ∀ ws : List Str, (∀ x ∈ ws, wOk x) → (ws.map (·.length)).sum ≤ ws.length * 8 := by
    intro ws
    induction ws with
    | nil => intro _; simp
    | cons x r ih =>
      intro h
      have h1 := (h x List.mem_cons_self).2
      have h2 := ih fun y hy => h y (List.mem_cons_of_mem _ hy)
      rw [List.map_cons, List.sum_cons, List.length_cons, Nat.add_mul]
      omega
  have h1 := hs ws h
  have h2 : (Str.ofString " ").length = 1 := by decide +kernel
  rw [strsL, joinD_list, strsOf_map]
  simp only
  rw [if_pos]
  rw [h2]
  omega
theorem BookOk.headNames {b : List Mk'} (B : BookOk b) : ∀ p ∈ headsOf b, p.2 ≤ 3 ∧ p.1 ∈ MK := fun p hp => by
  obtain ⟨mk, hm, rfl⟩ := List.mem_map.mp hp
  refine ⟨(NS_ok _ (B.names mk hm)).1, ?_⟩
  obtain ⟨i, hi, rfl⟩ := List.mem_iff_getElem.mp hm
  exact List.mem_of_getElem? (B.name i _ (List.getElem?_eq_getElem hi))
theorem BookOk.sum4 {b : List Mk'} (B : BookOk b) : ∀ mk ∈ b, SumOk mk.2.1 (headsOf b) 4 mk.2.2 := fun mk hm => by
  obtain ⟨i, hi, rfl⟩ := List.mem_iff_getElem.mp hm
  cases B.sum i _ (List.getElem?_eq_getElem hi) with
  | inl h => exact h.2.sum
  | inr h => exact h.mono (fun _ h => h) (fun _ h => List.mem_of_mem_take h) (by decide)
theorem NSw_ok : ∀ ns ∈ NS, ∀ x ∈ ns, wOk x := by decide +kernel
theorem MKw_ok : ∀ x ∈ MK, wOk x := by decide +kernel
theorem Opw_ok (o : Op) : wOk o.nm := by cases o <;> decide +kernel
theorem bWords_ok {b : List Mk'} {H : List (Str × Nat)} (hH : ∀ p ∈ H, p.2 ≤ 3 ∧ p.1 ∈ MK) (h1 : ∀ mk ∈ b, mk.1 ∈ MK ∧ mk.2.1 ∈ NS ∧ SumOk mk.2.1 H 4 mk.2.2) : (∀ x ∈ bWords b, wOk x) ∧ (bWords b).length ≤ b.length * 249 := by
  induction b with
  | nil => simp [bWords]
  | cons mk b ih =>
    obtain ⟨i1, i2⟩ := ih fun m hm => h1 m (List.mem_cons_of_mem _ hm)
    obtain ⟨a1, a2, a3⟩ := h1 mk List.mem_cons_self
    have wl := words_len (fun p hp => (hH p hp).1) a3
    have b4 : wB 4 = 241 := rfl
    have n3 := (NS_ok _ a2).1
    have wo := words_all (P := wOk) wnum_ok Opw_ok (by decide +kernel) (by decide +kernel) (by decide +kernel) (by decide +kernel) (NSw_ok _ a2) (fun p hp => MKw_ok _ (hH p hp).2) a3
    refine ⟨fun x hx => ?_, ?_⟩
    · simp [bWords] at hx
      rcases hx with rfl | rfl | rfl | hx | rfl | rfl | hx | hx
      · decide +kernel
      · exact MKw_ok _ a1
      · decide +kernel
      · exact NSw_ok _ a2 x hx
      · decide +kernel
      · decide +kernel
      · exact wo x hx
      · exact i1 x hx
    · simp [bWords, Nat.add_mul]
      omega
theorem BookOk.all {b : List Mk'} (B : BookOk b) : ∀ mk ∈ b, mk.1 ∈ MK ∧ mk.2.1 ∈ NS ∧ SumOk mk.2.1 (headsOf b) 4 mk.2.2 := fun mk hm => by
  refine ⟨?_, B.names mk hm, B.sum4 mk hm⟩
  obtain ⟨i, hi, rfl⟩ := List.mem_iff_getElem.mp hm
  exact List.mem_of_getElem? (B.name i _ (List.getElem?_eq_getElem hi))
theorem r_written {b : List Mk'} (B : BookOk b) (n : Nat) (S : SS) : Φ (n + 10) .written [.dat (encB b)] S = some (.dat (.str (Txt.join " " (bWords b))), S) := by
  obtain ⟨w1, w2⟩ := bWords_ok B.headNames B.all
  have hl : (bWords b).length ≤ 1000 := by have := B.le; omega
  rw [Φ_succ]; show b_written (Φ (n + 9)) _ S = _; unfold b_written; refine run_rt0 rfl ?_
  have f := x_written (Φ (n + 9) .sum_words) b (fun m hm S => r_sum_words (fun p hp => (B.headNames p hp).1) (B.sum4 m hm) (by decide) n S) [] (by simpa using hl) (some (.dat (encB b))) S
  have j := join_strs w1 hl
  simp [strsL, encB] at f j
  simp [startD, encB, f, j, strsL]
theorem r_law_text {b : List Mk'} (B : BookOk b) (n : Nat) (S : SS) : Φ (n + 10) .law_text [.dat (encB b)] S = some (.dat (.str (Txt.join " " (bWords b))), S) := by
  obtain ⟨w1, w2⟩ := bWords_ok B.headNames B.all
  have hl : (bWords b).length ≤ 1000 := by have := B.le; omega
  rw [Φ_succ]; show b_law_text (Φ (n + 9)) _ S = _; unfold b_law_text; refine run_rt0 rfl ?_
  have f := x_written (Φ (n + 9) .law_words) b (fun m hm S => r_law_words (fun p hp => (B.headNames p hp).1) (B.sum4 m hm) (by decide) (n + 4) S) [] (by simpa using hl) (some (.dat (encB b))) S
  have j := join_strs w1 hl
  simp [strsL, encB] at f j
  simp [startD, encB, f, j, strsL]
theorem bText_ok {b : List Mk'} (B : BookOk b) : PyData.strOk (Txt.join " " (bWords b)) = true :=
  strOk_join (by decide +kernel) _ fun x hx => ((bWords_ok B.headNames B.all).1 x hx).1
end Cy
end
section
set_option Elab.async false
set_option maxRecDepth 100000
namespace Cy
open PySem L2
@[simp] theorem cut1_to {α : Type} (x : α) (xs : List α) : cutL (x :: xs) none (some (1 : Int)) = [x] := by
  rw [show (1 : Int) = ((1 : Nat) : Int) from rfl, cut_to]; rfl
@[simp] theorem cut1_from {α : Type} (x : α) (xs : List α) : cutL (x :: xs) (some (1 : Int)) none = xs := by
  rw [show (1 : Int) = ((1 : Nat) : Int) from rfl, cut_from]; rfl
@[simp] theorem nm_call' (o : Op) : eqD (.str o.nm) (.str "call") = some (.bool false) := by rw [eqD_str (Op.nm_ok o) ok_call, nm_call]
@[simp] theorem if_call' : eqD (.str "if") (.str "call") = some (.bool false) := by rw [eqD_str ok_if ok_call, if_call]
@[simp] theorem call_call' : eqD (.str "call") (.str "call") = some (.bool true) := by rw [eqD_str ok_call ok_call]; simp
theorem nm_if (o : Op) : (o.nm == Str.ofString "if") = false := by cases o <;> decide +kernel
@[simp] theorem nm_if' (o : Op) : eqD (.str o.nm) (.str "if") = some (.bool false) := by rw [eqD_str (Op.nm_ok o) ok_if, nm_if]
@[simp] theorem if_if' : eqD (.str "if") (.str "if") = some (.bool true) := by rw [eqD_str ok_if ok_if]; simp
theorem call_if : (Str.ofString "call" == Str.ofString "if") = false := by decide +kernel
@[simp] theorem call_if' : eqD (.str "call") (.str "if") = some (.bool false) := by rw [eqD_str ok_call ok_if, call_if]
def subs : T → List T
  | .op _ a b => [a, b]
  | .ite c a b => [c, a, b]
  | .call _ as => as
  | _ => []
theorem r_parts_of (t : T) (n : Nat) (S : SS) : Φ (n + 1) .parts_of [.dat (enc t)] S = some (.dat (.tuple (encs (subs t))), S) := by
  rw [Φ_succ]; show b_parts_of (Φ n) _ S = _; unfold b_parts_of; refine run_rt0 rfl ?_
  cases t <;> simp [startD, enc, encs, subs]
theorem r_with_op (o : Op) (a b : T) (ps : List D) (hl : ps.length ≤ 900) (n : Nat) (S : SS) : Φ (n + 1) .with_parts [.dat (enc (.op o a b)), .dat (.list ps)] S = some (.dat (.tuple (.str o.nm :: ps)), S) := by
  rw [Φ_succ]; show b_with_parts (Φ n) _ S = _; unfold b_with_parts; refine run_rt0 rfl ?_
  have : ps.length + 1 ≤ sizeLine := small_line (by omega)
  simp [startD, enc, this, Nat.add_comm]
theorem r_with_ite (c a b : T) (ps : List D) (hl : ps.length ≤ 900) (n : Nat) (S : SS) : Φ (n + 1) .with_parts [.dat (enc (.ite c a b)), .dat (.list ps)] S = some (.dat (.tuple (.str "if" :: ps)), S) := by
  rw [Φ_succ]; show b_with_parts (Φ n) _ S = _; unfold b_with_parts; refine run_rt0 rfl ?_
  have : ps.length + 1 ≤ sizeLine := small_line (by omega)
  simp [startD, enc, this, Nat.add_comm]
theorem r_with_call (f : Str) (as : List T) (ps : List D) (n : Nat) (S : SS) : Φ (n + 1) .with_parts [.dat (enc (.call f as)), .dat (.list ps)] S = some (.dat (.tuple [.str "call", .str f, .tuple ps]), S) := by
  rw [Φ_succ]; show b_with_parts (Φ n) _ S = _; unfold b_with_parts; refine run_rt0 rfl ?_
  simp [startD, enc]
/-! ### folding -/
abbrev Hd := List (Str × Nat)
def encH (h : Hd) : List (Key × D) := h.map fun p => (Sum.inr p.1, .int p.2)
structure OpvOk (F : Op → Nat → Nat → Nat) : Prop where
  plus : ∀ m n : Nat, ((m : Int) + n) % 1000 = ((F .plus m n : Nat) : Int)
  less : ∀ m n : Nat, ((m : Int) - n) % 1000 = ((F .less m n : Nat) : Int)
  times : ∀ m n : Nat, ((m : Int) * n) % 1000 = ((F .times m n : Nat) : Int)
  same : ∀ m n : Nat, F .same m n = if m = n then 1 else 0
  under : ∀ m n : Nat, F .under m n = if m < n then 1 else 0
  lt : ∀ o m n, F o m n < 1000
def opv0 (o : Op) (m n : Nat) : Nat := match o with
  | .plus => (m + n) % 1000
  | .less => (((m : Int) - n) % 1000).toNat
  | .times => m * n % 1000
  | .same => if m = n then 1 else 0
  | .under => if m < n then 1 else 0
theorem opv0_ok : OpvOk opv0 where
  plus := fun m n => by simp [opv0]
  less := fun m n => by
    simp only [opv0]
    exact (Int.toNat_of_nonneg (Int.emod_nonneg _ (by decide))).symm
  times := fun m n => by simp [opv0]
  same := fun m n => rfl
  under := fun m n => rfl
  lt := fun o m n => by
    cases o <;> simp only [opv0]
    · exact Nat.mod_lt _ (by decide)
    · have := Int.emod_lt_of_pos ((m : Int) - n) (by decide : (0 : Int) < 1000)
      omega
    · exact Nat.mod_lt _ (by decide)
    · split <;> decide
    · split <;> decide
/-- shut -/
noncomputable def opvE : {F : Op → Nat → Nat → Nat // OpvOk F} := Classical.choice ⟨⟨opv0, opv0_ok⟩⟩
noncomputable def opv : Op → Nat → Nat → Nat := opvE.1
theorem opv_ok : OpvOk opv := opvE.2
noncomputable def mkOp (o : Op) : T → T → T
  | .w m, .w n => .w (opv o m n)
  | a, b => .op o a b
def mkIf : T → T → T → T
  | .w 0, _, b => b
  | .w (_ + 1), a, _ => a
  | c, a, b => .ite c a b
def hget (h : Hd) (x : Str) : Option Nat := (h.find? fun p => decide (p.1 = x)).map (·.2)
mutual
noncomputable def fold (h : Hd) : T → T
  | .w n => .w n
  | .v x => match hget h x with
    | some n => .w n
    | none => .v x
  | .op o a b => mkOp o (fold h a) (fold h b)
  | .ite c a b => mkIf (fold h c) (fold h a) (fold h b)
  | .call f as => .call f (foldL h as)
noncomputable def foldL (h : Hd) : List T → List T
  | [] => []
  | a :: as => fold h a :: foldL h as
end
theorem foldL_map (h : Hd) : ∀ as : List T, foldL h as = as.map (fold h)
  | [] => by simp [foldL]
  | a :: as => by rw [foldL, foldL_map h as, List.map_cons]
theorem getK_encH (h : Hd) (x : Str) (d : D) : (getK (encH h) (Sum.inr x)).getD d = match hget h x with
    | some n => .int n
    | none => d := by
  unfold getK hget encH
  induction h with
  | nil => simp
  | cons p h ih =>
    obtain ⟨y, n⟩ := p
    rw [List.map_cons, List.find?_cons, List.find?_cons]
    by_cases e : y = x
    · subst e; simp
    · have e1 : ¬ ((Sum.inr y : Key) = Sum.inr x) := fun q => e (Sum.inr.inj q)
      simp only [e, e1, decide_false]
      exact ih
theorem opv_lt (o : Op) {m n : Nat} : opv o m n < 1000 := opv_ok.lt o m n
theorem fold_ok {names : List Str} {heads : List (Str × Nat)} {h : Hd} (hh : ∀ p ∈ h, p.2 < 1000) {d : Nat} {t : T} (ok : SumOk names heads d t) : SumOk names heads d (fold h t) := by
  induction ok with
  | w hn => simp only [fold]; exact .w hn
  | @v d x hx =>
    simp only [fold]
    cases e : hget h x with
    | none => exact .v hx
    | some n =>
      unfold hget at e
      cases q : h.find? (fun p => decide (p.1 = x)) with
      | none => rw [q] at e; cases e
      | some p =>
        rw [q] at e; cases e
        exact .w (hh p (List.mem_of_find?_eq_some q))
  | @op d o a b _ _ ia ib =>
    simp only [fold]
    unfold mkOp
    split
    · exact .w (opv_lt o)
    · exact .op ia ib
  | @ite d c a b _ _ _ ic ia ib =>
    simp only [fold]
    unfold mkIf
    split
    · exact ib.mono (fun _ h => h) (fun _ h => h) (by omega)
    · exact ia.mono (fun _ h => h) (fun _ h => h) (by omega)
    · exact .ite ic ia ib
  | @call d f as hf _ ih =>
    simp only [fold]
    refine .call (by rw [foldL_map, List.length_map]; exact hf) fun a ha => ?_
    rw [foldL_map] at ha
    obtain ⟨b, hb, rfl⟩ := List.mem_map.mp ha
    exact ih b hb
end Cy
end
section
set_option Elab.async false
set_option maxRecDepth 100000
namespace Cy
open PySem L2
theorem ok_plus : PyData.strOk "plus" = true := by decide +kernel
theorem ok_less : PyData.strOk "less" = true := by decide +kernel
theorem ok_times : PyData.strOk "times" = true := by decide +kernel
theorem ok_same : PyData.strOk "same" = true := by decide +kernel
theorem ok_under : PyData.strOk "under" = true := by decide +kernel
theorem words_ne : (Str.ofString "less" == Str.ofString "plus") = false ∧ (Str.ofString "times" == Str.ofString "plus") = false ∧ (Str.ofString "times" == Str.ofString "less") = false ∧ (Str.ofString "same" == Str.ofString "plus") = false ∧ (Str.ofString "same" == Str.ofString "less") = false ∧ (Str.ofString "same" == Str.ofString "times") = false ∧
  (Str.ofString "under" == Str.ofString "plus") = false ∧ (Str.ofString "under" == Str.ofString "less") = false ∧ (Str.ofString "under" == Str.ofString "times") = false ∧ (Str.ofString "under" == Str.ofString "same") = false := by decide +kernel
theorem mul_fit {m n : Nat} (hm : m < 1000) : mulD (.int m) (.int n) = some (.int ((m : Int) * (n : Int))) :=
  mulD_int _ _ (fit_lit_l _ _ (fit_small (by omega) (by omega)))
theorem cRING : c_RING = .int 1000 := rfl
def opI (o : Op) (i j : Int) : Int := match o with
  | .plus => (i + j) % 1000
  | .less => (i - j) % 1000
  | .times => i * j % 1000
  | .same => if i = j then 1 else 0
  | .under => if i < j then 1 else 0
theorem g_reckoned (o : Op) (i j : Int) (hm : mulD (.int i) (.int j) = some (.int (i * j))) (n : Nat) (S : SS) : Φ (n + 1) .reckoned [.dat (.str o.nm), .dat (.int i), .dat (.int j)] S = some (.dat (.int (opI o i j)), S) := by
  rw [Φ_succ]; show b_reckoned (Φ n) _ S = _; unfold b_reckoned; refine run_rt0 rfl ?_
  obtain ⟨w1, w2, w3, w4, w5, w6, w7, w8, w9, w10⟩ := words_ne
  cases o
  · simp [startD, Op.nm, eqD_str, ok_plus, ok_less, cRING, modD_int, opI]
  · simp [startD, Op.nm, eqD_str, ok_plus, ok_less, cRING, modD_int, w1, opI]
  · simp [startD, Op.nm, eqD_str, ok_plus, ok_less, ok_times, cRING, modD_int, w2, w3, hm, opI]
  · simp [startD, Op.nm, eqD_str, ok_plus, ok_less, ok_times, ok_same, cRING, w4, w5, w6, eqD_int, opI]
  · simp [startD, Op.nm, eqD_str, ok_plus, ok_less, ok_times, ok_same, ok_under, cRING, w7, w8, w9, w10, opI]
theorem r_look (a b c d e : D) (o : Op) (S : SS) : ixR (S ++ [.dic (mergeD (mergeD [] [(Sum.inr (Str.ofString "plus"), a), (Sum.inr (Str.ofString "less"), b), (Sum.inr (Str.ofString "times"), c)]) (mergeD [] [(Sum.inr (Str.ofString "same"), d), (Sum.inr (Str.ofString "under"), e)])), .dic (mergeD [] [(Sum.inr (Str.ofString "same"), d), (Sum.inr (Str.ofString "under"), e)])]) (.obj S.length) (.dat (.str o.nm)) =
    some (.dat (match o with | .plus => a | .less => b | .times => c | .same => d | .under => e)) := by
  have h : ∀ k v, getK (mergeD (mergeD [] [(Sum.inr (Str.ofString "plus"), a), (Sum.inr (Str.ofString "less"), b), (Sum.inr (Str.ofString "times"), c)]) (mergeD [] [(Sum.inr (Str.ofString "same"), d), (Sum.inr (Str.ofString "under"), e)])) k = some v → ∀ x, keyOf x = some k → ixR (S ++ [.dic (mergeD (mergeD [] [(Sum.inr (Str.ofString "plus"), a), (Sum.inr (Str.ofString "less"), b), (Sum.inr (Str.ofString "times"), c)]) (mergeD [] [(Sum.inr (Str.ofString "same"), d), (Sum.inr (Str.ofString "under"), e)])), .dic (mergeD [] [(Sum.inr (Str.ofString "same"), d), (Sum.inr (Str.ofString "under"), e)])]) (.obj S.length) (.dat x) = some (.dat v) := by
    intro k v hk x hx
    have ha : ∀ l u, asKv (S ++ [.dic l, .dic u]) (.obj S.length) = some l := fun l u => by unfold asKv; simp
    unfold ixR
    simp only [ha, hx, hk, Option.map_some]
  cases o
  · exact h (Sum.inr (Str.ofString "plus")) a (by kernel_rfl) _ rfl
  · exact h (Sum.inr (Str.ofString "less")) b (by kernel_rfl) _ rfl
  · exact h (Sum.inr (Str.ofString "times")) c (by kernel_rfl) _ rfl
  · exact h (Sum.inr (Str.ofString "same")) d (by kernel_rfl) _ rfl
  · exact h (Sum.inr (Str.ofString "under")) e (by kernel_rfl) _ rfl
theorem g_law_reckoned (o : Op) (i j : Int) (hm : mulD (.int i) (.int j) = some (.int (i * j))) (n : Nat) (S : SS) : Φ (n + 1) .law_reckoned [.dat (.str o.nm), .dat (.int i), .dat (.int j)] S = some (.dat (.int (opI o i j)), S) := by
  rw [Φ_succ]; show b_law_reckoned (Φ n) _ S = _; unfold b_law_reckoned
  refine run_rt (S' := [.dic (mergeD (mergeD [] [(Sum.inr (Str.ofString "plus"), .int (i + j)), (Sum.inr (Str.ofString "less"), .int (i - j)), (Sum.inr (Str.ofString "times"), .int (i * j))]) (mergeD [] [(Sum.inr (Str.ofString "same"), .int (if i = j then 1 else 0)), (Sum.inr (Str.ofString "under"), .int (if i < j then 1 else 0))])), .dic (mergeD [] [(Sum.inr (Str.ofString "same"), .int (if i = j then 1 else 0)), (Sum.inr (Str.ofString "under"), .int (if i < j then 1 else 0))])]) rfl ?_
  have L := r_look (.int (i + j)) (.int (i - j)) (.int (i * j)) (.int (if i = j then 1 else 0)) (.int (if i < j then 1 else 0)) o S
  have l3 : ∀ a b c : D, (mergeD [] [(Sum.inr (Str.ofString "plus"), a), (Sum.inr (Str.ofString "less"), b), (Sum.inr (Str.ofString "times"), c)]).length = 3 := fun a b c => by kernel_rfl
  have l2 : ∀ a b : D, (mergeD [] [(Sum.inr (Str.ofString "same"), a), (Sum.inr (Str.ofString "under"), b)]).length = 2 := fun a b => by kernel_rfl
  have ha2 : ∀ l u, asKv (S ++ [.dic l, .dic u]) (.obj (S.length + 1)) = some u := fun l u => by unfold asKv; simp
  have ap : apart S.length (.obj (S.length + 1)) = true := by simp [apart]
  have sz : 3 + 2 ≤ sizeLine := small_line (by decide)
  simp [startD, eDispO, eUpdate, pEval, keyOf, hm, eqD_int, lookK, ha2, ap, l3, l2, sz, L]
  cases o <;> simp [modD_int, opI]
  · split <;> decide
  · split <;> decide
theorem r_reckoned (o : Op) {m k : Nat} (hm : m < 1000) (n : Nat) (S : SS) : Φ (n + 1) .reckoned [.dat (.str o.nm), .dat (.int m), .dat (.int k)] S = some (.dat (.int (opv o m k)), S) ∧
    Φ (n + 1) .law_reckoned [.dat (.str o.nm), .dat (.int m), .dat (.int k)] S = some (.dat (.int (opv o m k)), S) := by
  rw [g_reckoned o m k (mul_fit hm), g_law_reckoned o m k (mul_fit hm)]
  have : opI o m k = ((opv o m k : Nat) : Int) := by
    cases o
    · exact opv_ok.plus m k
    · exact opv_ok.less m k
    · exact opv_ok.times m k
    · rw [opv_ok.same]
      simp only [opI]
      by_cases e : m = k
      · subst e; simp
      · have e' : ¬ (m : Int) = k := by omega
        simp [e, e']
    · rw [opv_ok.under]
      simp only [opI]
      by_cases e : m < k
      · have e' : (m : Int) < k := by omega
        simp [e, e']
      · have e' : ¬ (m : Int) < k := by omega
        simp [e, e']
  rw [this]
  exact ⟨rfl, rfl⟩
end Cy
end
section
set_option Elab.async false
set_option maxRecDepth 100000
namespace Cy
open PySem L2
theorem x_comp1 (F : Fn) (HR : R) (h : T → T) {src : Im} (ts : List T) (x0 x2 : Option R) (S : SS) (hs : src [x0, some HR, x2, none] S = some ((encs ts).map .dat, none, S)) (hf : ∀ t ∈ ts, ∀ S, F [.dat (enc t), HR] S = some (.dat (enc (h t)), S)) :
    eComp [3] src (gNm 3) tTrue (eCall F (aCons (eVar 3) (aCons (eVar 1) aNil))) [x0, some HR, x2, none] S = some (.dat (.list (encs (ts.map h))), S) := by
  have e : (encs ts).map R.dat = ts.map fun t => R.dat (enc t) := by rw [encs_map, List.map_map]; rfl
  rw [e] at hs
  have := eComp_ok (own := [3]) (g := gNm 3) (c := tTrue) (e := eCall F (aCons (eVar 3) (aCons (eVar 1) aNil))) hs (CompOk.map (fun t => R.dat (enc t)) (fun t => enc (h t)) ts fun t ht => ⟨[x0, some HR, x2, some (.dat (enc t))], by simp, fun acc => by simp [hf t ht]⟩)
  rw [this, encs_map, List.map_map]
  rfl
def isW : T → Bool
  | .w _ => true
  | _ => false
@[simp] theorem isInt_enc (t : T) : isiD "int" (enc t) = some (.bool (isW t)) := by cases t <;> simp [enc, isW]
@[simp] theorem isTup_enc_op (o : Op) (a b : T) : isiD "tuple" (enc (.op o a b)) = some (.bool true) := by simp [enc]
theorem isW_w {t : T} (h : isW t = true) : ∃ m, t = .w m := by cases t <;> simp [isW] at h <;> exact ⟨_, rfl⟩
theorem mkOp_not (o : Op) {a b : T} (h : (isW a && isW b) = false) : mkOp o a b = .op o a b := by
  unfold mkOp
  split
  · simp [isW] at h
  · rfl
theorem mkIf_not {c a b : T} (h : isW c = false) : mkIf c a b = .ite c a b := by
  unfold mkIf
  split
  · simp [isW] at h
  · simp [isW] at h
  · rfl
theorem foldL2 (h : Hd) (ts : List T) : ts.map (fold h) = foldL h ts := (foldL_map h ts).symm
theorem notIn_op (o : Op) (S : SS) : notInR S (.dat (.str o.nm)) (.dat (.tuple [.str "if", .str "call"])) = some (.dat (.bool true)) := by
  have h : inR S (.dat (.str o.nm)) (.dat (.tuple [.str "if", .str "call"])) = some (.dat (.bool false)) := by
    unfold inR
    simp only [show asKv S (.dat (.tuple [.str "if", .str "call"])) = none from rfl, l2_dat]
    cases o <;> (rw [show ∀ x, inD (.str x) (.tuple [.str "if", .str "call"]) = if SeqAt.shaped (.str x) && SeqAt.shaped (.list [.str "if", .str "call"]) then some (.bool (([.str "if", .str "call"] : List D).any fun z => PyData.eqv z (.str x))) else none from fun _ => rfl]; rw [if_pos (by decide +kernel)]; exact congrArg (fun b => some (R.dat (.bool b))) (by decide +kernel))
  unfold notInR
  rw [h]
  rfl
theorem notIn_not (x : Str) (hx : x = Str.ofString "if" ∨ x = Str.ofString "call") (S : SS) : notInR S (.dat (.str x)) (.dat (.tuple [.str "if", .str "call"])) = some (.dat (.bool false)) := by
  have h : inR S (.dat (.str x)) (.dat (.tuple [.str "if", .str "call"])) = some (.dat (.bool true)) := by
    unfold inR
    simp only [show asKv S (.dat (.tuple [.str "if", .str "call"])) = none from rfl, l2_dat]
    rcases hx with rfl | rfl <;> (rw [show ∀ x, inD (.str x) (.tuple [.str "if", .str "call"]) = if SeqAt.shaped (.str x) && SeqAt.shaped (.list [.str "if", .str "call"]) then some (.bool (([.str "if", .str "call"] : List D).any fun z => PyData.eqv z (.str x))) else none from fun _ => rfl]; rw [if_pos (by decide +kernel)]; exact congrArg (fun b => some (R.dat (.bool b))) (by decide +kernel))
  unfold notInR
  rw [h]
  rfl
theorem r_folded_by {names : List Str} {heads : List (Str × Nat)} (hh : ∀ p ∈ heads, p.2 ≤ 3) {h : Hd} (h1 : ∀ p ∈ h, p.2 < 1000) {d : Nat} {t : T} (ok : SumOk names heads d t) :
    ∀ n S, Φ (n + d + 2) .folded_by [.dat (enc t), .dic (encH h)] S = some (.dat (enc (fold h t)), S) := by
  induction ok with
  | @w d m hm => intro n S; rw [Φ_succ]; show b_folded_by (Φ (n + d + 1)) _ S = _; unfold b_folded_by; refine run_rt0 rfl ?_; simp [startD, enc, fold]
  | @v d x hx =>
    intro n S
    rw [Φ_succ]; show b_folded_by (Φ (n + d + 1)) _ S = _; unfold b_folded_by; refine run_rt0 rfl ?_
    have g := getK_encH h x (.str x)
    simp [startD, enc, fold, eGet2, asKv, keyOf]
    rw [g]
    cases hget h x <;> simp [enc]
  | @op d o a b ha hb ia ib =>
    intro n S
    rw [Φ_succ]; show b_folded_by (Φ (n + (d + 1) + 1)) _ S = _; unfold b_folded_by; refine run_rt0 rfl ?_
    have p := r_parts_of (.op o a b) (n + (d + 1))
    have c := x_comp1 (Φ (n + (d + 1) + 1) .folded_by) (.dic (encH h)) (fold h) [a, b] (src := iSeq (eCall (Φ (n + (d + 1) + 1) .parts_of) (aCons (eVar 0) aNil))) (some (.dat (enc (.op o a b)))) none S (by simp [p, subs]) (by
      intro t ht S
      simp at ht
      rcases ht with rfl | rfl
      · exact ia n S
      · exact ib n S)
    have wo := r_with_op o a b [enc (fold h a), enc (fold h b)] (by simp) (n + (d + 1))
    have ka := fold_ok h1 ha
    have kb := fold_ok h1 hb
    simp [encs, enc] at c wo
    cases hw : (isW (fold h a) && isW (fold h b)) with
    | true =>
      simp at hw
      obtain ⟨x, ex⟩ := isW_w hw.1
      obtain ⟨y, ey⟩ := isW_w hw.2
      rw [ex] at ka
      have hx : x < 1000 := by cases ka; assumption
      have rk := fun S => (r_reckoned o (k := y) hx (n + (d + 1)) S).1
      simp [ex, ey, enc] at c
      simp [startD, enc, c, notIn_op, isW, ex, ey, rk, fold, mkOp]
    | false =>
      rw [fold, mkOp_not o hw]
      simp [startD, enc, c, notIn_op, wo]
      cases hwa : isW (fold h a) with
      | false => simp [wo]
      | true => rw [hwa] at hw; simp at hw; simp [hw, wo]
  | @ite d x a b hx ha hb ix ia ib =>
    intro n S
    rw [Φ_succ]; show b_folded_by (Φ (n + (d + 1) + 1)) _ S = _; unfold b_folded_by; refine run_rt0 rfl ?_
    have p := r_parts_of (.ite x a b) (n + (d + 1))
    have c := x_comp1 (Φ (n + (d + 1) + 1) .folded_by) (.dic (encH h)) (fold h) [x, a, b] (src := iSeq (eCall (Φ (n + (d + 1) + 1) .parts_of) (aCons (eVar 0) aNil))) (some (.dat (enc (.ite x a b)))) none S (by simp [p, subs]) (by
      intro t ht S
      simp at ht
      rcases ht with rfl | rfl | rfl
      · exact ix n S
      · exact ia n S
      · exact ib n S)
    have wo := r_with_ite x a b [enc (fold h x), enc (fold h a), enc (fold h b)] (by simp) (n + (d + 1))
    have ni := notIn_not (Str.ofString "if") (.inl rfl)
    simp [encs, enc] at c wo
    cases hw : isW (fold h x) with
    | true =>
      obtain ⟨m, ex⟩ := isW_w hw
      simp [ex, enc] at c
      cases m with
      | zero => simp [startD, enc, c, isW, ex, fold, mkIf, eqD_int]
      | succ m =>
        have e0 : ¬ ((m : Int) + 1 = 0) := by omega
        simp [startD, enc, c, isW, ex, fold, mkIf, eqD_int, e0]
    | false =>
      rw [fold, mkIf_not hw]
      simp [startD, enc, c, ni, hw, wo]
  | @call d f as hf has ih =>
    intro n S
    rw [Φ_succ]; show b_folded_by (Φ (n + (d + 1) + 1)) _ S = _; unfold b_folded_by; refine run_rt0 rfl ?_
    have p := r_parts_of (.call f as) (n + (d + 1))
    have c := x_comp1 (Φ (n + (d + 1) + 1) .folded_by) (.dic (encH h)) (fold h) as (src := iSeq (eCall (Φ (n + (d + 1) + 1) .parts_of) (aCons (eVar 0) aNil))) (some (.dat (enc (.call f as)))) none S (by simp [p, subs]) (fun t ht S => ih t ht n S)
    rw [foldL2] at c
    have wo := r_with_call f as (encs (foldL h as)) (n + (d + 1))
    have ni := notIn_not (Str.ofString "call") (.inr rfl)
    simp [enc] at c wo
    simp [startD, enc, c, ni, wo, fold]
theorem r_law_fold {names : List Str} {heads : List (Str × Nat)} (hh : ∀ p ∈ heads, p.2 ≤ 3) {h : Hd} (h1 : ∀ p ∈ h, p.2 < 1000) {d : Nat} {t : T} (ok : SumOk names heads d t) :
    ∀ n S, Φ (n + d + 2) .law_fold [.dat (enc t), .dic (encH h)] S = some (.dat (enc (fold h t)), S) := by
  induction ok with
  | @w d m hm => intro n S; rw [Φ_succ]; show b_law_fold (Φ (n + d + 1)) _ S = _; unfold b_law_fold; refine run_rt0 rfl ?_; simp [startD, enc, fold]
  | @v d x hx =>
    intro n S
    rw [Φ_succ]; show b_law_fold (Φ (n + d + 1)) _ S = _; unfold b_law_fold; refine run_rt0 rfl ?_
    have g := getK_encH h x (.str x)
    simp [startD, enc, fold, eGet2, asKv, keyOf]
    rw [g]
    cases hget h x <;> simp [enc]
  | @op d o a b ha hb ia ib =>
    intro n S
    rw [Φ_succ]; show b_law_fold (Φ (n + (d + 1) + 1)) _ S = _; unfold b_law_fold; refine run_rt0 rfl ?_
    have c := x_comp1 (Φ (n + (d + 1) + 1) .law_fold) (.dic (encH h)) (fold h) [a, b] (src := iSeq (eSl (eVar 0) (oSome (eC (.int 1))) oNone)) (some (.dat (enc (.op o a b)))) none S (by simp [enc, encs]) (by
      intro t ht S
      simp at ht
      rcases ht with rfl | rfl
      · exact ia n S
      · exact ib n S)
    have ka := fold_ok h1 ha
    simp [encs, enc] at c
    cases hw : (isW (fold h a) && isW (fold h b)) with
    | true =>
      simp at hw
      obtain ⟨x, ex⟩ := isW_w hw.1
      obtain ⟨y, ey⟩ := isW_w hw.2
      rw [ex] at ka
      have hx : x < 1000 := by cases ka; assumption
      have rk := fun S => (r_reckoned o (k := y) hx (n + (d + 1)) S).2
      simp [ex, ey, enc] at c
      simp [startD, enc, c, isW, ex, ey, rk, fold, mkOp]
    | false =>
      rw [fold, mkOp_not o hw]
      simp [startD, enc, c]
      cases hwa : isW (fold h a) with
      | false => simp
      | true => rw [hwa] at hw; simp at hw; simp [hw]
  | @ite d x a b hx ha hb ix ia ib =>
    intro n S
    rw [Φ_succ]; show b_law_fold (Φ (n + (d + 1) + 1)) _ S = _; unfold b_law_fold; refine run_rt0 rfl ?_
    have c := x_comp1 (Φ (n + (d + 1) + 1) .law_fold) (.dic (encH h)) (fold h) [x, a, b] (src := iSeq (eSl (eVar 0) (oSome (eC (.int 1))) oNone)) (some (.dat (enc (.ite x a b)))) none S (by simp [enc, encs]) (by
      intro t ht S
      simp at ht
      rcases ht with rfl | rfl | rfl
      · exact ix n S
      · exact ia n S
      · exact ib n S)
    simp [encs, enc] at c
    cases hw : isW (fold h x) with
    | true =>
      obtain ⟨m, ex⟩ := isW_w hw
      simp [ex, enc] at c
      cases m with
      | zero => simp [startD, enc, c, isW, ex, fold, mkIf]
      | succ m =>
        have e0 : (0 : Int) < (m : Int) + 1 := by omega
        simp [startD, enc, c, isW, ex, fold, mkIf, e0]
    | false =>
      rw [fold, mkIf_not hw]
      simp [startD, enc, c, hw]
  | @call d f as hf has ih =>
    intro n S
    rw [Φ_succ]; show b_law_fold (Φ (n + (d + 1) + 1)) _ S = _; unfold b_law_fold; refine run_rt0 rfl ?_
    have c := x_comp1 (Φ (n + (d + 1) + 1) .law_fold) (.dic (encH h)) (fold h) as (src := iSeq (e2 ixR (eVar 0) (eC (.int 2)))) (some (.dat (enc (.call f as)))) none S (by simp [enc]) (fun t ht S => ih t ht n S)
    rw [foldL2] at c
    simp [enc] at c
    simp [startD, enc, c, fold]
end Cy
end
section
set_option Elab.async false
set_option maxRecDepth 100000
namespace Cy
open PySem L2
abbrev Shp := List (Option Nat)
def encO : Option Nat → D
  | none => .none
  | some n => .int n
def encS (sh : Shp) : D := .tuple (sh.map encO)
def kn (names : List Str) (sh : Shp) : Hd := (names.zip sh).filterMap fun p => p.2.map fun n => (p.1, n)
theorem mergeD_nodup : ∀ (ps acc : List (Key × D)), ((acc ++ ps).map (·.1)).Nodup → mergeD acc ps = acc ++ ps := by
  intro ps
  induction ps with
  | nil => intro acc _; simp [mergeD]
  | cons p ps ih =>
    intro acc h
    have e : putD acc p.1 p.2 = acc ++ [p] := by
      unfold putD
      rw [if_neg]
      intro q
      obtain ⟨x, hx, e⟩ := List.any_eq_true.mp q
      rw [List.map_append, List.nodup_append] at h
      exact h.2.2 x.1 (List.mem_map_of_mem hx) p.1 (by simp) (by simpa using e)
    show mergeD (putD acc p.1 p.2) ps = _
    rw [e, ih (acc ++ [p]) (by simpa using h)]
    simp
theorem pairsOf_encH : ∀ h : Hd, pairsOf (h.map fun p => PyData.tuple [.str p.1, .int p.2]) = some (encH h)
  | [] => rfl
  | p :: h => by
    rw [List.map_cons, pairsOf, pairsOf_encH h]
    rfl
theorem kn_keys : ∀ (names : List Str) (sh : Shp), ((kn names sh).map (·.1)).Sublist names
  | [], sh => by simp [kn]
  | x :: names, [] => by simp [kn]
  | x :: names, o :: sh => by
    have ih := kn_keys names sh
    unfold kn at ih ⊢
    rw [List.zip_cons_cons, List.filterMap_cons]
    cases o with
    | none => exact ih.cons _
    | some n => exact ih.cons₂ _
theorem kn_dic {names : List Str} (nd : names.Nodup) (sh : Shp) : mergeD [] (encH (kn names sh)) = encH (kn names sh) := by
  rw [mergeD_nodup _ _ (by
    rw [List.nil_append, encH, List.map_map]
    have h1 : ((kn names sh).map (·.1)).Nodup := nd.sublist (kn_keys names sh)
    have : (kn names sh).map (fun p => (Sum.inr p.1 : Key)) = ((kn names sh).map (·.1)).map Sum.inr := by rw [List.map_map]; rfl
    show ((kn names sh).map (fun p => (Sum.inr p.1 : Key))).Nodup
    rw [this]
    exact List.pairwise_map.mpr (List.Pairwise.imp (fun hab e => hab (Sum.inr.inj e)) h1))]
  rfl
/-- the pairs of a shape that are known -/
theorem x_kn {names : List Str} (nd : names.Nodup) (sh : Shp) (i j : Nat) (own : List Nat) (src : Im) (δ : Dl) (S : SS) (hi : i < δ.length) (hj : j < δ.length) (hij : i ≠ j)
    (hs : src δ S = some (zipR (names.map .str) (sh.map encO), none, S)) (hl : (clrS own δ).length = δ.length) :
    eComp own src (gTp 2 (gsCons (gNm i) (gsCons (gNm j) gsNil))) (tOf (e2 isNotR (eVar j) (eC .none))) (eN tupR (aCons (eVar i) (aCons (eVar j) aNil))) δ S = some (.dat (.list ((kn names sh).map fun p => PyData.tuple [.str p.1, .int p.2])), S) := by
  refine eComp_ok hs ?_
  generalize hδ : clrS own δ = δ0
  rw [hδ] at hl
  have hi : i < δ0.length := by omega
  have hj : j < δ0.length := by omega
  clear hs nd
  induction names generalizing sh with
  | nil => simp [kn, zipR]; exact .nil
  | cons x names ih =>
    cases sh with
    | nil => simp [kn, zipR]; exact .nil
    | cons o sh =>
      have ih := ih sh
      unfold zipR kn at ih ⊢
      rw [List.map_cons, List.map_cons, List.zip_cons_cons, List.map_cons, List.zip_cons_cons, List.filterMap_cons]
      have g : ∀ d : D, gTp 2 (gsCons (gNm i) (gsCons (gNm j) gsNil)) (.dat (.tuple [.str x, d])) δ0 = some ((δ0.set i (some (.dat (.str x)))).set j (some (.dat d))) := fun d => by simp
      have ei : ∀ d : D, ((δ0.set i (some (.dat (.str x)))).set j (some (.dat d)))[i]? = some (some (.dat (.str x))) := fun d => by
        rw [List.getElem?_set_ne (Ne.symm hij), List.getElem?_set_self hi]
      have ej : ∀ d : D, ((δ0.set i (some (.dat (.str x)))).set j (some (.dat d)))[j]? = some (some (.dat d)) := fun d => by
        rw [List.getElem?_set_self (by simpa using hj)]
      cases o with
      | none => exact .no (g _) (fun acc => by simp [ej, encO]) ih
      | some n => exact .yes (g _) (fun acc => by simp [ej, encO]) (fun acc => by simp [ei, ej, encO]) ih
theorem r_known_by {names : List Str} (nd : names.Nodup) (sh : Shp) (n : Nat) (S : SS) : Φ (n + 1) .known_by [.dat (namesD names), .dat (encS sh)] S = some (.dic (encH (kn names sh)), S) := by
  rw [Φ_succ]; show b_known_by (Φ n) _ S = _; unfold b_known_by
  have c := x_kn nd sh 2 3 [2, 3] (iZip2 (eVar 0) (eVar 1)) [some (.dat (namesD names)), some (.dat (encS sh)), none, none] S (by simp) (by simp) (by decide) (by simp [namesD, encS]) (by simp)
  have dc : dicR S (.dat (.list ((kn names sh).map fun p => PyData.tuple [.str p.1, .int p.2]))) = some (.dic (encH (kn names sh))) := by
    unfold dicR
    simp only [asD_dat, pairsOf_encH, kn_dic nd]
  refine (if_pos rfl).trans ?_
  simp [startD, c, dc, fin, closeR]
/-- the maker of a name -/
theorem MK_nodup : MK.Nodup := by decide +kernel
theorem BookOk.one {b : List Mk'} (B : BookOk b) {m m' : Mk'} (h : m ∈ b) (h' : m' ∈ b) (e : m.1 = m'.1) : m = m' := by
  obtain ⟨i, hi, rfl⟩ := List.mem_iff_getElem.mp h
  obtain ⟨j, hj, rfl⟩ := List.mem_iff_getElem.mp h'
  have a1 := B.name i _ (List.getElem?_eq_getElem hi)
  have a2 := B.name j _ (List.getElem?_eq_getElem hj)
  rw [e] at a1
  obtain ⟨q1, p1⟩ := List.getElem?_eq_some_iff.mp a1
  obtain ⟨q2, p2⟩ := List.getElem?_eq_some_iff.mp a2
  have : i = j := (List.getElem_inj MK_nodup).mp (p1.trans p2.symm)
  subst this
  rfl
theorem first_maker {b : List Mk'} (B : BookOk b) {m : Mk'} (h : m ∈ b) : atI ((b.filter fun x => x.1 == m.1).map encM) 0 = some (encM m) := by
  have hm : m ∈ b.filter fun x => x.1 == m.1 := List.mem_filter.mpr ⟨h, by simp⟩
  cases e : b.filter (fun x => x.1 == m.1) with
  | nil => rw [e] at hm; cases hm
  | cons y r =>
    have hy : y ∈ b.filter fun x => x.1 == m.1 := by rw [e]; exact List.mem_cons_self
    obtain ⟨y1, y2⟩ := List.mem_filter.mp hy
    have : y = m := B.one y1 h (by simpa using y2)
    rw [this]
    simp
theorem MK_mem_ok {x : Str} (h : x ∈ MK) : PyData.strOk x = true := MK_ok x h
theorem x_maker {b : List Mk'} (B : BookOk b) {m : Mk'} (h : m ∈ b) (i : Nat) (own : List Nat) (δ : Dl) (S : SS) (hi : i < δ.length) (h0 : δ[0]? = some (some (.dat (encB b)))) (h1 : δ[1]? = some (some (.dat (.str m.1)))) (hc : (clrS own δ).length = δ.length) (hc1 : (clrS own δ)[1]? = δ[1]?) (i1 : i ≠ 1) :
    eComp own (iSeq (eVar 0)) (gNm i) (tOf (e2 (l2 eqD) (e2 ixR (eVar i) (eC (.int 0))) (eVar 1))) (eVar i) δ S = some (.dat (.list ((b.filter fun x => x.1 == m.1).map encM)), S) := by
  refine eComp_ok (rs := b.map fun m => R.dat (encM m)) (by simp [h0, encB]) (CompOk.filter _ _ _ _ fun x hx => ?_)
  refine ⟨(clrS own δ).set i (some (.dat (encM x))), by simp, fun acc => ?_, fun _ acc => ?_⟩
  · have e1 : ((clrS own δ).set i (some (.dat (encM x))))[i]? = some (some (.dat (encM x))) := List.getElem?_set_self (by omega)
    have e2 : ((clrS own δ).set i (some (.dat (encM x))))[1]? = some (some (.dat (.str m.1))) := by rw [List.getElem?_set_ne i1, hc1, h1]
    have k1 := MK_ok _ (B.all x hx).1
    have k2 := MK_ok _ (B.all m h).1
    have hx0 : ixD (encM x) (.int 0) = some (.str x.1) := by simp [encM]
    simp only [tOf_eq, e2_eq, eVar_eq, e1, e2, Option.bind_some, Option.map_some, eC_eq, ixR_dat, l2_dat, hx0, eqD_str k1 k2]
  · have e1 : ((clrS own δ).set i (some (.dat (encM x))))[i]? = some (some (.dat (encM x))) := List.getElem?_set_self (by omega)
    simp [e1]
theorem r_maker_of {b : List Mk'} (B : BookOk b) {m : Mk'} (h : m ∈ b) (n : Nat) (S : SS) : Φ (n + 1) .maker_of [.dat (encB b), .dat (.str m.1)] S = some (.dat (encM m), S) := by
  rw [Φ_succ]; show b_maker_of (Φ n) _ S = _; unfold b_maker_of; refine run_rt0 rfl ?_
  have c := x_maker B h 2 [2] [some (.dat (encB b)), some (.dat (.str m.1)), none] S (by simp) (by simp) (by simp) (by simp) (by simp) (by decide)
  have f := first_maker B h
  simp [startD, c, f]
theorem kn_lt {names : List Str} {sh : Shp} (hs : ∀ n, some n ∈ sh → n < 1000) : ∀ p ∈ kn names sh, p.2 < 1000 := by
  intro p hp
  unfold kn at hp
  obtain ⟨q, hq, e⟩ := List.mem_filterMap.mp hp
  obtain ⟨x, o⟩ := q
  cases o with
  | none => simp at e
  | some n =>
    simp at e
    subst e
    exact hs n (List.of_mem_zip hq).2
theorem r_folded_sum {b : List Mk'} (B : BookOk b) {m : Mk'} (h : m ∈ b) {sh : Shp} (hs : ∀ n, some n ∈ sh → n < 1000) (n : Nat) (S : SS) : Φ (n + 7) .folded_sum [.dat (encB b), .dat (.str m.1), .dat (encS sh)] S = some (.dat (enc (fold (kn m.2.1 sh) m.2.2)), S) := by
  rw [Φ_succ]; show b_folded_sum (Φ (n + 6)) _ S = _; unfold b_folded_sum; refine run_rt0 rfl ?_
  have a1 := r_maker_of B h (n + 5) S
  have nd := (NS_ok _ (B.names m h)).2.2
  have a2 := r_known_by nd sh (n + 5) S
  have a3 := r_folded_by (fun p hp => (B.headNames p hp).1) (kn_lt (names := m.2.1) hs) (B.sum4 m h) n S
  simp [encM] at a1
  simp [startD, a1, a2, a3]
theorem r_law_folded {b : List Mk'} (B : BookOk b) {m : Mk'} (h : m ∈ b) {sh : Shp} (hs : ∀ n, some n ∈ sh → n < 1000) (n : Nat) (S : SS) : Φ (n + 7) .law_folded [.dat (encB b), .dat (.str m.1), .dat (encS sh)] S = some (.dat (enc (fold (kn m.2.1 sh) m.2.2)), S) := by
  rw [Φ_succ]; show b_law_folded (Φ (n + 6)) _ S = _; unfold b_law_folded; refine run_rt0 rfl ?_
  have nd := (NS_ok _ (B.names m h)).2.2
  have c := x_maker B h 6 [6] [some (.dat (encB b)), some (.dat (.str m.1)), some (.dat (encS sh)), none, none, none, none, none, none] S (by simp) (by simp) (by simp) (by simp) (by simp) (by decide)
  have f := first_maker B h
  have k := x_kn nd sh 7 8 [7, 8] (iZip2 (eVar 4) (eVar 2)) [some (.dat (encB b)), some (.dat (.str m.1)), some (.dat (encS sh)), some (.dat (.str m.1)), some (.dat (namesD m.2.1)), some (.dat (enc m.2.2)), none, none, none] S (by simp) (by simp) (by decide) (by simp [namesD, encS]) (by simp)
  have dc : dicR S (.dat (.list ((kn m.2.1 sh).map fun p => PyData.tuple [.str p.1, .int p.2]))) = some (.dic (encH (kn m.2.1 sh))) := by
    unfold dicR
    simp only [asD_dat, pairsOf_encH, kn_dic nd]
  have a3 := r_law_fold (fun p hp => (B.headNames p hp).1) (kn_lt (names := m.2.1) hs) (B.sum4 m h) n S
  simp [encM] at f
  simp [startD, c, f, encM, k, dc, a3]
end Cy
end
section
set_option Elab.async false
set_option maxRecDepth 100000
namespace Cy
open PySem L2
def shO : T → Option Nat
  | .w n => some n
  | _ => none
mutual
def callsOf : T → List (Str × List T)
  | .w _ => []
  | .v _ => []
  | .op _ a b => callsOf a ++ callsOf b
  | .ite c a b => callsOf c ++ (callsOf a ++ callsOf b)
  | .call f as => (f, as) :: callsL as
def callsL : List T → List (Str × List T)
  | [] => []
  | a :: as => callsOf a ++ callsL as
end
def encC (c : Str × List T) : D := .tuple [.str "call", .str c.1, .tuple (encs c.2)]
def encP (c : Str × List T) : D := .tuple [.str c.1, encS (c.2.map shO)]
def cB : Nat → Nat
  | 0 => 0
  | d + 1 => 1 + 3 * cB d
theorem cB_le {d d' : Nat} (h : d ≤ d') : cB d ≤ cB d' := by
  induction d' generalizing d with
  | zero => simp at h; subst h; exact Nat.le_refl _
  | succ k ih =>
    by_cases e : d = k + 1
    · rw [e]; exact Nat.le_refl _
    · have := ih (d := d) (by omega)
      rw [cB]
      omega
theorem callsL_len (k : Nat) : ∀ as : List T, (∀ a ∈ as, (callsOf a).length ≤ k) → (callsL as).length ≤ as.length * k
  | [], _ => by simp [callsL]
  | a :: as, h => by
    have h1 := h a List.mem_cons_self
    have h2 := callsL_len k as fun b hb => h b (List.mem_cons_of_mem _ hb)
    simp [callsL, Nat.add_mul]
    omega
theorem calls_len {names : List Str} {heads : List (Str × Nat)} (hh : ∀ p ∈ heads, p.2 ≤ 3) {d : Nat} {t : T} (h : SumOk names heads d t) : (callsOf t).length ≤ cB d := by
  induction h with
  | w h => simp [callsOf]
  | v h => simp [callsOf]
  | op _ _ ia ib => simp [callsOf, cB]; omega
  | ite _ _ _ ia ib ic => simp [callsOf, cB]; omega
  | @call d f as hf _ ih =>
    have := callsL_len (cB d) as ih
    have h3 := hh _ hf
    simp at h3
    have := Nat.mul_le_mul_right (cB d) h3
    simp [callsOf, cB]
    omega
theorem callsL_subs (t : T) : callsOf t = (match t with | .call f as => [(f, as)] | _ => []) ++ callsL (subs t) := by
  cases t <;> simp [callsOf, callsL, subs]
theorem x_calls1 (F : Fn) (ts : List T) (hf : ∀ t ∈ ts, ∀ S, F [.dat (enc t)] S = some (.dat (.list ((callsOf t).map encC)), S)) (acc : List D) (hl : acc.length + (callsL ts).length ≤ 1000) (a : Option R) (S : SS) :
    forL (gNm 2) (sAsg (e2 (l2 addD) (eVar 1) (eCall F (aCons (eVar 2) aNil))) (gNm 1)) [2] none ((encs ts).map .dat) [a, some (.dat (.list acc)), none] S =
      some (.nx [a, some (.dat (.list (acc ++ (callsL ts).map encC))), none], S) := by
  induction ts generalizing acc with
  | nil => simp [encs, callsL]
  | cons t ts ih =>
    have h1 := hf t List.mem_cons_self S
    simp [callsL] at hl
    have h2 := ih (fun t ht => hf t (List.mem_cons_of_mem _ ht)) (acc ++ (callsOf t).map encC) (by simp; omega)
    have sz : acc.length + (callsOf t).length ≤ sizeLine := small_line (by omega)
    simp at h1 h2
    simp [encs, h1, h2, sz, callsL]
theorem x_calls2 (F : Fn) (ts : List T) (hf : ∀ t ∈ ts, ∀ S, F [.dat (enc t)] S = some (.dat (.list ((callsOf t).map encP)), S)) (acc : List D) (hl : acc.length + (callsL ts).length ≤ 1000) (a b : Option R) (S : SS) :
    forL (gNm 3) (sAsg (e2 (l2 addD) (eVar 1) (eCall F (aCons (eVar 3) aNil))) (gNm 1)) [3] none ((encs ts).map .dat) [a, some (.dat (.list acc)), b, none] S =
      some (.nx [a, some (.dat (.list (acc ++ (callsL ts).map encP))), b, none], S) := by
  induction ts generalizing acc with
  | nil => simp [encs, callsL]
  | cons t ts ih =>
    have h1 := hf t List.mem_cons_self S
    simp [callsL] at hl
    have h2 := ih (fun t ht => hf t (List.mem_cons_of_mem _ ht)) (acc ++ (callsOf t).map encP) (by simp; omega)
    have sz : acc.length + (callsOf t).length ≤ sizeLine := small_line (by omega)
    simp at h1 h2
    simp [encs, h1, h2, sz, callsL]
@[simp] theorem l2_lastL (o : D → D → Option D) (L : List D) (d : D) (S : SS) : l2 o (S ++ [.lst L]) (.obj S.length) (.dat d) = (match o (.list L) d with
    | some d => some (.dat d)
    | none => none) := by
  unfold l2
  simp only [asD_last, asD_dat]
  try (cases o (.list L) d <;> rfl)
theorem run_obj {N np : Nat} {b : Sm} {rs : List R} {S : SS} {ds : List D} (h : rs.length = np) (e : b (startD N rs) S = some (.rt (.obj S.length), S ++ [.lst ds])) : runFn N np b rs S = some (.dat (.list ds), S) := by
  unfold runFn
  rw [if_pos h, e]
  simp [fin, closeR]
theorem sub_ok {names : List Str} {heads : List (Str × Nat)} {d : Nat} {t : T} (h : SumOk names heads (d + 1) t) : ∀ s ∈ subs t, SumOk names heads d s := by
  intro s hs
  cases h with
  | w => simp [subs] at hs
  | v => simp [subs] at hs
  | op a b => simp [subs] at hs; rcases hs with rfl | rfl <;> assumption
  | ite a b c => simp [subs] at hs; rcases hs with rfl | rfl | rfl <;> assumption
  | call a b => exact b s hs
theorem sub_nil {names : List Str} {heads : List (Str × Nat)} {t : T} (h : SumOk names heads 0 t) : subs t = [] := by
  cases h <;> simp [subs]
theorem r_calls_in {names : List Str} {heads : List (Str × Nat)} (hh : ∀ p ∈ heads, p.2 ≤ 3) : ∀ (d : Nat) (t : T), SumOk names heads d t → d ≤ 4 → ∀ n S, Φ (n + d + 2) .calls_in [.dat (enc t)] S = some (.dat (.list ((callsOf t).map encC)), S) := by
  have c4 : cB 4 = 40 := rfl
  intro d
  induction d with
  | zero =>
    intro t h _ n S
    have sn := sub_nil h
    have p := r_parts_of t n
    rw [sn] at p
    rw [Φ_succ]; show b_calls_in (Φ (n + 1)) _ S = _; unfold b_calls_in
    cases h with
    | w => refine run_obj rfl ?_; simp [enc, encs] at p; simp [startD, enc, p, callsOf]
    | v => refine run_obj rfl ?_; simp [enc, encs] at p; simp [startD, enc, p, callsOf]
  | succ d ih =>
    intro t h hd n S
    have e := calls_len hh h
    have e4 := cB_le hd
    have p := r_parts_of t (n + (d + 1))
    rw [Φ_succ]; show b_calls_in (Φ (n + (d + 1) + 1)) _ S = _; unfold b_calls_in
    have hf : ∀ s ∈ subs t, ∀ S, Φ (n + (d + 1) + 1) .calls_in [.dat (enc s)] S = some (.dat (.list ((callsOf s).map encC)), S) := fun s hs S => ih s (sub_ok h s hs) (by omega) n S
    -- the loop, from the list that is written
    have lp : ∀ (L : List D), L.length ≤ 1 → subs t ≠ [] → forL (gNm 2) (sAsg (e2 (l2 addD) (eVar 1) (eCall (Φ (n + (d + 1) + 1) .calls_in) (aCons (eVar 2) aNil))) (gNm 1)) [2] none ((encs (subs t)).map .dat) [some (.dat (enc t)), some (.obj S.length), none] (S ++ [.lst L]) =
        some (.nx [some (.dat (enc t)), some (.dat (.list (L ++ (callsL (subs t)).map encC))), none], S ++ [.lst L]) := by
      intro L hL hne
      have el := calls_len hh h
      rw [callsL_subs] at el
      cases hs : subs t with
      | nil => exact absurd hs hne
      | cons s ss =>
        rw [hs] at hf el
        simp [callsL] at el
        have h1 := hf s List.mem_cons_self (S ++ [.lst L])
        have h2 := x_calls1 (Φ (n + (d + 1) + 1) .calls_in) ss (fun s h => hf s (List.mem_cons_of_mem _ h)) (L ++ (callsOf s).map encC) (by simp; omega) (some (.dat (enc t))) (S ++ [.lst L])
        have sz : L.length + (callsOf s).length ≤ sizeLine := small_line (by omega)
        simp at h1 h2
        simp [encs, h1, h2, sz, callsL]
    have done : ∀ (L : List D), L.length ≤ 1 → ∀ X : List D, X = L ++ (callsL (subs t)).map encC →
        fin S.length (sSeq (sFor (iSeq (eCall (Φ (n + (d + 1) + 1) .parts_of) (aCons (eVar 0) aNil))) (gNm 2) (sAsg (e2 (l2 addD) (eVar 1) (eCall (Φ (n + (d + 1) + 1) .calls_in) (aCons (eVar 2) aNil))) (gNm 1)) [2]) (sRet (eVar 1)) [some (.dat (enc t)), some (.obj S.length), none] (S ++ [.lst L])) = some (.dat (.list X), S) := by
      intro L hL X hX
      by_cases hne : subs t = []
      · have p' := p (S ++ [.lst L])
        rw [hne] at p'
        simp [encs] at p'
        rw [hne] at hX
        simp [callsL] at hX
        subst hX
        simp [p', fin, closeR]
      · have q := lp L hL hne
        subst hX
        simp [p, q, fin, closeR]
    cases t with
    | w m => rw [show callsOf (.w m) = [] by simp [callsOf]]; have q := done [] (by simp) [] (by simp [subs, callsL]); refine (if_pos rfl).trans ?_; simp only [sSeq_eq] at q ⊢; simp [enc] at q; simp [startD, enc, q]
    | v x => rw [show callsOf (.v x) = [] by simp [callsOf]]; have q := done [] (by simp) [] (by simp [subs, callsL]); refine (if_pos rfl).trans ?_; simp only [sSeq_eq] at q ⊢; simp [enc] at q; simp [startD, enc, q]
    | op o a b => have q := done [] (by simp) _ (show _ = [] ++ (callsL (subs (.op o a b))).map encC from rfl); refine (if_pos rfl).trans ?_; simp only [sSeq_eq] at q ⊢; simp [enc, subs, callsL] at q; simp [startD, enc, q, callsOf]
    | ite c a b => have q := done [] (by simp) _ (show _ = [] ++ (callsL (subs (.ite c a b))).map encC from rfl); refine (if_pos rfl).trans ?_; simp only [sSeq_eq] at q ⊢; simp [enc, subs, callsL] at q; simp [startD, enc, q, callsOf]
    | call f as => have q := done [enc (.call f as)] (by simp) _ (show _ = [enc (.call f as)] ++ (callsL (subs (.call f as))).map encC from rfl); refine (if_pos rfl).trans ?_; simp only [sSeq_eq] at q ⊢; simp [enc, subs] at q; simp [startD, enc, q, callsOf, encC]
end Cy
end
section
set_option Elab.async false
set_option maxRecDepth 100000
namespace Cy
open PySem L2
theorem x_shape (src : Im) (own i : Nat) (as : List T) (δ : Dl) (S : SS) (hi : i < δ.length) (hs : src δ S = some ((encs as).map .dat, none, S)) :
    eComp [i] src (gNm i) tTrue (e2 ixR (eN lstR (aCons (eC .none) (aCons (eVar i) aNil))) (e1 (l1 intD) (e1 (l1 (isiD "int")) (eVar i)))) δ S = some (.dat (.list ((as.map shO).map encO)), S) := by
  have e : (encs as).map R.dat = as.map fun t => R.dat (enc t) := by rw [encs_map, List.map_map]; rfl
  rw [e] at hs
  rw [List.map_map]
  refine eComp_ok hs (CompOk.map (fun t => R.dat (enc t)) (encO ∘ shO) as fun t ht => ⟨(clrS [i] δ).set i (some (.dat (enc t))), by simp, fun acc => ?_⟩)
  have e1 : ((clrS [i] δ).set i (some (.dat (enc t))))[i]? = some (some (.dat (enc t))) := List.getElem?_set_self (by simpa using hi)
  cases hw : isW t with
  | true =>
    obtain ⟨m, rfl⟩ := isW_w hw
    simp only [e1_eq, e2_eq, eN_eq, aCons_eq, aNil_eq, eC_eq, eVar_eq, e1, Option.bind_some, Option.map_some, l1_dat, isInt_enc, hw, intD_bool, lstR_eq, datsOf_cons, datsOf_nil, ixR_dat, l2_dat, ixD_list]
    simp [shO, encO, enc]
  | false =>
    have hs : shO t = none := by cases t <;> simp [isW] at hw <;> rfl
    simp only [e1_eq, e2_eq, eN_eq, aCons_eq, aNil_eq, eC_eq, eVar_eq, e1, Option.bind_some, Option.map_some, l1_dat, isInt_enc, hw, intD_bool, lstR_eq, datsOf_cons, datsOf_nil, ixR_dat, l2_dat, ixD_list]
    simp [hs, encO]
theorem r_shape_of (as : List T) (n : Nat) (S : SS) : Φ (n + 1) .shape_of [.dat (.tuple (encs as))] S = some (.dat (encS (as.map shO)), S) := by
  rw [Φ_succ]; show b_shape_of (Φ n) _ S = _; unfold b_shape_of; refine run_rt0 rfl ?_
  have c := x_shape (iSeq (eVar 0)) 1 1 as [some (.dat (.tuple (encs as))), none] S (by simp) (by simp)
  simp [startD, c, encS]
theorem r_law_calls {names : List Str} {heads : List (Str × Nat)} (hh : ∀ p ∈ heads, p.2 ≤ 3) {d : Nat} {t : T} (h : SumOk names heads d t) (hd : d ≤ 4) : ∀ n S, Φ (n + d + 1) .law_calls [.dat (enc t)] S = some (.dat (.list ((callsOf t).map encP)), S) := by
  have c4 : cB 4 = 40 := rfl
  induction h with
  | w h => intro n S; rw [Φ_succ]; show b_law_calls (Φ _) _ S = _; unfold b_law_calls; refine run_rt0 rfl ?_; simp [startD, enc, callsOf]
  | v h => intro n S; rw [Φ_succ]; show b_law_calls (Φ _) _ S = _; unfold b_law_calls; refine run_rt0 rfl ?_; simp [startD, enc, callsOf]
  | @op d o a b ha hb ia ib =>
    intro n S
    have e := calls_len hh (.op (o := o) ha hb)
    have e4 := cB_le hd
    rw [Φ_succ]; show b_law_calls (Φ (n + (d + 1))) _ S = _; unfold b_law_calls; refine run_rt0 rfl ?_
    have f := x_calls2 (Φ (n + (d + 1)) .law_calls) [a, b] (by
      intro t ht S
      simp at ht
      rcases ht with rfl | rfl
      · exact ia (by omega) n S
      · exact ib (by omega) n S) [] (by simp [callsL]; simp [callsOf] at e; omega) (some (.dat (enc (.op o a b)))) (some (.dat (.tuple [enc a, enc b]))) S
    simp [encs, enc, callsL] at f
    simp [startD, enc, f, callsOf]
  | @ite d x a b hx ha hb ix ia ib =>
    intro n S
    have e := calls_len hh (.ite hx ha hb)
    have e4 := cB_le hd
    rw [Φ_succ]; show b_law_calls (Φ (n + (d + 1))) _ S = _; unfold b_law_calls; refine run_rt0 rfl ?_
    have f := x_calls2 (Φ (n + (d + 1)) .law_calls) [x, a, b] (by
      intro t ht S
      simp at ht
      rcases ht with rfl | rfl | rfl
      · exact ix (by omega) n S
      · exact ia (by omega) n S
      · exact ib (by omega) n S) [] (by simp [callsL]; simp [callsOf] at e; omega) (some (.dat (enc (.ite x a b)))) (some (.dat (.tuple [enc x, enc a, enc b]))) S
    simp [encs, enc, callsL] at f
    simp [startD, enc, f, callsOf]
  | @call d f as hf has ih =>
    intro n S
    have e := calls_len hh (.call hf has)
    have e4 := cB_le hd
    rw [Φ_succ]; show b_law_calls (Φ (n + (d + 1))) _ S = _; unfold b_law_calls; refine run_rt0 rfl ?_
    have g := x_calls2 (Φ (n + (d + 1)) .law_calls) as (fun t ht S => ih t ht (by omega) n S) [encP (f, as)] (by simp [callsOf] at e; simp; omega) (some (.dat (enc (.call f as)))) (some (.dat (.tuple (encs as)))) S
    have c := x_shape (iSeq (e2 ixR (eVar 0) (eC (.int 2)))) 3 3 as [some (.dat (enc (.call f as))), some (.dat (.list [])), some (.dat (.tuple [.str f, .tuple (encs as)])), none] S (by simp) (by simp [enc])
    simp [enc, encP, encS] at g c
    simp [startD, enc, g, c, callsOf, encP, encS]
/-! ### each once -/
def El (x : D) : Prop := x.canLay0 = true ∧ x.depth ≤ 10
theorem El_all : ∀ {l : List D}, (∀ x ∈ l, El x) → PyData.canLayAll0 l = true ∧ PyData.depthAll l ≤ 10
  | [], _ => by simp [PyData.canLayAll0, PyData.depthAll]
  | x :: l, h => by
    obtain ⟨a1, a2⟩ := El_all fun y hy => h y (List.mem_cons_of_mem _ hy)
    obtain ⟨b1, b2⟩ := h x List.mem_cons_self
    rw [PyData.canLayAll0, PyData.depthAll, a1, b1]
    exact ⟨rfl, Nat.max_le.mpr ⟨b2, a2⟩⟩
theorem shaped_of {x : D} (h : El x) : SeqAt.shaped x = true := by
  unfold SeqAt.shaped
  rw [h.1]
  have := h.2
  simp
  omega
theorem shaped_list {l : List D} (h : ∀ x ∈ l, El x) : SeqAt.shaped (.list l) = true := by
  obtain ⟨a1, a2⟩ := El_all h
  unfold SeqAt.shaped
  rw [PyData.canLay0, PyData.depth, a1]
  simp
  omega
theorem shaped_tup {l : List D} (h : ∀ x ∈ l, El x) : SeqAt.shaped (.tuple l) = true := by
  obtain ⟨a1, a2⟩ := El_all h
  unfold SeqAt.shaped
  rw [PyData.canLay0, PyData.depth, a1]
  simp
  omega
theorem ne_same {l : List D} (h : ∀ x ∈ l, El x) : neD (.tuple l) (.tuple l) = some (.bool false) := by
  unfold neD
  rw [shaped_tup h, SeqAt.eqv_refl _ (by rw [PyData.canLay0]; exact (El_all h).1)]
  rfl
def dd : List D → List D → List D
  | acc, [] => acc
  | acc, x :: xs => if acc.any (fun z => PyData.eqv z x) then dd acc xs else dd (acc ++ [x]) xs
theorem dd_mem : ∀ (xs acc : List D), (∀ x ∈ acc, El x) → (∀ x ∈ xs, El x) → ∀ x ∈ dd acc xs, El x
  | [], acc, h1, _ => by simpa [dd] using h1
  | y :: xs, acc, h1, h2 => by
    unfold dd
    split
    · exact dd_mem xs acc h1 fun x hx => h2 x (List.mem_cons_of_mem _ hx)
    · exact dd_mem xs _ (fun x hx => (List.mem_append.mp hx).elim (h1 x) fun hx => by simp at hx; subst hx; exact h2 _ List.mem_cons_self) fun x hx => h2 x (List.mem_cons_of_mem _ hx)
theorem notIn_list {x : D} {acc : List D} (hx : El x) (ha : ∀ y ∈ acc, El y) (S : SS) : notInR (S ++ [.lst acc]) (.dat x) (.obj S.length) = some (.dat (.bool (!acc.any fun z => PyData.eqv z x))) := by
  have h : inR (S ++ [.lst acc]) (.dat x) (.obj S.length) = some (.dat (.bool (acc.any fun z => PyData.eqv z x))) := by
    unfold inR
    have e : asKv (S ++ [.lst acc]) (.obj S.length) = none := by unfold asKv; simp
    simp only [e]
    unfold l2
    simp only [asD_last, asD_dat]
    have e2 : inD x (.list acc) = some (.bool (acc.any fun z => PyData.eqv z x)) := by
      have : inD x (.list acc) = if SeqAt.shaped x && SeqAt.shaped (.list acc) then some (.bool (acc.any fun z => PyData.eqv z x)) else none := by cases x <;> rfl
      rw [this, shaped_of hx, shaped_list ha]
      rfl
    rw [e2]
  unfold notInR
  rw [h]
theorem x_dd1 : ∀ (xs acc : List D), (∀ x ∈ acc, El x) → (∀ x ∈ xs, El x) → acc.length + xs.length ≤ 1000 → ∀ (a : Option R) (S : SS),
    forL (gNm 2) (sIf (tOf (e2 notInR (eVar 2) (eVar 1))) (sExpr (eAppend (eVar 1) (eVar 2))) sSkip) [2] none (xs.map .dat) [a, some (.obj S.length), none] (S ++ [.lst acc]) = some (.nx [a, some (.obj S.length), none], S ++ [.lst (dd acc xs)])
  | [], acc, _, _, _, a, S => by simp [dd]
  | x :: xs, acc, h1, h2, hl, a, S => by
    simp at hl
    have n := notIn_list (h2 x List.mem_cons_self) h1 S
    have sz : acc.length < sizeLine := by rw [sizeLine_eq]; omega
    have h2' : ∀ y ∈ xs, El y := fun y hy => h2 y (List.mem_cons_of_mem _ hy)
    unfold dd
    cases hq : acc.any (fun z => PyData.eqv z x) with
    | true =>
      rw [hq] at n
      have ih := x_dd1 xs acc h1 h2' (by omega) a S
      simp [n, ih]
    | false =>
      rw [hq] at n
      have ih := x_dd1 xs (acc ++ [x]) (fun y hy => (List.mem_append.mp hy).elim (h1 y) fun hy => by simp at hy; subst hy; exact h2 _ List.mem_cons_self) h2' (by simp; omega) a S
      simp [n, ih, sz]
theorem x_dd2 : ∀ (xs acc : List D), (∀ x ∈ acc, El x) → (∀ x ∈ xs, El x) → acc.length + xs.length ≤ 1000 → ∀ (a b c d e : Option R) (S : SS),
    forL (gNm 6) (sIf (tOf (e2 notInR (eVar 6) (eVar 5))) (sExpr (eAppend (eVar 5) (eVar 6))) sSkip) [6] none (xs.map .dat) [a, b, c, d, e, some (.obj S.length), none] (S ++ [.lst acc]) = some (.nx [a, b, c, d, e, some (.obj S.length), none], S ++ [.lst (dd acc xs)])
  | [], acc, _, _, _, a, b, c, d, e, S => by simp [dd]
  | x :: xs, acc, h1, h2, hl, a, b, c, d, e, S => by
    simp at hl
    have n := notIn_list (h2 x List.mem_cons_self) h1 S
    have sz : acc.length < sizeLine := by rw [sizeLine_eq]; omega
    have h2' : ∀ y ∈ xs, El y := fun y hy => h2 y (List.mem_cons_of_mem _ hy)
    unfold dd
    cases hq : acc.any (fun z => PyData.eqv z x) with
    | true =>
      rw [hq] at n
      have ih := x_dd2 xs acc h1 h2' (by omega) a b c d e S
      simp [n, ih]
    | false =>
      rw [hq] at n
      have ih := x_dd2 xs (acc ++ [x]) (fun y hy => (List.mem_append.mp hy).elim (h1 y) fun hy => by simp at hy; subst hy; exact h2 _ List.mem_cons_self) h2' (by simp; omega) a b c d e S
      simp [n, ih, sz]
theorem r_unlike (l : List D) (h : ∀ x ∈ l, El x) (hl : l.length ≤ 1000) (n : Nat) (S : SS) : Φ (n + 1) .unlike [.dat (.list l)] S = some (.dat (.tuple (dd [] l)), S) := by
  rw [Φ_succ]; show b_unlike (Φ n) _ S = _; unfold b_unlike; refine run_rt (S' := [.lst (dd [] l)]) rfl ?_
  have q := x_dd1 l [] (by simp) h (by simpa using hl) (some (.dat (.list l))) S
  have t : l1 tupD (S ++ [.lst (dd [] l)]) (.obj S.length) = some (.dat (.tuple (dd [] l))) := by
    unfold l1
    simp
  simp [startD, q, t]
theorem El_encP {c : Str × List T} (h : PyData.strOk c.1 = true) : El (encP c) := by
  have hs : ∀ x ∈ (c.2.map shO).map encO, x.canLay0 = true ∧ x.depth = 0 := by
    intro x hx
    obtain ⟨o, _, rfl⟩ := List.mem_map.mp hx
    cases o <;> simp [encO, PyData.canLay0, PyData.depth]
  have ha : ∀ l : List D, (∀ x ∈ l, x.canLay0 = true ∧ x.depth = 0) → PyData.canLayAll0 l = true ∧ PyData.depthAll l = 0 := by
    intro l
    induction l with
    | nil => intro _; simp [PyData.canLayAll0, PyData.depthAll]
    | cons y l ih =>
      intro hh
      obtain ⟨a1, a2⟩ := ih fun z hz => hh z (List.mem_cons_of_mem _ hz)
      obtain ⟨b1, b2⟩ := hh y List.mem_cons_self
      rw [PyData.canLayAll0, PyData.depthAll, a1, a2, b1, b2]
      exact ⟨rfl, rfl⟩
  obtain ⟨q1, q2⟩ := ha _ hs
  refine ⟨?_, ?_⟩
  · simp [encP, encS, PyData.canLay0, PyData.canLayAll0, h]
    simpa using q1
  · simp [encP, encS, PyData.depth, PyData.depthAll]
    have q2 : PyData.depthAll (List.map (encO ∘ shO) c.2) = 0 := by simpa using q2
    simp [q2]
theorem calls_mem {names : List Str} {heads : List (Str × Nat)} {d : Nat} {t : T} (h : SumOk names heads d t) : ∀ c ∈ callsOf t, (c.1, c.2.length) ∈ heads := by
  induction h with
  | w h => simp [callsOf]
  | v h => simp [callsOf]
  | op _ _ ia ib => intro c hc; simp [callsOf] at hc; exact hc.elim (ia c) (ib c)
  | ite _ _ _ ia ib ic => intro c hc; simp [callsOf] at hc; exact hc.elim (ia c) fun hc => hc.elim (ib c) (ic c)
  | @call d f as hf _ ih =>
    intro c hc
    simp [callsOf] at hc
    rcases hc with rfl | hc
    · exact hf
    · have L : ∀ as : List T, (∀ a ∈ as, ∀ c ∈ callsOf a, (c.1, c.2.length) ∈ heads) → ∀ c ∈ callsL as, (c.1, c.2.length) ∈ heads := by
        intro as
        induction as with
        | nil => intro _ c hc; simp [callsL] at hc
        | cons a as iha =>
          intro h c hc
          simp [callsL] at hc
          rcases hc with hc | hc
          · exact h a List.mem_cons_self c hc
          · exact iha (fun b hb => h b (List.mem_cons_of_mem _ hb)) c hc
      exact L as ih c hc
/-- what is called in the folded sum of a maker -/
noncomputable def pairsIn (m : Mk') (sh : Shp) : List D := (callsOf (fold (kn m.2.1 sh) m.2.2)).map encP
theorem pairs_ok {b : List Mk'} (B : BookOk b) {m : Mk'} (h : m ∈ b) {sh : Shp} (hs : ∀ n, some n ∈ sh → n < 1000) : (∀ x ∈ pairsIn m sh, El x) ∧ (pairsIn m sh).length ≤ 40 := by
  have ok := fold_ok (kn_lt (names := m.2.1) hs) (B.sum4 m h)
  refine ⟨fun x hx => ?_, ?_⟩
  · obtain ⟨c, hc, rfl⟩ := List.mem_map.mp hx
    exact El_encP (MK_ok _ (B.headNames _ (calls_mem ok c hc)).2)
  · rw [pairsIn, List.length_map]
    have := calls_len (fun p hp => (B.headNames p hp).1) ok
    have c4 : cB 4 = 40 := rfl
    omega
theorem r_inner {b : List Mk'} (B : BookOk b) {m : Mk'} (h : m ∈ b) {sh : Shp} (hs : ∀ n, some n ∈ sh → n < 1000) (n : Nat) (S : SS) :
    Φ (n + 8) .inner [.dat (encB b), .dat (.str m.1), .dat (encS sh)] S = some (.dat (.tuple (dd [] (pairsIn m sh))), S) := by
  rw [Φ_succ]; show b_inner (Φ (n + 7)) _ S = _; unfold b_inner; refine run_rt0 rfl ?_
  have ok := fold_ok (kn_lt (names := m.2.1) hs) (B.sum4 m h)
  have hH := fun p hp => (B.headNames p hp).1
  obtain ⟨p1, p2⟩ := pairs_ok B h hs
  have a1 := r_folded_sum B h hs n
  have a2 := r_calls_in hH 4 _ ok (by decide) (n + 1)
  have a3 := r_unlike (pairsIn m sh) p1 (by omega) (n + 6) S
  have c := eComp_ok (own := [3]) (g := gNm 3) (c := tTrue) (e := eN tupR (aCons (e2 ixR (eVar 3) (eC (.int 1))) (aCons (eCall (Φ (n + 7) .shape_of) (aCons (e2 ixR (eVar 3) (eC (.int 2))) aNil)) aNil)))
    (src := iSeq (eCall (Φ (n + 7) .calls_in) (aCons (eCall (Φ (n + 7) .folded_sum) (aCons (eVar 0) (aCons (eVar 1) (aCons (eVar 2) aNil)))) aNil)))
    (δ := [some (.dat (encB b)), some (.dat (.str m.1)), some (.dat (encS sh)), none]) (S := S) (S1 := S) (rs := (callsOf (fold (kn m.2.1 sh) m.2.2)).map fun c => R.dat (encC c)) (by simp [a1, a2])
    (CompOk.map (fun c => R.dat (encC c)) encP _ fun x hx => ⟨[some (.dat (encB b)), some (.dat (.str m.1)), some (.dat (encS sh)), some (.dat (encC x))], by simp, fun acc => by
      have s := r_shape_of x.2 (n + 6)
      simp [encC, s, encP, encS]⟩)
  have c : eComp [3] (iSeq (eCall (Φ (n + 7) .calls_in) (aCons (eCall (Φ (n + 7) .folded_sum) (aCons (eVar 0) (aCons (eVar 1) (aCons (eVar 2) aNil)))) aNil))) (gNm 3) tTrue (eN tupR (aCons (e2 ixR (eVar 3) (eC (.int 1))) (aCons (eCall (Φ (n + 7) .shape_of) (aCons (e2 ixR (eVar 3) (eC (.int 2))) aNil)) aNil))) [some (.dat (encB b)), some (.dat (.str m.1)), some (.dat (encS sh)), none] S = some (.dat (.list (pairsIn m sh)), S) := c
  simp [startD, c, a3]
end Cy
end
section
set_option Elab.async false
set_option maxRecDepth 100000
namespace Cy
open PySem L2
/-- a comprehension whose items are drawn -/
theorem CompOk.ex {α β : Type} {g : Gm} (f : α → R) (en : β → D) (P : β → Prop) {ι : Type} (e : ι → Em) (δ : ι → Dl) : ∀ (l : List α), (∀ x ∈ l, ∃ y, P y ∧ ∀ i, ∃ δ1, g (f x) (δ i) = some δ1 ∧ ∀ S, e i δ1 S = some (.dat (en y), S)) →
    ∃ ys : List β, (∀ y ∈ ys, P y) ∧ ys.length = l.length ∧ ∀ i S, CompOk g tTrue (e i) (δ i) S (l.map f) (ys.map en)
  | [], _ => ⟨[], by simp, rfl, fun _ _ => .nil⟩
  | x :: l, h => by
    obtain ⟨y, p, q⟩ := h x List.mem_cons_self
    obtain ⟨ys, h1, h2, h3⟩ := CompOk.ex f en P e δ l fun z hz => h z (List.mem_cons_of_mem _ hz)
    refine ⟨y :: ys, fun z hz => ?_, by simp [h2], fun i S => ?_⟩
    · rcases List.mem_cons.mp hz with rfl | hz
      · exact p
      · exact h1 z hz
    · obtain ⟨δ1, q1, q2⟩ := q i
      exact .yes q1 (fun _ => rfl) (fun acc => q2 _) (h3 i S)
theorem pick_c (i : Nat) (h : i < 4) : ∃ c : Nat, 0 < c ∧ c ≤ 1000 ∧ atI [PyData.int 1000, .int 5, .int 3, .int 12] (i : Int) = some (.int c) := by
  match i, h with
  | 0, _ => exact ⟨1000, by decide, by decide, atI_nat rfl⟩
  | 1, _ => exact ⟨5, by decide, by decide, atI_nat rfl⟩
  | 2, _ => exact ⟨3, by decide, by decide, atI_nat rfl⟩
  | 3, _ => exact ⟨12, by decide, by decide, atI_nat rfl⟩
theorem r_worths (m k : Nat) (hk : k ≤ 1000) : ∃ ws : List Nat, (∀ x ∈ ws, x < 1000) ∧ ws.length = k ∧ ∀ n S, Φ (n + 2) .law_worths [.dat (.int m), .dat (.int k)] S = some (.dat (.tuple (ws.map fun x : Nat => PyData.int x)), S) := by
  obtain ⟨c, c0, c1, hc⟩ := pick_c (m / 4 % 4) (Nat.mod_lt _ (by decide))
  obtain ⟨ws, h1, h2, h3⟩ := CompOk.ex (g := gNm 2) (fun i : Nat => R.dat (.int ((0 : Int) + (i : Int)))) (fun x : Nat => PyData.int x) (fun x => x < 1000)
    (fun n : Nat => e2 (l2 modD) (e2 (l2 fdivD) (eCall (Φ (n + 1) .law_drawn) (aCons (eVar 0) (aCons (e2 (l2 addD) (eC (.int 70)) (eVar 2)) aNil))) (eC (.int 4))) (e2 ixR (eN tupR (aCons (eC (.int 1000)) (aCons (eC (.int 5)) (aCons (eC (.int 3)) (aCons (eC (.int 12)) aNil))))) (e2 (l2 modD) (e2 (l2 fdivD) (eVar 0) (eC (.int 4))) (eC (.int 4)))))
    (fun _ => [some (.dat (.int m)), some (.dat (.int k)), none]) (List.range k) (fun i _ => by
      obtain ⟨q, dr⟩ := x_drawn m (70 + i)
      refine ⟨q / 4 % c, Nat.lt_of_lt_of_le (Nat.mod_lt _ c0) c1, fun n => ⟨[some (.dat (.int m)), some (.dat (.int k)), some (.dat (.int ((0 : Int) + (i : Int))))], by simp, fun S => ?_⟩⟩
      have dr := dr n
      simp at dr hc
      simp [dr, fdivD_int, modD_int, hc, c0])
  refine ⟨ws, h1, by simpa using h2, fun n S => ?_⟩
  rw [Φ_succ]; show b_law_worths (Φ (n + 1)) _ S = _; unfold b_law_worths; refine run_rt0 rfl ?_
  have e := eComp_ok (own := [2]) (src := iRange1 (eVar 1)) (δ := [some (.dat (.int m)), some (.dat (.int k)), none]) (S := S) (S1 := S) (rs := (List.range k).map fun i : Nat => R.dat (.int ((0 : Int) + (i : Int)))) (by
    have k1 : (k : Int) ≤ 1000000 := by omega
    have k2 : (-1000000 : Int) ≤ (k : Int) := by omega
    simp [k1, k2, rangeR]) (h3 n S)
  simp only [startD, List.map_cons, List.map_nil, List.length_cons, List.length_nil]
  show (match (match eComp [2] _ _ _ _ [some (.dat (.int m)), some (.dat (.int k)), none] S with | some (x, S1) => (match l1 tupD S1 x with | some r => some (r, S1) | none => none) | none => none) with | some (r, S1) => some (Fl.rt r, S1) | none => none) = _
  rw [e]
  simp
theorem pick_2 (a b : D) (q : Nat) : ∃ x, (x = a ∨ x = b) ∧ atI [a, b] ((q : Int) / 4 % 2) = some x := by
  obtain ⟨c, h1, h2⟩ := pair_pick (a := a) (b := b) (q / 4)
  exact ⟨c, h1, by rw [cd4]; exact h2⟩
theorem r_drawn_shape (mk : Mk') (hl : mk.2.1.length ≤ 3) (m : Nat) : ∃ sh : Shp, (∀ n, some n ∈ sh → n < 1000) ∧ ∀ n S, Φ (n + 3) .law_drawn_shape [.dat (encM mk), .dat (.int m)] S = some (.dat (encS sh), S) := by
  obtain ⟨ws, w1, w2, w3⟩ := r_worths m mk.2.1.length (by omega)
  obtain ⟨sh, h1, h2, h3⟩ := CompOk.ex (g := gTp 2 (gsCons (gNm 3) (gsCons (gNm 4) gsNil))) (fun p : D × Nat => R.itm [.int (p.2 : Nat), p.1]) encO (fun o => ∀ n, o = some n → n < 1000)
    (fun n : Nat => e2 ixR (eN lstR (aCons (eVar 4) (aCons (eC .none) aNil))) (e2 (l2 modD) (e2 (l2 fdivD) (eCall (Φ (n + 2) .law_drawn) (aCons (eVar 1) (aCons (e2 (l2 addD) (eC (.int 80)) (eVar 3)) aNil))) (eC (.int 4))) (eC (.int 2))))
    (fun _ => [some (.dat (encM mk)), some (.dat (.int m)), some (.dat (.tuple (ws.map fun x : Nat => PyData.int x))), none, none]) ((ws.map fun x : Nat => PyData.int x).zipIdx) (fun p hp => by
      obtain ⟨d, i⟩ := p
      have hd : d ∈ ws.map fun x : Nat => PyData.int x := (List.mem_zipIdx' hp).2 ▸ List.getElem_mem _
      obtain ⟨w, hw, rfl⟩ := List.mem_map.mp hd
      obtain ⟨q, dr⟩ := x_drawn m (80 + i)
      obtain ⟨x, hx, ex⟩ := pick_2 (.int w) .none q
      obtain ⟨o, ho, eo⟩ : ∃ o : Option Nat, (∀ n, o = some n → n < 1000) ∧ x = encO o := by
        rcases hx with rfl | rfl
        · exact ⟨some w, fun n e => by cases e; exact w1 _ hw, rfl⟩
        · exact ⟨none, (fun n e => by cases e), rfl⟩
      refine ⟨o, ho, fun n => ⟨[some (.dat (encM mk)), some (.dat (.int m)), some (.dat (.tuple (ws.map fun x : Nat => PyData.int x))), some (.dat (.int (i : Nat))), some (.dat (.int w))], by simp, fun S => ?_⟩⟩
      have dr := dr (n + 1)
      simp at dr ex
      simp [dr, fdivD_int, modD_int, ex, eo])
  refine ⟨sh, fun n hn => h1 _ hn n rfl, fun n S => ?_⟩
  rw [Φ_succ]; show b_law_drawn_shape (Φ (n + 2)) _ S = _; unfold b_law_drawn_shape; refine run_rt0 rfl ?_
  have e := eComp_ok (own := [3, 4]) (src := iEnum' (eVar 2)) (δ := [some (.dat (encM mk)), some (.dat (.int m)), some (.dat (.tuple (ws.map fun x : Nat => PyData.int x))), none, none]) (S := S) (S1 := S) (rs := ((ws.map fun x : Nat => PyData.int x).zipIdx).map fun p => R.itm [.int (p.2 : Nat), p.1]) (by simp [enumR]) (h3 n S)
  have w3 := w3 n S
  simp [encM, namesD] at e
  simp [startD, encM, namesD, w3, e, encS]
end Cy
end
section
set_option Elab.async false
set_option maxRecDepth 100000
namespace Cy
open PySem L2
/-! ### what is needed -/
abbrev Bt := Str → List Bool
def keep {α : Type} (as : List α) (row : List Bool) : List α := ((as.zip row).filter fun p => p.2).map (·.1)
mutual
def nmI (β : Bt) : T → List Str
  | .w _ => []
  | .v x => [x]
  | .op _ a b => nmI β a ++ nmI β b
  | .ite c a b => nmI β c ++ (nmI β a ++ nmI β b)
  | .call f as => nmK β as (β f)
def nmK (β : Bt) : List T → List Bool → List Str
  | a :: as, t :: ts => if t = true then nmI β a ++ nmK β as ts else nmK β as ts
  | _, _ => []
end
/-- one book of rows says no less than another -/
def Le (β γ : Bt) : Prop := ∀ f, (β f).length = (γ f).length ∧ ∀ i : Nat, (β f)[i]? = some true → (γ f)[i]? = some true
theorem Le.refl (β : Bt) : Le β β := fun f => ⟨rfl, fun _ h => h⟩
theorem Le.trans {β γ ε : Bt} (h : Le β γ) (k : Le γ ε) : Le β ε := fun f => ⟨(h f).1.trans (k f).1, fun i q => (k f).2 i ((h f).2 i q)⟩
def RLe : List Bool → List Bool → Prop
  | a :: r, b :: s => (a = true → b = true) ∧ RLe r s
  | [], [] => True
  | _, _ => False
theorem RLe.of : ∀ {r s : List Bool}, r.length = s.length → (∀ i : Nat, r[i]? = some true → s[i]? = some true) → RLe r s
  | [], [], _, _ => trivial
  | [], _ :: _, h, _ => by cases h
  | _ :: _, [], h, _ => by cases h
  | a :: r, b :: s, h, k => ⟨fun e => by have := k 0 (by simp [e]); simpa using this, RLe.of (by simpa using h) fun i q => by have := k (i + 1) (by simpa using q); simpa using this⟩
mutual
theorem nmI_mono {β γ : Bt} (h : Le β γ) : ∀ (t : T) (x : Str), x ∈ nmI β t → x ∈ nmI γ t
  | .w _, x, hx => by simp [nmI] at hx
  | .v y, x, hx => by simpa [nmI] using hx
  | .op _ a b, x, hx => by
    simp only [nmI, List.mem_append] at hx ⊢
    exact hx.imp (nmI_mono h a x) (nmI_mono h b x)
  | .ite c a b, x, hx => by
    simp only [nmI, List.mem_append] at hx ⊢
    exact hx.imp (nmI_mono h c x) (Or.imp (nmI_mono h a x) (nmI_mono h b x))
  | .call f as, x, hx => by
    rw [nmI] at hx ⊢
    exact nmK_mono h as (β f) (γ f) (RLe.of (h f).1 (h f).2) x hx
theorem nmK_mono {β γ : Bt} (h : Le β γ) : ∀ (as : List T) (r s : List Bool), RLe r s → ∀ (x : Str), x ∈ nmK β as r → x ∈ nmK γ as s
  | a :: as, p :: r, q :: s, hr, x, hx => by
    rw [nmK] at hx ⊢
    obtain ⟨h1, h2⟩ := hr
    cases p with
    | true =>
      rw [if_pos (h1 rfl)]
      rw [if_pos rfl] at hx
      rcases List.mem_append.mp hx with hx | hx
      · exact List.mem_append_left _ (nmI_mono h a x hx)
      · exact List.mem_append_right _ (nmK_mono h as r s h2 x hx)
    | false =>
      rw [if_neg Bool.false_ne_true] at hx
      have := nmK_mono h as r s h2 x hx
      split
      · exact List.mem_append_right _ this
      · exact this
  | a :: as, [], _, _, x, hx => by simp [nmK] at hx
  | [], r, s, _, x, hx => by cases r <;> simp [nmK] at hx
  | a :: as, p :: r, [], hr, x, hx => hr.elim
end
open Classical in
noncomputable def rowOf (β : Bt) (m : Mk') : List Bool := m.2.1.map fun x => decide (x ∈ nmI β m.2.2)
open Classical in
noncomputable def upB (β : Bt) (f : Str) (row : List Bool) : Bt := fun g => if g = f then row else β g
noncomputable def sw (b : List Mk') (β : Bt) : Bt := b.foldl (fun β m => upB β m.1 (rowOf β m)) β
/-- rows that stand: as long as the names, and no more than what they make -/
def Pre (b : List Mk') (β : Bt) : Prop := ∀ m ∈ b, (β m.1).length = m.2.1.length ∧ ∀ i : Nat, (β m.1)[i]? = some true → (rowOf β m)[i]? = some true
theorem rowOf_mono {β γ : Bt} (h : Le β γ) (m : Mk') (i : Nat) (q : (rowOf β m)[i]? = some true) : (rowOf γ m)[i]? = some true := by
  unfold rowOf at q ⊢
  rw [List.getElem?_map] at q ⊢
  cases z : m.2.1[i]? with
  | none => rw [z] at q; cases q
  | some x =>
    rw [z] at q
    simp at q ⊢
    exact nmI_mono h _ _ q
theorem rowOf_len (β : Bt) (m : Mk') : (rowOf β m).length = m.2.1.length := by unfold rowOf; rw [List.length_map]
theorem up_le {b : List Mk'} (one : ∀ m ∈ b, ∀ m' ∈ b, m.1 = m'.1 → m = m') {β : Bt} (P : Pre b β) {m : Mk'} (hm : m ∈ b) : Le β (upB β m.1 (rowOf β m)) ∧ Pre b (upB β m.1 (rowOf β m)) := by
  have le : Le β (upB β m.1 (rowOf β m)) := fun g => by
    unfold upB
    by_cases e : g = m.1
    · subst e
      rw [if_pos rfl]
      obtain ⟨p1, p2⟩ := P m hm
      exact ⟨by rw [rowOf_len, p1], p2⟩
    · rw [if_neg e]
      exact ⟨rfl, fun _ h => h⟩
  refine ⟨le, fun x hx => ?_⟩
  by_cases e : x.1 = m.1
  · have := one x hx m hm e
    subst this
    have ev : upB β x.1 (rowOf β x) x.1 = rowOf β x := by unfold upB; rw [if_pos rfl]
    rw [ev]
    exact ⟨rowOf_len _ _, fun i q => rowOf_mono le x i q⟩
  · have ev : upB β m.1 (rowOf β m) x.1 = β x.1 := by unfold upB; rw [if_neg e]
    rw [ev]
    obtain ⟨p1, p2⟩ := P x hx
    exact ⟨p1, fun i q => rowOf_mono le x i (p2 i q)⟩
theorem sw_le' {b : List Mk'} (one : ∀ m ∈ b, ∀ m' ∈ b, m.1 = m'.1 → m = m') : ∀ (l : List Mk'), (∀ m ∈ l, m ∈ b) → ∀ β, Pre b β → Le β (l.foldl (fun β m => upB β m.1 (rowOf β m)) β) ∧ Pre b (l.foldl (fun β m => upB β m.1 (rowOf β m)) β)
  | [], _, β, P => ⟨Le.refl _, P⟩
  | m :: l, hl, β, P => by
    obtain ⟨l1, p1⟩ := up_le one P (hl m List.mem_cons_self)
    obtain ⟨l2, p2⟩ := sw_le' one l (fun x hx => hl x (List.mem_cons_of_mem _ hx)) _ p1
    exact ⟨l1.trans l2, p2⟩
theorem sw_le {b : List Mk'} (one : ∀ m ∈ b, ∀ m' ∈ b, m.1 = m'.1 → m = m') {β : Bt} (P : Pre b β) : Le β (sw b β) ∧ Pre b (sw b β) := sw_le' one b (fun _ h => h) β P
/-- how many truths -/
def cnt (b : List Mk') (β : Bt) : Nat := (b.map fun m => (β m.1).count true).sum
theorem RLe.count : ∀ {r s : List Bool}, RLe r s → r.count true ≤ s.count true ∧ (r.count true = s.count true → r = s)
  | [], [], _ => ⟨Nat.le_refl _, fun _ => rfl⟩
  | a :: r, c :: s, ⟨h1, h2⟩ => by
    obtain ⟨k1, k2⟩ := RLe.count h2
    cases a <;> cases c
    · simp; exact ⟨k1, k2⟩
    · simp; exact ⟨by omega, by omega⟩
    · simp at h1
    · simp; exact ⟨k1, k2⟩
theorem cnt_le {β γ : Bt} (h : Le β γ) : ∀ b : List Mk', cnt b β ≤ cnt b γ ∧ (cnt b β = cnt b γ → ∀ m ∈ b, β m.1 = γ m.1)
  | [] => ⟨Nat.le_refl _, by simp⟩
  | m :: b => by
    obtain ⟨k1, k2⟩ := cnt_le h b
    obtain ⟨q1, q2⟩ := RLe.count (RLe.of (h m.1).1 (h m.1).2)
    unfold cnt at k1 k2 ⊢
    simp only [List.map_cons, List.sum_cons]
    refine ⟨by omega, fun e x hx => ?_⟩
    rcases List.mem_cons.mp hx with rfl | hx
    · exact q2 (by omega)
    · exact k2 (by omega) x hx
theorem cnt_bound {b : List Mk'} {β : Bt} (P : Pre b β) (h3 : ∀ m ∈ b, m.2.1.length ≤ 3) (h4 : b.length ≤ 4) : cnt b β ≤ 12 := by
  have : ∀ l : List Mk', (∀ m ∈ l, m ∈ b) → cnt l β ≤ 3 * l.length := fun l hl => by
    induction l with
    | nil => simp [cnt]
    | cons m l ih =>
      have := ih fun x hx => hl x (List.mem_cons_of_mem _ hx)
      have hm := hl m List.mem_cons_self
      have h1 := (P m hm).1
      have h2 := h3 m hm
      have h5 := List.count_le_length (a := true) (l := β m.1)
      unfold cnt at this ⊢
      simp only [List.map_cons, List.sum_cons, List.length_cons]
      omega
  have := this b fun _ h => h
  omega
theorem nm_congr {β γ : Bt} : ∀ t, (∀ f, β f = γ f) → nmI β t = nmI γ t := fun t h => by rw [show β = γ from funext h]
/-- sweeps -/
noncomputable def sws (b : List Mk') (β : Bt) : Nat → Bt
  | 0 => β
  | k + 1 => sw b (sws b β k)
def St (b : List Mk') (β : Bt) : Prop := ∀ m ∈ b, rowOf β m = β m.1
theorem sws_pre {b : List Mk'} (one : ∀ m ∈ b, ∀ m' ∈ b, m.1 = m'.1 → m = m') {β : Bt} (P : Pre b β) : ∀ k, Pre b (sws b β k)
  | 0 => P
  | k + 1 => (sw_le one (sws_pre one P k)).2
end Cy
end
section
set_option Elab.async false
set_option maxRecDepth 100000
namespace Cy
open PySem L2
/-! ### put in place -/
abbrev Hs := List (Str × T)
def encHs (h : Hs) : List (Key × D) := h.map fun p => (Sum.inr p.1, enc p.2)
def sget (h : Hs) (x : Str) : Option T := (h.find? fun p => decide (p.1 = x)).map (·.2)
mutual
def rep (h : Hs) : T → T
  | .w n => .w n
  | .v x => (sget h x).getD (.w 0)
  | .op o a b => .op o (rep h a) (rep h b)
  | .ite c a b => .ite (rep h c) (rep h a) (rep h b)
  | .call f as => .call f (repL h as)
def repL (h : Hs) : List T → List T
  | [] => []
  | a :: as => rep h a :: repL h as
end
theorem repL_map (h : Hs) : ∀ as : List T, repL h as = as.map (rep h)
  | [] => by simp [repL]
  | a :: as => by rw [repL, repL_map h as, List.map_cons]
def simpleT : T → Bool
  | .w _ => true
  | .v _ => true
  | _ => false
mutual
def plc (m : Mk') : T → T
  | .w n => .w n
  | .v x => .v x
  | .op o a b => .op o (plc m a) (plc m b)
  | .ite c a b => .ite (plc m c) (plc m a) (plc m b)
  | .call f as => if f = m.1 ∧ as.all simpleT = true then rep (m.2.1.zip as) m.2.2 else .call f (plcL m as)
def plcL (m : Mk') : List T → List T
  | [] => []
  | a :: as => plc m a :: plcL m as
end
theorem plcL_map (m : Mk') : ∀ as : List T, plcL m as = as.map (plc m)
  | [] => by simp [plcL]
  | a :: as => by rw [plcL, plcL_map m as, List.map_cons]
theorem sget_K : ∀ (h : Hs) (x : Str) (t : T), sget h x = some t → getK (encHs h) (Sum.inr x) = some (enc t)
  | [], x, t, e => by cases e
  | p :: h, x, t, e => by
    obtain ⟨y, u⟩ := p
    unfold sget at e
    unfold getK encHs
    rw [List.find?_cons] at e
    rw [List.map_cons, List.find?_cons]
    by_cases q : y = x
    · subst q
      simp at e
      subst e
      simp
    · have q1 : ¬ ((Sum.inr y : Key) = Sum.inr x) := fun z => q (Sum.inr.inj z)
      simp only [q, decide_false] at e
      simp only [q1, decide_false]
      exact sget_K h x t e
theorem sget_zip : ∀ (names : List Str) (as : List T) (x : Str), x ∈ names → as.length = names.length → ∃ t ∈ as, sget (names.zip as) x = some t
  | [], _, x, h, _ => by cases h
  | y :: names, [], x, _, h => by cases h
  | y :: names, w :: ws, x, h, hl => by
    unfold sget
    rw [List.zip_cons_cons, List.find?_cons]
    by_cases e : y = x
    · exact ⟨w, List.mem_cons_self, by simp [e]⟩
    · obtain ⟨n, h1, h2⟩ := sget_zip names ws x ((List.mem_cons.mp h).resolve_left (Ne.symm e)) (by simpa using hl)
      refine ⟨n, List.mem_cons_of_mem _ h1, ?_⟩
      simp only [e, decide_false]
      exact h2
theorem zip_heldT {names : List Str} {as : List T} (hl : as.length = names.length) (h3 : names.length ≤ 3) : zipLD (namesD names) (.tuple (encs as)) = some (.list ((names.zip as).map fun p => PyData.tuple [.str p.1, enc p.2])) := by
  rw [encs_map]
  show (if (names.map PyData.str).length = (as.map enc).length ∧ (names.map PyData.str).length ≤ 1000 then some (PyData.list (((names.map PyData.str).zip (as.map enc)).map fun p => PyData.tuple [p.1, p.2])) else none) = _
  rw [if_pos ⟨by simp [hl], by simp; omega⟩, List.zip_map, List.map_map]
  rfl
theorem pairsOf_encHs : ∀ h : Hs, pairsOf (h.map fun p => PyData.tuple [.str p.1, enc p.2]) = some (encHs h)
  | [] => rfl
  | p :: h => by
    rw [List.map_cons, pairsOf, pairsOf_encHs h]
    rfl
theorem dic_heldT {names : List Str} (nd : names.Nodup) {as : List T} (hl : as.length = names.length) (S : SS) : dicR S (.dat (.list ((names.zip as).map fun p => PyData.tuple [.str p.1, enc p.2]))) = some (.dic (encHs (names.zip as))) := by
  have e : mergeD [] (encHs (names.zip as)) = encHs (names.zip as) := by
    rw [mergeD_nodup _ _ (by
      rw [List.nil_append, encHs, List.map_map]
      have : ((names.zip as).map ((fun p : Key × D => p.1) ∘ fun p : Str × T => ((Sum.inr p.1 : Key), enc p.2))) = names.map Sum.inr := by
        have h0 : names = (names.zip as).map Prod.fst := (List.map_fst_zip (by omega)).symm
        conv => rhs; rw [h0, List.map_map]
        rfl
      rw [this]
      exact List.pairwise_map.mpr (List.Pairwise.imp (fun hab e => hab (Sum.inr.inj e)) nd))]
    rfl
  unfold dicR
  simp only [asD_dat, pairsOf_encHs, e]
/-- a comprehension over parts, a second argument along -/
theorem x_compT (F : Fn) (HR : R) (h : T → T) {src : Im} (ts : List T) (x0 : Option R) (S : SS) (hs : src [x0, some HR, none] S = some ((encs ts).map .dat, none, S)) (hf : ∀ t ∈ ts, ∀ S, F [.dat (enc t), HR] S = some (.dat (enc (h t)), S)) :
    eComp [2] src (gNm 2) tTrue (eCall F (aCons (eVar 2) (aCons (eVar 1) aNil))) [x0, some HR, none] S = some (.dat (.list (encs (ts.map h))), S) := by
  have e : (encs ts).map R.dat = ts.map fun t => R.dat (enc t) := by rw [encs_map, List.map_map]; rfl
  rw [e] at hs
  have := eComp_ok (own := [2]) (g := gNm 2) (c := tTrue) (e := eCall F (aCons (eVar 2) (aCons (eVar 1) aNil))) hs (CompOk.map (fun t => R.dat (enc t)) (fun t => enc (h t)) ts fun t ht => ⟨[x0, some HR, some (.dat (enc t))], by simp, fun acc => by simp [hf t ht]⟩)
  rw [this, encs_map, List.map_map]
  rfl
theorem r_replaced {names : List Str} {heads : List (Str × Nat)} {h : Hs} (hh : ∀ x ∈ names, ∃ t, sget h x = some t) {d : Nat} {t : T} (ok : SumOk names heads d t) :
    ∀ n S, Φ (n + d + 2) .replaced [.dat (enc t), .dic (encHs h)] S = some (.dat (enc (rep h t)), S) := by
  induction ok with
  | @w d m hm =>
    intro n S; rw [Φ_succ]; show b_replaced (Φ (n + d + 1)) _ S = _; unfold b_replaced; refine run_rt0 rfl ?_
    have p := r_parts_of (.w m) (n + d) S
    have wp : Φ (n + d + 1) .with_parts [.dat (.int m), .dat (.list [])] S = some (.dat (.int m), S) := by
      rw [Φ_succ]; show b_with_parts (Φ (n + d)) _ S = _; unfold b_with_parts; refine run_rt0 rfl ?_
      simp [startD]
    have c := x_compT (Φ (n + d + 1) .replaced) (.dic (encHs h)) (rep h) [] (src := iSeq (eCall (Φ (n + d + 1) .parts_of) (aCons (eVar 0) aNil))) (some (.dat (enc (.w m)))) S (by simp [p, subs, encs]) (by simp)
    simp [encs, enc] at c
    simp [startD, enc, rep, c, wp]
  | @v d x hx =>
    intro n S; rw [Φ_succ]; show b_replaced (Φ (n + d + 1)) _ S = _; unfold b_replaced; refine run_rt0 rfl ?_
    obtain ⟨t, ht⟩ := hh x hx
    have g := sget_K h x t ht
    simp [startD, enc, rep, ixR, asKv, keyOf, g, ht]
  | @op d o a b ha hb ia ib =>
    intro n S; rw [Φ_succ]; show b_replaced (Φ (n + (d + 1) + 1)) _ S = _; unfold b_replaced; refine run_rt0 rfl ?_
    have p := r_parts_of (.op o a b) (n + (d + 1)) S
    have c := x_compT (Φ (n + (d + 1) + 1) .replaced) (.dic (encHs h)) (rep h) [a, b] (src := iSeq (eCall (Φ (n + (d + 1) + 1) .parts_of) (aCons (eVar 0) aNil))) (some (.dat (enc (.op o a b)))) S (by simp [p, subs]) (by
      intro t ht S
      simp at ht
      rcases ht with rfl | rfl
      · exact ia n S
      · exact ib n S)
    have wo := r_with_op o a b [enc (rep h a), enc (rep h b)] (by simp) (n + (d + 1))
    simp [encs, enc] at c wo
    simp [startD, enc, rep, c, wo]
  | @ite d x a b hx ha hb ix ia ib =>
    intro n S; rw [Φ_succ]; show b_replaced (Φ (n + (d + 1) + 1)) _ S = _; unfold b_replaced; refine run_rt0 rfl ?_
    have p := r_parts_of (.ite x a b) (n + (d + 1)) S
    have c := x_compT (Φ (n + (d + 1) + 1) .replaced) (.dic (encHs h)) (rep h) [x, a, b] (src := iSeq (eCall (Φ (n + (d + 1) + 1) .parts_of) (aCons (eVar 0) aNil))) (some (.dat (enc (.ite x a b)))) S (by simp [p, subs]) (by
      intro t ht S
      simp at ht
      rcases ht with rfl | rfl | rfl
      · exact ix n S
      · exact ia n S
      · exact ib n S)
    have wo := r_with_ite x a b [enc (rep h x), enc (rep h a), enc (rep h b)] (by simp) (n + (d + 1))
    simp [encs, enc] at c wo
    simp [startD, enc, rep, c, wo]
  | @call d f as hf has ih =>
    intro n S; rw [Φ_succ]; show b_replaced (Φ (n + (d + 1) + 1)) _ S = _; unfold b_replaced; refine run_rt0 rfl ?_
    have p := r_parts_of (.call f as) (n + (d + 1)) S
    have c := x_compT (Φ (n + (d + 1) + 1) .replaced) (.dic (encHs h)) (rep h) as (src := iSeq (eCall (Φ (n + (d + 1) + 1) .parts_of) (aCons (eVar 0) aNil))) (some (.dat (enc (.call f as)))) S (by simp [p, subs]) (fun t ht S => ih t ht n S)
    rw [← repL_map] at c
    have wo := r_with_call f as (encs (repL h as)) (n + (d + 1))
    simp [enc] at c wo
    simp [startD, enc, rep, c, wo]
theorem r_law_in_place {names : List Str} {heads : List (Str × Nat)} {h : Hs} (hh : ∀ x ∈ names, ∃ t, sget h x = some t) {d : Nat} {t : T} (ok : SumOk names heads d t) :
    ∀ n S, Φ (n + d + 2) .law_in_place [.dat (enc t), .dic (encHs h)] S = some (.dat (enc (rep h t)), S) := by
  have sz : ∀ l : List T, l.length ≤ 3 → 1 + l.length ≤ sizeLine := fun l hl => small_line (by omega)
  induction ok with
  | @w d m hm => intro n S; rw [Φ_succ]; show b_law_in_place (Φ (n + d + 1)) _ S = _; unfold b_law_in_place; refine run_rt0 rfl ?_; simp [startD, enc, rep]
  | @v d x hx =>
    intro n S; rw [Φ_succ]; show b_law_in_place (Φ (n + d + 1)) _ S = _; unfold b_law_in_place; refine run_rt0 rfl ?_
    obtain ⟨t, ht⟩ := hh x hx
    have g := sget_K h x t ht
    simp [startD, enc, rep, ixR, asKv, keyOf, g, ht]
  | @op d o a b ha hb ia ib =>
    intro n S; rw [Φ_succ]; show b_law_in_place (Φ (n + (d + 1) + 1)) _ S = _; unfold b_law_in_place; refine run_rt0 rfl ?_
    have c := x_compT (Φ (n + (d + 1) + 1) .law_in_place) (.dic (encHs h)) (rep h) [a, b] (src := iSeq (eSl (eVar 0) (oSome (eC (.int 1))) oNone)) (some (.dat (enc (.op o a b)))) S (by simp [enc, encs]) (by
      intro t ht S
      simp at ht
      rcases ht with rfl | rfl
      · exact ia n S
      · exact ib n S)
    have s := sz [a, b] (by simp)
    simp [encs, enc] at c s
    simp [startD, enc, rep, c, s]
  | @ite d x a b hx ha hb ix ia ib =>
    intro n S; rw [Φ_succ]; show b_law_in_place (Φ (n + (d + 1) + 1)) _ S = _; unfold b_law_in_place; refine run_rt0 rfl ?_
    have c := x_compT (Φ (n + (d + 1) + 1) .law_in_place) (.dic (encHs h)) (rep h) [x, a, b] (src := iSeq (eSl (eVar 0) (oSome (eC (.int 1))) oNone)) (some (.dat (enc (.ite x a b)))) S (by simp [enc, encs]) (by
      intro t ht S
      simp at ht
      rcases ht with rfl | rfl | rfl
      · exact ix n S
      · exact ia n S
      · exact ib n S)
    have s := sz [x, a, b] (by simp)
    simp [encs, enc] at c s
    simp [startD, enc, rep, c, s]
  | @call d f as hf has ih =>
    intro n S; rw [Φ_succ]; show b_law_in_place (Φ (n + (d + 1) + 1)) _ S = _; unfold b_law_in_place; refine run_rt0 rfl ?_
    have c := x_compT (Φ (n + (d + 1) + 1) .law_in_place) (.dic (encHs h)) (rep h) as (src := iSeq (e2 ixR (eVar 0) (eC (.int 2)))) (some (.dat (enc (.call f as)))) S (by simp [enc]) (fun t ht S => ih t ht n S)
    rw [← repL_map] at c
    simp [enc] at c
    simp [startD, enc, rep, c]
theorem simple_enc (t : T) : isiD "tuple" (enc t) = some (.bool (!simpleT t)) := by cases t <;> simp [enc, simpleT]
theorem r_is_simple (t : T) (n : Nat) (S : SS) : Φ (n + 1) .is_simple [.dat (enc t)] S = some (.dat (.bool (simpleT t)), S) := by
  rw [Φ_succ]; show b_is_simple (Φ n) _ S = _; unfold b_is_simple; refine run_rt0 rfl ?_
  simp [startD, simple_enc]
theorem boolsOf_map : ∀ l : List Bool, boolsOf (l.map PyData.bool) = some l
  | [] => rfl
  | b :: l => by rw [List.map_cons, boolsOf, boolsOf_map l]
theorem allD_bools (l : List Bool) : allD (.list (l.map PyData.bool)) = some (.bool (l.all id)) := by
  unfold allD
  simp only [boolsOf_map]
theorem enc_lay {names : List Str} {heads : List (Str × Nat)} (hn : ∀ x ∈ names, PyData.strOk x = true) (hh : ∀ p ∈ heads, PyData.strOk p.1 = true) {d : Nat} {t : T} (ok : SumOk names heads d t) : (enc t).canLay0 = true ∧ (enc t).depth ≤ 2 * d := by
  induction ok with
  | w h => simp [enc, PyData.canLay0, PyData.depth]
  | v h => simp [enc, PyData.canLay0, PyData.depth, hn _ h]
  | op _ _ ia ib =>
    obtain ⟨a1, a2⟩ := ia; obtain ⟨b1, b2⟩ := ib
    simp [enc, PyData.canLay0, PyData.canLayAll0, PyData.depth, PyData.depthAll, a1, b1]
    omega
  | ite _ _ _ ia ib ic =>
    obtain ⟨a1, a2⟩ := ia; obtain ⟨b1, b2⟩ := ib; obtain ⟨c1, c2⟩ := ic
    have := ok_if
    simp [enc, PyData.canLay0, PyData.canLayAll0, PyData.depth, PyData.depthAll, a1, b1, c1, this]
    omega
  | @call d f as hf hs ih =>
    have key : PyData.canLayAll0 (encs as) = true ∧ PyData.depthAll (encs as) ≤ 2 * d := by
      clear hf hs
      induction as with
      | nil => simp [encs, PyData.canLayAll0, PyData.depthAll]
      | cons a as iha =>
        obtain ⟨a1, a2⟩ := ih a List.mem_cons_self
        obtain ⟨b1, b2⟩ := iha fun c hc => ih c (List.mem_cons_of_mem _ hc)
        simp [encs, PyData.canLayAll0, PyData.depthAll, a1, b1]
        omega
    have := ok_call
    simp [enc, PyData.canLay0, PyData.canLayAll0, PyData.depth, PyData.depthAll, key.1, this, hh _ hf]
    omega
theorem enc_El {names : List Str} {heads : List (Str × Nat)} (hn : ∀ x ∈ names, PyData.strOk x = true) (hh : ∀ p ∈ heads, PyData.strOk p.1 = true) {d : Nat} {t : T} (ok : SumOk names heads d t) (h4 : d ≤ 5) : El (enc t) := by
  obtain ⟨a, b⟩ := enc_lay hn hh ok
  exact ⟨a, by omega⟩
theorem El_tup2 {x y : D} (hx : El x) (hy : El y) (dx : x.depth ≤ 9) (dy : y.depth ≤ 9) : SeqAt.shaped (.tuple [x, y]) = true := by
  unfold SeqAt.shaped
  simp [PyData.canLay0, PyData.canLayAll0, PyData.depth, PyData.depthAll, hx.1, hy.1]
  omega
theorem eq_pair {x y u v : Str} (h1 : PyData.strOk x = true) (h2 : PyData.strOk y = true) (h3 : PyData.strOk u = true) (h4 : PyData.strOk v = true) : eqD (.tuple [.str x, .str y]) (.tuple [.str u, .str v]) = some (.bool (decide (x = u ∧ y = v))) := by
  have s : ∀ {a b : Str}, PyData.strOk a = true → PyData.strOk b = true → SeqAt.shaped (.tuple [.str a, .str b]) = true := fun ha hb => El_tup2 ⟨by simp [PyData.canLay0, ha], by simp [PyData.depth]⟩ ⟨by simp [PyData.canLay0, hb], by simp [PyData.depth]⟩ (by simp [PyData.depth]) (by simp [PyData.depth])
  unfold eqD
  rw [s h1 h2, s h3 h4]
  by_cases e1 : x = u <;> by_cases e2 : y = v <;> simp [PyData.eqv, PyData.eqvAll, e1, e2]
theorem eq_pairX {x u v : Str} {d : D} (hd : El d) (h9 : d.depth ≤ 9) (h1 : PyData.strOk x = true) (h3 : PyData.strOk u = true) (h4 : PyData.strOk v = true) (hne : (x == u) = false) : eqD (.tuple [.str x, d]) (.tuple [.str u, .str v]) = some (.bool false) := by
  unfold eqD
  rw [El_tup2 ⟨by simp [PyData.canLay0, h1], by simp [PyData.depth]⟩ hd (by simp [PyData.depth]) h9, El_tup2 (x := .str u) (y := .str v) ⟨by simp [PyData.canLay0, h3], by simp [PyData.depth]⟩ ⟨by simp [PyData.canLay0, h4], by simp [PyData.depth]⟩ (by simp [PyData.depth]) (by simp [PyData.depth])]
  simp [PyData.eqv, PyData.eqvAll, hne]
@[simp] theorem cut2_to {α : Type} (x y : α) (xs : List α) : cutL (x :: y :: xs) none (some (2 : Int)) = [x, y] := by
  rw [show (2 : Int) = ((2 : Nat) : Int) from rfl, cut_to]; rfl
theorem BookOk.nmOk {b : List Mk'} (B : BookOk b) {m : Mk'} (hm : m ∈ b) : ∀ x ∈ m.2.1, PyData.strOk x = true := (NS_ok _ (B.names m hm)).2.1
theorem BookOk.hdOk {b : List Mk'} (B : BookOk b) : ∀ p ∈ headsOf b, PyData.strOk p.1 = true := fun p hp => MK_ok _ (B.headNames p hp).2
theorem r_placed {b : List Mk'} (B : BookOk b) {m : Mk'} (hm : m ∈ b) {names : List Str} (hn : ∀ x ∈ names, PyData.strOk x = true) {d : Nat} {t : T} (ok : SumOk names (headsOf b) d t) (hd : d ≤ 4) :
    ∀ n S, Φ (n + d + 7) .placed [.dat (enc t), .dat (encM m)] S = some (.dat (enc (plc m t)), S) := by
  have mo := MK_ok _ (B.all m hm).1
  have e0 : ixD (encM m) (.int 0) = some (.str m.1) := by simp [encM]
  have e1 : ixD (encM m) (.int 1) = some (namesD m.2.1) := by simp [encM]
  have e2 : ixD (encM m) (.int 2) = some (enc m.2.2) := by simp [encM]
  induction ok with
  | @w d k hk => intro n S; rw [Φ_succ]; show b_placed (Φ (n + d + 6)) _ S = _; unfold b_placed; refine run_rt0 rfl ?_; simp [startD, enc, plc]
  | @v d x hx => intro n S; rw [Φ_succ]; show b_placed (Φ (n + d + 6)) _ S = _; unfold b_placed; refine run_rt0 rfl ?_; simp [startD, enc, plc]
  | @op d o a c ha hc ia ic =>
    intro n S; rw [Φ_succ]; show b_placed (Φ (n + (d + 1) + 6)) _ S = _; unfold b_placed; refine run_rt0 rfl ?_
    have p := r_parts_of (.op o a c) (n + (d + 1) + 5) S
    have cc := x_compT (Φ (n + (d + 1) + 6) .placed) (.dat (encM m)) (plc m) [a, c] (src := iSeq (eCall (Φ (n + (d + 1) + 6) .parts_of) (aCons (eVar 0) aNil))) (some (.dat (enc (.op o a c)))) S (by simp [p, subs]) (by
      intro t ht S
      simp at ht
      rcases ht with rfl | rfl
      · exact ia (by omega) n S
      · exact ic (by omega) n S)
    have wo := r_with_op o a c [enc (plc m a), enc (plc m c)] (by simp) (n + (d + 1) + 5)
    have q := enc_lay hn B.hdOk ha
    have eq := eq_pairX (x := o.nm) (u := "call") (v := m.1) (d := enc a) ⟨q.1, by omega⟩ (by omega) (Op.nm_ok o) ok_call mo (nm_call o)
    simp [encs, enc] at cc wo
    simp [startD, enc, plc, e0, eq, cc, wo]
  | @ite d x a c hx ha hc ix ia ic =>
    intro n S; rw [Φ_succ]; show b_placed (Φ (n + (d + 1) + 6)) _ S = _; unfold b_placed; refine run_rt0 rfl ?_
    have p := r_parts_of (.ite x a c) (n + (d + 1) + 5) S
    have cc := x_compT (Φ (n + (d + 1) + 6) .placed) (.dat (encM m)) (plc m) [x, a, c] (src := iSeq (eCall (Φ (n + (d + 1) + 6) .parts_of) (aCons (eVar 0) aNil))) (some (.dat (enc (.ite x a c)))) S (by simp [p, subs]) (by
      intro t ht S
      simp at ht
      rcases ht with rfl | rfl | rfl
      · exact ix (by omega) n S
      · exact ia (by omega) n S
      · exact ic (by omega) n S)
    have wo := r_with_ite x a c [enc (plc m x), enc (plc m a), enc (plc m c)] (by simp) (n + (d + 1) + 5)
    have q := enc_lay hn B.hdOk hx
    have eq := eq_pairX (x := "if") (u := "call") (v := m.1) (d := enc x) ⟨q.1, by omega⟩ (by omega) ok_if ok_call mo if_call
    simp [encs, enc] at cc wo
    simp [startD, enc, plc, e0, eq, cc, wo]
  | @call d f as hf has ih =>
    intro n S; rw [Φ_succ]; show b_placed (Φ (n + (d + 1) + 6)) _ S = _; unfold b_placed; refine run_rt0 rfl ?_
    have fo := B.hdOk _ hf
    have eq := eq_pair (x := "call") (y := f) (u := "call") (v := m.1) ok_call fo ok_call mo
    have eI : ixD (enc (.call f as)) (.int 2) = some (.tuple (encs as)) := by simp [enc]
    have cI : eComp [2] (iSeq (Cy.e2 ixR (eVar 0) (eC (.int 2)))) (gNm 2) tTrue (eCall (Φ (n + (d + 1) + 6) .is_simple) (aCons (eVar 2) aNil)) [some (.dat (enc (.call f as))), some (.dat (encM m)), none] S = some (.dat (.list ((as.map simpleT).map PyData.bool)), S) := by
      have e : (encs as).map R.dat = as.map fun t => R.dat (enc t) := by rw [encs_map, List.map_map]; rfl
      rw [List.map_map]
      refine eComp_ok (rs := as.map fun t => R.dat (enc t)) (by simp [eI, e]) (CompOk.map (fun t => R.dat (enc t)) (PyData.bool ∘ simpleT) as fun t ht => ⟨[some (.dat (enc (.call f as))), some (.dat (encM m)), some (.dat (enc t))], by simp, fun acc => ?_⟩)
      have := r_is_simple t (n + (d + 1) + 5) (S ++ [.lst acc])
      simp [this]
    have al := allD_bools (as.map simpleT)
    have all_ : (as.map simpleT).all id = as.all simpleT := by simp [List.all_map]
    rw [all_, List.map_map] at al
    by_cases hc : f = m.1 ∧ as.all simpleT = true
    · have nm := NS_ok _ (B.names m hm)
      have hl : as.length = m.2.1.length := by
        obtain ⟨m', hm', q⟩ := List.mem_map.mp hf
        have q1 : m'.1 = f := congrArg Prod.fst q
        have q2 : m'.2.1.length = as.length := congrArg Prod.snd q
        have : m' = m := B.one hm' hm (by rw [q1]; exact hc.1)
        subst this
        exact q2.symm
      have zh := zip_heldT hl nm.1
      have dh := dic_heldT nm.2.2 hl
      have rp := r_replaced (heads := headsOf b) (h := m.2.1.zip as) (fun x hx => let ⟨t, _, h⟩ := sget_zip _ _ x hx hl; ⟨t, h⟩) (B.sum4 m hm) (n + d + 1) S
      rw [show n + d + 1 + 4 + 2 = n + (d + 1) + 6 by omega] at rp
      have hc1 := hc.1
      subst hc1
      simp [enc] at cI
      simp [enc] at eq
      rw [plc, if_pos hc]
      simp [startD, enc, e0, e1, e2, eq, cI, al, hc.2, zh, dh, rp]
    · have p := r_parts_of (.call f as) (n + (d + 1) + 5) S
      have cc := x_compT (Φ (n + (d + 1) + 6) .placed) (.dat (encM m)) (plc m) as (src := iSeq (eCall (Φ (n + (d + 1) + 6) .parts_of) (aCons (eVar 0) aNil))) (some (.dat (enc (.call f as)))) S (by simp [p, subs]) (fun t ht S => ih t ht (by omega) n S)
      rw [← plcL_map] at cc
      have wo := r_with_call f as (encs (plcL m as)) (n + (d + 1) + 5)
      simp [enc] at cc wo cI eq
      rw [plc, if_neg hc]
      by_cases h1 : f = m.1
      · have h2 : as.all simpleT = false := by
          cases q : as.all simpleT with
          | true => exact absurd ⟨h1, q⟩ hc
          | false => rfl
        subst h1
        simp at eq
        simp [startD, enc, e0, eq, cI, al, h2, cc, wo]
      · simp [startD, enc, e0, eq, h1, cc, wo]
end Cy
end
section
set_option Elab.async false
set_option maxRecDepth 100000
namespace Cy
open PySem L2
theorem eq_nilL {l : List D} (h : ∀ x ∈ l, El x) : eqD (.list l) (.list []) = some (.bool l.isEmpty) := by
  unfold eqD
  rw [shaped_list h, shaped_list (l := []) (by simp)]
  cases l <;> simp [PyData.eqv, PyData.eqvAll]
@[simp] theorem ne_call (o : Op) : neD (.str o.nm) (.str "call") = some (.bool true) := by rw [neD_str (Op.nm_ok o) ok_call, nm_call]; rfl
@[simp] theorem ne_ifcall : neD (.str "if") (.str "call") = some (.bool true) := by rw [neD_str ok_if ok_call, if_call]; rfl
@[simp] theorem ne_callcall : neD (.str "call") (.str "call") = some (.bool false) := by rw [neD_str ok_call ok_call]; simp
theorem r_law_placed {b : List Mk'} (B : BookOk b) {m : Mk'} (hm : m ∈ b) {names : List Str} (hn : ∀ x ∈ names, PyData.strOk x = true) {d : Nat} {t : T} (ok : SumOk names (headsOf b) d t) (hd : d ≤ 4) :
    ∀ n S, Φ (n + d + 7) .law_placed [.dat (enc t), .dat (encM m)] S = some (.dat (enc (plc m t)), S) := by
  have mo := MK_ok _ (B.all m hm).1
  have k0 : ixD (encM m) (.int 0) = some (.str m.1) := by simp [encM]
  have k1 : ixD (encM m) (.int 1) = some (namesD m.2.1) := by simp [encM]
  have k2 : ixD (encM m) (.int 2) = some (enc m.2.2) := by simp [encM]
  have sz : ∀ l : List T, l.length ≤ 3 → 1 + l.length ≤ sizeLine := fun l hl => small_line (by omega)
  induction ok with
  | @w d k hk => intro n S; rw [Φ_succ]; show b_law_placed (Φ (n + d + 6)) _ S = _; unfold b_law_placed; refine run_rt0 rfl ?_; simp [startD, enc, plc]
  | @v d x hx => intro n S; rw [Φ_succ]; show b_law_placed (Φ (n + d + 6)) _ S = _; unfold b_law_placed; refine run_rt0 rfl ?_; simp [startD, enc, plc]
  | @op d o a c ha hc ia ic =>
    intro n S; rw [Φ_succ]; show b_law_placed (Φ (n + (d + 1) + 6)) _ S = _; unfold b_law_placed; refine run_rt0 rfl ?_
    have cc := x_compT (Φ (n + (d + 1) + 6) .law_placed) (.dat (encM m)) (plc m) [a, c] (src := iSeq (eSl (eVar 0) (oSome (eC (.int 1))) oNone)) (some (.dat (enc (.op o a c)))) S (by simp [enc, encs]) (by
      intro t ht S
      simp at ht
      rcases ht with rfl | rfl
      · exact ia (by omega) n S
      · exact ic (by omega) n S)
    have s := sz [a, c] (by simp)
    simp [encs, enc] at cc s
    simp [startD, enc, plc, cc, s]
  | @ite d x a c hx ha hc ix ia ic =>
    intro n S; rw [Φ_succ]; show b_law_placed (Φ (n + (d + 1) + 6)) _ S = _; unfold b_law_placed; refine run_rt0 rfl ?_
    have cc := x_compT (Φ (n + (d + 1) + 6) .law_placed) (.dat (encM m)) (plc m) [x, a, c] (src := iSeq (eSl (eVar 0) (oSome (eC (.int 1))) oNone)) (some (.dat (enc (.ite x a c)))) S (by simp [enc, encs]) (by
      intro t ht S
      simp at ht
      rcases ht with rfl | rfl | rfl
      · exact ix (by omega) n S
      · exact ia (by omega) n S
      · exact ic (by omega) n S)
    have s := sz [x, a, c] (by simp)
    simp [encs, enc] at cc s
    simp [startD, enc, plc, cc, s]
  | @call d f as hf has ih =>
    intro n S; rw [Φ_succ]; show b_law_placed (Φ (n + (d + 1) + 6)) _ S = _; unfold b_law_placed; refine run_rt0 rfl ?_
    have fo := B.hdOk _ hf
    have eq := eqD_str fo mo
    have eI : ixD (enc (.call f as)) (.int 2) = some (.tuple (encs as)) := by simp [enc]
    have cI : eComp [2] (iSeq (Cy.e2 ixR (eVar 0) (eC (.int 2)))) (gNm 2) (tOf (e1 (l1 (isiD "tuple")) (eVar 2))) (eVar 2) [some (.dat (enc (.call f as))), some (.dat (encM m)), none] S = some (.dat (.list ((as.filter fun t => !simpleT t).map enc)), S) := by
      have e : (encs as).map R.dat = as.map fun t => R.dat (enc t) := by rw [encs_map, List.map_map]; rfl
      refine eComp_ok (rs := as.map fun t => R.dat (enc t)) (by simp [eI, e]) (CompOk.filter (fun t => R.dat (enc t)) (fun t => !simpleT t) enc as fun t ht => ⟨[some (.dat (enc (.call f as))), some (.dat (encM m)), some (.dat (enc t))], by simp, fun acc => by simp [simple_enc], fun _ acc => by simp⟩)
    have nl := eq_nilL (l := (as.filter fun t => !simpleT t).map enc) (fun x hx => by
      obtain ⟨t, ht, rfl⟩ := List.mem_map.mp hx
      exact enc_El hn B.hdOk (has t (List.mem_filter.mp ht).1) (by omega))
    have emp : ((as.filter fun t => !simpleT t).map enc).isEmpty = as.all simpleT := by
      clear nl cI eI ih has hf eq
      induction as with
      | nil => rfl
      | cons a as ih =>
        rw [List.filter_cons, List.all_cons]
        cases simpleT a <;> simp_all
    rw [emp] at nl
    have cc := x_compT (Φ (n + (d + 1) + 6) .law_placed) (.dat (encM m)) (plc m) as (src := iSeq (Cy.e2 ixR (eVar 0) (eC (.int 2)))) (some (.dat (enc (.call f as)))) S (by simp [eI]) (fun t ht S => ih t ht (by omega) n S)
    rw [← plcL_map] at cc
    simp only [enc] at cc cI
    by_cases h1 : f = m.1
    · subst h1
      simp at eq
      cases h2 : as.all simpleT with
      | true =>
        have nm := NS_ok _ (B.names m hm)
        have hl : as.length = m.2.1.length := by
          obtain ⟨m', hm', q⟩ := List.mem_map.mp hf
          have q1 : m'.1 = m.1 := (Prod.mk.inj q).1
          have q2 : m'.2.1.length = as.length := (Prod.mk.inj q).2
          have : m' = m := B.one hm' hm q1
          subst this
          exact q2.symm
        have zh := zip_heldT hl nm.1
        have dh := dic_heldT nm.2.2 hl
        have rp := r_law_in_place (heads := headsOf b) (h := m.2.1.zip as) (fun x hx => let ⟨t, _, h⟩ := sget_zip _ _ x hx hl; ⟨t, h⟩) (B.sum4 m hm) (n + d + 1) S
        rw [show n + d + 1 + 4 + 2 = n + (d + 1) + 6 by omega] at rp
        rw [h2] at nl
        rw [plc, if_pos ⟨rfl, h2⟩]
        simp [startD, enc, k0, k1, k2, eq, cI, nl, zh, dh, rp]
      | false =>
        rw [h2] at nl
        rw [plc, if_neg (by simp [h2])]
        simp [startD, enc, k0, k1, k2, eq, cI, nl, cc]
    · have h1' : (f == m.1) = false := by simp [h1]
      rw [h1'] at eq
      rw [plc, if_neg (by simp [h1])]
      simp [startD, enc, k0, k1, k2, eq, cc]
def inl (m : Mk') (x : Mk') : Mk' := if x.1 = m.1 then x else (x.1, x.2.1, plc m x.2.2)
theorem x_inl {b : List Mk'} (B : BookOk b) {m : Mk'} (hm : m ∈ b) (n : Nat) (a2 : Option R) (S0 : SS) : ∀ (r : List Mk') (acc : List D), (∀ x ∈ r, x ∈ b) → acc.length + r.length ≤ 10 →
    forL (gNm 4)
  (sIf (tOf (e2 (l2 eqD) (e2 ixR (eVar 4) (eC (.int 0))) (eVar 1)))
  (sExpr (eAppend (eVar 3) (eVar 4)))
  (sExpr (eAppend (eVar 3) (eN tupR (aCons (e2 ixR (eVar 4) (eC (.int 0))) (aCons (e2 ixR (eVar 4) (eC (.int 1))) (aCons (eCall (Φ (n + 11) .placed) (aCons (e2 ixR (eVar 4) (eC (.int 2))) (aCons (eVar 2) aNil))) aNil))))))) [4] none (r.map fun x => R.dat (encM x))
    [a2, some (.dat (.str m.1)), some (.dat (encM m)), some (.obj S0.length), none] (S0 ++ [.lst acc]) = some (.nx [a2, some (.dat (.str m.1)), some (.dat (encM m)), some (.obj S0.length), none], S0 ++ [.lst (acc ++ r.map fun x => encM (inl m x))])
  | [], acc, _, _ => by simp
  | x :: r, acc, hr, hl => by
    have hx := hr x List.mem_cons_self
    simp at hl
    have ih := x_inl B hm n a2 S0 r (acc ++ [encM (inl m x)]) (fun y hy => hr y (List.mem_cons_of_mem _ hy)) (by simp; omega)
    have k0 : ixD (encM x) (.int 0) = some (.str x.1) := by simp [encM]
    have k1 : ixD (encM x) (.int 1) = some (namesD x.2.1) := by simp [encM]
    have k2 : ixD (encM x) (.int 2) = some (enc x.2.2) := by simp [encM]
    have eq := eqD_str (MK_ok _ (B.all x hx).1) (MK_ok _ (B.all m hm).1)
    have sz : acc.length < sizeLine := by rw [sizeLine_eq]; omega
    have pl := fun S => r_placed B hm (B.nmOk hx) (B.sum4 x hx) (by decide) n S
    rw [show n + 4 + 7 = n + 11 by omega] at pl
    rw [List.map_cons]
    by_cases h : x.1 = m.1
    · have h' : (x.1 == m.1) = true := by simp [h]
      rw [h'] at eq
      have ei : inl m x = x := by unfold inl; rw [if_pos h]
      rw [ei] at ih
      simp at ih
      simp [k0, eq, sz, ih, ei]
    · have h' : (x.1 == m.1) = false := by simp [h]
      rw [h'] at eq
      have ei : encM (inl m x) = .tuple [.str x.1, namesD x.2.1, enc (plc m x.2.2)] := by unfold inl; rw [if_neg h]; rfl
      rw [ei] at ih
      simp at ih
      simp [k0, k1, k2, eq, sz, pl, ih, ei]
theorem r_inlined {b : List Mk'} (B : BookOk b) {m : Mk'} (hm : m ∈ b) (n : Nat) (S : SS) : Φ (n + 12) .inlined [.dat (encB b), .dat (.str m.1)] S = some (.dat (encB (b.map (inl m))), S) := by
  rw [Φ_succ]; show b_inlined (Φ (n + 11)) _ S = _; unfold b_inlined
  have mo := r_maker_of B hm (n + 10)
  have lp := x_inl B hm n (some (.dat (encB b))) S b [] (fun _ h => h) (by have := B.le; simp; omega)
  have t : l1 tupD (S ++ [.lst (b.map fun x => encM (inl m x))]) (.obj S.length) = some (.dat (.tuple (b.map fun x => encM (inl m x)))) := by
    unfold l1
    simp
  refine run_rt (S' := [.lst (b.map fun x => encM (inl m x))]) rfl ?_
  simp only [List.nil_append, encB] at lp mo
  have ee : (List.map R.dat (List.map encM b)) = b.map fun x => R.dat (encM x) := by rw [List.map_map]; rfl
  simp [startD, encB, mo]
  rw [show (R.dat ∘ encM) = fun x => R.dat (encM x) from rfl, lp]
  simp [t]
end Cy
end
section
set_option Elab.async false
set_option maxRecDepth 100000
namespace Cy
open PySem L2
/-! ### masks -/
def encR (row : List Bool) : D := .tuple (row.map .bool)
def encRs (rows : List (List Bool)) : D := .tuple (rows.map encR)
def maskS (sh : Shp) (row : List Bool) : Shp := (sh.zip row).map fun p => if p.2 then p.1 else none
theorem maskS_lt {sh : Shp} {row : List Bool} (h : ∀ n, some n ∈ sh → n < 1000) : ∀ n, some n ∈ maskS sh row → n < 1000 := by
  intro n hn
  obtain ⟨p, hp, e⟩ := List.mem_map.mp hn
  obtain ⟨o, c⟩ := p
  cases c with
  | false => cases e
  | true =>
    have e : o = some n := e
    subst e
    exact h n (List.of_mem_zip hp).1
theorem El_str {x : Str} (h : PyData.strOk x = true) : El (.str x) := ⟨by simp [PyData.canLay0, h], by simp [PyData.depth]⟩
theorem at_name {b : List Mk'} (B : BookOk b) {j : Nat} {m : Mk'} (h : b[j]? = some m) : indexD (.list (b.map fun m => PyData.str m.1)) (.str m.1) = some (.int (j : Nat)) := by
  have hm : m ∈ b := List.mem_of_getElem? h
  have hs : SeqAt.shaped (.list (b.map fun m => PyData.str m.1)) = true := shaped_list fun x hx => by
    obtain ⟨y, hy, rfl⟩ := List.mem_map.mp hx
    exact El_str (MK_ok _ (B.all y hy).1)
  have hd : SeqAt.shaped (.str m.1) = true := shaped_of (El_str (MK_ok _ (B.all m hm).1))
  obtain ⟨hj, ej⟩ := List.getElem?_eq_some_iff.mp h
  have hf : (b.map fun m => PyData.str m.1).findIdx? (fun z => PyData.eqv z (.str m.1)) = some j := by
    refine List.findIdx?_eq_some_iff_getElem.mpr ⟨by simpa using hj, ?_, fun i hi => ?_⟩
    · simp [ej, PyData.eqv]
    · have hib : i < b.length := by omega
      simp [PyData.eqv]
      intro e
      have e1 := B.one (List.getElem_mem hib) hm e
      have a1 := B.name i _ (List.getElem?_eq_getElem hib)
      have a2 := B.name j _ h
      rw [e1] at a1
      obtain ⟨q1, p1⟩ := List.getElem?_eq_some_iff.mp a1
      obtain ⟨q2, p2⟩ := List.getElem?_eq_some_iff.mp a2
      have := (List.getElem_inj MK_nodup).mp (p1.trans p2.symm)
      omega
  unfold indexD
  simp only [hs, hd, hf]
  rfl
theorem x_mask (sh : Shp) (row : List Bool) (i j : Nat) (own : List Nat) (src : Im) (δ : Dl) (S : SS) (hi : i < δ.length) (hj : j < δ.length) (hij : i ≠ j)
    (hs : src δ S = some (zipR (sh.map encO) (row.map .bool), none, S)) (hl : (clrS own δ).length = δ.length) :
    eComp own src (gTp 2 (gsCons (gNm i) (gsCons (gNm j) gsNil))) tTrue (e2 ixR (eN lstR (aCons (eC .none) (aCons (eVar i) aNil))) (e1 (l1 intD) (eVar j))) δ S = some (.dat (.list ((maskS sh row).map encO)), S) := by
  have ez : zipR (sh.map encO) (row.map .bool) = (sh.zip row).map fun p => R.itm [encO p.1, .bool p.2] := by
    unfold zipR
    rw [List.zip_map, List.map_map]
    rfl
  rw [ez] at hs
  have em : (maskS sh row).map encO = (sh.zip row).map fun p => encO (if p.2 then p.1 else none) := by rw [maskS, List.map_map]; rfl
  rw [em]
  refine eComp_ok hs (CompOk.map _ _ _ fun p _ => ?_)
  obtain ⟨o, c⟩ := p
  refine ⟨((clrS own δ).set i (some (.dat (encO o)))).set j (some (.dat (.bool c))), by simp, fun acc => ?_⟩
  have ei : (((clrS own δ).set i (some (.dat (encO o)))).set j (some (.dat (.bool c))))[i]? = some (some (.dat (encO o))) := by
    rw [List.getElem?_set_ne (Ne.symm hij), List.getElem?_set_self (by omega)]
  have ej : (((clrS own δ).set i (some (.dat (encO o)))).set j (some (.dat (.bool c))))[j]? = some (some (.dat (.bool c))) := by
    rw [List.getElem?_set_self (by rw [List.length_set]; omega)]
  cases c
  · simp [ei, ej]
    rfl
  · simp [ei, ej]
theorem x_names {b : List Mk'} (i : Nat) (δ : Dl) (S : SS) (hi : i < δ.length) (h0 : δ[0]? = some (some (.dat (encB b)))) : eComp [i] (iSeq (eVar 0)) (gNm i) tTrue (e2 ixR (eVar i) (eC (.int 0))) δ S = some (.dat (.list (b.map fun m => PyData.str m.1)), S) := by
  refine eComp_ok (rs := b.map fun m => R.dat (encM m)) (by simp [h0, encB]) (CompOk.map _ _ _ fun m _ => ⟨(clrS [i] δ).set i (some (.dat (encM m))), by simp, fun acc => ?_⟩)
  have e1 : ((clrS [i] δ).set i (some (.dat (encM m))))[i]? = some (some (.dat (encM m))) := List.getElem?_set_self (by simpa using hi)
  have hx0 : ixD (encM m) (.int 0) = some (.str m.1) := by simp [encM]
  simp only [e2_eq, eVar_eq, e1, Option.bind_some, Option.map_some, eC_eq, ixR_dat, l2_dat, hx0]
theorem r_masked {b : List Mk'} (B : BookOk b) {j : Nat} {m : Mk'} (h : b[j]? = some m) {rows : List (List Bool)} {row : List Bool} (hr : rows[j]? = some row) (sh : Shp) (n : Nat) (S : SS) :
    Φ (n + 1) .masked [.dat (encB b), .dat (.str m.1), .dat (encS sh), .dat (encRs rows)] S = some (.dat (encS (maskS sh row)), S) := by
  rw [Φ_succ]; show b_masked (Φ n) _ S = _; unfold b_masked; refine run_rt0 rfl ?_
  have c := x_names (b := b) 5 [some (.dat (encB b)), some (.dat (.str m.1)), some (.dat (encS sh)), some (.dat (encRs rows)), none, none, none, none] S (by simp) (by simp)
  have ix := at_name B h
  have ia : atI (rows.map encR) (j : Int) = some (encR row) := atI_nat (by rw [List.getElem?_map, hr]; rfl)
  have k := x_mask sh row 6 7 [6, 7] (iZip2 (eVar 2) (e2 ixR (eVar 3) (eVar 4))) [some (.dat (encB b)), some (.dat (.str m.1)), some (.dat (encS sh)), some (.dat (encRs rows)), some (.dat (.int (j : Nat))), none, none, none] S (by simp) (by simp) (by decide) (by simp [encS, encRs, ia, encR]) (by simp)
  simp [startD, eIndex, c, ix, k]
  rfl
theorem r_law_masked {b : List Mk'} (B : BookOk b) {j : Nat} {m : Mk'} (h : b[j]? = some m) {rows : List (List Bool)} {row : List Bool} (hr : rows[j]? = some row) (sh : Shp) (n : Nat) (S : SS) :
    Φ (n + 1) .law_masked [.dat (encB b), .dat (.tuple [.str m.1, encS sh]), .dat (encRs rows)] S = some (.dat (.tuple [.str m.1, encS (maskS sh row)]), S) := by
  rw [Φ_succ]; show b_law_masked (Φ n) _ S = _; unfold b_law_masked; refine run_rt0 rfl ?_
  have c := x_names (b := b) 4 [some (.dat (encB b)), some (.dat (.tuple [.str m.1, encS sh])), some (.dat (encRs rows)), none, none, none, none] S (by simp) (by simp)
  have ix := at_name B h
  have ia : atI (rows.map encR) (j : Int) = some (encR row) := atI_nat (by rw [List.getElem?_map, hr]; rfl)
  have k := x_mask sh row 5 6 [5, 6] (iZip2 (e2 ixR (eVar 1) (eC (.int 1))) (eVar 3)) [some (.dat (encB b)), some (.dat (.tuple [.str m.1, encS sh])), some (.dat (encRs rows)), some (.dat (encR row)), none, none, none] S (by simp) (by simp) (by decide) (by simp [encS, encR]) (by simp)
  have e0 : ixD (encRs rows) (.int (j : Nat)) = some (encR row) := ia
  simp [startD, eIndex, c, ix, e0, k]
  rfl
end Cy
end
section
set_option Elab.async false
set_option maxRecDepth 100000
namespace Cy
open PySem L2
def kept (β : Bt) : T → List T
  | .call f as => keep as (β f)
  | t => subs t
theorem nmK_keep (β : Bt) : ∀ (as : List T) (row : List Bool), nmK β as row = (keep as row).flatMap (nmI β)
  | [], row => by cases row <;> simp [nmK, keep]
  | a :: as, [] => by simp [nmK, keep]
  | a :: as, t :: row => by
    have ih := nmK_keep β as row
    rw [nmK, ih]
    cases t <;> simp [keep]
theorem nmI_kept (β : Bt) (t : T) (h : ∀ x, t ≠ .v x) : nmI β t = (kept β t).flatMap (nmI β) := by
  cases t with
  | w n => simp [nmI, kept, subs]
  | v x => exact absurd rfl (h x)
  | op o a b => simp [nmI, kept, subs]
  | ite c a b => simp [nmI, kept, subs]
  | call f as => simp [nmI, kept, nmK_keep]
theorem keep_mem {α : Type} {as : List α} {row : List Bool} {a : α} (h : a ∈ keep as row) : a ∈ as := by
  unfold keep at h
  obtain ⟨p, hp, rfl⟩ := List.mem_map.mp h
  exact (List.of_mem_zip (List.mem_filter.mp hp).1).1
theorem keep_len {α : Type} (as : List α) (row : List Bool) : (keep as row).length ≤ as.length := by
  unfold keep
  rw [List.length_map]
  refine Nat.le_trans (List.length_filter_le _ _) ?_
  rw [List.length_zip]
  exact Nat.min_le_left _ _
theorem kept_ok {names : List Str} {heads : List (Str × Nat)} {β : Bt} {d : Nat} {t : T} (ok : SumOk names heads (d + 1) t) : ∀ s ∈ kept β t, SumOk names heads d s := by
  intro s hs
  cases ok with
  | w => simp [kept, subs] at hs
  | v => simp [kept, subs] at hs
  | op a b => simp [kept, subs] at hs; rcases hs with rfl | rfl <;> assumption
  | ite a b c => simp [kept, subs] at hs; rcases hs with rfl | rfl | rfl <;> assumption
  | call a b => exact b s (keep_mem hs)
theorem kept_nil {names : List Str} {heads : List (Str × Nat)} {β : Bt} {t : T} (ok : SumOk names heads 0 t) : kept β t = [] := by
  cases ok <;> simp [kept, subs]
theorem kept_len {names : List Str} {heads : List (Str × Nat)} (h3 : ∀ p ∈ heads, p.2 ≤ 3) {β : Bt} {d : Nat} {t : T} (ok : SumOk names heads d t) : (kept β t).length ≤ 3 := by
  cases ok with
  | w => simp [kept, subs]
  | v => simp [kept, subs]
  | op a b => simp [kept, subs]
  | ite a b c => simp [kept, subs]
  | call a b => exact Nat.le_trans (keep_len _ _) (h3 _ a)
theorem nmI_len {names : List Str} {heads : List (Str × Nat)} (h3 : ∀ p ∈ heads, p.2 ≤ 3) {β : Bt} : ∀ (d : Nat) (t : T), SumOk names heads d t → (nmI β t).length ≤ 3 ^ d
  | 0, t, ok => by cases ok <;> simp [nmI]
  | d + 1, t, ok => by
    by_cases hv : ∃ x, t = .v x
    · obtain ⟨x, rfl⟩ := hv
      simp only [nmI, List.length_singleton]
      exact Nat.one_le_pow _ _ (by decide)
    · have hv' : ∀ x, t ≠ .v x := fun x e => hv ⟨x, e⟩
      rw [nmI_kept β t hv']
      have hl := kept_len h3 (β := β) ok
      have : ∀ l : List T, (∀ s ∈ l, SumOk names heads d s) → (l.flatMap (nmI β)).length ≤ l.length * 3 ^ d := fun l hl => by
        induction l with
        | nil => simp
        | cons a l ih =>
          have h1 := nmI_len h3 (β := β) d a (hl a List.mem_cons_self)
          have h2 := ih fun s hs => hl s (List.mem_cons_of_mem _ hs)
          rw [List.flatMap_cons, List.length_append, List.length_cons, Nat.add_mul]
          omega
      have h1 := this (kept β t) (kept_ok ok)
      have h2 : (kept β t).length * 3 ^ d ≤ 3 * 3 ^ d := Nat.mul_le_mul_right _ hl
      rw [Nat.pow_succ]
      omega
theorem nmI_in {names : List Str} {heads : List (Str × Nat)} {β : Bt} : ∀ (d : Nat) (t : T), SumOk names heads d t → ∀ x ∈ nmI β t, x ∈ names
  | 0, t, ok, x, hx => by
    cases ok with
    | w => simp [nmI] at hx
    | v h => simp [nmI] at hx; subst hx; exact h
  | d + 1, t, ok, x, hx => by
    by_cases hv : ∃ y, t = .v y
    · obtain ⟨y, rfl⟩ := hv
      simp [nmI] at hx
      subst hx
      cases ok with
      | v h => exact h
    · rw [nmI_kept β t fun y e => hv ⟨y, e⟩] at hx
      obtain ⟨s, hs, hx⟩ := List.mem_flatMap.mp hx
      exact nmI_in d s (kept_ok ok s hs) x hx
/-- the rows, as they are read -/
def Rb (X : R) (β : Bt) (heads : List (Str × Nat)) (S : SS) : Prop := ∀ (T : SS) (f : Str) (k : Nat), (f, k) ∈ heads → ixR (S ++ T) X (.dat (.str f)) = some (.dat (encR (β f)))
theorem Rb.app {X : R} {β : Bt} {heads : List (Str × Nat)} {S : SS} (h : Rb X β heads S) (T : SS) : Rb X β heads (S ++ T) := fun U f k hf => by rw [List.append_assoc]; exact h _ f k hf
theorem Rb.at0 {X : R} {β : Bt} {heads : List (Str × Nat)} {S : SS} (h : Rb X β heads S) {f : Str} {k : Nat} (hf : (f, k) ∈ heads) : ixR S X (.dat (.str f)) = some (.dat (encR (β f))) := by
  have := h [] f k hf
  rwa [List.append_nil] at this
theorem keep_comp {δ : Dl} {S : SS} (i j : Nat) (own : List Nat) (src : Im) (e : Em) (h : T → D) (as : List T) (row : List Bool) (hi : i < δ.length) (hj : j < δ.length) (hij : i ≠ j)
    (hs : src δ S = some (zipR (encs as) (row.map .bool), none, S)) (hl : (clrS own δ).length = δ.length)
    (he : ∀ a ∈ keep as row, ∀ acc δ1, δ1[i]? = some (some (.dat (enc a))) → (∀ k, k ≠ i → k ≠ j → δ1[k]? = (clrS own δ)[k]?) → e δ1 (S ++ [.lst acc]) = some (.dat (h a), S ++ [.lst acc])) :
    eComp own src (gTp 2 (gsCons (gNm i) (gsCons (gNm j) gsNil))) (tOf (eVar j)) e δ S = some (.dat (.list ((keep as row).map h)), S) := by
  have ez : zipR (encs as) (row.map .bool) = (as.zip row).map fun p => R.itm [enc p.1, .bool p.2] := by
    unfold zipR
    rw [encs_map, List.zip_map, List.map_map]
    rfl
  rw [ez] at hs
  have em : (keep as row).map h = ((as.zip row).filter fun p => p.2).map fun p => h p.1 := by unfold keep; rw [List.map_map]; rfl
  rw [em]
  refine eComp_ok hs (CompOk.filter _ _ _ _ fun p hp => ?_)
  obtain ⟨a, t⟩ := p
  have ei : (((clrS own δ).set i (some (.dat (enc a)))).set j (some (.dat (.bool t))))[i]? = some (some (.dat (enc a))) := by
    rw [List.getElem?_set_ne (Ne.symm hij), List.getElem?_set_self (by omega)]
  have ej : (((clrS own δ).set i (some (.dat (enc a)))).set j (some (.dat (.bool t))))[j]? = some (some (.dat (.bool t))) := List.getElem?_set_self (by rw [List.length_set]; omega)
  refine ⟨((clrS own δ).set i (some (.dat (enc a)))).set j (some (.dat (.bool t))), by simp, fun acc => by simp [ej], fun ht acc => ?_⟩
  refine he a ?_ acc _ ei fun k h1 h2 => by rw [List.getElem?_set_ne (Ne.symm h2), List.getElem?_set_ne (Ne.symm h1)]
  unfold keep
  exact List.mem_map.mpr ⟨(a, t), List.mem_filter.mpr ⟨hp, ht⟩, rfl⟩
theorem r_kept_parts {names : List Str} {heads : List (Str × Nat)} {X : R} {β : Bt} {d : Nat} {t : T} (ok : SumOk names heads d t) {S : SS} (hX : Rb X β heads S) (n : Nat) :
    ∃ D0, Φ (n + 2) .kept_parts [.dat (enc t), X] S = some (.dat D0, S) ∧ ∀ S', itemsR S' (.dat D0) = some ((encs (kept β t)).map .dat, none) := by
  have p := r_parts_of t n S
  cases ok with
  | w h => exact ⟨.tuple [], by rw [Φ_succ]; show b_kept_parts (Φ (n + 1)) _ S = _; unfold b_kept_parts; refine run_rt0 rfl ?_; simp [enc, subs, encs] at p; simp [startD, enc, p], fun S' => by simp [kept, subs, encs]⟩
  | v h => exact ⟨.tuple [], by rw [Φ_succ]; show b_kept_parts (Φ (n + 1)) _ S = _; unfold b_kept_parts; refine run_rt0 rfl ?_; simp [enc, subs, encs] at p; simp [startD, enc, p], fun S' => by simp [kept, subs, encs]⟩
  | @op d o a b oa ob => exact ⟨.tuple [enc a, enc b], by rw [Φ_succ]; show b_kept_parts (Φ (n + 1)) _ S = _; unfold b_kept_parts; refine run_rt0 rfl ?_; simp [enc, subs, encs] at p; simp [startD, enc, p], fun S' => by simp [kept, subs, encs]⟩
  | @ite d c a b oc oa ob => exact ⟨.tuple [enc c, enc a, enc b], by rw [Φ_succ]; show b_kept_parts (Φ (n + 1)) _ S = _; unfold b_kept_parts; refine run_rt0 rfl ?_; simp [enc, subs, encs] at p; simp [startD, enc, p], fun S' => by simp [kept, subs, encs]⟩
  | @call d f as hf has =>
    refine ⟨.list ((keep as (β f)).map enc), ?_, fun S' => by simp [kept, encs_map]⟩
    rw [Φ_succ]; show b_kept_parts (Φ (n + 1)) _ S = _; unfold b_kept_parts; refine run_rt0 rfl ?_
    have rd := hX.at0 hf
    have c := keep_comp (δ := [some (.dat (enc (.call f as))), some X, none, none]) (S := S) 2 3 [2, 3] (iZip2 (e2 ixR (eVar 0) (eC (.int 2))) (e2 ixR (eVar 1) (e2 ixR (eVar 0) (eC (.int 1))))) (eVar 2) enc as (β f) (by simp) (by simp) (by decide)
      (by simp [enc, rd, encR]) (by simp) (fun a ha acc δ1 h1 h2 => by simp [h1])
    simp only [enc] at c
    simp [startD, enc, c]
theorem x_nmI {F : Fn} {X : R} {β : Bt} (a0 : Option R) (S : SS) : ∀ (ts : List T) (acc : List D), acc.length + (ts.flatMap (nmI β)).length ≤ 900 → (∀ t ∈ ts, F [.dat (enc t), X] S = some (.dat (.list ((nmI β t).map .str)), S)) →
    forL (gNm 3) (sAsg (e2 (l2 addD) (eVar 2) (eCall F (aCons (eVar 3) (aCons (eVar 1) aNil)))) (gNm 2)) [3] none ((encs ts).map .dat) [a0, some X, some (.dat (.list acc)), none] S =
      some (.nx [a0, some X, some (.dat (.list (acc ++ (ts.flatMap (nmI β)).map .str))), none], S)
  | [], acc, _, _ => by simp [encs]
  | t :: ts, acc, hl, hF => by
    have f := hF t List.mem_cons_self
    rw [List.flatMap_cons, List.length_append] at hl
    have ih := x_nmI (F := F) (X := X) (β := β) a0 S ts (acc ++ (nmI β t).map .str) (by rw [List.length_append, List.length_map]; omega) (fun s hs => hF s (List.mem_cons_of_mem _ hs))
    have sz : acc.length + (nmI β t).length ≤ sizeLine := small_line (by omega)
    simp at ih
    simp [encs, f, sz, ih]
theorem r_names_in {names : List Str} {heads : List (Str × Nat)} (h3 : ∀ p ∈ heads, p.2 ≤ 3) {X : R} {β : Bt} : ∀ (d : Nat) (t : T), SumOk names heads d t → d ≤ 4 → ∀ (n : Nat) (S : SS), Rb X β heads S →
    Φ (n + d + 3) .names_in [.dat (enc t), X] S = some (.dat (.list ((nmI β t).map .str)), S) := by
  have p4 : 3 ^ 4 = 81 := rfl
  intro d
  induction d with
  | zero =>
    intro t ok _ n S hX
    obtain ⟨D0, k1, k2⟩ := r_kept_parts ok hX n
    rw [kept_nil ok] at k2
    rw [Φ_succ]; show b_names_in (Φ (n + 2)) _ S = _; unfold b_names_in; refine run_rt0 rfl ?_
    cases ok with
    | w h => simp [enc] at k1; simp [startD, enc, k1, k2, encs, nmI]
    | v h => simp [startD, enc, nmI]
  | succ d ih =>
    intro t ok hd n S hX
    obtain ⟨D0, k1, k2⟩ := r_kept_parts ok hX (n + (d + 1))
    have hl := nmI_len h3 (β := β) (d + 1) t ok
    have hp : 3 ^ (d + 1) ≤ 81 := by rw [← p4]; exact Nat.pow_le_pow_right (by decide) hd
    rw [Φ_succ]; show b_names_in (Φ (n + (d + 1) + 2)) _ S = _; unfold b_names_in; refine run_rt0 rfl ?_
    by_cases hv : ∃ x, t = .v x
    · obtain ⟨x, rfl⟩ := hv
      simp [startD, enc, nmI]
    · have hv' : ∀ x, t ≠ .v x := fun x e => hv ⟨x, e⟩
      rw [nmI_kept β t hv'] at hl ⊢
      have lp := x_nmI (F := Φ (n + (d + 1) + 2) .names_in) (X := X) (β := β) (some (.dat (enc t))) S (kept β t) [] (by simpa using Nat.le_trans hl (by omega)) (fun s hs => ih s (kept_ok ok s hs) (by omega) n S hX)
      have isx : isiD "str" (enc t) = some (.bool false) := by
        cases t with
        | v x => exact absurd rfl (hv' x)
        | _ => simp [enc]
      simp at lp
      simp [startD, isx, k1, k2, lp]
end Cy
end
section
set_option Elab.async false
set_option maxRecDepth 100000
namespace Cy
open PySem L2
/-! ### the book of rows in the store -/
def encBt (b : List Mk') (β : Bt) : List (Key × D) := b.map fun m => (Sum.inr m.1, encR (β m.1))
theorem getK_Bt {b : List Mk'} {β : Bt} {f : Str} : (∃ m ∈ b, m.1 = f) → getK (encBt b β) (Sum.inr f) = some (encR (β f)) := by
  induction b with
  | nil => rintro ⟨m, hm, _⟩; cases hm
  | cons x b ih =>
    rintro ⟨m, hm, e⟩
    unfold getK encBt
    rw [List.map_cons, List.find?_cons]
    by_cases h : x.1 = f
    · subst h; simp
    · have q1 : ¬ ((Sum.inr x.1 : Key) = Sum.inr f) := fun z => h (Sum.inr.inj z)
      simp only [q1, decide_false]
      refine ih ⟨m, (List.mem_cons.mp hm).resolve_left fun z => h (by rw [← z]; exact e), e⟩
theorem putD_Bt {b : List Mk'} {β : Bt} {f : Str} (hf : ∃ m ∈ b, m.1 = f) (row : List Bool) : putD (encBt b β) (Sum.inr f) (encR row) = encBt b (upB β f row) := by
  unfold putD
  obtain ⟨m, hm, e⟩ := hf
  rw [if_pos (by
    refine List.any_eq_true.mpr ⟨(Sum.inr m.1, encR (β m.1)), List.mem_map.mpr ⟨m, hm, rfl⟩, ?_⟩
    simp [e])]
  unfold encBt
  rw [List.map_map]
  refine List.map_congr_left fun x _ => ?_
  by_cases h : x.1 = f
  · simp [h, upB]
  · have q1 : ¬ ((Sum.inr x.1 : Key) = Sum.inr f) := fun z => h (Sum.inr.inj z)
    simp [h, upB]
theorem heads_m {b : List Mk'} {f : Str} {k : Nat} (h : (f, k) ∈ headsOf b) : ∃ m ∈ b, m.1 = f ∧ m.2.1.length = k := by
  obtain ⟨m, hm, e⟩ := List.mem_map.mp h
  exact ⟨m, hm, congrArg Prod.fst e, congrArg Prod.snd e⟩
def bS (b : List Mk') (S : SS) (j : Nat) (β : Bt) : SS := S.set j (.dic (encBt b β))
section
variable {b : List Mk'} {S X : SS} {j : Nat} {β γ : Bt}
@[simp] theorem bS_length : (bS b S j β).length = S.length := List.length_set
theorem bS_app (h : j < S.length) : bS b (S ++ X) j β = bS b S j β ++ X := List.set_append_left _ _ h
theorem bS_look (h : j < S.length) : lookK (bS b S j β) j = some (encBt b β) := by
  unfold lookK bS
  simp [h]
theorem bS_set (h : j < S.length) : (bS b S j β).set j (.dic (encBt b γ)) = bS b S j γ := by unfold bS; rw [List.set_set]
theorem bS_Rb (h : j < S.length) : Rb (.obj j) β (headsOf b) (bS b S j β) := fun T f k hf => by
  have e : asKv (bS b S j β ++ T) (.obj j) = some (encBt b β) := by
    unfold asKv
    have : (bS b S j β ++ T)[j]? = some (.dic (encBt b β)) := by
      rw [List.getElem?_append_left (by simpa using h)]
      unfold bS
      exact List.getElem?_set_self h
    simp [this]
  unfold ixR
  obtain ⟨m, hm, e1, _⟩ := heads_m hf
  simp only [e, keyOf, getK_Bt ⟨m, hm, e1⟩, Option.map_some]
end
theorem dic_Rb {b : List Mk'} {β : Bt} (S : SS) : Rb (.dic (encBt b β)) β (headsOf b) S := fun T f k hf => by
  obtain ⟨m, hm, e1, _⟩ := heads_m hf
  unfold ixR
  simp only [asKv, keyOf, getK_Bt ⟨m, hm, e1⟩, Option.map_some]
theorem in_names {x : Str} (hx : PyData.strOk x = true) {l : List Str} (hl : ∀ y ∈ l, PyData.strOk y = true) (S : SS) : inR S (.dat (.str x)) (.dat (.list (l.map .str))) = some (.dat (.bool (decide (x ∈ l)))) := by
  unfold inR
  simp only [show asKv S (.dat (.list (l.map PyData.str))) = none from rfl, l2_dat]
  rw [show inD (.str x) (.list (l.map PyData.str)) = if SeqAt.shaped (.str x) && SeqAt.shaped (.list (l.map PyData.str)) then some (.bool ((l.map PyData.str).any fun z => PyData.eqv z (.str x))) else none from rfl,
    shaped_of (El_str hx), shaped_list (l := l.map PyData.str) (fun y hy => by obtain ⟨z, hz, rfl⟩ := List.mem_map.mp hy; exact El_str (hl z hz))]
  have : ((l.map PyData.str).any fun z => PyData.eqv z (.str x)) = decide (x ∈ l) := by
    induction l with
    | nil => simp
    | cons y l ih =>
      have ih := ih fun z hz => hl z (List.mem_cons_of_mem _ hz)
      rw [List.map_cons, List.any_cons, ih]
      by_cases h : y = x
      · simp [h, PyData.eqv]
      · have h1 : (y == x) = false := by simp [h]
        have h2 : decide (x = y) = false := by simp; exact fun e => h e.symm
        simp [PyData.eqv, h1, h]
        intro e; exact absurd e.symm h
  rw [this]
  rfl
theorem row_comp {m : Mk'} (hm : ∀ x ∈ m.2.1, PyData.strOk x = true) {β : Bt} (hn : ∀ y ∈ nmI β m.2.2, PyData.strOk y = true) (i : Nat) (src : Im) (s : Nat) (δ : Dl) (S : SS) (hi : i < δ.length) (his : s ≠ i)
    (hs : src δ S = some ((m.2.1.map fun x => R.dat (.str x)), none, S)) (h6 : δ[s]? = some (some (.dat (.list ((nmI β m.2.2).map .str))))) :
    eComp [i] src (gNm i) tTrue (e2 inR (eVar i) (eVar s)) δ S = some (.dat (.list ((rowOf β m).map .bool)), S) := by
  have em : (rowOf β m).map PyData.bool = m.2.1.map fun x => PyData.bool (decide (x ∈ nmI β m.2.2)) := by unfold rowOf; rw [List.map_map]; exact List.map_congr_left fun x _ => by simp
  rw [em]
  refine eComp_ok hs (CompOk.map (fun x => R.dat (.str x)) (fun x => PyData.bool (decide (x ∈ nmI β m.2.2))) m.2.1 fun x hx => ⟨(clrS [i] δ).set i (some (.dat (.str x))), by simp, fun acc => ?_⟩)
  have ei : ((clrS [i] δ).set i (some (.dat (.str x))))[i]? = some (some (.dat (.str x))) := List.getElem?_set_self (by simpa using hi)
  have es : ((clrS [i] δ).set i (some (.dat (.str x))))[s]? = some (some (.dat (.list ((nmI β m.2.2).map .str)))) := by
    rw [List.getElem?_set_ne (Ne.symm his)]
    simp [List.getElem?_set_ne (Ne.symm his), h6]
  have ii := in_names (hm x hx) hn (S ++ [.lst acc])
  simp only [e2_eq, eVar_eq, ei, es, Option.bind_some, Option.map_some, ii]
theorem eqv_row (r s : List Bool) : PyData.eqvAll (r.map .bool) (s.map .bool) = decide (r = s) := by
  induction r generalizing s with
  | nil => cases s <;> simp [PyData.eqvAll]
  | cons a r ih =>
    cases s with
    | nil => simp [PyData.eqvAll]
    | cons c s =>
      rw [List.map_cons, List.map_cons, PyData.eqvAll, ih]
      by_cases h1 : a = c <;> by_cases h2 : r = s <;> simp [PyData.eqv, h1, h2]
theorem El_row (r : List Bool) : El (encR r) := by
  have : PyData.canLayAll0 (r.map PyData.bool) = true ∧ PyData.depthAll (r.map PyData.bool) = 0 := by
    induction r with
    | nil => simp [PyData.canLayAll0, PyData.depthAll]
    | cons a r ih => simp [PyData.canLayAll0, PyData.depthAll, PyData.canLay0, PyData.depth, ih.1, ih.2]
  unfold encR
  exact ⟨by rw [PyData.canLay0]; exact this.1, by rw [PyData.depth, this.2]; decide⟩
theorem ne_row (r s : List Bool) : neD (encR r) (encR s) = some (.bool (!decide (r = s))) := by
  unfold neD
  rw [shaped_of (El_row r), shaped_of (El_row s)]
  unfold encR
  rw [PyData.eqv, eqv_row]
  rfl
noncomputable abbrev ndB (n : Nat) : Sm := (sSeq (sAsg (eCall (Φ n .names_in) (aCons (eVar 5) (aCons (eVar 1) aNil))) (gNm 6))
  (sSeq (sAsg (e1 (l1 tupD) (eComp [8] (iSeq (eVar 4)) (gNm 8) tTrue (e2 inR (eVar 8) (eVar 6)))) (gNm 7))
  (sIf (tOf (e2 (l2 neD) (eVar 7) (e2 ixR (eVar 1) (eVar 3))))
  (sSeq (sDput (eVar 1) (eVar 3) (eVar 7))
  (sAsg (eC (.bool true)) (gNm 2)))
  sSkip)))
open Classical in
/-- a sweep, and whether something was parted -/
noncomputable def swF (β : Bt) (fl : Bool) : List Mk' → Bt × Bool
  | [] => (β, fl)
  | m :: l => if rowOf β m = β m.1 then swF β fl l else swF (upB β m.1 (rowOf β m)) true l
theorem upB_self (β : Bt) (f : Str) : upB β f (β f) = β := by
  funext g
  unfold upB
  split
  · rename_i h; rw [h]
  · rfl
theorem swF_fst : ∀ (l : List Mk') (β : Bt) (fl : Bool), (swF β fl l).1 = l.foldl (fun β m => upB β m.1 (rowOf β m)) β
  | [], β, fl => rfl
  | m :: l, β, fl => by
    rw [swF, List.foldl_cons]
    split
    · rename_i h
      rw [swF_fst l β fl, h, upB_self]
    · exact swF_fst l _ _
theorem swF_true : ∀ (l : List Mk') (β : Bt), (swF β true l).2 = true
  | [], β => rfl
  | m :: l, β => by
    rw [swF]
    split
    · exact swF_true l β
    · exact swF_true l _
theorem swF_false {b : List Mk'} : ∀ (l : List Mk') (β : Bt), (swF β false l).2 = false → ∀ m ∈ l, rowOf β m = β m.1
  | [], β, _, m, hm => by cases hm
  | x :: l, β, h, m, hm => by
    rw [swF] at h
    by_cases e : rowOf β x = β x.1
    · rw [if_pos e] at h
      rcases List.mem_cons.mp hm with rfl | hm
      · exact e
      · exact swF_false (b := b) l β h m hm
    · rw [if_neg e, swF_true] at h
      cases h
/-- a sweep that parts something counts more -/
theorem swF_up {b : List Mk'} (one : ∀ m ∈ b, ∀ m' ∈ b, m.1 = m'.1 → m = m') : ∀ (l : List Mk'), (∀ m ∈ l, m ∈ b) → ∀ β, Pre b β → (swF β false l).2 = true → cnt b β < cnt b (swF β false l).1
  | [], _, β, _, h => by cases h
  | x :: l, hl, β, P, h => by
    have hx := hl x List.mem_cons_self
    rw [swF] at h ⊢
    by_cases e : rowOf β x = β x.1
    · rw [if_pos e] at h ⊢
      exact swF_up one l (fun m hm => hl m (List.mem_cons_of_mem _ hm)) β P h
    · rw [if_neg e] at h ⊢
      obtain ⟨l1, p1⟩ := up_le one P hx
      obtain ⟨l2, _⟩ := sw_le' one l (fun m hm => hl m (List.mem_cons_of_mem _ hm)) _ p1
      rw [swF_fst]
      obtain ⟨c1, c2⟩ := cnt_le l1 b
      obtain ⟨c3, _⟩ := cnt_le l2 b
      have : cnt b β ≠ cnt b (upB β x.1 (rowOf β x)) := fun q => by
        have := c2 q x hx
        unfold upB at this
        rw [if_pos rfl] at this
        exact e this.symm
      omega
end Cy
end
section
set_option Elab.async false
set_option maxRecDepth 100000
namespace Cy
open PySem L2
theorem encBt_len (b : List Mk') (β : Bt) : (encBt b β).length = b.length := by unfold encBt; rw [List.length_map]
theorem x_sweep {b : List Mk'} (B : BookOk b) (n : Nat) (a0 : Option R) (S : SS) (j : Nat) (hj : j < S.length) : ∀ (l : List Mk') (β : Bt) (fl : Bool), (∀ m ∈ l, m ∈ b) →
    forL (gTp 3 (gsCons (gNm 3) (gsCons (gNm 4) (gsCons (gNm 5) gsNil)))) (ndB (n + 7)) [3, 4, 5, 6, 7] none (l.map fun m => R.dat (encM m)) [a0, some (.obj j), some (.dat (.bool fl)), none, none, none, none, none, none] (bS b S j β) =
      some (.nx [a0, some (.obj j), some (.dat (.bool (swF β fl l).2)), none, none, none, none, none, none], bS b S j (swF β fl l).1)
  | [], β, fl, _ => by simp [swF]
  | m :: l, β, fl, hl => by
    have hm := hl m List.mem_cons_self
    have hl' := fun x hx => hl x (List.mem_cons_of_mem m hx)
    have nok := B.nmOk hm
    have hin : ∀ y ∈ nmI β m.2.2, PyData.strOk y = true := fun y hy => nok y (nmI_in 4 _ (B.sum4 m hm) y hy)
    have ni := r_names_in (fun p hp => (B.headNames p hp).1) 4 _ (B.sum4 m hm) (by decide) n (bS b S j β) (bS_Rb (b := b) (β := β) hj)
    have rc := row_comp nok hin 8 (iSeq (eVar 4)) 6 [a0, some (.obj j), some (.dat (.bool fl)), some (.dat (.str m.1)), some (.dat (namesD m.2.1)), some (.dat (enc m.2.2)), some (.dat (.list ((nmI β m.2.2).map .str))), none, none] (bS b S j β) (by simp) (by decide) (by simp [namesD]) (by simp)
    have hh : (m.1, m.2.1.length) ∈ headsOf b := List.mem_map.mpr ⟨m, hm, rfl⟩
    have rd := (bS_Rb (b := b) (β := β) hj).at0 hh
    have ne := ne_row (rowOf β m) (β m.1)
    have er : PyData.tuple ((rowOf β m).map PyData.bool) = encR (rowOf β m) := rfl
    have lk := bS_look (b := b) (β := β) hj
    have pt := putD_Bt (β := β) (f := m.1) ⟨m, hm, rfl⟩ (rowOf β m)
    have st := bS_set (b := b) (β := β) (γ := upB β m.1 (rowOf β m)) hj
    have sz : (encBt b β).length < sizeLine := by rw [encBt_len]; have := B.le; rw [sizeLine_eq]; omega
    have em : encM m = .tuple [.str m.1, namesD m.2.1, enc m.2.2] := rfl
    rw [List.map_cons, swF, em]
    by_cases h : rowOf β m = β m.1
    · have ih := x_sweep B n a0 S j hj l β fl hl'
      rw [if_pos h]
      simp only [h, decide_true, Bool.not_true] at ne
      simp only [h] at rc er
      simp [ni, rc, er, rd, ne, ih]
    · have ih := x_sweep B n a0 S j hj l (upB β m.1 (rowOf β m)) true hl'
      rw [if_neg h]
      simp only [h, decide_false, Bool.not_false] at ne
      simp [ni, rc, er, rd, ne, sDput, keyOf, lk, sz, pt, st, ih]
theorem St_sw {b : List Mk'} {β : Bt} (h : St b β) : sw b β = β := by
  have : ∀ l : List Mk', (∀ m ∈ l, m ∈ b) → l.foldl (fun β m => upB β m.1 (rowOf β m)) β = β := fun l hl => by
    induction l with
    | nil => rfl
    | cons m l ih =>
      rw [List.foldl_cons, h m (hl m List.mem_cons_self), upB_self]
      exact ih fun x hx => hl x (List.mem_cons_of_mem _ hx)
  exact this b fun _ h => h
theorem swF_sw (b : List Mk') (β : Bt) (fl : Bool) : (swF β fl b).1 = sw b β := swF_fst b β fl
theorem sws_add (b : List Mk') (β : Bt) (i : Nat) : ∀ j, sws b β (i + j) = sws b (sws b β i) j
  | 0 => rfl
  | j + 1 => by rw [show i + (j + 1) = (i + j) + 1 from rfl, sws, sws_add b β i j, sws]
theorem sws_St {b : List Mk'} {β : Bt} (h : St b β) : ∀ j, sws b β j = β
  | 0 => rfl
  | j + 1 => by rw [sws, sws_St h j, St_sw h]
theorem sws_succ (b : List Mk') (β : Bt) : ∀ j, sws b β (j + 1) = sws b (sw b β) j
  | 0 => rfl
  | j + 1 => by rw [sws, sws_succ b β j, sws]
theorem x_loop {b : List Mk'} (B : BookOk b) (n : Nat) (S : SS) (j : Nat) (hj : j < S.length) : ∀ (k fuel : Nat) (β : Bt), k < fuel → Pre b β → 13 ≤ cnt b β + k → ∃ K, K ≤ k ∧ St b (sws b β K) ∧
    whL (tOf (eVar 2)) (sSeq (sAsg (eC (.bool false)) (gNm 2)) (sFor (iSeq (eVar 0)) (gTp 3 (gsCons (gNm 3) (gsCons (gNm 4) (gsCons (gNm 5) gsNil)))) (ndB (n + 7)) [3, 4, 5, 6, 7])) [3, 4, 5, 6, 7] fuel
      [some (.dat (encB b)), some (.obj j), some (.dat (.bool true)), none, none, none, none, none, none] (bS b S j β) =
      some (.nx [some (.dat (encB b)), some (.obj j), some (.dat (.bool false)), none, none, none, none, none, none], bS b S j (sws b β K)) := by
  have one : ∀ m ∈ b, ∀ m' ∈ b, m.1 = m'.1 → m = m' := fun m hm m' hm' e => B.one hm hm' e
  intro k
  induction k with
  | zero =>
    intro fuel β _ P hc
    have := cnt_bound P (fun m hm => (NS_ok _ (B.names m hm)).1) B.le
    omega
  | succ k ih =>
    intro fuel β hf P hc
    obtain ⟨fuel, rfl⟩ : ∃ g, fuel = g + 1 := ⟨fuel - 1, by omega⟩
    have lp := x_sweep B n (some (.dat (encB b))) S j hj b β false (fun _ h => h)
    have it : ∀ S, itemsR S (.dat (encB b)) = some (b.map fun m => R.dat (encM m), none) := fun S => by simp [encB]
    rw [swF_sw] at lp
    cases hfl : (swF β false b).2 with
    | false =>
      have st := swF_false (b := b) b β hfl
      refine ⟨0, Nat.zero_le _, st, ?_⟩
      rw [hfl, St_sw st] at lp
      obtain ⟨fuel, rfl⟩ : ∃ g, fuel = g + 1 := ⟨fuel - 1, by omega⟩
      rw [whL]
      simp only [ndB] at lp
      simp [it, lp, sws]
      rw [whL]
      simp
    | true =>
      have up := swF_up one b (fun _ h => h) β P hfl
      rw [swF_sw] at up
      obtain ⟨K, k1, k2, k3⟩ := ih fuel (sw b β) (by omega) (sw_le one P).2 (by omega)
      refine ⟨K + 1, by omega, by rw [sws_succ]; exact k2, ?_⟩
      rw [hfl] at lp
      rw [whL, sws_succ]
      simp only [ndB] at lp k3
      simp [it, lp]
      exact k3
def b0 (b : List Mk') : Bt := fun f => match b.find? (fun m => m.1 == f) with
  | some m => m.2.1.map fun _ => false
  | none => []
theorem b0_at {b : List Mk'} (B : BookOk b) {m : Mk'} (hm : m ∈ b) : b0 b m.1 = m.2.1.map fun _ => false := by
  have : b.find? (fun x => x.1 == m.1) = some m := by
    cases e : b.find? (fun x => x.1 == m.1) with
    | none =>
      have := List.find?_eq_none.mp e m hm
      simp at this
    | some y =>
      have h1 := List.mem_of_find?_eq_some e
      have h2 := List.find?_some e
      rw [B.one h1 hm (by simpa using h2)]
  unfold b0
  rw [this]
theorem b0_pre {b : List Mk'} (B : BookOk b) : Pre b (b0 b) := fun m hm => by
  rw [b0_at B hm]
  refine ⟨by simp, fun i h => ?_⟩
  rw [List.getElem?_map] at h
  cases q : m.2.1[i]? with
  | none => rw [q] at h; cases h
  | some x => rw [q] at h; cases h
theorem pairsOf_Bt (β : Bt) : ∀ b : List Mk', pairsOf (b.map fun m => PyData.tuple [.str m.1, encR (β m.1)]) = some (encBt b β)
  | [] => rfl
  | m :: b => by
    rw [List.map_cons, pairsOf, pairsOf_Bt β b]
    rfl
theorem keys_nd {b : List Mk'} (B : BookOk b) (β : Bt) : mergeD [] (encBt b β) = encBt b β := by
  rw [mergeD_nodup _ _ (by
    rw [List.nil_append]
    unfold encBt
    rw [List.map_map]
    refine List.pairwise_map.mpr ?_
    refine List.pairwise_iff_getElem.mpr fun i j hi hj hij e => ?_
    have e' : b[i].1 = b[j].1 := Sum.inr.inj e
    have a1 := B.name i _ (List.getElem?_eq_getElem hi)
    have a2 := B.name j _ (List.getElem?_eq_getElem hj)
    rw [e'] at a1
    obtain ⟨q1, p1⟩ := List.getElem?_eq_some_iff.mp a1
    obtain ⟨q2, p2⟩ := List.getElem?_eq_some_iff.mp a2
    have := (List.getElem_inj MK_nodup).mp (p1.trans p2.symm)
    omega)]
  rfl
theorem fals (k : Nat) (hk : k ≤ 3) : tmulD (.tuple [.bool false]) (.int k) = some (.tuple (List.replicate k (PyData.bool false))) := by
  show (if (0 : Int) ≤ k ∧ (k : Int) ≤ 1000 ∧ [PyData.bool false].length ≤ 1000 then some (PyData.tuple (List.replicate (k : Int).toNat [PyData.bool false]).flatten) else none) = _
  rw [if_pos ⟨by omega, by omega, by simp⟩]
  simp
theorem start_comp {b : List Mk'} (B : BookOk b) (N : Nat) (S : SS) (δ : Dl) (hl : 5 < δ.length) (h0 : δ[0]? = some (some (.dat (encB b)))) :
    eDicS (eComp [3, 4, 5] (iSeq (eVar 0)) (gTp 3 (gsCons (gNm 3) (gsCons (gNm 4) (gsCons (gNm 5) gsNil)))) tTrue (eN tupR (aCons (eVar 3) (aCons (e2 (l2 tmulD) (eN tupR (aCons (eC (.bool false)) aNil)) (e1 lenR (eVar 4))) aNil)))) δ S =
      some (.obj S.length, S ++ [.dic (encBt b (b0 b))]) := by
  have c := eComp_ok (own := [3, 4, 5]) (g := gTp 3 (gsCons (gNm 3) (gsCons (gNm 4) (gsCons (gNm 5) gsNil)))) (c := tTrue) (e := eN tupR (aCons (eVar 3) (aCons (e2 (l2 tmulD) (eN tupR (aCons (eC (.bool false)) aNil)) (e1 lenR (eVar 4))) aNil))) (src := iSeq (eVar 0)) (δ := δ) (S := S) (S1 := S) (rs := b.map fun m => R.dat (encM m)) (by simp [h0, encB])
    (CompOk.map (fun m => R.dat (encM m)) (fun m => PyData.tuple [.str m.1, encR (b0 b m.1)]) b fun m hm => ⟨(((clrS [3, 4, 5] δ).set 3 (some (.dat (.str m.1)))).set 4 (some (.dat (namesD m.2.1)))).set 5 (some (.dat (enc m.2.2))), by simp [encM], fun acc => by
      have e3 : ((((clrS [3, 4, 5] δ).set 3 (some (.dat (.str m.1)))).set 4 (some (.dat (namesD m.2.1)))).set 5 (some (.dat (enc m.2.2))))[3]? = some (some (.dat (.str m.1))) := by
        rw [List.getElem?_set_ne (by decide), List.getElem?_set_ne (by decide), List.getElem?_set_self (by simp; omega)]
      have e4 : ((((clrS [3, 4, 5] δ).set 3 (some (.dat (.str m.1)))).set 4 (some (.dat (namesD m.2.1)))).set 5 (some (.dat (enc m.2.2))))[4]? = some (some (.dat (namesD m.2.1))) := by
        rw [List.getElem?_set_ne (by decide), List.getElem?_set_self (by simp; omega)]
      have ln : ∀ S, lenR S (.dat (namesD m.2.1)) = some (.dat (.int m.2.1.length)) := fun S => by simp [namesD]
      have fl := fals m.2.1.length (NS_ok _ (B.names m hm)).1
      have er : PyData.tuple (List.replicate m.2.1.length (PyData.bool false)) = encR (b0 b m.1) := by
        rw [b0_at B hm]
        unfold encR
        rw [List.map_map]
        congr 1
        induction m.2.1 with
        | nil => rfl
        | cons x l ih => simp [List.replicate_succ]; exact ih
      simp only [eN_eq, aCons_eq, aNil_eq, eVar_eq, e3, e4, Option.bind_some, Option.map_some, e2_eq, e1_eq, eC_eq, ln, tupR_eq, datsOf_cons, datsOf_nil, l2_dat, fl, er]
      simp [fl, er]⟩)
  unfold eDicS
  rw [c]
  have dc : dicR S (.dat (.list (b.map fun m => PyData.tuple [.str m.1, encR (b0 b m.1)]))) = some (.dic (encBt b (b0 b))) := by
    unfold dicR
    simp only [asD_dat, pairsOf_Bt, keys_nd B]
  simp only [dc]
/-- what is needed -/
theorem r_needs_of {b : List Mk'} (B : BookOk b) : ∃ β : Bt, St b β ∧ β = sws b (b0 b) 14 ∧ Pre b β ∧ ∀ (n : Nat) (S : SS), Φ (n + 8) .needs_of [.dat (encB b)] S = some (.dic (encBt b β), S) := by
  have one : ∀ m ∈ b, ∀ m' ∈ b, m.1 = m'.1 → m = m' := fun m hm m' hm' e => B.one hm hm' e
  have key := fun (n : Nat) (S : SS) => x_loop B n (S ++ [.dic (encBt b (b0 b))]) S.length (by simp) 13 100000 (b0 b) (by decide) (b0_pre B) (by omega)
  obtain ⟨K, k1, k2, _⟩ := key 0 []
  refine ⟨sws b (b0 b) 14, ?_, rfl, sws_pre one (b0_pre B) 14, fun n S => ?_⟩
  · rw [show 14 = K + (14 - K) by omega, sws_add, sws_St k2]
    exact k2
  · obtain ⟨K, k1, k2, k3⟩ := key n S
    have e14 : sws b (b0 b) 14 = sws b (b0 b) K := by rw [show 14 = K + (14 - K) by omega, sws_add, sws_St k2]
    rw [e14]
    rw [Φ_succ]; show b_needs_of (Φ (n + 7)) _ S = _; unfold b_needs_of
    have ini : bS b (S ++ [.dic (encBt b (b0 b))]) S.length (b0 b) = S ++ [.dic (encBt b (b0 b))] := by unfold bS; simp
    have fin' : bS b (S ++ [.dic (encBt b (b0 b))]) S.length (sws b (b0 b) K) = S ++ [.dic (encBt b (sws b (b0 b) K))] := by unfold bS; simp
    rw [ini, fin'] at k3
    have sc := start_comp B 9 S [some (.dat (encB b)), none, none, none, none, none, none, none, none] (by simp) (by simp)
    refine (if_pos rfl).trans ?_
    simp only [startD, sSeq_eq, sAsg_eq, List.map_cons, List.map_nil, List.length_cons, List.length_nil]
    generalize 100000 = fuel at k3 ⊢
    simp only [ndB] at k3
    simp [sc, sWhile, k3, fin, closeR]
end Cy
end
section
set_option Elab.async false
set_option maxRecDepth 100000
namespace Cy
open PySem L2
structure Sn (kvs : List (Key × D)) (l : List Str) : Prop where
  has : ∀ x : Str, (getK kvs (Sum.inr x)).isSome = decide (x ∈ l)
  len : kvs.length ≤ l.length
theorem getK_any (kvs : List (Key × D)) (k : Key) : (getK kvs k).isSome = kvs.any fun p => decide (p.1 = k) := by
  unfold getK
  induction kvs with
  | nil => rfl
  | cons p kvs ih =>
    rw [List.find?_cons, List.any_cons]
    by_cases h : p.1 = k
    · simp [h]
    · simp only [h, decide_false, Bool.false_or]
      exact ih
theorem putD_any (kvs : List (Key × D)) (k : Key) (d : D) (x : Key) : (putD kvs k d).any (fun p => decide (p.1 = x)) = (decide (k = x) || kvs.any fun p => decide (p.1 = x)) ∧ (putD kvs k d).length ≤ kvs.length + 1 := by
  unfold putD
  split
  · rename_i h
    obtain ⟨p, hp, e⟩ := List.any_eq_true.mp h
    refine ⟨?_, by simp⟩
    rw [List.any_map]
    have : (kvs.any ((fun p : Key × D => decide (p.1 = x)) ∘ fun kv => if kv.1 = k then (kv.1, d) else kv)) = kvs.any fun p => decide (p.1 = x) := by
      congr 1
      funext q
      simp only [Function.comp]
      split <;> rfl
    rw [this]
    by_cases hk : k = x
    · subst hk
      rw [h]
      simp
    · simp [hk]
  · refine ⟨?_, by simp⟩
    rw [List.any_append]
    simp [Bool.or_comm]
theorem mergeD_any : ∀ (more kvs : List (Key × D)) (x : Key), (mergeD kvs more).any (fun p => decide (p.1 = x)) = (kvs.any (fun p => decide (p.1 = x)) || more.any fun p => decide (p.1 = x)) ∧ (mergeD kvs more).length ≤ kvs.length + more.length
  | [], kvs, x => by simp [mergeD]
  | p :: more, kvs, x => by
    have e : mergeD kvs (p :: more) = mergeD (putD kvs p.1 p.2) more := rfl
    obtain ⟨h1, h2⟩ := mergeD_any more (putD kvs p.1 p.2) x
    obtain ⟨h3, h4⟩ := putD_any kvs p.1 p.2 x
    rw [e, h1, h3]
    refine ⟨?_, by simp; omega⟩
    rw [List.any_cons]
    cases decide (p.1 = x) <;> cases kvs.any (fun p => decide (p.1 = x)) <;> simp
theorem Sn.merge {k1 k2 : List (Key × D)} {l1 l2 : List Str} (h : Sn k1 l1) (k : Sn k2 l2) : Sn (mergeD k1 k2) (l1 ++ l2) := ⟨fun x => by
  have h1 := h.has x
  have h2 := k.has x
  rw [getK_any] at h1 h2 ⊢
  rw [(mergeD_any k2 k1 (Sum.inr x)).1, h1, h2]
  simp, by
  have := (mergeD_any k2 k1 (Sum.inr ("" : Str))).2
  have := h.len
  have := k.len
  rw [List.length_append]; omega⟩
theorem Sn.nil : Sn [] [] := ⟨fun x => by simp [getK], Nat.le_refl _⟩
theorem run_dic {N np : Nat} {b : Sm} {rs : List R} {S : SS} {kvs : List (Key × D)} (h : rs.length = np) (e : b (startD N rs) S = some (.rt (.obj S.length), S ++ [.dic kvs])) : runFn N np b rs S = some (.dic kvs, S) := by
  unfold runFn
  rw [if_pos h, e]
  simp [fin, closeR]
theorem r_law_seen {names : List Str} {heads : List (Str × Nat)} (h3 : ∀ p ∈ heads, p.2 ≤ 3) {X : R} {β : Bt} : ∀ (d : Nat) (t : T), SumOk names heads d t → d ≤ 4 → ∃ kvs, Sn kvs (nmI β t) ∧ ∀ (n : Nat) (S : SS), Rb X β heads S →
    Φ (n + d + 1) .law_seen [.dat (enc t), X] S = some (.dic kvs, S) := by
  have p4 : 3 ^ 4 = 81 := rfl
  have vcase : ∀ (x : Str), ∃ kvs, Sn kvs (nmI β (.v x)) ∧ ∀ (n : Nat) (S : SS), Φ (n + 1) .law_seen [.dat (enc (.v x)), X] S = some (.dic kvs, S) := fun x => by
    refine ⟨[(Sum.inr x, .bool true)], ⟨fun y => ?_, by simp [nmI]⟩, fun n S => ?_⟩
    · rw [getK_any]
      by_cases h : x = y
      · subst h; simp [nmI]
      · have h2 : ¬ y = x := fun e => h e.symm
        have h1 : ¬ ((Sum.inr x : Key) = Sum.inr y) := fun z => h (Sum.inr.inj z)
        simp [nmI, h1, h2]
    · rw [Φ_succ]; show b_law_seen (Φ n) _ S = _; unfold b_law_seen; refine run_dic rfl ?_
      have lk : ∀ kv, lookK (S ++ [Ob.dic kv]) S.length = some kv := fun kv => by unfold lookK; simp
      have mg : mergeD [] [((Sum.inr x : Key), PyData.bool true)] = [(Sum.inr x, .bool true)] := by simp [mergeD, putD]
      simp [startD, enc, eDispO, pEval, keyOf, lk, mg]
  intro d
  induction d with
  | zero =>
    intro t ok _
    cases ok with
    | w h =>
      refine ⟨[], Sn.nil, fun n S _ => ?_⟩
      rw [Φ_succ]; show b_law_seen (Φ (n + 0)) _ S = _; unfold b_law_seen; refine run_dic rfl ?_
      simp [startD, enc]
    | v h =>
      obtain ⟨kvs, s1, s2⟩ := vcase _
      exact ⟨kvs, s1, fun n S _ => s2 n S⟩
  | succ d ih =>
    intro t ok hd
    have hl := nmI_len h3 (β := β) (d + 1) t ok
    have hp : 3 ^ (d + 1) ≤ 81 := by rw [← p4]; exact Nat.pow_le_pow_right (by decide) hd
    by_cases hv : ∃ x, t = .v x
    · obtain ⟨x, rfl⟩ := hv
      obtain ⟨kvs, s1, s2⟩ := vcase x
      exact ⟨kvs, s1, fun n S _ => by rw [show n + (d + 1) + 1 = (n + (d + 1)) + 1 from rfl]; exact s2 _ S⟩
    · have hv' : ∀ x, t ≠ .v x := fun x e => hv ⟨x, e⟩
      rw [nmI_kept β t hv'] at hl ⊢
      have hF : ∀ s ∈ kept β t, ∃ kvs, Sn kvs (nmI β s) ∧ ∀ (n : Nat) (S : SS), Rb X β heads S → Φ (n + d + 1) .law_seen [.dat (enc s), X] S = some (.dic kvs, S) := fun s hs => ih s (kept_ok ok s hs) (by omega)
      -- one dict for all levels
      have key : ∀ (n n' : Nat) (S S' : SS) (hX : Rb X β heads S) (hX' : Rb X β heads S'), True := fun _ _ _ _ _ _ => trivial
      have fold : ∃ kv, Sn kv ((kept β t).flatMap (nmI β)) ∧ ∀ (n : Nat) (S : SS) (a0 a3 a5 : Option R), Rb X β heads S → forL (gNm 4) (sExpr (eUpdate (eVar 2) (eCall (Φ (n + d + 1) .law_seen) (aCons (eVar 4) (aCons (eVar 1) aNil))))) [4] none ((encs (kept β t)).map .dat) [a0, some X, some (.obj S.length), a3, none, a5] (S ++ [.dic []]) =
          some (.nx [a0, some X, some (.obj S.length), a3, none, a5], S ++ [.dic kv]) := by
        have gen : ∀ (ts : List T) (kv : List (Key × D)) (l : List Str), (∀ s ∈ ts, ∃ kvs, Sn kvs (nmI β s) ∧ ∀ (n : Nat) (S : SS), Rb X β heads S → Φ (n + d + 1) .law_seen [.dat (enc s), X] S = some (.dic kvs, S)) → Sn kv l → l.length + (ts.flatMap (nmI β)).length ≤ 900 →
            ∃ kv', Sn kv' (l ++ ts.flatMap (nmI β)) ∧ ∀ (n : Nat) (S : SS) (a0 a3 a5 : Option R), Rb X β heads S → forL (gNm 4) (sExpr (eUpdate (eVar 2) (eCall (Φ (n + d + 1) .law_seen) (aCons (eVar 4) (aCons (eVar 1) aNil))))) [4] none ((encs ts).map .dat) [a0, some X, some (.obj S.length), a3, none, a5] (S ++ [.dic kv]) =
              some (.nx [a0, some X, some (.obj S.length), a3, none, a5], S ++ [.dic kv']) := by
          intro ts
          induction ts with
          | nil => intro kv l _ h _; exact ⟨kv, by simpa using h, fun n S a0 a3 a5 _ => by simp [encs]⟩
          | cons t ts iht =>
            intro kv l hF h hl
            obtain ⟨kvs, s1, s2⟩ := hF t List.mem_cons_self
            rw [List.flatMap_cons, List.length_append] at hl
            obtain ⟨kv', q1, q2⟩ := iht (mergeD kv kvs) (l ++ nmI β t) (fun s hs => hF s (List.mem_cons_of_mem _ hs)) (h.merge s1) (by rw [List.length_append]; omega)
            refine ⟨kv', by rw [List.flatMap_cons, ← List.append_assoc]; exact q1, fun n S a0 a3 a5 hX => ?_⟩
            have f := s2 n (S ++ [.dic kv]) (hX.app _)
            have lk : ∀ kv, lookK (S ++ [Ob.dic kv]) S.length = some kv := fun kv => by unfold lookK; simp
            have sz : kv.length + kvs.length ≤ sizeLine := small_line (by have := h.len; have := s1.len; omega)
            have ap : apart S.length (.dic kvs) = true := rfl
            have ak : asKv (S ++ [Ob.dic kv]) (.dic kvs) = some kvs := rfl
            have q2 := q2 n S a0 a3 a5 hX
            simp [encs, eUpdate, lk, f, sz, ap, ak, q2]
        obtain ⟨kv', q1, q2⟩ := gen (kept β t) [] [] hF Sn.nil (by simp only [List.length_nil, Nat.zero_add]; omega)
        exact ⟨kv', by simpa using q1, q2⟩
      obtain ⟨kv, q1, q2⟩ := fold
      refine ⟨kv, q1, fun n S hX => ?_⟩
      rw [show n + (d + 1) + 1 = (n + d + 1) + 1 by omega, Φ_succ]; show b_law_seen (Φ (n + d + 1)) _ S = _; unfold b_law_seen; refine run_dic rfl ?_
      cases ok with
      | w h =>
        have q := q2 n S (some (.dat (.int 0))) none none hX
        simp only [kept, subs, encs, List.map_nil, forL_nil] at q
        have e : kv = [] := by simpa using q
        subst e
        simp [startD, enc]
      | v h => exact absurd rfl (hv' _)
      | @op _ o a c oa oc =>
        have q := q2 n S (some (.dat (enc (.op o a c)))) (some (.dat (.list [enc a, enc c]))) none hX
        simp [kept, subs, encs, enc] at q
        simp [startD, enc, q]
      | @ite _ x a c ox oa oc =>
        have q := q2 n S (some (.dat (enc (.ite x a c)))) (some (.dat (.list [enc x, enc a, enc c]))) none hX
        simp [kept, subs, encs, enc] at q
        simp [startD, enc, q]
      | @call _ f as hf has =>
        have q := q2 n S (some (.dat (enc (.call f as)))) (some (.dat (.list ((keep as (β f)).map enc)))) none hX
        have rd := (hX.app [.dic []]).at0 hf
        have c := keep_comp (δ := [some (.dat (enc (.call f as))), some X, some (.obj S.length), some (.dat (.list [.str f, .tuple (encs as)])), none, none]) (S := S ++ [.dic []]) 4 5 [4, 5] (iZip2 (e2 ixR (eVar 0) (eC (.int 2))) (e2 ixR (eVar 1) (e2 ixR (eVar 0) (eC (.int 1))))) (eVar 4) enc as (β f) (by simp) (by simp) (by decide)
          (by simp [enc, rd, encR]) (by simp) (fun a ha acc δ1 h1 h2 => by simp [h1])
        simp only [kept, enc, encs_map (keep as (β f))] at q
        simp only [enc] at c
        simp at q
        simp [startD, enc, c, q]
end Cy
end
section
set_option Elab.async false
set_option maxRecDepth 100000
namespace Cy
open PySem L2
theorem in_dic {kvs : List (Key × D)} {l : List Str} (h : Sn kvs l) (x : Str) (S : SS) : inR S (.dat (.str x)) (.dic kvs) = some (.dat (.bool (decide (x ∈ l)))) := by
  unfold inR
  simp only [asKv, keyOf, h.has x]
theorem row_compL {m : Mk'} {β : Bt} {kvs : List (Key × D)} (h : Sn kvs (nmI β m.2.2)) (i : Nat) (src : Im) (s : Nat) (δ : Dl) (S : SS) (hi : i < δ.length) (his : s ≠ i)
    (hs : src δ S = some ((m.2.1.map fun x => R.dat (.str x)), none, S)) (h6 : δ[s]? = some (some (.dic kvs))) :
    eComp [i] src (gNm i) tTrue (e2 inR (eVar i) (eVar s)) δ S = some (.dat (.list ((rowOf β m).map .bool)), S) := by
  have em : (rowOf β m).map PyData.bool = m.2.1.map fun x => PyData.bool (decide (x ∈ nmI β m.2.2)) := by unfold rowOf; rw [List.map_map]; exact List.map_congr_left fun x _ => by simp
  rw [em]
  refine eComp_ok hs (CompOk.map (fun x => R.dat (.str x)) (fun x => PyData.bool (decide (x ∈ nmI β m.2.2))) m.2.1 fun x hx => ⟨(clrS [i] δ).set i (some (.dat (.str x))), by simp, fun acc => ?_⟩)
  have ei : ((clrS [i] δ).set i (some (.dat (.str x))))[i]? = some (some (.dat (.str x))) := List.getElem?_set_self (by simpa using hi)
  have es : ((clrS [i] δ).set i (some (.dat (.str x))))[s]? = some (some (.dic kvs)) := by
    rw [List.getElem?_set_ne (Ne.symm his)]
    simp [List.getElem?_set_ne (Ne.symm his), h6]
  have ii := in_dic h x (S ++ [.lst acc])
  simp only [e2_eq, eVar_eq, ei, es, Option.bind_some, Option.map_some, ii]
noncomputable abbrev lnB (n : Nat) : Sm := (sSeq (sAsg (eCall (Φ n .law_seen) (aCons (eVar 5) (aCons (eVar 1) aNil))) (gNm 6))
  (sDput (eVar 1) (eVar 3) (e1 (l1 tupD) (eComp [7] (iSeq (eVar 4)) (gNm 7) tTrue (e2 inR (eVar 7) (eVar 6))))))
theorem x_lsweep {b : List Mk'} (B : BookOk b) (n : Nat) (a0 a2 : Option R) (S : SS) (j : Nat) (hj : j < S.length) : ∀ (l : List Mk') (β : Bt), (∀ m ∈ l, m ∈ b) →
    forL (gTp 3 (gsCons (gNm 3) (gsCons (gNm 4) (gsCons (gNm 5) gsNil)))) (lnB (n + 5)) [3, 4, 5, 6] none (l.map fun m => R.dat (encM m)) [a0, some (.obj j), a2, none, none, none, none, none] (bS b S j β) =
      some (.nx [a0, some (.obj j), a2, none, none, none, none, none], bS b S j (l.foldl (fun β m => upB β m.1 (rowOf β m)) β))
  | [], β, _ => by simp
  | m :: l, β, hl => by
    have hm := hl m List.mem_cons_self
    have hl' := fun x hx => hl x (List.mem_cons_of_mem m hx)
    obtain ⟨kvs, s1, s2⟩ := r_law_seen (X := .obj j) (β := β) (fun p hp => (B.headNames p hp).1) 4 _ (B.sum4 m hm) (by decide)
    have f := s2 n (bS b S j β) (bS_Rb (b := b) (β := β) hj)
    have rc := row_compL s1 7 (iSeq (eVar 4)) 6 [a0, some (.obj j), a2, some (.dat (.str m.1)), some (.dat (namesD m.2.1)), some (.dat (enc m.2.2)), some (.dic kvs), none] (bS b S j β) (by simp) (by decide) (by simp [namesD]) (by simp)
    have er : PyData.tuple ((rowOf β m).map PyData.bool) = encR (rowOf β m) := rfl
    have lk := bS_look (b := b) (β := β) hj
    have pt := putD_Bt (β := β) (f := m.1) ⟨m, hm, rfl⟩ (rowOf β m)
    have st := bS_set (b := b) (β := β) (γ := upB β m.1 (rowOf β m)) hj
    have sz : (encBt b β).length < sizeLine := by rw [encBt_len]; have := B.le; rw [sizeLine_eq]; omega
    have ih := x_lsweep B n a0 a2 S j hj l (upB β m.1 (rowOf β m)) hl'
    have em : encM m = .tuple [.str m.1, namesD m.2.1, enc m.2.2] := rfl
    rw [List.map_cons, List.foldl_cons, em]
    simp [f, rc, er, sDput, keyOf, lk, sz, pt, st, ih]
theorem x_lturns {b : List Mk'} (B : BookOk b) (n : Nat) (S : SS) (j : Nat) (hj : j < S.length) : ∀ (l : List Nat) (β : Bt),
    forL (gNm 2) (sFor (iSeq (eVar 0)) (gTp 3 (gsCons (gNm 3) (gsCons (gNm 4) (gsCons (gNm 5) gsNil)))) (lnB (n + 5)) [3, 4, 5, 6]) [2, 3, 4, 5, 6] none (l.map fun i : Nat => R.dat (.int ((0 : Int) + (i : Int)))) [some (.dat (encB b)), some (.obj j), none, none, none, none, none, none] (bS b S j β) =
      some (.nx [some (.dat (encB b)), some (.obj j), none, none, none, none, none, none], bS b S j (sws b β l.length))
  | [], β => by simp [sws]
  | i :: l, β => by
    have lp := x_lsweep B n (some (.dat (encB b))) (some (.dat (.int (i : Nat)))) S j hj b β (fun _ h => h)
    have ih := x_lturns B n S j hj l (sw b β)
    have it : ∀ S, itemsR S (.dat (encB b)) = some (b.map fun m => R.dat (encM m), none) := fun S => by simp [encB]
    rw [List.map_cons, List.length_cons, sws_succ]
    simp only [lnB] at lp ih
    simp at ih
    simp [it, lp]
    exact ih
theorem r_law_needed {b : List Mk'} (B : BookOk b) (n : Nat) (S : SS) : Φ (n + 6) .law_needed [.dat (encB b)] S = some (.dic (encBt b (sws b (b0 b) 14)), S) := by
  have lp := x_lturns B n (S ++ [.dic (encBt b (b0 b))]) S.length (by simp) (List.range 14) (b0 b)
  rw [List.length_range] at lp
  have ini : bS b (S ++ [.dic (encBt b (b0 b))]) S.length (b0 b) = S ++ [.dic (encBt b (b0 b))] := by unfold bS; simp
  have fin' : bS b (S ++ [.dic (encBt b (b0 b))]) S.length (sws b (b0 b) 14) = S ++ [.dic (encBt b (sws b (b0 b) 14))] := by unfold bS; simp
  rw [ini, fin'] at lp
  have sc := start_comp B 8 S [some (.dat (encB b)), none, none, none, none, none, none, none] (by simp) (by simp)
  rw [Φ_succ]; show b_law_needed (Φ (n + 5)) _ S = _; unfold b_law_needed
  refine (if_pos rfl).trans ?_
  simp only [startD, sSeq_eq, sAsg_eq, List.map_cons, List.map_nil, List.length_cons, List.length_nil]
  simp only [lnB] at lp
  have rr : rangeR 0 14 = (List.range 14).map fun i : Nat => R.dat (.int ((0 : Int) + (i : Int))) := rfl
  simp [sc]
  rw [rr, lp]
  simp [fin, closeR]
/-! ### slim -/
mutual
def slT (β : Bt) : T → T
  | .w n => .w n
  | .v x => .v x
  | .op o a b => .op o (slT β a) (slT β b)
  | .ite c a b => .ite (slT β c) (slT β a) (slT β b)
  | .call f as => .call f (slK β as (β f))
def slK (β : Bt) : List T → List Bool → List T
  | a :: as, t :: ts => if t = true then slT β a :: slK β as ts else slK β as ts
  | _, _ => []
end
theorem slK_keep (β : Bt) : ∀ (as : List T) (row : List Bool), slK β as row = (keep as row).map (slT β)
  | [], row => by cases row <;> simp [slK, keep]
  | a :: as, [] => by simp [slK, keep]
  | a :: as, t :: row => by
    have ih := slK_keep β as row
    rw [slK, ih]
    cases t <;> simp [keep]
theorem r_slim_sum {names : List Str} {heads : List (Str × Nat)} {X : R} {β : Bt} {d : Nat} {t : T} (ok : SumOk names heads d t) : ∀ (n : Nat) (S : SS), Rb X β heads S → Φ (n + d + 3) .slim_sum [.dat (enc t), X] S = some (.dat (enc (slT β t)), S) := by
  have cm : ∀ (F : Fn) (ts : List T) (D0 : D) (src : Im) (a0 : Option R) (S : SS), src [a0, some X, none] S = some ((encs ts).map .dat, none, S) → Rb X β heads S → (∀ t ∈ ts, ∀ S, Rb X β heads S → F [.dat (enc t), X] S = some (.dat (enc (slT β t)), S)) →
      eComp [2] src (gNm 2) tTrue (eCall F (aCons (eVar 2) (aCons (eVar 1) aNil))) [a0, some X, none] S = some (.dat (.list (encs (ts.map (slT β)))), S) := fun F ts D0 src a0 S hs hX hF => by
    have e : (encs ts).map R.dat = ts.map fun t => R.dat (enc t) := by rw [encs_map, List.map_map]; rfl
    rw [e] at hs
    have := eComp_ok (own := [2]) (g := gNm 2) (c := tTrue) (e := eCall F (aCons (eVar 2) (aCons (eVar 1) aNil))) hs (CompOk.map (fun t => R.dat (enc t)) (fun t => enc (slT β t)) ts fun t ht => ⟨[a0, some X, some (.dat (enc t))], by simp, fun acc => by simp [hF t ht _ (hX.app _)]⟩)
    rw [this, encs_map, List.map_map]
    rfl
  induction ok with
  | @w d k hk => intro n S hX; rw [Φ_succ]; show b_slim_sum (Φ (n + d + 2)) _ S = _; unfold b_slim_sum; refine run_rt0 rfl ?_; simp [startD, enc, slT]
  | @v d x hx => intro n S hX; rw [Φ_succ]; show b_slim_sum (Φ (n + d + 2)) _ S = _; unfold b_slim_sum; refine run_rt0 rfl ?_; simp [startD, enc, slT]
  | @op d o a c ha hc ia ic =>
    intro n S hX; rw [Φ_succ]; show b_slim_sum (Φ (n + (d + 1) + 2)) _ S = _; unfold b_slim_sum; refine run_rt0 rfl ?_
    obtain ⟨D0, k1, k2⟩ := r_kept_parts (.op (o := o) ha hc) hX (n + (d + 1))
    have cc := cm (Φ (n + (d + 1) + 2) .slim_sum) [a, c] D0 (iSeq (eCall (Φ (n + (d + 1) + 2) .kept_parts) (aCons (eVar 0) (aCons (eVar 1) aNil)))) (some (.dat (enc (.op o a c)))) S (by simp [k1, k2, kept, subs]) hX (by
      intro t ht S hX
      simp at ht
      rcases ht with rfl | rfl
      · exact ia n S hX
      · exact ic n S hX)
    have wo := r_with_op o a c [enc (slT β a), enc (slT β c)] (by simp) (n + (d + 1) + 1)
    simp [encs, enc] at cc wo
    simp [startD, enc, slT, cc, wo]
  | @ite d x a c hx ha hc ix ia ic =>
    intro n S hX; rw [Φ_succ]; show b_slim_sum (Φ (n + (d + 1) + 2)) _ S = _; unfold b_slim_sum; refine run_rt0 rfl ?_
    obtain ⟨D0, k1, k2⟩ := r_kept_parts (.ite hx ha hc) hX (n + (d + 1))
    have cc := cm (Φ (n + (d + 1) + 2) .slim_sum) [x, a, c] D0 (iSeq (eCall (Φ (n + (d + 1) + 2) .kept_parts) (aCons (eVar 0) (aCons (eVar 1) aNil)))) (some (.dat (enc (.ite x a c)))) S (by simp [k1, k2, kept, subs]) hX (by
      intro t ht S hX
      simp at ht
      rcases ht with rfl | rfl | rfl
      · exact ix n S hX
      · exact ia n S hX
      · exact ic n S hX)
    have wo := r_with_ite x a c [enc (slT β x), enc (slT β a), enc (slT β c)] (by simp) (n + (d + 1) + 1)
    simp [encs, enc] at cc wo
    simp [startD, enc, slT, cc, wo]
  | @call d f as hf has ih =>
    intro n S hX; rw [Φ_succ]; show b_slim_sum (Φ (n + (d + 1) + 2)) _ S = _; unfold b_slim_sum; refine run_rt0 rfl ?_
    obtain ⟨D0, k1, k2⟩ := r_kept_parts (.call hf has) hX (n + (d + 1))
    have cc := cm (Φ (n + (d + 1) + 2) .slim_sum) (keep as (β f)) D0 (iSeq (eCall (Φ (n + (d + 1) + 2) .kept_parts) (aCons (eVar 0) (aCons (eVar 1) aNil)))) (some (.dat (enc (.call f as)))) S (by simp [k1, k2, kept]) hX (fun t ht S hX => ih t (keep_mem ht) n S hX)
    rw [← slK_keep] at cc
    have wo := r_with_call f as (encs (slK β as (β f))) (n + (d + 1) + 1)
    simp [enc] at cc wo
    simp [startD, enc, slT, cc, wo]
theorem r_law_slim {names : List Str} {heads : List (Str × Nat)} {X : R} {β : Bt} {d : Nat} {t : T} (ok : SumOk names heads d t) : ∀ (n : Nat) (S : SS), Rb X β heads S → Φ (n + d + 1) .law_slim [.dat (enc t), X] S = some (.dat (enc (slT β t)), S) := by
  have cm : ∀ (F : Fn) (ts : List T) (src : Im) (a0 : Option R) (S : SS), src [a0, some X, none, none, none] S = some ((encs ts).map .dat, none, S) → Rb X β heads S → (∀ t ∈ ts, ∀ S, Rb X β heads S → F [.dat (enc t), X] S = some (.dat (enc (slT β t)), S)) →
      eComp [3] src (gNm 3) tTrue (eCall F (aCons (eVar 3) (aCons (eVar 1) aNil))) [a0, some X, none, none, none] S = some (.dat (.list (encs (ts.map (slT β)))), S) := fun F ts src a0 S hs hX hF => by
    have e : (encs ts).map R.dat = ts.map fun t => R.dat (enc t) := by rw [encs_map, List.map_map]; rfl
    rw [e] at hs
    have := eComp_ok (own := [3]) (g := gNm 3) (c := tTrue) (e := eCall F (aCons (eVar 3) (aCons (eVar 1) aNil))) hs (CompOk.map (fun t => R.dat (enc t)) (fun t => enc (slT β t)) ts fun t ht => ⟨[a0, some X, none, some (.dat (enc t)), none], by simp, fun acc => by simp [hF t ht _ (hX.app _)]⟩)
    rw [this, encs_map, List.map_map]
    rfl
  have sz : ∀ l : List T, l.length ≤ 3 → 1 + l.length ≤ sizeLine := fun l hl => small_line (by omega)
  induction ok with
  | @w d k hk => intro n S hX; rw [Φ_succ]; show b_law_slim (Φ (n + d)) _ S = _; unfold b_law_slim; refine run_rt0 rfl ?_; simp [startD, enc, slT]
  | @v d x hx => intro n S hX; rw [Φ_succ]; show b_law_slim (Φ (n + d)) _ S = _; unfold b_law_slim; refine run_rt0 rfl ?_; simp [startD, enc, slT]
  | @op d o a c ha hc ia ic =>
    intro n S hX; rw [Φ_succ]; show b_law_slim (Φ (n + (d + 1))) _ S = _; unfold b_law_slim; refine run_rt0 rfl ?_
    have cc := cm (Φ (n + (d + 1)) .law_slim) [a, c] (iSeq (eSl (eVar 0) (oSome (eC (.int 1))) oNone)) (some (.dat (enc (.op o a c)))) S (by simp [enc, encs]) hX (by
      intro t ht S hX
      simp at ht
      rcases ht with rfl | rfl
      · exact ia n S hX
      · exact ic n S hX)
    have s := sz [a, c] (by simp)
    simp [encs, enc] at cc s
    simp [startD, enc, slT, cc, s]
  | @ite d x a c hx ha hc ix ia ic =>
    intro n S hX; rw [Φ_succ]; show b_law_slim (Φ (n + (d + 1))) _ S = _; unfold b_law_slim; refine run_rt0 rfl ?_
    have cc := cm (Φ (n + (d + 1)) .law_slim) [x, a, c] (iSeq (eSl (eVar 0) (oSome (eC (.int 1))) oNone)) (some (.dat (enc (.ite x a c)))) S (by simp [enc, encs]) hX (by
      intro t ht S hX
      simp at ht
      rcases ht with rfl | rfl | rfl
      · exact ix n S hX
      · exact ia n S hX
      · exact ic n S hX)
    have s := sz [x, a, c] (by simp)
    simp [encs, enc] at cc s
    simp [startD, enc, slT, cc, s]
  | @call d f as hf has ih =>
    intro n S hX; rw [Φ_succ]; show b_law_slim (Φ (n + (d + 1))) _ S = _; unfold b_law_slim; refine run_rt0 rfl ?_
    have rd := hX.at0 hf
    have c := keep_comp (δ := [some (.dat (enc (.call f as))), some X, none, none, none]) (S := S) 3 4 [3, 4] (iZip2 (e2 ixR (eVar 0) (eC (.int 2))) (e2 ixR (eVar 1) (e2 ixR (eVar 0) (eC (.int 1))))) (eCall (Φ (n + (d + 1)) .law_slim) (aCons (eVar 3) (aCons (eVar 1) aNil))) (fun a => enc (slT β a)) as (β f) (by simp) (by simp) (by decide)
      (by simp [enc, rd, encR]) (by simp) (fun a ha acc δ1 h1 h2 => by
        have e1 : δ1[1]? = some (some X) := by rw [h2 1 (by decide) (by decide)]; simp
        have := ih a (keep_mem ha) n (S ++ [.lst acc]) (hX.app _)
        rw [show n + d + 1 = n + (d + 1) by omega] at this
        simp [h1, e1, this])
    have ee : (keep as (β f)).map (fun a => enc (slT β a)) = encs (slK β as (β f)) := by rw [slK_keep, encs_map, List.map_map]; rfl
    rw [ee] at c
    simp only [enc] at c
    simp [startD, enc, slT, c]
end Cy
end
section
set_option Elab.async false
set_option maxRecDepth 100000
namespace Cy
open PySem L2
theorem names_lay (ns : List Str) (h : ∀ x ∈ ns, PyData.strOk x = true) : (namesD ns).canLay0 = true ∧ (namesD ns).depth = 1 := by
  unfold namesD
  rw [PyData.canLay0, canLay_strs ns h, PyData.depth, depth_strs]
  exact ⟨rfl, rfl⟩
theorem encM_lay {m : Mk'} {k : Nat} (h1 : PyData.strOk m.1 = true) (h2 : ∀ x ∈ m.2.1, PyData.strOk x = true) (h3 : (enc m.2.2).canLay0 = true ∧ (enc m.2.2).depth ≤ k) : (encM m).canLay0 = true ∧ (encM m).depth ≤ k + 2 := by
  obtain ⟨n1, n2⟩ := names_lay m.2.1 h2
  simp [encM, PyData.canLay0, PyData.canLayAll0, PyData.depth, PyData.depthAll, h1, n1, h3.1, n2]
  omega
theorem encB_shaped {b : List Mk'} {k : Nat} (hk : k ≤ 60) (h : ∀ m ∈ b, (encM m).canLay0 = true ∧ (encM m).depth ≤ k) : SeqAt.shaped (encB b) = true ∧ (encB b).canLay0 = true := by
  have key : PyData.canLayAll0 (b.map encM) = true ∧ PyData.depthAll (b.map encM) ≤ k := by
    induction b with
    | nil => simp [PyData.canLayAll0, PyData.depthAll]
    | cons m b ih =>
      obtain ⟨a1, a2⟩ := h m List.mem_cons_self
      obtain ⟨b1, b2⟩ := ih fun x hx => h x (List.mem_cons_of_mem _ hx)
      simp only [List.map_cons, PyData.canLayAll0, PyData.depthAll, a1, b1]
      exact ⟨rfl, by omega⟩
  unfold SeqAt.shaped encB
  rw [PyData.canLay0, PyData.depth, key.1]
  refine ⟨?_, rfl⟩
  simp
  omega
end Cy
end
section
set_option Elab.async false
set_option maxRecDepth 100000
namespace Cy
open PySem L2
theorem keep_strs {δ : Dl} {S : SS} (i j : Nat) (own : List Nat) (src : Im) (as : List Str) (row : List Bool) (hi : i < δ.length) (hj : j < δ.length) (hij : i ≠ j)
    (hs : src δ S = some (zipR (as.map .str) (row.map .bool), none, S)) (hl : (clrS own δ).length = δ.length) :
    eComp own src (gTp 2 (gsCons (gNm i) (gsCons (gNm j) gsNil))) (tOf (eVar j)) (eVar i) δ S = some (.dat (.list ((keep as row).map .str)), S) := by
  have ez : zipR (as.map .str) (row.map .bool) = (as.zip row).map fun p => R.itm [.str p.1, .bool p.2] := by
    unfold zipR
    rw [List.zip_map, List.map_map]
    rfl
  rw [ez] at hs
  have em : (keep as row).map PyData.str = ((as.zip row).filter fun p => p.2).map fun p => PyData.str p.1 := by unfold keep; rw [List.map_map]; rfl
  rw [em]
  refine eComp_ok hs (CompOk.filter _ _ _ _ fun p hp => ?_)
  obtain ⟨a, t⟩ := p
  have ei : (((clrS own δ).set i (some (.dat (.str a)))).set j (some (.dat (.bool t))))[i]? = some (some (.dat (.str a))) := by
    rw [List.getElem?_set_ne (Ne.symm hij), List.getElem?_set_self (by omega)]
  have ej : (((clrS own δ).set i (some (.dat (.str a)))).set j (some (.dat (.bool t))))[j]? = some (some (.dat (.bool t))) := List.getElem?_set_self (by rw [List.length_set]; omega)
  exact ⟨((clrS own δ).set i (some (.dat (.str a)))).set j (some (.dat (.bool t))), by simp, fun acc => by simp [ej], fun ht acc => by simp [ei]⟩
theorem slT_lay {β : Bt} {names : List Str} {heads : List (Str × Nat)} (hn : ∀ x ∈ names, PyData.strOk x = true) (hd : ∀ p ∈ heads, PyData.strOk p.1 = true) {d : Nat} {t : T} (ok : SumOk names heads d t) :
    (enc (slT β t)).canLay0 = true ∧ (enc (slT β t)).depth ≤ 2 * d := by
  induction ok with
  | w h => simp [slT, enc, PyData.canLay0, PyData.depth]
  | v hx => simp [slT, enc, PyData.canLay0, PyData.depth, hn _ hx]
  | op _ _ ia ib =>
    obtain ⟨a1, a2⟩ := ia; obtain ⟨b1, b2⟩ := ib
    simp [slT, enc, PyData.canLay0, PyData.canLayAll0, PyData.depth, PyData.depthAll, a1, b1]
    omega
  | ite _ _ _ ia ib ic =>
    obtain ⟨a1, a2⟩ := ia; obtain ⟨b1, b2⟩ := ib; obtain ⟨c1, c2⟩ := ic
    have := ok_if
    simp [slT, enc, PyData.canLay0, PyData.canLayAll0, PyData.depth, PyData.depthAll, a1, b1, c1, this]
    omega
  | @call d f as hf hs ih =>
    have key : ∀ l : List T, (∀ a ∈ l, a ∈ as) → PyData.canLayAll0 (encs (l.map (slT β))) = true ∧ PyData.depthAll (encs (l.map (slT β))) ≤ 2 * d := fun l hl => by
      induction l with
      | nil => simp [encs, PyData.canLayAll0, PyData.depthAll]
      | cons a l iha =>
        obtain ⟨a1, a2⟩ := ih a (hl a List.mem_cons_self)
        obtain ⟨b1, b2⟩ := iha fun c hc => hl c (List.mem_cons_of_mem _ hc)
        simp [encs, PyData.canLayAll0, PyData.depthAll, a1, b1]
        omega
    obtain ⟨k1, k2⟩ := key (keep as (β f)) fun a ha => keep_mem ha
    rw [← slK_keep] at k1 k2
    have := ok_call
    simp [slT, enc, PyData.canLay0, PyData.canLayAll0, PyData.depth, PyData.depthAll, k1, this, hd _ hf]
    omega
def slM (β : Bt) (m : Mk') : Mk' := (m.1, keep m.2.1 (β m.1), slT β m.2.2)
theorem slM_lay {b : List Mk'} (B : BookOk b) (β : Bt) {m : Mk'} (hm : m ∈ b) : (encM (slM β m)).canLay0 = true ∧ (encM (slM β m)).depth ≤ 10 :=
  encM_lay (m := slM β m) (k := 8) (MK_ok _ (B.all m hm).1) (fun x hx => B.nmOk hm x (keep_mem hx)) (slT_lay (B.nmOk hm) B.hdOk (B.sum4 m hm))
theorem x_slim {b : List Mk'} (B : BookOk b) (β : Bt) (n : Nat) (a0 : Option R) (S0 : SS) : ∀ (r : List Mk') (acc : List D), (∀ x ∈ r, x ∈ b) → acc.length + r.length ≤ 10 →
    forL (gTp 3 (gsCons (gNm 3) (gsCons (gNm 4) (gsCons (gNm 5) gsNil))))
  (sSeq (sAsg (e1 (l1 tupD) (eComp [7, 8] (iZip2 (eVar 4) (e2 ixR (eVar 1) (eVar 3))) (gTp 2 (gsCons (gNm 7) (gsCons (gNm 8) gsNil))) (tOf (eVar 8)) (eVar 7))) (gNm 6))
  (sExpr (eAppend (eVar 2) (eN tupR (aCons (eVar 3) (aCons (eVar 6) (aCons (eCall (Φ (n + 7) .slim_sum) (aCons (eVar 5) (aCons (eVar 1) aNil))) aNil))))))) [3, 4, 5, 6] none (r.map fun m => R.dat (encM m))
    [a0, some (.dic (encBt b β)), some (.obj S0.length), none, none, none, none, none, none] (S0 ++ [.lst acc]) = some (.nx [a0, some (.dic (encBt b β)), some (.obj S0.length), none, none, none, none, none, none], S0 ++ [.lst (acc ++ r.map fun m => encM (slM β m))])
  | [], acc, _, _ => by simp
  | m :: r, acc, hr, hl => by
    have hm := hr m List.mem_cons_self
    simp at hl
    have ih := x_slim B β n a0 S0 r (acc ++ [encM (slM β m)]) (fun y hy => hr y (List.mem_cons_of_mem _ hy)) (by simp; omega)
    have em : encM m = .tuple [.str m.1, namesD m.2.1, enc m.2.2] := rfl
    have es : encM (slM β m) = .tuple [.str m.1, .tuple ((keep m.2.1 (β m.1)).map .str), enc (slT β m.2.2)] := rfl
    have hh : (m.1, m.2.1.length) ∈ headsOf b := List.mem_map.mpr ⟨m, hm, rfl⟩
    have rd := fun S => (dic_Rb (b := b) (β := β) S).at0 hh
    have ks := keep_strs (δ := [a0, some (.dic (encBt b β)), some (.obj S0.length), some (.dat (.str m.1)), some (.dat (namesD m.2.1)), some (.dat (enc m.2.2)), none, none, none]) (S := S0 ++ [.lst acc]) 7 8 [7, 8] (iZip2 (eVar 4) (e2 ixR (eVar 1) (eVar 3))) m.2.1 (β m.1) (by simp) (by simp) (by decide) (by simp [namesD, rd, encR]) (by simp)
    have sl := r_slim_sum (B.sum4 m hm) n (S0 ++ [.lst acc]) (dic_Rb (b := b) (β := β) _)
    have sz : acc.length < sizeLine := by rw [sizeLine_eq]; omega
    rw [List.map_cons, em]
    simp only [es] at ih
    simp at ih
    simp [ks, sl, sz, es, ih]
theorem r_slim {b : List Mk'} (B : BookOk b) {β : Bt} (n : Nat) (S : SS) (hb : ∀ S, Φ (n + 8) .needs_of [.dat (encB b)] S = some (.dic (encBt b β), S)) : Φ (n + 9) .slim [.dat (encB b)] S = some (.dat (encB (b.map (slM β))), S) := by
  rw [Φ_succ]; show b_slim (Φ (n + 8)) _ S = _; unfold b_slim
  have lp := x_slim B β (n + 1) (some (.dat (encB b))) S b [] (fun _ h => h) (by have := B.le; simp; omega)
  refine run_rt (S' := [.lst (b.map fun m => encM (slM β m))]) rfl ?_
  have t : l1 tupD (S ++ [.lst (b.map fun m => encM (slM β m))]) (.obj S.length) = some (.dat (.tuple (b.map fun m => encM (slM β m)))) := by
    unfold l1
    simp
  have it : ∀ S, itemsR S (.dat (encB b)) = some (b.map fun m => R.dat (encM m), none) := fun S => by simp [encB]
  have eB : PyData.tuple (b.map fun m => encM (slM β m)) = encB (b.map (slM β)) := by unfold encB; rw [List.map_map]; rfl
  simp only [List.nil_append] at lp
  simp [startD, hb, it, lp, t, eB]
theorem rows_comp {b : List Mk'} (β : Bt) (i j k : Nat) (own : List Nat) (s : Nat) (δ : Dl) (S : SS) (hi : i < δ.length) (hj : j < δ.length) (hk : k < δ.length) (hij : i ≠ j) (hik : i ≠ k) (hjk : j ≠ k) (hsi : s ≠ i) (hsj : s ≠ j) (hsk : s ≠ k) (src : Im)
    (hs : src δ S = some (b.map fun m => R.dat (encM m), none, S)) (h1 : (clrS own δ)[s]? = some (some (.dic (encBt b β)))) (hl : (clrS own δ).length = δ.length) :
    eComp own src (gTp 3 (gsCons (gNm i) (gsCons (gNm j) (gsCons (gNm k) gsNil)))) tTrue (e2 ixR (eVar s) (eVar i)) δ S = some (.dat (.list (b.map fun m => encR (β m.1))), S) := by
  refine eComp_ok hs (CompOk.map (fun m => R.dat (encM m)) (fun m => encR (β m.1)) b fun m hm => ⟨(((clrS own δ).set i (some (.dat (.str m.1)))).set j (some (.dat (namesD m.2.1)))).set k (some (.dat (enc m.2.2))), by simp [encM], fun acc => ?_⟩)
  have hh : (m.1, m.2.1.length) ∈ headsOf b := List.mem_map.mpr ⟨m, hm, rfl⟩
  have rd := (dic_Rb (b := b) (β := β) (S ++ [.lst acc])).at0 hh
  have e1 : ((((clrS own δ).set i (some (.dat (.str m.1)))).set j (some (.dat (namesD m.2.1)))).set k (some (.dat (enc m.2.2))))[i]? = some (some (.dat (.str m.1))) := by
    rw [List.getElem?_set_ne (Ne.symm hik), List.getElem?_set_ne (Ne.symm hij), List.getElem?_set_self (by omega)]
  have e2 : ((((clrS own δ).set i (some (.dat (.str m.1)))).set j (some (.dat (namesD m.2.1)))).set k (some (.dat (enc m.2.2))))[s]? = some (some (.dic (encBt b β))) := by
    rw [List.getElem?_set_ne (Ne.symm hsk), List.getElem?_set_ne (Ne.symm hsj), List.getElem?_set_ne (Ne.symm hsi), h1]
  simp only [e2_eq, eVar_eq, e1, e2, Option.bind_some, Option.map_some, rd]
theorem r_needed {b : List Mk'} (B : BookOk b) {β : Bt} (n : Nat) (S : SS) (hb : ∀ S, Φ (n + 8) .needs_of [.dat (encB b)] S = some (.dic (encBt b β), S)) : Φ (n + 9) .needed [.dat (encB b)] S = some (.dat (.tuple (b.map fun m => encR (β m.1))), S) := by
  rw [Φ_succ]; show b_needed (Φ (n + 8)) _ S = _; unfold b_needed; refine run_rt0 rfl ?_
  have c := rows_comp (b := b) β 2 3 4 [2, 3, 4] 1 [some (.dat (encB b)), some (.dic (encBt b β)), none, none, none] S (by simp) (by simp) (by simp) (by decide) (by decide) (by decide) (by decide) (by decide) (by decide) (iSeq (eVar 0)) (by simp [encB]) (by simp) (by simp)
  simp [startD, hb, c]
end Cy
end
section
set_option Elab.async false
set_option maxRecDepth 100000
namespace Cy
open PySem L2
/-! ### books or not: any data -/
def okS (x : Str) : Bool := PyData.strOk x && decide (x.length ≤ 100) && x.cps.toList.all (fun c => decide (c < 128))
def gd : Nat → D → Bool
  | _, .none => true
  | _, .bool _ => true
  | _, .int _ => true
  | _, .str x => okS x
  | n + 1, .tuple xs => decide (xs.length ≤ 60) && xs.all (gd n)
  | n + 1, .list xs => decide (xs.length ≤ 60) && xs.all (gd n)
  | _, _ => false
theorem gd_all {n : Nat} : ∀ xs : List D, (∀ d ∈ xs, d.canLay0 = true ∧ d.depth ≤ n) → PyData.canLayAll0 xs = true ∧ PyData.depthAll xs ≤ n
  | [], _ => by simp [PyData.canLayAll0, PyData.depthAll]
  | x :: xs, h => by
    obtain ⟨h1, h2⟩ := h x List.mem_cons_self
    obtain ⟨h3, h4⟩ := gd_all xs fun y hy => h y (List.mem_cons_of_mem _ hy)
    simp [PyData.canLayAll0, PyData.depthAll, h1, h3]
    omega
theorem gd_lay : ∀ (n : Nat) (d : D), gd n d = true → d.canLay0 = true ∧ d.depth ≤ n
  | _, .none, _ => by simp [PyData.canLay0, PyData.depth]
  | _, .bool _, _ => by simp [PyData.canLay0, PyData.depth]
  | _, .int _, _ => by simp [PyData.canLay0, PyData.depth]
  | _, .str x, h => by
    simp [gd, okS] at h
    simp [PyData.canLay0, PyData.depth, h.1.1]
  | 0, .tuple _, h => by simp [gd] at h
  | 0, .list _, h => by simp [gd] at h
  | 0, .dict _, h => by simp [gd] at h
  | n + 1, .dict _, h => by simp [gd] at h
  | n + 1, .tuple xs, h => by
    simp [gd] at h
    have := gd_all xs fun d hd => gd_lay n d (h.2 d hd)
    simp [PyData.canLay0, PyData.depth, this.1]
    omega
  | n + 1, .list xs, h => by
    simp [gd] at h
    have := gd_all xs fun d hd => gd_lay n d (h.2 d hd)
    simp [PyData.canLay0, PyData.depth, this.1]
    omega
@[simp] theorem isi1 (b : Bool) : isiD "str" (.bool b) = some (.bool false) := Eq.trans rfl rfl
@[simp] theorem isi2 : isiD "str" .none = some (.bool false) := Eq.trans rfl rfl
@[simp] theorem isi3 (l : List D) : isiD "str" (.list l) = some (.bool false) := Eq.trans rfl rfl
@[simp] theorem isi4 (b : Bool) : isiD "tuple" (.bool b) = some (.bool false) := Eq.trans rfl rfl
@[simp] theorem isi5 : isiD "tuple" .none = some (.bool false) := Eq.trans rfl rfl
@[simp] theorem isi6 (l : List D) : isiD "tuple" (.list l) = some (.bool false) := Eq.trans rfl rfl
@[simp] theorem isi7 (b : Bool) : isiD "int" (.bool b) = some (.bool true) := Eq.trans rfl rfl
@[simp] theorem isi8 (l : List D) : isiD "int" (.list l) = some (.bool false) := Eq.trans rfl rfl
@[simp] theorem isi9 (i : Int) : isiD "bool" (.int i) = some (.bool false) := Eq.trans rfl rfl
theorem okS_ok {x : Str} (h : okS x = true) : PyData.strOk x = true ∧ x.length ≤ 100 ∧ ∀ c ∈ x.cps.toList, c < 128 := by
  unfold okS at h
  rw [Bool.and_eq_true, Bool.and_eq_true, List.all_eq_true] at h
  exact ⟨h.1.1, by simpa using h.1.2, fun c hc => by simpa using h.2 c hc⟩
theorem streq (a c : Str) : PyData.eqv (.str a) (.str c) = decide (a = c) := by
  rw [PyData.eqv]
  by_cases e : a = c
  · subst e; simp
  · simp [e]
theorem shp_strs {l : List Str} (hl : ∀ y ∈ l, PyData.strOk y = true) : SeqAt.shaped (.list (l.map .str)) = true := shaped_list fun x hx => by
  obtain ⟨y, hy, rfl⟩ := List.mem_map.mp hx
  exact El_str (hl y hy)
theorem in_tup {x : Str} (hx : PyData.strOk x = true) {l : List Str} (hl : ∀ y ∈ l, PyData.strOk y = true) : inD (.str x) (.tuple (l.map .str)) = some (.bool (decide (x ∈ l))) := by
  show (if SeqAt.shaped (.str x) && SeqAt.shaped (.list (l.map .str)) then some (PyData.bool ((l.map PyData.str).any fun z => PyData.eqv z (.str x))) else none) = _
  rw [shaped_of (El_str hx), shp_strs hl]
  simp only [Bool.and_self, if_true]
  congr 2
  rw [Bool.eq_iff_iff]
  simp only [List.any_map, List.any_eq_true, Function.comp, streq, decide_eq_true_eq]
  exact ⟨fun ⟨y, h, e⟩ => by rw [← e]; exact h, fun h => ⟨x, h, rfl⟩⟩
theorem lets : ∀ c < 128, (!(Builtin.Str.occurrences "abcdefghijklmnopqrstuvwxyz" ⟨#[c]⟩ 0 26 1).isEmpty) = (decide (97 ≤ c) && decide (c ≤ 122)) := by decide +kernel
theorem lets2 : ∀ c < 128, (!decide ((⟨#[c]⟩ : Str).cps.toList < ("a" : Str).cps.toList)) = decide (97 ≤ c) ∧ (!decide (("z" : Str).cps.toList < (⟨#[c]⟩ : Str).cps.toList)) = decide (c ≤ 122) := by decide +kernel
def BARR : List Str := ["plus", "less", "same", "if", "call"]
def WRDS : List Str := ["plus", "less", "times", "same", "under"]
theorem BARR_ok : ∀ y ∈ BARR, PyData.strOk y = true := by decide +kernel
theorem WRDS_ok : ∀ y ∈ WRDS, PyData.strOk y = true := by decide +kernel
theorem in_LETTERS {c : Nat} (hc : c < 128) (S : SS) : inR S (.dat (.str ⟨#[c]⟩)) (.dat c_LETTERS) = some (.dat (.bool (decide (97 ≤ c) && decide (c ≤ 122)))) := by
  rw [← lets c hc]
  rfl
theorem in_BARRED {x : Str} (hx : PyData.strOk x = true) (S : SS) : inR S (.dat (.str x)) (.dat c_BARRED) = some (.dat (.bool (decide (x ∈ BARR)))) := by
  have := in_tup hx BARR_ok
  show l2 inD S (.dat (.str x)) (.dat (.tuple (BARR.map .str))) = _
  rw [l2_dat, this]
theorem in_WORDS {x : Str} (hx : PyData.strOk x = true) (S : SS) : inR S (.dat (.str x)) (.dat c_WORDS) = some (.dat (.bool (decide (x ∈ WRDS)))) := by
  have := in_tup hx WRDS_ok
  show l2 inD S (.dat (.str x)) (.dat (.tuple (WRDS.map .str))) = _
  rw [l2_dat, this]
def isNm : D → Bool
  | .str x => decide (1 ≤ x.length) && (decide (x.length ≤ 4) && (!decide (x ∈ BARR) && x.cps.toList.all fun c => decide (97 ≤ c) && decide (c ≤ 122)))
  | _ => false
theorem allD_p {α : Type} (l : List α) (p : α → Bool) : allD (.list (l.map fun x => PyData.bool (p x))) = some (.bool (l.all p)) := by
  have := allD_bools (l.map p)
  rw [List.map_map] at this
  rw [show (l.map fun x => PyData.bool (p x)) = l.map (PyData.bool ∘ p) from rfl, this, List.all_map]
  rfl
theorem it_str {x : Str} (h : x.length ≤ 1000) (S : SS) : itemsR S (.dat (.str x)) = some (x.cps.toList.map fun c => R.dat (.str ⟨#[c]⟩), none) := by
  show (if x.cps.size ≤ sizeLine then some (x.cps.toList.map fun c => R.dat (.str ⟨#[c]⟩), none) else none) = _
  rw [if_pos]
  have : x.cps.size = x.length := rfl
  rw [this, sizeLine_eq]
  omega
theorem len_str {x : Str} (h : x.length ≤ 1000) (S : SS) : lenR S (.dat (.str x)) = some (.dat (.int x.length)) := by
  show l1 lenD S (.dat (.str x)) = _
  rw [l1_dat]
  show (match (if x.length ≤ sizeLine then some (PyData.int x.length) else none) with
    | some d => some (R.dat d)
    | none => none) = _
  rw [if_pos (by rw [sizeLine_eq]; omega)]
theorem sqS {a c : Sm} {δ δ1 : Dl} {S S1 : SS} {r : Option (Fl × SS)} (h1 : a δ S = some (.nx δ1, S1)) (h2 : c δ1 S1 = r) : sSeq a c δ S = r := by rw [sSeq_eq, h1]; exact h2
theorem r_is_name {k : Nat} {d : D} (h : gd k d = true) (n : Nat) (S : SS) : Φ (n + 1) .is_name [.dat d] S = some (.dat (.bool (isNm d)), S) := by
  rw [Φ_succ]; show b_is_name (Φ n) _ S = _; unfold b_is_name; refine run_rt0 rfl ?_
  cases d with
  | str x =>
    have h : okS x = true := by cases k <;> exact h
    obtain ⟨h1, h2, h3⟩ := okS_ok h
    have c : eComp [1] (iSeq (eVar 0)) (gNm 1) tTrue (e2 inR (eVar 1) (eC c_LETTERS)) [some (.dat (.str x)), none] S = some (.dat (.list (x.cps.toList.map fun c => PyData.bool (decide (97 ≤ c) && decide (c ≤ 122)))), S) := by
      refine eComp_ok (rs := x.cps.toList.map fun c => R.dat (.str ⟨#[c]⟩)) (by simp [it_str (show x.length ≤ 1000 by omega)]) (CompOk.map (fun c => R.dat (.str ⟨#[c]⟩)) _ x.cps.toList fun c hc => ⟨[some (.dat (.str x)), some (.dat (.str ⟨#[c]⟩))], by simp, fun acc => ?_⟩)
      simp [in_LETTERS (h3 c hc)]
    have ln : lenR S (.dat (.str x)) = some (.dat (.int x.length)) := len_str (by omega) S
    have ch : eChain (l2 leD) (l2 leD) (eC (.int 1)) (e1 lenR (eVar 0)) (eC c_LONGEST) [some (.dat (.str x)), none] S = some (.dat (.bool (decide (1 ≤ x.length) && decide (x.length ≤ 4))), S) := by
      unfold eChain
      by_cases e : 1 ≤ x.length
      · have e' : (1 : Int) ≤ (x.length : Int) := by omega
        simp [ln, leD, e', e, c_LONGEST]
        omega
      · have e' : ¬ (1 : Int) ≤ (x.length : Int) := by omega
        simp [ln, leD, e', e]
    have al := allD_p x.cps.toList fun c => decide (97 ≤ c) && decide (c ≤ 122)
    by_cases e : (decide (1 ≤ x.length) && decide (x.length ≤ 4)) = true
    · rw [e] at ch
      by_cases e2 : x ∈ BARR
      · simp [startD, ch, in_BARRED h1, e2, isNm]
      · simp at e
        simp [startD, ch, in_BARRED h1, e2, c, al, isNm, e.1, e.2]
    · have e' : (decide (1 ≤ x.length) && decide (x.length ≤ 4)) = false := by simpa using e
      rw [e'] at ch
      simp [startD, ch, isNm]
      simp at e'
      omega
  | dict _ => cases k <;> simp [gd] at h
  | _ => simp [startD, isNm]
theorem r_law_is_name {k : Nat} {d : D} (h : gd k d = true) (n : Nat) (S : SS) : Φ (n + 1) .law_is_name [.dat d] S = some (.dat (.bool (isNm d)), S) := by
  rw [Φ_succ]; show b_law_is_name (Φ n) _ S = _; unfold b_law_is_name; refine run_rt0 rfl ?_
  cases d with
  | str x =>
    have h : okS x = true := by cases k <;> exact h
    obtain ⟨h1, h2, h3⟩ := okS_ok h
    have c : eComp [1] (iSeq (eVar 0)) (gNm 1) (tNo (tOf (eChain (l2 leD) (l2 leD) (eC (.str "a")) (eVar 1) (eC (.str "z"))))) (eVar 1) [some (.dat (.str x)), none] S = some (.dat (.list ((x.cps.toList.filter fun c => !(decide (97 ≤ c) && decide (c ≤ 122))).map fun c => PyData.str ⟨#[c]⟩)), S) := by
      refine eComp_ok (rs := x.cps.toList.map fun c => R.dat (.str ⟨#[c]⟩)) (by simp [it_str (show x.length ≤ 1000 by omega)]) (CompOk.filter (fun c => R.dat (.str ⟨#[c]⟩)) _ _ x.cps.toList fun c hc => ⟨[some (.dat (.str x)), some (.dat (.str ⟨#[c]⟩))], by simp, fun acc => ?_, fun _ acc => by simp⟩)
      obtain ⟨q1, q2⟩ := lets2 c (h3 c hc)
      have l1 : leD (.str "a") (.str ⟨#[c]⟩) = some (.bool (decide (97 ≤ c))) := by rw [← q1]; rfl
      have l2' : leD (.str ⟨#[c]⟩) (.str "z") = some (.bool (decide (c ≤ 122))) := by rw [← q2]; rfl
      have ch : ∀ S, eChain (l2 leD) (l2 leD) (eC (.str "a")) (eVar 1) (eC (.str "z")) [some (.dat (.str x)), some (.dat (.str ⟨#[c]⟩))] S = some (.dat (.bool (decide (97 ≤ c) && decide (c ≤ 122))), S) := fun S => by
        unfold eChain
        by_cases e : 97 ≤ c
        · simp [l1, l2', e]
        · simp [l1, e]
      simp [ch]
    have ln : lenR S (.dat (.str x)) = some (.dat (.int x.length)) := len_str (by omega) S
    have ch : eChain (l2 leD) (l2 leD) (eC (.int 1)) (e1 lenR (eVar 0)) (eC (.int 4)) [some (.dat (.str x)), none] S = some (.dat (.bool (decide (1 ≤ x.length) && decide (x.length ≤ 4))), S) := by
      unfold eChain
      by_cases e : 1 ≤ x.length
      · have e' : (1 : Int) ≤ (x.length : Int) := by omega
        simp [ln, leD, e', e]
        omega
      · have e' : ¬ (1 : Int) ≤ (x.length : Int) := by omega
        simp [ln, leD, e', e]
    have bt : (eN tupR (aCons (eC (.str "plus")) (aCons (eC (.str "less")) (aCons (eC (.str "same")) (aCons (eC (.str "if")) (aCons (eC (.str "call")) aNil)))))) [some (.dat (.str x)), none] S = some (.dat c_BARRED, S) := by
      simp
      rfl
    have eq : eqD (.list ((x.cps.toList.filter fun c => !(decide (97 ≤ c) && decide (c ≤ 122))).map fun c => PyData.str ⟨#[c]⟩)) (.list []) = some (.bool (x.cps.toList.all fun c => decide (97 ≤ c) && decide (c ≤ 122))) := by
      have sh : SeqAt.shaped (.list ((x.cps.toList.filter fun c => !(decide (97 ≤ c) && decide (c ≤ 122))).map fun c => PyData.str ⟨#[c]⟩)) = true := shaped_list fun y hy => by
        obtain ⟨c, hc, rfl⟩ := List.mem_map.mp hy
        have := h3 c (List.mem_filter.mp hc).1
        refine El_str ?_
        simp [PyData.strOk]
        omega
      have sh2 : SeqAt.shaped (.list []) = true := shaped_list fun y hy => by cases hy
      unfold eqD
      rw [sh, sh2]
      simp only [Bool.and_self, if_true]
      congr 2
      cases hf : x.cps.toList.filter fun c => !(decide (97 ≤ c) && decide (c ≤ 122)) with
      | nil =>
        have := List.filter_eq_nil_iff.mp hf
        rw [List.map_nil]
        have e1 : PyData.eqv (.list []) (.list []) = true := by kernel_rfl
        rw [e1]
        symm
        rw [List.all_eq_true]
        intro c hc
        have := this c hc
        simpa using this
      | cons c l =>
        have hc : c ∈ x.cps.toList.filter fun c => !(decide (97 ≤ c) && decide (c ≤ 122)) := by rw [hf]; exact List.mem_cons_self
        obtain ⟨hc1, hc2⟩ := List.mem_filter.mp hc
        have e1 : PyData.eqv (.list ((c :: l).map fun c => PyData.str ⟨#[c]⟩)) (.list []) = false := by rw [PyData.eqv, List.map_cons, PyData.eqvAll]
        rw [e1]
        symm
        rw [Bool.eq_false_iff]
        intro ha
        have := List.all_eq_true.mp ha c hc1
        simp at hc2 this
        omega
    by_cases e : (decide (1 ≤ x.length) && decide (x.length ≤ 4)) = true
    · rw [e] at ch
      by_cases e2 : x ∈ BARR
      · simp only [startD] 
        simp [ch, bt, in_BARRED h1, e2, isNm, -eN_eq]
      · simp at e
        have hN : isNm (.str x) = x.cps.toList.all fun c => decide (97 ≤ c) && decide (c ≤ 122) := by
          show (decide (1 ≤ x.length) && (decide (x.length ≤ 4) && (!decide (x ∈ BARR) && x.cps.toList.all fun c => decide (97 ≤ c) && decide (c ≤ 122)))) = _
          rw [decide_eq_true e.1, decide_eq_true e.2, decide_eq_false e2]
          rfl
        have hnil : eN lstR aNil [some (.dat (.str x)), none] S = some (.dat (.list []), S) := by simp
        refine sqS (δ1 := [some (.dat (.str x)), none]) (S1 := S) (by simp [startD, ch, bt, in_BARRED h1, e2, -eN_eq]) ?_
        rw [sRet_eq, e2_eq, hN]
        simp only [c, hnil, l2_dat, eq]
    · have e' : (decide (1 ≤ x.length) && decide (x.length ≤ 4)) = false := by simpa using e
      rw [e'] at ch
      simp [startD, ch, isNm]
      simp at e'
      omega
  | dict _ => cases k <;> simp [gd] at h
  | _ => simp [startD, isNm]
end Cy
end
section
set_option Elab.async false
set_option maxRecDepth 100000
namespace Cy
open PySem L2
/-! ### sums or not -/
theorem gd_up : ∀ (n : Nat) (d : D), gd n d = true → gd (n + 1) d = true
  | _, .none, _ => rfl
  | _, .bool _, _ => rfl
  | _, .int _, _ => rfl
  | n, .str x, h => by cases n <;> exact h
  | 0, .tuple _, h => by simp [gd] at h
  | 0, .list _, h => by simp [gd] at h
  | 0, .dict _, h => by simp [gd] at h
  | n + 1, .dict _, h => by simp [gd] at h
  | n + 1, .tuple xs, h => by
    rw [gd, Bool.and_eq_true, List.all_eq_true] at h ⊢
    exact ⟨h.1, fun d hd => gd_up n d (h.2 d hd)⟩
  | n + 1, .list xs, h => by
    rw [gd, Bool.and_eq_true, List.all_eq_true] at h ⊢
    exact ⟨h.1, fun d hd => gd_up n d (h.2 d hd)⟩
theorem gd_le {n m : Nat} (h : n ≤ m) {d : D} (hd : gd n d = true) : gd m d = true := by
  induction h with
  | refl => exact hd
  | step _ ih => exact gd_up _ _ ih
abbrev Gd (d : D) : Prop := gd 30 d = true
theorem Gd.of {n : Nat} (h : n ≤ 30) {d : D} (hd : gd n d = true) : Gd d := gd_le h hd
theorem Gd.tup {xs : List D} (h : Gd (.tuple xs)) : xs.length ≤ 60 ∧ ∀ x ∈ xs, Gd x := by
  unfold Gd at h
  rw [gd, Bool.and_eq_true, List.all_eq_true] at h
  exact ⟨by simpa using h.1, fun x hx => gd_up _ _ (h.2 x hx)⟩
theorem Gd.shaped {d : D} (h : Gd d) : SeqAt.shaped d = true := by
  obtain ⟨h1, h2⟩ := gd_lay 30 d h
  unfold SeqAt.shaped
  rw [h1]
  simp
  omega
theorem Gd.shapedL {l : List D} (h : ∀ x ∈ l, Gd x) : SeqAt.shaped (.list l) = true := by
  obtain ⟨h1, h2⟩ := gd_all l fun d hd => gd_lay 30 d (h d hd)
  unfold SeqAt.shaped
  rw [PyData.canLay0, PyData.depth, h1]
  simp
  omega
theorem Gd.str {x : Str} (h : Gd (.str x)) : okS x = true := h
theorem no_dict {kvs : List (D × D)} (h : Gd (.dict kvs)) : False := by simp [Gd, gd] at h
def isS : D → Bool
  | .str _ => true
  | _ => false
def isT : D → Bool
  | .tuple _ => true
  | _ => false
theorem isi_s {d : D} (h : Gd d) : isiD "str" d = some (.bool (isS d)) := by
  cases d with
  | dict _ => exact (no_dict h).elim
  | _ => rfl
theorem isi_t {d : D} (h : Gd d) : isiD "tuple" d = some (.bool (isT d)) := by
  cases d with
  | dict _ => exact (no_dict h).elim
  | _ => rfl
/-- a list of what is not so, empty or not -/
theorem eq_none {l : List D} (h : ∀ x ∈ l, Gd x) (p : D → Bool) : eqD (.list (l.filter fun x => !p x)) (.list []) = some (.bool (l.all p)) ∧ neD (.list (l.filter fun x => !p x)) (.list []) = some (.bool (!l.all p)) := by
  have sh : SeqAt.shaped (.list (l.filter fun x => !p x)) = true := Gd.shapedL fun x hx => h x (List.mem_filter.mp hx).1
  have sh2 : SeqAt.shaped (.list []) = true := shaped_list fun y hy => by cases hy
  have e : PyData.eqv (.list (l.filter fun x => !p x)) (.list []) = l.all p := by
    cases hf : l.filter fun x => !p x with
    | nil =>
      have := List.filter_eq_nil_iff.mp hf
      have e1 : PyData.eqv (.list []) (.list []) = true := by kernel_rfl
      rw [e1]
      symm
      rw [List.all_eq_true]
      intro c hc
      simpa using this c hc
    | cons c t =>
      have hc : c ∈ l.filter fun x => !p x := by rw [hf]; exact List.mem_cons_self
      obtain ⟨hc1, hc2⟩ := List.mem_filter.mp hc
      have e1 : PyData.eqv (.list (c :: t)) (.list []) = false := by rw [PyData.eqv, PyData.eqvAll]
      rw [e1]
      symm
      rw [Bool.eq_false_iff]
      intro ha
      have := List.all_eq_true.mp ha c hc1
      rw [this] at hc2
      cases hc2
  unfold eqD neD
  rw [sh, sh2, e]
  exact ⟨rfl, rfl⟩
def isWo : D → Bool
  | .int i => decide (0 ≤ i) && decide (i < 1000)
  | _ => false
def isC (p : D → Bool) (kn : Str → Int) : List D → Bool
  | [_, .str f, .tuple as] => decide (kn f = (as.length : Nat)) && as.all p
  | _ => false
def wl (h : Str) : Nat := if h = "if" then 4 else if h ∈ WRDS then 3 else 0
def isSm (names : List Str) (kn : Str → Int) : Nat → D → Bool
  | _, .str x => decide (x ∈ names)
  | 0, .tuple _ => false
  | k + 1, .tuple (.str h :: r) => if h = "call" then isC (isSm names kn k) kn (.str h :: r) else decide (wl h = r.length + 1) && r.all (isSm names kn k)
  | _ + 1, .tuple _ => false
  | _, d => isWo d
/-- a dict of makers known -/
def Kn (X : R) (kn : Str → Int) (S : SS) : Prop := ∃ kvs, (∀ T, asKv (S ++ T) X = some kvs) ∧ ∀ f, (getK kvs (Sum.inr f)).getD (.int (-1)) = .int (kn f)
theorem Kn.app {X : R} {kn : Str → Int} {S : SS} (h : Kn X kn S) (T : SS) : Kn X kn (S ++ T) := by
  obtain ⟨kvs, h1, h2⟩ := h
  exact ⟨kvs, fun U => by rw [List.append_assoc]; exact h1 _, h2⟩
theorem Kn.get {X : R} {kn : Str → Int} {S : SS} (h : Kn X kn S) {δ : Dl} {f : Str} {i1 : Em} (e2' : δ[2]? = some (some X)) (e1' : i1 δ S = some (.dat (.str f), S)) : eGet2 (eVar 2) i1 (e1 (l1 negD) (eC (.int 1))) δ S = some (.dat (.int (kn f)), S) := by
  obtain ⟨kvs, h1, h2⟩ := h
  have h0 := h1 []
  rw [List.append_nil] at h0
  have ng : (e1 (l1 negD) (eC (.int 1))) δ S = some (.dat (.int (-1)), S) := rfl
  unfold eGet2
  simp only [eVar_eq, e2', Option.bind_some, Option.map_some, h0, e1', ng, keyOf, h2 f]
theorem r_is_worth {d : D} (h : Gd d) (hs : isS d = false) (ht : isT d = false) (n : Nat) (S : SS) : Φ (n + 1) .is_worth [.dat d] S = some (.dat (.bool (isWo d)), S) := by
  rw [Φ_succ]; show b_is_worth (Φ n) _ S = _; unfold b_is_worth; refine run_rt0 rfl ?_
  cases d with
  | int i =>
    have ch : eChain (l2 leD) (l2 ltD) (eC (.int 0)) (eVar 0) (eC c_RING) [some (.dat (.int i))] S = some (.dat (.bool (decide (0 ≤ i) && decide (i < 1000))), S) := by
      unfold eChain
      by_cases e : 0 ≤ i
      · simp [leD, ltD, e, c_RING]
      · simp [leD, e]
    simp [startD, ch, isWo]
  | str _ => cases hs
  | tuple _ => cases ht
  | dict _ => exact (no_dict h).elim
  | _ => simp [startD, isWo]
section
variable {names : List Str} {kn : Str → Int} {X : R}
theorem r_is_call {xs : List D} (hg : Gd (.tuple xs)) (m k : Nat) (S : SS) (hX : Kn X kn S) (p : D → Bool) (hp : ∀ d, Gd d → ∀ T, Φ m .is_sum [.dat d, .dat (namesD names), X, .dat (.int (k : Nat))] (S ++ T) = some (.dat (.bool (p d)), S ++ T)) :
    Φ (m + 1) .is_call [.dat (.tuple xs), .dat (namesD names), X, .dat (.int (k : Nat))] S = some (.dat (.bool (isC p kn xs)), S) := by
  rw [Φ_succ]; show b_is_call (Φ m) _ S = _; unfold b_is_call; refine run_rt0 rfl ?_
  obtain ⟨g1, g2⟩ := hg.tup
  match xs, hg, g1, g2 with
  | [h, a, c], hg, g1, g2 =>
    have ga := g2 a (by simp)
    have gc := g2 c (by simp)
    have sa := isi_s ga
    have tc := isi_t gc
    cases a with
    | str f =>
      cases c with
      | tuple as =>
        have gt := hX.get (δ := [some (.dat (.tuple [h, .str f, .tuple as])), some (.dat (namesD names)), some X, some (.dat (.int (k : Nat))), none]) (f := f) (i1 := e2 ixR (eVar 0) (eC (.int 1))) rfl (by simp)
        have cc : eComp [4] (iSeq (e2 ixR (eVar 0) (eC (.int 2)))) (gNm 4) tTrue (eCall (Φ m .is_sum) (aCons (eVar 4) (aCons (eVar 1) (aCons (eVar 2) (aCons (eVar 3) aNil))))) [some (.dat (.tuple [h, .str f, .tuple as])), some (.dat (namesD names)), some X, some (.dat (.int (k : Nat))), none] S = some (.dat (.list (as.map fun d => PyData.bool (p d))), S) := by
          refine eComp_ok (rs := as.map fun d => R.dat d) (by simp) (CompOk.map (fun d => R.dat d) _ as fun d hd => ⟨[some (.dat (.tuple [h, .str f, .tuple as])), some (.dat (namesD names)), some X, some (.dat (.int (k : Nat))), some (.dat d)], by simp, fun acc => ?_⟩)
          simp [hp d (gc.tup.2 d hd)]
        have al := allD_p as p
        by_cases e : kn f = (as.length : Nat)
        · simp [startD, neD_int, gt, cc, al, isC, e]
        · simp [startD, neD_int, gt, isC, e]
      | _ => simp [isT] at tc; simp [startD, neD_int, isC, tc]
    | _ => simp [isS] at sa; simp [startD, neD_int, isC, sa]
  | [], _, _, _ => simp [startD, neD_int, isC]
  | [a], _, _, _ => simp [startD, neD_int, isC]
  | [a, c], _, _, _ => simp [startD, neD_int, isC]
  | a :: c :: d :: e :: r, _, _, _ =>
    have ne : neD (.int ((r.length : Int) + 1 + 1 + 1 + 1)) (.int 3) = some (.bool true) := by
      rw [neD_int]
      have : ((r.length : Int) + 1 + 1 + 1 + 1 == 3) = false := by rw [beq_eq_false_iff_ne]; omega
      rw [this]
      rfl
    simp [startD, ne, isC]
theorem r_is_sum (hn : ∀ x ∈ names, PyData.strOk x = true) : ∀ (deep : Nat) (d : D), Gd d → ∀ n S, Kn X kn S → Φ (n + 2 * deep + 2) .is_sum [.dat d, .dat (namesD names), X, .dat (.int (deep : Nat))] S = some (.dat (.bool (isSm names kn deep d)), S)
  | deep, d, hg, n, S, hX => by
    rw [Φ_succ]; show b_is_sum (Φ (n + 2 * deep + 1)) _ S = _; unfold b_is_sum; refine run_rt0 rfl ?_
    cases d with
    | dict _ => exact (no_dict hg).elim
    | str x =>
      have i := in_tup (okS_ok hg.str).1 hn
      have i' : inR S (.dat (.str x)) (.dat (namesD names)) = some (.dat (.bool (decide (x ∈ names)))) := by
        show l2 inD S (.dat (.str x)) (.dat (.tuple (names.map .str))) = _
        rw [l2_dat, i]
      have e : isSm names kn deep (.str x) = decide (x ∈ names) := by cases deep <;> rfl
      simp [startD, i', e]
    | none =>
      have w := r_is_worth hg rfl rfl (n + 2 * deep) S
      have e : isSm names kn deep .none = isWo .none := by cases deep <;> rfl
      simp [startD, w, e]
    | bool v =>
      have w := r_is_worth hg rfl rfl (n + 2 * deep) S
      have e : isSm names kn deep (.bool v) = isWo (.bool v) := by cases deep <;> rfl
      simp [startD, w, e]
    | int v =>
      have w := r_is_worth hg rfl rfl (n + 2 * deep) S
      have e : isSm names kn deep (.int v) = isWo (.int v) := by cases deep <;> rfl
      simp [startD, w, e]
    | list v =>
      have w := r_is_worth hg rfl rfl (n + 2 * deep) S
      have e : isSm names kn deep (.list v) = isWo (.list v) := by cases deep <;> rfl
      simp [startD, w, e]
    | tuple xs =>
      obtain ⟨g1, g2⟩ := hg.tup
      match deep, xs, hg, g1, g2 with
      | 0, xs, _, _, _ => simp [startD, eqD_int, isSm]
      | k + 1, [], _, _, _ =>
        have e : ((k : Int) + 1 == 0) = false := by rw [beq_eq_false_iff_ne]; omega
        simp [startD, eqD_int, isSm, e]
      | k + 1, x0 :: r, hg, g1, g2 =>
        have ek : ((k : Int) + 1 == 0) = false := by rw [beq_eq_false_iff_ne]; omega
        have el : ((r.length : Int) + 1 == 0) = false := by rw [beq_eq_false_iff_ne]; omega
        have g0 := g2 x0 List.mem_cons_self
        have s0 := isi_s g0
        cases x0 with
        | str h =>
          have hk := (okS_ok g0.str).1
          have q0 := eqD_str hk (by decide +kernel : PyData.strOk "call" = true)
          have ih := fun d hd => r_is_sum hn k d hd
          by_cases ec : h = "call"
          · subst ec
            have cl := r_is_call hg (n + 2 * k + 2) k S hX (isSm names kn k) fun d hd T => ih d hd n (S ++ T) (hX.app T)
            rw [show n + 2 * k + 2 + 1 = n + 2 * (k + 1) + 1 by omega] at cl
            have e : isSm names kn (k + 1) (.tuple (.str "call" :: r)) = isC (isSm names kn k) kn (.str "call" :: r) := by
              rw [isSm, if_pos rfl]
            rw [e]
            generalize isC (isSm names kn k) kn (.str "call" :: r) = z at cl
            simp [startD, eqD_int, ek, el, q0, cl]
          · have e : isSm names kn (k + 1) (.tuple (.str h :: r)) = (decide (wl h = r.length + 1) && r.all (isSm names kn k)) := by
              rw [isSm, if_neg ec]
            rw [e]
            have q1 := eqD_str hk (by decide +kernel : PyData.strOk "if" = true)
            have iw := in_WORDS hk S
            have cc : eComp [4] (iSeq (eSl (eVar 0) (oSome (eC (.int 1))) oNone)) (gNm 4) tTrue (eCall (Φ (n + 2 * (k + 1) + 1) .is_sum) (aCons (eVar 4) (aCons (eVar 1) (aCons (eVar 2) (aCons (e2 (l2 subD) (eVar 3) (eC (.int 1))) aNil))))) [some (.dat (.tuple (.str h :: r))), some (.dat (namesD names)), some X, some (.dat (.int ((k + 1 : Nat) : Int))), none] S = some (.dat (.list (r.map fun d => PyData.bool (isSm names kn k d))), S) := by
              refine eComp_ok (rs := r.map fun d => R.dat d) (by simp) (CompOk.map (fun d => R.dat d) _ r fun d hd => ⟨[some (.dat (.tuple (.str h :: r))), some (.dat (namesD names)), some X, some (.dat (.int ((k + 1 : Nat) : Int))), some (.dat d)], by simp, fun acc => ?_⟩)
              have q := ih d (g2 d (List.mem_cons_of_mem _ hd)) (n + 1) (S ++ [.lst acc]) (hX.app _)
              rw [show n + 1 + 2 * k + 2 = n + 2 * (k + 1) + 1 by omega] at q
              simp [q]
            have al := allD_p r (isSm names kn k)
            have qc : (h == Str.ofString "call") = false := by simpa using ec
            have w4 : ((r.length : Int) + 1 == 4) = decide (r.length = 3) := by
              rw [Bool.eq_iff_iff]; simp; omega
            have w3 : ((r.length : Int) + 1 == 3) = decide (r.length = 2) := by
              rw [Bool.eq_iff_iff]; simp; omega
            simp at cc
            by_cases e1 : h = "if"
            · subst e1
              have nw : ¬ (Str.ofString "if" ∈ WRDS) := by decide +kernel
              have ew : wl "if" = 4 := rfl
              have qi : (Str.ofString "if" == Str.ofString "call") = false := by decide +kernel
              have nw' : decide (Str.ofString "if" ∈ WRDS) = false := decide_eq_false nw
              rw [nw'] at iw
              by_cases e3 : r.length = 3
              · simp [startD, eqD_int, ek, el, q0, qi, q1, w4, e3, cc, al, ew]
              · simp [startD, eqD_int, ek, el, q0, qi, q1, w4, e3, iw, ew]
            · have q1' : (h == Str.ofString "if") = false := by simpa using e1
              by_cases e2 : h ∈ WRDS
              · have ew : wl h = 3 := by unfold wl; rw [if_neg e1, if_pos e2]
                by_cases e3 : r.length = 2
                · simp [startD, eqD_int, ek, el, q0, qc, q1, q1', w3, e3, iw, e2, cc, al, ew]
                · simp [startD, eqD_int, ek, el, q0, qc, q1, q1', w3, e3, iw, e2, ew]
              · have ew : wl h = 0 := by unfold wl; rw [if_neg e1, if_neg e2]
                simp [startD, eqD_int, ek, el, q0, qc, q1, q1', iw, e2, ew]
        | dict _ => exact (no_dict g0).elim
        | _ => simp [isS] at s0; simp [startD, eqD_int, isSm, ek, el, s0]
end
end Cy
end
section
set_option Elab.async false
set_option maxRecDepth 100000
namespace Cy
open PySem L2
def wK : List (Key × D) := [(Sum.inr "if", .int 4), (Sum.inr "plus", .int 3), (Sum.inr "less", .int 3), (Sum.inr "times", .int 3), (Sum.inr "same", .int 3), (Sum.inr "under", .int 3)]
theorem wK_get (h : Str) : (getK wK (Sum.inr h)).getD (.int 0) = .int (wl h) := by
  have key : ∀ (k : Str) (v : D) (l : List (Key × D)), getK ((Sum.inr k, v) :: l) (Sum.inr h) = if h = k then some v else getK l (Sum.inr h) := fun k v l => by
    unfold getK
    rw [List.find?_cons]
    by_cases e : h = k
    · subst e; simp
    · have e' : ¬ ((Sum.inr k : Key) = Sum.inr h) := fun z => e (Sum.inr.inj z).symm
      simp only [e', decide_false, e, if_false]
  have nil : getK ([] : List (Key × D)) (Sum.inr h) = none := rfl
  unfold wK wl WRDS
  simp only [key, nil]
  by_cases e1 : h = "if"
  · simp [e1]
  · by_cases e2 : h = "plus"
    · subst e2; rfl
    · by_cases e3 : h = "less"
      · subst e3; rfl
      · by_cases e4 : h = "times"
        · subst e4; rfl
        · by_cases e5 : h = "same"
          · subst e5; rfl
          · by_cases e6 : h = "under"
            · subst e6; rfl
            · simp [e1, e2, e3, e4, e5, e6]
noncomputable abbrev wDisp : Em := eDisp (pCons (eC (.str "if")) (eC (.int 4)) (pCons (eC (.str "plus")) (eC (.int 3)) (pCons (eC (.str "less")) (eC (.int 3)) (pCons (eC (.str "times")) (eC (.int 3)) (pCons (eC (.str "same")) (eC (.int 3)) (pCons (eC (.str "under")) (eC (.int 3)) pNil))))))
theorem wDisp_eq (δ : Dl) (S : SS) : wDisp δ S = some (.obj S.length, S ++ [.dic wK]) := by
  have m : mergeD [] wK = wK := by kernel_rfl
  have p : pEval (pCons (eC (.str "if")) (eC (.int 4)) (pCons (eC (.str "plus")) (eC (.int 3)) (pCons (eC (.str "less")) (eC (.int 3)) (pCons (eC (.str "times")) (eC (.int 3)) (pCons (eC (.str "same")) (eC (.int 3)) (pCons (eC (.str "under")) (eC (.int 3)) pNil)))))) δ (S ++ [.dic []]) = some (wK, S ++ [.dic []]) := by rfl
  have lk : lookK (S ++ [.dic []]) S.length = some [] := by unfold lookK; simp
  unfold wDisp eDisp
  unfold eDispO
  rw [p]
  simp only [lk, m]
  simp [wK]
/-! the law's sums -/
section
variable {names : List Str} {kn : Str → Int} {X : R}
theorem ls_last (p : D → Bool) (m : Nat) (a0 : Option R) (k : Nat) (ps : List D) (hps : ∀ d ∈ ps, Gd d) (Z : SS) (hp : ∀ d, Gd d → ∀ T, Φ m .law_is_sum [.dat d, .dat (namesD names), X, .dat (.int (k : Nat))] (Z ++ T) = some (.dat (.bool (p d)), Z ++ T)) :
    sRet (e2 (l2 eqD) (eComp [5] (iSeq (eVar 4)) (gNm 5) (tNo (tOf (eCall (Φ m .law_is_sum) (aCons (eVar 5) (aCons (eVar 1) (aCons (eVar 2) (aCons (e2 (l2 subD) (eVar 3) (eC (.int 1))) aNil))))))) (eVar 5)) (eN lstR aNil)) [a0, some (.dat (namesD names)), some X, some (.dat (.int ((k + 1 : Nat) : Int))), some (.dat (.tuple ps)), none] Z = some (.rt (.dat (.bool (ps.all p))), Z) := by
  have c : eComp [5] (iSeq (eVar 4)) (gNm 5) (tNo (tOf (eCall (Φ m .law_is_sum) (aCons (eVar 5) (aCons (eVar 1) (aCons (eVar 2) (aCons (e2 (l2 subD) (eVar 3) (eC (.int 1))) aNil))))))) (eVar 5) [a0, some (.dat (namesD names)), some X, some (.dat (.int ((k + 1 : Nat) : Int))), some (.dat (.tuple ps)), none] Z = some (.dat (.list ((ps.filter fun d => !p d).map fun d => d)), Z) := by
    refine eComp_ok (rs := ps.map fun d => R.dat d) (by simp) (CompOk.filter (fun d => R.dat d) (fun d => !p d) (fun d => d) ps fun d hd => ⟨[a0, some (.dat (namesD names)), some X, some (.dat (.int ((k + 1 : Nat) : Int))), some (.dat (.tuple ps)), some (.dat d)], by simp, fun acc => ?_, fun _ acc => by simp⟩)
    have q := hp d (hps d hd) [.lst acc]
    simp [q]
  rw [List.map_id'] at c
  have hnil : ∀ δ : Dl, eN lstR aNil δ Z = some (.dat (.list []), Z) := fun δ => by simp
  rw [sRet_eq, e2_eq, c]
  simp only [hnil, l2_dat, (eq_none hps p).1]
theorem eq_mt {xs : List D} (h : Gd (.tuple xs)) : eqD (.tuple xs) (.tuple []) = some (.bool xs.isEmpty) := by
  have sh := h.shaped
  have sh2 : SeqAt.shaped (.tuple []) = true := shaped_tup fun y hy => by cases hy
  unfold eqD
  rw [sh, sh2]
  cases xs with
  | nil =>
    have e1 : PyData.eqv (.tuple []) (.tuple []) = true := by kernel_rfl
    rw [e1]; rfl
  | cons x r =>
    have e1 : PyData.eqv (.tuple (x :: r)) (.tuple []) = false := by rw [PyData.eqv, PyData.eqvAll]
    rw [e1]; rfl
theorem r_law_is_sum (hn : ∀ x ∈ names, PyData.strOk x = true) : ∀ (deep : Nat) (d : D), Gd d → ∀ n S, Kn X kn S → Φ (n + deep + 1) .law_is_sum [.dat d, .dat (namesD names), X, .dat (.int (deep : Nat))] S = some (.dat (.bool (isSm names kn deep d)), S)
  | deep, d, hg, n, S, hX => by
    rw [Φ_succ]; show b_law_is_sum (Φ (n + deep)) _ S = _; unfold b_law_is_sum
    cases d with
    | dict _ => exact (no_dict hg).elim
    | str x =>
      refine run_rt0 rfl ?_
      have i := in_tup (okS_ok hg.str).1 hn
      have i' : inR S (.dat (.str x)) (.dat (namesD names)) = some (.dat (.bool (decide (x ∈ names)))) := by
        show l2 inD S (.dat (.str x)) (.dat (.tuple (names.map .str))) = _
        rw [l2_dat, i]
      have e : isSm names kn deep (.str x) = decide (x ∈ names) := by cases deep <;> rfl
      simp [startD, i', e]
    | none =>
      refine run_rt0 rfl ?_
      have e : isSm names kn deep .none = isWo .none := by cases deep <;> rfl
      simp [startD, e, isWo]
    | bool v =>
      refine run_rt0 rfl ?_
      have e : isSm names kn deep (.bool v) = isWo (.bool v) := by cases deep <;> rfl
      simp [startD, e, isWo]
    | int v =>
      refine run_rt0 rfl ?_
      have e : isSm names kn deep (.int v) = isWo (.int v) := by cases deep <;> rfl
      have ch : eChain (l2 leD) (l2 leD) (eC (.int 0)) (eVar 0) (eC (.int 999)) [some (.dat (.int v)), some (.dat (namesD names)), some X, some (.dat (.int (deep : Nat))), none, none] S = some (.dat (.bool (decide (0 ≤ v) && decide (v < 1000))), S) := by
        unfold eChain
        by_cases e : 0 ≤ v
        · simp [leD, e]
          omega
        · simp [leD, e]
      simp [startD, e, ch, isWo]
    | list v =>
      refine run_rt0 rfl ?_
      have e : isSm names kn deep (.list v) = isWo (.list v) := by cases deep <;> rfl
      simp [startD, e, isWo]
    | tuple xs =>
      have em := eq_mt hg
      obtain ⟨g1, g2⟩ := hg.tup
      match deep, xs, hg, g1, g2, em with
      | 0, xs, _, _, _, _ => refine run_rt0 rfl ?_; simp [startD, eqD_int, isSm]
      | k + 1, [], _, _, _, em =>
        refine run_rt0 rfl ?_
        have e : ((k : Int) + 1 == 0) = false := by rw [beq_eq_false_iff_ne]; omega
        simp [startD, eqD_int, isSm, e, em]
      | k + 1, x0 :: r, hg, g1, g2, em =>
        have ek : ((k : Int) + 1 == 0) = false := by rw [beq_eq_false_iff_ne]; omega
        have g0 := g2 x0 List.mem_cons_self
        have s0 := isi_s g0
        cases x0 with
        | str h =>
          have hk := (okS_ok g0.str).1
          have q0 := eqD_str hk (by decide +kernel : PyData.strOk "call" = true)
          have hr : ∀ d ∈ r, Gd d := fun d hd => g2 d (List.mem_cons_of_mem _ hd)
          have ih := fun (Z : SS) (hZ : Kn X kn Z) (d : D) (hd : Gd d) (T : SS) => r_law_is_sum hn k d hd n (Z ++ T) (hZ.app T)
          rw [show n + k + 1 = n + (k + 1) by omega] at ih
          by_cases ec : h = "call"
          · subst ec
            have e : isSm names kn (k + 1) (.tuple (.str "call" :: r)) = isC (isSm names kn k) kn (.str "call" :: r) := by
              rw [isSm, if_pos rfl]
            rw [e]
            refine run_rt0 rfl ?_
            match r, hg, g1, g2, em, hr with
            | [], _, _, _, em, _ => simp [startD, eqD_int, neD_int, ek, em, q0, isC]
            | [a], _, _, _, em, _ => simp [startD, eqD_int, neD_int, ek, em, q0, isC]
            | a :: c :: y :: r, _, _, _, em, _ =>
              have ne : neD (.int ((r.length : Int) + 1 + 1 + 1 + 1)) (.int 3) = some (.bool true) := by
                rw [neD_int]
                have : ((r.length : Int) + 1 + 1 + 1 + 1 == 3) = false := by rw [beq_eq_false_iff_ne]; omega
                rw [this]
                rfl
              simp [startD, eqD_int, ne, ek, em, q0, isC]
            | [a, c], hg, g1, g2, em, hr =>
              have ga := hr a (by simp)
              have gc := hr c (by simp)
              have sa := isi_s ga
              have tc := isi_t gc
              cases a with
              | str f =>
                cases c with
                | tuple as =>
                  have gt := hX.get (δ := [some (.dat (.tuple [.str "call", .str f, .tuple as])), some (.dat (namesD names)), some X, some (.dat (.int ((k + 1 : Nat) : Int))), some (.dat (.tuple [.str f, .tuple as])), none]) (f := f) (i1 := e2 ixR (eVar 0) (eC (.int 1))) rfl (by simp)
                  have la := ls_last (isSm names kn k) (n + (k + 1)) (some (.dat (.tuple [.str "call", .str f, .tuple as]))) k as gc.tup.2 S (fun d hd T => ih S hX d hd T)
                  simp only [startD]
                  refine sqS (δ1 := [some (.dat (.tuple [.str "call", .str f, .tuple as])), some (.dat (namesD names)), some X, some (.dat (.int ((k + 1 : Nat) : Int))), none, none]) (S1 := S) (by simp) ?_
                  refine sqS (δ1 := [some (.dat (.tuple [.str "call", .str f, .tuple as])), some (.dat (namesD names)), some X, some (.dat (.int ((k + 1 : Nat) : Int))), none, none]) (S1 := S) (by simp) ?_
                  refine sqS (δ1 := [some (.dat (.tuple [.str "call", .str f, .tuple as])), some (.dat (namesD names)), some X, some (.dat (.int ((k + 1 : Nat) : Int))), none, none]) (S1 := S) (by simp [eqD_int, ek, em]) ?_
                  refine sqS (δ1 := [some (.dat (.tuple [.str "call", .str f, .tuple as])), some (.dat (namesD names)), some X, some (.dat (.int ((k + 1 : Nat) : Int))), some (.dat (.tuple [.str f, .tuple as])), none]) (S1 := S) (by simp) ?_
                  by_cases e : kn f = (as.length : Nat)
                  · refine sqS (δ1 := [some (.dat (.tuple [.str "call", .str f, .tuple as])), some (.dat (namesD names)), some X, some (.dat (.int ((k + 1 : Nat) : Int))), some (.dat (.tuple as)), none]) (S1 := S) (by
                      simp at gt
                      simp [neD_int, q0, gt, e]) ?_
                    rw [la]
                    simp [isC, e]
                  · simp at gt
                    simp [neD_int, q0, gt, e, isC]
                | _ => simp [isT] at tc; simp [startD, eqD_int, neD_int, ek, em, q0, isC, tc]
              | _ => simp [isS] at sa; simp [startD, eqD_int, neD_int, ek, em, q0, isC, sa]
          · have e : isSm names kn (k + 1) (.tuple (.str h :: r)) = (decide (wl h = r.length + 1) && r.all (isSm names kn k)) := by
              rw [isSm, if_neg ec]
            rw [e]
            have qc : (h == Str.ofString "call") = false := by simpa using ec
            rw [show (h == ("call" : Str)) = false from qc] at q0
            have gt : ∀ δ : Dl, δ[0]? = some (some (.dat (.tuple (.str h :: r)))) → eGet2 wDisp (e2 ixR (eVar 0) (eC (.int 0))) (eC (.int 0)) δ S = some (.dat (.int (wl h)), S ++ [.dic wK]) := fun δ h0 => by
              have kv : asKv (S ++ [.dic wK]) (.obj S.length) = some wK := by unfold asKv; simp
              have i0 : (e2 ixR (eVar 0) (eC (.int 0))) δ (S ++ [.dic wK]) = some (.dat (.str h), S ++ [.dic wK]) := by
                rw [e2_eq, eVar_eq, h0]
                simp
              unfold eGet2
              simp only [wDisp_eq, kv, i0, eC_eq, keyOf, wK_get]
            have la := ls_last (isSm names kn k) (n + (k + 1)) (some (.dat (.tuple (.str h :: r)))) k r hr (S ++ [.dic wK]) (fun d hd T => ih _ (hX.app _) d hd T)
            refine run_rt (S' := [.dic wK]) rfl ?_
            simp only [startD]
            refine sqS (δ1 := [some (.dat (.tuple (.str h :: r))), some (.dat (namesD names)), some X, some (.dat (.int ((k + 1 : Nat) : Int))), none, none]) (S1 := S) (by simp) ?_
            refine sqS (δ1 := [some (.dat (.tuple (.str h :: r))), some (.dat (namesD names)), some X, some (.dat (.int ((k + 1 : Nat) : Int))), none, none]) (S1 := S) (by simp) ?_
            refine sqS (δ1 := [some (.dat (.tuple (.str h :: r))), some (.dat (namesD names)), some X, some (.dat (.int ((k + 1 : Nat) : Int))), none, none]) (S1 := S) (by simp [eqD_int, ek, em]) ?_
            refine sqS (δ1 := [some (.dat (.tuple (.str h :: r))), some (.dat (namesD names)), some X, some (.dat (.int ((k + 1 : Nat) : Int))), some (.dat (.tuple r)), none]) (S1 := S) (by simp) ?_
            have gt := gt [some (.dat (.tuple (.str h :: r))), some (.dat (namesD names)), some X, some (.dat (.int ((k + 1 : Nat) : Int))), some (.dat (.tuple r)), none] rfl
            have lb : ((r.length : Int) + 1 == (wl h : Int)) = decide (wl h = r.length + 1) := by
              rw [Bool.eq_iff_iff]; simp; omega
            simp at gt
            by_cases ew : wl h = r.length + 1
            · refine sqS (δ1 := [some (.dat (.tuple (.str h :: r))), some (.dat (namesD names)), some X, some (.dat (.int ((k + 1 : Nat) : Int))), some (.dat (.tuple r)), none]) (S1 := S ++ [.dic wK]) (by simp [q0, gt, neD_int, lb, ew]) ?_
              rw [la]
              simp [ew]
            · simp [q0, gt, neD_int, lb, ew]
        | dict _ => exact (no_dict g0).elim
        | _ => refine run_rt0 rfl ?_; simp [isS] at s0; simp [startD, eqD_int, isSm, ek, em, s0]
end
end Cy
end
section
set_option Elab.async false
set_option maxRecDepth 100000
namespace Cy
open PySem L2
/-! ### heads -/
def strsD (ns : List D) : List Str := (strsOf ns).getD []
def isH : D → Bool
  | .tuple [a, .tuple ns, _] => isNm a && (decide (ns.length ≤ 3) && (ns.all isNm && decide ((nubS [] (strsD ns)).length = ns.length)))
  | _ => false
theorem nm_str {d : D} (h : isNm d = true) : ∃ x, d = .str x := by
  cases d with
  | str x => exact ⟨x, rfl⟩
  | _ => simp [isNm] at h
theorem strs_of : ∀ ns : List D, (ns.all isNm) = true → ∃ xs : List Str, ns = xs.map .str ∧ strsOf ns = some xs
  | [], _ => ⟨[], rfl, rfl⟩
  | d :: ns, h => by
    rw [List.all_cons, Bool.and_eq_true] at h
    obtain ⟨x, rfl⟩ := nm_str h.1
    obtain ⟨xs, rfl, e⟩ := strs_of ns h.2
    exact ⟨x :: xs, rfl, by unfold strsOf; rw [e]⟩
theorem isH_form {d : D} (hg : Gd d) (h : isH d = true) : ∃ a names body, d = .tuple [.str a, namesD names, body] ∧ isNm (.str a) = true ∧ names.length ≤ 3 ∧ (∀ x ∈ names, PyData.strOk x = true) ∧ PyData.strOk a = true ∧ Gd body := by
  match d, h, hg with
  | .tuple [a, .tuple ns, body], h, hg =>
    simp only [isH, Bool.and_eq_true] at h
    obtain ⟨x, rfl⟩ := nm_str h.1
    obtain ⟨xs, rfl, e⟩ := strs_of ns h.2.2.1
    obtain ⟨_, g⟩ := hg.tup
    have gn := (g (.tuple (xs.map .str)) (by simp)).tup.2
    exact ⟨x, xs, body, rfl, h.1, by simpa using h.2.1, fun y hy => (okS_ok (gn (.str y) (List.mem_map.mpr ⟨y, hy, rfl⟩)).str).1, (okS_ok (g (.str x) (by simp)).str).1, g body (by simp)⟩
theorem len_tup (xs : List D) (S : SS) : lenR S (.dat (.tuple xs)) = some (.dat (.int (xs.length : Nat))) := by simp
theorem nm_comp (FN : Fn) (hF : ∀ d, Gd d → ∀ S, FN [.dat d] S = some (.dat (.bool (isNm d)), S)) (th : D) (ns : List D) (hns : ∀ d ∈ ns, Gd d) (S : SS) (i1 : ixD th (.int 1) = some (.tuple ns)) :
    eComp [1] (iSeq (e2 ixR (eVar 0) (eC (.int 1)))) (gNm 1) tTrue (eCall FN (aCons (eVar 1) aNil)) [some (.dat th), none] S = some (.dat (.list (ns.map fun d => PyData.bool (isNm d))), S) := by
  refine eComp_ok (rs := ns.map fun d => R.dat d) (by simp [i1]) (CompOk.map (fun d => R.dat d) _ ns fun d hd => ⟨[some (.dat th), some (.dat d)], by simp, fun acc => ?_⟩)
  simp [hF d (hns d hd)]
theorem len_set {ns : List D} (h : (ns.all isNm) = true) (hl : ns.length ≤ 3) : lenSetD (.tuple ns) = some (.int (nubS [] (strsD ns)).length) := by
  obtain ⟨xs, rfl, e⟩ := strs_of ns h
  rw [List.length_map] at hl
  unfold strsD
  rw [e]
  show (match strsOf (xs.map .str) with
    | some xs => if xs.length ≤ 60 then some (PyData.int (nubS [] xs).length) else none
    | none => none) = _
  rw [e]
  simp only
  rw [if_pos (by omega)]
  rfl
theorem r_is_head {d : D} (hg : Gd d) (n : Nat) (S : SS) : Φ (n + 2) .is_head [.dat d] S = some (.dat (.bool (isH d)), S) := by
  rw [Φ_succ]; show b_is_head (Φ (n + 1)) _ S = _; unfold b_is_head; refine run_rt0 rfl ?_
  have F : ∀ d, Gd d → ∀ S, Φ (n + 1) .is_name [.dat d] S = some (.dat (.bool (isNm d)), S) := fun d hd S => r_is_name hd n S
  cases d with
  | dict _ => exact (no_dict hg).elim
  | tuple xs =>
    obtain ⟨g1, g2⟩ := hg.tup
    match xs, hg, g1, g2 with
    | [a, c, body], hg, g1, g2 =>
      have ga := g2 a (by simp)
      have gc := g2 c (by simp)
      have tc := isi_t gc
      have fa := F a ga S
      cases hn : isNm a with
      | false =>
        rw [hn] at fa
        have e : isH (.tuple [a, c, body]) = false := by
          cases c <;> simp [isH, hn]
        simp [startD, neD_int, fa, e]
      | true =>
        rw [hn] at fa
        cases c with
        | tuple ns =>
          have i1 : ixD (.tuple [a, .tuple ns, body]) (.int 1) = some (.tuple ns) := by simp
          have cc := nm_comp (Φ (n + 1) .is_name) F (.tuple [a, .tuple ns, body]) ns gc.tup.2 S i1
          have al := allD_p ns isNm
          by_cases hl : ns.length ≤ 3
          · have gt : gtD (.int (ns.length : Nat)) c_MOST_NAMES = some (.bool false) := by
              show some (PyData.bool (decide ((3 : Int) < (ns.length : Int)))) = _
              rw [decide_eq_false (by omega)]
            cases ha : ns.all isNm with
            | false =>
              rw [ha] at al
              have e : isH (.tuple [a, .tuple ns, body]) = false := by simp [isH, ha]
              simp [startD, neD_int, fa, gt, cc, al, e]
            | true =>
              rw [ha] at al
              have ls := len_set ha hl
              have e : isH (.tuple [a, .tuple ns, body]) = decide ((nubS [] (strsD ns)).length = ns.length) := by
                show (isNm a && (decide (ns.length ≤ 3) && (ns.all isNm && decide ((nubS [] (strsD ns)).length = ns.length)))) = _
                rw [hn, ha, decide_eq_true hl]
                rfl
              have eb : (((nubS [] (strsD ns)).length : Int) == (ns.length : Int)) = decide ((nubS [] (strsD ns)).length = ns.length) := by
                rw [Bool.eq_iff_iff]; simp only [beq_iff_eq, decide_eq_true_eq]; omega
              rw [e, ← eb]
              simp [startD, neD_int, fa, gt, cc, al, ls, eqD_int]
          · have gt : gtD (.int (ns.length : Nat)) c_MOST_NAMES = some (.bool true) := by
              show some (PyData.bool (decide ((3 : Int) < (ns.length : Int)))) = _
              rw [decide_eq_true (by omega)]
            have e : isH (.tuple [a, .tuple ns, body]) = false := by simp [isH, hl]
            simp [startD, neD_int, fa, gt, e]
        | _ =>
          simp [isT] at tc
          simp [startD, neD_int, fa, tc, isH]
    | [], _, _, _ => simp [startD, neD_int, isH]
    | [a], _, _, _ => simp [startD, neD_int, isH]
    | [a, c], _, _, _ => simp [startD, neD_int, isH]
    | a :: c :: y :: z :: r, _, _, _ =>
      have ne : neD (.int ((r.length : Int) + 1 + 1 + 1 + 1)) (.int 3) = some (.bool true) := by
        rw [neD_int]
        have : ((r.length : Int) + 1 + 1 + 1 + 1 == 3) = false := by rw [beq_eq_false_iff_ne]; omega
        rw [this]
        rfl
      simp [startD, ne, isH]
  | _ => simp [startD, isH]
/-! books -/
def pn : D → Str
  | .tuple (.str x :: _) => x
  | _ => ""
def pq : D → List Str
  | .tuple [_, .tuple ns, _] => strsD ns
  | _ => []
def pb : D → D
  | .tuple [_, _, y] => y
  | _ => .none
def kl (xs : List D) : List (Str × Nat) := xs.map fun p => (pn p, (pq p).length)
def kI (l : List (Str × Nat)) (f : Str) : Int := match l.find? fun p => decide (p.1 = f) with
  | some p => p.2
  | none => -1
theorem kI_get (l : List (Str × Nat)) (f : Str) : (getK (encH l) (Sum.inr f)).getD (.int (-1)) = .int (kI l f) := by
  induction l with
  | nil => rfl
  | cons p l ih =>
    unfold kI getK encH at ih ⊢
    rw [List.map_cons, List.find?_cons, List.find?_cons]
    by_cases e : p.1 = f
    · simp [e]
    · have e' : ¬ ((Sum.inr p.1 : Key) = Sum.inr f) := fun z => e (Sum.inr.inj z)
      simp only [e', decide_false, e]
      exact ih
def isB : D → Bool
  | .tuple xs => decide (1 ≤ xs.length) && (decide (xs.length ≤ 4) && (xs.all isH && (decide ((xs.map pn).Nodup) && xs.all fun p => isSm (pq p) (kI (kl xs)) 5 (pb p))))
  | _ => false
theorem mrg_len : ∀ (ps acc : List (Key × D)), (acc.map (·.1)).Nodup → (mergeD acc ps).length ≤ acc.length + ps.length ∧ ((mergeD acc ps).length = acc.length + ps.length → ((acc ++ ps).map (·.1)).Nodup)
  | [], acc, h => by simp [mergeD]; simpa using h
  | p :: ps, acc, h => by
    have e : mergeD acc (p :: ps) = mergeD (putD acc p.1 p.2) ps := rfl
    rw [e]
    by_cases hk : acc.any (fun kv => decide (kv.1 = p.1)) = true
    · have e2 : putD acc p.1 p.2 = acc.map (fun kv => if kv.1 = p.1 then (kv.1, p.2) else kv) := by unfold putD; rw [if_pos hk]
      have e3 : (putD acc p.1 p.2).map (·.1) = acc.map (·.1) := by
        rw [e2, List.map_map]
        refine List.map_congr_left fun x _ => ?_
        show (if x.1 = p.1 then (x.1, p.2) else x).1 = x.1
        split <;> rfl
      have e4 : (putD acc p.1 p.2).length = acc.length := by rw [e2, List.length_map]
      obtain ⟨h1, _⟩ := mrg_len ps (putD acc p.1 p.2) (by rw [e3]; exact h)
      rw [e4] at h1
      simp only [List.length_cons]
      exact ⟨by omega, fun h2 => by omega⟩
    · have e2 : putD acc p.1 p.2 = acc ++ [p] := by unfold putD; rw [if_neg hk]
      have nd : ((acc ++ [p]).map (·.1)).Nodup := by
        rw [List.map_append, List.nodup_append]
        refine ⟨h, by simp, fun x hx y hy e => ?_⟩
        simp at hy
        subst hy
        subst e
        obtain ⟨kv, hkv, e⟩ := List.mem_map.mp hx
        exact hk (List.any_eq_true.mpr ⟨kv, hkv, by simpa using e⟩)
      obtain ⟨h1, h2⟩ := mrg_len ps (acc ++ [p]) nd
      rw [e2]
      simp only [List.length_append, List.length_cons, List.length_nil] at h1 h2 ⊢
      refine ⟨by omega, fun h3 => ?_⟩
      have := h2 (by omega)
      simpa using this
theorem heads_nd {xs : List D} : ((encH (kl xs)).map (·.1)).Nodup ↔ (xs.map pn).Nodup := by
  have e : (encH (kl xs)).map (·.1) = (xs.map pn).map Sum.inr := by unfold encH kl; rw [List.map_map, List.map_map, List.map_map]; rfl
  rw [e]
  refine ⟨fun h => ?_, fun h => ?_⟩
  · exact List.Pairwise.imp (fun hab e => hab (by rw [e])) (List.pairwise_map.mp h)
  · exact List.pairwise_map.mpr (List.Pairwise.imp (fun hab e => hab (Sum.inr.inj e)) h)
end Cy
end
section
set_option Elab.async false
set_option maxRecDepth 100000
namespace Cy
open PySem L2
theorem strsD_map : ∀ names : List Str, strsOf (names.map .str) = some names
  | [] => rfl
  | x :: l => by
    rw [List.map_cons]
    unfold strsOf
    rw [strsD_map l]
theorem pq_eq (a : Str) (names : List Str) (body : D) : pq (.tuple [.str a, namesD names, body]) = names := by
  show (strsOf (names.map .str)).getD [] = names
  rw [strsD_map]
  rfl
theorem kn_some (l : List (Str × Nat)) (x : Str) : (getK (encH l) (Sum.inr x)).isSome = decide (x ∈ l.map (·.1)) := by
  induction l with
  | nil => rfl
  | cons p l ih =>
    unfold getK encH at ih ⊢
    rw [List.map_cons, List.find?_cons]
    by_cases e : p.1 = x
    · simp [e]
    · have e' : ¬ ((Sum.inr p.1 : Key) = Sum.inr x) := fun z => e (Sum.inr.inj z)
      simp only [e', decide_false, ih, List.map_cons, List.mem_cons]
      rw [Bool.eq_iff_iff]
      simp [Ne.symm e]
theorem pairs_encH : ∀ l : List (Str × Nat), pairsOf (l.map fun p => PyData.tuple [.str p.1, .int p.2]) = some (encH l)
  | [] => rfl
  | p :: l => by
    rw [List.map_cons]
    unfold pairsOf
    simp only [keyOf, pairs_encH l]
    rfl
theorem kl_fst (xs : List D) : (kl xs).map (·.1) = xs.map pn := by unfold kl; rw [List.map_map]; rfl
theorem r_is_book {d : D} (hg : Gd d) (n : Nat) (S : SS) : Φ (n + 13) .is_book_k01 [.dat d] S = some (.dat (.bool (isB d)), S) := by
  rw [Φ_succ]; show b_is_book_k01 (Φ (n + 12)) _ S = _; unfold b_is_book_k01; refine run_rt0 rfl ?_
  cases d with
  | dict _ => exact (no_dict hg).elim
  | tuple xs =>
    obtain ⟨g1, g2⟩ := hg.tup
    have ch : ∀ δ : Dl, δ[0]? = some (some (.dat (.tuple xs))) → eChain (l2 leD) (l2 leD) (eC (.int 1)) (e1 lenR (eVar 0)) (eC c_MOST_MAKERS) δ S = some (.dat (.bool (decide (1 ≤ xs.length) && decide (xs.length ≤ 4))), S) := fun δ h0 => by
      unfold eChain
      by_cases e : 1 ≤ xs.length
      · have e' : (1 : Int) ≤ (xs.length : Int) := by omega
        simp [h0, leD, e', e, c_MOST_MAKERS]
        omega
      · have e' : ¬ (1 : Int) ≤ (xs.length : Int) := by omega
        simp [h0, leD, e', e]
    have ch := ch [some (.dat (.tuple xs)), none, none] rfl
    by_cases eb : (decide (1 ≤ xs.length) && decide (xs.length ≤ 4)) = true
    · rw [eb] at ch
      have c1 : eComp [2] (iSeq (eVar 0)) (gNm 2) tTrue (eCall (Φ (n + 12) .is_head) (aCons (eVar 2) aNil)) [some (.dat (.tuple xs)), none, none] S = some (.dat (.list (xs.map fun d => PyData.bool (isH d))), S) := by
        refine eComp_ok (rs := xs.map fun d => R.dat d) (by simp) (CompOk.map (fun d => R.dat d) _ xs fun d hd => ⟨[some (.dat (.tuple xs)), none, some (.dat d)], by simp, fun acc => ?_⟩)
        simp [r_is_head (g2 d hd) (n + 10)]
      have al := allD_p xs isH
      cases ha : xs.all isH with
      | false =>
        rw [ha] at al
        have e : isB (.tuple xs) = false := by simp [isB, ha]
        simp [startD, ch, c1, al, e]
      | true =>
        rw [ha] at al
        have form := fun p hp => isH_form (g2 p hp) (List.all_eq_true.mp ha p hp)
        have c2 : eComp [2] (iSeq (eVar 0)) (gNm 2) tTrue (eN tupR (aCons (e2 ixR (eVar 2) (eC (.int 0))) (aCons (e1 lenR (e2 ixR (eVar 2) (eC (.int 1)))) aNil))) [some (.dat (.tuple xs)), none, none] S = some (.dat (.list ((kl xs).map fun p => PyData.tuple [.str p.1, .int p.2])), S) := by
          unfold kl
          rw [List.map_map]
          refine eComp_ok (rs := xs.map fun d => R.dat d) (by simp) (CompOk.map (fun d => R.dat d) _ xs fun d hd => ⟨[some (.dat (.tuple xs)), none, some (.dat d)], by simp, fun acc => ?_⟩)
          obtain ⟨a, names, body, rfl, _⟩ := form d hd
          have k0 : ixD (.tuple [.str a, namesD names, body]) (.int 0) = some (.str a) := by simp
          have k1 : ixD (.tuple [.str a, namesD names, body]) (.int 1) = some (namesD names) := by simp
          have ln : lenR (S ++ [.lst acc]) (.dat (namesD names)) = some (.dat (.int names.length)) := by simp [namesD]
          simp [k0, k1, ln, pq_eq, pn]
        have dr : dicR S (.dat (.list ((kl xs).map fun p => PyData.tuple [.str p.1, .int p.2]))) = some (.dic (mergeD [] (encH (kl xs)))) := by
          unfold dicR
          simp only [asD_dat, pairs_encH]
        have ll : (encH (kl xs)).length = xs.length := by simp [encH, kl]
        obtain ⟨m1, m2⟩ := mrg_len (encH (kl xs)) [] (by simp)
        simp only [List.length_nil, Nat.zero_add, List.nil_append, ll] at m1 m2
        have lm : lenR S (.dic (mergeD [] (encH (kl xs)))) = some (.dat (.int ((mergeD [] (encH (kl xs))).length : Nat))) := rfl
        have lx := len_tup xs S
        refine sqS (δ1 := [some (.dat (.tuple xs)), none, none]) (S1 := S) (by simp [startD, ch, c1, al]) ?_
        refine sqS (δ1 := [some (.dat (.tuple xs)), some (.dic (mergeD [] (encH (kl xs)))), none]) (S1 := S) (by
          rw [sAsg_eq, e1_eq, c2]
          simp [dr]) ?_
        by_cases nd : (xs.map pn).Nodup
        · have nd2 := heads_nd.mpr nd
          have me : mergeD [] (encH (kl xs)) = encH (kl xs) := mergeD_nodup _ _ (by rw [List.nil_append]; exact nd2)
          rw [me, ll] at lm
          rw [me]
          have ne : neD (.int (xs.length : Nat)) (.int (xs.length : Nat)) = some (.bool false) := by rw [neD_int]; simp
          refine sqS (δ1 := [some (.dat (.tuple xs)), some (.dic (encH (kl xs))), none]) (S1 := S) (by
            have v1 : eVar 1 [some (.dat (.tuple xs)), some (.dic (encH (kl xs))), none] S = some (.dic (encH (kl xs)), S) := rfl
            have v0 : eVar 0 [some (.dat (.tuple xs)), some (.dic (encH (kl xs))), none] S = some (.dat (.tuple xs), S) := rfl
            rw [sIf_eq, tOf_eq, e2_eq, e1_eq, v1]
            simp only [lm, e1_eq, v0, lx, l2_dat, ne]
            simp) ?_
          have kn : ∀ T, Kn (.dic (encH (kl xs))) (kI (kl xs)) (S ++ T) := fun T => ⟨encH (kl xs), fun _ => rfl, fun f => kI_get _ f⟩
          have c3 : eComp [2] (iSeq (eVar 0)) (gNm 2) tTrue (eCall (Φ (n + 12) .is_sum) (aCons (e2 ixR (eVar 2) (eC (.int 2))) (aCons (e2 ixR (eVar 2) (eC (.int 1))) (aCons (eVar 1) (aCons (eC c_DEEPEST) aNil))))) [some (.dat (.tuple xs)), some (.dic (encH (kl xs))), none] S = some (.dat (.list (xs.map fun p => PyData.bool (isSm (pq p) (kI (kl xs)) 5 (pb p)))), S) := by
            refine eComp_ok (rs := xs.map fun d => R.dat d) (by simp) (CompOk.map (fun d => R.dat d) _ xs fun d hd => ⟨[some (.dat (.tuple xs)), some (.dic (encH (kl xs))), some (.dat d)], by simp, fun acc => ?_⟩)
            obtain ⟨a, names, body, rfl, _, _, hn, _, gb⟩ := form d hd
            have k1 : ixD (.tuple [.str a, namesD names, body]) (.int 1) = some (namesD names) := by simp
            have k2 : ixD (.tuple [.str a, namesD names, body]) (.int 2) = some body := by simp
            have q := r_is_sum (names := names) hn 5 body gb n (S ++ [.lst acc]) (kn [.lst acc])
            rw [show n + 2 * 5 + 2 = n + 12 by omega] at q
            have cd : c_DEEPEST = .int ((5 : Nat) : Int) := rfl
            rw [pq_eq, show pb (.tuple [.str a, namesD names, body]) = body from rfl]
            have e5 : (eC c_DEEPEST) [some (.dat (.tuple xs)), some (.dic (encH (kl xs))), some (.dat (.tuple [.str a, namesD names, body]))] (S ++ [.lst acc]) = some (.dat (.int ((5 : Nat) : Int)), S ++ [.lst acc]) := rfl
            have v2 : eVar 2 [some (.dat (.tuple xs)), some (.dic (encH (kl xs))), some (.dat (.tuple [.str a, namesD names, body]))] (S ++ [.lst acc]) = some (.dat (.tuple [.str a, namesD names, body]), S ++ [.lst acc]) := rfl
            have v1 : eVar 1 [some (.dat (.tuple xs)), some (.dic (encH (kl xs))), some (.dat (.tuple [.str a, namesD names, body]))] (S ++ [.lst acc]) = some (.dic (encH (kl xs)), S ++ [.lst acc]) := rfl
            simp only [eCall_eq, aCons_eq, aNil_eq, e2_eq, v2, v1, e5, eC_eq, ixR_dat, l2_dat, k1, k2, q]
          have al2 := allD_p xs fun p => isSm (pq p) (kI (kl xs)) 5 (pb p)
          have e : isB (.tuple xs) = xs.all fun p => isSm (pq p) (kI (kl xs)) 5 (pb p) := by
            show (decide (1 ≤ xs.length) && (decide (xs.length ≤ 4) && (xs.all isH && (decide ((xs.map pn).Nodup) && xs.all fun p => isSm (pq p) (kI (kl xs)) 5 (pb p))))) = _
            rw [ha, decide_eq_true nd, ← Bool.and_assoc, eb]
            rfl
          rw [sRet_eq, e1_eq, c3]
          simp only [l1_dat, al2, e]
        · have ne : neD (.int ((mergeD [] (encH (kl xs))).length : Nat)) (.int (xs.length : Nat)) = some (.bool true) := by
            rw [neD_int]
            have : ((((mergeD [] (encH (kl xs))).length : Nat) : Int) == (xs.length : Nat)) = false := by
              rw [beq_eq_false_iff_ne]
              intro h
              exact nd (heads_nd.mp (m2 (by omega)))
            rw [this]
            rfl
          have e : isB (.tuple xs) = false := by simp [isB, nd]
          have v1 : eVar 1 [some (.dat (.tuple xs)), some (.dic (mergeD [] (encH (kl xs)))), none] S = some (.dic (mergeD [] (encH (kl xs))), S) := rfl
          have v0 : eVar 0 [some (.dat (.tuple xs)), some (.dic (mergeD [] (encH (kl xs)))), none] S = some (.dat (.tuple xs), S) := rfl
          have t : tOf (e2 (l2 neD) (e1 lenR (eVar 1)) (e1 lenR (eVar 0))) [some (.dat (.tuple xs)), some (.dic (mergeD [] (encH (kl xs)))), none] S = some (true, S) := by
            rw [tOf_eq, e2_eq, e1_eq, v1]
            simp only [lm, e1_eq, v0, lx, l2_dat, ne]
          rw [sSeq_eq, sIf_eq, t, e]
          simp
    · have e' : (decide (1 ≤ xs.length) && decide (xs.length ≤ 4)) = false := by simpa using eb
      rw [e'] at ch
      have e : isB (.tuple xs) = false := by
        show (decide (1 ≤ xs.length) && (decide (xs.length ≤ 4) && (xs.all isH && (decide ((xs.map pn).Nodup) && xs.all fun p => isSm (pq p) (kI (kl xs)) 5 (pb p))))) = _
        rw [← Bool.and_assoc, e']
        rfl
      simp [startD, ch, e]
  | _ => simp [startD, isB]
end Cy
end
section
set_option Elab.async false
set_option maxRecDepth 100000
namespace Cy
open PySem L2
noncomputable abbrev lbI (n : Nat) : Sm := (sSeq (sIf (tOr' (tNo (tOf (e1 (l1 (isiD "tuple")) (eVar 2)))) (tOr' (tOf (e2 (l2 neD) (e1 lenR (eVar 2)) (eC (.int 3)))) (tOr' (tNo (tOf (eCall (Φ n .law_is_name) (aCons (e2 ixR (eVar 2) (eC (.int 0))) aNil)))) (tOf (e2 inR (e2 ixR (eVar 2) (eC (.int 0))) (eVar 1))))))
  (sRet (eC (.bool false)))
  sSkip)
  (sSeq (sIf (tOr' (tNo (tOf (e1 (l1 (isiD "tuple")) (e2 ixR (eVar 2) (eC (.int 1)))))) (tOf (e2 (l2 gtD) (e1 lenR (e2 ixR (eVar 2) (eC (.int 1)))) (eC (.int 3)))))
  (sRet (eC (.bool false)))
  sSkip)
  (sSeq (sIf (tOr' (tOf (e2 (l2 neD) (eComp [3] (iSeq (e2 ixR (eVar 2) (eC (.int 1)))) (gNm 3) (tNo (tOf (eCall (Φ n .law_is_name) (aCons (eVar 3) aNil)))) (eVar 3)) (eN lstR aNil))) (tOf (e2 (l2 neD) (e1 (l1 lenSetD) (e2 ixR (eVar 2) (eC (.int 1)))) (e1 lenR (e2 ixR (eVar 2) (eC (.int 1)))))))
  (sRet (eC (.bool false)))
  sSkip)
  (sDput (eVar 1) (e2 ixR (eVar 2) (eC (.int 0))) (e1 lenR (e2 ixR (eVar 2) (eC (.int 1))))))))
theorem putD_nw {kvs : List (Key × D)} {k : Key} {d : D} (h : ∀ p ∈ kvs, p.1 ≠ k) : putD kvs k d = kvs ++ [(k, d)] := by
  unfold putD
  rw [if_neg]
  intro e
  obtain ⟨p, hp, e⟩ := List.any_eq_true.mp e
  exact h p hp (by simpa using e)
def dB (xs : List D) (S : SS) (p : Option R) : Dl := [some (.dat (.tuple xs)), some (.obj S.length), p, none]
/-- one part -/
theorem lb_one (xs : List D) {p : D} (hg : Gd p) (l : List (Str × Nat)) (hl : l.length ≤ 60) (n : Nat) (S : SS) :
    lbI (n + 1) (dB xs S (some (.dat p))) (S ++ [.dic (encH l)]) = if isH p = true ∧ ¬ pn p ∈ l.map (·.1) then some (.nx (dB xs S (some (.dat p))), S ++ [.dic (encH (l ++ [(pn p, (pq p).length)]))]) else some (.rt (.dat (.bool false)), S ++ [.dic (encH l)]) := by
  have F : ∀ d, Gd d → ∀ S, Φ (n + 1) .law_is_name [.dat d] S = some (.dat (.bool (isNm d)), S) := fun d hd S => r_law_is_name hd n S
  have no : ∀ {q : D}, isH q = false → ¬ (isH q = true ∧ ¬ pn q ∈ l.map (·.1)) := fun e h => by rw [e] at h; cases h.1
  cases p with
  | dict _ => exact (no_dict hg).elim
  | tuple ys =>
    obtain ⟨g1, g2⟩ := hg.tup
    match ys, hg, g1, g2 with
    | [a, c, body], hg, g1, g2 =>
      have ga := g2 a (by simp)
      have gc := g2 c (by simp)
      have tc := isi_t gc
      have fa := F a ga (S ++ [.dic (encH l)])
      cases hn : isNm a with
      | false =>
        rw [hn] at fa
        have e : isH (.tuple [a, c, body]) = false := by cases c <;> simp [isH, hn]
        rw [if_neg (no e)]
        simp [dB, neD_int, fa]
      | true =>
        rw [hn] at fa
        obtain ⟨x, rfl⟩ := nm_str hn
        have kv : asKv (S ++ [.dic (encH l)]) (.obj S.length) = some (encH l) := by unfold asKv; simp
        have inn : inR (S ++ [.dic (encH l)]) (.dat (.str x)) (.obj S.length) = some (.dat (.bool (decide (x ∈ l.map (·.1))))) := by
          unfold inR
          simp only [kv, keyOf, kn_some]
        have pe : pn (.tuple [.str x, c, body]) = x := rfl
        by_cases hx : x ∈ l.map (·.1)
        · rw [if_neg (by rw [pe]; exact fun h => h.2 hx)]
          rw [decide_eq_true hx] at inn
          simp [dB, neD_int, fa, inn]
        · rw [decide_eq_false hx] at inn
          cases c with
          | tuple ns =>
            have gn := gc.tup.2
            have i1 : ixD (.tuple [.str x, .tuple ns, body]) (.int 1) = some (.tuple ns) := by simp
            have i0 : ixD (.tuple [.str x, .tuple ns, body]) (.int 0) = some (.str x) := by simp
            refine (sqS (δ1 := dB xs S (some (.dat (.tuple [.str x, .tuple ns, body])))) (S1 := S ++ [.dic (encH l)]) (by simp [dB, neD_int, fa, inn]) rfl).trans ?_
            by_cases h3 : ns.length ≤ 3
            · have gt : gtD (.int (ns.length : Nat)) (.int 3) = some (.bool false) := by
                show some (PyData.bool (decide ((3 : Int) < (ns.length : Int)))) = _
                rw [decide_eq_false (by omega)]
              refine (sqS (δ1 := dB xs S (some (.dat (.tuple [.str x, .tuple ns, body])))) (S1 := S ++ [.dic (encH l)]) (by simp [dB, gt]) rfl).trans ?_
              have cc : eComp [3] (iSeq (e2 ixR (eVar 2) (eC (.int 1)))) (gNm 3) (tNo (tOf (eCall (Φ (n + 1) .law_is_name) (aCons (eVar 3) aNil)))) (eVar 3) (dB xs S (some (.dat (.tuple [.str x, .tuple ns, body])))) (S ++ [.dic (encH l)]) = some (.dat (.list (ns.filter fun d => !isNm d)), S ++ [.dic (encH l)]) := by
                have := eComp_ok (own := [3]) (src := iSeq (e2 ixR (eVar 2) (eC (.int 1)))) (g := gNm 3) (c := tNo (tOf (eCall (Φ (n + 1) .law_is_name) (aCons (eVar 3) aNil)))) (e := eVar 3) (δ := dB xs S (some (.dat (.tuple [.str x, .tuple ns, body])))) (S := S ++ [.dic (encH l)]) (S1 := S ++ [.dic (encH l)]) (rs := ns.map fun d => R.dat d) (by simp [dB]) (CompOk.filter (fun d => R.dat d) (fun d => !isNm d) (fun d => d) ns fun d hd => ⟨[some (.dat (.tuple xs)), some (.obj S.length), some (.dat (.tuple [.str x, .tuple ns, body])), some (.dat d)], by simp [dB], fun acc => by simp [F d (gn d hd)], fun _ acc => by simp⟩)
                rw [List.map_id'] at this
                exact this
              have en := (eq_none gn isNm).2
              have hnil : eN lstR aNil (dB xs S (some (.dat (.tuple [.str x, .tuple ns, body])))) (S ++ [.dic (encH l)]) = some (.dat (.list []), S ++ [.dic (encH l)]) := by simp
              have v21 : (e2 ixR (eVar 2) (eC (.int 1))) (dB xs S (some (.dat (.tuple [.str x, .tuple ns, body])))) (S ++ [.dic (encH l)]) = some (.dat (.tuple ns), S ++ [.dic (encH l)]) := by simp [dB]
              have v20 : (e2 ixR (eVar 2) (eC (.int 0))) (dB xs S (some (.dat (.tuple [.str x, .tuple ns, body])))) (S ++ [.dic (encH l)]) = some (.dat (.str x), S ++ [.dic (encH l)]) := by simp [dB]
              have ln := len_tup ns (S ++ [.dic (encH l)])
              cases ha : ns.all isNm with
              | false =>
                rw [ha] at en
                have e : isH (.tuple [.str x, .tuple ns, body]) = false := by simp [isH, ha]
                rw [if_neg (no e), sSeq_eq, sIf_eq, tOr_eq, tOf_eq, e2_eq, cc]
                simp only [hnil, l2_dat, en]
                simp
              | true =>
                rw [ha] at en
                have ls := len_set ha h3
                have e : isH (.tuple [.str x, .tuple ns, body]) = decide ((nubS [] (strsD ns)).length = ns.length) := by
                  show (isNm (.str x) && (decide (ns.length ≤ 3) && (ns.all isNm && decide ((nubS [] (strsD ns)).length = ns.length)))) = _
                  rw [hn, ha, decide_eq_true h3]
                  rfl
                have t : tOr' (tOf (e2 (l2 neD) (eComp [3] (iSeq (e2 ixR (eVar 2) (eC (.int 1)))) (gNm 3) (tNo (tOf (eCall (Φ (n + 1) .law_is_name) (aCons (eVar 3) aNil)))) (eVar 3)) (eN lstR aNil))) (tOf (e2 (l2 neD) (e1 (l1 lenSetD) (e2 ixR (eVar 2) (eC (.int 1)))) (e1 lenR (e2 ixR (eVar 2) (eC (.int 1)))))) (dB xs S (some (.dat (.tuple [.str x, .tuple ns, body])))) (S ++ [.dic (encH l)]) = some (!decide ((nubS [] (strsD ns)).length = ns.length), S ++ [.dic (encH l)]) := by
                  have eb : (((nubS [] (strsD ns)).length : Int) == (ns.length : Int)) = decide ((nubS [] (strsD ns)).length = ns.length) := by
                    rw [Bool.eq_iff_iff]; simp only [beq_iff_eq, decide_eq_true_eq]; omega
                  have w1 : (e1 (l1 lenSetD) (e2 ixR (eVar 2) (eC (.int 1)))) (dB xs S (some (.dat (.tuple [.str x, .tuple ns, body])))) (S ++ [.dic (encH l)]) = some (.dat (.int (nubS [] (strsD ns)).length), S ++ [.dic (encH l)]) := by
                    rw [e1_eq, v21]
                    simp only [l1_dat, ls]
                  have w2 : (e1 lenR (e2 ixR (eVar 2) (eC (.int 1)))) (dB xs S (some (.dat (.tuple [.str x, .tuple ns, body])))) (S ++ [.dic (encH l)]) = some (.dat (.int (ns.length : Nat)), S ++ [.dic (encH l)]) := by
                    rw [e1_eq, v21]
                    simp only [ln]
                  have t1 : tOf (e2 (l2 neD) (eComp [3] (iSeq (e2 ixR (eVar 2) (eC (.int 1)))) (gNm 3) (tNo (tOf (eCall (Φ (n + 1) .law_is_name) (aCons (eVar 3) aNil)))) (eVar 3)) (eN lstR aNil)) (dB xs S (some (.dat (.tuple [.str x, .tuple ns, body])))) (S ++ [.dic (encH l)]) = some (false, S ++ [.dic (encH l)]) := by
                    rw [tOf_eq, e2_eq, cc]
                    simp only [hnil, l2_dat, en, Bool.not_true]
                  have t2 : tOf (e2 (l2 neD) (e1 (l1 lenSetD) (e2 ixR (eVar 2) (eC (.int 1)))) (e1 lenR (e2 ixR (eVar 2) (eC (.int 1))))) (dB xs S (some (.dat (.tuple [.str x, .tuple ns, body])))) (S ++ [.dic (encH l)]) = some (!decide ((nubS [] (strsD ns)).length = ns.length), S ++ [.dic (encH l)]) := by
                    rw [tOf_eq, e2_eq, w1]
                    simp only [w2, l2_dat, neD_int, eb]
                  rw [tOr_eq, t1]
                  simp only [Bool.false_eq_true, if_false, t2]
                by_cases hs : (nubS [] (strsD ns)).length = ns.length
                · rw [decide_eq_true hs] at e t
                  have lk : lookK (S ++ [.dic (encH l)]) S.length = some (encH l) := by unfold lookK; simp
                  have sz : (encH l).length < sizeLine := by
                    have : (encH l).length = l.length := by simp [encH]
                    rw [this, sizeLine_eq]; omega
                  have pnew := putD_nw (kvs := encH l) (k := Sum.inr x) (d := PyData.int (ns.length : Nat)) (fun q hq => by
                    obtain ⟨z, hz, rfl⟩ := List.mem_map.mp hq
                    exact fun e => hx (List.mem_map.mpr ⟨z, hz, Sum.inr.inj e⟩))
                  have v1 : eVar 1 (dB xs S (some (.dat (.tuple [.str x, .tuple ns, body])))) (S ++ [.dic (encH l)]) = some (.obj S.length, S ++ [.dic (encH l)]) := rfl
                  have pql : (pq (.tuple [.str x, .tuple ns, body])).length = ns.length := by
                    obtain ⟨zs, rfl, ez⟩ := strs_of ns ha
                    show (strsD (zs.map .str)).length = _
                    unfold strsD
                    rw [ez]
                    simp
                  have ee : encH l ++ [(Sum.inr x, PyData.int (ns.length : Nat))] = encH (l ++ [(x, ns.length)]) := by simp [encH]
                  rw [if_pos ⟨e, by rw [pe]; exact hx⟩, pe, pql, sSeq_eq, sIf_eq, t]
                  simp only [Bool.not_true, Bool.false_eq_true, if_false, sSkip_eq]
                  simp only [sDput, v1, v20, e1_eq, v21, ln, keyOf, lk, if_pos sz, pnew, ee]
                  simp
                · rw [decide_eq_false hs] at e t
                  rw [if_neg (no e), sSeq_eq, sIf_eq, t]
                  simp
            · have gt : gtD (.int (ns.length : Nat)) (.int 3) = some (.bool true) := by
                show some (PyData.bool (decide ((3 : Int) < (ns.length : Int)))) = _
                rw [decide_eq_true (by omega)]
              have e : isH (.tuple [.str x, .tuple ns, body]) = false := by simp [isH, h3]
              rw [if_neg (no e)]
              simp [dB, gt]
          | _ =>
            simp [isT] at tc
            rw [if_neg (no (by simp [isH]))]
            simp [dB, neD_int, fa, inn, tc]
    | [], _, _, _ => rw [if_neg (no (by simp [isH]))]; simp [dB, neD_int]
    | [a], _, _, _ => rw [if_neg (no (by simp [isH]))]; simp [dB, neD_int]
    | [a, c], _, _, _ => rw [if_neg (no (by simp [isH]))]; simp [dB, neD_int]
    | a :: c :: y :: z :: r, _, _, _ =>
      have ne : neD (.int ((r.length : Int) + 1 + 1 + 1 + 1)) (.int 3) = some (.bool true) := by
        rw [neD_int]
        have : ((r.length : Int) + 1 + 1 + 1 + 1 == 3) = false := by rw [beq_eq_false_iff_ne]; omega
        rw [this]
        rfl
      rw [if_neg (no (by simp [isH]))]
      simp [dB, ne]
  | _ => rw [if_neg (no (by simp [isH]))]; simp [dB]
end Cy
end
section
set_option Elab.async false
set_option maxRecDepth 100000
namespace Cy
open PySem L2
theorem lb_loop (xs : List D) (h4 : xs.length ≤ 4) (n : Nat) (S : SS) : ∀ (rest pre : List D), xs = pre ++ rest → (∀ p ∈ rest, Gd p) → pre.all isH = true → (pre.map pn).Nodup →
    ∃ kvs, forL (gNm 2) (lbI (n + 1)) [2] none (rest.map fun d => R.dat d) (dB xs S none) (S ++ [.dic (encH (kl pre))]) = some (if (xs.all isH && decide ((xs.map pn).Nodup)) = true then .nx (dB xs S none) else .rt (.dat (.bool false)), S ++ [.dic kvs]) ∧ ((xs.all isH && decide ((xs.map pn).Nodup)) = true → kvs = encH (kl xs))
  | [], pre, hx, _, hp, nd => by
    rw [List.append_nil] at hx
    subst hx
    refine ⟨encH (kl xs), ?_, fun _ => rfl⟩
    rw [hp, decide_eq_true nd]
    simp
  | p :: rest, pre, hx, hg, hp, nd => by
    have one := lb_one xs (hg p List.mem_cons_self) (kl pre) (by simp [kl]; rw [hx] at h4; simp at h4; omega) n S
    rw [kl_fst] at one
    have set2 : (dB xs S none).set 2 (some (.dat p)) = dB xs S (some (.dat p)) := rfl
    have clr2 : clrS [2] (dB xs S (some (.dat p))) = dB xs S none := rfl
    by_cases hc : isH p = true ∧ ¬ pn p ∈ pre.map pn
    · rw [if_pos hc] at one
      have ek : kl pre ++ [(pn p, (pq p).length)] = kl (pre ++ [p]) := by simp [kl]
      rw [ek] at one
      obtain ⟨kvs, h1, h2⟩ := lb_loop xs h4 n S rest (pre ++ [p]) (by rw [hx]; simp) (fun y hy => hg y (List.mem_cons_of_mem _ hy)) (by rw [List.all_append, hp]; simp [hc.1]) (by
        rw [List.map_append, List.nodup_append]
        exact ⟨nd, by simp, fun a ha c hcc e => by simp at hcc; subst hcc; subst e; exact hc.2 ha⟩)
      refine ⟨kvs, ?_, h2⟩
      rw [← h1]
      exact (forL_consG (δ1 := dB xs S (some (.dat p))) (δ2 := dB xs S (some (.dat p))) (by simp [dB]) one (show Stays none _ from trivial)).trans rfl
    · rw [if_neg hc] at one
      have bad : (xs.all isH && decide ((xs.map pn).Nodup)) = false := by
        rw [Bool.eq_false_iff]
        intro h
        rw [Bool.and_eq_true, List.all_eq_true, decide_eq_true_eq] at h
        refine hc ⟨h.1 p (by rw [hx]; simp), fun hin => ?_⟩
        have nd2 := h.2
        rw [hx, List.map_append, List.map_cons, List.nodup_append] at nd2
        exact nd2.2.2 _ hin _ List.mem_cons_self rfl
      refine ⟨encH (kl pre), ?_, fun h => by rw [bad] at h; cases h⟩
      rw [bad, List.map_cons, forL_cons]
      simp only [gNm_eq, set2, one]
      simp [dB]
theorem r_law_is_book {d : D} (hg : Gd d) (n : Nat) (S : SS) : Φ (n + 7) .law_is_book [.dat d] S = some (.dat (.bool (isB d)), S) := by
  rw [Φ_succ]; show b_law_is_book (Φ (n + 6)) _ S = _; unfold b_law_is_book
  cases d with
  | dict _ => exact (no_dict hg).elim
  | tuple xs =>
    obtain ⟨g1, g2⟩ := hg.tup
    have ch : ∀ δ : Dl, δ[0]? = some (some (.dat (.tuple xs))) → eChain (l2 leD) (l2 leD) (eC (.int 1)) (e1 lenR (eVar 0)) (eC (.int 4)) δ S = some (.dat (.bool (decide (1 ≤ xs.length) && decide (xs.length ≤ 4))), S) := fun δ h0 => by
      unfold eChain
      by_cases e : 1 ≤ xs.length
      · have e' : (1 : Int) ≤ (xs.length : Int) := by omega
        simp [h0, leD, e', e]
        omega
      · have e' : ¬ (1 : Int) ≤ (xs.length : Int) := by omega
        simp [h0, leD, e', e]
    have ch := ch [some (.dat (.tuple xs)), none, none, none] rfl
    by_cases eb : (decide (1 ≤ xs.length) && decide (xs.length ≤ 4)) = true
    · rw [eb] at ch
      have h4 : xs.length ≤ 4 := by simp at eb; exact eb.2
      obtain ⟨kvs, lp, lk⟩ := lb_loop xs h4 (n + 5) S xs [] rfl g2 rfl (by simp)
      have e : isB (.tuple xs) = ((xs.all isH && decide ((xs.map pn).Nodup)) && xs.all fun p => isSm (pq p) (kI (kl xs)) 5 (pb p)) := by
        show (decide (1 ≤ xs.length) && (decide (xs.length ≤ 4) && (xs.all isH && (decide ((xs.map pn).Nodup) && xs.all fun p => isSm (pq p) (kI (kl xs)) 5 (pb p))))) = _
        rw [← Bool.and_assoc, eb, Bool.true_and, Bool.and_assoc]
      rw [e]
      refine run_rt (S' := [.dic kvs]) rfl ?_
      refine sqS (δ1 := [some (.dat (.tuple xs)), none, none, none]) (S1 := S) (by simp [startD, ch]) ?_
      refine sqS (δ1 := dB xs S none) (S1 := S ++ [.dic []]) (by simp [dB]) ?_
      have it : iSeq (eVar 0) (dB xs S none) (S ++ [.dic []]) = some (xs.map (fun d => R.dat d), none, S ++ [.dic []]) := by simp [dB]
      cases hc : (xs.all isH && decide ((xs.map pn).Nodup)) with
      | false =>
        rw [hc] at lp
        rw [sSeq_eq, sFor_eq, it]
        have lp : forL (gNm 2) (lbI (n + 6)) [2] none (xs.map fun d => R.dat d) (dB xs S none) (S ++ [.dic []]) = some (.rt (.dat (.bool false)), S ++ [.dic kvs]) := lp
        simp only [lp]
        rfl
      | true =>
        rw [hc] at lp
        have ek := lk hc
        subst ek
        rw [Bool.and_eq_true] at hc
        refine sqS (δ1 := dB xs S none) (S1 := S ++ [.dic (encH (kl xs))]) (by rw [sFor_eq, it]; exact lp) ?_
        have form := fun p hp => isH_form (g2 p hp) (List.all_eq_true.mp hc.1 p hp)
        have kn : Kn (.obj S.length) (kI (kl xs)) (S ++ [.dic (encH (kl xs))]) := ⟨encH (kl xs), fun T => by unfold asKv; simp, fun f => kI_get _ f⟩
        have c3 : eComp [2] (iSeq (eVar 0)) (gNm 2) (tNo (tOf (eCall (Φ (n + 6) .law_is_sum) (aCons (e2 ixR (eVar 2) (eC (.int 2))) (aCons (e2 ixR (eVar 2) (eC (.int 1))) (aCons (eVar 1) (aCons (eC (.int 5)) aNil))))))) (eVar 2) (dB xs S none) (S ++ [.dic (encH (kl xs))]) = some (.dat (.list (xs.filter fun p => !isSm (pq p) (kI (kl xs)) 5 (pb p))), S ++ [.dic (encH (kl xs))]) := by
          have := eComp_ok (own := [2]) (src := iSeq (eVar 0)) (g := gNm 2) (c := tNo (tOf (eCall (Φ (n + 6) .law_is_sum) (aCons (e2 ixR (eVar 2) (eC (.int 2))) (aCons (e2 ixR (eVar 2) (eC (.int 1))) (aCons (eVar 1) (aCons (eC (.int 5)) aNil))))))) (e := eVar 2) (δ := dB xs S none) (S := S ++ [.dic (encH (kl xs))]) (S1 := S ++ [.dic (encH (kl xs))]) (rs := xs.map fun d => R.dat d) (by simp [dB]) (CompOk.filter (fun d => R.dat d) (fun p => !isSm (pq p) (kI (kl xs)) 5 (pb p)) (fun d => d) xs fun d hd => ⟨dB xs S (some (.dat d)), by simp [dB], fun acc => by
            obtain ⟨a, names, body, rfl, _, _, hn, _, gb⟩ := form d hd
            have k1 : ixD (.tuple [.str a, namesD names, body]) (.int 1) = some (namesD names) := by simp
            have k2 : ixD (.tuple [.str a, namesD names, body]) (.int 2) = some body := by simp
            have q := r_law_is_sum (names := names) hn 5 body gb n (S ++ [.dic (encH (kl xs))] ++ [.lst acc]) (kn.app _)
            rw [show n + 5 + 1 = n + 6 by omega] at q
            rw [pq_eq, show pb (.tuple [.str a, namesD names, body]) = body from rfl]
            have e5 : (eC (.int 5)) (dB xs S (some (.dat (.tuple [.str a, namesD names, body])))) (S ++ [.dic (encH (kl xs))] ++ [.lst acc]) = some (.dat (.int ((5 : Nat) : Int)), S ++ [.dic (encH (kl xs))] ++ [.lst acc]) := rfl
            have v2 : eVar 2 (dB xs S (some (.dat (.tuple [.str a, namesD names, body])))) (S ++ [.dic (encH (kl xs))] ++ [.lst acc]) = some (.dat (.tuple [.str a, namesD names, body]), S ++ [.dic (encH (kl xs))] ++ [.lst acc]) := rfl
            have v1 : eVar 1 (dB xs S (some (.dat (.tuple [.str a, namesD names, body])))) (S ++ [.dic (encH (kl xs))] ++ [.lst acc]) = some (.obj S.length, S ++ [.dic (encH (kl xs))] ++ [.lst acc]) := rfl
            simp only [tNo_eq, tOf_eq, eCall_eq, aCons_eq, aNil_eq, e2_eq, v2, v1, e5, eC_eq, ixR_dat, l2_dat, k1, k2, q], fun _ acc => by simp [dB]⟩)
          rw [List.map_id'] at this
          exact this
        have hnil : eN lstR aNil (dB xs S none) (S ++ [.dic (encH (kl xs))]) = some (.dat (.list []), S ++ [.dic (encH (kl xs))]) := by simp
        have en := (eq_none g2 fun p => isSm (pq p) (kI (kl xs)) 5 (pb p)).1
        rw [sRet_eq, e2_eq, c3]
        simp only [hnil, l2_dat, en, Bool.true_and]
    · have e' : (decide (1 ≤ xs.length) && decide (xs.length ≤ 4)) = false := by simpa using eb
      rw [e'] at ch
      have e : isB (.tuple xs) = false := by
        show (decide (1 ≤ xs.length) && (decide (xs.length ≤ 4) && (xs.all isH && (decide ((xs.map pn).Nodup) && xs.all fun p => isSm (pq p) (kI (kl xs)) 5 (pb p))))) = _
        rw [← Bool.and_assoc, e']
        rfl
      refine run_rt0 rfl ?_
      simp [startD, ch, e]
  | _ => refine run_rt0 rfl ?_; simp [startD, isB]
end Cy
end
section
set_option Elab.async false
set_option maxRecDepth 100000
namespace Cy
open PySem L2
/-! ### spoilt -/
def sg : Nat → D → Bool
  | _, .int i => decide (0 ≤ i) && decide (i < 1000)
  | _, .str x => okS x
  | n + 1, .tuple xs => decide (xs.length ≤ 20) && xs.all (sg n)
  | _, _ => false
theorem sg_gd : ∀ (n : Nat) (d : D), sg n d = true → gd n d = true
  | n, .int _, _ => by cases n <;> rfl
  | n, .str x, h => by cases n <;> exact h
  | 0, .tuple _, h => by simp [sg] at h
  | n + 1, .tuple xs, h => by
    rw [sg, Bool.and_eq_true, List.all_eq_true] at h
    rw [gd, Bool.and_eq_true, List.all_eq_true]
    have := h.1
    simp at this
    exact ⟨by simp; omega, fun d hd => sg_gd n d (h.2 d hd)⟩
  | 0, .none, h => by simp [sg] at h
  | 0, .bool _, h => by simp [sg] at h
  | 0, .list _, h => by simp [sg] at h
  | 0, .dict _, h => by simp [sg] at h
  | n + 1, .none, h => by simp [sg] at h
  | n + 1, .bool _, h => by simp [sg] at h
  | n + 1, .list _, h => by simp [sg] at h
  | n + 1, .dict _, h => by simp [sg] at h
def KA : List D := [.none, .bool true, .int 0, .int 999, .int 1000, .str "", .str "n", .str "a", .str "abcd", .str "abcde", .str "plus", .str "if", .str "call", .str "A", .tuple [], .tuple [.str "n"], .tuple [.str "n", .str "n"]]
def KB : List D := [.tuple [.str "plus", .int 1, .str "n"], .tuple [.str "if", .int 1, .int 2, .int 3], .tuple [.str "call", .str "f", .tuple []], .tuple [.str "call", .str "f", .tuple [.int 1]], .tuple [.str "call", .str "g", .tuple [.int 1, .int 2]], .list []]
def KC : List D := [.str "f", .str "g", .str "same", .str "times", .int 7, .tuple [.str "less", .int 1, .int 2, .int 3], .tuple [.str "times", .str "z", .int 1], .tuple [.str "f"]]
theorem K_gd : ∀ d ∈ KA ++ KB ++ KC, gd 3 d = true := by decide +kernel
noncomputable abbrev spA : Em := eN lstR (aCons (eC .none) (aCons (eC (.bool true)) (aCons (eC (.int 0)) (aCons (eC (.int 999)) (aCons (eC (.int 1000)) (aCons (eC (.str "")) (aCons (eC (.str "n")) (aCons (eC (.str "a")) (aCons (eC (.str "abcd")) (aCons (eC (.str "abcde")) (aCons (eC (.str "plus")) (aCons (eC (.str "if")) (aCons (eC (.str "call")) (aCons (eC (.str "A")) (aCons (eN tupR aNil) (aCons (eN tupR (aCons (eC (.str "n")) aNil)) (aCons (eN tupR (aCons (eC (.str "n")) (aCons (eC (.str "n")) aNil))) aNil)))))))))))))))))
noncomputable abbrev spB : Em := eN lstR (aCons (eN tupR (aCons (eC (.str "plus")) (aCons (eC (.int 1)) (aCons (eC (.str "n")) aNil)))) (aCons (eN tupR (aCons (eC (.str "if")) (aCons (eC (.int 1)) (aCons (eC (.int 2)) (aCons (eC (.int 3)) aNil))))) (aCons (eN tupR (aCons (eC (.str "call")) (aCons (eC (.str "f")) (aCons (eN tupR aNil) aNil)))) (aCons (eN tupR (aCons (eC (.str "call")) (aCons (eC (.str "f")) (aCons (eN tupR (aCons (eC (.int 1)) aNil)) aNil)))) (aCons (eN tupR (aCons (eC (.str "call")) (aCons (eC (.str "g")) (aCons (eN tupR (aCons (eC (.int 1)) (aCons (eC (.int 2)) aNil))) aNil)))) (aCons (eN lstR aNil) aNil))))))
noncomputable abbrev spC : Em := eN lstR (aCons (eC (.str "f")) (aCons (eC (.str "g")) (aCons (eC (.str "same")) (aCons (eC (.str "times")) (aCons (eC (.int 7)) (aCons (eN tupR (aCons (eC (.str "less")) (aCons (eC (.int 1)) (aCons (eC (.int 2)) (aCons (eC (.int 3)) aNil))))) (aCons (eN tupR (aCons (eC (.str "times")) (aCons (eC (.str "z")) (aCons (eC (.int 1)) aNil)))) (aCons (eN tupR (aCons (eC (.str "f")) aNil)) aNil))))))))
theorem spA_eq (δ : Dl) (S : SS) : spA δ S = some (.dat (.list KA), S) := rfl
theorem spB_eq (δ : Dl) (S : SS) : spB δ S = some (.dat (.list KB), S) := rfl
theorem spC_eq (δ : Dl) (S : SS) : spC δ S = some (.dat (.list KC), S) := rfl
theorem addL9 {xs ys : List D} (h : xs.length + ys.length ≤ 1000) : addD (.list xs) (.list ys) = some (.list (xs ++ ys)) := by
  show (if xs.length + ys.length ≤ sizeLine then some (PyData.list (xs ++ ys)) else none) = _
  rw [if_pos (by rw [sizeLine_eq]; omega)]
/-- the last branch -/
theorem sp_last (d : D) (q : Nat) (a2 : Option R) : ∃ d', gd 3 d' = true ∧ ∀ S, (sSeq (sAsg spA (gNm 5)) (sSeq (sAsg (e2 (l2 addD) (eVar 5) spB) (gNm 5)) (sRet (e2 ixR (e2 (l2 addD) (eVar 5) spC) (e2 (l2 modD) (e2 (l2 fdivD) (eVar 1) (eC (.int 6))) (eC (.int 31))))))) [some (.dat d), some (.dat (.int (q : Nat))), a2, none, none, none] S = some (.rt (.dat d'), S) := by
  have hj : q / 6 % 31 < (KA ++ KB ++ KC).length := by
    have : (KA ++ KB ++ KC).length = 31 := by decide
    rw [this]
    exact Nat.mod_lt _ (by decide)
  refine ⟨(KA ++ KB ++ KC)[q / 6 % 31], K_gd _ (List.getElem_mem hj), fun S => ?_⟩
  have ix : ixD (.list (KA ++ KB ++ KC)) (.int ((q : Int) / 6 % 31)) = some (KA ++ KB ++ KC)[q / 6 % 31] := by
    have ca : (q : Int) / 6 % 31 = ((q / 6 % 31 : Nat) : Int) := by omega
    rw [ca]
    show atI _ _ = _
    exact atI_nat (List.getElem?_eq_getElem hj)
  have a1 : addD (.list KA) (.list KB) = some (.list (KA ++ KB)) := addL9 (by decide)
  have a2' : addD (.list (KA ++ KB)) (.list KC) = some (.list (KA ++ KB ++ KC)) := addL9 (by decide)
  generalize (KA ++ KB ++ KC)[q / 6 % 31] = z at ix
  generalize KA ++ KB ++ KC = L3 at ix a2'
  generalize hL : KA ++ KB = L2' at a1 a2'
  refine sqS (δ1 := [some (.dat d), some (.dat (.int (q : Nat))), a2, none, none, some (.dat (.list KA))]) (S1 := S) (by rw [sAsg_eq, spA_eq]; simp) ?_
  refine sqS (δ1 := [some (.dat d), some (.dat (.int (q : Nat))), a2, none, none, some (.dat (.list L2'))]) (S1 := S) (by
    rw [sAsg_eq, e2_eq]
    have v5 : eVar 5 [some (.dat d), some (.dat (.int (q : Nat))), a2, none, none, some (.dat (.list KA))] S = some (.dat (.list KA), S) := rfl
    simp only [v5, spB_eq, l2_dat, a1]
    simp) ?_
  have v5 : eVar 5 [some (.dat d), some (.dat (.int (q : Nat))), a2, none, none, some (.dat (.list L2'))] S = some (.dat (.list L2'), S) := rfl
  have w : (e2 (l2 modD) (e2 (l2 fdivD) (eVar 1) (eC (.int 6))) (eC (.int 31))) [some (.dat d), some (.dat (.int (q : Nat))), a2, none, none, some (.dat (.list L2'))] S = some (.dat (.int ((q : Int) / 6 % 31)), S) := by simp [modD_int, fdivD_int]
  have u : (e2 (l2 addD) (eVar 5) spC) [some (.dat d), some (.dat (.int (q : Nat))), a2, none, none, some (.dat (.list L2'))] S = some (.dat (.list L3), S) := by
    rw [e2_eq]
    simp only [v5, spC_eq, l2_dat, a2']
  rw [sRet_eq, e2_eq]
  simp only [u, w, ixR_dat, l2_dat, ix]
def neT : D → Bool
  | .tuple (_ :: _) => true
  | _ => false
noncomputable abbrev spT : Tm := tAn (tOf (e2 (l2 gtD) (eVar 2) (eC (.int 0)))) (tAn (tOf (e1 (l1 (isiD "tuple")) (eVar 0))) (tAn (tOf (e2 (l2 gtD) (e1 lenR (eVar 0)) (eC (.int 0)))) (tOf (e2 (l2 gtD) (e2 (l2 modD) (eVar 1) (eC (.int 6))) (eC (.int 0))))))
noncomputable abbrev spU : Tm := tAn (tOf (e1 (l1 (isiD "tuple")) (eVar 0))) (tAn (tOf (e2 (l2 gtD) (e1 lenR (eVar 0)) (eC (.int 0)))) (tOf (e2 (l2 eqD) (e2 (l2 modD) (e2 (l2 fdivD) (eVar 1) (eC (.int 6))) (eC (.int 2))) (eC (.int 0)))))
theorem gt0 (i : Int) : gtD (.int i) (.int 0) = some (.bool (decide (0 < i))) := rfl
theorem sp_T {d : D} (hd : Gd d) (q k : Nat) (a3 a4 a5 : Option R) (S : SS) : spT [some (.dat d), some (.dat (.int (q : Nat))), some (.dat (.int (k : Nat))), a3, a4, a5] S = some (decide (0 < k) && (neT d && decide (0 < q % 6)), S) := by
  have eq6 : decide ((0 : Int) < (q : Int) % 6) = decide (0 < q % 6) := by rw [Bool.eq_iff_iff]; simp only [decide_eq_true_eq]; omega
  have t := isi_t hd
  by_cases h : 0 < k
  · have h' : (0 : Int) < (k : Int) := by omega
    cases d with
    | dict _ => exact (no_dict hd).elim
    | tuple xs =>
      cases xs with
      | nil => simp [gt0, h', h, neT]
      | cons x r =>
        have hl : (0 : Int) < (r.length : Int) + 1 := by omega
        simp [gt0, h', h, hl, neT, modD_int, eq6]
    | _ => simp [isT] at t; simp [gt0, h', h, neT, t]
  · have h' : ¬ (0 : Int) < (k : Int) := by omega
    simp [gt0, h', h]
theorem sp_U {d : D} (hd : Gd d) (q : Nat) (a2 a3 a4 a5 : Option R) (S : SS) : spU [some (.dat d), some (.dat (.int (q : Nat))), a2, a3, a4, a5] S = some (neT d && decide (q / 6 % 2 = 0), S) := by
  have eq6 : ((q : Int) / 6 % 2 == 0) = decide (q / 6 % 2 = 0) := by rw [Bool.eq_iff_iff]; simp only [beq_iff_eq, decide_eq_true_eq]; omega
  have t := isi_t hd
  cases d with
  | dict _ => exact (no_dict hd).elim
  | tuple xs =>
    cases xs with
    | nil => simp [gt0, neT]
    | cons x r =>
      have hl : (0 : Int) < (r.length : Int) + 1 := by omega
      simp [gt0, hl, neT, modD_int, fdivD_int, eqD_int, eq6]
  | _ => simp [isT] at t; simp [neT, t]
theorem cut_sub {α : Type} {xs : List α} {a c : Option Int} : ∀ y ∈ cutL xs a c, y ∈ xs := fun y hy => by
  unfold cutL at hy
  exact List.mem_of_mem_drop (List.mem_of_mem_take hy)
theorem gd_tup {m : Nat} {xs : List D} (hl : xs.length ≤ 60) (h : ∀ x ∈ xs, gd m x = true) : gd (m + 1) (.tuple xs) = true ∧ gd (m + 1) (.list xs) = true := by
  rw [gd, gd, Bool.and_eq_true, List.all_eq_true]
  exact ⟨⟨by simpa using hl, h⟩, ⟨by simpa using hl, h⟩⟩
/-- a tuple, at one place -/
theorem sp_tup {xs : List D} {m : Nat} (hne : xs ≠ []) (hl : xs.length ≤ 20) (hg : ∀ x ∈ xs, gd m x = true) (q : Nat) (a2 a3 a4 a5 : Option R) : ∃ d', gd (m + 1) d' = true ∧ ∀ S, (sRet (e2 ixR (eN lstR (aCons (e1 (l1 listD) (eVar 0)) (aCons (eSl (eVar 0) oNone (oSome (e1 (l1 negD) (eC (.int 1))))) (aCons (e2 (l2 addD) (eVar 0) (eSl (eVar 0) (oSome (e1 (l1 negD) (eC (.int 1)))) oNone)) (aCons (eSl (eVar 0) (oSome (eC (.int 1))) oNone) (aCons (eRev (eVar 0)) (aCons (e2 (l2 tmulD) (eVar 0) (eC (.int 2))) aNil))))))) (e2 (l2 modD) (e2 (l2 fdivD) (eVar 1) (eC (.int 12))) (eC (.int 6))))) [some (.dat (.tuple xs)), some (.dat (.int (q : Nat))), a2, a3, a4, a5] S = some (.rt (.dat d'), S) := by
  let vs : List D := [.list xs, .tuple (cutL xs none (some (-1))), .tuple (xs ++ cutL xs (some (-1)) none), .tuple (cutL xs (some 1) none), .tuple xs.reverse, .tuple (List.replicate 2 xs).flatten]
  have hj : q / 12 % 6 < vs.length := Nat.mod_lt _ (by decide)
  have vg : ∀ v ∈ vs, gd (m + 1) v = true := fun v hv => by
    have c1 := cutL_le xs none (some (-1))
    have c2 := cutL_le xs (some (-1)) none
    have c3 := cutL_le xs (some 1) none
    simp only [vs, List.mem_cons, List.not_mem_nil, or_false] at hv
    rcases hv with rfl | rfl | rfl | rfl | rfl | rfl
    · exact (gd_tup (by omega) hg).2
    · exact (gd_tup (by omega) fun x hx => hg x (cut_sub x hx)).1
    · exact (gd_tup (by rw [List.length_append]; omega) fun x hx => (List.mem_append.mp hx).elim (hg x) fun h => hg x (cut_sub x h)).1
    · exact (gd_tup (by omega) fun x hx => hg x (cut_sub x hx)).1
    · exact (gd_tup (by rw [List.length_reverse]; omega) fun x hx => hg x (List.mem_reverse.mp hx)).1
    · refine (gd_tup (by simp; omega) fun x hx => ?_).1
      obtain ⟨l, h1, h2⟩ := List.mem_flatten.mp hx
      rw [(List.mem_replicate.mp h1).2] at h2
      exact hg x h2
  refine ⟨vs[q / 12 % 6], vg _ (List.getElem_mem hj), fun S => ?_⟩
  have ix : ixD (.list vs) (.int ((q : Int) / 12 % 6)) = some vs[q / 12 % 6] := by
    have ca : (q : Int) / 12 % 6 = ((q / 12 % 6 : Nat) : Int) := by omega
    rw [ca]
    show atI _ _ = _
    exact atI_nat (List.getElem?_eq_getElem hj)
  have w : (e2 (l2 modD) (e2 (l2 fdivD) (eVar 1) (eC (.int 12))) (eC (.int 6))) [some (.dat (.tuple xs)), some (.dat (.int (q : Nat))), a2, a3, a4, a5] S = some (.dat (.int ((q : Int) / 12 % 6)), S) := by simp [modD_int, fdivD_int]
  have ad : addD (.tuple xs) (.tuple (cutL xs (some (-1)) none)) = some (.tuple (xs ++ cutL xs (some (-1)) none)) := addT (by have := cutL_le xs (some (-1)) none; omega)
  have tm : tmulD (.tuple xs) (.int 2) = some (.tuple (List.replicate 2 xs).flatten) := by
    cases xs with
    | nil => exact absurd rfl hne
    | cons x r =>
      show (if (0 : Int) ≤ 2 ∧ (2 : Int) ≤ 1000 ∧ (x :: r).length ≤ 1000 then some (PyData.tuple (List.replicate (2 : Int).toNat (x :: r)).flatten) else none) = _
      rw [if_pos ⟨by decide, by decide, by omega⟩]
      rfl
  have nv : ∀ δ : Dl, (e1 (l1 negD) (eC (.int 1))) δ S = some (.dat (.int (-1)), S) := fun δ => rfl
  have u : (eN lstR (aCons (e1 (l1 listD) (eVar 0)) (aCons (eSl (eVar 0) oNone (oSome (e1 (l1 negD) (eC (.int 1))))) (aCons (e2 (l2 addD) (eVar 0) (eSl (eVar 0) (oSome (e1 (l1 negD) (eC (.int 1)))) oNone)) (aCons (eSl (eVar 0) (oSome (eC (.int 1))) oNone) (aCons (eRev (eVar 0)) (aCons (e2 (l2 tmulD) (eVar 0) (eC (.int 2))) aNil))))))) [some (.dat (.tuple xs)), some (.dat (.int (q : Nat))), a2, a3, a4, a5] S = some (.dat (.list vs), S) := by
    have v0 : eVar 0 [some (.dat (.tuple xs)), some (.dat (.int (q : Nat))), a2, a3, a4, a5] S = some (.dat (.tuple xs), S) := rfl
    have s1 : (eSl (eVar 0) oNone (oSome (e1 (l1 negD) (eC (.int 1))))) [some (.dat (.tuple xs)), some (.dat (.int (q : Nat))), a2, a3, a4, a5] S = some (.dat (.tuple (cutL xs none (some (-1)))), S) := rfl
    have s2 : (eSl (eVar 0) (oSome (e1 (l1 negD) (eC (.int 1)))) oNone) [some (.dat (.tuple xs)), some (.dat (.int (q : Nat))), a2, a3, a4, a5] S = some (.dat (.tuple (cutL xs (some (-1)) none)), S) := rfl
    have s3 : (eSl (eVar 0) (oSome (eC (.int 1))) oNone) [some (.dat (.tuple xs)), some (.dat (.int (q : Nat))), a2, a3, a4, a5] S = some (.dat (.tuple (cutL xs (some 1) none)), S) := rfl
    have s4 : (eRev (eVar 0)) [some (.dat (.tuple xs)), some (.dat (.int (q : Nat))), a2, a3, a4, a5] S = some (.dat (.tuple xs.reverse), S) := rfl
    have s0 : (e1 (l1 listD) (eVar 0)) [some (.dat (.tuple xs)), some (.dat (.int (q : Nat))), a2, a3, a4, a5] S = some (.dat (.list xs), S) := rfl
    have s5 : (e2 (l2 tmulD) (eVar 0) (eC (.int 2))) [some (.dat (.tuple xs)), some (.dat (.int (q : Nat))), a2, a3, a4, a5] S = some (.dat (.tuple (List.replicate 2 xs).flatten), S) := by
      rw [e2_eq]
      simp only [v0, eC_eq, l2_dat, tm]
    have s6 : (e2 (l2 addD) (eVar 0) (eSl (eVar 0) (oSome (e1 (l1 negD) (eC (.int 1)))) oNone)) [some (.dat (.tuple xs)), some (.dat (.int (q : Nat))), a2, a3, a4, a5] S = some (.dat (.tuple (xs ++ cutL xs (some (-1)) none)), S) := by
      rw [e2_eq]
      simp only [v0, s2, l2_dat, ad]
    simp only [eN_eq, aCons_eq, aNil_eq, s0, s1, s3, s4, s5, s6]
    rfl
  generalize hv : vs[q / 12 % 6] = z at ix
  rw [sRet_eq, e2_eq]
  simp only [u, w, ixR_dat, l2_dat, ix]
end Cy
end
section
set_option Elab.async false
set_option maxRecDepth 100000
namespace Cy
open PySem L2
theorem wn_ok : ∀ n < 1000, okS (wnum n) = true ∧ ((n : Nat) : Int).natAbs.log2 < 1920 := by decide +kernel
theorem sp_int {n : Nat} (hn : n < 1000) (q : Nat) (a2 a3 a4 a5 : Option R) : ∃ d', gd 3 d' = true ∧ ∀ S, (sRet (e2 ixR (eN lstR (aCons (e1 (l1 strD) (eVar 0)) (aCons (e2 (l2 subD) (e1 (l1 negD) (eVar 0)) (eC (.int 1))) (aCons (e2 (l2 addD) (eVar 0) (eC (.int 1))) (aCons (e2 (l2 eqD) (eVar 0) (eC (.int 1))) (aCons (e2 (l2 addD) (eVar 0) (eC (.int 990))) (aCons (eC .none) aNil))))))) (e2 (l2 modD) (e2 (l2 fdivD) (eVar 1) (eC (.int 12))) (eC (.int 6))))) [some (.dat (.int (n : Nat))), some (.dat (.int (q : Nat))), a2, a3, a4, a5] S = some (.rt (.dat d'), S) := by
  obtain ⟨w1, w2⟩ := wn_ok n hn
  let vs : List D := [.str (wnum n), .int (-(n : Int) - 1), .int ((n : Int) + 1), .bool ((n : Int) == 1), .int ((n : Int) + 990), .none]
  have hj : q / 12 % 6 < vs.length := Nat.mod_lt _ (by decide)
  have vg : ∀ v ∈ vs, gd 3 v = true := fun v hv => by
    simp only [vs, List.mem_cons, List.not_mem_nil, or_false] at hv
    rcases hv with rfl | rfl | rfl | rfl | rfl | rfl
    · exact w1
    · rfl
    · rfl
    · rfl
    · rfl
    · rfl
  refine ⟨vs[q / 12 % 6], vg _ (List.getElem_mem hj), fun S => ?_⟩
  have ix : ixD (.list vs) (.int ((q : Int) / 12 % 6)) = some vs[q / 12 % 6] := by
    have ca : (q : Int) / 12 % 6 = ((q / 12 % 6 : Nat) : Int) := by omega
    rw [ca]
    show atI _ _ = _
    exact atI_nat (List.getElem?_eq_getElem hj)
  have w : (e2 (l2 modD) (e2 (l2 fdivD) (eVar 1) (eC (.int 12))) (eC (.int 6))) [some (.dat (.int (n : Nat))), some (.dat (.int (q : Nat))), a2, a3, a4, a5] S = some (.dat (.int ((q : Int) / 12 % 6)), S) := by simp [modD_int, fdivD_int]
  have sd : strD (.int (n : Nat)) = some (.str (wnum n)) := by
    rw [strD_int, if_pos w2]
    rfl
  have u : (eN lstR (aCons (e1 (l1 strD) (eVar 0)) (aCons (e2 (l2 subD) (e1 (l1 negD) (eVar 0)) (eC (.int 1))) (aCons (e2 (l2 addD) (eVar 0) (eC (.int 1))) (aCons (e2 (l2 eqD) (eVar 0) (eC (.int 1))) (aCons (e2 (l2 addD) (eVar 0) (eC (.int 990))) (aCons (eC .none) aNil))))))) [some (.dat (.int (n : Nat))), some (.dat (.int (q : Nat))), a2, a3, a4, a5] S = some (.dat (.list vs), S) := by
    have s0 : (e1 (l1 strD) (eVar 0)) [some (.dat (.int (n : Nat))), some (.dat (.int (q : Nat))), a2, a3, a4, a5] S = some (.dat (.str (wnum n)), S) := by
      have v0 : eVar 0 [some (.dat (.int (n : Nat))), some (.dat (.int (q : Nat))), a2, a3, a4, a5] S = some (.dat (.int (n : Nat)), S) := rfl
      rw [e1_eq, v0]
      simp only [l1_dat, sd]
    have s1 : (e2 (l2 subD) (e1 (l1 negD) (eVar 0)) (eC (.int 1))) [some (.dat (.int (n : Nat))), some (.dat (.int (q : Nat))), a2, a3, a4, a5] S = some (.dat (.int (-(n : Int) - 1)), S) := rfl
    have s2 : (e2 (l2 addD) (eVar 0) (eC (.int 1))) [some (.dat (.int (n : Nat))), some (.dat (.int (q : Nat))), a2, a3, a4, a5] S = some (.dat (.int ((n : Int) + 1)), S) := rfl
    have s3 : (e2 (l2 eqD) (eVar 0) (eC (.int 1))) [some (.dat (.int (n : Nat))), some (.dat (.int (q : Nat))), a2, a3, a4, a5] S = some (.dat (.bool ((n : Int) == 1)), S) := by
      have v0 : eVar 0 [some (.dat (.int (n : Nat))), some (.dat (.int (q : Nat))), a2, a3, a4, a5] S = some (.dat (.int (n : Nat)), S) := rfl
      rw [e2_eq, v0]
      simp only [eC_eq, l2_dat, eqD_int]
    have s4 : (e2 (l2 addD) (eVar 0) (eC (.int 990))) [some (.dat (.int (n : Nat))), some (.dat (.int (q : Nat))), a2, a3, a4, a5] S = some (.dat (.int ((n : Int) + 990)), S) := rfl
    simp only [eN_eq, aCons_eq, aNil_eq, s0, s1, s2, s3, s4, eC_eq]
    rfl
  generalize hv : vs[q / 12 % 6] = z at ix
  rw [sRet_eq, e2_eq]
  simp only [u, w, ixR_dat, l2_dat, ix]
noncomputable abbrev spI : Tm := tAn (tOf (e1 (l1 (isiD "int")) (eVar 0))) (tOf (e2 (l2 eqD) (e2 (l2 modD) (e2 (l2 fdivD) (eVar 1) (eC (.int 6))) (eC (.int 2))) (eC (.int 0))))
noncomputable abbrev spPl (φ : Fid → Fn) : Sm := (sSeq (sAsg (e2 (l2 modD) (e2 (l2 fdivD) (eVar 1) (eC (.int 6))) (e1 lenR (eVar 0))) (gNm 3))
  (sSeq (sAsg (eCall (φ .law_spoilt_k01) (aCons (e2 ixR (eVar 0) (eVar 3)) (aCons (e2 (l2 fdivD) (eCall (φ .law_drawn) (aCons (eVar 1) (aCons (eVar 2) aNil))) (eC (.int 4))) (aCons (e2 (l2 subD) (eVar 2) (eC (.int 1))) aNil)))) (gNm 4))
  (sRet (e2 (l2 addD) (e2 (l2 addD) (eSl (eVar 0) oNone (oSome (eVar 3))) (eN tupR (aCons (eVar 4) aNil))) (eSl (eVar 0) (oSome (e2 (l2 addD) (eVar 3) (eC (.int 1)))) oNone)))))
noncomputable abbrev spTu : Sm := (sRet (e2 ixR (eN lstR (aCons (e1 (l1 listD) (eVar 0)) (aCons (eSl (eVar 0) oNone (oSome (e1 (l1 negD) (eC (.int 1))))) (aCons (e2 (l2 addD) (eVar 0) (eSl (eVar 0) (oSome (e1 (l1 negD) (eC (.int 1)))) oNone)) (aCons (eSl (eVar 0) (oSome (eC (.int 1))) oNone) (aCons (eRev (eVar 0)) (aCons (e2 (l2 tmulD) (eVar 0) (eC (.int 2))) aNil))))))) (e2 (l2 modD) (e2 (l2 fdivD) (eVar 1) (eC (.int 12))) (eC (.int 6)))))
noncomputable abbrev spIn : Sm := (sRet (e2 ixR (eN lstR (aCons (e1 (l1 strD) (eVar 0)) (aCons (e2 (l2 subD) (e1 (l1 negD) (eVar 0)) (eC (.int 1))) (aCons (e2 (l2 addD) (eVar 0) (eC (.int 1))) (aCons (e2 (l2 eqD) (eVar 0) (eC (.int 1))) (aCons (e2 (l2 addD) (eVar 0) (eC (.int 990))) (aCons (eC .none) aNil))))))) (e2 (l2 modD) (e2 (l2 fdivD) (eVar 1) (eC (.int 12))) (eC (.int 6)))))
noncomputable abbrev spLa : Sm := (sSeq (sAsg spA (gNm 5)) (sSeq (sAsg (e2 (l2 addD) (eVar 5) spB) (gNm 5)) (sRet (e2 ixR (e2 (l2 addD) (eVar 5) spC) (e2 (l2 modD) (e2 (l2 fdivD) (eVar 1) (eC (.int 6))) (eC (.int 31)))))))
theorem sp_body (φ : Fid → Fn) : b_law_spoilt_k01 φ = runFn 6 3 (sSeq (sIf spT (spPl φ) sSkip) (sSeq (sIf spU spTu sSkip) (sSeq (sIf spI spIn sSkip) spLa))) := rfl
theorem sp_I {d : D} (hd : Gd d) (q : Nat) (a2 a3 a4 a5 : Option R) (S : SS) : spI [some (.dat d), some (.dat (.int (q : Nat))), a2, a3, a4, a5] S = some ((match isiD "int" d with | some (.bool b) => b | _ => false) && decide (q / 6 % 2 = 0), S) := by
  have eq6 : ((q : Int) / 6 % 2 == 0) = decide (q / 6 % 2 = 0) := by rw [Bool.eq_iff_iff]; simp only [beq_iff_eq, decide_eq_true_eq]; omega
  cases d with
  | dict _ => exact (no_dict hd).elim
  | _ => simp [modD_int, fdivD_int, eqD_int, eq6]
theorem if_no {t : Tm} {a c : Sm} {δ : Dl} {S : SS} {r : Option (Fl × SS)} (h : t δ S = some (false, S)) (h2 : c δ S = r) : sSeq (sIf t a sSkip) c δ S = r := sqS (by rw [sIf_eq, h]; rfl) h2
theorem if_yes {t : Tm} {a c : Sm} {δ : Dl} {S : SS} {v : R} (h : t δ S = some (true, S)) (h2 : a δ S = some (.rt v, S)) : sSeq (sIf t a sSkip) c δ S = some (.rt v, S) := by
  rw [sSeq_eq, sIf_eq, h]
  simp only [if_true, h2]
theorem sp_place {xs : List D} {m k : Nat} (hne : 0 < xs.length) (h20 : xs.length ≤ 20) (hall : ∀ x ∈ xs, gd m x = true) (q : Nat)
    (ih : ∀ d ∈ xs, ∀ q : Nat, ∃ d', gd (m + 3) d' = true ∧ ∀ n S, Φ (n + k + 2) .law_spoilt_k01 [.dat d, .dat (.int (q : Nat)), .dat (.int (k : Nat))] S = some (.dat d', S)) :
    ∃ d', gd (m + 1 + 3) d' = true ∧ ∀ n S, spPl (Φ (n + k + 2)) [some (.dat (.tuple xs)), some (.dat (.int (q : Nat))), some (.dat (.int ((k + 1 : Nat) : Int))), none, none, none] S = some (.rt (.dat d'), S) := by
  have hj : q / 6 % xs.length < xs.length := Nat.mod_lt _ hne
  have ca : (q : Int) / 6 % (xs.length : Int) = ((q / 6 % xs.length : Nat) : Int) := by
    rw [show (q : Int) / 6 = ((q / 6 : Nat) : Int) by omega, cast_mod]
  generalize q / 6 % xs.length = j at hj ca
  obtain ⟨q2, hq2⟩ := x_drawn q (k + 1)
  obtain ⟨p, p1, p2⟩ := ih xs[j] (List.getElem_mem hj) (q2 / 4)
  refine ⟨.tuple (xs.take j ++ [p] ++ xs.drop (j + 1)), ?_, fun n S => ?_⟩
  · refine (gd_tup (by simp [List.length_take, List.length_drop]; omega) fun y hy => ?_).1
    have old : ∀ y ∈ xs, gd (m + 3) y = true := fun y hy => gd_le (by omega) (hall y hy)
    rcases List.mem_append.mp hy with hy | hy
    · rcases List.mem_append.mp hy with hy | hy
      · exact old y (List.mem_of_mem_take hy)
      · simp at hy; subst hy; exact p1
    · exact old y (List.mem_of_mem_drop hy)
  · have cb : (q2 : Int) / 4 = ((q2 / 4 : Nat) : Int) := by omega
    have ix : ixD (.tuple xs) (.int (j : Nat)) = some xs[j] := by
      show atI _ _ = _
      exact atI_nat (List.getElem?_eq_getElem hj)
    have hq2 := hq2 (n + k + 1) S
    rw [show n + k + 1 + 1 = n + k + 2 by omega] at hq2
    have p2 := p2 n S
    have ct := cut_to xs j
    have cf := cut_from xs (j + 1)
    have c5 : ((j + 1 : Nat) : Int) = (j : Int) + 1 := by omega
    rw [c5] at cf
    have a1 : addD (.tuple (xs.take j)) (.tuple [p]) = some (.tuple (xs.take j ++ [p])) := addT (by simp [List.length_take]; omega)
    have a2 : addD (.tuple (xs.take j ++ [p])) (.tuple (xs.drop (j + 1))) = some (.tuple (xs.take j ++ [p] ++ xs.drop (j + 1))) := addT (by simp [List.length_take, List.length_drop]; omega)
    have hp' : (0 : Int) < (xs.length : Int) := by omega
    have md : modD (.int ((q : Int) / 6)) (.int (xs.length : Nat)) = some (.int (j : Nat)) := by rw [modD_int _ _ hp', ca]
    refine sqS (δ1 := [some (.dat (.tuple xs)), some (.dat (.int (q : Nat))), some (.dat (.int ((k + 1 : Nat) : Int))), some (.dat (.int (j : Nat))), none, none]) (S1 := S) (by simp [fdivD_int, md]) ?_
    refine sqS (δ1 := [some (.dat (.tuple xs)), some (.dat (.int (q : Nat))), some (.dat (.int ((k + 1 : Nat) : Int))), some (.dat (.int (j : Nat))), some (.dat p), none]) (S1 := S) (by
      have v1 : (e2 ixR (eVar 0) (eVar 3)) [some (.dat (.tuple xs)), some (.dat (.int (q : Nat))), some (.dat (.int ((k + 1 : Nat) : Int))), some (.dat (.int (j : Nat))), none, none] S = some (.dat xs[j], S) := by
        have v0 : eVar 0 [some (.dat (.tuple xs)), some (.dat (.int (q : Nat))), some (.dat (.int ((k + 1 : Nat) : Int))), some (.dat (.int (j : Nat))), none, none] S = some (.dat (.tuple xs), S) := rfl
        have v3 : eVar 3 [some (.dat (.tuple xs)), some (.dat (.int (q : Nat))), some (.dat (.int ((k + 1 : Nat) : Int))), some (.dat (.int (j : Nat))), none, none] S = some (.dat (.int (j : Nat)), S) := rfl
        rw [e2_eq]
        simp only [v0, v3, ixR_dat, l2_dat, ix]
      have v2 : (e2 (l2 fdivD) (eCall (Φ (n + k + 2) .law_drawn) (aCons (eVar 1) (aCons (eVar 2) aNil))) (eC (.int 4))) [some (.dat (.tuple xs)), some (.dat (.int (q : Nat))), some (.dat (.int ((k + 1 : Nat) : Int))), some (.dat (.int (j : Nat))), none, none] S = some (.dat (.int ((q2 / 4 : Nat) : Int)), S) := by
        have w1 : eVar 1 [some (.dat (.tuple xs)), some (.dat (.int (q : Nat))), some (.dat (.int ((k + 1 : Nat) : Int))), some (.dat (.int (j : Nat))), none, none] S = some (.dat (.int (q : Nat)), S) := rfl
        have w2 : eVar 2 [some (.dat (.tuple xs)), some (.dat (.int (q : Nat))), some (.dat (.int ((k + 1 : Nat) : Int))), some (.dat (.int (j : Nat))), none, none] S = some (.dat (.int ((k + 1 : Nat) : Int)), S) := rfl
        rw [e2_eq]
        simp only [eCall_eq, aCons_eq, aNil_eq, w1, w2, hq2, eC_eq, l2_dat, fdivD_int _ _ (show (0 : Int) < 4 by decide) (show (4 : Int) < 1073741824 by decide), cb]
      have v3 : (e2 (l2 subD) (eVar 2) (eC (.int 1))) [some (.dat (.tuple xs)), some (.dat (.int (q : Nat))), some (.dat (.int ((k + 1 : Nat) : Int))), some (.dat (.int (j : Nat))), none, none] S = some (.dat (.int (k : Nat)), S) := by
        have kk : ((k + 1 : Nat) : Int) - 1 = (k : Nat) := by omega
        rw [← kk]
        rfl
      rw [sAsg_eq]
      simp only [eCall_eq, aCons_eq, aNil_eq, v1, v2, v3, p2]
      simp) ?_
    simp [ct, cf, a1, a2]
theorem r_spoilt : ∀ (deep m : Nat) (d : D), m ≤ 27 → sg m d = true → ∀ q : Nat, ∃ d', gd (m + 3) d' = true ∧ ∀ n S, Φ (n + deep + 2) .law_spoilt_k01 [.dat d, .dat (.int (q : Nat)), .dat (.int (deep : Nat))] S = some (.dat d', S)
  | deep, m, d, hm, hs, q => by
    have hg : Gd d := Gd.of (by omega) (sg_gd m d hs)
    have t1 := sp_T hg q deep none none none
    have t2 := sp_U hg q (some (.dat (.int (deep : Nat)))) none none none
    have t3 := sp_I hg q (some (.dat (.int (deep : Nat)))) none none none
    have go : ∀ d', (∀ n S, (sSeq (sIf spT (spPl (Φ (n + deep + 1))) sSkip) (sSeq (sIf spU spTu sSkip) (sSeq (sIf spI spIn sSkip) spLa))) [some (.dat d), some (.dat (.int (q : Nat))), some (.dat (.int (deep : Nat))), none, none, none] S = some (.rt (.dat d'), S)) → ∀ n S, Φ (n + deep + 2) .law_spoilt_k01 [.dat d, .dat (.int (q : Nat)), .dat (.int (deep : Nat))] S = some (.dat d', S) := fun d' h n S => by
      rw [show n + deep + 2 = (n + deep + 1) + 1 by omega, Φ_succ]
      show b_law_spoilt_k01 (Φ (n + deep + 1)) _ S = _
      rw [sp_body]
      exact run_rt0 rfl (h n S)
    cases h1 : (decide (0 < deep) && (neT d && decide (0 < q % 6))) with
    | true =>
      rw [h1] at t1
      rw [Bool.and_eq_true, Bool.and_eq_true] at h1
      obtain ⟨c2, c3, _⟩ := h1
      match d, c3, deep, c2, m, hs, hm, hg, t1, go with
      | .tuple (x :: r), _, k + 1, _, m + 1, hs, hm, hg, t1, go =>
        rw [sg, Bool.and_eq_true, List.all_eq_true] at hs
        obtain ⟨h20, hall⟩ := hs
        obtain ⟨d', g1, g2⟩ := sp_place (xs := x :: r) (m := m) (k := k) (by simp) (by simpa using h20) (fun y hy => sg_gd m y (hall y hy)) q (fun y hy q => r_spoilt k m y (by omega) (hall y hy) q)
        exact ⟨d', g1, go d' fun n S => if_yes (t1 S) (g2 n S)⟩
    | false =>
      rw [h1] at t1
      cases h2 : (neT d && decide (q / 6 % 2 = 0)) with
      | true =>
        rw [h2] at t2
        rw [Bool.and_eq_true] at h2
        match d, h2.1, m, hs, hm, hg, t1, t2, go with
        | .tuple (x :: r), _, m + 1, hs, hm, hg, t1, t2, go =>
          rw [sg, Bool.and_eq_true, List.all_eq_true] at hs
          obtain ⟨d', g1, g2⟩ := sp_tup (xs := x :: r) (m := m) (by simp) (by simpa using hs.1) (fun y hy => sg_gd m y (hs.2 y hy)) q (some (.dat (.int (deep : Nat)))) none none none
          exact ⟨d', gd_le (by omega) g1, go d' fun n S => if_no (t1 S) (if_yes (t2 S) (g2 S))⟩
      | false =>
        rw [h2] at t2
        cases h3 : ((match isiD "int" d with | some (.bool b) => b | _ => false) && decide (q / 6 % 2 = 0)) with
        | true =>
          rw [h3] at t3
          rw [Bool.and_eq_true] at h3
          cases d with
          | int i =>
            have hi : 0 ≤ i ∧ i < 1000 := by cases m <;> simpa [sg] using hs
            obtain ⟨z, rfl⟩ : ∃ z : Nat, i = (z : Int) := ⟨i.toNat, by omega⟩
            obtain ⟨d', g1, g2⟩ := sp_int (n := z) (by omega) q (some (.dat (.int (deep : Nat)))) none none none
            exact ⟨d', gd_le (by omega) g1, go d' fun n S => if_no (t1 S) (if_no (t2 S) (if_yes (t3 S) (g2 S)))⟩
          | bool b => cases m <;> simp [sg] at hs
          | dict _ => exact (no_dict hg).elim
          | _ => simp at h3
        | false =>
          rw [h3] at t3
          obtain ⟨d', g1, g2⟩ := sp_last d q (some (.dat (.int (deep : Nat))))
          exact ⟨d', gd_le (by omega) g1, go d' fun n S => if_no (t1 S) (if_no (t2 S) (if_no (t3 S) (g2 S)))⟩
end Cy
end
section
set_option Elab.async false
set_option maxRecDepth 100000
namespace Cy
open PySem L2
/-! ### the parts of law k01 -/
theorem sg_up : ∀ (n : Nat) (d : D), sg n d = true → sg (n + 1) d = true
  | n, .int _, h => by cases n <;> exact h
  | n, .str x, h => by cases n <;> exact h
  | 0, .tuple _, h => by simp [sg] at h
  | n + 1, .tuple xs, h => by
    rw [sg, Bool.and_eq_true, List.all_eq_true] at h ⊢
    exact ⟨h.1, fun d hd => sg_up n d (h.2 d hd)⟩
  | n, .none, h => by cases n <;> simp [sg] at h
  | n, .bool _, h => by cases n <;> simp [sg] at h
  | n, .list _, h => by cases n <;> simp [sg] at h
  | n, .dict _, h => by cases n <;> simp [sg] at h
theorem sg_le {n m : Nat} (h : n ≤ m) {d : D} (hd : sg n d = true) : sg m d = true := by
  induction h with
  | refl => exact hd
  | step _ ih => exact sg_up _ _ ih
theorem sg_tup {m : Nat} {xs : List D} (hl : xs.length ≤ 20) (h : ∀ x ∈ xs, sg m x = true) : sg (m + 1) (.tuple xs) = true := by
  rw [sg, Bool.and_eq_true, List.all_eq_true]
  exact ⟨by simpa using hl, h⟩
theorem sg_str (n : Nat) {x : Str} (h : okS x = true) : sg n (.str x) = true := by cases n <;> exact h
theorem nm_okS (o : Op) : okS o.nm = true := by cases o <;> decide +kernel
theorem if_okS : okS "if" = true ∧ okS "call" = true := by decide +kernel
theorem enc_sg {names : List Str} {heads : List (Str × Nat)} (hn : ∀ x ∈ names, okS x = true) (hh : ∀ p ∈ heads, okS p.1 = true ∧ p.2 ≤ 3) {d : Nat} {t : T} (ok : SumOk names heads d t) : sg (2 * d) (enc t) = true := by
  induction ok with
  | @w d n h =>
    have : sg (2 * d) (.int (n : Nat)) = true := by
      have h' : (n : Int) < 1000 := by omega
      cases (2 * d) <;> simp [sg, h']
    exact this
  | v h => exact sg_str _ (hn _ h)
  | @op d o a c _ _ ia ic =>
    refine sg_le (n := 2 * d + 1) (by omega) (sg_tup (by simp) fun x hx => ?_)
    simp at hx
    rcases hx with rfl | rfl | rfl
    · exact sg_str _ (nm_okS o)
    · exact ia
    · exact ic
  | @ite d q a c _ _ _ iq ia ic =>
    refine sg_le (n := 2 * d + 1) (by omega) (sg_tup (by simp) fun x hx => ?_)
    simp at hx
    rcases hx with rfl | rfl | rfl | rfl
    · exact sg_str _ if_okS.1
    · exact iq
    · exact ia
    · exact ic
  | @call d f as hf _ ih =>
    refine sg_le (n := 2 * d + 1 + 1) (by omega) (sg_tup (by simp) fun x hx => ?_)
    simp at hx
    rcases hx with rfl | rfl | rfl
    · exact sg_str _ if_okS.2
    · exact sg_str _ (hh _ hf).1
    · refine sg_tup (by rw [encs_map, List.length_map]; have := (hh _ hf).2; simp at this; omega) fun x hx => ?_
      rw [encs_map] at hx
      obtain ⟨a, ha, rfl⟩ := List.mem_map.mp hx
      exact ih a ha
theorem MK_okS : ∀ x ∈ MK, okS x = true := by decide +kernel
theorem NS_okS : ∀ ns ∈ NS, ns.length ≤ 3 ∧ ∀ x ∈ ns, okS x = true := by decide +kernel
section
variable {b : List Mk'}
theorem mk_sg (B : BookOk b) {m : Mk'} (hm : m ∈ b) : sg 9 (encM m) = true ∧ okS m.1 = true ∧ sg 9 (namesD m.2.1) = true ∧ sg 8 (enc m.2.2) = true := by
  have h1 := MK_okS _ (B.all m hm).1
  obtain ⟨h2, h3⟩ := NS_okS _ (B.names m hm)
  have h4 := enc_sg h3 (heads := headsOf b) (fun p hp => by
    obtain ⟨y, hy, rfl⟩ := List.mem_map.mp hp
    exact ⟨MK_okS _ (B.all y hy).1, (NS_okS _ (B.names y hy)).1⟩) (B.sum4 m hm)
  have h5 : sg 1 (namesD m.2.1) = true := sg_tup (by simp; omega) fun x hx => by
    obtain ⟨y, hy, rfl⟩ := List.mem_map.mp hx
    exact sg_str _ (h3 y hy)
  refine ⟨sg_tup (by simp) fun x hx => ?_, h1, sg_le (by omega) h5, h4⟩
  simp at hx
  rcases hx with rfl | rfl | rfl
  · exact sg_str _ h1
  · exact sg_le (by omega) h5
  · exact h4
theorem book_sg (B : BookOk b) : sg 10 (encB b) = true := sg_tup (by rw [List.length_map]; have := B.le; omega) fun x hx => by
  obtain ⟨m, hm, rfl⟩ := List.mem_map.mp hx
  exact (mk_sg B hm).1
end
def d01 (ns : List Int) (a1 : Option R) (q : Nat) (a3 a4 a5 a6 a7 a8 a9 a10 a11 a12 : Option R) : Dl := [some (.scr ns), a1, some (.dat (.int (q : Nat))), a3, a4, a5, a6, a7, a8, a9, a10, a11, a12, none]
/-- the first maker deeper -/
theorem k01_deeper (ns : List Int) (a1 a3 a4 : Option R) (q : Nat) (S : SS) : ∀ (l : List R) (m : Nat) (d : D), gd m d = true → ∃ d', gd (m + l.length) d' = true ∧
    forL (gNm 6) (sAsg (eN tupR (aCons (eC (.str "plus")) (aCons (eC (.int 1)) (aCons (eVar 5) aNil)))) (gNm 5)) [6] none l (d01 ns a1 q a3 a4 (some (.dat d)) none none none none none none none) S = some (.nx (d01 ns a1 q a3 a4 (some (.dat d')) none none none none none none none), S)
  | [], m, d, h => ⟨d, h, by simp⟩
  | r :: l, m, d, h => by
    obtain ⟨d', g1, g2⟩ := k01_deeper ns a1 a3 a4 q S l (m + 1) (.tuple [.str "plus", .int 1, d]) ((gd_tup (by simp) fun x hx => by
      simp at hx
      rcases hx with rfl | rfl | rfl
      · cases m <;> (show okS "plus" = true) <;> exact nm_okS .plus
      · cases m <;> rfl
      · exact h).1)
    refine ⟨d', by rw [List.length_cons, show m + (l.length + 1) = m + 1 + l.length by omega]; exact g1, ?_⟩
    rw [← g2]
    refine (forL_consG (δ1 := d01 ns a1 q a3 a4 (some (.dat d)) (some r) none none none none none none) (δ2 := d01 ns a1 q a3 a4 (some (.dat (.tuple [.str "plus", .int 1, d]))) (some r) none none none none none none) (S2 := S) (by simp [d01]) (by simp [d01]) (show Stays none _ from trivial)).trans ?_
    rfl
noncomputable abbrev k01Call : Sm := (sAsg (eN tupR (aCons (eC (.str "call")) (aCons (eC (.str "f")) (aCons (e2 (l2 tmulD) (eN tupR (aCons (e2 ixR (eN tupR (aCons (eC (.str "a")) (aCons (eC (.int 1)) (aCons (eC (.str "z")) aNil)))) (e2 (l2 modD) (e2 (l2 fdivD) (eVar 2) (eC (.int 32768))) (eC (.int 3)))) aNil)) (e2 (l2 modD) (e2 (l2 fdivD) (eVar 2) (eC (.int 131072))) (eC (.int 4)))) aNil)))) (gNm 5))
theorem k01_call (ns : List Int) (a1 a3 a4 a5 : Option R) (q : Nat) (S : SS) : ∃ d', gd 11 d' = true ∧ k01Call (d01 ns a1 q a3 a4 a5 none none none none none none none) S = some (.nx (d01 ns a1 q a3 a4 (some (.dat d')) none none none none none none none), S) := by
  have KZ : ∀ x ∈ [PyData.str "a", .int 1, .str "z"], gd 2 x = true := by decide +kernel
  have hj : q / 32768 % 3 < [PyData.str "a", .int 1, .str "z"].length := Nat.mod_lt _ (by decide)
  have ix : ixD (.tuple [.str "a", .int 1, .str "z"]) (.int ((q : Int) / 32768 % 3)) = some [PyData.str "a", .int 1, .str "z"][q / 32768 % 3] := by
    have ca : (q : Int) / 32768 % 3 = ((q / 32768 % 3 : Nat) : Int) := by omega
    rw [ca]
    show atI _ _ = _
    exact atI_nat (List.getElem?_eq_getElem hj)
  have gz := KZ _ (List.getElem_mem hj)
  generalize [PyData.str "a", .int 1, .str "z"][q / 32768 % 3] = z at ix gz
  have tm : tmulD (.tuple [z]) (.int ((q : Int) / 131072 % 4)) = some (.tuple (List.replicate (q / 131072 % 4) [z]).flatten) := by
    have ca : (q : Int) / 131072 % 4 = ((q / 131072 % 4 : Nat) : Int) := by omega
    rw [ca]
    show (if (0 : Int) ≤ ((q / 131072 % 4 : Nat) : Int) ∧ ((q / 131072 % 4 : Nat) : Int) ≤ 1000 ∧ [z].length ≤ 1000 then some (PyData.tuple (List.replicate ((q / 131072 % 4 : Nat) : Int).toNat [z]).flatten) else none) = _
    rw [if_pos ⟨by omega, by omega, by simp⟩]
    rfl
  refine ⟨.tuple [.str "call", .str "f", .tuple (List.replicate (q / 131072 % 4) [z]).flatten], ?_, ?_⟩
  · refine gd_le (n := 4) (by omega) (gd_tup (by simp) fun x hx => ?_).1
    simp at hx
    rcases hx with rfl | rfl | rfl
    · decide +kernel
    · decide +kernel
    · refine (gd_tup (by simp; omega) fun x hx => ?_).1
      rw [(List.mem_replicate.mp hx).2]
      exact gz
  · simp [d01, modD_int, fdivD_int, ix, tm]
noncomputable abbrev k01Cut : Sm := (sAsg (eSl (eN tupR (aCons (eN tupR (aCons (eVar 3) (aCons (eVar 4) (aCons (eVar 5) aNil)))) (aCons (eN tupR (aCons (eC (.str "g")) (aCons (eSl (eN tupR (aCons (eC (.str "n")) (aCons (eC (.str "a")) (aCons (eC (.str "b")) (aCons (eC (.str "c")) aNil))))) oNone (oSome (e2 (l2 modD) (e2 (l2 fdivD) (eVar 2) (eC (.int 512))) (eC (.int 5))))) (aCons (eC (.int 1)) aNil)))) aNil))) (oSome (e2 (l2 modD) (e2 (l2 fdivD) (eVar 2) (eC (.int 4096))) (eC (.int 2)))) oNone) (gNm 1))
theorem k01_cut (ns : List Int) (a1 : Option R) (x : Str) (nd d : D) (hx : okS x = true) (hn : gd 11 nd = true) (hd : gd 11 d = true) (q : Nat) (S : SS) : ∃ d', Gd d' ∧ k01Cut (d01 ns a1 q (some (.dat (.str x))) (some (.dat nd)) (some (.dat d)) none none none none none none none) S = some (.nx (d01 ns (some (.dat d')) q (some (.dat (.str x))) (some (.dat nd)) (some (.dat d)) none none none none none none none), S) := by
  have KN : ∀ x ∈ [PyData.str "n", .str "a", .str "b", .str "c"], gd 2 x = true := by decide +kernel
  refine ⟨.tuple (cutL [.tuple [.str x, nd, d], .tuple [.str "g", .tuple (cutL [.str "n", .str "a", .str "b", .str "c"] none (some ((q : Int) / 512 % 5))), .int 1]] (some ((q : Int) / 4096 % 2)) none), ?_, ?_⟩
  · refine Gd.of (n := 13) (by omega) (gd_tup (Nat.le_trans (cutL_le _ _ _) (by simp)) fun y hy => ?_).1
    have hy := cut_sub y hy
    simp only [List.mem_cons, List.not_mem_nil, or_false] at hy
    rcases hy with rfl | rfl
    · refine (gd_tup (by simp) fun y hy => ?_).1
      simp at hy
      rcases hy with rfl | rfl | rfl
      · exact hx
      · exact hn
      · exact hd
    · refine (gd_tup (by simp) fun y hy => ?_).1
      simp at hy
      rcases hy with rfl | rfl | rfl
      · decide +kernel
      · exact (gd_tup (Nat.le_trans (cutL_le _ _ _) (by simp)) fun z hz => gd_le (by omega) (KN z (cut_sub z hz))).1
      · rfl
  · simp [d01, modD_int, fdivD_int]
end Cy
end
section
set_option Elab.async false
set_option maxRecDepth 100000
namespace Cy
open PySem L2
def B1 : List D := [.int 0, .int 999, .int 1000, .int (-1), .bool true, .bool false, .none, .tuple [], .str "n", .str "m", .tuple [.str "call", .str "a"], .tuple [.str "call", .str "a", .tuple [.int 1], .int 1]]
def B2 : List D := [.tuple [.str "call", .int 5, .tuple [.int 1]], .tuple [.str "call", .str "a", .list [.int 1]], .tuple [.str "call", .str "a", .tuple [.int 1]], .tuple [.str "call", .str "a", .tuple []]]
def B3 : List D := [.tuple [.str "call", .str "b", .tuple [.int 1]], .tuple [.str "plus", .int 1], .tuple [.int 5, .int 1, .int 2], .tuple [.str "plus", .int 1, .int 2, .int 3], .tuple [.str "if", .int 1, .int 2]]
def B4 : List D := [.list [.int 1], .tuple [.str "less", .str "n", .bool true]]
theorem B_gd : ∀ d ∈ B1 ++ B2 ++ B3 ++ B4, gd 3 d = true := by decide +kernel
noncomputable abbrev eB1 : Em := (eN lstR (aCons (eC (.int 0)) (aCons (eC (.int 999)) (aCons (eC (.int 1000)) (aCons (e1 (l1 negD) (eC (.int 1))) (aCons (eC (.bool true)) (aCons (eC (.bool false)) (aCons (eC .none) (aCons (eN tupR aNil) (aCons (eC (.str "n")) (aCons (eC (.str "m")) (aCons (eN tupR (aCons (eC (.str "call")) (aCons (eC (.str "a")) aNil))) (aCons (eN tupR (aCons (eC (.str "call")) (aCons (eC (.str "a")) (aCons (eN tupR (aCons (eC (.int 1)) aNil)) (aCons (eC (.int 1)) aNil))))) aNil)))))))))))))
noncomputable abbrev eB2 : Em := (eN lstR (aCons (eN tupR (aCons (eC (.str "call")) (aCons (eC (.int 5)) (aCons (eN tupR (aCons (eC (.int 1)) aNil)) aNil)))) (aCons (eN tupR (aCons (eC (.str "call")) (aCons (eC (.str "a")) (aCons (eN lstR (aCons (eC (.int 1)) aNil)) aNil)))) (aCons (eN tupR (aCons (eC (.str "call")) (aCons (eC (.str "a")) (aCons (eN tupR (aCons (eC (.int 1)) aNil)) aNil)))) (aCons (eN tupR (aCons (eC (.str "call")) (aCons (eC (.str "a")) (aCons (eN tupR aNil) aNil)))) aNil)))))
noncomputable abbrev eB3 : Em := (eN lstR (aCons (eN tupR (aCons (eC (.str "call")) (aCons (eC (.str "b")) (aCons (eN tupR (aCons (eC (.int 1)) aNil)) aNil)))) (aCons (eN tupR (aCons (eC (.str "plus")) (aCons (eC (.int 1)) aNil))) (aCons (eN tupR (aCons (eC (.int 5)) (aCons (eC (.int 1)) (aCons (eC (.int 2)) aNil)))) (aCons (eN tupR (aCons (eC (.str "plus")) (aCons (eC (.int 1)) (aCons (eC (.int 2)) (aCons (eC (.int 3)) aNil))))) (aCons (eN tupR (aCons (eC (.str "if")) (aCons (eC (.int 1)) (aCons (eC (.int 2)) aNil)))) aNil))))))
noncomputable abbrev eB4 : Em := (eN lstR (aCons (eN lstR (aCons (eC (.int 1)) aNil)) (aCons (eN tupR (aCons (eC (.str "less")) (aCons (eC (.str "n")) (aCons (eC (.bool true)) aNil)))) aNil)))
theorem eB1_eq (δ : Dl) (S : SS) : eB1 δ S = some (.dat (.list B1), S) := rfl
theorem eB2_eq (δ : Dl) (S : SS) : eB2 δ S = some (.dat (.list B2), S) := rfl
theorem eB3_eq (δ : Dl) (S : SS) : eB3 δ S = some (.dat (.list B3), S) := rfl
theorem eB4_eq (δ : Dl) (S : SS) : eB4 δ S = some (.dat (.list B4), S) := rfl
def ch6 (i : Nat) : Str := ⟨#[97 + i]⟩
theorem abc : ∀ i, i < 6 → ixD (.str "abcdef") (.int (i : Nat)) = some (.str (ch6 i)) := fun i hi => by
  show (if ("abcdef" : Str).length ≤ sizeLine then (atI ("abcdef" : Str).cps.toList (i : Nat)).map fun c => PyData.str ⟨#[c]⟩ else none) = _
  rw [if_pos (by rw [sizeLine_eq]; decide +kernel)]
  have e : ("abcdef" : Str).cps.toList = [97, 98, 99, 100, 101, 102] := by decide +kernel
  rw [e]
  match i, hi with
  | 0, _ => rfl
  | 1, _ => rfl
  | 2, _ => rfl
  | 3, _ => rfl
  | 4, _ => rfl
  | 5, _ => rfl
theorem ch6_gd : ∀ i < 6, gd 2 (.tuple [.str (ch6 i), .tuple [], .int 1]) = true := by decide +kernel
theorem abc_cut (j : Nat) : ∃ s : Str, okS s = true ∧ slD (.str "abcdef") none (some (3 + ((j : Int) % 3))) = some (.str s) := by
  have sz : ("abcdef" : Str).length ≤ sizeLine := by rw [sizeLine_eq]; decide +kernel
  have f : ∀ k : Int, slD (.str "abcdef") none (some k) = some (.str (cutS "abcdef" none (some k))) := fun k => by
    show (if ("abcdef" : Str).length ≤ sizeLine then some (PyData.str (cutS "abcdef" none (some k))) else none) = _
    rw [if_pos sz]
  refine ⟨_, ?_, f _⟩
  rcases (by omega : (j : Int) % 3 = 0 ∨ (j : Int) % 3 = 1 ∨ (j : Int) % 3 = 2) with h | h | h <;> rw [h] <;> decide +kernel
theorem bb_sh (v : Bool) : SeqAt.shaped (.bool v) = true ∧ (PyData.bool v).canLay0 = true := by
  refine ⟨shaped_of ⟨by simp [PyData.canLay0], by simp [PyData.depth]⟩, by simp [PyData.canLay0]⟩
theorem bb_ne (v : Bool) : neD (.bool v) (.bool v) = some (.bool false) := by
  unfold neD
  rw [(bb_sh v).1, SeqAt.eqv_refl _ (bb_sh v).2]
  rfl
theorem bb_eq (v : Bool) : eqD (.bool v) (.bool v) = some (.bool true) := by
  unfold eqD
  rw [(bb_sh v).1, SeqAt.eqv_refl _ (bb_sh v).2]
  rfl
theorem law_pure : ∀ ns : List Int, ns.length ≤ 63 → Φ 600 .law_k01 [.scr ns] [] = some (.dat (.bool true), []) := by
  intro ns _
  obtain ⟨q0, h0⟩ := x_mixed ns 0
  obtain ⟨b, B, hb⟩ := r_book q0
  obtain ⟨q, h1⟩ := x_mixed ns 1
  obtain ⟨q2, h2⟩ := x_mixed ns 2
  have h0 : Φ 599 .law_mixed [.scr ns, .dat (.int 0)] [] = some (.dat (.int q0), []) := h0 597 []
  have h1 : Φ 599 .law_mixed [.scr ns, .dat (.int 1)] [] = some (.dat (.int q), []) := h1 597 []
  have h2 : Φ 599 .law_mixed [.scr ns, .dat (.int 2)] [] = some (.dat (.int q2), []) := h2 597 []
  have hb : Φ 599 .law_book [.dat (.int q0)] [] = some (.dat (encB b), []) := hb 594 []
  have bk : ∀ d, Gd d → Φ 599 .is_book_k01 [.dat d] [] = some (.dat (.bool (isB d)), []) := fun d hd => r_is_book hd 586 []
  have lb : ∀ d, Gd d → Φ 599 .law_is_book [.dat d] [] = some (.dat (.bool (isB d)), []) := fun d hd => r_law_is_book hd 592 []
  rw [show (600 : Nat) = 599 + 1 from rfl, Φ_succ]
  show b_law_k01 (Φ 599) _ [] = _
  unfold b_law_k01
  refine run_rt0 rfl ?_
  refine sqS (δ1 := [some (.scr ns), some (.dat (encB b)), none, none, none, none, none, none, none, none, none, none, none, none]) (S1 := []) (by simp [startD, h0, hb]) ?_
  refine sqS (δ1 := d01 ns (some (.dat (encB b))) q none none none none none none none none none none) (S1 := []) (by simp [h1, d01]) ?_
  -- spoilt or not
  obtain ⟨d, gdd, st3⟩ : ∃ d, Gd d ∧ sIf (tOf (e2 (l2 gtD) (e2 (l2 modD) (eVar 2) (eC (.int 3))) (eC (.int 0)))) (sAsg (eCall (Φ 599 .law_spoilt_k01) (aCons (eVar 1) (aCons (eCall (Φ 599 .law_mixed) (aCons (eVar 0) (aCons (eC (.int 2)) aNil))) (aCons (e2 (l2 modD) (e2 (l2 fdivD) (eVar 2) (eC (.int 3))) (eC (.int 7))) aNil)))) (gNm 1)) sSkip (d01 ns (some (.dat (encB b))) q none none none none none none none none none none) [] = some (.nx (d01 ns (some (.dat d)) q none none none none none none none none none none), []) := by
    by_cases h : q % 3 = 0
    · refine ⟨encB b, Gd.of (by omega) (sg_gd 10 _ (book_sg B)), ?_⟩
      have h' : (q : Int) % 3 = 0 := by omega
      simp [d01, modD_int, h', gt0]
    · obtain ⟨d, g1, g2⟩ := r_spoilt (q / 3 % 7) 10 (encB b) (by omega) (book_sg B) q2
      have g2 := g2 (597 - q / 3 % 7) []
      rw [show 597 - q / 3 % 7 + q / 3 % 7 + 2 = 599 by omega] at g2
      refine ⟨d, Gd.of (by omega) g1, ?_⟩
      have h' : (0 : Int) < (q : Int) % 3 := by omega
      have c7 : ((q / 3 % 7 : Nat) : Int) = (q : Int) / 3 % 7 := by omega
      rw [c7] at g2
      simp [d01, modD_int, fdivD_int, h', gt0, h2, g2]
  refine sqS (δ1 := d01 ns (some (.dat d)) q none none none none none none none none none none) (S1 := []) st3 ?_
  -- the first maker deeper, or calling
  obtain ⟨d', a3, a4, a5, gdd', st4⟩ : ∃ d' a3 a4 a5, Gd d' ∧ sIf (tOf (e2 (l2 eqD) (e2 (l2 modD) (e2 (l2 fdivD) (eVar 2) (eC (.int 32))) (eC (.int 4))) (eC (.int 1))))
      (sSeq (sAsg (e2 ixR (eCall (Φ 599 .law_book) (aCons (eCall (Φ 599 .law_mixed) (aCons (eVar 0) (aCons (eC (.int 0)) aNil))) aNil)) (eC (.int 0))) (gTp 3 (gsCons (gNm 3) (gsCons (gNm 4) (gsCons (gNm 5) gsNil)))))
      (sSeq (sFor (iRange1 (e2 (l2 modD) (e2 (l2 fdivD) (eVar 2) (eC (.int 128))) (eC (.int 4)))) (gNm 6)
      (sAsg (eN tupR (aCons (eC (.str "plus")) (aCons (eC (.int 1)) (aCons (eVar 5) aNil)))) (gNm 5)) [6])
      (sSeq (sIf (tOf (e2 (l2 eqD) (e2 (l2 modD) (e2 (l2 fdivD) (eVar 2) (eC (.int 16384))) (eC (.int 2))) (eC (.int 1))))
      k01Call
      sSkip)
      k01Cut)))
      sSkip (d01 ns (some (.dat d)) q none none none none none none none none none none) [] = some (.nx (d01 ns (some (.dat d')) q a3 a4 a5 none none none none none none none), []) := by
    by_cases h : q / 32 % 4 = 1
    · have hpos := B.pos
      obtain ⟨m, r, hbm⟩ : ∃ m r, b = m :: r := by
        cases b with
        | nil => simp at hpos
        | cons m r => exact ⟨m, r, rfl⟩
      obtain ⟨s1, s2, s3, s4⟩ := mk_sg B (m := m) (by rw [hbm]; exact List.mem_cons_self)
      have i0 : ixD (encB b) (.int 0) = some (encM m) := by rw [hbm]; simp [encB]
      obtain ⟨e, e1, e2'⟩ := k01_deeper ns (some (.dat d)) (some (.dat (.str m.1))) (some (.dat (namesD m.2.1))) q [] (rangeR 0 ((q : Int) / 128 % 4).toNat) 8 (enc m.2.2) (sg_gd _ _ s4)
      have rl : (rangeR 0 ((q : Int) / 128 % 4).toNat).length ≤ 3 := by simp [rangeR]; omega
      have e1 : gd 11 e = true := gd_le (by omega) e1
      obtain ⟨f, f1, f2⟩ : ∃ f, gd 11 f = true ∧ sIf (tOf (e2 (l2 eqD) (e2 (l2 modD) (e2 (l2 fdivD) (eVar 2) (eC (.int 16384))) (eC (.int 2))) (eC (.int 1)))) k01Call sSkip (d01 ns (some (.dat d)) q (some (.dat (.str m.1))) (some (.dat (namesD m.2.1))) (some (.dat e)) none none none none none none none) [] = some (.nx (d01 ns (some (.dat d)) q (some (.dat (.str m.1))) (some (.dat (namesD m.2.1))) (some (.dat f)) none none none none none none none), []) := by
        by_cases h3 : q / 16384 % 2 = 1
        · obtain ⟨f, f1, f2⟩ := k01_call ns (some (.dat d)) (some (.dat (.str m.1))) (some (.dat (namesD m.2.1))) (some (.dat e)) q []
          refine ⟨f, f1, ?_⟩
          have h' : ((q : Int) / 16384 % 2 == 1) = true := by rw [beq_iff_eq]; omega
          have t : tOf (e2 (l2 eqD) (e2 (l2 modD) (e2 (l2 fdivD) (eVar 2) (eC (.int 16384))) (eC (.int 2))) (eC (.int 1))) (d01 ns (some (.dat d)) q (some (.dat (.str m.1))) (some (.dat (namesD m.2.1))) (some (.dat e)) none none none none none none none) [] = some (true, []) := by
            simp only [beq_iff_eq] at h'
            simp [d01, modD_int, fdivD_int, eqD_int, h']
          rw [sIf_eq, t]
          simp only [if_true]
          exact f2
        · refine ⟨e, e1, ?_⟩
          have h' : ((q : Int) / 16384 % 2 == 1) = false := by rw [beq_eq_false_iff_ne]; omega
          simp [d01, modD_int, fdivD_int, eqD_int, h']
      obtain ⟨d', g1, g2⟩ := k01_cut ns (some (.dat d)) m.1 (namesD m.2.1) f s2 (gd_le (by omega) (sg_gd _ _ s3)) f1 q []
      refine ⟨d', some (.dat (.str m.1)), some (.dat (namesD m.2.1)), some (.dat f), g1, ?_⟩
      have h' : (q : Int) / 32 % 4 = 1 := by omega
      have t : tOf (e2 (l2 eqD) (e2 (l2 modD) (e2 (l2 fdivD) (eVar 2) (eC (.int 32))) (eC (.int 4))) (eC (.int 1))) (d01 ns (some (.dat d)) q none none none none none none none none none none) [] = some (true, []) := by
        simp [d01, modD_int, fdivD_int, eqD_int, h']
      rw [sIf_eq, t]
      simp only [if_true]
      refine sqS (δ1 := d01 ns (some (.dat d)) q (some (.dat (.str m.1))) (some (.dat (namesD m.2.1))) (some (.dat (enc m.2.2))) none none none none none none none) (S1 := []) (by
        have em : encM m = .tuple [.str m.1, namesD m.2.1, enc m.2.2] := rfl
        rw [em] at i0
        simp [d01, h0, hb, i0]) ?_
      refine sqS (δ1 := d01 ns (some (.dat d)) q (some (.dat (.str m.1))) (some (.dat (namesD m.2.1))) (some (.dat e)) none none none none none none none) (S1 := []) (by
        have b1 : (q : Int) / 128 % 4 ≤ 1000000 := by omega
        have b2 : (-1000000 : Int) ≤ (q : Int) / 128 % 4 := by omega
        have ir : iRange1 (e2 (l2 modD) (e2 (l2 fdivD) (eVar 2) (eC (.int 128))) (eC (.int 4))) (d01 ns (some (.dat d)) q (some (.dat (.str m.1))) (some (.dat (namesD m.2.1))) (some (.dat (enc m.2.2))) none none none none none none none) [] = some (rangeR 0 ((q : Int) / 128 % 4).toNat, none, []) := by
          simp [d01, modD_int, fdivD_int, b1, b2]
        rw [sFor_eq, ir]
        exact e2') ?_
      exact sqS f2 g2
    · refine ⟨d, none, none, none, gdd, ?_⟩
      have h' : ((q : Int) / 32 % 4 == 1) = false := by rw [beq_eq_false_iff_ne]; omega
      simp [d01, modD_int, fdivD_int, eqD_int, h']
  refine sqS (δ1 := d01 ns (some (.dat d')) q a3 a4 a5 none none none none none none none) (S1 := []) st4 ?_
  -- little books
  have hj : q / 4096 % 23 < (B1 ++ B2 ++ B3 ++ B4).length := by
    have : (B1 ++ B2 ++ B3 ++ B4).length = 23 := by decide
    rw [this]
    exact Nat.mod_lt _ (by decide)
  have gz := B_gd _ (List.getElem_mem hj)
  have ix : ixD (.list (B1 ++ B2 ++ B3 ++ B4)) (.int ((q : Int) / 4096 % 23)) = some (B1 ++ B2 ++ B3 ++ B4)[q / 4096 % 23] := by
    have ca : (q : Int) / 4096 % 23 = ((q / 4096 % 23 : Nat) : Int) := by omega
    rw [ca]
    show atI _ _ = _
    exact atI_nat (List.getElem?_eq_getElem hj)
  have s1 : addD (.list B1) (.list B2) = some (.list (B1 ++ B2)) := addL9 (by decide)
  have s2 : addD (.list (B1 ++ B2)) (.list B3) = some (.list (B1 ++ B2 ++ B3)) := addL9 (by decide)
  have s3 : addD (.list (B1 ++ B2 ++ B3)) (.list B4) = some (.list (B1 ++ B2 ++ B3 ++ B4)) := addL9 (by decide)
  generalize (B1 ++ B2 ++ B3 ++ B4)[q / 4096 % 23] = z at ix gz
  generalize B1 ++ B2 ++ B3 ++ B4 = L4 at ix s3
  generalize B1 ++ B2 ++ B3 = L3 at s2 s3
  generalize B1 ++ B2 = L2' at s1 s2
  refine sqS (δ1 := d01 ns (some (.dat d')) q a3 a4 a5 none (some (.dat (.list B1))) none none none none none) (S1 := []) (by
    show sAsg eB1 (gNm 7) _ _ = _
    rw [sAsg_eq, eB1_eq]
    simp [d01]) ?_
  refine sqS (δ1 := d01 ns (some (.dat d')) q a3 a4 a5 none (some (.dat (.list L2'))) none none none none none) (S1 := []) (by
    have v7 : eVar 7 (d01 ns (some (.dat d')) q a3 a4 a5 none (some (.dat (.list B1))) none none none none none) [] = some (.dat (.list B1), []) := rfl
    show sAsg (e2 (l2 addD) (eVar 7) eB2) (gNm 7) _ _ = _
    rw [sAsg_eq, e2_eq]
    simp only [v7, eB2_eq, l2_dat, s1]
    simp [d01]) ?_
  refine sqS (δ1 := d01 ns (some (.dat d')) q a3 a4 a5 none (some (.dat (.list L3))) none none none none none) (S1 := []) (by
    have v7 : eVar 7 (d01 ns (some (.dat d')) q a3 a4 a5 none (some (.dat (.list L2'))) none none none none none) [] = some (.dat (.list L2'), []) := rfl
    show sAsg (e2 (l2 addD) (eVar 7) eB3) (gNm 7) _ _ = _
    rw [sAsg_eq, e2_eq]
    simp only [v7, eB3_eq, l2_dat, s2]
    simp [d01]) ?_
  refine sqS (δ1 := d01 ns (some (.dat d')) q a3 a4 (some (.dat z)) none (some (.dat (.list L3))) none none none none none) (S1 := []) (by
    have v7 : eVar 7 (d01 ns (some (.dat d')) q a3 a4 a5 none (some (.dat (.list L3))) none none none none none) [] = some (.dat (.list L3), []) := rfl
    have w : (e2 (l2 modD) (e2 (l2 fdivD) (eVar 2) (eC (.int 4096))) (eC (.int 23))) (d01 ns (some (.dat d')) q a3 a4 a5 none (some (.dat (.list L3))) none none none none none) [] = some (.dat (.int ((q : Int) / 4096 % 23)), []) := by simp [d01, modD_int, fdivD_int]
    have u : (e2 (l2 addD) (eVar 7) eB4) (d01 ns (some (.dat d')) q a3 a4 a5 none (some (.dat (.list L3))) none none none none none) [] = some (.dat (.list L4), []) := by
      rw [e2_eq]
      simp only [v7, eB4_eq, l2_dat, s3]
    show sAsg (e2 ixR (e2 (l2 addD) (eVar 7) eB4) (e2 (l2 modD) (e2 (l2 fdivD) (eVar 2) (eC (.int 4096))) (eC (.int 23)))) (gNm 5) _ _ = _
    rw [sAsg_eq, e2_eq]
    simp only [u, w, ixR_dat, l2_dat, ix]
    simp [d01]) ?_
  -- a little book
  have g8 : Gd (.tuple [.tuple [.str "a", .tuple [.str "n"], z]]) := Gd.of (n := 5) (by omega) (gd_tup (by simp) fun x hx => by
    simp at hx
    subst hx
    refine (gd_tup (by simp) fun x hx => ?_).1
    simp at hx
    rcases hx with rfl | rfl | rfl
    · decide +kernel
    · decide +kernel
    · exact gz).1
  refine sqS (δ1 := d01 ns (some (.dat d')) q a3 a4 (some (.dat z)) none (some (.dat (.list L3))) (some (.dat (.tuple [.tuple [.str "a", .tuple [.str "n"], z]]))) none none none none) (S1 := []) (by simp [d01]) ?_
  refine sqS (δ1 := d01 ns (some (.dat d')) q a3 a4 (some (.dat z)) none (some (.dat (.list L3))) (some (.dat (.tuple [.tuple [.str "a", .tuple [.str "n"], z]]))) none none none none) (S1 := []) (by
    have := bk _ g8
    have := lb _ g8
    simp [d01, bk _ g8, lb _ g8, bb_ne]) ?_
  generalize PyData.tuple [.tuple [.str "a", .tuple [.str "n"], z]] = z8
  -- makers
  obtain ⟨M, gM, hM⟩ : ∃ M, Gd M ∧ e1 (l1 tupD) (eComp [13] (iRange1 (e2 (l2 addD) (eC (.int 3)) (e2 (l2 modD) (e2 (l2 fdivD) (eVar 2) (eC (.int 64))) (eC (.int 3))))) (gNm 13) tTrue (eN tupR (aCons (e2 ixR (eC (.str "abcdef")) (eVar 13)) (aCons (eN tupR aNil) (aCons (eC (.int 1)) aNil))))) (d01 ns (some (.dat d')) q a3 a4 (some (.dat z)) none (some (.dat (.list L3))) (some (.dat z8)) none none none none) [] = some (.dat M, []) := by
    have c : eComp [13] (iRange1 (e2 (l2 addD) (eC (.int 3)) (e2 (l2 modD) (e2 (l2 fdivD) (eVar 2) (eC (.int 64))) (eC (.int 3))))) (gNm 13) tTrue (eN tupR (aCons (e2 ixR (eC (.str "abcdef")) (eVar 13)) (aCons (eN tupR aNil) (aCons (eC (.int 1)) aNil)))) (d01 ns (some (.dat d')) q a3 a4 (some (.dat z)) none (some (.dat (.list L3))) (some (.dat z8)) none none none none) [] = some (.dat (.list ((List.range (3 + (q : Int) / 64 % 3).toNat).map fun i => .tuple [.str (ch6 i), .tuple [], .int 1])), []) := by
      have b1 : 3 + (q : Int) / 64 % 3 ≤ 1000000 := by omega
      have b2 : (-1000000 : Int) ≤ 3 + (q : Int) / 64 % 3 := by omega
      have ir : iRange1 (e2 (l2 addD) (eC (.int 3)) (e2 (l2 modD) (e2 (l2 fdivD) (eVar 2) (eC (.int 64))) (eC (.int 3)))) (d01 ns (some (.dat d')) q a3 a4 (some (.dat z)) none (some (.dat (.list L3))) (some (.dat z8)) none none none none) [] = some ((List.range (3 + (q : Int) / 64 % 3).toNat).map fun (i : Nat) => R.dat (.int (0 + (i : Int))), none, []) := by
        simp [d01, modD_int, fdivD_int, b1, b2, rangeR]
      refine eComp_ok ir (CompOk.map (fun (i : Nat) => R.dat (.int (0 + (i : Int)))) (fun i => .tuple [.str (ch6 i), .tuple [], .int 1]) _ fun i hi => ⟨(d01 ns (some (.dat d')) q a3 a4 (some (.dat z)) none (some (.dat (.list L3))) (some (.dat z8)) none none none none).set 13 (some (.dat (.int (0 + (i : Int))))), by simp [d01], fun acc => ?_⟩)
      have hi := List.mem_range.mp hi
      have ab := abc i (by omega)
      simp [d01, ab]
    refine ⟨_, ?_, by rw [e1_eq, c]; rfl⟩
    refine Gd.of (n := 3) (by omega) (gd_tup (by simp; omega) fun x hx => ?_).1
    obtain ⟨i, hi, rfl⟩ := List.mem_map.mp hx
    have hi := List.mem_range.mp hi
    exact ch6_gd i (by omega)
  refine sqS (δ1 := d01 ns (some (.dat d')) q a3 a4 (some (.dat z)) none (some (.dat (.list L3))) (some (.dat z8)) (some (.dat M)) none none none) (S1 := []) (by rw [sAsg_eq, hM]; simp [d01]) ?_
  obtain ⟨s, gs, hs⟩ := abc_cut (q / 1024)
  have cs : ((q / 1024 : Nat) : Int) = (q : Int) / 1024 := by omega
  rw [cs] at hs
  refine sqS (δ1 := d01 ns (some (.dat d')) q a3 a4 (some (.dat z)) none (some (.dat (.list L3))) (some (.dat z8)) (some (.dat M)) (some (.dat (.str s))) none none) (S1 := []) (by
    simp [d01, modD_int, fdivD_int, hs]) ?_
  have gL : Gd (.tuple [.tuple [.str s, .tuple [.str s], .str s]]) := Gd.of (n := 3) (by omega) (gd_tup (by simp) fun x hx => by
    simp at hx
    subst hx
    refine (gd_tup (by simp) fun x hx => ?_).1
    simp at hx
    rcases hx with rfl | rfl | rfl
    · exact gs
    · exact (gd_tup (by simp) fun x hx => by simp at hx; subst hx; exact gs).1
    · exact gs).1
  refine sqS (δ1 := d01 ns (some (.dat d')) q a3 a4 (some (.dat z)) none (some (.dat (.list L3))) (some (.dat z8)) (some (.dat M)) (some (.dat (.str s))) none none) (S1 := []) (by
    have m1 := bk _ gM
    have m2 := lb _ gM
    have l1' := bk _ gL
    have l2' := lb _ gL
    generalize hLL : PyData.tuple [.tuple [.str s, .tuple [.str s], .str s]] = LL at l1' l2'
    have it : iSeq (eN tupR (aCons (eVar 9) (aCons (eN tupR (aCons (eN tupR (aCons (eVar 10) (aCons (eN tupR (aCons (eVar 10) aNil)) (aCons (eVar 10) aNil)))) aNil)) aNil))) (d01 ns (some (.dat d')) q a3 a4 (some (.dat z)) none (some (.dat (.list L3))) (some (.dat z8)) (some (.dat M)) (some (.dat (.str s))) none none) [] = some ([R.dat M, R.dat LL], none, []) := by
      rw [← hLL]
      simp [d01]
    rw [sFor_eq, it]
    simp [forL_cons, d01, m1, m2, l1', l2', bb_ne]) ?_
  have r1 := bk _ gdd'
  have r2 := lb _ gdd'
  refine sqS (δ1 := d01 ns (some (.dat d')) q a3 a4 (some (.dat z)) none (some (.dat (.list L3))) (some (.dat z8)) (some (.dat M)) (some (.dat (.str s))) none (some (.dat (.bool (isB d'))))) (S1 := []) (by simp [d01, r1]) ?_
  simp [d01, r2, bb_eq]
end Cy
end
section
set_option Elab.async false
set_option maxRecDepth 100000
set_option maxHeartbeats 2000000
namespace Cy
open PySem PySem.Spec PyProof.Rows L2 RZ
def topS (i : Nat) : Stmt := PySem.Challenge.pw_copyshapes_k01_books.main.body.getD i (.Pass ⟨0, 0, 0, 0⟩)
abbrev st_is_worth : Stmt := topS 9
abbrev st_is_name : Stmt := topS 10
abbrev st_is_call : Stmt := topS 11
abbrev st_is_sum : Stmt := topS 12
abbrev st_is_head : Stmt := topS 13
abbrev st_is_book_k01 : Stmt := topS 14
abbrev st_law_cell_at : Stmt := topS 16
abbrev st_law_mixed : Stmt := topS 17
abbrev st_law_drawn : Stmt := topS 18
abbrev st_law_sum : Stmt := topS 19
abbrev st_law_again : Stmt := topS 20
abbrev st_law_book : Stmt := topS 21
abbrev st_law_is_name : Stmt := topS 23
abbrev st_law_is_sum : Stmt := topS 24
abbrev st_law_is_book : Stmt := topS 25
abbrev st_law_spoilt_k01 : Stmt := topS 26
abbrev st_law_k01 : Stmt := topS 27
structure Txt (K : PySem.W.Frag) (mg : Str → Option Value) (cl : Cls0) : Prop where
  isinstance : mg "isinstance" = none
  int : mg "int" = none
  bool : mg "bool" = none
  str : mg "str" = none
  len : mg "len" = none
  all : mg "all" = none
  tuple : mg "tuple" = none
  set : mg "set" = none
  dict : mg "dict" = none
  list : mg "list" = none
  range : mg "range" = none
  enumerate : mg "enumerate" = none
  RING : GlobD K mg "RING" c_RING
  LONGEST : GlobD K mg "LONGEST" c_LONGEST
  BARRED : GlobD K mg "BARRED" c_BARRED
  LETTERS : GlobD K mg "LETTERS" c_LETTERS
  WORDS : GlobD K mg "WORDS" c_WORDS
  MOST_NAMES : GlobD K mg "MOST_NAMES" c_MOST_NAMES
  MOST_MAKERS : GlobD K mg "MOST_MAKERS" c_MOST_MAKERS
  DEEPEST : GlobD K mg "DEEPEST" c_DEEPEST
section
variable {P : Program} {w : World} {K : PySem.W.Frag} {mg : Str → Option Value} {base : Heap} {cl : Cls0} {φ : Fid → Fn}
theorem sc_is_worth : FnScope ["thing"] ["thing"] (defScope st_is_worth) := ⟨rfl, rfl, rfl, by decide +kernel, rfl, by decide +kernel, by decide +kernel⟩
theorem d_is_worth (T : Txt K mg cl) {f : Addr} {fd : FuncData} (F : Fun K "is_worth" "is_worth" st_is_worth f fd) (hm : mg "is_worth" = some (.ref f)) (hb : Binds K fd ["thing"] []) {n : Nat} :
    Callee P w K mg base cl (n + 1) "is_worth" (b_is_worth φ) :=
  Callee.succ F hm hb sc_is_worth rfl rfl fun cdv A outer s H E ht hr =>
  (bv_one (sv_ret (ev_and (ev_isi (by rfl) T.isinstance (ev_var (pv 0)) (pe_bltn (v := .ty "int") (by rfl) T.int (by decide +kernel) rfl)) (ev_and (ev_not (ev_isi (by rfl) T.isinstance (ev_var (pv 0)) (pe_bltn (v := .ty "bool") (by rfl) T.bool (by decide +kernel) rfl))) (ev_bone (ev_chain or_le (l2_op od_le) or_lt (l2_op od_lt) ev_int (ev_var (pv 0)) (ev_glob T.RING (by rfl))))))))
theorem sc_is_name : FnScope ["thing", "sign"] ["thing"] (defScope st_is_name) := ⟨rfl, rfl, rfl, by decide +kernel, rfl, by decide +kernel, by decide +kernel⟩
theorem d_is_name (T : Txt K mg cl) {f : Addr} {fd : FuncData} (F : Fun K "is_name" "is_name" st_is_name f fd) (hm : mg "is_name" = some (.ref f)) (hb : Binds K fd ["thing"] []) {n : Nat} :
    Callee P w K mg base cl (n + 1) "is_name" (b_is_name φ) :=
  Callee.succ F hm hb sc_is_name rfl rfl fun cdv A outer s H E ht hr =>
  (bv_cons (sv_if (tv_w (wv_or (tv_not (tv_val (ev_isi (by rfl) T.isinstance (ev_var (pv 0)) (pe_bltn (v := .ty "str") (by rfl) T.str (by decide +kernel) rfl)))) (wv_or (tv_not (tv_chain or_le (l2_op od_le) or_le (l2_op od_le) ev_int (ev_len (by rfl) T.len (ev_var (pv 0))) (ev_glob T.LONGEST (by rfl)))) (wv_or1 (tv_cmp (or_in (u65 hr)) oR_in (ev_var (pv 0)) (ev_glob T.BARRED (by rfl)) (by with_unfolding_all rfl))))))
  (bv_one (sv_ret ev_bl))
  bv_nil)
  (bv_one (sv_ret (ev_all (by rfl) (by rfl) T.all (ev_comp (own := [("sign", 1)]) (by rfl) sc_is_name.nd (iv_seq (ev_var (pv 0))) (blkOk_by (own := [("sign", 1)]) (N := ["thing", "sign"]) (sc := defScope st_is_name) (by decide +kernel)) (fun _ _ _ _ _ => (gv_name sc_is_name.nd rfl (by first | exact Or.inl rfl | exact Or.inr rfl))) (fun _ _ _ _ _ => tsv_nil) (fun _ _ _ _ _ => (ev_cmp (or_in (u65 hr)) oR_in (ev_var (pv 1)) (ev_glob T.LETTERS (by rfl)) (by with_unfolding_all rfl))) (by decide))))))
theorem sc_is_call : FnScope ["thing", "names", "known", "deep", "part"] ["thing", "names", "known", "deep"] (defScope st_is_call) := ⟨rfl, rfl, rfl, by decide +kernel, rfl, by decide +kernel, by decide +kernel⟩
theorem d_is_call (T : Txt K mg cl) {f : Addr} {fd : FuncData} (F : Fun K "is_call" "is_call" st_is_call f fd) (hm : mg "is_call" = some (.ref f)) (hb : Binds K fd ["thing", "names", "known", "deep"] []) {n : Nat} (C_is_sum : Callee P w K mg base cl n "is_sum" (φ .is_sum)) :
    Callee P w K mg base cl (n + 1) "is_call" (b_is_call φ) :=
  Callee.succ F hm hb sc_is_call rfl rfl fun cdv A outer s H E ht hr =>
  (bv_cons (sv_if (tv_w (wv_or (tv_cmp (op_neD hr.units) (l2_op od_ne) (ev_len (by rfl) T.len (ev_var (pv 0))) ev_int (nomark _)) (wv_or (tv_not (tv_val (ev_isi (by rfl) T.isinstance (ev_ix (hu_of hr) (ev_var (pv 0)) ev_int) (pe_bltn (v := .ty "str") (by rfl) T.str (by decide +kernel) rfl)))) (wv_or1 (tv_not (tv_val (ev_isi (by rfl) T.isinstance (ev_ix (hu_of hr) (ev_var (pv 0)) ev_int) (pe_bltn (v := .ty "tuple") (by rfl) T.tuple (by decide +kernel) rfl))))))))
  (bv_one (sv_ret ev_bl))
  bv_nil)
  (bv_cons (sv_if (tv_cmp (op_neD hr.units) (l2_op od_ne) (ev_get2 (hu_of hr) (ev_var (pv 2)) (ev_ix (hu_of hr) (ev_var (pv 0)) ev_int) (ev_un un_neg (l1_op od_neg) ev_int)) (ev_len (by rfl) T.len (ev_ix (hu_of hr) (ev_var (pv 0)) ev_int)) (nomark _))
  (bv_one (sv_ret ev_bl))
  bv_nil)
  (bv_one (sv_ret (ev_all (by rfl) (by rfl) T.all (ev_comp (own := [("part", 4)]) (by rfl) sc_is_call.nd (iv_seq (ev_ix (hu_of hr) (ev_var (pv 0)) ev_int)) (blkOk_by (own := [("part", 4)]) (N := ["thing", "names", "known", "deep", "part"]) (sc := defScope st_is_call) (by decide +kernel)) (fun _ _ _ _ _ => (gv_name sc_is_call.nd rfl (by first | exact Or.inl rfl | exact Or.inr rfl))) (fun _ _ _ _ _ => tsv_nil) (fun _ _ _ _ _ => (ev_call C_is_sum ht (by rfl) (av_cons (ev_var (pv 4)) (av_cons (ev_var (pv 1)) (av_cons (ev_var (pv 2)) (av_cons (ev_var (pv 3)) av_nil)))) (by decide))) (by decide)))))))
theorem sc_is_sum : FnScope ["thing", "names", "known", "deep", "part"] ["thing", "names", "known", "deep"] (defScope st_is_sum) := ⟨rfl, rfl, rfl, by decide +kernel, rfl, by decide +kernel, by decide +kernel⟩
theorem d_is_sum (T : Txt K mg cl) {f : Addr} {fd : FuncData} (F : Fun K "is_sum" "is_sum" st_is_sum f fd) (hm : mg "is_sum" = some (.ref f)) (hb : Binds K fd ["thing", "names", "known", "deep"] []) {n : Nat} (C_is_worth : Callee P w K mg base cl n "is_worth" (φ .is_worth)) (C_is_call : Callee P w K mg base cl n "is_call" (φ .is_call)) (C_is_sum : Callee P w K mg base cl n "is_sum" (φ .is_sum)) :
    Callee P w K mg base cl (n + 1) "is_sum" (b_is_sum φ) :=
  Callee.succ F hm hb sc_is_sum rfl rfl fun cdv A outer s H E ht hr =>
  (bv_cons (sv_if (tv_val (ev_isi (by rfl) T.isinstance (ev_var (pv 0)) (pe_bltn (v := .ty "str") (by rfl) T.str (by decide +kernel) rfl)))
  (bv_one (sv_ret (ev_cmp (or_in (u65 hr)) oR_in (ev_var (pv 0)) (ev_var (pv 1)) (by with_unfolding_all rfl))))
  bv_nil)
  (bv_cons (sv_if (tv_not (tv_val (ev_isi (by rfl) T.isinstance (ev_var (pv 0)) (pe_bltn (v := .ty "tuple") (by rfl) T.tuple (by decide +kernel) rfl))))
  (bv_one (sv_ret (ev_call C_is_worth ht (by rfl) (av_cons (ev_var (pv 0)) av_nil) (by decide))))
  bv_nil)
  (bv_cons (sv_if (tv_w (wv_or (tv_cmp (op_eqD hr.units) (l2_op od_eq) (ev_var (pv 3)) ev_int (nomark _)) (wv_or (tv_cmp (op_eqD hr.units) (l2_op od_eq) (ev_len (by rfl) T.len (ev_var (pv 0))) ev_int (nomark _)) (wv_or1 (tv_not (tv_val (ev_isi (by rfl) T.isinstance (ev_ix (hu_of hr) (ev_var (pv 0)) ev_int) (pe_bltn (v := .ty "str") (by rfl) T.str (by decide +kernel) rfl))))))))
  (bv_one (sv_ret ev_bl))
  bv_nil)
  (bv_cons (sv_if (tv_cmp (op_eqD hr.units) (l2_op od_eq) (ev_ix (hu_of hr) (ev_var (pv 0)) ev_int) ev_str (nomark _))
  (bv_one (sv_ret (ev_call C_is_call ht (by rfl) (av_cons (ev_var (pv 0)) (av_cons (ev_var (pv 1)) (av_cons (ev_var (pv 2)) (av_cons (ev_bin op_sub (l2_op od_sub) (ev_var (pv 3)) ev_int) av_nil)))) (by decide))))
  bv_nil)
  (bv_cons (sv_if (tv_w (wv_or (tv_w (wv_and (tv_cmp (op_eqD hr.units) (l2_op od_eq) (ev_ix (hu_of hr) (ev_var (pv 0)) ev_int) ev_str (nomark _)) (wv_and1 (tv_cmp (op_eqD hr.units) (l2_op od_eq) (ev_len (by rfl) T.len (ev_var (pv 0))) ev_int (nomark _))))) (wv_or1 (tv_w (wv_and (tv_cmp (or_in (u65 hr)) oR_in (ev_ix (hu_of hr) (ev_var (pv 0)) ev_int) (ev_glob T.WORDS (by rfl)) (by with_unfolding_all rfl)) (wv_and1 (tv_cmp (op_eqD hr.units) (l2_op od_eq) (ev_len (by rfl) T.len (ev_var (pv 0))) ev_int (nomark _))))))))
  (bv_one (sv_ret (ev_all (by rfl) (by rfl) T.all (ev_comp (own := [("part", 4)]) (by rfl) sc_is_sum.nd (iv_seq (ev_sl (ev_var (pv 0)) (ov_some ev_int) ov_none)) (blkOk_by (own := [("part", 4)]) (N := ["thing", "names", "known", "deep", "part"]) (sc := defScope st_is_sum) (by decide +kernel)) (fun _ _ _ _ _ => (gv_name sc_is_sum.nd rfl (by first | exact Or.inl rfl | exact Or.inr rfl))) (fun _ _ _ _ _ => tsv_nil) (fun _ _ _ _ _ => (ev_call C_is_sum ht (by rfl) (av_cons (ev_var (pv 4)) (av_cons (ev_var (pv 1)) (av_cons (ev_var (pv 2)) (av_cons (ev_bin op_sub (l2_op od_sub) (ev_var (pv 3)) ev_int) av_nil)))) (by decide))) (by decide)))))
  bv_nil)
  (bv_one (sv_ret ev_bl)))))))
theorem sc_is_head : FnScope ["thing", "part"] ["thing"] (defScope st_is_head) := ⟨rfl, rfl, rfl, by decide +kernel, rfl, by decide +kernel, by decide +kernel⟩
theorem d_is_head (T : Txt K mg cl) {f : Addr} {fd : FuncData} (F : Fun K "is_head" "is_head" st_is_head f fd) (hm : mg "is_head" = some (.ref f)) (hb : Binds K fd ["thing"] []) {n : Nat} (C_is_name : Callee P w K mg base cl n "is_name" (φ .is_name)) :
    Callee P w K mg base cl (n + 1) "is_head" (b_is_head φ) :=
  Callee.succ F hm hb sc_is_head rfl rfl fun cdv A outer s H E ht hr =>
  (bv_cons (sv_if (tv_w (wv_or (tv_not (tv_val (ev_isi (by rfl) T.isinstance (ev_var (pv 0)) (pe_bltn (v := .ty "tuple") (by rfl) T.tuple (by decide +kernel) rfl)))) (wv_or (tv_cmp (op_neD hr.units) (l2_op od_ne) (ev_len (by rfl) T.len (ev_var (pv 0))) ev_int (nomark _)) (wv_or (tv_not (tv_val (ev_call C_is_name ht (by rfl) (av_cons (ev_ix (hu_of hr) (ev_var (pv 0)) ev_int) av_nil) (by decide)))) (wv_or1 (tv_not (tv_val (ev_isi (by rfl) T.isinstance (ev_ix (hu_of hr) (ev_var (pv 0)) ev_int) (pe_bltn (v := .ty "tuple") (by rfl) T.tuple (by decide +kernel) rfl)))))))))
  (bv_one (sv_ret ev_bl))
  bv_nil)
  (bv_cons (sv_if (tv_w (wv_or (tv_cmp op_gt (l2_op od_gt) (ev_len (by rfl) T.len (ev_ix (hu_of hr) (ev_var (pv 0)) ev_int)) (ev_glob T.MOST_NAMES (by rfl)) (nomark _)) (wv_or1 (tv_not (tv_val (ev_all (by rfl) (by rfl) T.all (ev_comp (own := [("part", 1)]) (by rfl) sc_is_head.nd (iv_seq (ev_ix (hu_of hr) (ev_var (pv 0)) ev_int)) (blkOk_by (own := [("part", 1)]) (N := ["thing", "part"]) (sc := defScope st_is_head) (by decide +kernel)) (fun _ _ _ _ _ => (gv_name sc_is_head.nd rfl (by first | exact Or.inl rfl | exact Or.inr rfl))) (fun _ _ _ _ _ => tsv_nil) (fun _ _ _ _ _ => (ev_call C_is_name ht (by rfl) (av_cons (ev_var (pv 1)) av_nil) (by decide))) (by decide))))))))
  (bv_one (sv_ret ev_bl))
  bv_nil)
  (bv_one (sv_ret (ev_cmp (op_eqD hr.units) (l2_op od_eq) (ev_lenSet (by rfl) (by rfl) T.len (by rfl) T.set (ev_ix (hu_of hr) (ev_var (pv 0)) ev_int)) (ev_len (by rfl) T.len (ev_ix (hu_of hr) (ev_var (pv 0)) ev_int)) (nomark _))))))
theorem sc_is_book_k01 : FnScope ["thing", "known", "part"] ["thing"] (defScope st_is_book_k01) := ⟨rfl, rfl, rfl, by decide +kernel, rfl, by decide +kernel, by decide +kernel⟩
theorem d_is_book_k01 (T : Txt K mg cl) {f : Addr} {fd : FuncData} (F : Fun K "is_book" "is_book" st_is_book_k01 f fd) (hm : mg "is_book" = some (.ref f)) (hb : Binds K fd ["thing"] []) {n : Nat} (C_is_head : Callee P w K mg base cl n "is_head" (φ .is_head)) (C_is_sum : Callee P w K mg base cl n "is_sum" (φ .is_sum)) :
    Callee P w K mg base cl (n + 1) "is_book" (b_is_book_k01 φ) :=
  Callee.succ F hm hb sc_is_book_k01 rfl rfl fun cdv A outer s H E ht hr =>
  (bv_cons (sv_if (tv_w (wv_or (tv_not (tv_val (ev_isi (by rfl) T.isinstance (ev_var (pv 0)) (pe_bltn (v := .ty "tuple") (by rfl) T.tuple (by decide +kernel) rfl)))) (wv_or (tv_not (tv_chain or_le (l2_op od_le) or_le (l2_op od_le) ev_int (ev_len (by rfl) T.len (ev_var (pv 0))) (ev_glob T.MOST_MAKERS (by rfl)))) (wv_or1 (tv_not (tv_val (ev_all (by rfl) (by rfl) T.all (ev_comp (own := [("part", 2)]) (by rfl) sc_is_book_k01.nd (iv_seq (ev_var (pv 0))) (blkOk_by (own := [("part", 2)]) (N := ["thing", "known", "part"]) (sc := defScope st_is_book_k01) (by decide +kernel)) (fun _ _ _ _ _ => (gv_name sc_is_book_k01.nd rfl (by first | exact Or.inl rfl | exact Or.inr rfl))) (fun _ _ _ _ _ => tsv_nil) (fun _ _ _ _ _ => (ev_call C_is_head ht (by rfl) (av_cons (ev_var (pv 2)) av_nil) (by decide))) (by decide)))))))))
  (bv_one (sv_ret ev_bl))
  bv_nil)
  (bv_cons (sv_set sc_is_book_k01.nd rfl (by first | exact Or.inl rfl | exact Or.inr rfl) (ev_dic (by rfl) (by rfl) T.dict (ev_comp (own := [("part", 2)]) (by rfl) sc_is_book_k01.nd (iv_seq (ev_var (pv 0))) (blkOk_by (own := [("part", 2)]) (N := ["thing", "known", "part"]) (sc := defScope st_is_book_k01) (by decide +kernel)) (fun _ _ _ _ _ => (gv_name sc_is_book_k01.nd rfl (by first | exact Or.inl rfl | exact Or.inr rfl))) (fun _ _ _ _ _ => tsv_nil) (fun _ _ _ _ _ => (ev_tup (av_cons (ev_ix (hu_of hr) (ev_var (pv 2)) ev_int) (av_cons (ev_len (by rfl) T.len (ev_ix (hu_of hr) (ev_var (pv 2)) ev_int)) av_nil)))) (by decide))) (by rfl))
  (bv_cons (sv_if (tv_cmp (op_neD hr.units) (l2_op od_ne) (ev_len (by rfl) T.len (ev_var (pv 1))) (ev_len (by rfl) T.len (ev_var (pv 0))) (nomark _))
  (bv_one (sv_ret ev_bl))
  bv_nil)
  (bv_one (sv_ret (ev_all (by rfl) (by rfl) T.all (ev_comp (own := [("part", 2)]) (by rfl) sc_is_book_k01.nd (iv_seq (ev_var (pv 0))) (blkOk_by (own := [("part", 2)]) (N := ["thing", "known", "part"]) (sc := defScope st_is_book_k01) (by decide +kernel)) (fun _ _ _ _ _ => (gv_name sc_is_book_k01.nd rfl (by first | exact Or.inl rfl | exact Or.inr rfl))) (fun _ _ _ _ _ => tsv_nil) (fun _ _ _ _ _ => (ev_call C_is_sum ht (by rfl) (av_cons (ev_ix (hu_of hr) (ev_var (pv 2)) ev_int) (av_cons (ev_ix (hu_of hr) (ev_var (pv 2)) ev_int) (av_cons (ev_var (pv 1)) (av_cons (ev_glob T.DEEPEST (by rfl)) av_nil)))) (by decide))) (by decide))))))))
theorem sc_law_cell_at : FnScope ["_law_script", "_law_k"] ["_law_script", "_law_k"] (defScope st_law_cell_at) := ⟨rfl, rfl, rfl, by decide +kernel, rfl, by decide +kernel, by decide +kernel⟩
theorem d_law_cell_at (T : Txt K mg cl) {f : Addr} {fd : FuncData} (F : Fun K "_law_cell_at" "_law_cell_at" st_law_cell_at f fd) (hm : mg "_law_cell_at" = some (.ref f)) (hb : Binds K fd ["_law_script", "_law_k"] []) {n : Nat} :
    Callee P w K mg base cl (n + 1) "_law_cell_at" (b_law_cell_at φ) :=
  Callee.succ F hm hb sc_law_cell_at rfl rfl fun cdv A outer s H E ht hr =>
  (bv_cons (sv_if (tv_cmp or_lt (l2_op od_lt) (ev_var (pv 1)) (ev_len (by rfl) T.len (ev_var (pv 0))) (nomark _))
  (bv_one (sv_ret (ev_ix (hu_of hr) (ev_var (pv 0)) (ev_var (pv 1)))))
  bv_nil)
  (bv_one (sv_ret ev_int)))
theorem sc_law_mixed : FnScope ["_law_script", "_law_k", "_law_drawn_here"] ["_law_script", "_law_k"] (defScope st_law_mixed) := ⟨rfl, rfl, rfl, by decide +kernel, rfl, by decide +kernel, by decide +kernel⟩
theorem d_law_mixed (T : Txt K mg cl) {f : Addr} {fd : FuncData} (F : Fun K "_law_mixed" "_law_mixed" st_law_mixed f fd) (hm : mg "_law_mixed" = some (.ref f)) (hb : Binds K fd ["_law_script", "_law_k"] []) {n : Nat} (C__law_cell_at : Callee P w K mg base cl n "_law_cell_at" (φ .law_cell_at)) :
    Callee P w K mg base cl (n + 1) "_law_mixed" (b_law_mixed φ) :=
  Callee.succ F hm hb sc_law_mixed rfl rfl fun cdv A outer s H E ht hr =>
  (bv_cons (sv_set sc_law_mixed.nd rfl (by first | exact Or.inl rfl | exact Or.inr rfl) (ev_bin op_mod (l2_op od_mod) (ev_bin or_mul (l2_op od_mul) (ev_bin or_add (l2_op od_add) (ev_bin or_add (l2_op od_add) (ev_call C__law_cell_at ht (by rfl) (av_cons (ev_var (pv 0)) (av_cons (ev_var (pv 1)) av_nil)) (by decide)) (ev_bin or_mul (l2_op od_mul) ev_int (ev_var (pv 1)))) ev_int) ev_int) ev_int) (by rfl))
  (bv_one (sv_ret (ev_bin op_mod (l2_op od_mod) (ev_bin or_add (l2_op od_add) (ev_bin or_add (l2_op od_add) (ev_bin or_mul (l2_op od_mul) (ev_var (pv 2)) (ev_var (pv 2))) (ev_bin or_mul (l2_op od_mul) ev_int (ev_var (pv 2)))) (ev_var (pv 1))) ev_int))))
theorem sc_law_drawn : FnScope ["_law_number", "_law_k", "_law_drawn_here"] ["_law_number", "_law_k"] (defScope st_law_drawn) := ⟨rfl, rfl, rfl, by decide +kernel, rfl, by decide +kernel, by decide +kernel⟩
theorem d_law_drawn (T : Txt K mg cl) {f : Addr} {fd : FuncData} (F : Fun K "_law_drawn" "_law_drawn" st_law_drawn f fd) (hm : mg "_law_drawn" = some (.ref f)) (hb : Binds K fd ["_law_number", "_law_k"] []) {n : Nat} :
    Callee P w K mg base cl (n + 1) "_law_drawn" (b_law_drawn φ) :=
  Callee.succ F hm hb sc_law_drawn rfl rfl fun cdv A outer s H E ht hr =>
  (bv_cons (sv_set sc_law_drawn.nd rfl (by first | exact Or.inl rfl | exact Or.inr rfl) (ev_bin op_mod (l2_op od_mod) (ev_bin or_mul (l2_op od_mul) (ev_bin or_add (l2_op od_add) (ev_bin or_add (l2_op od_add) (ev_var (pv 0)) (ev_bin or_mul (l2_op od_mul) ev_int (ev_var (pv 1)))) ev_int) ev_int) ev_int) (by rfl))
  (bv_one (sv_ret (ev_bin op_mod (l2_op od_mod) (ev_bin or_add (l2_op od_add) (ev_bin or_add (l2_op od_add) (ev_bin or_mul (l2_op od_mul) (ev_var (pv 2)) (ev_var (pv 2))) (ev_bin or_mul (l2_op od_mul) ev_int (ev_var (pv 2)))) (ev_var (pv 1))) ev_int))))
theorem sc_law_sum : FnScope ["_law_number", "_law_names", "_law_heads", "_law_deep", "_law_some", "_law_parts", "_law_name", "_law_many", "_law_k"] ["_law_number", "_law_names", "_law_heads", "_law_deep"] (defScope st_law_sum) := ⟨rfl, rfl, rfl, by decide +kernel, rfl, by decide +kernel, by decide +kernel⟩
theorem d_law_sum (T : Txt K mg cl) {f : Addr} {fd : FuncData} (F : Fun K "_law_sum" "_law_sum" st_law_sum f fd) (hm : mg "_law_sum" = some (.ref f)) (hb : Binds K fd ["_law_number", "_law_names", "_law_heads", "_law_deep"] []) {n : Nat} (C__law_sum : Callee P w K mg base cl n "_law_sum" (φ .law_sum)) (C__law_drawn : Callee P w K mg base cl n "_law_drawn" (φ .law_drawn)) :
    Callee P w K mg base cl (n + 1) "_law_sum" (b_law_sum φ) :=
  Callee.succ F hm hb sc_law_sum rfl rfl fun cdv A outer s H E ht hr =>
  (bv_cons (sv_if (tv_w (wv_or (tv_cmp (op_eqD hr.units) (l2_op od_eq) (ev_var (pv 3)) ev_int (nomark _)) (wv_or1 (tv_cmp (op_eqD hr.units) (l2_op od_eq) (ev_bin op_mod (l2_op od_mod) (ev_var (pv 0)) ev_int) ev_int (nomark _)))))
  (bv_cons (sv_set sc_law_sum.nd rfl (by first | exact Or.inl rfl | exact Or.inr rfl) (ev_bin or_add (l2_op od_add) (ev_lst (av_cons (ev_bin op_mod (l2_op od_mod) (ev_bin op_fdiv (l2_op od_fdiv) (ev_var (pv 0)) ev_int) ev_int) (av_cons (ev_bin op_mod (l2_op od_mod) (ev_bin op_fdiv (l2_op od_fdiv) (ev_var (pv 0)) ev_int) ev_int) av_nil))) (ev_list1 (by rfl) T.list (ev_var (pv 1)))) (by rfl))
  (bv_one (sv_ret (ev_ix (hu_of hr) (ev_var (pv 4)) (ev_bin op_mod (l2_op od_mod) (ev_bin op_fdiv (l2_op od_fdiv) (ev_var (pv 0)) ev_int) (ev_len (by rfl) T.len (ev_var (pv 4))))))))
  bv_nil)
  (bv_cons (sv_setLc (own := [("_law_k", 8)]) (by rfl) sc_law_sum.nd rfl (by rfl) (sw_true (by rfl) (by rfl) (by rfl) (by decide +kernel)) (iv_seq (ev_tup (av_cons ev_int (av_cons ev_int (av_cons ev_int av_nil))))) (blkOk_by (own := [("_law_k", 8)]) (N := ["_law_number", "_law_names", "_law_heads", "_law_deep", "_law_some", "_law_parts", "_law_name", "_law_many", "_law_k"]) (sc := defScope st_law_sum) (by decide +kernel)) (fun _ _ _ _ _ => (gv_name sc_law_sum.nd rfl (by first | exact Or.inl rfl | exact Or.inr rfl))) (fun _ _ _ _ _ => tsv_nil) (fun _ _ _ _ _ => (ev_call C__law_sum ht (by rfl) (av_cons (ev_bin op_fdiv (l2_op od_fdiv) (ev_call C__law_drawn ht (by rfl) (av_cons (ev_var (pv 0)) (av_cons (ev_var (pv 8)) av_nil)) (by decide)) ev_int) (av_cons (ev_var (pv 1)) (av_cons (ev_var (pv 2)) (av_cons (ev_bin op_sub (l2_op od_sub) (ev_var (pv 3)) ev_int) av_nil)))) (by decide))) (by decide))
  (bv_cons (sv_if (tv_w (wv_and (tv_cmp (op_eqD hr.units) (l2_op od_eq) (ev_bin op_mod (l2_op od_mod) (ev_var (pv 0)) ev_int) ev_int (nomark _)) (wv_and1 (tv_cmp op_gt (l2_op od_gt) (ev_len (by rfl) T.len (ev_var (pv 2))) ev_int (nomark _)))))
  (bv_cons (sv_asg (ev_ix (hu_of hr) (ev_var (pv 2)) (ev_bin op_mod (l2_op od_mod) (ev_bin op_fdiv (l2_op od_fdiv) (ev_var (pv 0)) ev_int) (ev_len (by rfl) T.len (ev_var (pv 2))))) (gv_tup (by rfl) (gvs_cons (gv_name sc_law_sum.nd rfl (by first | exact Or.inl rfl | exact Or.inr rfl)) (gvs_cons (gv_name sc_law_sum.nd rfl (by first | exact Or.inl rfl | exact Or.inr rfl)) gvs_nil))) (by rfl) (by rfl) (by rfl))
  (bv_one (sv_ret (ev_tup (av_cons ev_str (av_cons (ev_var (pv 6)) (av_cons (ev_tuple1 (by rfl) T.tuple (ev_sl (ev_var (pv 5)) ov_none (ov_some (ev_var (pv 7))))) av_nil)))))))
  bv_nil)
  (bv_cons (sv_if (tv_cmp (op_eqD hr.units) (l2_op od_eq) (ev_bin op_mod (l2_op od_mod) (ev_var (pv 0)) ev_int) ev_int (nomark _))
  (bv_one (sv_ret (ev_tup (av_cons ev_str (av_cons (ev_ix (hu_of hr) (ev_var (pv 5)) ev_int) (av_cons (ev_ix (hu_of hr) (ev_var (pv 5)) ev_int) (av_cons (ev_ix (hu_of hr) (ev_var (pv 5)) ev_int) av_nil)))))))
  bv_nil)
  (bv_one (sv_ret (ev_tup (av_cons (ev_ix (hu_of hr) (ev_tup (av_cons ev_str (av_cons ev_str (av_cons ev_str (av_cons ev_str (av_cons ev_str (av_cons ev_str av_nil))))))) (ev_bin op_mod (l2_op od_mod) (ev_bin op_fdiv (l2_op od_fdiv) (ev_var (pv 0)) ev_int) ev_int)) (av_cons (ev_ix (hu_of hr) (ev_var (pv 5)) ev_int) (av_cons (ev_ix (hu_of hr) (ev_var (pv 5)) ev_int) av_nil))))))))))
theorem sc_law_again : FnScope ["_law_number", "_law_name", "_law_names", "_law_heads", "_law_its", "_law_many", "_law_sums", "_law_k", "_law_step", "_law_rest", "_law_base", "_law_test"] ["_law_number", "_law_name", "_law_names", "_law_heads"] (defScope st_law_again) := ⟨rfl, rfl, rfl, by decide +kernel, rfl, by decide +kernel, by decide +kernel⟩
theorem d_law_again (T : Txt K mg cl) {f : Addr} {fd : FuncData} (F : Fun K "_law_again" "_law_again" st_law_again f fd) (hm : mg "_law_again" = some (.ref f)) (hb : Binds K fd ["_law_number", "_law_name", "_law_names", "_law_heads"] []) {n : Nat} (C__law_sum : Callee P w K mg base cl n "_law_sum" (φ .law_sum)) (C__law_drawn : Callee P w K mg base cl n "_law_drawn" (φ .law_drawn)) :
    Callee P w K mg base cl (n + 1) "_law_again" (b_law_again φ) :=
  Callee.succ F hm hb sc_law_again rfl rfl fun cdv A outer s H E ht hr =>
  (bv_cons (sv_asg (ev_ix (hu_of hr) (ev_lst (av_cons (ev_tup (av_cons (ev_var (pv 1)) (av_cons (ev_len (by rfl) T.len (ev_var (pv 2))) av_nil))) (av_cons (ev_ix (hu_of hr) (ev_var (pv 3)) (ev_bin op_mod (l2_op od_mod) (ev_bin op_fdiv (l2_op od_fdiv) (ev_var (pv 0)) ev_int) (ev_len (by rfl) T.len (ev_var (pv 3))))) av_nil))) (ev_bin op_mod (l2_op od_mod) (ev_var (pv 0)) ev_int)) (gv_tup (by rfl) (gvs_cons (gv_name sc_law_again.nd rfl (by first | exact Or.inl rfl | exact Or.inr rfl)) (gvs_cons (gv_name sc_law_again.nd rfl (by first | exact Or.inl rfl | exact Or.inr rfl)) gvs_nil))) (by rfl) (by rfl) (by rfl))
  (bv_cons (sv_set sc_law_again.nd rfl (by first | exact Or.inl rfl | exact Or.inr rfl) (ev_lstO (av_cons (ev_tup (av_cons ev_str (av_cons (ev_ix (hu_of hr) (ev_var (pv 2)) ev_int) (av_cons ev_int av_nil)))) av_nil)) (by rfl))
  (bv_cons (sv_for (by rfl) PassesOwn.never (iv_range2 (by rfl) T.range ev_int (ev_var (pv 5))) (gv_name sc_law_again.nd rfl (by first | exact Or.inl rfl | exact Or.inr rfl))
  (bv_one (sv_expr (ev_append (ev_var (pv 6)) (ev_call C__law_sum ht (by rfl) (av_cons (ev_bin op_fdiv (l2_op od_fdiv) (ev_call C__law_drawn ht (by rfl) (av_cons (ev_var (pv 0)) (av_cons (ev_bin or_add (l2_op od_add) ev_int (ev_var (pv 7))) av_nil)) (by decide)) ev_int) (av_cons (ev_var (pv 2)) (av_cons (ev_lst av_nil) (av_cons ev_int av_nil)))) (by decide))) (by rfl))))
  (bv_cons (sv_set sc_law_again.nd rfl (by first | exact Or.inl rfl | exact Or.inr rfl) (ev_tup (av_cons ev_str (av_cons (ev_var (pv 4)) (av_cons (ev_tuple1 (by rfl) T.tuple (ev_sl (ev_var (pv 6)) ov_none (ov_some (ev_var (pv 5))))) av_nil)))) (by rfl))
  (bv_cons (sv_set sc_law_again.nd rfl (by first | exact Or.inl rfl | exact Or.inr rfl) (ev_call C__law_sum ht (by rfl) (av_cons (ev_bin op_fdiv (l2_op od_fdiv) (ev_call C__law_drawn ht (by rfl) (av_cons (ev_var (pv 0)) (av_cons ev_int av_nil)) (by decide)) ev_int) (av_cons (ev_var (pv 2)) (av_cons (ev_lst av_nil) (av_cons ev_int av_nil)))) (by decide)) (by rfl))
  (bv_cons (sv_set sc_law_again.nd rfl (by first | exact Or.inl rfl | exact Or.inr rfl) (ev_call C__law_sum ht (by rfl) (av_cons (ev_bin op_fdiv (l2_op od_fdiv) (ev_call C__law_drawn ht (by rfl) (av_cons (ev_var (pv 0)) (av_cons ev_int av_nil)) (by decide)) ev_int) (av_cons (ev_var (pv 2)) (av_cons (ev_lst av_nil) (av_cons ev_int av_nil)))) (by decide)) (by rfl))
  (bv_cons (sv_set sc_law_again.nd rfl (by first | exact Or.inl rfl | exact Or.inr rfl) (ev_ix (hu_of hr) (ev_lst (av_cons (ev_var (pv 8)) (av_cons (ev_tup (av_cons ev_str (av_cons (ev_var (pv 9)) (av_cons (ev_var (pv 8)) av_nil)))) (av_cons (ev_tup (av_cons ev_str (av_cons (ev_var (pv 8)) (av_cons (ev_var (pv 9)) av_nil)))) (av_cons (ev_tup (av_cons ev_str (av_cons (ev_var (pv 8)) (av_cons (ev_var (pv 9)) av_nil)))) av_nil))))) (ev_bin op_mod (l2_op od_mod) (ev_bin op_fdiv (l2_op od_fdiv) (ev_var (pv 0)) ev_int) ev_int)) (by rfl))
  (bv_cons (sv_set sc_law_again.nd rfl (by first | exact Or.inl rfl | exact Or.inr rfl) (ev_ix (hu_of hr) (ev_lst (av_cons (ev_ix (hu_of hr) (ev_var (pv 2)) ev_int) (av_cons (ev_ix (hu_of hr) (ev_var (pv 2)) ev_int) (av_cons (ev_tup (av_cons ev_str (av_cons ev_int (av_cons (ev_ix (hu_of hr) (ev_var (pv 2)) ev_int) av_nil)))) (av_cons (ev_tup (av_cons ev_str (av_cons (ev_ix (hu_of hr) (ev_var (pv 2)) (ev_un un_neg (l1_op od_neg) ev_int)) (av_cons ev_int av_nil)))) av_nil))))) (ev_bin op_mod (l2_op od_mod) (ev_bin op_fdiv (l2_op od_fdiv) (ev_var (pv 0)) ev_int) ev_int)) (by rfl))
  (bv_one (sv_ret (ev_tup (av_cons ev_str (av_cons (ev_var (pv 11)) (av_cons (ev_var (pv 8)) (av_cons (ev_var (pv 10)) av_nil)))))))))))))))
theorem sc_law_book : FnScope ["_law_number", "_law_heads", "_law_k", "_law_drawn_here", "_law_names", "_law_found", "_law_head", "_law_known", "_law_body", "_law_name"] ["_law_number"] (defScope st_law_book) := ⟨rfl, rfl, rfl, by decide +kernel, rfl, by decide +kernel, by decide +kernel⟩
theorem d_law_book (T : Txt K mg cl) {f : Addr} {fd : FuncData} (F : Fun K "_law_book" "_law_book" st_law_book f fd) (hm : mg "_law_book" = some (.ref f)) (hb : Binds K fd ["_law_number"] []) {n : Nat} (C__law_drawn : Callee P w K mg base cl n "_law_drawn" (φ .law_drawn)) (C__law_again : Callee P w K mg base cl n "_law_again" (φ .law_again)) (C__law_sum : Callee P w K mg base cl n "_law_sum" (φ .law_sum)) :
    Callee P w K mg base cl (n + 1) "_law_book" (b_law_book φ) :=
  Callee.succ F hm hb sc_law_book rfl rfl fun cdv A outer s H E ht hr =>
  (bv_cons (sv_set sc_law_book.nd rfl (by first | exact Or.inl rfl | exact Or.inr rfl) (ev_lstO av_nil) (by rfl))
  (bv_cons (sv_for (by rfl) PassesOwn.never (iv_range1 (by rfl) T.range (ev_ix (hu_of hr) (ev_tup (av_cons ev_int (av_cons ev_int (av_cons ev_int (av_cons ev_int (av_cons ev_int (av_cons ev_int av_nil))))))) (ev_bin op_mod (l2_op od_mod) (ev_var (pv 0)) ev_int))) (gv_name sc_law_book.nd rfl (by first | exact Or.inl rfl | exact Or.inr rfl))
  (bv_cons (sv_set sc_law_book.nd rfl (by first | exact Or.inl rfl | exact Or.inr rfl) (ev_bin op_fdiv (l2_op od_fdiv) (ev_call C__law_drawn ht (by rfl) (av_cons (ev_var (pv 0)) (av_cons (ev_var (pv 2)) av_nil)) (by decide)) ev_int) (by rfl))
  (bv_cons (sv_set sc_law_book.nd rfl (by first | exact Or.inl rfl | exact Or.inr rfl) (ev_ix (hu_of hr) (ev_lst (av_cons (ev_tup (av_cons ev_str av_nil)) (av_cons (ev_tup (av_cons ev_str (av_cons ev_str av_nil))) (av_cons (ev_tup (av_cons ev_str av_nil)) (av_cons (ev_tup (av_cons ev_str (av_cons ev_str (av_cons ev_str av_nil)))) (av_cons (ev_tup av_nil) (av_cons (ev_tup (av_cons ev_str (av_cons ev_str av_nil))) av_nil))))))) (ev_bin op_mod (l2_op od_mod) (ev_var (pv 3)) ev_int)) (by rfl))
  (bv_one (sv_expr (ev_append (ev_var (pv 1)) (ev_tup (av_cons (ev_ix (hu_of hr) (ev_tup (av_cons ev_str (av_cons ev_str (av_cons ev_str (av_cons ev_str av_nil))))) (ev_var (pv 2))) (av_cons (ev_var (pv 4)) av_nil)))) (by rfl))))))
  (bv_cons (sv_set sc_law_book.nd rfl (by first | exact Or.inl rfl | exact Or.inr rfl) (ev_tup av_nil) (by rfl))
  (bv_cons (sv_for (by rfl) PassesOwn.never (iv_enum (by rfl) T.enumerate (ev_var (pv 1))) (gv_tup (by rfl) (gvs_cons (gv_name sc_law_book.nd rfl (by first | exact Or.inl rfl | exact Or.inr rfl)) (gvs_cons (gv_name sc_law_book.nd rfl (by first | exact Or.inl rfl | exact Or.inr rfl)) gvs_nil)))
  (bv_cons (sv_set sc_law_book.nd rfl (by first | exact Or.inl rfl | exact Or.inr rfl) (ev_bin op_fdiv (l2_op od_fdiv) (ev_call C__law_drawn ht (by rfl) (av_cons (ev_var (pv 0)) (av_cons (ev_bin or_add (l2_op od_add) ev_int (ev_var (pv 2))) av_nil)) (by decide)) ev_int) (by rfl))
  (bv_cons (sv_setLc (own := [("_law_name", 9), ("_law_names", 4)]) (by rfl) sc_law_book.nd rfl (by rfl) (sw_true (by rfl) (by rfl) (by rfl) (by decide +kernel)) (iv_seq (ev_var (pv 1))) (blkOk_by (own := [("_law_name", 9), ("_law_names", 4)]) (N := ["_law_number", "_law_heads", "_law_k", "_law_drawn_here", "_law_names", "_law_found", "_law_head", "_law_known", "_law_body", "_law_name"]) (sc := defScope st_law_book) (by decide +kernel)) (fun _ _ _ _ _ => (gv_tup (by rfl) (gvs_cons (gv_name sc_law_book.nd rfl (by first | exact Or.inl rfl | exact Or.inr rfl)) (gvs_cons (gv_name sc_law_book.nd rfl (by first | exact Or.inl rfl | exact Or.inr rfl)) gvs_nil)))) (fun _ _ _ _ _ => tsv_nil) (fun _ _ _ _ _ => (ev_tup (av_cons (ev_var (pv 9)) (av_cons (ev_len (by rfl) T.len (ev_var (pv 4))) av_nil)))) (by decide))
  (bv_cons (sv_if (tv_w (wv_and (tv_cmp op_gt (l2_op od_gt) (ev_bin op_mod (l2_op od_mod) (ev_var (pv 3)) ev_int) ev_int (nomark _)) (wv_and1 (tv_cmp (op_neD hr.units) (l2_op od_ne) (ev_ix (hu_of hr) (ev_var (pv 6)) ev_int) (ev_tup av_nil) (nomark _)))))
  (bv_one (sv_set sc_law_book.nd rfl (by first | exact Or.inl rfl | exact Or.inr rfl) (ev_call C__law_again ht (by rfl) (av_cons (ev_bin op_fdiv (l2_op od_fdiv) (ev_var (pv 3)) ev_int) (av_cons (ev_ix (hu_of hr) (ev_var (pv 6)) ev_int) (av_cons (ev_ix (hu_of hr) (ev_var (pv 6)) ev_int) (av_cons (ev_var (pv 7)) av_nil)))) (by decide)) (by rfl)))
  (bv_one (sv_set sc_law_book.nd rfl (by first | exact Or.inl rfl | exact Or.inr rfl) (ev_call C__law_sum ht (by rfl) (av_cons (ev_bin op_fdiv (l2_op od_fdiv) (ev_var (pv 3)) ev_int) (av_cons (ev_ix (hu_of hr) (ev_var (pv 6)) ev_int) (av_cons (ev_sl (ev_var (pv 7)) ov_none (ov_some (ev_var (pv 2)))) (av_cons ev_int av_nil)))) (by decide)) (by rfl))))
  (bv_one (sv_set sc_law_book.nd rfl (by first | exact Or.inl rfl | exact Or.inr rfl) (ev_bin or_add (l2_op od_add) (ev_var (pv 5)) (ev_tup (av_cons (ev_tup (av_cons (ev_ix (hu_of hr) (ev_var (pv 6)) ev_int) (av_cons (ev_ix (hu_of hr) (ev_var (pv 6)) ev_int) (av_cons (ev_var (pv 8)) av_nil)))) av_nil))) (by rfl)))))))
  (bv_one (sv_ret (ev_var (pv 5))))))))
theorem sc_law_is_name : FnScope ["_law_thing", "_law_sign"] ["_law_thing"] (defScope st_law_is_name) := ⟨rfl, rfl, rfl, by decide +kernel, rfl, by decide +kernel, by decide +kernel⟩
theorem d_law_is_name (T : Txt K mg cl) {f : Addr} {fd : FuncData} (F : Fun K "_law_is_name" "_law_is_name" st_law_is_name f fd) (hm : mg "_law_is_name" = some (.ref f)) (hb : Binds K fd ["_law_thing"] []) {n : Nat} :
    Callee P w K mg base cl (n + 1) "_law_is_name" (b_law_is_name φ) :=
  Callee.succ F hm hb sc_law_is_name rfl rfl fun cdv A outer s H E ht hr =>
  (bv_cons (sv_if (tv_w (wv_or (tv_not (tv_val (ev_isi (by rfl) T.isinstance (ev_var (pv 0)) (pe_bltn (v := .ty "str") (by rfl) T.str (by decide +kernel) rfl)))) (wv_or (tv_not (tv_chain or_le (l2_op od_le) or_le (l2_op od_le) ev_int (ev_len (by rfl) T.len (ev_var (pv 0))) ev_int)) (wv_or1 (tv_cmp (or_in (u65 hr)) oR_in (ev_var (pv 0)) (ev_tup (av_cons ev_str (av_cons ev_str (av_cons ev_str (av_cons ev_str (av_cons ev_str av_nil)))))) (by with_unfolding_all rfl))))))
  (bv_one (sv_ret ev_bl))
  bv_nil)
  (bv_one (sv_ret (ev_cmp (op_eqD hr.units) (l2_op od_eq) (ev_comp (own := [("_law_sign", 1)]) (by rfl) sc_law_is_name.nd (iv_seq (ev_var (pv 0))) (blkOk_by (own := [("_law_sign", 1)]) (N := ["_law_thing", "_law_sign"]) (sc := defScope st_law_is_name) (by decide +kernel)) (fun _ _ _ _ _ => (gv_name sc_law_is_name.nd rfl (by first | exact Or.inl rfl | exact Or.inr rfl))) (fun _ _ _ _ _ => tsv_one (tv_not (tv_chain or_le (l2_op od_le) or_le (l2_op od_le) ev_str (ev_var (pv 1)) ev_str))) (fun _ _ _ _ _ => (ev_var (pv 1))) (by decide)) (ev_lst av_nil) (nomark _)))))
theorem sc_law_is_sum : FnScope ["_law_thing", "_law_names", "_law_known", "_law_deep", "_law_parts", "_law_part"] ["_law_thing", "_law_names", "_law_known", "_law_deep"] (defScope st_law_is_sum) := ⟨rfl, rfl, rfl, by decide +kernel, rfl, by decide +kernel, by decide +kernel⟩
theorem d_law_is_sum (T : Txt K mg cl) {f : Addr} {fd : FuncData} (F : Fun K "_law_is_sum" "_law_is_sum" st_law_is_sum f fd) (hm : mg "_law_is_sum" = some (.ref f)) (hb : Binds K fd ["_law_thing", "_law_names", "_law_known", "_law_deep"] []) {n : Nat} (C__law_is_sum : Callee P w K mg base cl n "_law_is_sum" (φ .law_is_sum)) :
    Callee P w K mg base cl (n + 1) "_law_is_sum" (b_law_is_sum φ) :=
  Callee.succ F hm hb sc_law_is_sum rfl rfl fun cdv A outer s H E ht hr =>
  (bv_cons (sv_if (tv_val (ev_isi (by rfl) T.isinstance (ev_var (pv 0)) (pe_bltn (v := .ty "str") (by rfl) T.str (by decide +kernel) rfl)))
  (bv_one (sv_ret (ev_cmp (or_in (u65 hr)) oR_in (ev_var (pv 0)) (ev_var (pv 1)) (by with_unfolding_all rfl))))
  bv_nil)
  (bv_cons (sv_if (tv_not (tv_val (ev_isi (by rfl) T.isinstance (ev_var (pv 0)) (pe_bltn (v := .ty "tuple") (by rfl) T.tuple (by decide +kernel) rfl))))
  (bv_one (sv_ret (ev_and (ev_isi (by rfl) T.isinstance (ev_var (pv 0)) (pe_bltn (v := .ty "int") (by rfl) T.int (by decide +kernel) rfl)) (ev_and (ev_not (ev_isi (by rfl) T.isinstance (ev_var (pv 0)) (pe_bltn (v := .ty "bool") (by rfl) T.bool (by decide +kernel) rfl))) (ev_bone (ev_chain or_le (l2_op od_le) or_le (l2_op od_le) ev_int (ev_var (pv 0)) ev_int))))))
  bv_nil)
  (bv_cons (sv_if (tv_w (wv_or (tv_cmp (op_eqD hr.units) (l2_op od_eq) (ev_var (pv 3)) ev_int (nomark _)) (wv_or (tv_cmp (op_eqD hr.units) (l2_op od_eq) (ev_var (pv 0)) (ev_tup av_nil) (nomark _)) (wv_or1 (tv_not (tv_val (ev_isi (by rfl) T.isinstance (ev_ix (hu_of hr) (ev_var (pv 0)) ev_int) (pe_bltn (v := .ty "str") (by rfl) T.str (by decide +kernel) rfl))))))))
  (bv_one (sv_ret ev_bl))
  bv_nil)
  (bv_cons (sv_set sc_law_is_sum.nd rfl (by first | exact Or.inl rfl | exact Or.inr rfl) (ev_sl (ev_var (pv 0)) (ov_some ev_int) ov_none) (by rfl))
  (bv_cons (sv_if (tv_cmp (op_eqD hr.units) (l2_op od_eq) (ev_ix (hu_of hr) (ev_var (pv 0)) ev_int) ev_str (nomark _))
  (bv_cons (sv_if (tv_w (wv_or (tv_cmp (op_neD hr.units) (l2_op od_ne) (ev_len (by rfl) T.len (ev_var (pv 0))) ev_int (nomark _)) (wv_or (tv_not (tv_val (ev_isi (by rfl) T.isinstance (ev_ix (hu_of hr) (ev_var (pv 0)) ev_int) (pe_bltn (v := .ty "str") (by rfl) T.str (by decide +kernel) rfl)))) (wv_or1 (tv_not (tv_val (ev_isi (by rfl) T.isinstance (ev_ix (hu_of hr) (ev_var (pv 0)) ev_int) (pe_bltn (v := .ty "tuple") (by rfl) T.tuple (by decide +kernel) rfl))))))))
  (bv_one (sv_ret ev_bl))
  bv_nil)
  (bv_cons (sv_if (tv_cmp (op_neD hr.units) (l2_op od_ne) (ev_get2 (hu_of hr) (ev_var (pv 2)) (ev_ix (hu_of hr) (ev_var (pv 0)) ev_int) (ev_un un_neg (l1_op od_neg) ev_int)) (ev_len (by rfl) T.len (ev_ix (hu_of hr) (ev_var (pv 0)) ev_int)) (nomark _))
  (bv_one (sv_ret ev_bl))
  bv_nil)
  (bv_one (sv_set sc_law_is_sum.nd rfl (by first | exact Or.inl rfl | exact Or.inr rfl) (ev_ix (hu_of hr) (ev_var (pv 0)) ev_int) (by rfl)))))
  (bv_one (sv_if (tv_cmp (op_neD hr.units) (l2_op od_ne) (ev_len (by rfl) T.len (ev_var (pv 0))) (ev_get2 (hu_of hr) (ev_disp (pv_cons ev_str ev_int (pv_cons ev_str ev_int (pv_cons ev_str ev_int (pv_cons ev_str ev_int (pv_cons ev_str ev_int (pv_cons ev_str ev_int pv_nil)))))) (by rfl) (by rfl) (fun z => by cases z) (by decide)) (ev_ix (hu_of hr) (ev_var (pv 0)) ev_int) ev_int) (nomark _))
  (bv_one (sv_ret ev_bl))
  bv_nil)))
  (bv_one (sv_ret (ev_cmp (op_eqD hr.units) (l2_op od_eq) (ev_comp (own := [("_law_part", 5)]) (by rfl) sc_law_is_sum.nd (iv_seq (ev_var (pv 4))) (blkOk_by (own := [("_law_part", 5)]) (N := ["_law_thing", "_law_names", "_law_known", "_law_deep", "_law_parts", "_law_part"]) (sc := defScope st_law_is_sum) (by decide +kernel)) (fun _ _ _ _ _ => (gv_name sc_law_is_sum.nd rfl (by first | exact Or.inl rfl | exact Or.inr rfl))) (fun _ _ _ _ _ => tsv_one (tv_not (tv_val (ev_call C__law_is_sum ht (by rfl) (av_cons (ev_var (pv 5)) (av_cons (ev_var (pv 1)) (av_cons (ev_var (pv 2)) (av_cons (ev_bin op_sub (l2_op od_sub) (ev_var (pv 3)) ev_int) av_nil)))) (by decide))))) (fun _ _ _ _ _ => (ev_var (pv 5))) (by decide)) (ev_lst av_nil) (nomark _)))))))))
theorem sc_law_is_book : FnScope ["_law_thing", "_law_known", "_law_part", "_law_one"] ["_law_thing"] (defScope st_law_is_book) := ⟨rfl, rfl, rfl, by decide +kernel, rfl, by decide +kernel, by decide +kernel⟩
theorem d_law_is_book (T : Txt K mg cl) {f : Addr} {fd : FuncData} (F : Fun K "_law_is_book" "_law_is_book" st_law_is_book f fd) (hm : mg "_law_is_book" = some (.ref f)) (hb : Binds K fd ["_law_thing"] []) {n : Nat} (C__law_is_name : Callee P w K mg base cl n "_law_is_name" (φ .law_is_name)) (C__law_is_sum : Callee P w K mg base cl n "_law_is_sum" (φ .law_is_sum)) :
    Callee P w K mg base cl (n + 1) "_law_is_book" (b_law_is_book φ) :=
  Callee.succ F hm hb sc_law_is_book rfl rfl fun cdv A outer s H E ht hr =>
  (bv_cons (sv_if (tv_w (wv_or (tv_not (tv_val (ev_isi (by rfl) T.isinstance (ev_var (pv 0)) (pe_bltn (v := .ty "tuple") (by rfl) T.tuple (by decide +kernel) rfl)))) (wv_or1 (tv_not (tv_chain or_le (l2_op od_le) or_le (l2_op od_le) ev_int (ev_len (by rfl) T.len (ev_var (pv 0))) ev_int)))))
  (bv_one (sv_ret ev_bl))
  bv_nil)
  (bv_cons (sv_set sc_law_is_book.nd rfl (by first | exact Or.inl rfl | exact Or.inr rfl) ev_dicO (by rfl))
  (bv_cons (sv_for (by rfl) PassesOwn.never (iv_seq (ev_var (pv 0))) (gv_name sc_law_is_book.nd rfl (by first | exact Or.inl rfl | exact Or.inr rfl))
  (bv_cons (sv_if (tv_w (wv_or (tv_not (tv_val (ev_isi (by rfl) T.isinstance (ev_var (pv 2)) (pe_bltn (v := .ty "tuple") (by rfl) T.tuple (by decide +kernel) rfl)))) (wv_or (tv_cmp (op_neD hr.units) (l2_op od_ne) (ev_len (by rfl) T.len (ev_var (pv 2))) ev_int (nomark _)) (wv_or (tv_not (tv_val (ev_call C__law_is_name ht (by rfl) (av_cons (ev_ix (hu_of hr) (ev_var (pv 2)) ev_int) av_nil) (by decide)))) (wv_or1 (tv_cmp (or_in (u65 hr)) oR_in (ev_ix (hu_of hr) (ev_var (pv 2)) ev_int) (ev_var (pv 1)) (by with_unfolding_all rfl)))))))
  (bv_one (sv_ret ev_bl))
  bv_nil)
  (bv_cons (sv_if (tv_w (wv_or (tv_not (tv_val (ev_isi (by rfl) T.isinstance (ev_ix (hu_of hr) (ev_var (pv 2)) ev_int) (pe_bltn (v := .ty "tuple") (by rfl) T.tuple (by decide +kernel) rfl)))) (wv_or1 (tv_cmp op_gt (l2_op od_gt) (ev_len (by rfl) T.len (ev_ix (hu_of hr) (ev_var (pv 2)) ev_int)) ev_int (nomark _)))))
  (bv_one (sv_ret ev_bl))
  bv_nil)
  (bv_cons (sv_if (tv_w (wv_or (tv_cmp (op_neD hr.units) (l2_op od_ne) (ev_comp (own := [("_law_one", 3)]) (by rfl) sc_law_is_book.nd (iv_seq (ev_ix (hu_of hr) (ev_var (pv 2)) ev_int)) (blkOk_by (own := [("_law_one", 3)]) (N := ["_law_thing", "_law_known", "_law_part", "_law_one"]) (sc := defScope st_law_is_book) (by decide +kernel)) (fun _ _ _ _ _ => (gv_name sc_law_is_book.nd rfl (by first | exact Or.inl rfl | exact Or.inr rfl))) (fun _ _ _ _ _ => tsv_one (tv_not (tv_val (ev_call C__law_is_name ht (by rfl) (av_cons (ev_var (pv 3)) av_nil) (by decide))))) (fun _ _ _ _ _ => (ev_var (pv 3))) (by decide)) (ev_lst av_nil) (nomark _)) (wv_or1 (tv_cmp (op_neD hr.units) (l2_op od_ne) (ev_lenSet (by rfl) (by rfl) T.len (by rfl) T.set (ev_ix (hu_of hr) (ev_var (pv 2)) ev_int)) (ev_len (by rfl) T.len (ev_ix (hu_of hr) (ev_var (pv 2)) ev_int)) (nomark _)))))
  (bv_one (sv_ret ev_bl))
  bv_nil)
  (bv_one (sv_dput (hu_of hr) (ev_var (pv 1)) (ev_ix (hu_of hr) (ev_var (pv 2)) ev_int) (ev_len (by rfl) T.len (ev_ix (hu_of hr) (ev_var (pv 2)) ev_int)) (by rfl)))))))
  (bv_one (sv_ret (ev_cmp (op_eqD hr.units) (l2_op od_eq) (ev_comp (own := [("_law_part", 2)]) (by rfl) sc_law_is_book.nd (iv_seq (ev_var (pv 0))) (blkOk_by (own := [("_law_part", 2)]) (N := ["_law_thing", "_law_known", "_law_part", "_law_one"]) (sc := defScope st_law_is_book) (by decide +kernel)) (fun _ _ _ _ _ => (gv_name sc_law_is_book.nd rfl (by first | exact Or.inl rfl | exact Or.inr rfl))) (fun _ _ _ _ _ => tsv_one (tv_not (tv_val (ev_call C__law_is_sum ht (by rfl) (av_cons (ev_ix (hu_of hr) (ev_var (pv 2)) ev_int) (av_cons (ev_ix (hu_of hr) (ev_var (pv 2)) ev_int) (av_cons (ev_var (pv 1)) (av_cons ev_int av_nil)))) (by decide))))) (fun _ _ _ _ _ => (ev_var (pv 2))) (by decide)) (ev_lst av_nil) (nomark _)))))))
theorem sc_law_spoilt_k01 : FnScope ["_law_thing", "_law_number", "_law_deep", "_law_at", "_law_part", "_law_some"] ["_law_thing", "_law_number", "_law_deep"] (defScope st_law_spoilt_k01) := ⟨rfl, rfl, rfl, by decide +kernel, rfl, by decide +kernel, by decide +kernel⟩
theorem d_law_spoilt_k01 (T : Txt K mg cl) {f : Addr} {fd : FuncData} (F : Fun K "_law_spoilt" "_law_spoilt" st_law_spoilt_k01 f fd) (hm : mg "_law_spoilt" = some (.ref f)) (hb : Binds K fd ["_law_thing", "_law_number", "_law_deep"] []) {n : Nat} (C__law_spoilt : Callee P w K mg base cl n "_law_spoilt" (φ .law_spoilt_k01)) (C__law_drawn : Callee P w K mg base cl n "_law_drawn" (φ .law_drawn)) :
    Callee P w K mg base cl (n + 1) "_law_spoilt" (b_law_spoilt_k01 φ) :=
  Callee.succ F hm hb sc_law_spoilt_k01 rfl rfl fun cdv A outer s H E ht hr =>
  (bv_cons (sv_if (tv_w (wv_and (tv_cmp op_gt (l2_op od_gt) (ev_var (pv 2)) ev_int (nomark _)) (wv_and (tv_val (ev_isi (by rfl) T.isinstance (ev_var (pv 0)) (pe_bltn (v := .ty "tuple") (by rfl) T.tuple (by decide +kernel) rfl))) (wv_and (tv_cmp op_gt (l2_op od_gt) (ev_len (by rfl) T.len (ev_var (pv 0))) ev_int (nomark _)) (wv_and1 (tv_cmp op_gt (l2_op od_gt) (ev_bin op_mod (l2_op od_mod) (ev_var (pv 1)) ev_int) ev_int (nomark _)))))))
  (bv_cons (sv_set sc_law_spoilt_k01.nd rfl (by first | exact Or.inl rfl | exact Or.inr rfl) (ev_bin op_mod (l2_op od_mod) (ev_bin op_fdiv (l2_op od_fdiv) (ev_var (pv 1)) ev_int) (ev_len (by rfl) T.len (ev_var (pv 0)))) (by rfl))
  (bv_cons (sv_set sc_law_spoilt_k01.nd rfl (by first | exact Or.inl rfl | exact Or.inr rfl) (ev_call C__law_spoilt ht (by rfl) (av_cons (ev_ix (hu_of hr) (ev_var (pv 0)) (ev_var (pv 3))) (av_cons (ev_bin op_fdiv (l2_op od_fdiv) (ev_call C__law_drawn ht (by rfl) (av_cons (ev_var (pv 1)) (av_cons (ev_var (pv 2)) av_nil)) (by decide)) ev_int) (av_cons (ev_bin op_sub (l2_op od_sub) (ev_var (pv 2)) ev_int) av_nil))) (by decide)) (by rfl))
  (bv_one (sv_ret (ev_bin or_add (l2_op od_add) (ev_bin or_add (l2_op od_add) (ev_sl (ev_var (pv 0)) ov_none (ov_some (ev_var (pv 3)))) (ev_tup (av_cons (ev_var (pv 4)) av_nil))) (ev_sl (ev_var (pv 0)) (ov_some (ev_bin or_add (l2_op od_add) (ev_var (pv 3)) ev_int)) ov_none))))))
  bv_nil)
  (bv_cons (sv_if (tv_w (wv_and (tv_val (ev_isi (by rfl) T.isinstance (ev_var (pv 0)) (pe_bltn (v := .ty "tuple") (by rfl) T.tuple (by decide +kernel) rfl))) (wv_and (tv_cmp op_gt (l2_op od_gt) (ev_len (by rfl) T.len (ev_var (pv 0))) ev_int (nomark _)) (wv_and1 (tv_cmp (op_eqD hr.units) (l2_op od_eq) (ev_bin op_mod (l2_op od_mod) (ev_bin op_fdiv (l2_op od_fdiv) (ev_var (pv 1)) ev_int) ev_int) ev_int (nomark _))))))
  (bv_one (sv_ret (ev_ix (hu_of hr) (ev_lst (av_cons (ev_list1 (by rfl) T.list (ev_var (pv 0))) (av_cons (ev_sl (ev_var (pv 0)) ov_none (ov_some (ev_un un_neg (l1_op od_neg) ev_int))) (av_cons (ev_bin or_add (l2_op od_add) (ev_var (pv 0)) (ev_sl (ev_var (pv 0)) (ov_some (ev_un un_neg (l1_op od_neg) ev_int)) ov_none)) (av_cons (ev_sl (ev_var (pv 0)) (ov_some ev_int) ov_none) (av_cons (ev_rev (ev_var (pv 0))) (av_cons (ev_bin or_tmul (l2_op od_tmul) (ev_var (pv 0)) ev_int) av_nil))))))) (ev_bin op_mod (l2_op od_mod) (ev_bin op_fdiv (l2_op od_fdiv) (ev_var (pv 1)) ev_int) ev_int))))
  bv_nil)
  (bv_cons (sv_if (tv_w (wv_and (tv_val (ev_isi (by rfl) T.isinstance (ev_var (pv 0)) (pe_bltn (v := .ty "int") (by rfl) T.int (by decide +kernel) rfl))) (wv_and1 (tv_cmp (op_eqD hr.units) (l2_op od_eq) (ev_bin op_mod (l2_op od_mod) (ev_bin op_fdiv (l2_op od_fdiv) (ev_var (pv 1)) ev_int) ev_int) ev_int (nomark _)))))
  (bv_one (sv_ret (ev_ix (hu_of hr) (ev_lst (av_cons (ev_str1 (by rfl) T.str (ev_var (pv 0))) (av_cons (ev_bin op_sub (l2_op od_sub) (ev_un un_neg (l1_op od_neg) (ev_var (pv 0))) ev_int) (av_cons (ev_bin or_add (l2_op od_add) (ev_var (pv 0)) ev_int) (av_cons (ev_cmp (op_eqD hr.units) (l2_op od_eq) (ev_var (pv 0)) ev_int (nomark _)) (av_cons (ev_bin or_add (l2_op od_add) (ev_var (pv 0)) ev_int) (av_cons ev_non av_nil))))))) (ev_bin op_mod (l2_op od_mod) (ev_bin op_fdiv (l2_op od_fdiv) (ev_var (pv 1)) ev_int) ev_int))))
  bv_nil)
  (bv_cons (sv_set sc_law_spoilt_k01.nd rfl (by first | exact Or.inl rfl | exact Or.inr rfl) (ev_lst (av_cons ev_non (av_cons ev_bl (av_cons ev_int (av_cons ev_int (av_cons ev_int (av_cons ev_str (av_cons ev_str (av_cons ev_str (av_cons ev_str (av_cons ev_str (av_cons ev_str (av_cons ev_str (av_cons ev_str (av_cons ev_str (av_cons (ev_tup av_nil) (av_cons (ev_tup (av_cons ev_str av_nil)) (av_cons (ev_tup (av_cons ev_str (av_cons ev_str av_nil))) av_nil)))))))))))))))))) (by rfl))
  (bv_cons (sv_set sc_law_spoilt_k01.nd rfl (by first | exact Or.inl rfl | exact Or.inr rfl) (ev_bin or_add (l2_op od_add) (ev_var (pv 5)) (ev_lst (av_cons (ev_tup (av_cons ev_str (av_cons ev_int (av_cons ev_str av_nil)))) (av_cons (ev_tup (av_cons ev_str (av_cons ev_int (av_cons ev_int (av_cons ev_int av_nil))))) (av_cons (ev_tup (av_cons ev_str (av_cons ev_str (av_cons (ev_tup av_nil) av_nil)))) (av_cons (ev_tup (av_cons ev_str (av_cons ev_str (av_cons (ev_tup (av_cons ev_int av_nil)) av_nil)))) (av_cons (ev_tup (av_cons ev_str (av_cons ev_str (av_cons (ev_tup (av_cons ev_int (av_cons ev_int av_nil))) av_nil)))) (av_cons (ev_lst av_nil) av_nil)))))))) (by rfl))
  (bv_one (sv_ret (ev_ix (hu_of hr) (ev_bin or_add (l2_op od_add) (ev_var (pv 5)) (ev_lst (av_cons ev_str (av_cons ev_str (av_cons ev_str (av_cons ev_str (av_cons ev_int (av_cons (ev_tup (av_cons ev_str (av_cons ev_int (av_cons ev_int (av_cons ev_int av_nil))))) (av_cons (ev_tup (av_cons ev_str (av_cons ev_str (av_cons ev_int av_nil)))) (av_cons (ev_tup (av_cons ev_str av_nil)) av_nil)))))))))) (ev_bin op_mod (l2_op od_mod) (ev_bin op_fdiv (l2_op od_fdiv) (ev_var (pv 1)) ev_int) ev_int)))))))))
theorem sc_law_k01 : FnScope ["_law_script", "_law_thing", "_law_number", "_law_name", "_law_names", "_law_body", "_law_turn", "_law_bodies", "_law_little", "_law_makers", "_law_long", "_law_some", "_law_found", "_law_k"] ["_law_script"] (defScope st_law_k01) := ⟨rfl, rfl, rfl, by decide +kernel, rfl, by decide +kernel, by decide +kernel⟩
theorem o_law_k01 (T : Txt K mg cl) {f : Addr} {fd : FuncData} (F : Fun K "law" "law" st_law_k01 f fd) {n : Nat} (C__law_book : Callee P w K mg base cl n "_law_book" (φ .law_book)) (C__law_mixed : Callee P w K mg base cl n "_law_mixed" (φ .law_mixed)) (C__law_spoilt : Callee P w K mg base cl n "_law_spoilt" (φ .law_spoilt_k01)) (C_is_book : Callee P w K mg base cl n "is_book" (φ .is_book_k01)) (C__law_is_book : Callee P w K mg base cl n "_law_is_book" (φ .law_is_book)) :
    FnT P w K mg base (n + 1) f fd ["_law_script"] (FnD K cl (b_law_k01 φ)) :=
  okT F sc_law_k01 rfl rfl fun cdv A outer s H E ht hr =>
  (bv_cons (sv_set sc_law_k01.nd rfl (by first | exact Or.inl rfl | exact Or.inr rfl) (ev_call C__law_book ht (by rfl) (av_cons (ev_call C__law_mixed ht (by rfl) (av_cons (ev_var (pv 0)) (av_cons ev_int av_nil)) (by decide)) av_nil) (by decide)) (by rfl))
  (bv_cons (sv_set sc_law_k01.nd rfl (by first | exact Or.inl rfl | exact Or.inr rfl) (ev_call C__law_mixed ht (by rfl) (av_cons (ev_var (pv 0)) (av_cons ev_int av_nil)) (by decide)) (by rfl))
  (bv_cons (sv_if (tv_cmp op_gt (l2_op od_gt) (ev_bin op_mod (l2_op od_mod) (ev_var (pv 2)) ev_int) ev_int (nomark _))
  (bv_one (sv_set sc_law_k01.nd rfl (by first | exact Or.inl rfl | exact Or.inr rfl) (ev_call C__law_spoilt ht (by rfl) (av_cons (ev_var (pv 1)) (av_cons (ev_call C__law_mixed ht (by rfl) (av_cons (ev_var (pv 0)) (av_cons ev_int av_nil)) (by decide)) (av_cons (ev_bin op_mod (l2_op od_mod) (ev_bin op_fdiv (l2_op od_fdiv) (ev_var (pv 2)) ev_int) ev_int) av_nil))) (by decide)) (by rfl)))
  bv_nil)
  (bv_cons (sv_if (tv_cmp (op_eqD hr.units) (l2_op od_eq) (ev_bin op_mod (l2_op od_mod) (ev_bin op_fdiv (l2_op od_fdiv) (ev_var (pv 2)) ev_int) ev_int) ev_int (nomark _))
  (bv_cons (sv_asg (ev_ix (hu_of hr) (ev_call C__law_book ht (by rfl) (av_cons (ev_call C__law_mixed ht (by rfl) (av_cons (ev_var (pv 0)) (av_cons ev_int av_nil)) (by decide)) av_nil) (by decide)) ev_int) (gv_tup (by rfl) (gvs_cons (gv_name sc_law_k01.nd rfl (by first | exact Or.inl rfl | exact Or.inr rfl)) (gvs_cons (gv_name sc_law_k01.nd rfl (by first | exact Or.inl rfl | exact Or.inr rfl)) (gvs_cons (gv_name sc_law_k01.nd rfl (by first | exact Or.inl rfl | exact Or.inr rfl)) gvs_nil)))) (by rfl) (by rfl) (by rfl))
  (bv_cons (sv_for (by rfl) PassesOwn.never (iv_range1 (by rfl) T.range (ev_bin op_mod (l2_op od_mod) (ev_bin op_fdiv (l2_op od_fdiv) (ev_var (pv 2)) ev_int) ev_int)) (gv_name sc_law_k01.nd rfl (by first | exact Or.inl rfl | exact Or.inr rfl))
  (bv_one (sv_set sc_law_k01.nd rfl (by first | exact Or.inl rfl | exact Or.inr rfl) (ev_tup (av_cons ev_str (av_cons ev_int (av_cons (ev_var (pv 5)) av_nil)))) (by rfl))))
  (bv_cons (sv_if (tv_cmp (op_eqD hr.units) (l2_op od_eq) (ev_bin op_mod (l2_op od_mod) (ev_bin op_fdiv (l2_op od_fdiv) (ev_var (pv 2)) ev_int) ev_int) ev_int (nomark _))
  (bv_one (sv_set sc_law_k01.nd rfl (by first | exact Or.inl rfl | exact Or.inr rfl) (ev_tup (av_cons ev_str (av_cons ev_str (av_cons (ev_bin or_tmul (l2_op od_tmul) (ev_tup (av_cons (ev_ix (hu_of hr) (ev_tup (av_cons ev_str (av_cons ev_int (av_cons ev_str av_nil)))) (ev_bin op_mod (l2_op od_mod) (ev_bin op_fdiv (l2_op od_fdiv) (ev_var (pv 2)) ev_int) ev_int)) av_nil)) (ev_bin op_mod (l2_op od_mod) (ev_bin op_fdiv (l2_op od_fdiv) (ev_var (pv 2)) ev_int) ev_int)) av_nil)))) (by rfl)))
  bv_nil)
  (bv_one (sv_set sc_law_k01.nd rfl (by first | exact Or.inl rfl | exact Or.inr rfl) (ev_sl (ev_tup (av_cons (ev_tup (av_cons (ev_var (pv 3)) (av_cons (ev_var (pv 4)) (av_cons (ev_var (pv 5)) av_nil)))) (av_cons (ev_tup (av_cons ev_str (av_cons (ev_sl (ev_tup (av_cons ev_str (av_cons ev_str (av_cons ev_str (av_cons ev_str av_nil))))) ov_none (ov_some (ev_bin op_mod (l2_op od_mod) (ev_bin op_fdiv (l2_op od_fdiv) (ev_var (pv 2)) ev_int) ev_int))) (av_cons ev_int av_nil)))) av_nil))) (ov_some (ev_bin op_mod (l2_op od_mod) (ev_bin op_fdiv (l2_op od_fdiv) (ev_var (pv 2)) ev_int) ev_int)) ov_none) (by rfl))))))
  bv_nil)
  (bv_cons (sv_set sc_law_k01.nd rfl (by first | exact Or.inl rfl | exact Or.inr rfl) (ev_lst (av_cons ev_int (av_cons ev_int (av_cons ev_int (av_cons (ev_un un_neg (l1_op od_neg) ev_int) (av_cons ev_bl (av_cons ev_bl (av_cons ev_non (av_cons (ev_tup av_nil) (av_cons ev_str (av_cons ev_str (av_cons (ev_tup (av_cons ev_str (av_cons ev_str av_nil))) (av_cons (ev_tup (av_cons ev_str (av_cons ev_str (av_cons (ev_tup (av_cons ev_int av_nil)) (av_cons ev_int av_nil))))) av_nil))))))))))))) (by rfl))
  (bv_cons (sv_set sc_law_k01.nd rfl (by first | exact Or.inl rfl | exact Or.inr rfl) (ev_bin or_add (l2_op od_add) (ev_var (pv 7)) (ev_lst (av_cons (ev_tup (av_cons ev_str (av_cons ev_int (av_cons (ev_tup (av_cons ev_int av_nil)) av_nil)))) (av_cons (ev_tup (av_cons ev_str (av_cons ev_str (av_cons (ev_lst (av_cons ev_int av_nil)) av_nil)))) (av_cons (ev_tup (av_cons ev_str (av_cons ev_str (av_cons (ev_tup (av_cons ev_int av_nil)) av_nil)))) (av_cons (ev_tup (av_cons ev_str (av_cons ev_str (av_cons (ev_tup av_nil) av_nil)))) av_nil)))))) (by rfl))
  (bv_cons (sv_set sc_law_k01.nd rfl (by first | exact Or.inl rfl | exact Or.inr rfl) (ev_bin or_add (l2_op od_add) (ev_var (pv 7)) (ev_lst (av_cons (ev_tup (av_cons ev_str (av_cons ev_str (av_cons (ev_tup (av_cons ev_int av_nil)) av_nil)))) (av_cons (ev_tup (av_cons ev_str (av_cons ev_int av_nil))) (av_cons (ev_tup (av_cons ev_int (av_cons ev_int (av_cons ev_int av_nil)))) (av_cons (ev_tup (av_cons ev_str (av_cons ev_int (av_cons ev_int (av_cons ev_int av_nil))))) (av_cons (ev_tup (av_cons ev_str (av_cons ev_int (av_cons ev_int av_nil)))) av_nil))))))) (by rfl))
  (bv_cons (sv_set sc_law_k01.nd rfl (by first | exact Or.inl rfl | exact Or.inr rfl) (ev_ix (hu_of hr) (ev_bin or_add (l2_op od_add) (ev_var (pv 7)) (ev_lst (av_cons (ev_lst (av_cons ev_int av_nil)) (av_cons (ev_tup (av_cons ev_str (av_cons ev_str (av_cons ev_bl av_nil)))) av_nil)))) (ev_bin op_mod (l2_op od_mod) (ev_bin op_fdiv (l2_op od_fdiv) (ev_var (pv 2)) ev_int) ev_int)) (by rfl))
  (bv_cons (sv_set sc_law_k01.nd rfl (by first | exact Or.inl rfl | exact Or.inr rfl) (ev_tup (av_cons (ev_tup (av_cons ev_str (av_cons (ev_tup (av_cons ev_str av_nil)) (av_cons (ev_var (pv 5)) av_nil)))) av_nil)) (by rfl))
  (bv_cons (sv_if (tv_cmp (op_neD hr.units) (l2_op od_ne) (ev_call C_is_book ht (by rfl) (av_cons (ev_var (pv 8)) av_nil) (by decide)) (ev_call C__law_is_book ht (by rfl) (av_cons (ev_var (pv 8)) av_nil) (by decide)) (nomark _))
  (bv_one (sv_ret ev_bl))
  bv_nil)
  (bv_cons (sv_set sc_law_k01.nd rfl (by first | exact Or.inl rfl | exact Or.inr rfl) (ev_tuple1 (by rfl) T.tuple (ev_comp (own := [("_law_k", 13)]) (by rfl) sc_law_k01.nd (iv_range1 (by rfl) T.range (ev_bin or_add (l2_op od_add) ev_int (ev_bin op_mod (l2_op od_mod) (ev_bin op_fdiv (l2_op od_fdiv) (ev_var (pv 2)) ev_int) ev_int))) (blkOk_by (own := [("_law_k", 13)]) (N := ["_law_script", "_law_thing", "_law_number", "_law_name", "_law_names", "_law_body", "_law_turn", "_law_bodies", "_law_little", "_law_makers", "_law_long", "_law_some", "_law_found", "_law_k"]) (sc := defScope st_law_k01) (by decide +kernel)) (fun _ _ _ _ _ => (gv_name sc_law_k01.nd rfl (by first | exact Or.inl rfl | exact Or.inr rfl))) (fun _ _ _ _ _ => tsv_nil) (fun _ _ _ _ _ => (ev_tup (av_cons (ev_ix (hu_of hr) ev_str (ev_var (pv 13))) (av_cons (ev_tup av_nil) (av_cons ev_int av_nil))))) (by decide))) (by rfl))
  (bv_cons (sv_set sc_law_k01.nd rfl (by first | exact Or.inl rfl | exact Or.inr rfl) (ev_sl ev_str ov_none (ov_some (ev_bin or_add (l2_op od_add) ev_int (ev_bin op_mod (l2_op od_mod) (ev_bin op_fdiv (l2_op od_fdiv) (ev_var (pv 2)) ev_int) ev_int)))) (by rfl))
  (bv_cons (sv_for (by rfl) PassesOwn.never (iv_seq (ev_tup (av_cons (ev_var (pv 9)) (av_cons (ev_tup (av_cons (ev_tup (av_cons (ev_var (pv 10)) (av_cons (ev_tup (av_cons (ev_var (pv 10)) av_nil)) (av_cons (ev_var (pv 10)) av_nil)))) av_nil)) av_nil)))) (gv_name sc_law_k01.nd rfl (by first | exact Or.inl rfl | exact Or.inr rfl))
  (bv_one (sv_if (tv_cmp (op_neD hr.units) (l2_op od_ne) (ev_call C_is_book ht (by rfl) (av_cons (ev_var (pv 11)) av_nil) (by decide)) (ev_call C__law_is_book ht (by rfl) (av_cons (ev_var (pv 11)) av_nil) (by decide)) (nomark _))
  (bv_one (sv_ret ev_bl))
  bv_nil)))
  (bv_cons (sv_set sc_law_k01.nd rfl (by first | exact Or.inl rfl | exact Or.inr rfl) (ev_call C_is_book ht (by rfl) (av_cons (ev_var (pv 1)) av_nil) (by decide)) (by rfl))
  (bv_one (sv_ret (ev_and (ev_isi (by rfl) T.isinstance (ev_var (pv 12)) (pe_bltn (v := .ty "bool") (by rfl) T.bool (by decide +kernel) rfl)) (ev_bone (ev_cmp (op_eqD hr.units) (l2_op od_eq) (ev_var (pv 12)) (ev_call C__law_is_book ht (by rfl) (av_cons (ev_var (pv 1)) av_nil) (by decide)) (nomark _))))))))))))))))))))
end
structure Lib (P : Program) (w : World) (K : PySem.W.Frag) (mg : Str → Option Value) (base : Heap) (cl : Cls0) (n : Nat) : Prop where
  is_worth : Callee P w K mg base cl n "is_worth" (Φ n .is_worth)
  is_name : Callee P w K mg base cl n "is_name" (Φ n .is_name)
  is_call : Callee P w K mg base cl n "is_call" (Φ n .is_call)
  is_sum : Callee P w K mg base cl n "is_sum" (Φ n .is_sum)
  is_head : Callee P w K mg base cl n "is_head" (Φ n .is_head)
  is_book : Callee P w K mg base cl n "is_book" (Φ n .is_book_k01)
  _law_cell_at : Callee P w K mg base cl n "_law_cell_at" (Φ n .law_cell_at)
  _law_mixed : Callee P w K mg base cl n "_law_mixed" (Φ n .law_mixed)
  _law_drawn : Callee P w K mg base cl n "_law_drawn" (Φ n .law_drawn)
  _law_sum : Callee P w K mg base cl n "_law_sum" (Φ n .law_sum)
  _law_again : Callee P w K mg base cl n "_law_again" (Φ n .law_again)
  _law_book : Callee P w K mg base cl n "_law_book" (Φ n .law_book)
  _law_is_name : Callee P w K mg base cl n "_law_is_name" (Φ n .law_is_name)
  _law_is_sum : Callee P w K mg base cl n "_law_is_sum" (Φ n .law_is_sum)
  _law_is_book : Callee P w K mg base cl n "_law_is_book" (Φ n .law_is_book)
  _law_spoilt : Callee P w K mg base cl n "_law_spoilt" (Φ n .law_spoilt_k01)
structure Facts (K : PySem.W.Frag) (mg : Str → Option Value) (cl : Cls0) : Prop where
  T : Txt K mg cl
  is_worth : ∃ (f : Addr) (fd : FuncData), Fun K "is_worth" "is_worth" st_is_worth f fd ∧ mg "is_worth" = some (.ref f) ∧ Binds K fd ["thing"] []
  is_name : ∃ (f : Addr) (fd : FuncData), Fun K "is_name" "is_name" st_is_name f fd ∧ mg "is_name" = some (.ref f) ∧ Binds K fd ["thing"] []
  is_call : ∃ (f : Addr) (fd : FuncData), Fun K "is_call" "is_call" st_is_call f fd ∧ mg "is_call" = some (.ref f) ∧ Binds K fd ["thing", "names", "known", "deep"] []
  is_sum : ∃ (f : Addr) (fd : FuncData), Fun K "is_sum" "is_sum" st_is_sum f fd ∧ mg "is_sum" = some (.ref f) ∧ Binds K fd ["thing", "names", "known", "deep"] []
  is_head : ∃ (f : Addr) (fd : FuncData), Fun K "is_head" "is_head" st_is_head f fd ∧ mg "is_head" = some (.ref f) ∧ Binds K fd ["thing"] []
  is_book : ∃ (f : Addr) (fd : FuncData), Fun K "is_book" "is_book" st_is_book_k01 f fd ∧ mg "is_book" = some (.ref f) ∧ Binds K fd ["thing"] []
  _law_cell_at : ∃ (f : Addr) (fd : FuncData), Fun K "_law_cell_at" "_law_cell_at" st_law_cell_at f fd ∧ mg "_law_cell_at" = some (.ref f) ∧ Binds K fd ["_law_script", "_law_k"] []
  _law_mixed : ∃ (f : Addr) (fd : FuncData), Fun K "_law_mixed" "_law_mixed" st_law_mixed f fd ∧ mg "_law_mixed" = some (.ref f) ∧ Binds K fd ["_law_script", "_law_k"] []
  _law_drawn : ∃ (f : Addr) (fd : FuncData), Fun K "_law_drawn" "_law_drawn" st_law_drawn f fd ∧ mg "_law_drawn" = some (.ref f) ∧ Binds K fd ["_law_number", "_law_k"] []
  _law_sum : ∃ (f : Addr) (fd : FuncData), Fun K "_law_sum" "_law_sum" st_law_sum f fd ∧ mg "_law_sum" = some (.ref f) ∧ Binds K fd ["_law_number", "_law_names", "_law_heads", "_law_deep"] []
  _law_again : ∃ (f : Addr) (fd : FuncData), Fun K "_law_again" "_law_again" st_law_again f fd ∧ mg "_law_again" = some (.ref f) ∧ Binds K fd ["_law_number", "_law_name", "_law_names", "_law_heads"] []
  _law_book : ∃ (f : Addr) (fd : FuncData), Fun K "_law_book" "_law_book" st_law_book f fd ∧ mg "_law_book" = some (.ref f) ∧ Binds K fd ["_law_number"] []
  _law_is_name : ∃ (f : Addr) (fd : FuncData), Fun K "_law_is_name" "_law_is_name" st_law_is_name f fd ∧ mg "_law_is_name" = some (.ref f) ∧ Binds K fd ["_law_thing"] []
  _law_is_sum : ∃ (f : Addr) (fd : FuncData), Fun K "_law_is_sum" "_law_is_sum" st_law_is_sum f fd ∧ mg "_law_is_sum" = some (.ref f) ∧ Binds K fd ["_law_thing", "_law_names", "_law_known", "_law_deep"] []
  _law_is_book : ∃ (f : Addr) (fd : FuncData), Fun K "_law_is_book" "_law_is_book" st_law_is_book f fd ∧ mg "_law_is_book" = some (.ref f) ∧ Binds K fd ["_law_thing"] []
  _law_spoilt : ∃ (f : Addr) (fd : FuncData), Fun K "_law_spoilt" "_law_spoilt" st_law_spoilt_k01 f fd ∧ mg "_law_spoilt" = some (.ref f) ∧ Binds K fd ["_law_thing", "_law_number", "_law_deep"] []
theorem lib {P : Program} {w : World} {K : PySem.W.Frag} {mg : Str → Option Value} {base : Heap} {cl : Cls0} (X : Facts K mg cl) : ∀ n, Lib P w K mg base cl n
  | 0 => ⟨(by obtain ⟨f, fd, F, hm, hb⟩ := X.is_worth; rw [Φ_zero]; exact Callee.zero F hm hb),
    (by obtain ⟨f, fd, F, hm, hb⟩ := X.is_name; rw [Φ_zero]; exact Callee.zero F hm hb),
    (by obtain ⟨f, fd, F, hm, hb⟩ := X.is_call; rw [Φ_zero]; exact Callee.zero F hm hb),
    (by obtain ⟨f, fd, F, hm, hb⟩ := X.is_sum; rw [Φ_zero]; exact Callee.zero F hm hb),
    (by obtain ⟨f, fd, F, hm, hb⟩ := X.is_head; rw [Φ_zero]; exact Callee.zero F hm hb),
    (by obtain ⟨f, fd, F, hm, hb⟩ := X.is_book; rw [Φ_zero]; exact Callee.zero F hm hb),
    (by obtain ⟨f, fd, F, hm, hb⟩ := X._law_cell_at; rw [Φ_zero]; exact Callee.zero F hm hb),
    (by obtain ⟨f, fd, F, hm, hb⟩ := X._law_mixed; rw [Φ_zero]; exact Callee.zero F hm hb),
    (by obtain ⟨f, fd, F, hm, hb⟩ := X._law_drawn; rw [Φ_zero]; exact Callee.zero F hm hb),
    (by obtain ⟨f, fd, F, hm, hb⟩ := X._law_sum; rw [Φ_zero]; exact Callee.zero F hm hb),
    (by obtain ⟨f, fd, F, hm, hb⟩ := X._law_again; rw [Φ_zero]; exact Callee.zero F hm hb),
    (by obtain ⟨f, fd, F, hm, hb⟩ := X._law_book; rw [Φ_zero]; exact Callee.zero F hm hb),
    (by obtain ⟨f, fd, F, hm, hb⟩ := X._law_is_name; rw [Φ_zero]; exact Callee.zero F hm hb),
    (by obtain ⟨f, fd, F, hm, hb⟩ := X._law_is_sum; rw [Φ_zero]; exact Callee.zero F hm hb),
    (by obtain ⟨f, fd, F, hm, hb⟩ := X._law_is_book; rw [Φ_zero]; exact Callee.zero F hm hb),
    (by obtain ⟨f, fd, F, hm, hb⟩ := X._law_spoilt; rw [Φ_zero]; exact Callee.zero F hm hb)⟩
  | n + 1 => ⟨(by obtain ⟨f, fd, F, hm, hb⟩ := X.is_worth; rw [Φ_succ]; exact d_is_worth (φ := Φ n) X.T F hm hb ),
    (by obtain ⟨f, fd, F, hm, hb⟩ := X.is_name; rw [Φ_succ]; exact d_is_name (φ := Φ n) X.T F hm hb ),
    (by obtain ⟨f, fd, F, hm, hb⟩ := X.is_call; rw [Φ_succ]; exact d_is_call (φ := Φ n) X.T F hm hb (lib X n).is_sum),
    (by obtain ⟨f, fd, F, hm, hb⟩ := X.is_sum; rw [Φ_succ]; exact d_is_sum (φ := Φ n) X.T F hm hb (lib X n).is_worth (lib X n).is_call (lib X n).is_sum),
    (by obtain ⟨f, fd, F, hm, hb⟩ := X.is_head; rw [Φ_succ]; exact d_is_head (φ := Φ n) X.T F hm hb (lib X n).is_name),
    (by obtain ⟨f, fd, F, hm, hb⟩ := X.is_book; rw [Φ_succ]; exact d_is_book_k01 (φ := Φ n) X.T F hm hb (lib X n).is_head (lib X n).is_sum),
    (by obtain ⟨f, fd, F, hm, hb⟩ := X._law_cell_at; rw [Φ_succ]; exact d_law_cell_at (φ := Φ n) X.T F hm hb ),
    (by obtain ⟨f, fd, F, hm, hb⟩ := X._law_mixed; rw [Φ_succ]; exact d_law_mixed (φ := Φ n) X.T F hm hb (lib X n)._law_cell_at),
    (by obtain ⟨f, fd, F, hm, hb⟩ := X._law_drawn; rw [Φ_succ]; exact d_law_drawn (φ := Φ n) X.T F hm hb ),
    (by obtain ⟨f, fd, F, hm, hb⟩ := X._law_sum; rw [Φ_succ]; exact d_law_sum (φ := Φ n) X.T F hm hb (lib X n)._law_sum (lib X n)._law_drawn),
    (by obtain ⟨f, fd, F, hm, hb⟩ := X._law_again; rw [Φ_succ]; exact d_law_again (φ := Φ n) X.T F hm hb (lib X n)._law_sum (lib X n)._law_drawn),
    (by obtain ⟨f, fd, F, hm, hb⟩ := X._law_book; rw [Φ_succ]; exact d_law_book (φ := Φ n) X.T F hm hb (lib X n)._law_drawn (lib X n)._law_again (lib X n)._law_sum),
    (by obtain ⟨f, fd, F, hm, hb⟩ := X._law_is_name; rw [Φ_succ]; exact d_law_is_name (φ := Φ n) X.T F hm hb ),
    (by obtain ⟨f, fd, F, hm, hb⟩ := X._law_is_sum; rw [Φ_succ]; exact d_law_is_sum (φ := Φ n) X.T F hm hb (lib X n)._law_is_sum),
    (by obtain ⟨f, fd, F, hm, hb⟩ := X._law_is_book; rw [Φ_succ]; exact d_law_is_book (φ := Φ n) X.T F hm hb (lib X n)._law_is_name (lib X n)._law_is_sum),
    (by obtain ⟨f, fd, F, hm, hb⟩ := X._law_spoilt; rw [Φ_succ]; exact d_law_spoilt_k01 (φ := Φ n) X.T F hm hb (lib X n)._law_spoilt (lib X n)._law_drawn)⟩
theorem ok_law {P : Program} {w : World} {K : PySem.W.Frag} {mg : Str → Option Value} {base : Heap} {cl : Cls0} (X : Facts K mg cl) {f : Addr} {fd : FuncData} (F : Fun K "law" "law" st_law_k01 f fd) (n : Nat) : FnT P w K mg base (n + 1) f fd ["_law_script"] (FnD K cl (Φ (n + 1) .law_k01)) := by
  rw [Φ_succ]
  exact o_law_k01 (φ := Φ n) X.T F ((lib X n)._law_book) ((lib X n)._law_mixed) ((lib X n)._law_spoilt) ((lib X n).is_book) ((lib X n)._law_is_book)
theorem all_mk {l : PySem.W.OpenLaw} {w : World} {K : PySem.W.Frag} {h : Heap} {mg : Str → Option Value} {fa : Addr} (X : K.In h) (G : h.Ns mainGlobals mg) (hfa : mg "law" = some (.ref fa)) (hp : ∀ ns : List Int, ns.length ≤ 63 → Φ 600 .law_k01 [.scr ns] [] = some (.dat (.bool true), []))
    {f0 : Addr} {od0 an0 : Option Addr} {sl0 : Array (Option Value)} {oc0 kV0 dc0 pm0 cd0 ct0 : Value}
    {f1 : Addr} {od1 an1 : Option Addr} {sl1 : Array (Option Value)} {oc1 kV1 dc1 pm1 cd1 ct1 : Value}
    {f2 : Addr} {od2 an2 : Option Addr} {sl2 : Array (Option Value)} {oc2 kV2 dc2 pm2 cd2 ct2 : Value}
    {f3 : Addr} {od3 an3 : Option Addr} {sl3 : Array (Option Value)} {oc3 kV3 dc3 pm3 cd3 ct3 : Value}
    {f4 : Addr} {od4 an4 : Option Addr} {sl4 : Array (Option Value)} {oc4 kV4 dc4 pm4 cd4 ct4 : Value}
    {f5 : Addr} {od5 an5 : Option Addr} {sl5 : Array (Option Value)} {oc5 kV5 dc5 pm5 cd5 ct5 : Value}
    {f6 : Addr} {od6 an6 : Option Addr} {sl6 : Array (Option Value)} {oc6 kV6 dc6 pm6 cd6 ct6 : Value}
    {f7 : Addr} {od7 an7 : Option Addr} {sl7 : Array (Option Value)} {oc7 kV7 dc7 pm7 cd7 ct7 : Value}
    {f8 : Addr} {od8 an8 : Option Addr} {sl8 : Array (Option Value)} {oc8 kV8 dc8 pm8 cd8 ct8 : Value}
    {f9 : Addr} {od9 an9 : Option Addr} {sl9 : Array (Option Value)} {oc9 kV9 dc9 pm9 cd9 ct9 : Value}
    {f10 : Addr} {od10 an10 : Option Addr} {sl10 : Array (Option Value)} {oc10 kV10 dc10 pm10 cd10 ct10 : Value}
    {f11 : Addr} {od11 an11 : Option Addr} {sl11 : Array (Option Value)} {oc11 kV11 dc11 pm11 cd11 ct11 : Value}
    {f12 : Addr} {od12 an12 : Option Addr} {sl12 : Array (Option Value)} {oc12 kV12 dc12 pm12 cd12 ct12 : Value}
    {f13 : Addr} {od13 an13 : Option Addr} {sl13 : Array (Option Value)} {oc13 kV13 dc13 pm13 cd13 ct13 : Value}
    {f14 : Addr} {od14 an14 : Option Addr} {sl14 : Array (Option Value)} {oc14 kV14 dc14 pm14 cd14 ct14 : Value}
    {f15 : Addr} {od15 an15 : Option Addr} {sl15 : Array (Option Value)} {oc15 kV15 dc15 pm15 cd15 ct15 : Value}
    {f16 : Addr} {od16 an16 : Option Addr} {sl16 : Array (Option Value)} {oc16 kV16 dc16 pm16 cd16 ct16 : Value}
    (a0 : PySem.W.nsIn K mainGlobals "is_worth" = some (some (.ref f0))) (l0 : K.lookup f0 = some ⟨oc0, od0, .func (PySem.W.fnOf "is_worth" "is_worth" (defArgs st_is_worth) (defBody st_is_worth) (defScope st_is_worth) .none kV0 dc0 pm0 an0 cd0 ct0), sl0⟩) (c0 : PySem.W.codeIn K cd0 "is_worth" = true) (k0 : PySem.W.keepIn K (.ref f0) = true)
    (a1 : PySem.W.nsIn K mainGlobals "is_name" = some (some (.ref f1))) (l1 : K.lookup f1 = some ⟨oc1, od1, .func (PySem.W.fnOf "is_name" "is_name" (defArgs st_is_name) (defBody st_is_name) (defScope st_is_name) .none kV1 dc1 pm1 an1 cd1 ct1), sl1⟩) (c1 : PySem.W.codeIn K cd1 "is_name" = true) (k1 : PySem.W.keepIn K (.ref f1) = true)
    (a2 : PySem.W.nsIn K mainGlobals "is_call" = some (some (.ref f2))) (l2 : K.lookup f2 = some ⟨oc2, od2, .func (PySem.W.fnOf "is_call" "is_call" (defArgs st_is_call) (defBody st_is_call) (defScope st_is_call) .none kV2 dc2 pm2 an2 cd2 ct2), sl2⟩) (c2 : PySem.W.codeIn K cd2 "is_call" = true) (k2 : PySem.W.keepIn K (.ref f2) = true)
    (a3 : PySem.W.nsIn K mainGlobals "is_sum" = some (some (.ref f3))) (l3 : K.lookup f3 = some ⟨oc3, od3, .func (PySem.W.fnOf "is_sum" "is_sum" (defArgs st_is_sum) (defBody st_is_sum) (defScope st_is_sum) .none kV3 dc3 pm3 an3 cd3 ct3), sl3⟩) (c3 : PySem.W.codeIn K cd3 "is_sum" = true) (k3 : PySem.W.keepIn K (.ref f3) = true)
    (a4 : PySem.W.nsIn K mainGlobals "is_head" = some (some (.ref f4))) (l4 : K.lookup f4 = some ⟨oc4, od4, .func (PySem.W.fnOf "is_head" "is_head" (defArgs st_is_head) (defBody st_is_head) (defScope st_is_head) .none kV4 dc4 pm4 an4 cd4 ct4), sl4⟩) (c4 : PySem.W.codeIn K cd4 "is_head" = true) (k4 : PySem.W.keepIn K (.ref f4) = true)
    (a5 : PySem.W.nsIn K mainGlobals "is_book" = some (some (.ref f5))) (l5 : K.lookup f5 = some ⟨oc5, od5, .func (PySem.W.fnOf "is_book" "is_book" (defArgs st_is_book_k01) (defBody st_is_book_k01) (defScope st_is_book_k01) .none kV5 dc5 pm5 an5 cd5 ct5), sl5⟩) (c5 : PySem.W.codeIn K cd5 "is_book" = true) (k5 : PySem.W.keepIn K (.ref f5) = true)
    (a6 : PySem.W.nsIn K mainGlobals "_law_cell_at" = some (some (.ref f6))) (l6 : K.lookup f6 = some ⟨oc6, od6, .func (PySem.W.fnOf "_law_cell_at" "_law_cell_at" (defArgs st_law_cell_at) (defBody st_law_cell_at) (defScope st_law_cell_at) .none kV6 dc6 pm6 an6 cd6 ct6), sl6⟩) (c6 : PySem.W.codeIn K cd6 "_law_cell_at" = true) (k6 : PySem.W.keepIn K (.ref f6) = true)
    (a7 : PySem.W.nsIn K mainGlobals "_law_mixed" = some (some (.ref f7))) (l7 : K.lookup f7 = some ⟨oc7, od7, .func (PySem.W.fnOf "_law_mixed" "_law_mixed" (defArgs st_law_mixed) (defBody st_law_mixed) (defScope st_law_mixed) .none kV7 dc7 pm7 an7 cd7 ct7), sl7⟩) (c7 : PySem.W.codeIn K cd7 "_law_mixed" = true) (k7 : PySem.W.keepIn K (.ref f7) = true)
    (a8 : PySem.W.nsIn K mainGlobals "_law_drawn" = some (some (.ref f8))) (l8 : K.lookup f8 = some ⟨oc8, od8, .func (PySem.W.fnOf "_law_drawn" "_law_drawn" (defArgs st_law_drawn) (defBody st_law_drawn) (defScope st_law_drawn) .none kV8 dc8 pm8 an8 cd8 ct8), sl8⟩) (c8 : PySem.W.codeIn K cd8 "_law_drawn" = true) (k8 : PySem.W.keepIn K (.ref f8) = true)
    (a9 : PySem.W.nsIn K mainGlobals "_law_sum" = some (some (.ref f9))) (l9 : K.lookup f9 = some ⟨oc9, od9, .func (PySem.W.fnOf "_law_sum" "_law_sum" (defArgs st_law_sum) (defBody st_law_sum) (defScope st_law_sum) .none kV9 dc9 pm9 an9 cd9 ct9), sl9⟩) (c9 : PySem.W.codeIn K cd9 "_law_sum" = true) (k9 : PySem.W.keepIn K (.ref f9) = true)
    (a10 : PySem.W.nsIn K mainGlobals "_law_again" = some (some (.ref f10))) (l10 : K.lookup f10 = some ⟨oc10, od10, .func (PySem.W.fnOf "_law_again" "_law_again" (defArgs st_law_again) (defBody st_law_again) (defScope st_law_again) .none kV10 dc10 pm10 an10 cd10 ct10), sl10⟩) (c10 : PySem.W.codeIn K cd10 "_law_again" = true) (k10 : PySem.W.keepIn K (.ref f10) = true)
    (a11 : PySem.W.nsIn K mainGlobals "_law_book" = some (some (.ref f11))) (l11 : K.lookup f11 = some ⟨oc11, od11, .func (PySem.W.fnOf "_law_book" "_law_book" (defArgs st_law_book) (defBody st_law_book) (defScope st_law_book) .none kV11 dc11 pm11 an11 cd11 ct11), sl11⟩) (c11 : PySem.W.codeIn K cd11 "_law_book" = true) (k11 : PySem.W.keepIn K (.ref f11) = true)
    (a12 : PySem.W.nsIn K mainGlobals "_law_is_name" = some (some (.ref f12))) (l12 : K.lookup f12 = some ⟨oc12, od12, .func (PySem.W.fnOf "_law_is_name" "_law_is_name" (defArgs st_law_is_name) (defBody st_law_is_name) (defScope st_law_is_name) .none kV12 dc12 pm12 an12 cd12 ct12), sl12⟩) (c12 : PySem.W.codeIn K cd12 "_law_is_name" = true) (k12 : PySem.W.keepIn K (.ref f12) = true)
    (a13 : PySem.W.nsIn K mainGlobals "_law_is_sum" = some (some (.ref f13))) (l13 : K.lookup f13 = some ⟨oc13, od13, .func (PySem.W.fnOf "_law_is_sum" "_law_is_sum" (defArgs st_law_is_sum) (defBody st_law_is_sum) (defScope st_law_is_sum) .none kV13 dc13 pm13 an13 cd13 ct13), sl13⟩) (c13 : PySem.W.codeIn K cd13 "_law_is_sum" = true) (k13 : PySem.W.keepIn K (.ref f13) = true)
    (a14 : PySem.W.nsIn K mainGlobals "_law_is_book" = some (some (.ref f14))) (l14 : K.lookup f14 = some ⟨oc14, od14, .func (PySem.W.fnOf "_law_is_book" "_law_is_book" (defArgs st_law_is_book) (defBody st_law_is_book) (defScope st_law_is_book) .none kV14 dc14 pm14 an14 cd14 ct14), sl14⟩) (c14 : PySem.W.codeIn K cd14 "_law_is_book" = true) (k14 : PySem.W.keepIn K (.ref f14) = true)
    (a15 : PySem.W.nsIn K mainGlobals "_law_spoilt" = some (some (.ref f15))) (l15 : K.lookup f15 = some ⟨oc15, od15, .func (PySem.W.fnOf "_law_spoilt" "_law_spoilt" (defArgs st_law_spoilt_k01) (defBody st_law_spoilt_k01) (defScope st_law_spoilt_k01) .none kV15 dc15 pm15 an15 cd15 ct15), sl15⟩) (c15 : PySem.W.codeIn K cd15 "_law_spoilt" = true) (k15 : PySem.W.keepIn K (.ref f15) = true)
    (a16 : PySem.W.nsIn K mainGlobals "law" = some (some (.ref f16))) (l16 : K.lookup f16 = some ⟨oc16, od16, .func (PySem.W.fnOf "law" "law" (defArgs st_law_k01) (defBody st_law_k01) (defScope st_law_k01) .none kV16 dc16 pm16 an16 cd16 ct16), sl16⟩) (c16 : PySem.W.codeIn K cd16 "law" = true) (k16 : PySem.W.keepIn K (.ref f16) = true)
    (z_isinstance : PySem.W.nsIn K mainGlobals "isinstance" = some none)
    (z_int : PySem.W.nsIn K mainGlobals "int" = some none)
    (z_bool : PySem.W.nsIn K mainGlobals "bool" = some none)
    (z_str : PySem.W.nsIn K mainGlobals "str" = some none)
    (z_len : PySem.W.nsIn K mainGlobals "len" = some none)
    (z_all : PySem.W.nsIn K mainGlobals "all" = some none)
    (z_tuple : PySem.W.nsIn K mainGlobals "tuple" = some none)
    (z_set : PySem.W.nsIn K mainGlobals "set" = some none)
    (z_dict : PySem.W.nsIn K mainGlobals "dict" = some none)
    (z_list : PySem.W.nsIn K mainGlobals "list" = some none)
    (z_range : PySem.W.nsIn K mainGlobals "range" = some none)
    (z_enumerate : PySem.W.nsIn K mainGlobals "enumerate" = some none)
    {u_RING : Value} (g_RING : PySem.W.nsIn K mainGlobals "RING" = some (some u_RING)) (v_RING : RelV (V.int 1000) u_RING)
    {u_LONGEST : Value} (g_LONGEST : PySem.W.nsIn K mainGlobals "LONGEST" = some (some u_LONGEST)) (v_LONGEST : RelV (V.int 4) u_LONGEST)
    {t_BARRED : Addr} {o_BARRED : Obj} {us_BARRED : List Value} {n_BARRED : Nat} (g_BARRED : PySem.W.nsIn K mainGlobals "BARRED" = some (some (.ref t_BARRED))) (v_BARRED : K.lookup t_BARRED = some o_BARRED) (w_BARRED : o_BARRED.cls = .type "tuple") (d_BARRED : o_BARRED.dict = none) (x_BARRED : o_BARRED.data = .seq us_BARRED.toArray n_BARRED) (y_BARRED : us_BARRED.length ≤ sizeLine) (r_BARRED : Vals [.str "plus", .str "less", .str "same", .str "if", .str "call"] us_BARRED)
    {u_LETTERS : Value} (g_LETTERS : PySem.W.nsIn K mainGlobals "LETTERS" = some (some u_LETTERS)) (v_LETTERS : RelV (V.str "abcdefghijklmnopqrstuvwxyz") u_LETTERS)
    {t_WORDS : Addr} {o_WORDS : Obj} {us_WORDS : List Value} {n_WORDS : Nat} (g_WORDS : PySem.W.nsIn K mainGlobals "WORDS" = some (some (.ref t_WORDS))) (v_WORDS : K.lookup t_WORDS = some o_WORDS) (w_WORDS : o_WORDS.cls = .type "tuple") (d_WORDS : o_WORDS.dict = none) (x_WORDS : o_WORDS.data = .seq us_WORDS.toArray n_WORDS) (y_WORDS : us_WORDS.length ≤ sizeLine) (r_WORDS : Vals [.str "plus", .str "less", .str "times", .str "same", .str "under"] us_WORDS)
    {u_MOST_NAMES : Value} (g_MOST_NAMES : PySem.W.nsIn K mainGlobals "MOST_NAMES" = some (some u_MOST_NAMES)) (v_MOST_NAMES : RelV (V.int 3) u_MOST_NAMES)
    {u_MOST_MAKERS : Value} (g_MOST_MAKERS : PySem.W.nsIn K mainGlobals "MOST_MAKERS" = some (some u_MOST_MAKERS)) (v_MOST_MAKERS : RelV (V.int 4) u_MOST_MAKERS)
    {u_DEEPEST : Value} (g_DEEPEST : PySem.W.nsIn K mainGlobals "DEEPEST" = some (some u_DEEPEST)) (v_DEEPEST : RelV (V.int 5) u_DEEPEST)
    : ∃ fd : FuncData, (∀ (s : Shared) (v : Value), BindsTo s fd ⟨[v], []⟩ [("_law_script", v)]) ∧ ∀ base : Heap, K.In base → base.Ns mainGlobals mg → FnOk l.prog w K mg base CX0 230 fa fd ["_law_script"] (spLaw K) := by
  have e := hfa.symm.trans (PySem.W.mg_of X G a16)
  cases e
  let cl : Cls0 := fun s => 0
  have F0 := fun_mk (st := st_is_worth) l0 c0 k0
  have b0 := F0.binds (ps := ["thing"]) fun _ _ _ _ _ _ us hl => match us, hl with | [_], _ => rfl
  have F1 := fun_mk (st := st_is_name) l1 c1 k1
  have b1 := F1.binds (ps := ["thing"]) fun _ _ _ _ _ _ us hl => match us, hl with | [_], _ => rfl
  have F2 := fun_mk (st := st_is_call) l2 c2 k2
  have b2 := F2.binds (ps := ["thing", "names", "known", "deep"]) fun _ _ _ _ _ _ us hl => match us, hl with | [_, _, _, _], _ => rfl
  have F3 := fun_mk (st := st_is_sum) l3 c3 k3
  have b3 := F3.binds (ps := ["thing", "names", "known", "deep"]) fun _ _ _ _ _ _ us hl => match us, hl with | [_, _, _, _], _ => rfl
  have F4 := fun_mk (st := st_is_head) l4 c4 k4
  have b4 := F4.binds (ps := ["thing"]) fun _ _ _ _ _ _ us hl => match us, hl with | [_], _ => rfl
  have F5 := fun_mk (st := st_is_book_k01) l5 c5 k5
  have b5 := F5.binds (ps := ["thing"]) fun _ _ _ _ _ _ us hl => match us, hl with | [_], _ => rfl
  have F6 := fun_mk (st := st_law_cell_at) l6 c6 k6
  have b6 := F6.binds (ps := ["_law_script", "_law_k"]) fun _ _ _ _ _ _ us hl => match us, hl with | [_, _], _ => rfl
  have F7 := fun_mk (st := st_law_mixed) l7 c7 k7
  have b7 := F7.binds (ps := ["_law_script", "_law_k"]) fun _ _ _ _ _ _ us hl => match us, hl with | [_, _], _ => rfl
  have F8 := fun_mk (st := st_law_drawn) l8 c8 k8
  have b8 := F8.binds (ps := ["_law_number", "_law_k"]) fun _ _ _ _ _ _ us hl => match us, hl with | [_, _], _ => rfl
  have F9 := fun_mk (st := st_law_sum) l9 c9 k9
  have b9 := F9.binds (ps := ["_law_number", "_law_names", "_law_heads", "_law_deep"]) fun _ _ _ _ _ _ us hl => match us, hl with | [_, _, _, _], _ => rfl
  have F10 := fun_mk (st := st_law_again) l10 c10 k10
  have b10 := F10.binds (ps := ["_law_number", "_law_name", "_law_names", "_law_heads"]) fun _ _ _ _ _ _ us hl => match us, hl with | [_, _, _, _], _ => rfl
  have F11 := fun_mk (st := st_law_book) l11 c11 k11
  have b11 := F11.binds (ps := ["_law_number"]) fun _ _ _ _ _ _ us hl => match us, hl with | [_], _ => rfl
  have F12 := fun_mk (st := st_law_is_name) l12 c12 k12
  have b12 := F12.binds (ps := ["_law_thing"]) fun _ _ _ _ _ _ us hl => match us, hl with | [_], _ => rfl
  have F13 := fun_mk (st := st_law_is_sum) l13 c13 k13
  have b13 := F13.binds (ps := ["_law_thing", "_law_names", "_law_known", "_law_deep"]) fun _ _ _ _ _ _ us hl => match us, hl with | [_, _, _, _], _ => rfl
  have F14 := fun_mk (st := st_law_is_book) l14 c14 k14
  have b14 := F14.binds (ps := ["_law_thing"]) fun _ _ _ _ _ _ us hl => match us, hl with | [_], _ => rfl
  have F15 := fun_mk (st := st_law_spoilt_k01) l15 c15 k15
  have b15 := F15.binds (ps := ["_law_thing", "_law_number", "_law_deep"]) fun _ _ _ _ _ _ us hl => match us, hl with | [_, _, _], _ => rfl
  have Y : Facts K mg cl := ⟨⟨PySem.W.mg_none_of X G z_isinstance, PySem.W.mg_none_of X G z_int, PySem.W.mg_none_of X G z_bool, PySem.W.mg_none_of X G z_str, PySem.W.mg_none_of X G z_len, PySem.W.mg_none_of X G z_all, PySem.W.mg_none_of X G z_tuple, PySem.W.mg_none_of X G z_set, PySem.W.mg_none_of X G z_dict, PySem.W.mg_none_of X G z_list, PySem.W.mg_none_of X G z_range, PySem.W.mg_none_of X G z_enumerate, ⟨_, _, PySem.W.mg_of X G g_RING, v_RING, fun _ _ => .int _⟩, ⟨_, _, PySem.W.mg_of X G g_LONGEST, v_LONGEST, fun _ _ => .int _⟩, ⟨_, .ref t_BARRED, PySem.W.mg_of X G g_BARRED, rfl, fun _ _ => .tup (.inr ⟨o_BARRED, _, n_BARRED, v_BARRED, w_BARRED, d_BARRED, x_BARRED, by simpa using y_BARRED, by simpa using r_BARRED⟩) (.cons (.str _) (.cons (.str _) (.cons (.str _) (.cons (.str _) (.cons (.str _) (.nil))))))⟩, ⟨_, _, PySem.W.mg_of X G g_LETTERS, v_LETTERS, fun _ _ => .str _⟩, ⟨_, .ref t_WORDS, PySem.W.mg_of X G g_WORDS, rfl, fun _ _ => .tup (.inr ⟨o_WORDS, _, n_WORDS, v_WORDS, w_WORDS, d_WORDS, x_WORDS, by simpa using y_WORDS, by simpa using r_WORDS⟩) (.cons (.str _) (.cons (.str _) (.cons (.str _) (.cons (.str _) (.cons (.str _) (.nil))))))⟩, ⟨_, _, PySem.W.mg_of X G g_MOST_NAMES, v_MOST_NAMES, fun _ _ => .int _⟩, ⟨_, _, PySem.W.mg_of X G g_MOST_MAKERS, v_MOST_MAKERS, fun _ _ => .int _⟩, ⟨_, _, PySem.W.mg_of X G g_DEEPEST, v_DEEPEST, fun _ _ => .int _⟩⟩, ⟨_, _, F0, PySem.W.mg_of X G a0, b0⟩,
    ⟨_, _, F1, PySem.W.mg_of X G a1, b1⟩,
    ⟨_, _, F2, PySem.W.mg_of X G a2, b2⟩,
    ⟨_, _, F3, PySem.W.mg_of X G a3, b3⟩,
    ⟨_, _, F4, PySem.W.mg_of X G a4, b4⟩,
    ⟨_, _, F5, PySem.W.mg_of X G a5, b5⟩,
    ⟨_, _, F6, PySem.W.mg_of X G a6, b6⟩,
    ⟨_, _, F7, PySem.W.mg_of X G a7, b7⟩,
    ⟨_, _, F8, PySem.W.mg_of X G a8, b8⟩,
    ⟨_, _, F9, PySem.W.mg_of X G a9, b9⟩,
    ⟨_, _, F10, PySem.W.mg_of X G a10, b10⟩,
    ⟨_, _, F11, PySem.W.mg_of X G a11, b11⟩,
    ⟨_, _, F12, PySem.W.mg_of X G a12, b12⟩,
    ⟨_, _, F13, PySem.W.mg_of X G a13, b13⟩,
    ⟨_, _, F14, PySem.W.mg_of X G a14, b14⟩,
    ⟨_, _, F15, PySem.W.mg_of X G a15, b15⟩⟩
  exact ⟨PySem.W.fnOf "law" "law" (defArgs st_law_k01) (defBody st_law_k01) (defScope st_law_k01) .none kV16 dc16 pm16 an16 cd16 ct16, fun s v => .of_eq rfl, fun base _ _ => ((ok_law Y (fun_mk (st := st_law_k01) l16 c16 k16) 599).out (by decide) (by decide)).imp (law_starts hp)⟩
theorem walk {l : PySem.W.OpenLaw} {q : Program} {loose : List Str} {XP : (Str → Option Value) → Heap → Prop} {YP : World → Heap → Prop} {d : DefRec} {K : Params → PySem.W.Frag} (hn : l.most = some 63) (hdf : d.params.defaults = [])
    (hY : ∀ (w : World) (h : Heap), YP w h → (K w.params).In h)
    (F : ∀ (w : World) (mg : Str → Option Value) (fa : Addr) (h : Heap), (K w.params).In h → h.Ns mainGlobals mg → mg d.name = some (.ref fa) →
      ∃ fd : FuncData, (∀ (s : Shared) (u : Value), BindsTo s fd ⟨[u], []⟩ [("_law_script", u)]) ∧ ∀ base : Heap, (K w.params).In base → base.Ns mainGlobals mg → FnOk l.prog w (K w.params) mg base CX0 230 fa fd ["_law_script"] (spLaw (K w.params))) :
    PySem.W.WalkO q loose XP YP l.row.toRowW d [] (fun f vs => PySem.call f vs) :=
  L2.walk_of (n := 63) (k := 230) (x := "_law_script") (CX := fun _ => CX0) (sp := fun w => spLaw (K w.params)) hn (by decide) hdf ⟨rfl, by decide, by decide⟩ hY F
    (fun w H a ns hl ho hS => ⟨a, ns, rfl, hS, hl, fun _ => rfl⟩) fun _ _ _ _ _ z => z
end Cy
end
section
open PySem PySem.W PyProof.Rows
set_option Elab.async false
set_option maxRecDepth 100000 in
set_option maxHeartbeats 0 in
theorem PySem.Challenge.cw_copyshapes_k01_books_holds : PySem.Challenge.rw_copyshapes_k01_books.Holds := by
  w_on; o_law; k_head; (case hw => w_witness2)
  k_fill
  refine Cy.walk (l := PySem.Challenge.rw_copyshapes_k01_books) rfl rfl (fun w h Y => PySem.W.kIn_of Y) ?F
  case F =>
    intro w mg fa h KX G hmg
    refine' Cy.all_mk KX G hmg Cy.law_pure ?a0 ?l0 ?c0 ?k0 ?a1 ?l1 ?c1 ?k1 ?a2 ?l2 ?c2 ?k2 ?a3 ?l3 ?c3 ?k3 ?a4 ?l4 ?c4 ?k4 ?a5 ?l5 ?c5 ?k5 ?a6 ?l6 ?c6 ?k6 ?a7 ?l7 ?c7 ?k7 ?a8 ?l8 ?c8 ?k8 ?a9 ?l9 ?c9 ?k9 ?a10 ?l10 ?c10 ?k10 ?a11 ?l11 ?c11 ?k11 ?a12 ?l12 ?c12 ?k12 ?a13 ?l13 ?c13 ?k13 ?a14 ?l14 ?c14 ?k14 ?a15 ?l15 ?c15 ?k15 ?a16 ?l16 ?c16 ?k16 ?z_isinstance ?z_int ?z_bool ?z_str ?z_len ?z_all ?z_tuple ?z_set ?z_dict ?z_list ?z_range ?z_enumerate ?g_RING ?v_RING ?g_LONGEST ?v_LONGEST ?g_BARRED ?v_BARRED ?w_BARRED ?d_BARRED ?x_BARRED ?y_BARRED ?r_BARRED ?g_LETTERS ?v_LETTERS ?g_WORDS ?v_WORDS ?w_WORDS ?d_WORDS ?x_WORDS ?y_WORDS ?r_WORDS ?g_MOST_NAMES ?v_MOST_NAMES ?g_MOST_MAKERS ?v_MOST_MAKERS ?g_DEEPEST ?v_DEEPEST
    (case a0 => k_is)
    (case l0 => k_is)
    (case c0 => k_is)
    (case k0 => k_is)
    (case a1 => k_is)
    (case l1 => k_is)
    (case c1 => k_is)
    (case k1 => k_is)
    (case a2 => k_is)
    (case l2 => k_is)
    (case c2 => k_is)
    (case k2 => k_is)
    (case a3 => k_is)
    (case l3 => k_is)
    (case c3 => k_is)
    (case k3 => k_is)
    (case a4 => k_is)
    (case l4 => k_is)
    (case c4 => k_is)
    (case k4 => k_is)
    (case a5 => k_is)
    (case l5 => k_is)
    (case c5 => k_is)
    (case k5 => k_is)
    (case a6 => k_is)
    (case l6 => k_is)
    (case c6 => k_is)
    (case k6 => k_is)
    (case a7 => k_is)
    (case l7 => k_is)
    (case c7 => k_is)
    (case k7 => k_is)
    (case a8 => k_is)
    (case l8 => k_is)
    (case c8 => k_is)
    (case k8 => k_is)
    (case a9 => k_is)
    (case l9 => k_is)
    (case c9 => k_is)
    (case k9 => k_is)
    (case a10 => k_is)
    (case l10 => k_is)
    (case c10 => k_is)
    (case k10 => k_is)
    (case a11 => k_is)
    (case l11 => k_is)
    (case c11 => k_is)
    (case k11 => k_is)
    (case a12 => k_is)
    (case l12 => k_is)
    (case c12 => k_is)
    (case k12 => k_is)
    (case a13 => k_is)
    (case l13 => k_is)
    (case c13 => k_is)
    (case k13 => k_is)
    (case a14 => k_is)
    (case l14 => k_is)
    (case c14 => k_is)
    (case k14 => k_is)
    (case a15 => k_is)
    (case l15 => k_is)
    (case c15 => k_is)
    (case k15 => k_is)
    (case a16 => k_is)
    (case l16 => k_is)
    (case c16 => k_is)
    (case k16 => k_is)
    (case z_isinstance => k_is)
    (case z_int => k_is)
    (case z_bool => k_is)
    (case z_str => k_is)
    (case z_len => k_is)
    (case z_all => k_is)
    (case z_tuple => k_is)
    (case z_set => k_is)
    (case z_dict => k_is)
    (case z_list => k_is)
    (case z_range => k_is)
    (case z_enumerate => k_is)
    (case g_RING => k_is)
    (case v_RING => exact ⟨_, rfl⟩)
    (case g_LONGEST => k_is)
    (case v_LONGEST => exact ⟨_, rfl⟩)
    (case g_BARRED => k_is)
    (case v_BARRED => k_is)
    (case w_BARRED => rfl)
    (case d_BARRED => rfl)
    (case x_BARRED => rfl)
    (case y_BARRED => exact Cy.small_line (by decide))
    (case r_BARRED => exact .cons ⟨_, rfl⟩ (.cons ⟨_, rfl⟩ (.cons ⟨_, rfl⟩ (.cons ⟨_, rfl⟩ (.cons ⟨_, rfl⟩ (.nil))))))
    (case g_LETTERS => k_is)
    (case v_LETTERS => exact ⟨_, rfl⟩)
    (case g_WORDS => k_is)
    (case v_WORDS => k_is)
    (case w_WORDS => rfl)
    (case d_WORDS => rfl)
    (case x_WORDS => rfl)
    (case y_WORDS => exact Cy.small_line (by decide))
    (case r_WORDS => exact .cons ⟨_, rfl⟩ (.cons ⟨_, rfl⟩ (.cons ⟨_, rfl⟩ (.cons ⟨_, rfl⟩ (.cons ⟨_, rfl⟩ (.nil))))))
    (case g_MOST_NAMES => k_is)
    (case v_MOST_NAMES => exact ⟨_, rfl⟩)
    (case g_MOST_MAKERS => k_is)
    (case v_MOST_MAKERS => exact ⟨_, rfl⟩)
    (case g_DEEPEST => k_is)
    (case v_DEEPEST => exact ⟨_, rfl⟩)
end
