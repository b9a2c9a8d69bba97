import PyProof.Rows.All
import PySem.Challenge.RW_roundcall_k71_plain_players
import Wide.All
import OpenK.AllK
import Wide.FinOn
import HandS.ForMost
import HandS.ForExc
import HandS.Wide
import HandS.EndBits
import KE.KDictKeyed
import KE.KDictCopyH
import KE.SortData
import HandS.CallSlots
import HandS.Defaults
import HandS.Zip
import HandS.IsInst
import HandS.Head2
import HandS.HeadEnd
import HandS.HeadHook2
import HandS.ExcOwn
import HandS.HeadHook1
import HandS.Deep
import KE.GoesMore
import KE.GoesZip
import HandS.WideBits
import HandS.SortInts
import HandS.Conv
import HandS.TryMany
import HandS.ExcIs
import KE.DataMinMax
import KE.DataCmp
import HandS.TupLen
import HandS.SortKw
import HandS.Iter
import HandS.More
import KE.KEqDict
import KE.KDictDisplayH
import HandS.Rev
import HandS.Walk
import KE.KDictList
import HandS.TupLe
import PyProof.DictRoadsH
import PyProof.LongRange
import PyProof.ListRange
import KE.DataFind
import KE.OsArith
import HandS.New
import HandS.Text
import KE.KIndexWalk
import PyProof.StrOps2
set_option Elab.async false
set_option linter.all false
set_option maxRecDepth 100000
set_option maxHeartbeats 4000000
/-! Dl: plain data over the hand layer -/
namespace Dl
open PySem PySem.Spec PyProof.Rows L2

inductive Tg where
  | fz | ow | vw
  deriving DecidableEq

inductive D where
  | non | bl (b : Bool) | int (i : Int) | str (s : Str)
  | tup (ds : List D) | lst (t : Tg) (ds : List D) | dic (t : Tg) (es : List (D × D))
  | obj (t : Tg) (c : Str) (ps : List Str) (ds : List D)

inductive Res (α : Type) where
  | ok (a : α) | exc (c : Str) | stuck
def Res.bind {α β : Type} (r : Res α) (f : α → Res β) : Res β := match r with
  | .ok a => f a
  | .exc c => .exc c
  | .stuck => .stuck
@[simp] theorem Res.ok_bind {α β : Type} (a : α) (f : α → Res β) : (Res.ok a).bind f = f a := rfl
@[simp] theorem Res.exc_bind {α β : Type} (c : Str) (f : α → Res β) : (Res.exc c).bind f = .exc c := rfl
@[simp] theorem Res.stuck_bind {α β : Type} (f : α → Res β) : (Res.stuck : Res α).bind f = .stuck := rfl

theorem Res.bind_assoc {α β γ : Type} (r : Res α) (f : α → Res β) (g : β → Res γ) : (r.bind f).bind g = r.bind fun a => (f a).bind g := by cases r <;> rfl

def D.tg : D → Tg
  | .lst t _ => t
  | .dic t _ => t
  | .obj t _ _ _ => t
  | _ => .fz
def D.re (t : Tg) : D → D
  | .lst _ ds => .lst t ds
  | .dic _ es => .dic t es
  | .obj _ c ps ds => .obj t c ps ds
  | d => d
@[simp] theorem D.re_re (t u : Tg) (d : D) : (d.re u).re t = d.re t := by cases d <;> rfl

/-! ### data in the abstract heap -/
/-- the key of a dict that a datum is -/
def D.key : D → Option NestedKey
  | .non => some .none
  | .bl b => some (.num (if b then 1 else 0))
  | .int i => some (.num i)
  | .str s => some (.text s)
  | .tup ds => (keys ds).map .tup
  | _ => none
where keys : List D → Option (List NestedKey)
  | [] => some []
  | d :: ds => (D.key d).bind fun k => (keys ds).map (k :: ·)

/-- a raw entry: the key's datum key, the key, the value -/
abbrev En := NestedKey × V × V
def EnRel (w : World) (x : En) (e : DictEntry) : Prop := e.hash = x.1.hash w ∧ RelV x.2.1 e.key ∧ RelV x.2.2 e.val
def DicOb (w : World) (a : Addr) (xs : List En) (o : Obj) : Prop :=
  ∃ es ep, o.ExactDict ∧ o.data = .dict es ep ∧ Paired (EnRel w) xs es.toList ∧ (xs.map (·.1)).Nodup ∧ (a == sysModules) = false ∧ xs.length ≤ sizeLine
def DicAt (w : World) (a : Addr) (xs : List En) (ob : Obj) (h : Heap) : Prop := h.get? a = some ob ∧ DicOb w a xs ob
/-- the entries xs, just as the object ob -/
def dicO (w : World) (a : Addr) (xs : List En) (ob : Obj) : HO := .ext (DicAt w a xs ob)

/-- an instance of a class of the module (by its name there), its attributes; or an exception without its own dict; or the name of a cell (a thing that several hold and that changes): its number, its place -/
def ObjH (mg : Str → Option Value) (F : Hp) (a : Addr) (c : Str) (ps : List Str) (xs : List V) : Prop :=
  (∃ C, mg c = some (.ref C) ∧
    ((∃ dx, F a = some (.ins C dx (ps.zip xs)) ∧ ps.length = xs.length) ∨
     (ps = [("!" : Str)] ∧ xs = [] ∧ F a = some (.ext fun h => ∃ o vs, h.get? a = some o ∧ o.cls = .ref C ∧ o.dict = none ∧ o.data = .fields vs)))) ∨
  (ps = [("!" : Str)] ∧ ∃ n : Int, xs = [.int n, .int (a : Nat)])

/-- a tuple that is known to have no dict of its own -/
def TRd (F : Hp) (a : Addr) (xs : List V) : Prop := ∃ o : Obj, F a = some (.frz o (.tup xs)) ∧ o.cls = .type "tuple" ∧ o.dict = none
theorem TRd.rd {F : Hp} {a : Addr} {xs : List V} (h : TRd F a xs) : Rd F a (.tup xs) := by
  obtain ⟨o, h, _⟩ := h
  exact .inr ⟨o, h⟩
def TupO (o : Obj) : Prop := o.cls = .type "tuple" ∧ o.dict = none
theorem trd_mono {F F' : Hp} (s : Same F F') {a : Addr} {xs : List V} (h : TRd F a xs) : TRd F' a xs := by
  obtain ⟨o, h, k⟩ := h
  exact ⟨o, s _ _ h, k⟩

/-- a list that may be read: tracked, known (the script), or an object that the module itself holds, of just that form -/
def LsR (K : PySem.W.Frag) (F : Hp) (a : Addr) (xs : List V) : Prop := Rd F a (.lst xs) ∨ ∃ (its : List Value) (n : Nat), K.lookup a = some { cls := .type "list", data := .seq its.toArray n } ∧ its.length ≤ sizeLine ∧ Vals xs its
theorem LsR.sq {K : PySem.W.Frag} {F : Hp} {a : Addr} {xs : List V} (h : LsR K F a xs) : SqL K F a xs := by
  rcases h with h | ⟨its, n, h1, h2, h3⟩
  · exact .inl h
  · exact .inr ⟨_, its.toArray, n, h1, rfl, rfl, rfl, by simpa using h2, by simpa using h3⟩
mutual
inductive Rep (w : World) (K : PySem.W.Frag) (mg : Str → Option Value) (F : Hp) : V → D → Prop
  | non : Rep w K mg F .non .non
  | bl (b : Bool) : Rep w K mg F (.bl b) (.bl b)
  | int (i : Int) : Rep w K mg F (.int i) (.int i)
  | str (s : Str) : Rep w K mg F (.str s) (.str s)
  | tup {a : Addr} {xs : List V} {ds : List D} : TRd F a xs → Reps w K mg F xs ds → Rep w K mg F (.ref a) (.tup ds)
  | lst {a : Addr} {xs : List V} {ds : List D} : LsR K F a xs → Reps w K mg F xs ds → Rep w K mg F (.ref a) (.lst .fz ds)
  | dic {a : Addr} {xs : List En} {ob : Obj} {es : List (D × D)} : F a = some (dicO w a xs ob) → RepE w K mg F xs es → Rep w K mg F (.ref a) (.dic .fz es)
  | obj {a : Addr} {c : Str} {ps : List Str} {xs : List V} {ds : List D} : ObjH mg F a c ps xs → Reps w K mg F xs ds → Rep w K mg F (.ref a) (.obj .fz c ps ds)
inductive Reps (w : World) (K : PySem.W.Frag) (mg : Str → Option Value) (F : Hp) : List V → List D → Prop
  | nil : Reps w K mg F [] []
  | cons {v : V} {d : D} {vs : List V} {ds : List D} : Rep w K mg F v d → Reps w K mg F vs ds → Reps w K mg F (v :: vs) (d :: ds)
inductive RepE (w : World) (K : PySem.W.Frag) (mg : Str → Option Value) (F : Hp) : List En → List (D × D) → Prop
  | nil : RepE w K mg F [] []
  | cons {k : NestedKey} {kv vv : V} {kd vd : D} {xs : List En} {es : List (D × D)} : kd.key = some k → Rep w K mg F kv kd → Rep w K mg F vv vd → RepE w K mg F xs es → RepE w K mg F ((k, kv, vv) :: xs) ((kd, vd) :: es)
end

theorem rd_mono {F F' : Hp} (s : Same F F') {a : Addr} {u : HO} (h : Rd F a u) : Rd F' a u := by
  rcases h with h | ⟨o, h⟩
  · exact .inl (s _ _ h)
  · exact .inr ⟨o, s _ _ h⟩
theorem ls_mono {K : PySem.W.Frag} {F F' : Hp} (s : Same F F') {a : Addr} {xs : List V} (h : LsR K F a xs) : LsR K F' a xs := by
  rcases h with h | h
  · exact .inl (rd_mono s h)
  · exact .inr h
theorem ObjH.mono {mg : Str → Option Value} {F F' : Hp} (s : Same F F') {a : Addr} {c : Str} {ps : List Str} {xs : List V} (h : ObjH mg F a c ps xs) : ObjH mg F' a c ps xs := by
  rcases h with ⟨C, h1, h2⟩ | h
  · refine .inl ⟨C, h1, ?_⟩
    rcases h2 with ⟨dx, e1, e3⟩ | ⟨e1, e2, e3⟩
    · exact .inl ⟨dx, s _ _ e1, e3⟩
    · exact .inr ⟨e1, e2, s _ _ e3⟩
  · exact .inr h

section
variable {w : World} {K : PySem.W.Frag} {mg : Str → Option Value} {F F' : Hp}
mutual
theorem Rep.mono (s : Same F F') : ∀ {v : V} {d : D}, Rep w K mg F v d → Rep w K mg F' v d
  | _, _, .non => .non
  | _, _, .bl b => .bl b
  | _, _, .int i => .int i
  | _, _, .str x => .str x
  | _, _, .tup h r => .tup (trd_mono s h) (Reps.mono s r)
  | _, _, .lst h r => .lst (ls_mono s h) (Reps.mono s r)
  | _, _, .dic h r => .dic (s _ _ h) (RepE.mono s r)
  | _, _, .obj h r => .obj (h.mono s) (Reps.mono s r)
theorem Reps.mono (s : Same F F') : ∀ {vs : List V} {ds : List D}, Reps w K mg F vs ds → Reps w K mg F' vs ds
  | _, _, .nil => .nil
  | _, _, .cons h r => .cons (Rep.mono s h) (Reps.mono s r)
theorem RepE.mono (s : Same F F') : ∀ {xs : List En} {es : List (D × D)}, RepE w K mg F xs es → RepE w K mg F' xs es
  | _, _, .nil => .nil
  | _, _, .cons k h h' r => .cons k (Rep.mono s h) (Rep.mono s h') (RepE.mono s r)
end
theorem Reps.length : ∀ {vs : List V} {ds : List D}, Reps w K mg F vs ds → vs.length = ds.length
  | _, _, .nil => rfl
  | _, _, .cons _ r => by rw [List.length_cons, List.length_cons, Reps.length r]
theorem Reps.append : ∀ {vs vs' : List V} {ds ds' : List D}, Reps w K mg F vs ds → Reps w K mg F vs' ds' → Reps w K mg F (vs ++ vs') (ds ++ ds')
  | _, _, _, _, .nil, r => r
  | _, _, _, _, .cons h t, r => .cons h (Reps.append t r)
theorem Reps.get : ∀ {vs : List V} {ds : List D} {i : Nat} {d : D}, Reps w K mg F vs ds → ds[i]? = some d → ∃ v, vs[i]? = some v ∧ Rep w K mg F v d
  | _, _, _, _, .nil, e => by simp at e
  | _, _, 0, _, .cons h _, e => by simp at e; subst e; exact ⟨_, rfl, h⟩
  | _, _, i + 1, d, .cons _ t, e => by
    obtain ⟨u, h1, h2⟩ := Reps.get (i := i) (d := d) t (by simpa using e)
    exact ⟨u, by simpa using h1, h2⟩
theorem Reps.getV : ∀ {vs : List V} {ds : List D} {i : Nat} {v : V}, Reps w K mg F vs ds → vs[i]? = some v → ∃ d, ds[i]? = some d ∧ Rep w K mg F v d
  | _, _, _, _, .nil, e => by simp at e
  | _, _, 0, _, .cons h _, e => by simp at e; subst e; exact ⟨_, rfl, h⟩
  | _, _, i + 1, d, .cons _ t, e => by
    obtain ⟨u, h1, h2⟩ := Reps.getV (i := i) (v := d) t (by simpa using e)
    exact ⟨u, by simpa using h1, h2⟩
theorem Reps.set {v : V} {d : D} (h : Rep w K mg F v d) : ∀ {vs : List V} {ds : List D} (i : Nat), Reps w K mg F vs ds → Reps w K mg F (vs.set i v) (ds.set i d)
  | _, _, _, .nil => .nil
  | _, _, 0, .cons _ t => .cons h t
  | _, _, i + 1, .cons q t => .cons q (Reps.set h i t)
theorem Reps.take : ∀ {vs : List V} {ds : List D} (n : Nat), Reps w K mg F vs ds → Reps w K mg F (vs.take n) (ds.take n)
  | _, _, 0, _ => .nil
  | _, _, _ + 1, .nil => .nil
  | _, _, n + 1, .cons h t => .cons h (Reps.take n t)
theorem Reps.drop : ∀ {vs : List V} {ds : List D} (n : Nat), Reps w K mg F vs ds → Reps w K mg F (vs.drop n) (ds.drop n)
  | _, _, 0, r => r
  | _, _, _ + 1, .nil => .nil
  | _, _, n + 1, .cons _ t => Reps.drop n t
theorem Reps.rev {vs : List V} {ds : List D} (h : Reps w K mg F vs ds) : Reps w K mg F vs.reverse ds.reverse := by
  induction vs generalizing ds with
  | nil => cases h; exact .nil
  | cons v vs ih =>
    cases h with
    | cons a b =>
      rw [List.reverse_cons, List.reverse_cons]
      exact (ih b).append (.cons a .nil)
theorem Reps.none {vs : List V} (h : Reps w K mg F vs []) : vs = [] := by cases h; rfl
theorem Reps.rep1 {vs : List V} {d : D} (h : Reps w K mg F vs [d]) : ∃ v, vs = [v] ∧ Rep w K mg F v d := by
  cases h with
  | cons a b => cases b; exact ⟨_, rfl, a⟩
theorem Reps.rep2 {vs : List V} {d e : D} (h : Reps w K mg F vs [d, e]) : ∃ v u, vs = [v, u] ∧ Rep w K mg F v d ∧ Rep w K mg F u e := by
  cases h with
  | cons a b =>
    obtain ⟨u, rfl, r⟩ := b.rep1
    exact ⟨_, u, rfl, a, r⟩
theorem Reps.intsV {vs : List V} {ns : List Int} (h : Reps w K mg F vs (ns.map .int)) : vs = ns.map V.int := by
  induction ns generalizing vs with
  | nil => cases h; rfl
  | cons n ns ih =>
    cases h with
    | cons a b => cases a; rw [ih b]; rfl
theorem Reps.ofInts : ∀ (ns : List Int), Reps w K mg F (ns.map V.int) (ns.map .int)
  | [] => .nil
  | n :: ns => .cons (.int n) (Reps.ofInts ns)
theorem Rep.of_int {v : V} {i : Int} (h : Rep w K mg F v (.int i)) : v = .int i := by cases h; rfl
theorem Rep.of_bl {v : V} {i : Bool} (h : Rep w K mg F v (.bl i)) : v = .bl i := by cases h; rfl
theorem Rep.of_str {v : V} {i : Str} (h : Rep w K mg F v (.str i)) : v = .str i := by cases h; rfl
theorem Rep.of_non {v : V} (h : Rep w K mg F v .non) : v = .non := by cases h; rfl
theorem Rep.of_tupN {v : V} {ds : List D} (h : Rep w K mg F v (.tup ds)) : ∃ a xs, v = .ref a ∧ TRd F a xs ∧ Reps w K mg F xs ds := by
  cases h with | tup a b => exact ⟨_, _, rfl, a, b⟩
theorem Rep.of_tup {v : V} {ds : List D} (h : Rep w K mg F v (.tup ds)) : ∃ a xs, v = .ref a ∧ Rd F a (.tup xs) ∧ Reps w K mg F xs ds := by
  cases h with | tup a b => exact ⟨_, _, rfl, a.rd, b⟩
theorem Rep.of_lst {v : V} {t : Tg} {ds : List D} (h : Rep w K mg F v (.lst t ds)) : t = .fz ∧ ∃ a xs, v = .ref a ∧ LsR K F a xs ∧ Reps w K mg F xs ds := by
  cases h with | lst a b => exact ⟨rfl, _, _, rfl, a, b⟩
theorem Rep.tg {v : V} {d : D} (h : Rep w K mg F v d) : d.tg = .fz := by cases h <;> rfl
theorem Reps.tgs : ∀ {vs : List V} {ds : List D}, Reps w K mg F vs ds → ∀ d ∈ ds, d.tg = .fz
  | _, _, .nil, _, h => by cases h
  | _, _, .cons a b, d, h => by
    rcases List.mem_cons.mp h with rfl | h
    · exact a.tg
    · exact Reps.tgs b d h

/-- what stands at the address of a list or a dict -/
def Cont (w : World) (K : PySem.W.Frag) (mg : Str → Option Value) (F : Hp) (a : Addr) (o : HO) : D → Prop
  | .lst _ ds => ∃ xs, o = .lst xs ∧ Reps w K mg F xs ds
  | .dic _ es => ∃ xs ob, o = dicO w a xs ob ∧ RepE w K mg F xs es
  | .obj _ c ps ds => ∃ C dx xs, mg c = some (.ref C) ∧ o = .ins C dx (ps.zip xs) ∧ ps.length = xs.length ∧ Reps w K mg F xs ds
  | _ => False
theorem Cont.mono (s : Same F F') {a : Addr} {o : HO} {d : D} (h : Cont w K mg F a o d) : Cont w K mg F' a o d := by
  cases d with
  | lst t ds => obtain ⟨xs, e, r⟩ := h; exact ⟨xs, e, r.mono s⟩
  | dic t es => obtain ⟨xs, ob, e, r⟩ := h; exact ⟨xs, ob, e, r.mono s⟩
  | obj t c ps ds => obtain ⟨C, dx, xs, m, e, l, r⟩ := h; exact ⟨C, dx, xs, m, e, l, r.mono s⟩
  | _ => exact h.elim
theorem Cont.re {a : Addr} {o : HO} {d : D} (t : Tg) (h : Cont w K mg F a o d) : Cont w K mg F a o (d.re t) := by cases d <;> exact h
theorem Cont.rep {a : Addr} {o : HO} {d : D} (h : Cont w K mg F a o d) (e : F a = some o) : Rep w K mg F (.ref a) (d.re .fz) := by
  cases d with
  | lst t ds => obtain ⟨xs, e2, r⟩ := h; subst e2; exact .lst (.inl (.inl e)) r
  | dic t es => obtain ⟨xs, ob, e2, r⟩ := h; subst e2; exact .dic e r
  | obj t c ps ds => obtain ⟨C, dx, xs, m, e2, l, r⟩ := h; subst e2; exact .obj (.inl ⟨C, m, .inl ⟨dx, e, l⟩⟩) r
  | _ => exact h.elim
end

/-- growth: what was is, what is newly frozen is new -/
structure Gr (F H F' H' : Hp) : Prop where
  ff : Same F F'
  hh : Same H H'
  nw : ∀ a, F' a ≠ none → F a ≠ none ∨ H a = none
theorem Gr.refl (F H : Hp) : Gr F H F H := ⟨Same.refl F, Same.refl H, fun _ h => .inl h⟩
theorem same_none {H H' : Hp} (s : Same H H') {a : Addr} (h : H' a = none) : H a = none := s.free h
theorem Gr.trans {F H F1 H1 F2 H2 : Hp} (g : Gr F H F1 H1) (g' : Gr F1 H1 F2 H2) : Gr F H F2 H2 :=
  ⟨g.ff.trans g'.ff, g.hh.trans g'.hh, fun a h => by
    rcases g'.nw a h with h | h
    · exact g.nw a h
    · exact .inr (same_none g.hh h)⟩

/-- an expression's value: H the heap ahead, H' behind -/
def RX (w : World) (K : PySem.W.Frag) (mg : Str → Option Value) (F H H' : Hp) (v : V) (d : D) : Prop := match d.tg with
  | .fz => Rep w K mg F v d
  | .ow => ∃ a o, v = .ref a ∧ H a = none ∧ F a = none ∧ H' a = some o ∧ Cont w K mg F a o d
  | .vw => ∃ a o, v = .ref a ∧ F a = none ∧ H' a = some o ∧ Cont w K mg F a o d
/-- a variable's value -/
def VR (w : World) (K : PySem.W.Frag) (mg : Str → Option Value) (H0 F H : Hp) (v : V) (d : D) : Prop := match d.tg with
  | .fz => Rep w K mg F v d
  | .ow => ∃ a o, v = .ref a ∧ H0 a = none ∧ F a = none ∧ H a = some o ∧ Cont w K mg F a o d
  | .vw => False

abbrev DEnv := List (Option D)
structure Rw (w : World) (K : PySem.W.Frag) (mg : Str → Option Value) (H0 F0 : Hp) (ρ : DEnv) (σ : L2.St) (F H : Hp) : Prop where
  fh : Same F H
  gr : Gr F0 H0 F H
  len : ρ.length = σ.length
  var : ∀ (i : Nat) d, ρ[i]? = some (some d) → ∃ v, σ[i]? = some (some v) ∧ VR w K mg H0 F H v d
  dis : ∀ (i j : Nat) a di dj, ρ[i]? = some (some di) → ρ[j]? = some (some dj) → di.tg = .ow → dj.tg = .ow → σ[i]? = some (some (.ref a)) → σ[j]? = some (some (.ref a)) → i = j
abbrev R (X : Cx) := Rw X.w X.K X.mg

section
variable {X : Cx} {H0 F0 : Hp} {ρ : DEnv} {σ : L2.St} {F H F' H' : Hp}
theorem Rw.own (r : R X H0 F0 ρ σ F H) {i : Nat} {d : D} (e : ρ[i]? = some (some d)) (t : d.tg = .ow) : ∃ a o, σ[i]? = some (some (.ref a)) ∧ H0 a = none ∧ F a = none ∧ H a = some o ∧ Cont X.w X.K X.mg F a o d := by
  obtain ⟨v, e1, h⟩ := r.var i d e
  unfold VR at h
  rw [t] at h
  obtain ⟨a, o, rfl, h1, h2, h3, h4⟩ := h
  exact ⟨a, o, e1, h1, h2, h3, h4⟩
theorem Rw.frz (r : R X H0 F0 ρ σ F H) {i : Nat} {d : D} (e : ρ[i]? = some (some d)) (t : d.tg = .fz) : ∃ v, σ[i]? = some (some v) ∧ Rep X.w X.K X.mg F v d := by
  obtain ⟨v, e1, h⟩ := r.var i d e
  unfold VR at h
  rw [t] at h
  exact ⟨v, e1, h⟩
/-- the heaps have grown -/
theorem Rw.grow (r : R X H0 F0 ρ σ F H) (g : Gr F H F' H') (fh : Same F' H') : R X H0 F0 ρ σ F' H' := by
  refine ⟨fh, r.gr.trans g, r.len, fun i d e => ?_, r.dis⟩
  obtain ⟨v, e1, h⟩ := r.var i d e
  refine ⟨v, e1, ?_⟩
  unfold VR at h ⊢
  cases t : d.tg with
  | fz => rw [t] at h; exact h.mono g.ff
  | vw => rw [t] at h; exact h.elim
  | ow =>
    rw [t] at h
    obtain ⟨a, o, rfl, h1, h2, h3, h4⟩ := h
    refine ⟨a, o, rfl, h1, ?_, g.hh _ _ h3, h4.mono g.ff⟩
    cases q : F' a with
    | none => rfl
    | some u =>
      rcases g.nw a (by rw [q]; simp) with z | z
      · exact absurd h2 z
      · rw [z] at h3; cases h3
theorem Gr.alloc {F H : Hp} {p : Addr} {o : HO} (h : H p = none) : Gr F H F (upd H p o) := ⟨Same.refl F, fun b x e => by rw [upd_ne (ne_of_none e h)]; exact e, fun _ h => .inl h⟩
theorem Gr.allocF {F H : Hp} {p : Addr} {o : HO} (s : Same F H) (h : H p = none) : Gr F H (upd F p o) (upd H p o) := by
  have hf : F p = none := same_none s h
  refine ⟨fun b x e => by rw [upd_ne (ne_of_none e hf)]; exact e, fun b x e => by rw [upd_ne (ne_of_none e h)]; exact e, fun a q => ?_⟩
  by_cases e : a = p
  · subst e; exact .inr h
  · rw [upd_ne e] at q; exact .inl q
theorem same_updF {F H : Hp} {p : Addr} {o : HO} (s : Same F H) (h : H p = none) : Same F (upd H p o) := fun b x e => by
  rw [upd_ne (ne_of_none (s _ _ e) h)]; exact s _ _ e
theorem same_updB {F H : Hp} {p : Addr} {o : HO} (s : Same F H) : Same (upd F p o) (upd H p o) := fun b x e => by
  by_cases q : b = p
  · subst q; rw [upd_same] at e ⊢; exact e
  · rw [upd_ne q] at e ⊢; exact s _ _ e
theorem Rw.alloc {p : Addr} {o : HO} (r : R X H0 F0 ρ σ F H) (h : H p = none) : R X H0 F0 ρ σ F (upd H p o) := r.grow (Gr.alloc h) (same_updF r.fh h)
theorem Rw.allocF {p : Addr} {o : HO} (r : R X H0 F0 ρ σ F H) (h : H p = none) : R X H0 F0 ρ σ (upd F p o) (upd H p o) := r.grow (Gr.allocF r.fh h) (same_updB r.fh)
/-- something that stands, and was not there at the beginning, is frozen -/
theorem Gr.freeze {p : Addr} {o : HO} {H1 : Hp} (g : Gr F H F' H1) (h : H p = none) (hf : F' p = none) : Gr F H (upd F' p o) H1 := by
  refine ⟨fun b x e => ?_, g.hh, fun a q => ?_⟩
  · rw [upd_ne (ne_of_none (g.ff _ _ e) hf)]; exact g.ff _ _ e
  · by_cases e : a = p
    · subst e; exact .inr h
    · rw [upd_ne e] at q; exact g.nw a q
theorem same_freeze {p : Addr} {o : HO} (s : Same F H) (h : H p = some o) : Same (upd F p o) H := fun b x e => by
  by_cases q : b = p
  · subst q; rw [upd_same] at e; rw [h]; exact e
  · rw [upd_ne q] at e; exact s _ _ e
theorem same_upd_none {F : Hp} {p : Addr} {o : HO} (h : F p = none) : Same F (upd F p o) := fun b x e => by rw [upd_ne (ne_of_none e h)]; exact e

theorem RX.mono {w : World} {K : PySem.W.Frag} {mg : Str → Option Value} {F H H1 F2 H2 : Hp} {v : V} {d : D} (x : RX w K mg F H H1 v d) (g : Gr F H1 F2 H2) : RX w K mg F2 H H2 v d := by
  unfold RX at x ⊢
  cases t : d.tg with
  | fz => rw [t] at x; exact Rep.mono g.ff x
  | ow =>
    rw [t] at x
    obtain ⟨a, o, rfl, h1, h2, h3, h4⟩ := x
    refine ⟨a, o, rfl, h1, ?_, g.hh _ _ h3, h4.mono g.ff⟩
    cases q : F2 a with
    | none => rfl
    | some u =>
      rcases g.nw a (by rw [q]; simp) with z | z
      · exact absurd h2 z
      · rw [z] at h3; cases h3
  | vw =>
    rw [t] at x
    obtain ⟨a, o, rfl, h2, h3, h4⟩ := x
    refine ⟨a, o, rfl, ?_, g.hh _ _ h3, h4.mono g.ff⟩
    cases q : F2 a with
    | none => rfl
    | some u =>
      rcases g.nw a (by rw [q]; simp) with z | z
      · exact absurd h2 z
      · rw [z] at h3; cases h3
theorem RX.start {w : World} {K : PySem.W.Frag} {mg : Str → Option Value} {F H H1 H2 : Hp} {v : V} {d : D} (x : RX w K mg F H1 H2 v d) (s : Same H H1) : RX w K mg F H H2 v d := by
  unfold RX at x ⊢
  cases t : d.tg with
  | fz => rw [t] at x; exact x
  | ow =>
    rw [t] at x
    obtain ⟨a, o, rfl, h1, h2, h3, h4⟩ := x
    exact ⟨a, o, rfl, same_none s h1, h2, h3, h4⟩
  | vw => rw [t] at x; exact x
theorem RX.fz {w : World} {K : PySem.W.Frag} {mg : Str → Option Value} {F H H1 : Hp} {v : V} {d : D} (x : Rep w K mg F v d) : RX w K mg F H H1 v d := by
  unfold RX
  rw [x.tg]
  exact x
theorem RX.rep {w : World} {K : PySem.W.Frag} {mg : Str → Option Value} {F H H1 : Hp} {v : V} {d : D} (x : RX w K mg F H H1 v d) (t : d.tg = .fz) : Rep w K mg F v d := by
  unfold RX at x
  rw [t] at x
  exact x
/-- read a list, whatever its tag -/
theorem RX.lst {w : World} {K : PySem.W.Frag} {mg : Str → Option Value} {F H H1 : Hp} {v : V} {t : Tg} {ds : List D} (x : RX w K mg F H H1 v (.lst t ds)) (s : Same F H1) : ∃ a xs, v = .ref a ∧ LsR K H1 a xs ∧ Reps w K mg F xs ds := by
  unfold RX at x
  cases t with
  | fz =>
    obtain ⟨_, a, xs, rfl, h1, h2⟩ := (show Rep w K mg F v (.lst .fz ds) from x).of_lst
    exact ⟨a, xs, rfl, ls_mono s h1, h2⟩
  | ow =>
    obtain ⟨a, o, rfl, _, _, h3, xs, rfl, h5⟩ := x
    exact ⟨a, xs, rfl, .inl (.inl h3), h5⟩
  | vw =>
    obtain ⟨a, o, rfl, _, h3, xs, rfl, h5⟩ := x
    exact ⟨a, xs, rfl, .inl (.inl h3), h5⟩
theorem RX.tup {w : World} {K : PySem.W.Frag} {mg : Str → Option Value} {F H H1 : Hp} {v : V} {ds : List D} (x : RX w K mg F H H1 v (.tup ds)) (s : Same F H1) : ∃ a xs, v = .ref a ∧ Rd H1 a (.tup xs) ∧ Reps w K mg F xs ds := by
  obtain ⟨a, xs, e, h1, h2⟩ := (x.rep rfl).of_tup
  exact ⟨a, xs, e, rd_mono s h1, h2⟩
theorem RX.int {w : World} {K : PySem.W.Frag} {mg : Str → Option Value} {F H H1 : Hp} {v : V} {i : Int} (x : RX w K mg F H H1 v (.int i)) : v = .int i := (x.rep rfl).of_int
theorem RX.bl {w : World} {K : PySem.W.Frag} {mg : Str → Option Value} {F H H1 : Hp} {v : V} {i : Bool} (x : RX w K mg F H H1 v (.bl i)) : v = .bl i := (x.rep rfl).of_bl
theorem RX.str {w : World} {K : PySem.W.Frag} {mg : Str → Option Value} {F H H1 : Hp} {v : V} {i : Str} (x : RX w K mg F H H1 v (.str i)) : v = .str i := (x.rep rfl).of_str
theorem RX.non {w : World} {K : PySem.W.Frag} {mg : Str → Option Value} {F H H1 : Hp} {v : V} (x : RX w K mg F H H1 v .non) : v = .non := (x.rep rfl).of_non
/-- a new list -/
theorem RX.newL {w : World} {K : PySem.W.Frag} {mg : Str → Option Value} {F H H1 : Hp} {p : Addr} {xs : List V} {ds : List D} (s : Same H H1) (sf : Same F H1) (n : H1 p = none) (r : Reps w K mg F xs ds) : RX w K mg F H (upd H1 p (.lst xs)) (.ref p) (.lst .ow ds) := by
  show ∃ a o, V.ref p = .ref a ∧ _
  exact ⟨p, .lst xs, rfl, same_none s n, same_none sf n, upd_same, xs, rfl, r⟩
/-- a new tuple -/
theorem RX.newT {w : World} {K : PySem.W.Frag} {mg : Str → Option Value} {F H H2 : Hp} {p : Addr} {o : Obj} {xs : List V} {ds : List D} (to : TupO o) (n : F p = none) (r : Reps w K mg F xs ds) : RX w K mg (upd F p (.frz o (.tup xs))) H H2 (.ref p) (.tup ds) :=
  RX.fz (.tup ⟨o, upd_same, to⟩ (r.mono (same_upd_none n)))
/-- a temporary is frozen: its datum may be kept elsewhere -/
theorem RX.freeze {F1 H1 : Hp} {v : V} {d : D} (r : R X H0 F0 ρ σ F H) (r1 : R X H0 F0 ρ σ F1 H1) (g : Gr F H F1 H1) (x : RX X.w X.K X.mg F1 H H1 v d) (t : d.tg ≠ .vw) :
    ∃ F2, R X H0 F0 ρ σ F2 H1 ∧ Gr F H F2 H1 ∧ Same F1 F2 ∧ Rep X.w X.K X.mg F2 v (d.re .fz) := by
  unfold RX at x
  cases e : d.tg with
  | fz =>
    rw [e] at x
    refine ⟨F1, r1, g, Same.refl _, ?_⟩
    have : d.re .fz = d := by
      cases d with
      | lst t ds => cases e; rfl
      | dic t ds => cases e; rfl
      | obj t c ps ds => cases e; rfl
      | _ => rfl
    rw [this]; exact x
  | vw => exact absurd e t
  | ow =>
    rw [e] at x
    obtain ⟨a, o, rfl, h1, h2, h3, h4⟩ := x
    have g2 : Gr F H (upd F1 a o) H1 := g.freeze h1 h2
    exact ⟨upd F1 a o, r.grow g2 (same_freeze r1.fh h3), g2, same_upd_none h2, (h4.mono (same_upd_none h2)).rep upd_same⟩
end
end Dl
/-! Tuples made, known to have no dict. -/
namespace Dl
open PySem PySem.Spec PyProof.Rows L2
section
variable {X : Cx}
def tupO (its : Array Value) : Obj := { cls := .type "tuple", data := .seq its }
theorem tupO_ok (its : Array Value) : TupO (tupO its) := ⟨rfl, rfl⟩
theorem new_tup {P : Program} {w : World} {H : Hp} {h : Heap} {a : Addr} {xs : List V} {its : List Value} (z : xs.length ≤ sizeLine) (r : Vals xs its) (e : h.get? a = some (tupO its.toArray)) : ObjOk P w H h a (.frz (tupO its.toArray) (.tup xs)) :=
  ⟨e, z, its, r, ⟨_, e, rfl, _, rfl⟩⟩
def tTupN (t : TA) : TE := fun σ H Q => t σ H fun xs H1 => xs.length ≤ sizeLine ∧ ∀ p o, H1 p = none → TupO o → Q (.ref p) (upd H1 p (.frz o (.tup xs)))
theorem pe_tupN {es : List Expr} {pos : Pos} {t : TA} {x1} (h : PA X es t) : PE X (.Tuple es x1 pos) (tTupN t) := by
  refine ⟨fun pins s σ H Q I hq => ?_⟩
  refine wpAny_Tuple_spliced (thn (h.run pos pins s σ H _ I hq) fun us s1 ⟨xs, H1, I1, r, z, q⟩ => ⟨by rw [← r.length]; exact z, ?_⟩)
  have hf : H1 s1.heap.objs.size = none := I1.hok.fresh (Nat.le_refl _)
  refine ⟨.ref s1.heap.objs.size, upd H1 s1.heap.objs.size (.frz (tupO us.toArray) (.tup xs)), I1.laid (t' := s1.toks) (fun b u e => Heap.get?_push_of_some _ e) (Nat.le_refl _) ?_, rfl, q _ _ hf (tupO_ok _)⟩
  exact new_tup z r (Heap.get?_push_size _ rfl)
def rSlTN (K : PySem.W.Frag) : V → Option Int → Option Int → Hp → VK → Prop := fun x lo hi H Q => ∃ a xs, x = .ref a ∧ SqT K H a xs ∧
  ¬ (HT.sIx xs.length 0 lo = 0 ∧ HT.sIx xs.length xs.length hi = xs.length) ∧ ∀ p o, H p = none → TupO o → Q (.ref p) (upd H p (.frz o (.tup (cutV xs lo hi))))
theorem sl_tupN : SlR X (rSlTN X.K) := by
  intro pins s σ H x v vl vu lo hi sl Q I rx hs pl pu h
  obtain ⟨a, xs, rfl, hx, hw, q⟩ := h
  cases rx
  obtain ⟨its, r, ht, hz⟩ := I.tuple hx
  have hlen : its.toArray.size = xs.length := by rw [List.size_toArray]; exact r.length.symm
  refine ⟨"tuple", _, PyProof.Rows.slot_tuple_getitem.lookup, ht.typeIs, ?_⟩
  refine HT.getItem_tuple_cut ht hs pl pu (by rw [hlen]; exact hw) ?_ (by rw [hlen]; exact hz)
  rw [hlen]
  refine ⟨.ref s.heap.objs.size, _, I.laid (t' := s.toks) (o := .frz (tupO ((its.drop (HT.sIx xs.length 0 lo)).take (HT.sIx xs.length xs.length hi - HT.sIx xs.length 0 lo)).toArray) (.tup (cutV xs lo hi))) (fun b ob q => Heap.get?_push_of_some _ q) (Nat.le_refl _) ?_, rfl, q _ _ (I.hok.fresh (Nat.le_refl _)) (tupO_ok _)⟩
  exact new_tup (Nat.le_trans (cutV_length xs lo hi) hz) ((r.drop (HT.sIx xs.length 0 lo)).take (HT.sIx xs.length xs.length hi - HT.sIx xs.length 0 lo)) (Heap.get?_push_size _ rfl)
theorem call_tuple_ofN : CallR X (.type "tuple") (fun xs H Q => ∃ p ys, xs = [.ref p] ∧ ((SqL X.K H p ys ∧ ∀ l o, H l = none → TupO o → Q (.ref l) (upd H l (.frz o (.tup ys)))) ∨ (SqT X.K H p ys ∧ Q (.ref p) H))) := by
  intro pins s σ H xs us Q I r h
  obtain ⟨p, ys, rfl, h⟩ := h
  obtain ⟨u, rfl, rx⟩ := vals1 r
  cases rx
  rcases h with ⟨hq, q⟩ | ⟨hq, q⟩
  · obtain ⟨its, r', pl, hz⟩ := I.list hq
    have hlen := r'.length
    refine call_tuple_list pl.isList (fun h' kp => ?_) (by simp only [List.size_toArray] <;> omega)
    have I1 : Inv X pins σ H { s with heap := h' } := I.kept (t' := s.toks) kp
    have I2 : Inv X pins σ (upd H h'.objs.size (.frz (tupO its.toArray) (.tup ys))) { s with heap := h'.push { cls := .type "tuple", data := .seq its.toArray } } :=
      I1.laid (t' := s.toks) (fun b o e => Heap.get?_push_of_some _ e) (Nat.le_refl _) (new_tup hz r' (Heap.get?_push_size _ rfl))
    exact ⟨.ref h'.objs.size, _, I2, rfl, q _ _ (I1.hok.fresh (Nat.le_refl _)) (tupO_ok _)⟩
  · obtain ⟨its, r', pl, hz⟩ := I.tuple hq
    exact call_tuple_same pl ⟨.ref p, H, I, rfl, q⟩
end
end Dl
namespace Dl
open PySem PySem.Spec PyProof.Rows L2

abbrev DE := DEnv → Res D
abbrev DT := DEnv → Res Bool
abbrev DA := DEnv → Res (List D)

/-- what is wanted behind an expression, by what the data say -/
def Post {α β : Type} (X : Cx) (W : WX) (rel : Hp → Hp → Hp → β → α → Prop) (H0 F0 : Hp) (ρ : DEnv) (σ : L2.St) (F H : Hp) (r : Res α) (Q : β → Hp → Prop) : Prop := match r with
  | .ok d => ∀ F' H' v, R X H0 F0 ρ σ F' H' → Gr F H F' H' → rel F' H H' v d → Q v H'
  | .exc c => ∀ F' H' C, R X H0 F0 ρ σ F' H' → Gr F H F' H' → X.mg c = some (.ref C) → W (.ref C) none σ H'
  | .stuck => False
def tD {α β : Type} (X : Cx) (W : WX) (rel : Hp → Hp → Hp → β → α → Prop) (f : DEnv → Res α) : L2.St → Hp → (β → Hp → Prop) → Prop := fun σ H Q =>
  ∃ H0 F0 ρ F, R X H0 F0 ρ σ F H ∧ Post X W rel H0 F0 ρ σ F H (f ρ) Q
structure RelSt {α β : Type} (rel : Hp → Hp → Hp → β → α → Prop) : Prop where
  st : ∀ (F H H1 H2 : Hp) (v : β) (d : α), rel F H1 H2 v d → Same H H1 → rel F H H2 v d
abbrev RXX (X : Cx) : Hp → Hp → Hp → V → D → Prop := RX X.w X.K X.mg
abbrev REq {α : Type} : Hp → Hp → Hp → α → α → Prop := fun _ _ _ v d => v = d
inductive RXs (X : Cx) (F H H' : Hp) : List V → List D → Prop
  | nil : RXs X F H H' [] []
  | cons {v : V} {d : D} {vs : List V} {ds : List D} : RX X.w X.K X.mg F H H' v d → RXs X F H H' vs ds → RXs X F H H' (v :: vs) (d :: ds)
theorem relX {X : Cx} : RelSt (RXX X) := ⟨fun _ _ _ _ _ _ h s => h.start s⟩
theorem relEq {α : Type} : RelSt (REq (α := α)) := ⟨fun _ _ _ _ _ _ h _ => h⟩
theorem relXs {X : Cx} : RelSt (RXs X) := ⟨fun F H H1 H2 v d h s => by
  induction h with
  | nil => exact .nil
  | cons a _ ih => exact .cons (a.start s) ih⟩
theorem RXs.mono {X : Cx} {F H H1 F2 H2 : Hp} {vs : List V} {ds : List D} (x : RXs X F H H1 vs ds) (g : Gr F H1 F2 H2) : RXs X F2 H H2 vs ds := by
  induction x with
  | nil => exact .nil
  | cons a _ ih => exact .cons (a.mono g) ih
theorem RXs.length {X : Cx} {F H H1 : Hp} {vs : List V} {ds : List D} (x : RXs X F H H1 vs ds) : vs.length = ds.length := by
  induction x with
  | nil => rfl
  | cons a _ ih => rw [List.length_cons, List.length_cons, ih]

/-- an expression, a test, an argument list -/
def PD (X : Cx) (W : WX) (e : Expr) (f : DE) : Prop := PE X e (tD X W (RXX X) f)
def PTD (X : Cx) (W : WX) (e : Expr) (f : DT) : Prop := PT X e (tD X W REq f)
def PWD (X : Cx) (W : WX) (e : Expr) (f : DT) : Prop := PW X e (tD X W REq f)
def PAD (X : Cx) (W : WX) (es : List Expr) (f : DA) : Prop := PA X es (tD X W (RXs X) f)

section
variable {X : Cx} {W : WX} {H0 F0 : Hp} {ρ : DEnv} {σ : L2.St} {F H F' H' : Hp}
theorem _root_.L2.PE.imp {e : Expr} {t t' : TE} (h : PE X e t) (i : ∀ σ H Q, t' σ H Q → t σ H Q) : PE X e t' := ⟨fun pins s σ H Q I q => h.run pins s σ H Q I (i _ _ _ q)⟩
theorem _root_.L2.PT.imp {e : Expr} {t t' : TT} (h : PT X e t) (i : ∀ σ H Q, t' σ H Q → t σ H Q) : PT X e t' := ⟨fun pins s σ H Q I q => h.run pins s σ H Q I (i _ _ _ q)⟩
theorem _root_.L2.PW.imp {e : Expr} {t t' : TT} (h : PW X e t) (i : ∀ σ H Q, t' σ H Q → t σ H Q) : PW X e t' := ⟨fun wh pins s σ H Q I q => h.run wh pins s σ H Q I (i _ _ _ q)⟩
theorem _root_.L2.PA.imp {e : List Expr} {t t' : TA} (h : PA X e t) (i : ∀ σ H Q, t' σ H Q → t σ H Q) : PA X e t' := ⟨fun pos pins s σ H Q I q => h.run pos pins s σ H Q I (i _ _ _ q)⟩
theorem _root_.L2.PS.imp {e : Stmt} {t t' : TS} (h : PS X e t) (i : ∀ D σ H, t' D σ H → t D σ H) : PS X e t' := ⟨fun pins s σ H D I q => h.run pins s σ H D I (i _ _ _ q)⟩
theorem _root_.L2.PSs.imp {e : List Stmt} {t t' : TS} (h : PSs X e t) (i : ∀ D σ H, t' D σ H → t D σ H) : PSs X e t' := ⟨fun pins s σ H D I q => h.run pins s σ H D I (i _ _ _ q)⟩
theorem _root_.L2.PG.imp {e : Expr} {t t' : TG} (h : PG X e t) (i : ∀ v σ H Q, t' v σ H Q → t v σ H Q) : PG X e t' := ⟨fun pins s σ H v u Q I r q => h.run pins s σ H v u Q I r (i _ _ _ _ q)⟩

/-- the origin is (F, H), the state (F1, H1): first r, then what it leads to -/
theorem Post.bind {α β γ δ : Type} {rel : Hp → Hp → Hp → β → α → Prop} {rel' : Hp → Hp → Hp → δ → γ → Prop} {r : Res α} {k : α → Res γ} {Q : δ → Hp → Prop} {Q' : β → Hp → Prop} {F1 H1 : Hp} (g : Gr F H F1 H1)
    (h : Post X W rel' H0 F0 ρ σ F H (r.bind k) Q)
    (c : ∀ F2 H2 v a, r = .ok a → R X H0 F0 ρ σ F2 H2 → Gr F1 H1 F2 H2 → rel F2 H1 H2 v a → Post X W rel' H0 F0 ρ σ F H (k a) Q → Q' v H2) : Post X W rel H0 F0 ρ σ F1 H1 r Q' := by
  cases r with
  | ok a => exact fun F2 H2 v r2 g2 x => c F2 H2 v a rfl r2 g2 x h
  | exc e => exact fun F2 H2 C r2 g2 m => h F2 H2 C r2 (g.trans g2) m
  | stuck => exact h
/-- the same origin, another state -/
theorem Post.later {α β : Type} {rel : Hp → Hp → Hp → β → α → Prop} (hs : RelSt rel) {r : Res α} {Q : β → Hp → Prop} (g : Gr F H F' H') (h : Post X W rel H0 F0 ρ σ F H r Q) : Post X W rel H0 F0 ρ σ F' H' r Q := by
  cases r with
  | ok d => exact fun F2 H2 v r2 g2 x => h F2 H2 v r2 (g.trans g2) (hs.st _ _ _ _ _ _ x g.hh)
  | exc c => exact fun F2 H2 C r2 g2 m => h F2 H2 C r2 (g.trans g2) m
  | stuck => exact h
/-- take what is wanted -/
theorem Post.here {α β : Type} {rel : Hp → Hp → Hp → β → α → Prop} {d : α} {v : β} {Q : β → Hp → Prop} (h : Post X W rel H0 F0 ρ σ F H (.ok d) Q) (r : R X H0 F0 ρ σ F' H') (g : Gr F H F' H') (x : rel F' H H' v d) : Q v H' := h F' H' v r g x
theorem Post.at {α β : Type} {rel : Hp → Hp → Hp → β → α → Prop} {d : α} {v : β} {Q : β → Hp → Prop} {F2 H2 : Hp} (h : Post X W rel H0 F0 ρ σ F H (.ok d) Q) (r : R X H0 F0 ρ σ F' H') (g : Gr F H F' H') (g2 : Gr F' H' F2 H2) (s : Same F2 H2) (x : rel F2 H H2 v d) : Q v H2 := h F2 H2 v (r.grow g2 s) (g.trans g2) x
theorem Post.guard {α β : Type} {rel : Hp → Hp → Hp → β → α → Prop} {c : Prop} [Decidable c] {r : Res α} {Q : β → Hp → Prop} (h : Post X W rel H0 F0 ρ σ F H (if c then r else .stuck) Q) : c ∧ Post X W rel H0 F0 ρ σ F H r Q := by
  by_cases e : c
  · rw [if_pos e] at h; exact ⟨e, h⟩
  · rw [if_neg e] at h; exact h.elim
/-! ### constants and names -/
def fC (d : D) : DE := fun _ => .ok d
def vwOf (d : D) : D := match d.tg with
  | .ow => d.re .vw
  | _ => d
def fV (i : Nat) : DE := fun ρ => match ρ[i]? with
  | some (some d) => .ok (vwOf d)
  | _ => .stuck
theorem pd_int {i j pos} : PD X W (.Constant (.int i) j pos) (fC (.int i)) := pe_int.imp fun σ H Q ⟨_, _, _, _, r, p⟩ => p.here r (Gr.refl _ _) (RX.fz (.int i))
theorem pd_bl {b j pos} : PD X W (.Constant (.bool b) j pos) (fC (.bl b)) := pe_bl.imp fun σ H Q ⟨_, _, _, _, r, p⟩ => p.here r (Gr.refl _ _) (RX.fz (.bl b))
theorem pd_non {j pos} : PD X W (.Constant .none j pos) (fC .non) := pe_non.imp fun σ H Q ⟨_, _, _, _, r, p⟩ => p.here r (Gr.refl _ _) (RX.fz .non)
theorem pd_str {x j pos} : PD X W (.Constant (.str x) j pos) (fC (.str x)) := pe_str.imp fun σ H Q ⟨_, _, _, _, r, p⟩ => p.here r (Gr.refl _ _) (RX.fz (.str x))
theorem Rw.view (r : R X H0 F0 ρ σ F H) {i : Nat} {d : D} (e : ρ[i]? = some (some d)) : ∃ v, σ[i]? = some (some v) ∧ RX X.w X.K X.mg F H H v (vwOf d) := by
  obtain ⟨v, e1, h⟩ := r.var i d e
  refine ⟨v, e1, ?_⟩
  unfold VR at h
  unfold vwOf
  cases t : d.tg with
  | fz => rw [t] at h; exact RX.fz h
  | vw => rw [t] at h; exact h.elim
  | ow =>
    rw [t] at h
    obtain ⟨a, o, rfl, h1, h2, h3, h4⟩ := h
    have q : (d.re .vw).tg = .vw := by cases d <;> first | rfl | cases t
    unfold RX
    simp only [q]
    exact ⟨a, o, rfl, h2, h3, h4.re .vw⟩
theorem pd_v (i : Nat) {x : Str} {pos : Pos} (hN : X.N[i]? = some x := by rfl) (hv : Vis X.env.scope x := by first | exact Or.inl rfl | exact Or.inr (Or.inl rfl) | exact Or.inr (Or.inr rfl)) (hd : (x == ("__debug__" : Str)) = false := by decide)
    (hcd : (x == ("__classdict__" : Str)) = false := by decide) : PD X W (.Name x pos) (fV i) := (pv i hN hv hd hcd).imp fun σ H Q ⟨H0, F0, ρ, F, r, p⟩ => by
  unfold fV at p
  cases e : ρ[i]? with
  | none => rw [e] at p; exact p.elim
  | some o =>
    cases o with
    | none => rw [e] at p; exact p.elim
    | some d =>
      rw [e] at p
      obtain ⟨v, e1, x⟩ := r.view e
      exact ⟨v, e1, p.here r (Gr.refl _ _) x⟩

/-! ### operators -/
def fB (op : D → D → Res D) (fa fb : DE) : DE := fun ρ => (fa ρ).bind fun a => (fb ρ).bind fun b => op a b
def fU (op : D → Res D) (fa : DE) : DE := fun ρ => (fa ρ).bind op
/-- a rule of two values and its sense over data -/
def OpOk (X : Cx) (W : WX) (op : D → D → Res D) (r : R2) : Prop := ∀ ⦃H0 F0 : Hp⦄ ⦃ρ : DEnv⦄ ⦃σ : L2.St⦄ ⦃F H F2 H2 : Hp⦄ ⦃v u : V⦄ ⦃a b : D⦄ ⦃Q : VK⦄,
  R X H0 F0 ρ σ F H → R X H0 F0 ρ σ F2 H2 → Gr F H F2 H2 → RX X.w X.K X.mg F2 H H2 v a → RX X.w X.K X.mg F2 H H2 u b → Post X W (RXX X) H0 F0 ρ σ F H (op a b) Q → r v u H2 Q
def UnOk (X : Cx) (W : WX) (op : D → Res D) (r : V → Hp → VK → Prop) : Prop := ∀ ⦃H0 F0 : Hp⦄ ⦃ρ : DEnv⦄ ⦃σ : L2.St⦄ ⦃F H F2 H2 : Hp⦄ ⦃v : V⦄ ⦃a : D⦄ ⦃Q : VK⦄,
  R X H0 F0 ρ σ F H → R X H0 F0 ρ σ F2 H2 → Gr F H F2 H2 → RX X.w X.K X.mg F2 H H2 v a → Post X W (RXX X) H0 F0 ρ σ F H (op a) Q → r v H2 Q
theorem bin_imp {r : R2} {op : D → D → Res D} {fa fb : DE} (ho : OpOk X W op r) {Q : VK} (h : tD X W (RXX X) (fB op fa fb) σ H Q) : tOp r (tD X W (RXX X) fa) (tD X W (RXX X) fb) σ H Q := by
  obtain ⟨H0, F0, ρ, F, r0, p⟩ := h
  refine ⟨H0, F0, ρ, F, r0, p.bind (Gr.refl _ _) fun F1 H1 v a _ r1 g1 x1 p1 => ?_⟩
  refine ⟨H0, F0, ρ, F1, r1, p1.bind g1 fun F2 H2 u b _ r2 g2 x2 p2 => ?_⟩
  exact ho r0 r2 (g1.trans g2) (x1.mono g2) (x2.start g1.hh) p2
theorem un_imp {r : V → Hp → VK → Prop} {op : D → Res D} {fa : DE} (ho : UnOk X W op r) {Q : VK} (h : tD X W (RXX X) (fU op fa) σ H Q) : tUn r (tD X W (RXX X) fa) σ H Q := by
  obtain ⟨H0, F0, ρ, F, r0, p⟩ := h
  exact ⟨H0, F0, ρ, F, r0, p.bind (Gr.refl _ _) fun F1 H1 v a _ r1 g1 x1 p1 => ho r0 r1 g1 x1 p1⟩
theorem OpR.orF {f : Value → Value → Sem Value} {r r' : R2} (h : OpR X f r) (h' : OpR X f r') : OpR X f (fun x y H Q => r x y H Q ∨ r' x y H Q) := h.or h'

/-- a product's size: together below a hundred million bits -/
def mulOk (i j : Int) : Bool := decide (i.natAbs.log2 + j.natAbs.log2 < 100000000)
theorem mulOk_ok {i j : Int} (h : mulOk i j = true) : IntMulOk i j := by
  have b : ∀ x : Int, Builtin.Int.intBits x ≤ x.natAbs.log2 + 1 := fun x => by
    unfold Builtin.Int.intBits
    split <;> omega
  have h1 := b i
  have h2 := b j
  have h3 : i.natAbs.log2 + j.natAbs.log2 < 100000000 := of_decide_eq_true h
  have e : bitsLine = 134217728 := by decide
  unfold IntMulOk
  intro z
  rw [Bool.and_eq_true] at z
  have z2 := z.2
  unfold Builtin.Int.intTooBig at z2
  have z3 := of_decide_eq_true z2
  rw [e] at z3
  omega
end
end Dl
namespace Dl
open PySem PySem.Spec PyProof.Rows L2

/-! ### lists and tuples that are read, joined -/
section
variable {X : Cx} {pins : List (Addr × Obj)} {σ : L2.St} {H : Hp} {s : Shared}
theorem Inv_lstR (I : Inv X pins σ H s) {l : Addr} {xs : List V} (h : LsR X.K H l xs) : xs.length ≤ sizeLine ∧ ∃ (its : List Value) (n : Nat), Vals xs its ∧ xs.length = its.length ∧ s.heap.get? l = some { cls := .type "list", data := .seq its.toArray n } := by
  rcases h with h | ⟨its, n, h1, h2, h3⟩
  · obtain ⟨z, its, n, r, e⟩ := h.ok I.hok
    exact ⟨z, its, n, r, r.length, e⟩
  · exact ⟨by rw [h3.length]; exact h2, its, n, h3, h3.length, I.kIn l _ h1⟩
theorem Inv_tupR (I : Inv X pins σ H s) {l : Addr} {xs : List V} (h : Rd H l (.tup xs)) : ∃ its : List Value, Vals xs its ∧ IsTup s.heap l its.toArray ∧ xs.length ≤ sizeLine := I.tuple (.inl h)
def rCatR (K : PySem.W.Frag) : R2 := fun x y H Q => ∃ l b xs zs, x = .ref l ∧ y = .ref b ∧ LsR K H l xs ∧ LsR K H b zs ∧ xs.length + zs.length ≤ sizeLine ∧ ∀ p, H p = none → Q (.ref p) (upd H p (.lst (xs ++ zs)))
theorem op_catR : OpR X (binaryOp .Add) (rCatR X.K) := by
  intro pins s σ H x y v u Q I rx ry h
  obtain ⟨l, b, xs, zs, rfl, rfl, hH, hB, hz, q⟩ := h
  cases rx
  cases ry
  obtain ⟨z, its, n, r, hl, e⟩ := Inv_lstR I hH
  obtain ⟨z2, its2, n2, r2, hl2, e2⟩ := Inv_lstR I hB
  refine PySem.P.add_list e e2 ?_ (by rw [List.size_toArray, List.size_toArray]; omega)
  have ea : its.toArray ++ its2.toArray = (its ++ its2).toArray := by simp
  rw [ea]
  exact ⟨.ref _, _, I.lnew (t' := s.toks) (r.append r2) (by rw [List.length_append]; omega), rfl, q _ I.fresh⟩
/-- t + u: the one or the other where one is empty -/
def rCatTR : R2 := fun x y H Q => ∃ a b xs ys, x = .ref a ∧ y = .ref b ∧ Rd H a (.tup xs) ∧ Rd H b (.tup ys) ∧ xs.length + ys.length ≤ sizeLine ∧
  (xs = [] → Q (.ref b) H) ∧ (ys = [] → Q (.ref a) H) ∧ (∀ p o, H p = none → TupO o → Q (.ref p) (upd H p (.frz o (.tup (xs ++ ys)))))
theorem op_catTR : OpR X (binaryOp .Add) rCatTR := by
  intro pins s σ H x y v u Q I rx ry h
  obtain ⟨a, b, xs, ys, rfl, rfl, ha, hb, hz, q0, q1, q2⟩ := h
  cases rx
  cases ry
  obtain ⟨its, r1, p1, _⟩ := Inv_tupR I ha
  obtain ⟨its2, r2, p2, _⟩ := Inv_tupR I hb
  by_cases hx : xs = []
  · have hi : its = [] := r1.nil_iff.mpr hx
    subst hi
    obtain ⟨⟨cls, dd, data, sl⟩, ho, hc, n, hd⟩ := id p1
    obtain ⟨⟨cls2, dd2, data2, sl2⟩, ho2, hc2, n2, hd2⟩ := id p2
    simp only at hc hd hc2 hd2
    subst hc hd hc2 hd2
    exact concat_meets ⟨_, ho, rfl⟩ ⟨_, ho2, rfl⟩ noFill_tuple_add seq_tuple_add PySem.F.slot_tuple_add PySem.F.entry_tuple_add (PySem.F.args_tuple_add_2 _ _)
      (tuple_addW0 a b _ its2.toArray n n2 dd dd2 sl sl2 rfl) ⟨ho, ho2, ⟨.ref b, H, I, rfl, q0 hx⟩⟩
  · refine HT.cat_tup p1 p2 (fun z => hx (r1.nil_iff.mp z)) (fun z => ⟨.ref a, H, I, rfl, q1 (r2.nil_iff.mp z)⟩) (fun z => ?_) (by rw [← r1.length, ← r2.length]; exact hz)
    refine ⟨.ref s.heap.objs.size, _, I.laid (t' := s.toks) (o := .frz (tupO (its ++ its2).toArray) (.tup (xs ++ ys))) (fun b ob q => Heap.get?_push_of_some _ q) (Nat.le_refl _) ?_, rfl, q2 _ _ (I.hok.fresh (Nat.le_refl _)) (tupO_ok _)⟩
    exact new_tup (by rw [List.length_append]; exact hz) (r1.append r2) (Heap.get?_push_size _ rfl)
def CMulA (i j : Int) : Prop := mulOk i j = true
theorem op_mulA : OpR X (binaryOp .Mult) (rI CMulA fun i j => .int (i * j)) := opI fun _ _ _ _ _ _ _ hc q => mul_int q (mulOk_ok hc)
def CShl (i j : Int) : Prop := 0 ≤ j ∧ j ≤ 1000000 ∧ i.natAbs.log2 < 1000000
theorem op_shlA : OpR X (binaryOp .LShift) (rI CShl fun i j => .int (i * 2 ^ j.toNat)) := opI fun i j _ _ _ _ _ hc q => by
  refine lshift_int hc.1 ?_ q
  have h : Builtin.Int.intBits i ≤ i.natAbs.log2 + 1 := by
    unfold Builtin.Int.intBits
    split <;> omega
  have h2 := hc.2.1
  have h3 := hc.2.2
  have e : ((2 : Int) ^ 27) = 134217728 := by decide
  rw [e]
  omega
end

/-! ### what the operators say over data -/
def seqMax : Nat := 16777216
theorem seqMax_eq : seqMax = sizeLine := by rw [sizeLine_eq]; rfl
def opAdd : D → D → Res D
  | .int i, .int j => .ok (.int (i + j))
  | .str a, .str b => if a.length + b.length ≤ seqMax then .ok (.str (a ++ b)) else .stuck
  | .lst _ a, .lst _ b => if a.length + b.length ≤ seqMax then .ok (.lst .ow (a ++ b)) else .stuck
  | .tup a, .tup b => if a.length + b.length ≤ seqMax then .ok (.tup (a ++ b)) else .stuck
  | _, _ => .stuck
def opSub : D → D → Res D
  | .int i, .int j => .ok (.int (i - j))
  | _, _ => .stuck
def opMul : D → D → Res D
  | .int i, .int j => if mulOk i j then .ok (.int (i * j)) else .stuck
  | .lst t a, .int k => if t ≠ .fz ∧ -(2 ^ 62) ≤ k ∧ k < 2 ^ 62 ∧ a.length * k.toNat ≤ seqMax then .ok (.lst .ow (List.replicate k.toNat a).flatten) else .stuck
  | _, _ => .stuck
def opFdiv : D → D → Res D
  | .int i, .int j => if 0 < j ∧ j.natAbs.log2 < 9000 then .ok (.int (i / j)) else .stuck
  | _, _ => .stuck
def opMod : D → D → Res D
  | .int i, .int j => if 0 < j then .ok (.int (i % j)) else .stuck
  | _, _ => .stuck
def opPow : D → D → Res D
  | .int i, .int j => if 0 ≤ j ∧ j ≤ 1000000 ∧ i.natAbs < 18446744073709551616 then .ok (.int (i ^ j.toNat)) else .stuck
  | _, _ => .stuck
def opShl : D → D → Res D
  | .int i, .int j => if 0 ≤ j ∧ j ≤ 1000000 ∧ i.natAbs.log2 < 1000000 then .ok (.int (i * 2 ^ j.toNat)) else .stuck
  | _, _ => .stuck
def opShr : D → D → Res D
  | .int i, .int j => if 0 ≤ j then .ok (.int (i / 2 ^ j.toNat)) else .stuck
  | _, _ => .stuck
def opAnd : D → D → Res D
  | .int i, .int j => .ok (.int (Builtin.bitAnd i j))
  | _, _ => .stuck
def opNeg : D → Res D
  | .int i => .ok (.int (-i))
  | _ => .stuck
def opLt : D → D → Res D
  | .int i, .int j => .ok (.bl (decide (i < j)))
  | _, _ => .stuck
def opLe : D → D → Res D
  | .int i, .int j => .ok (.bl (decide (i ≤ j)))
  | _, _ => .stuck
def opGt : D → D → Res D
  | .int i, .int j => .ok (.bl (decide (j < i)))
  | _, _ => .stuck
def opGe : D → D → Res D
  | .int i, .int j => .ok (.bl (decide (j ≤ i)))
  | _, _ => .stuck
/-- data for == -/
def D.py : D → PyData
  | .non => .none
  | .bl b => .bool b
  | .int i => .int i
  | .str s => .str s
  | .tup ds => .tuple (pys ds)
  | .lst _ ds => .list (pys ds)
  | .dic _ _ => .dict []
  | .obj _ _ _ _ => .dict []
where pys : List D → List PyData
  | [] => []
  | d :: ds => D.py d :: pys ds
def opEq (a b : D) : Res D := if SeqAt.shaped a.py && SeqAt.shaped b.py then .ok (.bl (PyData.eqv a.py b.py)) else .stuck
def opNe (a b : D) : Res D := if SeqAt.shaped a.py && SeqAt.shaped b.py then .ok (.bl (!PyData.eqv a.py b.py)) else .stuck
def D.isN : D → Bool
  | .non => true
  | _ => false
def opIsN (a _ : D) : Res D := .ok (.bl a.isN)
def opNotN (a _ : D) : Res D := .ok (.bl (!a.isN))

section
variable {X : Cx} {W : WX}
theorem ok_add : OpOk X W opAdd (fun x y H Q => rI0 (fun i j => .int (i + j)) x y H Q ∨ (fun x y H Q => ∃ i j, x = V.str i ∧ y = V.str j ∧ i.length + j.length ≤ sizeLine ∧ Q (.str (i ++ j)) H) x y H Q ∨ rCatR X.K x y H Q ∨ rCatTR x y H Q) := by
  intro H0 F0 ρ σ F H F2 H2 v u a b Q r r2 g x y p
  cases a with
  | int i =>
    cases b with
    | int j =>
      have e1 := x.int; have e2 := y.int
      subst e1 e2
      exact .inl ⟨i, j, rfl, rfl, p.here r2 g (RX.fz (.int _))⟩
    | _ => exact p.elim
  | str i =>
    cases b with
    | str j =>
      have e1 := x.str; have e2 := y.str
      subst e1 e2
      obtain ⟨h, p⟩ := Post.guard (c := i.length + j.length ≤ seqMax) p
      exact .inr (.inl ⟨i, j, rfl, rfl, by rw [← seqMax_eq]; exact h, p.here r2 g (RX.fz (.str _))⟩)
    | _ => exact p.elim
  | lst t as =>
    cases b with
    | lst t' bs =>
      obtain ⟨l, xs, rfl, hx, rx⟩ := x.lst r2.fh
      obtain ⟨l', ys, rfl, hy, ry⟩ := y.lst r2.fh
      obtain ⟨h, p⟩ := Post.guard (c := as.length + bs.length ≤ seqMax) p
      refine .inr (.inr (.inl ⟨l, l', xs, ys, rfl, rfl, hx, hy, by rw [rx.length, ry.length, ← seqMax_eq]; exact h, fun q n => ?_⟩))
      exact p.at r2 g (Gr.alloc n) (same_updF r2.fh n) (RX.newL g.hh r2.fh n (rx.append ry))
    | _ => exact p.elim
  | tup as =>
    cases b with
    | tup bs =>
      obtain ⟨l, xs, rfl, hx, rx⟩ := x.tup r2.fh
      obtain ⟨l', ys, rfl, hy, ry⟩ := y.tup r2.fh
      obtain ⟨h, p⟩ := Post.guard (c := as.length + bs.length ≤ seqMax) p
      refine .inr (.inr (.inr ⟨l, l', xs, ys, rfl, rfl, hx, hy, by rw [rx.length, ry.length, ← seqMax_eq]; exact h, fun e => ?_, fun e => ?_, fun q ob n to => ?_⟩))
      · subst e
        cases rx
        exact p.here r2 g (RX.fz (y.rep rfl))
      · subst e
        cases ry
        rw [List.append_nil] at p
        exact p.here r2 g (RX.fz (x.rep rfl))
      · exact p.at r2 g (Gr.allocF r2.fh n) (same_updB r2.fh) (RX.newT to (same_none r2.fh n) (rx.append ry))
    | _ => exact p.elim
  | _ => exact p.elim
/-- an operator of two ints -/
theorem ok_II {C : Int → Int → Prop} {g : Int → Int → D} {gv : Int → Int → V} {op : D → D → Res D} (hv : ∀ i j F, Rep X.w X.K X.mg F (gv i j) (g i j))
    (h1 : ∀ i j, op (.int i) (.int j) = .stuck ∨ (op (.int i) (.int j) = .ok (g i j) ∧ C i j)) (h3 : ∀ a b, (∀ i j, ¬ (a = .int i ∧ b = .int j)) → op a b = .stuck) : OpOk X W op (rI C gv) := by
  intro H0 F0 ρ σ F H F2 H2 v u a b Q r r2 g x y p
  by_cases h : ∃ i j, a = .int i ∧ b = .int j
  · obtain ⟨i, j, rfl, rfl⟩ := h
    have e1 := x.int; have e2 := y.int
    subst e1 e2
    rcases h1 i j with e | ⟨e, c⟩
    · rw [e] at p; exact p.elim
    · rw [e] at p
      exact ⟨i, j, rfl, rfl, c, p.here r2 g (RX.fz (hv i j _))⟩
  · rw [h3 a b (fun i j q => h ⟨i, j, q⟩)] at p
    exact p.elim
theorem ok_II0 {g : Int → Int → D} {gv : Int → Int → V} {op : D → D → Res D} (hv : ∀ i j F, Rep X.w X.K X.mg F (gv i j) (g i j))
    (h1 : ∀ i j, op (.int i) (.int j) = .ok (g i j)) (h3 : ∀ a b, (∀ i j, ¬ (a = .int i ∧ b = .int j)) → op a b = .stuck) : OpOk X W op (rI0 gv) := by
  intro H0 F0 ρ σ F H F2 H2 v u a b Q r r2 g x y p
  by_cases h : ∃ i j, a = .int i ∧ b = .int j
  · obtain ⟨i, j, rfl, rfl⟩ := h
    have e1 := x.int; have e2 := y.int
    subst e1 e2
    rw [h1 i j] at p
    exact ⟨i, j, rfl, rfl, p.here r2 g (RX.fz (hv i j _))⟩
  · rw [h3 a b (fun i j q => h ⟨i, j, q⟩)] at p
    exact p.elim
theorem ite_or {α : Type} {c C : Prop} [Decidable c] {r : Res α} (h : c → C) : (if c then r else Res.stuck) = .stuck ∨ ((if c then r else Res.stuck) = r ∧ C) := by
  by_cases e : c
  · rw [if_pos e]; exact .inr ⟨rfl, h e⟩
  · rw [if_neg e]; exact .inl rfl
theorem nn {op : D → D → Res D} (h : ∀ a b, op a b = .stuck ∨ ∃ i j, a = .int i ∧ b = .int j) : ∀ a b, (∀ i j, ¬ (a = .int i ∧ b = .int j)) → op a b = .stuck := fun a b q => by
  rcases h a b with e | ⟨i, j, e⟩
  · exact e
  · exact (q i j e).elim
theorem ok_sub : OpOk X W opSub (rI0 fun i j => .int (i - j)) := ok_II0 (fun _ _ _ => .int _) (fun _ _ => rfl) (nn fun a b => by cases a <;> cases b <;> first | exact .inl rfl | exact .inr ⟨_, _, rfl, rfl⟩)
theorem ok_and : OpOk X W opAnd (rI0 fun i j => .int (Builtin.bitAnd i j)) := ok_II0 (fun _ _ _ => .int _) (fun _ _ => rfl) (nn fun a b => by cases a <;> cases b <;> first | exact .inl rfl | exact .inr ⟨_, _, rfl, rfl⟩)
theorem ok_lt : OpOk X W opLt (rI0 fun i j => .bl (decide (i < j))) := ok_II0 (fun _ _ _ => .bl _) (fun _ _ => rfl) (nn fun a b => by cases a <;> cases b <;> first | exact .inl rfl | exact .inr ⟨_, _, rfl, rfl⟩)
theorem ok_le : OpOk X W opLe (rI0 fun i j => .bl (decide (i ≤ j))) := ok_II0 (fun _ _ _ => .bl _) (fun _ _ => rfl) (nn fun a b => by cases a <;> cases b <;> first | exact .inl rfl | exact .inr ⟨_, _, rfl, rfl⟩)
theorem ok_gt : OpOk X W opGt (rI0 fun i j => .bl (decide (j < i))) := ok_II0 (fun _ _ _ => .bl _) (fun _ _ => rfl) (nn fun a b => by cases a <;> cases b <;> first | exact .inl rfl | exact .inr ⟨_, _, rfl, rfl⟩)
theorem ok_ge : OpOk X W opGe (rI0 fun i j => .bl (decide (j ≤ i))) := ok_II0 (fun _ _ _ => .bl _) (fun _ _ => rfl) (nn fun a b => by cases a <;> cases b <;> first | exact .inl rfl | exact .inr ⟨_, _, rfl, rfl⟩)
theorem ok_fdiv : OpOk X W opFdiv (rI CDivW fun i j => .int (i / j)) := ok_II (fun _ _ _ => .int _) (fun i j => ite_or (c := 0 < j ∧ j.natAbs.log2 < 9000) (C := CDivW i j) (fun h => h)) (nn fun a b => by cases a <;> cases b <;> first | exact .inl rfl | exact .inr ⟨_, _, rfl, rfl⟩)
theorem ok_mod : OpOk X W opMod (rI (fun _ j => 0 < j) fun i j => .int (i % j)) := ok_II (fun _ _ _ => .int _) (fun i j => ite_or (c := 0 < j) (C := 0 < j) (fun h => h)) (nn fun a b => by cases a <;> cases b <;> first | exact .inl rfl | exact .inr ⟨_, _, rfl, rfl⟩)
theorem ok_pow : OpOk X W opPow (rI CPow fun i j => .int (i ^ j.toNat)) := ok_II (fun _ _ _ => .int _) (fun i j => ite_or (c := 0 ≤ j ∧ j ≤ 1000000 ∧ i.natAbs < 18446744073709551616) (C := CPow i j) (fun h => h)) (nn fun a b => by cases a <;> cases b <;> first | exact .inl rfl | exact .inr ⟨_, _, rfl, rfl⟩)
theorem ok_shl : OpOk X W opShl (rI CShl fun i j => .int (i * 2 ^ j.toNat)) := ok_II (fun _ _ _ => .int _) (fun i j => ite_or (c := 0 ≤ j ∧ j ≤ 1000000 ∧ i.natAbs.log2 < 1000000) (C := CShl i j) (fun h => h)) (nn fun a b => by cases a <;> cases b <;> first | exact .inl rfl | exact .inr ⟨_, _, rfl, rfl⟩)
theorem ok_shr : OpOk X W opShr (rI (fun _ j => 0 ≤ j) fun i j => .int (i / 2 ^ j.toNat)) := ok_II (fun _ _ _ => .int _) (fun i j => ite_or (c := 0 ≤ j) (C := 0 ≤ j) (fun h => h)) (nn fun a b => by cases a <;> cases b <;> first | exact .inl rfl | exact .inr ⟨_, _, rfl, rfl⟩)
theorem Reps.rep_flat {w : World} {K : PySem.W.Frag} {mg : Str → Option Value} {F : Hp} {vs : List V} {ds : List D} (h : Reps w K mg F vs ds) : ∀ k : Nat, Reps w K mg F (List.replicate k vs).flatten (List.replicate k ds).flatten
  | 0 => .nil
  | k + 1 => by
    rw [List.replicate_succ, List.replicate_succ, List.flatten_cons, List.flatten_cons]
    exact h.append (Reps.rep_flat h k)
def rRepR : R2 := fun x y H Q => ∃ l k xs, x = .ref l ∧ y = .int k ∧ H l = some (.lst xs) ∧ -(2 ^ 63) ≤ k ∧ k < 2 ^ 63 ∧ xs.length * k.toNat ≤ sizeLine ∧
  ∀ p, H p = none → Q (.ref p) (upd H p (.lst (List.replicate k.toNat xs).flatten))
/-- a list's own place, where it is a temporary or a variable -/
theorem RX.lstM {w : World} {K : PySem.W.Frag} {mg : Str → Option Value} {F H H1 : Hp} {v : V} {t : Tg} {ds : List D} (x : RX w K mg F H H1 v (.lst t ds)) (ht : t ≠ .fz) : ∃ a xs, v = .ref a ∧ H1 a = some (.lst xs) ∧ F a = none ∧ Reps w K mg F xs ds := by
  unfold RX at x
  cases t with
  | fz => exact absurd rfl ht
  | ow =>
    obtain ⟨a, o, rfl, _, h2, h3, xs, rfl, h5⟩ := x
    exact ⟨a, xs, rfl, h3, h2, h5⟩
  | vw =>
    obtain ⟨a, o, rfl, h2, h3, xs, rfl, h5⟩ := x
    exact ⟨a, xs, rfl, h3, h2, h5⟩
theorem ok_mul : OpOk X W opMul (fun x y H Q => rI CMulA (fun i j => .int (i * j)) x y H Q ∨ rRep x y H Q) := by
  intro H0 F0 ρ σ F H F2 H2 v u a b Q r r2 g x y p
  cases a with
  | int i =>
    cases b with
    | int j =>
      have e1 := x.int; have e2 := y.int
      subst e1 e2
      obtain ⟨h, p⟩ := Post.guard (c := mulOk i j = true) p
      exact .inl ⟨i, j, rfl, rfl, h, p.here r2 g (RX.fz (.int _))⟩
    | _ => exact p.elim
  | lst t as =>
    cases b with
    | int k =>
      have e2 := y.int
      subst e2
      obtain ⟨⟨h0, h1, h2, h3⟩, p⟩ := Post.guard (c := t ≠ .fz ∧ -(2 ^ 62) ≤ k ∧ k < 2 ^ 62 ∧ as.length * k.toNat ≤ seqMax) p
      obtain ⟨l, xs, rfl, hx, _, rx⟩ := x.lstM h0
      refine .inr ⟨l, k, xs, rfl, rfl, hx, by omega, by omega, by rw [rx.length, ← seqMax_eq]; exact h3, fun q n => ?_⟩
      exact p.at r2 g (Gr.alloc n) (same_updF r2.fh n) (RX.newL g.hh r2.fh n (rx.rep_flat _))
    | _ => exact p.elim
  | _ => exact p.elim
theorem ok_neg : UnOk X W opNeg (rU fun i => .int (-i)) := by
  intro H0 F0 ρ σ F H F2 H2 v a Q r r2 g x p
  cases a with
  | int i =>
    have e := x.int
    subst e
    exact ⟨i, rfl, p.here r2 g (RX.fz (.int _))⟩
  | _ => exact p.elim
mutual
theorem Rep.dp {w : World} {K : PySem.W.Frag} {mg : Str → Option Value} {F H : Hp} (s : Same F H) : ∀ {v : V} {d : D}, Rep w K mg F v d → d.py.canLay0 = true → Dp K H v d.py
  | _, _, .non, _ => .non
  | _, _, .bl b, _ => .bl b
  | _, _, .int i, _ => .int i
  | _, _, .str x, _ => .str x
  | _, _, .tup h r, c => .tup (.inl (rd_mono s h.rd)) (Reps.dp s r (by simpa only [D.py, PyData.canLay0] using c))
  | _, _, .lst h r, c => .lst (ls_mono s h).sq (Reps.dp s r (by simpa only [D.py, PyData.canLay0] using c))
  | _, _, .dic _ _, c => by simp [D.py, PyData.canLay0] at c
  | _, _, .obj _ _, c => by simp [D.py, PyData.canLay0] at c
theorem Reps.dp {w : World} {K : PySem.W.Frag} {mg : Str → Option Value} {F H : Hp} (s : Same F H) : ∀ {vs : List V} {ds : List D}, Reps w K mg F vs ds → PyData.canLayAll0 (D.py.pys ds) = true → DpAll K H vs (D.py.pys ds)
  | _, _, .nil, _ => .nil
  | _, _, .cons h r, c => by
    simp only [D.py.pys, PyData.canLayAll0, Bool.and_eq_true] at c
    exact .cons (Rep.dp s h c.1) (Reps.dp s r c.2)
end
theorem RX.dp {w : World} {K : PySem.W.Frag} {mg : Str → Option Value} {F H H1 : Hp} {v : V} {d : D} (x : RX w K mg F H H1 v d) (s : Same F H1) (c : d.py.canLay0 = true) : Dp K H1 v d.py := by
  cases d with
  | lst t ds =>
    obtain ⟨a, xs, rfl, h1, h2⟩ := x.lst s
    exact .lst h1.sq (Reps.dp s h2 (by simpa only [D.py, PyData.canLay0] using c))
  | dic t es => simp [D.py, PyData.canLay0] at c
  | obj t k ps ds => simp [D.py, PyData.canLay0] at c
  | _ => exact (x.rep rfl).dp s c
theorem ok_eq : OpOk X W opEq (rEqD X.K) := by
  intro H0 F0 ρ σ F H F2 H2 v u a b Q r r2 g x y p
  obtain ⟨h, p⟩ := Post.guard p
  rw [Bool.and_eq_true] at h
  exact ⟨_, _, x.dp r2.fh (SeqAt.canLay_of_shaped h.1), y.dp r2.fh (SeqAt.canLay_of_shaped h.2), h.1, h.2, p.here r2 g (RX.fz (.bl _))⟩
theorem ok_ne : OpOk X W opNe (rNeD X.K) := by
  intro H0 F0 ρ σ F H F2 H2 v u a b Q r r2 g x y p
  obtain ⟨h, p⟩ := Post.guard p
  rw [Bool.and_eq_true] at h
  exact ⟨_, _, x.dp r2.fh (SeqAt.canLay_of_shaped h.1), y.dp r2.fh (SeqAt.canLay_of_shaped h.2), h.1, h.2, p.here r2 g (RX.fz (.bl _))⟩
theorem RX.isN {w : World} {K : PySem.W.Frag} {mg : Str → Option Value} {F H H1 : Hp} {v : V} {d : D} (x : RX w K mg F H H1 v d) : decide (v = .non) = d.isN := by
  unfold RX at x
  cases t : d.tg with
  | fz =>
    rw [t] at x
    cases (show Rep w K mg F v d from x) <;> first | rfl | exact decide_eq_false (fun z => nomatch z)
  | ow =>
    rw [t] at x
    obtain ⟨a, o, rfl, _⟩ := x
    cases d <;> first | rfl | cases t | exact decide_eq_false (fun z => nomatch z)
  | vw =>
    rw [t] at x
    obtain ⟨a, o, rfl, _⟩ := x
    cases d <;> first | rfl | cases t | exact decide_eq_false (fun z => nomatch z)
def fIsN (fa : DE) : DE := fU (fun a => .ok (.bl a.isN)) fa
def fNotN (fa : DE) : DE := fU (fun a => .ok (.bl (!a.isN))) fa

/-! ### the rules -/
variable {a b : Expr} {fa fb : DE} {pos : Pos}
theorem pd_add (ha : PD X W a fa) (hb : PD X W b fb) : PD X W (.BinOp a .Add b pos) (fB opAdd fa fb) := (pe_op (op_add.or (op_add_str.or (op_catR.or op_catTR))) ha hb).imp fun _ _ _ => bin_imp ok_add
theorem pd_sub (ha : PD X W a fa) (hb : PD X W b fb) : PD X W (.BinOp a .Sub b pos) (fB opSub fa fb) := (pe_op op_sub ha hb).imp fun _ _ _ => bin_imp ok_sub
theorem pd_mul (ha : PD X W a fa) (hb : PD X W b fb) : PD X W (.BinOp a .Mult b pos) (fB opMul fa fb) := (pe_op (op_mulA.or op_rep) ha hb).imp fun _ _ _ => bin_imp ok_mul
theorem pd_fdiv (ha : PD X W a fa) (hb : PD X W b fb) : PD X W (.BinOp a .FloorDiv b pos) (fB opFdiv fa fb) := (pe_op op_fdivW ha hb).imp fun _ _ _ => bin_imp ok_fdiv
theorem pd_mod (ha : PD X W a fa) (hb : PD X W b fb) : PD X W (.BinOp a .Mod b pos) (fB opMod fa fb) := (pe_op op_mod ha hb).imp fun _ _ _ => bin_imp ok_mod
theorem pd_pow (ha : PD X W a fa) (hb : PD X W b fb) : PD X W (.BinOp a .Pow b pos) (fB opPow fa fb) := (pe_op op_pow ha hb).imp fun _ _ _ => bin_imp ok_pow
theorem pd_shl (ha : PD X W a fa) (hb : PD X W b fb) : PD X W (.BinOp a .LShift b pos) (fB opShl fa fb) := (pe_op op_shlA ha hb).imp fun _ _ _ => bin_imp ok_shl
theorem pd_shr (ha : PD X W a fa) (hb : PD X W b fb) : PD X W (.BinOp a .RShift b pos) (fB opShr fa fb) := (pe_op op_shr ha hb).imp fun _ _ _ => bin_imp ok_shr
theorem pd_band (ha : PD X W a fa) (hb : PD X W b fb) : PD X W (.BinOp a .BitAnd b pos) (fB opAnd fa fb) := (pe_op op_and ha hb).imp fun _ _ _ => bin_imp ok_and
theorem pd_neg (ha : PD X W a fa) : PD X W (.UnaryOp .USub a pos) (fU opNeg fa) := (pe_un un_neg ha).imp fun _ _ _ => un_imp ok_neg
theorem pd_lt (ha : PD X W a fa) (hb : PD X W b fb) : PD X W (.Compare a [.Lt] [b] pos) (fB opLt fa fb) := (pe_cmpR op_lt ha hb (nomark _)).imp fun _ _ _ => bin_imp ok_lt
theorem pd_le (ha : PD X W a fa) (hb : PD X W b fb) : PD X W (.Compare a [.LtE] [b] pos) (fB opLe fa fb) := (pe_cmpR op_le ha hb (nomark _)).imp fun _ _ _ => bin_imp ok_le
theorem pd_gt (ha : PD X W a fa) (hb : PD X W b fb) : PD X W (.Compare a [.Gt] [b] pos) (fB opGt fa fb) := (pe_cmpR op_gt ha hb (nomark _)).imp fun _ _ _ => bin_imp ok_gt
theorem pd_ge (ha : PD X W a fa) (hb : PD X W b fb) : PD X W (.Compare a [.GtE] [b] pos) (fB opGe fa fb) := (pe_cmpR op_ge ha hb (nomark _)).imp fun _ _ _ => bin_imp ok_ge
theorem pd_eq {k : Nat} (hr : Room k X.A) (ha : PD X W a fa) (hb : PD X W b fb) : PD X W (.Compare a [.Eq] [b] pos) (fB opEq fa fb) := (pe_cmpR (op_eqD hr.units) ha hb (nomark _)).imp fun _ _ _ => bin_imp ok_eq
theorem pd_ne {k : Nat} (hr : Room k X.A) (ha : PD X W a fa) (hb : PD X W b fb) : PD X W (.Compare a [.NotEq] [b] pos) (fB opNe fa fb) := (pe_cmpR (op_neD hr.units) ha hb (nomark _)).imp fun _ _ _ => bin_imp ok_ne
theorem pd_isN {j pos'} (ha : PD X W a fa) : PD X W (.Compare a [.Is] [.Constant .none j pos'] pos) (fIsN fa) := (pe_cmp (pc_isN ha)).imp fun _ _ _ ⟨H0, F0, ρ, F, r0, p⟩ =>
  ⟨H0, F0, ρ, F, r0, p.bind (Gr.refl _ _) fun F1 H1 v d _ r1 g1 x1 p1 => by rw [x1.isN]; exact p1.here r1 g1 (RX.fz (.bl _))⟩
theorem pd_notN {j pos'} (ha : PD X W a fa) : PD X W (.Compare a [.IsNot] [.Constant .none j pos'] pos) (fNotN fa) := (pe_cmp (pc_notN ha)).imp fun _ _ _ ⟨H0, F0, ρ, F, r0, p⟩ =>
  ⟨H0, F0, ρ, F, r0, p.bind (Gr.refl _ _) fun F1 H1 v d _ r1 g1 x1 p1 => by rw [x1.isN]; exact p1.here r1 g1 (RX.fz (.bl _))⟩

/-! ### tests -/
def toB : D → Res Bool
  | .bl b => .ok b
  | _ => .stuck
def tOf (f : DE) : DT := fun ρ => (f ρ).bind toB
def tAndD (t u : DT) : DT := fun ρ => (t ρ).bind fun b => if b = true then u ρ else .ok false
def tOrD (t u : DT) : DT := fun ρ => (t ρ).bind fun b => if b = true then .ok true else u ρ
def tNotD (t : DT) : DT := fun ρ => (t ρ).bind fun b => .ok (!b)
def fOfT (t : DT) : DE := fun ρ => (t ρ).bind fun b => .ok (.bl b)
variable {ta tb : DT} {rest : List Expr}
theorem ptd_val (ha : PD X W a fa) (he : ∀ whole, isTrue a X.env whole = (do let v ← whole; standAt a.pos; holding [v] (truthy v)) := by intro _; rfl) : PTD X W a (tOf fa) := (pt_val ha he).imp fun _ _ _ ⟨H0, F0, ρ, F, r0, p⟩ =>
  ⟨H0, F0, ρ, F, r0, p.bind (Gr.refl _ _) fun F1 H1 v d _ r1 g1 x1 p1 => by
    cases d with
    | bl c => exact ⟨c, x1.bl, p1.here r1 g1 rfl⟩
    | _ => exact p1.elim⟩
/-- a comparison as a test -/
theorem ptd_cmp {op : CmpOp} {r : R2} {f : D → D → Res D} (ho : OpR X (compareOp op) r) (hs : OpOk X W f r) (ha : PD X W a fa) (hb : PD X W b fb) (hm : behindInMarks op b = false) : PTD X W (.Compare a [op] [b] pos) (tOf (fB f fa fb)) := (pt_cmpR ho ha hb hm).imp fun σ H Q ⟨H0, F0, ρ, F, r0, p⟩ => by
  refine bin_imp (op := f) (H := H) (σ := σ) hs ⟨H0, F0, ρ, F, r0, p.bind (Gr.refl _ _) fun F1 H1 v d _ r1 g1 x1 p1 => ?_⟩
  cases d with
  | bl c => exact ⟨c, x1.bl, p1.here r1 g1 rfl⟩
  | _ => exact p1.elim
theorem ptd_lt (ha : PD X W a fa) (hb : PD X W b fb) : PTD X W (.Compare a [.Lt] [b] pos) (tOf (fB opLt fa fb)) := ptd_cmp op_lt ok_lt ha hb (nomark _)
theorem ptd_le (ha : PD X W a fa) (hb : PD X W b fb) : PTD X W (.Compare a [.LtE] [b] pos) (tOf (fB opLe fa fb)) := ptd_cmp op_le ok_le ha hb (nomark _)
theorem ptd_gt (ha : PD X W a fa) (hb : PD X W b fb) : PTD X W (.Compare a [.Gt] [b] pos) (tOf (fB opGt fa fb)) := ptd_cmp op_gt ok_gt ha hb (nomark _)
theorem ptd_ge (ha : PD X W a fa) (hb : PD X W b fb) : PTD X W (.Compare a [.GtE] [b] pos) (tOf (fB opGe fa fb)) := ptd_cmp op_ge ok_ge ha hb (nomark _)
theorem ptd_eq {k : Nat} (hr : Room k X.A) (ha : PD X W a fa) (hb : PD X W b fb) : PTD X W (.Compare a [.Eq] [b] pos) (tOf (fB opEq fa fb)) := ptd_cmp (op_eqD hr.units) ok_eq ha hb (nomark _)
theorem ptd_ne {k : Nat} (hr : Room k X.A) (ha : PD X W a fa) (hb : PD X W b fb) : PTD X W (.Compare a [.NotEq] [b] pos) (tOf (fB opNe fa fb)) := ptd_cmp (op_neD hr.units) ok_ne ha hb (nomark _)
theorem ptd_isN {j pos'} (ha : PD X W a fa) : PTD X W (.Compare a [.Is] [.Constant .none j pos'] pos) (tOf (fIsN fa)) := (pt_cmp (pc_isN ha)).imp fun _ _ _ ⟨H0, F0, ρ, F, r0, p⟩ => by
  unfold tOf fIsN fU at p
  rw [Res.bind_assoc] at p
  exact ⟨H0, F0, ρ, F, r0, p.bind (Gr.refl _ _) fun F1 H1 v d _ r1 g1 x1 p1 => ⟨d.isN, by rw [x1.isN], p1.here r1 g1 rfl⟩⟩
theorem ptd_notN {j pos'} (ha : PD X W a fa) : PTD X W (.Compare a [.IsNot] [.Constant .none j pos'] pos) (tOf (fNotN fa)) := (pt_cmp (pc_notN ha)).imp fun _ _ _ ⟨H0, F0, ρ, F, r0, p⟩ => by
  unfold tOf fNotN fU at p
  rw [Res.bind_assoc] at p
  exact ⟨H0, F0, ρ, F, r0, p.bind (Gr.refl _ _) fun F1 H1 v d _ r1 g1 x1 p1 => ⟨!d.isN, by rw [x1.isN], p1.here r1 g1 rfl⟩⟩
theorem pwd_and1 (ha : PTD X W a ta) : PWD X W (.BoolOp .And [a] pos) ta := pw_and1 ha
theorem pwd_or1 (ha : PTD X W a ta) : PWD X W (.BoolOp .Or [a] pos) ta := pw_or1 ha
theorem pwd_and (ha : PTD X W a ta) (hb : PWD X W (.BoolOp .And (b :: rest) pos) tb) : PWD X W (.BoolOp .And (a :: b :: rest) pos) (tAndD ta tb) := (pw_and ha hb).imp fun _ _ _ ⟨H0, F0, ρ, F, r0, p⟩ =>
  ⟨H0, F0, ρ, F, r0, p.bind (Gr.refl _ _) fun F1 H1 v d _ r1 g1 x1 p1 => by
    cases x1
    cases v with
    | true => rw [if_pos rfl] at p1 ⊢; exact ⟨H0, F0, ρ, F1, r1, p1.later relEq g1⟩
    | false => rw [if_neg (by decide)] at p1 ⊢; exact p1.here r1 g1 rfl⟩
theorem pwd_or (ha : PTD X W a ta) (hb : PWD X W (.BoolOp .Or (b :: rest) pos) tb) : PWD X W (.BoolOp .Or (a :: b :: rest) pos) (tOrD ta tb) := (pw_or ha hb).imp fun _ _ _ ⟨H0, F0, ρ, F, r0, p⟩ =>
  ⟨H0, F0, ρ, F, r0, p.bind (Gr.refl _ _) fun F1 H1 v d _ r1 g1 x1 p1 => by
    cases x1
    cases v with
    | true => rw [if_pos rfl] at p1 ⊢; exact p1.here r1 g1 rfl
    | false => rw [if_neg (by decide)] at p1 ⊢; exact ⟨H0, F0, ρ, F1, r1, p1.later relEq g1⟩⟩
theorem ptd_w (h : PWD X W a ta) : PTD X W a ta := h.pt
theorem ptd_not (ha : PTD X W a ta) : PTD X W (.UnaryOp .Not a pos) (tNotD ta) := (pt_not ha).imp fun _ _ _ ⟨H0, F0, ρ, F, r0, p⟩ =>
  ⟨H0, F0, ρ, F, r0, p.bind (Gr.refl _ _) fun F1 H1 v d _ r1 g1 x1 p1 => by cases x1; exact p1.here r1 g1 rfl⟩
/-! .. as values -/
theorem pd_one {op} (h : PD X W a fa) : PD X W (.BoolOp op [a] pos) fa := pe_one h
def fAndV (fa fb : DE) : DE := fun ρ => (fa ρ).bind fun d => (toB d).bind fun b => if b = true then fb ρ else .ok (.bl false)
def fOrV (fa fb : DE) : DE := fun ρ => (fa ρ).bind fun d => (toB d).bind fun b => if b = true then .ok (.bl true) else fb ρ
def fNotV (fa : DE) : DE := fun ρ => (fa ρ).bind fun d => (toB d).bind fun b => .ok (.bl (!b))
theorem pd_and (ha : PD X W a fa) (hb : PD X W (.BoolOp .And (b :: rest) pos) fb) : PD X W (.BoolOp .And (a :: b :: rest) pos) (fAndV fa fb) := (pe_and ha hb).imp fun _ _ _ ⟨H0, F0, ρ, F, r0, p⟩ =>
  ⟨H0, F0, ρ, F, r0, p.bind (Gr.refl _ _) fun F1 H1 v d _ r1 g1 x1 p1 => by
    cases d with
    | bl c =>
      refine ⟨c, x1.bl, ?_⟩
      cases c with
      | true => exact ⟨H0, F0, ρ, F1, r1, p1.later relX g1⟩
      | false => exact p1.here r1 g1 (RX.fz (.bl _))
    | _ => exact p1.elim⟩
theorem pd_or (ha : PD X W a fa) (hb : PD X W (.BoolOp .Or (b :: rest) pos) fb) : PD X W (.BoolOp .Or (a :: b :: rest) pos) (fOrV fa fb) := (pe_or ha hb).imp fun _ _ _ ⟨H0, F0, ρ, F, r0, p⟩ =>
  ⟨H0, F0, ρ, F, r0, p.bind (Gr.refl _ _) fun F1 H1 v d _ r1 g1 x1 p1 => by
    cases d with
    | bl c =>
      refine ⟨c, x1.bl, ?_⟩
      cases c with
      | true => exact p1.here r1 g1 (RX.fz (.bl _))
      | false => exact ⟨H0, F0, ρ, F1, r1, p1.later relX g1⟩
    | _ => exact p1.elim⟩
theorem pd_not (ha : PD X W a fa) : PD X W (.UnaryOp .Not a pos) (fNotV fa) := (pe_not ha).imp fun _ _ _ ⟨H0, F0, ρ, F, r0, p⟩ =>
  ⟨H0, F0, ρ, F, r0, p.bind (Gr.refl _ _) fun F1 H1 v d _ r1 g1 x1 p1 => by
    cases d with
    | bl c => exact ⟨c, x1.bl, p1.here r1 g1 (RX.fz (.bl _))⟩
    | _ => exact p1.elim⟩
def fIf (t : DT) (fa fb : DE) : DE := fun ρ => (t ρ).bind fun b => if b = true then fa ρ else fb ρ
theorem pd_ifExp {c : Expr} (hc : PTD X W c ta) (ha : PD X W a fa) (hb : PD X W b fb) : PD X W (.IfExp c a b pos) (fIf ta fa fb) := (pe_ifExp hc ha hb).imp fun _ _ _ ⟨H0, F0, ρ, F, r0, p⟩ =>
  ⟨H0, F0, ρ, F, r0, p.bind (Gr.refl _ _) fun F1 H1 v d _ r1 g1 x1 p1 => by
    cases x1
    cases v with
    | true => rw [if_pos rfl] at p1 ⊢; exact ⟨H0, F0, ρ, F1, r1, p1.later relX g1⟩
    | false => rw [if_neg (by decide)] at p1 ⊢; exact ⟨H0, F0, ρ, F1, r1, p1.later relX g1⟩⟩
end
end Dl
namespace Dl
open PySem PySem.Spec PyProof.Rows L2

/-! ### argument lists -/
def fNil : DA := fun _ => .ok []
def fCons (fa : DE) (fr : DA) : DA := fun ρ => (fa ρ).bind fun d => (fr ρ).bind fun ds => .ok (d :: ds)
section
variable {X : Cx} {W : WX} {e : Expr} {es : List Expr} {fa : DE} {fr : DA} {pos : Pos}
theorem pad_nil : PAD X W [] fNil := pa_nil.imp fun _ _ _ ⟨H0, F0, ρ, F, r0, p⟩ => p.here r0 (Gr.refl _ _) .nil
theorem pad_cons (ha : PD X W e fa) (hr : PAD X W es fr) (hs : starEach (e :: es) X.env = (false, eval e X.env) :: starEach es X.env := by rfl) : PAD X W (e :: es) (fCons fa fr) := (pa_cons ha hr hs).imp fun _ _ _ ⟨H0, F0, ρ, F, r0, p⟩ =>
  ⟨H0, F0, ρ, F, r0, p.bind (Gr.refl _ _) fun F1 H1 v d _ r1 g1 x1 p1 =>
    ⟨H0, F0, ρ, F1, r1, p1.bind g1 fun F2 H2 vs ds _ r2 g2 x2 p2 => p2.here r2 (g1.trans g2) (.cons (x1.mono g2) (relXs.st _ _ _ _ _ _ x2 g1.hh))⟩⟩
end

/-! ### freezing what is handed on -/
section
variable {X : Cx} {W : WX} {H0 F0 : Hp} {ρ : DEnv} {σ : L2.St} {F H F' H' : Hp}
/-- what may be frozen: it is frozen, or a new thing -/
def FzAble (X : Cx) (F H H1 : Hp) (v : V) (d : D) : Prop := Rep X.w X.K X.mg F v (d.re .fz) ∨ ∃ a o, v = .ref a ∧ H a = none ∧ H1 a = some o ∧ Cont X.w X.K X.mg F a o d
theorem D.re_fz {d : D} (h : d.tg = .fz) : d.re .fz = d := by
  cases d with
  | lst t ds => cases h; rfl
  | dic t ds => cases h; rfl
  | obj t c ps ds => cases h; rfl
  | _ => rfl
theorem RX.fzAble {F1 H1 : Hp} {v : V} {d : D} (x : RX X.w X.K X.mg F1 H H1 v d) (t : d.tg ≠ .vw) : FzAble X F1 H H1 v d := by
  unfold RX at x
  cases e : d.tg with
  | fz => rw [e] at x; exact .inl (by rw [D.re_fz e]; exact x)
  | vw => exact absurd e t
  | ow =>
    rw [e] at x
    obtain ⟨a, o, rfl, h1, _, h3, h4⟩ := x
    exact .inr ⟨a, o, rfl, h1, h3, h4⟩
theorem FzAble.mono {F1 F2 H1 : Hp} {v : V} {d : D} (s : Same F1 F2) (x : FzAble X F1 H H1 v d) : FzAble X F2 H H1 v d := by
  rcases x with x | ⟨a, o, e, h1, h2, h3⟩
  · exact .inl (x.mono s)
  · exact .inr ⟨a, o, e, h1, h2, h3.mono s⟩
theorem FzAble.freeze {F1 H1 : Hp} {v : V} {d : D} (r : R X H0 F0 ρ σ F H) (r1 : R X H0 F0 ρ σ F1 H1) (g : Gr F H F1 H1) (x : FzAble X F1 H H1 v d) :
    ∃ F2, R X H0 F0 ρ σ F2 H1 ∧ Gr F H F2 H1 ∧ Same F1 F2 ∧ Rep X.w X.K X.mg F2 v (d.re .fz) := by
  rcases x with x | ⟨a, o, rfl, h1, h3, h4⟩
  · exact ⟨F1, r1, g, Same.refl _, x⟩
  · cases q : F1 a with
    | some u =>
      have := r1.fh _ _ q
      rw [h3] at this
      cases this
      exact ⟨F1, r1, g, Same.refl _, h4.rep q⟩
    | none =>
      have g2 : Gr F H (upd F1 a o) H1 := g.freeze h1 q
      exact ⟨upd F1 a o, r.grow g2 (same_freeze r1.fh h3), g2, same_upd_none q, (h4.mono (same_upd_none q)).rep upd_same⟩
def noVw (ds : List D) : Bool := ds.all fun d => decide (d.tg ≠ .vw)
theorem RXs.freeze {H1 : Hp} (r : R X H0 F0 ρ σ F H) : ∀ {F1 : Hp} {vs : List V} {ds : List D}, R X H0 F0 ρ σ F1 H1 → Gr F H F1 H1 → (∃ Fx, Same Fx F1 ∧ RXs X Fx H H1 vs ds) → noVw ds = true →
    ∃ F2, R X H0 F0 ρ σ F2 H1 ∧ Gr F H F2 H1 ∧ Same F1 F2 ∧ Reps X.w X.K X.mg F2 vs (ds.map (D.re .fz))
  | F1, _, _, r1, g, ⟨Fx, s, .nil⟩, _ => ⟨F1, r1, g, Same.refl _, .nil⟩
  | F1, _, _, r1, g, ⟨Fx, s, .cons (d := d) (ds := ds) x xs⟩, h => by
    unfold noVw at h
    rw [List.all_cons, Bool.and_eq_true] at h
    obtain ⟨F2, r2, g2, s2, q⟩ := ((x.fzAble (of_decide_eq_true h.1)).mono s).freeze r r1 g
    obtain ⟨F3, r3, g3, s3, qs⟩ := RXs.freeze r r2 g2 ⟨Fx, s.trans s2, xs⟩ h.2
    exact ⟨F3, r3, g3, s2.trans s3, .cons (q.mono s3) qs⟩
end

/-! ### displays -/
def fTup (fs : DA) : DE := fun ρ => (fs ρ).bind fun ds => if noVw ds = true ∧ ds.length ≤ seqMax then .ok (.tup (ds.map (D.re .fz))) else .stuck
def fLst (fs : DA) : DE := fun ρ => (fs ρ).bind fun ds => if noVw ds = true ∧ ds.length ≤ seqMax then .ok (.lst .ow (ds.map (D.re .fz))) else .stuck
section
variable {X : Cx} {W : WX} {e : Expr} {es : List Expr} {fa : DE} {fr : DA} {pos : Pos}
theorem pd_tup {x1} (h : PAD X W es fr) : PD X W (.Tuple es x1 pos) (fTup fr) := (pe_tupN h).imp fun _ _ _ ⟨H0, F0, ρ, F, r0, p⟩ =>
  ⟨H0, F0, ρ, F, r0, p.bind (Gr.refl _ _) fun F1 H1 vs ds _ r1 g1 x1 p1 => by
    obtain ⟨⟨c1, c2⟩, p1⟩ := Post.guard p1
    refine ⟨by rw [x1.length, ← seqMax_eq]; exact c2, fun q ob n to => ?_⟩
    obtain ⟨F2, r2, g2, s2, qs⟩ := RXs.freeze r0 r1 g1 ⟨F1, Same.refl _, x1⟩ c1
    exact p1.at r2 g2 (Gr.allocF r2.fh n) (same_updB r2.fh) (RX.newT to (same_none r2.fh n) qs)⟩
theorem pd_lst (h : PAD X W es fr) : PD X W (.List es pos) (fLst fr) := (pe_lst h).imp fun _ _ _ ⟨H0, F0, ρ, F, r0, p⟩ =>
  ⟨H0, F0, ρ, F, r0, p.bind (Gr.refl _ _) fun F1 H1 vs ds _ r1 g1 x1 p1 => by
    obtain ⟨⟨c1, c2⟩, p1⟩ := Post.guard p1
    refine ⟨by rw [x1.length, ← seqMax_eq]; exact c2, fun q n => ?_⟩
    obtain ⟨F2, r2, g2, s2, qs⟩ := RXs.freeze r0 r1 g1 ⟨F1, Same.refl _, x1⟩ c1
    exact p1.at r2 g2 (Gr.alloc n) (same_updF r2.fh n) (RX.newL g2.hh r2.fh n qs)⟩
end

/-! ### subscripts and slices -/
def opIdx : D → D → Res D
  | .lst _ ds, .int i => match atI ds i with
    | some d => .ok d
    | none => .stuck
  | .tup ds, .int i => match atI ds i with
    | some d => .ok d
    | none => .stuck
  | .str s, .int i => if s.length ≤ seqMax then match atI s.cps.toList i with
    | some c => .ok (.str ⟨#[c]⟩)
    | none => .stuck else .stuck
  | _, _ => .stuck
def cutD {α : Type} (xs : List α) (lo hi : Option Int) : List α := (xs.drop (HT.sIx xs.length 0 lo)).take (HT.sIx xs.length xs.length hi - HT.sIx xs.length 0 lo)
def opSl : D → Option Int → Option Int → Res D
  | .lst _ ds, lo, hi => .ok (.lst .ow (cutD ds lo hi))
  | .tup ds, lo, hi => if ¬ (HT.sIx ds.length 0 lo = 0 ∧ HT.sIx ds.length ds.length hi = ds.length) then .ok (.tup (cutD ds lo hi)) else .stuck
  | .str s, lo, hi => if s.length ≤ seqMax then .ok (.str (cutS s lo hi)) else .stuck
  | _, _, _ => .stuck
section
variable {w : World} {K : PySem.W.Frag} {mg : Str → Option Value} {F : Hp}
theorem Reps.atI {vs : List V} {ds : List D} {i : Int} {d : D} (h : Reps w K mg F vs ds) (e : L2.atI ds i = some d) : ∃ v, L2.atI vs i = some v ∧ Rep w K mg F v d := by
  unfold L2.atI at e ⊢
  rw [h.length]
  cases q : ixN ds.length i with
  | none => rw [q] at e; cases e
  | some j =>
    rw [q] at e
    exact h.get e
theorem Reps.cut {vs : List V} {ds : List D} (lo hi : Option Int) (h : Reps w K mg F vs ds) : Reps w K mg F (cutV vs lo hi) (cutD ds lo hi) := by
  unfold cutV cutD
  rw [h.length]
  exact (h.drop _).take _
end
section
variable {X : Cx} {W : WX} {a b : Expr} {fa fb : DE} {pos : Pos}
theorem ok_idx : OpOk X W opIdx (rIx X.K) := by
  intro H0 F0 ρ σ F H F2 H2 v u a b Q r r2 g x y p
  cases a with
  | lst t ds =>
    cases b with
    | int i =>
      obtain ⟨l, xs, rfl, hx, rx⟩ := x.lst r2.fh
      have e := y.int
      subst e
      cases q : L2.atI ds i with
      | none => simp only [opIdx, q] at p; exact p.elim
      | some d =>
        simp only [opIdx, q] at p
        obtain ⟨z, e1, e2⟩ := rx.atI q
        exact .inl ⟨l, xs, i, z, rfl, rfl, hx.sq, e1, p.here r2 g (RX.fz e2)⟩
    | _ => exact p.elim
  | tup ds =>
    cases b with
    | int i =>
      obtain ⟨l, xs, rfl, hx, rx⟩ := x.tup r2.fh
      have e := y.int
      subst e
      cases q : L2.atI ds i with
      | none => simp only [opIdx, q] at p; exact p.elim
      | some d =>
        simp only [opIdx, q] at p
        obtain ⟨z, e1, e2⟩ := rx.atI q
        exact .inr (.inl ⟨l, xs, i, z, rfl, rfl, .inl hx, e1, p.here r2 g (RX.fz e2)⟩)
    | _ => exact p.elim
  | str s =>
    cases b with
    | int i =>
      have e1 := x.str
      have e := y.int
      subst e e1
      obtain ⟨c, p⟩ := Post.guard (c := s.length ≤ seqMax) p
      cases q : L2.atI s.cps.toList i with
      | none => rw [q] at p; exact p.elim
      | some d =>
        rw [q] at p
        exact .inr (.inr ⟨s, i, d, rfl, rfl, by rw [← seqMax_eq]; exact c, q, p.here r2 g (RX.fz (.str _))⟩)
    | _ => exact p.elim
  | _ => exact p.elim
theorem pd_ix (ha : PD X W a fa) (hb : PD X W b fb) (hs : PlainIx b := by exact fun _ _ => rfl) : PD X W (.Subscript a b pos) (fB opIdx fa fb) := (pe_ix ix_seq ha hb hs).imp fun _ _ _ => bin_imp ok_idx
/-- a slice's bound -/
def PoD (X : Cx) (W : WX) (e : Option Expr) (f : DEnv → Res (Option Int)) : Prop := PO X e (tD X W REq f)
def fNo : DEnv → Res (Option Int) := fun _ => .ok none
def toI : D → Res (Option Int)
  | .int i => .ok (some i)
  | _ => .stuck
def fPart (fa : DE) : DEnv → Res (Option Int) := fun ρ => (fa ρ).bind toI
theorem pod_none : PoD X W none fNo := ⟨fun pins s σ H Q I ⟨H0, F0, ρ, F, r0, p⟩ => po_none.run pins s σ H Q I (p.here r0 (Gr.refl _ _) rfl)⟩
theorem pod_some (ha : PD X W a fa) : PoD X W (some a) (fPart fa) := ⟨fun pins s σ H Q I ⟨H0, F0, ρ, F, r0, p⟩ => (po_some ha).run pins s σ H Q I
  ⟨H0, F0, ρ, F, r0, p.bind (Gr.refl _ _) fun F1 H1 v d _ r1 g1 x1 p1 => by
    cases d with
    | int i => exact ⟨i, x1.int, p1.here r1 g1 rfl⟩
    | _ => exact p1.elim⟩⟩
def fSl (fa : DE) (fl fh : DEnv → Res (Option Int)) : DE := fun ρ => (fa ρ).bind fun d => (fl ρ).bind fun l => (fh ρ).bind fun h => opSl d l h
theorem pd_sl {lo hi : Option Expr} {fl fh : DEnv → Res (Option Int)} {p2 : Pos} (ha : PD X W a fa) (hl : PoD X W lo fl) (hh : PoD X W hi fh) : PD X W (.Subscript a (.Slice lo hi none p2) pos) (fSl fa fl fh) :=
  (pe_slice ((sl_list.or sl_tupN).or sl_str) ha hl hh).imp fun _ _ _ ⟨H0, F0, ρ, F, r0, p⟩ =>
  ⟨H0, F0, ρ, F, r0, p.bind (Gr.refl _ _) fun F1 H1 v d _ r1 g1 x1 p1 =>
    ⟨H0, F0, ρ, F1, r1, p1.bind g1 fun F2 H2 l l' _ r2 g2 x2 p2 => by
      cases x2
      refine ⟨H0, F0, ρ, F2, r2, p2.bind (g1.trans g2) fun F3 H3 h h' _ r3 g3 x3 p3 => ?_⟩
      cases x3
      have g := (g1.trans g2).trans g3
      have x := (x1.mono g2).mono g3
      cases d with
      | lst t ds =>
        obtain ⟨z, xs, rfl, hx, rx⟩ := x.lst r3.fh
        exact .inl (.inl ⟨z, xs, rfl, hx.sq, fun q n => p3.at r3 g (Gr.alloc n) (same_updF r3.fh n) (RX.newL g.hh r3.fh n (rx.cut l h))⟩)
      | tup ds =>
        obtain ⟨z, xs, rfl, hx, rx⟩ := x.tup r3.fh
        obtain ⟨c, p3⟩ := Post.guard p3
        exact .inl (.inr ⟨z, xs, rfl, .inl hx, by rw [rx.length]; exact c, fun q ob n to => p3.at r3 g (Gr.allocF r3.fh n) (same_updB r3.fh) (RX.newT to (same_none r3.fh n) (rx.cut l h))⟩)
      | str s =>
        obtain ⟨c, p3⟩ := Post.guard p3
        exact .inr ⟨s, x.str, by rw [← seqMax_eq]; exact c, p3.here r3 g (RX.fz (.str _))⟩
      | _ => exact p3.elim⟩⟩

/-! ### builtin functions -/
def CallOk (X : Cx) (W : WX) (op : List D → Res D) (r : List V → Hp → VK → Prop) : Prop := ∀ ⦃H0 F0 : Hp⦄ ⦃ρ : DEnv⦄ ⦃σ : L2.St⦄ ⦃F H F2 H2 : Hp⦄ ⦃vs : List V⦄ ⦃ds : List D⦄ ⦃Q : VK⦄,
  R X H0 F0 ρ σ F H → R X H0 F0 ρ σ F2 H2 → Gr F H F2 H2 → RXs X F2 H H2 vs ds → Post X W (RXX X) H0 F0 ρ σ F H (op ds) Q → r vs H2 Q
def fCall (op : List D → Res D) (fs : DA) : DE := fun ρ => (fs ρ).bind op
theorem call_imp {r : List V → Hp → VK → Prop} {op : List D → Res D} {fs : DA} (ho : CallOk X W op r) {σ : L2.St} {H : Hp} {Q : VK} (h : tD X W (RXX X) (fCall op fs) σ H Q) : tCB r (tD X W (RXs X) fs) σ H Q := by
  obtain ⟨H0, F0, ρ, F, r0, p⟩ := h
  exact ⟨H0, F0, ρ, F, r0, p.bind (Gr.refl _ _) fun F1 H1 v a _ r1 g1 x1 p1 => ho r0 r1 g1 x1 p1⟩
variable {x : Str} {p pos : Pos} {e : Expr} {es : List Expr} {fs : DA} {id : String} {op : List D → Res D} {r : List V → Hp → VK → Prop}
theorem pd_callB (hc : CallR X (.builtin id) r) (hs : CallOk X W op r) (hg : Gl X x) (hm : X.mg x = none) (hv : bootBuiltins x = some (.builtin id)) (ha : PAD X W (e :: es) fs) (hn : x ≠ "__name__" := by decide) (hdb : (x == ("__debug__" : Str)) = false := by decide)
    (he : starEach (e :: es) X.env = (false, eval e X.env) :: starEach es X.env := by rfl) (hpl : (backTo pos (starEach es X.env)).any (·.1) = false := by rfl) : PD X W (.Call (.Name x p) (e :: es) [] pos) (fCall op fs) :=
  (pe_callB hc hg hm hv ha hn hdb he hpl).imp fun _ _ _ => call_imp hs
theorem pd_callTy (hc : CallR X (.type id) r) (hs : CallOk X W op r) (hg : Gl X x) (hm : X.mg x = none) (hv : bootBuiltins x = some (.type id)) (ha : PAD X W (e :: es) fs) (hn : x ≠ "__name__" := by decide) (hdb : (x == ("__debug__" : Str)) = false := by decide)
    (he : starEach (e :: es) X.env = (false, eval e X.env) :: starEach es X.env := by rfl) (hpl : (backTo pos (starEach es X.env)).any (·.1) = false := by rfl) : PD X W (.Call (.Name x p) (e :: es) [] pos) (fCall op fs) :=
  (pe_callTy hc hg hm hv ha hn hdb he hpl).imp fun _ _ _ => call_imp hs
theorem RXs.inv1 {F H H1 : Hp} {vs : List V} {d : D} (h : RXs X F H H1 vs [d]) : ∃ v, vs = [v] ∧ RX X.w X.K X.mg F H H1 v d := by
  cases h with
  | cons a b => cases b; exact ⟨_, rfl, a⟩
theorem RXs.inv2 {F H H1 : Hp} {vs : List V} {d e : D} (h : RXs X F H H1 vs [d, e]) : ∃ v u, vs = [v, u] ∧ RX X.w X.K X.mg F H H1 v d ∧ RX X.w X.K X.mg F H H1 u e := by
  cases h with
  | cons a b =>
    obtain ⟨u, rfl, c⟩ := b.inv1
    exact ⟨_, u, rfl, a, c⟩
def op1 (f : D → Res D) : List D → Res D
  | [a] => f a
  | _ => .stuck
def op2 (f : D → D → Res D) : List D → Res D
  | [a, b] => f a b
  | _ => .stuck
theorem ok_op1 {f : D → Res D} {r : V → Hp → VK → Prop} {r' : List V → Hp → VK → Prop} (h : UnOk X W f r) (hr : ∀ v H Q, r v H Q → r' [v] H Q) : CallOk X W (op1 f) r' := by
  intro H0 F0 ρ σ F H F2 H2 vs ds Q r r2 g x p
  match ds, x, p with
  | [d], x, p =>
    obtain ⟨v, e, y⟩ := x.inv1
    subst e
    exact hr _ _ _ (h r r2 g y p)
  | [], x, p => exact False.elim p
  | _ :: _ :: _, x, p => exact False.elim p
theorem ok_op2 {f : D → D → Res D} {r : R2} {r' : List V → Hp → VK → Prop} (h : OpOk X W f r) (hr : ∀ v u H Q, r v u H Q → r' [v, u] H Q) : CallOk X W (op2 f) r' := by
  intro H0 F0 ρ σ F H F2 H2 vs ds Q r r2 g x p
  match ds, x, p with
  | [d, e], x, p =>
    obtain ⟨v, u, e, y, z⟩ := x.inv2
    subst e
    exact hr _ _ _ _ (h r r2 g y z p)
  | [], x, p => exact False.elim p
  | [_], x, p => exact False.elim p
  | _ :: _ :: _ :: _, x, p => exact False.elim p
def len1 : D → Res D
  | .lst _ ds => .ok (.int ds.length)
  | .tup ds => .ok (.int ds.length)
  | .str s => if s.length ≤ seqMax then .ok (.int s.length) else .stuck
  | _ => .stuck
theorem ok_len : UnOk X W len1 (fun x H Q => (∃ p ys, x = .ref p ∧ (SqL X.K H p ys ∨ SqT X.K H p ys) ∧ Q (.int ys.length) H) ∨ (∃ z, x = .str z ∧ z.length ≤ sizeLine ∧ Q (.int z.length) H)) := by
  intro H0 F0 ρ σ F H F2 H2 v d Q r r2 g x p
  cases d with
  | lst t ds =>
    obtain ⟨l, xs, rfl, hx, rx⟩ := x.lst r2.fh
    exact .inl ⟨l, xs, rfl, .inl hx.sq, by rw [rx.length]; exact p.here r2 g (RX.fz (.int _))⟩
  | tup ds =>
    obtain ⟨l, xs, rfl, hx, rx⟩ := x.tup r2.fh
    exact .inl ⟨l, xs, rfl, .inr (.inl hx), by rw [rx.length]; exact p.here r2 g (RX.fz (.int _))⟩
  | str s =>
    obtain ⟨c, p⟩ := Post.guard p
    exact .inr ⟨s, x.str, by rw [← seqMax_eq]; exact c, p.here r2 g (RX.fz (.int _))⟩
  | _ => exact p.elim
def opLen := op1 len1
theorem pd_len (hg : Gl X "len") (hm : X.mg "len" = none) (ha : PAD X W (e :: es) fs) (he : starEach (e :: es) X.env = (false, eval e X.env) :: starEach es X.env := by rfl) (hpl : (backTo pos (starEach es X.env)).any (·.1) = false := by rfl) :
    PD X W (.Call (.Name "len" p) (e :: es) [] pos) (fCall opLen fs) := pd_callB (call_len_seq.or call_len_str) (ok_op1 (r' := fun xs H Q => (∃ p ys, xs = [.ref p] ∧ (SqL X.K H p ys ∨ SqT X.K H p ys) ∧ Q (.int ys.length) H) ∨ (∃ z, xs = [.str z] ∧ z.length ≤ sizeLine ∧ Q (.int z.length) H)) ok_len (fun v H Q h => by
      rcases h with ⟨p, ys, rfl, h⟩ | ⟨z, rfl, h⟩
      · exact .inl ⟨p, ys, rfl, h⟩
      · exact .inr ⟨z, rfl, h⟩)) hg hm PySem.boot_len ha (by decide) (by decide) he hpl
def max2 : D → D → Res D
  | .int i, .int j => .ok (.int (if j > i then j else i))
  | _, _ => .stuck
def min2 : D → D → Res D
  | .int i, .int j => .ok (.int (if j < i then j else i))
  | _, _ => .stuck
theorem ok_max2 : OpOk X W max2 (rI0 fun i j => .int (if j > i then j else i)) := ok_II0 (fun _ _ _ => .int _) (fun _ _ => rfl) (nn fun a b => by cases a <;> cases b <;> first | exact .inl rfl | exact .inr ⟨_, _, rfl, rfl⟩)
theorem ok_min2 : OpOk X W min2 (rI0 fun i j => .int (if j < i then j else i)) := ok_II0 (fun _ _ _ => .int _) (fun _ _ => rfl) (nn fun a b => by cases a <;> cases b <;> first | exact .inl rfl | exact .inr ⟨_, _, rfl, rfl⟩)
theorem pd_max2 {e2 : Expr} (hc : X.calm = true) (hg : Gl X "max") (hm : X.mg "max" = none) (ha : PAD X W [e, e2] fs) (he : starEach [e, e2] X.env = (false, eval e X.env) :: starEach [e2] X.env := by rfl) (hpl : (backTo pos (starEach [e2] X.env)).any (·.1) = false := by rfl) :
    PD X W (.Call (.Name "max" p) [e, e2] [] pos) (fCall (op2 max2) fs) := pd_callB (call_max2 hc) (ok_op2 ok_max2 fun v u H Q ⟨i, j, e1, e2, q⟩ => ⟨i, j, by rw [e1, e2], q⟩) hg hm (by decide +kernel) ha (by decide) (by decide) he hpl
theorem pd_min2 {e2 : Expr} (hc : X.calm = true) (hg : Gl X "min") (hm : X.mg "min" = none) (ha : PAD X W [e, e2] fs) (he : starEach [e, e2] X.env = (false, eval e X.env) :: starEach [e2] X.env := by rfl) (hpl : (backTo pos (starEach [e2] X.env)).any (·.1) = false := by rfl) :
    PD X W (.Call (.Name "min" p) [e, e2] [] pos) (fCall (op2 min2) fs) := pd_callB (call_min2 hc) (ok_op2 ok_min2 fun v u H Q ⟨i, j, e1, e2, q⟩ => ⟨i, j, by rw [e1, e2], q⟩) hg hm (by decide +kernel) ha (by decide) (by decide) he hpl
def list1 : D → Res D
  | .lst _ ds => .ok (.lst .ow ds)
  | .tup ds => .ok (.lst .ow ds)
  | _ => .stuck
theorem ok_list : UnOk X W list1 (fun x H Q => ∃ p ys, x = .ref p ∧ (SqL X.K H p ys ∨ SqT X.K H p ys) ∧ ∀ l, H l = none → Q (.ref l) (upd H l (.lst ys))) := by
  intro H0 F0 ρ σ F H F2 H2 v d Q r r2 g x p
  cases d with
  | lst t ds =>
    obtain ⟨l, xs, rfl, hx, rx⟩ := x.lst r2.fh
    exact ⟨l, xs, rfl, .inl hx.sq, fun q n => p.at r2 g (Gr.alloc n) (same_updF r2.fh n) (RX.newL g.hh r2.fh n rx)⟩
  | tup ds =>
    obtain ⟨l, xs, rfl, hx, rx⟩ := x.tup r2.fh
    exact ⟨l, xs, rfl, .inr (.inl hx), fun q n => p.at r2 g (Gr.alloc n) (same_updF r2.fh n) (RX.newL g.hh r2.fh n rx)⟩
  | _ => exact p.elim
theorem pd_list (hg : Gl X "list") (hm : X.mg "list" = none) (ha : PAD X W [e] fs) (he : starEach [e] X.env = (false, eval e X.env) :: starEach [] X.env := by rfl) (hpl : (backTo pos (starEach [] X.env)).any (·.1) = false := by rfl) :
    PD X W (.Call (.Name "list" p) [e] [] pos) (fCall (op1 list1) fs) := pd_callTy call_list_of (ok_op1 ok_list fun v H Q ⟨p, ys, e1, h⟩ => ⟨p, ys, by rw [e1], h⟩) hg hm (by decide +kernel) ha (by decide) (by decide) he hpl
def tuple1 : D → Res D
  | .lst _ ds => .ok (.tup ds)
  | .tup ds => .ok (.tup ds)
  | _ => .stuck
theorem ok_tuple : UnOk X W tuple1 (fun x H Q => ∃ p ys, x = .ref p ∧ ((SqL X.K H p ys ∧ ∀ l o, H l = none → TupO o → Q (.ref l) (upd H l (.frz o (.tup ys)))) ∨ (SqT X.K H p ys ∧ Q (.ref p) H))) := by
  intro H0 F0 ρ σ F H F2 H2 v d Q r r2 g x p
  cases d with
  | lst t ds =>
    obtain ⟨l, xs, rfl, hx, rx⟩ := x.lst r2.fh
    exact ⟨l, xs, rfl, .inl ⟨hx.sq, fun q ob n to => p.at r2 g (Gr.allocF r2.fh n) (same_updB r2.fh) (RX.newT to (same_none r2.fh n) rx)⟩⟩
  | tup ds =>
    obtain ⟨l, xs, rfl, hx, rx⟩ := x.tup r2.fh
    exact ⟨l, xs, rfl, .inr ⟨.inl hx, p.here r2 g (RX.fz (x.rep rfl))⟩⟩
  | _ => exact p.elim
theorem pd_tuple (hg : Gl X "tuple") (hm : X.mg "tuple" = none) (ha : PAD X W [e] fs) (he : starEach [e] X.env = (false, eval e X.env) :: starEach [] X.env := by rfl) (hpl : (backTo pos (starEach [] X.env)).any (·.1) = false := by rfl) :
    PD X W (.Call (.Name "tuple" p) [e] [] pos) (fCall (op1 tuple1) fs) := pd_callTy call_tuple_ofN (ok_op1 ok_tuple fun v H Q ⟨p, ys, e1, h⟩ => ⟨p, ys, by rw [e1], h⟩) hg hm (by decide +kernel) ha (by decide) (by decide) he hpl
end
end Dl
namespace Dl
open PySem PySem.Spec PyProof.Rows L2

/-! ### what a def promises -/
/-- no list, dict, object within -/
def D.pure : D → Bool
  | .tup ds => pures ds
  | .lst _ _ => false
  | .dic _ _ => false
  | .obj _ _ _ _ => false
  | _ => true
where pures : List D → Bool
  | [] => true
  | d :: ds => D.pure d && pures ds
/-- what leans on nothing frozen -/
def D.flat : D → Bool
  | .lst .ow ds => D.pure.pures ds
  | d => d.pure
def FRes (F0 H : Hp) (w : World) (K : PySem.W.Frag) (mg : Str → Option Value) (r : Res D) (Q : VK) (E : XK) : Prop := match r with
  | .ok d => ∀ F' H' v, Gr F0 H F' H' → Same F' H' → RX w K mg F' H H' v d → Q v H'
  | .exc c => ∀ F' H' C, Gr F0 H F' H' → Same F' H' → mg c = some (.ref C) → E (.ref C) none H'
  | .stuck => False
def spD (w : World) (K : PySem.W.Frag) (mg : Str → Option Value) (n : Nat) (F : List D → Res D) : Sp := fun vs H Q E =>
  ∃ F0 ds, Same F0 H ∧ Reps w K mg F0 vs ds ∧ vs.length = n ∧ FRes F0 H w K mg (F ds) Q E
/-- the last defaults, j of them lacking -/
def DflOk (w : World) (K : PySem.W.Frag) (mg : Str → Option Value) (fd : FuncData) (ps : List Str) (dfl : List D) : Prop :=
  ∃ (dvs : List V) (ds : List Value), Binds K fd ps ds ∧ Vals dvs ds ∧ ∀ F : Hp, Reps w K mg F dvs dfl
/-- the def named x keeps F; dfls: the defaults that a call may lack -/
def FnD (P : Program) (w : World) (K : PySem.W.Frag) (mg : Str → Option Value) (base : Heap) (k : Nat) (x : Str) (ps : List Str) (dfls : List (List D)) (F : List D → Res D) : Prop :=
  ∃ (f : Addr) (fd : FuncData), mg x = some (.ref f) ∧ PySem.W.keepIn K (.ref f) = true ∧ FnOk P w K mg base (L2.CX P w) k f fd ps (spD w K mg ps.length F) ∧ (∀ dfl ∈ dfls, DflOk w K mg fd ps dfl) ∧ (∀ ds, ds.length ≠ ps.length → F ds = .stuck) ∧ ∃ o od osl, K.lookup f = some ⟨o, od, .func fd, osl⟩

/-! ### a call -/
section
variable {X : Cx} {W : WX} {H0 F0 : Hp} {ρ : DEnv} {σ : L2.St} {F H F' H' : Hp}
/-- where a variable's own thing is shown -/
def Vw (vs : List V) (ds : List D) (a : Addr) : Prop := ∃ (i : Nat) (d : D), vs[i]? = some (V.ref a) ∧ ds[i]? = some d ∧ d.tg = .vw
theorem pure_rep {w : World} {K : PySem.W.Frag} {mg : Str → Option Value} {F1 F2 : Hp} (h : ∀ a xs, TRd F1 a xs → TRd F2 a xs) : ∀ {v : V} {d : D}, Rep w K mg F1 v d → d.pure = true → Rep w K mg F2 v d := by
  have main : ∀ n, (∀ v d, sizeOf d < n → Rep w K mg F1 v d → d.pure = true → Rep w K mg F2 v d) ∧ (∀ vs ds, sizeOf ds < n → Reps w K mg F1 vs ds → D.pure.pures ds = true → Reps w K mg F2 vs ds) := by
    intro n
    induction n with
    | zero => exact ⟨fun _ _ z => absurd z (Nat.not_lt_zero _), fun _ _ z => absurd z (Nat.not_lt_zero _)⟩
    | succ n ih =>
      refine ⟨fun v d hn r p => ?_, fun vs ds hn r p => ?_⟩
      · cases r with
        | non => exact .non
        | bl b => exact .bl b
        | int b => exact .int b
        | str b => exact .str b
        | tup a b => exact .tup (h _ _ a) (ih.2 _ _ (by simp at hn; omega) b (by simpa only [D.pure] using p))
        | lst a b => simp [D.pure] at p
        | dic a b => simp [D.pure] at p
        | obj a b => simp [D.pure] at p
      · cases r with
        | nil => exact .nil
        | cons a b =>
          simp only [D.pure.pures, Bool.and_eq_true] at p
          exact .cons (ih.1 _ _ (by simp at hn; omega) a p.1) (ih.2 _ _ (by simp at hn; omega) b p.2)
  intro v d r p
  exact (main (sizeOf d + 1)).1 v d (Nat.lt_succ_self _) r p
theorem pures_reps {w : World} {K : PySem.W.Frag} {mg : Str → Option Value} {F1 F2 : Hp} (h : ∀ a xs, TRd F1 a xs → TRd F2 a xs) : ∀ {vs : List V} {ds : List D}, Reps w K mg F1 vs ds → D.pure.pures ds = true → Reps w K mg F2 vs ds
  | _, _, .nil, _ => .nil
  | _, _, .cons a b, p => by
    simp only [D.pure.pures, Bool.and_eq_true] at p
    exact .cons (pure_rep h a p.1) (pures_reps h b p.2)
/-- temporaries are frozen, what variables show is not -/
theorem RXs.freezeV {H1 : Hp} (r : R X H0 F0 ρ σ F H) : ∀ {F1 : Hp} {vs : List V} {ds : List D}, R X H0 F0 ρ σ F1 H1 → Gr F H F1 H1 → (∃ Fx, Same Fx F1 ∧ RXs X Fx H H1 vs ds) →
    ∃ F2, R X H0 F0 ρ σ F2 H1 ∧ Gr F H F2 H1 ∧ Same F1 F2 ∧ ∀ (i : Nat) v d, vs[i]? = some v → ds[i]? = some d → (d.tg ≠ .vw ∧ Rep X.w X.K X.mg F2 v (d.re .fz)) ∨ (d.tg = .vw ∧ ∃ a o, v = .ref a ∧ H1 a = some o ∧ Cont X.w X.K X.mg F2 a o d)
  | F1, _, _, r1, g, ⟨Fx, s, .nil⟩ => ⟨F1, r1, g, Same.refl _, fun i v d h => by simp at h⟩
  | F1, _, _, r1, g, ⟨Fx, s, .cons (v := v) (d := d) (ds := ds) x xs⟩ => by
    have head : ∃ F2, R X H0 F0 ρ σ F2 H1 ∧ Gr F H F2 H1 ∧ Same F1 F2 ∧ ((d.tg ≠ .vw ∧ Rep X.w X.K X.mg F2 v (d.re .fz)) ∨ (d.tg = .vw ∧ ∃ a o, v = .ref a ∧ H1 a = some o ∧ Cont X.w X.K X.mg F2 a o d)) := by
      by_cases t : d.tg = .vw
      · refine ⟨F1, r1, g, Same.refl _, .inr ⟨t, ?_⟩⟩
        unfold RX at x
        rw [t] at x
        obtain ⟨a, o, e, _, h3, h4⟩ := x
        exact ⟨a, o, e, h3, h4.mono s⟩
      · obtain ⟨F2, r2, g2, s2, q⟩ := ((x.fzAble t).mono s).freeze r r1 g
        exact ⟨F2, r2, g2, s2, .inl ⟨t, q⟩⟩
    obtain ⟨F2, r2, g2, s2, q⟩ := head
    obtain ⟨F3, r3, g3, s3, qs⟩ := RXs.freezeV r r2 g2 ⟨Fx, s.trans s2, xs⟩
    refine ⟨F3, r3, g3, s2.trans s3, fun i v' d' h1 h2 => ?_⟩
    cases i with
    | zero =>
      simp only [List.getElem?_cons_zero, Option.some.injEq] at h1 h2
      subst h1 h2
      rcases q with ⟨t, q⟩ | ⟨t, a, o, e, h3, h4⟩
      · exact .inl ⟨t, q.mono s3⟩
      · exact .inr ⟨t, a, o, e, h3, h4.mono s3⟩
    | succ i => exact qs i v' d' (by simpa using h1) (by simpa using h2)
theorem Reps.of_get {w : World} {K : PySem.W.Frag} {mg : Str → Option Value} {F : Hp} : ∀ {vs : List V} {ds : List D}, vs.length = ds.length → (∀ (i : Nat) v d, vs[i]? = some v → ds[i]? = some d → Rep w K mg F v d) → Reps w K mg F vs ds
  | [], [], _, _ => .nil
  | [], _ :: _, h, _ => by simp at h
  | _ :: _, [], h, _ => by simp at h
  | v :: vs, d :: ds, h, q => .cons (q 0 v d rfl rfl) (Reps.of_get (by simpa using h) fun i v d h1 h2 => q (i + 1) v d (by simpa using h1) (by simpa using h2))
def anyVw (ds : List D) : Bool := ds.any fun d => decide (d.tg = .vw)
/-- a call's sense over data -/
def fCallF (F : List D → Res D) (fs : DA) : DE := fun ρ => (fs ρ).bind fun ds => (F (ds.map (D.re .fz))).bind fun d => if anyVw ds = true → d.flat = true then .ok d else .stuck
open Classical in
/-- the frozen part with what variables show beside it -/
noncomputable def withVw (F2 H1 : Hp) (P : Addr → Prop) : Hp := fun b => match F2 b with
  | some o => some o
  | none => if P b then H1 b else none
open Classical in
noncomputable def lessVw (F2 F' : Hp) (P : Addr → Prop) : Hp := fun b => if P b ∧ F2 b = none then none else F' b
theorem call_run {F1 H1 : Hp} {vs : List V} {ds dfl : List D} {dvs : List V} {Fn : List D → Res D} {n : Nat} {Q : VK} (r : R X H0 F0 ρ σ F H) (r1 : R X H0 F0 ρ σ F1 H1) (g1 : Gr F H F1 H1) (x : RXs X F1 H H1 vs ds) (hn : vs.length + dvs.length = n) (hd : ∀ F : Hp, Reps X.w X.K X.mg F dvs dfl)
    (p : Post X W (RXX X) H0 F0 ρ σ F H ((Fn (ds.map (D.re .fz) ++ dfl)).bind fun d => if anyVw ds = true → d.flat = true then .ok d else .stuck) Q) : spD X.w X.K X.mg n Fn (vs ++ dvs) H1 Q (WE W σ) := by
  obtain ⟨F2, r2, g2, s2, q⟩ := RXs.freezeV r r1 g1 ⟨F1, Same.refl _, x⟩
  have hl := x.length
  have w0 : ∀ b o, F2 b = some o → withVw F2 H1 (Vw vs ds) b = some o := fun b o e => by unfold withVw; rw [e]
  have w1 : ∀ b, F2 b = none → withVw F2 H1 (Vw vs ds) b ≠ none → Vw vs ds b ∧ withVw F2 H1 (Vw vs ds) b = H1 b := fun b e z => by
    unfold withVw at z ⊢
    rw [e] at z ⊢
    by_cases c : Vw vs ds b
    · simp only [if_pos c]; exact ⟨c, trivial⟩
    · simp only [if_neg c] at z; exact absurd rfl z
  have w2 : ∀ b, Vw vs ds b → withVw F2 H1 (Vw vs ds) b = H1 b := fun b c => by
    unfold withVw
    cases e : F2 b with
    | some o => simp only; exact (r2.fh _ _ e).symm
    | none => simp only [if_pos c]
  have s3 : Same F2 (withVw F2 H1 (Vw vs ds)) := w0
  have h3 : Same (withVw F2 H1 (Vw vs ds)) H1 := fun b o e => by
    cases z : F2 b with
    | some u => rw [w0 b u z] at e; cases e; exact r2.fh _ _ z
    | none => rw [← (w1 b z (by rw [e]; simp)).2]; exact e
  have reps : Reps X.w X.K X.mg (withVw F2 H1 (Vw vs ds)) vs (ds.map (D.re .fz)) := by
    refine Reps.of_get (by rw [List.length_map]; exact hl) fun i v d e1 e2 => ?_
    rw [List.getElem?_map] at e2
    cases e3 : ds[i]? with
    | none => rw [e3] at e2; cases e2
    | some d' =>
      rw [e3] at e2
      cases e2
      rcases q i v d' e1 e3 with ⟨_, z⟩ | ⟨t, a, o, rfl, z, c⟩
      · exact z.mono s3
      · exact (c.mono s3).rep (by rw [w2 a ⟨i, d', e1, e3, t⟩]; exact z)
  refine ⟨withVw F2 H1 (Vw vs ds), ds.map (D.re .fz) ++ dfl, h3, reps.append (hd _), by rw [List.length_append]; exact hn, ?_⟩
  -- the variables' own things come back
  have back : ∀ {F' H' : Hp}, Gr (withVw F2 H1 (Vw vs ds)) H1 F' H' → Same F' H' → Gr F2 H1 (lessVw F2 F' (Vw vs ds)) H' ∧ Same (lessVw F2 F' (Vw vs ds)) H' := fun {F' H'} g s => by
    refine ⟨⟨fun b o z => ?_, g.hh, fun b z => ?_⟩, fun b o z => ?_⟩
    · unfold lessVw
      rw [if_neg (by rw [z]; rintro ⟨_, k⟩; cases k)]
      exact g.ff _ _ (w0 _ _ z)
    · unfold lessVw at z
      by_cases c : Vw vs ds b ∧ F2 b = none
      · rw [if_pos c] at z; exact absurd rfl z
      · rw [if_neg c] at z
        rcases g.nw b z with k | k
        · refine .inl fun k2 => ?_
          exact c ⟨(w1 b k2 k).1, k2⟩
        · exact .inr k
    · unfold lessVw at z
      by_cases c : Vw vs ds b ∧ F2 b = none
      · rw [if_pos c] at z; cases z
      · rw [if_neg c] at z; exact s _ _ z
  cases e : Fn (ds.map (D.re .fz) ++ dfl) with
  | stuck => rw [e] at p; exact p.elim
  | exc c =>
    rw [e] at p
    refine fun F' H' C g s m => ?_
    obtain ⟨g4, s4⟩ := back g s
    exact p _ H' C (r2.grow g4 s4) (g2.trans g4) m
  | ok d =>
    rw [e] at p
    obtain ⟨fl, p⟩ := Post.guard (c := anyVw ds = true → d.flat = true) p
    refine fun F' H' v g s y => ?_
    obtain ⟨g4, s4⟩ := back g s
    refine p.here (r2.grow g4 s4) (g2.trans g4) (RX.start ?_ g2.hh)
    by_cases hv : anyVw ds = true
    · -- what is told leans on tuples alone
      have hf := fl hv
      have tups : ∀ a xs, TRd F' a xs → TRd (lessVw F2 F' (Vw vs ds)) a xs := fun a xs z => by
        have nope : ∀ u, F' a = some u → (∀ o, u ≠ .lst o) → (∀ φ, u ≠ .ext φ) → (∀ C dx fs, u ≠ .ins C dx fs) → ¬ (Vw vs ds a ∧ F2 a = none) := fun u e1 n1 n2 n3 ⟨c, c2⟩ => by
          obtain ⟨i, d', h1, h2, t⟩ := c
          rcases q i _ d' h1 h2 with ⟨k, _⟩ | ⟨_, b, o, eb, ho, hc⟩
          · exact k t
          · cases eb
            have e2 := g.ff _ _ ((w2 a ⟨i, d', h1, h2, t⟩).trans ho)
            rw [e1] at e2
            cases e2
            cases d' with
            | lst t' ds' => obtain ⟨xs', e3, _⟩ := hc; exact n1 _ e3
            | dic t' ds' => obtain ⟨xs', ob', e3, _⟩ := hc; exact n2 _ e3
            | obj t' c' ps' ds' => obtain ⟨C', dx', xs', _, e3, _⟩ := hc; exact n3 _ _ _ e3
            | _ => exact hc.elim
        obtain ⟨o, z, to⟩ := z
        refine ⟨o, ?_, to⟩
        unfold lessVw
        rw [if_neg (nope _ z (fun _ k => nomatch k) (fun _ k => nomatch k) (fun _ _ _ k => nomatch k))]
        exact z
      unfold RX at y ⊢
      cases t : d.tg with
      | fz =>
        rw [t] at y
        refine pure_rep tups y ?_
        cases d with
        | lst t' ds' => cases t; simp [D.flat, D.pure] at hf
        | _ => exact hf
      | vw =>
        cases d with
        | lst t' ds' => cases t; simp [D.flat, D.pure] at hf
        | dic t' ds' => cases t; simp [D.flat, D.pure] at hf
        | obj t' c' ps' ds' => simp [D.flat, D.pure] at hf
        | _ => cases t
      | ow =>
        rw [t] at y
        obtain ⟨a, o, rfl, h1, h2, h3', h4⟩ := y
        refine ⟨a, o, rfl, h1, ?_, h3', ?_⟩
        · unfold lessVw
          by_cases c : Vw vs ds a ∧ F2 a = none
          · rw [if_pos c]
          · rw [if_neg c]; exact h2
        · cases d with
          | lst t' ds' =>
            cases t
            obtain ⟨xs', e3, e4⟩ := h4
            exact ⟨xs', e3, pures_reps tups e4 (by simpa only [D.flat] using hf)⟩
          | dic t' ds' => cases t; simp [D.flat, D.pure] at hf
          | obj t' c' ps' ds' => simp [D.flat, D.pure] at hf
          | _ => cases t
    · -- nothing was shown
      have none_ : ∀ b, ¬ Vw vs ds b := fun b ⟨i, d', _, h2, t⟩ => hv (by
        unfold anyVw
        rw [List.any_eq_true]
        exact ⟨d', List.mem_of_getElem? h2, decide_eq_true t⟩)
      have e0 : lessVw F2 F' (Vw vs ds) = F' := by
        funext b
        unfold lessVw
        rw [if_neg (fun k => none_ b k.1)]
      rw [e0]
      exact y
variable {x : Str} {k : Nat} {ps : List Str} {dfls : List (List D)} {dfl : List D} {Fn : List D → Res D} {p pos : Pos} {e : Expr} {es : List Expr} {fs : DA}
/-- f(e, ..): dfl the defaults that fill up -/
theorem pd_callD (dfl : List D) (G : FnD X.prog X.w X.K X.mg X.base k x ps dfls Fn) (hm : dfl ∈ dfls) (hr : Room k X.A) (tk : Takes X W) (hg : Gl X x) (ha : PAD X W (e :: es) fs) (hdb : (x == ("__debug__" : Str)) = false := by decide)
    (he : starEach (e :: es) X.env = (false, eval e X.env) :: starEach es X.env := by rfl) (hpl : (backTo pos (starEach es X.env)).any (·.1) = false := by rfl) :
    PD X W (.Call (.Name x p) (e :: es) [] pos) (fCallF (fun ds => Fn (ds ++ dfl)) fs) := by
  obtain ⟨f, fd, g1, g2, g3, g4, g5, _⟩ := G
  obtain ⟨dvs, dss, b1, b2, b3⟩ := g4 dfl hm
  refine (pe_callSD g3 hr hg g1 g2 b1 b2 (passAt tk) ha hdb he hpl).imp fun σ H Q ⟨H0, F0, ρ, F, r0, p⟩ => ⟨H0, F0, ρ, F, r0, p.bind (Gr.refl _ _) fun F1 H1 vs ds _ r1 g1 x1 p1 => ?_⟩
  have l1 := x1.length
  have l2 := (b3 F).length
  by_cases c : (ds.map (D.re .fz) ++ dfl).length = ps.length
  · exact call_run r0 r1 g1 x1 (by rw [l1, l2]; rw [List.length_append, List.length_map] at c; exact c) b3 p1
  · dsimp only at p1
    rw [g5 _ c] at p1
    exact p1.elim
theorem pd_call (G : FnD X.prog X.w X.K X.mg X.base k x ps dfls Fn) (hm : [] ∈ dfls) (hr : Room k X.A) (tk : Takes X W) (hg : Gl X x) (ha : PAD X W (e :: es) fs) (hdb : (x == ("__debug__" : Str)) = false := by decide)
    (he : starEach (e :: es) X.env = (false, eval e X.env) :: starEach es X.env := by rfl) (hpl : (backTo pos (starEach es X.env)).any (·.1) = false := by rfl) :
    PD X W (.Call (.Name x p) (e :: es) [] pos) (fCallF Fn fs) := by
  have h := pd_callD (p := p) [] G hm hr tk hg ha hdb he hpl
  have e1 : (fun ds : List D => Fn (ds ++ [])) = Fn := by funext ds; rw [List.append_nil]
  rw [e1] at h
  exact h
end
end Dl
namespace Dl
open PySem PySem.Spec PyProof.Rows L2

inductive SR where
  | next (ρ : DEnv) | ret (d : D) | brk (ρ : DEnv) | cont (ρ : DEnv) | exc (c : Str) (ρ : DEnv) | stuck
abbrev DS := DEnv → SR
def SPost (X : Cx) (W : WX) (H0 F0 : Hp) (D : Ends) : SR → Prop
  | .next ρ => ∀ σ F H, R X H0 F0 ρ σ F H → D.nx σ H
  | .brk ρ => ∀ σ F H, R X H0 F0 ρ σ F H → D.bk σ H
  | .cont ρ => ∀ σ F H, R X H0 F0 ρ σ F H → D.ct σ H
  | .ret d => ∀ F H v, Gr F0 H0 F H → Same F H → RX X.w X.K X.mg F H0 H v d → D.rt v H
  | .exc c ρ => ∀ σ F H C, R X H0 F0 ρ σ F H → X.mg c = some (.ref C) → W (.ref C) none σ H
  | .stuck => False
def tDS (X : Cx) (W : WX) (g : DS) : TS := fun D σ H => ∃ H0 F0 ρ F, R X H0 F0 ρ σ F H ∧ SPost X W H0 F0 D (g ρ)
def PSD (X : Cx) (W : WX) (st : Stmt) (g : DS) : Prop := PS X st (tDS X W g)
def PSSD (X : Cx) (W : WX) (st : List Stmt) (g : DS) : Prop := PSs X st (tDS X W g)

/-- an expression first, then what its value leads to -/
def Res.toS {α : Type} (r : Res α) (ρ : DEnv) (k : α → SR) : SR := match r with
  | .ok a => k a
  | .exc c => .exc c ρ
  | .stuck => .stuck
@[simp] theorem Res.ok_toS {α : Type} (a : α) (ρ : DEnv) (k : α → SR) : (Res.ok a).toS ρ k = k a := rfl
@[simp] theorem Res.exc_toS {α : Type} (c : Str) (ρ : DEnv) (k : α → SR) : (Res.exc c : Res α).toS ρ k = .exc c ρ := rfl
@[simp] theorem Res.stuck_toS {α : Type} (ρ : DEnv) (k : α → SR) : (Res.stuck : Res α).toS ρ k = .stuck := rfl
section
variable {X : Cx} {W : WX} {H0 F0 : Hp} {ρ : DEnv} {σ : L2.St} {F H F' H' : Hp} {D : Ends}
theorem SPost.expr {α β : Type} {rel : Hp → Hp → Hp → β → α → Prop} {r : Res α} {k : α → SR} {Q : β → Hp → Prop} (r0 : R X H0 F0 ρ σ F H) (h : SPost X W H0 F0 D (r.toS ρ k))
    (c : ∀ F1 H1 v a, r = .ok a → R X H0 F0 ρ σ F1 H1 → Gr F H F1 H1 → rel F1 H H1 v a → SPost X W H0 F0 D (k a) → Q v H1) : Post X W rel H0 F0 ρ σ F H r Q := by
  cases r with
  | ok a => exact fun F1 H1 v r1 g1 x => c F1 H1 v a rfl r1 g1 x h
  | exc e => exact fun F1 H1 C r1 g1 m => h σ F1 H1 C r1 m
  | stuck => exact h

/-! ### variables -/
theorem set_get {α : Type} {l : List α} {i j : Nat} {a b : α} (h : (l.set i a)[j]? = some b) : (i = j ∧ b = a) ∨ (i ≠ j ∧ l[j]? = some b) := by
  by_cases e : i = j
  · subst e
    by_cases hi : i < l.length
    · rw [List.getElem?_set_self hi] at h; cases h; exact .inl ⟨rfl, rfl⟩
    · rw [List.getElem?_eq_none (by simpa using hi)] at h; cases h
  · rw [List.getElem?_set_ne e] at h; exact .inr ⟨e, h⟩
/-- a variable takes a value -/
theorem Rw.setv {F1 H1 : Hp} {i : Nat} {v : V} {d : Dl.D} (r : R X H0 F0 ρ σ F H) (r1 : R X H0 F0 ρ σ F1 H1) (g : Gr F H F1 H1) (x : RX X.w X.K X.mg F1 H H1 v d) (t : d.tg ≠ .vw) : R X H0 F0 (ρ.set i (some d)) (σ.set i (some v)) F1 H1 := by
  have ow : ∀ a, d.tg = .ow → v = .ref a → H a = none := fun a e q => by
    unfold RX at x
    rw [e] at x
    obtain ⟨b, o, e1, h1, _⟩ := x
    rw [q] at e1
    cases e1
    exact h1
  refine ⟨r1.fh, r1.gr, by rw [List.length_set, List.length_set]; exact r.len, fun j e h => ?_, fun j k a dj dk h1 h2 t1 t2 s1 s2 => ?_⟩
  · rcases set_get h with ⟨rfl, q⟩ | ⟨ne, h⟩
    · cases q
      have hi : i < σ.length := by
        have := (List.getElem?_eq_some_iff.mp h).1
        rw [List.length_set] at this
        rw [← r.len]
        exact this
      refine ⟨v, List.getElem?_set_self hi, ?_⟩
      unfold RX at x
      unfold VR
      cases e : d.tg with
      | fz => rw [e] at x; exact x
      | vw => exact (t e).elim
      | ow =>
        rw [e] at x
        obtain ⟨a, o, rfl, h1, h2, h3, h4⟩ := x
        exact ⟨a, o, rfl, same_none r.gr.hh h1, h2, h3, h4⟩
    · obtain ⟨u, e1, e2⟩ := r1.var j e h
      exact ⟨u, by rw [List.getElem?_set_ne ne]; exact e1, e2⟩
  · have clash : ∀ (j : Nat) a dj, i ≠ j → ρ[j]? = some (some dj) → dj.tg = .ow → σ[j]? = some (some (.ref a)) → d.tg = .ow → v = .ref a → False := fun j a dj ne h1 t1 s1 td ev => by
      obtain ⟨b, o, e1, _, _, e4, _⟩ := r.own h1 t1
      rw [s1] at e1
      cases e1
      rw [ow a td ev] at e4
      cases e4
    rcases set_get h1 with ⟨rfl, q1⟩ | ⟨n1, h1⟩
    · rcases set_get h2 with ⟨rfl, q2⟩ | ⟨n2, h2⟩
      · rfl
      · cases q1
        rcases set_get s1 with ⟨_, q3⟩ | ⟨n3, _⟩
        · cases q3
          rw [List.getElem?_set_ne n2] at s2
          exact (clash k a dk n2 h2 t2 s2 t1 rfl).elim
        · exact (n3 rfl).elim
    · rcases set_get h2 with ⟨rfl, q2⟩ | ⟨n2, h2⟩
      · cases q2
        rcases set_get s2 with ⟨_, q3⟩ | ⟨n3, _⟩
        · cases q3
          rw [List.getElem?_set_ne n1] at s1
          exact (clash j a dj n1 h1 t1 s1 t2 rfl).elim
        · exact (n3 rfl).elim
      · rw [List.getElem?_set_ne n1] at s1
        rw [List.getElem?_set_ne n2] at s2
        exact r.dis j k a dj dk h1 h2 t1 t2 s1 s2
/-- a variable takes a frozen value, nothing else happens -/
theorem Rw.setf {i : Nat} {v : V} {d : Dl.D} (r : R X H0 F0 ρ σ F H) (x : Rep X.w X.K X.mg F v d) : R X H0 F0 (ρ.set i (some d)) (σ.set i (some v)) F H :=
  r.setv r (Gr.refl _ _) (RX.fz x) (by rw [x.tg]; decide)
/-- a variable's own thing is changed -/
theorem Rw.change {i : Nat} {a : Addr} {o : HO} {d d' : Dl.D} (r : R X H0 F0 ρ σ F H) (e : ρ[i]? = some (some d)) (t : d.tg = .ow) (s : σ[i]? = some (some (.ref a))) (t' : d'.tg = .ow) (c : Cont X.w X.K X.mg F a o d') : R X H0 F0 (ρ.set i (some d')) σ F (upd H a o) := by
  obtain ⟨b, u, e1, e2, e3, e4, e5⟩ := r.own e t
  rw [s] at e1
  cases e1
  have hl : i < ρ.length := (List.getElem?_eq_some_iff.mp e).1
  refine ⟨fun z w q => ?_, ⟨r.gr.ff, fun z w q => ?_, r.gr.nw⟩, by rw [List.length_set]; exact r.len, fun j f h => ?_, fun j k z dj dk h1 h2 t1 t2 s1 s2 => ?_⟩
  · rw [upd_ne (ne_of_none q e3)]; exact r.fh _ _ q
  · rw [upd_ne (ne_of_none q e2)]; exact r.gr.hh _ _ q
  · rcases set_get h with ⟨rfl, q⟩ | ⟨ne, h⟩
    · cases q
      refine ⟨_, s, ?_⟩
      unfold VR
      rw [t']
      exact ⟨a, o, rfl, e2, e3, upd_same, c⟩
    · obtain ⟨v, f1, f2⟩ := r.var j f h
      refine ⟨v, f1, ?_⟩
      unfold VR at f2 ⊢
      cases tf : f.tg with
      | fz => rw [tf] at f2; exact f2
      | vw => rw [tf] at f2; exact f2
      | ow =>
        rw [tf] at f2
        obtain ⟨b, p, rfl, q1, q2, q3, q4⟩ := f2
        refine ⟨b, p, rfl, q1, q2, ?_, q4⟩
        rw [upd_ne fun k => ne (by rw [k] at f1; exact r.dis i j a d f e h t tf s f1)]
        exact q3
  · have old : ∀ (j : Nat) dj, (ρ.set i (some d'))[j]? = some (some dj) → dj.tg = .ow → ∃ f, ρ[j]? = some (some f) ∧ f.tg = .ow := fun j dj h t => by
      rcases set_get h with ⟨rfl, q⟩ | ⟨_, h⟩
      · exact ⟨d, e, by assumption⟩
      · exact ⟨dj, h, t⟩
    obtain ⟨f1, p1, p2⟩ := old j dj h1 t1
    obtain ⟨f2, p3, p4⟩ := old k dk h2 t2
    exact r.dis j k z f1 f2 p1 p3 p2 p4 s1 s2
/-- a variable's own thing is frozen for good -/
def frzE (ρ : DEnv) (i : Nat) : DEnv := match ρ[i]? with
  | some (some d) => if d.tg = .ow then ρ.set i (some (d.re .fz)) else ρ
  | _ => ρ
theorem Rw.frz1 (r : R X H0 F0 ρ σ F H) (i : Nat) : ∃ F', R X H0 F0 (frzE ρ i) σ F' H := by
  unfold frzE
  cases e : ρ[i]? with
  | none => exact ⟨F, r⟩
  | some od =>
    cases od with
    | none => exact ⟨F, r⟩
    | some d =>
      by_cases t : d.tg = .ow
      · obtain ⟨a, o, e1, e2, e3, e4, e5⟩ := r.own e t
        have g : Gr F0 H0 (upd F a o) H := r.gr.freeze e2 e3
        have rp : Rep X.w X.K X.mg (upd F a o) (.ref a) (d.re .fz) := (e5.mono (same_upd_none e3)).rep upd_same
        simp only [t, if_true]
        refine ⟨upd F a o, same_freeze r.fh e4, g, by rw [List.length_set]; exact r.len, fun j f h => ?_, fun j k z dj dk h1 h2 t1 t2 s1 s2 => ?_⟩
        · rcases set_get h with ⟨rfl, q⟩ | ⟨ne, h⟩
          · cases q
            refine ⟨_, e1, ?_⟩
            unfold VR
            rw [rp.tg]
            exact rp
          · obtain ⟨v, f1, f2⟩ := r.var j f h
            refine ⟨v, f1, ?_⟩
            unfold VR at f2 ⊢
            cases tf : f.tg with
            | fz => rw [tf] at f2; exact f2.mono (same_upd_none e3)
            | vw => rw [tf] at f2; exact f2
            | ow =>
              rw [tf] at f2
              obtain ⟨b, p, rfl, q1, q2, q3, q4⟩ := f2
              refine ⟨b, p, rfl, q1, ?_, q3, q4.mono (same_upd_none e3)⟩
              rw [upd_ne fun k => ne (by rw [k] at f1; exact r.dis i j a d f e h t tf e1 f1)]
              exact q2
        · have old : ∀ (j : Nat) dj, (ρ.set i (some (d.re .fz)))[j]? = some (some dj) → dj.tg = .ow → ρ[j]? = some (some dj) := fun j dj h t => by
            rcases set_get h with ⟨rfl, q⟩ | ⟨_, h⟩
            · cases q
              rw [rp.tg] at t
              cases t
            · exact h
          exact r.dis j k z dj dk (old j dj h1 t1) (old k dk h2 t2) t1 t2 s1 s2
      · simp only [t, if_false]
        exact ⟨F, r⟩
def sFrz (i : Nat) (g : DS) : DS := fun ρ => g (frzE ρ i)
variable {st : Stmt} {sts : List Stmt} {g g2 : DS} {e a : Expr} {fe fa : DE} {pos : Pos}
theorem psd_frz (i : Nat) (h : PSD X W st g) : PSD X W st (sFrz i g) := h.imp fun D σ H ⟨H0, F0, ρ, F, r, p⟩ => by
  obtain ⟨F', r'⟩ := r.frz1 i
  exact ⟨H0, F0, _, F', r', p⟩

/-! ### blocks -/
def sNext : DS := fun ρ => .next ρ
def SR.seq (r : SR) (g : DS) : SR := match r with
  | .next ρ => g ρ
  | r => r
@[simp] theorem SR.next_seq (ρ : DEnv) (g : DS) : (SR.next ρ).seq g = g ρ := rfl
@[simp] theorem SR.ret_seq (d : Dl.D) (g : DS) : (SR.ret d).seq g = .ret d := rfl
@[simp] theorem SR.brk_seq (ρ : DEnv) (g : DS) : (SR.brk ρ).seq g = .brk ρ := rfl
@[simp] theorem SR.cont_seq (ρ : DEnv) (g : DS) : (SR.cont ρ).seq g = .cont ρ := rfl
@[simp] theorem SR.exc_seq (c : Str) (ρ : DEnv) (g : DS) : (SR.exc c ρ).seq g = .exc c ρ := rfl
@[simp] theorem SR.stuck_seq (g : DS) : SR.stuck.seq g = .stuck := rfl
def sSeq (g g2 : DS) : DS := fun ρ => (g ρ).seq g2
theorem pssd_nil : PSSD X W [] sNext := pss_nil.imp fun D σ H ⟨H0, F0, ρ, F, r, p⟩ => p σ F H r
theorem SPost.seq {r : SR} (h : SPost X W H0 F0 D (r.seq g2)) : SPost X W H0 F0 { D with nx := tDS X W g2 D } r := by
  cases r with
  | next ρ => exact fun σ F H r => ⟨H0, F0, ρ, F, r, h⟩
  | _ => exact h
theorem pssd_cons (h1 : PSD X W st g) (h2 : PSSD X W sts g2) : PSSD X W (st :: sts) (sSeq g g2) := (pss_cons h1 h2).imp fun D σ H ⟨H0, F0, ρ, F, r, p⟩ => ⟨H0, F0, ρ, F, r, p.seq⟩
theorem pssd_one (h1 : PSD X W st g) : PSSD X W [st] g := pss_one h1
theorem psd_pass : PSD X W (.Pass pos) sNext := ps_pass.imp fun D σ H ⟨H0, F0, ρ, F, r, p⟩ => p σ F H r
theorem psd_break : PSD X W (.Break pos) (fun ρ => .brk ρ) := ps_break.imp fun D σ H ⟨H0, F0, ρ, F, r, p⟩ => p σ F H r
theorem psd_cont : PSD X W (.Continue pos) (fun ρ => .cont ρ) := ps_continue.imp fun D σ H ⟨H0, F0, ρ, F, r, p⟩ => p σ F H r
def sDrop (fe : DE) : DS := fun ρ => (fe ρ).toS ρ fun _ => .next ρ
theorem psd_expr (he : PD X W e fe) (hs : swapsWith e none pos.line X.env = pure false := by rfl) : PSD X W (.Expr e pos) (sDrop fe) := (ps_expr he hs).imp fun D σ H ⟨H0, F0, ρ, F, r, p⟩ =>
  ⟨H0, F0, ρ, F, r, p.expr r fun F1 H1 v d _ r1 g1 x1 p1 => p1 σ F1 H1 r1⟩
def sRet (fe : DE) : DS := fun ρ => (fe ρ).toS ρ fun d => .ret d
theorem psd_ret (he : PD X W e fe) : PSD X W (.Return (some e) pos) (sRet fe) := (ps_ret he).imp fun D σ H ⟨H0, F0, ρ, F, r, p⟩ =>
  ⟨H0, F0, ρ, F, r, p.expr r fun F1 H1 v d _ r1 g1 x1 p1 => p1 F1 H1 v r1.gr r1.fh (x1.start r.gr.hh)⟩
/-- return x: a variable's own thing goes out -/
def sRetV (i : Nat) : DS := fun ρ => match ρ[i]? with
  | some (some d) => .ret d
  | _ => .stuck
theorem psd_retV (i : Nat) {x : Str} {p : Pos} (hN : X.N[i]? = some x := by rfl) (hv : Vis X.env.scope x := by first | exact Or.inl rfl | exact Or.inr (Or.inl rfl) | exact Or.inr (Or.inr rfl)) (hd : (x == ("__debug__" : Str)) = false := by decide)
    (hcd : (x == ("__classdict__" : Str)) = false := by decide) : PSD X W (.Return (some (.Name x p)) pos) (sRetV i) := (ps_ret (pv i hN hv hd hcd)).imp fun D σ H ⟨H0, F0, ρ, F, r, p⟩ => by
  unfold sRetV at p
  cases e : ρ[i]? with
  | none => rw [e] at p; exact p.elim
  | some o =>
    cases o with
    | none => rw [e] at p; exact p.elim
    | some d =>
      rw [e] at p
      obtain ⟨v, e1, h⟩ := r.var i d e
      refine ⟨v, e1, p F H v r.gr r.fh ?_⟩
      unfold VR at h
      unfold RX
      cases t : d.tg with
      | fz => rw [t] at h; exact h
      | vw => rw [t] at h; exact h.elim
      | ow => rw [t] at h; exact h
theorem psd_retN : PSD X W (.Return none pos) (fun _ => .ret .non) := ps_retN.imp fun D σ H ⟨H0, F0, ρ, F, r, p⟩ => p F H .non r.gr r.fh (RX.fz .non)
def sIf (c : DT) (g g2 : DS) : DS := fun ρ => (c ρ).toS ρ fun b => if b = true then g ρ else g2 ρ
theorem psd_if {c : Expr} {tc : DT} {b1 b2 : List Stmt} (hc : PTD X W c tc) (h1 : PSSD X W b1 g) (h2 : PSSD X W b2 g2) : PSD X W (.If c b1 b2 pos) (sIf tc g g2) := (ps_if hc h1 h2).imp fun D σ H ⟨H0, F0, ρ, F, r, p⟩ =>
  ⟨H0, F0, ρ, F, r, p.expr r fun F1 H1 v d _ r1 g1 x1 p1 => by
    cases x1
    cases v with
    | true => exact ⟨H0, F0, ρ, F1, r1, p1⟩
    | false => exact ⟨H0, F0, ρ, F1, r1, p1⟩⟩

/-! ### stores -/
def sSet (i : Nat) (fe : DE) : DS := fun ρ => (fe ρ).toS ρ fun d => if d.tg = .vw then .stuck else .next (ρ.set i (some d))
theorem psd_set (i : Nat) {x : Str} {pos' : Pos} (hN : X.N.Nodup) (he : PD X W e fe) (hi : X.N[i]? = some x := by rfl) (hx : Loc X.env.scope x := by first | exact Or.inl rfl | exact Or.inr rfl) (hs : swapsWith e (some (.Name x pos')) pos.line X.env = pure false := by rfl) (hf : X.fn x = true ∨ X.env.scope.names.lookup x = some .local := by first | exact .inl rfl | exact .inr rfl | assumption) :
    PSD X W (.Assign [.Name x pos'] e pos) (sSet i fe) := (ps_set hN hi hx he hs hf).imp fun D σ H ⟨H0, F0, ρ, F, r, p⟩ =>
  ⟨H0, F0, ρ, F, r, p.expr r fun F1 H1 v d _ r1 g1 x1 p1 => by
    by_cases t : d.tg = .vw
    · rw [if_pos t] at p1; exact p1.elim
    · rw [if_neg t] at p1
      exact p1 _ F1 H1 (r.setv r1 g1 x1 t)⟩
/-- targets that names make; is: their slots -/
abbrev DTg := Dl.D → DEnv → Option DEnv
structure Off (is : List Nat) (σ σ' : L2.St) : Prop where
  len : σ'.length = σ.length
  off : ∀ j, j ∉ is → σ'[j]? = σ[j]?
theorem Off.refl (is : List Nat) (σ : L2.St) : Off is σ σ := ⟨rfl, fun _ _ => rfl⟩
theorem Off.trans {is js : List Nat} {σ σ1 σ2 : L2.St} (a : Off is σ σ1) (b : Off js σ1 σ2) : Off (is ++ js) σ σ2 := ⟨b.len.trans a.len, fun j h => by
  rw [List.mem_append, not_or] at h
  exact (b.off j h.2).trans (a.off j h.1)⟩
def PGD (X : Cx) (tg : Expr) (is : List Nat) (t : DTg) : Prop := PG X tg (fun v σ H Q => ∃ H0 F0 ρ F d, R X H0 F0 ρ σ F H ∧ Rep X.w X.K X.mg F v d ∧ ∃ ρ', t d ρ = some ρ' ∧ ∀ σ', R X H0 F0 ρ' σ' F H → Off is σ σ' → Q σ' H)
def PGsD (X : Cx) (tgs : List Expr) (is : List Nat) (t : List Dl.D → DEnv → Option DEnv) : Prop := PGs X tgs (fun vs σ H Q => ∃ H0 F0 ρ F ds, R X H0 F0 ρ σ F H ∧ Reps X.w X.K X.mg F vs ds ∧ ∃ ρ', t ds ρ = some ρ' ∧ ∀ σ', R X H0 F0 ρ' σ' F H → Off is σ σ' → Q σ' H)
def gN (i : Nat) : DTg := fun d ρ => some (ρ.set i (some d))
def gT (t : List Dl.D → DEnv → Option DEnv) : DTg := fun d ρ => match d with
  | .tup ds => t ds ρ
  | _ => none
def gs0 : List Dl.D → DEnv → Option DEnv := fun ds ρ => match ds with
  | [] => some ρ
  | _ => none
def gs1 (t : DTg) (u : List Dl.D → DEnv → Option DEnv) : List Dl.D → DEnv → Option DEnv := fun ds ρ => match ds with
  | [] => none
  | d :: ds => (t d ρ).bind fun ρ' => u ds ρ'
theorem pgd_name (i : Nat) {x : Str} {pos : Pos} (hN : X.N.Nodup) (hi : X.N[i]? = some x := by rfl) (hx : Loc X.env.scope x := by first | exact Or.inl rfl | exact Or.inr rfl) (hf : X.fn x = true ∨ X.env.scope.names.lookup x = some .local := by first | exact .inl rfl | exact .inr rfl | assumption) : PGD X (.Name x pos) [i] (gN i) :=
  (pg_name hN hi hx hf).imp fun v σ H Q ⟨H0, F0, ρ, F, d, r, x, ρ', e, q⟩ => by
    cases e
    exact q _ (r.setf x) ⟨List.length_set, fun j h => List.getElem?_set_ne (fun z => h (by simp [z]))⟩
theorem _root_.L2.PGs.imp {es : List Expr} {t t' : TGs} (h : PGs X es t) (i : ∀ v σ H Q, t' v σ H Q → t v σ H Q) : PGs X es t' := ⟨fun pins s σ H v u Q I r q => h.run pins s σ H v u Q I r (i _ _ _ _ q)⟩
theorem pgsd_nil : PGsD X [] [] gs0 := pgs_nil.imp fun vs σ H Q ⟨H0, F0, ρ, F, ds, r, x, ρ', e, q⟩ => by
  cases ds with
  | nil => cases x; cases e; exact ⟨rfl, q _ r (Off.refl _ _)⟩
  | cons _ _ => cases e
theorem pgsd_cons {es : List Expr} {t : DTg} {u : List Dl.D → DEnv → Option DEnv} {is js : List Nat} (h1 : PGD X e is t) (h2 : PGsD X es js u) (hs : (assignEach (e :: es) X.env).map (·.2) = assign e X.env :: (assignEach es X.env).map (·.2) := by rfl) : PGsD X (e :: es) (is ++ js) (gs1 t u) :=
  (pgs_cons h1 h2 hs).imp fun vs σ H Q ⟨H0, F0, ρ, F, ds, r, x, ρ', e, q⟩ => by
    cases x with
    | nil => cases e
    | cons a b =>
      obtain ⟨ρ1, e1, e2⟩ := Option.bind_eq_some_iff.mp e
      exact ⟨_, _, rfl, H0, F0, ρ, F, _, r, a, ρ1, e1, fun σ' r' o => ⟨H0, F0, ρ1, F, _, r', b, ρ', e2, fun σ2 r2 o2 => q σ2 r2 (o.trans o2)⟩⟩
theorem gs_len {t : DTg} {u : List Dl.D → DEnv → Option DEnv} {n : Nat} (h : ∀ ds ρ ρ', u ds ρ = some ρ' → ds.length = n) : ∀ ds ρ ρ', gs1 t u ds ρ = some ρ' → ds.length = n + 1 := fun ds ρ ρ' e => by
  cases ds with
  | nil => cases e
  | cons d ds =>
    obtain ⟨ρ1, _, e2⟩ := Option.bind_eq_some_iff.mp e
    rw [List.length_cons, h ds ρ1 ρ' e2]
theorem gs_len0 : ∀ ds ρ ρ', gs0 ds ρ = some ρ' → ds.length = 0 := fun ds ρ ρ' e => by
  cases ds with
  | nil => rfl
  | cons _ _ => cases e
theorem pgd_tup {es : List Expr} {is : List Nat} {k : Nat} {t : List Dl.D → DEnv → Option DEnv} {n : Nat} (hc : X.calm = true) (h : PGsD X es is t) (hl : ∀ ds ρ ρ', t ds ρ = some ρ' → ds.length = n)
    (hn : (assignEach es X.env).length = n := by rfl) (hst : (assignEach es X.env).findIdx? (·.1) = none := by rfl) : PGD X (.Tuple es k pos) is (gT t) :=
  (pg_tup hc h hn hst).imp fun v σ H Q ⟨H0, F0, ρ, F, d, r, x, ρ', e, q⟩ => by
    cases d with
    | tup ds =>
      obtain ⟨a, xs, rfl, h1, h2⟩ := x.of_tup
      exact ⟨a, xs, rfl, .inl (rd_mono r.fh h1), by rw [h2.length]; exact hl _ _ _ e, H0, F0, ρ, F, ds, r, h2, ρ', e, q⟩
    | _ => cases e
/-- a target of names takes a value -/
def sAsg (t : DTg) (fe : DE) : DS := fun ρ => (fe ρ).toS ρ fun d => if d.tg = .fz then match t d ρ with
  | some ρ' => .next ρ'
  | none => .stuck else .stuck
theorem psd_asg {tg : Expr} {t : DTg} {is : List Nat} (hg : PGD X tg is t) (he : PD X W e fe) (hs : swapsWithSole [tg] e pos.line X.env = pure false := by rfl) (hw : swappedStores [tg] e X.env = pure none := by rfl)
    (h1 : (assignEach [tg] X.env).map (·.2) = [assign tg X.env] := by rfl) : PSD X W (.Assign [tg] e pos) (sAsg t fe) := (ps_asg he hg hs hw h1).imp fun D σ H ⟨H0, F0, ρ, F, r, p⟩ =>
  ⟨H0, F0, ρ, F, r, p.expr r fun F1 H1 v d _ r1 g1 x1 p1 => by
    by_cases c : d.tg = .fz
    · rw [if_pos c] at p1
      cases e : t d ρ with
      | none => rw [e] at p1; exact p1.elim
      | some ρ' =>
        rw [e] at p1
        exact ⟨H0, F0, ρ, F1, d, r1, x1.rep c, ρ', e, fun σ' r' _ => p1 σ' F1 H1 r'⟩
    · rw [if_neg c] at p1; exact p1.elim⟩
/-- a, b = x, y -/
def sPar (i j : Nat) (fs : DA) : DS := fun ρ => (fs ρ).toS ρ fun ds => match ds with
  | [d, e] => if d.tg = .fz ∧ e.tg = .fz then .next ((ρ.set i (some d)).set j (some e)) else .stuck
  | _ => .stuck
theorem psd_par (i j : Nat) {x y : Str} {a b : Expr} {fs : DA} {px py pt : Pos} {kt k2 pt2} (hc : X.calm = true) (hN : X.N.Nodup) (ha : PAD X W [a, b] fs) (hi : X.N[i]? = some x := by rfl) (hj : X.N[j]? = some y := by rfl) (hij : i ≠ j := by decide)
    (hx : X.env.scope.names.lookup x = some .local := by rfl) (hy : X.env.scope.names.lookup y = some .local := by rfl)
    (hw : swappedStores [.Tuple [.Name x px, .Name y py] kt pt] (.Tuple [a, b] k2 pt2) X.env = pure (some [x, y]) := by rfl)
    (hs : swapsWithSole [.Tuple [.Name x px, .Name y py] kt pt] (.Tuple [a, b] k2 pt2) pos.line X.env = pure false := by rfl) :
    PSD X W (.Assign [.Tuple [.Name x px, .Name y py] kt pt] (.Tuple [a, b] k2 pt2) pos) (sPar i j fs) := (ps_par hc hN hi hj hij hx hy ha hw hs).imp fun D σ H ⟨H0, F0, ρ, F, r, p⟩ =>
  ⟨H0, F0, ρ, F, r, p.expr r fun F1 H1 vs ds _ r1 g1 x1 p1 => by
    match ds, x1, p1 with
    | [d, e], x1, p1 =>
      obtain ⟨v, u, ev, y1, y2⟩ := x1.inv2
      subst ev
      by_cases c : d.tg = .fz ∧ e.tg = .fz
      · dsimp only at p1
        rw [if_pos c] at p1
        exact ⟨v, u, rfl, p1 _ F1 H1 ((r1.setf (y1.rep c.1)).setf (y2.rep c.2))⟩
      · dsimp only at p1
        rw [if_neg c] at p1; exact p1.elim
    | [], x1, p1 => exact False.elim p1
    | [_], x1, p1 => exact False.elim p1
    | _ :: _ :: _ :: _, x1, p1 => exact False.elim p1⟩
/-- x op= e over ints -/
def sAug (i : Nat) (op : Dl.D → Dl.D → Res Dl.D) (fe : DE) : DS := fun ρ => match ρ[i]? with
  | some (some d) => (fe ρ).toS ρ fun d2 => match d, d2 with
    | .int _, .int _ => (op d d2).toS ρ fun d3 => .next (ρ.set i (some d3))
    | _, _ => .stuck
  | _ => .stuck
theorem imul_okA : OpR X (inplaceOp .Mult) (rI CMulA fun i j => .int (i * j)) := opI fun _ _ _ _ _ _ _ hc q => imul_int q (mulOk_ok hc)
theorem psd_aug (i : Nat) {x : Str} {op : Operator} {f : Dl.D → Dl.D → Res Dl.D} {C : Int → Int → Prop} {gv : Int → Int → Int} {pos' : Pos} (ho : OpR X (inplaceOp op) (rI C fun i j => .int (gv i j))) (hf' : ∀ i j, f (.int i) (.int j) = .stuck ∨ (f (.int i) (.int j) = .ok (.int (gv i j)) ∧ C i j)) (hN : X.N.Nodup) (he : PD X W e fe) (hi : X.N[i]? = some x := by rfl) (hx : Loc X.env.scope x := by first | exact Or.inl rfl | exact Or.inr rfl)
    (hf : X.fn x = true ∨ X.env.scope.names.lookup x = some .local := by first | exact .inl rfl | exact .inr rfl | assumption) : PSD X W (.AugAssign (.Name x pos') op e pos) (sAug i f fe) :=
  (ps_aug hN hi hx he (ti := fun x y H Q => (rI C fun i j => V.int (gv i j)) x y H Q) (fun pins s σ H x y v u Q I rx ry h => augR ho I rx ry h) hf).imp fun D σ H ⟨H0, F0, ρ, F, r, p⟩ => by
    unfold sAug at p
    cases e : ρ[i]? with
    | none => rw [e] at p; exact p.elim
    | some o =>
      cases o with
      | none => rw [e] at p; exact p.elim
      | some d =>
        rw [e] at p
        obtain ⟨v, e1, h⟩ := r.var i d e
        refine ⟨v, e1, H0, F0, ρ, F, r, p.expr r fun F1 H1 u d2 _ r1 g1 x1 p1 => ?_⟩
        cases d with
        | int m =>
          cases d2 with
          | int n =>
            rcases hf' m n with q | ⟨q, c⟩
            · rw [q] at p1; exact p1.elim
            · rw [q] at p1
              have e2 : v = .int m := Rep.of_int h
              exact ⟨m, n, e2, x1.int, c, p1 _ F1 H1 (r1.setf (.int _))⟩
          | _ => exact p1.elim
        | _ => exact p1.elim
theorem psd_augAdd (i : Nat) {x : Str} {pos' : Pos} (hN : X.N.Nodup) (he : PD X W e fe) (hi : X.N[i]? = some x := by rfl) (hx : Loc X.env.scope x := by first | exact Or.inl rfl | exact Or.inr rfl) (hf : X.fn x = true ∨ X.env.scope.names.lookup x = some .local := by first | exact .inl rfl | exact .inr rfl | assumption) : PSD X W (.AugAssign (.Name x pos') .Add e pos) (sAug i opAdd fe) :=
  psd_aug i (C := fun _ _ => True) (gv := fun i j => i + j) (fun pins s σ H x y v u Q I rx ry ⟨i, j, e1, e2, _, q⟩ => iop_add pins s σ H x y v u Q I rx ry ⟨i, j, e1, e2, q⟩) (fun _ _ => .inr ⟨rfl, trivial⟩) hN he hi hx hf
theorem psd_augMul (i : Nat) {x : Str} {pos' : Pos} (hN : X.N.Nodup) (he : PD X W e fe) (hi : X.N[i]? = some x := by rfl) (hx : Loc X.env.scope x := by first | exact Or.inl rfl | exact Or.inr rfl) (hf : X.fn x = true ∨ X.env.scope.names.lookup x = some .local := by first | exact .inl rfl | exact .inr rfl | assumption) : PSD X W (.AugAssign (.Name x pos') .Mult e pos) (sAug i opMul fe) :=
  psd_aug i (C := CMulA) (gv := fun i j => i * j) imul_okA (fun i j => ite_or (c := mulOk i j = true) (C := CMulA i j) (fun h => h)) hN he hi hx hf
end
end Dl
namespace Dl
open PySem PySem.Spec PyProof.Rows L2

/-! ### a variable's list changes -/
section
variable {X : Cx} {W : WX} {H0 F0 : Hp} {ρ : DEnv} {σ : L2.St} {F H F' H' : Hp} {E : Ends}
/-- the list of a variable -/
def withL (ρ : DEnv) (i : Nat) (k : List D → SR) : SR := match ρ[i]? with
  | some (some (.lst .ow ds)) => k ds
  | _ => .stuck
theorem withL_of {i : Nat} {k : List D → SR} (r : R X H0 F0 ρ σ F H) (p : SPost X W H0 F0 E (withL ρ i k)) :
    ∃ ds a xs, ρ[i]? = some (some (.lst .ow ds)) ∧ σ[i]? = some (some (.ref a)) ∧ H a = some (.lst xs) ∧ Reps X.w X.K X.mg F xs ds ∧ SPost X W H0 F0 E (k ds) := by
  unfold withL at p
  split at p
  · rename_i ds e
    obtain ⟨a, o, e1, _, _, e4, xs, rfl, e6⟩ := r.own e rfl
    exact ⟨ds, a, xs, e, e1, e4, e6, p⟩
  · exact p.elim
theorem Rw.list (r : R X H0 F0 ρ σ F H) {i : Nat} {ds : List D} {a : Addr} {xs ys : List V} {es : List D} (e : ρ[i]? = some (some (.lst .ow ds))) (s : σ[i]? = some (some (.ref a))) (q : Reps X.w X.K X.mg F ys es) :
    R X H0 F0 (ρ.set i (some (.lst .ow es))) σ F (upd H a (.lst ys)) := r.change e rfl s rfl ⟨ys, rfl, q⟩
/-- the same list seen later -/
theorem Rw.listL {F1 H1 : Hp} {ds : List D} {a : Addr} {xs : List V} (r1 : R X H0 F0 ρ σ F1 H1) (g : Gr F H F1 H1) (h : H a = some (.lst xs)) (q : Reps X.w X.K X.mg F xs ds) : H1 a = some (.lst xs) ∧ Reps X.w X.K X.mg F1 xs ds := ⟨g.hh _ _ h, q.mono g.ff⟩
variable {e : Expr} {fe fi : DE} {pos p1 p2 p3 apos cpos : Pos} {x : Str}
abbrev VisT (X : Cx) (i : Nat) (x : Str) : Prop := X.N[i]? = some x ∧ Vis X.env.scope x ∧ (x == ("__debug__" : Str)) = false ∧ (x == ("__classdict__" : Str)) = false
def sApp (i : Nat) (fe : DE) : DS := fun ρ => withL ρ i fun ds => (fe ρ).toS ρ fun d => if d.tg ≠ .vw ∧ ds.length < seqMax then .next (ρ.set i (some (.lst .ow (ds ++ [d.re .fz])))) else .stuck
theorem guardS {c : Prop} [Decidable c] {r : SR} (h : SPost X W H0 F0 E (if c then r else .stuck)) : c ∧ SPost X W H0 F0 E r := by
  by_cases e : c
  · rw [if_pos e] at h; exact ⟨e, h⟩
  · rw [if_neg e] at h; exact h.elim
theorem psd_append (i : Nat) (he : PD X W e fe) (hN : X.N[i]? = some x := by rfl) (hv : Vis X.env.scope x := by first | exact Or.inl rfl | exact Or.inr (Or.inl rfl) | exact Or.inr (Or.inr rfl)) (hd : (x == ("__debug__" : Str)) = false := by decide) (hcd : (x == ("__classdict__" : Str)) = false := by decide)
    (hbase : attributeBase (.Name x p1) "append" X.env (eval (.Name x p1) X.env) = eval (.Name x p1) X.env := by rfl)
    (hfew : ((backTo cpos (starEach [e] X.env)).all (fun x => !x.1) && (backToKw cpos (keywordEach [] X.env)).all (fun x => x.1.isSome) && decide ([e].length + ([] : List Keyword).length + (if ([] : List Keyword).isEmpty then 0 else 1) < 30)) = true := by rfl)
    (hline : (apos.endLine == cpos.line) = true := by rfl) (hs : starEach [e] X.env = (false, eval e X.env) :: starEach [] X.env := by rfl) (hplain : (backTo cpos (starEach [] X.env)).any (·.1) = false := by rfl)
    (hsw : swapsWith (.Call (.Attribute (.Name x p1) "append" apos) [e] [] cpos) none pos.line X.env = pure false := by rfl) : PSD X W (.Expr (.Call (.Attribute (.Name x p1) "append" apos) [e] [] cpos) pos) (sApp i fe) :=
  (ps_expr (pe_bm PySem.F.plainAttrs_list PySem.F.slot_list_append PySem.F.type_list_append mt_append (pv i hN hv hd hcd) (pa_cons he pa_nil hs) hbase hfew hline hs hplain) hsw).imp fun D σ H ⟨H0, F0, ρ, F, r, p⟩ => by
    obtain ⟨ds, a, xs, q1, q2, q3, q4, p⟩ := withL_of r p
    refine ⟨.ref a, q2, .inl ⟨rfl, xs, .inl (.inl q3)⟩, H0, F0, ρ, F, r, p.expr r fun F1 H1 v d _ r1 g1 x1 p1 => ?_⟩
    obtain ⟨⟨c1, c2⟩, p1⟩ := guardS p1
    obtain ⟨F2, r2, g2, s2, y⟩ := RX.freeze r r1 g1 x1 c1
    obtain ⟨l1, l2⟩ := Rw.listL r2 g2 q3 q4
    exact ⟨a, xs, v, rfl, rfl, l1, by rw [q4.length, ← seqMax_eq]; exact c2, p1 _ F2 _ (r2.list (xs := xs) q1 q2 (l2.append (.cons y .nil)))⟩
/-- xs[i] = e -/
def sSetIx (i : Nat) (fi fe : DE) : DS := fun ρ => (fe ρ).toS ρ fun d => withL ρ i fun ds => (fi ρ).toS ρ fun k => match k with
  | .int z => match ixN ds.length z with
    | some j => if d.tg ≠ .vw then .next (ρ.set i (some (.lst .ow (ds.set j (d.re .fz))))) else .stuck
    | none => .stuck
  | _ => .stuck
theorem psd_setIx (i : Nat) {ix : Expr} (he : PD X W e fe) (hi : PD X W ix fi) (hN : X.N[i]? = some x := by rfl) (hv : Vis X.env.scope x := by first | exact Or.inl rfl | exact Or.inr (Or.inl rfl) | exact Or.inr (Or.inr rfl)) (hd : (x == ("__debug__" : Str)) = false := by decide) (hcd : (x == ("__classdict__" : Str)) = false := by decide)
    (ha : ∀ v, assign (.Subscript (.Name x p1) ix p2) X.env v = (do
      let ov ← holding [v] (eval (.Name x p1) X.env)
      let iv ← holding [v, ov] (eval ix X.env)
      standAt p2
      holding [v, ov, iv] (setItem ov iv v)
      release [v, ov, iv] []) := by intro _; rfl)
    (hs : swapsWithSole [.Subscript (.Name x p1) ix p2] e pos.line X.env = pure false := by rfl) (hw : swappedStores [.Subscript (.Name x p1) ix p2] e X.env = pure none := by rfl)
    (h1 : (assignEach [.Subscript (.Name x p1) ix p2] X.env).map (·.2) = [assign (.Subscript (.Name x p1) ix p2) X.env] := by rfl) : PSD X W (.Assign [.Subscript (.Name x p1) ix p2] e pos) (sSetIx i fi fe) :=
  (ps_asg he (pg_sub (pv i hN hv hd hcd) hi set_list ha) hs hw h1).imp fun D σ H ⟨H0, F0, ρ, F, r, p⟩ =>
    ⟨H0, F0, ρ, F, r, p.expr r fun F1 H1 v d _ r1 g1 x1 p1 => by
      obtain ⟨ds, a, xs, q1, q2, q3, q4, p1⟩ := withL_of r1 p1
      refine ⟨.ref a, q2, H0, F0, ρ, F1, r1, p1.expr r1 fun F2 H2 u k _ r2 g2 x2 p2 => ?_⟩
      cases k with
      | int z =>
        dsimp only at p2
        cases c : ixN ds.length z with
        | none => rw [c] at p2; exact p2.elim
        | some j =>
          rw [c] at p2
          obtain ⟨c1, p2⟩ := guardS p2
          obtain ⟨F3, r3, g3, s3, y⟩ := RX.freeze r r2 (g1.trans g2) (x1.mono g2) c1
          have l1 := g2.hh _ _ q3
          have l2 := (q4.mono g2.ff).mono s3
          exact ⟨a, xs, z, j, rfl, x2.int, l1, by rw [q4.length]; exact c, p2 _ F3 _ (r3.list (xs := xs) q1 q2 (Reps.set y j l2))⟩
      | _ => exact p2.elim⟩
/-- y = xs.pop() -/
def sPop (j i : Nat) : DS := fun ρ => withL ρ i fun ds => match ds[ds.length - 1]? with
  | some d => .next ((ρ.set i (some (.lst .ow ds.dropLast))).set j (some d))
  | none => .stuck
theorem Reps.dropLast {w : World} {K : PySem.W.Frag} {mg : Str → Option Value} {F : Hp} {vs : List V} {ds : List D} (h : Reps w K mg F vs ds) : Reps w K mg F vs.dropLast ds.dropLast := by
  rw [List.dropLast_eq_take, List.dropLast_eq_take, h.length]
  exact h.take _
theorem psd_pop (j i : Nat) {y : Str} (hN' : X.N.Nodup) (hij : i ≠ j := by decide) (hj : X.N[j]? = some y := by rfl) (hy : Loc X.env.scope y := by first | exact Or.inl rfl | exact Or.inr rfl) (hN : X.N[i]? = some x := by rfl) (hv : Vis X.env.scope x := by first | exact Or.inl rfl | exact Or.inr (Or.inl rfl) | exact Or.inr (Or.inr rfl)) (hd : (x == ("__debug__" : Str)) = false := by decide) (hcd : (x == ("__classdict__" : Str)) = false := by decide)
    (hbase : attributeBase (.Name x p1) "pop" X.env (eval (.Name x p1) X.env) = eval (.Name x p1) X.env := by rfl) (hline : (apos.endLine == cpos.line) = true := by rfl)
    (hs : swapsWith (.Call (.Attribute (.Name x p1) "pop" apos) [] [] cpos) (some (.Name y p2)) pos.line X.env = pure false := by rfl) (hf : X.fn y = true ∨ X.env.scope.names.lookup y = some .local := by first | exact .inl rfl | exact .inr rfl | assumption) :
    PSD X W (.Assign [.Name y p2] (.Call (.Attribute (.Name x p1) "pop" apos) [] [] cpos) pos) (sPop j i) :=
  (ps_set hN' hj hy (pe_bm0 PySem.F.plainAttrs_list PySem.F.slot_list_pop PySem.F.type_list_pop mt_pop (pv i hN hv hd hcd) hbase hline) hs hf).imp fun D σ H ⟨H0, F0, ρ, F, r, p⟩ => by
    obtain ⟨ds, a, xs, q1, q2, q3, q4, p⟩ := withL_of r p
    cases c : ds[ds.length - 1]? with
    | none => rw [c] at p; exact p.elim
    | some d =>
      rw [c] at p
      obtain ⟨v, e1, e2⟩ := q4.get c
      refine ⟨.ref a, q2, .inl ⟨rfl, xs, .inl (.inl q3)⟩, a, xs, v, rfl, rfl, q3, by rw [q4.length]; exact e1, ?_⟩
      have r2 := r.list (xs := xs) q1 q2 q4.dropLast
      exact p _ F _ (r2.setf e2)
/-- xs.clear() -/
def sClear (i : Nat) : DS := fun ρ => withL ρ i fun _ => .next (ρ.set i (some (.lst .ow [])))
theorem psd_clear (i : Nat) (hN : X.N[i]? = some x := by rfl) (hv : Vis X.env.scope x := by first | exact Or.inl rfl | exact Or.inr (Or.inl rfl) | exact Or.inr (Or.inr rfl)) (hd : (x == ("__debug__" : Str)) = false := by decide) (hcd : (x == ("__classdict__" : Str)) = false := by decide)
    (hbase : attributeBase (.Name x p1) "clear" X.env (eval (.Name x p1) X.env) = eval (.Name x p1) X.env := by rfl) (hline : (apos.endLine == cpos.line) = true := by rfl)
    (hsw : swapsWith (.Call (.Attribute (.Name x p1) "clear" apos) [] [] cpos) none pos.line X.env = pure false := by rfl) : PSD X W (.Expr (.Call (.Attribute (.Name x p1) "clear" apos) [] [] cpos) pos) (sClear i) :=
  (ps_expr (pe_bm0 PySem.F.plainAttrs_list PySem.F.slot_list_clear PySem.F.type_list_clear mt_clear (pv i hN hv hd hcd) hbase hline) hsw).imp fun D σ H ⟨H0, F0, ρ, F, r, p⟩ => by
    obtain ⟨ds, a, xs, q1, q2, q3, q4, p⟩ := withL_of r p
    exact ⟨.ref a, q2, .inl ⟨rfl, xs, .inl (.inl q3)⟩, a, xs, rfl, rfl, q3, p _ F _ (r.list (xs := xs) q1 q2 .nil)⟩
def rExtendR (K : PySem.W.Frag) : V → List V → Hp → VK → Prop := fun x vs H Q => ∃ l b xs zs, x = .ref l ∧ vs = [.ref b] ∧ H l = some (.lst xs) ∧ LsR K H b zs ∧ xs.length + zs.length ≤ sizeLine ∧ Q .non (upd H l (.lst (xs ++ zs)))
theorem mt_extendR : MtM X "list.extend" (rExtendR X.K) := by
  intro pins s σ H x vs v us Q I rx rv h
  obtain ⟨l, b, xs, zs, rfl, rfl, hH, hB, hz, q⟩ := h
  cases rx
  obtain ⟨u, rfl, ru⟩ := rv.one
  cases ru
  obtain ⟨_, its, n, r, hl, e⟩ := Inv_lstR I (.inl (.inl hH))
  obtain ⟨_, its2, n2, r2, hl2, e2⟩ := Inv_lstR I hB
  have small : its.toArray.size + its2.toArray.size ≤ sizeLine := by simp only [List.size_toArray]; omega
  have nolong : ¬ (!its.toArray.isEmpty && Builtin.List.listTooLong (its.toArray.size + its2.toArray.size)) = true := by
    rw [notLongL small]; simp
  refine call_meets F.slot_list_extend ⟨_, e, rfl⟩ F.entry_list_extend (F.args_list_extend_2 _ _) (AutoSeq1.list_extend_list_list_0 l its.toArray n b its2.toArray n2 nolong (by rw [List.size_toArray]; omega) (by omega)) ⟨e, e2, ?_⟩
  exact ⟨.non, _, I.lset (its' := its ++ its2) hH e (by simp) (r.append r2) (by rw [List.length_append]; omega), rfl, q⟩
def sExtend (i : Nat) (fe : DE) : DS := fun ρ => withL ρ i fun ds => (fe ρ).toS ρ fun d => match d with
  | .lst _ es => if ds.length + es.length ≤ seqMax then .next (ρ.set i (some (.lst .ow (ds ++ es)))) else .stuck
  | _ => .stuck
theorem psd_extend (i : Nat) (he : PD X W e fe) (hN : X.N[i]? = some x := by rfl) (hv : Vis X.env.scope x := by first | exact Or.inl rfl | exact Or.inr (Or.inl rfl) | exact Or.inr (Or.inr rfl)) (hd : (x == ("__debug__" : Str)) = false := by decide) (hcd : (x == ("__classdict__" : Str)) = false := by decide)
    (hbase : attributeBase (.Name x p1) "extend" X.env (eval (.Name x p1) X.env) = eval (.Name x p1) X.env := by rfl)
    (hfew : ((backTo cpos (starEach [e] X.env)).all (fun x => !x.1) && (backToKw cpos (keywordEach [] X.env)).all (fun x => x.1.isSome) && decide ([e].length + ([] : List Keyword).length + (if ([] : List Keyword).isEmpty then 0 else 1) < 30)) = true := by rfl)
    (hline : (apos.endLine == cpos.line) = true := by rfl) (hs : starEach [e] X.env = (false, eval e X.env) :: starEach [] X.env := by rfl) (hplain : (backTo cpos (starEach [] X.env)).any (·.1) = false := by rfl)
    (hsw : swapsWith (.Call (.Attribute (.Name x p1) "extend" apos) [e] [] cpos) none pos.line X.env = pure false := by rfl) : PSD X W (.Expr (.Call (.Attribute (.Name x p1) "extend" apos) [e] [] cpos) pos) (sExtend i fe) :=
  (ps_expr (pe_bm PySem.F.plainAttrs_list PySem.F.slot_list_extend PySem.F.type_list_extend mt_extendR (pv i hN hv hd hcd) (pa_cons he pa_nil hs) hbase hfew hline hs hplain) hsw).imp fun D σ H ⟨H0, F0, ρ, F, r, p⟩ => by
    obtain ⟨ds, a, xs, q1, q2, q3, q4, p⟩ := withL_of r p
    refine ⟨.ref a, q2, .inl ⟨rfl, xs, .inl (.inl q3)⟩, H0, F0, ρ, F, r, p.expr r fun F1 H1 v d _ r1 g1 x1 p1 => ?_⟩
    cases d with
    | lst t es =>
      obtain ⟨c2, p1⟩ := guardS p1
      obtain ⟨b, zs, rfl, z1, z2⟩ := x1.lst r1.fh
      obtain ⟨l1, l2⟩ := Rw.listL r1 g1 q3 q4
      exact ⟨a, b, xs, zs, rfl, rfl, l1, z1, by rw [q4.length, z2.length, ← seqMax_eq]; exact c2, p1 _ F1 _ (r1.list (xs := xs) q1 q2 (l2.append z2))⟩
    | _ => exact p1.elim

/-! ### loops -/
/-- J hands out the things ds, one a turn -/
structure ItOk (X : Cx) (F : Hp) (J : It) (ds : List D) : Prop where
  go : ∀ (i : Nat) (F1 H1 : Hp) (d : D), Same F F1 → Same F1 H1 → ds[i]? = some d → J.go i H1 ∧ ∀ x H2, J.yld i H1 x H2 → ∃ F2, Gr F1 H1 F2 H2 ∧ Same F2 H2 ∧ Rep X.w X.K X.mg F2 x d
  stop : ∀ (F1 H1 : Hp), Same F F1 → Same F1 H1 → J.stop ds.length H1
abbrev RIt (X : Cx) : Hp → Hp → Hp → It → List D → Prop := fun F' _ _ J ds => ItOk X F' J ds
def PID (X : Cx) (W : WX) (tg iter : Expr) (f : DA) : Prop := PI X tg iter (fun σ H Q => tD X W (RIt X) f σ H fun J H1 => Q J H1)
theorem _root_.L2.PI.imp {tg iter : Expr} {t t' : TI} (h : PI X tg iter t) (i : ∀ σ H Q, t' σ H Q → t σ H Q) : PI X tg iter t' := ⟨fun pins s σ H Q I q => h.run pins s σ H Q I (i _ _ _ q)⟩
theorem Gr.rebase {F0 H0 F1 H1 F' H' : Hp} (g : Gr F0 H0 F1 H1) (g' : Gr F1 H0 F' H') : Gr F0 H0 F' H' := ⟨g.ff.trans g'.ff, g'.hh, fun a q => (g'.nw a q).elim (fun z => g.nw a z) .inr⟩
theorem Rw.base (r : R X H0 F0 ρ σ F H) : R X H0 F ρ σ F H := ⟨r.fh, ⟨Same.refl _, r.gr.hh, fun _ h => .inl h⟩, r.len, r.var, r.dis⟩
theorem Rw.rebase {F1 H1 : Hp} (r : R X H0 F1 ρ σ F H) (g : Gr F0 H0 F1 H1) : R X H0 F0 ρ σ F H := ⟨r.fh, g.rebase r.gr, r.len, r.var, r.dis⟩
def forD (t : DTg) (b : DS) : List D → DEnv → SR
  | [], ρ => .next ρ
  | d :: ds, ρ => match t d ρ with
    | none => .stuck
    | some ρ1 => match b ρ1 with
      | .next ρ2 => forD t b ds ρ2
      | .cont ρ2 => forD t b ds ρ2
      | .brk ρ2 => .next ρ2
      | r => r
def sFor (t : DTg) (fi : DA) (b : DS) : DS := fun ρ => (fi ρ).toS ρ fun ds => forD t b ds ρ
theorem psd_for {tg iter : Expr} {body : List Stmt} {fi : DA} {t : DTg} {is : List Nat} {b : DS} (hp : PassesOwn (model X.prog X.w) X.A X.env X.xe) (hc : X.calm = true) (hi : PID X W tg iter fi) (hg : PGD X tg is t) (hb : PSSD X W body b)
    (hs : ∀ x, foldedSetIterable iter X.env x = pure x := by intro _; rfl) : PSD X W (.For tg iter body [] pos) (sFor t fi b) := (ps_for hp hc hi hg hb hs).imp fun D σ H ⟨H0, F0, ρ, F, r, p⟩ =>
  ⟨H0, F0, ρ, F, r, p.expr r fun F1 H1 J ds _ r1 g1 x1 p1 => by
    have rb : ∀ {ρ' σ' F' H'}, R X H0 F1 ρ' σ' F' H' → R X H0 F0 ρ' σ' F' H' := fun q => q.rebase r1.gr
    refine ⟨fun i m σ H => m = ds.length - i ∧ i ≤ ds.length ∧ ∃ ρi Fi, R X H0 F1 ρi σ Fi H ∧ SPost X W H0 F0 D (forD t b (ds.drop i) ρi), ⟨ds.length, by simp, Nat.zero_le _, ρ, F1, r1.base, p1⟩, ?_⟩
    rintro i m σ H ⟨rfl, hi, ρi, Fi, ri, pi⟩
    by_cases hlt : i < ds.length
    · refine .inr ?_
      have e : ds[i]? = some ds[i] := List.getElem?_eq_getElem hlt
      obtain ⟨h1, h2⟩ := x1.go i Fi H _ ri.gr.ff ri.fh e
      refine ⟨h1, fun σ' H' => ∃ ρ' F', R X H0 F1 ρ' σ' F' H' ∧ SPost X W H0 F0 D (forD t b (ds.drop (i + 1)) ρ'), fun σ' H' ⟨ρ', F', a, c⟩ => ⟨ds.length - (i + 1), by omega, rfl, hlt, ρ', F', a, c⟩, fun x H' y => ?_⟩
      obtain ⟨F2, g2, s2, rx⟩ := h2 x H' y
      rw [List.drop_eq_getElem_cons hlt] at pi
      unfold forD at pi
      cases et : t ds[i] ρi with
      | none => rw [et] at pi; exact pi.elim
      | some ρ1 =>
        rw [et] at pi
        refine ⟨H0, F1, ρi, F2, ds[i], ri.grow g2 s2, rx, ρ1, et, fun σ' r' _ => ⟨H0, F1, ρ1, F2, r', ?_⟩⟩
        dsimp only at pi
        cases eb : b ρ1 with
        | next ρ2 => rw [eb] at pi; exact fun σ F H r => ⟨ρ2, F, r, pi⟩
        | cont ρ2 => rw [eb] at pi; exact fun σ F H r => ⟨ρ2, F, r, pi⟩
        | brk ρ2 => rw [eb] at pi; exact fun σ F H r => pi σ F H (rb r)
        | ret d => rw [eb] at pi; exact fun F H v g s x => pi F H v (r1.gr.rebase g) s x
        | exc c ρ2 => rw [eb] at pi; exact fun σ F H C r m => pi σ F H C (rb r) m
        | stuck => rw [eb] at pi; exact pi.elim
    · have e : i = ds.length := by omega
      subst e
      rw [List.drop_length] at pi
      exact .inl ⟨x1.stop Fi H ri.gr.ff ri.fh, pi σ Fi H (rb ri)⟩⟩
end
end Dl
namespace Dl
open PySem PySem.Spec PyProof.Rows L2

/-! ### what is walked -/
section
variable {X : Cx} {W : WX} {H0 F0 : Hp} {ρ : DEnv} {σ : L2.St} {F H F' H' : Hp} {tg e : Expr} {fe : DE} {pos p : Pos}
theorem itOk_list {a : Addr} {xs : List V} {ds : List D} (h : LsR X.K F a xs) (r : Reps X.w X.K X.mg F xs ds) : ItOk X F (Itl X.K a) ds where
  go := fun i F1 H1 d s s1 e => by
    obtain ⟨v, e1, e2⟩ := r.get e
    have h1 : SqL X.K H1 a xs := (ls_mono s1 (ls_mono s h)).sq
    refine ⟨⟨xs, v, h1, e1⟩, fun x H2 ⟨q1, q2⟩ => ?_⟩
    subst q1
    have := q2 xs h1
    rw [e1] at this
    cases this
    exact ⟨F1, Gr.refl _ _, s1, e2.mono s⟩
  stop := fun F1 H1 s s1 => ⟨xs, (ls_mono s1 (ls_mono s h)).sq, Nat.le_of_eq r.length⟩
theorem itOk_tup {a : Addr} {xs : List V} {ds : List D} (h : Rd F a (.tup xs)) (r : Reps X.w X.K X.mg F xs ds) : ItOk X F (Itt X.K a) ds where
  go := fun i F1 H1 d s s1 e => by
    obtain ⟨v, e1, e2⟩ := r.get e
    have h1 : SqT X.K H1 a xs := .inl (rd_mono s1 (rd_mono s h))
    refine ⟨⟨xs, v, h1, e1⟩, fun x H2 ⟨q1, q2⟩ => ?_⟩
    subst q1
    have := q2 xs h1
    rw [e1] at this
    cases this
    exact ⟨F1, Gr.refl _ _, s1, e2.mono s⟩
  stop := fun F1 H1 s s1 => ⟨xs, .inl (rd_mono s1 (rd_mono s h)), Nat.le_of_eq r.length⟩
def itemsOf : D → Res (List D)
  | .lst t ds => if t ≠ .vw then .ok ds else .stuck
  | .tup ds => .ok ds
  | .str s => .ok (s.cps.toList.map fun c => .str ⟨#[c]⟩)
  | _ => .stuck
def fIt (fe : DE) : DA := fun ρ => (fe ρ).bind itemsOf
theorem itOk_str {s : Str} : ItOk X F (Its s) (s.cps.toList.map fun c => .str ⟨#[c]⟩) where
  go := fun i F1 H1 d s1 s2 e => by
    rw [List.getElem?_map] at e
    cases e2 : s.cps.toList[i]? with
    | none => rw [e2] at e; cases e
    | some c =>
      rw [e2] at e
      cases e
      have hi : i < s.cps.size := by
        have := (List.getElem?_eq_some_iff.mp e2).1
        simpa using this
      refine ⟨hi, fun x H2 ⟨q1, c', q2, q3⟩ => ?_⟩
      subst q1 q3
      rw [Array.getElem?_toList, q2] at e2
      cases e2
      exact ⟨F1, Gr.refl _ _, s2, .str _⟩
  stop := fun F1 H1 _ _ => by simp [Its]
/-- a list, a tuple, a text -/
theorem pid_seq (he : PD X W e fe) : PID X W tg e (fIt fe) := ⟨fun pins s σ H Q I ⟨H0, F0, ρ, F, r, p⟩ => by
  have p' := p
  unfold fIt at p'
  cases c : fe ρ with
  | stuck => rw [c] at p'; exact p'.elim
  | exc x =>
    refine (pi_list he).run pins s σ H Q I ⟨H0, F0, ρ, F, r, ?_⟩
    rw [c] at p' ⊢
    exact p'
  | ok d =>
    cases d with
    | lst t ds =>
      refine (pi_list he).run pins s σ H Q I ⟨H0, F0, ρ, F, r, p.bind (Gr.refl _ _) fun F1 H1 v d' e1 r1 g1 x1 p1 => ?_⟩
      rw [c] at e1
      cases e1
      obtain ⟨ht, p1⟩ := Post.guard (c := t ≠ .vw) p1
      obtain ⟨a, xs, ev, h1, h2⟩ := x1.lst r1.fh
      subst ev
      refine ⟨a, rfl, ⟨xs, h1.sq⟩, ?_⟩
      obtain ⟨F2, r2, g2, s2, y⟩ := RX.freeze r r1 g1 x1 (by cases t with | vw => exact absurd rfl ht | fz => exact fun z => nomatch z | ow => exact fun z => nomatch z)
      obtain ⟨_, a', xs', ea, h3, h4⟩ := (show Rep X.w X.K X.mg F2 (.ref a) (.lst .fz ds) from y).of_lst
      cases ea
      exact p1.here r2 g2 (itOk_list h3 h4)
    | tup ds =>
      refine (pi_tup he).run pins s σ H Q I ⟨H0, F0, ρ, F, r, p.bind (Gr.refl _ _) fun F1 H1 v d' e1 r1 g1 x1 p1 => ?_⟩
      rw [c] at e1
      cases e1
      obtain ⟨a, xs, ev, h3, h4⟩ := (x1.rep rfl).of_tup
      subst ev
      exact ⟨a, rfl, ⟨xs, .inl (rd_mono r1.fh h3)⟩, p1.here r1 g1 (itOk_tup h3 h4)⟩
    | str z =>
      refine (pi_str he).run pins s σ H Q I ⟨H0, F0, ρ, F, r, p.bind (Gr.refl _ _) fun F1 H1 v d' e1 r1 g1 x1 p1 => ?_⟩
      rw [c] at e1
      cases e1
      exact ⟨z, x1.str, p1.here r1 g1 itOk_str⟩
    | _ => rw [c] at p'; exact p'.elim⟩
def upTo (lo : Int) (n : Nat) : List D := (List.range n).map fun i => .int (lo + (i : Nat))
theorem upTo_get {lo : Int} {n i : Nat} {d : D} (e : (upTo lo n)[i]? = some d) : i < n ∧ d = .int (lo + (i : Nat)) := by
  unfold upTo at e
  rw [List.getElem?_map] at e
  cases e2 : (List.range n)[i]? with
  | none => rw [e2] at e; cases e
  | some k =>
    rw [e2] at e
    obtain ⟨h1, h2⟩ := List.getElem?_eq_some_iff.mp e2
    simp at h1 h2
    cases e
    exact ⟨h1, by rw [h2]⟩
theorem itOk_rng {lo : Int} {n : Nat} : ItOk X F (Itr lo n) (upTo lo n) where
  go := fun i F1 H1 d s1 s2 e => by
    obtain ⟨h1, rfl⟩ := upTo_get e
    refine ⟨h1, fun x H2 ⟨q1, q2⟩ => ?_⟩
    subst q1 q2
    exact ⟨F1, Gr.refl _ _, s2, .int _⟩
  stop := fun F1 H1 _ _ => by show n ≤ _; unfold upTo; simp
def upBy (lo c : Int) (n : Nat) : List D := (List.range n).map fun i => .int (lo + (i : Nat) * c)
theorem itOk_rngC {lo c : Int} {n : Nat} : ItOk X F (Itc lo c n) (upBy lo c n) where
  go := fun i F1 H1 d s1 s2 e => by
    unfold upBy at e
    rw [List.getElem?_map] at e
    cases e2 : (List.range n)[i]? with
    | none => rw [e2] at e; cases e
    | some k =>
      rw [e2] at e
      obtain ⟨h1, h2⟩ := List.getElem?_eq_some_iff.mp e2
      simp at h1 h2
      cases e
      refine ⟨h1, fun x H2 ⟨q1, q2⟩ => ?_⟩
      subst q1 q2 h2
      exact ⟨F1, Gr.refl _ _, s2, .int _⟩
  stop := fun F1 H1 _ _ => by show n ≤ _; unfold upBy; simp
def fits62 (i : Int) : Prop := -4611686018427387904 ≤ i ∧ i < 4611686018427387904
noncomputable instance (i : Int) : Decidable (fits62 i) := Classical.propDecidable _
noncomputable def rng1 : List D → Res (List D)
  | [.int j] => if fits62 j then .ok (upTo 0 j.toNat) else .stuck
  | _ => .stuck
noncomputable def rng2 : List D → Res (List D)
  | [.int i, .int j] => if fits62 i ∧ fits62 j then .ok (upTo i (j - i).toNat) else .stuck
  | _ => .stuck
def rng3 : List D → Res (List D)
  | [.int i, .int j, .int c] => if RgCb i j c = true then .ok (upBy i c (Builtin.Range.rangeSize i j c).toNat) else .stuck
  | _ => .stuck
where RgCb (i j c : Int) : Bool := decide (c ≠ 0) && decide (c.natAbs < 1073741824) && Builtin.Range.small i j c && decide (0 ≤ Builtin.Range.rangeSize i j c)
def fRng (op : List D → Res (List D)) (fs : DA) : DA := fun ρ => (fs ρ).bind op
variable {fs : DA} {a b c : Expr}
theorem RXs.inv3 {F H H1 : Hp} {vs : List V} {d e f : D} (h : RXs X F H H1 vs [d, e, f]) : ∃ v u z, vs = [v, u, z] ∧ RX X.w X.K X.mg F H H1 v d ∧ RX X.w X.K X.mg F H H1 u e ∧ RX X.w X.K X.mg F H H1 z f := by
  cases h with
  | cons a b =>
    obtain ⟨u, z, rfl, c, d⟩ := b.inv2
    exact ⟨_, u, z, rfl, a, c, d⟩
theorem pid_range1 (hg : Gl X "range") (hm : X.mg "range" = none) (ha : PAD X W [a] fs) (hs : starEach [a] X.env = [(false, eval a X.env)] := by rfl) : PID X W tg (.Call (.Name "range" p) [a] [] pos) (fRng rng1 fs) :=
  (pi_range1 hg hm ha hs).imp fun σ H Q ⟨H0, F0, ρ, F, r, q⟩ => ⟨H0, F0, ρ, F, r, q.bind (Gr.refl _ _) fun F1 H1 vs ds _ r1 g1 x1 p1 => by
    match ds, x1, p1 with
    | [.int j], x1, p1 =>
      obtain ⟨v, e, y⟩ := x1.inv1
      subst e
      obtain ⟨⟨b1, b2⟩, p1⟩ := Post.guard (c := fits62 j) p1
      exact ⟨j, by rw [y.int], by omega, by omega, p1.here r1 g1 itOk_rng⟩
    | [], x1, p1 => exact False.elim p1
    | [.non], x1, p1 => exact False.elim p1
    | [.bl _], x1, p1 => exact False.elim p1
    | [.str _], x1, p1 => exact False.elim p1
    | [.tup _], x1, p1 => exact False.elim p1
    | [.lst _ _], x1, p1 => exact False.elim p1
    | [.dic _ _], x1, p1 => exact False.elim p1
    | [.obj _ _ _ _], x1, p1 => exact False.elim p1
    | .non :: _ :: _, x1, p1 => exact False.elim p1
    | .bl _ :: _ :: _, x1, p1 => exact False.elim p1
    | .int _ :: _ :: _, x1, p1 => exact False.elim p1
    | .str _ :: _ :: _, x1, p1 => exact False.elim p1
    | .tup _ :: _ :: _, x1, p1 => exact False.elim p1
    | .lst _ _ :: _ :: _, x1, p1 => exact False.elim p1
    | .dic _ _ :: _ :: _, x1, p1 => exact False.elim p1
    | .obj _ _ _ _ :: _ :: _, x1, p1 => exact False.elim p1⟩
theorem rng2_inv {ds l : List D} (h : rng2 ds ≠ .stuck) : ∃ i j, ds = [.int i, .int j] := by
  unfold rng2 at h
  split at h
  · exact ⟨_, _, rfl⟩
  · exact absurd rfl h
theorem pid_range2 (hg : Gl X "range") (hm : X.mg "range" = none) (ha : PAD X W [a, b] fs) (hs : starEach [a, b] X.env = [(false, eval a X.env), (false, eval b X.env)] := by rfl) (hs2 : starEach [b] X.env = [(false, eval b X.env)] := by rfl) : PID X W tg (.Call (.Name "range" p) [a, b] [] pos) (fRng rng2 fs) :=
  (pi_range2 hg hm ha hs hs2).imp fun σ H Q ⟨H0, F0, ρ, F, r, q⟩ => ⟨H0, F0, ρ, F, r, q.bind (Gr.refl _ _) fun F1 H1 vs ds _ r1 g1 x1 p1 => by
    by_cases c : ∃ i j, ds = [.int i, .int j]
    · obtain ⟨i, j, rfl⟩ := c
      obtain ⟨v, u, e, y, z⟩ := x1.inv2
      subst e
      obtain ⟨⟨⟨b1, b2⟩, b3, b4⟩, p1⟩ := Post.guard (c := fits62 i ∧ fits62 j) p1
      exact ⟨i, j, by rw [y.int, z.int], ⟨by omega, by omega, by omega, by omega⟩, p1.here r1 g1 itOk_rng⟩
    · have e : rng2 ds = .stuck := by
        unfold rng2
        split
        · exact (c ⟨_, _, rfl⟩).elim
        · rfl
      rw [e] at p1
      exact p1.elim⟩
theorem pid_range3 (hg : Gl X "range") (hm : X.mg "range" = none) (ha : PAD X W [a, b, c] fs) (hs : starEach [a, b, c] X.env = (false, eval a X.env) :: starEach [b, c] X.env := by rfl) (hpl : (backTo pos (starEach [b, c] X.env)).any (·.1) = false := by rfl) : PID X W tg (.Call (.Name "range" p) [a, b, c] [] pos) (fRng rng3 fs) :=
  (pi_range3 hg hm ha hs hpl).imp fun σ H Q ⟨H0, F0, ρ, F, r, q⟩ => ⟨H0, F0, ρ, F, r, q.bind (Gr.refl _ _) fun F1 H1 vs ds _ r1 g1 x1 p1 => by
    by_cases c : ∃ i j k, ds = [.int i, .int j, .int k]
    · obtain ⟨i, j, k, rfl⟩ := c
      obtain ⟨v, u, t, e, y, z, w⟩ := x1.inv3
      subst e
      obtain ⟨b1, p1⟩ := Post.guard (c := rng3.RgCb i j k = true) p1
      unfold rng3.RgCb at b1
      simp only [Bool.and_eq_true, decide_eq_true_eq] at b1
      exact ⟨i, j, k, _, by rw [y.int, z.int, w.int], ⟨b1.1.1.1, b1.1.1.2, b1.1.2, (Int.toNat_of_nonneg b1.2).symm⟩, p1.here r1 g1 itOk_rngC⟩
    · have e : rng3 ds = .stuck := by
        unfold rng3
        split
        · exact (c ⟨_, _, _, rfl⟩).elim
        · rfl
      rw [e] at p1
      exact p1.elim⟩

/-! ### while -/
def whileD (c : DT) (b : DS) : Nat → DEnv → SR
  | 0, _ => .stuck
  | n + 1, ρ => (c ρ).toS ρ fun t => if t = true then (match b ρ with
      | .next ρ' => whileD c b n ρ'
      | .cont ρ' => whileD c b n ρ'
      | .brk ρ' => .next ρ'
      | r => r) else .next ρ
open Classical in
noncomputable def sWhile (c : DT) (b : DS) : DS := fun ρ => if h : ∃ n, whileD c b n ρ ≠ .stuck then whileD c b h.choose ρ else .stuck
theorem whileD_more {c : DT} {b : DS} : ∀ {n : Nat} {ρ : DEnv} (k : Nat), whileD c b n ρ ≠ .stuck → whileD c b (n + k) ρ = whileD c b n ρ
  | 0, _, _, h => absurd rfl h
  | n + 1, ρ, k, h => by
    rw [show n + 1 + k = (n + k) + 1 by omega]
    unfold whileD at h ⊢
    cases e : c ρ with
    | stuck => rw [e] at h; exact absurd rfl h
    | exc x => rfl
    | ok t =>
      rw [e] at h
      cases t with
      | false => rfl
      | true =>
        simp only [Res.ok_toS, if_true] at h ⊢
        cases eb : b ρ with
        | next ρ' => rw [eb] at h; exact whileD_more k h
        | cont ρ' => rw [eb] at h; exact whileD_more k h
        | brk ρ' => rfl
        | ret d => rfl
        | exc x ρ' => rfl
        | stuck => rfl
theorem sWhile_eq {c : DT} {b : DS} {n : Nat} {ρ : DEnv} {r : SR} (h : whileD c b n ρ = r) (hr : r ≠ .stuck) : sWhile c b ρ = r := by
  have hx : ∃ n, whileD c b n ρ ≠ .stuck := ⟨n, by rw [h]; exact hr⟩
  unfold sWhile
  rw [dif_pos hx]
  have h1 := whileD_more n hx.choose_spec
  have h2 := whileD_more hx.choose (by rw [h]; exact hr : whileD c b n ρ ≠ .stuck)
  rw [Nat.add_comm] at h2
  rw [← h1, h2, h]
theorem psd_while {c : Expr} {body : List Stmt} {tc : DT} {b : DS} (hp : PassesOwn (model X.prog X.w) X.A X.env X.xe) (hc : PTD X W c tc) (hb : PSSD X W body b) : PSD X W (.While c body [] pos) (sWhile tc b) := (ps_while hp hc hb).imp fun D σ H ⟨H0, F0, ρ, F, r, p⟩ => by
  have p0 : ∃ n, SPost X W H0 F0 D (whileD tc b n ρ) := by
    unfold sWhile at p
    by_cases h : ∃ n, whileD tc b n ρ ≠ .stuck
    · rw [dif_pos h] at p; exact ⟨_, p⟩
    · rw [dif_neg h] at p; exact p.elim
  obtain ⟨n, p⟩ := p0
  refine ⟨fun m σ H => ∃ ρ F, R X H0 F0 ρ σ F H ∧ SPost X W H0 F0 D (whileD tc b m ρ), ⟨n, ρ, F, r, p⟩, ?_⟩
  rintro m σ H ⟨ρ, F, r, p⟩
  cases m with
  | zero => exact p.elim
  | succ m =>
    unfold whileD at p
    refine ⟨H0, F0, ρ, F, r, p.expr r fun F1 H1 v t _ r1 g1 x1 p1 => ?_⟩
    cases x1
    cases v with
    | false => exact p1 σ F1 H1 r1
    | true =>
      rw [if_pos rfl] at p1
      refine ⟨fun σ' H' => ∃ ρ' F', R X H0 F0 ρ' σ' F' H' ∧ SPost X W H0 F0 D (whileD tc b m ρ'), fun σ' H' q => ⟨m, Nat.lt_succ_self m, q⟩, H0, F0, ρ, F1, r1, ?_⟩
      cases eb : b ρ with
      | next ρ2 => rw [eb] at p1; exact fun σ F H r => ⟨ρ2, F, r, p1⟩
      | cont ρ2 => rw [eb] at p1; exact fun σ F H r => ⟨ρ2, F, r, p1⟩
      | brk ρ2 => rw [eb] at p1; exact p1
      | ret d => rw [eb] at p1; exact p1
      | exc c ρ2 => rw [eb] at p1; exact p1
      | stuck => rw [eb] at p1; exact p1.elim
end
end Dl
namespace Dl
open PySem PySem.Spec PyProof.Rows L2

/-! ### comprehensions -/
section
variable {X : Cx} {W : WX} {H0 F0 : Hp} {ρ : DEnv} {σ : L2.St} {F H F' H' : Hp}
theorem wipe_get {σ : L2.St} {j : Nat} : ∀ {vs : List Nat}, (wipe σ vs)[j]? = if j ∈ vs ∧ j < σ.length then some none else σ[j]?
  | [] => by simp [wipe]
  | v :: vs => by
    unfold wipe
    by_cases e : v = j
    · subst e
      by_cases h : v < σ.length
      · rw [List.getElem?_set_self (by rw [wipe_length]; exact h), if_pos ⟨by simp, h⟩]
      · rw [List.getElem?_eq_none (by simp [wipe_length]; omega), if_neg (fun z => h z.2), List.getElem?_eq_none (by omega)]
    · rw [List.getElem?_set_ne e, wipe_get (vs := vs)]
      have : j ∈ v :: vs ↔ j ∈ vs := by simp [Ne.symm e]
      simp only [this]
theorem wipe_off {is vs : List Nat} {σ σ' : L2.St} (o : Off is σ σ') (h : ∀ i ∈ is, i ∈ vs) : wipe σ' vs = wipe σ vs := by
  refine List.ext_getElem? fun j => ?_
  rw [wipe_get, wipe_get, o.len]
  by_cases c : j ∈ vs ∧ j < σ.length
  · rw [if_pos c, if_pos c]
  · rw [if_neg c, if_neg c]
    by_cases hj : j ∈ vs
    · have : ¬ j < σ.length := fun z => c ⟨hj, z⟩
      rw [List.getElem?_eq_none (by rw [o.len]; omega), List.getElem?_eq_none (by omega)]
    · exact o.off j fun z => hj (h j z)
theorem wipe_wipe {vs : List Nat} {σ : L2.St} : wipe (wipe σ vs) vs = wipe σ vs := by
  refine List.ext_getElem? fun j => ?_
  rw [wipe_get, wipe_get, wipe_length]
  by_cases c : j ∈ vs ∧ j < σ.length
  · rw [if_pos c, if_pos c]
  · rw [if_neg c, if_neg c]
def wipeD (ρ : DEnv) : List Nat → DEnv
  | [] => ρ
  | v :: vs => (wipeD ρ vs).set v none
theorem Rw.wipe1 {w : World} {K : PySem.W.Frag} {mg : Str → Option Value} (r : Rw w K mg H0 F0 ρ σ F H) (i : Nat) : Rw w K mg H0 F0 (ρ.set i none) (σ.set i none) F H := by
  have old : ∀ (j : Nat) d, (ρ.set i none)[j]? = some (some d) → i ≠ j ∧ ρ[j]? = some (some d) := fun j d h => by
    rcases set_get h with ⟨rfl, q⟩ | q
    · cases q
    · exact q
  refine ⟨r.fh, r.gr, by simp [r.len], fun j d h => ?_, fun j k a dj dk h1 h2 t1 t2 s1 s2 => ?_⟩
  · obtain ⟨ne, h⟩ := old j d h
    obtain ⟨v, e1, e2⟩ := r.var j d h
    exact ⟨v, by rw [List.getElem?_set_ne ne]; exact e1, e2⟩
  · obtain ⟨n1, h1⟩ := old j dj h1
    obtain ⟨n2, h2⟩ := old k dk h2
    rw [List.getElem?_set_ne n1] at s1
    rw [List.getElem?_set_ne n2] at s2
    exact r.dis j k a dj dk h1 h2 t1 t2 s1 s2
theorem Rw.wipe {w : World} {K : PySem.W.Frag} {mg : Str → Option Value} (r : Rw w K mg H0 F0 ρ σ F H) : ∀ vs : List Nat, Rw w K mg H0 F0 (wipeD ρ vs) (L2.wipe σ vs) F H
  | [] => r
  | v :: vs => (r.wipe vs).wipe1 v
def noX {α : Type} : Res α → Res α
  | .exc _ => .stuck
  | r => r
@[simp] theorem noX_ok {α : Type} (a : α) : noX (.ok a) = .ok a := rfl
@[simp] theorem noX_stuck {α : Type} : noX (.stuck : Res α) = .stuck := rfl
def compD (t : DTg) (tt : DT) (el : DE) (ρ : DEnv) : List D → Res (List D)
  | [] => .ok []
  | d :: ds => match t d ρ with
    | none => .stuck
    | some ρ1 => (noX (tt ρ1)).bind fun b => if b = true then (noX (el ρ1)).bind fun y => if y.tg = .vw then .stuck else (compD t tt el ρ ds).bind fun ys => .ok (y.re .fz :: ys) else compD t tt el ρ ds
def fComp (vs : List Nat) (fi : DA) (t : DTg) (tt : DT) (el : DE) : DE := fun ρ => (fi ρ).bind fun ds => (compD t tt el (wipeD ρ vs) ds).bind fun ys => if ys.length ≤ seqMax then .ok (.lst .ow ys) else .stuck
theorem compD_noexc {t : DTg} {tt : DT} {el : DE} {ρ : DEnv} : ∀ {ds : List D} {c : Str}, compD t tt el ρ ds ≠ .exc c
  | [], _, h => by cases h
  | d :: ds, c, h => by
    unfold compD at h
    cases e : t d ρ with
    | none => rw [e] at h; cases h
    | some ρ1 =>
      rw [e] at h
      dsimp only at h
      cases e1 : tt ρ1 with
      | stuck => rw [e1] at h; cases h
      | exc x => rw [e1] at h; cases h
      | ok b =>
        rw [e1] at h
        cases b with
        | false => exact compD_noexc (by simpa using h)
        | true =>
          simp only [noX_ok, Res.ok_bind, if_true] at h
          cases e2 : el ρ1 with
          | stuck => rw [e2] at h; cases h
          | exc x => rw [e2] at h; cases h
          | ok y =>
            rw [e2] at h
            simp only [noX_ok, Res.ok_bind] at h
            by_cases q : y.tg = .vw
            · rw [if_pos q] at h; cases h
            · rw [if_neg q] at h
              cases e3 : compD t tt el ρ ds with
              | stuck => rw [e3] at h; cases h
              | exc x => exact compD_noexc e3
              | ok ys => rw [e3] at h; cases h
abbrev Wn : WX := fun _ _ _ _ => False
/-- what a comprehension walks: the heap is kept meanwhile -/
structure ItOkV (X : Cx) (F H : Hp) (J : It) (ds : List D) : Prop where
  go : ∀ (i : Nat) (F1 H1 : Hp) (d : D), Same F F1 → Same H H1 → Same F1 H1 → ds[i]? = some d → J.go i H1 ∧ ∀ x H2, J.yld i H1 x H2 → ∃ F2, Gr F1 H1 F2 H2 ∧ Same F2 H2 ∧ Rep X.w X.K X.mg F2 x d
  stop : ∀ (F1 H1 : Hp), Same F F1 → Same H H1 → Same F1 H1 → J.stop ds.length H1
theorem ItOk.v {F H : Hp} {J : It} {ds : List D} (h : ItOk X F J ds) : ItOkV X F H J ds := ⟨fun i F1 H1 d a _ b e => h.go i F1 H1 d a b e, fun F1 H1 a _ b => h.stop F1 H1 a b⟩
abbrev RItV (X : Cx) : Hp → Hp → Hp → It → List D → Prop := fun F' _ H' J ds => ItOkV X F' H' J ds
def PIDV (X : Cx) (W : WX) (tg iter : Expr) (f : DA) : Prop := PI X tg iter (fun σ H Q => tD X W (RItV X) f σ H fun J H1 => Q J H1)
theorem PID.v {tg iter : Expr} {f : DA} (h : PID X W tg iter f) : PIDV X W tg iter f := PI.imp h fun σ H Q ⟨H0, F0, ρ, F, r, p⟩ => ⟨H0, F0, ρ, F, r, by
  unfold Post at p ⊢
  cases e : f ρ with
  | ok d => rw [e] at p; exact fun F' H' v r g x => p F' H' v r g x.v
  | exc c => rw [e] at p; exact p
  | stuck => rw [e] at p; exact p⟩
def itemsOfV : D → Res (List D)
  | .lst _ ds => .ok ds
  | .tup ds => .ok ds
  | _ => .stuck
def fItV (fe : DE) : DA := fun ρ => (fe ρ).bind itemsOfV
theorem itOkV_list {a : Addr} {xs : List V} {ds : List D} {F H : Hp} (h : LsR X.K H a xs) (r : Reps X.w X.K X.mg F xs ds) : ItOkV X F H (Itl X.K a) ds where
  go := fun i F1 H1 d s sh s1 e => by
    obtain ⟨v, e1, e2⟩ := r.get e
    have h1 : SqL X.K H1 a xs := (ls_mono sh h).sq
    refine ⟨⟨xs, v, h1, e1⟩, fun x H2 ⟨q1, q2⟩ => ?_⟩
    subst q1
    have := q2 xs h1
    rw [e1] at this
    cases this
    exact ⟨F1, Gr.refl _ _, s1, e2.mono s⟩
  stop := fun F1 H1 s sh s1 => ⟨xs, (ls_mono sh h).sq, Nat.le_of_eq r.length⟩
theorem pidv_seq {tg e : Expr} {fe : DE} (he : PD X W e fe) : PIDV X W tg e (fItV fe) := ⟨fun pins s σ H Q I ⟨H0, F0, ρ, F, r, p⟩ => by
    have p' := p
    unfold fItV at p p'
    cases c : fe ρ with
    | stuck => rw [c] at p'; exact p'.elim
    | exc x =>
      refine (pi_list he).run pins s σ H Q I ⟨H0, F0, ρ, F, r, ?_⟩
      rw [c] at p' ⊢
      exact p'
    | ok d =>
      rw [c] at p'
      cases d with
      | lst t ds =>
        refine (pi_list he).run pins s σ H Q I ⟨H0, F0, ρ, F, r, p.bind (Gr.refl _ _) fun F1 H1 v d' e1 r1 g1 x1 p1 => ?_⟩
        rw [c] at e1
        cases e1
        obtain ⟨a, xs, rfl, h1, h2⟩ := x1.lst r1.fh
        exact ⟨a, rfl, ⟨xs, h1.sq⟩, p1.here r1 g1 (itOkV_list h1 h2)⟩
      | tup ds =>
        refine (pi_tup he).run pins s σ H Q I ⟨H0, F0, ρ, F, r, p.bind (Gr.refl _ _) fun F1 H1 v d' e1 r1 g1 x1 p1 => ?_⟩
        rw [c] at e1
        cases e1
        obtain ⟨a, xs, rfl, h1, h2⟩ := (x1.rep rfl).of_tup
        exact ⟨a, rfl, ⟨xs, .inl (rd_mono r1.fh h1)⟩, p1.here r1 g1 (itOk_tup h1 h2).v⟩
      | _ => exact p'.elim⟩
/-- a comprehension's clause: what it walks, its target, its test, its element -/
theorem lc_read {fi : DA} {t : DTg} {tt : DT} {el : DE} {vs is : List Nat} {Q : VK} (hv : ∀ i ∈ is, i ∈ vs) (h : tD X W (RXX X) (fComp vs fi t tt el) σ H Q) :
    tLc (fun σ H Q => tD X W (RItV X) fi σ H fun J H1 => Q J H1) (fun v σ H Q => ∃ H0 F0 ρ F d, R X H0 F0 ρ σ F H ∧ Rep X.w X.K X.mg F v d ∧ ∃ ρ', t d ρ = some ρ' ∧ ∀ σ', R X H0 F0 ρ' σ' F H → Off is σ σ' → Q σ' H) (tD X Wn REq tt) (tD X Wn (RXX X) el) vs σ H Q := by
  obtain ⟨H0, F0, ρ, F, r, p⟩ := h
  refine ⟨H0, F0, ρ, F, r, p.bind (Gr.refl _ _) fun F1 H1 J ds _ r1 g1 x1 p1 => fun L hL => ?_⟩
  have small : ∀ {ys : List D}, compD t tt el (wipeD ρ vs) ds = .ok ys → ys.length ≤ seqMax := fun {ys} e => by
    rw [e] at p1
    exact (Post.guard p1).1
  cases e0 : compD t tt el (wipeD ρ vs) ds with
  | stuck => rw [e0] at p1; exact p1.elim
  | exc c => exact (compD_noexc e0).elim
  | ok all =>
  have hz := small e0
  rw [e0] at p1
  obtain ⟨_, p1⟩ := Post.guard p1
  -- the frozen part grows, the new list holds what was made so far
  refine ⟨fun i m H' => m = ds.length - i ∧ i ≤ ds.length ∧ ∃ Fi acc accD, R X H0 F0 ρ σ Fi H' ∧ Same F1 Fi ∧ Gr F H Fi H' ∧ Same H1 H' ∧ Fi L = none ∧ H' L = some (.lst acc) ∧ Reps X.w X.K X.mg Fi acc accD ∧ ∃ rest, compD t tt el (wipeD ρ vs) (ds.drop i) = .ok rest ∧ accD ++ rest = all,
    ⟨ds.length, by simp, Nat.zero_le _, F1, [], [], r1.alloc hL, Same.refl _, g1.trans (Gr.alloc hL), same_upd_none hL, same_none r1.fh hL, upd_same, .nil, all, e0, rfl⟩, ?_⟩
  rintro i m H' ⟨rfl, hi, Fi, acc, accD, ri, si, gi, hh1, fL, hL', ra, rest, er, ea⟩
  by_cases hlt : i < ds.length
  · refine .inr ?_
    have e : ds[i]? = some ds[i] := List.getElem?_eq_getElem hlt
    obtain ⟨k1, k2⟩ := x1.go i Fi H' _ si hh1 ri.fh e
    refine ⟨k1, fun H2 => ∃ Fi acc accD, R X H0 F0 ρ σ Fi H2 ∧ Same F1 Fi ∧ Gr F H Fi H2 ∧ Same H1 H2 ∧ Fi L = none ∧ H2 L = some (.lst acc) ∧ Reps X.w X.K X.mg Fi acc accD ∧ ∃ rest, compD t tt el (wipeD ρ vs) (ds.drop (i + 1)) = .ok rest ∧ accD ++ rest = all,
      fun H2 q => ⟨ds.length - (i + 1), by omega, rfl, hlt, q⟩, fun x H2 y => ?_⟩
    obtain ⟨F2, g2, s2, rx⟩ := k2 x H2 y
    have r2 := ri.grow g2 s2
    have f2L : F2 L = none := by
      cases q : F2 L with
      | none => rfl
      | some u =>
        rcases g2.nw L (by rw [q]; simp) with z | z
        · exact absurd fL z
        · rw [z] at hL'; cases hL'
    have h2L := g2.hh _ _ hL'
    rw [List.drop_eq_getElem_cons hlt] at er
    unfold compD at er
    cases et : t ds[i] (wipeD ρ vs) with
    | none => rw [et] at er; cases er
    | some ρ1 =>
      rw [et] at er
      dsimp only at er
      refine ⟨H0, F0, wipeD ρ vs, F2, ds[i], r2.wipe vs, rx, ρ1, et, fun σ' r' o => ⟨?_, ?_⟩⟩
      · rw [wipe_off o hv, wipe_wipe]
      · refine ⟨H0, F0, ρ1, F2, r', ?_⟩
        cases eb : tt ρ1 with
        | stuck => rw [eb] at er; cases er
        | exc c => rw [eb] at er; cases er
        | ok b =>
          rw [eb] at er
          simp only [noX_ok, Res.ok_bind] at er
          intro F3 H3 b' r3 g3 eqb
          cases eqb
          have f3L : F3 L = none := by
            cases q : F3 L with
            | none => rfl
            | some u =>
              rcases g3.nw L (by rw [q]; simp) with z | z
              · exact absurd f2L z
              · rw [z] at h2L; cases h2L
          have h3L := g3.hh _ _ h2L
          have gg := g2.trans g3
          cases b with
          | false =>
            rw [if_neg (by decide)] at er ⊢
            exact ⟨F3, acc, accD, ri.grow gg r3.fh, si.trans gg.ff, gi.trans gg, hh1.trans gg.hh, f3L, h3L, ra.mono gg.ff, rest, er, ea⟩
          | true =>
            rw [if_pos rfl] at er ⊢
            refine ⟨H0, F0, ρ1, F3, r3, ?_⟩
            cases ey : el ρ1 with
            | stuck => rw [ey] at er; cases er
            | exc c => rw [ey] at er; cases er
            | ok y =>
              rw [ey] at er
              simp only [noX_ok, Res.ok_bind] at er
              by_cases tv : y.tg = .vw
              · rw [if_pos tv] at er; cases er
              · rw [if_neg tv] at er
                cases ec : compD t tt el (wipeD ρ vs) (ds.drop (i + 1)) with
                | stuck => rw [ec] at er; cases er
                | exc c => rw [ec] at er; cases er
                | ok ys =>
                  rw [ec] at er
                  cases er
                  intro F4 H4 u r4 g4 x4
                  -- the element is frozen
                  obtain ⟨F5, r5, g5, s5, ry⟩ := RX.freeze r3 r4 g4 x4 tv
                  have f5L : F5 L = none := by
                    cases q : F5 L with
                    | none => rfl
                    | some u' =>
                      rcases g5.nw L (by rw [q]; simp) with z | z
                      · exact absurd f3L z
                      · rw [z] at h3L; cases h3L
                  have h5L := g5.hh _ _ h3L
                  have g6 := gg.trans g5
                  have r6 : R X H0 F0 ρ σ F5 H4 := ri.grow g6 r5.fh
                  have la : acc.length < sizeLine := by
                    have h1 : accD.length < all.length := by rw [← ea, List.length_append, List.length_cons]; omega
                    rw [ra.length, ← seqMax_eq]
                    omega
                  -- the new list is not tracked by the variables: its change keeps all
                  have hH : H L = none := by
                    cases q : H L with
                    | none => rfl
                    | some u' => have := g1.hh _ _ q; rw [hL] at this; cases this
                  have h0L : H0 L = none := same_none r.gr.hh hH
                  refine ⟨acc, h5L, la, F5, acc ++ [u], accD ++ [y.re .fz], ?_, si.trans g6.ff, ?_, ?_, f5L, upd_same, (ra.mono g6.ff).append (.cons ry .nil), ys, rfl, by rw [← ea]; simp⟩
                  · refine ⟨fun z o' q => ?_, ⟨r6.gr.ff, fun z o' q => ?_, r6.gr.nw⟩, r6.len, fun j d h => ?_, r6.dis⟩
                    · rw [upd_ne (ne_of_none q f5L)]; exact r6.fh _ _ q
                    · rw [upd_ne (ne_of_none q h0L)]; exact r6.gr.hh _ _ q
                    · obtain ⟨v', e1, e2⟩ := r6.var j d h
                      refine ⟨v', e1, ?_⟩
                      obtain ⟨v0, f1, f2⟩ := r.var j d h
                      rw [e1] at f1
                      cases f1
                      unfold VR at e2 f2 ⊢
                      cases td : d.tg with
                      | fz => rw [td] at e2; exact e2
                      | vw => rw [td] at e2; exact e2
                      | ow =>
                        rw [td] at e2 f2
                        obtain ⟨b, p, rfl, q1, q2, q3, q4⟩ := e2
                        obtain ⟨b', p', eb', _, _, q3', _⟩ := f2
                        cases eb'
                        refine ⟨b, p, rfl, q1, q2, ?_, q4⟩
                        rw [upd_ne (ne_of_none q3' hH)]
                        exact q3
                  · refine ⟨(gi.trans g6).ff, fun z o' q => ?_, (gi.trans g6).nw⟩
                    rw [upd_ne (ne_of_none q hH)]
                    exact (gi.trans g6).hh _ _ q
                  · intro z o' q
                    rw [upd_ne (ne_of_none q hL)]
                    exact (hh1.trans g6.hh) _ _ q
  · have e : i = ds.length := by omega
    subst e
    rw [List.drop_length] at er
    cases er
    rw [List.append_nil] at ea
    subst ea
    refine .inl ⟨x1.stop Fi H' si hh1 ri.fh, p1 Fi H' _ ri gi ?_⟩
    have hH : H L = none := by
      cases q : H L with
      | none => rfl
      | some u' => have := g1.hh _ _ q; rw [hL] at this; cases this
    exact ⟨L, .lst acc, rfl, hH, fL, hL', acc, rfl, ra⟩
abbrev Blk (X : Cx) (scope : Scope) (s : Shared) (H : Hp) (C : Addr) (cl : List (Str × Addr)) (fp : List Addr) : Cx := X.blk s H scope (compEnvC scope cl C X.env) fp
theorem pd_comp {elt tg iter : Expr} {ifs : List Expr} {scope : Scope} (own : List (Str × Nat)) {pos : Pos} {fi : DA} {t : DTg} {is : List Nat} {tt : DT} {el : DE} (hc : X.calm = true) (hN : X.N.Nodup) (hi : PIDV X W tg iter fi) (ok : BlkOk X.N X.env.scope scope own) (hv : ∀ i ∈ is, i ∈ own.map (·.2))
    (hg : ∀ s H C cl fp, PGD (Blk X scope s H C cl fp) tg is t) (ht : ∀ s H C cl fp, PTs (Blk X scope s H C cl fp) ifs (tD (Blk X scope s H C cl fp) Wn REq tt)) (he : ∀ s H C cl fp, PD (Blk X scope s H C cl fp) Wn elt el) (hs : ∀ x, foldedSetIterable iter X.env x = pure x := by intro _; rfl) :
    PD X W (.ListComp elt [⟨tg, iter, ifs, 0⟩] scope pos) (fComp (own.map (·.2)) fi t tt el) :=
  (pe_lc (own := own) (wi := fun σ H Q => tD X W (RItV X) fi σ H fun J H1 => Q J H1) (g := fun v σ H Q => ∃ H0 F0 ρ F d, R X H0 F0 ρ σ F H ∧ Rep X.w X.K X.mg F v d ∧ ∃ ρ', t d ρ = some ρ' ∧ ∀ σ', R X H0 F0 ρ' σ' F H → Off is σ σ' → Q σ' H) (tt := tD X Wn REq tt) (te := tD X Wn (RXX X) el) hc hN hi ok hg ht he hs).imp fun σ H Q h => lc_read hv h
theorem psd_comp (j : Nat) {y : Str} {py : Pos} {elt tg iter : Expr} {ifs : List Expr} {scope : Scope} (own : List (Str × Nat)) {pos spos : Pos} {fi : DA} {t : DTg} {is : List Nat} {tt : DT} {el : DE} (hc : X.calm = true) (hN : X.N.Nodup) (hi : PIDV X W tg iter fi) (ok : BlkOk X.N X.env.scope scope own) (hv : ∀ i ∈ is, i ∈ own.map (·.2))
    (hg : ∀ s H C cl fp, PGD (Blk X scope s H C cl fp) tg is t) (ht : ∀ s H C cl fp, PTs (Blk X scope s H C cl fp) ifs (tD (Blk X scope s H C cl fp) Wn REq tt)) (he : ∀ s H C cl fp, PD (Blk X scope s H C cl fp) Wn elt el)
    (hsw : swapsWith (.ListComp elt [⟨tg, iter, ifs, 0⟩] scope pos) (some (.Name y py)) spos.line X.env = pure true) (hy : X.N[j]? = some y := by rfl) (hyl : X.env.scope.names.lookup y = some .local := by rfl) (hs : ∀ x, foldedSetIterable iter X.env x = pure x := by intro _; rfl) :
    PSD X W (.Assign [.Name y py] (.ListComp elt [⟨tg, iter, ifs, 0⟩] scope pos) spos) (sSet j (fComp (own.map (·.2)) fi t tt el)) :=
  (ps_setLc (own := own) (wi := fun σ H Q => tD X W (RItV X) fi σ H fun J H1 => Q J H1) (g := fun v σ H Q => ∃ H0 F0 ρ F d, R X H0 F0 ρ σ F H ∧ Rep X.w X.K X.mg F v d ∧ ∃ ρ', t d ρ = some ρ' ∧ ∀ σ', R X H0 F0 ρ' σ' F H → Off is σ σ' → Q σ' H) (tt := tD X Wn REq tt) (te := tD X Wn (RXX X) el) hc hN hy hyl hsw hi ok hg ht he hs).imp fun D σ H ⟨H0, F0, ρ, F, r, p⟩ =>
    lc_read hv ⟨H0, F0, ρ, F, r, p.expr r fun F1 H1 v d _ r1 g1 x1 p1 => by
      by_cases t : d.tg = .vw
      · rw [if_pos t] at p1; exact p1.elim
      · rw [if_neg t] at p1
        exact p1 _ F1 H1 (r.setv r1 g1 x1 t)⟩
def tYesD : DT := fun _ => .ok true
theorem ptsd_nil : PTs X [] (tD X W REq tYesD) := ⟨fun pins s σ H Q I ⟨H0, F0, ρ, F, r, p⟩ => pts_nil.run pins s σ H Q I (p.here r (Gr.refl _ _) rfl)⟩
theorem ptsd_one {c : Expr} {t : DT} (h : PTD X W c t) : PTs X [c] (tD X W REq t) := pts_one h
end

/-! ### a def by its body -/
def toRes : SR → Res D
  | .next _ => .ok .non
  | .ret d => .ok d
  | .exc c _ => .exc c
  | _ => .stuck
def start0 (n : Nat) (ds : List D) : DEnv := ds.map some ++ List.replicate (n - ds.length) none
/-- what a def of n names and m parameters computes -/
def runD (n m : Nat) (g : DS) : List D → Res D := fun ds => if ds.length = m then toRes (g (start0 n ds)) else .stuck
section
variable {P : Program} {w : World} {K : PySem.W.Frag} {mg : Str → Option Value} {base : Heap}
theorem start_R {H0 F0 : Hp} {vs : List V} {ds : List D} {N : List Str} (s : Same F0 H0) (r : Reps w K mg F0 vs ds) : Rw w K mg H0 F0 (start0 N.length ds) (L2.start N vs) F0 H0 := by
  have get : ∀ (i : Nat) d, (start0 N.length ds)[i]? = some (some d) → ds[i]? = some d := fun i d h => by
    unfold start0 at h
    by_cases hi : i < ds.length
    · rw [List.getElem?_append_left (by simpa using hi), List.getElem?_map] at h
      cases e : ds[i]? with
      | none => rw [e] at h; cases h
      | some x => rw [e] at h; cases h; rfl
    · rw [List.getElem?_append_right (by simpa using hi), List.getElem?_replicate] at h
      split at h <;> cases h
  have tgs := r.tgs
  refine ⟨s, ⟨Same.refl _, Same.refl _, fun _ h => .inl h⟩, ?_, fun i d h => ?_, fun i j a di dj h1 _ t1 _ _ _ => ?_⟩
  · unfold start0 L2.start
    simp [r.length]
  · obtain ⟨v, e1, e2⟩ := r.get (get i d h)
    refine ⟨v, ?_, ?_⟩
    · unfold L2.start
      have hi : i < vs.length := (List.getElem?_eq_some_iff.mp e1).1
      rw [List.getElem?_append_left (by simpa using hi), List.getElem?_map, e1]
      rfl
    · unfold VR
      rw [e2.tg]
      exact e2
  · have := tgs di (List.mem_of_getElem? (get i di h1))
    rw [this] at t1
    cases t1
/-- a def of the text, as it stands behind the top -/
structure DefAt (K : PySem.W.Frag) (mg : Str → Option Value) (x : Str) (st : Stmt) (ps : List Str) (dfls : List (List D)) (w : World) : Prop where
  ex : ∃ (f : Addr) (fd : FuncData) (dvs : List V), mg x = some (.ref f) ∧ FunD K x x (defArgs st) (defBody st) (defScope st) dvs [] f fd ∧ ∀ dfl ∈ dfls, DflOk w K mg fd ps dfl
theorem fnD {x : Str} {st : Stmt} {N ps : List Str} {dfls : List (List D)} {k : Nat} (g : DS) (A : DefAt K mg x st ps dfls w) (S : FnScope N ps (defScope st))
    (hb : ∀ (f : Addr) (cdv : Value) (A : Around) (outer : List Env) (s : Shared) (H : Hp) (E : XK), Room k (A.deeper (envOfC x (defScope st) s.heap.objs.size f cdv)) →
      PSSD (cxOf (L2.CX P w) P w K mg base N x (defScope st) f cdv A outer s H E) (fun cls d _ H => E cls d H) (defBody st) g) : FnD P w K mg base (k + 1) x ps dfls (runD N.length ps.length g) := by
  obtain ⟨f, fd, dvs, h1, h2, h3⟩ := A.ex
  refine ⟨f, fd, h1, h2.kp, h2.ok S (fun vs H Q E ⟨_, _, _, _, h, _⟩ => h) (fun cdv A outer s H vs Q E hr ⟨F0, ds, s0, r, hl, p⟩ => ⟨_, hb f cdv A outer s H E hr, ?_⟩), h3, fun ds hn => ?_, ?_⟩
  · unfold runD at p
    rw [if_pos (by rw [← r.length, hl])] at p
    refine ⟨H, F0, _, F0, start_R s0 r, ?_⟩
    cases e : g (start0 N.length ds) with
    | next ρ => rw [e] at p; exact fun σ F H' r' => p F H' .non r'.gr r'.fh (RX.fz .non)
    | ret d => rw [e] at p; exact fun F H' v g s x => p F H' v g s x
    | exc c ρ => rw [e] at p; exact fun σ F H' C r' m => p F H' C r'.gr r'.fh m
    | brk ρ => rw [e] at p; exact p.elim
    | cont ρ => rw [e] at p; exact p.elim
    | stuck => rw [e] at p; exact p.elim
  · unfold runD
    rw [if_neg hn]
  · obtain ⟨oc, od, dV, kV, doc, pm, an, cdv, ct, osl, e, lk, _⟩ := h2.ex
    exact ⟨_, _, _, lk⟩
end
end Dl
namespace Dl
open PySem PySem.Spec PyProof.Rows L2

/-! ### isinstance with a built-in type -/
def D.tyn : D → Option String
  | .non => some "NoneType"
  | .bl _ => some "bool"
  | .int _ => some "int"
  | .str _ => some "str"
  | .tup _ => some "tuple"
  | .lst _ _ => some "list"
  | .dic _ _ => some "dict"
  | .obj _ _ _ _ => none
def isTy (t n : String) : Bool := t == n || (t == "bool" && n == "int")
def isiD (n : String) (d : D) : Res D := match d.tyn with
  | some t => .ok (.bl (isTy t n))
  | none => .stuck
@[simp] theorem isiD_non (n : String) : isiD n .non = .ok (.bl (isTy "NoneType" n)) := rfl
@[simp] theorem isiD_bl (n : String) (b : Bool) : isiD n (.bl b) = .ok (.bl (isTy "bool" n)) := rfl
@[simp] theorem isiD_int (n : String) (i : Int) : isiD n (.int i) = .ok (.bl (isTy "int" n)) := rfl
@[simp] theorem isiD_str (n : String) (s : Str) : isiD n (.str s) = .ok (.bl (isTy "str" n)) := rfl
@[simp] theorem isiD_tup (n : String) (ds : List D) : isiD n (.tup ds) = .ok (.bl (isTy "tuple" n)) := rfl
@[simp] theorem isiD_lst (n : String) (t : Tg) (ds : List D) : isiD n (.lst t ds) = .ok (.bl (isTy "list" n)) := rfl
@[simp] theorem isiD_dic (n : String) (t : Tg) (ds : List (D × D)) : isiD n (.dic t ds) = .ok (.bl (isTy "dict" n)) := rfl
def tyNames : List String := ["NoneType", "bool", "int", "str", "tuple", "list", "dict"]
section
variable {X : Cx} {W : WX} {H0 F0 : Hp} {ρ : DEnv} {σ : L2.St} {F H F' H' : Hp} {e : Expr} {fe : DE} {p p2 pos : Pos}
def rIsiN (X : Cx) (n : String) : List V → Hp → VK → Prop := fun xs H Q => ∃ (x : V) (t : Value) (b : Bool), xs = [x, .ty n] ∧ (TyX X.K H x t ∨ (t = .type "dict" ∧ ∃ a ys ob, x = .ref a ∧ H a = some (dicO X.w a ys ob))) ∧ PySem.W.kitOne X.K t (.type n) = some b ∧ Q (.bl b) H
theorem call_isiN {n : String} : CallR X (.builtin "isinstance") (rIsiN X n) := by
  intro pins s σ H xs us Q I r h
  obtain ⟨x, t, b, rfl, ty, e, q⟩ := h
  obtain ⟨u1, u2, rfl, r1, r2⟩ := vals2 r
  cases (show u2 = Value.type n from r2)
  rcases ty with ty | ⟨rfl, a, ys, ob, rfl, ha⟩
  · obtain ⟨P, Z, p, hx⟩ := kit_of I r1 ty
    exact PySem.W.kia_one Z I.kIn p e hx fun tk => ⟨.bl b, H, I.tok tk, rfl, q⟩
  · cases (show u1 = Value.ref a from r1)
    obtain ⟨⟨h1, es, ep, h2, _⟩, _⟩ := (show ObjOk X.prog X.w H s.heap a (dicO X.w a ys ob) from I.hok a _ ha)
    exact PySem.W.kia_one PySem.W.kitx_dict I.kIn ⟨ob, h1, h2.1⟩ e (fun z => nomatch z) fun tk => ⟨.bl b, H, I.tok tk, rfl, q⟩
theorem RX.ty {v : V} {d : D} {t : String} (x : RX X.w X.K X.mg F H H' v d) (s : Same F H') (e : d.tyn = some t) : TyX X.K H' v (.type t) ∨ (Value.type t = .type "dict" ∧ ∃ a ys ob, v = .ref a ∧ H' a = some (dicO X.w a ys ob)) := by
  cases d with
  | non => cases e; rw [x.non]; exact .inl (.base .non)
  | bl b => cases e; rw [x.bl]; exact .inl (.base (.bl b))
  | int b => cases e; rw [x.int]; exact .inl (.base (.int b))
  | str b => cases e; rw [x.str]; exact .inl (.base (.str b))
  | tup ds =>
    cases e
    obtain ⟨a, xs, rfl, h1, h2⟩ := x.tup s
    rcases h1 with h1 | ⟨o, h1⟩
    · exact .inl (.base (.tup h1))
    · exact .inl (.fTuple h1)
  | lst t ds =>
    cases e
    obtain ⟨a, xs, rfl, h1, h2⟩ := x.lst s
    rcases h1 with (h1 | ⟨o, h1⟩) | ⟨its, n, h1, _⟩
    · exact .inl (.base (.lst h1))
    · exact .inl (.base (.frz h1))
    · exact .inl (.kList h1 rfl)
  | dic t es =>
    cases e
    refine .inr ⟨rfl, ?_⟩
    unfold RX at x
    cases t with
    | fz =>
      cases (show Rep X.w X.K X.mg F v (.dic .fz es) from x) with
      | dic a b => exact ⟨_, _, _, rfl, s _ _ a⟩
    | ow =>
      obtain ⟨a, o, rfl, _, _, h3, xs, ob, rfl, _⟩ := x
      exact ⟨a, xs, ob, rfl, h3⟩
    | vw =>
      obtain ⟨a, o, rfl, _, h3, xs, ob, rfl, _⟩ := x
      exact ⟨a, xs, ob, rfl, h3⟩
  | obj t c ps ds => cases e
theorem pd_isi (n : String) {x : Str} (hg : Gl X "isinstance") (hm : X.mg "isinstance" = none) (hg2 : Gl X x) (hm2 : X.mg x = none) (hv : bootBuiltins x = some (.type n)) (ha : PD X W e fe) (hk : ∀ t ∈ tyNames, L2.kitB t n = some (isTy t n) := by decide +kernel) (hn : x ≠ "__name__" := by decide) (hd : (x == ("__debug__" : Str)) = false := by decide)
    (he : starEach [e, .Name x p2] X.env = (false, eval e X.env) :: starEach [.Name x p2] X.env := by rfl) (he2 : starEach [.Name x p2] X.env = (false, eval (.Name x p2) X.env) :: starEach [] X.env := by rfl) (hpl : (backTo pos (starEach [.Name x p2] X.env)).any (·.1) = false := by rfl) :
    PD X W (.Call (.Name "isinstance" p) [e, .Name x p2] [] pos) (fU (isiD n) fe) :=
  (pe_callB (call_isiN (n := n)) hg hm (by decide +kernel) (pa_cons ha (pa_cons (pe_bltn (v := .ty n) hg2 hm2 hv rfl hn hd) pa_nil he2) he) (by decide) (by decide) he hpl).imp fun σ H Q ⟨H0, F0, ρ, F, r, q⟩ =>
    ⟨H0, F0, ρ, F, r, q.bind (Gr.refl _ _) fun F1 H1 v d _ r1 g1 x1 p1 => by
      unfold isiD at p1
      cases c : d.tyn with
      | none => rw [c] at p1; exact p1.elim
      | some t =>
        rw [c] at p1
        have mem : t ∈ tyNames := by cases d <;> cases c <;> simp [tyNames]
        exact ⟨v, .type t, _, rfl, x1.ty r1.fh c, kit_ty (hk t mem), p1.here r1 g1 (RX.fz (.bl _))⟩⟩
theorem pd_isi_int (hg : Gl X "isinstance") (hm : X.mg "isinstance" = none) (hg2 : Gl X "int") (hm2 : X.mg "int" = none) (ha : PD X W e fe) (he : starEach [e, .Name "int" p2] X.env = (false, eval e X.env) :: starEach [.Name "int" p2] X.env := by rfl) : PD X W (.Call (.Name "isinstance" p) [e, .Name "int" p2] [] pos) (fU (isiD "int") fe) := pd_isi "int" hg hm hg2 hm2 boot_int ha (he := he)
theorem pd_isi_bool (hg : Gl X "isinstance") (hm : X.mg "isinstance" = none) (hg2 : Gl X "bool") (hm2 : X.mg "bool" = none) (ha : PD X W e fe) (he : starEach [e, .Name "bool" p2] X.env = (false, eval e X.env) :: starEach [.Name "bool" p2] X.env := by rfl) : PD X W (.Call (.Name "isinstance" p) [e, .Name "bool" p2] [] pos) (fU (isiD "bool") fe) := pd_isi "bool" hg hm hg2 hm2 boot_bool ha (he := he)
theorem pd_isi_str (hg : Gl X "isinstance") (hm : X.mg "isinstance" = none) (hg2 : Gl X "str") (hm2 : X.mg "str" = none) (ha : PD X W e fe) (he : starEach [e, .Name "str" p2] X.env = (false, eval e X.env) :: starEach [.Name "str" p2] X.env := by rfl) : PD X W (.Call (.Name "isinstance" p) [e, .Name "str" p2] [] pos) (fU (isiD "str") fe) := pd_isi "str" hg hm hg2 hm2 boot_str ha (he := he)
theorem pd_isi_list (hg : Gl X "isinstance") (hm : X.mg "isinstance" = none) (hg2 : Gl X "list") (hm2 : X.mg "list" = none) (ha : PD X W e fe) (he : starEach [e, .Name "list" p2] X.env = (false, eval e X.env) :: starEach [.Name "list" p2] X.env := by rfl) : PD X W (.Call (.Name "isinstance" p) [e, .Name "list" p2] [] pos) (fU (isiD "list") fe) := pd_isi "list" hg hm hg2 hm2 boot_list ha (he := he)
theorem pd_isi_tuple (hg : Gl X "isinstance") (hm : X.mg "isinstance" = none) (hg2 : Gl X "tuple") (hm2 : X.mg "tuple" = none) (ha : PD X W e fe) (he : starEach [e, .Name "tuple" p2] X.env = (false, eval e X.env) :: starEach [.Name "tuple" p2] X.env := by rfl) : PD X W (.Call (.Name "isinstance" p) [e, .Name "tuple" p2] [] pos) (fU (isiD "tuple") fe) := pd_isi "tuple" hg hm hg2 hm2 boot_tuple ha (he := he)
theorem pd_isi_dict (hg : Gl X "isinstance") (hm : X.mg "isinstance" = none) (hg2 : Gl X "dict") (hm2 : X.mg "dict" = none) (ha : PD X W e fe) (he : starEach [e, .Name "dict" p2] X.env = (false, eval e X.env) :: starEach [.Name "dict" p2] X.env := by rfl) : PD X W (.Call (.Name "isinstance" p) [e, .Name "dict" p2] [] pos) (fU (isiD "dict") fe) := pd_isi "dict" hg hm hg2 hm2 boot_dict ha (he := he)
/-! ### constants of the module -/
theorem pd_const {x : Str} {i : Int} (hg : Gl X x) (hm : ∃ t, X.mg x = some (.int i t)) (hd : (x == ("__debug__" : Str)) = false := by decide) : PD X W (.Name x pos) (fC (.int i)) := by
  obtain ⟨t, hm⟩ := hm
  exact (pe_glob (v := .int i) hg hm ⟨t, rfl⟩ hd).imp fun σ H Q ⟨H0, F0, ρ, F, r, p⟩ => p.here r (Gr.refl _ _) (RX.fz (.int i))
/-! ### divmod -/
def dm2 : D → D → Res D
  | .int i, .int j => if 0 < j ∧ j < 1073741824 then .ok (.tup [.int (i / j), .int (i % j)]) else .stuck
  | _, _ => .stuck
end
end Dl
namespace Dl
open PySem PySem.Spec PyProof.Rows L2
theorem reps_ints (w : World) (K : PySem.W.Frag) (mg : Str → Option Value) (F : Hp) (ns : List Int) : Reps w K mg F (ns.map V.int) (ns.map .int) := Reps.ofInts ns
/-- a law's end: the function over data tells True at every script -/
theorem walk_ofEB {l : PySem.W.OpenLaw} {n k : Nat} {q : Program} {loose : List Str} {XP : (Str → Option Value) → Heap → Prop} {YP : World → Heap → Prop} {d : DefRec} {x : Str} {F : List D → Res D}
    (hn : l.most = some n) (hn2 : n ≤ sizeLine) (hdf : d.params.defaults = []) (hr : Room k callerA)
    (Fh : ∀ (w : World) (mg : Str → Option Value) (fa : Addr) (h : Heap), YP w h → h.Ns mainGlobals mg → mg d.name = some (.ref fa) →
      ∃ (K : PySem.W.Frag) (fd : FuncData), K.In h ∧ (∀ (s : Shared) (u : Value), BindsTo s fd ⟨[u], []⟩ [(x, u)]) ∧ ∀ base : Heap, K.In base → base.Ns mainGlobals mg → FnOk l.prog w K mg base (L2.CX l.prog w) k fa fd [x] (spD w K mg 1 F))
    (ht : ∀ ns : List Int, ns.length ≤ n → (∀ z ∈ ns, Builtin.Int.intBits z ≤ 1048576) → F [.lst .fz (ns.map .int)] = .ok (.bl true)) :
    PySem.W.WalkO q loose XP YP l.row.toRowW d [] (fun f vs => PySem.call f vs) := by
  refine Att.attach_callB hn hdf fun w s₀ s₁ mg mb fa o pm cd doc a vs ns G Y ho hd hcd hmg hobj hints hlen hbits hg => ?_
  obtain ⟨K, fd, KX, hb, hF⟩ := Fh w mg fa _ Y G.T.g hmg
  refine law_call KX G.T.g G.T.b G.T.builtins G.T.nolimit hg hobj hints (Nat.le_trans hlen hn2) hr hF hb (fun H hO hS => ?_) fun H e s' z => ?_
  · have ls : LsR K H a (ns.map V.int) := by
      rcases hS with hS | ⟨o', its, m, h1, _, _, h4, h5, h6⟩
      · exact .inl hS
      · have e := KX a o' h1
        rw [hobj] at e
        cases e
        have e2 : its = vs.toArray := by injection h4 with h7 _; exact h7.symm
        subst e2
        exact .inr ⟨vs, _, h1, by simpa using h5, by simpa using h6⟩
    refine ⟨H, [.lst .fz (ns.map .int)], Same.refl _, .cons (.lst ls (Reps.ofInts ns)) .nil, rfl, ?_⟩
    rw [ht ns hlen hbits]
    exact fun F' H' v _ _ x => x.bl
  · obtain ⟨_, _, _, _, _, _, _, _, _, _, _, _, z⟩ := z
    exact z.elim
theorem fnOk_fd {P : Program} {w : World} {K : PySem.W.Frag} {mg : Str → Option Value} {base : Heap} {CX : CXT} {k : Nat} {f : Addr} {fd fd' : FuncData} {x qual : Str} {params : Arguments} {body : List Stmt} {scope : Scope} {dvs : List V} {kws : List (Str × V)} {ps : List Str} {sp : Sp}
    (a : FunD K x qual params body scope dvs kws f fd) (h : FnOk P w K mg base CX k f fd' ps sp) (b : ∃ o od osl, K.lookup f = some ⟨o, od, .func fd', osl⟩) : FnOk P w K mg base CX k f fd ps sp := by
  obtain ⟨oc, od, dV, kV, doc, pm, an, cdv, ct, osl, rfl, lk, _⟩ := a.ex
  obtain ⟨o, od', osl', e⟩ := b
  rw [lk] at e
  cases e
  exact h
end Dl
/-! Errors raised. -/
namespace Dl
open PySem PySem.Spec PyProof.Rows L2
structure ExcAt (K : PySem.W.Frag) (mg : Str → Option Value) (x : Str) : Prop where
  ex : ∃ C, mg x = some (.ref C) ∧ PySem.W.excIn K C He.veBase "ValueError.__new__" = true ∧ PySem.W.keepIn K (.ref C) = true ∧ PySem.W.subIn K (.ref C) (.type "BaseException") = some true ∧ PySem.W.typeIn K (.ref C) = some (.type "type")
theorem excAt_of {K : PySem.W.Frag} {mg : Str → Option Value} {x : Str} {C : Addr} (g : mg x = some (.ref C)) (h : PySem.W.excIn K C He.veBase "ValueError.__new__" = true ∧ PySem.W.keepIn K (.ref C) = true ∧ PySem.W.subIn K (.ref C) (.type "BaseException") = some true ∧ PySem.W.typeIn K (.ref C) = some (.type "type")) : ExcAt K mg x := ⟨C, g, h⟩
section
variable {X : Cx} {W : WX} {x m : Str} {j : Nat} {p p2 pos pos' : Pos}
def sRaise (x : Str) : DS := fun ρ => .exc x ρ
@[simp] theorem sRaise_ap (x : Str) (ρ : DEnv) : sRaise x ρ = .exc x ρ := rfl
theorem psd_raise (A : ExcAt X.K X.mg x) (hc : X.calm = true) (hg : Gl X x) (tk : Takes X W) (hn : x ≠ "__name__" := by decide) (hdb : (x == ("__debug__" : Str)) = false := by decide) :
    PSD X W (.Raise (some (.Call (.Name x p) [.Constant (.str m) j p2] [] pos)) none pos') (sRaise x) := by
  obtain ⟨C, g, e1, e2, e3, e4⟩ := A.ex
  exact (ps_raise hc tk (pmk_own PySem.F.excBase_ValueError e1 g e2 (raises_own e3 e4) hg hdb)).imp fun D σ H ⟨H0, F0, ρ, F, r, q⟩ => q σ F H C r g
end
end Dl
/-! Evaluation of the functions over data by simp: each construct at an environment. -/
namespace Dl
open PySem PySem.Spec PyProof.Rows L2
section
variable (ρ : DEnv) (x : Option D) (d : D) (ds : List D) (i j : Nat)
@[simp] theorem vw_int (z : Int) : vwOf (.int z) = .int z := rfl
@[simp] theorem vw_bl (b : Bool) : vwOf (.bl b) = .bl b := rfl
@[simp] theorem vw_non : vwOf .non = .non := rfl
@[simp] theorem vw_str (s : Str) : vwOf (.str s) = .str s := rfl
@[simp] theorem vw_tup (ds : List D) : vwOf (.tup ds) = .tup ds := rfl
@[simp] theorem vw_fz (ds : List D) : vwOf (.lst .fz ds) = .lst .fz ds := rfl
@[simp] theorem vw_ow (ds : List D) : vwOf (.lst .ow ds) = .lst .vw ds := rfl
@[simp] theorem vw_dfz (es) : vwOf (.dic .fz es) = .dic .fz es := rfl
@[simp] theorem vw_dow (es) : vwOf (.dic .ow es) = .dic .vw es := rfl
@[simp] theorem re_int (t : Tg) (z : Int) : D.re t (.int z) = .int z := rfl
@[simp] theorem re_bl (t : Tg) (b : Bool) : D.re t (.bl b) = .bl b := rfl
@[simp] theorem re_non (t : Tg) : D.re t .non = .non := rfl
@[simp] theorem re_str (t : Tg) (s : Str) : D.re t (.str s) = .str s := rfl
@[simp] theorem re_tup (t : Tg) (ds : List D) : D.re t (.tup ds) = .tup ds := rfl
@[simp] theorem re_lst (t u : Tg) (ds : List D) : D.re t (.lst u ds) = .lst t ds := rfl
@[simp] theorem re_dic (t u : Tg) (es) : D.re t (.dic u es) = .dic t es := rfl
@[simp] theorem tg_int (z : Int) : D.tg (.int z) = .fz := rfl
@[simp] theorem tg_bl (b : Bool) : D.tg (.bl b) = .fz := rfl
@[simp] theorem tg_non : D.tg .non = .fz := rfl
@[simp] theorem tg_str (s : Str) : D.tg (.str s) = .fz := rfl
@[simp] theorem tg_tup (ds : List D) : D.tg (.tup ds) = .fz := rfl
@[simp] theorem tg_lst (t : Tg) (ds : List D) : D.tg (.lst t ds) = t := rfl
@[simp] theorem tg_dic (t : Tg) (es) : D.tg (.dic t es) = t := rfl
@[simp] theorem anyVw_nil : anyVw [] = false := rfl
@[simp] theorem anyVw_cons : anyVw (d :: ds) = (decide (d.tg = .vw) || anyVw ds) := rfl
@[simp] theorem noVw_nil : noVw [] = true := rfl
@[simp] theorem noVw_cons : noVw (d :: ds) = (decide (d.tg ≠ .vw) && noVw ds) := by unfold noVw; rfl
@[simp] theorem flat_int (z : Int) : D.flat (.int z) = true := rfl
@[simp] theorem flat_bl (b : Bool) : D.flat (.bl b) = true := rfl
@[simp] theorem flat_non : D.flat .non = true := rfl
@[simp] theorem flat_str (s : Str) : D.flat (.str s) = true := rfl
@[simp] theorem pure_int (z : Int) : D.pure (.int z) = true := rfl
@[simp] theorem pure_bl (b : Bool) : D.pure (.bl b) = true := rfl
@[simp] theorem pure_non : D.pure .non = true := rfl
@[simp] theorem pure_str (s : Str) : D.pure (.str s) = true := rfl
@[simp] theorem pures_nil : D.pure.pures [] = true := rfl
@[simp] theorem pures_cons : D.pure.pures (d :: ds) = (D.pure d && D.pure.pures ds) := rfl
@[simp] theorem pure_tup (ds : List D) : D.pure (.tup ds) = D.pure.pures ds := rfl
@[simp] theorem flat_tup (ds : List D) : D.flat (.tup ds) = D.pure.pures ds := rfl
@[simp] theorem flat_ow (ds : List D) : D.flat (.lst .ow ds) = D.pure.pures ds := rfl
@[simp] theorem pures_ints (l : List Int) : D.pure.pures (l.map D.int) = true := by
  induction l with
  | nil => rfl
  | cons a l ih => exact ih
-- values
@[simp] theorem fC_ap : fC d ρ = .ok d := rfl
@[simp] theorem fV_0 : fV 0 (some d :: ρ) = .ok (vwOf d) := rfl
@[simp] theorem fV_s : fV (i + 1) (x :: ρ) = fV i ρ := by cases i <;> rfl
@[simp] theorem fB_ap (op : D → D → Res D) (fa fb : DE) : fB op fa fb ρ = (fa ρ).bind fun a => (fb ρ).bind fun b => op a b := rfl
@[simp] theorem fU_ap (op : D → Res D) (fa : DE) : fU op fa ρ = (fa ρ).bind op := rfl
@[simp] theorem fIsN_ap (fa : DE) : fIsN fa ρ = (fa ρ).bind fun a => .ok (.bl a.isN) := rfl
@[simp] theorem fNotN_ap (fa : DE) : fNotN fa ρ = (fa ρ).bind fun a => .ok (.bl (!a.isN)) := rfl
@[simp] theorem isN_non : D.isN .non = true := rfl
@[simp] theorem isN_int (z : Int) : D.isN (.int z) = false := rfl
@[simp] theorem isN_lst (t : Tg) : D.isN (.lst t ds) = false := rfl
@[simp] theorem isN_tup : D.isN (.tup ds) = false := rfl
@[simp] theorem isN_str (s : Str) : D.isN (.str s) = false := rfl
@[simp] theorem isN_bl (b : Bool) : D.isN (.bl b) = false := rfl
@[simp] theorem isN_dic (t : Tg) (es) : D.isN (.dic t es) = false := rfl
@[simp] theorem toB_bl (b : Bool) : toB (.bl b) = .ok b := rfl
@[simp] theorem tOf_ap (f : DE) : tOf f ρ = (f ρ).bind toB := rfl
@[simp] theorem tAndD_ap (t u : DT) : tAndD t u ρ = (t ρ).bind fun b => if b = true then u ρ else .ok false := rfl
@[simp] theorem tOrD_ap (t u : DT) : tOrD t u ρ = (t ρ).bind fun b => if b = true then .ok true else u ρ := rfl
@[simp] theorem tNotD_ap (t : DT) : tNotD t ρ = (t ρ).bind fun b => .ok (!b) := rfl
@[simp] theorem tYesD_ap : tYesD ρ = .ok true := rfl
@[simp] theorem fAndV_ap (fa fb : DE) : fAndV fa fb ρ = (fa ρ).bind fun d => (toB d).bind fun b => if b = true then fb ρ else .ok (.bl false) := rfl
@[simp] theorem fOrV_ap (fa fb : DE) : fOrV fa fb ρ = (fa ρ).bind fun d => (toB d).bind fun b => if b = true then .ok (.bl true) else fb ρ := rfl
@[simp] theorem fNotV_ap (fa : DE) : fNotV fa ρ = (fa ρ).bind fun d => (toB d).bind fun b => .ok (.bl (!b)) := rfl
@[simp] theorem fIf_ap (t : DT) (fa fb : DE) : fIf t fa fb ρ = (t ρ).bind fun b => if b = true then fa ρ else fb ρ := rfl
@[simp] theorem fNil_ap : fNil ρ = .ok [] := rfl
@[simp] theorem fCons_ap (fa : DE) (fr : DA) : fCons fa fr ρ = (fa ρ).bind fun d => (fr ρ).bind fun ds => .ok (d :: ds) := rfl
@[simp] theorem fTup_ap (fs : DA) : fTup fs ρ = (fs ρ).bind fun ds => if noVw ds = true ∧ ds.length ≤ seqMax then .ok (.tup (ds.map (D.re .fz))) else .stuck := rfl
@[simp] theorem fLst_ap (fs : DA) : fLst fs ρ = (fs ρ).bind fun ds => if noVw ds = true ∧ ds.length ≤ seqMax then .ok (.lst .ow (ds.map (D.re .fz))) else .stuck := rfl
@[simp] theorem fNo_ap : fNo ρ = .ok none := rfl
@[simp] theorem toI_int (z : Int) : toI (.int z) = .ok (some z) := rfl
@[simp] theorem fPart_ap (fa : DE) : fPart fa ρ = (fa ρ).bind toI := rfl
@[simp] theorem fSl_ap (fa : DE) (fl fh : DEnv → Res (Option Int)) : fSl fa fl fh ρ = (fa ρ).bind fun d => (fl ρ).bind fun l => (fh ρ).bind fun h => opSl d l h := rfl
@[simp] theorem fCall_ap (op : List D → Res D) (fs : DA) : fCall op fs ρ = (fs ρ).bind op := rfl
@[simp] theorem op1_ap (f : D → Res D) (a : D) : op1 f [a] = f a := rfl
@[simp] theorem op2_ap (f : D → D → Res D) (a b : D) : op2 f [a, b] = f a b := rfl
@[simp] theorem fCallF_ap (F : List D → Res D) (fs : DA) : fCallF F fs ρ = (fs ρ).bind fun ds => (F (ds.map (D.re .fz))).bind fun d => if anyVw ds = true → d.flat = true then .ok d else .stuck := rfl
@[simp] theorem fRng_ap (op : List D → Res (List D)) (fs : DA) : fRng op fs ρ = (fs ρ).bind op := rfl
@[simp] theorem fIt_ap (fe : DE) : fIt fe ρ = (fe ρ).bind itemsOf := rfl
@[simp] theorem itemsOf_fz : itemsOf (.lst .fz ds) = .ok ds := rfl
@[simp] theorem itemsOf_ow : itemsOf (.lst .ow ds) = .ok ds := rfl
@[simp] theorem itemsOf_tup : itemsOf (.tup ds) = .ok ds := rfl
@[simp] theorem fComp_ap (vs : List Nat) (fi : DA) (t : DTg) (tt : DT) (el : DE) : fComp vs fi t tt el ρ = (fi ρ).bind fun ds => (compD t tt el (wipeD ρ vs) ds).bind fun ys => if ys.length ≤ seqMax then .ok (.lst .ow ys) else .stuck := rfl
@[simp] theorem wipeD_nil : wipeD ρ [] = ρ := rfl
@[simp] theorem wipeD_cons (vs : List Nat) : wipeD ρ (i :: vs) = (wipeD ρ vs).set i none := rfl
-- operators
@[simp] theorem opAdd_i (a b : Int) : opAdd (.int a) (.int b) = .ok (.int (a + b)) := rfl
@[simp] theorem opAdd_l (t u : Tg) (a b : List D) : opAdd (.lst t a) (.lst u b) = if a.length + b.length ≤ seqMax then .ok (.lst .ow (a ++ b)) else .stuck := rfl
@[simp] theorem opAdd_t (a b : List D) : opAdd (.tup a) (.tup b) = if a.length + b.length ≤ seqMax then .ok (.tup (a ++ b)) else .stuck := rfl
@[simp] theorem opSub_i (a b : Int) : opSub (.int a) (.int b) = .ok (.int (a - b)) := rfl
@[simp] theorem opMul_i (a b : Int) : opMul (.int a) (.int b) = if mulOk a b then .ok (.int (a * b)) else .stuck := rfl
theorem opFdiv_i (a b : Int) : opFdiv (.int a) (.int b) = if 0 < b ∧ b.natAbs.log2 < 9000 then .ok (.int (a / b)) else .stuck := rfl
@[simp] theorem opFdiv_s (a b : Int) (h : 0 < b) (h2 : b < 1000000000000000000000000000000000000000000000000000000000000000000000) : opFdiv (.int a) (.int b) = .ok (.int (a / b)) := by
  rw [opFdiv_i, if_pos]
  refine ⟨h, ?_⟩
  by_cases z : b.natAbs = 0
  · rw [z]; decide
  · have q : (1000000000000000000000000000000000000000000000000000000000000000000000 : Int) = ((1000000000000000000000000000000000000000000000000000000000000000000000 : Nat) : Int) := rfl
    have : b.natAbs < 1000000000000000000000000000000000000000000000000000000000000000000000 := by omega
    have h3 := (Nat.log2_lt (k := 250) z).mpr (Nat.lt_trans this (by decide +kernel))
    omega
@[simp] theorem opMod_i (a b : Int) : opMod (.int a) (.int b) = if 0 < b then .ok (.int (a % b)) else .stuck := rfl
@[simp] theorem opPow_i (a b : Int) : opPow (.int a) (.int b) = if 0 ≤ b ∧ b ≤ 1000000 ∧ a.natAbs < 18446744073709551616 then .ok (.int (a ^ b.toNat)) else .stuck := rfl
@[simp] theorem opNeg_i (a : Int) : opNeg (.int a) = .ok (.int (-a)) := rfl
@[simp] theorem opLt_i (a b : Int) : opLt (.int a) (.int b) = .ok (.bl (decide (a < b))) := rfl
@[simp] theorem opLe_i (a b : Int) : opLe (.int a) (.int b) = .ok (.bl (decide (a ≤ b))) := rfl
@[simp] theorem opGt_i (a b : Int) : opGt (.int a) (.int b) = .ok (.bl (decide (b < a))) := rfl
@[simp] theorem opGe_i (a b : Int) : opGe (.int a) (.int b) = .ok (.bl (decide (b ≤ a))) := rfl
theorem eqv_int (a b : Int) : PyData.eqv (.int a) (.int b) = decide (a = b) := by
  simp only [PyData.eqv]
  rfl
@[simp] theorem opEq_i (a b : Int) : opEq (.int a) (.int b) = .ok (.bl (decide (a = b))) := by
  unfold opEq
  rw [show D.py (.int a) = .int a from rfl, show D.py (.int b) = .int b from rfl, eqv_int]
  rfl
@[simp] theorem opNe_i (a b : Int) : opNe (.int a) (.int b) = .ok (.bl (!decide (a = b))) := by
  unfold opNe
  rw [show D.py (.int a) = .int a from rfl, show D.py (.int b) = .int b from rfl, eqv_int]
  rfl
theorem eqv_bool (a b : Bool) : PyData.eqv (.bool a) (.bool b) = decide (a = b) := by
  simp only [PyData.eqv]
  cases a <;> cases b <;> rfl
@[simp] theorem opEq_b (a b : Bool) : opEq (.bl a) (.bl b) = .ok (.bl (decide (a = b))) := by
  unfold opEq
  rw [show D.py (.bl a) = .bool a from rfl, show D.py (.bl b) = .bool b from rfl, eqv_bool]
  rfl
@[simp] theorem opNe_b (a b : Bool) : opNe (.bl a) (.bl b) = .ok (.bl (!decide (a = b))) := by
  unfold opNe
  rw [show D.py (.bl a) = .bool a from rfl, show D.py (.bl b) = .bool b from rfl, eqv_bool]
  rfl
@[simp] theorem ite_ok {α : Type} (c : Prop) [Decidable c] (a b : α) : (if c then Res.ok a else Res.ok b) = Res.ok (if c then a else b) := by split <;> rfl
@[simp] theorem ite_bl (c : Prop) [Decidable c] (a b : Bool) : (if c then D.bl a else D.bl b) = D.bl (if c then a else b) := by split <;> rfl
@[simp] theorem ite_int (c : Prop) [Decidable c] (a b : Int) : (if c then D.int a else D.int b) = D.int (if c then a else b) := by split <;> rfl
@[simp] theorem len_lst (t : Tg) : len1 (.lst t ds) = .ok (.int ds.length) := rfl
@[simp] theorem len_tup : len1 (.tup ds) = .ok (.int ds.length) := rfl
@[simp] theorem opLen_ap (a : D) : opLen [a] = len1 a := rfl
@[simp] theorem max2_i (a b : Int) : max2 (.int a) (.int b) = .ok (.int (if b > a then b else a)) := rfl
@[simp] theorem min2_i (a b : Int) : min2 (.int a) (.int b) = .ok (.int (if b < a then b else a)) := rfl
@[simp] theorem list1_l (t : Tg) : list1 (.lst t ds) = .ok (.lst .ow ds) := rfl
@[simp] theorem list1_t : list1 (.tup ds) = .ok (.lst .ow ds) := rfl
@[simp] theorem tuple1_l (t : Tg) : tuple1 (.lst t ds) = .ok (.tup ds) := rfl
@[simp] theorem tuple1_t : tuple1 (.tup ds) = .ok (.tup ds) := rfl
@[simp] theorem rng1_ap (b : Int) (h : fits62 b) : rng1 [.int b] = .ok (upTo 0 b.toNat) := by rw [rng1, if_pos h]
@[simp] theorem rng2_ap (a b : Int) (h : fits62 a) (h2 : fits62 b) : rng2 [.int a, .int b] = .ok (upTo a (b - a).toNat) := by rw [rng2, if_pos ⟨h, h2⟩]
@[simp] theorem opSl_l (t : Tg) (lo hi : Option Int) : opSl (.lst t ds) lo hi = .ok (.lst .ow (cutD ds lo hi)) := rfl
@[simp] theorem isi_int_i (z : Int) : isiD "int" (.int z) = .ok (.bl true) := rfl
@[simp] theorem isi_bool_i (z : Int) : isiD "bool" (.int z) = .ok (.bl false) := rfl
@[simp] theorem isi_bool_b (b : Bool) : isiD "bool" (.bl b) = .ok (.bl true) := rfl
@[simp] theorem isi_int_b (b : Bool) : isiD "int" (.bl b) = .ok (.bl true) := rfl
@[simp] theorem isi_tuple_t : isiD "tuple" (.tup ds) = .ok (.bl true) := rfl
@[simp] theorem isi_list_l (t : Tg) : isiD "list" (.lst t ds) = .ok (.bl true) := rfl
@[simp] theorem isi_list_t : isiD "list" (.tup ds) = .ok (.bl false) := rfl
@[simp] theorem isi_tuple_l (t : Tg) : isiD "tuple" (.lst t ds) = .ok (.bl false) := rfl
@[simp] theorem isi_int_n : isiD "int" .non = .ok (.bl false) := rfl
@[simp] theorem isi_str_s (s : Str) : isiD "str" (.str s) = .ok (.bl true) := rfl
@[simp] theorem isTy_def (t n : String) : isTy t n = (t == n || (t == "bool" && n == "int")) := rfl
theorem atI_nat {α : Type} (l : List α) (k : Nat) : L2.atI l (k : Int) = l[k]? := by
  unfold L2.atI L2.ixN
  by_cases h : k < l.length
  · rw [if_pos (by omega), if_pos (by omega)]; rfl
  · rw [if_pos (by omega), if_neg (by omega), List.getElem?_eq_none (by omega)]; rfl
theorem ixN_nat (n k : Nat) (h : k < n) : ixN n (k : Int) = some k := by
  unfold L2.ixN
  rw [if_pos (by omega), if_pos (by omega)]
  rfl
@[simp] theorem opIdx_t0 (a : D) (l : List D) : opIdx (.tup (a :: l)) (.int 0) = .ok a := by
  unfold opIdx; dsimp only; rw [show (0 : Int) = ((0 : Nat) : Int) from rfl, atI_nat]; rfl
@[simp] theorem opIdx_t1 (a b : D) (l : List D) : opIdx (.tup (a :: b :: l)) (.int 1) = .ok b := by
  unfold opIdx; dsimp only; rw [show (1 : Int) = ((1 : Nat) : Int) from rfl, atI_nat]; rfl
@[simp] theorem opIdx_t2 (a b c : D) (l : List D) : opIdx (.tup (a :: b :: c :: l)) (.int 2) = .ok c := by
  unfold opIdx; dsimp only; rw [show (2 : Int) = ((2 : Nat) : Int) from rfl, atI_nat]; rfl
@[simp] theorem opIdx_l0 (t : Tg) (a : D) (l : List D) : opIdx (.lst t (a :: l)) (.int 0) = .ok a := by
  unfold opIdx; dsimp only; rw [show (0 : Int) = ((0 : Nat) : Int) from rfl, atI_nat]; rfl
@[simp] theorem opIdx_l1 (t : Tg) (a b : D) (l : List D) : opIdx (.lst t (a :: b :: l)) (.int 1) = .ok b := by
  unfold opIdx; dsimp only; rw [show (1 : Int) = ((1 : Nat) : Int) from rfl, atI_nat]; rfl
@[simp] theorem opIdx_l2 (t : Tg) (a b c : D) (l : List D) : opIdx (.lst t (a :: b :: c :: l)) (.int 2) = .ok c := by
  unfold opIdx; dsimp only; rw [show (2 : Int) = ((2 : Nat) : Int) from rfl, atI_nat]; rfl
@[simp] theorem sSetIx_ap (fi fe : DE) : sSetIx i fi fe ρ = (fe ρ).toS ρ fun d => withL ρ i fun ds => (fi ρ).toS ρ fun k => match k with
  | .int z => match ixN ds.length z with
    | some j => if d.tg ≠ .vw then .next (ρ.set i (some (.lst .ow (ds.set j (d.re .fz))))) else .stuck
    | none => .stuck
  | _ => .stuck := rfl
-- tests and statements
@[simp] theorem sNext_ap : sNext ρ = .next ρ := rfl
@[simp] theorem sSeq_ap (g g2 : DS) : sSeq g g2 ρ = (g ρ).seq g2 := rfl
@[simp] theorem sDrop_ap (fe : DE) : sDrop fe ρ = (fe ρ).toS ρ fun _ => .next ρ := rfl
@[simp] theorem sRet_ap (fe : DE) : sRet fe ρ = (fe ρ).toS ρ fun d => .ret d := rfl
@[simp] theorem sRetV_0 : sRetV 0 (some d :: ρ) = .ret d := rfl
@[simp] theorem sRetV_s : sRetV (i + 1) (x :: ρ) = sRetV i ρ := by cases i <;> rfl
@[simp] theorem sIf_ap (c : DT) (g g2 : DS) : sIf c g g2 ρ = (c ρ).toS ρ fun b => if b = true then g ρ else g2 ρ := rfl
@[simp] theorem sSet_ap (fe : DE) : sSet i fe ρ = (fe ρ).toS ρ fun d => if d.tg = .vw then .stuck else .next (ρ.set i (some d)) := rfl
@[simp] theorem sAsg_ap (t : DTg) (fe : DE) : sAsg t fe ρ = (fe ρ).toS ρ fun d => if d.tg = .fz then match t d ρ with
  | some ρ' => .next ρ'
  | none => .stuck else .stuck := rfl
@[simp] theorem sPar_ap (fs : DA) : sPar i j fs ρ = (fs ρ).toS ρ fun ds => match ds with
  | [d, e] => if d.tg = .fz ∧ e.tg = .fz then .next ((ρ.set i (some d)).set j (some e)) else .stuck
  | _ => .stuck := rfl
def augI (k : SR) : D → D → SR
  | .int _, .int _ => k
  | _, _ => .stuck
@[simp] theorem augI_i (k : SR) (a b : Int) : augI k (.int a) (.int b) = k := rfl
@[simp] theorem sAug_ap (op : D → D → Res D) (fe : DE) : sAug i op fe ρ = match ρ[i]? with
  | some (some d) => (fe ρ).toS ρ fun d2 => augI ((op d d2).toS ρ fun d3 => .next (ρ.set i (some d3))) d d2
  | _ => .stuck := rfl
@[simp] theorem sFrz_ap (g : DS) : sFrz i g ρ = g (frzE ρ i) := rfl
@[simp] theorem frzE_0 : frzE (some d :: ρ) 0 = some (if d.tg = .ow then d.re .fz else d) :: ρ := by
  unfold frzE
  rw [show (some d :: ρ)[0]? = some (some d) from rfl]
  dsimp only
  by_cases h : d.tg = .ow
  · rw [if_pos h, if_pos h]; rfl
  · rw [if_neg h, if_neg h]
@[simp] theorem frzE_s : frzE (x :: ρ) (i + 1) = x :: frzE ρ i := by
  unfold frzE
  rw [show (x :: ρ)[i + 1]? = ρ[i]? by simp]
  cases ρ[i]? with
  | none => rfl
  | some o =>
    cases o with
    | none => rfl
    | some d => dsimp only; split <;> simp
@[simp] theorem sFor_ap (t : DTg) (fi : DA) (b : DS) : sFor t fi b ρ = (fi ρ).toS ρ fun ds => forD t b ds ρ := rfl
@[simp] theorem gN_ap : gN i d ρ = some (ρ.set i (some d)) := rfl
@[simp] theorem gT_ap (t : List D → DEnv → Option DEnv) : gT t (.tup ds) ρ = t ds ρ := rfl
@[simp] theorem gs0_ap : gs0 [] ρ = some ρ := rfl
@[simp] theorem gs1_ap (t : DTg) (u : List D → DEnv → Option DEnv) : gs1 t u (d :: ds) ρ = (t d ρ).bind fun ρ' => u ds ρ' := rfl
@[simp] theorem sm_le0 : 0 ≤ seqMax := by unfold seqMax; decide
@[simp] theorem sm_lt0 : 0 < seqMax := by unfold seqMax; decide
@[simp] theorem sm_le1 : 1 ≤ seqMax := by unfold seqMax; decide
@[simp] theorem sm_lt1 : 1 < seqMax := by unfold seqMax; decide
@[simp] theorem sm_le2 : 2 ≤ seqMax := by unfold seqMax; decide
@[simp] theorem sm_lt2 : 2 < seqMax := by unfold seqMax; decide
@[simp] theorem sm_le3 : 3 ≤ seqMax := by unfold seqMax; decide
@[simp] theorem sm_lt3 : 3 < seqMax := by unfold seqMax; decide
@[simp] theorem sm_le4 : 4 ≤ seqMax := by unfold seqMax; decide
@[simp] theorem sm_lt4 : 4 < seqMax := by unfold seqMax; decide
@[simp] theorem sm_le5 : 5 ≤ seqMax := by unfold seqMax; decide
@[simp] theorem sm_lt5 : 5 < seqMax := by unfold seqMax; decide
@[simp] theorem sm_le6 : 6 ≤ seqMax := by unfold seqMax; decide
@[simp] theorem sm_lt6 : 6 < seqMax := by unfold seqMax; decide
@[simp] theorem sm_le7 : 7 ≤ seqMax := by unfold seqMax; decide
@[simp] theorem sm_lt7 : 7 < seqMax := by unfold seqMax; decide
@[simp] theorem sm_le8 : 8 ≤ seqMax := by unfold seqMax; decide
@[simp] theorem sm_lt8 : 8 < seqMax := by unfold seqMax; decide
@[simp] theorem sm_le9 : 9 ≤ seqMax := by unfold seqMax; decide
@[simp] theorem sm_lt9 : 9 < seqMax := by unfold seqMax; decide
theorem withL_at {k : List D → SR} {ds : List D} (h : ρ[i]? = some (some (.lst .ow ds))) : withL ρ i k = k ds := by unfold withL; rw [h]
@[simp] theorem sApp_ap (fe : DE) : sApp i fe ρ = withL ρ i fun ds => (fe ρ).toS ρ fun d => if d.tg ≠ .vw ∧ ds.length < seqMax then .next (ρ.set i (some (.lst .ow (ds ++ [d.re .fz])))) else .stuck := rfl
@[simp] theorem sClear_ap : sClear i ρ = withL ρ i fun _ => .next (ρ.set i (some (.lst .ow []))) := rfl
@[simp] theorem sPop_ap : sPop j i ρ = withL ρ i fun ds => match ds[ds.length - 1]? with
  | some d => .next ((ρ.set i (some (.lst .ow ds.dropLast))).set j (some d))
  | none => .stuck := rfl
theorem withL_def (k : List D → SR) : withL ρ i k = match ρ[i]? with
  | some (some (.lst .ow ds)) => k ds
  | _ => .stuck := rfl
theorem run_ap (n m : Nat) (g : DS) (h : ds.length = m) : runD n m g ds = toRes (g (start0 n ds)) := by unfold runD; rw [if_pos h]
@[simp] theorem toRes_ret : toRes (.ret d) = .ok d := rfl
@[simp] theorem toRes_next : toRes (.next ρ) = .ok .non := rfl
@[simp] theorem toRes_exc (c : Str) : toRes (.exc c ρ) = .exc c := rfl
@[simp] theorem compD_nil (t : DTg) (tt : DT) (el : DE) : compD t tt el ρ [] = .ok [] := rfl
theorem compD_cons (t : DTg) (tt : DT) (el : DE) : compD t tt el ρ (d :: ds) = match t d ρ with
    | none => .stuck
    | some ρ1 => (noX (tt ρ1)).bind fun b => if b = true then (noX (el ρ1)).bind fun y => if y.tg = .vw then .stuck else (compD t tt el ρ ds).bind fun ys => .ok (y.re .fz :: ys) else compD t tt el ρ ds := rfl
end

/-! ### loops -/
/-- a for that goes on at every item: an invariant of what is done -/
theorem forD_inv {t : DTg} {b : DS} {ds : List D} (I : Nat → DEnv → Prop)
    (step : ∀ (i : Nat) (d : D) (ρ : DEnv), ds[i]? = some d → I i ρ → ∃ ρ1 ρ2, t d ρ = some ρ1 ∧ (b ρ1 = .next ρ2 ∨ b ρ1 = .cont ρ2) ∧ I (i + 1) ρ2)
    {ρ : DEnv} (h0 : I 0 ρ) : ∃ ρ', forD t b ds ρ = .next ρ' ∧ I ds.length ρ' := by
  suffices h : ∀ (n i : Nat) (ρ : DEnv), i + n = ds.length → I i ρ → ∃ ρ', forD t b (ds.drop i) ρ = .next ρ' ∧ I ds.length ρ' from by
    have := h ds.length 0 ρ (by omega) h0
    rwa [List.drop_zero] at this
  intro n
  induction n with
  | zero =>
    intro i ρ e hI
    have e2 : i = ds.length := by omega
    subst e2
    rw [List.drop_length]
    exact ⟨ρ, rfl, hI⟩
  | succ n ih =>
    intro i ρ e hI
    have hi : i < ds.length := by omega
    rw [List.drop_eq_getElem_cons hi]
    obtain ⟨ρ1, ρ2, e1, e2, h2⟩ := step i ds[i] ρ (List.getElem?_eq_getElem hi) hI
    obtain ⟨ρ', e3, h3⟩ := ih (i + 1) ρ2 (by omega) h2
    refine ⟨ρ', ?_, h3⟩
    unfold forD
    rw [e1]
    dsimp only
    rcases e2 with e2 | e2
    · rw [e2]; exact e3
    · rw [e2]; exact e3
/-- a while that goes on: a measure -/
theorem sWhile_inv {c : DT} {b : DS} (I : DEnv → Prop) (m : DEnv → Nat)
    (step : ∀ ρ, I ρ → c ρ = .ok false ∨ (c ρ = .ok true ∧ ∃ ρ', (b ρ = .next ρ' ∨ b ρ = .cont ρ') ∧ I ρ' ∧ m ρ' < m ρ)) {ρ : DEnv} (h : I ρ) :
    ∃ ρ', sWhile c b ρ = .next ρ' ∧ I ρ' ∧ c ρ' = .ok false := by
  suffices z : ∀ (n : Nat) (ρ : DEnv), m ρ < n → I ρ → ∃ ρ', whileD c b n ρ = .next ρ' ∧ I ρ' ∧ c ρ' = .ok false from by
    obtain ⟨ρ', e, q⟩ := z (m ρ + 1) ρ (by omega) h
    exact ⟨ρ', sWhile_eq e (by intro x; cases x), q⟩
  intro n
  induction n with
  | zero => intro ρ hm; omega
  | succ n ih =>
    intro ρ hm hI
    rcases step ρ hI with e | ⟨e, ρ', e2, hI', hm'⟩
    · exact ⟨ρ, by unfold whileD; rw [e]; rfl, hI, e⟩
    · obtain ⟨ρ2, e3, q⟩ := ih ρ' (by omega) hI'
      refine ⟨ρ2, ?_, q⟩
      unfold whileD
      rw [e]
      rcases e2 with e2 | e2
      · rw [e2]; exact e3
      · rw [e2]; exact e3
theorem forD_seq {t : DTg} {b g2 : DS} {ds : List D} {ρ : DEnv} {r : SR} (I : Nat → DEnv → Prop) (h0 : I 0 ρ)
    (step : ∀ (i : Nat) (d : D) (ρ : DEnv), ds[i]? = some d → I i ρ → ∃ ρ1 ρ2, t d ρ = some ρ1 ∧ (b ρ1 = .next ρ2 ∨ b ρ1 = .cont ρ2) ∧ I (i + 1) ρ2)
    (k : ∀ ρ', I ds.length ρ' → g2 ρ' = r) : (forD t b ds ρ).seq g2 = r := by
  obtain ⟨ρ', e, h⟩ := forD_inv I step h0
  rw [e]
  exact k ρ' h
theorem forD_run {t : DTg} {b g2 : DS} {ds : List D} {ρ : DEnv} {r : Res D} (I : Nat → DEnv → Prop) (h0 : I 0 ρ)
    (step : ∀ (i : Nat) (d : D) (ρ : DEnv), ds[i]? = some d → I i ρ → ∃ ρ1 ρ2, t d ρ = some ρ1 ∧ (b ρ1 = .next ρ2 ∨ b ρ1 = .cont ρ2) ∧ I (i + 1) ρ2)
    (k : ∀ ρ', I ds.length ρ' → toRes (g2 ρ') = r) : toRes ((forD t b ds ρ).seq g2) = r := by
  obtain ⟨ρ', e, h⟩ := forD_inv I step h0
  rw [e]
  exact k ρ' h
theorem sWhile_seq {c : DT} {b g2 : DS} {ρ : DEnv} {r : SR} (I : DEnv → Prop) (m : DEnv → Nat) (h : I ρ)
    (step : ∀ ρ, I ρ → c ρ = .ok false ∨ (c ρ = .ok true ∧ ∃ ρ', (b ρ = .next ρ' ∨ b ρ = .cont ρ') ∧ I ρ' ∧ m ρ' < m ρ))
    (k : ∀ ρ', I ρ' → c ρ' = .ok false → g2 ρ' = r) : (sWhile c b ρ).seq g2 = r := by
  obtain ⟨ρ', e, q, q2⟩ := sWhile_inv I m step h
  rw [e]
  exact k ρ' q q2
theorem sWhile_run {c : DT} {b g2 : DS} {ρ : DEnv} {r : Res D} (I : DEnv → Prop) (m : DEnv → Nat) (h : I ρ)
    (step : ∀ ρ, I ρ → c ρ = .ok false ∨ (c ρ = .ok true ∧ ∃ ρ', (b ρ = .next ρ' ∨ b ρ = .cont ρ') ∧ I ρ' ∧ m ρ' < m ρ))
    (k : ∀ ρ', I ρ' → c ρ' = .ok false → toRes (g2 ρ') = r) : toRes ((sWhile c b ρ).seq g2) = r := by
  obtain ⟨ρ', e, q, q2⟩ := sWhile_inv I m step h
  rw [e]
  exact k ρ' q q2
/-- a result, and what holds of it -/
def Res.Ok {α : Type} (r : Res α) (Q : α → Prop) : Prop := ∃ d, r = .ok d ∧ Q d
theorem Res.Ok.mk {α : Type} {d : α} {Q : α → Prop} (h : Q d) : Res.Ok (.ok d) Q := ⟨d, rfl, h⟩
theorem forD_ok {t : DTg} {b g2 : DS} {ds : List D} {ρ : DEnv} {Q : D → Prop} (I : Nat → DEnv → Prop) (h0 : I 0 ρ)
    (step : ∀ (i : Nat) (d : D) (ρ : DEnv), ds[i]? = some d → I i ρ → ∃ ρ1 ρ2, t d ρ = some ρ1 ∧ (b ρ1 = .next ρ2 ∨ b ρ1 = .cont ρ2) ∧ I (i + 1) ρ2)
    (k : ∀ ρ', I ds.length ρ' → Res.Ok (toRes (g2 ρ')) Q) : Res.Ok (toRes ((forD t b ds ρ).seq g2)) Q := by
  obtain ⟨ρ', e, h⟩ := forD_inv I step h0
  rw [e]
  exact k ρ' h
theorem sWhile_ok {c : DT} {b g2 : DS} {ρ : DEnv} {Q : D → Prop} (I : DEnv → Prop) (m : DEnv → Nat) (h : I ρ)
    (step : ∀ ρ, I ρ → c ρ = .ok false ∨ (c ρ = .ok true ∧ ∃ ρ', (b ρ = .next ρ' ∨ b ρ = .cont ρ') ∧ I ρ' ∧ m ρ' < m ρ))
    (k : ∀ ρ', I ρ' → c ρ' = .ok false → Res.Ok (toRes (g2 ρ')) Q) : Res.Ok (toRes ((sWhile c b ρ).seq g2)) Q := by
  obtain ⟨ρ', e, q, q2⟩ := sWhile_inv I m step h
  rw [e]
  exact k ρ' q q2
end Dl
/-! Plain facts that many laws want. -/
namespace Dl
open PySem PySem.Spec PyProof.Rows L2
/-- a whole number of few bits -/
def Sm (n : Nat) (c : Int) : Prop := c.natAbs.log2 ≤ n
theorem log2_mono {a b : Nat} (h : a ≤ b) : a.log2 ≤ b.log2 := by
  by_cases ha : a = 0
  · subst ha; simp
  · have : 2 ^ a.log2 ≤ b := Nat.le_trans (Nat.log2_self_le ha) h
    exact (Nat.le_log2 (by omega)).mpr this
theorem sm_of_bits {c : Int} {n : Nat} (h : Builtin.Int.intBits c ≤ n) : Sm n c := by
  unfold Sm
  unfold Builtin.Int.intBits at h
  split at h <;> rename_i e
  · simp_all
  · omega
theorem Sm.le {c d : Int} {n : Nat} (h : Sm n c) (e : d.natAbs ≤ c.natAbs) : Sm n d := Nat.le_trans (log2_mono e) h
theorem Sm.mono {c : Int} {n m : Nat} (h : Sm n c) (e : n ≤ m) : Sm m c := Nat.le_trans h e
theorem Sm.div {c : Int} {n : Nat} (h : Sm n c) (k : Int) : Sm n (c / k) := h.le (Int.natAbs_ediv_le_natAbs c k)
theorem Sm.mod {c k : Int} {n : Nat} (h : Sm n k) (hk : 0 < k) : Sm n (c % k) := h.le (by
  have h1 := Int.emod_nonneg c (show k ≠ 0 by omega)
  have h2 := Int.emod_lt_of_pos c hk
  omega)
theorem Sm.mul {c d : Int} {n m : Nat} (h : Sm n c) (g : Sm m d) : Sm (n + m + 1) (c * d) := by
  unfold Sm at *
  rw [Int.natAbs_mul]
  by_cases hc : c.natAbs = 0
  · rw [hc]; simp
  by_cases hd : d.natAbs = 0
  · rw [hd]; simp
  have h1 : c.natAbs < 2 ^ (n + 1) := (Nat.log2_lt hc).mp (by omega)
  have h2 : d.natAbs < 2 ^ (m + 1) := (Nat.log2_lt hd).mp (by omega)
  have h3 : c.natAbs * d.natAbs < 2 ^ (n + 1) * 2 ^ (m + 1) := Nat.mul_lt_mul'' h1 h2
  rw [← Nat.pow_add] at h3
  have := (Nat.log2_lt (Nat.mul_ne_zero hc hd)).mpr h3
  omega
theorem Sm.add {c d : Int} {n m : Nat} (h : Sm n c) (g : Sm m d) : Sm (max n m + 1) (c + d) := by
  unfold Sm at *
  have z : (c + d).natAbs ≤ c.natAbs + d.natAbs := Int.natAbs_add_le c d
  have b : ∀ (x k : Nat), x.log2 ≤ k → x < 2 ^ (k + 1) := fun x k e => by
    by_cases hx : x = 0
    · subst hx; exact Nat.pow_pos (by decide)
    · exact (Nat.log2_lt hx).mp (by omega)
  have h1 := b _ _ (Nat.le_trans h (Nat.le_max_left n m))
  have h2 := b _ _ (Nat.le_trans g (Nat.le_max_right n m))
  refine Nat.le_trans (log2_mono z) ?_
  by_cases hz : c.natAbs + d.natAbs = 0
  · rw [hz]; simp
  have h4 : c.natAbs + d.natAbs < 2 ^ (max n m + 1 + 1) := by rw [Nat.pow_succ]; omega
  have := (Nat.log2_lt hz).mpr h4
  omega
theorem mulOk_of {a b : Int} {n m : Nat} (h : Sm n a) (g : Sm m b) (e : n + m < 100000000) : mulOk a b = true := by
  unfold mulOk
  unfold Sm at *
  exact decide_eq_true (by omega)
theorem sm_cells {ns : List Int} (h : ∀ z ∈ ns, Builtin.Int.intBits z ≤ 1048576) (k : Nat) : Sm 1048576 (ns.getD k 0) := by
  rw [List.getD_eq_getElem?_getD]
  cases e : ns[k]? with
  | none => show Nat.log2 0 ≤ _; simp
  | some z => exact sm_of_bits (h z (List.mem_of_getElem? e))
theorem idx_ints (t : Tg) (l : List Int) (k : Nat) (h : k < l.length) : opIdx (.lst t (l.map .int)) (.int k) = .ok (.int (l.getD k 0)) := by
  unfold opIdx
  dsimp only
  rw [atI_nat, List.getElem?_map, List.getD_eq_getElem?_getD, List.getElem?_eq_getElem h]
  rfl
theorem idx_intsT (l : List Int) (k : Nat) (h : k < l.length) : opIdx (.tup (l.map .int)) (.int k) = .ok (.int (l.getD k 0)) := by
  unfold opIdx
  dsimp only
  rw [atI_nat, List.getElem?_map, List.getD_eq_getElem?_getD, List.getElem?_eq_getElem h]
  rfl
theorem idx_natL (t : Tg) (l : List D) (k : Nat) (h : k < l.length) : opIdx (.lst t l) (.int k) = .ok l[k] := by
  unfold opIdx
  dsimp only
  rw [atI_nat, List.getElem?_eq_getElem h]
theorem idx_natT (l : List D) (k : Nat) (h : k < l.length) : opIdx (.tup l) (.int k) = .ok l[k] := by
  unfold opIdx
  dsimp only
  rw [atI_nat, List.getElem?_eq_getElem h]
theorem cut_head (l : List D) (k : Nat) : cutD l none (some (k : Int)) = l.take k := by
  unfold cutD
  rw [HT.sIx_none, HT.sIx_nat, List.drop_zero, Nat.sub_zero]
  by_cases h : k ≤ l.length
  · rw [Nat.min_eq_left h]
  · rw [Nat.min_eq_right (by omega), List.take_of_length_le (by omega), List.take_of_length_le (by omega)]
theorem fits_long {z : Int} (h : -1000000000000 ≤ z) (h2 : z ≤ 1000000000000) : Builtin.Range.rangeFitsLong z = true := by
  unfold Builtin.Range.rangeFitsLong
  simp
  omega
theorem rng3_nat (a b c : Nat) (ha : a ≤ 100000000000) (hb : b ≤ 100000000000) (h0 : 0 < c) (hc : c < 1073741824) : rng3 [.int a, .int b, .int c] = .ok (upBy a c (if a < b then (b - a - 1) / c + 1 else 0)) := by
  have e : Builtin.Range.rangeSize a b c = ((if a < b then (b - a - 1) / c + 1 else 0 : Nat) : Int) := by
    unfold Builtin.Range.rangeSize
    rw [if_pos (by omega)]
    by_cases h : a < b
    · rw [if_pos (by omega), if_pos h]
      rw [show ((b : Int) - a - 1) = ((b - a - 1 : Nat) : Int) by omega]
      rfl
    · rw [if_neg (by omega), if_neg h]; rfl
  have m : (if a < b then (b - a - 1) / c + 1 else 0) ≤ 100000000001 := by
    split
    · have := Nat.div_le_self (b - a - 1) c
      omega
    · omega
  have g : rng3.RgCb a b c = true := by
    unfold rng3.RgCb Builtin.Range.small
    rw [e]
    generalize (if a < b then (b - a - 1) / c + 1 else 0) = k at m
    rw [if_pos (show (c : Int) > 0 by omega), fits_long (z := (a : Int)) (by omega) (by omega), fits_long (z := (b : Int)) (by omega) (by omega), fits_long (z := (c : Int)) (by omega) (by omega), fits_long (z := (k : Int)) (by omega) (by omega), fits_long (z := (b : Int) + ((c : Int) - 1)) (by omega) (by omega)]
    simp
    omega
  unfold rng3
  dsimp only
  rw [if_pos g, e]
  rfl
theorem upBy_get {a c : Int} {n i : Nat} {d : D} (h : (upBy a c n)[i]? = some d) : i < n ∧ d = .int (a + i * c) := by
  unfold upBy at h
  rw [List.getElem?_map] at h
  by_cases hi : i < n
  · rw [List.getElem?_range hi] at h
    cases h
    exact ⟨hi, rfl⟩
  · rw [List.getElem?_eq_none (by simpa using hi)] at h; cases h
end Dl
/-! Equality over data. -/
namespace Dl
open PySem PySem.Spec PyProof.Rows L2
def deq (a b : D) : Bool := PyData.eqv a.py b.py
def deqs (l m : List D) : Bool := PyData.eqvAll (D.py.pys l) (D.py.pys m)
/-- no dict within, not deep -/
def D.shp : Nat → D → Bool
  | _, .non => true
  | _, .bl _ => true
  | _, .int _ => true
  | _, .str s => PyData.strOk s
  | n + 1, .tup ds => ds.all (D.shp n)
  | n + 1, .lst _ ds => ds.all (D.shp n)
  | _, _ => false
theorem pys_map (l : List D) : D.py.pys l = l.map D.py := by
  induction l with
  | nil => rfl
  | cons a l ih => rw [List.map_cons, ← ih]; rfl
theorem shps_can (n : Nat) (hi : ∀ d : D, d.shp n = true → d.py.canLay0 = true ∧ d.py.depth ≤ n) : ∀ ds : List D, ds.all (D.shp n) = true → PyData.canLayAll0 (D.py.pys ds) = true ∧ PyData.depthAll (D.py.pys ds) ≤ n
  | [], _ => ⟨by simp [D.py.pys, PyData.canLayAll0], by simp [D.py.pys, PyData.depthAll]⟩
  | d :: ds, h => by
    rw [List.all_cons, Bool.and_eq_true] at h
    obtain ⟨i1, i2⟩ := shps_can n hi ds h.2
    obtain ⟨j1, j2⟩ := hi d h.1
    rw [D.py.pys]
    exact ⟨by rw [PyData.canLayAll0, j1, i1]; rfl, by rw [PyData.depthAll]; exact Nat.max_le.mpr ⟨j2, i2⟩⟩
theorem shp_leaf (n : Nat) : ∀ d : D, d.shp n = true → (match d with | .tup _ => False | .lst _ _ => False | _ => True) → d.py.canLay0 = true ∧ d.py.depth ≤ n
  | .non, _, _ => ⟨by simp [D.py, PyData.canLay0], by simp [D.py, PyData.depth]⟩
  | .bl _, _, _ => ⟨by simp [D.py, PyData.canLay0], by simp [D.py, PyData.depth]⟩
  | .int _, _, _ => ⟨by simp [D.py, PyData.canLay0], by simp [D.py, PyData.depth]⟩
  | .str s, h, _ => ⟨by
      have h : PyData.strOk s = true := by cases n <;> exact h
      simp only [D.py, PyData.canLay0]
      exact h, by simp [D.py, PyData.depth]⟩
  | .dic _ _, h, _ => by cases n <;> cases h
  | .obj _ _ _ _, h, _ => by cases n <;> cases h
  | .tup _, _, z => z.elim
  | .lst _ _, _, z => z.elim
theorem shp_can : ∀ (n : Nat) (d : D), d.shp n = true → d.py.canLay0 = true ∧ d.py.depth ≤ n
  | 0, d, h => shp_leaf 0 d h (by cases d <;> first | trivial | cases h)
  | n + 1, d, h => by
    cases d with
    | tup ds =>
      obtain ⟨a, b⟩ := shps_can n (shp_can n) ds h
      simp only [D.py, PyData.canLay0, PyData.depth]
      exact ⟨a, by omega⟩
    | lst t ds =>
      obtain ⟨a, b⟩ := shps_can n (shp_can n) ds h
      simp only [D.py, PyData.canLay0, PyData.depth]
      exact ⟨a, by omega⟩
    | _ => exact shp_leaf (n + 1) _ h trivial
theorem shaped_of {d : D} (h : d.shp 60 = true) : SeqAt.shaped d.py = true := by
  obtain ⟨a, b⟩ := shp_can 60 d h
  unfold SeqAt.shaped
  rw [a, decide_eq_true (by omega)]
  rfl
theorem opEq_p {a b : D} (h : a.shp 60 = true) (g : b.shp 60 = true) : opEq a b = .ok (.bl (deq a b)) := by
  unfold opEq
  rw [shaped_of h, shaped_of g]
  rfl
theorem opNe_p {a b : D} (h : a.shp 60 = true) (g : b.shp 60 = true) : opNe a b = .ok (.bl (!deq a b)) := by
  unfold opNe
  rw [shaped_of h, shaped_of g]
  rfl
@[simp] theorem shp_int (n : Nat) (z : Int) : D.shp n (.int z) = true := by cases n <;> rfl
@[simp] theorem shp_non (n : Nat) : D.shp n .non = true := by cases n <;> rfl
@[simp] theorem shp_bl (n : Nat) (b : Bool) : D.shp n (.bl b) = true := by cases n <;> rfl
@[simp] theorem shp_tup (n : Nat) (ds : List D) : D.shp (n + 1) (.tup ds) = ds.all (D.shp n) := id rfl
@[simp] theorem shp_lst (n : Nat) (t : Tg) (ds : List D) : D.shp (n + 1) (.lst t ds) = ds.all (D.shp n) := id rfl
@[simp] theorem deq_i (a b : Int) : deq (.int a) (.int b) = decide (a = b) := rfl
@[simp] theorem deq_b (a b : Bool) : deq (.bl a) (.bl b) = decide (a = b) := by cases a <;> cases b <;> rfl
@[simp] theorem deq_s (a b : Str) : deq (.str a) (.str b) = (a == b) := rfl
@[simp] theorem deq_nn : deq .non .non = true := rfl
@[simp] theorem deq_ni (a : Int) : deq .non (.int a) = false := rfl
@[simp] theorem deq_in (a : Int) : deq (.int a) .non = false := rfl
@[simp] theorem deq_nt (a : List D) : deq .non (.tup a) = false := rfl
@[simp] theorem deq_tn (a : List D) : deq (.tup a) .non = false := rfl
@[simp] theorem deq_it (i : Int) (a : List D) : deq (.int i) (.tup a) = false := rfl
@[simp] theorem deq_ti (i : Int) (a : List D) : deq (.tup a) (.int i) = false := rfl
@[simp] theorem deq_lt (t : Tg) (b a : List D) : deq (.lst t b) (.tup a) = false := rfl
@[simp] theorem deq_tl (t : Tg) (b a : List D) : deq (.tup a) (.lst t b) = false := rfl
@[simp] theorem deq_ln (t : Tg) (a : List D) : deq (.lst t a) .non = false := rfl
@[simp] theorem deq_nl (t : Tg) (a : List D) : deq .non (.lst t a) = false := rfl
@[simp] theorem deq_t (a b : List D) : deq (.tup a) (.tup b) = deqs a b := by
  unfold deq deqs; simp only [D.py, PyData.eqv]
@[simp] theorem deq_l (t u : Tg) (a b : List D) : deq (.lst t a) (.lst u b) = deqs a b := by
  unfold deq deqs; simp only [D.py, PyData.eqv]
@[simp] theorem deqs_nn : deqs [] [] = true := rfl
@[simp] theorem deqs_nc (b : D) (m : List D) : deqs [] (b :: m) = false := rfl
@[simp] theorem deqs_cn (b : D) (m : List D) : deqs (b :: m) [] = false := rfl
@[simp] theorem deqs_cc (a b : D) (l m : List D) : deqs (a :: l) (b :: m) = (deq a b && deqs l m) := rfl
theorem deqs_map {α : Type} [DecidableEq α] {f g : α → D} (h : ∀ x y, deq (f x) (g y) = decide (x = y)) : ∀ (l m : List α), deqs (l.map f) (m.map g) = decide (l = m)
  | [], [] => rfl
  | [], b :: m => rfl
  | a :: l, [] => rfl
  | a :: l, b :: m => by
    rw [List.map_cons, List.map_cons, deqs_cc, h, deqs_map h l m]
    by_cases e : a = b
    · subst e; simp
    · simp [e]
@[simp] theorem deqs_ints (l m : List Int) : deqs (l.map .int) (m.map .int) = decide (l = m) := deqs_map deq_i l m
@[simp] theorem deqs_ints0 (l : List Int) : deqs (l.map .int) [] = decide (l = []) := deqs_ints l []
@[simp] theorem deqs_ints1 (l : List Int) : deqs [] (l.map .int) = decide ([] = l) := deqs_ints [] l
@[simp] theorem shps_ints (n : Nat) (l : List Int) : (l.map D.int).all (D.shp n) = true := by
  rw [List.all_eq_true]
  intro x hx
  obtain ⟨z, _, rfl⟩ := List.mem_map.mp hx
  exact shp_int n z
end Dl
/-! Membership in lists and tuples of flat data. -/
namespace Dl
open PySem PySem.Spec PyProof.Rows L2
def D.toV : D → V
  | .bl b => .bl b
  | .int i => .int i
  | .str s => .str s
  | _ => .non
def D.fl : D → Bool
  | .non => true
  | .bl _ => true
  | .int _ => true
  | .str _ => true
  | _ => false
def eqF (a b : D) : Bool := eqV a.toV b.toV
def inD (a : D) (ds : List D) : Bool := ds.any fun y => eqF y a
def inL (a : D) (ds : List D) : Bool := ds.any fun y => deq y a
def opInW (neg : Bool) (a : D) : D → Res D
  | .lst t ds => if SeqAt.shaped a.py && SeqAt.shaped (D.lst t ds).py then .ok (.bl (if neg then !inL a ds else inL a ds)) else .stuck
  | .tup ds => if a.fl && ds.all D.fl then .ok (.bl (if neg then !inD a ds else inD a ds)) else .stuck
  | _ => .stuck
def opIn : D → D → Res D := opInW false
def opNin : D → D → Res D := opInW true
def rInW (K : PySem.W.Frag) (neg : Bool) : R2 := fun x y H Q => (∃ d ds, Dp K H x d ∧ Dp K H y (.list ds) ∧ SeqAt.shaped d = true ∧ SeqAt.shaped (.list ds) = true ∧ Q (.bl (if neg then !(ds.any fun z => PyData.eqv z d) else ds.any fun z => PyData.eqv z d)) H) ∨ rIn K neg x y H Q
section
variable {w : World} {K : PySem.W.Frag} {mg : Str → Option Value} {F : Hp} {X : Cx} {W : WX}
theorem Rep.flat {v : V} {d : D} (r : Rep w K mg F v d) (h : d.fl = true) : v = d.toV ∧ flatV v = true := by
  cases r <;> first | exact ⟨rfl, rfl⟩ | cases h
theorem Reps.flats : ∀ {vs : List V} {ds : List D}, Reps w K mg F vs ds → ds.all D.fl = true → vs = ds.map D.toV ∧ vs.all flatV = true
  | _, _, .nil, _ => ⟨rfl, rfl⟩
  | _, _, .cons r rs, h => by
    rw [List.all_cons, Bool.and_eq_true] at h
    obtain ⟨e1, f1⟩ := Rep.flat r h.1
    obtain ⟨e2, f2⟩ := Reps.flats rs h.2
    exact ⟨by rw [e1, e2]; rfl, by rw [List.all_cons, f1, f2]; rfl⟩
theorem inV_eq (a : D) (ds : List D) : inV a.toV (ds.map D.toV) = inD a ds := by
  unfold inV inD
  rw [List.any_map]
  rfl
theorem units65 {k : Nat} {A : Around} (r : Room k A) : A.units + 65 < cLine := by have := r.un; omega
theorem op_inW (hu : X.A.units + 65 < cLine) : OpR X (compareOp .In) (rInW X.K false) := by
  intro pins s σ H x y v u Q I rx ry h
  rcases h with h | h
  · exact op_inD hu pins s σ H x y v u Q I rx ry h
  · exact op_in_seq pins s σ H x y v u Q I rx ry h
theorem op_ninW (hu : X.A.units + 65 < cLine) : OpR X (compareOp .NotIn) (rInW X.K true) := by
  intro pins s σ H x y v u Q I rx ry h
  rcases h with h | h
  · exact op_notInD hu pins s σ H x y v u Q I rx ry h
  · exact op_notIn_seq pins s σ H x y v u Q I rx ry h
theorem any_py (a : D) (ds : List D) : ((D.py.pys ds).any fun z => PyData.eqv z a.py) = inL a ds := by
  unfold inL
  rw [pys_map, List.any_map]
  rfl
theorem ok_in (neg : Bool) : OpOk X W (opInW neg) (rInW X.K neg) := by
  intro H0 F0 ρ σ F H F2 H2 v u a b Q r r2 g x y p
  cases b with
  | lst t ds =>
    obtain ⟨h, p⟩ := Post.guard p
    rw [Bool.and_eq_true] at h
    refine .inl ⟨a.py, D.py.pys ds, x.dp r2.fh (SeqAt.canLay_of_shaped h.1), y.dp r2.fh (SeqAt.canLay_of_shaped h.2), h.1, h.2, ?_⟩
    rw [any_py]
    exact p.here r2 g (RX.fz (.bl _))
  | tup ds =>
    obtain ⟨h, p⟩ := Post.guard p
    rw [Bool.and_eq_true] at h
    obtain ⟨q, xs, rfl, h1, h2⟩ := y.tup r2.fh
    have ta : a.tg = .fz := by cases a <;> first | rfl | cases h.1
    obtain ⟨e1, f1⟩ := (x.rep ta).flat h.1
    obtain ⟨e2, f2⟩ := h2.flats h.2
    refine .inr ⟨q, xs, rfl, .inr (.inl h1), f1, f2, ?_⟩
    rw [e1, e2, inV_eq]
    exact p.here r2 g (RX.fz (.bl _))
  | _ => exact p.elim
variable {a b : Expr} {fa fb : DE} {pos : Pos} {k : Nat}
theorem pd_in (hr : Room k X.A) (ha : PD X W a fa) (hb : PD X W b fb) (hm : behindInMarks .In b = false := by with_unfolding_all rfl) : PD X W (.Compare a [.In] [b] pos) (fB opIn fa fb) := (pe_cmpR (op_inW (units65 hr)) ha hb hm).imp fun _ _ _ => bin_imp (ok_in false)
theorem pd_nin (hr : Room k X.A) (ha : PD X W a fa) (hb : PD X W b fb) (hm : behindInMarks .NotIn b = false := by with_unfolding_all rfl) : PD X W (.Compare a [.NotIn] [b] pos) (fB opNin fa fb) := (pe_cmpR (op_ninW (units65 hr)) ha hb hm).imp fun _ _ _ => bin_imp (ok_in true)
theorem ptd_in (hr : Room k X.A) (ha : PD X W a fa) (hb : PD X W b fb) (hm : behindInMarks .In b = false := by with_unfolding_all rfl) : PTD X W (.Compare a [.In] [b] pos) (tOf (fB opIn fa fb)) := ptd_cmp (op_inW (units65 hr)) (ok_in false) ha hb hm
theorem ptd_nin (hr : Room k X.A) (ha : PD X W a fa) (hb : PD X W b fb) (hm : behindInMarks .NotIn b = false := by with_unfolding_all rfl) : PTD X W (.Compare a [.NotIn] [b] pos) (tOf (fB opNin fa fb)) := ptd_cmp (op_ninW (units65 hr)) (ok_in true) ha hb hm
end
@[simp] theorem eqF_i (a b : Int) : eqF (.int a) (.int b) = decide (a = b) := rfl
theorem inD_ints (a : Int) (l : List Int) : inD (.int a) (l.map .int) = decide (a ∈ l) := by
  unfold inD
  rw [List.any_map, Bool.eq_iff_iff, List.any_eq_true]
  simp
theorem inL_ints (a : Int) (l : List Int) : inL (.int a) (l.map .int) = decide (a ∈ l) := by
  unfold inL
  rw [List.any_map, Bool.eq_iff_iff, List.any_eq_true]
  simp
theorem fl_ints (l : List Int) : (l.map D.int).all D.fl = true := by
  rw [List.all_eq_true]
  intro x hx
  obtain ⟨z, _, rfl⟩ := List.mem_map.mp hx
  rfl
theorem opInW_l {neg : Bool} {t : Tg} {a : D} {ds : List D} (h : a.shp 60 = true) (g : (D.lst t ds).shp 60 = true) : opInW neg a (.lst t ds) = .ok (.bl (if neg then !inL a ds else inL a ds)) := by
  unfold opInW
  dsimp only
  rw [shaped_of h, shaped_of g]
  rfl
@[simp] theorem opIn_ints (t : Tg) (a : Int) (l : List Int) : opIn (.int a) (.lst t (l.map .int)) = .ok (.bl (decide (a ∈ l))) := by
  unfold opIn
  rw [opInW_l (by simp) (by simp), inL_ints]
  rfl
@[simp] theorem opNin_ints (t : Tg) (a : Int) (l : List Int) : opNin (.int a) (.lst t (l.map .int)) = .ok (.bl (!decide (a ∈ l))) := by
  unfold opNin
  rw [opInW_l (by simp) (by simp), inL_ints]
  rfl
@[simp] theorem opIn_intsT (a : Int) (l : List Int) : opIn (.int a) (.tup (l.map .int)) = .ok (.bl (decide (a ∈ l))) := by
  unfold opIn opInW
  dsimp only
  rw [fl_ints, inD_ints]
  rfl
@[simp] theorem opNin_intsT (a : Int) (l : List Int) : opNin (.int a) (.tup (l.map .int)) = .ok (.bl (!decide (a ∈ l))) := by
  unfold opNin opInW
  dsimp only
  rw [fl_ints, inD_ints]
  rfl
end Dl
/-! zip of two lists or of two tuples. -/
namespace Dl
open PySem PySem.Spec PyProof.Rows L2
def pairs (a b : List D) : List D := List.zipWith (fun x y => .tup [x, y]) a b
def zip2 : List D → Res (List D)
  | [.lst t a, .lst u b] => if t ≠ .vw ∧ u ≠ .vw then .ok (pairs a b) else .stuck
  | [.tup a, .tup b] => .ok (pairs a b)
  | [.lst t a, .tup b] => if t ≠ .vw then .ok (pairs a b) else .stuck
  | [.tup a, .lst t b] => if t ≠ .vw then .ok (pairs a b) else .stuck
  | _ => .stuck
@[simp] theorem zip2_l (t u : Tg) (a b : List D) : zip2 [.lst t a, .lst u b] = if t ≠ .vw ∧ u ≠ .vw then .ok (pairs a b) else .stuck := rfl
@[simp] theorem zip2_lt (t : Tg) (a b : List D) : zip2 [.lst t a, .tup b] = if t ≠ .vw then .ok (pairs a b) else .stuck := rfl
@[simp] theorem zip2_tl (t : Tg) (a b : List D) : zip2 [.tup a, .lst t b] = if t ≠ .vw then .ok (pairs a b) else .stuck := rfl
@[simp] theorem zip2_t (a b : List D) : zip2 [.tup a, .tup b] = .ok (pairs a b) := rfl
end Dl
/-! zip where each of the two is a list or a tuple (b: a tuple). -/
namespace Dl
open PySem PySem.Spec PyProof.Rows L2
def ItrB (b : Bool) (h : Heap) (i l : Addr) (k : Nat) : Prop := if b = true then h.IsTupleIter i l k else h.IsListIter i l k
def SrcB (b : Bool) (h : Heap) (l : Addr) (xs : Array Value) : Prop := if b = true then h.IsTuple l xs else h.IsList l xs
def SqB (b : Bool) (K : PySem.W.Frag) (H : Hp) (a : Addr) (xs : List V) : Prop := if b = true then SqT K H a xs else SqL K H a xs
theorem ItrB.lift {b : Bool} {h h' : Heap} {i l : Addr} {k : Nat} (x : ItrB b h i l k) (e : ∀ o, h.get? i = some o → h'.get? i = some o) : ItrB b h' i l k := by
  cases b
  · exact Heap.IsListIter.at x e
  · exact Heap.IsTupleIter.at x e
theorem ItrB.cell {b : Bool} {h : Heap} {i l : Addr} {k : Nat} (x : ItrB b h i l k) : ∃ o, h.get? i = some o ∧ ∀ v, o.data ≠ .cell v := by
  cases b
  · obtain ⟨o, e, _, d⟩ := x; exact ⟨o, e, fun v q => by rw [d] at q; cases q⟩
  · obtain ⟨o, e, _, d⟩ := x; exact ⟨o, e, fun v q => by rw [d] at q; cases q⟩
theorem drawB {prog : Program} {w : World} {A : Around} (hh : A.handled = none) (b : Bool) (it l : Addr) (hne : l ≠ it) (items : Array Value) :
    Draws prog w A it [it, l] items.size (fun i v => items[i]? = some v) (fun i h => ItrB b h it l i ∧ SrcB b h l items) := by
  cases b
  · exact Draws.list hh it l hne items
  · exact Draws.tuple hh it l hne items
section
variable {X : Cx} {pins : List (Addr × Obj)} {σ : L2.St} {H : Hp} {s : Shared}
theorem seqB {b : Bool} {a : Addr} {xs : List V} (I : Inv X pins σ H s) (h : SqB b X.K H a xs) : ∃ its : List Value, Vals xs its ∧ SrcB b s.heap a its.toArray ∧ a < s.heap.objs.size := by
  cases b
  · obtain ⟨its, r, p, _⟩ := I.list h
    exact ⟨its, r, p.isList, p.lt⟩
  · obtain ⟨its, r, p, _⟩ := I.tuple h
    exact ⟨its, r, p, by obtain ⟨o, ho, _⟩ := id p; exact Heap.lt_size ho⟩
theorem injB {b : Bool} {a : Addr} {xs ys : List V} (I : Inv X pins σ H s) (h : SqB b X.K H a xs) (g : SqB b X.K H a ys) : xs = ys := by
  cases b
  · exact I.list_inj h g
  · exact I.tuple_inj h g
end
/-- two rows side by side, each turn a new pair -/
def ItzB (b c : Bool) (K : PySem.W.Frag) (p q : Addr) : It :=
  ⟨fun i H => ∃ (xs ys : List V), SqB b K H p xs ∧ SqB c K H q ys ∧ i < xs.length ∧ i < ys.length,
    fun i H v H' => ∃ T x y o, v = .ref T ∧ H T = none ∧ TupO o ∧ H' = upd H T (.frz o (.tup [x, y])) ∧ (∀ xs, SqB b K H p xs → xs[i]? = some x) ∧ ∀ ys, SqB c K H q ys → ys[i]? = some y,
    fun i H => ∃ xs ys : List V, SqB b K H p xs ∧ SqB c K H q ys ∧ i = min xs.length ys.length⟩
theorem turn_zipB {P : Program} {w : World} {K : PySem.W.Frag} {elts : List Expr} {kk : Nat} {tpos : Pos} {b c : Bool} {p q z TI TO i1 i2 : Addr} (D : ZipApart z TI TO i1 i2 p q) :
    Turn P w K (.Tuple elts kk tpos) (ItzB b c K p q) [z, TI, TO, i1, i2] z (fun i h => IsZip h z TI TO .none ∧ IsPair h TI (.ref i1) (.ref i2) ∧ (∃ x y, IsPair h TO x y) ∧ ItrB b h i1 p i ∧ ItrB c h i2 q i) where
  mem := List.mem_cons_self ..
  obj := fun k g ⟨a1, a2, ⟨x, y, a3⟩, a4, a5⟩ n hn => by
    rcases (by simpa using hn : n = z ∨ n = TI ∨ n = TO ∨ n = i1 ∨ n = i2) with rfl | rfl | rfl | rfl | rfl
    · exact ⟨_, a1, fun _ e => nomatch e⟩
    · exact ⟨_, a2, fun _ e => nomatch e⟩
    · exact ⟨_, a3, fun _ e => nomatch e⟩
    · exact a4.cell
    · exact a5.cell
  keep := fun k g g' ⟨a1, a2, ⟨x, y, a3⟩, a4, a5⟩ up => ⟨up z (by simp) _ a1, up TI (by simp) _ a2, ⟨x, y, up TO (by simp) _ a3⟩, a4.lift (up i1 (by simp)), a5.lift (up i2 (by simp))⟩
  item := by
    rintro X rfl rfl rfl hc k pins s σ H E I hf ⟨a1, a2, ⟨x0, y0, a3⟩, a4, a5⟩ ⟨xs, ys, sx, sy, lx, ly⟩
    obtain ⟨us, vx, cx, _⟩ := seqB I sx
    obtain ⟨ws, vy, cy, _⟩ := seqB I sy
    have lu := vx.length
    have lw := vy.length
    have hh : X.A.in1.handled = none := I.ok.hd hc
    have off : ∀ {m n r : Addr}, n ≠ m → r ≠ m → m ∉ [n, r] := fun h1 h2 e => by
      rcases List.mem_cons.mp e with e | e
      · exact h1 e.symm
      · exact h2 (List.mem_singleton.mp e).symm
    have Z : ZipSep2 z TI TO i1 i2 [i1, p] [i2, q] :=
      ⟨D.TIz, D.TOz, D.TITO, D.TIi1, List.mem_cons_self .., off D.i1z D.l1z, off (Ne.symm D.TOi1) D.l1TO, D.TIi2, List.mem_cons_self .., off D.i2z D.l2z, off (Ne.symm D.TOi2) D.l2TO, off (Ne.symm D.i12) D.l2i1, off D.i12 D.l1i2⟩
    obtain ⟨x, hx⟩ : ∃ x, xs[k]? = some x := ⟨_, List.getElem?_eq_getElem lx⟩
    obtain ⟨y, hy⟩ : ∃ y, ys[k]? = some y := ⟨_, List.getElem?_eq_getElem ly⟩
    obtain ⟨u, hu, ru⟩ := vx.get hx
    obtain ⟨u2, hu2, ru2⟩ := vy.get hy
    have zl : z < s.heap.objs.size := Heap.lt_size a1
    refine wpAny_pyNext_zipD2_item Z (drawB hh b i1 p D.l1i1 us.toArray) (drawB hh c i2 q D.l2i2 ws.toArray) a1 a2 a3 ⟨a4, cx⟩ ⟨a5, cy⟩ (by simp; omega) (by simp; omega) fun v v2 g tk e1 e2 b1 b2 b3 b4 b5 b6 b7 => ?_
    have e1 : us[k]? = some v := by simpa using e1
    have e2 : ws[k]? = some v2 := by simpa using e2
    rw [hu] at e1
    rw [hu2] at e2
    cases e1
    cases e2
    refine ⟨_, rfl, wpAny_letOwnedTupleGo_zip (s := { s with heap := g, toks := tk }) b1 fun g2 c1 c2 => ?_⟩
    have at2 : g2.get? s.heap.objs.size = some { cls := .type "tuple", data := .seq #[u, u2] } := (c2.2 _ (Nat.ne_of_gt zl)).trans b5
    have fresh : H s.heap.objs.size = none := I.hok.fresh (Nat.le_refl _)
    have I2 : Inv X pins σ (upd H s.heap.objs.size (.frz (tupO #[u, u2]) (.tup [x, y]))) { s with heap := g2, toks := tk } :=
      I.turnedNew (t' := tk) (ch := [z, TI, TO, i1, i2]) (fun n o hb e => by
        have hb : n ≠ z ∧ n ≠ TI ∧ n ≠ TO ∧ n ≠ i1 ∧ n ≠ i2 := by simpa using hb
        exact (c2.2 n hb.1).trans (b7 n o hb.1 hb.2.2.1 hb.2.2.2.1 hb.2.2.2.2 e)) hf (Nat.le_refl _) (new_tup (its := [u, u2]) (by decide : 2 ≤ sizeLine) (.cons ru (.cons ru2 .nil)) at2)
    refine ⟨.ref s.heap.objs.size, _, I2, rfl, ⟨_, x, y, _, rfl, fresh, tupO_ok _, rfl, fun l hl => by rw [injB I hl sx]; exact hx, fun l hl => by rw [injB I hl sy]; exact hy⟩,
      ⟨c1, (c2.2 _ D.TIz).trans (b7 _ _ D.TIz D.TITO D.TIi1 D.TIi2 a2), ⟨u, u2, (c2.2 _ D.TOz).trans b2⟩, b3.1.lift fun o e => (c2.2 _ D.i1z).trans e, b4.1.lift fun o e => (c2.2 _ D.i2z).trans e⟩, fun n hn => ?_⟩
    have nl : n < s.heap.objs.size := by
      rcases (by simpa using hn : n = z ∨ n = TI ∨ n = TO ∨ n = i1 ∨ n = i2) with rfl | rfl | rfl | rfl | rfl
      · exact zl
      · exact Heap.lt_size a2
      · exact Heap.lt_size a3
      · obtain ⟨o, e, _⟩ := a4.cell; exact Heap.lt_size e
      · obtain ⟨o, e, _⟩ := a5.cell; exact Heap.lt_size e
    rw [upd_ne (Nat.ne_of_lt nl)]
    exact (hf n hn).1
  done := by
    rintro X rfl rfl rfl hc k pins s σ H E I hf ⟨a1, a2, ⟨x0, y0, a3⟩, a4, a5⟩ ⟨xs, ys, sx, sy, lk⟩
    obtain ⟨us, vx, cx, _⟩ := seqB I sx
    obtain ⟨ws, vy, cy, _⟩ := seqB I sy
    have lu := vx.length
    have lw := vy.length
    have hh : X.A.in1.handled = none := I.ok.hd hc
    have off : ∀ {m n r : Addr}, n ≠ m → r ≠ m → m ∉ [n, r] := fun h1 h2 e => by
      rcases List.mem_cons.mp e with e | e
      · exact h1 e.symm
      · exact h2 (List.mem_singleton.mp e).symm
    have Z : ZipSep2 z TI TO i1 i2 [i1, p] [i2, q] :=
      ⟨D.TIz, D.TOz, D.TITO, D.TIi1, List.mem_cons_self .., off D.i1z D.l1z, off (Ne.symm D.TOi1) D.l1TO, D.TIi2, List.mem_cons_self .., off D.i2z D.l2z, off (Ne.symm D.TOi2) D.l2TO, off (Ne.symm D.i12) D.l2i1, off D.i12 D.l1i2⟩
    refine wpAny_pyNext_zipD2_end (i := k) Z (drawB hh b i1 p D.l1i1 us.toArray) (drawB hh c i2 q D.l2i2 ws.toArray) a1 a2 a3 ⟨a4, cx⟩ ⟨a5, cy⟩ (by simp; omega) (by simp; omega) (by simp; omega) fun g tk b7 => ⟨rfl, ?_⟩
    exact I.turnedL (t' := tk) (ch := [z, TI, TO, i1, i2]) (fun n o hb e => by
      have hb : n ≠ z ∧ n ≠ TI ∧ n ≠ TO ∧ n ≠ i1 ∧ n ≠ i2 := by simpa using hb
      exact b7 n o hb.1 hb.2.2.1 hb.2.2.2.1 hb.2.2.2.2 e) hf
  self := fun A k s Q E st h => wpAny_pyIter_zip st.1 h
end Dl
namespace Dl
open PySem PySem.Spec PyProof.Rows L2
def RdB (b : Bool) (K : PySem.W.Frag) (F : Hp) (a : Addr) (xs : List V) : Prop := if b = true then Rd F a (.tup xs) else LsR K F a xs
theorem RdB.mono {b : Bool} {K : PySem.W.Frag} {F F' : Hp} (s : Same F F') {a : Addr} {xs : List V} (h : RdB b K F a xs) : RdB b K F' a xs := by
  cases b
  · exact ls_mono s h
  · exact rd_mono s h
theorem RdB.sq {b : Bool} {K : PySem.W.Frag} {F : Hp} {a : Addr} {xs : List V} (h : RdB b K F a xs) : SqB b K F a xs := by
  cases b
  · exact LsR.sq h
  · exact .inl h
section
variable {X : Cx} {W : WX} {F : Hp}
theorem itOk_zipB {p q : Bool} {a b : Addr} {xs ys : List V} {ds es : List D} (h : RdB p X.K F a xs) (h' : RdB q X.K F b ys) (r : Reps X.w X.K X.mg F xs ds) (r' : Reps X.w X.K X.mg F ys es) : ItOk X F (ItzB p q X.K a b) (pairs ds es) where
  go := fun i F1 H1 d s s1 e => by
    unfold pairs at e
    rw [List.getElem?_zipWith] at e
    cases e1 : ds[i]? with
    | none => rw [e1] at e; cases e
    | some dx =>
      cases e2 : es[i]? with
      | none => rw [e1, e2] at e; cases e
      | some dy =>
        rw [e1, e2] at e
        cases e
        obtain ⟨x, f1, g1⟩ := r.get e1
        obtain ⟨y, f2, g2⟩ := r'.get e2
        have q1 := ((h.mono s).mono s1).sq
        have q2 := ((h'.mono s).mono s1).sq
        refine ⟨⟨xs, ys, q1, q2, (List.getElem?_eq_some_iff.mp f1).1, (List.getElem?_eq_some_iff.mp f2).1⟩, fun v H2 ⟨T, x', y', ob, ev, n, to, eH, k1, k2⟩ => ?_⟩
        have e3 := k1 xs q1
        have e4 := k2 ys q2
        rw [f1] at e3
        rw [f2] at e4
        cases e3
        cases e4
        subst ev eH
        refine ⟨upd F1 T (.frz ob (.tup [x, y])), Gr.allocF s1 n, same_updB s1, .tup ⟨ob, upd_same, to⟩ (.cons ?_ (.cons ?_ .nil))⟩
        · exact (g1.mono s).mono (same_upd_none (same_none s1 n))
        · exact (g2.mono s).mono (same_upd_none (same_none s1 n))
  stop := fun F1 H1 s s1 => by
    refine ⟨xs, ys, ((h.mono s).mono s1).sq, ((h'.mono s).mono s1).sq, ?_⟩
    unfold pairs
    rw [List.length_zipWith, r.length, r'.length]
def bgO (b : Bool) (l : Addr) : Obj := if b = true then { cls := .type "tuple_iterator", data := .fields #[.ref l, .int 0 0] } else { cls := .type "list_iterator", data := .fields #[.ref l, .int 0 0] }
theorem bg (b : Bool) (l : Addr) (items : Array Value) : Begins (.ref l) (bgO b l) fun h => SrcB b h l items := by
  cases b
  · exact begins_list l items
  · exact begins_tuple l items
theorem bgI {b : Bool} {h : Heap} {i l : Addr} (e : h.get? i = some (bgO b l)) : ItrB b h i l 0 := by
  cases b
  · exact ⟨_, e, rfl, rfl⟩
  · exact ⟨_, e, rfl, rfl⟩
def iZipB (K : PySem.W.Frag) (ta : TA) : TI := fun σ H R => ta σ H fun vs H1 => ∃ p q a b xs ys, vs = [.ref a, .ref b] ∧ SqB p K H1 a xs ∧ SqB q K H1 b ys ∧ R (ItzB p q K a b) H1
variable {e e2 : Expr} {fs : DA} {p pos tpos : Pos} {elts : List Expr} {kk : Nat}
theorem pi_zipB {ta : TA} (hg : Gl X "zip") (hm : X.mg "zip" = none) (ha : PA X [e, e2] ta)
    (hs : starEach [e, e2] X.env = (false, eval e X.env) :: starEach [e2] X.env := by rfl) (hpl : (backTo pos (starEach [e2] X.env)).any (·.1) = false := by rfl) :
    PI X (.Tuple elts kk tpos) (.Call (.Name "zip" p) [e, e2] [] pos) (iZipB X.K ta) := by
  refine ⟨fun pins s σ H R I h => ?_⟩
  refine Call_ (ld_blt I hg hm PyProof.Rows.boot_zip (PyProof.Rows.callWith_type1 (thn (ha.run pos pins s σ H _ I h) fun us t ⟨vs, H1, I1, r1, q1⟩ => ?_) hs hpl))
  obtain ⟨u, v, a, b, xs, ys, rfl, sx, sy, q⟩ := q1
  obtain ⟨u1, u2, rfl, ra, rb⟩ := vals2 r1
  cases ra
  cases rb
  obtain ⟨its, rv, c1, l1⟩ := seqB I1 sx
  obtain ⟨its2, rv2, c2, l2⟩ := seqB I1 sy
  refine zip_begins2 (bg u a its.toArray) (bg v b its2.toArray) c1 c2 fun h' hz hTI hTO g1 g2 hsz hk => wpAny_pyIter_zip hz ?_
  have I2 : Inv X pins σ H1 { t with heap := h' } := I1.kept (t' := t.toks) hk
  have fresh : ∀ c, c ∈ [t.heap.objs.size + 4, t.heap.objs.size + 2, t.heap.objs.size + 3, t.heap.objs.size, t.heap.objs.size + 1] → FpOk X pins H1 c := fun c hc => by
    have hle : t.heap.objs.size ≤ c := by
      rcases (by simpa using hc : c = t.heap.objs.size + 4 ∨ c = t.heap.objs.size + 2 ∨ c = t.heap.objs.size + 3 ∨ c = t.heap.objs.size ∨ c = t.heap.objs.size + 1) with z | z | z | z | z <;> omega
    exact I1.fpOk hle (I1.hok.fresh hle)
  exact ⟨t.heap.objs.size + 4, [t.heap.objs.size + 4, t.heap.objs.size + 2, t.heap.objs.size + 3, t.heap.objs.size, t.heap.objs.size + 1], _, _, H1, rfl, I2,
    turn_zipB (PySem.W.ktu_apart t.heap.objs.size a b l1 l2), ⟨hz, hTI, ⟨_, _, hTO⟩, bgI g1, bgI g2⟩, fresh, q⟩
/-- a list or a tuple, its things -/
def sqD : D → Option (Bool × List D)
  | .lst t a => if t ≠ .vw then some (false, a) else none
  | .tup a => some (true, a)
  | _ => none
theorem zip2_sq {ds l : List D} (h : zip2 ds = .ok l) : ∃ d e p q a b, ds = [d, e] ∧ sqD d = some (p, a) ∧ sqD e = some (q, b) ∧ l = pairs a b ∧ d.tg ≠ .vw ∧ e.tg ≠ .vw := by
  unfold zip2 at h
  split at h
  · rename_i t a u b
    by_cases c : t ≠ .vw ∧ u ≠ .vw
    · rw [if_pos c] at h; cases h
      exact ⟨_, _, false, false, a, b, rfl, if_pos c.1, if_pos c.2, rfl, c.1, c.2⟩
    · rw [if_neg c] at h; cases h
  · cases h; exact ⟨_, _, true, true, _, _, rfl, rfl, rfl, rfl, (by decide : Tg.fz ≠ .vw), (by decide : Tg.fz ≠ .vw)⟩
  · rename_i t a b
    by_cases c : t ≠ .vw
    · rw [if_pos c] at h; cases h
      exact ⟨_, _, false, true, a, b, rfl, if_pos c, rfl, rfl, c, (by decide : Tg.fz ≠ .vw)⟩
    · rw [if_neg c] at h; cases h
  · rename_i a t b
    by_cases c : t ≠ .vw
    · rw [if_pos c] at h; cases h
      exact ⟨_, _, true, false, a, b, rfl, rfl, if_pos c, rfl, (by decide : Tg.fz ≠ .vw), c⟩
    · rw [if_neg c] at h; cases h
  · cases h
theorem zip2_or (ds : List D) : zip2 ds = .stuck ∨ ∃ l, zip2 ds = .ok l := by
  unfold zip2
  split
  · split
    · exact .inr ⟨_, rfl⟩
    · exact .inl rfl
  · exact .inr ⟨_, rfl⟩
  · split
    · exact .inr ⟨_, rfl⟩
    · exact .inl rfl
  · split
    · exact .inr ⟨_, rfl⟩
    · exact .inl rfl
  · exact .inl rfl
theorem rdB_of {w : World} {K : PySem.W.Frag} {mg : Str → Option Value} {F : Hp} {v : V} {d : D} {p : Bool} {a : List D} (h : Rep w K mg F v (d.re .fz)) (e : sqD d = some (p, a)) : ∃ l xs, v = .ref l ∧ RdB p K F l xs ∧ Reps w K mg F xs a := by
  cases d with
  | lst t ds =>
    unfold sqD at e
    dsimp only at e
    by_cases c : t ≠ .vw
    · rw [if_pos c] at e
      cases e
      obtain ⟨_, l, xs, rfl, m, n⟩ := h.of_lst
      exact ⟨l, xs, rfl, m, n⟩
    · rw [if_neg c] at e; cases e
  | tup ds =>
    cases e
    obtain ⟨l, xs, rfl, m, n⟩ := h.of_tup
    exact ⟨l, xs, rfl, m, n⟩
  | _ => cases e
theorem pid_zip (hg : Gl X "zip") (hm : X.mg "zip" = none) (ha : PAD X W [e, e2] fs)
    (hs : starEach [e, e2] X.env = (false, eval e X.env) :: starEach [e2] X.env := by rfl) (hpl : (backTo pos (starEach [e2] X.env)).any (·.1) = false := by rfl) :
    PID X W (.Tuple elts kk tpos) (.Call (.Name "zip" p) [e, e2] [] pos) (fRng zip2 fs) :=
  (pi_zipB hg hm ha hs hpl).imp fun σ H Q ⟨H0, F0, ρ, F, r, q⟩ => ⟨H0, F0, ρ, F, r, q.bind (Gr.refl _ _) fun F1 H1 vs ds _ r1 g1 x1 p1 => by
    rcases zip2_or ds with e | ⟨l, e⟩
    · rw [e] at p1; exact p1.elim
    · obtain ⟨d, d', u, v, a, b, rfl, s1, s2, rfl, n1, n2⟩ := zip2_sq e
      rw [e] at p1
      obtain ⟨F2, r2, g2, _, qs⟩ := RXs.freeze r r1 g1 ⟨F1, Same.refl _, x1⟩ (by simp [noVw, n1, n2])
      cases qs with
      | cons y1 rest =>
        cases rest with
        | cons y2 rest =>
          cases rest
          obtain ⟨l1, xs, rfl, m1, k1⟩ := rdB_of y1 s1
          obtain ⟨l2, ys, rfl, m2, k2⟩ := rdB_of y2 s2
          exact ⟨u, v, l1, l2, xs, ys, rfl, (m1.mono r2.fh).sq, (m2.mono r2.fh).sq, p1.here r2 g2 (itOk_zipB m1 m2 k1 k2)⟩⟩
end
end Dl
/-! sum, any, all, max, min of one list; divmod; bit_length; index; chained compares. -/
namespace Dl
open PySem PySem.Spec PyProof.Rows L2
def intsOf : List D → Option (List Int)
  | [] => some []
  | .int i :: ds => (intsOf ds).map (i :: ·)
  | _ => none
theorem intsOf_eq : ∀ {ds : List D} {ns : List Int}, intsOf ds = some ns → ds = ns.map .int
  | [], ns, h => by cases h; rfl
  | .int i :: ds, ns, h => by
    have h : (intsOf ds).map (i :: ·) = some ns := h
    cases e : intsOf ds with
    | none => rw [e] at h; cases h
    | some l => rw [e] at h; cases h; rw [intsOf_eq e]; rfl
  | .non :: _, _, h => by cases h
  | .bl _ :: _, _, h => by cases h
  | .str _ :: _, _, h => by cases h
  | .tup _ :: _, _, h => by cases h
  | .lst _ _ :: _, _, h => by cases h
  | .dic _ _ :: _, _, h => by cases h
  | .obj _ _ _ _ :: _, _, h => by cases h
@[simp] theorem intsOf_map (ns : List Int) : intsOf (ns.map .int) = some ns := by
  induction ns with
  | nil => rfl
  | cons n ns ih => show (intsOf (ns.map .int)).map (n :: ·) = _; rw [ih]; rfl
def blsOf : List D → Option (List Bool)
  | [] => some []
  | .bl i :: ds => (blsOf ds).map (i :: ·)
  | _ => none
theorem blsOf_eq : ∀ {ds : List D} {ns : List Bool}, blsOf ds = some ns → ds = ns.map .bl
  | [], ns, h => by cases h; rfl
  | .bl i :: ds, ns, h => by
    have h : (blsOf ds).map (i :: ·) = some ns := h
    cases e : blsOf ds with
    | none => rw [e] at h; cases h
    | some l => rw [e] at h; cases h; rw [blsOf_eq e]; rfl
  | .non :: _, _, h => by cases h
  | .int _ :: _, _, h => by cases h
  | .str _ :: _, _, h => by cases h
  | .tup _ :: _, _, h => by cases h
  | .lst _ _ :: _, _, h => by cases h
  | .dic _ _ :: _, _, h => by cases h
  | .obj _ _ _ _ :: _, _, h => by cases h
@[simp] theorem blsOf_map (ns : List Bool) : blsOf (ns.map .bl) = some ns := by
  induction ns with
  | nil => rfl
  | cons n ns ih => show (blsOf (ns.map .bl)).map (n :: ·) = _; rw [ih]; rfl
def maxI (n : Int) (ns : List Int) : Int := ns.foldl (fun a b => if a < b then b else a) n
def minI (n : Int) (ns : List Int) : Int := ns.foldl (fun a b => if b < a then b else a) n
theorem maxI_spec : ∀ (ns : List Int) (n : Int), maxI n ns ∈ n :: ns ∧ ∀ y ∈ n :: ns, y ≤ maxI n ns
  | [], n => ⟨List.mem_cons_self .., fun y h => by rw [List.mem_singleton.mp h]; exact Int.le_refl _⟩
  | m :: ns, n => by
    show maxI (if n < m then m else n) ns ∈ n :: m :: ns ∧ ∀ y ∈ n :: m :: ns, y ≤ maxI (if n < m then m else n) ns
    obtain ⟨h1, h2⟩ := maxI_spec ns (if n < m then m else n)
    have h3 := h2 _ (List.mem_cons_self ..)
    refine ⟨?_, fun y hy => ?_⟩
    · rcases List.mem_cons.mp h1 with e | e
      · rw [e]; split <;> simp
      · exact List.mem_cons_of_mem _ (List.mem_cons_of_mem _ e)
    · rcases List.mem_cons.mp hy with rfl | hy
      · refine Int.le_trans ?_ h3; split <;> omega
      · rcases List.mem_cons.mp hy with rfl | hy
        · refine Int.le_trans ?_ h3; split <;> omega
        · exact h2 y (List.mem_cons_of_mem _ hy)
theorem minI_spec : ∀ (ns : List Int) (n : Int), minI n ns ∈ n :: ns ∧ ∀ y ∈ n :: ns, minI n ns ≤ y
  | [], n => ⟨List.mem_cons_self .., fun y h => by rw [List.mem_singleton.mp h]; exact Int.le_refl _⟩
  | m :: ns, n => by
    show minI (if m < n then m else n) ns ∈ n :: m :: ns ∧ ∀ y ∈ n :: m :: ns, minI (if m < n then m else n) ns ≤ y
    obtain ⟨h1, h2⟩ := minI_spec ns (if m < n then m else n)
    have h3 := h2 _ (List.mem_cons_self ..)
    refine ⟨?_, fun y hy => ?_⟩
    · rcases List.mem_cons.mp h1 with e | e
      · rw [e]; split <;> simp
      · exact List.mem_cons_of_mem _ (List.mem_cons_of_mem _ e)
    · rcases List.mem_cons.mp hy with rfl | hy
      · refine Int.le_trans h3 ?_; split <;> omega
      · rcases List.mem_cons.mp hy with rfl | hy
        · refine Int.le_trans h3 ?_; split <;> omega
        · exact h2 y (List.mem_cons_of_mem _ hy)
def onInts (f : List Int → Res D) : D → Res D
  | .lst _ ds => match intsOf ds with
    | some ns => f ns
    | none => .stuck
  | _ => .stuck
def onBls (f : List Bool → Res D) : D → Res D
  | .lst _ ds => match blsOf ds with
    | some ns => f ns
    | none => .stuck
  | _ => .stuck
@[simp] theorem onInts_l (f : List Int → Res D) (t : Tg) (ns : List Int) : onInts f (.lst t (ns.map .int)) = f ns := by
  unfold onInts; simp
@[simp] theorem onInts_nil (f : List Int → Res D) (t : Tg) : onInts f (.lst t []) = f [] := rfl
@[simp] theorem onBls_l (f : List Bool → Res D) (t : Tg) (ns : List Bool) : onBls f (.lst t (ns.map .bl)) = f ns := by
  unfold onBls; simp
def sum1 : D → Res D := onInts fun ns => .ok (.int ns.sum)
def max1 : D → Res D := onInts fun ns => match ns with
  | [] => .stuck
  | n :: ns => .ok (.int (maxI n ns))
def min1 : D → Res D := onInts fun ns => match ns with
  | [] => .stuck
  | n :: ns => .ok (.int (minI n ns))
def any1 : D → Res D := onBls fun bs => .ok (.bl (bs.any id))
def all1 : D → Res D := onBls fun bs => .ok (.bl (bs.all id))
@[simp] theorem sum1_l (t : Tg) (ns : List Int) : sum1 (.lst t (ns.map .int)) = .ok (.int ns.sum) := onInts_l ..
@[simp] theorem any1_l (t : Tg) (ns : List Bool) : any1 (.lst t (ns.map .bl)) = .ok (.bl (ns.any id)) := onBls_l ..
@[simp] theorem all1_l (t : Tg) (ns : List Bool) : all1 (.lst t (ns.map .bl)) = .ok (.bl (ns.all id)) := onBls_l ..
theorem max1_l (t : Tg) (n : Int) (ns : List Int) : max1 (.lst t ((n :: ns).map .int)) = .ok (.int (maxI n ns)) := onInts_l ..
theorem min1_l (t : Tg) (n : Int) (ns : List Int) : min1 (.lst t ((n :: ns).map .int)) = .ok (.int (minI n ns)) := onInts_l ..
section
variable {X : Cx} {W : WX} {H0 F0 : Hp} {ρ : DEnv} {σ : L2.St} {F H F' H' : Hp} {x : Str} {p pos : Pos} {e : Expr} {es : List Expr} {fs : DA}
theorem Reps.blsV {w : World} {K : PySem.W.Frag} {mg : Str → Option Value} {F : Hp} {vs : List V} {ns : List Bool} (h : Reps w K mg F vs (ns.map .bl)) : vs = ns.map V.bl := by
  induction ns generalizing vs with
  | nil => cases h; rfl
  | cons n ns ih =>
    cases h with
    | cons a b => cases a; rw [ih b]; rfl
theorem ok_ints {f : List Int → Res D} {r : V → Hp → VK → Prop} (h : ∀ ⦃H0 F0 : Hp⦄ ⦃ρ : DEnv⦄ ⦃σ : L2.St⦄ ⦃F H F2 H2 : Hp⦄ ⦃a : Addr⦄ ⦃ns : List Int⦄ ⦃Q : VK⦄, R X H0 F0 ρ σ F2 H2 → Gr F H F2 H2 → SqL X.K H2 a (ns.map V.int) → Post X W (RXX X) H0 F0 ρ σ F H (f ns) Q → r (.ref a) H2 Q) : UnOk X W (onInts f) r := by
  intro H0 F0 ρ σ F H F2 H2 v d Q r0 r2 g x p
  cases d with
  | lst t ds =>
    unfold onInts at p
    dsimp only at p
    cases e : intsOf ds with
    | none => rw [e] at p; exact p.elim
    | some ns =>
      rw [e] at p
      have e2 := intsOf_eq e
      subst e2
      obtain ⟨l, xs, rfl, hx, rx⟩ := x.lst r2.fh
      have e3 := rx.intsV
      subst e3
      exact h r2 g hx.sq p
  | _ => exact p.elim
theorem ok_bls {f : List Bool → Res D} {r : V → Hp → VK → Prop} (h : ∀ ⦃H0 F0 : Hp⦄ ⦃ρ : DEnv⦄ ⦃σ : L2.St⦄ ⦃F H F2 H2 : Hp⦄ ⦃a : Addr⦄ ⦃ns : List Bool⦄ ⦃Q : VK⦄, R X H0 F0 ρ σ F2 H2 → Gr F H F2 H2 → SqL X.K H2 a (ns.map V.bl) → Post X W (RXX X) H0 F0 ρ σ F H (f ns) Q → r (.ref a) H2 Q) : UnOk X W (onBls f) r := by
  intro H0 F0 ρ σ F H F2 H2 v d Q r0 r2 g x p
  cases d with
  | lst t ds =>
    unfold onBls at p
    dsimp only at p
    cases e : blsOf ds with
    | none => rw [e] at p; exact p.elim
    | some ns =>
      rw [e] at p
      have e2 := blsOf_eq e
      subst e2
      obtain ⟨l, xs, rfl, hx, rx⟩ := x.lst r2.fh
      have e3 := Reps.blsV rx
      subst e3
      exact h r2 g hx.sq p
  | _ => exact p.elim
theorem pd_sum (hc : X.calm = true) (hg : Gl X "sum") (hm : X.mg "sum" = none) (ha : PAD X W [e] fs) (he : starEach [e] X.env = (false, eval e X.env) :: starEach [] X.env := by rfl) (hpl : (backTo pos (starEach [] X.env)).any (·.1) = false := by rfl) :
    PD X W (.Call (.Name "sum" p) [e] [] pos) (fCall (op1 sum1) fs) := pd_callB (cr_sum hc) (ok_op1 (r := fun v H Q => rSum X.K [v] H Q) (ok_ints fun H0 F0 ρ σ F H F2 H2 a ns Q r2 g s p => ⟨a, ns, rfl, s, p.here r2 g (RX.fz (.int _))⟩) fun v H Q h => h) hg hm (by decide +kernel) ha (by decide) (by decide) he hpl
theorem pd_any (hc : X.calm = true) (hg : Gl X "any") (hm : X.mg "any" = none) (ha : PAD X W [e] fs) (he : starEach [e] X.env = (false, eval e X.env) :: starEach [] X.env := by rfl) (hpl : (backTo pos (starEach [] X.env)).any (·.1) = false := by rfl) :
    PD X W (.Call (.Name "any" p) [e] [] pos) (fCall (op1 any1) fs) := pd_callB (cr_any hc) (ok_op1 (r := fun v H Q => rAny X.K [v] H Q) (ok_bls fun H0 F0 ρ σ F H F2 H2 a ns Q r2 g s p => ⟨a, ns, rfl, s, p.here r2 g (RX.fz (.bl _))⟩) fun v H Q h => h) hg hm (by decide +kernel) ha (by decide) (by decide) he hpl
theorem pd_all (hc : X.calm = true) (hg : Gl X "all") (hm : X.mg "all" = none) (ha : PAD X W [e] fs) (he : starEach [e] X.env = (false, eval e X.env) :: starEach [] X.env := by rfl) (hpl : (backTo pos (starEach [] X.env)).any (·.1) = false := by rfl) :
    PD X W (.Call (.Name "all" p) [e] [] pos) (fCall (op1 all1) fs) := pd_callB (cr_all hc) (ok_op1 (r := fun v H Q => rAll X.K [v] H Q) (ok_bls fun H0 F0 ρ σ F H F2 H2 a ns Q r2 g s p => ⟨a, ns, rfl, s, p.here r2 g (RX.fz (.bl _))⟩) fun v H Q h => h) hg hm (by decide +kernel) ha (by decide) (by decide) he hpl
theorem pd_max1 (hc : X.calm = true) (hg : Gl X "max") (hm : X.mg "max" = none) (ha : PAD X W [e] fs) (he : starEach [e] X.env = (false, eval e X.env) :: starEach [] X.env := by rfl) (hpl : (backTo pos (starEach [] X.env)).any (·.1) = false := by rfl) :
    PD X W (.Call (.Name "max" p) [e] [] pos) (fCall (op1 max1) fs) := pd_callB (cr_max hc) (ok_op1 (r := fun v H Q => rMax X.K [v] H Q) (ok_ints fun H0 F0 ρ σ F H F2 H2 a ns Q r2 g s p => by
      cases ns with
      | nil => exact p.elim
      | cons n ns =>
        refine ⟨a, n :: ns, rfl, s, by simp, fun m h1 h2 => ?_⟩
        obtain ⟨k1, k2⟩ := maxI_spec ns n
        have e : m = maxI n ns := Int.le_antisymm (k2 m h1) (h2 _ k1)
        subst e
        exact p.here r2 g (RX.fz (.int _))) fun v H Q h => h) hg hm (by decide +kernel) ha (by decide) (by decide) he hpl
theorem pd_min1 (hc : X.calm = true) (hg : Gl X "min") (hm : X.mg "min" = none) (ha : PAD X W [e] fs) (he : starEach [e] X.env = (false, eval e X.env) :: starEach [] X.env := by rfl) (hpl : (backTo pos (starEach [] X.env)).any (·.1) = false := by rfl) :
    PD X W (.Call (.Name "min" p) [e] [] pos) (fCall (op1 min1) fs) := pd_callB (cr_min hc) (ok_op1 (r := fun v H Q => rMin X.K [v] H Q) (ok_ints fun H0 F0 ρ σ F H F2 H2 a ns Q r2 g s p => by
      cases ns with
      | nil => exact p.elim
      | cons n ns =>
        refine ⟨a, n :: ns, rfl, s, by simp, fun m h1 h2 => ?_⟩
        obtain ⟨k1, k2⟩ := minI_spec ns n
        have e : m = minI n ns := Int.le_antisymm (h2 _ k1) (k2 m h1)
        subst e
        exact p.here r2 g (RX.fz (.int _))) fun v H Q h => h) hg hm (by decide +kernel) ha (by decide) (by decide) he hpl
/-! ### divmod -/
def dmW : D → D → Res D
  | .int i, .int j => if 0 < j ∧ j.natAbs.log2 < 9000 then .ok (.tup [.int (i / j), .int (i % j)]) else .stuck
  | _, _ => .stuck
@[simp] theorem dmW_i (i j : Int) : dmW (.int i) (.int j) = if 0 < j ∧ j.natAbs.log2 < 9000 then .ok (.tup [.int (i / j), .int (i % j)]) else .stuck := rfl
theorem divp_small {i j : Int} (h : 0 < j) (b : j.natAbs.log2 < 9000) : CDivP i j := by
  refine ⟨h, ?_⟩
  unfold Builtin.divisionGoesByPylong
  simp only [Bool.and_eq_false_iff, decide_eq_false_iff_not]
  left
  split <;> omega
theorem call_divmodN : CallR X (.builtin "divmod") (fun xs H Q => ∃ i j, xs = [.int i, .int j] ∧ CDivP i j ∧ ∀ p o, H p = none → TupO o → Q (.ref p) (upd H p (.frz o (.tup [.int (i / j), .int (i % j)])))) := by
  intro pins s σ H xs us Q I r h
  obtain ⟨i, j, rfl, ⟨h1, h2⟩, q⟩ := h
  obtain ⟨u, w', rfl, ⟨t, rfl⟩, ⟨t', rfl⟩⟩ := vals2 r
  refine divmod_int (by omega) ?_ (.inl h2)
  rw [Int.fdiv_eq_ediv_of_nonneg i (by omega), Int.fmod_eq_emod_of_nonneg i (by omega)]
  have hn : H s.heap.objs.size = none := I.hok.fresh (Nat.le_refl _)
  refine ⟨.ref s.heap.objs.size, _, ?_, rfl, q _ _ hn (tupO_ok #[.int (i / j) s.toks, .int (i % j) (s.toks + 1)])⟩
  refine I.laid (fun b o e => Heap.get?_push_of_some _ e) (Nat.le_refl _) (new_tup (its := [.int (i / j) s.toks, .int (i % j) (s.toks + 1)]) (by simp only [List.length_cons, List.length_nil]; rw [sizeLine_eq]; decide) (.cons ⟨_, rfl⟩ (.cons ⟨_, rfl⟩ .nil)) ?_)
  exact Heap.get?_push_size s.heap rfl
theorem ok_dm : OpOk X W dmW (fun v u H Q => ∃ i j, v = .int i ∧ u = .int j ∧ CDivP i j ∧ ∀ p o, H p = none → TupO o → Q (.ref p) (upd H p (.frz o (.tup [.int (i / j), .int (i % j)])))) := by
  intro H0 F0 ρ σ F H F2 H2 v u a b Q r r2 g x y p
  by_cases c : ∃ i j, a = .int i ∧ b = .int j
  · obtain ⟨i, j, rfl, rfl⟩ := c
    obtain ⟨⟨c1, c2⟩, p⟩ := Post.guard (c := 0 < j ∧ j.natAbs.log2 < 9000) p
    exact ⟨i, j, x.int, y.int, divp_small c1 c2, fun q ob n to => p.at r2 g (Gr.allocF r2.fh n) (same_updB r2.fh) (RX.newT to (same_none r2.fh n) (.cons (.int _) (.cons (.int _) .nil)))⟩
  · have e : dmW a b = .stuck := by
      unfold dmW
      split
      · exact (c ⟨_, _, rfl, rfl⟩).elim
      · rfl
    rw [e] at p
    exact p.elim
theorem pd_divmod {e2 : Expr} (hg : Gl X "divmod") (hm : X.mg "divmod" = none) (ha : PAD X W [e, e2] fs) (he : starEach [e, e2] X.env = (false, eval e X.env) :: starEach [e2] X.env := by rfl) (hpl : (backTo pos (starEach [e2] X.env)).any (·.1) = false := by rfl) :
    PD X W (.Call (.Name "divmod" p) [e, e2] [] pos) (fCall (op2 dmW) fs) := pd_callB call_divmodN (ok_op2 ok_dm fun v u H Q ⟨i, j, e1, e2, c, q⟩ => ⟨i, j, by rw [e1, e2], c, q⟩) hg hm (by decide +kernel) ha (by decide) (by decide) he hpl
/-! ### bit_length -/
def bitD : D → Res D
  | .int i => .ok (.int (Builtin.Int.intBits i : Nat))
  | _ => .stuck
@[simp] theorem bitD_i (i : Int) : bitD (.int i) = .ok (.int (Builtin.Int.intBits i : Nat)) := rfl
variable {o : Expr} {fo fe : DE} {apos cpos : Pos}
theorem pd_bits (ho : PD X W o fo) (hbase : attributeBase o "bit_length" X.env (eval o X.env) = eval o X.env := by rfl) (hline : (apos.endLine == pos.line) = true := by rfl) : PD X W (.Call (.Attribute o "bit_length" apos) [] [] pos) (fU bitD fo) :=
  (pe_bits ho hbase hline).imp fun σ H Q ⟨H0, F0, ρ, F, r, p⟩ => ⟨H0, F0, ρ, F, r, p.bind (Gr.refl _ _) fun F1 H1 v d _ r1 g1 x1 p1 => by
    cases d with
    | int i => exact ⟨i, x1.int, p1.here r1 g1 (RX.fz (.int _))⟩
    | _ => exact p1.elim⟩
/-! ### index, of a list of whole numbers -/
def idxOf (n : Int) : List Int → Option Nat
  | [] => none
  | m :: ms => if m = n then some 0 else (idxOf n ms).map (· + 1)
def ixD : D → D → Res D
  | .lst _ ds, .int n => match intsOf ds with
    | some ns => (match idxOf n ns with
      | some j => .ok (.int (j : Nat))
      | none => .stuck)
    | none => .stuck
  | _, _ => .stuck
theorem ixD_l (t : Tg) (ns : List Int) (n : Int) : ixD (.lst t (ns.map .int)) (.int n) = match idxOf n ns with
      | some j => .ok (.int (j : Nat))
      | none => .stuck := by
  unfold ixD; simp
theorem idxOf_spec (n : Int) : ∀ (ns : List Int) (j : Nat), idxOf n ns = some j → ns[j]? = some n ∧ ∀ (m : Nat) z, m < j → ns[m]? = some z → z ≠ n
  | [], j, h => by cases h
  | m :: ms, j, h => by
    unfold idxOf at h
    by_cases c : m = n
    · rw [if_pos c] at h; cases h; subst c; exact ⟨rfl, fun k z hk => absurd hk (Nat.not_lt_zero _)⟩
    · rw [if_neg c] at h
      cases e : idxOf n ms with
      | none => rw [e] at h; cases h
      | some i =>
        rw [e] at h
        cases h
        obtain ⟨h1, h2⟩ := idxOf_spec n ms i e
        refine ⟨h1, fun k z hk hz => ?_⟩
        cases k with
        | zero => cases hz; exact c
        | succ k => exact h2 k z (Nat.lt_of_succ_lt_succ hk) hz
theorem idxOf_mem {n : Int} : ∀ {ns : List Int}, n ∈ ns → ∃ j, idxOf n ns = some j
  | [], h => by cases h
  | m :: ms, h => by
    unfold idxOf
    by_cases c : m = n
    · exact ⟨0, if_pos c⟩
    · rw [if_neg c]
      rcases List.mem_cons.mp h with e | e
      · exact absurd e.symm c
      · obtain ⟨j, hj⟩ := idxOf_mem e
        exact ⟨j + 1, by rw [hj]; rfl⟩
def D.isL : D → Bool
  | .lst _ _ => true
  | _ => false
def fIx (fo fe : DE) : DE := fun ρ => (fo ρ).bind fun d => if d.isL = true then (fe ρ).bind fun b => ixD d b else .stuck
theorem pd_index (ho : PD X W o fo) (ha : PD X W e fe) (hbase : attributeBase o "index" X.env (eval o X.env) = eval o X.env := by rfl)
    (hfew : ((backTo cpos (starEach [e] X.env)).all (fun x => !x.1) && (backToKw cpos (keywordEach [] X.env)).all (fun x => x.1.isSome)
      && decide ([e].length + ([] : List Keyword).length + (if ([] : List Keyword).isEmpty then 0 else 1) < 30)) = true := by rfl)
    (hline : (apos.endLine == cpos.line) = true := by rfl) (hs : starEach [e] X.env = (false, eval e X.env) :: starEach [] X.env := by rfl) (hplain : (backTo cpos (starEach [] X.env)).any (·.1) = false := by rfl) :
    PD X W (.Call (.Attribute o "index" apos) [e] [] cpos) (fIx fo fe) :=
  (pe_bm PySem.F.plainAttrs_list PySem.F.slot_list_index PySem.F.type_list_index mt_index ho (pa_cons ha pa_nil hs) hbase hfew hline hs hplain).imp fun σ H Q ⟨H0, F0, ρ, F, r, p⟩ =>
    ⟨H0, F0, ρ, F, r, p.bind (Gr.refl _ _) fun F1 H1 v d _ r1 g1 x1 p1 => by
      cases d with
      | lst t ds =>
        obtain ⟨l, xs, rfl, hx, rx⟩ := x1.lst r1.fh
        obtain ⟨_, p1⟩ := Post.guard p1
        refine ⟨.inl ⟨rfl, xs, hx.sq⟩, H0, F0, ρ, F1, r1, p1.bind g1 fun F2 H2 u b _ r2 g2 x2 p2 => ?_⟩
        cases b with
        | int n =>
          unfold ixD at p2
          dsimp only at p2
          cases e : intsOf ds with
          | none => rw [e] at p2; exact p2.elim
          | some ns =>
            rw [e] at p2
            dsimp only at p2
            have e2 := intsOf_eq e
            subst e2
            have e3 := rx.intsV
            subst e3
            cases ej : idxOf n ns with
            | none => rw [ej] at p2; exact p2.elim
            | some j =>
              rw [ej] at p2
              obtain ⟨k1, k2⟩ := idxOf_spec n ns j ej
              have fl : ∀ l : List Int, (l.map V.int).all flatV = true := fun l => by rw [List.all_eq_true]; intro x hx; obtain ⟨z, _, rfl⟩ := List.mem_map.mp hx; rfl
              refine ⟨l, ns.map V.int, .int n, j, .int n, rfl, by rw [x2.int], (ls_mono g2.hh hx).sq, rfl, fl ns, by rw [List.getElem?_map, k1]; rfl, by simp [eqV], fun m z' hm hz => ?_, p2.here r2 (g1.trans g2) (RX.fz (.int _))⟩
              rw [List.getElem?_map] at hz
              cases em : ns[m]? with
              | none => rw [em] at hz; cases hz
              | some y => rw [em] at hz; cases hz; simpa [eqV] using k2 m y hm em
        | _ => exact p2.elim
      | _ => exact p1.elim⟩
/-! ### a op b op c -/
def chK (q : Int → Int → Bool) (j : Int) : D → Res D
  | .int k => .ok (.bl (q j k))
  | _ => .stuck
def chJ (p q : Int → Int → Bool) (fc : Res D) : D → D → Res D
  | .int i, .int j => if p i j = true then fc.bind (chK q j) else .ok (.bl false)
  | _, _ => .stuck
@[simp] theorem chK_i (q : Int → Int → Bool) (j k : Int) : chK q j (.int k) = .ok (.bl (q j k)) := rfl
@[simp] theorem chJ_i (p q : Int → Int → Bool) (fc : Res D) (i j : Int) : chJ p q fc (.int i) (.int j) = if p i j = true then fc.bind (chK q j) else .ok (.bl false) := rfl
def fCh (p q : Int → Int → Bool) (fa fb fc : DE) : DE := fun ρ => (fa ρ).bind fun a => (fb ρ).bind fun b => chJ p q (fc ρ) a b
theorem ch_imp {p q : Int → Int → Bool} {fa fb fc : DE} {Q : VK} (h : tD X W (RXX X) (fCh p q fa fb fc) σ H Q) :
    tChain (rI0 fun i j => .bl (p i j)) (rI0 fun i j => .bl (q i j)) (tD X W (RXX X) fa) (tD X W (RXX X) fb) (tD X W (RXX X) fc) σ H Q := by
  obtain ⟨H0, F0, ρ, F, r0, h⟩ := h
  refine ⟨H0, F0, ρ, F, r0, h.bind (Gr.refl _ _) fun F1 H1 v a _ r1 g1 x1 p1 => ?_⟩
  refine ⟨H0, F0, ρ, F1, r1, p1.bind g1 fun F2 H2 u b _ r2 g2 x2 p2 => ?_⟩
  by_cases c : ∃ i j, a = .int i ∧ b = .int j
  · obtain ⟨i, j, rfl, rfl⟩ := c
    refine ⟨i, j, x1.int, x2.int, p i j, rfl, ?_⟩
    rw [chJ_i] at p2
    cases e : p i j with
    | true =>
      rw [e, if_pos rfl] at p2
      rw [if_pos rfl]
      refine ⟨H0, F0, ρ, F2, r2, p2.bind (g1.trans g2) fun F3 H3 w c _ r3 g3 x3 p3 => ?_⟩
      cases c with
      | int k => exact ⟨j, k, x2.int, x3.int, p3.here r3 ((g1.trans g2).trans g3) (RX.fz (.bl _))⟩
      | _ => exact p3.elim
    | false =>
      rw [e, if_neg (by decide)] at p2
      rw [if_neg (by decide)]
      exact p2.here r2 (g1.trans g2) (RX.fz (.bl _))
  · have e : chJ p q (fc ρ) a b = .stuck := by
      unfold chJ
      split
      · exact (c ⟨_, _, rfl, rfl⟩).elim
      · rfl
    rw [e] at p2
    exact p2.elim
variable {a b c : Expr} {fa fb fc : DE}
def bLt (i j : Int) : Bool := decide (i < j)
def bLe (i j : Int) : Bool := decide (i ≤ j)
@[simp] theorem bLt_ap (i j : Int) : bLt i j = decide (i < j) := rfl
@[simp] theorem bLe_ap (i j : Int) : bLe i j = decide (i ≤ j) := rfl
theorem pd_chLeLe (ha : PD X W a fa) (hb : PD X W b fb) (hc : PD X W c fc) (hm : lastMarks [.LtE, .LtE] [b, c] = false := by with_unfolding_all rfl) : PD X W (.Compare a [.LtE, .LtE] [b, c] pos) (fCh bLe bLe fa fb fc) := (pe_chain op_le op_le ha hb hc hm).imp fun _ _ _ => ch_imp
theorem pd_chLeLt (ha : PD X W a fa) (hb : PD X W b fb) (hc : PD X W c fc) (hm : lastMarks [.LtE, .Lt] [b, c] = false := by with_unfolding_all rfl) : PD X W (.Compare a [.LtE, .Lt] [b, c] pos) (fCh bLe bLt fa fb fc) := (pe_chain op_le op_lt ha hb hc hm).imp fun _ _ _ => ch_imp
theorem ptd_ch {op op' : CmpOp} {p q : Int → Int → Bool} (h : PT X (.Compare a [op, op'] [b, c] pos) (tTest (tChain (rI0 fun i j => .bl (p i j)) (rI0 fun i j => .bl (q i j)) (tD X W (RXX X) fa) (tD X W (RXX X) fb) (tD X W (RXX X) fc)))) : PTD X W (.Compare a [op, op'] [b, c] pos) (tOf (fCh p q fa fb fc)) :=
  h.imp fun σ H Q ⟨H0, F0, ρ, F, r, p⟩ => ch_imp ⟨H0, F0, ρ, F, r, p.bind (Gr.refl _ _) fun F1 H1 v d _ r1 g1 x1 p1 => by
    cases d with
    | bl k => exact ⟨k, x1.bl, p1.here r1 g1 rfl⟩
    | _ => exact p1.elim⟩
theorem ptd_chLeLe (ha : PD X W a fa) (hb : PD X W b fb) (hc : PD X W c fc) (hm : lastMarks [.LtE, .LtE] [b, c] = false := by with_unfolding_all rfl) : PTD X W (.Compare a [.LtE, .LtE] [b, c] pos) (tOf (fCh bLe bLe fa fb fc)) := ptd_ch (pt_chain op_le op_le ha hb hc hm)
theorem ptd_chLeLt (ha : PD X W a fa) (hb : PD X W b fb) (hc : PD X W c fc) (hm : lastMarks [.LtE, .Lt] [b, c] = false := by with_unfolding_all rfl) : PTD X W (.Compare a [.LtE, .Lt] [b, c] pos) (tOf (fCh bLe bLt fa fb fc)) := ptd_ch (pt_chain op_le op_lt ha hb hc hm)
end
end Dl
/-! list(range(..)). -/
namespace Dl
open PySem PySem.Spec PyProof.Rows L2
def rgB (i j : Int) : Bool := decide (-1000000000 ≤ i) && decide (i ≤ 1000000000) && decide (-1000000000 ≤ j) && decide (j ≤ 16777216 + i) && decide (j ≤ 1000000000)
def lrg (i j : Int) : Res D := if rgB i j = true then .ok (.lst .ow (upTo i (j - i).toNat)) else .stuck
theorem lrg_ok {i j : Int} (h1 : -1000000000 ≤ i) (h2 : i ≤ 1000000000) (h3 : -1000000000 ≤ j) (h4 : j ≤ 16777216 + i) (h5 : j ≤ 1000000000) : lrg i j = .ok (.lst .ow (upTo i (j - i).toNat)) := by
  unfold lrg rgB
  rw [if_pos (by simp [h1, h2, h3, h4, h5])]
def lrg1 : D → Res D
  | .int j => lrg 0 j
  | _ => .stuck
def lrg2 : D → D → Res D
  | .int i, .int j => lrg i j
  | _, _ => .stuck
@[simp] theorem lrg1_i (j : Int) : lrg1 (.int j) = lrg 0 j := rfl
@[simp] theorem lrg2_i (i j : Int) : lrg2 (.int i) (.int j) = lrg i j := rfl
section
variable {X : Cx} {W : WX} {H0 F0 : Hp} {ρ : DEnv} {σ : L2.St} {F H : Hp} {a b : Expr} {fa fb : DE} {p p2 pos pos2 : Pos}
theorem reps_rg (w : World) (K : PySem.W.Frag) (mg : Str → Option Value) (F : Hp) (i j : Int) : Reps w K mg F (rgV i j) (upTo i (j - i).toNat) := by
  have e1 : rgV i j = ((List.range (j - i).toNat).map fun k => i + (k : Nat)).map V.int := by unfold rgV; rw [List.map_map]; rfl
  have e2 : upTo i (j - i).toNat = ((List.range (j - i).toNat).map fun k => i + (k : Nat)).map D.int := by unfold upTo; rw [List.map_map]; rfl
  rw [e1, e2]
  exact Reps.ofInts _
theorem lrg_end {i j : Int} {Q : VK} {F1 H1 : Hp} (r1 : R X H0 F0 ρ σ F1 H1) (g1 : Gr F H F1 H1) (p : Post X W (RXX X) H0 F0 ρ σ F H (lrg i j) Q) : RgOk i j ∧ ∀ q, H1 q = none → Q (.ref q) (upd H1 q (.lst (rgV i j))) := by
  obtain ⟨c, p⟩ := Post.guard p
  unfold rgB at c
  simp only [Bool.and_eq_true, decide_eq_true_eq] at c
  refine ⟨⟨by omega, by omega, by omega, by omega, by omega⟩, fun q n => p.at r1 g1 (Gr.alloc n) (same_updF r1.fh n) (RX.newL g1.hh r1.fh n (reps_rg _ _ _ _ i j))⟩
theorem pd_listRg1 (hc : X.calm = true) (hg : Gl X "list") (hm : X.mg "list" = none) (hg2 : Gl X "range") (hm2 : X.mg "range" = none) (ha : PD X W a fa) (na : starEach [a] X.env = (false, eval a X.env) :: starEach [] X.env := by rfl)
    (nb : starEach [.Call (.Name "range" p2) [a] [] pos2] X.env = (false, eval (.Call (.Name "range" p2) [a] [] pos2) X.env) :: starEach [] X.env := by rfl) :
    PD X W (.Call (.Name "list" p) [.Call (.Name "range" p2) [a] [] pos2] [] pos) (fU lrg1 fa) :=
  (pe_listRg hc hg hm (prg_1 hg2 hm2 ha na) nb).imp fun σ H Q ⟨H0, F0, ρ, F, r, q⟩ => ⟨H0, F0, ρ, F, r, q.bind (Gr.refl _ _) fun F1 H1 v d _ r1 g1 x1 p1 => by
    cases d with
    | int j => exact ⟨j, x1.int, lrg_end r1 g1 p1⟩
    | _ => exact p1.elim⟩
theorem pd_listRg2 (hc : X.calm = true) (hg : Gl X "list") (hm : X.mg "list" = none) (hg2 : Gl X "range") (hm2 : X.mg "range" = none) (ha : PD X W a fa) (hb : PD X W b fb) (na : starEach [a, b] X.env = (false, eval a X.env) :: starEach [b] X.env := by rfl)
    (nb : starEach [b] X.env = (false, eval b X.env) :: starEach [] X.env := by rfl) (hp : (backTo pos2 (starEach [b] X.env)).any (·.1) = false := by rfl)
    (nc : starEach [.Call (.Name "range" p2) [a, b] [] pos2] X.env = (false, eval (.Call (.Name "range" p2) [a, b] [] pos2) X.env) :: starEach [] X.env := by rfl) :
    PD X W (.Call (.Name "list" p) [.Call (.Name "range" p2) [a, b] [] pos2] [] pos) (fB lrg2 fa fb) :=
  (pe_listRg hc hg hm (prg_2 hg2 hm2 ha hb na nb hp) nc).imp fun σ H Q ⟨H0, F0, ρ, F, r, q⟩ => ⟨H0, F0, ρ, F, r, q.bind (Gr.refl _ _) fun F1 H1 v d _ r1 g1 x1 p1 => ⟨H0, F0, ρ, F1, r1, p1.bind g1 fun F2 H2 u e _ r2 g2 x2 p2 => by
    by_cases c : ∃ i j, d = .int i ∧ e = .int j
    · obtain ⟨i, j, rfl, rfl⟩ := c
      exact ⟨i, j, x1.int, x2.int, lrg_end r2 (g1.trans g2) p2⟩
    · have z : lrg2 d e = .stuck := by
        unfold lrg2
        split
        · exact (c ⟨_, _, rfl, rfl⟩).elim
        · rfl
      rw [z] at p2
      exact p2.elim⟩⟩
end
end Dl
/-! try .. except: a caught error is a thing of the abstract heap from then on. -/
namespace Dl
open PySem PySem.Spec PyProof.Rows L2
def excF (a C : Addr) : Heap → Prop := fun h => ∃ o vs, h.get? a = some o ∧ o.cls = .ref C ∧ o.dict = none ∧ o.data = .fields vs
def setO (oi : Option Nat) (σ : L2.St) (a : Addr) : L2.St := match oi with
  | some i => σ.set i (some (.ref a))
  | none => σ
def clrO (oi : Option Nat) (σ : L2.St) : L2.St := match oi with
  | some i => σ.set i none
  | none => σ
def endO (oi : Option Nat) (E : Ends) : Ends := { nx := fun σ H => E.nx (clrO oi σ) H, rt := E.rt, bk := fun σ H => E.bk (clrO oi σ) H, ct := fun σ H => E.ct (clrO oi σ) H }
/-- what the clauses wish of an error of the body -/
def wHd (K : PySem.W.Frag) (Wo : WX) (E : Ends) : List (List Value × Option Nat × TS) → WX
  | [] => Wo
  | (c, oi, ts) :: r => fun cls d σ H => ∃ b, PySem.W.exmAny K cls c = some b ∧ (b = true → d = none ∧ ∃ C, cls = .ref C ∧ ∀ a, H a = none → ts (endO oi E) (setO oi σ a) (upd H a (.ext (excF a C)))) ∧ (b = false → wHd K Wo E r cls d σ H)
/-- names of classes, one after the other -/
inductive Nmz (X : Cx) : List Expr → List Value → Prop
  | nil : Nmz X [] []
  | cons {x : Str} {c : Value} {p : Pos} {es : List Expr} {cs : List Value} (hc : Names X x c) (he : starEach (.Name x p :: es) X.env = (false, eval (.Name x p) X.env) :: starEach es X.env) (r : Nmz X es cs) : Nmz X (.Name x p :: es) (c :: cs)
/-- what a clause names: a class, or a tuple of classes -/
inductive Clz (X : Cx) : Expr → List Value → Prop
  | one {x : Str} {c : Value} {p : Pos} (hc : Names X x c) : Clz X (.Name x p) [c]
  | tup {es : List Expr} {cs : List Value} {k : Nat} {p : Pos} (h : Nmz X es cs) (hl : cs.length ≤ 100) : Clz X (.Tuple es k p) cs
inductive HdD (X : Cx) : List ExceptHandler → List (List Value × Option Nat × TS) → Prop
  | nil : HdD X [] []
  | bare {e : Expr} {c : List Value} {ts : TS} {st : Stmt} {sts : List Stmt} {p2 : Pos} {hds : List ExceptHandler} {l : List (List Value × Option Nat × TS)} (hc : Clz X e c)
      (hsu : ∀ (a : Addr) (pn : List (Addr × Obj)), PSs (X.suite a pn) (st :: sts) ts) (r : HdD X hds l) : HdD X (.ExceptHandler (some e) none (st :: sts) p2 :: hds) ((c, none, ts) :: l)
  | as {n : Str} {i : Nat} {e : Expr} {c : List Value} {ts : TS} {st : Stmt} {sts : List Stmt} {p2 : Pos} {hds : List ExceptHandler} {l : List (List Value × Option Nat × TS)} (hc : Clz X e c) (hi : X.N[i]? = some n) (hln : X.env.kindOf n = some .local)
      (hsu : ∀ (a : Addr) (pn : List (Addr × Obj)), PSs (X.suite a pn) (st :: sts) ts) (r : HdD X hds l) : HdD X (.ExceptHandler (some e) (some n) (st :: sts) p2 :: hds) ((c, some i, ts) :: l)
section
variable {M : Model} {K : PySem.W.Frag}
theorem forIn_go {A : Around} {E : Value → Shared → Prop} {Q : PUnit → Shared → Prop} {s : Shared} {f : Value → PUnit → Sem (ForInStep PUnit)} : ∀ {cs : List Value}, (∀ c ∈ cs, ∀ {Q : ForInStep PUnit → Shared → Prop}, Q (.yield ⟨⟩) s → wpAny M A (f c ⟨⟩) Q E s) → Q ⟨⟩ s → wpAny M A (forIn cs ⟨⟩ f) Q E s
  | [], _, q => by rw [List.forIn_nil]; exact wpAny_pure q
  | c :: cs, h, q => by
    rw [List.forIn_cons]
    exact wpAny_bind (h c (List.mem_cons_self ..) (forIn_go (fun d hd => h d (List.mem_cons_of_mem _ hd)) q))
theorem forIn_any {A : Around} {E : Value → Shared → Prop} {Q : (Option Bool × Unit) → Shared → Prop} {s : Shared} {f : Value → (Option Bool × Unit) → Sem (ForInStep ((Option Bool × Unit)))} {cls : Value} {r0 : (Option Bool × Unit)} (hr : r0 = ⟨none, ⟨⟩⟩) :
    ∀ {cs : List Value} {b : Bool}, PySem.W.exmAny K cls cs = some b → (∀ c ∈ cs, ∀ (r : (Option Bool × Unit)) (v : Bool), PySem.W.exmOne K cls c = some v → ∀ {Q : ForInStep ((Option Bool × Unit)) → Shared → Prop}, (if v = true then Q (.done ⟨some true, ⟨⟩⟩) s else Q (.yield ⟨none, ⟨⟩⟩) s) → wpAny M A (f c r) Q E s) →
      (if b = true then Q ⟨some true, ⟨⟩⟩ s else Q ⟨none, ⟨⟩⟩ s) → wpAny M A (forIn cs r0 f) Q E s
  | [], b, e, _, q => by
    cases e
    subst hr
    rw [List.forIn_nil]
    exact wpAny_pure q
  | c :: cs, b, e, h, q => by
    obtain ⟨v, d, e1, e2, rfl⟩ := PySem.W.exmAny_cons e
    rw [List.forIn_cons]
    refine wpAny_bind (h c (List.mem_cons_self ..) _ v e1 ?_)
    cases v with
    | true =>
      rw [if_pos rfl]
      exact wpAny_pure q
    | false =>
      rw [if_neg (by decide)]
      exact forIn_any rfl e2 (fun d hd => h d (List.mem_cons_of_mem _ hd)) (by simpa using q)
theorem exmAny_each {cls : Value} : ∀ {cs : List Value} {b : Bool}, PySem.W.exmAny K cls cs = some b → ∀ c ∈ cs, ∃ v, PySem.W.exmOne K cls c = some v
  | [], _, _, c, h => by cases h
  | c :: cs, b, e, d, h => by
    obtain ⟨v, w, e1, e2, _⟩ := PySem.W.exmAny_cons e
    rcases List.mem_cons.mp h with rfl | h
    · exact ⟨v, e1⟩
    · exact exmAny_each e2 d h
theorem exm_tupN {cs : List Value} {cls : Value} {tp e : Addr} {b : Bool} {h : Heap} (X : K.In h) (look : PySem.W.Looks M h (typeOf (.ref e)) cls) (hp : h.get? tp = some { cls := .type "tuple", data := .seq cs.toArray }) (hx : PySem.W.exmAny K cls cs = some b) :
    PySem.W.Looks M h (excMatches (.ref e) (.ref tp)) b := by
  intro A Q E s k0 q
  obtain ⟨hh, g, d, tk, os⟩ := s
  have k : ∀ b o, h.get? b = some o → hh.get? b = some o := k0
  have isT : PySem.W.Looks M h (isInstance (.ref tp) (.type "tuple")) true := ((PySem.W.Looks.ld hp).andThen .now).andThen (PySem.W.Looks.of_pure isSubtype_tuple_tuple)
  have look1 := look.keeps k
  have isT1 := isT.keeps k
  have hp1 := k _ _ hp
  unfold excMatches
  refine wpAny_bind (isT1.at ?_)
  dsimp only
  rw [if_pos rfl]
  first
    | refine wpAny_bind (wpAny_bind (wpAny_seqItems hp1 rfl (wpAny_pure ?_)))
    | (refine wpAny_bind (wpAny_seqItems hp1 rfl ?_); refine wpAny_bind (wpAny_pure ?_))
  dsimp only [Option.getD_some, Option.getD]
  refine wpAny_bind (forIn_go (fun c hc Q' q' => ?_) ?_)
  · obtain ⟨v, ev⟩ := exmAny_each hx c hc
    have e1 := (PySem.W.exm_cls (M := M) X ev).1.keeps k
    refine wpAny_bind (e1.at ?_)
    simp only [Bool.not_true, Bool.false_eq_true, if_false]
    exact wpAny_pure q'
  · refine wpAny_bind (look1.at ?_)
    refine wpAny_bind (forIn_any rfl hx (fun c hc r v ev Q' q' => ?_) ?_)
    · have e2 := (PySem.W.exm_cls (M := M) X ev).2.keeps k
      refine wpAny_bind (e2.at ?_)
      cases v with
      | true => rw [if_pos rfl] at q' ⊢; exact wpAny_pure q'
      | false => rw [if_neg (by decide)] at q' ⊢; exact wpAny_pure q'
    · cases b with
      | true => rw [if_pos rfl]; exact wpAny_pure q
      | false => rw [if_neg (by decide)]; exact wpAny_pure q
end
section
variable {X : Cx} {pins : List (Addr × Obj)} {σ : L2.St} {H : Hp} {s : Shared}
theorem inv_suiteD {a C : Addr} {oe : Obj} {vs : Array Value} (I : Inv X pins σ H s) (ea : s.heap.get? a = some oe) (ed : oe.data = .fields vs) (ec : oe.cls = .ref C) (eo : oe.dict = none) (na : H a = none) (nL : a ≠ X.env.locals) (nS : X.s_0.heap.get? a = none)
    (nP : ∀ p ∈ X.pn ++ pins, p.1 ≠ a) : Inv (X.suite a (X.pn ++ pins)) [] σ (upd H a (.ext (excF a C))) s := by
  have off : ∀ b, b ≠ a → upd H a (.ext (excF a C)) b = H b := fun b z => upd_ne z
  have bas := I.base
  refine ⟨I.ok.suite _ _, I.os, I.bare, ⟨bas.keep, bas.slot, fun b o e n z => ?_, bas.there, fun b xs e => ?_, fun b o u e => ?_, fun b ps e => ?_⟩, I.loc, I.cell, ?_, fun x c e => ?_, fun p hp => ?_, fun b o e => ?_, I.len⟩
  · rw [off b (fun z => by rw [z, nS] at e; cases e)]; exact bas.free b o e n z
  · have q := bas.tups b xs e; rw [off b (ne_of_none q na)]; exact q
  · have q := bas.frzs b o u e; rw [off b (ne_of_none q na)]; exact q
  · obtain ⟨m, q⟩ := bas.tbls b ps e; exact ⟨m, by rw [off b (ne_of_none q na)]; exact q⟩
  · rw [off _ (Ne.symm nL)]; exact I.free
  · have ne : c ≠ a := fun z => by
      obtain ⟨v, o, q1, q2⟩ := I.cell x c e
      rw [z, ea] at q1
      cases q1
      rw [ed] at q2
      cases q2
    rw [off _ ne]; exact I.freeC x c e
  · have hp2 : p ∈ X.pn ++ pins := by rw [List.append_nil] at hp; exact hp
    obtain ⟨k1, k2, k3⟩ := I.pin p hp2
    exact ⟨k1, by rw [off _ (nP p hp2)]; exact k2, k3⟩
  · by_cases z : b = a
    · subst z
      rw [upd_same] at e
      cases e
      refine ⟨⟨oe, vs, ea, ec, eo, ed⟩, ⟨oe, ea⟩, fun h1 h2 ⟨o, vs', k1, k2⟩ k => ⟨o, vs', k o k1, k2⟩⟩
    · rw [off b z] at e
      exact (I.hok b o e).stay (fun _ _ _ q => q) (fun c q => by rw [off c (ne_of_none q na)]; exact q) fun c xs q => by rw [off c (ne_of_none q na)]; exact q
theorem inv_unsuiteD {a : Addr} {pn' : List (Addr × Obj)} (I : Inv (X.suite a (X.pn ++ pins)) pn' σ H s) (ok : X.Ok) : Inv X pins σ H s :=
  ⟨ok, I.os, I.bare, I.base, I.loc, I.cell, I.free, I.freeC, fun p hp => I.pin p (List.mem_append_left pn' hp), I.hok, I.len⟩
variable {body : List Stmt} {h0 : ExceptHandler} {hds : List ExceptHandler} {l : List (List Value × Option Nat × TS)} {pos : Pos} {tb : WX → TS} {Wo : WX}
theorem ps_tryD (hs : X.stack = X.env :: X.outer) (hf : X.env.frame = some X.env.locals) (hN : X.N.Nodup) (hex : X.ex = []) (tk : Takes X Wo)
    (hb : ∀ (W : WX) (pn : List (Addr × Obj)) (xe : Value → Shared → Prop), Takes (X.tr pn xe) W → PassesOwn (model X.prog X.w) X.A X.env xe → PSs (X.tr pn xe) body (tb W))
    (hh : HdD X (h0 :: hds) l) : PS X (.Try body (h0 :: hds) [] [] pos) (fun E σ H => tb (wHd X.K Wo E l) E σ H) := by
  refine ⟨fun pins s σ H E I wish => ?_⟩
  have okX := I.ok
  have frm : X.A.frames = some (X.env :: X.outer) := by rw [okX.frames, hs]
  refine wpAny_Try_except ?_
  refine wpAny_mono ((hb (wHd X.K Wo E l) (X.pn ++ pins)
    (fun u z1 => wpAny (model X.prog X.w) X.A (noteFrame u X.env)
      (fun _ z2 => wpAny (model X.prog X.w) X.A (setFlight u none)
        (fun _ z3 => wpAny (model X.prog X.w) X.A (handleBy u X.env (h0 :: hds)) (SP X pins E) X.xe z3) X.xe z2) X.xe z1)
    (fun u t xx => ?_) PassesOwn.looking).run [] s σ H E (I.toTry _) wish) (fun f t hsp => ?_) (fun _ _ q => q)
  · obtain ⟨a, B, sI, pn1, ρ1, G, cls, d, rfl, JT, nb, up, sky, na, os, ag, wi⟩ := xx
    have jI : Inv X pins ρ1 G sI := JT.ofTry okX
    have skyX : Sky B (X.env :: X.outer) a (Zc cls d) X.env.locals t.heap := by rw [← hs]; exact sky
    show wpAny (model X.prog X.w) X.A (noteFrame (.ref a) X.env) _ _ _
    refine Sky.land Zc.steady frm hf skyX fun g1 fly up1 => ?_
    have j1 : Inv X pins ρ1 G { t with heap := g1 } := jI.landed nb fly.1 (up.trans up1) os ag
    obtain ⟨oe, ve, ge, ze, de⟩ := fly.there
    have offFr : ∀ {g : Heap} {o : Obj} {v : Array Value}, g.FunFrames B (X.env :: X.outer) → g.get? a = some o → o.data = .fields v → a ∉ frs (X.env :: X.outer) := by
      intro g o v ff k1 k2 hm
      obtain ⟨_, o2, k3, k4⟩ := ff.mem hm
      rw [k1] at k3
      cases k3
      exact k4 _ k2
    have ofr := offFr fly.2.2.1 ge de
    have aL : a ≠ X.env.locals := fun z => ofr (List.mem_filterMap.mpr ⟨_, List.mem_cons_self, z ▸ hf⟩)
    have aF : a ∉ X.fs := fun hm => by
      obtain ⟨v, hv, q⟩ := List.mem_filterMap.mp hm
      exact ofr (List.mem_filterMap.mpr ⟨v, List.mem_cons_of_mem _ hv, q⟩)
    have aI : ∀ o, sI.heap.get? a ≠ some o := fun o z => by
      have q := nb a o z (by rw [hs]; exact ofr)
      rw [fly.2.1] at q
      cases q
    have aS : X.s_0.heap.get? a = none := by
      cases q : X.s_0.heap.get? a with
      | none => rfl
      | some o =>
        obtain ⟨o2, q2⟩ := jI.base.there a o q (by rw [hex]; exact List.not_mem_nil)
        exact absurd q2 (aI o2)
    have aP : ∀ p ∈ X.pn ++ pins, p.1 ≠ a := fun p hp z => by
      have q := (jI.pin p hp).1
      rw [z] at q
      exact aI _ q
    have walk : ∀ {hs2 : List ExceptHandler} {l2 : List (List Value × Option Nat × TS)}, HdD X hs2 l2 → ∀ (g : Heap), HandSPX.FlyingZ B (X.env :: X.outer) a (Zc cls d) g → sI.heap.UpToSlots g → wHd X.K Wo E l2 cls d ρ1 G →
        wpAny (model X.prog X.w) X.A (handleBy (.ref a) X.env hs2) (SP X pins E) X.xe { t with heap := g } := by
      intro hs2 l2 hk
      have name : ∀ {g : Heap} {x : Str} {c : Value} {p1 : Pos} {Q T : Value → Shared → Prop}, HandSPX.FlyingZ B (X.env :: X.outer) a (Zc cls d) g → sI.heap.UpToSlots g → Names X x c → Q c { t with heap := g } → wpAny (model X.prog X.w) (X.A.mark (some (.ref a))) (eval (.Name x p1) X.env) Q T { t with heap := g } := by
        intro g x c p1 Q T fl ug hc q
        have jg : Inv X pins ρ1 G { t with heap := g } := jI.landed nb fl.1 ug os ag
        obtain ⟨oe', ve', ge', ze', de'⟩ := fl.there
        have sg := jg.suite ge' de' na aL aF
        obtain ⟨y1, y2, y3 | ⟨y3, y4, y5⟩⟩ := hc
        · exact ld_glob (X := X.suite a ((a, oe') :: (X.pn ++ pins))) sg y1 y3 q y2
        · exact ld_blt (X := X.suite a ((a, oe') :: (X.pn ++ pins))) sg y1 y3 y4 q y5 y2
      have names : ∀ {g : Heap} {es : List Expr} {cs : List Value} {p1 : Pos} {Q : List Value → Shared → Prop} {T : Value → Shared → Prop}, HandSPX.FlyingZ B (X.env :: X.outer) a (Zc cls d) g → sI.heap.UpToSlots g → Nmz X es cs → Q cs { t with heap := g } →
          wpAny (model X.prog X.w) (X.A.mark (some (.ref a))) (spliced (backTo p1 (starEach es X.env))) Q T { t with heap := g } := by
        intro g es cs p1 Q T fl ug hn
        induction hn generalizing Q with
        | nil => exact fun q => wpAny_items_nil q
        | cons hc he r ih => exact fun q => wpAny_items_cons (name fl ug hc (ih q)) he
      have test : ∀ {g : Heap} {e : Expr} {cs : List Value} {b : Bool} {Q : Bool → Shared → Prop} {T : Value → Shared → Prop}, HandSPX.FlyingZ B (X.env :: X.outer) a (Zc cls d) g → sI.heap.UpToSlots g → Clz X e cs → PySem.W.exmAny X.K cls cs = some b →
          (∀ g', (∀ x o, g.get? x = some o → g'.get? x = some o) → Q b { t with heap := g' }) → wpAny (model X.prog X.w) (X.A.mark (some (.ref a))) (eval e X.env) (fun c s1 => wpAny (model X.prog X.w) (X.A.mark (some (.ref a))) (excMatches (.ref a) c) Q T s1) T { t with heap := g } := by
        intro g e cs b Q T fl ug hc hx q
        have jg : Inv X pins ρ1 G { t with heap := g } := jI.landed nb fl.1 ug os ag
        obtain ⟨oe', ve', ge', ze', de'⟩ := fl.there
        have look : PySem.W.Looks (model X.prog X.w) g (typeOf (.ref a)) cls := fun _ _ _ _ k q => wpAny_typeOf_ref (k _ _ ge') (by rw [ze'.1]; exact q)
        cases hc with
        | one hc =>
          obtain ⟨v, w, e1, e2, e3⟩ := PySem.W.exmAny_cons hx
          cases e2
          rw [Bool.or_false] at e3
          subst e3
          exact name fl ug hc ((PySem.W.exm_one (M := model X.prog X.w) jg.kIn look e1).here (q g fun _ _ z => z))
        | tup hn hl =>
          refine wpAny_Tuple (names fl ug hn ⟨by rw [sizeLine_eq]; omega, ?_⟩)
          have kp : ∀ x o, g.get? x = some o → (g.push { cls := .type "tuple", data := .seq cs.toArray }).get? x = some o := fun _ _ z => Heap.get?_push_of_some _ z
          exact (exm_tupN (M := model X.prog X.w) (jg.kIn.keeps kp) (look.keeps kp) (Heap.get?_push_size g rfl) hx).here (q _ kp)
      have onward : ∀ {g g' : Heap}, HandSPX.FlyingZ B (X.env :: X.outer) a (Zc cls d) g → sI.heap.UpToSlots g → (∀ x o, g.get? x = some o → g'.get? x = some o) → HandSPX.FlyingZ B (X.env :: X.outer) a (Zc cls d) g' ∧ sI.heap.UpToSlots g' := by
        intro g g' fl ug k
        obtain ⟨f1, f2, f3, o1, v1, T1, oT, ts1, m1, m2, m3, m4, m5, m6, m7, m8, m9⟩ := fl
        exact ⟨⟨fun x o q => k x o (f1 x o q), f2, f3.of_keeps fun x o q _ => ⟨o, k x o q, rfl⟩, o1, v1, T1, oT, ts1, k _ _ m1, m2, m3, m4, m5, m6, k _ _ m7, m8, m9⟩, ug.trans (Heap.UpToSlots.of_keeps k)⟩
      induction hk with
      | nil =>
        intro g fl ug w
        have jg : Inv X pins ρ1 G { t with heap := g } := jI.landed nb fl.1 ug os ag
        refine wpAny_handleBy_nil ?_
        obtain ⟨k1, k2, k3, o1, v1, T, oT, ts1, m1, m2, m3, m4, m5⟩ := id fl
        unfold PySem.passOn
        refine wpAny_bind (wpAny_field m1 m3 m4 ?_)
        rw [if_neg (show ¬ ((Value.ref T == Value.none) = true) by simp)]
        have last : wpAny (model X.prog X.w) X.A (setFlight (.ref a) X.env.frame)
            (fun _ z => wpAny (model X.prog X.w) X.A (throw (.ref a) : Sem Flow) (SP X pins E) X.xe z) X.xe { t with heap := g } := by
          rw [hf]
          refine HandSPX.setFlight_upZ fl fun g2 held up2 => wpAny_throw (tk _ _ ?_)
          refine ⟨a, B, sI, pins, ρ1, G, cls, d, rfl, jI, nb, ug.trans up2, .inr (.inr ?_), na, os, ag, w⟩
          rw [hs]
          exact held
        first
          | exact wpAny_bind (wpAny_pure (wpAny_bind last))
          | exact wpAny_bind last
      | bare hc hsu r ih =>
        intro g fl ug w
        obtain ⟨b, w1, w2, w3⟩ := w
        refine wpAny_handleBy_cons (codeAny_handlers_test (test fl ug hc w1 fun g3 kp => ?_)) (by intro q; cases q)
        obtain ⟨fl3, ug3⟩ := onward fl ug kp
        cases b with
        | false => exact ih g3 fl3 ug3 (w3 rfl)
        | true =>
          obtain ⟨rfl, C, rfl, w4⟩ := w2 rfl
          refine codeAny_handlers_suite ?_
          refine HandSPX.lands_againZ fl3 fun g2 fly2 up2 => ?_
          have j2 : Inv X pins ρ1 G { t with heap := g2 } := jI.landed nb fly2.1 (ug3.trans up2) os ag
          obtain ⟨o2, v2, e2, z2, d2⟩ := fly2.there
          have su2 := inv_suiteD j2 e2 d2 z2.1 z2.2 na aL aS aP
          refine wpAny_mono ((hsu a (X.pn ++ pins)).run [] _ _ _ _ su2 (w4 a na)) (fun f t6 hsp => ?_) (fun _ _ z => False.elim z)
          cases f with
          | next => obtain ⟨r6, H6, S6, q6⟩ := hsp; exact ⟨r6, H6, inv_unsuiteD S6 okX, q6⟩
          | brk => obtain ⟨r6, H6, S6, q6⟩ := hsp; exact ⟨r6, H6, inv_unsuiteD S6 okX, q6⟩
          | cont => obtain ⟨r6, H6, S6, q6⟩ := hsp; exact ⟨r6, H6, inv_unsuiteD S6 okX, q6⟩
          | ret u => obtain ⟨v6, r6, H6, S6, y6, q6⟩ := hsp; exact ⟨v6, r6, H6, inv_unsuiteD S6 okX, y6, q6⟩
      | @as n i ex c ts st sts p2 hds3 l3 hc hi hln hsu r ih =>
        intro g fl ug w
        obtain ⟨b, w1, w2, w3⟩ := w
        refine wpAny_handleBy_cons (codeAny_handlers_test (test fl ug hc w1 fun g3 kp => ?_)) (by intro q; cases q)
        obtain ⟨fl3, ug3⟩ := onward fl ug kp
        cases b with
        | false => exact ih g3 fl3 ug3 (w3 rfl)
        | true =>
          obtain ⟨rfl, C, rfl, w4⟩ := w2 rfl
          refine codeAny_handlers_suite_as ?_
          refine HandSPX.lands_againZ fl3 fun g2 fly2 up2 => ?_
          have j2 : Inv X pins ρ1 G { t with heap := g2 } := jI.landed nb fly2.1 (ug3.trans up2) os ag
          obtain ⟨o2, v2, e2, z2, d2⟩ := fly2.there
          have su2 := inv_suiteD j2 e2 d2 z2.1 z2.2 na aL aS aP
          refine store_ok (X := X.suite a (X.pn ++ pins)) (v := .ref a) su2 hN hi (.inl hln) rfl (fun t5 S5 => ?_) (.inr hln)
          refine wpAny_mono ((hsu a (X.pn ++ pins)).run [] t5 _ _ _ S5 (w4 a na)) (fun f t6 hsp => ?_) (fun _ _ z => False.elim z)
          have gone : ∀ {r6 : L2.St} {H6 : Hp} {Q : Shared → Prop}, Inv (X.suite a (X.pn ++ pins)) [] r6 H6 t6 → (∀ t7, Inv X pins (r6.set i none) H6 t7 → Q t7) →
              wpAny (model X.prog X.w) X.A (do bindName X.env n .none; unbindBehindTheSuite X.env n p2) (fun _ t7 => Q t7) X.xe t6 := fun {r6 H6 Q} S6 hq => gone_ok (inv_unsuiteD S6 okX) hN hi hln hq
          cases f with
          | next => obtain ⟨r6, H6, S6, q6⟩ := hsp; exact gone S6 fun t7 J7 => ⟨_, _, J7, q6⟩
          | brk => obtain ⟨r6, H6, S6, q6⟩ := hsp; exact gone S6 fun t7 J7 => ⟨_, _, J7, q6⟩
          | cont => obtain ⟨r6, H6, S6, q6⟩ := hsp; exact gone S6 fun t7 J7 => ⟨_, _, J7, q6⟩
          | ret u => obtain ⟨v6, r6, H6, S6, y6, q6⟩ := hsp; exact gone S6 fun t7 J7 => ⟨_, _, _, J7, y6, q6⟩
    exact walk hh g1 fly (up.trans up1) wi
  · cases f with
    | next => obtain ⟨r6, H6, S6, q6⟩ := hsp; exact wpAny_execs_nil ⟨r6, H6, S6.ofTry okX, q6⟩
    | brk => obtain ⟨r6, H6, S6, q6⟩ := hsp; exact ⟨r6, H6, S6.ofTry okX, q6⟩
    | cont => obtain ⟨r6, H6, S6, q6⟩ := hsp; exact ⟨r6, H6, S6.ofTry okX, q6⟩
    | ret u => obtain ⟨v6, r6, H6, S6, y6, q6⟩ := hsp; exact ⟨v6, r6, H6, S6.ofTry okX, y6, q6⟩
end
end Dl
/-! try .. except over data; isinstance of an error. -/
namespace Dl
open PySem PySem.Spec PyProof.Rows L2
def exnM : List Str := [("!" : Str)]
def D.exn (c : Str) : D := .obj .fz c exnM []
/-- of the error classes: each stands straight under RoundError -/
def subE (c x : Str) : Bool := c == x || x == ("RoundError" : Str)
structure Errs (K : PySem.W.Frag) (mg : Str → Option Value) (es : List Str) : Prop where
  one : ∀ c ∈ es, ∃ C, mg c = some (.ref C) ∧ ExcC K C ∧ PySem.W.kitOne K (.ref C) (.type "ValueError") = some true ∧ ∀ t ∈ tyNames, PySem.W.kitOne K (.type t) (.ref C) = some false ∧ PySem.W.kitOne K (.type t) (.type "ValueError") = some false
  two : ∀ c ∈ es, ∀ x ∈ es, ∀ C D, mg c = some (.ref C) → mg x = some (.ref D) → PySem.W.exmOne K (.ref C) (.ref D) = some (subE c x) ∧ PySem.W.kitOne K (.ref C) (.ref D) = some (subE c x)
def isiW (es : List Str) (f : Str → Bool) (d : D) : Res D := match d with
  | .obj t c ps ds => if t = .fz ∧ ps = exnM ∧ ds.isEmpty = true ∧ c ∈ es then .ok (.bl (f c)) else .stuck
  | d => match d.tyn with
    | some _ => .ok (.bl false)
    | none => .stuck
def isiE (es : List Str) (x : Str) : D → Res D := isiW es fun c => subE c x
def isiV (es : List Str) : D → Res D := isiW es fun _ => true
section
variable {X : Cx} {W : WX} {H0 F0 : Hp} {ρ : DEnv} {σ : L2.St} {F H F' H' : Hp} {e : Expr} {fe : DE} {p p2 pos : Pos} {es : List Str}
def rIsX (X : Cx) : List V → Hp → VK → Prop := fun xs H Q => ∃ (x c : V) (cv : Value) (b : Bool), xs = [x, c] ∧ (∀ u, RelV c u → u = cv) ∧ Q (.bl b) H ∧
  ((∃ t, (TyX X.K H x t ∨ (t = .type "dict" ∧ ∃ a ys ob, x = .ref a ∧ H a = some (dicO X.w a ys ob))) ∧ PySem.W.kitOne X.K t cv = some b) ∨
   (∃ a C, x = .ref a ∧ H a = some (.ext (excF a C)) ∧ ExcC X.K C ∧ PySem.W.kitOne X.K (.ref C) cv = some b))
theorem call_isX : CallR X (.builtin "isinstance") (rIsX X) := by
  intro pins s σ H xs us Q I r h
  obtain ⟨x, c, cv, b, rfl, hc, q, h⟩ := h
  obtain ⟨u1, u2, rfl, r1, r2⟩ := vals2 r
  have e2 := hc _ r2
  subst e2
  rcases h with ⟨t, ty, k⟩ | ⟨a, C, rfl, hz, ec, k⟩
  · rcases ty with ty | ⟨rfl, a, ys, ob, rfl, ha⟩
    · obtain ⟨P, Z, pr, hx⟩ := kit_of I r1 ty
      exact PySem.W.kia_one Z I.kIn pr k hx fun tk => ⟨.bl b, H, I.tok tk, rfl, q⟩
    · cases (show u1 = Value.ref a from r1)
      obtain ⟨⟨h1, es, ep, h2, _⟩, _⟩ := (show ObjOk X.prog X.w H s.heap a (dicO X.w a ys ob) from I.hok a _ ha)
      exact PySem.W.kia_one PySem.W.kitx_dict I.kIn ⟨ob, h1, h2.1⟩ k (fun z => nomatch z) fun tk => ⟨.bl b, H, I.tok tk, rfl, q⟩
  · cases (show u1 = Value.ref a from r1)
    obtain ⟨⟨o, vs, k1, k2, k3, k4⟩, _⟩ := (show ObjOk X.prog X.w H s.heap a (.ext (excF a C)) from I.hok a _ hz)
    obtain ⟨oc, od, oda, osl⟩ := o
    dsimp only at k2 k3 k4
    subst k2 k3 k4
    exact PySem.W.kia_one (PySem.W.handS_kitx_exc ec.hg ec.hk ec.hs ec.hd ec.ha ec.hn ec.ht ec.hm) I.kIn ⟨k1, rfl, rfl, trivial⟩ k (fun z => nomatch z) fun tk => ⟨.bl b, H, I.tok tk, rfl, q⟩
theorem RX.exn {v : V} {c : Str} {ps : List Str} (x : RX X.w X.K X.mg F H H' v (.obj .fz c ps [])) (s : Same F H') (hp : ps = exnM) : ∃ a C, v = .ref a ∧ X.mg c = some (.ref C) ∧ H' a = some (.ext (excF a C)) := by
  have x := x.rep rfl
  cases x with
  | obj h r =>
    cases r
    rcases h with ⟨C, h1, h2⟩ | ⟨_, n, h2⟩
    · rcases h2 with ⟨dx, _, e3⟩ | ⟨_, _, e3⟩
      · rw [hp] at e3; cases e3
      · exact ⟨_, C, rfl, h1, s _ _ e3⟩
    · cases h2
theorem isW {f : Str → Bool} {c : V} {cv : Value} {fs : TE} (hcv : ∀ u, RelV c u → u = cv) (hf : ∀ k ∈ es, ∀ C, X.mg k = some (.ref C) → ExcC X.K C ∧ PySem.W.kitOne X.K (.ref C) cv = some (f k)) (ht : ∀ t ∈ tyNames, PySem.W.kitOne X.K (.type t) cv = some false)
    {Q : VK} {H0 F0 F H F1 H1 : Hp} {v : V} {d : D} (r1 : R X H0 F0 ρ σ F1 H1) (g1 : Gr F H F1 H1) (x1 : RX X.w X.K X.mg F1 H H1 v d) (p1 : Post X W (RXX X) H0 F0 ρ σ F H (isiW es f d) Q) : rIsX X [v, c] H1 Q := by
  have other : ∀ t, d.tyn = some t → isiW es f d = .ok (.bl false) → rIsX X [v, c] H1 Q := fun t et ei => by
    rw [ei] at p1
    have mem : t ∈ tyNames := by cases d <;> cases et <;> simp [tyNames]
    exact ⟨v, c, cv, false, rfl, hcv, p1.here r1 g1 (RX.fz (.bl _)), .inl ⟨_, x1.ty r1.fh et, ht t mem⟩⟩
  cases d with
  | obj t k ps ds =>
    obtain ⟨⟨c0, c1, c2, c3⟩, p3⟩ := Post.guard p1
    subst c0
    have e0 : ds = [] := List.isEmpty_iff.mp c2
    subst e0
    obtain ⟨a, C, rfl, h1, h2⟩ := x1.exn r1.fh c1
    obtain ⟨k1, k2⟩ := hf k c3 C h1
    exact ⟨_, c, cv, f k, rfl, hcv, p3.here r1 g1 (RX.fz (.bl _)), .inr ⟨a, C, rfl, h2, k1, k2⟩⟩
  | non => exact other _ rfl rfl
  | bl b => exact other _ rfl rfl
  | int b => exact other _ rfl rfl
  | str b => exact other _ rfl rfl
  | tup b => exact other _ rfl rfl
  | lst t b => exact other _ rfl rfl
  | dic t b => exact other _ rfl rfl
theorem pd_isiE {x : Str} (A : Errs X.K X.mg es) (hg : Gl X "isinstance") (hm : X.mg "isinstance" = none) (hx : x ∈ es) (hg2 : Gl X x) (ha : PD X W e fe) (hn : x ≠ "__name__" := by decide) (hd : (x == ("__debug__" : Str)) = false := by decide)
    (he : starEach [e, .Name x p2] X.env = (false, eval e X.env) :: starEach [.Name x p2] X.env := by rfl) (he2 : starEach [.Name x p2] X.env = (false, eval (.Name x p2) X.env) :: starEach [] X.env := by rfl) (hpl : (backTo pos (starEach [.Name x p2] X.env)).any (·.1) = false := by rfl) :
    PD X W (.Call (.Name "isinstance" p) [e, .Name x p2] [] pos) (fU (isiE es x) fe) := by
  obtain ⟨C, m1, _, _, m4⟩ := A.one x hx
  refine (pe_callB call_isX hg hm (by decide +kernel) (pa_cons ha (pa_cons (pe_glob (v := .ref C) hg2 m1 rfl hd) pa_nil he2) he) (by decide) (by decide) he hpl).imp fun σ H Q ⟨H0, F0, ρ, F, r, q⟩ => ?_
  refine ⟨H0, F0, ρ, F, r, q.bind (Gr.refl _ _) fun F1 H1 v d _ r1 g1 x1 p1 => ?_⟩
  refine isW (c := .ref C) (cv := .ref C) (fs := fun _ _ _ => True) (fun u hu => hu) (fun k hk D hD => ?_) (fun t ht => (m4 t ht).1) r1 g1 x1 p1
  obtain ⟨D2, n1, n2, _⟩ := A.one k hk
  rw [hD] at n1
  cases n1
  exact ⟨n2, (A.two k hk x hx D C hD m1).2⟩
theorem pd_isiV (A : Errs X.K X.mg es) (hne : es ≠ []) (hg : Gl X "isinstance") (hm : X.mg "isinstance" = none) (hg2 : Gl X "ValueError") (hm2 : X.mg "ValueError" = none) (ha : PD X W e fe)
    (he : starEach [e, .Name "ValueError" p2] X.env = (false, eval e X.env) :: starEach [.Name "ValueError" p2] X.env := by rfl) (he2 : starEach [.Name "ValueError" p2] X.env = (false, eval (.Name "ValueError" p2) X.env) :: starEach [] X.env := by rfl) (hpl : (backTo pos (starEach [.Name "ValueError" p2] X.env)).any (·.1) = false := by rfl) :
    PD X W (.Call (.Name "isinstance" p) [e, .Name "ValueError" p2] [] pos) (fU (isiV es) fe) := by
  refine (pe_callB call_isX hg hm (by decide +kernel) (pa_cons ha (pa_cons (pe_bltn (v := .ty "ValueError") hg2 hm2 (by decide +kernel) rfl (by decide) (by decide)) pa_nil he2) he) (by decide) (by decide) he hpl).imp fun σ H Q ⟨H0, F0, ρ, F, r, q⟩ => ?_
  refine ⟨H0, F0, ρ, F, r, q.bind (Gr.refl _ _) fun F1 H1 v d _ r1 g1 x1 p1 => ?_⟩
  refine isW (c := .ty "ValueError") (cv := .type "ValueError") (fs := fun _ _ _ => True) (fun u hu => hu) (fun k hk D hD => ?_) (fun t ht => ?_) r1 g1 x1 p1
  · obtain ⟨D2, n1, n2, n3, _⟩ := A.one k hk
    rw [hD] at n1
    cases n1
    exact ⟨n2, n3⟩
  · cases es with
    | nil => exact absurd rfl hne
    | cons c r =>
      obtain ⟨_, _, _, _, m⟩ := A.one c (List.mem_cons_self ..)
      exact (m t ht).2
/-! ### try -/
def setD (oi : Option Nat) (ρ : DEnv) (c : Str) : DEnv := match oi with
  | some i => ρ.set i (some (.exn c))
  | none => ρ
def clrD (oi : Option Nat) (ρ : DEnv) : DEnv := match oi with
  | some i => ρ.set i none
  | none => ρ
def finD (oi : Option Nat) : SR → SR
  | .next ρ => .next (clrD oi ρ)
  | .brk ρ => .brk (clrD oi ρ)
  | .cont ρ => .cont (clrD oi ρ)
  | .ret d => .ret d
  | _ => .stuck
def hdD (c : Str) (ρ : DEnv) : List (List Str × Option Nat × DS) → SR
  | [] => .exc c ρ
  | (x, oi, g) :: r => if x.any (subE c) = true then finD oi (g (setD oi ρ c)) else hdD c ρ r
def sTry (es : List Str) (gb : DS) (l : List (List Str × Option Nat × DS)) : DS := fun ρ => match gb ρ with
  | .exc c ρ' => if c ∈ es then hdD c ρ' l else .stuck
  | r => r
/-- names of error classes, one after the other -/
inductive NmD (X : Cx) (es : List Str) : List Expr → List Str → Prop
  | nil : NmD X es [] []
  | cons {x : Str} {p : Pos} {ex : List Expr} {xs : List Str} (hx : x ∈ es) (hg : Gl X x) (hd : (x == ("__debug__" : Str)) = false) (he : starEach (.Name x p :: ex) X.env = (false, eval (.Name x p) X.env) :: starEach ex X.env) (r : NmD X es ex xs) : NmD X es (.Name x p :: ex) (x :: xs)
inductive ClD (X : Cx) (es : List Str) : Expr → List Str → Prop
  | one {x : Str} {p : Pos} (hx : x ∈ es) (hg : Gl X x) (hd : (x == ("__debug__" : Str)) = false) : ClD X es (.Name x p) [x]
  | tup {ex : List Expr} {xs : List Str} {k : Nat} {p : Pos} (h : NmD X es ex xs) (hl : xs.length ≤ 100) : ClD X es (.Tuple ex k p) xs
inductive HdDD (X : Cx) (es : List Str) : List ExceptHandler → List (List Str × Option Nat × DS) → Prop
  | nil : HdDD X es [] []
  | bare {e : Expr} {x : List Str} {g : DS} {st : Stmt} {sts : List Stmt} {p2 : Pos} {hds : List ExceptHandler} {l : List (List Str × Option Nat × DS)} (hc : ClD X es e x)
      (hsu : ∀ (a : Addr) (pn : List (Addr × Obj)), PSSD (X.suite a pn) (fun _ _ _ _ => False) (st :: sts) g) (r : HdDD X es hds l) : HdDD X es (.ExceptHandler (some e) none (st :: sts) p2 :: hds) ((x, none, g) :: l)
  | as {n : Str} (i : Nat) {e : Expr} {x : List Str} {g : DS} {st : Stmt} {sts : List Stmt} {p2 : Pos} {hds : List ExceptHandler} {l : List (List Str × Option Nat × DS)} (hc : ClD X es e x) (hi : X.N[i]? = some n) (hln : X.env.kindOf n = some .local)
      (hsu : ∀ (a : Addr) (pn : List (Addr × Obj)), PSSD (X.suite a pn) (fun _ _ _ _ => False) (st :: sts) g) (r : HdDD X es hds l) : HdDD X es (.ExceptHandler (some e) (some n) (st :: sts) p2 :: hds) ((x, some i, g) :: l)
theorem nmD_read (A : Errs X.K X.mg es) {ex : List Expr} {xs : List Str} (h : NmD X es ex xs) : ∃ cs, Nmz X ex cs ∧ cs.length = xs.length ∧ ∀ c ∈ es, ∀ C, X.mg c = some (.ref C) → PySem.W.exmAny X.K (.ref C) cs = some (xs.any (subE c)) := by
  induction h with
  | nil => exact ⟨[], .nil, rfl, fun c hc C m => rfl⟩
  | cons hx hg hd he r ih =>
    obtain ⟨cs, k1, k2, k3⟩ := ih
    obtain ⟨D, m1, _⟩ := A.one _ hx
    refine ⟨.ref D :: cs, .cons ⟨hg, hd, .inl m1⟩ he k1, by rw [List.length_cons, List.length_cons, k2], fun c hc C m => ?_⟩
    unfold PySem.W.exmAny
    rw [(A.two c hc _ hx C D m m1).1, k3 c hc C m]
    rfl
theorem clD_read (A : Errs X.K X.mg es) {e : Expr} {xs : List Str} (h : ClD X es e xs) : ∃ cs, Clz X e cs ∧ ∀ c ∈ es, ∀ C, X.mg c = some (.ref C) → PySem.W.exmAny X.K (.ref C) cs = some (xs.any (subE c)) := by
  cases h with
  | one hx hg hd =>
    obtain ⟨D, m1, _⟩ := A.one _ hx
    refine ⟨[.ref D], .one ⟨hg, hd, .inl m1⟩, fun c hc C m => ?_⟩
    unfold PySem.W.exmAny
    rw [(A.two c hc _ hx C D m m1).1]
    rfl
  | tup h hl =>
    obtain ⟨cs, k1, k2, k3⟩ := nmD_read A h
    exact ⟨cs, .tup k1 (by omega), k3⟩
theorem Rw.unset (r : R X H0 F0 ρ σ F H) (i : Nat) : R X H0 F0 (ρ.set i none) (σ.set i none) F H := by
  refine ⟨r.fh, r.gr, by rw [List.length_set, List.length_set]; exact r.len, fun j d h => ?_, fun j k a dj dk h1 h2 t1 t2 s1 s2 => ?_⟩
  · rcases set_get h with ⟨_, q⟩ | ⟨ne, h⟩
    · cases q
    · obtain ⟨v, e1, e2⟩ := r.var j d h
      exact ⟨v, by rw [List.getElem?_set_ne ne]; exact e1, e2⟩
  · rcases set_get h1 with ⟨_, q⟩ | ⟨n1, h1⟩
    · cases q
    · rcases set_get h2 with ⟨_, q⟩ | ⟨n2, h2⟩
      · cases q
      · rw [List.getElem?_set_ne n1] at s1
        rw [List.getElem?_set_ne n2] at s2
        exact r.dis j k a dj dk h1 h2 t1 t2 s1 s2
theorem clr_R (r : R X H0 F0 ρ σ F H) (oi : Option Nat) : R X H0 F0 (clrD oi ρ) (clrO oi σ) F H := by
  cases oi with
  | none => exact r
  | some i => exact r.unset i
variable {body : List Stmt} {h0 : ExceptHandler} {hds : List ExceptHandler} {l : List (List Str × Option Nat × DS)} {gb : DS}
theorem hdds_read (A : Errs X.K X.mg es) {hs2 : List ExceptHandler} (hh : HdDD X es hs2 l) : ∃ l2 : List (List Value × Option Nat × TS), HdD X hs2 l2 ∧
    ∀ {H0 F0 : Hp} {E : Ends} {c : Str} {ρ : DEnv} {σ : L2.St} {F H : Hp} {C : Addr}, c ∈ es → SPost X W H0 F0 E (hdD c ρ l) → R X H0 F0 ρ σ F H → X.mg c = some (.ref C) → wHd X.K W E l2 (.ref C) none σ H := by
  have core : ∀ {x : Str} {oi : Option Nat} {g : DS} {H0 F0 : Hp} {E : Ends} {c : Str} {ρ : DEnv} {σ : L2.St} {F H : Hp} {C a : Addr}, SPost X W H0 F0 E (finD oi (g (setD oi ρ c))) → R X H0 F0 ρ σ F H → X.mg c = some (.ref C) → H a = none →
      tDS X (fun _ _ _ _ => False) g (endO oi E) (setO oi σ a) (upd H a (.ext (excF a C))) := by
    intro x oi g H0 F0 E c ρ σ F H C a p r m na
    have g1 : Gr F H (upd F a (.ext (excF a C))) (upd H a (.ext (excF a C))) := Gr.allocF r.fh na
    have r1 := r.grow g1 (same_updB r.fh)
    have rp : Rep X.w X.K X.mg (upd F a (.ext (excF a C))) (.ref a) (.exn c) := .obj (.inl ⟨C, m, .inr ⟨rfl, rfl, upd_same⟩⟩) .nil
    have r2 : R X H0 F0 (setD oi ρ c) (setO oi σ a) (upd F a (.ext (excF a C))) (upd H a (.ext (excF a C))) := by
      cases oi with
      | none => exact r1
      | some i => exact r1.setf rp
    refine ⟨H0, F0, _, _, r2, ?_⟩
    cases q : g (setD oi ρ c) with
    | next ρ2 => rw [q] at p; exact fun σ2 F2 H2 r3 => p _ _ _ (clr_R r3 oi)
    | brk ρ2 => rw [q] at p; exact fun σ2 F2 H2 r3 => p _ _ _ (clr_R r3 oi)
    | cont ρ2 => rw [q] at p; exact fun σ2 F2 H2 r3 => p _ _ _ (clr_R r3 oi)
    | ret d => rw [q] at p; exact p
    | exc c' ρ2 => rw [q] at p; exact p.elim
    | stuck => rw [q] at p; exact p.elim
  induction hh with
  | nil => exact ⟨[], .nil, fun hc p r m => p _ _ _ _ r m⟩
  | @bare e x g st sts p2 hds l hc hsu r ih =>
    obtain ⟨l2, k1, k2⟩ := ih
    obtain ⟨cs, c1, c2⟩ := clD_read A hc
    refine ⟨(cs, none, tDS X (fun _ _ _ _ => False) g) :: l2, .bare c1 hsu k1, fun {H0 F0 E c ρ σ F H C} hc p r m => ?_⟩
    refine ⟨_, c2 c hc C m, fun eb => ⟨rfl, C, rfl, fun a na => ?_⟩, fun eb => ?_⟩
    · unfold hdD at p
      rw [if_pos eb] at p
      exact core (x := c) (oi := none) p r m na
    · unfold hdD at p
      rw [if_neg (by rw [eb]; decide)] at p
      exact k2 hc p r m
  | @as n i e x g st sts p2 hds l hc hi hln hsu r ih =>
    obtain ⟨l2, k1, k2⟩ := ih
    obtain ⟨cs, c1, c2⟩ := clD_read A hc
    refine ⟨(cs, some i, tDS X (fun _ _ _ _ => False) g) :: l2, .as c1 hi hln hsu k1, fun {H0 F0 E c ρ σ F H C} hc p r m => ?_⟩
    refine ⟨_, c2 c hc C m, fun eb => ⟨rfl, C, rfl, fun a na => ?_⟩, fun eb => ?_⟩
    · unfold hdD at p
      rw [if_pos eb] at p
      exact core (x := c) (oi := some i) p r m na
    · unfold hdD at p
      rw [if_neg (by rw [eb]; decide)] at p
      exact k2 hc p r m
theorem psd_try (A : Errs X.K X.mg es) (hs : X.stack = X.env :: X.outer) (hf : X.env.frame = some X.env.locals) (hN : X.N.Nodup) (hex : X.ex = []) (tk : Takes X W)
    (hb : ∀ (W : WX) (pn : List (Addr × Obj)) (xe : Value → Shared → Prop), Takes (X.tr pn xe) W → PassesOwn (model X.prog X.w) X.A X.env xe → PSSD (X.tr pn xe) W body gb)
    (hh : HdDD X es (h0 :: hds) l) : PSD X W (.Try body (h0 :: hds) [] [] pos) (sTry es gb l) := by
  obtain ⟨l2, k1, k2⟩ := hdds_read (W := W) A hh
  refine (ps_tryD (tb := fun W => tDS X W gb) hs hf hN hex tk hb k1).imp fun E σ H ⟨H0, F0, ρ, F, r, p⟩ => ⟨H0, F0, ρ, F, r, ?_⟩
  unfold sTry at p
  cases q : gb ρ with
  | exc c ρ2 =>
    rw [q] at p
    obtain ⟨hc, p⟩ := guardS (c := c ∈ es) p
    exact fun σ2 F2 H2 C r2 m => k2 hc p r2 m
  | next ρ2 => rw [q] at p; exact p
  | brk ρ2 => rw [q] at p; exact p
  | cont ρ2 => rw [q] at p; exact p
  | ret d => rw [q] at p; exact p
  | stuck => rw [q] at p; exact p
end
end Dl
/-! The head's facts of the error classes. -/
namespace Dl
open PySem PySem.Spec PyProof.Rows L2
def errNames : List Str := ["RoundError", "NoHall", "NoListener", "NoLoss", "TooMany", "NoWheel", "NoChain", "TooMuch", "NoPart", "Unsafe", "NoRow", "NoStand"]
def excCB (K : PySem.W.Frag) (C : Addr) : Bool :=
  He.eqO (PySem.W.findIn K (.ref C) "__getattribute__") (some (some (.builtin "BaseException.__getattribute__"))) && (He.eqO (PySem.W.findIn K (.ref C) "__getattr__") (some none) && (decide (PySem.W.subIn K (.ref C) (.type "BaseException") = some true) &&
  (PySem.W.hasDictIn K C && (He.eqO (PySem.W.findIn K (.ref C) "__class__") (some (some (.builtin "object.__class__"))) && (He.eqO (PySem.W.specialIn K (.builtin "object.__class__") "__get__") (some (some (.builtin "getset_descriptor.__get__"))) &&
  (decide (PySem.W.takesIn K (.builtin "object.__class__") = some true) && decide (PySem.W.mroIn K C (.type "object") = some true)))))))
theorem excCB_ok {K : PySem.W.Frag} {C : Addr} (h : excCB K C = true) : ExcC K C := by
  obtain ⟨h1, h⟩ := He.ba h
  obtain ⟨h2, h⟩ := He.ba h
  obtain ⟨h3, h⟩ := He.ba h
  obtain ⟨h4, h⟩ := He.ba h
  obtain ⟨h5, h⟩ := He.ba h
  obtain ⟨h6, h⟩ := He.ba h
  obtain ⟨h7, h8⟩ := He.ba h
  exact ⟨He.eqO_ok h1, He.eqO_ok h2, of_decide_eq_true h3, h4, He.eqO_ok h5, He.eqO_ok h6, of_decide_eq_true h7, of_decide_eq_true h8⟩
def tysB (K : PySem.W.Frag) (c : Value) : Bool := tyNames.all fun t => decide (PySem.W.kitOne K (.type t) c = some false)
def prB (K : PySem.W.Frag) (c x : Str) : Bool := decide (PySem.W.exmOne K (.ref (He.ga K c)) (.ref (He.ga K x)) = some (subE c x)) && decide (PySem.W.kitOne K (.ref (He.ga K c)) (.ref (He.ga K x)) = some (subE c x))
def errB (K : PySem.W.Frag) (es : List Str) (c : Str) : Bool :=
  He.eqO (PySem.W.nsIn K mainGlobals c) (some (some (.ref (He.ga K c)))) && (excCB K (He.ga K c) && (decide (PySem.W.kitOne K (.ref (He.ga K c)) (.type "ValueError") = some true) && (tysB K (.ref (He.ga K c)) && es.all fun x => prB K c x)))
def errsB (K : PySem.W.Frag) (es : List Str) : Bool := tysB K (.type "ValueError") && es.all fun c => errB K es c
theorem tysB_ok {K : PySem.W.Frag} {c : Value} (h : tysB K c = true) : ∀ t ∈ tyNames, PySem.W.kitOne K (.type t) c = some false := fun t ht => of_decide_eq_true (List.all_eq_true.mp h t ht)
theorem errs_ok {K : PySem.W.Frag} {h : Heap} {mg : Str → Option Value} {es : List Str} (X : K.In h) (G : h.Ns mainGlobals mg) (e : errsB K es = true) : Errs K mg es := by
  obtain ⟨e0, e⟩ := He.ba e
  have at_ : ∀ c ∈ es, mg c = some (.ref (He.ga K c)) ∧ ExcC K (He.ga K c) ∧ PySem.W.kitOne K (.ref (He.ga K c)) (.type "ValueError") = some true ∧ (∀ t ∈ tyNames, PySem.W.kitOne K (.type t) (.ref (He.ga K c)) = some false) ∧ ∀ x ∈ es, prB K c x = true := fun c hc => by
    have h1 : errB K es c = true := List.all_eq_true.mp e c hc
    obtain ⟨k1, h1⟩ := He.ba h1
    obtain ⟨k2, h1⟩ := He.ba h1
    obtain ⟨k3, h1⟩ := He.ba h1
    obtain ⟨k4, k5⟩ := He.ba h1
    exact ⟨PySem.W.mg_of X G (He.eqO_ok k1), excCB_ok k2, of_decide_eq_true k3, tysB_ok k4, fun x hx => List.all_eq_true.mp k5 x hx⟩
  refine ⟨fun c hc => ?_, fun c hc x hx C D mc mx => ?_⟩
  · obtain ⟨k1, k2, k3, k4, _⟩ := at_ c hc
    exact ⟨_, k1, k2, k3, fun t ht => ⟨k4 t ht, tysB_ok e0 t ht⟩⟩
  · obtain ⟨k1, _, _, _, k5⟩ := at_ c hc
    obtain ⟨m1, _⟩ := at_ x hx
    rw [k1] at mc
    rw [m1] at mx
    cases mc
    cases mx
    obtain ⟨q1, q2⟩ := He.ba (k5 x hx)
    exact ⟨of_decide_eq_true q1, of_decide_eq_true q2⟩
abbrev AlX : Type := Bool × He.AlD
def obsX (es : List Str) (fa : List He.Fa) (fn : List He.DefD) (K : PySem.W.Frag) : AlX := (errsB K es, He.obsD fa fn K)
def obsXG (n : Nat) (es : List Str) (fa : List He.Fa) (fn : List He.DefD) (g : Addr → Option Obj) : AlX := obsX es fa fn (He.frG g (He.asD g n))
def hookX (n : Nat) (es : List Str) (fa : List He.Fa) (fn : List He.DefD) : PySem.W.Hook where
  α := AlX
  obs := fun s => obsXG n es fa fn s.heap.get?
  val := fun _ => (true, He.valD fn)
  says := fun _ h => ∃ K : PySem.W.Frag, K.In h ∧ obsX es fa fn K = (true, He.valD fn)
  of := fun _ _ e => ⟨_, He.frG_in, e⟩
  keeps := fun _ _ _ ⟨K, hK, c⟩ k => ⟨K, PySem.W.Frag.In.keeps hK k, c⟩
theorem obsXG_eq {n : Nat} {es : List Str} {fa : List He.Fa} {fn : List He.DefD} {g : Addr → Option Obj} {s : Shared} (h : ∀ a, g a = s.heap.get? a) : obsXG n es fa fn g = (hookX n es fa fn).obs s := by
  have e : g = s.heap.get? := funext h
  rw [e] <;> rfl
theorem saysX {es : List Str} {fa : List He.Fa} {fn : List He.DefD} {K : PySem.W.Frag} (c : obsX es fa fn K = (true, He.valD fn)) : errsB K es = true ∧ He.SaysD fa fn K := ⟨congrArg Prod.fst c, congrArg Prod.snd c⟩
end Dl
/-! evaluation of the later rules. -/
namespace Dl
open PySem PySem.Spec PyProof.Rows L2
@[simp] theorem fItV_ap (fe : DE) (ρ : DEnv) : fItV fe ρ = (fe ρ).bind itemsOfV := rfl
@[simp] theorem itemsOfV_l (t : Tg) (ds : List D) : itemsOfV (.lst t ds) = .ok ds := rfl
@[simp] theorem itemsOfV_t (ds : List D) : itemsOfV (.tup ds) = .ok ds := rfl
@[simp] theorem exn_re (c : Str) : (D.exn c).re .fz = D.exn c := rfl
@[simp] theorem exn_vw (c : Str) : vwOf (D.exn c) = D.exn c := rfl
@[simp] theorem exn_tg (c : Str) : (D.exn c).tg = .fz := rfl
@[simp] theorem exn_isN (c : Str) : (D.exn c).isN = false := rfl
theorem isiE_exn (es : List Str) (x c : Str) (h : c ∈ es) : isiE es x (.exn c) = .ok (.bl (subE c x)) := by
  unfold isiE isiW D.exn
  exact if_pos ⟨rfl, rfl, rfl, h⟩
theorem isiV_exn (es : List Str) (c : Str) (h : c ∈ es) : isiV es (.exn c) = .ok (.bl true) := by
  unfold isiV isiW D.exn
  exact if_pos ⟨rfl, rfl, rfl, h⟩
@[simp] theorem isiE_non (es : List Str) (x : Str) : isiE es x .non = .ok (.bl false) := rfl
@[simp] theorem isiV_non (es : List Str) : isiV es .non = .ok (.bl false) := rfl
theorem sTry_next {es : List Str} {gb : DS} {l : List (List Str × Option Nat × DS)} {ρ ρ' : DEnv} (h : gb ρ = .next ρ') : sTry es gb l ρ = .next ρ' := by unfold sTry; rw [h]
theorem sTry_ret {es : List Str} {gb : DS} {l : List (List Str × Option Nat × DS)} {ρ : DEnv} {d : D} (h : gb ρ = .ret d) : sTry es gb l ρ = .ret d := by unfold sTry; rw [h]
theorem sTry_exc {es : List Str} {gb : DS} {l : List (List Str × Option Nat × DS)} {ρ ρ' : DEnv} {c : Str} (h : gb ρ = .exc c ρ') (hc : c ∈ es) : sTry es gb l ρ = hdD c ρ' l := by
  unfold sTry; rw [h]; exact if_pos hc
@[simp] theorem hdD_nil (c : Str) (ρ : DEnv) : hdD c ρ [] = .exc c ρ := rfl
@[simp] theorem hdD_cons (c : Str) (x : List Str) (ρ : DEnv) (oi : Option Nat) (g : DS) (r : List (List Str × Option Nat × DS)) : hdD c ρ ((x, oi, g) :: r) = if x.any (subE c) = true then finD oi (g (setD oi ρ c)) else hdD c ρ r := rfl
@[simp] theorem finD_next (oi : Option Nat) (ρ : DEnv) : finD oi (.next ρ) = .next (clrD oi ρ) := rfl
@[simp] theorem finD_ret (oi : Option Nat) (d : D) : finD oi (.ret d) = .ret d := rfl
@[simp] theorem setD_some (i : Nat) (ρ : DEnv) (c : Str) : setD (some i) ρ c = ρ.set i (some (.exn c)) := rfl
@[simp] theorem setD_none (ρ : DEnv) (c : Str) : setD none ρ c = ρ := rfl
@[simp] theorem clrD_some (i : Nat) (ρ : DEnv) : clrD (some i) ρ = ρ.set i none := rfl
@[simp] theorem clrD_none (ρ : DEnv) : clrD none ρ = ρ := rfl
end Dl
/-! Loops and comprehensions, for proofs by simp: no environment needs to be written down twice. -/
namespace Dl
open PySem PySem.Spec PyProof.Rows L2
/-- where a loop's body comes out -/
def SR.to (r : SR) (P : SR → Prop) (g2 : DS) (I : DEnv → Prop) : Prop := match r with
  | .next ρ => I ρ
  | .cont ρ => I ρ
  | .brk ρ => P (g2 ρ)
  | .ret d => P (.ret d)
  | .exc c ρ => P (.exc c ρ)
  | .stuck => False
section
variable {P : SR → Prop} {g2 : DS} {I : DEnv → Prop} {ρ : DEnv}
@[simp] theorem to_next : SR.to (.next ρ) P g2 I = I ρ := rfl
@[simp] theorem to_cont : SR.to (.cont ρ) P g2 I = I ρ := rfl
@[simp] theorem to_brk : SR.to (.brk ρ) P g2 I = P (g2 ρ) := rfl
@[simp] theorem to_ret (d : D) : SR.to (.ret d) P g2 I = P (.ret d) := rfl
@[simp] theorem to_exc (c : Str) : SR.to (.exc c ρ) P g2 I = P (.exc c ρ) := rfl
@[simp] theorem seq_brk : (SR.brk ρ).seq g2 = .brk ρ := rfl
@[simp] theorem seq_next : (SR.next ρ).seq g2 = g2 ρ := rfl
@[simp] theorem seq_ret (d : D) : (SR.ret d).seq g2 = .ret d := rfl
@[simp] theorem seq_exc (c : Str) : (SR.exc c ρ).seq g2 = .exc c ρ := rfl
end
def inD' (t : DTg) (b : DS) (d : D) (ρ : DEnv) : SR := match t d ρ with
  | some ρ1 => b ρ1
  | none => .stuck
@[simp] theorem inD_gN (i : Nat) (b : DS) (d : D) (ρ : DEnv) : inD' (gN i) b d ρ = b (ρ.set i (some d)) := rfl
@[simp] theorem inD_gT (t : List D → DEnv → Option DEnv) (b : DS) (ds : List D) (ρ : DEnv) : inD' (gT t) b (.tup ds) ρ = match t ds ρ with
  | some ρ1 => b ρ1
  | none => .stuck := rfl
theorem forD_P {P : SR → Prop} {t : DTg} {b g2 : DS} {ds : List D} {ρ : DEnv} (I : Nat → DEnv → Prop) (h0 : I 0 ρ)
    (step : ∀ (i : Nat) (d : D) (ρ : DEnv), ds[i]? = some d → I i ρ → SR.to (inD' t b d ρ) P g2 (I (i + 1))) (k : ∀ ρ', I ds.length ρ' → P (g2 ρ')) : P ((forD t b ds ρ).seq g2) := by
  suffices h : ∀ (n i : Nat) (ρ : DEnv), i + n = ds.length → I i ρ → P ((forD t b (ds.drop i) ρ).seq g2) from by
    have := h ds.length 0 ρ (by omega) h0
    rwa [List.drop_zero] at this
  intro n
  induction n with
  | zero =>
    intro i ρ e hI
    have e2 : i = ds.length := by omega
    subst e2
    rw [List.drop_length]
    exact k ρ hI
  | succ n ih =>
    intro i ρ e hI
    have hi : i < ds.length := by omega
    rw [List.drop_eq_getElem_cons hi]
    have st := step i ds[i] ρ (List.getElem?_eq_getElem hi) hI
    unfold inD' at st
    unfold forD
    cases e1 : t ds[i] ρ with
    | none => rw [e1] at st; exact st.elim
    | some ρ1 =>
      rw [e1] at st
      dsimp only at st ⊢
      cases e2 : b ρ1 with
      | next ρ2 => rw [e2] at st; exact ih (i + 1) ρ2 (by omega) st
      | cont ρ2 => rw [e2] at st; exact ih (i + 1) ρ2 (by omega) st
      | brk ρ2 => rw [e2] at st; exact st
      | ret d => rw [e2] at st; exact st
      | exc c ρ2 => rw [e2] at st; exact st
      | stuck => rw [e2] at st; exact st.elim
theorem forD_P0 {P : SR → Prop} {t : DTg} {b : DS} {ds : List D} {ρ : DEnv} (I : Nat → DEnv → Prop) (h0 : I 0 ρ)
    (step : ∀ (i : Nat) (d : D) (ρ : DEnv), ds[i]? = some d → I i ρ → SR.to (inD' t b d ρ) P sNext (I (i + 1))) (k : ∀ ρ', I ds.length ρ' → P (.next ρ')) : P (forD t b ds ρ) := by
  have := forD_P (P := P) (g2 := sNext) I h0 step k
  cases e : forD t b ds ρ <;> rw [e] at this <;> exact this
/-- over a mapped list, the item itself -/
theorem forD_M {P : SR → Prop} {t : DTg} {b g2 : DS} {α : Type} {xs : List α} {dec : α → D} {ρ : DEnv} (I : Nat → DEnv → Prop) (h0 : I 0 ρ)
    (step : ∀ (i : Nat) (x : α) (ρ : DEnv), xs[i]? = some x → I i ρ → SR.to (inD' t b (dec x) ρ) P g2 (I (i + 1))) (k : ∀ ρ', I xs.length ρ' → P (g2 ρ')) : P ((forD t b (xs.map dec) ρ).seq g2) :=
  forD_P I h0 (fun i d ρ hd hI => by
    rw [List.getElem?_map] at hd
    cases e : xs[i]? with
    | none => rw [e] at hd; cases hd
    | some x => rw [e] at hd; cases hd; exact step i x ρ e hI) (fun ρ' h => k ρ' (by rw [List.length_map] at h; exact h))
theorem forD_M0 {P : SR → Prop} {t : DTg} {b : DS} {α : Type} {xs : List α} {dec : α → D} {ρ : DEnv} (I : Nat → DEnv → Prop) (h0 : I 0 ρ)
    (step : ∀ (i : Nat) (x : α) (ρ : DEnv), xs[i]? = some x → I i ρ → SR.to (inD' t b (dec x) ρ) P sNext (I (i + 1))) (k : ∀ ρ', I xs.length ρ' → P (.next ρ')) : P (forD t b (xs.map dec) ρ) :=
  forD_P0 I h0 (fun i d ρ hd hI => by
    rw [List.getElem?_map] at hd
    cases e : xs[i]? with
    | none => rw [e] at hd; cases hd
    | some x => rw [e] at hd; cases hd; exact step i x ρ e hI) (fun ρ' h => k ρ' (by rw [List.length_map] at h; exact h))
/-- a fold: the state behind i items -/
theorem forD_F {P : SR → Prop} {t : DTg} {b g2 : DS} {α β : Type} {xs : List α} {dec : α → D} {ρ : DEnv} {s0 : β} (f : β → α → β) (E : β → DEnv → Prop) (h0 : E s0 ρ)
    (step : ∀ (i : Nat) (x : α) (s : β) (ρ : DEnv), xs[i]? = some x → s = (xs.take i).foldl f s0 → E s ρ → SR.to (inD' t b (dec x) ρ) P g2 (E (f s x))) (k : ∀ ρ', E (xs.foldl f s0) ρ' → P (g2 ρ')) : P ((forD t b (xs.map dec) ρ).seq g2) :=
  forD_M (fun i ρ => E ((xs.take i).foldl f s0) ρ) h0 (fun i x ρ hx hE => by
    have := step i x _ ρ hx rfl hE
    rw [List.take_add_one, hx, List.foldl_append]
    exact this) (fun ρ' h => k ρ' (by rw [List.take_length] at h; exact h))
theorem forD_F0 {P : SR → Prop} {t : DTg} {b : DS} {α β : Type} {xs : List α} {dec : α → D} {ρ : DEnv} {s0 : β} (f : β → α → β) (E : β → DEnv → Prop) (h0 : E s0 ρ)
    (step : ∀ (i : Nat) (x : α) (s : β) (ρ : DEnv), xs[i]? = some x → s = (xs.take i).foldl f s0 → E s ρ → SR.to (inD' t b (dec x) ρ) P sNext (E (f s x))) (k : ∀ ρ', E (xs.foldl f s0) ρ' → P (.next ρ')) : P (forD t b (xs.map dec) ρ) :=
  forD_M0 (fun i ρ => E ((xs.take i).foldl f s0) ρ) h0 (fun i x ρ hx hE => by
    have := step i x _ ρ hx rfl hE
    rw [List.take_add_one, hx, List.foldl_append]
    exact this) (fun ρ' h => k ρ' (by rw [List.take_length] at h; exact h))
theorem sWhile_P {P : SR → Prop} {c : DT} {b g2 : DS} {ρ : DEnv} (I : DEnv → Prop) (m : DEnv → Nat) (h : I ρ)
    (step : ∀ ρ, I ρ → (c ρ = .ok false ∧ P (g2 ρ)) ∨ (c ρ = .ok true ∧ SR.to (b ρ) P g2 (fun ρ' => I ρ' ∧ m ρ' < m ρ))) (hs : ¬ P .stuck) : P ((sWhile c b ρ).seq g2) := by
  suffices z : ∀ (n : Nat) (ρ : DEnv), m ρ < n → I ρ → ∃ r, whileD c b n ρ = r ∧ r ≠ .stuck ∧ P (r.seq g2) from by
    obtain ⟨r, e, q, p⟩ := z (m ρ + 1) ρ (by omega) h
    rw [sWhile_eq e q]
    exact p
  intro n
  induction n with
  | zero => intro ρ hm; omega
  | succ n ih =>
    intro ρ hm hI
    rcases step ρ hI with ⟨e, p⟩ | ⟨e, p⟩
    · exact ⟨.next ρ, by unfold whileD; rw [e]; rfl, by simp, p⟩
    · unfold whileD
      rw [e]
      cases e2 : b ρ with
      | next ρ2 =>
        rw [e2] at p
        obtain ⟨r, k1, k2⟩ := ih ρ2 (by have := p.2; omega) p.1
        exact ⟨r, k1, k2⟩
      | cont ρ2 =>
        rw [e2] at p
        obtain ⟨r, k1, k2⟩ := ih ρ2 (by have := p.2; omega) p.1
        exact ⟨r, k1, k2⟩
      | brk ρ2 => rw [e2] at p; exact ⟨.next ρ2, rfl, by simp, p⟩
      | ret d => rw [e2] at p; exact ⟨.ret d, rfl, by simp, p⟩
      | exc c ρ2 => rw [e2] at p; exact ⟨.exc c ρ2, rfl, by simp, p⟩
      | stuck => rw [e2] at p; exact p.elim
/-- one item of a comprehension -/
def elD (t : DTg) (tt : DT) (el : DE) (ρ : DEnv) (d : D) : Res (Option D) := match t d ρ with
  | some ρ1 => (tt ρ1).bind fun b => if b = true then (el ρ1).bind fun y => if y.tg = .vw then .stuck else .ok (some (y.re .fz)) else .ok none
  | none => .stuck
@[simp] theorem elD_gN (i : Nat) (tt : DT) (el : DE) (ρ : DEnv) (d : D) : elD (gN i) tt el ρ d = (tt (ρ.set i (some d))).bind fun b => if b = true then (el (ρ.set i (some d))).bind fun y => if y.tg = .vw then .stuck else .ok (some (y.re .fz)) else .ok none := rfl
@[simp] theorem elD_gT (t : List D → DEnv → Option DEnv) (tt : DT) (el : DE) (ρ : DEnv) (ds : List D) : elD (gT t) tt el ρ (.tup ds) = match t ds ρ with
  | some ρ1 => (tt ρ1).bind fun b => if b = true then (el ρ1).bind fun y => if y.tg = .vw then .stuck else .ok (some (y.re .fz)) else .ok none
  | none => .stuck := rfl
theorem compD_el {t : DTg} {tt : DT} {el : DE} {ρ : DEnv} {d : D} {ds : List D} {o : Option D} (h : elD t tt el ρ d = .ok o) : compD t tt el ρ (d :: ds) = (compD t tt el ρ ds).bind fun ys => .ok (o.toList ++ ys) := by
  unfold elD at h
  rw [compD_cons]
  cases e : t d ρ with
  | none => rw [e] at h; cases h
  | some ρ1 =>
    rw [e] at h
    dsimp only at h ⊢
    cases e1 : tt ρ1 with
    | stuck => rw [e1] at h; cases h
    | exc x => rw [e1] at h; cases h
    | ok b =>
      rw [e1] at h
      cases b with
      | false =>
        cases h
        simp only [noX_ok, Res.ok_bind, Bool.false_eq_true, if_false, Option.toList_none, List.nil_append]
        cases compD t tt el ρ ds <;> rfl
      | true =>
        simp only [noX_ok, Res.ok_bind, if_true] at h ⊢
        cases e2 : el ρ1 with
        | stuck => rw [e2] at h; cases h
        | exc x => rw [e2] at h; cases h
        | ok y =>
          rw [e2] at h
          simp only [noX_ok, Res.ok_bind] at h ⊢
          by_cases q : y.tg = .vw
          · rw [if_pos q] at h; cases h
          · rw [if_neg q] at h ⊢
            cases h
            rfl
/-- every item gives one -/
theorem compD_M {α : Type} {t : DTg} {tt : DT} {el : DE} {ρ : DEnv} {dec : α → D} (f : α → D) : ∀ {xs : List α}, (∀ x ∈ xs, elD t tt el ρ (dec x) = .ok (some (f x))) → compD t tt el ρ (xs.map dec) = .ok (xs.map f)
  | [], _ => rfl
  | x :: xs, h => by
    rw [List.map_cons, compD_el (h x (List.mem_cons_self ..)), compD_M f (fun y hy => h y (List.mem_cons_of_mem _ hy))]
    rfl
theorem compD_F {α : Type} {t : DTg} {tt : DT} {el : DE} {ρ : DEnv} {dec : α → D} (p : α → Bool) (f : α → D) : ∀ {xs : List α}, (∀ x ∈ xs, elD t tt el ρ (dec x) = .ok (if p x = true then some (f x) else none)) → compD t tt el ρ (xs.map dec) = .ok ((xs.filter p).map f)
  | [], _ => rfl
  | x :: xs, h => by
    rw [List.map_cons, compD_el (h x (List.mem_cons_self ..)), compD_F p f (fun y hy => h y (List.mem_cons_of_mem _ hy))]
    by_cases c : p x = true
    · rw [if_pos c, List.filter_cons_of_pos c]; rfl
    · rw [if_neg c, List.filter_cons_of_neg c]; rfl
theorem compD_E {α β : Type} {t : DTg} {tt : DT} {el : DE} {ρ : DEnv} {dec : α → D} {enc : β → D} {Q : α → β → Prop} : ∀ {xs : List α}, (∀ x ∈ xs, ∃ z, elD t tt el ρ (dec x) = .ok (some (enc z)) ∧ Q x z) →
    ∃ zs : List β, compD t tt el ρ (xs.map dec) = .ok (zs.map enc) ∧ zs.length = xs.length ∧ ∀ (i : Nat) x, xs[i]? = some x → ∃ z, zs[i]? = some z ∧ Q x z
  | [], _ => ⟨[], rfl, rfl, fun i x h => nomatch h⟩
  | x :: xs, h => by
    obtain ⟨z, e, q⟩ := h x (List.mem_cons_self ..)
    obtain ⟨zs, f1, f2, f3⟩ := compD_E (xs := xs) (fun y hy => h y (List.mem_cons_of_mem _ hy))
    refine ⟨z :: zs, by rw [List.map_cons, compD_el e, f1]; rfl, by rw [List.length_cons, f2]; rfl, fun i y hy => ?_⟩
    cases i with
    | zero => cases hy; exact ⟨z, rfl, q⟩
    | succ i => exact f3 i y hy
/-- the result is what Q says -/
theorem Res.Ok.eq {α : Type} {r : Res α} {a : α} (h : r.Ok fun d => d = a) : r = .ok a := by obtain ⟨d, e, rfl⟩ := h; exact e
theorem Res.Ok.of {α : Type} {r : Res α} {a : α} (h : r = .ok a) : r.Ok fun d => d = a := ⟨a, h, rfl⟩
@[simp] theorem Ok_ok {α : Type} (a : α) (Q : α → Prop) : Res.Ok (.ok a) Q = Q a := by
  apply propext
  exact ⟨fun ⟨d, e, h⟩ => by cases e; exact h, fun h => ⟨a, rfl, h⟩⟩
@[simp] theorem Ok_stuck {α : Type} (Q : α → Prop) : Res.Ok (.stuck : Res α) Q = False := by
  apply propext
  exact ⟨fun ⟨d, e, h⟩ => (nomatch e), False.elim⟩
end Dl
/-! unpacking a list or a tuple. -/
namespace Dl
open PySem PySem.Spec PySem.W PyProof.Rows L2
def gSeq (K : PySem.W.Frag) (n : Nat) (t : TGs) : TG := fun v σ H Q => ∃ a xs, v = .ref a ∧ (SqT K H a xs ∨ SqL K H a xs) ∧ xs.length = n ∧ t xs σ H Q
section
variable {X : Cx} {W : WX} {pos : Pos} {e : Expr} {fe : DE}
theorem pg_seq {es : List Expr} {k : Nat} {t : TGs} {n : Nat} (hc : X.calm = true) (h : PGs X es t)
    (hn : (assignEach es X.env).length = n := by rfl) (hst : (assignEach es X.env).findIdx? (·.1) = none := by rfl) : PG X (.Tuple es k pos) (gSeq X.K n t) := by
  refine ⟨fun pins s σ H v u Q I r hw => ?_⟩
  obtain ⟨a, xs, e1, hq, hl, hw⟩ := hw
  subst e1
  cases r
  rcases hq with hq | hq
  · obtain ⟨its, rv, ht, hz⟩ := I.tuple hq
    refine assign_Tuple_tuple (I.ok.hd hc) ht (by simp [hn, ← hl, rv.length]) hst fun h' hx => ?_
    have I1 : Inv X pins σ H { s with heap := h' } := I.kept (t' := s.toks) fun b o e => hx b o (Nat.ne_of_lt (Heap.lt_size e)) e
    exact h.run pins _ σ H xs _ Q I1 (by simpa using rv) hw
  · obtain ⟨its, rv, ht, hz⟩ := I.list hq
    rw [assign_Tuple]
    refine wpAny_bind (wpAny_standAt ?_)
    unfold unpack
    rw [hst, show (assignEach es X.env).length = its.toArray.size by simp [hn, ← hl, rv.length]]
    refine wpAny_bind (wpAny_holding (kun_itemsOf (I.ok.hd hc) ht.isList fun h' hx => ?_))
    have I1 : Inv X pins σ H { s with heap := h' } := I.kept (t' := s.toks) fun b o e => hx b o (Nat.ne_of_lt (Heap.lt_size e)) e
    exact h.run pins _ σ H xs _ Q I1 (by simpa using rv) hw
def sAsgU (t : List Dl.D → DEnv → Option DEnv) (fe : DE) : DS := fun ρ => (fe ρ).toS ρ fun d => match d with
  | .tup ds => (match t ds ρ with
    | some ρ' => .next ρ'
    | none => .stuck)
  | .lst _ ds => (match t ds ρ with
    | some ρ' => .next ρ'
    | none => .stuck)
  | _ => .stuck
theorem psd_asgU {es : List Expr} {is : List Nat} {k : Nat} {tpos : Pos} {t : List Dl.D → DEnv → Option DEnv} {n : Nat} (hc : X.calm = true) (h : PGsD X es is t) (hl : ∀ ds ρ ρ', t ds ρ = some ρ' → ds.length = n) (he : PD X W e fe)
    (hn : (assignEach es X.env).length = n := by rfl) (hst : (assignEach es X.env).findIdx? (·.1) = none := by rfl)
    (hs : swapsWithSole [.Tuple es k tpos] e pos.line X.env = pure false := by rfl) (hw : swappedStores [.Tuple es k tpos] e X.env = pure none := by rfl)
    (h1 : (assignEach [.Tuple es k tpos] X.env).map (·.2) = [assign (.Tuple es k tpos) X.env] := by rfl) : PSD X W (.Assign [.Tuple es k tpos] e pos) (sAsgU t fe) :=
  (ps_asg he (pg_seq (pos := tpos) (k := k) hc h hn hst) hs hw h1).imp fun D σ H ⟨H0, F0, ρ, F, r, p⟩ =>
  ⟨H0, F0, ρ, F, r, p.expr r fun F1 H1 v d _ r1 g1 x1 p1 => by
    cases d with
    | tup ds =>
      dsimp only at p1
      cases e : t ds ρ with
      | none => rw [e] at p1; exact p1.elim
      | some ρ' =>
        rw [e] at p1
        obtain ⟨a, xs, rfl, h1, h2⟩ := x1.tup r1.fh
        exact ⟨a, xs, rfl, .inl (.inl h1), by rw [h2.length]; exact hl _ _ _ e, H0, F0, ρ, F1, ds, r1, h2, ρ', e, fun σ' r' _ => p1 σ' F1 H1 r'⟩
    | lst tg ds =>
      dsimp only at p1
      cases e : t ds ρ with
      | none => rw [e] at p1; exact p1.elim
      | some ρ' =>
        rw [e] at p1
        obtain ⟨a, xs, rfl, h1, h2⟩ := x1.lst r1.fh
        exact ⟨a, xs, rfl, .inr h1.sq, by rw [h2.length]; exact hl _ _ _ e, H0, F0, ρ, F1, ds, r1, h2, ρ', e, fun σ' r' _ => p1 σ' F1 H1 r'⟩
    | _ => exact p1.elim⟩
@[simp] theorem sAsgU_ap (t : List Dl.D → DEnv → Option DEnv) (fe : DE) (ρ : DEnv) : sAsgU t fe ρ = (fe ρ).toS ρ fun d => match d with
  | .tup ds => (match t ds ρ with
    | some ρ' => .next ρ'
    | none => .stuck)
  | .lst _ ds => (match t ds ρ with
    | some ρ' => .next ρ'
    | none => .stuck)
  | _ => .stuck := rfl
end
end Dl
/-! dicts with tuples as keys: rules of the layer below. -/
namespace Dl
open PySem PySem.Spec PySem.W PyProof.Rows L2
mutual
theorem Rep.nested {P : Program} {w : World} {K : PySem.W.Frag} {mg : Str → Option Value} {H : Hp} {h : Heap} (hok : HOk P w H h) : ∀ {v : V} {d : D}, Rep w K mg H v d → ∀ {k : NestedKey} {u : Value}, d.key = some k → RelV v u → NestedIs h k u
  | _, _, .non, k, u, e, r => by cases e; cases r; exact .none
  | _, _, .bl b, k, u, e, r => by cases e; cases r; exact .bool rfl
  | _, _, .int i, k, u, e, r => by cases e; obtain ⟨t, rfl⟩ := r; exact .int _ _
  | _, _, .str s, k, u, e, r => by cases e; obtain ⟨t, rfl⟩ := r; exact .text _ _
  | _, _, .tup (a := a) (xs := xs) (ds := ds) h1 h2, k, u, e, r => by
    cases r
    obtain ⟨z, its, rv, o, ho, hc, n, hd⟩ := h1.rd.ok hok
    have e2 : (D.key.keys ds).map NestedKey.tup = some k := e
    obtain ⟨ks, e3, rfl⟩ := Option.map_eq_some_iff.mp e2
    exact .tup ho hc hd (Reps.nested hok h2 e3 (by simpa using rv))
  | _, _, .lst _ _, k, u, e, r => by cases e
  | _, _, .dic _ _, k, u, e, r => by cases e
  | _, _, .obj _ _, k, u, e, r => by cases e
theorem Reps.nested {P : Program} {w : World} {K : PySem.W.Frag} {mg : Str → Option Value} {H : Hp} {h : Heap} (hok : HOk P w H h) : ∀ {vs : List V} {ds : List D}, Reps w K mg H vs ds → ∀ {ks : List NestedKey} {us : List Value}, D.key.keys ds = some ks → Vals vs us → NestedAll h ks us
  | _, _, .nil, ks, us, e, r => by cases e; cases r; exact .nil
  | _, _, .cons a b, ks, us, e, r => by
    cases r with
    | cons r1 r2 =>
      obtain ⟨k, e1, e2⟩ := Option.bind_eq_some_iff.mp (show (D.key _).bind _ = some ks from e)
      obtain ⟨kr, e3, rfl⟩ := Option.map_eq_some_iff.mp e2
      exact .cons (Rep.nested hok a e1 r1) (Reps.nested hok b e3 r2)
end
/-- a value that is the key k: a tuple -/
def KeyV (w : World) (K : PySem.W.Frag) (mg : Str → Option Value) (H : Hp) (v : V) (k : NestedKey) : Prop := ∃ ds, Rep w K mg H v (.tup ds) ∧ (D.tup ds).key = some k ∧ k.depth ≤ 8
def PRel (x : En) (y : NestedKey × Addr × Value) : Prop := x.1 = y.1 ∧ x.2.1 = .ref y.2.1 ∧ RelV x.2.2 y.2.2
def lkE (xs : List En) (k : NestedKey) : Option V := (xs.find? fun x => decide (x.1 = k)).map (·.2.2)
def putE (k : NestedKey) (v : V) (x : En) : En := if x.1 = k then (x.1, x.2.1, v) else x
def stE (xs : List En) (k : NestedKey) (kv v : V) : List En := if (lkE xs k).isSome then xs.map (putE k v) else xs ++ [(k, kv, v)]
section
variable {X : Cx} {pins : List (Addr × Obj)} {σ : L2.St} {H : Hp} {s : Shared} {a : Addr} {xs : List En}
theorem KeyV.is (hok : HOk X.prog X.w H s.heap) {v : V} {k : NestedKey} (h : KeyV X.w X.K X.mg H v k) : ∃ b, v = .ref b ∧ (nestedKind X.prog X.w).is s.heap k b := by
  obtain ⟨ds, r, e, d8⟩ := h
  obtain ⟨b, ys, rfl, _, _⟩ := r.of_tup
  exact ⟨b, rfl, r.nested hok e rfl, d8⟩
theorem entries_of (hok : HOk X.prog X.w H s.heap) : ∀ {xs : List En} {es : List DictEntry}, Paired (EnRel X.w) xs es → (∀ e ∈ xs, KeyV X.w X.K X.mg H e.2.1 e.1) →
    ∃ ys : List (NestedKey × Addr × Value), Paired PRel xs ys ∧ es = ys.map (entryOfKey (nestedKind X.prog X.w)) ∧ ∀ y ∈ ys, (nestedKind X.prog X.w).is s.heap y.1 y.2.1
  | _, _, .nil, _ => ⟨[], .nil, rfl, fun y h => by cases h⟩
  | x :: xs, e :: es, .cons r rs, h => by
    obtain ⟨ys, p, e1, q⟩ := entries_of hok rs fun z hz => h z (List.mem_cons_of_mem _ hz)
    obtain ⟨b, eb, ib⟩ := (h x (List.mem_cons_self ..)).is hok
    obtain ⟨k, kv, vv⟩ := x
    obtain ⟨hh, hk, hv⟩ := e
    obtain ⟨r1, r2, r3⟩ := r
    dsimp only at eb r1 r2 r3 ib
    subst eb
    cases r2
    subst r1
    refine ⟨(k, b, hv) :: ys, .cons ⟨rfl, rfl, r3⟩ p, by rw [List.map_cons, e1]; rfl, fun y hy => ?_⟩
    rcases List.mem_cons.mp hy with rfl | hy
    · exact ib
    · exact q y hy
theorem prel_keys {xs : List En} {ys : List (NestedKey × Addr × Value)} (p : Paired PRel xs ys) : xs.map (·.1) = ys.map (·.1) := by
  induction p with
  | nil => rfl
  | cons r _ ih => rw [List.map_cons, List.map_cons, ih, r.1]
theorem prel_len {xs : List En} {ys : List (NestedKey × Addr × Value)} (p : Paired PRel xs ys) : xs.length = ys.length := by
  induction p with
  | nil => rfl
  | cons r _ ih => rw [List.length_cons, List.length_cons, ih]
theorem dic_read {ob : Obj} (I : Inv X pins σ H s) (h : H a = some (dicO X.w a xs ob)) (hk : ∀ e ∈ xs, KeyV X.w X.K X.mg H e.2.1 e.1) :
    ∃ ys, s.heap.DictOfH (nestedKind X.prog X.w) a ys ∧ Paired PRel xs ys ∧ (a == sysModules) = false ∧ xs.length ≤ sizeLine := by
  obtain ⟨⟨h1, es, ep, h2, h3, h4, h5, h6, h7⟩, _, _⟩ := I.hok a _ h
  obtain ⟨ys, p, e, q⟩ := entries_of I.hok h4 hk
  exact ⟨ys, ⟨ob, es, ep, h1, h2, h3, e, q, by rw [← prel_keys p]; exact h5⟩, p, h6, h7⟩
theorem lkE_cons (x : En) (xs : List En) (k : NestedKey) : lkE (x :: xs) k = if x.1 = k then some x.2.2 else lkE xs k := by
  unfold lkE
  rw [List.find?_cons]
  by_cases c : x.1 = k <;> simp [c]
theorem atKey_cons (y : NestedKey × Addr × Value) (ys : List (NestedKey × Addr × Value)) (k : NestedKey) : atKey (y :: ys) k = if y.1 = k then some y.2 else atKey ys k := by
  unfold atKey
  rw [List.find?_cons]
  by_cases c : y.1 = k <;> simp [c]
/-- looked up -/
theorem lk_at {xs : List En} {ys : List (NestedKey × Addr × Value)} (p : Paired PRel xs ys) (k : NestedKey) : (lkE xs k = none ∧ atKey ys k = none) ∨ ∃ v q, lkE xs k = some v ∧ atKey ys k = some q ∧ RelV v q.2 := by
  induction p with
  | nil => exact .inl ⟨rfl, rfl⟩
  | @cons x y xs ys r _ ih =>
    rw [lkE_cons, atKey_cons, ← r.1]
    by_cases c : x.1 = k
    · rw [if_pos c, if_pos c]
      exact .inr ⟨_, _, rfl, rfl, r.2.2⟩
    · rw [if_neg c, if_neg c]
      exact ih
theorem lk_some {xs : List En} {ys : List (NestedKey × Addr × Value)} (p : Paired PRel xs ys) (k : NestedKey) : (atKey ys k).isSome = (lkE xs k).isSome := by
  rcases lk_at p k with ⟨a, b⟩ | ⟨v, q, a, b, _⟩ <;> rw [a, b] <;> rfl
theorem paired_map {xs : List En} {ys : List (NestedKey × Addr × Value)} (p : Paired PRel xs ys) (k : NestedKey) {v : V} {u : Value} (r : RelV v u) : Paired PRel (xs.map (putE k v)) (ys.map (putAt k u)) := by
  induction p with
  | nil => exact .nil
  | @cons x y xs ys q _ ih =>
    refine .cons ?_ ih
    unfold putE putAt
    rw [← q.1]
    by_cases c : x.1 = k
    · rw [if_pos c, if_pos c]; exact ⟨rfl, q.2.1, r⟩
    · rw [if_neg c, if_neg c]; exact q
theorem paired_st {xs : List En} {ys : List (NestedKey × Addr × Value)} (p : Paired PRel xs ys) (k : NestedKey) (b : Addr) {v : V} {u : Value} (r : RelV v u) : Paired PRel (stE xs k (.ref b) v) (storedH ys k b u) := by
  unfold stE storedH
  rw [lk_some p k]
  by_cases c : (lkE xs k).isSome = true
  · rw [if_pos c, if_pos c]; exact paired_map p k r
  · rw [if_neg c, if_neg c]; exact Paired.snoc p ⟨rfl, rfl, r⟩
theorem prel_en {P : Program} {w : World} {xs : List En} {ys : List (NestedKey × Addr × Value)} (p : Paired PRel xs ys) : Paired (EnRel w) xs (ys.map (entryOfKey (nestedKind P w))) := by
  induction p with
  | nil => exact .nil
  | @cons x y xs ys q _ ih => exact .cons ⟨by rw [q.1]; rfl, by rw [q.2.1]; rfl, q.2.2⟩ ih
theorem dicAt_of {h : Heap} {xs : List En} {ys : List (NestedKey × Addr × Value)} (x : h.DictOfH (nestedKind X.prog X.w) a ys) (p : Paired PRel xs ys) (hm : (a == sysModules) = false) (hz : xs.length ≤ sizeLine) : ∃ ob, DicAt X.w a xs ob h := by
  obtain ⟨o, es, ep, h1, h2, h3, h4, h5, h6⟩ := x
  exact ⟨o, h1, es, ep, h2, h3, by rw [h4]; exact prel_en p, by rw [prel_keys p]; exact h6, hm, hz⟩
theorem dicO_ok {H' : Hp} {h : Heap} {P : Program} {ob : Obj} (x : DicAt X.w a xs ob h) : ObjOk P X.w H' h a (dicO X.w a xs ob) := ⟨x, ⟨ob, x.1⟩, fun h1 h2 y k => ⟨k _ y.1, y.2⟩⟩
/-! ### in, d[k], d.get(k), d[k] = v -/
def rInK (w : World) (K : PySem.W.Frag) (mg : Str → Option Value) (neg : Bool) : R2 := fun x y H Q => ∃ a xs ob k, y = .ref a ∧ H a = some (dicO w a xs ob) ∧ KeyV w K mg H x k ∧ (∀ e ∈ xs, KeyV w K mg H e.2.1 e.1) ∧ Q (.bl (if neg then !(lkE xs k).isSome else (lkE xs k).isSome)) H
theorem op_inK (hu : X.A.in1.units + 8 < cLine) : OpR X (compareOp .In) (rInK X.w X.K X.mg false) := by
  intro pins s σ H x y v u Q I rx ry h
  obtain ⟨a, xs, ob, k, rfl, ha, hk, hks, q⟩ := h
  cases ry
  obtain ⟨ys, hd, p, hm, hz⟩ := dic_read I ha hks
  obtain ⟨b, rfl, hb⟩ := hk.is I.hok
  cases rx
  refine wpAny_in_heap hu hb hm hd ?_
  rw [lk_some p k]
  exact ⟨.bl _, H, I.kept (t' := _) fun _ _ e => e, rfl, q⟩
theorem op_ninK (hu : X.A.in1.units + 8 < cLine) : OpR X (compareOp .NotIn) (rInK X.w X.K X.mg true) := by
  intro pins s σ H x y v u Q I rx ry h
  obtain ⟨a, xs, ob, k, rfl, ha, hk, hks, q⟩ := h
  cases ry
  obtain ⟨ys, hd, p, hm, hz⟩ := dic_read I ha hks
  obtain ⟨b, rfl, hb⟩ := hk.is I.hok
  cases rx
  refine notIn_keyed hu hb hm ⟨ys, hd, rfl⟩ ?_
  rw [valueAt_pairsH, Option.isSome_map, lk_some p k]
  exact ⟨.bl _, H, I.kept (t' := _) fun _ _ e => e, rfl, q⟩
def rIxK (w : World) (K : PySem.W.Frag) (mg : Str → Option Value) : R2 := fun x y H Q => ∃ a xs ob k v, x = .ref a ∧ H a = some (dicO w a xs ob) ∧ KeyV w K mg H y k ∧ (∀ e ∈ xs, KeyV w K mg H e.2.1 e.1) ∧ lkE xs k = some v ∧ Q v H
theorem ix_dicK (hu : X.A.in1.units + 8 < cLine) : IxR X (rIxK X.w X.K X.mg) := by
  intro value slice pins s σ H x y v u Q I rx ry h hsub
  obtain ⟨a, xs, ob, k, z, rfl, ha, hk, hks, hl, q⟩ := h
  cases rx
  obtain ⟨ys, hd, p, hm, hz⟩ := dic_read I ha hks
  obtain ⟨b, rfl, hb⟩ := hk.is I.hok
  cases ry
  rcases lk_at p k with ⟨e1, e2⟩ | ⟨v, qq, e1, e2, e3⟩
  · rw [e1] at hl; cases hl
  · rw [e1] at hl
    cases hl
    exact tail_any hd.typeIs PySem.F.slot_dict_getitem.lookup (wpAny_getItem_heap hu hb hd e2 ⟨_, H, I.kept (t' := _) fun _ _ e => e, e3, q⟩) hsub
def rStK (w : World) (K : PySem.W.Frag) (mg : Str → Option Value) : TSet := fun o i v H Q => ∃ a xs ob k, o = .ref a ∧ H a = some (dicO w a xs ob) ∧ KeyV w K mg H i k ∧ (∀ e ∈ xs, KeyV w K mg H e.2.1 e.1) ∧ xs.length < sizeLine ∧ ∀ ob', Q (upd H a (dicO w a (stE xs k i v) ob'))
theorem st_len (xs : List En) (k : NestedKey) (kv v : V) : (stE xs k kv v).length ≤ xs.length + 1 := by
  unfold stE
  split <;> simp
theorem set_dicK (hu : X.A.in1.units + 8 < cLine) : PSet X (rStK X.w X.K X.mg) := by
  intro pins s σ H o i v ov iv u Q I ro ri rv h
  obtain ⟨a, xs, ob, k, rfl, ha, hk, hks, hz, q⟩ := h
  cases ro
  obtain ⟨ys, hd, p, hm, _⟩ := dic_read I ha hks
  obtain ⟨b, rfl, hb⟩ := hk.is I.hok
  cases ri
  refine wpAny_setItem_heap (hsz := by rw [← prel_len p]; omega) hu hb hd fun h' hd' hs => ?_
  obtain ⟨ob', st⟩ := dicAt_of hd' (paired_st p k b rv) hm (by have := st_len xs k (.ref b) v; omega)
  exact ⟨_, I.write (e := a) (t' := _) (by rw [ha]; trivial) (.inl rfl) (fun c z hc hz => (hs.2 c hc).trans hz) ⟨ob', st.1⟩ (dicO_ok st), q ob'⟩
def rGetK (w : World) (K : PySem.W.Frag) (mg : Str → Option Value) : V → List V → Hp → VK → Prop := fun x ys H Q => ∃ a xs ob k y, x = .ref a ∧ ys = [y] ∧ H a = some (dicO w a xs ob) ∧ KeyV w K mg H y k ∧ (∀ e ∈ xs, KeyV w K mg H e.2.1 e.1) ∧ Q ((lkE xs k).getD .non) H
theorem mt_getK (hu : X.A.in1.units + 8 < cLine) : MtR X "dict.get" (rGetK X.w X.K X.mg) := by
  intro pins s σ H x xs v us Q I rx rxs h
  obtain ⟨a, xs, ob, k, y, rfl, rfl, ha, hk, hks, q⟩ := h
  cases rx
  obtain ⟨u, rfl, ru⟩ := vals1 rxs
  obtain ⟨ys, hd, p, hm, hz⟩ := dic_read I ha hks
  obtain ⟨b, rfl, hb⟩ := hk.is I.hok
  cases ru
  refine get_keyed hu hb hm ⟨ys, hd, rfl⟩ ?_
  rw [valueAt_pairsH]
  rcases lk_at p k with ⟨e1, e2⟩ | ⟨z, qq, e1, e2, e3⟩
  · rw [e1] at q
    rw [e2]
    exact ⟨.non, H, I.kept (t' := _) fun _ _ e => e, rfl, q⟩
  · rw [e1] at q
    rw [e2]
    exact ⟨_, H, I.kept (t' := _) fun _ _ e => e, e3, q⟩
/-- {} -/
def tDNewX (w : World) : TE := fun _ H Q => ∀ p ob, H p = none → Q (.ref p) (upd H p (dicO w p [] ob))
theorem pe_dnewX {pos : Pos} : PE X (.Dict [] [] pos) (tDNewX X.w) := ⟨fun pins s σ H Q I h =>
  wpAny_Dict_empty ⟨.ref s.heap.objs.size, _, I.laid (a := s.heap.objs.size) (o := dicO X.w s.heap.objs.size [] { cls := .type "dict", data := .dict #[] }) (t' := s.toks) (fun _ _ q => Heap.get?_push_of_some _ q) (Nat.le_refl _)
    (dicO_ok ⟨Heap.get?_push_size _ rfl, #[], 0, ⟨rfl, rfl, rfl⟩, rfl, .nil, List.nodup_nil, beq_eq_false_iff_ne.mpr (Ne.symm (Nat.ne_of_lt I.big)), Nat.zero_le _⟩), rfl, h _ _ (I.hok.fresh (Nat.le_refl _))⟩⟩
/-- a dict's method -/
def tBMX (w : World) (r : V → List V → Hp → VK → Prop) (to : TE) (t : TA) : TE := fun σ H Q => to σ H fun x H1 => (∃ p xs ob, x = .ref p ∧ H1 p = some (dicO w p xs ob)) ∧ t σ H1 fun xs H2 => r x xs H2 Q
theorem dic_type {ob : Obj} (I : Inv X pins σ H s) {p : Addr} (h : H p = some (dicO X.w p xs ob)) : s.TypeIs (.ref p) "dict" ∧ ∀ a, Value.ref p = .ref a → ∃ ob, s.heap.get? a = some ob ∧ ob.dict = none := by
  obtain ⟨⟨h1, es, ep, h2, h3, _⟩, _, _⟩ := I.hok p _ h
  exact ⟨⟨ob, h1, h2.1⟩, fun a e => by cases e; exact ⟨ob, h1, h2.2.1⟩⟩
theorem pe_bmX {o e : Expr} {es : List Expr} {to : TE} {t : TA} {name : Str} {apos cpos : Pos} {id : String} {r : V → List V → Hp → VK → Prop} (slot : Slot "dict" name id) (hty : typeOf (.builtin id) = pure (.type "method_descriptor")) (hm : MtR X id r) (ho : PE X o to) (ha : PA X (e :: es) t)
    (hbase : attributeBase o name X.env (eval o X.env) = eval o X.env := by rfl)
    (hfew : ((backTo cpos (starEach (e :: es) X.env)).all (fun x => !x.1) && (backToKw cpos (keywordEach [] X.env)).all (fun x => x.1.isSome)
      && decide ((e :: es).length + ([] : List Keyword).length + (if ([] : List Keyword).isEmpty then 0 else 1) < 30)) = true := by rfl)
    (hline : (apos.endLine == cpos.line) = true := by rfl) (hs : starEach (e :: es) X.env = (false, eval e X.env) :: starEach es X.env := by rfl) (hplain : (backTo cpos (starEach es X.env)).any (·.1) = false := by rfl) :
    PE X (.Call (.Attribute o name apos) (e :: es) [] cpos) (tBMX X.w r to t) := by
  refine ⟨fun pins s σ H Q I h => ?_⟩
  refine wpAny_Call_method_late hbase hfew hline rfl (thn (ho.run pins s σ H _ I h) fun v s1 ⟨x, H1, I1, r1, ⟨p, xs, ob, ex, hx⟩, q1⟩ => ?_)
  subst ex
  cases r1
  obtain ⟨h1, h2⟩ := dic_type I1 hx
  refine ⟨"dict", id, PySem.F.plainAttrs_dict, slot, hty, h1, h2, ?_⟩
  have hA := ha.run cpos pins s1 σ H1 _ I1 q1
  rw [hs] at hA ⊢
  refine Calls.callWith_builtin (by show (false || (backTo cpos (starEach es X.env)).any (·.1)) = false; rw [hplain] <;> rfl) (Calls.evalArgs_plain ?_)
  exact thn hA fun us s2 ⟨vs, H2, I2, r2, q2⟩ => hm pins s2 σ H2 (.ref p) vs _ us Q I2 rfl r2 q2
theorem pe_bmX0 {o : Expr} {to : TE} {name : Str} {apos cpos : Pos} {id : String} {r : V → List V → Hp → VK → Prop} (slot : Slot "dict" name id) (hty : typeOf (.builtin id) = pure (.type "method_descriptor")) (hm : MtR X id r) (ho : PE X o to)
    (hbase : attributeBase o name X.env (eval o X.env) = eval o X.env := by rfl) (hline : (apos.endLine == cpos.line) = true := by rfl) :
    PE X (.Call (.Attribute o name apos) [] [] cpos) (fun σ H Q => to σ H fun x H1 => (∃ p xs ob, x = .ref p ∧ H1 p = some (dicO X.w p xs ob)) ∧ r x [] H1 Q) := by
  refine ⟨fun pins s σ H Q I h => ?_⟩
  refine wpAny_Call_method0_late hbase hline (thn (ho.run pins s σ H _ I h) fun v s1 ⟨x, H1, I1, r1, ⟨p, xs, ob, ex, hx⟩, q1⟩ => ?_)
  subst ex
  cases r1
  obtain ⟨h1, h2⟩ := dic_type I1 hx
  exact ⟨"dict", id, PySem.F.plainAttrs_dict, slot, hty, h1, h2, Calls.callWith_builtin rfl (PySem.evalArgs_none (hm pins s1 σ H1 (.ref p) [] _ [] Q I1 rfl .nil q1))⟩
end
end Dl
/-! dicts with tuples as keys, as data. -/
namespace Dl
open PySem PySem.Spec PySem.W PyProof.Rows L2
/-- the key that a tuple is -/
def D.ky : D → Option NestedKey
  | .tup ds => (D.tup ds).key.bind fun k => if k.depth ≤ 8 then some k else none
  | _ => none
theorem D.ky_of {d : D} {k : NestedKey} (h : d.ky = some k) : ∃ ds, d = .tup ds ∧ (D.tup ds).key = some k ∧ k.depth ≤ 8 := by
  unfold D.ky at h
  split at h
  · rename_i ds
    obtain ⟨k2, e1, e2⟩ := Option.bind_eq_some_iff.mp h
    by_cases c : k2.depth ≤ 8
    · rw [if_pos c] at e2
      cases e2
      exact ⟨ds, rfl, e1, c⟩
    · rw [if_neg c] at e2; cases e2
  · cases h
def getK : List (D × D) → NestedKey → Option D
  | [], _ => none
  | e :: es, k => if e.1.key = some k then some e.2 else getK es k
def putK (k : NestedKey) (vd : D) (e : D × D) : D × D := if e.1.key = some k then (e.1, vd) else e
def setKD (es : List (D × D)) (kd vd : D) (k : NestedKey) : List (D × D) := if (getK es k).isSome then es.map (putK k vd) else es ++ [(kd, vd)]
def allK (es : List (D × D)) : Bool := es.all fun e => e.1.ky.isSome
section
variable {w : World} {K : PySem.W.Frag} {mg : Str → Option Value} {F H : Hp}
theorem re_lk {xs : List En} {es : List (D × D)} (h : RepE w K mg F xs es) (k : NestedKey) : (lkE xs k = none ∧ getK es k = none) ∨ ∃ v d, lkE xs k = some v ∧ getK es k = some d ∧ Rep w K mg F v d := by
  induction es generalizing xs with
  | nil => cases h; exact .inl ⟨rfl, rfl⟩
  | cons e es ih =>
    cases h with
    | @cons k' kv vv kd vd xs _ e1 r1 r2 rs =>
      rw [lkE_cons]
      unfold getK
      rw [e1]
      by_cases c : k' = k
      · rw [if_pos c, if_pos (by rw [c])]
        exact .inr ⟨_, _, rfl, rfl, r2⟩
      · rw [if_neg c, if_neg (fun z => c (Option.some.inj z))]
        exact ih rs
theorem re_some {xs : List En} {es : List (D × D)} (h : RepE w K mg F xs es) (k : NestedKey) : (lkE xs k).isSome = (getK es k).isSome := by
  rcases re_lk h k with ⟨a, b⟩ | ⟨v, q, a, b, _⟩ <;> rw [a, b] <;> rfl
theorem re_map {xs : List En} {es : List (D × D)} (h : RepE w K mg F xs es) (k : NestedKey) {v : V} {d : D} (r : Rep w K mg F v d) : RepE w K mg F (xs.map (putE k v)) (es.map (putK k d)) := by
  induction es generalizing xs with
  | nil => cases h; exact .nil
  | cons e es ih =>
    cases h with
    | @cons k' kv vv kd vd xs _ e1 r1 r2 rs =>
      rw [List.map_cons, List.map_cons]
      unfold putE putK
      dsimp only
      rw [e1]
      by_cases c : k' = k
      · rw [if_pos c, if_pos (by rw [c])]
        exact .cons e1 r1 r (ih rs)
      · rw [if_neg c, if_neg (fun z => c (Option.some.inj z))]
        exact .cons e1 r1 r2 (ih rs)
theorem re_snoc {xs : List En} {es : List (D × D)} (h : RepE w K mg F xs es) {k : NestedKey} {kv v : V} {kd d : D} (e : kd.key = some k) (r1 : Rep w K mg F kv kd) (r : Rep w K mg F v d) : RepE w K mg F (xs ++ [(k, kv, v)]) (es ++ [(kd, d)]) := by
  induction es generalizing xs with
  | nil => cases h; exact .cons e r1 r .nil
  | cons e' es ih =>
    cases h with
    | cons e1 q1 q2 rs => exact .cons e1 q1 q2 (ih rs)
theorem re_st {xs : List En} {es : List (D × D)} (h : RepE w K mg F xs es) {k : NestedKey} {kv v : V} {kd d : D} (e : kd.key = some k) (r1 : Rep w K mg F kv kd) (r : Rep w K mg F v d) : RepE w K mg F (stE xs k kv v) (setKD es kd d k) := by
  unfold stE setKD
  rw [re_some h k]
  by_cases c : (getK es k).isSome = true
  · rw [if_pos c, if_pos c]; exact re_map h k r
  · rw [if_neg c, if_neg c]; exact re_snoc h e r1 r
theorem re_len {xs : List En} {es : List (D × D)} (h : RepE w K mg F xs es) : xs.length = es.length := by
  induction es generalizing xs with
  | nil => cases h; rfl
  | cons e' es ih =>
    cases h with
    | cons e1 q1 q2 rs => rw [List.length_cons, List.length_cons, ih rs]
theorem keyV_of {v : V} {d : D} {k : NestedKey} (r : Rep w K mg F v d) (h : d.ky = some k) (s : Same F H) : KeyV w K mg H v k := by
  obtain ⟨ds, rfl, e1, e2⟩ := D.ky_of h
  exact ⟨ds, r.mono s, e1, e2⟩
theorem re_keys {xs : List En} {es : List (D × D)} (h : RepE w K mg F xs es) (a : allK es = true) (s : Same F H) : ∀ e ∈ xs, KeyV w K mg H e.2.1 e.1 := by
  induction es generalizing xs with
  | nil => cases h; intro e z; cases z
  | cons e' es ih =>
    cases h with
    | @cons k' kv vv kd vd xs _ e1 q1 q2 rs =>
      unfold allK at a
      rw [List.all_cons, Bool.and_eq_true] at a
      intro e he
      rcases List.mem_cons.mp he with rfl | he
      · obtain ⟨k2, ek⟩ := Option.isSome_iff_exists.mp a.1
        obtain ⟨ds, rfl, e3, e4⟩ := D.ky_of ek
        dsimp only at e3 ek
        have : k' = k2 := Option.some.inj (e1.symm.trans e3)
        subst this
        exact ⟨ds, q1.mono s, e1, e4⟩
      · exact ih rs a.2 e he
theorem RX.dic {H' : Hp} {v : V} {t : Tg} {es : List (D × D)} (x : RX w K mg F H H' v (.dic t es)) (s : Same F H') : ∃ a xs ob, v = .ref a ∧ H' a = some (dicO w a xs ob) ∧ RepE w K mg F xs es := by
  unfold RX at x
  cases t with
  | fz =>
    cases (show Rep w K mg F v (.dic .fz es) from x) with
    | dic h r => exact ⟨_, _, _, rfl, s _ _ h, r⟩
  | ow =>
    obtain ⟨a, o, rfl, _, _, e, xs, ob, rfl, r⟩ := x
    exact ⟨a, xs, ob, rfl, e, r⟩
  | vw =>
    obtain ⟨a, o, rfl, _, e, xs, ob, rfl, r⟩ := x
    exact ⟨a, xs, ob, rfl, e, r⟩
end
/-! ### in, d[k], d.get(k) -/
def opInK (neg : Bool) (a b : D) : Res D := match b with
  | .dic _ es => (match a.ky with
    | some k => if allK es = true then .ok (.bl (if neg then !(getK es k).isSome else (getK es k).isSome)) else .stuck
    | none => .stuck)
  | b => opInW neg a b
section
variable {X : Cx} {W : WX} {a b : Expr} {fa fb : DE} {pos : Pos} {k : Nat}
theorem ok_inK (neg : Bool) : OpOk X W (opInK neg) (fun x y H Q => rInK X.w X.K X.mg neg x y H Q ∨ rInW X.K neg x y H Q) := by
  intro H0 F0 ρ σ F H F2 H2 v u a b Q r r2 g x y p
  cases b with
  | dic t es =>
    unfold opInK at p
    dsimp only at p
    cases e : a.ky with
    | none => rw [e] at p; exact p.elim
    | some k =>
      rw [e] at p
      obtain ⟨h, p⟩ := Post.guard p
      obtain ⟨ds, rfl, _, _⟩ := D.ky_of e
      obtain ⟨q, xs, ob, rfl, h1, h2⟩ := y.dic r2.fh
      refine .inl ⟨q, xs, ob, k, rfl, h1, keyV_of (x.rep rfl) e r2.fh, re_keys h2 h r2.fh, ?_⟩
      rw [re_some h2 k]
      exact p.here r2 g (RX.fz (.bl _))
  | _ => exact .inr (ok_in neg r r2 g x y p)
theorem in1_room (hr : Room k X.A) : X.A.in1.units + 8 < cLine := by
  have := hr.un
  have e : X.A.in1.units ≤ X.A.units + 8 := by
    show X.A.units + 1 ≤ _
    omega
  omega
theorem op_inX (hr : Room k X.A) : OpR X (compareOp .In) (fun x y H Q => rInK X.w X.K X.mg false x y H Q ∨ rInW X.K false x y H Q) := by
  intro pins s σ H x y v u Q I rx ry h
  rcases h with h | h
  · exact op_inK (in1_room hr) pins s σ H x y v u Q I rx ry h
  · exact op_inW (units65 hr) pins s σ H x y v u Q I rx ry h
theorem op_ninX (hr : Room k X.A) : OpR X (compareOp .NotIn) (fun x y H Q => rInK X.w X.K X.mg true x y H Q ∨ rInW X.K true x y H Q) := by
  intro pins s σ H x y v u Q I rx ry h
  rcases h with h | h
  · exact op_ninK (in1_room hr) pins s σ H x y v u Q I rx ry h
  · exact op_ninW (units65 hr) pins s σ H x y v u Q I rx ry h
theorem pd_inK (hr : Room k X.A) (ha : PD X W a fa) (hb : PD X W b fb) (hm : behindInMarks .In b = false := by with_unfolding_all rfl) : PD X W (.Compare a [.In] [b] pos) (fB (opInK false) fa fb) := (pe_cmpR (op_inX hr) ha hb hm).imp fun _ _ _ => bin_imp (ok_inK false)
theorem pd_ninK (hr : Room k X.A) (ha : PD X W a fa) (hb : PD X W b fb) (hm : behindInMarks .NotIn b = false := by with_unfolding_all rfl) : PD X W (.Compare a [.NotIn] [b] pos) (fB (opInK true) fa fb) := (pe_cmpR (op_ninX hr) ha hb hm).imp fun _ _ _ => bin_imp (ok_inK true)
theorem ptd_inK (hr : Room k X.A) (ha : PD X W a fa) (hb : PD X W b fb) (hm : behindInMarks .In b = false := by with_unfolding_all rfl) : PTD X W (.Compare a [.In] [b] pos) (tOf (fB (opInK false) fa fb)) := ptd_cmp (op_inX hr) (ok_inK false) ha hb hm
theorem ptd_ninK (hr : Room k X.A) (ha : PD X W a fa) (hb : PD X W b fb) (hm : behindInMarks .NotIn b = false := by with_unfolding_all rfl) : PTD X W (.Compare a [.NotIn] [b] pos) (tOf (fB (opInK true) fa fb)) := ptd_cmp (op_ninX hr) (ok_inK true) ha hb hm
def opIdxK (a b : D) : Res D := match a with
  | .dic _ es => (match b.ky with
    | some k => if allK es = true then (match getK es k with
      | some d => .ok d
      | none => .stuck) else .stuck
    | none => .stuck)
  | a => opIdx a b
theorem ok_idxK : OpOk X W opIdxK (fun x y H Q => rIxK X.w X.K X.mg x y H Q ∨ rIx X.K x y H Q) := by
  intro H0 F0 ρ σ F H F2 H2 v u a b Q r r2 g x y p
  cases a with
  | dic t es =>
    unfold opIdxK at p
    dsimp only at p
    cases e : b.ky with
    | none => rw [e] at p; exact p.elim
    | some k =>
      rw [e] at p
      obtain ⟨h, p⟩ := Post.guard p
      obtain ⟨ds, rfl, _, _⟩ := D.ky_of e
      obtain ⟨q, xs, ob, rfl, h1, h2⟩ := x.dic r2.fh
      rcases re_lk h2 k with ⟨l1, l2⟩ | ⟨z, d, l1, l2, rz⟩
      · rw [l2] at p; exact p.elim
      · rw [l2] at p
        exact .inl ⟨q, xs, ob, k, z, rfl, h1, keyV_of (y.rep rfl) e r2.fh, re_keys h2 h r2.fh, l1, p.here r2 g (RX.fz rz)⟩
  | _ => exact .inr (ok_idx r r2 g x y p)
theorem pd_ixK (hr : Room k X.A) (ha : PD X W a fa) (hb : PD X W b fb) (hs : PlainIx b := by exact fun _ _ => rfl) : PD X W (.Subscript a b pos) (fB opIdxK fa fb) := (pe_ix ((ix_dicK (in1_room hr)).or ix_seq) ha hb hs).imp fun _ _ _ => bin_imp ok_idxK
def opGetK (a b : D) : Res D := match a with
  | .dic _ es => (match b.ky with
    | some k => if allK es = true then .ok ((getK es k).getD .non) else .stuck
    | none => .stuck)
  | _ => .stuck
def fGetK (fa fb : DE) : DE := fun ρ => (fa ρ).bind fun d => match d with
  | .dic _ _ => (fb ρ).bind fun b => opGetK d b
  | _ => .stuck
theorem pd_getK {apos cpos : Pos} (hr : Room k X.A) (ha : PD X W a fa) (hb : PD X W b fb)
    (hbase : attributeBase a "get" X.env (eval a X.env) = eval a X.env := by rfl)
    (hfew : ((backTo cpos (starEach [b] X.env)).all (fun x => !x.1) && (backToKw cpos (keywordEach [] X.env)).all (fun x => x.1.isSome) && decide ([b].length + ([] : List Keyword).length + (if ([] : List Keyword).isEmpty then 0 else 1) < 30)) = true := by rfl)
    (hline : (apos.endLine == cpos.line) = true := by rfl) (hs : starEach [b] X.env = (false, eval b X.env) :: starEach [] X.env := by rfl) (hplain : (backTo cpos (starEach [] X.env)).any (·.1) = false := by rfl) :
    PD X W (.Call (.Attribute a "get" apos) [b] [] cpos) (fGetK fa fb) :=
  (pe_bmX PySem.F.slot_dict_get PySem.F.type_dict_get (mt_getK (in1_room hr)) ha (pa_cons hb pa_nil hs) hbase hfew hline hs hplain).imp fun σ H Q h => by
    obtain ⟨H0, F0, ρ, F, r0, p⟩ := h
    refine ⟨H0, F0, ρ, F, r0, p.bind (Gr.refl _ _) fun F1 H1 v d _ r1 g1 x1 p1 => ?_⟩
    cases d with
    | dic t es =>
      obtain ⟨q, xs, ob, rfl, h1, h2⟩ := x1.dic r1.fh
      refine ⟨⟨q, xs, ob, rfl, h1⟩, H0, F0, ρ, F1, r1, p1.bind g1 fun F2 H2 u b _ r2 g2 x2 p2 => ?_⟩
      unfold opGetK at p2
      dsimp only at p2
      cases e : b.ky with
      | none => rw [e] at p2; exact p2.elim
      | some k =>
        rw [e] at p2
        obtain ⟨h, p2⟩ := Post.guard p2
        obtain ⟨ds, rfl, _, _⟩ := D.ky_of e
        refine ⟨q, xs, ob, k, u, rfl, rfl, g2.hh _ _ h1, keyV_of (x2.rep rfl) e r2.fh, re_keys (h2.mono g2.ff) h r2.fh, ?_⟩
        rcases re_lk (h2.mono g2.ff) k with ⟨l1, l2⟩ | ⟨z, d, l1, l2, rz⟩
        · rw [l2] at p2
          rw [l1]
          exact p2.here r2 (g1.trans g2) (RX.fz .non)
        · rw [l2] at p2
          rw [l1]
          exact p2.here r2 (g1.trans g2) (RX.fz rz)
    | _ => exact p1.elim
/-! ### {} and d[k] = v -/
def fDic0 : DE := fun _ => .ok (.dic .ow [])
theorem pd_dic0 : PD X W (.Dict [] [] pos) fDic0 := pe_dnewX.imp fun σ H Q ⟨H0, F0, ρ, F, r, p⟩ q ob hq => by
  have fq : F q = none := same_none r.fh hq
  refine p F (upd H q (dicO X.w q [] ob)) (.ref q) (r.alloc hq) (Gr.alloc hq) ?_
  exact ⟨q, dicO X.w q [] ob, rfl, hq, fq, upd_same, [], ob, rfl, .nil⟩
def withD (ρ : DEnv) (i : Nat) (k : List (D × D) → SR) : SR := match ρ[i]? with
  | some (some (.dic .ow es)) => k es
  | _ => .stuck
theorem withD_of {H0 F0 : Hp} {ρ : DEnv} {σ : L2.St} {F H : Hp} {E : Ends} {i : Nat} {k : List (D × D) → SR} (r : R X H0 F0 ρ σ F H) (p : SPost X W H0 F0 E (withD ρ i k)) :
    ∃ es a xs ob, ρ[i]? = some (some (.dic .ow es)) ∧ σ[i]? = some (some (.ref a)) ∧ H a = some (dicO X.w a xs ob) ∧ RepE X.w X.K X.mg F xs es ∧ SPost X W H0 F0 E (k es) := by
  unfold withD at p
  split at p
  · rename_i es e
    obtain ⟨a, o, e1, _, _, e4, xs, ob, rfl, e6⟩ := r.own e rfl
    exact ⟨es, a, xs, ob, e, e1, e4, e6, p⟩
  · exact p.elim
def sSetK (i : Nat) (fi fe : DE) : DS := fun ρ => (fe ρ).toS ρ fun d => withD ρ i fun es => (fi ρ).toS ρ fun kd => match kd.ky with
  | some k => if d.tg ≠ .vw ∧ allK es = true ∧ es.length < seqMax then .next (ρ.set i (some (.dic .ow (setKD es kd (d.re .fz) k)))) else .stuck
  | none => .stuck
theorem psd_setK {r : Nat} (hr : Room r X.A) (i : Nat) {ix e : Expr} {fi fe : DE} {x : Str} {p1 p2 : Pos} (he : PD X W e fe) (hi : PD X W ix fi) (hN : X.N[i]? = some x := by rfl) (hv : Vis X.env.scope x := by first | exact Or.inl rfl | exact Or.inr (Or.inl rfl) | exact Or.inr (Or.inr rfl)) (hd : (x == ("__debug__" : Str)) = false := by decide) (hcd : (x == ("__classdict__" : Str)) = false := by decide)
    (ha : ∀ v, assign (.Subscript (.Name x p1) ix p2) X.env v = (do
      let ov ← holding [v] (eval (.Name x p1) X.env)
      let iv ← holding [v, ov] (eval ix X.env)
      standAt p2
      holding [v, ov, iv] (setItem ov iv v)
      release [v, ov, iv] []) := by intro _; rfl)
    (hs : swapsWithSole [.Subscript (.Name x p1) ix p2] e pos.line X.env = pure false := by rfl) (hw : swappedStores [.Subscript (.Name x p1) ix p2] e X.env = pure none := by rfl)
    (h1 : (assignEach [.Subscript (.Name x p1) ix p2] X.env).map (·.2) = [assign (.Subscript (.Name x p1) ix p2) X.env] := by rfl) : PSD X W (.Assign [.Subscript (.Name x p1) ix p2] e pos) (sSetK i fi fe) :=
  (ps_asg he (pg_sub (pv i hN hv hd hcd) hi (set_dicK (in1_room hr)) ha) hs hw h1).imp fun D σ H ⟨H0, F0, ρ, F, r, p⟩ =>
    ⟨H0, F0, ρ, F, r, p.expr r fun F1 H1 v d _ r1 g1 x1 p1 => by
      obtain ⟨es, a, xs, ob, q1, q2, q3, q4, p1⟩ := withD_of r1 p1
      refine ⟨.ref a, q2, H0, F0, ρ, F1, r1, p1.expr r1 fun F2 H2 u kd _ r2 g2 x2 p2 => ?_⟩
      cases c : kd.ky with
      | none => rw [c] at p2; exact p2.elim
      | some k =>
        rw [c] at p2
        obtain ⟨⟨c1, c2, c3⟩, p2⟩ := guardS p2
        obtain ⟨ds, rfl, ek, _⟩ := Dl.D.ky_of c
        obtain ⟨F3, r3, g3, s3, y⟩ := RX.freeze r r2 (g1.trans g2) (x1.mono g2) c1
        have l1 := g2.hh _ _ q3
        have l2 := (q4.mono g2.ff).mono s3
        have kr := (x2.rep rfl).mono s3
        refine ⟨a, xs, ob, k, rfl, l1, keyV_of kr c r3.fh, re_keys l2 c2 r3.fh, by rw [re_len q4, ← seqMax_eq]; exact c3, fun ob' => p2 _ F3 _ (r3.change q1 rfl q2 rfl ⟨_, ob', rfl, re_st l2 ek kr y⟩)⟩⟩
end
end Dl
/-! order of data: <, max, min. -/
namespace PySem.W
open PySem PySem.Spec PySem.Calls PyProof.Rows
section
variable {prog : Program} {w : World} {A : Around} {E : Value → Shared → Prop} {s : Shared}
theorem call_min_twoH {a b : Value} {Q : Value → Shared → Prop}
    (h : wpAny (model prog w) A.in1 (pyIter (.ref s.heap.objs.size)) (fun it s₂ => ∃ I fp wr G n P St H bt, it = .ref I ∧ WalksS prog w A.in1 I fp wr G n P St ∧ St 0 s₂ ∧ (∀ b ∈ fp, b < s₂.heap.objs.size) ∧ 0 < n ∧
      (∀ b o, H.get? b = some o → b ∉ wr) ∧ (∀ b o, H.get? b = some o → s₂.heap.get? b = some o) ∧ CmpIn prog w A.in1 .Lt H P bt ∧ ∀ v s', P (argBest bt (n - 1)) v → Moved wr G s₂ s' → Q v s') E
      { s with heap := s.heap.push { cls := .type "tuple", data := .seq #[a, b] } }) :
    wpAny (model prog w) A (call (.builtin "min") [a, b]) Q E s := by
  have hname : (toString "min" ++ toString ".loop" : String) = "min.loop" := by decide
  refine call_function_tree F.kind_min F.plain_min F.entry_min (F.args_min2 _ _) ?_
  show wpAny _ A.in1 (Builtin.Builtins.bindParams "min" ["key", "default"] 0 ⟨[], []⟩ >>= _) _ _ s
  refine wpAny_bind (wpAny_of_eq (show Builtin.Builtins.bindParams "min" ["key", "default"] 0 ⟨[], []⟩ = pure [none, none] from rfl) ?_)
  show wpAny _ A.in1 (newTuple [a, b] >>= _) _ _ s
  refine wpAny_bind (wpAny_newObj_type ?_)
  refine wpAny_bind (wpAny_mono h (fun it s₂ h₂ => ?_) fun _ _ e => e)
  obtain ⟨I, fp, wr, G, n, P, St, H, bt, rfl, W, hst, hfp, hn, hw, hkeep, hcmp, hQ⟩ := h₂
  refine wpAny_bind (wpAny_newObj_type ?_)
  have hSf : s₂.heap.objs.size ∉ fp := fun hm => Nat.lt_irrefl _ (hfp _ hm)
  rw [hname]
  refine wpAny_pure ⟨plainId_quiet F.plain_min_loop _, codeAny_min_loop_firstH W H hw bt hcmp s₂.heap.objs.size hSf (fresh_in hkeep) _ hn (fun b o e => Heap.get?_push_of_some _ (hkeep b o e)) (W.frame 0 s₂ _ s₂.toks hst (Nat.le_refl _) fun b _ o e => Heap.get?_push_of_some _ e) (Heap.get?_push_size _ rfl) fun v s' hP hm => ?_⟩
  exact hQ v s' hP (Moved.drop_new (tk := s₂.toks) hm (Nat.le_refl _))
theorem min_two_data {a b : Value} {x y : PyData} {as bs : List Addr} {Q : Value → Shared → Prop} (hh : A.handled = none) (ra : Reads s.heap a x as) (rb : Reads s.heap b y bs) (ha : AlikeAll [x, y]) (hu : A.units + 1 + PyData.depthAll [x, y] < cLine)
    (h : ∀ h' tk, (∀ b o, s.heap.get? b = some o → h'.get? b = some o) → Q (if dataLt y x = true then b else a) { s with heap := h', toks := tk }) :
    wpAny (model prog w) A (call (.builtin "min") [a, b]) Q E s := by
  have hT : (s.heap.push { cls := .type "tuple", data := .seq #[a, b] }).IsTuple s.heap.objs.size #[a, b] := ⟨_, Heap.get?_push_size _ rfl, rfl, 0, rfl⟩
  have k0 : ∀ c o, s.heap.get? c = some o → (s.heap.push { cls := .type "tuple", data := .seq #[a, b] }).get? c = some o := fun c o e => Heap.get?_push_of_some _ e
  have hr : ReadsAll (s.heap.push { cls := .type "tuple", data := .seq #[a, b] }) (#[a, b] : Array Value).toList [x, y] (as ++ (bs ++ [])) := .cons (Reads.keeps k0 ra) (.cons (Reads.keeps k0 rb) .nil)
  refine call_min_twoH (iter_tupleW (A := A.in1) (s := { s with heap := s.heap.push { cls := .type "tuple", data := .seq #[a, b] } }) hh hT fun s₂ e W st hfp hw hk => ?_)
  refine ⟨_, _, _, _, _, _, _, s.heap.push { cls := .type "tuple", data := .seq #[a, b] }, _, rfl, W, st, hfp, by show 0 < 2; decide, hw, hk, cmpIn_lt (A := A.in1) (s := { s with heap := s.heap.push { cls := .type "tuple", data := .seq #[a, b] } }) hr ha (by show A.units + 1 + _ < _; exact hu), fun v s' hP m => ?_⟩
  obtain ⟨h', tk, rfl, hk'⟩ := moved_old e rfl m
  have := h h' tk fun c o e => hk' c o (k0 c o e)
  have hv : v = if dataLt y x = true then b else a := by
    have hP : #[a, b][argBest (fun i j => dataLt ([x, y].getD i .none) ([x, y].getD j .none)) 1]? = some v := hP
    cases hc : dataLt y x <;> simp [argBest, hc] at hP <;> simp [hP]
  rw [hv]
  exact this
theorem call_max_twoH {a b : Value} {Q : Value → Shared → Prop}
    (h : wpAny (model prog w) A.in1 (pyIter (.ref s.heap.objs.size)) (fun it s₂ => ∃ I fp wr G n P St H bt, it = .ref I ∧ WalksS prog w A.in1 I fp wr G n P St ∧ St 0 s₂ ∧ (∀ b ∈ fp, b < s₂.heap.objs.size) ∧ 0 < n ∧
      (∀ b o, H.get? b = some o → b ∉ wr) ∧ (∀ b o, H.get? b = some o → s₂.heap.get? b = some o) ∧ CmpIn prog w A.in1 .Gt H P bt ∧ ∀ v s', P (argBest bt (n - 1)) v → Moved wr G s₂ s' → Q v s') E
      { s with heap := s.heap.push { cls := .type "tuple", data := .seq #[a, b] } }) :
    wpAny (model prog w) A (call (.builtin "max") [a, b]) Q E s := by
  have hname : (toString "max" ++ toString ".loop" : String) = "max.loop" := by decide
  refine call_function_tree F.kind_max F.plain_max F.entry_max (F.args_max2 _ _) ?_
  show wpAny _ A.in1 (Builtin.Builtins.bindParams "max" ["key", "default"] 0 ⟨[], []⟩ >>= _) _ _ s
  refine wpAny_bind (wpAny_of_eq (show Builtin.Builtins.bindParams "max" ["key", "default"] 0 ⟨[], []⟩ = pure [none, none] from rfl) ?_)
  show wpAny _ A.in1 (newTuple [a, b] >>= _) _ _ s
  refine wpAny_bind (wpAny_newObj_type ?_)
  refine wpAny_bind (wpAny_mono h (fun it s₂ h₂ => ?_) fun _ _ e => e)
  obtain ⟨I, fp, wr, G, n, P, St, H, bt, rfl, W, hst, hfp, hn, hw, hkeep, hcmp, hQ⟩ := h₂
  refine wpAny_bind (wpAny_newObj_type ?_)
  have hSf : s₂.heap.objs.size ∉ fp := fun hm => Nat.lt_irrefl _ (hfp _ hm)
  rw [hname]
  refine wpAny_pure ⟨plainId_quiet F.plain_max_loop _, codeAny_max_loop_firstH W H hw bt hcmp s₂.heap.objs.size hSf (fresh_in hkeep) _ hn (fun b o e => Heap.get?_push_of_some _ (hkeep b o e)) (W.frame 0 s₂ _ s₂.toks hst (Nat.le_refl _) fun b _ o e => Heap.get?_push_of_some _ e) (Heap.get?_push_size _ rfl) fun v s' hP hm => ?_⟩
  exact hQ v s' hP (Moved.drop_new (tk := s₂.toks) hm (Nat.le_refl _))
theorem max_two_data {a b : Value} {x y : PyData} {as bs : List Addr} {Q : Value → Shared → Prop} (hh : A.handled = none) (ra : Reads s.heap a x as) (rb : Reads s.heap b y bs) (ha : AlikeAll [x, y]) (hu : A.units + 1 + PyData.depthAll [x, y] < cLine)
    (h : ∀ h' tk, (∀ b o, s.heap.get? b = some o → h'.get? b = some o) → Q (if dataLt x y = true then b else a) { s with heap := h', toks := tk }) :
    wpAny (model prog w) A (call (.builtin "max") [a, b]) Q E s := by
  have hT : (s.heap.push { cls := .type "tuple", data := .seq #[a, b] }).IsTuple s.heap.objs.size #[a, b] := ⟨_, Heap.get?_push_size _ rfl, rfl, 0, rfl⟩
  have k0 : ∀ c o, s.heap.get? c = some o → (s.heap.push { cls := .type "tuple", data := .seq #[a, b] }).get? c = some o := fun c o e => Heap.get?_push_of_some _ e
  have hr : ReadsAll (s.heap.push { cls := .type "tuple", data := .seq #[a, b] }) (#[a, b] : Array Value).toList [x, y] (as ++ (bs ++ [])) := .cons (Reads.keeps k0 ra) (.cons (Reads.keeps k0 rb) .nil)
  refine call_max_twoH (iter_tupleW (A := A.in1) (s := { s with heap := s.heap.push { cls := .type "tuple", data := .seq #[a, b] } }) hh hT fun s₂ e W st hfp hw hk => ?_)
  refine ⟨_, _, _, _, _, _, _, s.heap.push { cls := .type "tuple", data := .seq #[a, b] }, _, rfl, W, st, hfp, by show 0 < 2; decide, hw, hk, cmpIn_gt (A := A.in1) (s := { s with heap := s.heap.push { cls := .type "tuple", data := .seq #[a, b] } }) hr ha (by show A.units + 1 + _ < _; exact hu), fun v s' hP m => ?_⟩
  obtain ⟨h', tk, rfl, hk'⟩ := moved_old e rfl m
  have := h h' tk fun c o e => hk' c o (k0 c o e)
  have hv : v = if dataLt x y = true then b else a := by
    have hP : #[a, b][argBest (fun i j => dataLt ([x, y].getD j .none) ([x, y].getD i .none)) 1]? = some v := hP
    cases hc : dataLt x y <;> simp [argBest, hc] at hP <;> simp [hP]
  rw [hv]
  exact this
end
end PySem.W
namespace Dl
open PySem PySem.Spec PySem.W PyProof.Rows L2
section
variable {X : Cx} {W : WX} {a b e e2 : Expr} {fa fb : DE} {fs : DA} {pos p : Pos} {k : Nat}
/-! ### < > <= >= -/
def rCm (K : PySem.W.Frag) (f : PyData → PyData → Bool) : R2 := fun x y H Q => ∃ d e, Dp K H x d ∧ Dp K H y e ∧ SeqAt.shaped d = true ∧ SeqAt.shaped e = true ∧ alike d e = true ∧ d ≠ .none ∧ Q (.bl (f d e)) H
def cmpG (a b : D) : Bool := SeqAt.shaped a.py && (SeqAt.shaped b.py && (alike a.py b.py && !a.isN))
def dlt (a b : D) : Bool := dataLt a.py b.py
theorem py_non {a : D} (h : a.isN = false) : a.py ≠ .none := by
  cases a with
  | non => cases h
  | _ => intro z; cases z
theorem op_ltD (hu : X.A.units + 64 < cLine) : OpR X (compareOp .Lt) (rCm X.K fun d e => dataLt d e) := by
  intro pins s σ H x y v u Q I rx ry ⟨d, e, h1, h2, h3, h4, h5, h6, q⟩
  obtain ⟨as, r1⟩ := Dp.reads I d x v h1 rx
  obtain ⟨bs, r2⟩ := Dp.reads I e y u h2 ry
  exact lt_data r1 r2 h5 h6 (SeqAt.room_of_shaped h3 hu) ⟨.bl _, H, I, rfl, q⟩
theorem op_gtD (hu : X.A.units + 64 < cLine) : OpR X (compareOp .Gt) (rCm X.K fun d e => dataLt e d) := by
  intro pins s σ H x y v u Q I rx ry ⟨d, e, h1, h2, h3, h4, h5, h6, q⟩
  obtain ⟨as, r1⟩ := Dp.reads I d x v h1 rx
  obtain ⟨bs, r2⟩ := Dp.reads I e y u h2 ry
  exact gt_data r1 r2 h5 h6 (SeqAt.room_of_shaped h3 hu) ⟨.bl _, H, I, rfl, q⟩
theorem op_leD (hu : X.A.units + 64 < cLine) : OpR X (compareOp .LtE) (rCm X.K fun d e => !dataLt e d) := by
  intro pins s σ H x y v u Q I rx ry ⟨d, e, h1, h2, h3, h4, h5, h6, q⟩
  obtain ⟨as, r1⟩ := Dp.reads I d x v h1 rx
  obtain ⟨bs, r2⟩ := Dp.reads I e y u h2 ry
  exact le_data r1 r2 h5 h6 (SeqAt.room_of_shaped h3 hu) ⟨.bl _, H, I, rfl, q⟩
theorem op_geD (hu : X.A.units + 64 < cLine) : OpR X (compareOp .GtE) (rCm X.K fun d e => !dataLt d e) := by
  intro pins s σ H x y v u Q I rx ry ⟨d, e, h1, h2, h3, h4, h5, h6, q⟩
  obtain ⟨as, r1⟩ := Dp.reads I d x v h1 rx
  obtain ⟨bs, r2⟩ := Dp.reads I e y u h2 ry
  exact ge_data r1 r2 h5 h6 (SeqAt.room_of_shaped h3 hu) ⟨.bl _, H, I, rfl, q⟩
def opCm (f : PyData → PyData → Bool) (a b : D) : Res D := if cmpG a b = true then .ok (.bl (f a.py b.py)) else .stuck
def opLtG := opCm fun d e => dataLt d e
def opGtG := opCm fun d e => dataLt e d
def opLeG := opCm fun d e => !dataLt e d
def opGeG := opCm fun d e => !dataLt d e
theorem ok_cm (f : PyData → PyData → Bool) : OpOk X W (opCm f) (rCm X.K f) := by
  intro H0 F0 ρ σ F H F2 H2 v u a b Q r r2 g x y p
  obtain ⟨h, p⟩ := Post.guard p
  unfold cmpG at h
  simp only [Bool.and_eq_true] at h
  obtain ⟨h1, h2, h3, h4⟩ := h
  exact ⟨a.py, b.py, x.dp r2.fh (SeqAt.canLay_of_shaped h1), y.dp r2.fh (SeqAt.canLay_of_shaped h2), h1, h2, h3, py_non (by simpa using h4), p.here r2 g (RX.fz (.bl _))⟩
theorem room64 (hr : Room k X.A) : X.A.units + 64 < cLine := hr.units
theorem pd_ltG (hr : Room k X.A) (ha : PD X W a fa) (hb : PD X W b fb) : PD X W (.Compare a [.Lt] [b] pos) (fB opLtG fa fb) := (pe_cmpR (op_ltD (room64 hr)) ha hb (nomark _)).imp fun _ _ _ => bin_imp (ok_cm _)
theorem pd_gtG (hr : Room k X.A) (ha : PD X W a fa) (hb : PD X W b fb) : PD X W (.Compare a [.Gt] [b] pos) (fB opGtG fa fb) := (pe_cmpR (op_gtD (room64 hr)) ha hb (nomark _)).imp fun _ _ _ => bin_imp (ok_cm _)
theorem pd_leG (hr : Room k X.A) (ha : PD X W a fa) (hb : PD X W b fb) : PD X W (.Compare a [.LtE] [b] pos) (fB opLeG fa fb) := (pe_cmpR (op_leD (room64 hr)) ha hb (nomark _)).imp fun _ _ _ => bin_imp (ok_cm _)
theorem pd_geG (hr : Room k X.A) (ha : PD X W a fa) (hb : PD X W b fb) : PD X W (.Compare a [.GtE] [b] pos) (fB opGeG fa fb) := (pe_cmpR (op_geD (room64 hr)) ha hb (nomark _)).imp fun _ _ _ => bin_imp (ok_cm _)
theorem ptd_ltG (hr : Room k X.A) (ha : PD X W a fa) (hb : PD X W b fb) : PTD X W (.Compare a [.Lt] [b] pos) (tOf (fB opLtG fa fb)) := ptd_cmp (op_ltD (room64 hr)) (ok_cm _) ha hb (nomark _)
theorem ptd_gtG (hr : Room k X.A) (ha : PD X W a fa) (hb : PD X W b fb) : PTD X W (.Compare a [.Gt] [b] pos) (tOf (fB opGtG fa fb)) := ptd_cmp (op_gtD (room64 hr)) (ok_cm _) ha hb (nomark _)
theorem ptd_leG (hr : Room k X.A) (ha : PD X W a fa) (hb : PD X W b fb) : PTD X W (.Compare a [.LtE] [b] pos) (tOf (fB opLeG fa fb)) := ptd_cmp (op_leD (room64 hr)) (ok_cm _) ha hb (nomark _)
theorem ptd_geG (hr : Room k X.A) (ha : PD X W a fa) (hb : PD X W b fb) : PTD X W (.Compare a [.GtE] [b] pos) (tOf (fB opGeG fa fb)) := ptd_cmp (op_geD (room64 hr)) (ok_cm _) ha hb (nomark _)
/-! ### max and min of two -/
def rB2 (K : PySem.W.Frag) (f : PyData → PyData → Bool) : List V → Hp → VK → Prop := fun vs H Q => ∃ x y d e, vs = [x, y] ∧ Dp K H x d ∧ Dp K H y e ∧ SeqAt.shaped d = true ∧ SeqAt.shaped e = true ∧ AlikeAll [d, e] ∧ Q (if f d e = true then y else x) H
theorem depth2 {d e : PyData} (h3 : SeqAt.shaped d = true) (h4 : SeqAt.shaped e = true) : PyData.depthAll [d, e] ≤ 64 := by
  have a := SeqAt.depth_of_shaped h3
  have b := SeqAt.depth_of_shaped h4
  simp only [PyData.depthAll]
  omega
theorem cr_min2D (hc : X.calm = true) (hu : X.A.units + 65 < cLine) : CallR X (.builtin "min") (rB2 X.K fun d e => dataLt e d) := by
  intro pins s σ H vs us Q I r h
  obtain ⟨x, y, d, e, rfl, h1, h2, h3, h4, h5, q⟩ := h
  obtain ⟨u1, u2, rfl, q1, q2⟩ := vals2 r
  obtain ⟨as, r1⟩ := Dp.reads I d x u1 h1 q1
  obtain ⟨bs, r2⟩ := Dp.reads I e y u2 h2 q2
  refine min_two_data (I.ok.hd hc) r1 r2 h5 (by have := depth2 h3 h4; omega) fun h' tk kp => ⟨if dataLt e d = true then y else x, H, I.kept (t' := tk) kp, ?_, q⟩
  by_cases c : dataLt e d = true
  · rw [if_pos c, if_pos c]; exact q2
  · rw [if_neg c, if_neg c]; exact q1
theorem cr_max2D (hc : X.calm = true) (hu : X.A.units + 65 < cLine) : CallR X (.builtin "max") (rB2 X.K fun d e => dataLt d e) := by
  intro pins s σ H vs us Q I r h
  obtain ⟨x, y, d, e, rfl, h1, h2, h3, h4, h5, q⟩ := h
  obtain ⟨u1, u2, rfl, q1, q2⟩ := vals2 r
  obtain ⟨as, r1⟩ := Dp.reads I d x u1 h1 q1
  obtain ⟨bs, r2⟩ := Dp.reads I e y u2 h2 q2
  refine max_two_data (I.ok.hd hc) r1 r2 h5 (by have := depth2 h3 h4; omega) fun h' tk kp => ⟨if dataLt d e = true then y else x, H, I.kept (t' := tk) kp, ?_, q⟩
  by_cases c : dataLt d e = true
  · rw [if_pos c, if_pos c]; exact q2
  · rw [if_neg c, if_neg c]; exact q1
def likeG (ds : List D) : Bool := ds.all fun x => SeqAt.shaped x.py && (!x.isN && (x.pure && ds.all fun y => alike x.py y.py))
theorem pys_mem {ds : List D} {z : PyData} (h : z ∈ D.py.pys ds) : ∃ d ∈ ds, d.py = z := by
  rw [pys_map] at h
  exact List.mem_map.mp h
theorem likeG_all {ds : List D} (h : likeG ds = true) : AlikeAll (D.py.pys ds) := by
  unfold likeG at h
  rw [List.all_eq_true] at h
  refine ⟨fun x hx y hy => ?_, fun x hx => ?_⟩
  · obtain ⟨d, hd, rfl⟩ := pys_mem hx
    obtain ⟨e, he, rfl⟩ := pys_mem hy
    have := h d hd
    simp only [Bool.and_eq_true, List.all_eq_true] at this
    exact this.2.2.2 e he
  · obtain ⟨d, hd, rfl⟩ := pys_mem hx
    have := h d hd
    simp only [Bool.and_eq_true] at this
    exact py_non (by simpa using this.2.1)
def best2 (f : PyData → PyData → Bool) (a b : D) : Res D := if likeG [a, b] = true then .ok (if f a.py b.py = true then b else a) else .stuck
def max2G := best2 fun d e => dataLt d e
def min2G := best2 fun d e => dataLt e d
theorem pure_tg {d : D} (h : d.pure = true) : d.tg = .fz := by cases d <;> first | rfl | cases h
theorem ok_best2 (f : PyData → PyData → Bool) : OpOk X W (best2 f) (fun x y H Q => rB2 X.K f [x, y] H Q) := by
  intro H0 F0 ρ σ F H F2 H2 v u a b Q r r2 g x y p
  obtain ⟨h, p⟩ := Post.guard p
  have al := likeG_all h
  unfold likeG at h
  simp only [List.all_cons, Bool.and_eq_true] at h
  obtain ⟨⟨h1, _, h2, _⟩, ⟨h3, _, h4, _⟩, _⟩ := h
  refine ⟨v, u, a.py, b.py, rfl, x.dp r2.fh (SeqAt.canLay_of_shaped h1), y.dp r2.fh (SeqAt.canLay_of_shaped h3), h1, h3, al, ?_⟩
  by_cases c : f a.py b.py = true
  · rw [if_pos c] at p ⊢
    exact p.here r2 g (RX.fz (y.rep (pure_tg h4)))
  · rw [if_neg c] at p ⊢
    exact p.here r2 g (RX.fz (x.rep (pure_tg h2)))
theorem pd_max2G (hr : Room k X.A) (hc : X.calm = true) (hg : Gl X "max") (hm : X.mg "max" = none) (ha : PAD X W [e, e2] fs) (he : starEach [e, e2] X.env = (false, eval e X.env) :: starEach [e2] X.env := by rfl) (hpl : (backTo pos (starEach [e2] X.env)).any (·.1) = false := by rfl) :
    PD X W (.Call (.Name "max" p) [e, e2] [] pos) (fCall (op2 max2G) fs) := pd_callB (cr_max2D hc (units65 hr)) (ok_op2 (ok_best2 _) fun v u H Q h => h) hg hm (by decide +kernel) ha (by decide) (by decide) he hpl
theorem pd_min2G (hr : Room k X.A) (hc : X.calm = true) (hg : Gl X "min") (hm : X.mg "min" = none) (ha : PAD X W [e, e2] fs) (he : starEach [e, e2] X.env = (false, eval e X.env) :: starEach [e2] X.env := by rfl) (hpl : (backTo pos (starEach [e2] X.env)).any (·.1) = false := by rfl) :
    PD X W (.Call (.Name "min" p) [e, e2] [] pos) (fCall (op2 min2G) fs) := pd_callB (cr_min2D hc (units65 hr)) (ok_op2 (ok_best2 _) fun v u H Q h => h) hg hm (by decide +kernel) ha (by decide) (by decide) he hpl
end
end Dl
/-! max and min of a list of data; index of data. -/
namespace Dl
open PySem PySem.Spec PySem.W PyProof.Rows L2
theorem foldBest_mem {α : Type} (f : α → α → Bool) : ∀ (xs : List α) (x : α), xs.foldl (fun a y => if f a y = true then y else a) x ∈ x :: xs
  | [], x => List.mem_cons_self ..
  | y :: ys, x => by
    rw [List.foldl_cons]
    have := foldBest_mem f ys (if f x y = true then y else x)
    rcases List.mem_cons.mp this with h | h
    · rw [h]
      by_cases c : f x y = true
      · rw [if_pos c]; exact List.mem_cons_of_mem _ (List.mem_cons_self ..)
      · rw [if_neg c]; exact List.mem_cons_self ..
    · exact List.mem_cons_of_mem _ (List.mem_cons_of_mem _ h)
theorem maxD_mem (x : PyData) (xs : List PyData) : maxD x xs ∈ x :: xs := foldBest_mem (fun a y => dataLt a y) xs x
theorem minD_mem (x : PyData) (xs : List PyData) : minD x xs ∈ x :: xs := foldBest_mem (fun a y => dataLt y a) xs x
section
variable {X : Cx} {W : WX} {a b e e2 o : Expr} {fa fb fo fe : DE} {fs : DA} {pos p apos cpos : Pos} {k : Nat}
def rBL (K : PySem.W.Frag) (m : PyData → List PyData → PyData) : List V → Hp → VK → Prop := fun vs H Q => ∃ a xs d ds, vs = [V.ref a] ∧ (SqL K H a xs ∨ Rd H a (.tup xs)) ∧ DpAll K H xs (d :: ds) ∧ AlikeAll (d :: ds) ∧ PyData.depthAll (d :: ds) ≤ 64 ∧
  ∀ (i : Nat) v, xs[i]? = some v → (d :: ds)[i]? = some (m d ds) → Q v H
theorem best_fin {pins : List (Addr × Obj)} {σ : L2.St} {H : Hp} {s : Shared} {Q : VK} {xs : List V} {its : List Value} {d z : PyData} {ds : List PyData} {as : List Addr} (I : Inv X pins σ H s) (rv : Vals xs its) (hr : ReadsAll s.heap its (d :: ds) as) (al : AlikeAll (d :: ds)) (hz : z ∈ d :: ds)
    (q : ∀ (i : Nat) v, xs[i]? = some v → (d :: ds)[i]? = some z → Q v H) (i : Nat) (v : Value) (h' : Heap) (tk : Nat) (bs : List Addr) (hv : its[i]? = some v) (r : Reads h' v z bs) (kp : ∀ b o, s.heap.get? b = some o → h'.get? b = some o) : EP X pins σ Q v { s with heap := h', toks := tk } := by
  obtain ⟨bs2, r2, il, im, _⟩ := readsAll_at hr i v hv
  have e := alike_unique _ _ v _ _ (al.1 _ im _ hz) (reads_keeps kp r2) r
  have xl : i < xs.length := by
    have := (List.getElem?_eq_some_iff.mp hv).1
    rw [rv.length]; exact this
  obtain ⟨w, ew, rw'⟩ := rv.get (List.getElem?_eq_getElem xl)
  rw [ew] at hv
  cases hv
  refine ⟨xs[i], H, I.kept (t' := tk) kp, rw', q i _ (List.getElem?_eq_getElem xl) ?_⟩
  rw [← e, List.getD_eq_getElem?_getD, List.getElem?_eq_getElem il]
  rfl
theorem cr_maxLD (hc : X.calm = true) (hu : X.A.units + 65 < cLine) : CallR X (.builtin "max") (rBL X.K maxD) := by
  intro pins s σ H vs us Q I r h
  obtain ⟨a, xs, d, ds, rfl, hs, hd, al, dp, q⟩ := h
  rcases hs with hs | hs
  · obtain ⟨its, rv, hl, _⟩ := I.list hs
    rw [Vals.ref1 r]
    obtain ⟨as, hr⟩ := Dp.readsAll I _ _ _ hd rv
    exact max_list_data (I.ok.hd hc) hl.isList (by simpa using hr) al (by omega) fun i v h' tk bs hv r kp => best_fin I rv hr al (maxD_mem d ds) q i v h' tk bs (by simpa using hv) r kp
  · obtain ⟨its, rv, hl, _⟩ := I.tuple (.inl hs)
    rw [Vals.ref1 r]
    obtain ⟨as, hr⟩ := Dp.readsAll I _ _ _ hd rv
    exact max_tuple_data (I.ok.hd hc) hl (by simpa using hr) al (by omega) fun i v h' tk bs hv r kp => best_fin I rv hr al (maxD_mem d ds) q i v h' tk bs (by simpa using hv) r kp
theorem cr_minLD (hc : X.calm = true) (hu : X.A.units + 65 < cLine) : CallR X (.builtin "min") (rBL X.K minD) := by
  intro pins s σ H vs us Q I r h
  obtain ⟨a, xs, d, ds, rfl, hs, hd, al, dp, q⟩ := h
  rcases hs with hs | hs
  · obtain ⟨its, rv, hl, _⟩ := I.list hs
    rw [Vals.ref1 r]
    obtain ⟨as, hr⟩ := Dp.readsAll I _ _ _ hd rv
    exact min_list_data (I.ok.hd hc) hl.isList (by simpa using hr) al (by omega) fun i v h' tk bs hv r kp => best_fin I rv hr al (minD_mem d ds) q i v h' tk bs (by simpa using hv) r kp
  · obtain ⟨its, rv, hl, _⟩ := I.tuple (.inl hs)
    rw [Vals.ref1 r]
    obtain ⟨as, hr⟩ := Dp.readsAll I _ _ _ hd rv
    exact min_tuple_data (I.ok.hd hc) hl (by simpa using hr) al (by omega) fun i v h' tk bs hv r kp => best_fin I rv hr al (minD_mem d ds) q i v h' tk bs (by simpa using hv) r kp
mutual
theorem py_inj : ∀ {a b : D}, a.pure = true → b.pure = true → a.py = b.py → a = b
  | .non, b, _, hb, e => by cases b <;> first | rfl | (cases hb; done) | (cases e; done)
  | .bl x, b, _, hb, e => by cases b <;> first | (cases e; rfl) | (cases hb; done) | (cases e; done)
  | .int x, b, _, hb, e => by cases b <;> first | (cases e; rfl) | (cases hb; done) | (cases e; done)
  | .str x, b, _, hb, e => by cases b <;> first | (cases e; rfl) | (cases hb; done) | (cases e; done)
  | .tup as, b, ha, hb, e => by
    cases b with
    | tup bs => rw [pys_inj ha hb (PyData.tuple.inj e)]
    | non => cases e
    | bl _ => cases e
    | int _ => cases e
    | str _ => cases e
    | lst _ _ => cases hb
    | dic _ _ => cases hb
    | obj _ _ _ _ => cases hb
  | .lst _ _, _, ha, _, _ => by cases ha
  | .dic _ _, _, ha, _, _ => by cases ha
  | .obj _ _ _ _, _, ha, _, _ => by cases ha
theorem pys_inj : ∀ {as bs : List D}, D.pure.pures as = true → D.pure.pures bs = true → D.py.pys as = D.py.pys bs → as = bs
  | [], [], _, _, _ => rfl
  | [], _ :: _, _, _, e => by cases e
  | _ :: _, [], _, _, e => by cases e
  | a :: as, b :: bs, ha, hb, e => by
    have ha2 : (D.pure a && D.pure.pures as) = true := ha
    have hb2 : (D.pure b && D.pure.pures bs) = true := hb
    rw [Bool.and_eq_true] at ha2 hb2
    have e2 : D.py a :: D.py.pys as = D.py b :: D.py.pys bs := e
    rw [py_inj ha2.1 hb2.1 (List.cons.inj e2).1, pys_inj ha2.2 hb2.2 (List.cons.inj e2).2]
end
/-- the best by f, the first of several -/
def bestOf (f : PyData → PyData → Bool) (d : D) (ds : List D) : D := ds.foldl (fun a y => if f a.py y.py = true then y else a) d
theorem bestOf_py (f : PyData → PyData → Bool) : ∀ (ds : List D) (d : D), (bestOf f d ds).py = (D.py.pys ds).foldl (fun a y => if f a y = true then y else a) d.py
  | [], d => rfl
  | y :: ys, d => by
    show (bestOf f (if f d.py y.py = true then y else d) ys).py = (D.py.pys ys).foldl _ (if f d.py y.py = true then y.py else d.py)
    rw [bestOf_py f ys]
    by_cases c : f d.py y.py = true
    · rw [if_pos c, if_pos c]
    · rw [if_neg c, if_neg c]
def bestL (f : PyData → PyData → Bool) : D → Res D
  | .lst _ (d :: ds) => if likeG (d :: ds) = true then .ok (bestOf f d ds) else .stuck
  | .tup (d :: ds) => if likeG (d :: ds) = true then .ok (bestOf f d ds) else .stuck
  | _ => .stuck
def max1G := bestL fun d e => dataLt d e
def min1G := bestL fun d e => dataLt e d
theorem canLayAll_of {ds : List D} (h : ∀ d ∈ ds, SeqAt.shaped d.py = true) : PyData.canLayAll0 (D.py.pys ds) = true ∧ PyData.depthAll (D.py.pys ds) ≤ 64 := by
  induction ds with
  | nil => exact ⟨rfl, by show (0 : Nat) ≤ 64; omega⟩
  | cons d ds ih =>
    obtain ⟨h1, h2⟩ := ih fun e he => h e (List.mem_cons_of_mem _ he)
    have h3 := h d (List.mem_cons_self ..)
    have h4 := SeqAt.depth_of_shaped h3
    refine ⟨?_, ?_⟩
    · show (PyData.canLayAll0 (d.py :: D.py.pys ds)) = true
      simp only [PyData.canLayAll0, Bool.and_eq_true]
      exact ⟨SeqAt.canLay_of_shaped h3, h1⟩
    · show PyData.depthAll (d.py :: D.py.pys ds) ≤ 64
      simp only [PyData.depthAll]
      omega
theorem likeG_mem {ds : List D} (h : likeG ds = true) : ∀ d ∈ ds, SeqAt.shaped d.py = true ∧ d.pure = true := by
  unfold likeG at h
  rw [List.all_eq_true] at h
  intro d hd
  have := h d hd
  simp only [Bool.and_eq_true] at this
  exact ⟨this.1, this.2.2.1⟩
theorem ok_bestL (f : PyData → PyData → Bool) (m : PyData → List PyData → PyData) (hm : ∀ d ds, m d ds = ds.foldl (fun a y => if f a y = true then y else a) d) : UnOk X W (bestL f) (fun v H Q => rBL X.K m [v] H Q) := by
  intro H0 F0 ρ σ F H F2 H2 v d Q r r2 g x p
  cases d with
  | lst t ds =>
    cases ds with
    | nil => exact p.elim
    | cons d ds =>
      obtain ⟨h, p⟩ := Post.guard p
      obtain ⟨l, xs, rfl, hx, rx⟩ := x.lst r2.fh
      obtain ⟨c1, c2⟩ := canLayAll_of fun e he => (likeG_mem h e he).1
      refine ⟨l, xs, d.py, D.py.pys ds, rfl, (.inl hx.sq), Reps.dp r2.fh rx c1, likeG_all h, c2, fun i w hw hi => ?_⟩
      have hb : bestOf f d ds ∈ d :: ds := foldBest_mem (fun (a y : D) => f a.py y.py) ds d
      rw [hm, ← bestOf_py] at hi
      have hi2 : (D.py.pys (d :: ds))[i]? = some (bestOf f d ds).py := hi
      rw [pys_map, List.getElem?_map] at hi2
      obtain ⟨z, hz, ez⟩ := Option.map_eq_some_iff.mp hi2
      have hzm := List.mem_of_getElem? hz
      have e := py_inj (likeG_mem h _ hzm).2 (likeG_mem h _ hb).2 ez
      subst e
      obtain ⟨w2, e1, e2⟩ := rx.get hz
      rw [hw] at e1
      cases e1
      exact p.here r2 g (RX.fz e2)
  | tup ds =>
    cases ds with
    | nil => exact p.elim
    | cons d ds =>
      obtain ⟨h, p⟩ := Post.guard p
      obtain ⟨l, xs, rfl, hx, rx⟩ := x.tup r2.fh
      obtain ⟨c1, c2⟩ := canLayAll_of fun e he => (likeG_mem h e he).1
      refine ⟨l, xs, d.py, D.py.pys ds, rfl, (.inr hx), Reps.dp r2.fh rx c1, likeG_all h, c2, fun i w hw hi => ?_⟩
      have hb : bestOf f d ds ∈ d :: ds := foldBest_mem (fun (a y : D) => f a.py y.py) ds d
      rw [hm, ← bestOf_py] at hi
      have hi2 : (D.py.pys (d :: ds))[i]? = some (bestOf f d ds).py := hi
      rw [pys_map, List.getElem?_map] at hi2
      obtain ⟨z, hz, ez⟩ := Option.map_eq_some_iff.mp hi2
      have hzm := List.mem_of_getElem? hz
      have e := py_inj (likeG_mem h _ hzm).2 (likeG_mem h _ hb).2 ez
      subst e
      obtain ⟨w2, e1, e2⟩ := rx.get hz
      rw [hw] at e1
      cases e1
      exact p.here r2 g (RX.fz e2)
  | _ => exact p.elim
theorem pd_max1G (hr : Room k X.A) (hc : X.calm = true) (hg : Gl X "max") (hm : X.mg "max" = none) (ha : PAD X W [e] fs) (he : starEach [e] X.env = (false, eval e X.env) :: starEach [] X.env := by rfl) (hpl : (backTo pos (starEach [] X.env)).any (·.1) = false := by rfl) :
    PD X W (.Call (.Name "max" p) [e] [] pos) (fCall (op1 max1G) fs) := pd_callB (cr_maxLD hc (units65 hr)) (ok_op1 (ok_bestL _ _ fun _ _ => rfl) fun v H Q h => h) hg hm (by decide +kernel) ha (by decide) (by decide) he hpl
theorem pd_min1G (hr : Room k X.A) (hc : X.calm = true) (hg : Gl X "min") (hm : X.mg "min" = none) (ha : PAD X W [e] fs) (he : starEach [e] X.env = (false, eval e X.env) :: starEach [] X.env := by rfl) (hpl : (backTo pos (starEach [] X.env)).any (·.1) = false := by rfl) :
    PD X W (.Call (.Name "min" p) [e] [] pos) (fCall (op1 min1G) fs) := pd_callB (cr_minLD hc (units65 hr)) (ok_op1 (ok_bestL _ _ fun _ _ => rfl) fun v H Q h => h) hg hm (by decide +kernel) ha (by decide) (by decide) he hpl
/-! ### index -/
def idxG (b : D) : List D → Option Nat
  | [] => none
  | d :: ds => if deq d b = true then some 0 else (idxG b ds).map (· + 1)
theorem idxG_spec (b : D) : ∀ (ds : List D) (j : Nat), idxG b ds = some j → (∃ d, ds[j]? = some d ∧ deq d b = true) ∧ ∀ (m : Nat) z, m < j → ds[m]? = some z → deq z b = false
  | [], j, h => by cases h
  | d :: ds, j, h => by
    unfold idxG at h
    by_cases c : deq d b = true
    · rw [if_pos c] at h
      cases h
      exact ⟨⟨d, rfl, c⟩, fun m z hm => by omega⟩
    · rw [if_neg c] at h
      obtain ⟨j2, e, rfl⟩ := Option.map_eq_some_iff.mp h
      obtain ⟨h1, h2⟩ := idxG_spec b ds j2 e
      refine ⟨h1, fun m z hm hz => ?_⟩
      cases m with
      | zero => cases hz; simpa using c
      | succ m => exact h2 m z (by omega) hz
def ixG : D → D → Res D
  | .lst t ds, b => if SeqAt.shaped (D.lst t ds).py && SeqAt.shaped b.py then (match idxG b ds with
    | some j => .ok (.int (j : Nat))
    | none => .stuck) else .stuck
  | _, _ => .stuck
def fIxG (fo fe : DE) : DE := fun ρ => (fo ρ).bind fun d => if d.isL = true then (fe ρ).bind fun b => ixG d b else .stuck
theorem pd_indexG (hr : Room k X.A) (ho : PD X W o fo) (ha : PD X W e fe) (hbase : attributeBase o "index" X.env (eval o X.env) = eval o X.env := by rfl)
    (hfew : ((backTo cpos (starEach [e] X.env)).all (fun x => !x.1) && (backToKw cpos (keywordEach [] X.env)).all (fun x => x.1.isSome)
      && decide ([e].length + ([] : List Keyword).length + (if ([] : List Keyword).isEmpty then 0 else 1) < 30)) = true := by rfl)
    (hline : (apos.endLine == cpos.line) = true := by rfl) (hs : starEach [e] X.env = (false, eval e X.env) :: starEach [] X.env := by rfl) (hplain : (backTo cpos (starEach [] X.env)).any (·.1) = false := by rfl) :
    PD X W (.Call (.Attribute o "index" apos) [e] [] cpos) (fIxG fo fe) :=
  (pe_bm PySem.F.plainAttrs_list PySem.F.slot_list_index PySem.F.type_list_index (mt_indexD (units65 hr)) ho (pa_cons ha pa_nil hs) hbase hfew hline hs hplain).imp fun σ H Q ⟨H0, F0, ρ, F, r, p⟩ =>
    ⟨H0, F0, ρ, F, r, p.bind (Gr.refl _ _) fun F1 H1 v d _ r1 g1 x1 p1 => by
      cases d with
      | lst t ds =>
        obtain ⟨l, xs, rfl, hx, rx⟩ := x1.lst r1.fh
        obtain ⟨_, p1⟩ := Post.guard p1
        refine ⟨.inl ⟨rfl, xs, hx.sq⟩, H0, F0, ρ, F1, r1, p1.bind g1 fun F2 H2 u b _ r2 g2 x2 p2 => ?_⟩
        obtain ⟨c, p2⟩ := Post.guard p2
        rw [Bool.and_eq_true] at c
        cases ej : idxG b ds with
        | none => rw [ej] at p2; exact p2.elim
        | some j =>
          rw [ej] at p2
          obtain ⟨⟨z, h1, h2⟩, h3⟩ := idxG_spec b ds j ej
          have at' : ∀ (m : Nat) z', (D.py.pys ds)[m]? = some z' → ∃ d, ds[m]? = some d ∧ d.py = z' := fun m z' hz => by
            rw [pys_map, List.getElem?_map] at hz
            obtain ⟨d, e1, e2⟩ := Option.map_eq_some_iff.mp hz
            exact ⟨d, e1, e2⟩
          refine ⟨l, u, b.py, D.py.pys ds, j, z.py, rfl, rfl, (x1.mono g2).dp r2.fh (SeqAt.canLay_of_shaped c.1), x2.dp r2.fh (SeqAt.canLay_of_shaped c.2), c.1, c.2, ?_, h2, fun m z' hm hz => ?_, p2.here r2 (g1.trans g2) (RX.fz (.int _))⟩
          · rw [pys_map, List.getElem?_map, h1]; rfl
          · obtain ⟨d, e1, rfl⟩ := at' m z' hz
            exact h3 m d hm e1
      | _ => exact Bool.noConfusion (Post.guard p1).1⟩
end
end Dl
/-! evaluation of the rules for dicts and for order. -/
namespace Dl
open PySem PySem.Spec PySem.W PyProof.Rows L2
@[simp] theorem opInK_l (neg : Bool) (a : D) (t : Tg) (ds : List D) : opInK neg a (.lst t ds) = opInW neg a (.lst t ds) := rfl
@[simp] theorem opInK_t (neg : Bool) (a : D) (ds : List D) : opInK neg a (.tup ds) = opInW neg a (.tup ds) := rfl
theorem opInW_f : opInW false = opIn := rfl
theorem opInW_t : opInW true = opNin := rfl
@[simp] theorem opIdxK_l (t : Tg) (ds : List D) (b : D) : opIdxK (.lst t ds) b = opIdx (.lst t ds) b := rfl
@[simp] theorem opIdxK_t (ds : List D) (b : D) : opIdxK (.tup ds) b = opIdx (.tup ds) b := rfl
@[simp] theorem opIdxK_s (x : Str) (b : D) : opIdxK (.str x) b = opIdx (.str x) b := rfl
theorem cmpG_i (a b : Int) : cmpG (.int a) (.int b) = true := rfl
@[simp] theorem opLtG_i (a b : Int) : opLtG (.int a) (.int b) = .ok (.bl (decide (a < b))) := by
  show opCm _ _ _ = _
  unfold opCm
  rw [if_pos (cmpG_i a b)]
  show Res.ok (D.bl (dataLt (.int a) (.int b))) = _
  rw [dataLt_int]
@[simp] theorem opGtG_i (a b : Int) : opGtG (.int a) (.int b) = .ok (.bl (decide (b < a))) := by
  show opCm _ _ _ = _
  unfold opCm
  rw [if_pos (cmpG_i a b)]
  show Res.ok (D.bl (dataLt (.int b) (.int a))) = _
  rw [dataLt_int]
@[simp] theorem opLeG_i (a b : Int) : opLeG (.int a) (.int b) = .ok (.bl (decide (a ≤ b))) := by
  show opCm _ _ _ = _
  unfold opCm
  rw [if_pos (cmpG_i a b)]
  show Res.ok (D.bl (!dataLt (.int b) (.int a))) = _
  rw [dataLt_int, cmp_not_lt]
@[simp] theorem opGeG_i (a b : Int) : opGeG (.int a) (.int b) = .ok (.bl (decide (b ≤ a))) := by
  show opCm _ _ _ = _
  unfold opCm
  rw [if_pos (cmpG_i a b)]
  show Res.ok (D.bl (!dataLt (.int a) (.int b))) = _
  rw [dataLt_int, cmp_not_lt]
@[simp] theorem max2G_i (a b : Int) : max2G (.int a) (.int b) = .ok (.int (if b > a then b else a)) := by
  show best2 _ _ _ = _
  unfold best2
  rw [if_pos (show likeG [D.int a, D.int b] = true from rfl)]
  show Res.ok (if dataLt (.int a) (.int b) = true then D.int b else D.int a) = _
  rw [dataLt_int]
  by_cases c : a < b <;> simp [c]
@[simp] theorem min2G_i (a b : Int) : min2G (.int a) (.int b) = .ok (.int (if b < a then b else a)) := by
  show best2 _ _ _ = _
  unfold best2
  rw [if_pos (show likeG [D.int a, D.int b] = true from rfl)]
  show Res.ok (if dataLt (.int b) (.int a) = true then D.int b else D.int a) = _
  rw [dataLt_int]
  by_cases c : b < a <;> simp [c]
theorem likeG_ints (ns : List Int) : likeG (ns.map .int) = true := by
  unfold likeG
  rw [List.all_eq_true]
  intro x hx
  obtain ⟨n, _, rfl⟩ := List.mem_map.mp hx
  simp only [Bool.and_eq_true]
  refine ⟨rfl, rfl, rfl, ?_⟩
  rw [List.all_eq_true]
  intro y hy
  obtain ⟨m, _, rfl⟩ := List.mem_map.mp hy
  rfl
theorem bestOf_ints (f : PyData → PyData → Bool) (g : Int → Int → Bool) (h : ∀ a b, f (.int a) (.int b) = g a b) : ∀ (ns : List Int) (n : Int), bestOf f (.int n) (ns.map .int) = .int (ns.foldl (fun a y => if g a y = true then y else a) n)
  | [], n => rfl
  | m :: ms, n => by
    show bestOf f (if f (.int n) (.int m) = true then D.int m else D.int n) (ms.map .int) = _
    rw [h]
    by_cases c : g n m = true
    · rw [if_pos c, bestOf_ints f g h ms m, List.foldl_cons, if_pos c]
    · rw [if_neg c, bestOf_ints f g h ms n, List.foldl_cons, if_neg c]
theorem max1G_ints (t : Tg) (n : Int) (ns : List Int) : max1G (.lst t ((n :: ns).map .int)) = .ok (.int (maxI n ns)) := by
  show bestL _ _ = _
  rw [List.map_cons]
  unfold bestL
  dsimp only
  rw [if_pos (show likeG (D.int n :: ns.map .int) = true from likeG_ints (n :: ns)), bestOf_ints _ (fun a y => decide (a < y)) (fun a b => dataLt_int a b)]
  unfold maxI
  simp
theorem min1G_ints (t : Tg) (n : Int) (ns : List Int) : min1G (.lst t ((n :: ns).map .int)) = .ok (.int (minI n ns)) := by
  show bestL _ _ = _
  rw [List.map_cons]
  unfold bestL
  dsimp only
  rw [if_pos (show likeG (D.int n :: ns.map .int) = true from likeG_ints (n :: ns)), bestOf_ints _ (fun a y => decide (y < a)) (fun a b => dataLt_int b a)]
  unfold minI
  simp
theorem max1G_intsT (n : Int) (ns : List Int) : max1G (.tup ((n :: ns).map .int)) = .ok (.int (maxI n ns)) := by
  show bestL _ _ = _
  rw [List.map_cons]
  unfold bestL
  dsimp only
  rw [if_pos (show likeG (D.int n :: ns.map .int) = true from likeG_ints (n :: ns)), bestOf_ints _ (fun a y => decide (a < y)) (fun a b => dataLt_int a b)]
  unfold maxI
  simp
theorem min1G_intsT (n : Int) (ns : List Int) : min1G (.tup ((n :: ns).map .int)) = .ok (.int (minI n ns)) := by
  show bestL _ _ = _
  rw [List.map_cons]
  unfold bestL
  dsimp only
  rw [if_pos (show likeG (D.int n :: ns.map .int) = true from likeG_ints (n :: ns)), bestOf_ints _ (fun a y => decide (y < a)) (fun a b => dataLt_int b a)]
  unfold minI
  simp
@[simp] theorem fGetK_ap (fa fb : DE) (ρ : DEnv) : fGetK fa fb ρ = (fa ρ).bind fun d => match d with
  | .dic _ _ => (fb ρ).bind fun b => opGetK d b
  | _ => .stuck := rfl
@[simp] theorem fDic0_ap (ρ : DEnv) : fDic0 ρ = .ok (.dic .ow []) := rfl
@[simp] theorem sSetK_ap (i : Nat) (fi fe : DE) (ρ : DEnv) : sSetK i fi fe ρ = (fe ρ).toS ρ fun d => withD ρ i fun es => (fi ρ).toS ρ fun kd => match kd.ky with
  | some k => if d.tg ≠ .vw ∧ allK es = true ∧ es.length < seqMax then .next (ρ.set i (some (.dic .ow (setKD es kd (d.re .fz) k)))) else .stuck
  | none => .stuck := rfl
theorem withD_def (ρ : DEnv) (i : Nat) (k : List (D × D) → SR) : withD ρ i k = match ρ[i]? with
  | some (some (.dic .ow es)) => k es
  | _ => .stuck := rfl
@[simp] theorem fIxG_ap (fo fe : DE) (ρ : DEnv) : fIxG fo fe ρ = (fo ρ).bind fun d => if d.isL = true then (fe ρ).bind fun b => ixG d b else .stuck := rfl
end Dl
/-! len of a dict. -/
namespace Dl
open PySem PySem.Spec PySem.W PyProof.Rows L2
section
variable {X : Cx} {W : WX} {e : Expr} {fs : DA} {pos p : Pos} {k : Nat}
def rLenK (w : World) (K : PySem.W.Frag) (mg : Str → Option Value) : List V → Hp → VK → Prop := fun vs H Q => ∃ a xs ob, vs = [V.ref a] ∧ H a = some (dicO w a xs ob) ∧ (∀ e ∈ xs, KeyV w K mg H e.2.1 e.1) ∧ Q (.int ((xs.length : Nat) : Int)) H
theorem cr_lenK : CallR X (.builtin "len") (rLenK X.w X.K X.mg) := by
  intro pins s σ H vs us Q I r h
  obtain ⟨a, xs, ob, rfl, ha, hks, q⟩ := h
  rw [Vals.ref1 r]
  obtain ⟨ys, hd, p, hm, hz⟩ := dic_read I ha hks
  refine call_len_dictH hm hd (by rw [← prel_len p]; rw [sizeLine_eq] at hz; omega) ?_
  rw [← prel_len p]
  exact ⟨.int _, H, I.tok _, ⟨_, rfl⟩, q⟩
def lenK : D → Res D
  | .dic _ es => if allK es = true then .ok (.int ((es.length : Nat) : Int)) else .stuck
  | _ => .stuck
theorem ok_lenK : UnOk X W lenK (fun v H Q => rLenK X.w X.K X.mg [v] H Q) := by
  intro H0 F0 ρ σ F H F2 H2 v d Q r r2 g x p
  cases d with
  | dic t es =>
    obtain ⟨h, p⟩ := Post.guard p
    obtain ⟨q, xs, ob, rfl, h1, h2⟩ := x.dic r2.fh
    refine ⟨q, xs, ob, rfl, h1, re_keys h2 h r2.fh, ?_⟩
    rw [re_len h2]
    exact p.here r2 g (RX.fz (.int _))
  | _ => exact p.elim
theorem pd_lenK (hg : Gl X "len") (hm : X.mg "len" = none) (ha : PAD X W [e] fs) (he : starEach [e] X.env = (false, eval e X.env) :: starEach [] X.env := by rfl) (hpl : (backTo pos (starEach [] X.env)).any (·.1) = false := by rfl) :
    PD X W (.Call (.Name "len" p) [e] [] pos) (fCall (op1 lenK) fs) := pd_callB cr_lenK (ok_op1 ok_lenK fun v H Q h => h) hg hm PySem.boot_len ha (by decide) (by decide) he hpl
end
end Dl
/-! sorted of a list of data; keywords. -/
namespace Dl
open PySem PySem.Spec PySem.W PyProof.Rows L2

def sortD (rev : Bool) (ds : List D) : List D := ds.mergeSort (dataLe rev D.py)
def D.tupNE : D → Bool
  | .tup (_ :: _) => true
  | _ => false
def D.noTup : D → Bool
  | .tup _ => false
  | _ => true
def okSort (ds : List D) : Bool := ds.all D.tupNE || ds.all D.noTup
def sort1 (rev : Bool) : D → Res D
  | .lst _ ds => if likeG ds = true ∧ okSort ds = true then .ok (.lst .ow (sortD rev ds)) else .stuck
  | _ => .stuck
theorem likeG_allAlike {ds : List D} (h : likeG ds = true) : AllAlike (ds.map D.py) := by
  have := likeG_all h
  rw [pys_map] at this
  exact this.1
theorem okSort_ok {ds : List D} (h : likeG ds = true) (g : okSort ds = true) : Sortable (ds.map D.py) := by
  unfold okSort at g
  rw [Bool.or_eq_true, List.all_eq_true, List.all_eq_true] at g
  rcases g with g | g
  · refine .inl fun d hd => ?_
    obtain ⟨e, he, rfl⟩ := List.mem_map.mp hd
    have := g e he
    cases e with
    | tup ds =>
      cases ds with
      | nil => cases this
      | cons x r => exact ⟨_, _, rfl⟩
    | _ => cases this
  · refine .inr fun d hd => ?_
    obtain ⟨e, he, rfl⟩ := List.mem_map.mp hd
    have h1 := g e he
    have h2 : e.isN = false := by
      unfold likeG at h
      rw [List.all_eq_true] at h
      have := h e he
      simp only [Bool.and_eq_true, Bool.not_eq_true'] at this
      exact this.2.1
    refine ⟨py_non h2, fun xs z => ?_⟩
    cases e <;> first | (cases z; done) | (cases h1; done)
section
variable {w : World} {K : PySem.W.Frag} {mg : Str → Option Value} {F : Hp}
theorem reps_each : ∀ {xs : List V} {ds : List D} {its : List Value}, Reps w K mg F xs ds → Vals xs its → EachIs (fun (u : Value) (d : D) => ∃ x, RelV x u ∧ Rep w K mg F x d) its ds
  | _, _, _, .nil, .nil => .nil
  | _, _, _, .cons a b, .cons r t => .cons ⟨_, r, a⟩ (reps_each b t)
theorem each_reps : ∀ {its : List Value} {ds : List D}, EachIs (fun (u : Value) (d : D) => ∃ x, RelV x u ∧ Rep w K mg F x d) its ds → ∃ xs, Vals xs its ∧ Reps w K mg F xs ds
  | _, _, .nil => ⟨[], .nil, .nil⟩
  | _, _, .cons ⟨x, r, a⟩ t => by
    obtain ⟨xs, h1, h2⟩ := each_reps t
    exact ⟨x :: xs, .cons r h1, .cons a h2⟩
end
def rSrt (w : World) (K : PySem.W.Frag) (mg : Str → Option Value) (rev : Bool) : List V → Hp → VK → Prop := fun vs H Q => ∃ a xs ds F, vs = [V.ref a] ∧ SqL K H a xs ∧ Reps w K mg F xs ds ∧ Same F H ∧ likeG ds = true ∧ okSort ds = true ∧
  ∀ ys p, Reps w K mg F ys (sortD rev ds) → H p = none → Q (.ref p) (upd H p (.lst ys))
def rSrtK (w : World) (K : PySem.W.Frag) (mg : Str → Option Value) : List V → List V → Hp → VK → Prop := fun vs zs H Q => ∃ rev, zs = [.bl rev] ∧ rSrt w K mg rev vs H Q
section
variable {X : Cx} {W : WX} {a b e e2 o : Expr} {fa fb fo fe : DE} {fs fk : DA} {pos p apos cpos kpos : Pos} {k : Nat} {kws : List Keyword} {nm : Option Str}
theorem sort_fin {pins : List (Addr × Obj)} {σ : L2.St} {H F : Hp} {s : Shared} {Q : VK} {its out : List Value} {rev : Bool} {ds : List D} (I : Inv X pins σ H s) (hz : its.length ≤ sizeLine) (hl : out.length = its.length)
    (e : EachIs (fun (u : Value) (d : D) => ∃ x, RelV x u ∧ Rep X.w X.K X.mg F x d) out (sortD rev ds)) (q : ∀ ys p, Reps X.w X.K X.mg F ys (sortD rev ds) → H p = none → Q (.ref p) (upd H p (.lst ys))) :
    EP X pins σ Q (.ref (s.heap.objs.size + 1)) { s with heap := sortedAll s.heap its (List.toArray out) } := by
  obtain ⟨ys, h1, h2⟩ := each_reps e
  obtain ⟨ep, he'⟩ := PyProof.Rows.sortedAll_at s.heap its out.toArray
  exact ⟨.ref _, upd H (s.heap.objs.size + 1) (.lst ys), I.laid (t' := s.toks) (fun _ _ => PyProof.Rows.sortedAll_old) (Nat.le_succ _) ⟨by rw [h1.length, hl]; exact hz, out, ep, h1, he'⟩, rfl, q _ _ h2 (I.hok.fresh (Nat.le_succ _))⟩
theorem cr_srt (hu : X.A.units + 66 < cLine) : CallR X (.builtin "sorted") (rSrt X.w X.K X.mg false) := by
  intro pins s σ H vs us Q I r h
  obtain ⟨a, xs, ds, F, rfl, hs, hd, sm, hk, ho, q⟩ := h
  obtain ⟨its, rv, hl, hz⟩ := I.list hs
  rw [Vals.ref1 r]
  obtain ⟨c1, c2⟩ := canLayAll_of fun e he => (likeG_mem hk e he).1
  obtain ⟨as, hr⟩ := Dp.readsAll I _ _ _ (Reps.dp sm hd c1) rv
  rw [pys_map] at hr
  refine sorted_data (R := fun (u : Value) (d : D) => ∃ x, RelV x u ∧ Rep X.w X.K X.mg F x d) hl.isList (reps_each hd rv) (readsAll_each D.py hr) (likeG_allAlike hk) (okSort_ok hk ho) (by rw [← hd.length]; exact hz) (fun d hd => ?_) fun out h1 h2 => ?_
  · have := SeqAt.depth_of_shaped (likeG_mem hk d hd).1
    omega
  · exact sort_fin I (by rw [← rv.length]; exact hz) (by rw [h1, ← hd.length, rv.length]) h2 q
theorem cr_srtK (hu : X.A.units + 66 < cLine) : CallRK X (.builtin "sorted") [Str.ofString "reverse"] (rSrtK X.w X.K X.mg) := by
  intro pins s σ H vs zs us ws Q I r rz h
  obtain ⟨rev, rfl, a, xs, ds, F, rfl, hs, hd, sm, hk, ho, q⟩ := h
  obtain ⟨its, rv, hl, hz⟩ := I.list hs
  rw [Vals.ref1 r]
  obtain ⟨w1, rfl, e1⟩ := vals1 rz
  obtain rfl : w1 = Value.bool rev := e1
  obtain ⟨c1, c2⟩ := canLayAll_of fun e he => (likeG_mem hk e he).1
  obtain ⟨as, hr⟩ := Dp.readsAll I _ _ _ (Reps.dp sm hd c1) rv
  rw [pys_map] at hr
  refine sorted_rev_data (b := rev) (R := fun (u : Value) (d : D) => ∃ x, RelV x u ∧ Rep X.w X.K X.mg F x d) hl.isList (reps_each hd rv) (readsAll_each D.py hr) (likeG_allAlike hk) (okSort_ok hk ho) (by rw [← hd.length]; exact hz) (fun d hd => ?_) fun out h1 h2 => ?_
  · have := SeqAt.depth_of_shaped (likeG_mem hk d hd).1
    omega
  · exact sort_fin I (by rw [← rv.length]; exact hz) (by rw [h1, ← hd.length, rv.length]) h2 q
theorem ok_srt (rev : Bool) : UnOk X W (sort1 rev) (fun v H Q => rSrt X.w X.K X.mg rev [v] H Q) := by
  intro H0 F0 ρ σ F H F2 H2 v d Q r r2 g x p
  cases d with
  | lst t ds =>
    obtain ⟨⟨h, h'⟩, p⟩ := Post.guard p
    obtain ⟨l, xs, rfl, hx, rx⟩ := x.lst r2.fh
    refine ⟨l, xs, ds, F2, rfl, hx.sq, rx, r2.fh, h, h', fun ys q ry n => ?_⟩
    exact p.at r2 g (Gr.alloc n) (same_updF r2.fh n) (RX.newL g.hh r2.fh n ry)
  | _ => exact p.elim
theorem units66 {k : Nat} {A : Around} (r : Room k A) : A.units + 66 < cLine := by have := r.un; omega
theorem pd_sortG (hr : Room k X.A) (hg : Gl X "sorted") (hm : X.mg "sorted" = none) (ha : PAD X W [e] fs) (he : starEach [e] X.env = (false, eval e X.env) :: starEach [] X.env := by rfl) (hpl : (backTo pos (starEach [] X.env)).any (·.1) = false := by rfl) :
    PD X W (.Call (.Name "sorted" p) [e] [] pos) (fCall (op1 (sort1 false)) fs) := pd_callB (cr_srt (units66 hr)) (ok_op1 (ok_srt false) fun v H Q h => h) hg hm (by decide +kernel) ha (by decide) (by decide) he hpl
/-! ### keywords -/
def PKD (X : Cx) (W : WX) (kws : List Keyword) (f : DA) : Prop := PK X kws (tD X W (RXs X) f)
theorem _root_.L2.PK.imp {kws : List Keyword} {t t' : TA} (h : PK X kws t) (i : ∀ σ H Q, t' σ H Q → t σ H Q) : PK X kws t' := ⟨fun pos pins s σ H Q I q => h.run pos pins s σ H Q I (i _ _ _ q)⟩
theorem pkd_nil : PKD X W [] fNil := pk_nil.imp fun _ _ _ ⟨H0, F0, ρ, F, r0, p⟩ => p.here r0 (Gr.refl _ _) .nil
theorem pkd_cons (ha : PD X W e fa) (hr : PKD X W kws fk) : PKD X W (⟨nm, e, kpos⟩ :: kws) (fCons fa fk) := (pk_cons ha hr).imp fun _ _ _ ⟨H0, F0, ρ, F, r0, p⟩ =>
  ⟨H0, F0, ρ, F, r0, p.bind (Gr.refl _ _) fun F1 H1 v d _ r1 g1 x1 p1 => ⟨H0, F0, ρ, F1, r1, p1.bind g1 fun F2 H2 vs ds _ r2 g2 x2 p2 => p2.here r2 (g1.trans g2) (.cons (x1.mono g2) (relXs.st _ _ _ _ _ _ x2 g1.hh))⟩⟩
/-- a built-in function called with keywords -/
def CallOkK (X : Cx) (W : WX) (op : List D → List D → Res D) (r : List V → List V → Hp → VK → Prop) : Prop := ∀ ⦃H0 F0 : Hp⦄ ⦃ρ : DEnv⦄ ⦃σ : L2.St⦄ ⦃F H F2 H2 : Hp⦄ ⦃vs zs : List V⦄ ⦃ds es : List D⦄ ⦃Q : VK⦄,
  R X H0 F0 ρ σ F H → R X H0 F0 ρ σ F2 H2 → Gr F H F2 H2 → RXs X F2 H H2 vs ds → RXs X F2 H H2 zs es → Post X W (RXX X) H0 F0 ρ σ F H (op ds es) Q → r vs zs H2 Q
def fCallK (op : List D → List D → Res D) (fs fk : DA) : DE := fun ρ => (fs ρ).bind fun ds => (fk ρ).bind fun es => op ds es
theorem callK_imp {r : List V → List V → Hp → VK → Prop} {op : List D → List D → Res D} {fs fk : DA} (ho : CallOkK X W op r) {σ : L2.St} {H : Hp} {Q : VK} (h : tD X W (RXX X) (fCallK op fs fk) σ H Q) : tCKw r (tD X W (RXs X) fs) (tD X W (RXs X) fk) σ H Q := by
  obtain ⟨H0, F0, ρ, F, r0, p⟩ := h
  refine ⟨H0, F0, ρ, F, r0, p.bind (Gr.refl _ _) fun F1 H1 v a _ r1 g1 x1 p1 => ?_⟩
  exact ⟨H0, F0, ρ, F1, r1, p1.bind g1 fun F2 H2 u b _ r2 g2 x2 p2 => ho r0 r2 (g1.trans g2) (x1.mono g2) (relXs.st _ _ _ _ _ _ x2 g1.hh) p2⟩
/-- sorted(xs, reverse=b) -/
def sortK : List D → List D → Res D
  | [d], [.bl b] => sort1 b d
  | _, _ => .stuck
theorem ok_srtK : CallOkK X W sortK (rSrtK X.w X.K X.mg) := by
  intro H0 F0 ρ σ F H F2 H2 vs zs ds es Q r r2 g x z p
  match ds, es, x, z, p with
  | [d], [.bl b], x, z, p =>
    obtain ⟨v, rfl, x1⟩ := x.inv1
    obtain ⟨u, rfl, z1⟩ := z.inv1
    obtain rfl := z1.bl
    exact ⟨b, rfl, ok_srt b r r2 g x1 p⟩
theorem pd_sortK (hr : Room k X.A) (hg : Gl X "sorted") (hm : X.mg "sorted" = none) (ha : PAD X W [e] fs) (hk : PKD X W [⟨some "reverse", e2, kpos⟩] fk) (he : backTo pos (starEach [e] X.env) = (false, eval e X.env) :: backTo pos (starEach [] X.env) := by rfl) (hpl : (backTo pos (starEach [e] X.env)).any (·.1) = false := by rfl)
    (hall : (backToKw pos (keywordEach [⟨some "reverse", e2, kpos⟩] X.env)).all (·.1.isSome) = true := by rfl) (hnone : (backToKw pos (keywordEach [⟨some "reverse", e2, kpos⟩] X.env)).any (·.1.isNone) = false := by rfl) (hks : (backToKw pos (keywordEach [⟨some "reverse", e2, kpos⟩] X.env)).filterMap (·.1) = [Str.ofString "reverse"] := by rfl) :
    PD X W (.Call (.Name "sorted" p) [e] [⟨some "reverse", e2, kpos⟩] pos) (fCallK sortK fs fk) := (pe_callBK (cr_srtK (units66 hr)) hg hm (by decide +kernel) ha hk (by decide) (by decide) he hpl hall hnone hks).imp fun _ _ _ => callK_imp ok_srtK
/-! ### max(xs, default=d), min(xs, default=d) -/
def rBLd (K : PySem.W.Frag) (m : PyData → List PyData → PyData) : List V → List V → Hp → VK → Prop := fun vs zs H Q => ∃ a xs z ds, vs = [V.ref a] ∧ zs = [z] ∧ SqL K H a xs ∧ DpAll K H xs ds ∧ AlikeAll ds ∧ PyData.depthAll ds ≤ 64 ∧
  (ds = [] → Q z H) ∧ ∀ d es, ds = d :: es → ∀ (i : Nat) v, xs[i]? = some v → ds[i]? = some (m d es) → Q v H
theorem cr_maxLd (hc : X.calm = true) (hu : X.A.units + 65 < cLine) : CallRK X (.builtin "max") [Str.ofString "default"] (rBLd X.K maxD) := by
  intro pins s σ H vs zs us ws Q I r rz h
  obtain ⟨a, xs, z, ds, rfl, rfl, hs, hd, al, dp, q0, q⟩ := h
  obtain ⟨its, rv, hl, _⟩ := I.list hs
  rw [Vals.ref1 r]
  obtain ⟨w1, rfl, e1⟩ := vals1 rz
  obtain ⟨as, hr⟩ := Dp.readsAll I _ _ _ hd rv
  refine max_list_default (I.ok.hd hc) hl.isList (by simpa using hr) al (by omega) (fun e h' tk kp => ⟨z, H, I.kept (t' := tk) kp, e1, q0 e⟩) fun y ys i v h' tk bs e hv r kp => ?_
  subst e
  exact best_fin I rv hr al (maxD_mem y ys) (q y ys rfl) i v h' tk bs (by simpa using hv) r kp
def bestLd (f : PyData → PyData → Bool) : List D → List D → Res D
  | [.lst _ []], [d] => if d.tg = .fz then .ok d else .stuck
  | [.lst _ (d :: ds)], [z] => if likeG (d :: ds) = true then .ok (bestOf f d ds) else .stuck
  | _, _ => .stuck
def max1d := bestLd fun d e => dataLt d e
theorem ok_bestLd (f : PyData → PyData → Bool) (m : PyData → List PyData → PyData) (hm : ∀ d ds, m d ds = ds.foldl (fun a y => if f a y = true then y else a) d) : CallOkK X W (bestLd f) (rBLd X.K m) := by
  intro H0 F0 ρ σ F H F2 H2 vs zs ds es Q r r2 g x z p
  match ds, es, x, z, p with
  | [.lst t []], [d], x, z, p =>
    obtain ⟨v, rfl, x1⟩ := x.inv1
    obtain ⟨u, rfl, z1⟩ := z.inv1
    obtain ⟨h, p⟩ := Post.guard p
    obtain ⟨l, xs, rfl, hx, rx⟩ := x1.lst r2.fh
    have e := rx.none
    subst e
    exact ⟨l, [], u, [], rfl, rfl, hx.sq, .nil, ⟨fun _ h => absurd h (by simp), fun _ h => absurd h (by simp)⟩, Nat.zero_le _, fun _ => p.here r2 g z1, fun d es e => nomatch e⟩
  | [.lst t (d :: ds)], [z0], x, z, p =>
    obtain ⟨v, rfl, x1⟩ := x.inv1
    obtain ⟨u, rfl, z1⟩ := z.inv1
    obtain ⟨h, p⟩ := Post.guard p
    obtain ⟨l, xs, rfl, hx, rx⟩ := x1.lst r2.fh
    obtain ⟨c1, c2⟩ := canLayAll_of fun e he => (likeG_mem h e he).1
    refine ⟨l, xs, u, d.py :: D.py.pys ds, rfl, rfl, hx.sq, Reps.dp r2.fh rx c1, likeG_all h, c2, (fun e => nomatch e), fun d1 es1 e1 i w hw hi => ?_⟩
    cases e1
    have hb : bestOf f d ds ∈ d :: ds := foldBest_mem (fun (a y : D) => f a.py y.py) ds d
    rw [hm, ← bestOf_py] at hi
    have hi2 : (D.py.pys (d :: ds))[i]? = some (bestOf f d ds).py := hi
    rw [pys_map, List.getElem?_map] at hi2
    obtain ⟨z, hz, ez⟩ := Option.map_eq_some_iff.mp hi2
    have hzm := List.mem_of_getElem? hz
    have e := py_inj (likeG_mem h _ hzm).2 (likeG_mem h _ hb).2 ez
    subst e
    obtain ⟨w2, e1, e2⟩ := rx.get hz
    rw [hw] at e1
    cases e1
    exact p.here r2 g (RX.fz e2)
theorem pd_max1d (hr : Room k X.A) (hc : X.calm = true) (hg : Gl X "max") (hm : X.mg "max" = none) (ha : PAD X W [e] fs) (hk : PKD X W [⟨some "default", e2, kpos⟩] fk) (he : backTo pos (starEach [e] X.env) = (false, eval e X.env) :: backTo pos (starEach [] X.env) := by rfl) (hpl : (backTo pos (starEach [e] X.env)).any (·.1) = false := by rfl)
    (hall : (backToKw pos (keywordEach [⟨some "default", e2, kpos⟩] X.env)).all (·.1.isSome) = true := by rfl) (hnone : (backToKw pos (keywordEach [⟨some "default", e2, kpos⟩] X.env)).any (·.1.isNone) = false := by rfl) (hks : (backToKw pos (keywordEach [⟨some "default", e2, kpos⟩] X.env)).filterMap (·.1) = [Str.ofString "default"] := by rfl) :
    PD X W (.Call (.Name "max" p) [e] [⟨some "default", e2, kpos⟩] pos) (fCallK max1d fs fk) := (pe_callBK (cr_maxLd hc (units65 hr)) hg hm (by decide +kernel) ha hk (by decide) (by decide) he hpl hall hnone hks).imp fun _ _ _ => callK_imp (ok_bestLd _ _ fun _ _ => rfl)
/-! ### evaluation -/
@[simp] theorem fCallK_ap (op : List D → List D → Res D) (fs fk : DA) (ρ : DEnv) : fCallK op fs fk ρ = (fs ρ).bind fun ds => (fk ρ).bind fun es => op ds es := rfl
@[simp] theorem sortK_ap (d : D) (b : Bool) : sortK [d] [.bl b] = sort1 b d := rfl
theorem max1d_nil (t : Tg) (d : D) (h : d.tg = .fz) : max1d [.lst t []] [d] = .ok d := by
  show (if d.tg = .fz then Res.ok d else .stuck) = _
  rw [if_pos h]
theorem max1d_cons (t : Tg) (d z : D) (ds : List D) : max1d [.lst t (d :: ds)] [z] = max1G (.lst t (d :: ds)) := rfl
end
end Dl
/-! dicts with tuples as keys, more: walked, compared, copied, displayed; get with a default. Rules of the layer below. -/
namespace Dl
open PySem PySem.Spec PySem.W PyProof.Rows L2

/-! ### == of two dicts whose keys are tuples -/
section
variable {prog : Program} {w : World} {K : Type} [DecidableEq K] {knd : HeapKind prog w K} {A : Around} {E : Value → Shared → Prop} {s : Shared}
inductive HitsH (A : Around) (s : Shared) (kb : List (K × Addr × Value)) : List (K × Addr × Value) → Bool → Prop
  | nil : HitsH A s kb [] true
  | miss {x : K × Addr × Value} {r : List (K × Addr × Value)} : atKey kb x.1 = none → HitsH A s kb (x :: r) false
  | hit {x : K × Addr × Value} {y : Addr × Value} {r : List (K × Addr × Value)} {e b : Bool} : atKey kb x.1 = some y → SeqAt.EqAt A s x.2.2 y.2 e → HitsH A s kb r b → HitsH A s kb (x :: r) (e && b)
theorem HitsH.inv {kb : List (K × Addr × Value)} {x : K × Addr × Value} {r : List (K × Addr × Value)} {b : Bool} (h : HitsH A s kb (x :: r) b) :
    (atKey kb x.1 = none ∧ b = false) ∨ ∃ y e b', atKey kb x.1 = some y ∧ SeqAt.EqAt A s x.2.2 y.2 e ∧ HitsH A s kb r b' ∧ b = (e && b') := by
  cases h with
  | miss hn => exact .inl ⟨hn, rfl⟩
  | hit hy he hr => exact .inr ⟨_, _, _, hy, he, hr, rfl⟩
theorem samePairsH {nm : String} {a b : Addr} {ka kb : List (K × Addr × Value)} {r : Bool} {Q : Bool → Shared → Prop} (hu : knd.room A) (ha : (a == sysModules) = false) (hb : (b == sysModules) = false)
    (da : s.heap.DictOfH knd a ka) (db : s.heap.DictOfH knd b kb) (hits : ka.length = kb.length → HitsH A s kb ka r) (h : Q (ka.length == kb.length && r) s) :
    wpAny (model prog w) A (Builtin.Dict.samePairs nm a b) Q E s := by
  obtain ⟨oa, es, ep, hoa, _, hda, hka, hpa, hna⟩ := da
  obtain ⟨ob, es', ep', hob, _, hdb, hkb, hpb, hnb⟩ := db
  have hla : ka.length = es.size := (size_of_entries hka).symm
  have hlb : kb.length = es'.size := (size_of_entries hkb).symm
  rw [hla, hlb] at h
  unfold Builtin.Dict.samePairs Builtin.Dict.showsAll
  rw [if_neg (show ¬ (a == sysModules) = true by rw [ha]; exact Bool.false_ne_true), if_neg (show ¬ (b == sysModules) = true by rw [hb]; exact Bool.false_ne_true)]
  refine wpAny_bind (wpAny_pure (wpAny_bind (wpAny_pure ?_)))
  refine wpAny_bind (wpAny_dictEntries hoa hda ?_)
  dsimp only
  refine wpAny_bind (wpAny_dictEntries hob hdb ?_)
  by_cases hsz : es.size = es'.size
  case neg =>
    rw [if_pos (by simpa using hsz)]
    have hbf : (es.size == es'.size) = false := by simpa using hsz
    rw [hbf, Bool.false_and] at h
    exact wpAny_bind (wpAny_rule (wpAny_pure h))
  case pos =>
    have h' : Q r s := by simpa [hsz] using h
    have hits' := hits (by rw [hla, hlb]; exact hsz)
    rw [if_neg (by rw [hsz]; simp)]
    refine wpAny_bind (wpAny_dictEpoch hoa hda ?_)
    refine wpAny_bind ?_
    rw [Std.Legacy.Range.forIn_eq_forIn_range']
    simp only [Std.Legacy.Range.size, Nat.sub_zero, Nat.add_sub_cancel, Nat.div_one]
    refine wpAny_forIn_list _
      (fun rest q s' => s' = s ∧ q = (none, ()) ∧ ∃ i, rest = List.range' i (es.size - i) ∧ i ≤ es.size ∧ HitsH A s kb (ka.drop i) r)
      _ ?_ ?_ _ _ ⟨rfl, rfl, 0, by simp, Nat.zero_le _, hits'⟩
    · rintro x rest q s' ⟨rfl, rfl, i, hr, hi, hpre⟩
      have hlt : i < es.size := by
        rcases Nat.lt_or_ge i es.size with h | h
        · exact h
        · rw [Nat.sub_eq_zero_of_le h] at hr; simp at hr
      obtain ⟨rfl, hrest⟩ : x = i ∧ rest = List.range' (i + 1) (es.size - (i + 1)) := by
        have e : es.size - i = (es.size - (i + 1)) + 1 := by omega
        rw [e, List.range'_succ] at hr
        injection hr with h1 h2
        exact ⟨h1, h2⟩
      refine wpAny_bind (wpAny_dictEntries hoa hda ?_)
      rw [Array.getElem?_eq_getElem hlt]
      have hlt' : x < ka.length := by rw [hla]; exact hlt
      obtain ⟨z, hkv⟩ : ∃ z, ka[x] = z := ⟨_, rfl⟩
      have hdrop : ka.drop x = z :: ka.drop (x + 1) := by rw [← hkv]; exact List.drop_eq_getElem_cons hlt'
      have hz : z ∈ ka := by rw [← hkv]; exact List.getElem_mem hlt'
      have een : es[x] = entryOfKey knd z := by
        have e := entry_at hka x
        rw [Array.getElem?_eq_getElem hlt, List.getElem?_eq_getElem hlt', hkv] at e
        exact Option.some.inj e
      have e1 : es[x].key = .ref z.2.1 := by rw [een]; rfl
      have e2 : es[x].hash = knd.hash z.1 := by rw [een]; rfl
      have e3 : es[x].val = z.2.2 := by rw [een]; rfl
      rw [hdrop] at hpre
      show wpAny _ _ (holding [es[x].key, es[x].val] _ >>= _) _ _ _
      rw [e2, e1, e3]
      refine wpAny_bind (wpAny_holding (wpAny_bind (wpAny_dictFind_heap hu (hpa z hz) hob hdb hkb hpb hnb (fun hno => ?_) fun j p hj => ?_)))
      · have hn : atKey kb z.1 = none := atKey_none_of_get hno
        rcases hpre.inv with ⟨_, er⟩ | ⟨y, _, _, hy, _⟩
        · rw [er] at h'
          refine wpAny_pure ?_
          show wpAny _ _ (if (!false) = true then _ else _) _ _ _
          rw [if_pos (by decide)]
          exact wpAny_pure (wpAny_pure h')
        · rw [hn] at hy; exact nomatch hy
      · have hv' : atKey kb z.1 = some p := atKey_of_get hnb hj
        refine wpAny_bind (wpAny_dictEntries hob hdb ?_)
        rw [entry_at hkb j, hj]
        rcases hpre.inv with ⟨hn, _⟩ | ⟨y, e, b', hy, he, hrr, er⟩
        · rw [hv'] at hn; exact nomatch hn
        · have ey : p = y := Option.some.inj (hv'.symm.trans hy)
          subst ey
          refine wpAny_holding (he prog w _ _ ?_)
          cases e with
          | false =>
            rw [er, Bool.false_and] at h'
            show wpAny _ _ (if (!false) = true then _ else _) _ _ _
            rw [if_pos (by decide)]
            exact wpAny_pure (wpAny_pure h')
          | true =>
            rw [Bool.true_and] at er
            rw [← er] at hrr
            show wpAny _ _ (if (!true) = true then _ else _) _ _ _
            rw [if_neg (by decide)]
            refine wpAny_bind (wpAny_dictEpoch hoa hda ?_)
            rw [if_neg (by simp)]
            exact wpAny_pure ⟨rfl, rfl, x + 1, hrest, hlt, hrr⟩
    · rintro q s' ⟨rfl, rfl, i, hr, hi, hpre⟩
      have hin : i = es.size := by
        rcases Nat.lt_or_ge i es.size with h | h
        · have e : es.size - i = (es.size - (i + 1)) + 1 := by omega
          rw [e, List.range'_succ] at hr; exact nomatch hr
        · exact Nat.le_antisymm hi h
      refine wpAny_pure ?_
      rw [hin, ← hla, List.drop_length] at hpre
      cases hpre
      exact h'
theorem eqH {a b : Addr} {ka kb : List (K × Addr × Value)} {r : Bool} {Q : Value → Shared → Prop} (hr : knd.room A.in1) (ha : (a == sysModules) = false) (hb : (b == sysModules) = false)
    (da : s.heap.DictOfH knd a ka) (db : s.heap.DictOfH knd b kb) (hu : A.units < cLine) (hits : ka.length = kb.length → HitsH A.in1 s kb ka r) (h : Q (.bool (ka.length == kb.length && r)) s) :
    wpAny (model prog w) A (compareOp .Eq (.ref a) (.ref b)) Q E s := by
  refine wpAny_richCompare_same_room (op := .Eq) da.typeIs db.typeIs PySem.F.slot_dict_eq (wpAny_call_entry PySem.F.slot_dict_eq da.typeIs PySem.F.entry_dict_eq ?_ (PySem.F.args_dict_eq_2 _ _)) hu
  show wpAny _ _ (Builtin.Dict.dictSlotArgs "__eq__" ⟨[.ref a, .ref b], []⟩ >>= _) _ _ s
  refine wpAny_bind ?_
  unfold Builtin.Dict.dictSlotArgs
  refine wpAny_bind (wpAny_notOrdered_dict da.typeIs ?_)
  show wpAny _ _ (pure (Value.ref a, Value.ref b)) _ _ s
  refine wpAny_pure ?_
  refine wpAny_bind (wpAny_isInstance (T := "dict") db.typeIs PySem.F.sub_dict_dict ?_)
  simp only [Bool.not_true, Bool.false_eq_true, if_false]
  refine wpAny_bind (wpAny_pure (wpAny_bind (wpAny_pure ?_)))
  refine wpAny_bind (samePairsH hr ha hb da db hits ?_)
  refine wpAny_pure ⟨_, rfl, ?_, ?_⟩
  · exact fun x => nomatch x
  · simpa using h
theorem neH {a b : Addr} {ka kb : List (K × Addr × Value)} {r : Bool} {Q : Value → Shared → Prop} (hr : knd.room A.in1) (ha : (a == sysModules) = false) (hb : (b == sysModules) = false)
    (da : s.heap.DictOfH knd a ka) (db : s.heap.DictOfH knd b kb) (hu : A.units < cLine) (hits : ka.length = kb.length → HitsH A.in1 s kb ka r) (h : Q (.bool (!(ka.length == kb.length && r))) s) :
    wpAny (model prog w) A (compareOp .NotEq (.ref a) (.ref b)) Q E s := by
  refine wpAny_richCompare_same_room (op := .NotEq) da.typeIs db.typeIs PySem.F.slot_dict_ne (wpAny_call_entry PySem.F.slot_dict_ne da.typeIs PySem.F.entry_dict_ne ?_ (PySem.F.args_dict_ne_2 _ _)) hu
  show wpAny _ _ (Builtin.Dict.dictSlotArgs "__ne__" ⟨[.ref a, .ref b], []⟩ >>= _) _ _ s
  refine wpAny_bind ?_
  unfold Builtin.Dict.dictSlotArgs
  refine wpAny_bind (wpAny_notOrdered_dict da.typeIs ?_)
  show wpAny _ _ (pure (Value.ref a, Value.ref b)) _ _ s
  refine wpAny_pure ?_
  refine wpAny_bind (wpAny_isInstance (T := "dict") db.typeIs PySem.F.sub_dict_dict ?_)
  simp only [Bool.not_true, Bool.false_eq_true, if_false]
  refine wpAny_bind (wpAny_pure (wpAny_bind (wpAny_pure ?_)))
  refine wpAny_bind (samePairsH hr ha hb da db hits ?_)
  refine wpAny_pure ⟨_, rfl, ?_, ?_⟩
  · exact fun x => nomatch x
  · simpa using h
/-! ### dict(d) -/
theorem call_dictH {o : Addr} {more : List (K × Addr × Value)} {Q : Value → Shared → Prop} (st : knd.Stays) (hu : knd.room A.in1.in1) (hoS : (o == sysModules) = false) (ho : s.heap.DictOfH knd o more) (hap : (more.map fun x => knd.hash x.1).Nodup) (hsz : more.length ≤ sizeLine)
    (h : ∀ h', h'.DictOfH knd s.heap.objs.size more → (∀ b o, s.heap.get? b = some o → h'.get? b = some o) → Q (.ref s.heap.objs.size) { s with heap := h' }) :
    wpAny (model prog w) A (call (.type "dict") [.ref o]) Q E s := by
  refine callType_codes (Q₁ := fun obj s₁ => obj = .ref s.heap.objs.size ∧ s₁ = { s with heap := s.heap.push { cls := .type "dict", data := .dict #[] } }) F.kt_called_dict (F.kt_typeCall_dict_1 _) F.entry_dict_init (kt_code_dict_new _ ⟨rfl, rfl⟩) ?_
  rintro obj s₁ ⟨rfl, rfl⟩
  have hT : Shared.TypeIs { s with heap := s.heap.push { cls := .type "dict", data := .dict #[] } } (.ref s.heap.objs.size) "dict" := ⟨_, Heap.get?_push_size _ rfl, rfl⟩
  refine ⟨hT, F.args_dict_init_2 _ _, ?_⟩
  unfold Builtin.«dict.__init__»
  refine wpAny_bind ?_
  unfold Builtin.Dict.selfAndRest
  refine wpAny_bind (wpAny_notOrdered_dict hT ?_)
  show wpAny _ _ (pure (s.heap.objs.size, [Value.ref o])) _ _ _
  refine wpAny_pure ?_
  have ho2 : (s.heap.push { cls := .type "dict", data := .dict #[] }).DictOfH knd o more := by
    obtain ⟨ob, es, ep, h1, h2, h3, h4, h5, h6⟩ := ho
    exact ⟨ob, es, ep, Heap.get?_push_of_some _ h1, h2, h3, h4, fun x hx => st.stays (fun b o _ _ e _ => Heap.get?_push_of_some _ e) (h5 x hx), h6⟩
  have hne : s.heap.objs.size ≠ o := by
    obtain ⟨ob, _, _, h1, _⟩ := ho
    exact Nat.ne_of_gt (Heap.lt_size h1)
  refine updateFrom_dictH (A := A.in1) .none hu hne hoS (Heap.DictOfH.new s.heap) ho2 (.inr ⟨keyed_apart (s := { s with heap := s.heap.push { cls := .type "dict", data := .dict #[] } }) st ho2, hap⟩) (by simpa using hsz) fun h' hd' ho' hs => ?_
  refine ⟨rfl, h h' ?_ fun b ob e => (hs.2 b (Nat.ne_of_lt (Heap.lt_size e))).trans (Heap.get?_push_of_some _ e)⟩
  rw [storedAllH_nil_of_nodup _ ho.nodup] at hd'
  exact hd'
end

/-! ### a dict walked -/
/-- the keys of the dict at a, that stands as ob -/
def Itx (w : World) (a : Addr) (xs : List En) (ob : Obj) : It :=
  ⟨fun i H => H a = some (dicO w a xs ob) ∧ i < xs.length, fun i H x H' => H' = H ∧ ∃ e, xs[i]? = some e ∧ x = e.2.1, fun i H => H a = some (dicO w a xs ob) ∧ xs.length ≤ i⟩
section
variable {P : Program} {w : World} {K : PySem.W.Frag} {tg : Expr} {a : Addr} {ob : Obj} {xs : List En} {X : Cx} {pins : List (Addr × Obj)} {σ : L2.St} {H : Hp} {s : Shared}
theorem paired_at {α β : Type} {R : α → β → Prop} : ∀ {xs : List α} {ys : List β} {i : Nat} {x : α}, Paired R xs ys → xs[i]? = some x → ∃ y, ys[i]? = some y ∧ R x y
  | _, _, _, _, .nil, e => by simp at e
  | _, _, 0, _, .cons r _, e => by simp at e; subst e; exact ⟨_, rfl, r⟩
  | _, _, i + 1, x, .cons _ t, e => by
    obtain ⟨y, h1, h2⟩ := paired_at (i := i) (x := x) t (by simpa using e)
    exact ⟨y, by simpa using h1, h2⟩
theorem paired_len {α β : Type} {R : α → β → Prop} {xs : List α} {ys : List β} (p : Paired R xs ys) : xs.length = ys.length := by
  induction p with
  | nil => rfl
  | cons r _ ih => rw [List.length_cons, List.length_cons, ih]
theorem inv_dic (I : Inv X pins σ H s) (h : H a = some (dicO X.w a xs ob)) : (a == sysModules) = false ∧ s.heap.get? a = some ob ∧ ob.ExactDict ∧ ∃ es ep, ob.data = .dict es ep ∧ es.size = xs.length ∧
    ∀ (i : Nat) e, xs[i]? = some e → ∃ en, es[i]? = some en ∧ RelV e.2.1 en.key ∧ RelV e.2.2 en.val := by
  obtain ⟨⟨h1, es, ep, h2, h3, h4, h5, h6, h7⟩, _, _⟩ := I.hok a _ h
  refine ⟨h6, h1, h2, es, ep, h3, ?_, fun i e q => ?_⟩
  · rw [← Array.length_toList]; exact (paired_len h4).symm
  · obtain ⟨y, y1, y2⟩ := paired_at h4 q
    exact ⟨y, by rw [← Array.getElem?_toList]; exact y1, y2.2.1, y2.2.2⟩
theorem turn_dic {es : Array DictEntry} {ep : Nat} (it : Addr) (hod : ob.data = .dict es ep) : Turn P w K tg (Itx w a xs ob) [it] it (fun i h => h.IsKeyIter it a i xs.length ep) where
  mem := by simp
  obj := fun i h st b hb => by
    have e : b = it := by simpa using hb
    subst e
    obtain ⟨oi, e, c, dd⟩ := st
    exact ⟨oi, e, fun v z => by rw [dd] at z; cases z⟩
  keep := fun i h h' st k => st.at fun oi e => k it (by simp) oi e
  item := by
    intro X hP hw hK hc i pins s σ H E I hf st hg
    subst hP hw hK
    obtain ⟨hd, hi⟩ := hg
    obtain ⟨f0, f1, f2, f3, f4, f5⟩ := hf it (by simp)
    obtain ⟨hs, hgd, hx, es', ep', hdt, hsz, ent⟩ := inv_dic I hd
    obtain ⟨rfl, rfl⟩ := dict_ep hod hdt
    obtain ⟨e0, hkv⟩ : ∃ p, xs[i]? = some p := ⟨xs[i], List.getElem?_eq_getElem hi⟩
    obtain ⟨en, hen, hkey, _⟩ := ent i e0 hkv
    refine next_key_item st hgd hdt hsz hen fun h' st' sb => ?_
    have I1 : Inv X pins σ H { s with heap := h' } := I.turned (t' := s.toks) (fun b ob hb e => (sb.2 b hb).trans e) f0 f1 f3 f4 f5
    obtain ⟨oi, e, c, dd⟩ := id st'
    exact ⟨en.key, rfl, go_of (s := { s with heap := h' }) e c dd (by decide) ⟨e0.2.1, H, I1, hkey, ⟨rfl, e0, hkv, rfl⟩, st', fun b hb => (hf b hb).1⟩⟩
  done := by
    intro X hP hw hK hc i pins s σ H E I hf st hg
    subst hP hw hK
    obtain ⟨hd, hi⟩ := hg
    obtain ⟨f0, f1, f2, f3, f4, f5⟩ := hf it (by simp)
    obtain ⟨hs, hgd, hx, es', ep', hdt, hsz, ent⟩ := inv_dic I hd
    obtain ⟨rfl, rfl⟩ := dict_ep hod hdt
    exact next_key_end (I.ok.hd hc) st hgd hdt hsz hi fun h' eb => ⟨rfl, I.turned (t' := s.toks) (fun b ob hb e => eb b ob hb e) f0 f1 f3 f4 f5⟩
  self := fun A i s Q E st h => by
    refine wpAny_pyIter_slot st.typeIs F.slot_dict_keyiterator_iter (wpAny_call_entry F.slot_dict_keyiterator_iter st.typeIs F.entry_dict_keyiterator_iter ?_ (F.args_dict_keyiterator_iter_1 _))
    show wpAny _ _ (ret (.ref it)) _ _ s
    exact wpAny_pure ⟨_, rfl, "dict_keyiterator", _, st.typeIs, F.slot_dict_keyiterator_next.lookup, h⟩
def iDic (w : World) (te : TE) : TI := fun σ H R => te σ H fun v H1 => ∃ a xs ob, v = .ref a ∧ H1 a = some (dicO w a xs ob) ∧ R (Itx w a xs ob) H1
theorem pi_dic {e : Expr} {te : TE} (he : PE X e te) : PI X tg e (iDic X.w te) := by
  refine ⟨fun pins s σ H R I h => ?_⟩
  refine thn (he.run pins s σ H _ I h) fun u s1 ⟨x, H1, I1, rx, a, xs, ob, ex, hd, q⟩ => ?_
  subst ex
  obtain rfl : u = Value.ref a := rx
  obtain ⟨hs, hgd, hx, es, ep, hdt, hsz, ent⟩ := inv_dic I1 hd
  refine iter_keys hs hgd hx hdt (pi_one (tk := s1.toks) I1 _ (turn_dic _ hdt) ⟨_, Heap.get?_push_size _ rfl, rfl, ?_⟩ q)
  rw [hsz] <;> rfl
/-! ### get with a default; dict(d); == -/
def rGetD (w : World) (K : PySem.W.Frag) (mg : Str → Option Value) : V → List V → Hp → VK → Prop := fun x ys H Q => ∃ a xs ob k y z, x = .ref a ∧ ys = [y, z] ∧ H a = some (dicO w a xs ob) ∧ KeyV w K mg H y k ∧ (∀ e ∈ xs, KeyV w K mg H e.2.1 e.1) ∧ Q ((lkE xs k).getD z) H
theorem mt_getD (hu : X.A.in1.units + 8 < cLine) : MtR X "dict.get" (rGetD X.w X.K X.mg) := by
  intro pins s σ H x xs v us Q I rx rxs h
  obtain ⟨a, xs, ob, k, y, z, rfl, rfl, ha, hk, hks, q⟩ := h
  cases rx
  obtain ⟨u, uz, rfl, ru, rz⟩ := vals2 rxs
  obtain ⟨ys, hd, p, hm, hz⟩ := dic_read I ha hks
  obtain ⟨b, rfl, hb⟩ := hk.is I.hok
  cases ru
  refine getOr_keyed hu hb hm ⟨ys, hd, rfl⟩ ?_
  rw [valueAt_pairsH]
  rcases lk_at p k with ⟨e1, e2⟩ | ⟨z, qq, e1, e2, e3⟩
  · rw [e1] at q
    rw [e2]
    exact ⟨z, H, I.kept (t' := _) fun _ _ e => e, rz, q⟩
  · rw [e1] at q
    rw [e2]
    exact ⟨_, H, I.kept (t' := _) fun _ _ e => e, e3, q⟩
def rDic (w : World) (K : PySem.W.Frag) (mg : Str → Option Value) : List V → Hp → VK → Prop := fun vs H Q => ∃ a xs ob, vs = [V.ref a] ∧ H a = some (dicO w a xs ob) ∧ (∀ e ∈ xs, KeyV w K mg H e.2.1 e.1) ∧ (xs.map fun e => e.1.hash w).Nodup ∧
  ∀ p ob', H p = none → Q (.ref p) (upd H p (dicO w p xs ob'))
theorem prel_hash {P : Program} {w : World} {xs : List En} {ys : List (NestedKey × Addr × Value)} (p : Paired PRel xs ys) : (ys.map fun y => (nestedKind P w).hash y.1) = xs.map fun e => e.1.hash w := by
  induction p with
  | nil => rfl
  | cons r _ ih => rw [List.map_cons, List.map_cons, ih, r.1]; rfl
theorem cr_dic (hu : X.A.in1.in1.units + 8 < cLine) : CallR X (.type "dict") (rDic X.w X.K X.mg) := by
  intro pins s σ H vs us Q I r h
  obtain ⟨a, xs, ob, rfl, ha, hks, hn, q⟩ := h
  rw [Vals.ref1 r]
  obtain ⟨ys, hd, p, hm, hz⟩ := dic_read I ha hks
  refine call_dictH nestedKind_stays hu hm hd (by rw [prel_hash p]; exact hn) (by rw [← prel_len p]; exact hz) fun h' d' hk => ?_
  have hm2 : (s.heap.objs.size == sysModules) = false := beq_eq_false_iff_ne.mpr (Nat.ne_of_gt I.big)
  obtain ⟨ob', st⟩ := dicAt_of d' p hm2 hz
  exact ⟨.ref s.heap.objs.size, upd H s.heap.objs.size (dicO X.w s.heap.objs.size xs ob'), I.laid (t' := s.toks) (fun b u e => hk b u e) (Nat.le_refl _) (dicO_ok st), rfl, q _ ob' (I.hok.fresh (Nat.le_refl _))⟩
end
end Dl
/-! dicts with tuples as keys, more, as data. -/
namespace Dl
open PySem PySem.Spec PySem.W PyProof.Rows L2
section
variable {X : Cx} {W : WX} {w : World} {K : PySem.W.Frag} {mg : Str → Option Value} {F H : Hp} {a b e o tg : Expr} {fa fb fo fe : DE} {fs : DA} {pos p apos cpos : Pos} {k : Nat}
/-! ### for x in d -/
theorem RepE.get : ∀ {xs : List En} {es : List (D × D)} {i : Nat} {d : D}, RepE w K mg F xs es → (es.map (·.1))[i]? = some d → ∃ x, xs[i]? = some x ∧ Rep w K mg F x.2.1 d
  | _, _, _, _, .nil, e => by simp at e
  | _, _, 0, _, .cons h1 h2 h3 h4, e => by simp at e; subst e; exact ⟨_, rfl, h2⟩
  | _, _, i + 1, d, .cons h1 h2 h3 h4, e => by
    obtain ⟨u, k1, k2⟩ := RepE.get (i := i) (d := d) h4 (by simpa using e)
    exact ⟨u, by simpa using k1, k2⟩
theorem itOk_dic {a : Addr} {xs : List En} {ob : Obj} {es : List (D × D)} (h : F a = some (dicO X.w a xs ob)) (r : RepE X.w X.K X.mg F xs es) : ItOk X F (Itx X.w a xs ob) (es.map (·.1)) where
  go := fun i F1 H1 d s s1 e => by
    obtain ⟨v, e1, e2⟩ := RepE.get r e
    refine ⟨⟨s1 _ _ (s _ _ h), (List.getElem?_eq_some_iff.mp e1).1⟩, fun x H2 ⟨q1, v', q2, q3⟩ => ?_⟩
    subst q1 q3
    rw [e1] at q2
    cases q2
    exact ⟨F1, Gr.refl _ _, s1, e2.mono s⟩
  stop := fun F1 H1 s s1 => ⟨s1 _ _ (s _ _ h), by rw [List.length_map, ← re_len r]; exact Nat.le_refl _⟩
theorem itOkV_dic {a : Addr} {xs : List En} {ob : Obj} {es : List (D × D)} (h : H a = some (dicO X.w a xs ob)) (r : RepE X.w X.K X.mg F xs es) : ItOkV X F H (Itx X.w a xs ob) (es.map (·.1)) where
  go := fun i F1 H1 d s sh s1 e => by
    obtain ⟨v, e1, e2⟩ := RepE.get r e
    refine ⟨⟨sh _ _ h, (List.getElem?_eq_some_iff.mp e1).1⟩, fun x H2 ⟨q1, v', q2, q3⟩ => ?_⟩
    subst q1 q3
    rw [e1] at q2
    cases q2
    exact ⟨F1, Gr.refl _ _, s1, e2.mono s⟩
  stop := fun F1 H1 s sh s1 => ⟨sh _ _ h, by rw [List.length_map, ← re_len r]; exact Nat.le_refl _⟩
def itemsG : D → Res (List D)
  | .dic t es => if t ≠ .vw then .ok (es.map (·.1)) else .stuck
  | d => itemsOf d
def fItG (fe : DE) : DA := fun ρ => (fe ρ).bind itemsG
def itemsGV : D → Res (List D)
  | .dic _ es => .ok (es.map (·.1))
  | d => itemsOfV d
def fItGV (fe : DE) : DA := fun ρ => (fe ρ).bind itemsGV
theorem pid_seqG (he : PD X W e fe) : PID X W tg e (fItG fe) := ⟨fun pins s σ H Q I ⟨H0, F0, ρ, F, r, p⟩ => by
  by_cases c : ∃ t es, fe ρ = .ok (.dic t es)
  · obtain ⟨t, es, c⟩ := c
    refine (pi_dic he).run pins s σ H Q I ⟨H0, F0, ρ, F, r, p.bind (Gr.refl _ _) fun F1 H1 v d' e1 r1 g1 x1 p1 => ?_⟩
    rw [c] at e1
    cases e1
    obtain ⟨ht, p1⟩ := Post.guard (c := t ≠ .vw) p1
    obtain ⟨F2, r2, g2, s2, y⟩ := RX.freeze r r1 g1 x1 (by cases t with | vw => exact absurd rfl ht | fz => exact fun z => nomatch z | ow => exact fun z => nomatch z)
    cases (show Rep X.w X.K X.mg F2 v (.dic .fz es) from y) with
    | dic h3 h4 => exact ⟨_, _, _, rfl, r2.fh _ _ h3, p1.here r2 g2 (itOk_dic h3 h4)⟩
  · refine (pid_seq he).run pins s σ H Q I ⟨H0, F0, ρ, F, r, ?_⟩
    have e1 : fIt fe ρ = fItG fe ρ := by
      unfold fIt fItG
      cases q : fe ρ with
      | ok d =>
        cases d with
        | dic t es => exact absurd ⟨t, es, q⟩ c
        | _ => rfl
      | _ => rfl
    rw [e1]
    exact p⟩
theorem pidv_seqG (he : PD X W e fe) : PIDV X W tg e (fItGV fe) := ⟨fun pins s σ H Q I ⟨H0, F0, ρ, F, r, p⟩ => by
  by_cases c : ∃ t es, fe ρ = .ok (.dic t es)
  · obtain ⟨t, es, c⟩ := c
    refine (pi_dic he).run pins s σ H Q I ⟨H0, F0, ρ, F, r, p.bind (Gr.refl _ _) fun F1 H1 v d' e1 r1 g1 x1 p1 => ?_⟩
    rw [c] at e1
    cases e1
    obtain ⟨q, xs, ob, rfl, h1, h2⟩ := x1.dic r1.fh
    exact ⟨q, xs, ob, rfl, h1, p1.here r1 g1 (itOkV_dic h1 h2)⟩
  · refine (pidv_seq he).run pins s σ H Q I ⟨H0, F0, ρ, F, r, ?_⟩
    have e1 : fItV fe ρ = fItGV fe ρ := by
      unfold fItV fItGV
      cases q : fe ρ with
      | ok d =>
        cases d with
        | dic t es => exact absurd ⟨t, es, q⟩ c
        | _ => rfl
      | _ => rfl
    rw [e1]
    exact p⟩
@[simp] theorem fItG_ap (fe : DE) (ρ : DEnv) : fItG fe ρ = (fe ρ).bind itemsG := rfl
@[simp] theorem itemsG_l (t : Tg) (ds : List D) : itemsG (.lst t ds) = if t ≠ .vw then .ok ds else .stuck := rfl
@[simp] theorem itemsG_t (ds : List D) : itemsG (.tup ds) = .ok ds := rfl
@[simp] theorem itemsG_d (t : Tg) (es : List (D × D)) : itemsG (.dic t es) = if t ≠ .vw then .ok (es.map (·.1)) else .stuck := rfl
@[simp] theorem fItGV_ap (fe : DE) (ρ : DEnv) : fItGV fe ρ = (fe ρ).bind itemsGV := rfl
@[simp] theorem itemsGV_l (t : Tg) (ds : List D) : itemsGV (.lst t ds) = .ok ds := rfl
@[simp] theorem itemsGV_t (ds : List D) : itemsGV (.tup ds) = .ok ds := rfl
@[simp] theorem itemsGV_d (t : Tg) (es : List (D × D)) : itemsGV (.dic t es) = .ok (es.map (·.1)) := rfl
/-! ### d.get(k, z) -/
def opGetD (es : List (D × D)) : List D → Res D
  | [b, z] => (match b.ky with
    | some k => if allK es = true ∧ z.tg = .fz then .ok ((getK es k).getD z) else .stuck
    | none => .stuck)
  | _ => .stuck
def fGetD (fo : DE) (fs : DA) : DE := fun ρ => (fo ρ).bind fun d => match d with
  | .dic _ es => (fs ρ).bind fun ds => opGetD es ds
  | _ => .stuck
theorem pd_getD {e2 : Expr} (hr : Room k X.A) (ho : PD X W o fo) (ha : PAD X W [e, e2] fs)
    (hbase : attributeBase o "get" X.env (eval o X.env) = eval o X.env := by rfl)
    (hfew : ((backTo cpos (starEach [e, e2] X.env)).all (fun x => !x.1) && (backToKw cpos (keywordEach [] X.env)).all (fun x => x.1.isSome) && decide ([e, e2].length + ([] : List Keyword).length + (if ([] : List Keyword).isEmpty then 0 else 1) < 30)) = true := by rfl)
    (hline : (apos.endLine == cpos.line) = true := by rfl) (hs : starEach [e, e2] X.env = (false, eval e X.env) :: starEach [e2] X.env := by rfl) (hplain : (backTo cpos (starEach [e2] X.env)).any (·.1) = false := by rfl) :
    PD X W (.Call (.Attribute o "get" apos) [e, e2] [] cpos) (fGetD fo fs) :=
  (pe_bmX PySem.F.slot_dict_get PySem.F.type_dict_get (mt_getD (in1_room hr)) ho ha hbase hfew hline hs hplain).imp fun σ H Q h => by
    obtain ⟨H0, F0, ρ, F, r0, p⟩ := h
    refine ⟨H0, F0, ρ, F, r0, p.bind (Gr.refl _ _) fun F1 H1 v d _ r1 g1 x1 p1 => ?_⟩
    cases d with
    | dic t es =>
      obtain ⟨q, xs, ob, rfl, h1, h2⟩ := x1.dic r1.fh
      refine ⟨⟨q, xs, ob, rfl, h1⟩, H0, F0, ρ, F1, r1, p1.bind g1 fun F2 H2 us ds _ r2 g2 x2 p2 => ?_⟩
      match ds, x2, p2 with
      | [b, z], x2, p2 =>
        obtain ⟨u, uz, rfl, x3, x4⟩ := x2.inv2
        unfold opGetD at p2
        dsimp only at p2
        cases e : b.ky with
        | none => rw [e] at p2; exact p2.elim
        | some k =>
          rw [e] at p2
          obtain ⟨⟨h, hz⟩, p2⟩ := Post.guard p2
          obtain ⟨ds, rfl, _, _⟩ := D.ky_of e
          refine ⟨q, xs, ob, k, u, uz, rfl, rfl, g2.hh _ _ h1, keyV_of (x3.rep rfl) e r2.fh, re_keys (h2.mono g2.ff) h r2.fh, ?_⟩
          rcases re_lk (h2.mono g2.ff) k with ⟨l1, l2⟩ | ⟨z, d, l1, l2, rz⟩
          · rw [l2] at p2
            rw [l1]
            exact p2.here r2 (g1.trans g2) (RX.fz (x4.rep hz))
          · rw [l2] at p2
            rw [l1]
            exact p2.here r2 (g1.trans g2) (RX.fz rz)
      | [], x2, p2 => exact False.elim p2
      | [_], x2, p2 => exact False.elim p2
      | _ :: _ :: _ :: _, x2, p2 => exact False.elim p2
    | _ => exact p1.elim
@[simp] theorem fGetD_ap (fo : DE) (fs : DA) (ρ : DEnv) : fGetD fo fs ρ = (fo ρ).bind fun d => match d with
  | .dic _ es => (fs ρ).bind fun ds => opGetD es ds
  | _ => .stuck := rfl
theorem opGetD_ap (es : List (D × D)) (b z : D) : opGetD es [b, z] = match b.ky with
    | some k => if allK es = true ∧ z.tg = .fz then .ok ((getK es k).getD z) else .stuck
    | none => .stuck := rfl
/-! ### dict(d) -/
mutual
/-- a key's hash, where no text is in it -/
def kh : NestedKey → Option Int
  | .none => some (reduceHash 0xFCA86420)
  | .num i => some (hashInt i)
  | .text _ => none
  | .tup ks => (khs ks).map fun l => reduceHash (Builtin.Tuple.tupleHashOf l)
def khs : List NestedKey → Option (List Int)
  | [] => some []
  | k :: ks => (kh k).bind fun h => (khs ks).map (h :: ·)
end
mutual
theorem kh_eq : ∀ {k : NestedKey} {h : Int}, kh k = some h → k.hash w = h
  | .none, h, e => by simp only [kh, Option.some.injEq] at e; rw [← e]; rfl
  | .num i, h, e => by simp only [kh, Option.some.injEq] at e; rw [← e]; rfl
  | .text _, h, e => by simp [kh] at e
  | .tup ks, h, e => by
    simp only [kh, Option.map_eq_some_iff] at e
    obtain ⟨l, e1, rfl⟩ := e
    rw [← khs_eq e1]
    rfl
theorem khs_eq : ∀ {ks : List NestedKey} {l : List Int}, khs ks = some l → NestedKey.hashes w ks = l
  | [], l, e => by simp only [khs, Option.some.injEq] at e; rw [← e]; rfl
  | k :: ks, l, e => by
    simp only [khs, Option.bind_eq_some_iff, Option.map_eq_some_iff] at e
    obtain ⟨h, e1, l2, e2, rfl⟩ := e
    rw [← kh_eq e1, ← khs_eq e2]
    rfl
end
def hkeys (es : List (D × D)) : List (Option Int) := es.map fun e => e.1.key.bind kh
/-- no two keys have one hash -/
def HashOk (es : List (D × D)) : Prop := (∀ h ∈ hkeys es, h.isSome = true) ∧ (hkeys es).Nodup
noncomputable instance (es : List (D × D)) : Decidable (HashOk es) := Classical.propDecidable _
noncomputable def dict1 : D → Res D
  | .dic _ es => if allK es = true ∧ HashOk es then .ok (.dic .ow es) else .stuck
  | _ => .stuck
theorem re_hash {xs : List En} {es : List (D × D)} (h : RepE w K mg F xs es) (q : ∀ h ∈ hkeys es, h.isSome = true) : (xs.map fun e => some (e.1.hash w)) = hkeys es := by
  induction es generalizing xs with
  | nil => cases h; rfl
  | cons e' es ih =>
    cases h with
    | @cons k' kv vv kd vd xs _ e1 q1 q2 rs =>
      have h1 := q (kd.key.bind kh) (List.mem_cons_self ..)
      obtain ⟨z, hz⟩ := Option.isSome_iff_exists.mp h1
      rw [e1] at hz
      show some (k'.hash w) :: _ = (kd.key.bind kh) :: hkeys es
      rw [ih rs fun h hh => q h (List.mem_cons_of_mem _ hh), e1]
      rw [show (some k').bind kh = kh k' from rfl] at hz ⊢
      rw [hz, kh_eq hz]
theorem ok_dict : UnOk X W dict1 (fun v H Q => rDic X.w X.K X.mg [v] H Q) := by
  intro H0 F0 ρ σ F H F2 H2 v d Q r r2 g x p
  cases d with
  | dic t es =>
    obtain ⟨⟨h, h1, h2⟩, p⟩ := Post.guard p
    obtain ⟨q, xs, ob, rfl, e1, e2⟩ := x.dic r2.fh
    have hn := re_hash e2 h1
    refine ⟨q, xs, ob, rfl, e1, re_keys e2 h r2.fh, ?_, fun q' ob' n => ?_⟩
    · rw [← hn] at h2
      have : (xs.map fun e => some (e.1.hash X.w)) = (xs.map fun e => e.1.hash X.w).map some := by rw [List.map_map]; rfl
      rw [this] at h2
      exact (List.pairwise_map.mp h2).imp fun h e => h (congrArg some e)
    · exact p.at r2 g (Gr.alloc n) (same_updF r2.fh n) ⟨q', dicO X.w q' xs ob', rfl, same_none g.hh n, same_none r2.fh n, upd_same, xs, ob', rfl, e2⟩
  | _ => exact p.elim
theorem in2_room (hr : Room k X.A) : X.A.in1.in1.units + 8 < cLine := by
  have := hr.un
  have e : X.A.in1.in1.units ≤ X.A.units + 8 := by
    show X.A.units + 1 + 1 ≤ _
    omega
  omega
theorem pd_dict (hr : Room k X.A) (hg : Gl X "dict") (hm : X.mg "dict" = none) (ha : PAD X W [e] fs) (he : starEach [e] X.env = (false, eval e X.env) :: starEach [] X.env := by rfl) (hpl : (backTo pos (starEach [] X.env)).any (·.1) = false := by rfl) :
    PD X W (.Call (.Name "dict" p) [e] [] pos) (fCall (op1 dict1) fs) := pd_callTy (cr_dic (in2_room hr)) (ok_op1 ok_dict fun v H Q h => h) hg hm (by decide +kernel) ha (by decide) (by decide) he hpl
theorem dict1_of (t : Tg) {es : List (D × D)} (h : allK es = true) (h2 : HashOk es) : dict1 (.dic t es) = .ok (.dic .ow es) := by
  show (if allK es = true ∧ HashOk es then Res.ok (D.dic .ow es) else .stuck) = _
  rw [if_pos ⟨h, h2⟩]
end
end Dl
/-! dicts compared, displayed, emptied. -/
namespace Dl
open PySem PySem.Spec PySem.W PyProof.Rows L2
section
variable {X : Cx} {W : WX} {w : World} {K : PySem.W.Frag} {mg : Str → Option Value} {F H : Hp} {a b e o tg : Expr} {fa fb fo fe : DE} {fs : DA} {pos p apos cpos : Pos} {k : Nat}
/-! ### == -/
def allS (es : List (D × D)) : Bool := es.all fun e => SeqAt.shaped e.2.py
def inK (fs : List (D × D)) (e : D × D) : Bool := match e.1.key with
  | some k => (match getK fs k with
    | some v => deq e.2 v
    | none => false)
  | none => false
/-- the same keys, equal values -/
def deqK (es fs : List (D × D)) : Bool := es.length == fs.length && es.all (inK fs)
def opEqX (neg : Bool) (a b : D) : Res D := match a, b with
  | .dic _ es, .dic _ fs => if allK es = true ∧ allK fs = true ∧ allS es = true ∧ allS fs = true then .ok (.bl (if neg then !deqK es fs else deqK es fs)) else .stuck
  | a, b => if neg then opNe a b else opEq a b
def rEqX (w : World) (K : PySem.W.Frag) (mg : Str → Option Value) (neg : Bool) : R2 := fun x y H Q => (∃ a b xs ys ob ob' es fs F, x = .ref a ∧ y = .ref b ∧ H a = some (dicO w a xs ob) ∧ H b = some (dicO w b ys ob') ∧ Same F H ∧ RepE w K mg F xs es ∧ RepE w K mg F ys fs ∧
  allK es = true ∧ allK fs = true ∧ allS es = true ∧ allS fs = true ∧ Q (.bl (if neg then !deqK es fs else deqK es fs)) H) ∨ (if neg then rNeD K x y H Q else rEqD K x y H Q)
theorem getK_mem : ∀ {fs : List (D × D)} {k : NestedKey} {v : D}, getK fs k = some v → ∃ e ∈ fs, e.2 = v := by
  intro fs
  induction fs with
  | nil => intro k v h; cases h
  | cons e fs ih =>
    intro k v h
    unfold getK at h
    split at h
    · cases h; exact ⟨e, List.mem_cons_self .., rfl⟩
    · obtain ⟨z, hz, ez⟩ := ih h
      exact ⟨z, List.mem_cons_of_mem _ hz, ez⟩
theorem hitsX {pins : List (Addr × Obj)} {σ : L2.St} {s : Shared} {A : Around} (I : Inv X pins σ H s) (sm : Same F H) {ys : List En} {fs : List (D × D)} {kb : List (NestedKey × Addr × Value)} (ry : RepE X.w X.K X.mg F ys fs) (pb : Paired PRel ys kb) (sf : allS fs = true) (hu : A.in1.units + 64 < cLine) :
    ∀ {xs : List En} {es : List (D × D)} {ka : List (NestedKey × Addr × Value)}, RepE X.w X.K X.mg F xs es → Paired PRel xs ka → allS es = true → HitsH A.in1 s kb ka (es.all (inK fs))
  | _, _, _, .nil, .nil, _ => .nil
  | _, _, _, @RepE.cons _ _ _ _ k0 kv vv kd vd xs es e1 q1 q2 rs, .cons (b := y) (l₂ := ka) pr pa, sa => by
    unfold allS at sa
    rw [List.all_cons, Bool.and_eq_true] at sa
    have ih := hitsX I sm ry pb sf hu rs pa sa.2
    rw [List.all_cons]
    obtain ⟨h1, h2, h3⟩ := pr
    dsimp only at h1 h2 h3
    rcases re_lk ry k0 with ⟨l1, l2⟩ | ⟨z, d, l1, l2, rz⟩
    · rcases lk_at pb k0 with ⟨m1, m2⟩ | ⟨v, q, m1, _⟩
      · have e2 : inK fs (kd, vd) = false := by
          unfold inK
          rw [e1]
          dsimp only
          rw [l2]
        rw [e2, Bool.false_and]
        exact .miss (by rw [← h1]; exact m2)
      · rw [l1] at m1; cases m1
    · rcases lk_at pb k0 with ⟨m1, m2⟩ | ⟨v, q, m1, m2, m3⟩
      · rw [l1] at m1; cases m1
      · rw [l1] at m1
        cases m1
        have e2 : inK fs (kd, vd) = PyData.eqv vd.py d.py := by
          unfold inK
          rw [e1]
          dsimp only
          rw [l2]
          rfl
        rw [e2]
        obtain ⟨f, hf, ef⟩ := getK_mem l2
        have sd : SeqAt.shaped d.py = true := by
          unfold allS at sf
          rw [← ef]
          exact List.all_eq_true.mp sf f hf
        obtain ⟨as, r1⟩ := Dp.reads I _ _ _ (Rep.dp sm q2 (SeqAt.canLay_of_shaped sa.1)) h3
        obtain ⟨bs, r2⟩ := Dp.reads I _ _ _ (Rep.dp sm rz (SeqAt.canLay_of_shaped sd)) m3
        exact .hit (y := q) (by rw [← h1]; exact m2) (keq_at r1 r2 sa.1 sd hu) ih
theorem op_eqX (hr : Room k X.A) : OpR X (compareOp .Eq) (rEqX X.w X.K X.mg false) := by
  intro pins s σ H x y v u Q I rx ry h
  rcases h with ⟨a, b, xs, ys, ob, ob', es, fs, F, rfl, rfl, ha, hb, sm, r1, r2, k1, k2, s1, s2, q⟩ | h
  · cases rx
    cases ry
    obtain ⟨ka, da, pa, ma, _⟩ := dic_read I ha (re_keys r1 k1 sm)
    obtain ⟨kb, db, pb, mb, _⟩ := dic_read I hb (re_keys r2 k2 sm)
    have hu := hr.un
    refine eqH (r := es.all (inK fs)) (in1_room hr) ma mb da db (by omega) (fun _ => hitsX I sm r2 pb s2 (by show X.A.units + 1 + 64 < _; omega) r1 pa s1) ?_
    rw [← prel_len pa, ← prel_len pb, re_len r1, re_len r2]
    exact ⟨.bl _, H, I, rfl, q⟩
  · exact op_eqD hr.units pins s σ H x y v u Q I rx ry h
theorem op_neX (hr : Room k X.A) : OpR X (compareOp .NotEq) (rEqX X.w X.K X.mg true) := by
  intro pins s σ H x y v u Q I rx ry h
  rcases h with ⟨a, b, xs, ys, ob, ob', es, fs, F, rfl, rfl, ha, hb, sm, r1, r2, k1, k2, s1, s2, q⟩ | h
  · cases rx
    cases ry
    obtain ⟨ka, da, pa, ma, _⟩ := dic_read I ha (re_keys r1 k1 sm)
    obtain ⟨kb, db, pb, mb, _⟩ := dic_read I hb (re_keys r2 k2 sm)
    have hu := hr.un
    refine neH (r := es.all (inK fs)) (in1_room hr) ma mb da db (by omega) (fun _ => hitsX I sm r2 pb s2 (by show X.A.units + 1 + 64 < _; omega) r1 pa s1) ?_
    rw [← prel_len pa, ← prel_len pb, re_len r1, re_len r2]
    exact ⟨.bl _, H, I, rfl, q⟩
  · exact op_neD hr.units pins s σ H x y v u Q I rx ry h
theorem ok_eqX (neg : Bool) : OpOk X W (opEqX neg) (rEqX X.w X.K X.mg neg) := by
  intro H0 F0 ρ σ F H F2 H2 v u a b Q r r2 g x y p
  have other : Post X W (RXX X) H0 F0 ρ σ F H (if neg then opNe a b else opEq a b) Q → rEqX X.w X.K X.mg neg v u H2 Q := fun p => by
    cases neg with
    | true => exact .inr (ok_ne r r2 g x y p)
    | false => exact .inr (ok_eq r r2 g x y p)
  cases a with
  | dic t es =>
    cases b with
    | dic t' fs =>
      obtain ⟨⟨h1, h2, h3, h4⟩, p⟩ := Post.guard p
      obtain ⟨q1, xs, ob, rfl, e1, e2⟩ := x.dic r2.fh
      obtain ⟨q2, ys, ob', rfl, e3, e4⟩ := y.dic r2.fh
      exact .inl ⟨q1, q2, xs, ys, ob, ob', es, fs, F2, rfl, rfl, e1, e3, r2.fh, e2, e4, h1, h2, h3, h4, p.here r2 g (RX.fz (.bl _))⟩
    | _ => exact other p
  | _ => exact other p
theorem pd_eqX (hr : Room k X.A) (ha : PD X W a fa) (hb : PD X W b fb) : PD X W (.Compare a [.Eq] [b] pos) (fB (opEqX false) fa fb) := (pe_cmpR (op_eqX hr) ha hb (nomark _)).imp fun _ _ _ => bin_imp (ok_eqX false)
theorem pd_neX (hr : Room k X.A) (ha : PD X W a fa) (hb : PD X W b fb) : PD X W (.Compare a [.NotEq] [b] pos) (fB (opEqX true) fa fb) := (pe_cmpR (op_neX hr) ha hb (nomark _)).imp fun _ _ _ => bin_imp (ok_eqX true)
theorem ptd_eqX (hr : Room k X.A) (ha : PD X W a fa) (hb : PD X W b fb) : PTD X W (.Compare a [.Eq] [b] pos) (tOf (fB (opEqX false) fa fb)) := ptd_cmp (op_eqX hr) (ok_eqX false) ha hb (nomark _)
theorem ptd_neX (hr : Room k X.A) (ha : PD X W a fa) (hb : PD X W b fb) : PTD X W (.Compare a [.NotEq] [b] pos) (tOf (fB (opEqX true) fa fb)) := ptd_cmp (op_neX hr) (ok_eqX true) ha hb (nomark _)
/-! ### {k: v} -/
def tDic1 (w : World) (K : PySem.W.Frag) (mg : Str → Option Value) (tk tv : TE) : TE := fun σ H Q => ∀ p ob0, H p = none → tk σ (upd H p (dicO w p [] ob0)) fun x H1 => tv σ H1 fun y H2 => ∃ kk, H2 p = some (dicO w p [] ob0) ∧ KeyV w K mg H2 x kk ∧ ∀ ob, Q (.ref p) (upd H2 p (dicO w p [(kk, x, y)] ob))
theorem pe_dic1 {ke ve : Expr} {tk tv : TE} (hk : PE X ke tk) (hv : PE X ve tv) (hu : X.A.units + 8 < cLine) : PE X (.Dict [some ke] [ve] pos) (tDic1 X.w X.K X.mg tk tv) := by
  refine ⟨fun pins s σ H Q I q => ?_⟩
  have hn := I.hok.fresh (Nat.le_refl s.heap.objs.size)
  have I1 := I.laid (a := s.heap.objs.size) (o := dicO X.w s.heap.objs.size [] { cls := .type "dict", data := .dict #[] }) (h' := s.heap.push { cls := .type "dict", data := .dict #[] }) (t' := s.toks) (fun _ _ q => Heap.get?_push_of_some _ q) (Nat.le_refl _)
    (dicO_ok ⟨Heap.get?_push_size _ rfl, #[], 0, ⟨rfl, rfl, rfl⟩, rfl, .nil, List.nodup_nil, beq_eq_false_iff_ne.mpr (Ne.symm (Nat.ne_of_lt I.big)), Nat.zero_le _⟩)
  have hsh : (evalEachOpt [some ke] X.env).zip ((evalEach [ve] X.env).map fun v => do let x ← v; standAt pos; pure x) = [((eval ke X.env : Sem Value), (do let x ← eval ve X.env; standAt pos; pure x : Sem Value))].map fun p => (some p.1, p.2) := by rfl
  rw [arm_eval_Dict, hsh, dictDisplay_pairs _ (by simp) (by simp)]
  refine wpAny_bind (wpAny_standAt (wpAny_bind (wpAny_subDictH (knd := nestedKind X.prog X.w) (Q := fun d s' => wpAny (model X.prog X.w) X.A (pure (Value.ref d)) (EP X pins σ Q) X.xe s') hu (by simp) ?_)))
  refine evalPairs_cons (thn (hk.run pins _ σ _ _ I1 (q _ _ hn)) fun u s1 ⟨x, H1, I2, rx, q1⟩ => wpAny_bind (thn (hv.run pins s1 σ H1 _ I2 q1) fun vv s2 ⟨y, H2, I3, ry, kk, e, hkv, q2⟩ => wpAny_bind (wpAny_standAt (wpAny_pure (evalPairs_nil ?_)))))
  obtain ⟨b, rfl, hb⟩ := hkv.is I3.hok
  cases rx
  obtain ⟨ys, hd, pr, hm, _⟩ := dic_read (xs := []) I3 e (fun e he => by cases he)
  cases pr
  refine ⟨[(kk, b, vv)], ⟨rfl, rfl, hb, True.intro⟩, hd, fun h' tk d' hs => wpAny_pure ?_⟩
  have pr2 : Paired PRel [(kk, V.ref b, y)] [(kk, b, vv)] := .cons ⟨rfl, rfl, ry⟩ .nil
  obtain ⟨ob', st⟩ := dicAt_of (xs := [(kk, V.ref b, y)]) (ys := [(kk, b, vv)]) (X := X) d' pr2 hm (by rw [sizeLine_eq]; simp)
  exact ⟨.ref s.heap.objs.size, _, I3.write (e := s.heap.objs.size) (t' := tk) (by rw [e]; trivial) (.inl rfl) (fun c z hc hz => (hs.2 c hc).trans hz) ⟨ob', st.1⟩ (dicO_ok st), rfl, q2 ob'⟩
def fDic1 (fk fv : DE) : DE := fun ρ => (fk ρ).bind fun kd => (fv ρ).bind fun d => match kd.ky with
  | some _ => if d.tg ≠ .vw then .ok (.dic .ow [(kd, d.re .fz)]) else .stuck
  | none => .stuck
theorem pd_dic1 {ke ve : Expr} {fk fv : DE} (hr : Room k X.A) (hk : PD X W ke fk) (hv : PD X W ve fv) : PD X W (.Dict [some ke] [ve] pos) (fDic1 fk fv) := (pe_dic1 hk hv (by have := hr.un; omega)).imp fun σ H Q ⟨H0, F0, ρ, F, r, pp⟩ q ob0 hq => by
  have fq : F q = none := same_none r.fh hq
  have ra := r.alloc (o := dicO X.w q [] ob0) hq
  have ga : Gr F H F (upd H q (dicO X.w q [] ob0)) := Gr.alloc hq
  refine ⟨H0, F0, ρ, F, ra, pp.bind ga fun F1 H1 x kd _ r1 g1 x1 p1 => ⟨H0, F0, ρ, F1, r1, p1.bind (ga.trans g1) fun F2 H2 y d _ r2 g2 x2 p2 => ?_⟩⟩
  cases c : kd.ky with
  | none => rw [c] at p2; exact p2.elim
  | some kk =>
    rw [c] at p2
    obtain ⟨ht, p2⟩ := Post.guard p2
    obtain ⟨ds, rfl, ek, _⟩ := Dl.D.ky_of c
    have gt := g1.trans g2
    obtain ⟨F3, r3, g3, s3, yr⟩ := RX.freeze ra r2 gt (x2.start g1.hh) ht
    have e0 : H2 q = some (dicO X.w q [] ob0) := gt.hh _ _ upd_same
    have f3 : F3 q = none := by
      cases z : F3 q with
      | none => rfl
      | some u =>
        rcases g3.nw q (by rw [z]; simp) with h | h
        · exact absurd fq h
        · rw [upd_same] at h; cases h
    have kr := ((x1.rep rfl).mono g2.ff).mono s3
    refine ⟨kk, e0, keyV_of kr c r3.fh, fun ob => ?_⟩
    have fh : Same F3 (upd H2 q (dicO X.w q [(kk, x, y)] ob)) := fun b u e => by rw [upd_ne (ne_of_none e f3)]; exact r3.fh _ _ e
    have gf : Gr F H F3 (upd H2 q (dicO X.w q [(kk, x, y)] ob)) := ⟨g3.ff, fun b u e => by
      have hb : b ≠ q := ne_of_none e hq
      rw [upd_ne hb]
      exact g3.hh _ _ (by rw [upd_ne hb]; exact e), fun b e => by
      rcases g3.nw b e with h | h
      · exact .inl h
      · by_cases hb : b = q
        · rw [hb]; exact .inr hq
        · rw [upd_ne hb] at h; exact .inr h⟩
    exact p2 F3 _ (.ref q) (r.grow gf fh) gf ⟨q, dicO X.w q [(kk, x, y)] ob, rfl, hq, f3, upd_same, _, ob, rfl, .cons ek kr yr .nil⟩
@[simp] theorem fDic1_ap (fk fv : DE) (ρ : DEnv) : fDic1 fk fv ρ = (fk ρ).bind fun kd => (fv ρ).bind fun d => match kd.ky with
  | some _ => if d.tg ≠ .vw then .ok (.dic .ow [(kd, d.re .fz)]) else .stuck
  | none => .stuck := rfl
theorem opEqX_d (neg : Bool) (t t' : Tg) {es fs : List (D × D)} (h1 : allK es = true) (h2 : allK fs = true) (h3 : allS es = true) (h4 : allS fs = true) : opEqX neg (.dic t es) (.dic t' fs) = .ok (.bl (if neg then !deqK es fs else deqK es fs)) := by
  show (if allK es = true ∧ allK fs = true ∧ allS es = true ∧ allS fs = true then Res.ok (D.bl (if neg then !deqK es fs else deqK es fs)) else .stuck) = _
  rw [if_pos ⟨h1, h2, h3, h4⟩]
end
end Dl
/-! list(reversed(list)), reversed of a list or a tuple in a for. -/
namespace Dl
open PySem PySem.Spec PySem.W PyProof.Rows L2
section
variable {prog : Program} {w : World} {A : Around} {E : Value → Shared → Prop} {s : Shared}
theorem rev_extend {R : Result → Shared → Prop} {it l S : Addr} {items : Array Value} (hh : A.handled = none) (hit : s.heap.IsRevIter it l ((items.size : Int) - 1)) (hl : s.heap.IsList l items) (hne : l ≠ it) (hn : items.size ≤ sizeLine) (hSi : S ≠ it) (hSl : S ≠ l) (res : Value) (c₀ : Nat)
    (hS : s.heap.get? S = some { cls := .type "list", data := .seq #[] c₀ })
    (hR : ∀ h' tk acc' c', (∀ b o, b ≠ S → b ≠ it → s.heap.get? b = some o → h'.get? b = some o) → h'.get? S = some { cls := .type "list", dict := none, data := .seq acc' c', slots := #[] } → ItemsOf (fun i v => items[items.size - 1 - i]? = some v) acc' items.size → R (.ok (.ret res)) { s with heap := h', toks := tk }) :
    wpAny (model prog w) A.in1 (Builtin.List.listExtendWith (.ref S) (.ref it) res)
      (fun fin s' => match fin with | .done f => R (.ok f) s' | .again c' => c'.quiet = true ∧ codeAny (model prog w) A c' R s') (fun e s' => R (.error e) s') s := by
  have W := (Walks.listRev (prog := prog) (w := w) (A := A.in1) hh it l hne items).toS
  have hSf : S ∉ [it, l] := by simp only [List.mem_cons, List.not_mem_nil, or_false, not_or]; exact ⟨hSi, hSl⟩
  have hT : s.TypeIs (.ref it) "list_reverseiterator" := hit.typeIs
  have h1 : Builtin.List.listSameRef (.ref S) (.ref it) = false := by simp [Builtin.List.listSameRef, hSi]
  unfold Builtin.List.listExtendWith
  refine wpAny_bind (wpAny_typeOf hT ?_)
  rw [if_neg (by rw [h1]; decide)]
  refine wpAny_bind (wpAny_pyIter_revIter hit ?_)
  refine wpAny_bind (wpAny_holding ?_)
  unfold Builtin.List.listLengthHint
  refine wpAny_bind (wpAny_specialOf hT RT.nolen_lri ?_)
  show wpAny _ A.in1 (specialOf (Value.ref it) (Str.ofString "__length_hint__") >>= _) _ _ _
  refine wpAny_bind (wpAny_specialOf hT RT.hint_lri ?_)
  generalize hid : ("list_reverseiterator.__length_hint__" : String) = id0
  wp_delta
  rw [show splitId id0 = some ("list_reverseiterator", "__length_hint__") from by subst hid; decide +kernel]
  subst hid
  refine wpAny_bind (wpAny_isInstance (b := true) hT (by rw [isSubtype_type]; kernel_rfl) ?_)
  refine wpAny_pure ?_
  rw [if_neg (by decide)]
  have e0 : ((items.size : Nat) : Int) - 1 - ((0 : Nat) : Int) = (items.size : Int) - 1 := by omega
  refine wpAny_pure ⟨plainId_quiet F.plain_extend_loop _, codeAny_extend_loopS W hn _ hSf _ items.size 0 _ _ _ rfl (Nat.zero_le _) ⟨Nat.zero_le _, by rw [e0]; exact hit, hl⟩ hS (ItemsOf.nil _) fun s' acc' c' hm hS' hacc => ?_⟩
  rw [Moved.eq_with hm]
  refine hR s'.heap s'.toks acc' c' (fun b o hb hb2 e => hm.heap b o (fun hmem => ?_) e) hS' hacc
  rcases List.mem_cons.mp hmem with e' | hmem
  · exact hb e'
  · exact hb2 (List.mem_singleton.mp hmem)
theorem call_list_rev {it l : Addr} {items : Array Value} {Q : Value → Shared → Prop} (hh : A.handled = none) (hit : s.heap.IsRevIter it l ((items.size : Int) - 1)) (hl : s.heap.IsList l items) (hne : l ≠ it) (hn : items.size ≤ sizeLine)
    (hQ : ∀ h' tk acc' c', (∀ b o, b ≠ it → s.heap.get? b = some o → h'.get? b = some o) → h'.get? s.heap.objs.size = some { cls := .type "list", dict := none, data := .seq acc' c', slots := #[] } → ItemsOf (fun i v => items[items.size - 1 - i]? = some v) acc' items.size → Q (.ref s.heap.objs.size) { s with heap := h', toks := tk }) :
    wpAny (model prog w) A (call (.type "list") [.ref it]) Q E s := by
  obtain ⟨oi, hoi, _⟩ := id hit
  obtain ⟨ol, hol, _⟩ := id hl
  have hSi : s.heap.objs.size ≠ it := Nat.ne_of_gt (Heap.lt_size hoi)
  have hSl : s.heap.objs.size ≠ l := Nat.ne_of_gt (Heap.lt_size hol)
  refine callType_codes (Q₁ := fun obj s₁ => obj = .ref s.heap.objs.size ∧ s₁ = { s with heap := s.heap.push { cls := .type "list", data := .seq #[] } }) PySem.F.called_list (PySem.F.typeCall_list_1 _) PySem.F.entry_list_init
    (code_list_new _ ⟨rfl, rfl⟩) fun obj s₁ h₁ => ?_
  obtain ⟨rfl, rfl⟩ := h₁
  have hS : (s.heap.push { cls := .type "list", data := .seq #[] }).get? s.heap.objs.size = some { cls := .type "list", data := .seq #[] } := Heap.get?_push_size _ rfl
  refine ⟨⟨_, hS, rfl⟩, PySem.F.args_list_init_2 _ _, ?_⟩
  show wpAny _ _ (do let old ← Builtin.List.listItems (.ref s.heap.objs.size); Builtin.List.listUpdate (.ref s.heap.objs.size) (fun _ => #[]); letGo old.toList.reverse; Builtin.List.listExtendWith (.ref s.heap.objs.size) (.ref it) .none) _ _ _
  refine wpAny_bind ?_
  unfold Builtin.List.listItems
  refine wpAny_bind (wpAny_seqItems hS rfl (wpAny_pure ?_))
  show wpAny _ _ (updateSeq s.heap.objs.size (fun _ => #[]) >>= fun _ => letGo (#[] : Array Value).toList.reverse >>= fun _ => Builtin.List.listExtendWith (.ref s.heap.objs.size) (.ref it) .none) _ _ _
  refine wpAny_bind (wpAny_updateSeq hS rfl ?_)
  have hS₂ := Heap.get?_update_self (Obj.mapSeq (fun _ => (#[] : Array Value))) hS rfl
  have oth : ∀ b o, b ≠ s.heap.objs.size → s.heap.get? b = some o → ((s.heap.push { cls := .type "list", data := .seq #[] }).update s.heap.objs.size (Obj.mapSeq (fun _ => (#[] : Array Value)))).get? b = some o :=
    fun b o hb e => (Heap.get?_update_other _ _ (Ne.symm hb)).trans (Heap.get?_push_of_some _ e)
  refine wpAny_bind (wpAny_letGo ?_)
  have hl2 : ((s.heap.push { cls := .type "list", data := .seq #[] }).update s.heap.objs.size (Obj.mapSeq (fun _ => (#[] : Array Value)))).IsList l items := by
    obtain ⟨ol, hol, r⟩ := hl
    exact ⟨ol, oth _ _ (Ne.symm hSl) hol, r⟩
  refine rev_extend (A := A.in1) hh (hit.at fun o e => oth _ _ (Ne.symm hSi) e) hl2 hne hn hSi hSl .none _ hS₂ fun h' tk acc' c' hk hS' hacc => ?_
  exact ⟨rfl, hQ h' tk acc' c' (fun b o hb e => hk b o (Nat.ne_of_lt (Heap.lt_size e)) hb (oth b o (Nat.ne_of_lt (Heap.lt_size e)) e)) hS' hacc⟩
end
/-- list(reversed(x)), x a list: a new list -/
def tListRev (K : PySem.W.Frag) (te : TE) : TE := fun σ H Q => te σ H fun v H1 => ∃ (a : Addr) (xs : List V), v = .ref a ∧ SqL K H1 a xs ∧ ∀ q, H1 q = none → Q (.ref q) (upd H1 q (.lst xs.reverse))
section
variable {X : Cx} {W : WX} {tg e : Expr} {fe : DE} {p p2 pos pos2 : Pos}
theorem pe_listRev {te : TE} (hc : X.calm = true) (hg : Gl X "list") (hm : X.mg "list" = none) (hg2 : Gl X "reversed") (hm2 : X.mg "reversed" = none) (he : PE X e te)
    (hs : starEach [e] X.env = (false, eval e X.env) :: starEach [] X.env := by rfl)
    (hs2 : starEach [.Call (.Name "reversed" p2) [e] [] pos2] X.env = (false, eval (.Call (.Name "reversed" p2) [e] [] pos2) X.env) :: starEach [] X.env := by rfl) :
    PE X (.Call (.Name "list" p) [.Call (.Name "reversed" p2) [e] [] pos2] [] pos) (tListRev X.K te) := by
  refine ⟨fun pins s σ H Q I h => ?_⟩
  refine Call_ (ld_blt I hg hm PyProof.Rows.boot_list (PyProof.Rows.callWith_type1 (args_cons (Call_ (ld_blt I hg2 hm2 PyProof.Rows.boot_reversed (PyProof.Rows.callWith_type1 (args_cons (thn (he.run pins s σ H _ I h) fun u s1 ⟨v, H1, I1, r1, q1⟩ => args_nil ?_) hs) hs rfl))) hs2) hs2 rfl))
  obtain ⟨a, xs, ev, hq, q⟩ := q1
  subst ev
  obtain rfl : u = Value.ref a := r1
  obtain ⟨its, rv, p', hz⟩ := I1.list hq
  refine call_reversed_list p'.isList (args_nil ?_)
  have k0 : ∀ b o, s1.heap.get? b = some o → (s1.heap.push (revObj a ((its.toArray.size : Int) - 1))).get? b = some o := fun b o e => Heap.get?_push_of_some _ e
  have I2 : Inv X pins σ H1 { s1 with heap := s1.heap.push (revObj a ((its.toArray.size : Int) - 1)) } := I1.kept (t' := s1.toks) k0
  have hf := I1.fpOk (H' := H1) (b := s1.heap.objs.size) (Nat.le_refl _) (I1.hok.fresh (Nat.le_refl _))
  have hl := p'.isList
  obtain ⟨ol, hol, _⟩ := id hl
  have hne : a ≠ s1.heap.objs.size := Nat.ne_of_lt (Heap.lt_size hol)
  have hn : its.toArray.size ≤ sizeLine := by rw [List.size_toArray, ← rv.length]; exact hz
  refine call_list_rev (s := { s1 with heap := s1.heap.push (revObj a ((its.toArray.size : Int) - 1)) }) (I1.ok.hd hc) ⟨_, Heap.get?_push_size _ rfl, rfl, rfl⟩ (hl.push _) hne hn fun h' tk acc c' hk hS hi => ?_
  have hnew : H1 (s1.heap.push (revObj a ((its.toArray.size : Int) - 1))).objs.size = none := I2.hok.fresh (Nat.le_refl _)
  have new : ObjOk X.prog X.w (upd H1 (s1.heap.push (revObj a ((its.toArray.size : Int) - 1))).objs.size (.lst xs.reverse)) h' (s1.heap.push (revObj a ((its.toArray.size : Int) - 1))).objs.size (.lst xs.reverse) :=
    ⟨by rw [List.length_reverse]; exact hz, acc.toList, c', RT.vals_rev rv hi, by rw [Array.toArray_toList]; exact hS⟩
  exact ⟨.ref _, upd H1 _ (.lst xs.reverse), I2.turnedNew (t' := tk) (ch := [s1.heap.objs.size]) (fun b ob hb e => hk b ob (by simpa using hb) e) (fun b hb => by
    have e : b = s1.heap.objs.size := by simpa using hb
    subst e
    exact hf) (Nat.le_refl _) new, rfl, q _ hnew⟩
def revL : D → Res D
  | .lst _ ds => .ok (.lst .ow ds.reverse)
  | _ => .stuck
theorem pd_listRev (hc : X.calm = true) (hg : Gl X "list") (hm : X.mg "list" = none) (hg2 : Gl X "reversed") (hm2 : X.mg "reversed" = none) (he : PD X W e fe)
    (hs : starEach [e] X.env = (false, eval e X.env) :: starEach [] X.env := by rfl)
    (hs2 : starEach [.Call (.Name "reversed" p2) [e] [] pos2] X.env = (false, eval (.Call (.Name "reversed" p2) [e] [] pos2) X.env) :: starEach [] X.env := by rfl) :
    PD X W (.Call (.Name "list" p) [.Call (.Name "reversed" p2) [e] [] pos2] [] pos) (fU revL fe) := (pe_listRev hc hg hm hg2 hm2 he hs hs2).imp fun σ H Q ⟨H0, F0, ρ, F, r, pp⟩ => ⟨H0, F0, ρ, F, r, pp.bind (Gr.refl _ _) fun F1 H1 v d _ r1 g1 x1 p1 => by
  cases d with
  | lst t ds =>
    obtain ⟨a, xs, rfl, h1, h2⟩ := x1.lst r1.fh
    exact ⟨a, xs, rfl, h1.sq, fun q n => p1.at r1 g1 (Gr.alloc n) (same_updF r1.fh n) (RX.newL g1.hh r1.fh n h2.rev)⟩
  | _ => exact p1.elim⟩
def revT : D → Res D
  | .lst _ ds => .ok (.tup ds.reverse)
  | _ => .stuck
def tTupRevN (K : PySem.W.Frag) (te : TE) : TE := fun σ H Q => te σ H fun x H1 => ∃ a xs, x = .ref a ∧ SqL K H1 a xs ∧ ∀ p o, H1 p = none → TupO o → Q (.ref p) (upd H1 p (.frz o (.tup xs.reverse)))
theorem pe_tupRevN {te : TE} (hc : X.calm = true) (hg : Gl X "tuple") (hm : X.mg "tuple" = none) (hg2 : Gl X "reversed") (hm2 : X.mg "reversed" = none) (he : PE X e te)
    (hs : starEach [e] X.env = (false, eval e X.env) :: starEach [] X.env := by rfl)
    (hs2 : starEach [.Call (.Name "reversed" p2) [e] [] pos2] X.env = (false, eval (.Call (.Name "reversed" p2) [e] [] pos2) X.env) :: starEach [] X.env := by rfl) :
    PE X (.Call (.Name "tuple" p) [.Call (.Name "reversed" p2) [e] [] pos2] [] pos) (tTupRevN X.K te) := by
  refine ⟨fun pins s σ H Q I h => ?_⟩
  refine Call_ (ld_blt I hg hm boot_tuple (PyProof.Rows.callWith_type1 (args_cons (Call_ (ld_blt I hg2 hm2 PyProof.Rows.boot_reversed (PyProof.Rows.callWith_type1 (args_cons (thn (he.run pins s σ H _ I h) fun u s1 ⟨v, H1, I1, r1, q1⟩ => args_nil ?_) hs) hs rfl))) hs2) hs2 rfl))
  obtain ⟨a, xs, ev, hq, q⟩ := q1
  subst ev
  obtain rfl : u = Value.ref a := r1
  obtain ⟨its, rv, p', hz⟩ := I1.list hq
  refine call_reversed_list p'.isList (args_nil ?_)
  have k0 : ∀ b o, s1.heap.get? b = some o → (s1.heap.push (revObj a ((its.toArray.size : Int) - 1))).get? b = some o := fun b o e => Heap.get?_push_of_some _ e
  have I2 : Inv X pins σ H1 { s1 with heap := s1.heap.push (revObj a ((its.toArray.size : Int) - 1)) } := I1.kept (t' := s1.toks) k0
  obtain ⟨f0, f1, f2, f3, f4, f5⟩ := I1.fpOk (H' := H1) (b := s1.heap.objs.size) (Nat.le_refl _) (I1.hok.fresh (Nat.le_refl _))
  have hl := p'.isList
  obtain ⟨ol, hol, _⟩ := id hl
  have hne : a ≠ s1.heap.objs.size := Nat.ne_of_lt (Heap.lt_size hol)
  have hn : its.toArray.size ≤ sizeLine := by rw [List.size_toArray, ← rv.length]; exact hz
  refine RT.call_tuple_rev (s := { s1 with heap := s1.heap.push (revObj a ((its.toArray.size : Int) - 1)) }) (I1.ok.hd hc) ⟨_, Heap.get?_push_size _ rfl, rfl, rfl⟩ (hl.push _) hne hn fun h' tk acc hk hi => ?_
  have I3 : Inv X pins σ H1 { s1 with heap := h', toks := tk } := I2.turned (t' := tk) (fun b o hb e => hk b o hb e) f0 f1 f3 f4 f5
  refine ⟨.ref h'.objs.size, upd H1 h'.objs.size (.frz (tupO acc) (.tup xs.reverse)), I3.laid (t' := tk) (fun c o e => Heap.get?_push_of_some _ e) (Nat.le_refl _) ?_, rfl, q _ _ (I3.hok.fresh (Nat.le_refl _)) (tupO_ok _)⟩
  have k := new_tup (P := X.prog) (w := X.w) (H := upd H1 h'.objs.size (.frz (tupO acc) (.tup xs.reverse))) (h := h'.push (tupO acc)) (a := h'.objs.size) (xs := xs.reverse) (its := acc.toList) (by rw [List.length_reverse]; exact hz) (RT.vals_rev rv hi) (by rw [Array.toArray_toList]; exact Heap.get?_push_size _ rfl)
  rw [Array.toArray_toList] at k
  exact k
theorem pd_tupRev (hc : X.calm = true) (hg : Gl X "tuple") (hm : X.mg "tuple" = none) (hg2 : Gl X "reversed") (hm2 : X.mg "reversed" = none) (he : PD X W e fe)
    (hs : starEach [e] X.env = (false, eval e X.env) :: starEach [] X.env := by rfl)
    (hs2 : starEach [.Call (.Name "reversed" p2) [e] [] pos2] X.env = (false, eval (.Call (.Name "reversed" p2) [e] [] pos2) X.env) :: starEach [] X.env := by rfl) :
    PD X W (.Call (.Name "tuple" p) [.Call (.Name "reversed" p2) [e] [] pos2] [] pos) (fU revT fe) := (pe_tupRevN hc hg hm hg2 hm2 he hs hs2).imp fun σ H Q ⟨H0, F0, ρ, F, r, pp⟩ => ⟨H0, F0, ρ, F, r, pp.bind (Gr.refl _ _) fun F1 H1 v d _ r1 g1 x1 p1 => by
  cases d with
  | lst t ds =>
    obtain ⟨a, xs, rfl, h1, h2⟩ := x1.lst r1.fh
    refine ⟨a, xs, rfl, h1.sq, fun q ob n to => ?_⟩
    have fq := same_none r1.fh n
    exact p1.at r1 g1 (Gr.allocF r1.fh n) (same_updB r1.fh) (RX.newT to fq h2.rev)
  | _ => exact p1.elim⟩
/-! ### for x in reversed(y) -/
theorem itOk_rev {F : Hp} {a : Addr} {xs : List V} {ds : List D} (h : LsR X.K F a xs) (r : Reps X.w X.K X.mg F xs ds) : ItOk X F (Itv X.K a xs.length) ds.reverse where
  go := fun i F1 H1 d s s1 e => by
    have hl := r.length
    obtain ⟨hi, e0⟩ := List.getElem?_eq_some_iff.mp e
    rw [List.length_reverse] at hi
    have e2 : ds[ds.length - 1 - i]? = some d := by rw [← e, List.getElem?_reverse hi]
    obtain ⟨v, e1, q2⟩ := r.get e2
    rw [← hl] at e1
    have h1 : SqL X.K H1 a xs := (ls_mono s1 (ls_mono s h)).sq
    refine ⟨⟨by omega, xs, v, h1, e1⟩, fun x H2 ⟨q1, q3⟩ => ?_⟩
    subst q1
    have := q3 xs h1
    rw [e1] at this
    cases this
    exact ⟨F1, Gr.refl _ _, s1, q2.mono s⟩
  stop := fun F1 H1 s s1 => by show xs.length ≤ _; rw [List.length_reverse, r.length]; exact Nat.le_refl _
theorem itOk_revT {F : Hp} {a : Addr} {xs : List V} {ds : List D} (h : Rd F a (.tup xs)) (r : Reps X.w X.K X.mg F xs ds) : ItOk X F (RT.ItvT X.K a xs.length) ds.reverse where
  go := fun i F1 H1 d s s1 e => by
    have hl := r.length
    obtain ⟨hi, e0⟩ := List.getElem?_eq_some_iff.mp e
    rw [List.length_reverse] at hi
    have e2 : ds[ds.length - 1 - i]? = some d := by rw [← e, List.getElem?_reverse hi]
    obtain ⟨v, e1, q2⟩ := r.get e2
    rw [← hl] at e1
    have h1 : SqT X.K H1 a xs := .inl (rd_mono s1 (rd_mono s h))
    refine ⟨⟨by omega, xs, v, h1, e1⟩, fun x H2 ⟨q1, q3⟩ => ?_⟩
    subst q1
    have := q3 xs h1
    rw [e1] at this
    cases this
    exact ⟨F1, Gr.refl _ _, s1, q2.mono s⟩
  stop := fun F1 H1 s s1 => by show xs.length ≤ _; rw [List.length_reverse, r.length]; exact Nat.le_refl _
def itemsR : D → Res (List D)
  | .lst t ds => if t ≠ .vw then .ok ds.reverse else .stuck
  | .tup ds => .ok ds.reverse
  | _ => .stuck
def fItR (fe : DE) : DA := fun ρ => (fe ρ).bind itemsR
theorem pid_rev (hg : Gl X "reversed") (hm : X.mg "reversed" = none) (he : PD X W e fe) (hs : starEach [e] X.env = (false, eval e X.env) :: starEach [] X.env := by rfl) : PID X W tg (.Call (.Name "reversed" p) [e] [] pos) (fItR fe) :=
  (RT.pi_revA hg hm he hs).imp fun σ H Q ⟨H0, F0, ρ, F, r, pp⟩ => ⟨H0, F0, ρ, F, r, pp.bind (Gr.refl _ _) fun F1 H1 v d _ r1 g1 x1 p1 => by
    cases d with
    | lst t ds =>
      obtain ⟨ht, p1⟩ := Post.guard (c := t ≠ .vw) p1
      obtain ⟨F2, r2, g2, s2, y⟩ := RX.freeze r r1 g1 x1 (by cases t with | vw => exact absurd rfl ht | fz => exact fun z => nomatch z | ow => exact fun z => nomatch z)
      obtain ⟨_, a, xs, ev, h3, h4⟩ := (show Rep X.w X.K X.mg F2 v (.lst .fz ds) from y).of_lst
      subst ev
      refine ⟨a, xs, rfl, .inl ⟨(ls_mono r2.fh h3).sq, ?_⟩⟩
      exact p1.here r2 g2 (itOk_rev h3 h4)
    | tup ds =>
      obtain ⟨a, xs, ev, h3, h4⟩ := (x1.rep rfl).of_tup
      subst ev
      exact ⟨a, xs, rfl, .inr ⟨.inl (rd_mono r1.fh h3), p1.here r1 g1 (itOk_revT h3 h4)⟩⟩
    | _ => exact p1.elim⟩
@[simp] theorem revL_l (t : Tg) (ds : List D) : revL (.lst t ds) = .ok (.lst .ow ds.reverse) := rfl
@[simp] theorem revT_l (t : Tg) (ds : List D) : revT (.lst t ds) = .ok (.tup ds.reverse) := rfl
@[simp] theorem fItR_ap (fe : DE) (ρ : DEnv) : fItR fe ρ = (fe ρ).bind itemsR := rfl
@[simp] theorem itemsR_l (t : Tg) (ds : List D) : itemsR (.lst t ds) = if t ≠ .vw then .ok ds.reverse else .stuck := rfl
@[simp] theorem itemsR_t (ds : List D) : itemsR (.tup ds) = .ok ds.reverse := rfl
end
end Dl
/-! isinstance of an error with a tuple of error classes; enumerate. -/
namespace Dl
open PySem PySem.Spec PySem.W PyProof.Rows L2
section
variable {X : Cx} {W : WX} {H0 F0 : Hp} {ρ : DEnv} {σ : L2.St} {F H F' H' : Hp} {e a tg : Expr} {fe : DE} {fs : DA} {p p2 pos pos2 tpos : Pos} {es : List Str} {k : Nat} {elts : List Expr}
def rIsXT (X : Cx) : List V → Hp → VK → Prop := fun xs H Q => ∃ (x : V) (tp : Addr) (Cs : List Addr) (b : Bool), xs = [x, .ref tp] ∧ SqT X.K H tp (Cs.map V.ref) ∧ Q (.bl b) H ∧
  ((∃ t, (TyX X.K H x t ∨ (t = .type "dict" ∧ ∃ a ys ob, x = .ref a ∧ H a = some (dicO X.w a ys ob))) ∧ PySem.W.kitAny X.K t (Cs.map Value.ref) = some b) ∨
   (∃ a C, x = .ref a ∧ H a = some (.ext (excF a C)) ∧ ExcC X.K C ∧ PySem.W.kitAny X.K (.ref C) (Cs.map Value.ref) = some b))
theorem vals_refs : ∀ {Cs : List Addr} {its : List Value}, Vals (Cs.map V.ref) its → its = Cs.map Value.ref
  | [], _, h => by cases h; rfl
  | c :: cs, _, h => by
    cases h with
    | cons a b => rw [List.map_cons, ← vals_refs b]; cases a; rfl
theorem call_isXT : CallR X (.builtin "isinstance") (rIsXT X) := by
  intro pins s σ H xs us Q I r h
  obtain ⟨x, tp, Cs, b, rfl, htp, q, h⟩ := h
  obtain ⟨u1, u2, rfl, r1, r2⟩ := vals2 r
  cases (show u2 = Value.ref tp from r2)
  obtain ⟨its, rv, ht, _⟩ := I.tuple htp
  have e := vals_refs rv
  subst e
  obtain ⟨⟨oc, od, oda, osl⟩, ho, hc, n, hd⟩ := ht
  dsimp only at hc hd
  subst hc hd
  rcases h with ⟨t, ty, k⟩ | ⟨a, C, rfl, hz, ec, k⟩
  · rcases ty with ty | ⟨rfl, a, ys, ob, rfl, ha⟩
    · obtain ⟨P, Z, pr, hx⟩ := kit_of I r1 ty
      exact PySem.W.kia_tup Z I.kIn pr ho k hx fun tk => ⟨.bl b, H, I.tok tk, rfl, q⟩
    · cases (show u1 = Value.ref a from r1)
      obtain ⟨⟨h1, es, ep, h2, _⟩, _⟩ := (show ObjOk X.prog X.w H s.heap a (dicO X.w a ys ob) from I.hok a _ ha)
      exact PySem.W.kia_tup PySem.W.kitx_dict I.kIn ⟨ob, h1, h2.1⟩ ho k (fun z => nomatch z) fun tk => ⟨.bl b, H, I.tok tk, rfl, q⟩
  · cases (show u1 = Value.ref a from r1)
    obtain ⟨⟨o, vs, k1, k2, k3, k4⟩, _⟩ := (show ObjOk X.prog X.w H s.heap a (.ext (excF a C)) from I.hok a _ hz)
    obtain ⟨oc, od, oda, osl⟩ := o
    dsimp only at k2 k3 k4
    subst k2 k3 k4
    exact PySem.W.kia_tup (PySem.W.handS_kitx_exc ec.hg ec.hk ec.hs ec.hd ec.ha ec.hn ec.ht ec.hm) I.kIn ⟨k1, rfl, rfl, trivial⟩ ho k (fun z => nomatch z) fun tk => ⟨.bl b, H, I.tok tk, rfl, q⟩
def isiT (es xs : List Str) : D → Res D := isiW es fun c => xs.any (subE c)
theorem nmD_any (A : Errs X.K X.mg es) {ex : List Expr} {xs : List Str} (h : NmD X es ex xs) : ∃ Cs : List Addr, PA X ex (fun σ H Q => Q (Cs.map V.ref) H) ∧ Cs.length = xs.length ∧
    (∀ c ∈ es, ∀ C, X.mg c = some (.ref C) → PySem.W.kitAny X.K (.ref C) (Cs.map Value.ref) = some (xs.any (subE c))) ∧ ∀ t ∈ tyNames, PySem.W.kitAny X.K (.type t) (Cs.map Value.ref) = some false := by
  induction h with
  | nil => exact ⟨[], pa_nil.imp fun _ _ _ h => h, rfl, fun c hc C m => rfl, fun t ht => rfl⟩
  | cons hx hg hd he r ih =>
    obtain ⟨cs, k1, k2, k3, k4⟩ := ih
    obtain ⟨D, m1, _, _, m4⟩ := A.one _ hx
    refine ⟨D :: cs, (pa_cons (pe_glob (v := .ref D) hg m1 rfl hd) k1 he).imp fun _ _ _ h => h, by rw [List.length_cons, List.length_cons, k2], fun c hc C m => ?_, fun t ht => ?_⟩
    · rw [List.map_cons, List.any_cons]
      have e := (A.two c hc _ hx C D m m1).2
      refine kitAny_cons (b := subE c _) e (fun hb => ?_) fun hb => ?_
      · rw [hb, Bool.false_or]; exact k3 c hc C m
      · rw [hb, Bool.true_or]
    · rw [List.map_cons]
      exact kitAny_cons (b := false) (m4 t ht).1 (fun _ => k4 t ht) fun hb => nomatch hb
theorem pd_isiT {ex : List Expr} {xs : List Str} {kk : Nat} (A : Errs X.K X.mg es) (hN : NmD X es ex xs) (hl : xs.length ≤ 100) (hg : Gl X "isinstance") (hm : X.mg "isinstance" = none) (ha : PD X W e fe)
    (he : starEach [e, .Tuple ex kk p2] X.env = (false, eval e X.env) :: starEach [.Tuple ex kk p2] X.env := by rfl) (he2 : starEach [.Tuple ex kk p2] X.env = (false, eval (.Tuple ex kk p2) X.env) :: starEach [] X.env := by rfl) (hpl : (backTo pos (starEach [.Tuple ex kk p2] X.env)).any (·.1) = false := by rfl) :
    PD X W (.Call (.Name "isinstance" p) [e, .Tuple ex kk p2] [] pos) (fU (isiT es xs) fe) := by
  obtain ⟨Cs, k1, k2, k3, k4⟩ := nmD_any A hN
  refine (pe_callB call_isXT hg hm (by decide +kernel) (pa_cons ha (pa_cons (pe_tup k1) pa_nil he2) he) (by decide) (by decide) he hpl).imp fun σ H Q ⟨H0, F0, ρ, F, r, q⟩ => ?_
  refine ⟨H0, F0, ρ, F, r, q.bind (Gr.refl _ _) fun F1 H1 v d _ r1 g1 x1 p1 => ⟨by rw [List.length_map, k2, sizeLine_eq]; omega, fun q n => ?_⟩⟩
  have htp : SqT X.K (upd H1 q (.tup (Cs.map V.ref))) q (Cs.map V.ref) := .inl (.inl upd_same)
  have r2 := r1.alloc (o := .tup (Cs.map V.ref)) n
  have g2 : Gr F H F1 (upd H1 q (.tup (Cs.map V.ref))) := g1.trans (Gr.alloc n)
  have x2 : RX X.w X.K X.mg F1 H (upd H1 q (.tup (Cs.map V.ref))) v d := x1.mono (Gr.alloc n)
  have other : ∀ t, d.tyn = some t → isiT es xs d = .ok (.bl false) → rIsXT X [v, .ref q] (upd H1 q (.tup (Cs.map V.ref))) Q := fun t et ei => by
    rw [ei] at p1
    have mem : t ∈ tyNames := by cases d <;> cases et <;> simp [tyNames]
    exact ⟨v, q, Cs, false, rfl, htp, p1.here r2 g2 (RX.fz (.bl _)), .inl ⟨_, x2.ty r2.fh et, k4 t mem⟩⟩
  cases d with
  | obj t k ps ds =>
    obtain ⟨⟨c0, c1, c2, c3⟩, p3⟩ := Post.guard p1
    subst c0
    have e0 : ds = [] := List.isEmpty_iff.mp c2
    subst e0
    obtain ⟨a, C, rfl, h1, h2⟩ := x2.exn r2.fh c1
    obtain ⟨D2, n1, n2, _⟩ := A.one k c3
    rw [h1] at n1
    cases n1
    exact ⟨_, q, Cs, _, rfl, htp, p3.here r2 g2 (RX.fz (.bl _)), .inr ⟨a, C, rfl, h2, n2, k3 k c3 C h1⟩⟩
  | non => exact other _ rfl rfl
  | bl b => exact other _ rfl rfl
  | int b => exact other _ rfl rfl
  | str b => exact other _ rfl rfl
  | tup b => exact other _ rfl rfl
  | lst t b => exact other _ rfl rfl
  | dic t b => exact other _ rfl rfl
theorem isiT_exn (es xs : List Str) (c : Str) (h : c ∈ es) : isiT es xs (.exn c) = .ok (.bl (xs.any (subE c))) := by
  show (if _ then _ else _) = _
  rw [if_pos ⟨rfl, rfl, rfl, h⟩]
@[simp] theorem isiT_non (es xs : List Str) : isiT es xs .non = .ok (.bl false) := rfl
/-! ### for i, x in enumerate(y) -/
def enumD : Nat → List D → List D
  | _, [] => []
  | i, d :: ds => .tup [.int i, d] :: enumD (i + 1) ds
theorem enumD_get : ∀ {ds : List D} {n i : Nat} {d : D}, (enumD n ds)[i]? = some d → ∃ x, ds[i]? = some x ∧ d = .tup [.int ((n + i : Nat) : Int), x]
  | [], _, _, _, e => by simp [enumD] at e
  | x :: ds, n, 0, d, e => by simp [enumD] at e; subst e; exact ⟨x, by simp, by simp⟩
  | x :: ds, n, i + 1, d, e => by
    obtain ⟨y, h1, h2⟩ := enumD_get (ds := ds) (n := n + 1) (i := i) (d := d) (by simpa [enumD] using e)
    exact ⟨y, by simpa using h1, by rw [h2]; congr 3; omega⟩
theorem enumD_len : ∀ (ds : List D) (n : Nat), (enumD n ds).length = ds.length
  | [], _ => rfl
  | _ :: ds, n => by rw [enumD, List.length_cons, List.length_cons, enumD_len ds]
def IteN (K : PySem.W.Frag) (a : Addr) : It :=
  ⟨fun i H => ∃ (xs : List V) (x : V), SqL K H a xs ∧ xs[i]? = some x, fun i H v H' => ∃ T x o, v = .ref T ∧ H T = none ∧ TupO o ∧ H' = upd H T (.frz o (.tup [.int (i : Nat), x])) ∧ ∀ xs, SqL K H a xs → xs[i]? = some x, fun i H => ∃ xs : List V, SqL K H a xs ∧ xs.length ≤ i⟩
theorem turn_enumN {P : Program} {w : World} {K : PySem.W.Frag} {elts : List Expr} {kk : Nat} {tpos : Pos} (a e it : Addr) :
    Turn P w K (.Tuple elts kk tpos) (IteN K a) [e, it] e (fun i h => (∃ old, IsEnum h e it ((i : Nat) : Int) old) ∧ h.IsListIter it a i ∧ e ≠ it) where
  mem := by simp
  obj := fun i h st b hb => by
    obtain ⟨⟨old, he⟩, ⟨o, ho, hc, hd⟩, _⟩ := st
    have e' : b = e ∨ b = it := by simpa using hb
    rcases e' with z | z
    · rw [z]; exact ⟨_, he, fun v q => nomatch q⟩
    · rw [z]; exact ⟨o, ho, fun v q => by rw [hd] at q; cases q⟩
  keep := fun i h h' st k => let ⟨⟨old, he⟩, hi, hne⟩ := st; ⟨⟨old, k e (by simp) _ he⟩, hi.at fun o q => k it (by simp) o q, hne⟩
  item := by
    intro X hP hw hK hc i pins s σ H E I hf st hg
    subst hP hw hK
    obtain ⟨⟨old, he⟩, hit, hne⟩ := st
    obtain ⟨xs, x, hq, hx⟩ := hg
    obtain ⟨its, rv, p, hz⟩ := I.list hq
    obtain ⟨u, hu, ru⟩ := rv.get hx
    have hel : e < s.heap.objs.size := Heap.lt_size he
    have hil : it < s.heap.objs.size := by obtain ⟨_, q, _⟩ := hit; exact Heap.lt_size q
    refine wpAny_pyNext_enum_item he hit p.isList (x := u) (by simpa using hu) hne fun h' ho hit' hT hsz hk => ?_
    refine ⟨_, rfl, wpAny_letOwnedTupleGo_enum (s := { s with heap := h', toks := s.toks + 1 }) ho fun h'' he' sb => ?_⟩
    have hT2 : h''.get? s.heap.objs.size = some { cls := .type "tuple", data := .seq #[.int i s.toks, u] } := (sb.2 _ (Nat.ne_of_gt hel)).trans hT
    have new : ObjOk X.prog X.w (upd H s.heap.objs.size (.frz (tupO #[.int i s.toks, u]) (.tup [.int (i : Nat), x]))) h'' s.heap.objs.size (.frz (tupO #[.int i s.toks, u]) (.tup [.int (i : Nat), x])) :=
      new_tup (its := [.int i s.toks, u]) (by show 2 ≤ sizeLine; decide) (.cons ⟨_, rfl⟩ (.cons ru .nil)) hT2
    have I1 : Inv X pins σ (upd H s.heap.objs.size (.frz (tupO #[.int i s.toks, u]) (.tup [.int (i : Nat), x]))) { s with heap := h'', toks := s.toks + 1 } :=
      I.turnedNew (ch := [e, it]) (fun b ob hb q => (sb.2 b (fun z => hb (by simp [z]))).trans (hk b ob (fun z => hb (by simp [z])) (fun z => hb (by simp [z])) q)) hf (Nat.le_refl _) new
    refine ⟨.ref s.heap.objs.size, _, I1, rfl, ⟨_, x, _, rfl, I.hok.fresh (Nat.le_refl _), tupO_ok _, rfl, fun ys hy => by rw [I.list_inj hy hq]; exact hx⟩, ⟨⟨u, ?_⟩, hit'.at fun o q => (sb.2 it (Ne.symm hne)).trans q, hne⟩, fun b hb => ?_⟩
    · have e1 : ((i + 1 : Nat) : Int) = (i : Int) + 1 := by omega
      rw [e1]; exact he'
    · have hb' : b < s.heap.objs.size := by
        have e' : b = e ∨ b = it := by simpa using hb
        rcases e' with z | z
        · rw [z]; exact hel
        · rw [z]; exact hil
      rw [upd_ne (Nat.ne_of_lt hb')]
      exact (hf b hb).1
  done := by
    intro X hP hw hK hc i pins s σ H E I hf st hg
    subst hP hw hK
    obtain ⟨⟨old, he⟩, hit, hne⟩ := st
    obtain ⟨xs, hq, hx⟩ := hg
    obtain ⟨its, rv, p, hz⟩ := I.list hq
    obtain ⟨f0, f1, f2, f3, f4, f5⟩ := hf it (by simp)
    have hl := rv.length
    exact wpAny_pyNext_enum_end (I.ok.hd hc) he hit p.isList (by simp; omega) fun h' eb => ⟨rfl, I.turned (t' := s.toks) (fun b o hb q => eb b o hb q) f0 f1 f3 f4 f5⟩
  self := fun A i s Q E st h => let ⟨⟨_, he⟩, _⟩ := st; wpAny_pyIter_enum he h
def iEnumN (K : PySem.W.Frag) (ta : TA) : TI := fun σ H R => ta σ H fun vs H1 => ∃ a xs, vs = [.ref a] ∧ SqL K H1 a xs ∧ R (IteN K a) H1
theorem pi_enumN {X : Cx} {e : Expr} {ta : TA} {p pos tpos : Pos} {elts : List Expr} {kk : Nat} (hg : Gl X "enumerate") (hm : X.mg "enumerate" = none) (ha : PA X [e] ta) (hs : starEach [e] X.env = [(false, eval e X.env)] := by rfl) :
    PI X (.Tuple elts kk tpos) (.Call (.Name "enumerate" p) [e] [] pos) (iEnumN X.K ta) := by
  refine ⟨fun pins s σ H R I h => ?_⟩
  refine Call_ (ld_blt I hg hm boot_enumerate (PyProof.Rows.callWith_type1 (thn (ha.run pos pins s σ H _ I h) fun us s1 ⟨vs, H1, I1, r1, q1⟩ => ?_) hs rfl))
  obtain ⟨a, xs, ex, hq, q⟩ := q1
  subst ex
  cases r1 with
  | cons r rr =>
    cases rr
    cases r
    obtain ⟨its, rv, p', hz⟩ := I1.list hq
    refine call_enumerate_list p'.isList fun h' he hit hsz hk => wpAny_pyIter_enum he ?_
    have I2 : Inv X pins σ H1 { s1 with heap := h' } := I1.kept (t' := s1.toks) hk
    refine ⟨s1.heap.objs.size + 1, [s1.heap.objs.size + 1, s1.heap.objs.size], _, _, H1, rfl, I2, turn_enumN a (s1.heap.objs.size + 1) s1.heap.objs.size, ⟨⟨.none, he⟩, hit, Nat.succ_ne_self _⟩, fun b hb => ?_, q⟩
    have e' : b = s1.heap.objs.size + 1 ∨ b = s1.heap.objs.size := by simpa using hb
    have hle : s1.heap.objs.size ≤ b := by
      rcases e' with z | z
      · rw [z]; exact Nat.le_add_right _ _
      · rw [z]; exact Nat.le_refl _
    exact I1.fpOk hle (I1.hok.fresh hle)
theorem itOk_enum {F : Hp} {a : Addr} {xs : List V} {ds : List D} (h : LsR X.K F a xs) (r : Reps X.w X.K X.mg F xs ds) : ItOk X F (IteN X.K a) (enumD 0 ds) where
  go := fun i F1 H1 d s s1 e => by
    obtain ⟨x, e0, rfl⟩ := enumD_get e
    obtain ⟨v, e1, q2⟩ := r.get e0
    have h1 : SqL X.K H1 a xs := (ls_mono s1 (ls_mono s h)).sq
    refine ⟨⟨xs, v, h1, e1⟩, fun y H2 ⟨T, x', ob, q1, q3, to, q4, q5⟩ => ?_⟩
    subst q1 q4
    have := q5 xs h1
    rw [e1] at this
    cases this
    have fT := same_none s1 q3
    refine ⟨upd F1 T (.frz ob (.tup [.int (i : Nat), v])), Gr.allocF s1 q3, same_updB s1, .tup ⟨ob, upd_same, to⟩ ?_⟩
    rw [Nat.zero_add]
    exact .cons (.int _) (.cons ((q2.mono s).mono (same_upd_none fT)) .nil)
  stop := fun F1 H1 s s1 => ⟨xs, (ls_mono s1 (ls_mono s h)).sq, by rw [enumD_len, r.length]; exact Nat.le_refl _⟩
def enum1 : List D → Res (List D)
  | [.lst t ds] => if t ≠ .vw then .ok (enumD 0 ds) else .stuck
  | _ => .stuck
theorem pid_enum (hg : Gl X "enumerate") (hm : X.mg "enumerate" = none) (ha : PAD X W [e] fs) (hs : starEach [e] X.env = [(false, eval e X.env)] := by rfl) : PID X W (.Tuple elts k tpos) (.Call (.Name "enumerate" p) [e] [] pos) (fRng enum1 fs) :=
  (pi_enumN hg hm ha hs).imp fun σ H Q ⟨H0, F0, ρ, F, r, pp⟩ => ⟨H0, F0, ρ, F, r, pp.bind (Gr.refl _ _) fun F1 H1 vs ds _ r1 g1 x1 p1 => by
    match ds, x1, p1 with
    | [.lst t ds], x1, p1 =>
      obtain ⟨v, rfl, x2⟩ := x1.inv1
      obtain ⟨ht, p1⟩ := Post.guard (c := t ≠ .vw) p1
      obtain ⟨F2, r2, g2, s2, y⟩ := RX.freeze r r1 g1 x2 (by cases t with | vw => exact absurd rfl ht | fz => exact fun z => nomatch z | ow => exact fun z => nomatch z)
      obtain ⟨_, a, xs, ev, h3, h4⟩ := (show Rep X.w X.K X.mg F2 v (.lst .fz ds) from y).of_lst
      subst ev
      exact ⟨a, xs, rfl, (ls_mono r2.fh h3).sq, p1.here r2 g2 (itOk_enum h3 h4)⟩⟩
@[simp] theorem enum1_l (t : Tg) (ds : List D) : enum1 [.lst t ds] = if t ≠ .vw then .ok (enumD 0 ds) else .stuck := rfl
end
end Dl
/-! is, of truths. -/
namespace Dl
open PySem PySem.Spec PySem.W PyProof.Rows L2
section
variable {X : Cx} {W : WX} {a b : Expr} {fa fb : DE} {pos : Pos}
def opIsB (neg : Bool) : D → D → Res D
  | .bl a, .bl b => .ok (.bl (if neg then !decide (a = b) else decide (a = b)))
  | _, _ => .stuck
def rIsB (neg : Bool) : R2 := fun x y H Q => ∃ a b, x = .bl a ∧ y = .bl b ∧ Q (.bl (if neg then !decide (a = b) else decide (a = b))) H
theorem ok_isB (neg : Bool) : OpOk X W (opIsB neg) (rIsB neg) := by
  intro H0 F0 ρ σ F H F2 H2 v u a b Q r r2 g x y p
  cases a with
  | bl a =>
    cases b with
    | bl b => exact ⟨a, b, x.bl, y.bl, p.here r2 g (RX.fz (.bl _))⟩
    | _ => exact p.elim
  | _ => exact p.elim
theorem op_isB : OpR X (compareOp .Is) (rIsB false) := op_is_bl
theorem op_isnB : OpR X (compareOp .IsNot) (rIsB true) := op_isnot_bl
theorem pd_isB (ha : PD X W a fa) (hb : PD X W b fb) : PD X W (.Compare a [.Is] [b] pos) (fB (opIsB false) fa fb) := (pe_cmpR op_isB ha hb (nomark _)).imp fun _ _ _ => bin_imp (ok_isB false)
theorem pd_isnB (ha : PD X W a fa) (hb : PD X W b fb) : PD X W (.Compare a [.IsNot] [b] pos) (fB (opIsB true) fa fb) := (pe_cmpR op_isnB ha hb (nomark _)).imp fun _ _ _ => bin_imp (ok_isB true)
theorem ptd_isB (ha : PD X W a fa) (hb : PD X W b fb) : PTD X W (.Compare a [.Is] [b] pos) (tOf (fB (opIsB false) fa fb)) := ptd_cmp op_isB (ok_isB false) ha hb (nomark _)
theorem ptd_isnB (ha : PD X W a fa) (hb : PD X W b fb) : PTD X W (.Compare a [.IsNot] [b] pos) (tOf (fB (opIsB true) fa fb)) := ptd_cmp op_isnB (ok_isB true) ha hb (nomark _)
/-! ### int(b) -/
def int1 : D → Res D
  | .int i => .ok (.int i)
  | .bl b => .ok (.int (if b then 1 else 0))
  | _ => .stuck
theorem ok_int1 : UnOk X W int1 (fun x H Q => (∃ i, x = .int i ∧ Q (.int i) H) ∨ ∃ k, x = .bl k ∧ Q (.int (if k then 1 else 0)) H) := by
  intro H0 F0 ρ σ F H F2 H2 v d Q r r2 g x p
  cases d with
  | int i => exact .inl ⟨i, x.int, p.here r2 g (RX.fz (.int _))⟩
  | bl b => exact .inr ⟨b, x.bl, p.here r2 g (RX.fz (.int _))⟩
  | _ => exact p.elim
theorem pd_int' {e : Expr} {fs : DA} {p : Pos} (hg : Gl X "int") (hm : X.mg "int" = none) (ha : PAD X W [e] fs) (he : starEach [e] X.env = (false, eval e X.env) :: starEach [] X.env := by rfl) (hpl : (backTo pos (starEach [] X.env)).any (·.1) = false := by rfl) :
    PD X W (.Call (.Name "int" p) [e] [] pos) (fCall (op1 int1) fs) := pd_callTy call_int1 (ok_op1 ok_int1 fun v H Q h => h.imp (fun ⟨i, e, q⟩ => ⟨i, by rw [e], q⟩) fun ⟨k, e, q⟩ => ⟨k, by rw [e], q⟩) hg hm (by decide +kernel) ha (by decide) (by decide) he hpl
@[simp] theorem int1_i (i : Int) : int1 (.int i) = .ok (.int i) := rfl
@[simp] theorem int1_b (b : Bool) : int1 (.bl b) = .ok (.int (if b then 1 else 0)) := rfl
@[simp] theorem opIsB_b (neg a b : Bool) : opIsB neg (.bl a) (.bl b) = .ok (.bl (if neg then !decide (a = b) else decide (a = b))) := rfl
end
end Dl
/-! xs.pop() as a statement. -/
namespace Dl
open PySem PySem.Spec PySem.W PyProof.Rows L2
section
variable {X : Cx} {W : WX} {x : Str} {p1 p2 pos apos cpos : Pos}
def sPopE (i : Nat) : DS := fun ρ => withL ρ i fun ds => match ds[ds.length - 1]? with
  | some _ => .next (ρ.set i (some (.lst .ow ds.dropLast)))
  | none => .stuck
@[simp] theorem sPopE_ap (i : Nat) (ρ : DEnv) : sPopE i ρ = withL ρ i fun ds => match ds[ds.length - 1]? with
  | some _ => .next (ρ.set i (some (.lst .ow ds.dropLast)))
  | none => .stuck := rfl
theorem psd_popE (i : Nat) (hN : X.N[i]? = some x := by rfl) (hv : Vis X.env.scope x := by first | exact Or.inl rfl | exact Or.inr (Or.inl rfl) | exact Or.inr (Or.inr rfl)) (hd : (x == ("__debug__" : Str)) = false := by decide) (hcd : (x == ("__classdict__" : Str)) = false := by decide)
    (hbase : attributeBase (.Name x p1) "pop" X.env (eval (.Name x p1) X.env) = eval (.Name x p1) X.env := by rfl) (hline : (apos.endLine == cpos.line) = true := by rfl)
    (hsw : swapsWith (.Call (.Attribute (.Name x p1) "pop" apos) [] [] cpos) none pos.line X.env = pure false := by rfl) : PSD X W (.Expr (.Call (.Attribute (.Name x p1) "pop" apos) [] [] cpos) pos) (sPopE i) :=
  (ps_expr (pe_bm0 PySem.F.plainAttrs_list PySem.F.slot_list_pop PySem.F.type_list_pop mt_pop (pv i hN hv hd hcd) hbase hline) hsw).imp fun D σ H ⟨H0, F0, ρ, F, r, p⟩ => by
    obtain ⟨ds, a, xs, q1, q2, q3, q4, p⟩ := withL_of r p
    cases c : ds[ds.length - 1]? with
    | none => rw [c] at p; exact p.elim
    | some d =>
      rw [c] at p
      obtain ⟨v, e1, e2⟩ := q4.get c
      refine ⟨.ref a, q2, .inl ⟨rfl, xs, .inl (.inl q3)⟩, a, xs, v, rfl, rfl, q3, by rw [q4.length]; exact e1, ?_⟩
      exact p _ F _ (r.list (xs := xs) q1 q2 q4.dropLast)
end
end Dl
/-! None looked up among tuple keys. -/
namespace Dl
open PySem PySem.Spec PySem.W PyProof.Rows L2
section
variable {prog : Program} {w : World} {A : Around} {E : Value → Shared → Prop} {s : Shared}
theorem tup_not_none {h : Heap} {k : NestedKey} {b : Addr} (x : (nestedKind prog w).is h k b) : k ≠ .none := by
  intro e
  subst e
  cases x.1
theorem tells_none {stored : List Value} {Q : Bool → Shared → Prop} (hst : ∀ v ∈ stored, ∃ k' b, v = .ref b ∧ (nestedKind prog w).is s.heap k' b) (h : Q false s) : wpAny (model prog w) A (tableMayTell .none stored) Q E s := by
  unfold tableMayTell
  split
  · exact wpAny_pure h
  · refine wpAny_bind (quiet_key .none .none 8 s .none (by simp [NestedKey.depth]) A E _ ?_)
    simp only [Bool.not_true, Bool.false_eq_true, if_false]
    refine wpAny_bind ?_
    refine wpAny_forIn_list _ (fun rest r s' => s' = s ∧ r = (none, ()) ∧ ∀ v ∈ rest, ∃ k' b, v = .ref b ∧ (nestedKind prog w).is s.heap k' b) _ ?_ ?_ _ _ ⟨rfl, rfl, hst⟩
    · rintro x rest r s' ⟨rfl, rfl, hr⟩
      obtain ⟨k', b, rfl, hb⟩ := hr x List.mem_cons_self
      refine wpAny_bind ((nestedKind prog w).quiet hb ?_)
      simp only [Bool.not_true, Bool.false_eq_true, if_false]
      exact wpAny_pure ⟨rfl, rfl, fun v hv => hr v (List.mem_cons_of_mem _ hv)⟩
    · rintro r s' ⟨rfl, rfl, _⟩
      exact wpAny_pure h
theorem find_none {d : Addr} {o : Obj} {es ep} {xs : List (NestedKey × Addr × Value)} {hh : Int} {Q : Option Nat → Shared → Prop} (hu : (nestedKind prog w).room A)
    (ho : s.heap.get? d = some o) (hd : o.data = .dict es ep) (he : es.toList = xs.map (entryOfKey (nestedKind prog w))) (his : ∀ x ∈ xs, (nestedKind prog w).is s.heap x.1 x.2.1) (h : Q none s) :
    wpAny (model prog w) A (dictFind d .none hh) Q E s := by
  have hmem : ∀ e ∈ es, ∃ x ∈ xs, e = entryOfKey (nestedKind prog w) x := by
    intro e hin
    have : e ∈ xs.map (entryOfKey (nestedKind prog w)) := he ▸ Array.mem_toList_iff.mpr hin
    obtain ⟨x, hx, rfl⟩ := List.mem_map.mp this
    exact ⟨x, hx, rfl⟩
  have hst : ∀ v ∈ (placesWithHash es.size (fun i => es[i]?.map (·.hash)) hh).filterMap (fun i => es[i]?.map (·.key)), ∃ k' b, v = .ref b ∧ (nestedKind prog w).is s.heap k' b := by
    intro v hv
    obtain ⟨i, _, hi⟩ := List.mem_filterMap.mp hv
    cases hei : es[i]? with
    | none => rw [hei] at hi; cases hi
    | some e =>
      rw [hei] at hi
      obtain rfl : e.key = v := by simpa using hi
      obtain ⟨x, hx, rfl⟩ := hmem e (Array.mem_of_getElem? hei)
      exact ⟨x.1, x.2.1, rfl, his x hx⟩
  have eq1 : ∀ {e : DictEntry} {Q : Bool → Shared → Prop}, e ∈ es → Q false s → wpAny (model prog w) A (eqBool e.key .none) Q E s := by
    intro e Q hin hq
    obtain ⟨x, hx, rfl⟩ := hmem e hin
    have hx' := his x hx
    refine eqAt_key x.1 .none A s _ _ hx'.1 .none (by have : A.units + 8 < cLine := hu; simp [NestedKey.depth]; omega) _ _ _ _ ?_
    rw [← NestedKey.decide_eq, decide_eq_false (tup_not_none hx')]
    exact hq
  unfold dictFind
  try with_reducible refine wpAny_holding ?_
  refine wpAny_bind (wpAny_dictEntries ho hd ?_)
  dsimp only
  by_cases c : ((Value.none :: (placesWithHash es.size (fun i => es[i]?.map (·.hash)) hh).filterMap (fun i => es[i]?.map (·.key))).all carriedByValue) = true
  · rw [if_pos c]
    unfold dictWalkPlain
    refine wpAny_bind ?_
    refine wpAny_forIn_list _ (fun rest b s' => s' = s ∧ b = (none, ())) _ ?_ ?_ _ _ ⟨rfl, rfl⟩
    · rintro x rest b s' ⟨rfl, rfl⟩
      cases hei : es[x]? with
      | none => exact wpAny_pure ⟨rfl, rfl⟩
      | some e =>
        dsimp only
        by_cases c2 : (e.hash == hh) = true
        · rw [if_pos c2]
          refine wpAny_bind (wpAny_dictEpoch ho hd (wpAny_bind (eq1 (Array.mem_of_getElem? hei) (wpAny_bind (wpAny_dictEpoch ho hd ?_)))))
          show wpAny _ _ (if (ep != ep) = true then _ else _) _ E _
          rw [if_neg (by simp)]
          simp only [Bool.false_eq_true, if_false]
          exact wpAny_bind (wpAny_rule (wpAny_pure ⟨rfl, rfl⟩))
        · rw [if_neg c2]
          exact wpAny_pure ⟨rfl, rfl⟩
    · rintro b s' ⟨rfl, rfl⟩
      exact wpAny_pure h
  · rw [if_neg c]
    by_cases hone : (((placesWithHash es.size (fun i => es[i]?.map (·.hash)) hh).filterMap (fun i => es[i]?.map (·.key))) == [Value.none]) = true <;>
    (first | rw [if_pos hone] | rw [if_neg hone]) <;> (first | refine wpAny_bind (wpAny_pure ?_) | refine wpAny_bind (tells_none hst ?_)) <;> (
      rw [if_neg (by simp)]
      refine wpAny_bind ?_
      refine wpAny_forIn_list _ (fun rest b s' => s' = s ∧ b = (none, none)) _ ?_ ?_ _ _ ⟨rfl, rfl⟩
      · rintro x rest b s' ⟨rfl, rfl⟩
        cases hei : es[x]? with
        | none => exact wpAny_pure ⟨rfl, rfl⟩
        | some e =>
          dsimp only
          by_cases c2 : (e.hash == hh) = true
          · rw [if_pos c2]
            refine wpAny_bind (wpAny_dictEpoch ho hd (wpAny_bind (eq1 (Array.mem_of_getElem? hei) (wpAny_bind (wpAny_dictEpoch ho hd ?_)))))
            show wpAny _ _ (if (ep != ep) = true then _ else _) _ E _
            rw [if_neg (by simp)]
            simp only [Bool.false_eq_true, if_false]
            refine wpAny_bind (wpAny_rule ?_)
            first | rw [if_neg (by simp)] | skip
            first
              | exact wpAny_pure ⟨rfl, rfl⟩
              | exact wpAny_bind (wpAny_pure (wpAny_pure ⟨rfl, rfl⟩))
          · rw [if_neg c2]
            exact wpAny_pure ⟨rfl, rfl⟩
      · rintro b s' ⟨rfl, rfl⟩
        exact wpAny_pure h)
theorem get_none {d : Addr} {xs : List (NestedKey × Addr × Value)} {Q : Option Value → Shared → Prop} (hu : (nestedKind prog w).room A) (hm : s.heap.DictOfH (nestedKind prog w) d xs)
    (h : Q none { s with toks := s.toks + NestedKey.none.draws }) : wpAny (model prog w) A (dictGet d .none) Q E s := by
  obtain ⟨o, es, ep, ho, _, hd, he, his, hn⟩ := hm
  unfold dictGet
  try with_reducible refine wpAny_holding ?_
  have hu' : A.units + 8 < cLine := hu
  refine wpAny_bind (pyHash_key .none .none A s _ .none (by simp [NestedKey.depth]; omega) (wpAny_bind (find_none (s := { s with toks := s.toks + NestedKey.none.draws }) hu ho hd he his ?_)))
  exact wpAny_pure h
theorem contains_none {d : Addr} {xs : List (NestedKey × Addr × Value)} {Q : Bool → Shared → Prop} (hu : (nestedKind prog w).room A.in1) (hd : (d == sysModules) = false) (hm : s.heap.DictOfH (nestedKind prog w) d xs)
    (h : Q false { s with toks := s.toks + NestedKey.none.draws }) : wpAny (model prog w) A (contains (.ref d) .none) Q E s := by
  refine wpAny_contains_slot hm.typeIs F.slot_dict_contains ?_
  refine call_meetsIn F.slot_dict_contains hm.typeIs F.entry_dict_contains (F.args_dict_contains_2 _ _) (S := fun A' R s' => A' = A ∧ s' = s ∧ R (.ok (.ret (.bool false))) { s with toks := s.toks + NestedKey.none.draws }) (fun A' R s' hS => ?_) ⟨rfl, rfl, wpAny_truthy_bool h⟩
  obtain ⟨rfl, rfl, hq⟩ := hS
  show wpAny _ _ (dictGet d .none >>= _) _ _ _
  refine wpAny_bind (get_none hu hm ?_)
  show wpAny _ _ (Builtin.Dict.pendingKey? d .none >>= _) _ _ _
  exact wpAny_bind (wpAny_pendingKey_other hd (wpAny_pure hq))
end
section
variable {X : Cx} {W : WX} {a b : Expr} {fa fb : DE} {pos : Pos} {k : Nat}
def rInN (w : World) (K : PySem.W.Frag) (mg : Str → Option Value) (neg : Bool) : R2 := fun x y H Q => ∃ a xs ob, x = .non ∧ y = .ref a ∧ H a = some (dicO w a xs ob) ∧ (∀ e ∈ xs, KeyV w K mg H e.2.1 e.1) ∧ Q (.bl neg) H
theorem op_inN (hu : X.A.in1.units + 8 < cLine) : OpR X (compareOp .In) (rInN X.w X.K X.mg false) := by
  intro pins s σ H x y v u Q I rx ry h
  obtain ⟨a, xs, ob, rfl, rfl, ha, hks, q⟩ := h
  cases ry
  cases rx
  obtain ⟨ys, hd, p, hm, hz⟩ := dic_read I ha hks
  show wpAny _ _ (do return Value.bool (← contains (.ref a) .none)) _ _ _
  exact wpAny_bind (contains_none (prog := X.prog) (w := X.w) hu hm hd (wpAny_pure ⟨.bl _, H, I.kept (t' := _) fun _ _ e => e, rfl, q⟩))
theorem op_ninN (hu : X.A.in1.units + 8 < cLine) : OpR X (compareOp .NotIn) (rInN X.w X.K X.mg true) := by
  intro pins s σ H x y v u Q I rx ry h
  obtain ⟨a, xs, ob, rfl, rfl, ha, hks, q⟩ := h
  cases ry
  cases rx
  obtain ⟨ys, hd, p, hm, hz⟩ := dic_read I ha hks
  show wpAny _ _ (do return Value.bool (!(← contains (.ref a) .none))) _ _ _
  exact wpAny_bind (contains_none (prog := X.prog) (w := X.w) hu hm hd (wpAny_pure ⟨.bl _, H, I.kept (t' := _) fun _ _ e => e, rfl, q⟩))
/-- in, also for None -/
def opInKN (neg : Bool) (a b : D) : Res D := match a, b with
  | .non, .dic _ es => if allK es = true then .ok (.bl neg) else .stuck
  | a, b => opInK neg a b
theorem ok_inKN (neg : Bool) : OpOk X W (opInKN neg) (fun x y H Q => rInN X.w X.K X.mg neg x y H Q ∨ (rInK X.w X.K X.mg neg x y H Q ∨ rInW X.K neg x y H Q)) := by
  intro H0 F0 ρ σ F H F2 H2 v u a b Q r r2 g x y p
  by_cases c : ∃ t es, a = .non ∧ b = .dic t es
  · obtain ⟨t, es, rfl, rfl⟩ := c
    obtain ⟨h, p⟩ := Post.guard (c := allK es = true) p
    obtain ⟨q, xs, ob, rfl, h1, h2⟩ := y.dic r2.fh
    have xn : v = .non := by
      have := x.rep rfl
      cases this
      rfl
    exact .inl ⟨q, xs, ob, xn, rfl, h1, re_keys h2 h r2.fh, p.here r2 g (RX.fz (.bl _))⟩
  · have e : opInKN neg a b = opInK neg a b := by
      cases a <;> first | rfl | (cases b <;> first | rfl | exact absurd ⟨_, _, rfl, rfl⟩ c)
    rw [e] at p
    exact .inr (ok_inK neg r r2 g x y p)
theorem op_inXN (hr : Room k X.A) : OpR X (compareOp .In) (fun x y H Q => rInN X.w X.K X.mg false x y H Q ∨ (rInK X.w X.K X.mg false x y H Q ∨ rInW X.K false x y H Q)) := by
  intro pins s σ H x y v u Q I rx ry h
  rcases h with h | h
  · exact op_inN (in1_room hr) pins s σ H x y v u Q I rx ry h
  · exact op_inX hr pins s σ H x y v u Q I rx ry h
theorem op_ninXN (hr : Room k X.A) : OpR X (compareOp .NotIn) (fun x y H Q => rInN X.w X.K X.mg true x y H Q ∨ (rInK X.w X.K X.mg true x y H Q ∨ rInW X.K true x y H Q)) := by
  intro pins s σ H x y v u Q I rx ry h
  rcases h with h | h
  · exact op_ninN (in1_room hr) pins s σ H x y v u Q I rx ry h
  · exact op_ninX hr pins s σ H x y v u Q I rx ry h
theorem pd_inKN (hr : Room k X.A) (ha : PD X W a fa) (hb : PD X W b fb) (hm : behindInMarks .In b = false := by with_unfolding_all rfl) : PD X W (.Compare a [.In] [b] pos) (fB (opInKN false) fa fb) := (pe_cmpR (op_inXN hr) ha hb hm).imp fun _ _ _ => bin_imp (ok_inKN false)
theorem pd_ninKN (hr : Room k X.A) (ha : PD X W a fa) (hb : PD X W b fb) (hm : behindInMarks .NotIn b = false := by with_unfolding_all rfl) : PD X W (.Compare a [.NotIn] [b] pos) (fB (opInKN true) fa fb) := (pe_cmpR (op_ninXN hr) ha hb hm).imp fun _ _ _ => bin_imp (ok_inKN true)
theorem ptd_inKN (hr : Room k X.A) (ha : PD X W a fa) (hb : PD X W b fb) (hm : behindInMarks .In b = false := by with_unfolding_all rfl) : PTD X W (.Compare a [.In] [b] pos) (tOf (fB (opInKN false) fa fb)) := ptd_cmp (op_inXN hr) (ok_inKN false) ha hb hm
theorem ptd_ninKN (hr : Room k X.A) (ha : PD X W a fa) (hb : PD X W b fb) (hm : behindInMarks .NotIn b = false := by with_unfolding_all rfl) : PTD X W (.Compare a [.NotIn] [b] pos) (tOf (fB (opInKN true) fa fb)) := ptd_cmp (op_ninXN hr) (ok_inKN true) ha hb hm
end
end Dl
/-! list(range(a, b)) for whole numbers of any size. -/
namespace Dl
open PySem PySem.Spec PyProof.Rows L2
section
variable {prog : Program} {w : World} {A : Around} {E : Value → Shared → Prop} {s : Shared}
theorem extend_rangeL {R : Result → Shared → Prop} {r : Addr} {a b c : Int} {t u v : Tok} {n : Nat} (hh : A.handled = none) (hr : IsRange s.heap r a b c t u v) (hbig : Builtin.Range.small a b c = false)
    (hn : Builtin.Range.rangeSize a b c = n) (hlen : n ≤ 2 ^ 24) (S : Addr) (res : Value) (c₀ : Nat) (hS : s.heap.get? S = some { cls := .type "list", data := .seq #[] c₀ })
    (hR : ∀ h' tk acc' c', (∀ b o, b ≠ S → s.heap.get? b = some o → h'.get? b = some o) → h'.get? S = some { cls := .type "list", dict := none, data := .seq acc' c', slots := #[] } →
      ItemsOf (fun i v => ∃ t, v = .int (a + i * c) t) acc' n → R (.ok (.ret res)) { s with heap := h', toks := tk }) :
    wpAny (model prog w) A.in1 (Builtin.List.listExtendWith (.ref S) (.ref r) res)
      (fun fin s' => match fin with | .done f => R (.ok f) s' | .again c' => c'.quiet = true ∧ codeAny (model prog w) A c' R s') (fun e s' => R (.error e) s') s := by
  have hSr : S ≠ r := fun e => by rw [e, hr] at hS; simp at hS
  have hSlt : S < s.heap.objs.size := Heap.lt_size hS
  have hSI : S ≠ s.heap.objs.size := Nat.ne_of_lt hSlt
  have hSf : S ∉ [s.heap.objs.size] := fun hm => hSI (List.mem_singleton.mp hm)
  have W := (Walks.longrange (prog := prog) (w := w) (A := A.in1) hh s.heap.objs.size a c n).toS
  have key : ∀ (h : Heap) (c₁ tk : Nat), IsLongIter h s.heap.objs.size (a + ((0 : Nat) : Int) * c) ((n : Int) - ((0 : Nat) : Int)) c → (∀ b o, b ≠ S → s.heap.get? b = some o → h.get? b = some o) →
      h.get? S = some { cls := .type "list", data := .seq #[] c₁ } → codeAny (model prog w) A (.builtin "list.extend.loop" ⟨[.ref S, .ref s.heap.objs.size, res], []⟩) R { s with heap := h, toks := tk } := by
    intro h c₁ tk hit hk hS₁
    refine codeAny_extend_loopS W (by rw [sizeLine_eq]; omega) S hSf res n 0 _ #[] c₁ rfl (Nat.zero_le _) hit hS₁ (ItemsOf.nil _) fun s' acc' c' hm hS' hacc => ?_
    rw [Moved.eq_with hm]
    refine hR s'.heap s'.toks acc' c' (fun b o hb e => hm.heap b o (fun hmem => ?_) (hk b o hb e)) hS' hacc
    rcases List.mem_cons.mp hmem with e' | hmem
    · exact hb e'
    · exact absurd (Heap.lt_size e) (by rw [List.mem_singleton.mp hmem]; exact Nat.lt_irrefl _)
  unfold Builtin.List.listExtendWith
  refine wpAny_bind (wpAny_typeOf (T := "range") ⟨_, hr, rfl⟩ ?_)
  have h1 : Builtin.List.listSameRef (.ref S) (.ref r) = false := by simp [Builtin.List.listSameRef, hSr]
  have h2 : (Value.type "range" == Value.type "list") = false := by decide
  have h3 : (Value.type "range" == Value.type "tuple") = false := by decide
  simp only [h1, h2, h3, Bool.or_false, Bool.false_eq_true, if_false]
  refine wpAny_bind (wpAny_pyIter_longrange hr hbig ?_)
  refine wpAny_bind (wpAny_holding (wpAny_hint_range (n := n) (Heap.get?_push_of_some _ hr) hn hlen ?_))
  have hit₁ : IsLongIter (s.heap.push { cls := .type "longrange_iterator", data := .fields #[rawInt a, rawInt (Builtin.Range.rangeSize a b c), rawInt c] }) s.heap.objs.size (a + ((0 : Nat) : Int) * c) ((n : Int) - ((0 : Nat) : Int)) c := by
    show IsLongIter _ _ _ _ _; rw [hn]; simpa using Heap.get?_push_size _ rfl
  have hS₁ := Heap.get?_push_of_some { cls := .type "longrange_iterator", data := .fields #[rawInt a, rawInt (Builtin.Range.rangeSize a b c), rawInt c] } hS
  refine wpAny_ite_split (fun _ => ?_) (fun _ => wpAny_pure ⟨plainId_quiet F.plain_extend_loop _, key _ c₀ _ hit₁ (fun b o _ e => Heap.get?_push_of_some _ e) hS₁⟩)
  refine wpAny_bind (wpAny_rule ?_)
  refine wpAny_bind ?_
  show wpAny _ _ (updateSeq S (·.push .none) >>= fun _ => updateSeq S (·.pop)) _ _ _
  refine wpAny_bind (wpAny_updateSeq hS₁ rfl ?_)
  have hS₂ := Heap.get?_update_self (Obj.mapSeq (·.push Value.none)) hS₁ rfl
  refine wpAny_updateSeq (hz := by seq_fits) hS₂ rfl ?_
  have hS₃ := Heap.get?_update_self (Obj.mapSeq (·.pop)) hS₂ rfl
  refine wpAny_pure ⟨plainId_quiet F.plain_extend_loop _, key _ _ _ ?_ (fun b o hb e => ?_) hS₃⟩
  · exact (Heap.get?_update_other _ _ hSI).trans ((Heap.get?_update_other _ _ hSI).trans hit₁)
  · exact (Heap.get?_update_other _ _ (Ne.symm hb)).trans ((Heap.get?_update_other _ _ (Ne.symm hb)).trans (Heap.get?_push_of_some _ e))
theorem list_init_rangeL {R : Result → Shared → Prop} {r : Addr} {a b c : Int} {t u v : Tok} {n : Nat} (hh : A.handled = none) (hr : IsRange s.heap r a b c t u v) (hbig : Builtin.Range.small a b c = false)
    (hn : Builtin.Range.rangeSize a b c = n) (hlen : n ≤ 2 ^ 24) (S : Addr) (hS : s.heap.get? S = some { cls := .type "list", data := .seq #[] })
    (hR : ∀ h' tk acc' c', (∀ b o, b ≠ S → s.heap.get? b = some o → h'.get? b = some o) → h'.get? S = some { cls := .type "list", dict := none, data := .seq acc' c', slots := #[] } →
      ItemsOf (fun i v => ∃ t, v = .int (a + i * c) t) acc' n → R (.ok (.ret .none)) { s with heap := h', toks := tk }) :
    wpAny (model prog w) A.in1 (Builtin.«list.__init__» ⟨[.ref S, .ref r], []⟩)
      (fun fin s' => match fin with | .done f => R (.ok f) s' | .again c' => c'.quiet = true ∧ codeAny (model prog w) A c' R s') (fun e s' => R (.error e) s') s := by
  have hSr : S ≠ r := fun e => by rw [e, hr] at hS; simp at hS
  show wpAny _ _ (do let old ← Builtin.List.listItems (.ref S); Builtin.List.listUpdate (.ref S) (fun _ => #[]); letGo old.toList.reverse; Builtin.List.listExtendWith (.ref S) (.ref r) .none) _ _ s
  refine wpAny_bind ?_
  unfold Builtin.List.listItems
  refine wpAny_bind (wpAny_seqItems hS rfl (wpAny_pure ?_))
  show wpAny _ _ (updateSeq S (fun _ => #[]) >>= fun _ => letGo (#[] : Array Value).toList.reverse >>= fun _ => Builtin.List.listExtendWith (.ref S) (.ref r) .none) _ _ s
  refine wpAny_bind (wpAny_updateSeq hS rfl ?_)
  have hS₂ := Heap.get?_update_self (Obj.mapSeq (fun _ => (#[] : Array Value))) hS rfl
  have oth : ∀ b o, b ≠ S → s.heap.get? b = some o → (s.heap.update S (Obj.mapSeq (fun _ => (#[] : Array Value)))).get? b = some o :=
    fun b o hb e => (Heap.get?_update_other _ _ (Ne.symm hb)).trans e
  refine wpAny_bind (wpAny_letGo ?_)
  refine extend_rangeL hh (oth r _ (Ne.symm hSr) hr) hbig hn hlen S .none _ hS₂ fun h' tk acc' c' hk hS' hacc => ?_
  exact hR h' tk acc' c' (fun b o hb e => hk b o hb (oth b o hb e)) hS' hacc
theorem call_list_rangeL {Q : Value → Shared → Prop} {r : Addr} {a b c : Int} {t u v : Tok} {n : Nat} (hh : A.handled = none) (hr : IsRange s.heap r a b c t u v) (hbig : Builtin.Range.small a b c = false)
    (hn : Builtin.Range.rangeSize a b c = n) (hlen : n ≤ 2 ^ 24)
    (hQ : ∀ h' tk acc' c', (∀ b o, s.heap.get? b = some o → h'.get? b = some o) →
      h'.get? s.heap.objs.size = some { cls := .type "list", dict := none, data := .seq acc' c', slots := #[] } → ItemsOf (fun i v => ∃ t, v = .int (a + i * c) t) acc' n → Q (.ref s.heap.objs.size) { s with heap := h', toks := tk }) :
    wpAny (model prog w) A (call (.type "list") [.ref r]) Q E s := by
  refine callType_codes (Q₁ := fun obj s₁ => obj = .ref s.heap.objs.size ∧ s₁ = { s with heap := s.heap.push { cls := .type "list", data := .seq #[] } }) F.called_list (F.typeCall_list_1 _) F.entry_list_init
    (code_list_new _ ⟨rfl, rfl⟩) fun obj s₁ h₁ => ?_
  obtain ⟨rfl, rfl⟩ := h₁
  have hS : (s.heap.push { cls := .type "list", data := .seq #[] }).get? s.heap.objs.size = some { cls := .type "list", data := .seq #[] } := Heap.get?_push_size _ rfl
  refine ⟨⟨_, hS, rfl⟩, F.args_list_init_2 _ _, list_init_rangeL (A := A.in1) hh (Heap.get?_push_of_some _ hr) hbig hn hlen _ hS fun h' tk acc' c' hk hS' hacc => ?_⟩
  exact ⟨rfl, hQ h' tk acc' c' (fun b o e => hk b o (Nat.ne_of_lt (Heap.lt_size e)) (Heap.get?_push_of_some _ e)) hS' hacc⟩
theorem call_list_rangeG {Q : Value → Shared → Prop} {r : Addr} {a b c : Int} {t u v : Tok} {n : Nat} (hh : A.handled = none) (hr : IsRange s.heap r a b c t u v)
    (hn : Builtin.Range.rangeSize a b c = n) (hlen : n ≤ 2 ^ 24)
    (hQ : ∀ h' tk acc' c', (∀ b o, s.heap.get? b = some o → h'.get? b = some o) →
      h'.get? s.heap.objs.size = some { cls := .type "list", dict := none, data := .seq acc' c', slots := #[] } → ItemsOf (fun i v => ∃ t, v = .int (a + i * c) t) acc' n → Q (.ref s.heap.objs.size) { s with heap := h', toks := tk }) :
    wpAny (model prog w) A (call (.type "list") [.ref r]) Q E s := by
  cases e : Builtin.Range.small a b c with
  | true => exact call_list_range hh hr e hn hlen hQ
  | false => exact call_list_rangeL hh hr e hn hlen hQ
end
section
variable {X : Cx} {W : WX} {H0 F0 : Hp} {ρ : DEnv} {σ : L2.St} {F H : Hp} {a b : Expr} {fa fb : DE} {p p2 pos pos2 : Pos} {e : Expr} {te : L2.St → Hp → (Int → Int → Hp → Prop) → Prop}
def tLstRgG (te : L2.St → Hp → (Int → Int → Hp → Prop) → Prop) : TE := fun σ H Q => te σ H fun a b H1 => (b - a).toNat ≤ 2 ^ 24 ∧ ∀ q, H1 q = none → Q (.ref q) (upd H1 q (.lst (rgV a b)))
theorem pe_listRgG {p pos : Pos} (hc : X.calm = true) (hg : Gl X "list") (hm : X.mg "list" = none) (he : PRg X e te) (na : starEach [e] X.env = (false, eval e X.env) :: starEach [] X.env := by rfl) : PE X (.Call (.Name "list" p) [e] [] pos) (tLstRgG te) := by
  refine ⟨fun pins s σ H Q I h => ?_⟩
  refine Call_ (ld_blt I hg hm boot_list (PyProof.Rows.callWith_type1 (args_cons (thn (he pins s σ H _ I h) fun x s1 ⟨r, a, b, t, u, v, H1, ex, hr, I1, b5, q⟩ => args_nil ?_) na) na))
  subst ex
  refine call_list_rangeG (n := (b - a).toNat) (I1.ok.hd hc) hr (rangeSize_nat a b) b5 fun h' tk acc c' hk e' hi => ?_
  refine ⟨.ref s1.heap.objs.size, upd H1 s1.heap.objs.size (.lst (rgV a b)), I1.laid hk (Nat.le_refl _) (show ObjOk X.prog X.w _ _ _ (.lst (rgV a b)) from ⟨?_, acc.toList, c', vals_rg hi, ?_⟩), rfl, q _ (I1.hok.fresh (Nat.le_refl _))⟩
  · rw [rgV_length, sizeLine_eq]; omega
  · rw [Array.toArray_toList]; exact e'
/-- list(range(a, b)) -/
def lrgG (i j : Int) : Res D := if j ≤ 16777216 + i then .ok (.lst .ow (upTo i (j - i).toNat)) else .stuck
def lrg2G : D → D → Res D
  | .int i, .int j => lrgG i j
  | _, _ => .stuck
@[simp] theorem lrg2G_i (i j : Int) : lrg2G (.int i) (.int j) = lrgG i j := rfl
theorem lrgG_end {i j : Int} {Q : VK} {F1 H1 : Hp} (r1 : R X H0 F0 ρ σ F1 H1) (g1 : Gr F H F1 H1) (p : Post X W (RXX X) H0 F0 ρ σ F H (lrgG i j) Q) : (j - i).toNat ≤ 2 ^ 24 ∧ ∀ q, H1 q = none → Q (.ref q) (upd H1 q (.lst (rgV i j))) := by
  obtain ⟨c, p⟩ := Post.guard p
  exact ⟨by omega, fun q n => p.at r1 g1 (Gr.alloc n) (same_updF r1.fh n) (RX.newL g1.hh r1.fh n (reps_rg _ _ _ _ i j))⟩
theorem pd_listRg2G (hc : X.calm = true) (hg : Gl X "list") (hm : X.mg "list" = none) (hg2 : Gl X "range") (hm2 : X.mg "range" = none) (ha : PD X W a fa) (hb : PD X W b fb) (na : starEach [a, b] X.env = (false, eval a X.env) :: starEach [b] X.env := by rfl)
    (nb : starEach [b] X.env = (false, eval b X.env) :: starEach [] X.env := by rfl) (hp : (backTo pos2 (starEach [b] X.env)).any (·.1) = false := by rfl)
    (nc : starEach [.Call (.Name "range" p2) [a, b] [] pos2] X.env = (false, eval (.Call (.Name "range" p2) [a, b] [] pos2) X.env) :: starEach [] X.env := by rfl) :
    PD X W (.Call (.Name "list" p) [.Call (.Name "range" p2) [a, b] [] pos2] [] pos) (fB lrg2G fa fb) :=
  (pe_listRgG hc hg hm (prg_2 hg2 hm2 ha hb na nb hp) nc).imp fun σ H Q ⟨H0, F0, ρ, F, r, q⟩ => ⟨H0, F0, ρ, F, r, q.bind (Gr.refl _ _) fun F1 H1 v d _ r1 g1 x1 p1 => ⟨H0, F0, ρ, F1, r1, p1.bind g1 fun F2 H2 u e _ r2 g2 x2 p2 => by
    by_cases c : ∃ i j, d = .int i ∧ e = .int j
    · obtain ⟨i, j, rfl, rfl⟩ := c
      exact ⟨i, j, x1.int, x2.int, lrgG_end r2 (g1.trans g2) p2⟩
    · have z : lrg2G d e = .stuck := by
        unfold lrg2G
        split
        · exact (c ⟨_, _, rfl, rfl⟩).elim
        · rfl
      rw [z] at p2
      exact p2.elim⟩⟩
end
end Dl
/-! A loop over a variable's own list that is the variable's own again behind the loop: the body leaves the variable alone. -/
namespace Dl
open PySem PySem.Spec PyProof.Rows L2
section
variable {X : Cx} {W : WX} {H0 F0 : Hp} {ρ : DEnv} {σ : L2.St} {F H F' H' : Hp} {E : Ends} {k : Nat} {s0 : Option (Option V)}
/-- as SPost, and slot k is as it was -/
def SPostK (X : Cx) (W : WX) (H0 F0 : Hp) (D : Ends) (k : Nat) (s0 : Option (Option V)) : SR → Prop
  | .next ρ => ∀ σ F H, R X H0 F0 ρ σ F H → σ[k]? = s0 → D.nx σ H
  | .brk ρ => ∀ σ F H, R X H0 F0 ρ σ F H → σ[k]? = s0 → D.bk σ H
  | .cont ρ => ∀ σ F H, R X H0 F0 ρ σ F H → σ[k]? = s0 → D.ct σ H
  | .ret d => ∀ F H v, Gr F0 H0 F H → Same F H → RX X.w X.K X.mg F H0 H v d → D.rt v H
  | .exc c ρ => ∀ σ F H C, R X H0 F0 ρ σ F H → σ[k]? = s0 → X.mg c = some (.ref C) → W (.ref C) none σ H
  | .stuck => False
def tKS (X : Cx) (W : WX) (k : Nat) (g : DS) : TS := fun D σ H => ∃ H0 F0 ρ F, R X H0 F0 ρ σ F H ∧ SPostK X W H0 F0 D k σ[k]? (g ρ)
def PSK (X : Cx) (W : WX) (k : Nat) (st : Stmt) (g : DS) : Prop := PS X st (tKS X W k g)
def PSSK (X : Cx) (W : WX) (k : Nat) (st : List Stmt) (g : DS) : Prop := PSs X st (tKS X W k g)
theorem SPostK.expr {α β : Type} {rel : Hp → Hp → Hp → β → α → Prop} {r : Res α} {g : α → SR} {Q : β → Hp → Prop} (r0 : R X H0 F0 ρ σ F H) (h : SPostK X W H0 F0 E k σ[k]? (r.toS ρ g))
    (c : ∀ F1 H1 v a, r = .ok a → R X H0 F0 ρ σ F1 H1 → Gr F H F1 H1 → rel F1 H H1 v a → SPostK X W H0 F0 E k σ[k]? (g a) → Q v H1) : Post X W rel H0 F0 ρ σ F H r Q := by
  cases r with
  | ok a => exact fun F1 H1 v r1 g1 x => c F1 H1 v a rfl r1 g1 x h
  | exc e => exact fun F1 H1 C r1 g1 m => h σ F1 H1 C r1 rfl m
  | stuck => exact h
variable {st : Stmt} {sts : List Stmt} {g g2 : DS} {e a : Expr} {fe fa : DE} {pos : Pos}
theorem pssk_nil : PSSK X W k [] sNext := pss_nil.imp fun D σ H ⟨H0, F0, ρ, F, r, p⟩ => p σ F H r rfl
theorem SPostK.seq {r : SR} (h : SPostK X W H0 F0 E k s0 (r.seq g2)) : SPostK X W H0 F0 { E with nx := tKS X W k g2 E } k s0 r := by
  cases r with
  | next ρ => exact fun σ F H r e => ⟨H0, F0, ρ, F, r, by rw [e]; exact h⟩
  | _ => exact h
theorem pssk_cons (h1 : PSK X W k st g) (h2 : PSSK X W k sts g2) : PSSK X W k (st :: sts) (sSeq g g2) := (pss_cons h1 h2).imp fun D σ H ⟨H0, F0, ρ, F, r, p⟩ => ⟨H0, F0, ρ, F, r, p.seq⟩
theorem pssk_one (h1 : PSK X W k st g) : PSSK X W k [st] g := pss_one h1
theorem psk_pass : PSK X W k (.Pass pos) sNext := ps_pass.imp fun D σ H ⟨H0, F0, ρ, F, r, p⟩ => p σ F H r rfl
theorem psk_break : PSK X W k (.Break pos) (fun ρ => .brk ρ) := ps_break.imp fun D σ H ⟨H0, F0, ρ, F, r, p⟩ => p σ F H r rfl
theorem psk_cont : PSK X W k (.Continue pos) (fun ρ => .cont ρ) := ps_continue.imp fun D σ H ⟨H0, F0, ρ, F, r, p⟩ => p σ F H r rfl
theorem psk_expr (he : PD X W e fe) (hs : swapsWith e none pos.line X.env = pure false := by rfl) : PSK X W k (.Expr e pos) (sDrop fe) := (ps_expr he hs).imp fun D σ H ⟨H0, F0, ρ, F, r, p⟩ =>
  ⟨H0, F0, ρ, F, r, p.expr r fun F1 H1 v d _ r1 g1 x1 p1 => p1 σ F1 H1 r1 rfl⟩
theorem psk_ret (he : PD X W e fe) : PSK X W k (.Return (some e) pos) (sRet fe) := (ps_ret he).imp fun D σ H ⟨H0, F0, ρ, F, r, p⟩ =>
  ⟨H0, F0, ρ, F, r, p.expr r fun F1 H1 v d _ r1 g1 x1 p1 => p1 F1 H1 v r1.gr r1.fh (x1.start r.gr.hh)⟩
theorem psk_if {c : Expr} {tc : DT} {b1 b2 : List Stmt} (hc : PTD X W c tc) (h1 : PSSK X W k b1 g) (h2 : PSSK X W k b2 g2) : PSK X W k (.If c b1 b2 pos) (sIf tc g g2) := (ps_if hc h1 h2).imp fun D σ H ⟨H0, F0, ρ, F, r, p⟩ =>
  ⟨H0, F0, ρ, F, r, p.expr r fun F1 H1 v d _ r1 g1 x1 p1 => by
    cases x1
    cases v with
    | true => exact ⟨H0, F0, ρ, F1, r1, p1⟩
    | false => exact ⟨H0, F0, ρ, F1, r1, p1⟩⟩
theorem psk_set (i : Nat) {x : Str} {pos' : Pos} (hN : X.N.Nodup) (he : PD X W e fe) (hk : i ≠ k := by decide) (hi : X.N[i]? = some x := by rfl) (hx : Loc X.env.scope x := by first | exact Or.inl rfl | exact Or.inr rfl) (hs : swapsWith e (some (.Name x pos')) pos.line X.env = pure false := by rfl) (hf : X.fn x = true ∨ X.env.scope.names.lookup x = some .local := by first | exact .inl rfl | exact .inr rfl | assumption) :
    PSK X W k (.Assign [.Name x pos'] e pos) (sSet i fe) := (ps_set hN hi hx he hs hf).imp fun D σ H ⟨H0, F0, ρ, F, r, p⟩ =>
  ⟨H0, F0, ρ, F, r, p.expr r fun F1 H1 v d _ r1 g1 x1 p1 => by
    by_cases t : d.tg = .vw
    · rw [if_pos t] at p1; exact p1.elim
    · rw [if_neg t] at p1
      exact p1 _ F1 H1 (r.setv r1 g1 x1 t) (List.getElem?_set_ne hk)⟩
theorem psk_raise {x m : Str} {j : Nat} {p p2 pos pos' : Pos} (A : ExcAt X.K X.mg x) (hc : X.calm = true) (hg : Gl X x) (tk : Takes X W) (hn : x ≠ "__name__" := by decide) (hdb : (x == ("__debug__" : Str)) = false := by decide) :
    PSK X W k (.Raise (some (.Call (.Name x p) [.Constant (.str m) j p2] [] pos)) none pos') (sRaise x) := by
  obtain ⟨C, g, e1, e2, e3, e4⟩ := A.ex
  exact (ps_raise hc tk (pmk_own PySem.F.excBase_ValueError e1 g e2 (raises_own e3 e4) hg hdb)).imp fun D σ H ⟨H0, F0, ρ, F, r, q⟩ => q σ F H C r rfl g
theorem SPostK.guard {c : Prop} [Decidable c] {r : SR} (h : SPostK X W H0 F0 E k s0 (if c then r else .stuck)) : c ∧ SPostK X W H0 F0 E k s0 r := by
  by_cases e : c
  · rw [if_pos e] at h; exact ⟨e, h⟩
  · rw [if_neg e] at h; exact h.elim
theorem SPostK.withL {i : Nat} {q : List D → SR} (r : R X H0 F0 ρ σ F H) (p : SPostK X W H0 F0 E k s0 (withL ρ i q)) :
    ∃ ds a xs, ρ[i]? = some (some (.lst .ow ds)) ∧ σ[i]? = some (some (.ref a)) ∧ H a = some (.lst xs) ∧ Reps X.w X.K X.mg F xs ds ∧ SPostK X W H0 F0 E k s0 (q ds) := by
  unfold Dl.withL at p
  split at p
  · rename_i ds e
    obtain ⟨a, o, e1, _, _, e4, xs, rfl, e6⟩ := r.own e rfl
    exact ⟨ds, a, xs, e, e1, e4, e6, p⟩
  · exact p.elim
theorem psk_append {x : Str} {p1 apos cpos : Pos} (i : Nat) (he : PD X W e fe) (hN : X.N[i]? = some x := by rfl) (hv : Vis X.env.scope x := by first | exact Or.inl rfl | exact Or.inr (Or.inl rfl) | exact Or.inr (Or.inr rfl)) (hd : (x == ("__debug__" : Str)) = false := by decide) (hcd : (x == ("__classdict__" : Str)) = false := by decide)
    (hbase : attributeBase (.Name x p1) "append" X.env (eval (.Name x p1) X.env) = eval (.Name x p1) X.env := by rfl)
    (hfew : ((backTo cpos (starEach [e] X.env)).all (fun x => !x.1) && (backToKw cpos (keywordEach [] X.env)).all (fun x => x.1.isSome) && decide ([e].length + ([] : List Keyword).length + (if ([] : List Keyword).isEmpty then 0 else 1) < 30)) = true := by rfl)
    (hline : (apos.endLine == cpos.line) = true := by rfl) (hs : starEach [e] X.env = (false, eval e X.env) :: starEach [] X.env := by rfl) (hplain : (backTo cpos (starEach [] X.env)).any (·.1) = false := by rfl)
    (hsw : swapsWith (.Call (.Attribute (.Name x p1) "append" apos) [e] [] cpos) none pos.line X.env = pure false := by rfl) : PSK X W k (.Expr (.Call (.Attribute (.Name x p1) "append" apos) [e] [] cpos) pos) (sApp i fe) :=
  (ps_expr (pe_bm PySem.F.plainAttrs_list PySem.F.slot_list_append PySem.F.type_list_append mt_append (pv i hN hv hd hcd) (pa_cons he pa_nil hs) hbase hfew hline hs hplain) hsw).imp fun D σ H ⟨H0, F0, ρ, F, r, p⟩ => by
    obtain ⟨ds, a, xs, q1, q2, q3, q4, p⟩ := SPostK.withL r p
    refine ⟨.ref a, q2, .inl ⟨rfl, xs, .inl (.inl q3)⟩, H0, F0, ρ, F, r, p.expr r fun F1 H1 v d _ r1 g1 x1 p1 => ?_⟩
    obtain ⟨⟨c1, c2⟩, p1⟩ := SPostK.guard p1
    obtain ⟨F2, r2, g2, s2, y⟩ := RX.freeze r r1 g1 x1 c1
    obtain ⟨l1, l2⟩ := Rw.listL r2 g2 q3 q4
    exact ⟨a, xs, v, rfl, rfl, l1, by rw [q4.length, ← seqMax_eq]; exact c2, p1 _ F2 _ (r2.list (xs := xs) q1 q2 (l2.append (.cons y .nil))) rfl⟩
/-! ### the loop -/
def thaw (k : Nat) (ds : List D) : SR → SR
  | .next ρ => .next (ρ.set k (some (.lst .ow ds)))
  | .exc c ρ => .exc c (ρ.set k (some (.lst .ow ds)))
  | r => r
def sForT (k : Nat) (t : DTg) (b : DS) : DS := fun ρ => withL ρ k fun ds => thaw k ds (forD t b ds (ρ.set k none))
/-- slot k is hidden, its list stays where it is -/
theorem Rw.hide (r : R X H0 F0 ρ σ F H) {k : Nat} {ds : List D} {a : Addr} {o : HO} (e : ρ[k]? = some (some (.lst .ow ds))) (s : σ[k]? = some (some (.ref a))) (h : H a = some o) : R X (upd H0 a o) F (ρ.set k none) σ F H := by
  obtain ⟨b, u, e1, e2, e3, e4, e5⟩ := r.own e rfl
  rw [s] at e1
  cases e1
  refine ⟨r.fh, ⟨Same.refl _, fun z w q => ?_, fun _ h => .inl h⟩, by rw [List.length_set]; exact r.len, fun j d q => ?_, fun i j z di dj h1 h2 t1 t2 s1 s2 => ?_⟩
  · by_cases c : z = a
    · subst c; rw [upd_same] at q; rw [h]; exact q
    · rw [upd_ne c] at q; exact r.gr.hh _ _ q
  · rcases set_get q with ⟨_, q⟩ | ⟨ne, q⟩
    · cases q
    · obtain ⟨v, f1, f2⟩ := r.var j d q
      refine ⟨v, f1, ?_⟩
      unfold VR at f2 ⊢
      cases tf : d.tg with
      | fz => rw [tf] at f2; exact f2
      | vw => rw [tf] at f2; exact f2
      | ow =>
        rw [tf] at f2
        obtain ⟨b, p, rfl, q1, q2, q3, q4⟩ := f2
        refine ⟨b, p, rfl, ?_, q2, q3, q4⟩
        rw [upd_ne fun c => ne (r.dis k j a (.lst .ow ds) d e q rfl tf s (by rw [← c]; exact f1))]
        exact q1
  · rcases set_get h1 with ⟨_, q⟩ | ⟨n1, h1⟩
    · cases q
    · rcases set_get h2 with ⟨_, q⟩ | ⟨n2, h2⟩
      · cases q
      · exact r.dis i j z di dj h1 h2 t1 t2 s1 s2
/-- and shown again -/
theorem Rw.show {F1 H1 : Hp} {ρ1 : DEnv} {σ1 : L2.St} (r : R X H0 F0 ρ σ F H) {k : Nat} {ds : List D} {a : Addr} {xs : List V} (e : ρ[k]? = some (some (.lst .ow ds))) (s : σ[k]? = some (some (.ref a))) (h : H a = some (.lst xs)) (q : Reps X.w X.K X.mg F xs ds)
    (r1 : R X (upd H0 a (.lst xs)) F ρ1 σ1 F1 H1) (s1 : σ1[k]? = some (some (.ref a))) : R X H0 F0 (ρ1.set k (some (.lst .ow ds))) σ1 F1 H1 := by
  obtain ⟨b, u, e1, e2, e3, e4, e5⟩ := r.own e rfl
  rw [s] at e1
  cases e1
  have ha : upd H0 a (.lst xs) a = some (.lst xs) := upd_same
  have h1 : H1 a = some (.lst xs) := r1.gr.hh _ _ ha
  have f1 : F1 a = none := by
    cases c : F1 a with
    | none => rfl
    | some o =>
      rcases r1.gr.nw a (by rw [c]; simp) with z | z
      · exact absurd e3 z
      · rw [ha] at z; cases z
  have sh : Same H0 H1 := fun z w c => r1.gr.hh _ _ (by rw [upd_ne (ne_of_none c e2)]; exact c)
  refine ⟨r1.fh, ⟨r.gr.ff.trans r1.gr.ff, sh, fun z c => ?_⟩, by rw [List.length_set]; exact r1.len, fun j d c => ?_, fun i j z di dj h1 h2 t1 t2 c1 c2 => ?_⟩
  · rcases r1.gr.nw z c with c | c
    · exact r.gr.nw z c
    · by_cases ne : z = a
      · subst ne; rw [upd_same] at c; cases c
      · rw [upd_ne ne] at c; exact .inr c
  · rcases set_get c with ⟨jk, c2⟩ | ⟨ne, c⟩
    · cases c2
      subst jk
      exact ⟨_, s1, a, .lst xs, rfl, e2, f1, h1, xs, rfl, q.mono r1.gr.ff⟩
    · obtain ⟨v, g1, g2⟩ := r1.var j d c
      refine ⟨v, g1, ?_⟩
      unfold VR at g2 ⊢
      cases tf : d.tg with
      | fz => rw [tf] at g2; exact g2
      | vw => rw [tf] at g2; exact g2
      | ow =>
        rw [tf] at g2
        obtain ⟨b, p, rfl, q1, q2, q3, q4⟩ := g2
        refine ⟨b, p, rfl, ?_, q2, q3, q4⟩
        by_cases ne : b = a
        · subst ne; exact e2
        · rw [upd_ne ne] at q1; exact q1
  · have old : ∀ (j : Nat) dj, j ≠ k → (ρ1.set k (some (.lst .ow ds)))[j]? = some (some dj) → ρ1[j]? = some (some dj) := fun j dj ne c => by
      rw [List.getElem?_set_ne (Ne.symm ne)] at c; exact c
    have no : ∀ (j : Nat) dj, j ≠ k → (ρ1.set k (some (.lst .ow ds)))[j]? = some (some dj) → dj.tg = .ow → σ1[j]? = some (some (.ref a)) → False := fun j dj ne c t c1 => by
      obtain ⟨b, o, z1, z2, _⟩ := r1.own (old j dj ne c) t
      rw [c1] at z1
      cases z1
      rw [ha] at z2
      cases z2
    by_cases ik : i = k
    · subst ik
      by_cases jk : j = i
      · exact jk.symm
      · rw [s1] at c1
        cases c1
        exact (no j dj jk h2 t2 c2).elim
    · by_cases jk : j = k
      · subst jk
        rw [s1] at c2
        cases c2
        exact (no i di ik h1 t1 c1).elim
      · exact r1.dis i j z di dj (old i di ik h1) (old j dj jk h2) t1 t2 c1 c2
theorem psd_forT (k : Nat) {x : Str} {tg : Expr} {p : Pos} {body : List Stmt} {t : DTg} {is : List Nat} {b : DS} (hp : PassesOwn (model X.prog X.w) X.A X.env X.xe) (hc : X.calm = true) (hg : PGD X tg is t) (hb : PSSK X W k body b) (hk : k ∉ is := by decide)
    (hN : X.N[k]? = some x := by rfl) (hv : Vis X.env.scope x := by first | exact Or.inl rfl | exact Or.inr (Or.inl rfl) | exact Or.inr (Or.inr rfl)) (hd : (x == ("__debug__" : Str)) = false := by decide) (hcd : (x == ("__classdict__" : Str)) = false := by decide)
    (hs : ∀ y, foldedSetIterable (.Name x p) X.env y = pure y := by intro _; rfl) : PSD X W (.For tg (.Name x p) body [] pos) (sForT k t b) := (ps_for hp hc (pi_list (pv k hN hv hd hcd)) hg hb hs).imp fun D σ H ⟨H0, F0, ρ, F, r, p⟩ => by
  obtain ⟨ds, a, xs, q1, q2, q3, q4, p1⟩ := withL_of r p
  have hide := r.hide q1 q2 q3
  have it : ItOkV X F (upd F a (.lst xs)) (Itl X.K a) ds := itOkV_list (.inl (.inl upd_same)) q4
  have sh : ∀ {σ' F' H' ρ'}, R X (upd H0 a (.lst xs)) F ρ' σ' F' H' → Same (upd F a (.lst xs)) H' := fun {σ' F' H' ρ'} r' z w c => by
    by_cases e : z = a
    · subst e; rw [upd_same] at c; cases c; exact r'.gr.hh _ _ upd_same
    · rw [upd_ne e] at c; exact r'.fh _ _ (r'.gr.ff _ _ c)
  refine ⟨.ref a, q2, a, rfl, ⟨xs, .inl (.inl q3)⟩, fun i m σ H => m = ds.length - i ∧ i ≤ ds.length ∧ σ[k]? = some (some (.ref a)) ∧ ∃ ρi Fi, R X (upd H0 a (.lst xs)) F ρi σ Fi H ∧ SPost X W H0 F0 D (thaw k ds (forD t b (ds.drop i) ρi)), ⟨ds.length, by simp, Nat.zero_le _, q2, _, F, hide, p1⟩, ?_⟩
  rintro i m σ H ⟨rfl, hi, sk, ρi, Fi, ri, pi⟩
  by_cases hlt : i < ds.length
  · refine .inr ?_
    have e : ds[i]? = some ds[i] := List.getElem?_eq_getElem hlt
    obtain ⟨h1, h2⟩ := it.go i Fi H _ ri.gr.ff (sh ri) ri.fh e
    refine ⟨h1, fun σ' H' => σ'[k]? = some (some (.ref a)) ∧ ∃ ρ' F', R X (upd H0 a (.lst xs)) F ρ' σ' F' H' ∧ SPost X W H0 F0 D (thaw k ds (forD t b (ds.drop (i + 1)) ρ')), fun σ' H' ⟨z, ρ', F', a, c⟩ => ⟨ds.length - (i + 1), by omega, rfl, hlt, z, ρ', F', a, c⟩, fun y H' yl => ?_⟩
    obtain ⟨F2, g2, s2, rx⟩ := h2 y H' yl
    rw [List.drop_eq_getElem_cons hlt] at pi
    unfold forD at pi
    cases et : t ds[i] ρi with
    | none => rw [et] at pi; exact pi.elim
    | some ρ1 =>
      rw [et] at pi
      refine ⟨upd H0 a (.lst xs), F, ρi, F2, ds[i], ri.grow g2 s2, rx, ρ1, et, fun σ' r' off => ⟨upd H0 a (.lst xs), F, ρ1, F2, r', ?_⟩⟩
      have sk' : σ'[k]? = some (some (.ref a)) := by rw [off.off k hk]; exact sk
      rw [sk']
      dsimp only at pi
      cases eb : b ρ1 with
      | next ρ2 => rw [eb] at pi; exact fun σ F H r z => ⟨z, ρ2, F, r, pi⟩
      | cont ρ2 => rw [eb] at pi; exact fun σ F H r z => ⟨z, ρ2, F, r, pi⟩
      | brk ρ2 => rw [eb] at pi; exact fun σ F H r1 z => pi σ F H (r.show q1 q2 q3 q4 r1 z)
      | ret d =>
        rw [eb] at pi
        refine fun F1 H1 v g s x => ?_
        have ha : upd H0 a (.lst xs) a = some (.lst xs) := upd_same
        obtain ⟨_, _, _, e2, _⟩ := r.own q1 rfl
        have e2 : H0 a = none := by
          obtain ⟨b, u, e1, e2, _⟩ := r.own q1 rfl
          rw [q2] at e1; cases e1; exact e2
        refine pi F1 H1 v ⟨r.gr.ff.trans g.ff, fun z w c => g.hh _ _ (by rw [upd_ne (ne_of_none c e2)]; exact c), fun z c => ?_⟩ s (x.start (same_upd_none e2))
        rcases g.nw z c with c | c
        · exact r.gr.nw z c
        · by_cases ne : z = a
          · subst ne; rw [upd_same] at c; cases c
          · rw [upd_ne ne] at c; exact .inr c
      | exc c ρ2 => rw [eb] at pi; exact fun σ F H C r1 z m => pi σ F H C (r.show q1 q2 q3 q4 r1 z) m
      | stuck => rw [eb] at pi; exact pi.elim
  · have e : i = ds.length := by omega
    subst e
    rw [List.drop_length] at pi
    exact .inl ⟨it.stop Fi H ri.gr.ff (sh ri) ri.fh, pi σ Fi H (r.show q1 q2 q3 q4 ri sk)⟩
/-! ### evaluation -/
theorem sForT_ap {k : Nat} {t : DTg} {b : DS} {ρ : DEnv} {ds : List D} (h : ρ[k]? = some (some (.lst .ow ds))) : sForT k t b ρ = thaw k ds (forD t b ds (ρ.set k none)) := by
  unfold sForT withL
  rw [h]
theorem forT_P {P : SR → Prop} (hP : ∀ c ρ ρ', P (.exc c ρ) → P (.exc c ρ')) {k : Nat} {es : List D} {t : DTg} {b g2 : DS} {ds : List D} {ρ : DEnv} (h : P ((forD t b ds ρ).seq fun ρ => g2 (ρ.set k (some (.lst .ow es))))) : P ((thaw k es (forD t b ds ρ)).seq g2) := by
  cases e : forD t b ds ρ with
  | next ρ2 => rw [e] at h; exact h
  | ret d => rw [e] at h; exact h
  | exc c ρ2 => rw [e] at h; exact hP _ _ _ h
  | brk ρ2 => rw [e] at h; exact h
  | cont ρ2 => rw [e] at h; exact h
  | stuck => rw [e] at h; exact h
end
end Dl
/-! xs.count(x). -/
namespace Dl
open PySem PySem.Spec PyProof.Rows L2
def rCountD (K : PySem.W.Frag) : V → List V → Hp → VK → Prop := fun x xs H Q => ∃ (a : Addr) (ys : List V) (y : V) (d : PyData) (ds : List PyData), x = V.ref a ∧ xs = [y] ∧ SqL K H a ys ∧ DpAll K H ys ds ∧ Dp K H y d ∧
  SeqAt.shaped (.list ds) = true ∧ SeqAt.shaped d = true ∧ Q (.int (ds.countP fun y => PyData.eqv y d : Nat)) H
section
variable {X : Cx} {W : WX} {k : Nat} {o e : Expr} {fo fe : DE} {apos cpos : Pos}
theorem mt_countD (hu : X.A.units + 65 < cLine) : MtR X "list.count" (rCountD X.K) := by
  intro pins s σ H x xs v us Q I rx rxs h
  obtain ⟨a, ys, y, d, ds, rfl, rfl, hs, ha, hy, sl, sd, q⟩ := h
  cases rx
  cases rxs with
  | cons ry rt =>
    cases rt
    obtain ⟨bs, r1⟩ := Dp.reads I d y _ hy ry
    have hxs : PyData.canLayAll0 ds = true := SeqAt.canLay_of_shaped sl
    have hroom : X.A.units + 1 + min (PyData.depthAll ds) d.depth < cLine := room_in_shaped sd hu
    obtain ⟨its, rv, pl, hz⟩ := I.list hs
    obtain ⟨as, h4⟩ := Dp.readsAll I _ _ _ ha rv
    exact PySem.SeqAt.count_list_data pl.isList (by simpa using h4) r1 (PySem.PyData.plainAll_of_canLay0 ds hxs) (PySem.PyData.plain_of_canLay0 d (SeqAt.canLay_of_shaped sd)) hroom ⟨.int _, H, I.tok _, ⟨_, rfl⟩, q⟩
def cntG (b : D) (ds : List D) : Nat := ds.countP fun d => deq d b
def coG : D → D → Res D
  | .lst t ds, b => if SeqAt.shaped (D.lst t ds).py && SeqAt.shaped b.py then .ok (.int (cntG b ds : Nat)) else .stuck
  | _, _ => .stuck
def fCoG (fo fe : DE) : DE := fun ρ => (fo ρ).bind fun d => if d.isL = true then (fe ρ).bind fun b => coG d b else .stuck
theorem pd_countG (hr : Room k X.A) (ho : PD X W o fo) (ha : PD X W e fe) (hbase : attributeBase o "count" X.env (eval o X.env) = eval o X.env := by rfl)
    (hfew : ((backTo cpos (starEach [e] X.env)).all (fun x => !x.1) && (backToKw cpos (keywordEach [] X.env)).all (fun x => x.1.isSome)
      && decide ([e].length + ([] : List Keyword).length + (if ([] : List Keyword).isEmpty then 0 else 1) < 30)) = true := by rfl)
    (hline : (apos.endLine == cpos.line) = true := by rfl) (hs : starEach [e] X.env = (false, eval e X.env) :: starEach [] X.env := by rfl) (hplain : (backTo cpos (starEach [] X.env)).any (·.1) = false := by rfl) :
    PD X W (.Call (.Attribute o "count" apos) [e] [] cpos) (fCoG fo fe) :=
  (pe_bm PySem.F.plainAttrs_list PySem.F.slot_list_count PySem.F.type_list_count (mt_countD (units65 hr)) ho (pa_cons ha pa_nil hs) hbase hfew hline hs hplain).imp fun σ H Q ⟨H0, F0, ρ, F, r, p⟩ =>
    ⟨H0, F0, ρ, F, r, p.bind (Gr.refl _ _) fun F1 H1 v d _ r1 g1 x1 p1 => by
      cases d with
      | lst t ds =>
        obtain ⟨l, xs, rfl, hx, rx⟩ := x1.lst r1.fh
        obtain ⟨_, p1⟩ := Post.guard p1
        refine ⟨.inl ⟨rfl, xs, hx.sq⟩, H0, F0, ρ, F1, r1, p1.bind g1 fun F2 H2 u b _ r2 g2 x2 p2 => ?_⟩
        obtain ⟨c, p2⟩ := Post.guard p2
        rw [Bool.and_eq_true] at c
        have cc : (D.py.pys ds).countP (fun y => PyData.eqv y b.py) = cntG b ds := by
          rw [pys_map, List.countP_map]
          rfl
        obtain ⟨l', xs', e', hx', rx'⟩ := (x1.mono g2).lst r2.fh
        cases e'
        have hd : DpAll X.K H2 xs' (D.py.pys ds) := Reps.dp r2.fh rx' (SeqAt.canLay_of_shaped c.1)
        exact ⟨l, xs', u, b.py, D.py.pys ds, rfl, rfl, hx'.sq, hd, x2.dp r2.fh (SeqAt.canLay_of_shaped c.2), c.1, c.2, by rw [cc]; exact p2.here r2 (g1.trans g2) (RX.fz (.int _))⟩
      | _ => exact Bool.noConfusion (Post.guard p1).1⟩
@[simp] theorem fCoG_ap (fo fe : DE) (ρ : DEnv) : fCoG fo fe ρ = (fo ρ).bind fun d => if d.isL = true then (fe ρ).bind fun b => coG d b else .stuck := rfl
end
end Dl
namespace Sh
open PySem PySem.Spec PyProof.Rows L2 Dl
noncomputable def g_divisor : DS := (sSeq (sWhile (tOf (fB opGt (fV 1) (fC (.int 0))))
  ((sPar 0 1 (fCons (fV 1) (fCons (fB opMod (fV 0) (fV 1)) fNil)))))
  (sRetV 0))
noncomputable def f_divisor : List D → Res D := runD 2 2 g_divisor
theorem r_divisor (a0 a1 : D) : f_divisor [a0, a1] = toRes (g_divisor [some a0, some a1]) := rfl
noncomputable def g_least_round : DS := (sSeq (sSet 1 (fC (.int 1)))
  (sSeq (sFor (gN 2) (fIt (fV 0))
  ((sSet 1 (fB opMul (fB opFdiv (fV 1) (fCallF f_divisor (fCons (fV 1) (fCons (fV 2) fNil)))) (fV 2)))))
  (sRetV 1)))
noncomputable def f_least_round : List D → Res D := runD 3 1 g_least_round
theorem r_least_round (a0 : D) : f_least_round [a0] = toRes (g_least_round [some a0, none, none]) := rfl
noncomputable def g_shares : DS := (sSeq (sSet 1 (fCallF f_least_round (fCons (fV 0) fNil)))
  (sSeq (sSet 2 (fC (.int 0)))
  (sSeq (sFor (gN 3) (fIt (fV 0))
  ((sAug 2 opAdd (fB opFdiv (fV 1) (fV 3)))))
  (sSeq (sSet 4 (fCallF f_divisor (fCons (fV 2) (fCons (fV 1) fNil))))
  (sRet (fTup (fCons (fB opFdiv (fV 2) (fV 4)) (fCons (fB opFdiv (fV 1) (fV 4)) fNil))))))))
noncomputable def f_shares : List D → Res D := runD 5 1 g_shares
theorem r_shares (a0 : D) : f_shares [a0] = toRes (g_shares [some a0, none, none, none, none]) := rfl
noncomputable def g_pass_one : DS := (sSeq (sAsg (gT (gs1 (gN 1) (gs1 (gN 2) gs0))) (fCallF f_shares (fCons (fV 0) fNil)))
  (sRet (fB opGt (fV 1) (fV 2))))
noncomputable def f_pass_one : List D → Res D := runD 3 1 g_pass_one
theorem r_pass_one (a0 : D) : f_pass_one [a0] = toRes (g_pass_one [some a0, none, none]) := rfl
noncomputable def g_too_much : DS := (sSeq (sIf (tOf (fCallF f_pass_one (fCons (fV 0) fNil)))
  ((sRet (fCallF f_least_round (fCons (fV 0) fNil))))
  sNext)
  (sRet (fC .non)))
noncomputable def f_too_much : List D → Res D := runD 1 1 g_too_much
theorem r_too_much (a0 : D) : f_too_much [a0] = toRes (g_too_much [some a0]) := rfl
noncomputable def g_law_cell_at : DS := (sSeq (sIf (tOf (fB opLt (fV 1) (fCall opLen (fCons (fV 0) fNil))))
  ((sRet (fB opIdx (fV 0) (fV 1))))
  sNext)
  (sRet (fC (.int 0))))
noncomputable def f_law_cell_at : List D → Res D := runD 2 2 g_law_cell_at
theorem r_law_cell_at (a0 a1 : D) : f_law_cell_at [a0, a1] = toRes (g_law_cell_at [some a0, some a1]) := rfl
noncomputable def g_law_whole : DS := (sRet (fAndV (fU (isiD "int") (fV 0)) (fNotV (fU (isiD "bool") (fV 0)))))
noncomputable def f_law_whole : List D → Res D := runD 1 1 g_law_whole
theorem r_law_whole (a0 : D) : f_law_whole [a0] = toRes (g_law_whole [some a0]) := rfl
noncomputable def g_law_big : DS := (sRet (fB opMod (fB opMul (fV 0) (fC (.int 618033988749894848204586834365638117720309179805762862137))) (fB opPow (fC (.int 10)) (fC (.int 60)))))
noncomputable def f_law_big : List D → Res D := runD 1 1 g_law_big
theorem r_law_big (a0 : D) : f_law_big [a0] = toRes (g_law_big [some a0]) := rfl
noncomputable def g_law_cell : DS := (sSeq (sIf (tOf (fB opLt (fV 1) (fCall opLen (fCons (fV 0) fNil))))
  ((sRet (fB opIdx (fV 0) (fV 1))))
  sNext)
  (sRet (fC (.int 0))))
noncomputable def f_law_cell : List D → Res D := runD 2 2 g_law_cell
theorem r_law_cell (a0 a1 : D) : f_law_cell [a0, a1] = toRes (g_law_cell [some a0, some a1]) := rfl
noncomputable def g_law_divisor : DS := (sSeq (sWhile (tOf (fB opNe (fV 1) (fC (.int 0))))
  ((sPar 0 1 (fCons (fV 1) (fCons (fB opMod (fV 0) (fV 1)) fNil)))))
  (sRetV 0))
noncomputable def f_law_divisor : List D → Res D := runD 2 2 g_law_divisor
theorem r_law_divisor (a0 a1 : D) : f_law_divisor [a0, a1] = toRes (g_law_divisor [some a0, some a1]) := rfl
noncomputable def g_beginning : DS := (sRet (fTup (fCons (fB opIdx (fV 0) (fC (.int 0))) (fCons (fC (.int 0)) fNil))))
noncomputable def f_beginning : List D → Res D := runD 1 1 g_beginning
theorem r_beginning (a0 : D) : f_beginning [a0] = toRes (g_beginning [some a0]) := rfl
noncomputable def g_may_lose : DS := (sRet (fAndV (fNotN (fB opIdx (fV 0) (fC (.int 1)))) (fB opEq (fB opIdx (fV 1) (fC (.int 1))) (fC (.int 0)))))
noncomputable def f_may_lose : List D → Res D := runD 2 2 g_may_lose
theorem r_may_lose (a0 a1 : D) : f_may_lose [a0, a1] = toRes (g_may_lose [some a0, some a1]) := rfl
noncomputable def g_law_calm : DS := (sSeq (sIf (tOf (fB opEq (fB opMod (fV 0) (fC (.int 3))) (fC (.int 0))))
  ((sRet (fC .non)))
  sNext)
  (sSeq (sIf (tOf (fB opEq (fB opMod (fV 0) (fC (.int 3))) (fC (.int 1))))
  ((sRet (fB opAdd (fC (.int 1)) (fB opMod (fB opFdiv (fV 0) (fC (.int 3))) (fC (.int 4))))))
  sNext)
  (sRet (fB opAdd (fC (.int 1)) (fB opMod (fB opMul (fB opFdiv (fV 0) (fC (.int 3))) (fB opPow (fC (.int 7)) (fC (.int 64)))) (fB opPow (fC (.int 10)) (fC (.int 60))))))))
noncomputable def f_law_calm : List D → Res D := runD 1 1 g_law_calm
theorem r_law_calm (a0 : D) : f_law_calm [a0] = toRes (g_law_calm [some a0]) := rfl
noncomputable def g_law_wait : DS := (sSeq (sIf (tOf (fB opEq (fB opMod (fV 0) (fC (.int 2))) (fC (.int 0))))
  ((sRet (fB opAdd (fC (.int 1)) (fB opMod (fB opFdiv (fV 0) (fC (.int 2))) (fC (.int 6))))))
  sNext)
  (sRet (fB opAdd (fC (.int 1)) (fB opMod (fB opMul (fB opFdiv (fV 0) (fC (.int 2))) (fB opPow (fC (.int 7)) (fC (.int 64)))) (fB opPow (fC (.int 10)) (fC (.int 60)))))))
noncomputable def f_law_wait : List D → Res D := runD 1 1 g_law_wait
theorem r_law_wait (a0 : D) : f_law_wait [a0] = toRes (g_law_wait [some a0]) := rfl
noncomputable def g_law_quiet : DS := (sSeq (sIf ((tOrD (tOf (fIsN (fV 1))) (tOf (fB opEq (fB opMod (fV 0) (fC (.int 2))) (fC (.int 0))))))
  ((sRet (fC (.int 0))))
  sNext)
  (sRet (fB opIdx (fLst (fCons (fV 1) (fCons (fB opAdd (fC (.int 1)) (fB opMod (fB opMod (fB opMul (fB opFdiv (fV 0) (fC (.int 4))) (fB opPow (fC (.int 7)) (fC (.int 64)))) (fB opPow (fC (.int 10)) (fC (.int 60)))) (fV 1))) fNil))) (fB opMod (fB opFdiv (fV 0) (fC (.int 2))) (fC (.int 2))))))
noncomputable def f_law_quiet : List D → Res D := runD 2 2 g_law_quiet
theorem r_law_quiet (a0 a1 : D) : f_law_quiet [a0, a1] = toRes (g_law_quiet [some a0, some a1]) := rfl
noncomputable def g_asked_turn : DS := (sSeq (sIf ((tOrD (tOf (fB opLt (fV 2) (fC (.int 0)))) (tOf (fB opGe (fV 2) (fCall opLen (fCons (fB opIdx (fV 0) (fC (.int 0))) fNil))))))
  ((sRaise "NoListener"))
  sNext)
  (sIf ((tAndD (tOf (fV 3)) (tNotD (tOf (fCallF f_may_lose (fCons (fV 0) (fCons (fV 1) fNil)))))))
  ((sRaise "NoLoss"))
  sNext))
noncomputable def f_asked_turn : List D → Res D := runD 4 4 g_asked_turn
theorem r_asked_turn (a0 a1 a2 a3 : D) : f_asked_turn [a0, a1, a2, a3] = toRes (g_asked_turn [some a0, some a1, some a2, some a3]) := rfl
noncomputable def g_left_behind : DS := (sSeq (sSet 4 (fComp [5] (fItV (fB opIdx (fV 1) (fC (.int 0)))) (gN 5) tYesD (fB opSub (fV 5) (fC (.int 1)))))
  (sSeq (sIf (tNotD (tOf (fV 3)))
  ((sSetIx 4 (fV 2) (fB opIdx (fB opIdx (fV 0) (fC (.int 0))) (fV 2))))
  sNext)
  (sRetV 4)))
noncomputable def f_left_behind : List D → Res D := runD 6 4 g_left_behind
theorem r_left_behind (a0 a1 a2 a3 : D) : f_left_behind [a0, a1, a2, a3] = toRes (g_left_behind [some a0, some a1, some a2, some a3, none, none]) := rfl
noncomputable def g_after : DS := (sSeq (sDrop (fCallF f_asked_turn (fCons (fV 0) (fCons (fV 1) (fCons (fV 2) (fCons (fV 3) fNil))))))
  (sSeq (sSet 4 (fCallF f_left_behind (fCons (fV 0) (fCons (fV 1) (fCons (fV 2) (fCons (fV 3) fNil))))))
  (sSeq (sIf (tOf (fB opIn (fC (.int 0)) (fV 4)))
  ((sRet (fC .non)))
  sNext)
  (sSeq (sIf (tOf (fV 3))
  ((sRet (fTup (fCons (fCall (op1 tuple1) (fCons (fV 4) fNil)) (fCons (fB opIdx (fV 0) (fC (.int 1))) fNil)))))
  sNext)
  (sRet (fTup (fCons (fCall (op1 tuple1) (fCons (fV 4) fNil)) (fCons (fCall (op2 max2) (fCons (fB opSub (fB opIdx (fV 1) (fC (.int 1))) (fC (.int 1))) (fCons (fC (.int 0)) fNil))) fNil))))))))
noncomputable def f_after : List D → Res D := runD 5 4 g_after
theorem r_after (a0 a1 a2 a3 : D) : f_after [a0, a1, a2, a3] = toRes (g_after [some a0, some a1, some a2, some a3, none]) := rfl
noncomputable def g_broken_ones : DS := (sSeq (sDrop (fCallF f_asked_turn (fCons (fV 0) (fCons (fV 1) (fCons (fV 2) (fCons (fV 3) fNil))))))
  (sSeq (sSet 4 (fCallF f_left_behind (fCons (fV 0) (fCons (fV 1) (fCons (fV 2) (fCons (fV 3) fNil))))))
  (sRet (fComp [5] (fRng rng1 (fCons (fCall opLen (fCons (fV 4) fNil)) fNil)) (gN 5) ((tOf (fB opEq (fB opIdx (fV 4) (fV 5)) (fC (.int 0))))) (fV 5)))))
noncomputable def f_broken_ones : List D → Res D := runD 6 4 g_broken_ones
theorem r_broken_ones (a0 a1 a2 a3 : D) : f_broken_ones [a0, a1, a2, a3] = toRes (g_broken_ones [some a0, some a1, some a2, some a3, none, none]) := rfl
noncomputable def g_hall_of : DS := (sSeq (sIf ((tOrD (tOf (fB opLt (fCall opLen (fCons (fV 0) fNil)) (fC (.int 1)))) (tOf (fB opGt (fCall opLen (fCons (fV 0) fNil)) (fC (.int 8))))))
  ((sRaise "NoHall"))
  sNext)
  (sSeq (sFor (gN 2) (fIt (fV 0))
  ((sIf (tOf (fB opLt (fV 2) (fC (.int 1))))
  ((sRaise "NoHall"))
  sNext)))
  (sSeq (sIf ((tAndD (tOf (fNotN (fV 1))) (tOf (fB opLt (fV 1) (fC (.int 1))))))
  ((sRaise "NoHall"))
  sNext)
  (sRet (fTup (fCons (fCall (op1 tuple1) (fCons (fV 0) fNil)) (fCons (fV 1) fNil)))))))
noncomputable def f_hall_of : List D → Res D := runD 3 2 g_hall_of
theorem r_hall_of (a0 a1 : D) : f_hall_of [a0, a1] = toRes (g_hall_of [some a0, some a1, none]) := rfl
noncomputable def g_law_share : DS := (sRet (fB opEq (fB opMod (fB opSub (fB opIdx (fV 0) (fC (.int 1))) (fB opIdx (fV 1) (fC (.int 1)))) (fCallF f_law_divisor (fCons (fB opIdx (fV 0) (fC (.int 0))) (fCons (fB opIdx (fV 1) (fC (.int 0))) fNil)))) (fC (.int 0))))
noncomputable def f_law_share : List D → Res D := runD 2 2 g_law_share
theorem r_law_share (a0 a1 : D) : f_law_share [a0, a1] = toRes (g_law_share [some a0, some a1]) := rfl
noncomputable def g_law_part : DS := (sSeq (sSet 1 (fCallF f_law_big (fCons (fB opFdiv (fV 0) (fC (.int 3))) fNil)))
  (sRet (fB opAdd (fC (.int 1)) (fB opMod (fV 1) (fB opIdx (fLst (fCons (fC (.int 12)) (fCons (fB opPow (fC (.int 10)) (fC (.int 6))) (fCons (fB opPow (fC (.int 10)) (fC (.int 50))) fNil)))) (fB opMod (fV 0) (fC (.int 3))))))))
noncomputable def f_law_part : List D → Res D := runD 2 1 g_law_part
theorem r_law_part (a0 : D) : f_law_part [a0] = toRes (g_law_part [some a0, none]) := rfl
noncomputable def g_law_row : DS := (sSeq (sSet 2 (fB opMod (fB opMul (fV 0) (fC (.int 48271))) (fC (.int 2147483647))))
  (sSeq (sSet 3 (fB opAdd (fC (.int 1)) (fB opMod (fV 2) (fC (.int 7)))))
  (sRet (fTup (fCons (fB opMul (fV 1) (fV 3)) (fCons (fB opAdd (fB opMul (fV 1) (fB opMod (fB opFdiv (fV 2) (fC (.int 7))) (fV 3))) (fB opMod (fB opFdiv (fV 2) (fC (.int 49))) (fCall (op2 min2) (fCons (fV 1) (fCons (fC (.int 30)) fNil))))) fNil))))))
noncomputable def f_law_row : List D → Res D := runD 4 2 g_law_row
theorem r_law_row (a0 a1 : D) : f_law_row [a0, a1] = toRes (g_law_row [some a0, some a1, none, none]) := rfl
noncomputable def g_law_wheel : DS := (sSeq (sSet 1 (fCallF f_law_part (fCons (fCallF f_law_cell_at (fCons (fV 0) (fCons (fC (.int 0)) fNil))) fNil)))
  (sSeq (sSet 2 (fLst fNil))
  (sSeq (sFor (gN 3) (fIt (fSl (fV 0) (fPart (fC (.int 1))) (fPart (fC (.int 25)))))
  ((sSeq (sSet 4 (fCallF f_law_row (fCons (fV 3) (fCons (fV 1) fNil))))
  (sIf (tNotD (tOf (fCall (op1 any1) (fCons (fComp [5] (fItV (fV 2)) (gN 5) tYesD (fCallF f_law_share (fCons (fV 4) (fCons (fV 5) fNil)))) fNil))))
  ((sFrz 4 (sApp 2 (fV 4))))
  sNext))))
  (sRetV 2))))
noncomputable def f_law_wheel : List D → Res D := runD 6 1 g_law_wheel
theorem r_law_wheel (a0 : D) : f_law_wheel [a0] = toRes (g_law_wheel [some a0, none, none, none, none, none]) := rfl
noncomputable def g_law_turn : DS := (sSeq (sSet 2 (fCallF f_law_big (fCons (fB opFdiv (fV 0) (fC (.int 4))) fNil)))
  (sSeq (sIf ((tOrD (tOf (fB opEq (fB opMod (fV 0) (fC (.int 4))) (fC (.int 3)))) (tOf (fB opEq (fV 1) (fLst fNil)))))
  ((sRetV 2))
  sNext)
  (sSeq (sSet 3 (fB opIdx (fV 1) (fB opMod (fV 2) (fCall opLen (fCons (fV 1) fNil)))))
  (sSeq (sSet 4 (fB opAdd (fB opIdx (fV 3) (fC (.int 1))) (fB opMul (fB opIdx (fV 3) (fC (.int 0))) (fB opMod (fB opFdiv (fV 2) (fC (.int 24))) (fB opPow (fC (.int 10)) (fC (.int 30)))))))
  (sRet (fCall (op2 max2) (fCons (fC (.int 0)) (fCons (fB opIdx (fLst (fCons (fV 4) (fCons (fB opAdd (fV 4) (fC (.int 1))) (fCons (fB opSub (fV 4) (fC (.int 1))) fNil)))) (fB opMod (fV 0) (fC (.int 4)))) fNil))))))))
noncomputable def f_law_turn : List D → Res D := runD 5 2 g_law_turn
theorem r_law_turn (a0 a1 : D) : f_law_turn [a0, a1] = toRes (g_law_turn [some a0, some a1, none, none, none]) := rfl
noncomputable def g_heard : DS := (sSeq (sFor (gN 2) (fRng rng1 (fCons (fCall opLen (fCons (fV 0) fNil)) fNil))
  ((sSeq (sAsg (gT (gs1 (gN 3) (gs1 (gN 4) gs0))) (fB opIdx (fV 0) (fV 2)))
  (sIf (tOf (fB opEq (fB opMod (fV 1) (fV 3)) (fV 4)))
  ((sRetV 2))
  sNext))))
  (sRet (fC .non)))
noncomputable def f_heard : List D → Res D := runD 5 2 g_heard
theorem r_heard (a0 a1 : D) : f_heard [a0, a1] = toRes (g_heard [some a0, some a1, none, none, none]) := rfl
noncomputable def g_row_of : DS := (sSeq (sIf ((tOrD (tOf (fB opLt (fV 1) (fC (.int 0)))) (tOf (fB opGe (fV 1) (fCall opLen (fCons (fV 0) fNil))))))
  ((sRaise "NoListener"))
  sNext)
  (sRet (fB opIdx (fV 0) (fV 1))))
noncomputable def f_row_of : List D → Res D := runD 2 2 g_row_of
theorem r_row_of (a0 a1 : D) : f_row_of [a0, a1] = toRes (g_row_of [some a0, some a1]) := rfl
noncomputable def g_next_turn : DS := (sSeq (sAsg (gT (gs1 (gN 3) (gs1 (gN 4) gs0))) (fCallF f_row_of (fCons (fV 0) (fCons (fV 1) fNil))))
  (sRet (fB opAdd (fV 2) (fB opMod (fB opSub (fV 4) (fV 2)) (fV 3)))))
noncomputable def f_next_turn : List D → Res D := runD 5 3 g_next_turn
theorem r_next_turn (a0 a1 a2 : D) : f_next_turn [a0, a1, a2] = toRes (g_next_turn [some a0, some a1, some a2, none, none]) := rfl
noncomputable def g_law_who : DS := (sSeq (sSet 2 (fB opMod (fB opMul (fV 0) (fC (.int 48271))) (fC (.int 2147483647))))
  (sSeq (sSet 3 (fB opSub (fB opMod (fV 2) (fB opAdd (fV 1) (fC (.int 2)))) (fC (.int 1))))
  (sSeq (sSet 4 (fB opIdx (fLst (fCons (fC (.int 0)) (fCons (fCallF f_law_big (fCons (fV 0) fNil)) fNil))) (fB opMod (fB opFdiv (fV 2) (fC (.int 26))) (fC (.int 2)))))
  (sSeq (sIf (tOf (fB opLt (fV 3) (fC (.int 0))))
  ((sRet (fB opSub (fV 3) (fV 4))))
  sNext)
  (sSeq (sIf (tOf (fB opEq (fV 3) (fV 1)))
  ((sRet (fB opAdd (fV 3) (fV 4))))
  sNext)
  (sRetV 3))))))
noncomputable def f_law_who : List D → Res D := runD 5 2 g_law_who
theorem r_law_who (a0 a1 : D) : f_law_who [a0, a1] = toRes (g_law_who [some a0, some a1, none, none, none]) := rfl
noncomputable def g_law_other : DS := (sSeq (sIf ((tOrD (tOf (fU (isiE errNames "NoHall") (fV 0))) (tOrD (tOf (fU (isiE errNames "NoWheel") (fV 0))) (tOrD (tOf (fU (isiE errNames "NoLoss") (fV 0))) (tOf (fU (isiE errNames "TooMany") (fV 0)))))))
  ((sRet (fC (.bl true))))
  sNext)
  (sSeq (sIf ((tOrD (tOf (fU (isiE errNames "NoChain") (fV 0))) (tOrD (tOf (fU (isiE errNames "TooMuch") (fV 0))) (tOrD (tOf (fU (isiE errNames "NoPart") (fV 0))) (tOf (fU (isiE errNames "Unsafe") (fV 0)))))))
  ((sRet (fC (.bl true))))
  sNext)
  (sRet (fOrV (fU (isiE errNames "NoRow") (fV 0)) (fU (isiE errNames "NoStand") (fV 0))))))
noncomputable def f_law_other : List D → Res D := runD 1 1 g_law_other
theorem r_law_other (a0 : D) : f_law_other [a0] = toRes (g_law_other [some a0]) := rfl
noncomputable def g_called_times : DS := (sSeq (sAsg (gT (gs1 (gN 4) (gs1 (gN 5) gs0))) (fCallF f_row_of (fCons (fV 0) (fCons (fV 1) fNil))))
  (sRet (fB opSub (fB opFdiv (fB opSub (fB opSub (fV 3) (fV 5)) (fC (.int 1))) (fV 4)) (fB opFdiv (fB opSub (fB opSub (fV 2) (fV 5)) (fC (.int 1))) (fV 4)))))
noncomputable def f_called_times : List D → Res D := runD 6 4 g_called_times
theorem r_called_times (a0 a1 a2 a3 : D) : f_called_times [a0, a1, a2, a3] = toRes (g_called_times [some a0, some a1, some a2, some a3, none, none]) := rfl
noncomputable def g_law_sums : DS := (sSeq (sSet 3 (fComp [4] (fRng rng1 (fCons (fV 1) fNil)) (gN 4) tYesD (fB opMul (fB opFdiv (fCallF f_law_cell_at (fCons (fV 0) (fCons (fC (.int 0)) fNil))) (fC (.int 8))) (fB opAdd (fV 4) (fV 2)))))
  (sSeq (sFor (gN 4) (fRng rng2 (fCons (fC (.int 4)) (fCons (fCall opLen (fCons (fV 0) fNil)) fNil)))
  ((sSeq (sSet 5 (fB opMod (fB opAdd (fV 4) (fB opMul (fB opFdiv (fV 4) (fV 1)) (fV 2))) (fV 1)))
  (sSetIx 3 (fV 5) (fB opAdd (fB opIdx (fV 3) (fV 5)) (fB opMul (fB opIdx (fV 0) (fV 4)) (fB opAdd (fB opMul (fV 4) (fV 4)) (fV 2))))))))
  (sRetV 3)))
noncomputable def f_law_sums : List D → Res D := runD 6 3 g_law_sums
theorem r_law_sums (a0 a1 a2 : D) : f_law_sums [a0, a1, a2] = toRes (g_law_sums [some a0, some a1, some a2, none, none, none]) := rfl
noncomputable def g_law_lefts : DS := (sSeq (sSet 3 (fLst fNil))
  (sSeq (sFor (gT (gs1 (gN 4) (gs1 (gN 5) gs0))) (fRng zip2 (fCons (fV 0) (fCons (fV 1) fNil)))
  ((sIf (tOf (fB opEq (fB opMod (fV 2) (fC (.int 3))) (fC (.int 2))))
  ((sApp 3 (fB opIdx (fLst (fCons (fC (.int 1)) (fCons (fV 5) (fCons (fB opAdd (fC (.int 1)) (fB opMod (fB opMod (fB opMul (fB opFdiv (fV 4) (fC (.int 3))) (fB opPow (fC (.int 7)) (fC (.int 64)))) (fB opPow (fC (.int 10)) (fC (.int 60)))) (fV 5))) fNil)))) (fB opMod (fV 4) (fC (.int 3))))))
  ((sApp 3 (fB opSub (fV 5) (fB opMod (fB opMod (fB opMul (fV 4) (fB opPow (fC (.int 7)) (fC (.int 64)))) (fB opPow (fC (.int 10)) (fC (.int 60)))) (fB opFdiv (fB opAdd (fV 5) (fC (.int 1))) (fC (.int 2))))))))))
  (sSeq (sIf (tOf (fB opEq (fB opMod (fV 2) (fC (.int 3))) (fC (.int 1))))
  ((sSetIx 3 (fB opMod (fB opFdiv (fV 2) (fC (.int 3))) (fCall opLen (fCons (fV 1) fNil))) (fC (.int 1))))
  sNext)
  (sRet (fCall (op1 tuple1) (fCons (fV 3) fNil))))))
noncomputable def f_law_lefts : List D → Res D := runD 6 3 g_law_lefts
theorem r_law_lefts (a0 a1 a2 : D) : f_law_lefts [a0, a1, a2] = toRes (g_law_lefts [some a0, some a1, some a2, none, none, none]) := rfl
noncomputable def g_doubled : DS := (sSeq (sIf (tOf (fB opLt (fV 1) (fC (.int 1))))
  ((sRaise "NoWheel"))
  sNext)
  (sSeq (sSet 2 (fLst fNil))
  (sSeq (sFor (gN 3) (fIt (fV 0))
  ((sSeq (sIf (tOf (fB opGt (fV 1) (fV 3)))
  ((sRaise "NoWheel"))
  sNext)
  (sApp 2 (fB opShl (fV 1) (fB opSub (fU bitD (fB opFdiv (fV 3) (fV 1))) (fC (.int 1))))))))
  (sRetV 2))))
noncomputable def f_doubled : List D → Res D := runD 4 2 g_doubled
theorem r_doubled (a0 a1 : D) : f_doubled [a0, a1] = toRes (g_doubled [some a0, some a1, none, none]) := rfl
noncomputable def g_walked : DS := (sSeq (sSet 4 (fC (.int 0)))
  (sSeq (sFor (gT (gs1 (gN 5) (gs1 (gN 6) gs0))) (fRng zip2 (fCons (fV 2) (fCons (fV 3) fNil)))
  ((sSeq (sSet 7 (fCallF f_after (fCons (fV 0) (fCons (fV 1) (fCons (fV 5) (fCons (fV 6) fNil))))))
  (sSeq (sIf (tOf (fIsN (fV 7)))
  ((sRet (fTup (fCons (fV 4) (fCons (fC .non) fNil)))))
  sNext)
  (sSeq (sFrz 7 (sSet 1 (fV 7)))
  (sAug 4 opAdd (fC (.int 1))))))))
  (sFrz 1 (sRet (fTup (fCons (fV 4) (fCons (fV 1) fNil)))))))
noncomputable def f_walked : List D → Res D := runD 8 4 g_walked
theorem r_walked (a0 a1 a2 a3 : D) : f_walked [a0, a1, a2, a3] = toRes (g_walked [some a0, some a1, some a2, some a3, none, none, none, none]) := rfl
noncomputable def g_how_many : DS := (sSeq (sSet 1 (fC (.int 1)))
  (sSeq (sFor (gN 2) (fIt (fB opIdx (fV 0) (fC (.int 0))))
  ((sAug 1 opMul (fV 2))))
  (sSeq (sIf (tOf (fNotN (fB opIdx (fV 0) (fC (.int 1)))))
  ((sAug 1 opMul (fB opAdd (fB opIdx (fV 0) (fC (.int 1))) (fC (.int 1)))))
  sNext)
  (sRetV 1))))
noncomputable def f_how_many : List D → Res D := runD 3 1 g_how_many
theorem r_how_many (a0 : D) : f_how_many [a0] = toRes (g_how_many [some a0, none, none]) := rfl
noncomputable def g_standings : DS := (sSeq (sIf (tOf (fB opGt (fCallF f_how_many (fCons (fV 0) fNil)) (fC (.int 3000))))
  ((sRaise "TooMany"))
  sNext)
  (sSeq (sSet 1 (fLst (fCons (fTup fNil) fNil)))
  (sSeq (sFor (gN 2) (fIt (fB opIdx (fV 0) (fC (.int 0))))
  ((sSeq (sSet 3 (fLst fNil))
  (sSeq (sFrz 1 (sFor (gN 4) (fIt (fV 1))
  ((sFor (gN 5) (fRng rng2 (fCons (fC (.int 1)) (fCons (fB opAdd (fV 2) (fC (.int 1))) fNil)))
  ((sApp 3 (fB opAdd (fV 4) (fTup (fCons (fV 5) fNil)))))))))
  (sFrz 3 (sSet 1 (fV 3)))))))
  (sSeq (sSet 6 (fLst (fCons (fC (.int 0)) fNil)))
  (sSeq (sIf (tOf (fNotN (fB opIdx (fV 0) (fC (.int 1)))))
  ((sSet 6 (fU lrg1 (fB opAdd (fB opIdx (fV 0) (fC (.int 1))) (fC (.int 1))))))
  sNext)
  (sSeq (sSet 7 (fLst fNil))
  (sSeq (sFrz 1 (sFor (gN 4) (fIt (fV 1))
  ((sFrz 6 (sFor (gN 8) (fIt (fV 6))
  ((sApp 7 (fTup (fCons (fV 4) (fCons (fV 8) fNil))))))))))
  (sRetV 7))))))))
noncomputable def f_standings : List D → Res D := runD 9 1 g_standings
theorem r_standings (a0 : D) : f_standings [a0] = toRes (g_standings [some a0, none, none, none, none, none, none, none, none]) := rfl
noncomputable def g_under : DS := (sSeq (sIf (tOf (fIsN (fV 0)))
  ((sRet (fC (.bl false))))
  sNext)
  (sRet (fOrV (fIsN (fV 1)) (fB opLt (fV 0) (fV 1)))))
noncomputable def f_under : List D → Res D := runD 2 2 g_under
theorem r_under (a0 a1 : D) : f_under [a0, a1] = toRes (g_under [some a0, some a1]) := rfl
noncomputable def g_outcome : DS := (sSeq (sSet 5 (fCallF f_after (fCons (fV 0) (fCons (fV 2) (fCons (fV 3) (fCons (fV 4) fNil))))))
  (sSeq (sIf (tOf (fIsN (fV 5)))
  ((sRet (fC (.int 0))))
  sNext)
  (sRet (fGetK (fV 1) (fV 5)))))
noncomputable def f_outcome : List D → Res D := runD 6 5 g_outcome
theorem r_outcome (a0 a1 a2 a3 a4 : D) : f_outcome [a0, a1, a2, a3, a4] = toRes (g_outcome [some a0, some a1, some a2, some a3, some a4, none]) := rfl
noncomputable def g_worth : DS := (sSeq (sSet 4 (fCallF f_outcome (fCons (fV 0) (fCons (fV 1) (fCons (fV 2) (fCons (fV 3) (fCons (fC (.bl false)) fNil)))))))
  (sSeq (sIf (tOf (fCallF f_may_lose (fCons (fV 0) (fCons (fV 2) fNil))))
  ((sSeq (sSet 5 (fCallF f_outcome (fCons (fV 0) (fCons (fV 1) (fCons (fV 2) (fCons (fV 3) (fCons (fC (.bl true)) fNil)))))))
  (sIf (tOf (fCallF f_under (fCons (fV 5) (fCons (fV 4) fNil))))
  ((sRetV 5))
  sNext)))
  sNext)
  (sRetV 4)))
noncomputable def f_worth : List D → Res D := runD 6 4 g_worth
theorem r_worth (a0 a1 a2 a3 : D) : f_worth [a0, a1, a2, a3] = toRes (g_worth [some a0, some a1, some a2, some a3, none, none]) := rfl
noncomputable def g_breakable : DS := (sSeq (sFor (gN 3) (fRng rng1 (fCons (fCall opLen (fCons (fB opIdxK (fV 0) (fC (.int 0))) fNil)) fNil))
  ((sIf (tOf (fIsN (fCallF f_worth (fCons (fV 0) (fCons (fV 1) (fCons (fV 2) (fCons (fV 3) fNil)))))))
  ((sRet (fC (.bl false))))
  sNext)))
  (sRet (fC (.bl true))))
noncomputable def f_breakable : List D → Res D := runD 4 3 g_breakable
theorem r_breakable (a0 a1 a2 : D) : f_breakable [a0, a1, a2] = toRes (g_breakable [some a0, some a1, some a2, none]) := rfl
noncomputable def g_ranks : DS := (sSeq (sSet 1 fDic0)
  (sSeq (sSet 2 (fCallF f_standings (fCons (fV 0) fNil)))
  (sSeq (sSet 3 (fC (.int 1)))
  (sSeq (sSet 4 (fComp [5] (fItV (fV 2)) (gN 5) ((tOf (fCallF f_breakable (fCons (fV 0) (fCons (fV 1) (fCons (fV 5) fNil)))))) (fV 5)))
  (sSeq (sWhile (tOf (fB opNe (fV 4) (fLst fNil)))
  ((sSeq (sFrz 4 (sFor (gN 5) (fIt (fV 4))
  ((sSetK 1 (fV 5) (fV 3)))))
  (sSeq (sSet 3 (fB opAdd (fV 3) (fC (.int 1))))
  (sSeq (sSet 2 (fComp [5] (fItV (fV 2)) (gN 5) ((tOf (fB (opInK true) (fV 5) (fV 1)))) (fV 5)))
  (sSet 4 (fComp [5] (fItV (fV 2)) (gN 5) ((tOf (fCallF f_breakable (fCons (fV 0) (fCons (fV 1) (fCons (fV 5) fNil)))))) (fV 5))))))))
  (sRetV 1))))))
noncomputable def f_ranks : List D → Res D := runD 6 1 g_ranks
theorem r_ranks (a0 : D) : f_ranks [a0] = toRes (g_ranks [some a0, none, none, none, none, none]) := rfl
noncomputable def g_best_call : DS := (sSeq (sSet 3 (fC (.int 0)))
  (sSeq (sSet 4 (fCallF f_worth (fCons (fV 0) (fCons (fV 1) (fCons (fV 2) (fCons (fC (.int 0)) fNil))))))
  (sSeq (sFor (gN 5) (fRng rng2 (fCons (fC (.int 1)) (fCons (fCall opLen (fCons (fB opIdxK (fV 0) (fC (.int 0))) fNil)) fNil)))
  ((sSeq (sSet 6 (fCallF f_worth (fCons (fV 0) (fCons (fV 1) (fCons (fV 2) (fCons (fV 5) fNil))))))
  (sIf (tOf (fCallF f_under (fCons (fV 4) (fCons (fV 6) fNil))))
  ((sSeq (sSet 3 (fV 5))
  (sFrz 6 (sSet 4 (fV 6)))))
  sNext))))
  (sRetV 3))))
noncomputable def f_best_call : List D → Res D := runD 7 3 g_best_call
theorem r_best_call (a0 a1 a2 : D) : f_best_call [a0, a1, a2] = toRes (g_best_call [some a0, some a1, some a2, none, none, none, none]) := rfl
noncomputable def g_worst_answer : DS := (sSeq (sSet 4 (fCallF f_outcome (fCons (fV 0) (fCons (fV 1) (fCons (fV 2) (fCons (fV 3) (fCons (fC (.bl false)) fNil)))))))
  (sSeq (sIf (tNotD (tOf (fCallF f_may_lose (fCons (fV 0) (fCons (fV 2) fNil)))))
  ((sRet (fC (.bl false))))
  sNext)
  (sRet (fCallF f_under (fCons (fCallF f_outcome (fCons (fV 0) (fCons (fV 1) (fCons (fV 2) (fCons (fV 3) (fCons (fC (.bl true)) fNil)))))) (fCons (fV 4) fNil))))))
noncomputable def f_worst_answer : List D → Res D := runD 5 4 g_worst_answer
theorem r_worst_answer (a0 a1 a2 a3 : D) : f_worst_answer [a0, a1, a2, a3] = toRes (g_worst_answer [some a0, some a1, some a2, some a3, none]) := rfl
noncomputable def g_law_wide : DS := (sSeq (sSet 1 (fC (.int 150)))
  (sSeq (sSet 2 (fLst fNil))
  (sSeq (sFor (gN 3) (fIt (fSl (fV 0) fNo (fPart (fB opAdd (fC (.int 2)) (fB opMod (fB opIdxK (fV 0) (fC (.int 6))) (fC (.int 3)))))))
  ((sSeq (sApp 2 (fB opAdd (fC (.int 1)) (fB opMod (fV 3) (fCall (op2 min2G) (fCons (fV 1) (fCons (fC (.int 40)) fNil))))))
  (sSet 1 (fB opFdiv (fV 1) (fB opIdxK (fV 2) (fU opNeg (fC (.int 1)))))))))
  (sSeq (sIf ((tOrD (tOf (fB opLtG (fV 1) (fC (.int 2)))) (tOf (fB opEq (fB opMod (fB opFdiv (fB opIdxK (fV 0) (fC (.int 6))) (fC (.int 3))) (fC (.int 2))) (fC (.int 0))))))
  ((sRet (fTup (fCons (fCall (op1 tuple1) (fCons (fV 2) fNil)) (fCons (fC .non) fNil)))))
  sNext)
  (sRet (fTup (fCons (fCall (op1 tuple1) (fCons (fV 2) fNil)) (fCons (fB opAdd (fC (.int 1)) (fB opMod (fB opFdiv (fB opIdxK (fV 0) (fC (.int 6))) (fC (.int 6))) (fB opSub (fV 1) (fC (.int 1))))) fNil))))))))
noncomputable def f_law_wide : List D → Res D := runD 4 1 g_law_wide
theorem r_law_wide (a0 : D) : f_law_wide [a0] = toRes (g_law_wide [some a0, none, none, none]) := rfl
noncomputable def g_law_hall : DS := (sSeq (sSet 1 (fB opMod (fCallF f_law_cell (fCons (fV 0) (fCons (fC (.int 0)) fNil))) (fC (.int 24))))
  (sSeq (sSet 2 (fCallF f_law_cell (fCons (fV 0) (fCons (fC (.int 1)) fNil))))
  (sSeq (sSet 3 (fComp [4] (fRng rng1 (fCons (fC (.int 7)) fNil)) (gN 4) tYesD (fCallF f_law_cell (fCons (fV 0) (fCons (fB opAdd (fC (.int 2)) (fV 4)) fNil)))))
  (sSeq (sIf ((tAndD (tOf (fB opGtG (fV 1) (fC (.int 13)))) (tOf (fB opLtG (fV 1) (fC (.int 17))))))
  ((sRet (fCallF f_law_wide (fCons (fV 3) fNil))))
  sNext)
  (sSeq (sSet 5 (fComp [6] (fItV (fSl (fV 3) fNo (fPart (fC (.int 2))))) (gN 6) tYesD (fB opAdd (fC (.int 1)) (fCall (op2 max2G) (fCons (fB opMod (fV 6) (fC (.int 6))) (fCons (fB opMod (fB opFdiv (fV 6) (fC (.int 6))) (fC (.int 6))) fNil))))))
  (sSeq (sSet 7 (fC (.int 2)))
  (sSeq (sIf (tOf (fB opGtG (fV 1) (fC (.int 9))))
  ((sSeq (sSet 5 (fComp [6] (fItV (fSl (fV 3) fNo (fPart (fC (.int 3))))) (gN 6) tYesD (fB opAdd (fC (.int 1)) (fCall (op2 max2G) (fCons (fB opMod (fV 6) (fC (.int 4))) (fCons (fB opMod (fB opFdiv (fV 6) (fC (.int 4))) (fC (.int 4))) fNil))))))
  (sSet 7 (fC (.int 1)))))
  sNext)
  (sSeq (sIf (tOf (fB opGtG (fV 1) (fC (.int 16))))
  ((sSeq (sSet 5 (fLst (fCons (fB opAdd (fC (.int 1)) (fB opMod (fB opIdxK (fV 3) (fC (.int 0))) (fC (.int 12)))) fNil)))
  (sSet 7 (fC (.int 4)))))
  sNext)
  (sSeq (sIf (tOf (fB opEq (fV 1) (fC (.int 20))))
  ((sRet (fTup (fCons (fTup (fCons (fC (.int 1)) fNil)) (fCons (fB opAdd (fC (.int 1)) (fB opMod (fV 2) (fC (.int 60)))) fNil)))))
  sNext)
  (sSeq (sIf (tOf (fB opEq (fV 1) (fC (.int 21))))
  ((sRet (fTup (fCons (fCall (op1 tuple1) (fCons (fComp [6] (fItV (fSl (fV 3) fNo (fPart (fC (.int 4))))) (gN 6) tYesD (fB opSub (fC (.int 4)) (fCall (op2 max2G) (fCons (fC (.int 0)) (fCons (fB opSub (fB opMod (fV 6) (fC (.int 5))) (fC (.int 2))) fNil))))) fNil)) (fCons (fC .non) fNil)))))
  sNext)
  (sSeq (sIf (tOf (fB opGtG (fV 1) (fC (.int 21))))
  ((sSeq (sSet 5 (fB opMul (fLst (fCons (fC (.int 1)) fNil)) (fB opAdd (fC (.int 4)) (fB opMod (fB opIdxK (fV 3) (fC (.int 6))) (fC (.int 5))))))
  (sSeq (sFor (gN 4) (fRng rng1 (fCons (fC (.int 3)) fNil))
  ((sSetIx 5 (fB opMod (fB opIdxK (fV 3) (fV 4)) (fCall opLen (fCons (fV 5) fNil))) (fB opAdd (fC (.int 1)) (fB opMod (fB opIdxK (fV 3) (fB opAdd (fC (.int 3)) (fV 4))) (fC (.int 3)))))))
  (sSet 7 (fC (.int 1))))))
  sNext)
  (sSeq (sIf (tOf (fB opEq (fB opMod (fV 2) (fC (.int 3))) (fC (.int 0))))
  ((sRet (fTup (fCons (fCall (op1 tuple1) (fCons (fV 5) fNil)) (fCons (fC .non) fNil)))))
  sNext)
  (sRet (fTup (fCons (fCall (op1 tuple1) (fCons (fV 5) fNil)) (fCons (fB opAdd (fC (.int 1)) (fB opMod (fB opFdiv (fV 2) (fC (.int 3))) (fV 7))) fNil))))))))))))))))
noncomputable def f_law_hall : List D → Res D := runD 8 1 g_law_hall
theorem r_law_hall (a0 : D) : f_law_hall [a0] = toRes (g_law_hall [some a0, none, none, none, none, none, none, none]) := rfl
noncomputable def g_law_behind : DS := (sSeq (sSet 4 (fLst fNil))
  (sSeq (sFor (gN 5) (fRng rng1 (fCons (fCall opLen (fCons (fB opIdxK (fV 0) (fC (.int 0))) fNil)) fNil))
  ((sIf ((tAndD (tOf (fB opEq (fV 5) (fV 2))) (tNotD (tOf (fV 3)))))
  ((sApp 4 (fB opIdxK (fB opIdxK (fV 0) (fC (.int 0))) (fV 5))))
  ((sIf (tOf (fB opEq (fB opIdxK (fB opIdxK (fV 1) (fC (.int 0))) (fV 5)) (fC (.int 1))))
  ((sRet (fC .non)))
  ((sApp 4 (fB opSub (fB opIdxK (fB opIdxK (fV 1) (fC (.int 0))) (fV 5)) (fC (.int 1))))))))))
  (sSeq (sIf (tOf (fV 3))
  ((sRet (fTup (fCons (fCall (op1 tuple1) (fCons (fV 4) fNil)) (fCons (fB opIdxK (fV 0) (fC (.int 1))) fNil)))))
  sNext)
  (sRet (fTup (fCons (fCall (op1 tuple1) (fCons (fV 4) fNil)) (fCons (fCall (op2 max2G) (fCons (fC (.int 0)) (fCons (fB opSub (fB opIdxK (fV 1) (fC (.int 1))) (fC (.int 1))) fNil))) fNil)))))))
noncomputable def f_law_behind : List D → Res D := runD 6 4 g_law_behind
theorem r_law_behind (a0 a1 a2 a3 : D) : f_law_behind [a0, a1, a2, a3] = toRes (g_law_behind [some a0, some a1, some a2, some a3, none, none]) := rfl
noncomputable def g_law_told : DS := (sSeq (sIf (tOf (fIsN (fV 1)))
  ((sRet (fTup (fCons (fC (.int 0)) (fCons (fC (.int 0)) fNil)))))
  sNext)
  (sSeq (sIf (tOf (fB (opInK false) (fV 1) (fV 0)))
  ((sRet (fTup (fCons (fC (.int 0)) (fCons (fB opIdxK (fV 0) (fV 1)) fNil)))))
  sNext)
  (sRet (fTup (fCons (fC (.int 1)) (fCons (fC (.int 0)) fNil))))))
noncomputable def f_law_told : List D → Res D := runD 2 2 g_law_told
theorem r_law_told (a0 a1 : D) : f_law_told [a0, a1] = toRes (g_law_told [some a0, some a1]) := rfl
noncomputable def g_law_worth : DS := (sSeq (sSet 4 (fCallF f_law_told (fCons (fV 1) (fCons (fCallF f_law_behind (fCons (fV 0) (fCons (fV 2) (fCons (fV 3) (fCons (fC (.bl false)) fNil))))) fNil))))
  (sSeq (sIf ((tAndD (tOf (fNotN (fB opIdxK (fV 0) (fC (.int 1))))) (tOf (fB opEq (fB opIdxK (fV 2) (fC (.int 1))) (fC (.int 0))))))
  ((sRet (fCall (op2 min2G) (fCons (fV 4) (fCons (fCallF f_law_told (fCons (fV 1) (fCons (fCallF f_law_behind (fCons (fV 0) (fCons (fV 2) (fCons (fV 3) (fCons (fC (.bl true)) fNil))))) fNil))) fNil)))))
  sNext)
  (sRetV 4)))
noncomputable def f_law_worth : List D → Res D := runD 5 4 g_law_worth
theorem r_law_worth (a0 a1 a2 a3 : D) : f_law_worth [a0, a1, a2, a3] = toRes (g_law_worth [some a0, some a1, some a2, some a3, none]) := rfl
noncomputable def g_law_standing : DS := (sSeq (sSet 2 (fLst fNil))
  (sSeq (sFor (gN 3) (fIt (fB opIdxK (fV 0) (fC (.int 0))))
  ((sSeq (sApp 2 (fB opAdd (fC (.int 1)) (fB opMod (fV 1) (fV 3))))
  (sSet 1 (fB opFdiv (fV 1) (fV 3))))))
  (sSeq (sIf (tOf (fIsN (fB opIdxK (fV 0) (fC (.int 1)))))
  ((sRet (fTup (fCons (fCall (op1 tuple1) (fCons (fV 2) fNil)) (fCons (fC (.int 0)) fNil)))))
  sNext)
  (sRet (fTup (fCons (fCall (op1 tuple1) (fCons (fV 2) fNil)) (fCons (fB opMod (fV 1) (fB opAdd (fB opIdxK (fV 0) (fC (.int 1))) (fC (.int 1)))) fNil)))))))
noncomputable def f_law_standing : List D → Res D := runD 4 2 g_law_standing
theorem r_law_standing (a0 a1 : D) : f_law_standing [a0, a1] = toRes (g_law_standing [some a0, some a1, none, none]) := rfl
noncomputable def g_law_standings : DS := (sSeq (sSet 1 (fLst (fCons (fTup fNil) fNil)))
  (sSeq (sFor (gN 2) (fIt (fB opIdxK (fV 0) (fC (.int 0))))
  ((sSeq (sSet 3 (fLst fNil))
  (sSeq (sFrz 1 (sFor (gN 4) (fIt (fV 1))
  ((sFor (gN 5) (fRng rng2 (fCons (fC (.int 1)) (fCons (fB opAdd (fV 2) (fC (.int 1))) fNil)))
  ((sApp 3 (fB opAdd (fV 4) (fTup (fCons (fV 5) fNil)))))))))
  (sFrz 3 (sSet 1 (fV 3)))))))
  (sSeq (sIf (tOf (fIsN (fB opIdxK (fV 0) (fC (.int 1)))))
  ((sRet (fComp [4] (fItV (fV 1)) (gN 4) tYesD (fTup (fCons (fV 4) (fCons (fC (.int 0)) fNil))))))
  sNext)
  (sSeq (sSet 6 (fLst fNil))
  (sSeq (sFrz 1 (sFor (gN 4) (fIt (fV 1))
  ((sFor (gN 7) (fRng rng1 (fCons (fB opAdd (fB opIdxK (fV 0) (fC (.int 1))) (fC (.int 1))) fNil))
  ((sApp 6 (fTup (fCons (fV 4) (fCons (fV 7) fNil)))))))))
  (sRetV 6))))))
noncomputable def f_law_standings : List D → Res D := runD 8 1 g_law_standings
theorem r_law_standings (a0 : D) : f_law_standings [a0] = toRes (g_law_standings [some a0, none, none, none, none, none, none, none]) := rfl
noncomputable def g_joined : DS := (sSeq (sAsg (gT (gs1 (gN 3) (gs1 (gN 4) gs0))) (fV 0))
  (sSeq (sAsg (gT (gs1 (gN 5) (gs1 (gN 6) gs0))) (fV 1))
  (sRet (fTup (fCons (fCallF f_hall_of (fCons (fB opAdd (fCall (op1 list1) (fCons (fV 3) fNil)) (fLst (fCons (fV 2) fNil))) (fCons (fV 4) fNil))) (fCons (fTup (fCons (fB opAdd (fV 5) (fTup (fCons (fV 2) fNil))) (fCons (fV 6) fNil))) fNil))))))
noncomputable def f_joined : List D → Res D := runD 7 3 g_joined
theorem r_joined (a0 a1 a2 : D) : f_joined [a0, a1, a2] = toRes (g_joined [some a0, some a1, some a2, none, none, none, none]) := rfl
noncomputable def g_inverse : DS := (sSeq (sSet 2 (fV 1))
  (sSeq (sSet 3 (fB opMod (fV 0) (fV 1)))
  (sSeq (sSet 4 (fC (.int 0)))
  (sSeq (sSet 5 (fC (.int 1)))
  (sSeq (sWhile (tOf (fB opGt (fV 3) (fC (.int 0))))
  ((sSeq (sAsg (gT (gs1 (gN 6) (gs1 (gN 7) gs0))) (fCall (op2 dmW) (fCons (fV 2) (fCons (fV 3) fNil))))
  (sSeq (sPar 2 3 (fCons (fV 3) (fCons (fV 7) fNil)))
  (sPar 4 5 (fCons (fV 5) (fCons (fB opSub (fV 4) (fB opMul (fV 6) (fV 5))) fNil)))))))
  (sRet (fB opMod (fV 4) (fV 1))))))))
noncomputable def f_inverse : List D → Res D := runD 8 2 g_inverse
theorem r_inverse (a0 a1 : D) : f_inverse [a0, a1] = toRes (g_inverse [some a0, some a1, none, none, none, none, none, none]) := rfl
noncomputable def g_shared_turn : DS := (sSeq (sSet 2 (fCallF f_divisor (fCons (fB opIdx (fV 0) (fC (.int 0))) (fCons (fB opIdx (fV 1) (fC (.int 0))) fNil))))
  (sSeq (sSet 3 (fB opSub (fB opIdx (fV 1) (fC (.int 1))) (fB opIdx (fV 0) (fC (.int 1)))))
  (sSeq (sIf (tOf (fB opNe (fB opMod (fV 3) (fV 2)) (fC (.int 0))))
  ((sRet (fC .non)))
  sNext)
  (sSeq (sSet 4 (fB opFdiv (fB opIdx (fV 1) (fC (.int 0))) (fV 2)))
  (sRet (fB opAdd (fB opIdx (fV 0) (fC (.int 1))) (fB opMul (fB opIdx (fV 0) (fC (.int 0))) (fB opMod (fB opMul (fB opFdiv (fV 3) (fV 2)) (fCallF f_inverse (fCons (fB opFdiv (fB opIdx (fV 0) (fC (.int 0))) (fV 2)) (fCons (fV 4) fNil)))) (fV 4)))))))))
noncomputable def f_shared_turn : List D → Res D := runD 5 2 g_shared_turn
theorem r_shared_turn (a0 a1 : D) : f_shared_turn [a0, a1] = toRes (g_shared_turn [some a0, some a1, none, none, none]) := rfl
noncomputable def g_left_out : DS := (sSeq (sAsg (gT (gs1 (gN 3) (gs1 (gN 4) gs0))) (fV 0))
  (sSeq (sAsg (gT (gs1 (gN 5) (gs1 (gN 6) gs0))) (fV 1))
  (sSeq (sIf ((tOrD (tOf (fB opLt (fV 2) (fC (.int 0)))) (tOf (fB opGe (fV 2) (fCall opLen (fCons (fV 3) fNil))))))
  ((sRaise "NoListener"))
  sNext)
  (sSeq (sIf (tOf (fB opEq (fCall opLen (fCons (fV 3) fNil)) (fC (.int 1))))
  ((sRaise "NoHall"))
  sNext)
  (sRet (fTup (fCons (fTup (fCons (fB opAdd (fSl (fV 3) fNo (fPart (fV 2))) (fSl (fV 3) (fPart (fB opAdd (fV 2) (fC (.int 1)))) fNo)) (fCons (fV 4) fNil))) (fCons (fTup (fCons (fB opAdd (fSl (fV 5) fNo (fPart (fV 2))) (fSl (fV 5) (fPart (fB opAdd (fV 2) (fC (.int 1)))) fNo)) (fCons (fV 6) fNil))) fNil))))))))
noncomputable def f_left_out : List D → Res D := runD 7 3 g_left_out
theorem r_left_out (a0 a1 a2 : D) : f_left_out [a0, a1, a2] = toRes (g_left_out [some a0, some a1, some a2, none, none, none, none]) := rfl
noncomputable def g_law_numbers : DS := (sSeq (sIf ((tOrD (tNotD (tOf (fU (isiD "tuple") (fV 0)))) (tOf (fB opNe (fCall opLen (fCons (fV 0) fNil)) (fCall opLen (fCons (fV 1) fNil))))))
  ((sRet (fC (.bl false))))
  sNext)
  (sSeq (sFor (gN 2) (fRng rng1 (fCons (fCall opLen (fCons (fV 1) fNil)) fNil))
  ((sIf ((tOrD (tNotD (tOf (fCallF f_law_whole (fCons (fB opIdxK (fV 0) (fV 2)) fNil)))) (tOf (fB opNe (fB opIdxK (fV 0) (fV 2)) (fB opIdxK (fV 1) (fV 2))))))
  ((sRet (fC (.bl false))))
  sNext)))
  (sRet (fC (.bl true)))))
noncomputable def f_law_numbers : List D → Res D := runD 3 2 g_law_numbers
theorem r_law_numbers (a0 a1 : D) : f_law_numbers [a0, a1] = toRes (g_law_numbers [some a0, some a1, none]) := rfl
noncomputable def g_law_alike : DS := (sSeq (sIf ((tOrD (tNotD (tOf (fU (isiD "tuple") (fV 0)))) (tOf (fB opNe (fCall opLen (fCons (fV 0) fNil)) (fC (.int 2))))))
  ((sRet (fC (.bl false))))
  sNext)
  (sSeq (sFor (gN 2) (fRng rng1 (fCons (fC (.int 2)) fNil))
  ((sSeq (sIf ((tOrD (tNotD (tOf (fU (isiD "tuple") (fB opIdxK (fV 0) (fV 2))))) (tOrD (tOf (fB opNe (fCall opLen (fCons (fB opIdxK (fV 0) (fV 2)) fNil)) (fC (.int 2)))) (tNotD (tOf (fCallF f_law_numbers (fCons (fB opIdxK (fB opIdxK (fV 0) (fV 2)) (fC (.int 0))) (fCons (fB opIdxK (fB opIdxK (fV 1) (fV 2)) (fC (.int 0))) fNil))))))))
  ((sRet (fC (.bl false))))
  sNext)
  (sIf (tOf (fIsN (fB opIdxK (fB opIdxK (fV 1) (fV 2)) (fC (.int 1)))))
  ((sIf (tOf (fNotN (fB opIdxK (fB opIdxK (fV 0) (fV 2)) (fC (.int 1)))))
  ((sRet (fC (.bl false))))
  sNext))
  ((sIf ((tOrD (tNotD (tOf (fCallF f_law_whole (fCons (fB opIdxK (fB opIdxK (fV 0) (fV 2)) (fC (.int 1))) fNil)))) (tOf (fB opNe (fB opIdxK (fB opIdxK (fV 0) (fV 2)) (fC (.int 1))) (fB opIdxK (fB opIdxK (fV 1) (fV 2)) (fC (.int 1)))))))
  ((sRet (fC (.bl false))))
  sNext))))))
  (sRet (fC (.bl true)))))
noncomputable def f_law_alike : List D → Res D := runD 3 2 g_law_alike
theorem r_law_alike (a0 a1 : D) : f_law_alike [a0, a1] = toRes (g_law_alike [some a0, some a1, none]) := rfl
noncomputable def g_longest : DS := (sSeq (sSet 2 (fComp [3] (fRng rng1 (fCons (fCall opLen (fCons (fV 0) fNil)) fNil)) (gN 3) ((tOf (fB opEq (fB opIdx (fV 0) (fV 3)) (fV 1)))) (fV 3)))
  (sSeq (sIf (tOf (fB opEq (fV 2) (fLst fNil)))
  ((sRet (fC .non)))
  sNext)
  (sSeq (sSet 4 (fB opSub (fB opAdd (fB opIdx (fV 2) (fC (.int 0))) (fCall opLen (fCons (fV 0) fNil))) (fB opIdx (fV 2) (fB opSub (fCall opLen (fCons (fV 2) fNil)) (fC (.int 1))))))
  (sSeq (sFor (gN 5) (fRng rng2 (fCons (fC (.int 1)) (fCons (fCall opLen (fCons (fV 2) fNil)) fNil)))
  ((sSet 4 (fCall (op2 max2) (fCons (fV 4) (fCons (fB opSub (fB opIdx (fV 2) (fV 5)) (fB opIdx (fV 2) (fB opSub (fV 5) (fC (.int 1))))) fNil))))))
  (sRetV 4)))))
noncomputable def f_longest : List D → Res D := runD 6 2 g_longest
theorem r_longest (a0 a1 : D) : f_longest [a0, a1] = toRes (g_longest [some a0, some a1, none, none, none, none]) := rfl
noncomputable def g_keeps : DS := (sSeq (sFor (gN 2) (fRng rng1 (fCons (fCall opLen (fCons (fB opIdx (fV 0) (fC (.int 0))) fNil)) fNil))
  ((sSeq (sSet 3 (fCallF f_longest (fCons (fV 1) (fCons (fV 2) fNil))))
  (sIf ((tOrD (tOf (fIsN (fV 3))) (tOf (fB opGt (fV 3) (fB opIdx (fB opIdx (fV 0) (fC (.int 0))) (fV 2))))))
  ((sRet (fC (.bl false))))
  sNext))))
  (sRet (fC (.bl true))))
noncomputable def f_keeps : List D → Res D := runD 4 2 g_keeps
theorem r_keeps (a0 a1 : D) : f_keeps [a0, a1] = toRes (g_keeps [some a0, some a1, none, none]) := rfl
end Sh
/-! What the functions that many laws share compute: whole numbers. -/
namespace Dl
open PySem PySem.Spec PyProof.Rows L2
theorem forD_fold {α β : Type} {t : DTg} {b g2 : DS} {ρ : DEnv} {r : Res D} {xs : List α} {dec : α → D} {s0 : β} (f : β → α → β) (E : β → DEnv → Prop) (h0 : E s0 ρ)
    (step : ∀ (i : Nat) (x : α) (s : β) (ρ : DEnv), xs[i]? = some x → s = (xs.take i).foldl f s0 → E s ρ → ∃ ρ1 ρ2, t (dec x) ρ = some ρ1 ∧ (b ρ1 = .next ρ2 ∨ b ρ1 = .cont ρ2) ∧ E (f s x) ρ2)
    (k : ∀ ρ', E (xs.foldl f s0) ρ' → toRes (g2 ρ') = r) : toRes ((forD t b (xs.map dec) ρ).seq g2) = r :=
  forD_run (fun i ρ => E ((xs.take i).foldl f s0) ρ) h0 (fun i d ρ hd hE => by
    rw [List.getElem?_map] at hd
    cases e : xs[i]? with
    | none => rw [e] at hd; cases hd
    | some x =>
      rw [e] at hd
      cases hd
      obtain ⟨ρ1, ρ2, a, b, c⟩ := step i x _ ρ e rfl hE
      refine ⟨ρ1, ρ2, a, b, ?_⟩
      rw [List.take_add_one, e, List.foldl_append]
      exact c) (fun ρ' h => k ρ' (by rw [List.length_map, List.take_length] at h; exact h))
theorem forD_foldS {α β : Type} {t : DTg} {b g2 : DS} {ρ : DEnv} {r : SR} {xs : List α} {dec : α → D} {s0 : β} (f : β → α → β) (E : β → DEnv → Prop) (h0 : E s0 ρ)
    (step : ∀ (i : Nat) (x : α) (s : β) (ρ : DEnv), xs[i]? = some x → s = (xs.take i).foldl f s0 → E s ρ → ∃ ρ1 ρ2, t (dec x) ρ = some ρ1 ∧ (b ρ1 = .next ρ2 ∨ b ρ1 = .cont ρ2) ∧ E (f s x) ρ2)
    (k : ∀ ρ', E (xs.foldl f s0) ρ' → g2 ρ' = r) : (forD t b (xs.map dec) ρ).seq g2 = r :=
  forD_seq (fun i ρ => E ((xs.take i).foldl f s0) ρ) h0 (fun i d ρ hd hE => by
    rw [List.getElem?_map] at hd
    cases e : xs[i]? with
    | none => rw [e] at hd; cases hd
    | some x =>
      rw [e] at hd
      cases hd
      obtain ⟨ρ1, ρ2, a, b, c⟩ := step i x _ ρ e rfl hE
      refine ⟨ρ1, ρ2, a, b, ?_⟩
      rw [List.take_add_one, e, List.foldl_append]
      exact c) (fun ρ' h => k ρ' (by rw [List.length_map, List.take_length] at h; exact h))
theorem compD_map {α : Type} {t : DTg} {tt : DT} {el : DE} {ρ : DEnv} {dec : α → D} (f : α → D) : ∀ {xs : List α}, (∀ x, x ∈ xs → ∃ ρ1, t (dec x) ρ = some ρ1 ∧ tt ρ1 = .ok true ∧ el ρ1 = .ok (f x) ∧ (f x).tg ≠ .vw) →
    compD t tt el ρ (xs.map dec) = .ok (xs.map fun x => (f x).re .fz)
  | [], _ => rfl
  | x :: xs, h => by
    obtain ⟨ρ1, e1, e2, e3, e4⟩ := h x (List.mem_cons_self ..)
    have ih := compD_map f (fun y hy => h y (List.mem_cons_of_mem _ hy))
    rw [List.map_cons, compD_cons, e1]
    dsimp only
    rw [e2, e3]
    simp only [noX_ok, Res.ok_bind, if_true]
    rw [if_neg e4, ih]
    rfl
theorem compD_ints {α : Type} {t : DTg} {tt : DT} {el : DE} {ρ : DEnv} {dec : α → D} {P : α → Int → Prop} : ∀ {xs : List α}, (∀ x, x ∈ xs → ∃ ρ1 z, t (dec x) ρ = some ρ1 ∧ tt ρ1 = .ok true ∧ el ρ1 = .ok (.int z) ∧ P x z) →
    ∃ zs : List Int, compD t tt el ρ (xs.map dec) = .ok (zs.map .int) ∧ zs.length = xs.length ∧ ∀ (i : Nat) x, xs[i]? = some x → ∃ z, zs[i]? = some z ∧ P x z
  | [], _ => ⟨[], rfl, rfl, fun i x h => nomatch h⟩
  | x :: xs, h => by
    obtain ⟨ρ1, z, e1, e2, e3, e4⟩ := h x (List.mem_cons_self ..)
    obtain ⟨zs, f1, f2, f3⟩ := compD_ints (xs := xs) (fun y hy => h y (List.mem_cons_of_mem _ hy))
    refine ⟨z :: zs, ?_, by rw [List.length_cons, f2]; rfl, fun i y hy => ?_⟩
    · rw [List.map_cons, compD_cons, e1]
      dsimp only
      rw [e2, e3]
      simp only [noX_ok, Res.ok_bind, if_true]
      rw [if_neg (by simp), f1]
      rfl
    · cases i with
      | zero => cases hy; exact ⟨z, rfl, e4⟩
      | succ i => exact f3 i y hy
theorem all_of_at {α β : Type} {xs : List α} {zs : List β} {Q : β → Prop} (hl : zs.length = xs.length) (h : ∀ (i : Nat) x, xs[i]? = some x → ∃ z, zs[i]? = some z ∧ Q z) : ∀ z ∈ zs, Q z := fun z hz => by
  obtain ⟨i, hi⟩ := List.getElem?_of_mem hz
  have h1 := (List.getElem?_eq_some_iff.mp hi).1
  obtain ⟨y, e, q⟩ := h i xs[i] (List.getElem?_eq_getElem (by omega))
  rw [hi] at e
  cases e
  exact q
theorem compD_filter {α : Type} {t : DTg} {tt : DT} {el : DE} {ρ : DEnv} {dec : α → D} (p : α → Bool) (f : α → D) : ∀ {xs : List α}, (∀ x, x ∈ xs → ∃ ρ1, t (dec x) ρ = some ρ1 ∧ tt ρ1 = .ok (p x) ∧ (p x = true → el ρ1 = .ok (f x) ∧ (f x).tg ≠ .vw)) →
    compD t tt el ρ (xs.map dec) = .ok ((xs.filter p).map fun x => (f x).re .fz)
  | [], _ => rfl
  | x :: xs, h => by
    obtain ⟨ρ1, e1, e2, e3⟩ := h x (List.mem_cons_self ..)
    have ih := compD_filter p f (fun y hy => h y (List.mem_cons_of_mem _ hy))
    rw [List.map_cons, compD_cons, e1]
    dsimp only
    rw [e2]
    by_cases hp : p x = true
    · obtain ⟨e3, e4⟩ := e3 hp
      rw [e3, hp]
      simp only [noX_ok, Res.ok_bind, if_true]
      rw [if_neg e4, ih, List.filter_cons_of_pos hp]
      rfl
    · rw [Bool.not_eq_true] at hp
      rw [hp]
      simp only [noX_ok, Res.ok_bind, Bool.false_eq_true, if_false]
      rw [ih, List.filter_cons_of_neg (by simp [hp])]
end Dl
namespace Sh
open PySem PySem.Spec PyProof.Rows L2 Dl
theorem cell_at (l : List Int) (k : Nat) : f_law_cell_at [.lst .fz (l.map .int), .int k] = .ok (.int (l.getD k 0)) := by
  rw [r_law_cell_at]
  unfold g_law_cell_at
  by_cases h : k < l.length
  · simp [h, idx_ints]
  · simp [h, List.getD_eq_getElem?_getD]
abbrev M : Nat := 1100000
theorem cell_sm {ns : List Int} (hb : ∀ z ∈ ns, Builtin.Int.intBits z ≤ 1048576) (z : Int) (hz : 0 ≤ z) : ∃ c, f_law_cell_at [.lst .fz (ns.map .int), .int z] = .ok (.int c) ∧ Sm M c := by
  obtain ⟨k, rfl⟩ := Int.eq_ofNat_of_zero_le hz
  exact ⟨_, cell_at ns k, (sm_cells hb k).mono (by decide)⟩
theorem gcd_step (x y : Int) : Int.gcd y (x % y) = Int.gcd x y := by
  have e : x = x % y + y * (x / y) := (Int.emod_add_mul_ediv x y).symm
  conv => rhs; rw [e]
  rw [Int.gcd_comm, Int.gcd_comm (x % y + y * (x / y)) y]
  simp [Int.gcd_comm]
theorem divisor_eq (a b : Int) (ha : 0 ≤ a) (hb : 0 ≤ b) : f_divisor [.int a, .int b] = .ok (.int (Int.gcd a b)) := by
  rw [r_divisor]
  unfold g_divisor
  rw [sSeq_ap]
  refine sWhile_run (fun ρ => ∃ x y : Int, ρ = [some (.int x), some (.int y)] ∧ 0 ≤ x ∧ 0 ≤ y ∧ Int.gcd x y = Int.gcd a b)
    (fun ρ => match ρ with | [_, some (.int y)] => y.toNat | _ => 0) ⟨a, b, rfl, ha, hb, rfl⟩ (fun ρ ⟨x, y, h1, h2, h3, h4⟩ => by
      subst h1
      by_cases hy : 0 < y
      · refine .inr ⟨by simp [hy], [some (.int y), some (.int (x % y))], .inl (by simp [hy]), ⟨y, x % y, rfl, h3, Int.emod_nonneg _ (by omega), ?_⟩, ?_⟩
        · rw [← h4, gcd_step]
        · have h1 := Int.emod_nonneg x (show y ≠ 0 by omega)
          have h2 := Int.emod_lt_of_pos x hy
          show (x % y).toNat < y.toNat
          omega
      · exact .inl (by simp [hy])) (fun ρ' ⟨x, y, h1, h2, h3, h4⟩ e2 => by
  subst h1
  simp at e2
  have : y = 0 := by omega
  subst this
  rw [← h4]
  simp [Int.natAbs_of_nonneg h2]
  try omega)
theorem law_divisor_eq (a b : Int) (ha : 0 ≤ a) (hb : 0 ≤ b) : f_law_divisor [.int a, .int b] = .ok (.int (Int.gcd a b)) := by
  rw [r_law_divisor]
  unfold g_law_divisor
  rw [sSeq_ap]
  refine sWhile_run (fun ρ => ∃ x y : Int, ρ = [some (.int x), some (.int y)] ∧ 0 ≤ x ∧ 0 ≤ y ∧ Int.gcd x y = Int.gcd a b)
    (fun ρ => match ρ with | [_, some (.int y)] => y.toNat | _ => 0) ⟨a, b, rfl, ha, hb, rfl⟩ (fun ρ ⟨x, y, h1, h2, h3, h4⟩ => by
      subst h1
      by_cases hy : y = 0
      · exact .inl (by simp [hy])
      · have hy : 0 < y := by omega
        have hy2 : y ≠ 0 := by omega
        refine .inr ⟨by simp [hy2], [some (.int y), some (.int (x % y))], .inl (by simp [hy]), ⟨y, x % y, rfl, h3, Int.emod_nonneg _ (by omega), ?_⟩, ?_⟩
        · rw [← h4, gcd_step]
        · have h1 := Int.emod_nonneg x (show y ≠ 0 by omega)
          have h2 := Int.emod_lt_of_pos x hy
          show (x % y).toNat < y.toNat
          omega) (fun ρ' ⟨x, y, h1, h2, h3, h4⟩ e2 => by
  subst h1
  simp at e2
  subst e2
  rw [← h4]
  simp [Int.natAbs_of_nonneg h2]
  try omega)
theorem whole_int (z : Int) : f_law_whole [.int z] = .ok (.bl true) := by
  rw [r_law_whole]
  unfold g_law_whole
  simp
theorem big_eq (c : Int) (h : Sm M c) : ∃ z, f_law_big [.int c] = .ok (.int z) ∧ 0 ≤ z ∧ Sm 199 z := by
  rw [r_law_big]
  unfold g_law_big
  have h2 : mulOk c 618033988749894848204586834365638117720309179805762862137 = true := mulOk_of h (show Sm 200 _ by unfold Sm; decide +kernel) (by decide)
  refine ⟨c * 618033988749894848204586834365638117720309179805762862137 % 10 ^ 60, by simp [h2], Int.emod_nonneg _ (by decide), Sm.mod (by unfold Sm; decide +kernel) (by decide)⟩
/-! the least round -/
def lr (ns : List Int) : Int := ns.foldl (fun a n => a / Int.gcd a n * n) 1
theorem lr_snoc (ns : List Int) (n : Int) : lr (ns ++ [n]) = lr ns / Int.gcd (lr ns) n * n := by unfold lr; rw [List.foldl_append]; rfl
theorem snoc_ind {α : Type} {P : List α → Prop} (h0 : P []) (h1 : ∀ l a, P l → P (l ++ [a])) (l : List α) : P l := by
  have : ∀ n (l : List α), l.length = n → P l := by
    intro n
    induction n with
    | zero => intro l e; rw [List.length_eq_zero_iff.mp e]; exact h0
    | succ n ih =>
      intro l e
      have ne : l ≠ [] := by intro h; subst h; cases e
      rw [← List.dropLast_concat_getLast ne]
      exact h1 _ _ (ih _ (by rw [List.length_dropLast, e]; rfl))
  exact this _ l rfl
structure LrOk (ns : List Int) : Prop where
  pos : 0 < lr ns
  dvd : ∀ n ∈ ns, n ∣ lr ns
  least : ∀ m, (∀ n ∈ ns, n ∣ m) → lr ns ∣ m
theorem lcm_facts {a n : Int} (ha : 0 < a) (hn : 0 < n) : 0 < a / Int.gcd a n * n ∧ a ∣ a / Int.gcd a n * n ∧ n ∣ a / Int.gcd a n * n ∧ (∀ m, a ∣ m → n ∣ m → a / Int.gcd a n * n ∣ m) ∧ a / Int.gcd a n * n ≤ a * n := by
  have hg : 0 < (Int.gcd a n : Int) := by
    have : 0 < Int.gcd a n := Int.gcd_pos_of_ne_zero_left _ (by omega)
    omega
  obtain ⟨k, hk⟩ := Int.gcd_dvd_left a n
  obtain ⟨l, hl⟩ := Int.gcd_dvd_right a n
  have e1 : a / Int.gcd a n = k := by
    conv => lhs; lhs; rw [hk]
    exact Int.mul_ediv_cancel_left _ (by omega)
  have kpos : 0 < k := by
    rcases Int.lt_trichotomy k 0 with h | h | h
    · have := Int.mul_neg_of_pos_of_neg hg h; omega
    · subst h; simp at hk; omega
    · exact h
  rw [e1]
  refine ⟨Int.mul_pos kpos hn, ?_, Int.dvd_mul_left k n, fun m h1 h2 => ?_, ?_⟩
  · exact ⟨l, by conv => { lhs; rw [hl] }; conv => { rhs; lhs; rw [hk] }; rw [← Int.mul_assoc, Int.mul_comm k]⟩
  · have : (Int.lcm a n : Int) ∣ m := Int.coe_lcm_dvd h1 h2
    have e2 : k * n = (Int.lcm a n : Int) := by
      have h3 : (Int.gcd a n : Int) * (Int.lcm a n : Int) = a * n := by
        have := Int.gcd_mul_lcm a n
        rw [← Int.natCast_mul, this, Int.natCast_mul, Int.natAbs_of_nonneg (Int.le_of_lt ha), Int.natAbs_of_nonneg (Int.le_of_lt hn)]
      have h4 : (Int.gcd a n : Int) * (k * n) = a * n := by rw [← Int.mul_assoc, ← hk]
      exact Int.eq_of_mul_eq_mul_left (by omega) (h4.trans h3.symm)
    rw [e2]; exact this
  · refine Int.mul_le_mul_of_nonneg_right ?_ (by omega)
    rw [hk]
    have := Int.mul_le_mul_of_nonneg_right (show 1 ≤ (Int.gcd a n : Int) by omega) (show 0 ≤ k by omega)
    rw [Int.one_mul] at this
    exact this
theorem lr_ok (ns : List Int) : (∀ n ∈ ns, 0 < n) → LrOk ns := by
  refine snoc_ind (P := fun ns => (∀ n ∈ ns, 0 < n) → LrOk ns) (fun _ => ⟨by decide, (fun n h => nomatch h), fun m _ => Int.one_dvd m⟩) (fun l a ih h => ?_) ns
  have I := ih fun n hn => h n (List.mem_append_left _ hn)
  have ha := h a (List.mem_append_right _ (List.mem_singleton_self a))
  obtain ⟨f1, f2, f3, f4, _⟩ := lcm_facts I.pos ha
  constructor
  · rw [lr_snoc]; exact f1
  · intro n hn
    rw [lr_snoc]
    rcases List.mem_append.mp hn with q | q
    · exact Int.dvd_trans (I.dvd n q) f2
    · rw [List.mem_singleton.mp q]; exact f3
  · intro m hm
    rw [lr_snoc]
    exact f4 m (I.least m fun n hn => hm n (List.mem_append_left _ hn)) (hm a (List.mem_append_right _ (List.mem_singleton_self a)))
theorem lr_size (b : Nat) (ns : List Int) : (∀ n ∈ ns, 0 < n ∧ Sm b n) → lr ns ≤ 2 ^ ((b + 1) * ns.length) := by
  refine snoc_ind (P := fun ns => (∀ n ∈ ns, 0 < n ∧ Sm b n) → lr ns ≤ 2 ^ ((b + 1) * ns.length)) (fun _ => by simp [lr]) (fun l a ih h => ?_) ns
  have I := ih fun n hn => h n (List.mem_append_left _ hn)
  have O := lr_ok l fun n hn => (h n (List.mem_append_left _ hn)).1
  have ha := h a (List.mem_append_right _ (List.mem_singleton_self a))
  obtain ⟨_, _, _, _, f5⟩ := lcm_facts O.pos ha.1
  rw [lr_snoc]
  refine Int.le_trans f5 ?_
  have hs : a ≤ 2 ^ (b + 1) := by
    have h2 := ha.2
    unfold Sm at h2
    have h3 : a.natAbs < 2 ^ (b + 1) := (Nat.log2_lt (by omega)).mp (by omega)
    have h4 : ((2 : Int) ^ (b + 1)) = ((2 ^ (b + 1) : Nat) : Int) := by rw [Int.natCast_pow]; rfl
    rw [h4]
    omega
  rw [List.length_append, List.length_singleton, Nat.mul_add, Nat.mul_one, Int.pow_add]
  exact Int.mul_le_mul I hs (by omega) (Int.pow_nonneg (by decide))
theorem sm_pow {c : Int} {n : Nat} (h0 : 0 ≤ c) (h : c ≤ 2 ^ n) : Sm n c := by
  unfold Sm
  have h4 : ((2 : Int) ^ n) = ((2 ^ n : Nat) : Int) := by rw [Int.natCast_pow]; rfl
  rw [h4] at h
  refine Nat.le_trans (log2_mono (show c.natAbs ≤ 2 ^ n by omega)) ?_
  rw [Nat.log2_two_pow]
  exact Nat.le_refl _
theorem lr_sm {b : Nat} {ns : List Int} (h : ∀ n ∈ ns, 0 < n ∧ Sm b n) : Sm ((b + 1) * ns.length) (lr ns) :=
  sm_pow (Int.le_of_lt (lr_ok ns fun n hn => (h n hn).1).pos) (lr_size b ns h)
theorem fdiv_sm {a b : Int} (h : 0 < b) (g : Sm 8999 b) : opFdiv (.int a) (.int b) = .ok (.int (a / b)) := by
  rw [opFdiv_i, if_pos ⟨h, Nat.lt_succ_of_le g⟩]
theorem gcd_facts {a n : Int} (hn : 0 < n) : 0 < (Int.gcd a n : Int) ∧ (Int.gcd a n : Int) ≤ n := by
  have h1 : 0 < Int.gcd a n := Int.gcd_pos_of_ne_zero_right _ (by omega)
  exact ⟨by omega, Int.le_of_dvd hn (Int.gcd_dvd_right _ _)⟩
theorem least_round_eq {b : Nat} (ns : List Int) (h : ∀ n ∈ ns, 0 < n ∧ Sm b n) (hb : b ≤ 8999) (hl : (b + 1) * ns.length ≤ 90000000) : f_least_round [.lst .fz (ns.map .int)] = .ok (.int (lr ns)) := by
  rw [r_least_round]
  unfold g_least_round
  simp
  refine forD_fold (fun a n => a / Int.gcd a n * n) (fun s ρ => ∃ x, ρ = [some (.lst .fz (ns.map .int)), some (.int s), x]) ⟨_, rfl⟩ (fun i x s ρ hx hs ⟨y, hρ⟩ => ?_) (fun ρ' ⟨_, h⟩ => by subst h; rfl)
  subst hρ
  have hn := h x (List.mem_of_getElem? hx)
  have ht : ∀ n ∈ ns.take i, 0 < n ∧ Sm b n := fun n hm => h n (List.mem_of_mem_take hm)
  have e : s = lr (ns.take i) := hs
  have sp : 0 < s := by rw [e]; exact (lr_ok _ fun n hm => (ht n hm).1).pos
  have ss : Sm ((b + 1) * ns.length) s := by
    rw [e]; exact (lr_sm ht).mono (Nat.mul_le_mul_left _ (by rw [List.length_take]; omega))
  obtain ⟨g1, g2⟩ := gcd_facts (a := s) hn.1
  have gs : Sm 8999 (Int.gcd s x) := (hn.2.le (by omega)).mono hb
  refine ⟨_, [some (.lst .fz (ns.map .int)), some (.int (s / Int.gcd s x * x)), some (.int x)], rfl, .inl ?_, ⟨_, rfl⟩⟩
  simp [divisor_eq s x (by omega) (by omega), fdiv_sm g1 gs, mulOk_of (ss.div _) hn.2 (by omega)]
end Sh
namespace Sh
open PySem PySem.Spec PyProof.Rows L2 Dl
/-- the greatest common divisor of what the least round holds of each number is 1 -/
def cof (L : Int) (r n : Int) : Int := Int.gcd r (L / n)
theorem cof_facts (L : Int) (ns : List Int) : 0 ≤ ns.foldl (cof L) 0 ∧ ∀ g : Int, (∀ n ∈ ns, g ∣ L / n) → g ∣ ns.foldl (cof L) 0 := by
  refine snoc_ind (P := fun ns => 0 ≤ ns.foldl (cof L) 0 ∧ ∀ g : Int, (∀ n ∈ ns, g ∣ L / n) → g ∣ ns.foldl (cof L) 0) ⟨Int.le_refl _, fun g _ => Int.dvd_zero g⟩ (fun l a ih => ?_) ns
  rw [List.foldl_append]
  refine ⟨Int.natCast_nonneg _, fun g h => ?_⟩
  exact Int.dvd_coe_gcd (ih.2 g fun n hn => h n (List.mem_append_left _ hn)) (h a (List.mem_append_right _ (List.mem_singleton_self a)))
theorem cof_dvd (L : Int) (ns : List Int) : ∀ n ∈ ns, ns.foldl (cof L) 0 ∣ L / n := by
  refine snoc_ind (P := fun ns => ∀ n ∈ ns, ns.foldl (cof L) 0 ∣ L / n) (fun n h => nomatch h) (fun l a ih n hn => ?_) ns
  rw [List.foldl_append]
  rcases List.mem_append.mp hn with q | q
  · exact Int.dvd_trans (Int.gcd_dvd_left _ _) (ih n q)
  · rw [List.mem_singleton.mp q]; exact Int.gcd_dvd_right _ _
theorem cof_one {ns : List Int} (h : ∀ n ∈ ns, 0 < n) (ne : ns ≠ []) : ns.foldl (cof (lr ns)) 0 = 1 := by
  have O := lr_ok ns h
  generalize hg : ns.foldl (cof (lr ns)) 0 = g
  have h0 : 0 ≤ g := by rw [← hg]; exact (cof_facts (lr ns) ns).1
  have hd : ∀ n ∈ ns, g ∣ lr ns / n := by rw [← hg]; exact cof_dvd (lr ns) ns
  have hdvd : ∀ n ∈ ns, n * g ∣ lr ns := fun n hn => by
    obtain ⟨k, hk⟩ := hd n hn
    have e := Int.mul_ediv_cancel' (O.dvd n hn)
    exact ⟨k, by rw [Int.mul_assoc, ← hk, e]⟩
  have gpos : 0 < g := by
    rcases Int.lt_or_eq_of_le h0 with q | q
    · exact q
    · obtain ⟨n, hn⟩ := List.exists_mem_of_ne_nil _ ne
      have := hdvd n hn
      rw [← q, Int.mul_zero] at this
      have := Int.zero_dvd.mp this
      have := O.pos
      omega
  have gl : g ∣ lr ns := by
    obtain ⟨n, hn⟩ := List.exists_mem_of_ne_nil _ ne
    exact Int.dvd_trans (Int.dvd_mul_left n g) (hdvd n hn)
  have all : ∀ n ∈ ns, n ∣ lr ns / g := fun n hn => by
    obtain ⟨k, hk⟩ := hdvd n hn
    refine ⟨k, ?_⟩
    rw [hk, Int.mul_assoc, Int.mul_left_comm, Int.mul_ediv_cancel_left _ (by omega)]
  have l2 := Int.le_of_dvd (by
    obtain ⟨k, hk⟩ := gl
    have h := O.pos
    have e : lr ns / g = k := by rw [hk, Int.mul_ediv_cancel_left _ (by omega)]
    rw [e]
    rw [hk] at h
    exact Int.pos_of_mul_pos_right h gpos) (O.least _ all)
  have e := Int.mul_ediv_cancel' gl
  by_cases h1 : g = 1
  · exact h1
  have : lr ns / g * 2 ≤ lr ns / g * g := Int.mul_le_mul_of_nonneg_left (by omega) (by have := O.pos; omega)
  rw [Int.mul_comm g] at e
  have := O.pos
  omega
end Sh
namespace Sh
open PySem PySem.Spec PyProof.Rows L2 Dl
def shT (L : Int) (ns : List Int) : Int := ns.foldl (fun t n => t + L / n) 0
def shG (ns : List Int) : Int := Int.gcd (shT (lr ns) ns) (lr ns)
def sh0 (ns : List Int) : Int := shT (lr ns) ns / shG ns
def sh1 (ns : List Int) : Int := lr ns / shG ns
def rat (p : Int × Int) (n : Int) : Int × Int := (p.1 * n + p.2, p.2 * n)
def ratL (ns : List Int) : Int × Int := ns.foldl rat (0, 1)
theorem shT_snoc (L : Int) (l : List Int) (a : Int) : shT L (l ++ [a]) = shT L l + L / a := by unfold shT; rw [List.foldl_append]; rfl
theorem ratL_snoc (l : List Int) (a : Int) : ratL (l ++ [a]) = rat (ratL l) a := by unfold ratL; rw [List.foldl_append]; rfl
theorem shT_nonneg {L : Int} (hL : 0 ≤ L) (ns : List Int) : (∀ n ∈ ns, 0 < n) → 0 ≤ shT L ns := by
  refine snoc_ind (P := fun ns => (∀ n ∈ ns, 0 < n) → 0 ≤ shT L ns) (fun _ => Int.le_refl _) (fun l a ih h => ?_) ns
  rw [shT_snoc]
  have := ih fun n hn => h n (List.mem_append_left _ hn)
  have ha := h a (List.mem_append_right _ (List.mem_singleton_self a))
  have := Int.ediv_nonneg hL (Int.le_of_lt ha)
  omega
theorem ratL_ok (ns : List Int) : (∀ n ∈ ns, 0 < n) → 0 ≤ (ratL ns).1 ∧ 0 < (ratL ns).2 := by
  refine snoc_ind (P := fun ns => (∀ n ∈ ns, 0 < n) → 0 ≤ (ratL ns).1 ∧ 0 < (ratL ns).2) (fun _ => by decide) (fun l a ih h => ?_) ns
  rw [ratL_snoc]
  obtain ⟨i1, i2⟩ := ih fun n hn => h n (List.mem_append_left _ hn)
  have ha := h a (List.mem_append_right _ (List.mem_singleton_self a))
  have h1 := Int.mul_nonneg i1 (Int.le_of_lt ha)
  exact ⟨by show 0 ≤ (ratL l).1 * a + (ratL l).2; omega, Int.mul_pos i2 ha⟩
theorem ratL_sm (b : Nat) (ns : List Int) : (∀ n ∈ ns, 0 < n ∧ Sm b n) → Sm ((b + 2) * ns.length + 1) (ratL ns).1 ∧ Sm ((b + 2) * ns.length) (ratL ns).2 := by
  refine snoc_ind (P := fun ns => (∀ n ∈ ns, 0 < n ∧ Sm b n) → Sm ((b + 2) * ns.length + 1) (ratL ns).1 ∧ Sm ((b + 2) * ns.length) (ratL ns).2) (fun _ => ⟨by unfold Sm ratL; simp, by unfold Sm ratL; simp; decide⟩) (fun l a ih h => ?_) ns
  rw [ratL_snoc]
  obtain ⟨i1, i2⟩ := ih fun n hn => h n (List.mem_append_left _ hn)
  have ha := h a (List.mem_append_right _ (List.mem_singleton_self a))
  rw [List.length_append, List.length_singleton, Nat.mul_add, Nat.mul_one]
  exact ⟨((i1.mul ha.2).add i2).mono (by omega), (i2.mul ha.2).mono (by omega)⟩
/-- both ways to count the sum of the shares -/
theorem shT_rat (L : Int) (ns : List Int) : (∀ n ∈ ns, 0 < n ∧ n ∣ L) → shT L ns * (ratL ns).2 = (ratL ns).1 * L := by
  refine snoc_ind (P := fun ns => (∀ n ∈ ns, 0 < n ∧ n ∣ L) → shT L ns * (ratL ns).2 = (ratL ns).1 * L) (fun _ => by simp [shT, ratL]) (fun l a ih h => ?_) ns
  have i := ih fun n hn => h n (List.mem_append_left _ hn)
  obtain ⟨ha, hd⟩ := h a (List.mem_append_right _ (List.mem_singleton_self a))
  rw [shT_snoc, ratL_snoc]
  show (shT L l + L / a) * ((ratL l).2 * a) = ((ratL l).1 * a + (ratL l).2) * L
  have e := Int.ediv_mul_cancel hd
  rw [Int.add_mul, Int.add_mul, ← Int.mul_assoc, i, Int.mul_right_comm _ L a]
  congr 1
  rw [Int.mul_comm (ratL l).2 a, ← Int.mul_assoc, e, Int.mul_comm]
theorem shG_facts {ns : List Int} (h : ∀ n ∈ ns, 0 < n) : 0 < shG ns ∧ shG ns ≤ lr ns ∧ shG ns ∣ shT (lr ns) ns ∧ shG ns ∣ lr ns := by
  have O := lr_ok ns h
  obtain ⟨a, b⟩ := gcd_facts (a := shT (lr ns) ns) O.pos
  exact ⟨a, b, Int.gcd_dvd_left _ _, Int.gcd_dvd_right _ _⟩
theorem sh_cross {ns : List Int} (h : ∀ n ∈ ns, 0 < n) : sh0 ns * (ratL ns).2 = (ratL ns).1 * sh1 ns := by
  obtain ⟨g0, _, g1, g2⟩ := shG_facts h
  have O := lr_ok ns h
  have e := shT_rat (lr ns) ns fun n hn => ⟨h n hn, O.dvd n hn⟩
  unfold sh0 sh1
  have e1 := Int.ediv_mul_cancel g1
  have e2 := Int.ediv_mul_cancel g2
  refine Int.eq_of_mul_eq_mul_right (a := shG ns) (by omega) ?_
  rw [Int.mul_right_comm, e1, e, Int.mul_assoc, e2]
theorem sh_pos {ns : List Int} (h : ∀ n ∈ ns, 0 < n) : 0 ≤ sh0 ns ∧ 0 < sh1 ns := by
  obtain ⟨g0, _, g1, g2⟩ := shG_facts h
  have O := lr_ok ns h
  refine ⟨Int.ediv_nonneg (shT_nonneg (Int.le_of_lt O.pos) ns h) (Int.le_of_lt g0), ?_⟩
  unfold sh1
  exact Int.ediv_pos_of_pos_of_dvd O.pos (Int.le_of_lt g0) g2
theorem sh_lt {ns : List Int} (h : ∀ n ∈ ns, 0 < n) : sh1 ns < sh0 ns ↔ (ratL ns).2 < (ratL ns).1 := by
  have e := sh_cross h
  obtain ⟨_, s1⟩ := sh_pos h
  obtain ⟨_, r2⟩ := ratL_ok ns h
  constructor
  · intro q
    have := Int.mul_lt_mul_of_pos_right q r2
    rw [e, Int.mul_comm] at this
    exact Int.lt_of_mul_lt_mul_right this (Int.le_of_lt s1)
  · intro q
    have := Int.mul_lt_mul_of_pos_right q s1
    rw [← e, Int.mul_comm] at this
    exact Int.lt_of_mul_lt_mul_right this (Int.le_of_lt r2)
theorem sh_coprime {ns : List Int} (h : ∀ n ∈ ns, 0 < n) : Int.gcd (sh0 ns) (sh1 ns) = 1 := by
  obtain ⟨g0, _, g1, g2⟩ := shG_facts h
  unfold sh0 sh1 shG
  exact Int.gcd_ediv_gcd_ediv_gcd (by have : 0 < shG ns := g0; unfold shG at this; omega)
theorem sh0_sm {b : Nat} {ns : List Int} (h : ∀ n ∈ ns, 0 < n ∧ Sm b n) : Sm ((2 * b + 3) * ns.length + 2) (sh0 ns) := by
  have hp : ∀ n ∈ ns, 0 < n := fun n hn => (h n hn).1
  have O := lr_ok ns hp
  have e := shT_rat (lr ns) ns fun n hn => ⟨hp n hn, O.dvd n hn⟩
  have t0 := shT_nonneg (Int.le_of_lt O.pos) ns hp
  have r := ratL_ok ns hp
  have le : shT (lr ns) ns ≤ shT (lr ns) ns * (ratL ns).2 := by
    have := Int.mul_le_mul_of_nonneg_left (show 1 ≤ (ratL ns).2 by omega) t0
    rwa [Int.mul_one] at this
  have s : Sm ((b + 2) * ns.length + 1 + (b + 1) * ns.length + 1) ((ratL ns).1 * lr ns) := (ratL_sm b ns h).1.mul (lr_sm h)
  rw [← e] at s
  refine Sm.div (Sm.mono (s.le (d := shT (lr ns) ns) (by omega)) ?_) _
  rw [Nat.add_mul, Nat.add_mul, Nat.add_mul, Nat.mul_assoc]
  omega
theorem shares_eq {b : Nat} (ns : List Int) (h : ∀ n ∈ ns, 0 < n ∧ Sm b n) (hl : (b + 1) * ns.length ≤ 8999) (hb : b ≤ 8999) : f_shares [.lst .fz (ns.map .int)] = .ok (.tup [.int (sh0 ns), .int (sh1 ns)]) := by
  rw [r_shares]
  unfold g_shares
  have hp : ∀ n ∈ ns, 0 < n := fun n hn => (h n hn).1
  have e := least_round_eq ns h hb (by omega)
  have O := lr_ok ns hp
  obtain ⟨g0, g1, _, _⟩ := shG_facts hp
  have gs : Sm 8999 (shG ns) := ((lr_sm h).le (d := shG ns) (by omega)).mono hl
  simp [e]
  refine forD_fold (fun t n => t + lr ns / n) (fun s ρ => ∃ x, ρ = [some (.lst .fz (ns.map .int)), some (.int (lr ns)), some (.int s), x, none]) ⟨_, rfl⟩ (fun i x s ρ hx hs ⟨y, hρ⟩ => ?_) (fun ρ' ⟨_, h⟩ => ?_)
  · subst hρ
    have hx2 := h x (List.mem_of_getElem? hx)
    refine ⟨_, [some (.lst .fz (ns.map .int)), some (.int (lr ns)), some (.int (s + lr ns / x)), some (.int x), none], rfl, .inl ?_, ⟨_, rfl⟩⟩
    simp [fdiv_sm hx2.1 (hx2.2.mono hb)]
  · subst h
    have d := divisor_eq (shT (lr ns) ns) (lr ns) (shT_nonneg (Int.le_of_lt O.pos) ns hp) (Int.le_of_lt O.pos)
    have e1 : ns.foldl (fun t n => t + lr ns / n) 0 = shT (lr ns) ns := rfl
    have e2 : (Int.gcd (shT (lr ns) ns) (lr ns) : Int) = shG ns := rfl
    rw [e2] at d
    simp [e1, d, fdiv_sm g0 gs, seqMax]
    exact ⟨rfl, rfl⟩
theorem pass_one_eq {b : Nat} (ns : List Int) (h : ∀ n ∈ ns, 0 < n ∧ Sm b n) (hl : (b + 1) * ns.length ≤ 8999) (hb : b ≤ 8999) : f_pass_one [.lst .fz (ns.map .int)] = .ok (.bl (decide (sh1 ns < sh0 ns))) := by
  rw [r_pass_one]
  unfold g_pass_one
  simp [shares_eq ns h hl hb]
theorem too_much_eq {b : Nat} (ns : List Int) (h : ∀ n ∈ ns, 0 < n ∧ Sm b n) (hl : (b + 1) * ns.length ≤ 8999) (hb : b ≤ 8999) : f_too_much [.lst .fz (ns.map .int)] = .ok (if sh1 ns < sh0 ns then .int (lr ns) else .non) := by
  rw [r_too_much]
  unfold g_too_much
  have e := least_round_eq ns h hb (by omega)
  by_cases c : sh1 ns < sh0 ns
  · simp [pass_one_eq ns h hl hb, c, e]
  · simp [pass_one_eq ns h hl hb, c]
theorem small_pos (a n : Int) (h0 : 0 ≤ n) (h : n ≤ a) (k : Nat) (ha : a + 1 ≤ 2 ^ k) : 0 < 1 + n ∧ Sm k (1 + n) :=
  ⟨by omega, sm_pow (by omega) (by omega)⟩
theorem mod_pos (x m : Int) (hm : 0 < m) : 0 ≤ x % m ∧ x % m ≤ m - 1 := ⟨Int.emod_nonneg _ (by omega), by have := Int.emod_lt_of_pos x hm; omega⟩
end Sh
namespace Sh
open PySem PySem.Spec PyProof.Rows L2 Dl
abbrev B : Nat := 1300000
/-- a calm: none, or a number from 1 on -/
def Calm (d : D) : Prop := d = .non ∨ ∃ n : Int, d = .int n ∧ 0 < n ∧ Sm 200 n
theorem pow7 (c k : Int) (hk : 0 < k) (sc : Sm B c) (hk2 : k < 1000000) : mulOk (c / k) (7 ^ 64) = true := mulOk_of (sc.div k) (show Sm 200 (7 ^ 64) by unfold Sm; decide +kernel) (by decide)
theorem calm_eq (c : Int) (sc : Sm B c) : Res.Ok (f_law_calm [.int c]) Calm := by
  rw [r_law_calm]
  unfold g_law_calm
  have m := pow7 c 3 (by decide) sc (by decide)
  simp at m
  by_cases h0 : c % 3 = 0
  · exact ⟨.non, by simp [h0], .inl rfl⟩
  by_cases h1 : c % 3 = 1
  · obtain ⟨p1, p2⟩ := mod_pos (c / 3) 4 (by decide)
    exact ⟨.int (1 + c / 3 % 4), by simp [h0, h1], .inr ⟨_, rfl, small_pos 3 _ p1 p2 200 (by decide)⟩⟩
  · obtain ⟨p1, p2⟩ := mod_pos (c / 3 * 7 ^ 64) (10 ^ 60) (by decide)
    exact ⟨.int (1 + c / 3 * 7 ^ 64 % 10 ^ 60), by simp [h0, h1, m], .inr ⟨_, rfl, small_pos (10 ^ 60 - 1) _ p1 p2 200 (by decide)⟩⟩
theorem wait_eq (c : Int) (sc : Sm B c) : ∃ n, f_law_wait [.int c] = .ok (.int n) ∧ 0 < n ∧ n ≤ 10 ^ 60 := by
  rw [r_law_wait]
  unfold g_law_wait
  have m := pow7 c 2 (by decide) sc (by decide)
  simp at m
  by_cases h0 : c % 2 = 0
  · obtain ⟨p1, p2⟩ := mod_pos (c / 2) 6 (by decide)
    exact ⟨1 + c / 2 % 6, by simp [h0], by omega, by omega⟩
  · obtain ⟨p1, p2⟩ := mod_pos (c / 2 * 7 ^ 64) (10 ^ 60) (by decide)
    exact ⟨1 + c / 2 * 7 ^ 64 % 10 ^ 60, by simp [h0, m], by omega, by omega⟩
theorem quiet_none (c : Int) : f_law_quiet [.int c, .non] = .ok (.int 0) := by
  rw [r_law_quiet]
  unfold g_law_quiet
  simp
theorem quiet_some (c n : Int) (sc : Sm B c) (hn : 0 < n) : ∃ q, f_law_quiet [.int c, .int n] = .ok (.int q) ∧ 0 ≤ q ∧ q ≤ n := by
  rw [r_law_quiet]
  unfold g_law_quiet
  have m := pow7 c 4 (by decide) sc (by decide)
  simp at m
  by_cases h0 : c % 2 = 0
  · exact ⟨0, by simp [h0], by omega, by omega⟩
  · obtain ⟨p1, p2⟩ := mod_pos (c / 4 * 7 ^ 64 % 10 ^ 60) n hn
    have h2 := Int.emod_two_eq (c / 2)
    rcases h2 with h2 | h2
    · exact ⟨n, by simp [h0, m, hn, h2, seqMax], by omega, by omega⟩
    · exact ⟨1 + c / 4 * 7 ^ 64 % 10 ^ 60 % n, by simp [h0, m, hn, h2, seqMax], by omega, by omega⟩
end Sh
/-! A turn of a hall. -/
namespace Sh
open PySem PySem.Spec PyProof.Rows L2 Dl
/-- a calm as data -/
def calmD : Option Int → D
  | none => .non
  | some c => .int c
def hallD (ws : List Int) (c : Option Int) : D := .tup [.tup (ws.map .int), calmD c]
def standD (ls : List Int) (q : Int) : D := .tup [.tup (ls.map .int), .int q]
@[simp] theorem calmD_re (t : Tg) (c : Option Int) : (calmD c).re t = calmD c := by cases c <;> rfl
@[simp] theorem calmD_vw (c : Option Int) : vwOf (calmD c) = calmD c := by cases c <;> rfl
@[simp] theorem calmD_tg (c : Option Int) : (calmD c).tg = .fz := by cases c <;> rfl
@[simp] theorem calmD_isN (c : Option Int) : (calmD c).isN = c.isNone := by cases c <;> rfl
@[simp] theorem calmD_pure (c : Option Int) : (calmD c).pure = true := by cases c <;> rfl
@[simp] theorem calmD_flat (c : Option Int) : (calmD c).flat = true := by cases c <;> rfl
def mayL (c : Option Int) (q : Int) : Bool := c.isSome && decide (q = 0)
theorem may_eq (ws ls : List Int) (c : Option Int) (q : Int) : f_may_lose [hallD ws c, standD ls q] = .ok (.bl (mayL c q)) := by
  rw [r_may_lose]
  unfold g_may_lose hallD standD mayL
  cases c <;> simp [calmD]
theorem asked_ok (ws ls : List Int) (c : Option Int) (q : Int) (who : Nat) (lost : Bool) (h : who < ws.length) (hl : lost = true → mayL c q = true) :
    f_asked_turn [hallD ws c, standD ls q, .int who, .bl lost] = .ok .non := by
  rw [r_asked_turn]
  unfold g_asked_turn
  have e := may_eq ws ls c q
  unfold hallD standD at *
  cases lost
  · simp -implicitDefEqProofs [show ¬ ((who : Int) < 0) by omega, show ¬ ((ws.length : Int) ≤ who) by omega]
  · simp -implicitDefEqProofs [show ¬ ((who : Int) < 0) by omega, show ¬ ((ws.length : Int) ≤ who) by omega, e, hl rfl]
/-- what is left behind a call -/
def leftB (ws ls : List Int) (who : Nat) (lost : Bool) : List Int := if lost then ls.map (· - 1) else (ls.map (· - 1)).set who (ws.getD who 0)
theorem left_eq (ws ls : List Int) (c : Option Int) (q : Int) (who : Nat) (lost : Bool) (h : who < ws.length) (hl : ls.length = ws.length) (h8 : ws.length ≤ 1000) :
    f_left_behind [hallD ws c, standD ls q, .int who, .bl lost] = .ok (.lst .ow ((leftB ws ls who lost).map .int)) := by
  rw [r_left_behind]
  unfold g_left_behind hallD standD
  have co := compD_map (t := gN 5) (tt := tYesD) (el := fB opSub (fV 5) (fC (.int 1))) (ρ := [some (.tup [.tup (ws.map .int), calmD c]), some (.tup [.tup (ls.map .int), .int q]), some (.int who), some (.bl lost), none, none]) (dec := D.int) (fun x : Int => .int (x - 1)) (xs := ls) (fun x _ => ⟨_, rfl, rfl, by simp, by simp⟩)
  have e : ls.map (fun x => (D.int (x - 1)).re .fz) = (ls.map (· - 1)).map D.int := by rw [List.map_map]; rfl
  rw [e] at co
  have ml : (ls.map (· - 1)).length = ls.length := List.length_map ..
  unfold leftB
  generalize ls.map (· - 1) = ms at *
  have sz : ms.length ≤ seqMax := by unfold seqMax; omega
  have i1 := idx_intsT ws who h
  have i2 := ixN_nat ms.length who (by omega)
  generalize ws.getD who 0 = w0 at *
  cases lost
  · simp -implicitDefEqProofs [co, sz, i1, i2, withL_def, List.map_set]
  · simp -implicitDefEqProofs [co, sz]
/-- what after tells -/
def aftD (ws ls : List Int) (c : Option Int) (q : Int) (who : Nat) (lost : Bool) : D :=
  if 0 ∈ leftB ws ls who lost then .non else .tup [.tup ((leftB ws ls who lost).map .int), if lost then calmD c else .int (if 0 > q - 1 then 0 else q - 1)]
theorem after_eq (ws ls : List Int) (c : Option Int) (q : Int) (who : Nat) (lost : Bool) (h : who < ws.length) (hl : ls.length = ws.length) (h8 : ws.length ≤ 1000) (hm : lost = true → mayL c q = true) :
    f_after [hallD ws c, standD ls q, .int who, .bl lost] = .ok (aftD ws ls c q who lost) := by
  rw [r_after]
  unfold g_after aftD
  have e1 := asked_ok ws ls c q who lost h hm
  have e2 := left_eq ws ls c q who lost h hl h8
  unfold hallD standD at *
  generalize leftB ws ls who lost = ms at *
  by_cases z : (0 : Int) ∈ ms
  · simp -implicitDefEqProofs [e1, e2, z]
  · cases lost
    · simp -implicitDefEqProofs [e1, e2, z]
    · simp -implicitDefEqProofs [e1, e2, z]
end Sh
namespace Sh
open PySem PySem.Spec PyProof.Rows L2 Dl
theorem upTo_map (n : Nat) : upTo 0 n = (List.range n).map fun i : Nat => D.int i := by
  unfold Dl.upTo; simp
noncomputable def gSums (a0 : Int) : DS := (sSeq (sSet 3 (fComp [4] (fRng rng1 (fCons (fV 1) fNil)) (gN 4) tYesD (fB opMul (fB opFdiv (fCallF f_law_cell_at (fCons (fV 0) (fCons (fC (.int 0)) fNil))) (fC (.int 8))) (fB opAdd (fV 4) (fV 2)))))
  (sSeq (sFor (gN 4) (fRng rng2 (fCons (fC (.int a0)) (fCons (fCall opLen (fCons (fV 0) fNil)) fNil)))
  ((sSeq (sSet 5 (fB opMod (fB opAdd (fV 4) (fB opMul (fB opFdiv (fV 4) (fV 1)) (fV 2))) (fV 1)))
  (sSetIx 3 (fV 5) (fB opAdd (fB opIdx (fV 3) (fV 5)) (fB opMul (fB opIdx (fV 0) (fV 4)) (fB opAdd (fB opMul (fV 4) (fV 4)) (fV 2))))))))
  (sRetV 3)))
theorem sums_gen (a0 : Nat) (ha0 : a0 ≤ 63) (ns : List Int) (hl : ns.length ≤ 63) (hb : ∀ z ∈ ns, Builtin.Int.intBits z ≤ 1048576) (m : Nat) (hm : 0 < m) (hm8 : m ≤ 8) (s : Int) (h0 : 0 ≤ s) (h2 : s ≤ 9) :
    Res.Ok (toRes (gSums a0 [some (.lst .fz (ns.map .int)), some (.int m), some (.int s), none, none, none])) fun d => ∃ zs : List Int, d = .lst .ow (zs.map .int) ∧ zs.length = m ∧ ∀ z ∈ zs, Sm B z := by
  unfold gSums
  obtain ⟨c0, e0, s0⟩ := cell_sm hb 0 (by omega)
  have f1 : fits62 (m : Int) := ⟨by omega, by omega⟩
  have f2 : fits62 (ns.length : Int) := ⟨by omega, by omega⟩
  have f3 : fits62 (a0 : Int) := ⟨by omega, by omega⟩
  simp -implicitDefEqProofs [f1]
  generalize hco : compD _ _ _ _ (upTo 0 m) = r
  obtain ⟨zs, e1, hzl, hz⟩ : ∃ zs : List Int, r = .ok (zs.map .int) ∧ zs.length = m ∧ ∀ n ∈ zs, Sm 1100010 n := by
    rw [← hco, upTo_map]
    obtain ⟨ws, a, b, c⟩ := compD_ints (t := gN 4) (tt := tYesD) (el := fB opMul (fB opFdiv (fCallF f_law_cell_at (fCons (fV 0) (fCons (fC (.int 0)) fNil))) (fC (.int 8))) (fB opAdd (fV 4) (fV 2))) (ρ := [some (.lst .fz (ns.map .int)), some (.int m), some (.int s), none, none, none]) (dec := fun i : Nat => D.int i) (xs := List.range m) (P := fun _ n => Sm 1100010 n) (fun k hk => by
      have k8 : k < 8 := by have := List.mem_range.mp hk; omega
      have q : Sm 5 ((k : Int) + s) := sm_pow (by omega) (by omega)
      exact ⟨_, _, rfl, rfl, by simp -implicitDefEqProofs [e0, mulOk_of (s0.div 8) q (by decide)], ((s0.div 8).mul q).mono (by decide)⟩)
    exact ⟨ws, a, by rw [b, List.length_range], all_of_at b c⟩
  subst e1
  simp -implicitDefEqProofs [show zs.length ≤ seqMax by unfold seqMax; omega, f2, f3]
  obtain ⟨A, hA⟩ : ∃ A : Nat, A = 1100050 := ⟨_, rfl⟩
  refine forD_ok (fun i ρ => ∃ (zs : List Int) (x4 x5 : Option D), ρ = [some (.lst .fz (ns.map .int)), some (.int m), some (.int s), some (.lst .ow (zs.map .int)), x4, x5] ∧ zs.length = m ∧ ∀ z ∈ zs, Sm (A + i) z) ⟨zs, _, _, rfl, hzl, fun z h => (hz z h).mono (by omega)⟩
    (fun i d ρ hd ⟨ms, x2, x3, h, hm, hlen⟩ => ?_) (fun ρ' ⟨ms, x2, x3, h, hm, hlen⟩ => by
      subst h
      refine Res.Ok.mk ⟨ms, rfl, hm, fun z h => (hlen z h).mono ?_⟩
      show A + _ ≤ 1300000
      unfold Dl.upTo
      rw [List.length_map, List.length_range]
      omega)
  subst h
  obtain ⟨hi, rfl⟩ := upTo_get hd
  obtain ⟨k, hk⟩ : ∃ k : Nat, (k : Int) = a0 + i := ⟨a0 + i, by omega⟩
  rw [← hk]
  have kl : k < ns.length := by omega
  obtain ⟨a, ha⟩ : ∃ a : Nat, (a : Int) = ((k : Int) + (k : Int) / m * s) % m := ⟨(((k : Int) + (k : Int) / m * s) % m).toNat, Int.toNat_of_nonneg (Int.emod_nonneg _ (by omega))⟩
  have am : a < m := by have := Int.emod_lt_of_pos ((k : Int) + (k : Int) / m * s) (show (0 : Int) < m by omega); omega
  have kd : (k : Int) / m ≤ k := Int.ediv_le_self _ (by omega)
  have kd0 : 0 ≤ (k : Int) / m := Int.ediv_nonneg (by omega) (by omega)
  have o1 : mulOk ((k : Int) / m) s = true := mulOk_of (n := 7) (m := 4) (sm_pow kd0 (by omega)) (sm_pow h0 (by omega)) (by decide)
  have kk : (k : Int) * k ≤ 63 * 63 := Int.mul_le_mul (by omega) (by omega) (by omega) (by omega)
  have kk0 : 0 ≤ (k : Int) * k := Int.mul_nonneg (by omega) (by omega)
  have o2 : mulOk (k : Int) k = true := mulOk_of (n := 7) (m := 7) (sm_pow (by omega) (by omega)) (sm_pow (by omega) (by omega)) (by decide)
  have s3 : Sm 13 ((k : Int) * k + s) := sm_pow (by omega) (by omega)
  have sc : Sm M (ns.getD k 0) := (sm_cells hb k).mono (by decide)
  have i1 := idx_ints .vw ms a (by omega)
  have i2 := idx_ints .fz ns k kl
  have i3 := ixN_nat ms.length a (by omega)
  generalize ns.getD k 0 = ck at *
  have sa : Sm (A + i) (ms.getD a 0) := hlen _ (by rw [List.getD_eq_getElem?_getD, List.getElem?_eq_getElem (show a < ms.length by omega)]; exact List.getElem_mem _)
  generalize ms.getD a 0 = ca at *
  refine ⟨_, [some (.lst .fz (ns.map .int)), some (.int m), some (.int s), some (.lst .ow ((ms.set a (ca + ck * ((k : Int) * k + s))).map .int)), some (.int k), some (.int a)], rfl, .inl ?_, ⟨_, _, _, rfl, by rw [List.length_set, hm], fun z hz => ?_⟩⟩
  · have m0 : (0 : Int) < m := by omega
    have m1 : (m : Int) < 1000000000000000000000000000000000000000000000000000000000000000000000 := Int.lt_trans (show (m : Int) < 100 by omega) (by decide)
    have fd := opFdiv_s (k : Int) m m0 m1
    have mpos : 0 < m := by omega
    simp -implicitDefEqProofs [fd, mpos, o1, o2, ← ha, i1, i2, i3, withL_def, mulOk_of sc s3 (by decide), List.map_set]
  · rcases List.mem_or_eq_of_mem_set hz with q | rfl
    · exact (hlen z q).mono (by omega)
    · exact (sa.add (sc.mul s3)).mono (by show max _ _ + 1 ≤ _; simp only [M]; omega)
end Sh
/-! Wheels of drawn rows. -/
namespace Sh
open PySem PySem.Spec PyProof.Rows L2 Dl
abbrev WRow : Type := Int × Int
def rowD (r : WRow) : D := .tup [.int r.1, .int r.2]
@[simp] theorem rowD_re (t : Tg) (r : WRow) : (rowD r).re t = rowD r := rfl
@[simp] theorem rowD_tg (r : WRow) : (rowD r).tg = .fz := rfl
@[simp] theorem rowD_vw (r : WRow) : vwOf (rowD r) = rowD r := rfl
@[simp] theorem rowD_0 (r : WRow) : opIdx (rowD r) (.int 0) = .ok (.int r.1) := by unfold rowD; simp
@[simp] theorem rowD_1 (r : WRow) : opIdx (rowD r) (.int 1) = .ok (.int r.2) := by unfold rowD; simp
@[simp] theorem rowD_pure (r : WRow) : (rowD r).pure = true := rfl
@[simp] theorem rowD_flat (r : WRow) : (rowD r).flat = true := rfl
@[simp] theorem rowD_isN (r : WRow) : (rowD r).isN = false := rfl
@[simp] theorem shp_row (n : Nat) (r : WRow) : (rowD r).shp (n + 1) = true := by unfold rowD; simp
@[simp] theorem deq_row (a b : WRow) : deq (rowD a) (rowD b) = decide (a = b) := by
  unfold rowD
  simp [Prod.ext_iff]
@[simp] theorem deqs_rows (l m : List WRow) : deqs (l.map rowD) (m.map rowD) = decide (l = m) := deqs_map deq_row l m
@[simp] theorem deqs_rows0 (l : List WRow) : deqs (l.map rowD) [] = decide (l = []) := deqs_rows l []
@[simp] theorem shps_rows (n : Nat) (l : List WRow) : (l.map rowD).all (D.shp (n + 1)) = true := by
  rw [List.all_eq_true]
  intro x hx
  obtain ⟨z, _, rfl⟩ := List.mem_map.mp hx
  simp
@[simp] theorem pures_rows (l : List WRow) : D.pure.pures (l.map rowD) = true := by
  induction l with
  | nil => rfl
  | cons a l ih => rw [List.map_cons, pures_cons, ih, rowD_pure]; rfl
theorem row_t (r : WRow) : rowD r = .tup [.int r.1, .int r.2] := rfl
def RowOk (r : WRow) : Prop := 0 < r.1 ∧ r.1 < 10 ^ 52 ∧ 0 ≤ r.2 ∧ r.2 < r.1
def Shr (a b : WRow) : Prop := (a.2 - b.2) % (Int.gcd a.1 b.1 : Int) = 0
instance (a b : WRow) : Decidable (Shr a b) := inferInstanceAs (Decidable (_ = _))
theorem idx_rows (t : Tg) (l : List WRow) (k : Nat) (h : k < l.length) : opIdx (.lst t (l.map rowD)) (.int k) = .ok (rowD l[k]) := by
  rw [idx_natL t (l.map rowD) k (by rw [List.length_map]; exact h)]
  simp
theorem share_eq (a b : WRow) (ha : RowOk a) (hb : RowOk b) : f_law_share [rowD a, rowD b] = .ok (.bl (decide (Shr a b))) := by
  rw [r_law_share]
  unfold g_law_share
  have g : 0 < (Int.gcd a.1 b.1 : Int) := (gcd_facts (a := a.1) hb.1).1
  have e := law_divisor_eq a.1 b.1 (by have := ha.1; omega) (by have := hb.1; omega)
  have n1 : ¬ a.1 = 0 := by have := ha.1; omega
  simp -implicitDefEqProofs [e, n1, Shr]
  congr
theorem big_eq' (c : Int) (h : Sm M c) : ∃ z, f_law_big [.int c] = .ok (.int z) ∧ 0 ≤ z ∧ z < 10 ^ 60 := by
  rw [r_law_big]
  unfold g_law_big
  have h2 : mulOk c 618033988749894848204586834365638117720309179805762862137 = true := mulOk_of h (show Sm 200 _ by unfold Sm; decide +kernel) (by decide)
  exact ⟨c * 618033988749894848204586834365638117720309179805762862137 % 10 ^ 60, by simp [h2], Int.emod_nonneg _ (by decide), Int.emod_lt_of_pos _ (by decide)⟩
theorem emod_le (z m : Int) (h0 : 0 ≤ z) (hm : 0 < m) : z % m ≤ z := by
  have e := Int.emod_add_mul_ediv z m
  have q := Int.mul_nonneg (Int.le_of_lt hm) (Int.ediv_nonneg h0 (Int.le_of_lt hm))
  omega
theorem mod3 (c : Int) : c % 3 = 0 ∨ c % 3 = 1 ∨ c % 3 = 2 := by omega
theorem mod4 (c : Int) : c % 4 = 0 ∨ c % 4 = 1 ∨ c % 4 = 2 ∨ c % 4 = 3 := by omega
theorem part_eq (c : Int) (sc : Sm M c) : ∃ p, f_law_part [.int c] = .ok (.int p) ∧ 1 ≤ p ∧ p ≤ 10 ^ 50 := by
  rw [r_law_part]
  unfold g_law_part
  obtain ⟨z, ez, z0, zs⟩ := big_eq (c / 3) (sc.div 3)
  rcases mod3 c with h | h | h
  · obtain ⟨p1, p2⟩ := mod_pos z 12 (by decide)
    exact ⟨1 + z % 12, by simp -implicitDefEqProofs [ez, h], by omega, by omega⟩
  · obtain ⟨p1, p2⟩ := mod_pos z (10 ^ 6) (by decide)
    exact ⟨1 + z % 10 ^ 6, by simp -implicitDefEqProofs [ez, h], by omega, by omega⟩
  · obtain ⟨p1, p2⟩ := mod_pos z (10 ^ 50) (by decide)
    exact ⟨1 + z % 10 ^ 50, by simp -implicitDefEqProofs [ez, h], by omega, by omega⟩
theorem row_eq (c p : Int) (sc : Sm M c) (p1 : 1 ≤ p) (p2 : p ≤ 10 ^ 50) : ∃ r, f_law_row [.int c, .int p] = .ok (rowD r) ∧ RowOk r := by
  rw [r_law_row]
  unfold g_law_row
  have m1 : mulOk c 48271 = true := mulOk_of sc (show Sm 20 48271 by unfold Sm; decide) (by decide)
  generalize hN : c * 48271 % 2147483647 = N
  obtain ⟨N1, N2⟩ := mod_pos (c * 48271) 2147483647 (by decide)
  rw [hN] at N1 N2
  obtain ⟨q1, q2⟩ := mod_pos N 7 (by decide)
  generalize hm : 1 + N % 7 = m at *
  have m0 : 0 < m := by omega
  obtain ⟨k1, k2⟩ := mod_pos (N / 7) m m0
  have mn : 0 < (if (30 : Int) < p then (30 : Int) else p) := by split <;> omega
  obtain ⟨l1, l2⟩ := mod_pos (N / 49) (if (30 : Int) < p then (30 : Int) else p) mn
  have mle : (if (30 : Int) < p then (30 : Int) else p) ≤ p := by split <;> omega
  have sp : Sm 200 p := sm_pow (by omega) (Int.le_trans p2 (by decide))
  have sm : Sm 10 m := sm_pow (by omega) (by omega)
  have sk : Sm 10 (N / 7 % m) := sm_pow (by omega) (by omega)
  refine ⟨(p * m, p * (N / 7 % m) + N / 49 % (if (30 : Int) < p then (30 : Int) else p)), by simp -implicitDefEqProofs [m1, hN, hm, mulOk_of sp sm (by decide), mulOk_of sp sk (by decide), m0, mn, rowD], ?_⟩
  have h1 : p * (N / 7 % m) ≤ p * (m - 1) := Int.mul_le_mul_of_nonneg_left (by omega) (by omega)
  have h2 : p * (m - 1) = p * m - p := by rw [Int.mul_sub, Int.mul_one]
  have h3 : p * m ≤ 10 ^ 50 * 7 := Int.mul_le_mul p2 (by omega) (by omega) (by decide)
  have h4 : 0 ≤ p * (N / 7 % m) := Int.mul_nonneg (by omega) k1
  exact ⟨Int.mul_pos (by omega) m0, by show p * m < _; omega, by show 0 ≤ _ + _; omega, by show p * _ + _ < p * m; omega⟩
theorem cut_mid (l : List D) (a b : Nat) (hab : a ≤ b) : Dl.cutD l (some (a : Int)) (some (b : Int)) = (l.drop a).take (b - a) := by
  unfold Dl.cutD
  rw [HT.sIx_nat, HT.sIx_nat]
  by_cases ha : a ≤ l.length
  · rw [Nat.min_eq_left ha]
    by_cases h : b ≤ l.length
    · rw [Nat.min_eq_left h]
    · rw [Nat.min_eq_right (by omega), List.take_of_length_le (by rw [List.length_drop]; omega), List.take_of_length_le (by rw [List.length_drop]; omega)]
  · rw [Nat.min_eq_right (by omega), Nat.min_eq_right (by omega), List.drop_of_length_le (Nat.le_refl _), List.drop_of_length_le (by omega), List.take_nil, List.take_nil]
theorem any_eq (t : Tg) (p : WRow → Bool) (l : List WRow) : any1 (.lst t (l.map fun r => .bl (p r))) = .ok (.bl (l.any p)) := by
  have e : l.map (fun r => D.bl (p r)) = (l.map p).map D.bl := by rw [List.map_map]; rfl
  rw [e, any1_l, List.any_map]
  rfl
structure Wh (n : Nat) (rs : List WRow) : Prop where
  ok : ∀ r ∈ rs, RowOk r
  len : rs.length ≤ n
  ap : rs.Pairwise fun a b => ¬ Shr b a
theorem wheel_eq (ns : List Int) (hl : ns.length ≤ 63) (hb : ∀ z ∈ ns, Builtin.Int.intBits z ≤ 1048576) :
    ∃ rs : List WRow, f_law_wheel [.lst .fz (ns.map .int)] = .ok (.lst .ow (rs.map rowD)) ∧ Wh 63 rs := by
  suffices h : Res.Ok (f_law_wheel [.lst .fz (ns.map .int)]) fun d => ∃ rs : List WRow, d = .lst .ow (rs.map rowD) ∧ Wh 63 rs from by
    obtain ⟨_, e, rs, rfl, w⟩ := h
    exact ⟨rs, e, w⟩
  rw [r_law_wheel]
  unfold g_law_wheel
  obtain ⟨c0, e0, s0⟩ := cell_sm hb 0 (by omega)
  obtain ⟨p, ep, p1, p2⟩ := part_eq c0 s0
  have cut : Dl.cutD (ns.map D.int) (some 1) (some 25) = ((ns.drop 1).take 24).map D.int := by
    rw [List.map_take, List.map_drop]
    exact cut_mid (ns.map D.int) 1 25 (by omega)
  simp -implicitDefEqProofs [e0, ep, cut, -List.map_take, -List.map_drop, -List.drop_one]
  refine forD_M (P := fun r => Res.Ok (toRes r) _) (fun i ρ => ∃ (rs : List WRow) (x3 x4 x5 : Option D), ρ = [some (.lst .fz (ns.map .int)), some (.int p), some (.lst .ow (rs.map rowD)), x3, x4, x5] ∧ Wh i rs)
    ⟨[], _, _, _, rfl, (fun r h => nomatch h), Nat.le_refl _, .nil⟩ (fun i c ρ hc ⟨rs, x3, x4, x5, h, h1⟩ => ?_) (fun ρ ⟨rs, x3, x4, x5, h, h1⟩ => ?_)
  · subst h
    have hm : c ∈ ns := List.mem_of_mem_drop (List.mem_of_mem_take (List.mem_of_getElem? hc))
    have sc : Sm M c := (sm_of_bits (hb c hm)).mono (by decide)
    obtain ⟨r, er, ok⟩ := row_eq c p sc p1 p2
    have il : i < 63 := by have := (List.getElem?_eq_some_iff.mp hc).1; rw [List.length_take, List.length_drop] at this; omega
    have ln := h1.len
    have co : ∀ x4 x5 : Option D, compD (gN 5) tYesD (fCallF f_law_share (fCons (fV 4) (fCons (fV 5) fNil))) [some (.lst .fz (ns.map .int)), some (.int p), x4, some (.int c), some (rowD r), x5] (rs.map rowD) = .ok (rs.map fun o => .bl (decide (Shr r o))) := fun x4 x5 =>
      compD_M (fun o => .bl (decide (Shr r o))) fun o ho => by simp -implicitDefEqProofs [share_eq r o ok (h1.ok o ho)]
    have sm : rs.length < seqMax := by unfold seqMax; omega
    simp -implicitDefEqProofs [er, co, any_eq, Nat.le_of_lt sm]
    by_cases c : (rs.any fun o => decide (Shr r o)) = true
    · simp -implicitDefEqProofs [c]
      exact ⟨rs, rfl, ⟨h1.ok, by omega, h1.ap⟩⟩
    · rw [Bool.not_eq_true] at c
      simp -implicitDefEqProofs [c, withL_def, sm]
      refine ⟨rs ++ [r], by simp, fun o ho => ?_, by rw [List.length_append, List.length_singleton]; omega, ?_⟩
      · rcases List.mem_append.mp ho with q | q
        · exact h1.ok o q
        · rw [List.mem_singleton.mp q]; exact ok
      · refine List.pairwise_append.mpr ⟨h1.ap, List.pairwise_singleton _ _, fun a ha b hb => ?_⟩
        rw [List.mem_singleton.mp hb]
        have := List.any_eq_false.mp c a ha
        simpa using this
  · subst h
    have ln := h1.len
    rw [List.length_take, List.length_drop] at ln
    simp -implicitDefEqProofs
    exact ⟨rs, rfl, ⟨h1.ok, by omega, h1.ap⟩⟩
theorem opEq_rows0 (t : Tg) (rs : List WRow) : opEq (.lst t (rs.map rowD)) (.lst .ow []) = .ok (.bl (decide (rs = []))) := by
  rw [opEq_p (by simp) (by simp)]
  simp
theorem max0 (z : Int) : 0 ≤ (if z > 0 then z else 0) := by split <;> omega
theorem sm_abs {z : Int} {n : Nat} (h : z.natAbs ≤ 2 ^ n) : Sm n z := by
  unfold Sm
  refine Nat.le_trans (log2_mono h) ?_
  rw [Nat.log2_two_pow]
  exact Nat.le_refl _
theorem turn_eq (c : Int) (sc : Sm M c) (rs : List WRow) (w : Wh 63 rs) : ∃ z, f_law_turn [.int c, .lst .fz (rs.map rowD)] = .ok (.int z) ∧ 0 ≤ z ∧ z ≤ 10 ^ 100 := by
  rw [r_law_turn]
  unfold g_law_turn
  obtain ⟨z, ez, z0, z1⟩ := big_eq' (c / 4) (sc.div 4)
  by_cases h3 : c % 4 = 3
  · exact ⟨z, by simp -implicitDefEqProofs [ez, h3], z0, by omega⟩
  by_cases hr : rs = []
  · have e0 := opEq_rows0 .fz rs
    rw [hr] at e0 ⊢
    exact ⟨z, by simp -implicitDefEqProofs [ez, h3] at e0 ⊢; simp -implicitDefEqProofs [e0], z0, by omega⟩
  have lp : 0 < rs.length := List.length_pos_iff.mpr hr
  obtain ⟨k, hk⟩ : ∃ k : Nat, (k : Int) = z % rs.length := ⟨(z % rs.length).toNat, Int.toNat_of_nonneg (Int.emod_nonneg _ (by omega))⟩
  have kl : k < rs.length := by have := Int.emod_lt_of_pos z (show (0 : Int) < rs.length by omega); omega
  obtain ⟨o1, o2, o3, o4⟩ := w.ok rs[k] (List.getElem_mem kl)
  have ix := idx_rows .fz rs k kl
  obtain ⟨q1, q2⟩ := mod_pos (z / 24) (10 ^ 30) (by decide)
  generalize rs[k] = r at *
  have mo : mulOk r.1 (z / 24 % 10 ^ 30) = true := mulOk_of (n := 200) (m := 100) (sm_pow (by omega) (Int.le_trans (Int.le_of_lt o2) (by decide))) (sm_pow (by omega) (Int.le_trans q2 (by decide))) (by decide)
  have b1 : r.1 * (z / 24 % 10 ^ 30) ≤ 10 ^ 52 * 10 ^ 30 := Int.mul_le_mul (by omega) (by omega) (by omega) (by decide)
  have b2 : 0 ≤ r.1 * (z / 24 % 10 ^ 30) := Int.mul_nonneg (by omega) q1
  simp at mo b1 b2
  rcases mod4 c with h | h | h | h
  all_goals first | exact absurd h h3 | skip
  all_goals simp -implicitDefEqProofs [ez, h, opEq_rows0, hr, lp, ← hk, ix, mo]
  all_goals
    generalize r.1 * (z / 24 % 1000000000000000000000000000000) = y at *
    refine ⟨?_, ?_⟩ <;> split <;> omega
/-- who is heard: the first whose turn it is -/
def hears (turn : Int) (r : WRow) : Bool := decide (turn % r.1 = r.2)
def heardAt (turn : Int) : List WRow → Nat → Option Nat
  | [], _ => none
  | r :: rs, k => if hears turn r = true then some k else heardAt turn rs (k + 1)
theorem heardAt_cons (turn : Int) (r : WRow) (rs : List WRow) (k : Nat) : heardAt turn (r :: rs) k = if hears turn r = true then some k else heardAt turn rs (k + 1) := rfl
def optD : Option Nat → D
  | none => .non
  | some k => .int k
theorem heardAt_spec (turn : Int) : ∀ (rs : List WRow) (k : Nat), match heardAt turn rs k with
    | none => ∀ r ∈ rs, hears turn r = false
    | some j => k ≤ j ∧ ∃ r, rs[j - k]? = some r ∧ hears turn r = true ∧ ∀ (i : Nat) q, i < j - k → rs[i]? = some q → hears turn q = false
  | [], k => fun r h => nomatch h
  | r :: rs, k => by
    unfold heardAt
    by_cases c : hears turn r = true
    · rw [if_pos c]
      exact ⟨Nat.le_refl _, r, by rw [Nat.sub_self]; rfl, c, fun i q h => by omega⟩
    · rw [if_neg c]
      have ih := heardAt_spec turn rs (k + 1)
      cases e : heardAt turn rs (k + 1) with
      | none =>
        rw [e] at ih
        intro q hq
        rcases List.mem_cons.mp hq with rfl | hq
        · simpa using c
        · exact ih q hq
      | some j =>
        rw [e] at ih
        obtain ⟨h1, q, h2, h3, h4⟩ := ih
        have ej : j - k = (j - (k + 1)) + 1 := by omega
        refine ⟨by omega, q, by rw [ej]; exact h2, h3, fun i y hi hy => ?_⟩
        cases i with
        | zero => cases hy; simpa using c
        | succ i => exact h4 i y (by omega) hy
theorem heard_eq (turn : Int) (rs : List WRow) (w : Wh 63 rs) : f_heard [.lst .fz (rs.map rowD), .int turn] = .ok (optD (heardAt turn rs 0)) := by
  obtain ⟨o, ho⟩ : ∃ o, heardAt turn rs 0 = o := ⟨_, rfl⟩
  rw [r_heard, ho]
  unfold g_heard
  have ft : fits62 (rs.length : Int) := by have := w.len; exact ⟨by omega, by omega⟩
  simp -implicitDefEqProofs [ft]
  rw [show upTo 0 rs.length = (List.range rs.length).map fun i : Nat => D.int i from by unfold Dl.upTo; simp]
  refine forD_M (P := fun r => toRes r = _) (fun i ρ => ∃ (x2 x3 x4 : Option D), ρ = [some (.lst .fz (rs.map rowD)), some (.int turn), x2, x3, x4] ∧ heardAt turn (rs.drop i) i = o) ⟨_, _, _, rfl, ho⟩ (fun i k ρ hk ⟨x2, x3, x4, h, h1⟩ => ?_) (fun ρ ⟨x2, x3, x4, h, h1⟩ => ?_)
  · subst h
    obtain ⟨hi, rfl⟩ : i < rs.length ∧ k = i := by
      obtain ⟨q1, q2⟩ := List.getElem?_eq_some_iff.mp hk
      simp at q1 q2
      exact ⟨q1, q2.symm⟩
    have ix := idx_rows .fz rs k hi
    obtain ⟨o1, o2, o3, o4⟩ := w.ok rs[k] (List.getElem_mem hi)
    rw [List.drop_eq_getElem_cons hi, heardAt_cons] at h1
    generalize rs[k] = r at *
    by_cases c : turn % r.1 = r.2
    · have c2 : hears turn r = true := decide_eq_true c
      rw [if_pos c2] at h1
      subst h1
      simp -implicitDefEqProofs [ix, row_t, o1, c, optD]
    · have c2 : ¬ hears turn r = true := fun z => c (of_decide_eq_true z)
      rw [if_neg c2] at h1
      simp -implicitDefEqProofs [ix, row_t, o1, c]
      exact h1
  · subst h
    rw [List.length_range, List.drop_length] at h1
    have h2 : o = none := h1.symm
    subst h2
    simp -implicitDefEqProofs [optD]
theorem row_of_eq (rs : List WRow) (k : Nat) (h : k < rs.length) : f_row_of [.lst .fz (rs.map rowD), .int k] = .ok (rowD rs[k]) := by
  rw [r_row_of]
  unfold g_row_of
  have ix := idx_rows .fz rs k h
  simp -implicitDefEqProofs [ix, show ¬ ((k : Int) < 0) by omega, show ¬ (rs.length ≤ k) by omega]
theorem row_of_no (rs : List WRow) (z : Int) (h : z < 0 ∨ (rs.length : Int) ≤ z) : f_row_of [.lst .fz (rs.map rowD), .int z] = .exc "NoListener" := by
  rw [r_row_of]
  unfold g_row_of
  by_cases c : z < 0
  · simp -implicitDefEqProofs [c]
  · simp -implicitDefEqProofs [c, show (rs.length : Int) ≤ z by omega]
theorem next_turn_eq (rs : List WRow) (w : Wh 63 rs) (k : Nat) (h : k < rs.length) (turn : Int) : f_next_turn [.lst .fz (rs.map rowD), .int k, .int turn] = .ok (.int (turn + (rs[k].2 - turn) % rs[k].1)) := by
  rw [r_next_turn]
  unfold g_next_turn
  obtain ⟨o1, _⟩ := w.ok rs[k] (List.getElem_mem h)
  simp -implicitDefEqProofs [row_of_eq rs k h, row_t, o1]
theorem next_turn_no (rs : List WRow) (z : Int) (h : z < 0 ∨ (rs.length : Int) ≤ z) (turn : Int) : f_next_turn [.lst .fz (rs.map rowD), .int z, .int turn] = .exc "NoListener" := by
  rw [r_next_turn]
  unfold g_next_turn
  simp -implicitDefEqProofs [row_of_no rs z h]
theorem called_times_eq (rs : List WRow) (w : Wh 63 rs) (k : Nat) (h : k < rs.length) (b e : Int) : f_called_times [.lst .fz (rs.map rowD), .int k, .int b, .int e] = .ok (.int ((e - rs[k].2 - 1) / rs[k].1 - (b - rs[k].2 - 1) / rs[k].1)) := by
  rw [r_called_times]
  unfold g_called_times
  obtain ⟨o1, o2, _⟩ := w.ok rs[k] (List.getElem_mem h)
  have o3 : rs[k].1 < 1000000000000000000000000000000000000000000000000000000000000000000000 := Int.lt_trans o2 (by decide)
  simp -implicitDefEqProofs [row_of_eq rs k h, row_t, opFdiv_s _ _ o1 o3]
theorem called_times_no (rs : List WRow) (z : Int) (h : z < 0 ∨ (rs.length : Int) ≤ z) (b e : Int) : f_called_times [.lst .fz (rs.map rowD), .int z, .int b, .int e] = .exc "NoListener" := by
  rw [r_called_times]
  unfold g_called_times
  simp -implicitDefEqProofs [row_of_no rs z h]
theorem who_eq (c : Int) (sc : Sm M c) (m : Nat) (hm : m ≤ 63) : ∃ z, f_law_who [.int c, .int m] = .ok (.int z) := by
  rw [r_law_who]
  unfold g_law_who
  obtain ⟨z, ez, z0, z1⟩ := big_eq' c sc
  have m1 : mulOk c 48271 = true := mulOk_of sc (show Sm 20 48271 by unfold Sm; decide) (by decide)
  generalize hN : c * 48271 % 2147483647 = N
  have mp : (0 : Int) < (m : Int) + 2 := by omega
  rcases (by omega : N / 26 % 2 = 0 ∨ N / 26 % 2 = 1) with h | h
  all_goals
    simp -implicitDefEqProofs [ez, m1, hN, mp, h]
    by_cases c1 : N % ((m : Int) + 2) - 1 < 0
    · simp -implicitDefEqProofs [c1]
    · by_cases c2 : N % ((m : Int) + 2) - 1 = m
      · simp -implicitDefEqProofs [c1, c2, show ¬ ((m : Int) < 0) by omega]
      · simp -implicitDefEqProofs [c1, c2]
theorem other_eq : f_law_other [.exn "NoListener"] = .ok (.bl false) := by
  rw [r_law_other]
  unfold g_law_other
  have e : ∀ x : Str, isiE errNames x (.exn "NoListener") = .ok (.bl (subE "NoListener" x)) := fun x => isiE_exn _ _ _ (by decide)
  simp -implicitDefEqProofs (decide := true) [e]
end Sh
/-! Halls: sums, lefts; one turn as a plain function. -/
namespace Sh
open PySem PySem.Spec PyProof.Rows L2 Dl
@[simp] theorem hallD_re (t : Tg) (ws : List Int) (c : Option Int) : (hallD ws c).re t = hallD ws c := rfl
@[simp] theorem hallD_vw (ws : List Int) (c : Option Int) : vwOf (hallD ws c) = hallD ws c := rfl
@[simp] theorem hallD_tg (ws : List Int) (c : Option Int) : (hallD ws c).tg = .fz := rfl
@[simp] theorem hallD_flat (ws : List Int) (c : Option Int) : (hallD ws c).flat = true := by unfold hallD; cases c <;> simp [calmD]
@[simp] theorem hallD_isN (ws : List Int) (c : Option Int) : (hallD ws c).isN = false := rfl
@[simp] theorem hallD_0 (ws : List Int) (c : Option Int) : opIdx (hallD ws c) (.int 0) = .ok (.tup (ws.map .int)) := by unfold hallD; simp
@[simp] theorem hallD_1 (ws : List Int) (c : Option Int) : opIdx (hallD ws c) (.int 1) = .ok (calmD c) := by unfold hallD; simp
@[simp] theorem standD_re (t : Tg) (ls : List Int) (q : Int) : (standD ls q).re t = standD ls q := rfl
@[simp] theorem standD_vw (ls : List Int) (q : Int) : vwOf (standD ls q) = standD ls q := rfl
@[simp] theorem standD_tg (ls : List Int) (q : Int) : (standD ls q).tg = .fz := rfl
@[simp] theorem standD_flat (ls : List Int) (q : Int) : (standD ls q).flat = true := by unfold standD; simp
@[simp] theorem standD_isN (ls : List Int) (q : Int) : (standD ls q).isN = false := rfl
@[simp] theorem standD_0 (ls : List Int) (q : Int) : opIdx (standD ls q) (.int 0) = .ok (.tup (ls.map .int)) := by unfold standD; simp
@[simp] theorem standD_1 (ls : List Int) (q : Int) : opIdx (standD ls q) (.int 1) = .ok (.int q) := by unfold standD; simp
@[simp] theorem standD_shp (n : Nat) (ls : List Int) (q : Int) : (standD ls q).shp (n + 2) = true := by unfold standD; simp
@[simp] theorem hallD_shp (n : Nat) (ws : List Int) (c : Option Int) : (hallD ws c).shp (n + 2) = true := by unfold hallD; cases c <;> simp [calmD]
@[simp] theorem standD_deq (l m : List Int) (p q : Int) : deq (standD l p) (standD m q) = (decide (l = m) && decide (p = q)) := by unfold standD; simp
@[simp] theorem standD_pure (ls : List Int) (q : Int) : (standD ls q).pure = true := by unfold standD; simp
@[simp] theorem hallD_pure (ws : List Int) (c : Option Int) : (hallD ws c).pure = true := by unfold hallD; cases c <;> simp [calmD]
theorem hallD_t (ws : List Int) (c : Option Int) : hallD ws c = .tup [.tup (ws.map .int), calmD c] := rfl
theorem standD_t (ls : List Int) (q : Int) : standD ls q = .tup [.tup (ls.map .int), .int q] := rfl
theorem lsums_eq (ns : List Int) (hl : ns.length ≤ 63) (hb : ∀ z ∈ ns, Builtin.Int.intBits z ≤ 1048576) (m : Nat) (hm : 0 < m) (hm8 : m ≤ 8) (s : Int) (h0 : 0 ≤ s) (h2 : s ≤ 9) :
    ∃ zs : List Int, f_law_sums [.lst .fz (ns.map .int), .int m, .int s] = .ok (.lst .ow (zs.map .int)) ∧ zs.length = m ∧ ∀ z ∈ zs, Sm B z := by
  obtain ⟨_, e, zs, rfl, q⟩ := sums_gen 4 (by omega) ns hl hb m hm hm8 s h0 h2
  exact ⟨zs, e, q⟩
theorem mapD_int {α : Type} (xs : List α) (f : α → Int) : (xs.map fun x => D.int (f x)) = (xs.map f).map D.int := by rw [List.map_map]; rfl
/-- a standing of a hall: as many lefts, each from 1 to its wait -/
structure StOk (ws ls : List Int) : Prop where
  len : ls.length = ws.length
  lo : ∀ z ∈ ls, 1 ≤ z
  wp : ∀ z ∈ ws, 1 ≤ z
  le : ∀ (i : Nat) l w, ls[i]? = some l → ws[i]? = some w → l ≤ w
def leftAt (ws ls : List Int) (who : Nat) (lost : Bool) (i : Nat) : Int := if i = who ∧ lost = false then ws.getD i 0 else ls.getD i 0 - 1
theorem leftB_len (ws ls : List Int) (who : Nat) (lost : Bool) : (leftB ws ls who lost).length = ls.length := by
  unfold leftB; split <;> simp
theorem leftB_at (ws ls : List Int) (who : Nat) (lost : Bool) (i : Nat) (h : i < ls.length) (hw : who < ws.length) : (leftB ws ls who lost)[i]? = some (leftAt ws ls who lost i) := by
  unfold leftB leftAt
  cases lost
  · by_cases c : i = who
    · subst c
      simp [h]
    · simp [c, h, Ne.symm c]
  · simp [h]
theorem zero_mem {ws ls : List Int} {who : Nat} {lost : Bool} (hw : who < ws.length) : 0 ∈ leftB ws ls who lost ↔ ∃ i, i < ls.length ∧ leftAt ws ls who lost i = 0 := by
  rw [List.mem_iff_getElem?]
  constructor
  · rintro ⟨i, hi⟩
    have il : i < ls.length := by have := (List.getElem?_eq_some_iff.mp hi).1; rw [leftB_len] at this; exact this
    rw [leftB_at ws ls who lost i il hw] at hi
    exact ⟨i, il, Option.some.inj hi⟩
  · rintro ⟨i, il, e⟩
    exact ⟨i, by rw [leftB_at ws ls who lost i il hw, e]⟩
/-- the standing behind a turn, none where somebody is broken -/
def aftO (ws ls : List Int) (c : Option Int) (q : Int) (who : Nat) (lost : Bool) : Option (List Int × Int) :=
  if 0 ∈ leftB ws ls who lost then none else some (leftB ws ls who lost, if lost then c.getD 0 else if 0 > q - 1 then 0 else q - 1)
def standO : Option (List Int × Int) → D
  | none => .non
  | some p => standD p.1 p.2
@[simp] theorem standO_re (t : Tg) (o : Option (List Int × Int)) : (standO o).re t = standO o := by cases o <;> rfl
@[simp] theorem standO_tg (o : Option (List Int × Int)) : (standO o).tg = .fz := by cases o <;> rfl
@[simp] theorem standO_vw (o : Option (List Int × Int)) : vwOf (standO o) = standO o := by cases o <;> rfl
@[simp] theorem standO_flat (o : Option (List Int × Int)) : (standO o).flat = true := by cases o with | none => rfl | some p => unfold standO standD; simp
@[simp] theorem standO_isN (o : Option (List Int × Int)) : (standO o).isN = o.isNone := by cases o <;> rfl
theorem aftO_eq (ws ls : List Int) (c : Option Int) (q : Int) (who : Nat) (lost : Bool) (h : who < ws.length) (hl : ls.length = ws.length) (h8 : ws.length ≤ 1000) (hm : lost = true → mayL c q = true) :
    f_after [hallD ws c, standD ls q, .int who, .bl lost] = .ok (standO (aftO ws ls c q who lost)) := by
  rw [after_eq ws ls c q who lost h hl h8 hm]
  unfold aftD aftO
  by_cases z : (0 : Int) ∈ leftB ws ls who lost
  · rw [if_pos z, if_pos z]; rfl
  · rw [if_neg z, if_neg z]
    cases lost
    · rfl
    · cases c with
      | none => exact absurd (hm rfl) (by simp [mayL])
      | some n => rfl
/-- those that are broken -/
def brkO (ws ls : List Int) (who : Nat) (lost : Bool) : List Int := ((List.range ls.length).filter fun i => decide (leftAt ws ls who lost i = 0)).map fun i : Nat => (i : Int)
theorem broken_eq (ws ls : List Int) (c : Option Int) (q : Int) (who : Nat) (lost : Bool) (h : who < ws.length) (hl : ls.length = ws.length) (h8 : ws.length ≤ 1000) (hm : lost = true → mayL c q = true) :
    f_broken_ones [hallD ws c, standD ls q, .int who, .bl lost] = .ok (.lst .ow ((brkO ws ls who lost).map .int)) := by
  rw [r_broken_ones]
  unfold g_broken_ones
  have e1 := asked_ok ws ls c q who lost h hm
  have e2 := left_eq ws ls c q who lost h hl h8
  have ln := leftB_len ws ls who lost
  have la := leftB_at ws ls who lost
  unfold brkO
  generalize leftB ws ls who lost = ms at *
  have ft : fits62 (ls.length : Int) := ⟨by omega, by omega⟩
  have co : ∀ (x5 : Option D), compD (gN 5) (tOf (fB opEq (fB opIdx (fV 4) (fV 5)) (fC (.int 0)))) (fV 5) [some (hallD ws c), some (standD ls q), some (.int who), some (.bl lost), some (.lst .ow (ms.map .int)), x5] ((List.range ls.length).map fun i : Nat => D.int i) =
      .ok (((List.range ls.length).filter fun i => decide (leftAt ws ls who lost i = 0)).map fun i : Nat => D.int i) := fun x5 =>
    compD_F _ _ fun i hi => by
      have il := List.mem_range.mp hi
      have ix := idx_ints .vw ms i (by omega)
      have a := la i il h
      rw [List.getD_eq_getElem?_getD, a] at ix
      by_cases z : leftAt ws ls who lost i = 0
      · simp -implicitDefEqProofs [ix, z]
      · simp -implicitDefEqProofs [ix, z]
  have sz : ((List.range ls.length).filter fun i => decide (leftAt ws ls who lost i = 0)).length ≤ seqMax := by
    have := List.length_filter_le (fun i => decide (leftAt ws ls who lost i = 0)) (List.range ls.length)
    rw [List.length_range] at this
    unfold seqMax
    omega
  unfold hallD standD at *
  simp -implicitDefEqProofs [e1, e2, ft, upTo_map, ln, co, sz]
theorem mod_two (c : Int) : c % 2 = 0 ∨ c % 2 = 1 := by omega
/-- a left: from 1 to its wait -/
def isLeft (w l : Int) : Prop := 1 ≤ l ∧ l ≤ w
theorem memD {l : List Int} {i : Nat} (h : i < l.length) : l.getD i 0 ∈ l := by
  rw [List.getD_eq_getElem?_getD, List.getElem?_eq_getElem h]
  exact List.getElem_mem _
theorem pairs_range (zs ws : List Int) (h : zs.length = ws.length) : pairs (zs.map .int) (ws.map .int) = (List.range zs.length).map fun i => .tup [.int (zs.getD i 0), .int (ws.getD i 0)] := by
  unfold pairs
  refine List.ext_getElem (by simp [h]) fun i h1 h2 => ?_
  rw [List.length_zipWith, List.length_map, List.length_map] at h1
  have a : i < zs.length := by omega
  have b : i < ws.length := by omega
  simp [a, b]
theorem lefts_eq (zs ws : List Int) (c : Int) (sc : Sm M c) (hz : ∀ z ∈ zs, Sm B z) (hl : zs.length = ws.length) (h0 : 0 < ws.length) (h8 : ws.length ≤ 8) (hw : ∀ w ∈ ws, 1 ≤ w) :
    ∃ ls : List Int, f_law_lefts [.lst .fz (zs.map .int), .tup (ws.map .int), .int c] = .ok (.tup (ls.map .int)) ∧ StOk ws ls := by
  suffices h : Res.Ok (f_law_lefts [.lst .fz (zs.map .int), .tup (ws.map .int), .int c]) fun d => ∃ ls : List Int, d = .tup (ls.map .int) ∧ StOk ws ls from by
    obtain ⟨_, e, ls, rfl, w⟩ := h
    exact ⟨ls, e, w⟩
  rw [r_law_lefts]
  unfold g_law_lefts
  simp -implicitDefEqProofs [-List.getD_eq_getElem?_getD, pairs_range zs ws hl]
  refine forD_M (P := fun r => Res.Ok (toRes r) _) (fun i ρ => ∃ (ls : List Int) (x4 x5 : Option D), ρ = [some (.lst .fz (zs.map .int)), some (.tup (ws.map .int)), some (.int c), some (.lst .ow (ls.map .int)), x4, x5] ∧ ls.length = i ∧ ∀ (j : Nat) l, ls[j]? = some l → isLeft (ws.getD j 0) l)
    ⟨[], _, _, rfl, rfl, fun j l h => nomatch h⟩ (fun i k ρ hk ⟨ls, x4, x5, h, h1, h2⟩ => ?_) (fun ρ ⟨ls, x4, x5, h, h1, h2⟩ => ?_)
  · subst h
    obtain ⟨hi, rfl⟩ : i < zs.length ∧ k = i := by
      obtain ⟨q1, q2⟩ := List.getElem?_eq_some_iff.mp hk
      simp at q1 q2
      exact ⟨q1, q2.symm⟩
    have w1 := hw _ (memD (l := ws) (i := k) (by omega))
    have sz := hz _ (memD (l := zs) (i := k) hi)
    have step : ∀ l, isLeft (ws.getD k 0) l → (ls ++ [l]).length = k + 1 ∧ ∀ (j : Nat) m, (ls ++ [l])[j]? = some m → isLeft (ws.getD j 0) m := fun l hl => by
      refine ⟨by rw [List.length_append, h1]; rfl, fun j m hj => ?_⟩
      by_cases c : j < ls.length
      · rw [List.getElem?_append_left c] at hj; exact h2 j m hj
      · rw [List.getElem?_append_right (by omega)] at hj
        cases e : j - ls.length with
        | zero => rw [e] at hj; cases hj; rw [show j = k by omega]; exact hl
        | succ n => rw [e] at hj; simp at hj
    have sm : ls.length < seqMax := by unfold seqMax; omega
    generalize ws.getD k 0 = w at *
    generalize zs.getD k 0 = z at *
    have p7 := pow7 z 3 (by decide) sz (by decide)
    have p8 := pow7 z 1 (by decide) sz (by decide)
    simp at p7 p8
    have fin : ∀ l, isLeft w l → ∃ ls', List.map D.int ls ++ [D.int l] = List.map D.int ls' ∧ ls'.length = k + 1 ∧ ∀ (j : Nat) m, ls'[j]? = some m → isLeft (ws.getD j 0) m := fun l hl => ⟨ls ++ [l], by simp, step l hl⟩
    by_cases c2 : c % 3 = 2
    · rcases mod3 z with q | q | q
      · have := fin 1 ⟨by omega, w1⟩
        simp -implicitDefEqProofs [-List.getD_eq_getElem?_getD, c2, q, p7, withL_def, sm, show 0 < w by omega]
        simpa -implicitDefEqProofs [-List.getD_eq_getElem?_getD] using this
      · have := fin w ⟨w1, by omega⟩
        simp -implicitDefEqProofs [-List.getD_eq_getElem?_getD, c2, q, p7, withL_def, sm, show 0 < w by omega]
        simpa -implicitDefEqProofs [-List.getD_eq_getElem?_getD] using this
      · obtain ⟨m1, m2⟩ := mod_pos (z / 3 * 7 ^ 64 % 10 ^ 60) w (by omega)
        have := fin (1 + z / 3 * 7 ^ 64 % 10 ^ 60 % w) ⟨by omega, by omega⟩
        simp -implicitDefEqProofs [-List.getD_eq_getElem?_getD, c2, q, p7, withL_def, sm, show 0 < w by omega]
        simpa -implicitDefEqProofs [-List.getD_eq_getElem?_getD] using this
    · obtain ⟨m1, m2⟩ := mod_pos (z * 7 ^ 64 % 10 ^ 60) ((w + 1) / 2) (by omega)
      have := fin (w - z * 7 ^ 64 % 10 ^ 60 % ((w + 1) / 2)) ⟨by omega, by omega⟩
      simp -implicitDefEqProofs [-List.getD_eq_getElem?_getD, c2, p8, withL_def, sm, show 0 < (w + 1) / 2 by omega]
      simpa -implicitDefEqProofs [-List.getD_eq_getElem?_getD] using this
  · subst h
    rw [List.length_range] at h1
    have go : ∀ ls : List Int, ls.length = zs.length → (∀ (j : Nat) l, ls[j]? = some l → isLeft (ws.getD j 0) l) → StOk ws ls := fun ls a b => by
      refine ⟨by omega, fun z hz => ?_, hw, fun i l w h3 h4 => ?_⟩
      · obtain ⟨j, hj⟩ := List.getElem?_of_mem hz
        exact (b j z hj).1
      · have := (b i l h3).2
        rw [List.getD_eq_getElem?_getD, h4] at this
        exact this
    by_cases c1 : c % 3 = 1
    · obtain ⟨j, hj⟩ : ∃ j : Nat, (j : Int) = c / 3 % ws.length := ⟨(c / 3 % ws.length).toNat, Int.toNat_of_nonneg (Int.emod_nonneg _ (by omega))⟩
      have jl : j < ws.length := by have := Int.emod_lt_of_pos (c / 3) (show (0 : Int) < ws.length by omega); omega
      have ixn := ixN_nat ls.length j (by omega)
      have gd := go (ls.set j 1) (by rw [List.length_set]; exact h1) fun i l hl => by
        by_cases e : j = i
        · subst e
          rw [List.getElem?_set_self (by omega)] at hl
          cases hl
          exact ⟨by omega, hw _ (memD jl)⟩
        · rw [List.getElem?_set_ne e] at hl
          exact h2 i l hl
      simp -implicitDefEqProofs [-List.getD_eq_getElem?_getD, c1, withL_def, h0, ← hj, ixn]
      exact ⟨ls.set j 1, by simp, gd⟩
    · simp -implicitDefEqProofs [-List.getD_eq_getElem?_getD, c1]
      exact ⟨ls, rfl, go ls h1 h2⟩
end Sh
namespace Sh
open PySem PySem.Spec PyProof.Rows L2 Dl
def hallGood (ws : List Int) (c : Option Int) : Prop := 1 ≤ ws.length ∧ ws.length ≤ 8 ∧ (∀ w ∈ ws, 1 ≤ w) ∧ ∀ n, c = some n → 1 ≤ n
theorem hall_of_ok (ws : List Int) (c : Option Int) (h : hallGood ws c) : f_hall_of [.lst .fz (ws.map .int), calmD c] = .ok (hallD ws c) := by
  rw [r_hall_of]
  unfold g_hall_of
  obtain ⟨h1, h2, h3, h4⟩ := h
  simp -implicitDefEqProofs [show ¬ (ws.length : Int) < 1 by omega, show ¬ (8 : Int) < ws.length by omega, show ¬ ws = [] by intro z; subst z; simp at h1]
  refine forD_M (P := fun r => toRes r = _) (fun i ρ => ∃ x2, ρ = [some (.lst .fz (ws.map .int)), some (calmD c), x2]) ⟨none, rfl⟩ (fun i z ρ hz ⟨x2, h0⟩ => ?_) (fun ρ ⟨x2, h0⟩ => ?_)
  · subst h0
    have := h3 z (List.mem_of_getElem? hz)
    simp -implicitDefEqProofs [show ¬ z < 1 by omega]
  · subst h0
    cases c with
    | none => simp -implicitDefEqProofs [calmD, hallD]
    | some n =>
      have := h4 n rfl
      simp -implicitDefEqProofs [calmD, hallD, show ¬ n < 1 by omega]
theorem hall_of_no (ws : List Int) (c : Option Int) (h : ¬ hallGood ws c) : f_hall_of [.lst .fz (ws.map .int), calmD c] = .exc "NoHall" := by
  rw [r_hall_of]
  unfold g_hall_of
  by_cases h1 : 1 ≤ ws.length
  · by_cases h2 : ws.length ≤ 8
    · simp -implicitDefEqProofs [show ¬ (ws.length : Int) < 1 by omega, show ¬ (8 : Int) < ws.length by omega, show ¬ ws = [] by intro z; subst z; simp at h1]
      refine forD_M (P := fun r => toRes r = _) (fun i ρ => (∃ x2, ρ = [some (.lst .fz (ws.map .int)), some (calmD c), x2]) ∧ ∀ w ∈ ws.take i, 1 ≤ w) ⟨⟨none, rfl⟩, fun w h => by simp at h⟩ (fun i z ρ hz ⟨⟨x2, h0⟩, hp⟩ => ?_) (fun ρ ⟨⟨x2, h0⟩, hp⟩ => ?_)
      · subst h0
        by_cases zz : z < 1
        · simp -implicitDefEqProofs [zz]
        · simp -implicitDefEqProofs [zz]
          intro w hw
          rw [List.take_add_one, hz] at hw
          rcases List.mem_append.mp hw with q | q
          · exact hp w q
          · have e : w = z := by simpa using q
            omega
      · subst h0
        rw [List.take_length] at hp
        cases c with
        | none => exact absurd ⟨h1, h2, hp, fun n z => nomatch z⟩ h
        | some n =>
          by_cases hn : n < 1
          · simp -implicitDefEqProofs [calmD, hn]
          · exact absurd ⟨h1, h2, hp, fun k z => by cases z; omega⟩ h
    · simp -implicitDefEqProofs [show ¬ (ws.length : Int) < 1 by omega, show (8 : Int) < ws.length by omega]
  · simp -implicitDefEqProofs [show (ws.length : Int) < 1 by omega]
theorem calmD_deq (a b : Option Int) : deq (calmD a) (calmD b) = decide (a = b) := by
  cases a <;> cases b <;> simp [calmD]
theorem calm_of {d : D} (h : Calm d) : ∃ c, d = calmD c ∧ ∀ n, c = some n → 1 ≤ n := by
  rcases h with rfl | ⟨n, rfl, n0, _⟩
  · exact ⟨none, rfl, fun n h => nomatch h⟩
  · exact ⟨some n, rfl, fun k h => by cases h; omega⟩
end Sh
/-! Doublings. -/
namespace Sh
open PySem PySem.Spec PyProof.Rows L2 Dl
def dbl (b w : Int) : Int := b * 2 ^ (w / b).natAbs.log2
theorem log2_two (k : Nat) : (2 : Int) ^ k = ((2 ^ k : Nat) : Int) := by rw [Int.natCast_pow]; rfl
theorem dbl_ok {b w : Int} (hb : 1 ≤ b) (hw : b ≤ w) : b ≤ dbl b w ∧ dbl b w ≤ w ∧ w < 2 * dbl b w ∧ dbl b w % b = 0 ∧ dbl b w / b = ((2 ^ (w / b).natAbs.log2 : Nat) : Int) := by
  unfold dbl
  have q1 : 1 ≤ w / b := (Int.le_ediv_iff_mul_le (by omega)).mpr (by omega)
  obtain ⟨n, hn⟩ := Int.eq_ofNat_of_zero_le (show 0 ≤ w / b by omega)
  rw [hn, Int.natAbs_natCast, log2_two]
  have n0 : n ≠ 0 := by omega
  have l1 : 2 ^ n.log2 ≤ n := Nat.log2_self_le n0
  have l2 : n < 2 ^ (n.log2 + 1) := (Nat.log2_lt n0).mp (by omega)
  rw [Nat.pow_succ] at l2
  have p1 : 1 ≤ 2 ^ n.log2 := Nat.pow_pos (by decide)
  generalize 2 ^ n.log2 = P at *
  have e1 := Int.mul_ediv_self_le (x := w) (k := b) (by omega)
  have e2 := Int.lt_mul_ediv_self_add (x := w) (k := b) (by omega)
  have a1 : b * 1 ≤ b * (P : Int) := Int.mul_le_mul_of_nonneg_left (by omega) (by omega)
  have a2 : b * (P : Int) ≤ b * (w / b) := Int.mul_le_mul_of_nonneg_left (by omega) (by omega)
  have a3 : b * (w / b + 1) ≤ b * (2 * (P : Int)) := Int.mul_le_mul_of_nonneg_left (by omega) (by omega)
  rw [Int.mul_add, Int.mul_one] at a3
  have a4 : b * (2 * (P : Int)) = 2 * (b * P) := by rw [← Int.mul_assoc, Int.mul_comm b 2, Int.mul_assoc]
  exact ⟨by omega, by omega, by omega, Int.mul_emod_right .., Int.mul_ediv_cancel_left _ (by omega)⟩
theorem band_pow (k : Nat) : Builtin.bitAnd ((2 ^ k : Nat) : Int) (((2 ^ k : Nat) : Int) - 1) = 0 := by
  have p1 : 1 ≤ 2 ^ k := Nat.pow_pos (by decide)
  rw [show ((2 ^ k : Nat) : Int) - 1 = ((2 ^ k - 1 : Nat) : Int) by omega, PySem.W.os_band, Nat.and_two_pow_sub_one_eq_mod, Nat.mod_self]
  rfl
theorem opShl_ok (i j : Int) (h0 : 0 ≤ j) (h1 : j ≤ 1000000) (h2 : i.natAbs.log2 < 1000000) : opShl (.int i) (.int j) = .ok (.int (i * 2 ^ j.toNat)) := by
  show (if 0 ≤ j ∧ j ≤ 1000000 ∧ i.natAbs.log2 < 1000000 then _ else _) = _
  rw [if_pos ⟨h0, h1, h2⟩]
theorem bits_pos {z : Int} (h : 1 ≤ z) : (Builtin.Int.intBits z : Int) - 1 = z.natAbs.log2 := by
  unfold Builtin.Int.intBits
  rw [if_neg (by simpa using (show z ≠ 0 by omega))]
  omega
theorem doubled_ok {n : Nat} (hn : n ≤ 8000) (ws : List Int) (b : Int) (hb : 1 ≤ b) (sb : Sm n b) (hw : ∀ w ∈ ws, b ≤ w ∧ Sm n w) (hl : ws.length ≤ 1000) :
    f_doubled [.lst .fz (ws.map .int), .int b] = .ok (.lst .ow ((ws.map (dbl b)).map .int)) := by
  rw [r_doubled]
  unfold g_doubled
  simp -implicitDefEqProofs [show ¬ (b < 1) by omega]
  refine forD_F (P := fun r => toRes r = _) (fun (acc : List Int) w => acc ++ [dbl b w]) (fun acc ρ => ∃ x3, ρ = [some (.lst .fz (ws.map .int)), some (.int b), some (.lst .ow (acc.map .int)), x3] ∧ True) (s0 := []) ⟨_, rfl, trivial⟩ (fun i w acc ρ hx hs ⟨x3, h0, _⟩ => ?_) (fun ρ ⟨x3, h0, _⟩ => ?_)
  · subst h0
    obtain ⟨w1, w2⟩ := hw w (List.mem_of_getElem? hx)
    have il := (List.getElem?_eq_some_iff.mp hx).1
    have al : acc.length = i := by
      have key : ∀ l : List Int, ∀ a : List Int, (l.foldl (fun (acc : List Int) w => acc ++ [dbl b w]) a).length = a.length + l.length := by
        intro l
        induction l with
        | nil => intro a; simp
        | cons x l ih => intro a; rw [List.foldl_cons, ih, List.length_append, List.length_cons]; simp; omega
      rw [hs, key, List.length_take]
      simp
      omega
    have sm : acc.length < seqMax := by unfold seqMax; omega
    have q1 : 1 ≤ w / b := (Int.le_ediv_iff_mul_le (by omega)).mpr (by omega)
    have lg : (w / b).natAbs.log2 ≤ n := (w2.div b)
    have sh := opShl_ok b ((w / b).natAbs.log2 : Nat) (by omega) (by omega) (by have : b.natAbs.log2 ≤ n := sb; omega)
    rw [Int.toNat_natCast] at sh
    have fd := fdiv_sm (a := w) (show 0 < b by omega) (sb.mono (by omega))
    simp -implicitDefEqProofs [show ¬ (w < b) by omega, fd, bits_pos q1, sh, withL_def, sm]
    rfl
  · subst h0
    have e : ws.foldl (fun (acc : List Int) w => acc ++ [dbl b w]) [] = ws.map (dbl b) := by
      have key : ∀ l : List Int, ∀ a : List Int, l.foldl (fun (acc : List Int) w => acc ++ [dbl b w]) a = a ++ l.map (dbl b) := by
        intro l
        induction l with
        | nil => intro a; simp
        | cons x l ih => intro a; rw [List.foldl_cons, ih]; simp
      rw [key]; rfl
    simp -implicitDefEqProofs [e]
theorem doubled_no {n : Nat} (hn : n ≤ 8000) (ws : List Int) (b : Int) (sb : Sm n b) (hw : ∀ w ∈ ws, Sm n w) (hl : ws.length ≤ 1000) (h : b < 1 ∨ ∃ w ∈ ws, w < b) :
    f_doubled [.lst .fz (ws.map .int), .int b] = .exc "NoWheel" := by
  rw [r_doubled]
  unfold g_doubled
  by_cases hb : b < 1
  · simp -implicitDefEqProofs [hb]
  · obtain ⟨w0, m0, l0⟩ := h.resolve_left hb
    simp -implicitDefEqProofs [hb]
    refine forD_M (P := fun r => toRes r = _) (fun i ρ => ∃ (acc : List Int) (x3 : Option D), ρ = [some (.lst .fz (ws.map .int)), some (.int b), some (.lst .ow (acc.map .int)), x3] ∧ acc.length = i ∧ ∀ w ∈ ws.take i, b ≤ w) ⟨[], _, rfl, rfl, fun w h => by simp at h⟩ (fun i w ρ hx ⟨acc, x3, h0, h1, h2⟩ => ?_) (fun ρ ⟨acc, x3, h0, h1, h2⟩ => ?_)
    · subst h0
      have il := (List.getElem?_eq_some_iff.mp hx).1
      have sm : acc.length < seqMax := by unfold seqMax; omega
      by_cases c : w < b
      · simp -implicitDefEqProofs [c]
      · have w2 := hw w (List.mem_of_getElem? hx)
        have q1 : 1 ≤ w / b := (Int.le_ediv_iff_mul_le (by omega)).mpr (by omega)
        have lg : (w / b).natAbs.log2 ≤ n := (w2.div b)
        have sh := opShl_ok b ((w / b).natAbs.log2 : Nat) (by omega) (by omega) (by have : b.natAbs.log2 ≤ n := sb; omega)
        rw [Int.toNat_natCast] at sh
        have fd := fdiv_sm (a := w) (show 0 < b by omega) (sb.mono (by omega))
        simp -implicitDefEqProofs [c, fd, bits_pos q1, sh, withL_def, sm]
        refine ⟨acc ++ [dbl b w], by simp [dbl], by rw [List.length_append, h1]; rfl, fun v hv => ?_⟩
        rw [List.take_add_one, hx] at hv
        rcases List.mem_append.mp hv with z | z
        · exact h2 v z
        · have e : v = w := by simpa using z
          omega
    · rw [List.take_length] at h2
      exact absurd (h2 w0 m0) (by omega)
end Sh
/-! Walks. -/
namespace Sh
open PySem PySem.Spec PyProof.Rows L2 Dl
theorem asked_who (ws ls : List Int) (c : Option Int) (q z : Int) (lost : Bool) (h : z < 0 ∨ (ws.length : Int) ≤ z) : f_asked_turn [hallD ws c, standD ls q, .int z, .bl lost] = .exc "NoListener" := by
  rw [r_asked_turn]
  unfold g_asked_turn
  by_cases c0 : z < 0
  · simp -implicitDefEqProofs [c0]
  · simp -implicitDefEqProofs [c0, show (ws.length : Int) ≤ z by omega]
theorem asked_loss (ws ls : List Int) (c : Option Int) (q : Int) (who : Nat) (h : who < ws.length) (hm : mayL c q = false) : f_asked_turn [hallD ws c, standD ls q, .int who, .bl true] = .exc "NoLoss" := by
  rw [r_asked_turn]
  unfold g_asked_turn
  have e := may_eq ws ls c q
  simp -implicitDefEqProofs [show ¬ ((who : Int) < 0) by omega, show ¬ (ws.length ≤ who) by omega, e, hm]
theorem exc_after {ws ls : List Int} {c : Option Int} {q z : Int} {lost : Bool} {x : Str} (h : f_asked_turn [hallD ws c, standD ls q, .int z, .bl lost] = .exc x) : f_after [hallD ws c, standD ls q, .int z, .bl lost] = .exc x := by
  rw [r_after]
  unfold g_after
  simp -implicitDefEqProofs [h]
theorem cut_tail (l : List D) (k : Nat) : Dl.cutD l (some (k : Int)) none = l.drop k := by
  unfold Dl.cutD
  rw [HT.sIx_none, HT.sIx_nat]
  by_cases h : k ≤ l.length
  · rw [Nat.min_eq_left h, List.take_of_length_le (by rw [List.length_drop]; omega)]
  · rw [Nat.min_eq_right (by omega), List.drop_eq_nil_of_le (Nat.le_refl _), List.drop_eq_nil_of_le (by omega), List.take_nil]
inductive WR where
  | go (p : List Int × Int)
  | brk (n : Nat)
  | no (e : Str)
/-- one turn of a walk -/
def wone (ws : List Int) (c : Option Int) (p : List Int × Int) (x : Int × Bool) : WR :=
  if x.1 < 0 ∨ (ws.length : Int) ≤ x.1 then .no "NoListener"
  else if x.2 = true ∧ mayL c p.2 = false then .no "NoLoss"
  else match aftO ws p.1 c p.2 x.1.toNat x.2 with
    | some p' => .go p'
    | none => .brk 0
def wrun (ws : List Int) (c : Option Int) : List Int × Int → List (Int × Bool) → Nat → WR
  | p, [], _ => .go p
  | p, x :: r, t => match wone ws c p x with
    | .go p' => wrun ws c p' r (t + 1)
    | .brk _ => .brk t
    | .no e => .no e
theorem wrun_cons (ws : List Int) (c : Option Int) (p : List Int × Int) (x : Int × Bool) (r : List (Int × Bool)) (t : Nat) : wrun ws c p (x :: r) t = match wone ws c p x with
    | .go p' => wrun ws c p' r (t + 1)
    | .brk _ => .brk t
    | .no e => .no e := rfl
theorem forD_nil' (t : DTg) (b : DS) (ρ : DEnv) : forD t b [] ρ = .next ρ := rfl
theorem forD_cons' (t : DTg) (b : DS) (d : D) (ds : List D) (ρ : DEnv) : forD t b (d :: ds) ρ = match inD' t b d ρ with
    | .next ρ2 => forD t b ds ρ2
    | .cont ρ2 => forD t b ds ρ2
    | .brk ρ2 => .next ρ2
    | r => r := by
  unfold inD'
  conv => lhs; unfold forD
  cases t d ρ <;> rfl
def WR.res (n : Nat) : WR → Res D
  | .go p => .ok (.tup [.int n, standD p.1 p.2])
  | .brk m => .ok (.tup [.int m, .non])
  | .no e => .exc e
theorem wrun_append (ws : List Int) (c : Option Int) (b : List (Int × Bool)) : ∀ (a : List (Int × Bool)) (p : List Int × Int) (t : Nat), wrun ws c p (a ++ b) t = match wrun ws c p a t with
    | .go p' => wrun ws c p' b (t + a.length)
    | o => o
  | [], p, t => rfl
  | x :: a, p, t => by
    rw [List.cons_append]
    rw [wrun_cons, wrun_cons]
    cases e : wone ws c p x with
    | go p' =>
      have := wrun_append ws c b a p' (t + 1)
      dsimp only
      rw [this, List.length_cons, show t + (a.length + 1) = t + 1 + a.length by omega]
    | brk n => rfl
    | no e => rfl
theorem aftO_len {ws ls : List Int} {c : Option Int} {q : Int} {who : Nat} {lost : Bool} {p : List Int × Int} (h : aftO ws ls c q who lost = some p) : p.1.length = ls.length := by
  unfold aftO at h
  by_cases z : (0 : Int) ∈ leftB ws ls who lost
  · rw [if_pos z] at h; cases h
  · rw [if_neg z] at h; cases h; exact leftB_len ..
theorem wone_eq (ws : List Int) (c : Option Int) (p : List Int × Int) (x : Int × Bool) (hl : p.1.length = ws.length) (h8 : ws.length ≤ 1000) : f_after [hallD ws c, standD p.1 p.2, .int x.1, .bl x.2] = match wone ws c p x with
    | .go p' => .ok (standD p'.1 p'.2)
    | .brk _ => .ok .non
    | .no e => .exc e := by
  unfold wone
  by_cases h1 : x.1 < 0 ∨ (ws.length : Int) ≤ x.1
  · rw [if_pos h1]
    exact exc_after (asked_who ws p.1 c p.2 x.1 x.2 h1)
  · rw [if_neg h1]
    obtain ⟨k, hk⟩ : ∃ k : Nat, x.1 = k := ⟨x.1.toNat, by omega⟩
    by_cases h2 : x.2 = true ∧ mayL c p.2 = false
    · rw [if_pos h2, hk, h2.1]
      exact exc_after (asked_loss ws p.1 c p.2 k (by omega) h2.2)
    · rw [if_neg h2, hk, aftO_eq ws p.1 c p.2 k x.2 (by omega) hl h8 (fun h => by
        cases e : mayL c p.2 with
        | true => rfl
        | false => exact absurd ⟨h, e⟩ h2)]
      rw [Int.toNat_natCast]
      cases aftO ws p.1 c p.2 k x.2 <;> rfl
theorem zip_calls (cs : List (Int × Bool)) : pairs (cs.map fun x => D.int x.1) (cs.map fun x => D.bl x.2) = cs.map fun x => D.tup [.int x.1, .bl x.2] := by
  unfold pairs
  induction cs with
  | nil => rfl
  | cons x r ih => simp [ih]
theorem walked_eq (ws : List Int) (c : Option Int) (p : List Int × Int) (cs : List (Int × Bool)) (hl : p.1.length = ws.length) (h8 : ws.length ≤ 1000) :
    f_walked [hallD ws c, standD p.1 p.2, .lst .fz (cs.map fun x => D.int x.1), .lst .fz (cs.map fun x => D.bl x.2)] = (wrun ws c p cs 0).res cs.length := by
  rw [r_walked]
  unfold g_walked
  have key : ∀ (cs : List (Int × Bool)) (k : Nat) (p : List Int × Int) (x5 x6 x7 a b : Option D), p.1.length = ws.length → toRes ((forD (gT (gs1 (gN 5) (gs1 (gN 6) gs0))) ((sSeq (sSet 7 (fCallF f_after (fCons (fV 0) (fCons (fV 1) (fCons (fV 5) (fCons (fV 6) fNil))))))
      (sSeq (sIf (tOf (fIsN (fV 7))) ((sRet (fTup (fCons (fV 4) (fCons (fC .non) fNil))))) sNext) (sSeq (sFrz 7 (sSet 1 (fV 7))) (sAug 4 opAdd (fC (.int 1)))))))
      (cs.map fun x => D.tup [.int x.1, .bl x.2]) [some (hallD ws c), some (standD p.1 p.2), a, b, some (.int k), x5, x6, x7]).seq (sFrz 1 (sRet (fTup (fCons (fV 4) (fCons (fV 1) fNil)))))) = (wrun ws c p cs k).res (k + cs.length) := fun cs => by
    induction cs with
    | nil =>
      intro k p x5 x6 x7 a b hp
      simp -implicitDefEqProofs [wrun, WR.res, forD_nil']
    | cons x r ih =>
      intro k p x5 x6 x7 a b hp
      have e := wone_eq ws c p x hp h8
      unfold wrun
      cases o : wone ws c p x with
      | go p' =>
        rw [o] at e
        have hp' : p'.1.length = ws.length := by
          unfold wone at o
          by_cases h1 : x.1 < 0 ∨ (ws.length : Int) ≤ x.1
          · rw [if_pos h1] at o; cases o
          · rw [if_neg h1] at o
            by_cases h2 : x.2 = true ∧ mayL c p.2 = false
            · rw [if_pos h2] at o; cases o
            · rw [if_neg h2] at o
              cases q : aftO ws p.1 c p.2 x.1.toNat x.2 with
              | none => rw [q] at o; cases o
              | some p2 => rw [q] at o; cases o; rw [aftO_len q]; exact hp
        have := ih (k + 1) p' (some (.int x.1)) (some (.bl x.2)) (some (standD p'.1 p'.2)) a b hp'
        simp -implicitDefEqProofs [e, forD_cons']
        rw [show k + (r.length + 1) = k + 1 + r.length by omega, ← this]
        rfl
      | brk n =>
        rw [o] at e
        simp -implicitDefEqProofs [e, WR.res, forD_cons']
      | no x =>
        rw [o] at e
        simp -implicitDefEqProofs [e, WR.res, forD_cons']
  have := key cs 0 p none none none (some (.lst .fz (cs.map fun x => D.int x.1))) (some (.lst .fz (cs.map fun x => D.bl x.2))) hl
  rw [Nat.zero_add, show ((0 : Nat) : Int) = 0 from rfl] at this
  simp -implicitDefEqProofs [zip_calls]
  rw [← this]
theorem ixD_mem {ns : List Int} {n : Int} (h : n ∈ ns) : ∃ j : Nat, j < ns.length ∧ ixD (.lst .ow (ns.map .int)) (.int n) = .ok (.int j) ∧ ixD (.lst .vw (ns.map .int)) (.int n) = .ok (.int j) ∧ ns[j]? = some n := by
  have : ∃ j, idxOf n ns = some j := by
    induction ns with
    | nil => cases h
    | cons m r ih =>
      unfold idxOf
      by_cases c : m = n
      · exact ⟨0, if_pos c⟩
      · rcases List.mem_cons.mp h with rfl | h
        · exact absurd rfl c
        · obtain ⟨j, e⟩ := ih h
          exact ⟨j + 1, by rw [if_neg c, e]; rfl⟩
  obtain ⟨j, e⟩ := this
  obtain ⟨e2, _⟩ := idxOf_spec n ns j e
  exact ⟨j, (List.getElem?_eq_some_iff.mp e2).1, by rw [ixD_l, e], by rw [ixD_l, e], e2⟩
theorem min1_ne {ns : List Int} (h : ns ≠ []) : ∃ m : Int, (∀ t, min1 (.lst t (ns.map .int)) = .ok (.int m)) ∧ m ∈ ns ∧ ∀ z ∈ ns, m ≤ z := by
  cases ns with
  | nil => exact absurd rfl h
  | cons n r => exact ⟨minI n r, fun t => min1_l t n r, minI_spec r n⟩
/-- the law's plan beside the walk -/
structure PI (ws : List Int) (c : Option Int) (p0 : List Int × Int) (lim : List Int) (to : Int) (cs : List (Int × Bool)) (due : Option Nat) : Prop where
  len : lim.length = ws.length
  go : due = none → ∃ ls q, wrun ws c p0 cs 0 = .go (ls, q) ∧ lim = ls.map (· + (cs.length : Int)) ∧ q = max 0 (to - cs.length) ∧ ∀ l ∈ ls, 1 ≤ l
  brk : ∀ n, due = some n → wrun ws c p0 cs 0 = .brk n
theorem wone_ok {ws : List Int} {c : Option Int} {p : List Int × Int} {who : Nat} {lost : Bool} (h : who < ws.length) (hm : lost = true → mayL c p.2 = true) : wone ws c p ((who : Int), lost) = match aftO ws p.1 c p.2 who lost with
    | some p' => .go p'
    | none => .brk 0 := by
  unfold wone
  rw [if_neg (by dsimp only; omega), if_neg (by dsimp only; rintro ⟨a, b⟩; rw [hm a] at b; cases b)]
  rfl
theorem PI.step {ws : List Int} {c : Option Int} {p0 : List Int × Int} {lim lim' : List Int} {to to' : Int} {cs : List (Int × Bool)} {due due' : Option Nat} (h : PI ws c p0 lim to cs due) (who : Nat) (lost : Bool) (hw : who < ws.length) (hp : ∀ w ∈ ws, 1 ≤ w)
    (hm : lost = true → ∃ n, c = some n ∧ 0 ≤ n ∧ to ≤ cs.length) (h1 : lim' = if lost = true then lim else lim.set who (cs.length + 1 + ws.getD who 0)) (h2 : to' = if lost = true then cs.length + 1 + c.getD 0 else to) (m : Int) (m1 : m ∈ lim') (m2 : ∀ z ∈ lim', m ≤ z)
    (h3 : due' = if due.isNone = true ∧ m ≤ cs.length + 1 then some cs.length else due) : PI ws c p0 lim' to' (cs ++ [((who : Int), lost)]) due' := by
  have hl := h.len
  have len : lim'.length = ws.length := by subst h1; cases lost <;> simp [hl]
  cases due with
  | some n =>
    rw [if_neg (by rintro ⟨a, _⟩; cases a)] at h3
    subst h3
    refine ⟨len, (by intro z; cases z), fun k hk => ?_⟩
    rw [wrun_append, h.brk n rfl]
    cases hk
    rfl
  | none =>
    obtain ⟨ls, q, e, rfl, rfl, l1⟩ := h.go rfl
    rw [List.length_map] at hl
    have ml : lost = true → mayL c (max 0 (to - cs.length)) = true := fun z => by
      obtain ⟨n, rfl, n0, hn⟩ := hm z
      simp [mayL]
      omega
    have o := wone_ok (p := (ls, max 0 (to - (cs.length : Int)))) hw ml
    have eq : lim' = (leftB ws ls who lost).map (· + ((cs.length : Int) + 1)) := by
      refine List.ext_getElem? fun i => ?_
      by_cases hi : i < ls.length
      · rw [h1, List.getElem?_map, leftB_at ws ls who lost i hi (by omega)]
        unfold leftAt
        cases lost with
        | true => simp [hi]; omega
        | false =>
          by_cases ci : i = who
          · subst ci; simp [hi]; omega
          · simp [hi, ci, Ne.symm ci]; omega
      · rw [List.getElem?_eq_none (by rw [len]; omega), List.getElem?_eq_none (by rw [List.length_map, leftB_len]; omega)]
    have brk : m ≤ cs.length + 1 ↔ 0 ∈ leftB ws ls who lost := by
      rw [eq] at m1 m2
      constructor
      · intro h3
        obtain ⟨m, hm1, rfl⟩ := List.mem_map.mp m1
        have : 0 ≤ m := by
          obtain ⟨i, hi⟩ := List.mem_iff_getElem?.mp hm1
          have il : i < ls.length := by have := (List.getElem?_eq_some_iff.mp hi).1; rw [leftB_len] at this; exact this
          rw [leftB_at ws ls who lost i il (by omega)] at hi
          cases hi
          unfold leftAt
          have := l1 _ (memD (l := ls) il)
          have := hp _ (memD (l := ws) (i := i) (by omega))
          split <;> omega
        rwa [show (0 : Int) = m by omega]
      · intro z
        have := m2 (0 + ((cs.length : Int) + 1)) (List.mem_map.mpr ⟨0, z, rfl⟩)
        omega
    by_cases z : (0 : Int) ∈ leftB ws ls who lost
    · rw [if_pos ⟨rfl, brk.mpr z⟩] at h3
      subst h3
      refine ⟨len, (by intro z; cases z), fun n hn => ?_⟩
      cases hn
      rw [wrun_append, e]
      dsimp only
      rw [wrun_cons, o]
      unfold aftO
      rw [if_pos z, Nat.zero_add]
    · rw [if_neg (by rintro ⟨_, h⟩; exact z (brk.mp h))] at h3
      subst h3
      refine ⟨len, fun _ => ⟨leftB ws ls who lost, max 0 (to' - (cs.length + 1 : Int)), ?_, ?_, ?_, ?_⟩, by intro n hn; cases hn⟩
      · rw [wrun_append, e]
        dsimp only
        rw [wrun_cons, o]
        unfold aftO
        rw [if_neg z]
        dsimp only
        show WR.go _ = _
        subst h2
        cases lost with
        | true =>
          obtain ⟨n, rfl, n0, hn⟩ := hm rfl
          simp
          omega
        | false =>
          simp
          split <;> omega
      · rw [eq, List.length_append]; rfl
      · rw [List.length_append]; rfl
      · intro l hl2
        obtain ⟨i, hi⟩ := List.mem_iff_getElem?.mp hl2
        have il : i < ls.length := by have := (List.getElem?_eq_some_iff.mp hi).1; rw [leftB_len] at this; exact this
        have : 0 ≤ l ∧ l ≠ 0 := by
          refine ⟨?_, fun h0 => z (by rw [← h0]; exact hl2)⟩
          rw [leftB_at ws ls who lost i il (by omega)] at hi
          cases hi
          unfold leftAt
          have := l1 _ (memD (l := ls) il)
          have := hp _ (memD (l := ws) (i := i) (by omega))
          split <;> omega
        omega
@[simp] theorem fIx_ap (fo fe : DE) (ρ : DEnv) : fIx fo fe ρ = (fo ρ).bind fun d => if d.isL = true then (fe ρ).bind fun b => ixD d b else .stuck := rfl
@[simp] theorem isL_lst (t : Tg) (ds : List D) : (D.lst t ds).isL = true := rfl
theorem to_of {P : SR → Prop} {g2 : DS} {I : DEnv → Prop} {r : SR} {ρ' : DEnv} (e : r = .next ρ') (h : I ρ') : SR.to r P g2 I := by rw [e]; exact h
def dueD : Option Nat → D
  | none => .non
  | some n => .tup [.int n, .non]
@[simp] theorem dueD_re (t : Tg) (c : Option Nat) : (dueD c).re t = dueD c := by cases c <;> rfl
@[simp] theorem dueD_vw (c : Option Nat) : vwOf (dueD c) = dueD c := by cases c <;> rfl
@[simp] theorem dueD_tg (c : Option Nat) : (dueD c).tg = .fz := by cases c <;> rfl
@[simp] theorem dueD_isN (c : Option Nat) : (dueD c).isN = c.isNone := by cases c <;> rfl
@[simp] theorem dueD_pure (c : Option Nat) : (dueD c).pure = true := by cases c <;> simp [dueD]
@[simp] theorem dueD_flat (c : Option Nat) : (dueD c).flat = true := by cases c <;> simp [dueD]
theorem PI.stepE {ws : List Int} {c : Option Int} {p0 : List Int × Int} {lim : List Int} {to : Int} {cs : List (Int × Bool)} {due : Option Nat} (h : PI ws c p0 lim to cs due) (who : Nat) (lost : Bool) (hw : who < ws.length) (hp : ∀ w ∈ ws, 1 ≤ w)
    (hm : lost = true → ∃ n, c = some n ∧ 0 ≤ n ∧ to ≤ cs.length) : ∃ due', PI ws c p0 (if lost = true then lim else lim.set who (cs.length + 1 + ws.getD who 0)) (if lost = true then cs.length + 1 + c.getD 0 else to) (cs ++ [((who : Int), lost)]) due' := by
  have len : (if lost = true then lim else lim.set who (cs.length + 1 + ws.getD who 0)).length = ws.length := by cases lost <;> simp [h.len]
  obtain ⟨m, _, m1, m2⟩ := min1_ne (ns := if lost = true then lim else lim.set who (cs.length + 1 + ws.getD who 0)) (by intro z; rw [z] at len; simp at len; omega)
  exact ⟨_, h.step who lost hw hp hm rfl rfl m m1 m2 rfl⟩
theorem PI.noNo {ws : List Int} {c : Option Int} {p0 : List Int × Int} {lim : List Int} {to : Int} {cs : List (Int × Bool)} {due : Option Nat} (h : PI ws c p0 lim to cs due) (e : Str) : wrun ws c p0 cs 0 ≠ .no e := by
  cases due with
  | none => obtain ⟨ls, q, e2, _⟩ := h.go rfl; rw [e2]; intro z; cases z
  | some n => rw [h.brk n rfl]; intro z; cases z
def WR.sh (k : Nat) : WR → WR
  | .brk n => .brk (n + k)
  | o => o
theorem wrun_shift (ws : List Int) (c : Option Int) (k : Nat) : ∀ (b : List (Int × Bool)) (p : List Int × Int) (t : Nat), wrun ws c p b (t + k) = (wrun ws c p b t).sh k
  | [], p, t => rfl
  | x :: b, p, t => by
    rw [wrun_cons, wrun_cons]
    cases wone ws c p x with
    | go p' =>
      have := wrun_shift ws c k b p' (t + 1)
      dsimp only
      rw [← this, show t + 1 + k = t + k + 1 by omega]
    | brk n => rfl
    | no e => rfl
theorem wrun_lt (ws : List Int) (c : Option Int) : ∀ (b : List (Int × Bool)) (p : List Int × Int) (t n : Nat), wrun ws c p b t = .brk n → n < t + b.length
  | [], p, t, n, h => by cases h
  | x :: b, p, t, n, h => by
    rw [wrun_cons] at h
    cases o : wone ws c p x with
    | go p' => rw [o] at h; have := wrun_lt ws c b p' (t + 1) n h; rw [List.length_cons]; omega
    | brk m => rw [o] at h; cases h; rw [List.length_cons]; omega
    | no e => rw [o] at h; cases h
theorem wone_len {ws : List Int} {c : Option Int} {p p' : List Int × Int} {x : Int × Bool} (h : wone ws c p x = .go p') : p'.1.length = p.1.length := by
  unfold wone at h
  by_cases h1 : x.1 < 0 ∨ (ws.length : Int) ≤ x.1
  · rw [if_pos h1] at h; cases h
  · rw [if_neg h1] at h
    by_cases h2 : x.2 = true ∧ mayL c p.2 = false
    · rw [if_pos h2] at h; cases h
    · rw [if_neg h2] at h
      cases q : aftO ws p.1 c p.2 x.1.toNat x.2 with
      | none => rw [q] at h; cases h
      | some p2 => rw [q] at h; cases h; exact aftO_len q
theorem wrun_len (ws : List Int) (c : Option Int) : ∀ (b : List (Int × Bool)) (p p' : List Int × Int) (t : Nat), wrun ws c p b t = .go p' → p'.1.length = p.1.length
  | [], p, p', t, h => by cases h; rfl
  | x :: b, p, p', t, h => by
    rw [wrun_cons] at h
    cases o : wone ws c p x with
    | go p2 => rw [o] at h; rw [wrun_len ws c b p2 p' (t + 1) h, wone_len o]
    | brk m => rw [o] at h; cases h
    | no e => rw [o] at h; cases h
theorem deqs_selfB : ∀ l : List (Int × Bool), deqs (l.map fun x => D.bl x.2) (l.map fun x => D.bl x.2) = true := fun l => by induction l with | nil => rfl | cons a l ih => rw [List.map_cons, deqs_cc, ih]; simp
theorem deqs_selfI : ∀ l : List (Int × Bool), deqs (l.map fun x => D.int x.1) (l.map fun x => D.int x.1) = true := fun l => by induction l with | nil => rfl | cons a l ih => rw [List.map_cons, deqs_cc, ih]; simp
theorem shps_B : ∀ (n : Nat) (l : List (Int × Bool)), ((l.map fun x => D.bl x.2).all (D.shp n)) = true := fun n l => by induction l with | nil => rfl | cons a l ih => rw [List.map_cons, List.all_cons, ih]; simp
theorem shps_I : ∀ (n : Nat) (l : List (Int × Bool)), ((l.map fun x => D.int x.1).all (D.shp n)) = true := fun n l => by induction l with | nil => rfl | cons a l ih => rw [List.map_cons, List.all_cons, ih]; simp
end Sh
/-! Standings of a hall, their ranks. -/
namespace Sh
open PySem PySem.Spec PyProof.Rows L2 Dl
def prodI (ws : List Int) : Int := ws.foldl (· * ·) 1
theorem prodI_snoc (l : List Int) (a : Int) : prodI (l ++ [a]) = prodI l * a := by unfold prodI; rw [List.foldl_append]; rfl
theorem prodI_pos (ws : List Int) : (∀ w ∈ ws, 1 ≤ w) → 1 ≤ prodI ws := by
  induction ws using snoc_ind with
  | h0 => intro _; decide
  | h1 l a ih =>
    intro h
    rw [prodI_snoc]
    have h1 := ih fun w hw => h w (List.mem_append_left _ hw)
    have h2 := h a (by simp)
    have := Int.mul_le_mul h1 h2 (by omega) (by omega)
    omega
theorem prodI_sm (b : Nat) (ws : List Int) : (∀ w ∈ ws, Sm b w) → Sm ((b + 1) * ws.length + 1) (prodI ws) := by
  induction ws using snoc_ind with
  | h0 => intro _; exact (show Sm 0 1 by unfold Sm; decide).mono (by omega)
  | h1 l a ih =>
    intro h
    rw [prodI_snoc, List.length_append]
    have h1 := ih fun w hw => h w (List.mem_append_left _ hw)
    exact (h1.mul (h a (by simp))).mono (by simp [Nat.mul_add]; omega)
theorem prodI_le (l m : List Int) (h : ∀ w ∈ l ++ m, 1 ≤ w) : prodI l ≤ prodI (l ++ m) := by
  induction m using snoc_ind generalizing l with
  | h0 => simp
  | h1 m a ih =>
    rw [← List.append_assoc, prodI_snoc]
    have h1 := ih l fun w hw => h w (by rw [← List.append_assoc]; exact List.mem_append_left _ hw)
    have h2 := h a (by simp)
    have h3 := prodI_pos (l ++ m) fun w hw => h w (by rw [← List.append_assoc]; exact List.mem_append_left _ hw)
    have := Int.mul_le_mul_of_nonneg_left h2 (show 0 ≤ prodI (l ++ m) by omega)
    omega
def manyI (ws : List Int) (c : Option Int) : Int := match c with
  | none => prodI ws
  | some n => prodI ws * (n + 1)
theorem how_many_eq (ws : List Int) (c : Option Int) (b : Nat) (hw : ∀ w ∈ ws, Sm b w) (hb : (b + 1) * ws.length + 1 ≤ 9000) (hb2 : b ≤ 9000) (hc : ∀ n, c = some n → Sm b n) : f_how_many [hallD ws c] = .ok (.int (manyI ws c)) := by
  rw [r_how_many]
  unfold g_how_many
  simp -implicitDefEqProofs
  refine forD_F (P := fun r => toRes r = _) (s0 := (1 : Int)) (· * ·) (fun s ρ => ∃ x2, ρ = [some (hallD ws c), some (.int s), x2]) ⟨none, rfl⟩ (fun i w s ρ hk hs ⟨x2, h0⟩ => ?_) (fun ρ ⟨x2, h0⟩ => ?_)
  · subst h0
    have ok : mulOk s w = true := by
      have h1 : Sm ((b + 1) * (ws.take i).length + 1) s := by rw [hs]; exact prodI_sm b _ fun z hz => hw z (List.mem_of_mem_take hz)
      refine mulOk_of (h1.mono (m := 9000) ?_) (hw w (List.mem_of_getElem? hk)) (by omega)
      have : (ws.take i).length ≤ ws.length := by rw [List.length_take]; omega
      have := Nat.mul_le_mul_left (b + 1) this
      omega
    simp -implicitDefEqProofs [ok]
  · subst h0
    cases c with
    | none => simp -implicitDefEqProofs [calmD, manyI, prodI]
    | some n =>
      have ok : mulOk (ws.foldl (· * ·) 1) (n + 1) = true := by
        have h1 : Sm ((b + 1) * ws.length + 1) (prodI ws) := prodI_sm b ws hw
        have h2 : Sm (max b 1 + 1) (n + 1) := (hc n rfl).add (by show Sm 1 1; unfold Sm; decide)
        exact mulOk_of (show Sm _ (ws.foldl (· * ·) 1) from h1) h2 (by omega)
      simp -implicitDefEqProofs [calmD, manyI, prodI, ok]
/-! ### all standings -/
def addL (ls : List (List Int)) (w : Int) : List (List Int) := ls.flatMap fun l => (List.range w.toNat).map fun i : Nat => l ++ [(i : Int) + 1]
def allL (ws : List Int) : List (List Int) := ws.foldl addL [[]]
theorem allL_snoc (l : List Int) (a : Int) : allL (l ++ [a]) = addL (allL l) a := by unfold allL; rw [List.foldl_append]; rfl
def allS (ws : List Int) (c : Option Int) : List (List Int × Int) := (allL ws).flatMap fun l => (List.range (c.getD 0 + 1).toNat).map fun i : Nat => (l, (i : Int))
theorem addL_len (ls : List (List Int)) (w : Int) : (addL ls w).length = ls.length * w.toNat := by
  unfold addL
  induction ls with
  | nil => simp
  | cons a ls ih => rw [List.flatMap_cons, List.length_append, ih, List.length_map, List.length_range, List.length_cons, Nat.succ_mul]; omega
theorem allL_len (ws : List Int) : (∀ w ∈ ws, 1 ≤ w) → ((allL ws).length : Int) = prodI ws := by
  induction ws using snoc_ind with
  | h0 => intro _; rfl
  | h1 l a ih =>
    intro h
    have h2 := h a (by simp)
    rw [allL_snoc, addL_len, prodI_snoc, ← ih fun w hw => h w (List.mem_append_left _ hw), Int.natCast_mul, Int.toNat_of_nonneg (by omega)]
/-- a left of a hall's standing -/
def LeftOk (ws ls : List Int) : Prop := ls.length = ws.length ∧ ∀ i, i < ws.length → 1 ≤ ls.getD i 0 ∧ ls.getD i 0 ≤ ws.getD i 0
theorem getD_snoc (l : List Int) (a : Int) (i : Nat) : (l ++ [a]).getD i 0 = if i < l.length then l.getD i 0 else if i = l.length then a else 0 := by
  rw [List.getD_eq_getElem?_getD]
  by_cases c : i < l.length
  · rw [if_pos c, List.getElem?_append_left c, List.getD_eq_getElem?_getD]
  · rw [if_neg c, List.getElem?_append_right (by omega)]
    by_cases d : i = l.length
    · rw [if_pos d, d, Nat.sub_self]; rfl
    · rw [if_neg d, List.getElem?_eq_none (by simp; omega)]; rfl
theorem snoc_of_len {l : List Int} {n : Nat} (h : l.length = n + 1) : ∃ m a, l = m ++ [a] ∧ m.length = n := by
  refine ⟨l.dropLast, l.getLast (by intro z; rw [z] at h; cases h), (List.dropLast_concat_getLast _).symm, by rw [List.length_dropLast]; omega⟩
theorem mem_allL (ws : List Int) : ∀ ls, ls ∈ allL ws ↔ LeftOk ws ls := by
  induction ws using snoc_ind with
  | h0 =>
    intro ls
    show ls ∈ [[]] ↔ _
    constructor
    · intro h
      cases List.mem_singleton.mp h
      exact ⟨rfl, fun i hi => by simp at hi⟩
    · rintro ⟨h, _⟩
      rw [List.length_eq_zero_iff.mp h]
      exact List.mem_cons_self ..
  | h1 l a ih =>
    intro ls
    rw [allL_snoc]
    unfold addL
    constructor
    · intro h
      obtain ⟨m, hm, h2⟩ := List.mem_flatMap.mp h
      obtain ⟨i, hi, rfl⟩ := List.mem_map.mp h2
      obtain ⟨m1, m2⟩ := (ih m).mp hm
      have hi := List.mem_range.mp hi
      refine ⟨by simp [m1], fun j hj => ?_⟩
      rw [getD_snoc, getD_snoc, m1]
      by_cases c : j < l.length
      · rw [if_pos c, if_pos c]; exact m2 j c
      · have e : j = l.length := by simp at hj; omega
        rw [if_neg c, if_neg c, if_pos e, if_pos e]
        omega
    · rintro ⟨h1, h2⟩
      obtain ⟨m, b, rfl, hm⟩ := snoc_of_len (n := l.length) (by rw [h1]; simp)
      refine List.mem_flatMap.mpr ⟨m, (ih m).mpr ⟨hm, fun i hi => ?_⟩, List.mem_map.mpr ⟨(b - 1).toNat, ?_, ?_⟩⟩
      · have := h2 i (by simp; omega)
        rw [getD_snoc, getD_snoc, if_pos (by omega), if_pos hi] at this
        exact this
      · have := h2 l.length (by simp)
        simp only [getD_snoc, hm, Nat.lt_irrefl, if_false, if_true] at this
        exact List.mem_range.mpr (by omega)
      · have := h2 l.length (by simp)
        simp only [getD_snoc, hm, Nat.lt_irrefl, if_false, if_true] at this
        rw [Int.toNat_of_nonneg (by omega), Int.sub_add_cancel]
theorem nodup_flatMap {α β : Type} {f : α → List β} : ∀ {ls : List α}, ls.Nodup → (∀ a ∈ ls, (f a).Nodup) → (∀ a b x, x ∈ f a → x ∈ f b → a = b) → (ls.flatMap f).Nodup
  | [], _, _, _ => List.nodup_nil
  | a :: ls, h, h1, h2 => by
    rw [List.flatMap_cons, List.nodup_append]
    obtain ⟨n1, n2⟩ := List.nodup_cons.mp h
    refine ⟨h1 a (List.mem_cons_self ..), nodup_flatMap n2 (fun b hb => h1 b (List.mem_cons_of_mem _ hb)) h2, fun x hx y hy e => ?_⟩
    subst e
    obtain ⟨b, hb, hxb⟩ := List.mem_flatMap.mp hy
    rw [h2 a b x hx hxb] at n1
    exact n1 hb
theorem nodup_rangeMap {α : Type} (n : Nat) (f : Nat → α) (h : ∀ i j, f i = f j → i = j) : ((List.range n).map f).Nodup := by
  exact List.pairwise_map.mpr ((List.nodup_range (n := n)).imp fun hn e => hn (h _ _ e))
theorem allL_nodup (ws : List Int) : (allL ws).Nodup := by
  induction ws using snoc_ind with
  | h0 => show ([[]] : List (List Int)).Nodup; simp
  | h1 l a ih =>
    rw [allL_snoc]
    unfold addL
    refine nodup_flatMap ih (fun m _ => nodup_rangeMap _ _ fun i j e => ?_) fun m n x h1 h2 => ?_
    · have := List.append_cancel_left e
      have := (List.cons.inj this).1
      omega
    · obtain ⟨i, _, rfl⟩ := List.mem_map.mp h1
      obtain ⟨j, _, e⟩ := List.mem_map.mp h2
      exact (List.append_inj' e rfl).1.symm
/-- a standing of a hall -/
def IsS (ws : List Int) (c : Option Int) (p : List Int × Int) : Prop := LeftOk ws p.1 ∧ 0 ≤ p.2 ∧ p.2 ≤ c.getD 0
theorem mem_allS (ws : List Int) (c : Option Int) (hc : ∀ n, c = some n → 1 ≤ n) (p : List Int × Int) : p ∈ allS ws c ↔ IsS ws c p := by
  have c0 : 0 ≤ c.getD 0 := by cases c with | none => simp | some n => have := hc n rfl; simp; omega
  unfold allS IsS
  rw [List.mem_flatMap]
  constructor
  · rintro ⟨l, hl, h⟩
    obtain ⟨i, hi, rfl⟩ := List.mem_map.mp h
    have := List.mem_range.mp hi
    exact ⟨(mem_allL ws l).mp hl, by omega, by dsimp only; omega⟩
  · rintro ⟨h1, h2, h3⟩
    exact ⟨p.1, (mem_allL ws p.1).mpr h1, List.mem_map.mpr ⟨p.2.toNat, List.mem_range.mpr (by omega), by rw [Int.toNat_of_nonneg h2]⟩⟩
theorem allS_nodup (ws : List Int) (c : Option Int) : (allS ws c).Nodup := by
  unfold allS
  refine nodup_flatMap (allL_nodup ws) (fun m _ => nodup_rangeMap _ _ fun i j e => ?_) fun m n x h1 h2 => ?_
  · have := (Prod.mk.inj e).2
    omega
  · obtain ⟨i, _, rfl⟩ := List.mem_map.mp h1
    obtain ⟨j, _, e⟩ := List.mem_map.mp h2
    exact (Prod.mk.inj e).1.symm
theorem allS_len (ws : List Int) (c : Option Int) (hw : ∀ w ∈ ws, 1 ≤ w) (hc : ∀ n, c = some n → 1 ≤ n) : ((allS ws c).length : Int) = manyI ws c := by
  have e : (allS ws c).length = (allL ws).length * (c.getD 0 + 1).toNat := by
    unfold allS
    induction allL ws with
    | nil => simp
    | cons a ls ih => rw [List.flatMap_cons, List.length_append, ih, List.length_map, List.length_range, List.length_cons, Nat.succ_mul]; omega
  rw [e, Int.natCast_mul, allL_len ws hw]
  cases c with
  | none => show prodI ws * ((0 + 1 : Int).toNat : Int) = prodI ws; simp
  | some n =>
    have := hc n rfl
    show prodI ws * ((n + 1).toNat : Int) = prodI ws * (n + 1)
    rw [Int.toNat_of_nonneg (by omega)]
theorem to_mono {P : SR → Prop} {g2 : DS} {I J : DEnv → Prop} {r : SR} (h : SR.to r P g2 I) (k : ∀ ρ, I ρ → J ρ) : SR.to r P g2 J := by
  cases r <;> first | exact k _ h | exact h
def tupI (l : List Int) : D := .tup (l.map .int)
theorem upTo_shift (a : Int) (n : Nat) : upTo a n = (List.range n).map fun i : Nat => D.int (a + i) := rfl
theorem flatMap_take {α β : Type} (f : α → List β) (ls : List α) (i : Nat) (x : α) (h : ls[i]? = some x) : (ls.take (i + 1)).flatMap f = (ls.take i).flatMap f ++ f x := by
  rw [List.take_add_one, h, List.flatMap_append]
  simp
theorem flatMap_take_len {α β : Type} (f : α → List β) (ls : List α) (i : Nat) : ((ls.take i).flatMap f).length ≤ (ls.flatMap f).length := by
  conv => rhs; rw [← List.take_append_drop i ls, List.flatMap_append, List.length_append]
  omega
/-- the inner loops of standings: one more wait -/
theorem lefts_loop {P : SR → Prop} {g2 : DS} (ls : List (List Int)) (w : Int) (hw : 0 ≤ w) (hl : (addL ls w).length ≤ 100000) (hf : w ≤ 100000) (hll : ∀ l ∈ ls, l.length ≤ 1000) (pre post : List (Option D)) (hp : pre.length = 3) (env : List (List Int) → Option D → Option D → DEnv)
    (he : env = fun acc x4 x5 => pre ++ [some (.lst .ow (acc.map tupI)), x4, x5] ++ post) (h2 : pre[2]? = some (some (.int w))) (x4 x5 : Option D)
    (k : ∀ x4 x5, P (g2 (env (addL ls w) x4 x5))) : P ((forD (gN 4) (sFor (gN 5) (fRng rng2 (fCons (fC (.int 1)) (fCons (fB opAdd (fV 2) (fC (.int 1))) fNil))) (sApp 3 (fB opAdd (fV 4) (fTup (fCons (fV 5) fNil))))) (ls.map tupI) (env [] x4 x5)).seq g2) := by
  subst he
  match pre, hp, h2 with
  | [a, b, c], _, h2 =>
    cases h2
    have ft : fits62 1 ∧ fits62 (w + 1) := ⟨⟨by omega, by omega⟩, ⟨by omega, by omega⟩⟩
    refine forD_M (P := P) (fun i ρ => ∃ x4 x5, ρ = [a, b, some (.int w)] ++ [some (.lst .ow (((ls.take i).flatMap fun l => (List.range w.toNat).map fun i : Nat => l ++ [(i : Int) + 1]).map tupI)), x4, x5] ++ post) ⟨x4, x5, rfl⟩ (fun i l ρ hk ⟨y4, y5, h0⟩ => ?_) (fun ρ ⟨y4, y5, h0⟩ => ?_)
    · subst h0
      have tot := flatMap_take_len (fun l => (List.range w.toNat).map fun i : Nat => l ++ [(i : Int) + 1]) ls (i + 1)
      rw [flatMap_take _ ls i l hk, List.length_append, List.length_map, List.length_range] at tot
      rw [flatMap_take _ ls i l hk]
      have tot2 : ((ls.take i).flatMap fun l => (List.range w.toNat).map fun i : Nat => l ++ [(i : Int) + 1]).length + w.toNat ≤ 100000 := Nat.le_trans tot hl
      generalize ((ls.take i).flatMap fun l => (List.range w.toNat).map fun i : Nat => l ++ [(i : Int) + 1]) = acc at *
      have ln : l.length + 1 ≤ seqMax := by have := hll l (List.mem_of_getElem? hk); unfold seqMax; omega
      simp -implicitDefEqProofs [ft.1, ft.2, upTo_shift]
      refine forD_M0 (P := fun r => SR.to r P g2 _) (fun j ρ => ∃ y5, ρ = a :: b :: some (.int w) :: some (.lst .ow (acc.map tupI ++ (List.range j).map fun i : Nat => tupI (l ++ [(i : Int) + 1]))) :: some (tupI l) :: y5 :: post) ⟨y5, by simp⟩ (fun j i ρ hj ⟨y, h0⟩ => ?_) (fun ρ ⟨y, h0⟩ => ?_)
      · subst h0
        obtain ⟨hi, rfl⟩ : j < w.toNat ∧ i = j := by
          obtain ⟨q1, q2⟩ := List.getElem?_eq_some_iff.mp hj
          simp at q1 q2
          exact ⟨by omega, q2.symm⟩
        have sm : acc.length + i < seqMax := by unfold seqMax; omega
        simp -implicitDefEqProofs [withL_def, tupI, ln, sm, List.range_succ]
        omega
      · subst h0
        rw [List.length_range]
        simp -implicitDefEqProofs
    · subst h0
      rw [List.take_length]
      exact k y4 y5
theorem allL_lens (ws : List Int) : ∀ l ∈ allL ws, l.length = ws.length := fun l hl => ((mem_allL ws l).mp hl).1
theorem allL_take_le (ws : List Int) (hw : ∀ w ∈ ws, 1 ≤ w) (i : Nat) : ((allL (ws.take i)).length : Int) ≤ prodI ws := by
  rw [allL_len _ fun w h => hw w (List.mem_of_mem_take h)]
  have := prodI_le (ws.take i) (ws.drop i) (by rw [List.take_append_drop]; exact hw)
  rwa [List.take_append_drop] at this
theorem prodI_mem (ws : List Int) (hw : ∀ w ∈ ws, 1 ≤ w) : ∀ w ∈ ws, w ≤ prodI ws := by
  induction ws using snoc_ind with
  | h0 => intro w h; cases h
  | h1 l a ih =>
    intro w h
    have p1 := prodI_pos l fun w hw' => hw w (List.mem_append_left _ hw')
    have a1 := hw a (by simp)
    rw [prodI_snoc]
    rcases List.mem_append.mp h with h | h
    · have h1 := ih (fun w hw' => hw w (List.mem_append_left _ hw')) w h
      have := Int.mul_le_mul_of_nonneg_left a1 (show 0 ≤ prodI l by omega)
      omega
    · cases List.mem_singleton.mp h
      have := Int.mul_le_mul_of_nonneg_right p1 (show 0 ≤ a by omega)
      omega
def stD (p : List Int × Int) : D := standD p.1 p.2
theorem take_snoc {α : Type} (l : List α) (i : Nat) (x : α) (h : l[i]? = some x) : l.take (i + 1) = l.take i ++ [x] := by
  rw [List.take_add_one, h]; rfl
theorem standings_eq (ws : List Int) (c : Option Int) (hw : ∀ w ∈ ws, 1 ≤ w) (h8 : ws.length ≤ 8) (hc : ∀ n, c = some n → 1 ≤ n) (hm : manyI ws c ≤ 3000) :
    f_standings [hallD ws c] = .ok (.lst .ow ((allS ws c).map stD)) := by
  have pm : prodI ws ≤ manyI ws c := by
    have := prodI_pos ws hw
    cases c with
    | none => exact Int.le_refl _
    | some n =>
      have := hc n rfl
      have := Int.mul_le_mul_of_nonneg_left (show 1 ≤ n + 1 by omega) (show 0 ≤ prodI ws by omega)
      show prodI ws ≤ prodI ws * (n + 1)
      omega
  have wm := prodI_mem ws hw
  have cm : ∀ n, c = some n → n ≤ 3000 := fun n e => by
    subst e
    have h1 := prodI_pos ws hw
    have h2 := hc n rfl
    have := Int.mul_le_mul_of_nonneg_right h1 (show 0 ≤ n + 1 by omega)
    have : manyI ws (some n) = prodI ws * (n + 1) := rfl
    omega
  have hmany := how_many_eq ws c 12 (fun w h => sm_pow (by have := hw w h; omega) (by have := wm w h; omega)) (by omega) (by omega) (fun n e => sm_pow (by have := hc n e; omega) (by have := cm n e; omega))
  rw [r_standings]
  unfold g_standings
  simp -implicitDefEqProofs [hmany, show ¬ (3000 : Int) < manyI ws c by omega]
  rw [show ([D.tup []] : List D) = (allL (ws.take 0)).map tupI by simp [allL, tupI]]
  refine forD_M (P := fun r => toRes r = _) (fun i ρ => ∃ t x2 x3 x4 x5, ρ = [some (hallD ws c), some (.lst t ((allL (ws.take i)).map tupI)), x2, x3, x4, x5, none, none, none] ∧ (t = .ow ∨ t = .fz)) ⟨_, _, _, _, _, rfl, .inl rfl⟩ (fun i w ρ hk ⟨t, x2, x3, x4, x5, h0, ht⟩ => ?_) (fun ρ ⟨t, x2, x3, x4, x5, h0, ht⟩ => ?_)
  · subst h0
    have w1 := hw w (List.mem_of_getElem? hk)
    have w2 := wm w (List.mem_of_getElem? hk)
    have nx : allL (ws.take (i + 1)) = addL (allL (ws.take i)) w := by rw [take_snoc ws i w hk, allL_snoc]
    have ln := allL_take_le ws hw (i + 1)
    rw [nx] at ln
    have ll := allL_lens (ws.take i)
    have tl : (ws.take i).length ≤ 8 := by rw [List.length_take]; omega
    rw [nx]
    have := fun Q => lefts_loop (P := fun r => SR.to r (fun r => toRes r = Res.ok (D.lst Tg.ow ((allS ws c).map stD))) Q (fun ρ => ∃ t x2 x3 x4 x5, ρ = [some (hallD ws c), some (.lst t ((addL (allL (ws.take i)) w).map tupI)), x2, x3, x4, x5, none, none, none] ∧ (t = .ow ∨ t = .fz)))
      (g2 := sFrz 3 (sSet 1 (fV 3))) (allL (ws.take i)) w (by omega) (by omega) (by omega) (fun l hl => by rw [ll l hl]; omega) [some (hallD ws c), some (.lst .fz ((allL (ws.take i)).map tupI)), some (.int w)] [none, none, none] rfl _ rfl rfl x4 x5 (fun x4 x5 => by
        exact to_of (ρ' := [some (hallD ws c), some (.lst .fz ((addL (allL (ws.take i)) w).map tupI)), some (.int w), some (.lst .fz ((addL (allL (ws.take i)) w).map tupI)), x4, x5, none, none, none]) (by simp -implicitDefEqProofs) ⟨.fz, _, _, _, _, rfl, .inr rfl⟩)
    rcases ht with rfl | rfl
    · simp -implicitDefEqProofs
      exact to_mono (this _) fun ρ ⟨t, a, b, d, e, h, ht⟩ => ⟨t, ⟨a, b, d, e, h⟩, ht⟩
    · simp -implicitDefEqProofs
      exact to_mono (this _) fun ρ ⟨t, a, b, d, e, h, ht⟩ => ⟨t, ⟨a, b, d, e, h⟩, ht⟩
  · subst h0
    rw [List.take_length]
    generalize hT : sSeq (sSet 7 _) _ = T
    have rest : ∀ qs : List Int, qs = ((List.range (c.getD 0 + 1).toNat).map fun i : Nat => (i : Int)) → toRes (T [some (hallD ws c), some (.lst t ((allL ws).map tupI)), x2, x3, x4, x5, some (.lst .ow (qs.map .int)), none, none]) = .ok (.lst .ow ((allS ws c).map stD)) := fun qs hq => by
      subst hT
      have aS : allS ws c = (allL ws).flatMap fun l => qs.map fun q => (l, q) := by
        unfold allS
        rw [hq]
        congr 1
        funext l
        rw [List.map_map]
        rfl
      have sz : ((allL ws).flatMap fun l => qs.map fun q => (l, q)).length ≤ 3000 := by
        rw [← aS]; have := allS_len ws c hw hc; omega
      rw [aS]
      have body : toRes ((forD (gN 4) (sFrz 6 (sFor (gN 8) (fIt (fV 6)) (sApp 7 (fTup (fCons (fV 4) (fCons (fV 8) fNil)))))) ((allL ws).map tupI) [some (hallD ws c), some (.lst .fz ((allL ws).map tupI)), x2, x3, x4, x5, some (.lst .ow (qs.map .int)), some (.lst .ow []), none]).seq (sRetV 7)) = .ok (.lst .ow (((allL ws).flatMap fun l => qs.map fun q => (l, q)).map stD)) := by
        refine forD_M (P := fun r => toRes r = _) (fun i ρ => ∃ t6 x4 x8, ρ = [some (hallD ws c), some (.lst .fz ((allL ws).map tupI)), x2, x3, x4, x5, some (.lst t6 (qs.map .int)), some (.lst .ow ((((allL ws).take i).flatMap fun l => qs.map fun q => (l, q)).map stD)), x8] ∧ (t6 = .ow ∨ t6 = .fz)) ⟨_, _, _, rfl, .inl rfl⟩ (fun i l ρ hk ⟨t6, y4, y8, h0, ht6⟩ => ?_) (fun ρ ⟨t6, y4, y8, h0, ht6⟩ => ?_)
        · subst h0
          have tot := flatMap_take_len (fun l => qs.map fun q => (l, q)) (allL ws) (i + 1)
          rw [flatMap_take _ _ i l hk, List.length_append, List.length_map] at tot
          rw [flatMap_take _ _ i l hk]
          generalize (((allL ws).take i).flatMap fun l => qs.map fun q => (l, q)) = acc at *
          have inner : ∀ (Q : DS) (y8 : Option D), SR.to (forD (gN 8) (sApp 7 (fTup (fCons (fV 4) (fCons (fV 8) fNil)))) (qs.map .int) [some (hallD ws c), some (.lst .fz ((allL ws).map tupI)), x2, x3, some (tupI l), x5, some (.lst .fz (qs.map .int)), some (.lst .ow (acc.map stD)), y8]) (fun r => toRes r = .ok (.lst .ow (((allL ws).flatMap fun l => qs.map fun q => (l, q)).map stD))) Q
              (fun ρ => ∃ t6 x4 x8, ρ = [some (hallD ws c), some (.lst .fz ((allL ws).map tupI)), x2, x3, x4, x5, some (.lst t6 (qs.map .int)), some (.lst .ow ((acc ++ qs.map fun q => (l, q)).map stD)), x8] ∧ (t6 = .ow ∨ t6 = .fz)) := fun Q y8 => by
            refine forD_M0 (P := fun r => SR.to r _ Q _) (fun j ρ => ∃ y8, ρ = [some (hallD ws c), some (.lst .fz ((allL ws).map tupI)), x2, x3, some (tupI l), x5, some (.lst .fz (qs.map .int)), some (.lst .ow ((acc ++ (qs.take j).map fun q => (l, q)).map stD)), y8]) ⟨y8, by simp⟩ (fun j q ρ hj ⟨y, h0⟩ => ?_) (fun ρ ⟨y, h0⟩ => ?_)
            · subst h0
              have jl : j < qs.length := (List.getElem?_eq_some_iff.mp hj).1
              have sm : acc.length + min j qs.length < seqMax := by unfold seqMax; omega
              rw [take_snoc qs j q hj]
              refine to_of (ρ' := [some (hallD ws c), some (.lst .fz ((allL ws).map tupI)), x2, x3, some (tupI l), x5, some (.lst .fz (qs.map .int)), some (.lst .ow ((acc ++ (qs.take j ++ [q]).map fun q => (l, q)).map stD)), some (.int q)]) ?_ ⟨_, rfl⟩
              simp -implicitDefEqProofs [withL_def, tupI, sm, stD, standD, -List.map_take]
            · subst h0
              rw [List.take_length]
              exact ⟨.fz, _, _, rfl, .inr rfl⟩
          rcases ht6 with rfl | rfl
          · simp -implicitDefEqProofs
            refine to_mono (inner _ _) fun ρ ⟨t, a, b, h, ht⟩ => ⟨t, ⟨a, b, ?_⟩, ht⟩
            rw [h]; simp
          · simp -implicitDefEqProofs
            refine to_mono (inner _ _) fun ρ ⟨t, a, b, h, ht⟩ => ⟨t, ⟨a, b, ?_⟩, ht⟩
            rw [h]; simp
        · subst h0
          rw [List.take_length]
          simp -implicitDefEqProofs
      rcases ht with rfl | rfl
      · simp -implicitDefEqProofs
        exact body
      · simp -implicitDefEqProofs
        exact body
    cases c with
    | none =>
      have := rest [0] rfl
      simp -implicitDefEqProofs [calmD] at this ⊢
      exact this
    | some n =>
      have n1 := hc n rfl
      have n2 := cm n rfl
      have := rest ((List.range (n + 1).toNat).map fun i : Nat => (i : Int)) rfl
      have l1 := lrg_ok (i := 0) (j := n + 1) (by omega) (by omega) (by omega) (by omega) (by omega)
      rw [show (n + 1 - 0).toNat = (n + 1).toNat by omega, upTo_map, mapD_int] at l1
      have l2 : lrg1 (.int (n + 1)) = lrg 0 (n + 1) := rfl
      have cN : calmD (some n) = .int n := rfl
      simp -implicitDefEqProofs [cN, l1, this, -List.map_map]
end Sh
/-! Tables of ranks. -/
namespace Sh
open PySem PySem.Spec PyProof.Rows L2 Dl
abbrev P2 := List Int × Int
abbrev Tb := List (P2 × Int)
def kS (p : P2) : NestedKey := .tup [.tup (p.1.map .num), .num p.2]
theorem keys_ints (l : List Int) : D.key.keys (l.map .int) = some (l.map .num) := by
  induction l with
  | nil => rfl
  | cons a l ih =>
    show (D.key (.int a)).bind (fun k => (D.key.keys (l.map .int)).map (k :: ·)) = _
    rw [ih]
    rfl
theorem depth_nums (l : List Int) : NestedKey.depthAll (l.map .num) = 0 := by
  induction l with
  | nil => rfl
  | cons a l ih =>
    show max (NestedKey.depth (.num a)) (NestedKey.depthAll (l.map .num)) = 0
    rw [ih]
    rfl
theorem key_st (p : P2) : (stD p).key = some (kS p) := by
  show (D.key.keys [.tup (p.1.map .int), .int p.2]).map NestedKey.tup = _
  have e : D.key.keys [.tup (p.1.map .int), .int p.2] = some [.tup (p.1.map .num), .num p.2] := by
    show (D.key (.tup (p.1.map .int))).bind _ = _
    have : D.key (.tup (p.1.map .int)) = some (.tup (p.1.map .num)) := by
      show (D.key.keys (p.1.map .int)).map NestedKey.tup = _
      rw [keys_ints]
      rfl
    rw [this]
    rfl
  rw [e]
  rfl
@[simp] theorem ky_st (p : P2) : (stD p).ky = some (kS p) := by
  have e := key_st p
  show ((stD p).key).bind _ = _
  rw [e]
  show (if (kS p).depth ≤ 8 then some (kS p) else none) = _
  rw [if_pos]
  show NestedKey.depthAll [.tup (p.1.map .num), .num p.2] + 1 ≤ 8
  have : NestedKey.depthAll [.tup (p.1.map .num), .num p.2] = 1 := by
    show max (NestedKey.depthAll (p.1.map .num) + 1) (max 0 0) = 1
    rw [depth_nums]
    rfl
  omega
theorem kS_inj {p q : P2} (h : kS p = kS q) : p = q := by
  have h1 : p.1.map NestedKey.num = q.1.map NestedKey.num := by
    have := NestedKey.tup.inj h
    exact NestedKey.tup.inj (List.cons.inj this).1
  have h2 : p.2 = q.2 := by
    have := NestedKey.tup.inj h
    exact NestedKey.num.inj (List.cons.inj (List.cons.inj this).2).1
  have h3 : ∀ l m : List Int, l.map NestedKey.num = m.map NestedKey.num → l = m := fun l => by
    induction l with
    | nil => intro m e; cases m with | nil => rfl | cons _ _ => cases e
    | cons a l ih =>
      intro m e
      cases m with
      | nil => cases e
      | cons b m => rw [NestedKey.num.inj (List.cons.inj e).1, ih m (List.cons.inj e).2]
  exact Prod.ext (h3 _ _ h1) h2
def lk (tb : Tb) (p : P2) : Option Int := match tb with
  | [] => none
  | e :: r => if e.1 = p then some e.2 else lk r p
def tbD (tb : Tb) : List (D × D) := tb.map fun e => (stD e.1, .int e.2)
theorem getK_tb (tb : Tb) (p : P2) : getK (tbD tb) (kS p) = (lk tb p).map .int := by
  induction tb with
  | nil => rfl
  | cons e r ih =>
    show (if (stD e.1).key = some (kS p) then some (D.int e.2) else getK (tbD r) (kS p)) = _
    rw [key_st]
    unfold lk
    by_cases c : e.1 = p
    · rw [if_pos (by rw [c]), if_pos c]; rfl
    · rw [if_neg (fun z => c (kS_inj (Option.some.inj z))), if_neg c, ih]
theorem allK_tb (tb : Tb) : allK (tbD tb) = true := by
  unfold allK tbD
  rw [List.all_eq_true]
  intro x hx
  obtain ⟨e, _, rfl⟩ := List.mem_map.mp hx
  rw [ky_st]
  rfl
theorem setKD_tb (tb : Tb) (p : P2) (r : Int) (h : lk tb p = none) : setKD (tbD tb) (stD p) (.int r) (kS p) = tbD (tb ++ [(p, r)]) := by
  unfold setKD
  rw [getK_tb, h, if_neg (by simp)]
  unfold tbD
  rw [List.map_append]
  rfl
theorem lk_cons (e : P2 × Int) (r : Tb) (p : P2) : lk (e :: r) p = if e.1 = p then some e.2 else lk r p := rfl
theorem lk_append (a b : Tb) (p : P2) : lk (a ++ b) p = match lk a p with
    | some v => some v
    | none => lk b p := by
  induction a with
  | nil => rfl
  | cons e r ih =>
    rw [List.cons_append, lk_cons, lk_cons]
    by_cases c : e.1 = p
    · rw [if_pos c, if_pos c]
    · rw [if_neg c, if_neg c]
      exact ih
theorem lk_new (fs : List P2) (r : Int) (p : P2) : lk (fs.map fun q => (q, r)) p = if p ∈ fs then some r else none := by
  induction fs with
  | nil => rfl
  | cons q fs ih =>
    show (if q = p then some r else lk (fs.map fun q => (q, r)) p) = _
    rw [ih]
    by_cases c : q = p
    · rw [if_pos c, if_pos (by rw [c]; exact List.mem_cons_self ..)]
    · rw [if_neg c]
      by_cases d : p ∈ fs
      · rw [if_pos d, if_pos (List.mem_cons_of_mem _ d)]
      · rw [if_neg d, if_neg (fun z => (List.mem_cons.mp z).elim (fun e => c e.symm) d)]
theorem lk_mem {tb : Tb} {p : P2} {v : Int} (h : lk tb p = some v) : (p, v) ∈ tb := by
  induction tb with
  | nil => cases h
  | cons e r ih =>
    unfold lk at h
    by_cases c : e.1 = p
    · rw [if_pos c] at h
      cases h
      rw [← c]
      exact List.mem_cons_self ..
    · rw [if_neg c] at h
      exact List.mem_cons_of_mem _ (ih h)
theorem lk_of_mem {tb : Tb} (hn : (tb.map (·.1)).Nodup) {p : P2} {v : Int} (h : (p, v) ∈ tb) : lk tb p = some v := by
  induction tb with
  | nil => cases h
  | cons e r ih =>
    rw [List.map_cons, List.nodup_cons] at hn
    unfold lk
    rcases List.mem_cons.mp h with q | q
    · rw [← q, if_pos rfl]
    · rw [if_neg (fun z => hn.1 (by rw [z]; exact List.mem_map.mpr ⟨_, q, rfl⟩)), ih hn.2 q]
/-- what a call comes to -/
def oc (tb : Tb) (ws : List Int) (c : Option Int) (p : P2) (who : Nat) (lost : Bool) : Option Int := match aftO ws p.1 c p.2 who lost with
  | none => some 0
  | some q => lk tb q
def und : Option Int → Option Int → Bool
  | none, _ => false
  | some _, none => true
  | some a, some b => decide (a < b)
def wor (tb : Tb) (ws : List Int) (c : Option Int) (p : P2) (who : Nat) : Option Int :=
  if mayL c p.2 = true ∧ und (oc tb ws c p who true) (oc tb ws c p who false) = true then oc tb ws c p who true else oc tb ws c p who false
def brkb (tb : Tb) (ws : List Int) (c : Option Int) (p : P2) : Bool := (List.range ws.length).all fun who => (wor tb ws c p who).isSome
theorem under_eq (a b : Option Int) : f_under [calmD a, calmD b] = .ok (.bl (und a b)) := by
  rw [r_under]
  unfold g_under
  cases a <;> cases b <;> simp -implicitDefEqProofs [calmD, und]
@[simp] theorem stD_re (t : Tg) (p : P2) : (stD p).re t = stD p := rfl
@[simp] theorem stD_tg (p : P2) : (stD p).tg = .fz := rfl
@[simp] theorem stD_vw (p : P2) : vwOf (stD p) = stD p := rfl
@[simp] theorem stD_isN (p : P2) : (stD p).isN = false := rfl
@[simp] theorem stD_flat (p : P2) : (stD p).flat = true := standD_flat ..
@[simp] theorem stD_pure (p : P2) : (stD p).pure = true := standD_pure ..
theorem stD_t (p : P2) : stD p = standD p.1 p.2 := rfl
def tabD (t : Tg) (tb : Tb) : D := .dic t (tbD tb)
@[simp] theorem tabD_re (t u : Tg) (tb : Tb) : (tabD t tb).re u = tabD u tb := rfl
@[simp] theorem tabD_tg (t : Tg) (tb : Tb) : (tabD t tb).tg = t := rfl
@[simp] theorem tabD_vwo (tb : Tb) : vwOf (tabD .ow tb) = tabD .vw tb := rfl
@[simp] theorem tabD_vwf (tb : Tb) : vwOf (tabD .fz tb) = tabD .fz tb := rfl
theorem getK_eq (t : Tg) (tb : Tb) (p : P2) : opGetK (tabD t tb) (stD p) = .ok (calmD (lk tb p)) := by
  unfold opGetK tabD
  dsimp only
  rw [ky_st]
  dsimp only
  rw [if_pos (allK_tb tb), getK_tb]
  cases lk tb p <;> rfl
theorem inK_eq (t : Tg) (tb : Tb) (p : P2) (neg : Bool) : opInK neg (stD p) (tabD t tb) = .ok (.bl (if neg then !(lk tb p).isSome else (lk tb p).isSome)) := by
  unfold opInK tabD
  dsimp only
  rw [ky_st]
  dsimp only
  rw [if_pos (allK_tb tb), getK_tb]
  cases lk tb p <;> rfl
theorem idxK_eq (t : Tg) (tb : Tb) (p : P2) (v : Int) (h : lk tb p = some v) : opIdxK (tabD t tb) (stD p) = .ok (.int v) := by
  unfold opIdxK tabD
  dsimp only
  rw [ky_st]
  dsimp only
  rw [if_pos (allK_tb tb), getK_tb, h]
  rfl
theorem getK_ap (fa fb : DE) (ρ : DEnv) (t : Tg) (tb : Tb) (h : fa ρ = .ok (tabD t tb)) : fGetK fa fb ρ = (fb ρ).bind fun b => opGetK (tabD t tb) b := by
  unfold fGetK
  rw [h]
  rfl
section
variable {ws : List Int} {c : Option Int} {p : P2} {tb : Tb}
theorem outcome_eq (who : Nat) (lost : Bool) (h : who < ws.length) (hl : p.1.length = ws.length) (h8 : ws.length ≤ 1000) (hm : lost = true → mayL c p.2 = true) :
    f_outcome [hallD ws c, tabD .fz tb, stD p, .int who, .bl lost] = .ok (calmD (oc tb ws c p who lost)) := by
  rw [r_outcome]
  unfold g_outcome
  have e := aftO_eq ws p.1 c p.2 who lost h hl h8 hm
  rw [← stD_t p] at e
  unfold oc
  cases ha : aftO ws p.1 c p.2 who lost with
  | none =>
    rw [ha] at e
    simp -implicitDefEqProofs [e, calmD]
  | some q =>
    rw [ha] at e
    have e2 : standO (some q) = stD q := rfl
    rw [e2] at e
    have g := getK_ap (fV 1) (fV 5) [some (hallD ws c), some (tabD .fz tb), some (stD p), some (.int who), some (.bl lost), some (stD q)] .fz tb rfl
    simp -implicitDefEqProofs [-fGetK_ap, e, g, getK_eq]
theorem worth_eq (who : Nat) (h : who < ws.length) (hl : p.1.length = ws.length) (h8 : ws.length ≤ 1000) : f_worth [hallD ws c, tabD .fz tb, stD p, .int who] = .ok (calmD (wor tb ws c p who)) := by
  rw [r_worth]
  unfold g_worth
  have e1 := outcome_eq (tb := tb) (c := c) who false h hl h8 (fun z => by cases z)
  have m := may_eq ws p.1 c p.2
  rw [← stD_t p] at m
  unfold wor
  by_cases c1 : mayL c p.2 = true
  · have e2 := outcome_eq (tb := tb) (c := c) who true h hl h8 (fun _ => c1)
    have u := under_eq (oc tb ws c p who true) (oc tb ws c p who false)
    by_cases c2 : und (oc tb ws c p who true) (oc tb ws c p who false) = true
    · simp -implicitDefEqProofs [e1, e2, m, c1, u, c2]
    · simp -implicitDefEqProofs [e1, e2, m, c1, u, c2]
  · simp -implicitDefEqProofs [e1, m, c1]
theorem breakable_eq (hl : p.1.length = ws.length) (h8 : ws.length ≤ 1000) : f_breakable [hallD ws c, tabD .fz tb, stD p] = .ok (.bl (brkb tb ws c p)) := by
  rw [r_breakable]
  unfold g_breakable
  have ft : fits62 (ws.length : Int) := ⟨by omega, by omega⟩
  have hk : opIdxK (hallD ws c) (.int 0) = .ok (.tup (ws.map .int)) := hallD_0 ws c
  simp -implicitDefEqProofs [hk, ft, upTo_map]
  refine forD_M (P := fun r => toRes r = _) (fun i ρ => (∃ x3, ρ = [some (hallD ws c), some (tabD .fz tb), some (stD p), x3]) ∧ (∀ k, k < i → (wor tb ws c p k).isSome = true)) ⟨⟨none, rfl⟩, fun k hk => by omega⟩ (fun i k ρ hk ⟨⟨x3, h0⟩, h1⟩ => ?_) (fun ρ ⟨⟨x3, h0⟩, h1⟩ => ?_)
  · subst h0
    obtain ⟨hi, rfl⟩ : i < ws.length ∧ k = i := by
      obtain ⟨q1, q2⟩ := List.getElem?_eq_some_iff.mp hk
      simp at q1 q2
      exact ⟨q1, q2.symm⟩
    have w := worth_eq (tb := tb) (c := c) k hi hl h8
    cases e : wor tb ws c p k with
    | none =>
      have : brkb tb ws c p = false := by
        unfold brkb
        rw [List.all_eq_false]
        exact ⟨k, List.mem_range.mpr hi, by rw [e]; simp⟩
      simp -implicitDefEqProofs [w, e, this]
    | some v =>
      refine to_of (ρ' := [some (hallD ws c), some (tabD .fz tb), some (stD p), some (.int k)]) (by simp -implicitDefEqProofs [w, e]) ⟨⟨_, rfl⟩, fun j hj => ?_⟩
      by_cases d : j = k
      · rw [d, e]; rfl
      · exact h1 j (by omega)
  · subst h0
    rw [List.length_range] at h1
    have : brkb tb ws c p = true := by
      unfold brkb
      rw [List.all_eq_true]
      exact fun k hk => h1 k (List.mem_range.mp hk)
    simp -implicitDefEqProofs [this]
end
/-! ### the rounds -/
structure TInv (ws : List Int) (c : Option Int) (tb : Tb) (rk : Int) : Prop where
  nd : (tb.map (·.1)).Nodup
  sub : ∀ e ∈ tb, e.1 ∈ allS ws c
  rg : ∀ e ∈ tb, 1 ≤ e.2 ∧ e.2 < rk
  pos : 1 ≤ rk
  a : ∀ e ∈ tb, ∀ who, who < ws.length → ∃ v, wor tb ws c e.1 who = some v ∧ 0 ≤ v ∧ v ≤ e.2 - 1
  b : ∀ e ∈ tb, ∃ who, who < ws.length ∧ wor tb ws c e.1 who = some (e.2 - 1)
  e : ∀ p ∈ allS ws c, lk tb p = none → rk = 1 ∨ ∃ who, who < ws.length ∧ ∀ v, wor tb ws c p who = some v → rk - 1 ≤ v
  d : ∀ r, 1 ≤ r → r < rk → ∃ e ∈ tb, e.2 = r
theorem oc_rg {ws : List Int} {c : Option Int} {tb : Tb} {rk : Int} (h : TInv ws c tb rk) {p : P2} {who : Nat} {lost : Bool} {v : Int} (e : oc tb ws c p who lost = some v) : 0 ≤ v ∧ v < rk := by
  unfold oc at e
  cases ha : aftO ws p.1 c p.2 who lost with
  | none => rw [ha] at e; cases e; exact ⟨by omega, by have := h.pos; omega⟩
  | some q => rw [ha] at e; have := h.rg _ (lk_mem e); exact ⟨by have := this.1; dsimp only at this; omega, this.2⟩
theorem wor_rg {ws : List Int} {c : Option Int} {tb : Tb} {rk : Int} (h : TInv ws c tb rk) {p : P2} {who : Nat} {v : Int} (e : wor tb ws c p who = some v) : 0 ≤ v ∧ v < rk := by
  unfold wor at e
  split at e
  · exact oc_rg h e
  · exact oc_rg h e
theorem oc_grow (tb : Tb) (fs : List P2) (r : Int) (ws : List Int) (c : Option Int) (p : P2) (who : Nat) (lost : Bool) : (∃ v, oc tb ws c p who lost = some v ∧ oc (tb ++ fs.map fun q => (q, r)) ws c p who lost = some v) ∨
    (oc tb ws c p who lost = none ∧ (oc (tb ++ fs.map fun q => (q, r)) ws c p who lost = none ∨ oc (tb ++ fs.map fun q => (q, r)) ws c p who lost = some r)) := by
  unfold oc
  cases aftO ws p.1 c p.2 who lost with
  | none => exact .inl ⟨0, rfl, rfl⟩
  | some q =>
    dsimp only
    rw [lk_append, lk_new]
    cases lk tb q with
    | some v => exact .inl ⟨v, rfl, rfl⟩
    | none =>
      refine .inr ⟨rfl, ?_⟩
      dsimp only
      by_cases d : q ∈ fs
      · rw [if_pos d]; exact .inr rfl
      · rw [if_neg d]; exact .inl rfl
theorem wor_grow {ws : List Int} {c : Option Int} {tb : Tb} {rk : Int} (h : TInv ws c tb rk) (fs : List P2) (p : P2) (who : Nat) : (∃ v, wor tb ws c p who = some v ∧ wor (tb ++ fs.map fun q => (q, rk)) ws c p who = some v) ∨
    (wor tb ws c p who = none ∧ (wor (tb ++ fs.map fun q => (q, rk)) ws c p who = none ∨ wor (tb ++ fs.map fun q => (q, rk)) ws c p who = some rk)) := by
  have g1 := oc_grow tb fs rk ws c p who true
  have g2 := oc_grow tb fs rk ws c p who false
  have r1 := fun v => oc_rg h (p := p) (who := who) (lost := true) (v := v)
  have r2 := fun v => oc_rg h (p := p) (who := who) (lost := false) (v := v)
  unfold wor
  generalize oc tb ws c p who true = l at *
  generalize oc tb ws c p who false = f at *
  generalize oc (tb ++ fs.map fun q => (q, rk)) ws c p who true = l' at *
  generalize oc (tb ++ fs.map fun q => (q, rk)) ws c p who false = f' at *
  by_cases m : mayL c p.2 = true
  · rcases g1 with ⟨v, rfl, rfl⟩ | ⟨rfl, rfl | rfl⟩ <;> rcases g2 with ⟨u, rfl, rfl⟩ | ⟨rfl, rfl | rfl⟩ <;> simp [m, und]
    all_goals try (have := (r1 _ rfl).2)
    all_goals try (have := (r2 _ rfl).2)
    all_goals try omega
    · by_cases z : v < u <;> simp [z]
  · simp only [m, false_and, if_false]
    exact g2
theorem TInv.start (ws : List Int) (c : Option Int) : TInv ws c [] 1 := by
  refine ⟨List.nodup_nil, fun e h => by (cases h), fun e h => by (cases h), by omega, fun e h => by (cases h), fun e h => by (cases h), fun p _ _ => .inl rfl, fun r h1 h2 => by omega⟩
theorem TInv.round {ws : List Int} {c : Option Int} {tb : Tb} {rk : Int} (h : TInv ws c tb rk) (hw : 1 ≤ ws.length) (hn : ((allS ws c).filter fun p => (lk tb p).isNone && brkb tb ws c p) ≠ []) :
    TInv ws c (tb ++ ((allS ws c).filter fun p => (lk tb p).isNone && brkb tb ws c p).map fun q => (q, rk)) (rk + 1) := by
  generalize hfs : ((allS ws c).filter fun p => (lk tb p).isNone && brkb tb ws c p) = fs at *
  have mf : ∀ p, p ∈ fs ↔ p ∈ allS ws c ∧ lk tb p = none ∧ brkb tb ws c p = true := fun p => by
    rw [← hfs, List.mem_filter, Bool.and_eq_true, Option.isNone_iff_eq_none]
  have fn : fs.Nodup := by rw [← hfs]; exact (allS_nodup ws c).filter _
  have wg := wor_grow h fs
  have me : ∀ e : P2 × Int, e ∈ tb ++ (fs.map fun q => (q, rk)) ↔ e ∈ tb ∨ (e.1 ∈ fs ∧ e.2 = rk) := fun e => by
    rw [List.mem_append]
    constructor
    · rintro (q | q)
      · exact .inl q
      · obtain ⟨z, hz, rfl⟩ := List.mem_map.mp q
        exact .inr ⟨hz, rfl⟩
    · rintro (q | ⟨q1, q2⟩)
      · exact .inl q
      · exact .inr (List.mem_map.mpr ⟨e.1, q1, by rw [← q2]⟩)
  refine ⟨?_, fun e he => ?_, fun e he => ?_, by have := h.pos; omega, fun e he who hwho => ?_, fun e he => ?_, fun p hp hl => ?_, fun r h1 h2 => ?_⟩
  · rw [List.map_append, List.map_map, List.nodup_append]
    refine ⟨h.nd, by simpa [Function.comp_def] using fn, fun x hx y hy e => ?_⟩
    subst e
    obtain ⟨q, hq, e2⟩ := List.mem_map.mp hy
    obtain ⟨z, hz, e3⟩ := List.mem_map.mp hx
    have : lk tb x = some z.2 := lk_of_mem h.nd (by rw [← e3]; exact hz)
    have : x ∈ fs := by rw [← e2]; exact hq
    have := ((mf x).mp this).2.1
    simp_all
  · rcases (me e).mp he with q | ⟨q1, q2⟩
    · exact h.sub e q
    · exact ((mf e.1).mp q1).1
  · rcases (me e).mp he with q | ⟨q1, q2⟩
    · have := h.rg e q; omega
    · have := h.pos; omega
  · rcases (me e).mp he with q | ⟨q1, q2⟩
    · obtain ⟨v, e1, e2, e3⟩ := h.a e q who hwho
      rcases wg e.1 who with ⟨u, f1, f2⟩ | ⟨f1, _⟩
      · rw [e1] at f1; cases f1; exact ⟨v, f2, e2, e3⟩
      · rw [e1] at f1; cases f1
    · have br := ((mf e.1).mp q1).2.2
      unfold brkb at br
      rw [List.all_eq_true] at br
      obtain ⟨v, ev⟩ := Option.isSome_iff_exists.mp (br who (List.mem_range.mpr hwho))
      have rg := wor_rg h ev
      rcases wg e.1 who with ⟨u, f1, f2⟩ | ⟨f1, _⟩
      · rw [ev] at f1; cases f1; exact ⟨v, f2, rg.1, by omega⟩
      · rw [ev] at f1; cases f1
  · rcases (me e).mp he with q | ⟨q1, q2⟩
    · obtain ⟨who, w1, e1⟩ := h.b e q
      refine ⟨who, w1, ?_⟩
      rcases wg e.1 who with ⟨u, f1, f2⟩ | ⟨f1, _⟩
      · rw [e1] at f1; cases f1; exact f2
      · rw [e1] at f1; cases f1
    · obtain ⟨m1, m2, br⟩ := (mf e.1).mp q1
      unfold brkb at br
      rw [List.all_eq_true] at br
      have get : ∀ who, who < ws.length → ∃ v, wor tb ws c e.1 who = some v ∧ 0 ≤ v ∧ v < rk ∧ wor (tb ++ fs.map fun q => (q, rk)) ws c e.1 who = some v := fun who hwho => by
        obtain ⟨v, ev⟩ := Option.isSome_iff_exists.mp (br who (List.mem_range.mpr hwho))
        have rg := wor_rg h ev
        rcases wg e.1 who with ⟨u, f1, f2⟩ | ⟨f1, _⟩
        · rw [ev] at f1; cases f1; exact ⟨v, ev, rg.1, rg.2, f2⟩
        · rw [ev] at f1; cases f1
      rcases h.e e.1 m1 m2 with q | ⟨who, w1, w2⟩
      · obtain ⟨v, _, g1, g2, g3⟩ := get 0 (by omega)
        exact ⟨0, by omega, by rw [g3]; congr 1; omega⟩
      · obtain ⟨v, g0, g1, g2, g3⟩ := get who w1
        have := w2 v g0
        exact ⟨who, w1, by rw [g3]; congr 1; omega⟩
  · rw [lk_append] at hl
    cases hlk : lk tb p with
    | some v => rw [hlk] at hl; cases hl
    | none =>
      rw [hlk, lk_new] at hl
      have nf : p ∉ fs := fun z => by
        have hl : (if p ∈ fs then some rk else none) = none := hl
        rw [if_pos z] at hl
        cases hl
      have nb : brkb tb ws c p ≠ true := fun z => nf ((mf p).mpr ⟨hp, hlk, z⟩)
      unfold brkb at nb
      rw [Ne, List.all_eq_true] at nb
      right
      have : ∃ who, who < ws.length ∧ wor tb ws c p who = none := by
        refine Classical.byContradiction fun z => nb fun who hwho => ?_
        cases ev : wor tb ws c p who with
        | some v => rfl
        | none => exact absurd ⟨who, List.mem_range.mp hwho, ev⟩ z
      obtain ⟨who, w1, w2⟩ := this
      refine ⟨who, w1, fun v hv => ?_⟩
      rcases wg p who with ⟨u, f1, f2⟩ | ⟨f1, f2 | f2⟩
      · rw [w2] at f1; cases f1
      · rw [f2] at hv; cases hv
      · rw [f2] at hv; cases hv; omega
  · by_cases q : r < rk
    · obtain ⟨e, he, e2⟩ := h.d r h1 q
      exact ⟨e, (me e).mpr (.inl he), e2⟩
    · cases hf : fs with
      | nil => exact absurd hf hn
      | cons x xs => exact ⟨(x, r), by rw [← hf]; exact (me _).mpr (.inr ⟨by rw [hf]; exact List.mem_cons_self .., by dsimp only; omega⟩), rfl⟩
/-- the loop's state -/
structure RInv (ws : List Int) (c : Option Int) (tb : Tb) (rest fresh : List P2) (rk : Int) : Prop where
  t : TInv ws c tb rk
  re : rest = (allS ws c).filter fun p => (lk tb p).isNone
  fr : fresh = (allS ws c).filter fun p => (lk tb p).isNone && brkb tb ws c p
theorem tab_len {ws : List Int} {c : Option Int} {tb : Tb} {rk : Int} (h : TInv ws c tb rk) (hl : (allS ws c).length ≤ 3000) : tb.length ≤ 3000 := by
  have : (tb.map (·.1)).length ≤ (allS ws c).length := List.Nodup.length_le_of_subset h.nd fun x hx => by
    obtain ⟨e, he, rfl⟩ := List.mem_map.mp hx
    exact h.sub e he
  rw [List.length_map] at this
  omega
theorem filter_and {α : Type} (p q : α → Bool) (l : List α) : (l.filter p).filter q = l.filter fun x => p x && q x := by
  rw [List.filter_filter]
  congr 1
  funext x
  exact Bool.and_comm ..
theorem ranks_eq (ws : List Int) (c : Option Int) (hw : ∀ w ∈ ws, 1 ≤ w) (h1 : 1 ≤ ws.length) (h8 : ws.length ≤ 8) (hc : ∀ n, c = some n → 1 ≤ n) (hm : manyI ws c ≤ 3000) :
    ∃ (tb : Tb) (rk : Int), f_ranks [hallD ws c] = .ok (tabD .ow tb) ∧ TInv ws c tb rk ∧ ∀ p ∈ allS ws c, lk tb p = none → ∃ who, who < ws.length ∧ wor tb ws c p who = none := by
  suffices h : Res.Ok (f_ranks [hallD ws c]) fun d => ∃ (tb : Tb) (rk : Int), d = tabD .ow tb ∧ TInv ws c tb rk ∧ ∀ p ∈ allS ws c, lk tb p = none → ∃ who, who < ws.length ∧ wor tb ws c p who = none from by
    obtain ⟨_, e, tb, rk, rfl, w⟩ := h
    exact ⟨tb, rk, e, w⟩
  have sl : (allS ws c).length ≤ 3000 := by have := allS_len ws c hw hc; omega
  have st := standings_eq ws c hw h8 hc hm
  have isS : ∀ p ∈ allS ws c, p.1.length = ws.length := fun p hp => ((mem_allS ws c hc p).mp hp).1.1
  have co1 : ∀ (tb : Tb) (l : List P2) (t2 : Tg) (x2 x3 x4 x5 : Option D), (∀ p ∈ l, p ∈ allS ws c) → compD (gN 5) (tOf (fCallF f_breakable (fCons (fV 0) (fCons (fV 1) (fCons (fV 5) fNil))))) (fV 5) [some (hallD ws c), some (tabD .ow tb), x2, x3, x4, x5] (l.map stD) = .ok ((l.filter (brkb tb ws c)).map stD) := fun tb l t2 x2 x3 x4 x5 hl =>
    compD_F _ _ fun p hp => by
      have b := breakable_eq (tb := tb) (c := c) (isS p (hl p hp)) (by omega)
      by_cases z : brkb tb ws c p = true
      · simp -implicitDefEqProofs [b, z]
      · simp -implicitDefEqProofs [b, z]
  have co2 : ∀ (tb : Tb) (l : List P2) (x2 x3 x4 x5 : Option D), compD (gN 5) (tOf (fB (opInK true) (fV 5) (fV 1))) (fV 5) [some (hallD ws c), some (tabD .ow tb), x2, x3, x4, x5] (l.map stD) = .ok ((l.filter fun p => (lk tb p).isNone).map stD) := fun tb l x2 x3 x4 x5 =>
    compD_F _ _ fun p hp => by
      cases z : lk tb p with
      | none => simp -implicitDefEqProofs [inK_eq, z]
      | some v => simp -implicitDefEqProofs [inK_eq, z]
  rw [r_ranks]
  unfold g_ranks
  have sm0 : (allS ws c).length ≤ seqMax := by unfold seqMax; omega
  have smf : ∀ q : P2 → Bool, ((allS ws c).filter q).length ≤ seqMax := fun q => by have := List.length_filter_le q (allS ws c); omega
  have dic0 : (D.dic .ow [] : D) = tabD .ow [] := rfl
  simp -implicitDefEqProofs [st, dic0, co1 [] (allS ws c) .ow _ _ _ _ (fun p h => h), smf]
  refine sWhile_P (P := fun r => Res.Ok (toRes r) _) (fun ρ => ∃ tb rest fresh rk x5, ρ = [some (hallD ws c), some (tabD .ow tb), some (.lst .ow (rest.map stD)), some (.int rk), some (.lst .ow (fresh.map stD)), x5] ∧ RInv ws c tb rest fresh rk)
    (fun ρ : DEnv => match ρ[2]? with | some (some (D.lst _ l)) => l.length | _ => 0) ⟨[], allS ws c, _, 1, none, rfl, TInv.start ws c, ?_, ?_⟩ (fun ρ ⟨tb, rest, fresh, rk, x5, h0, hi⟩ => ?_) (by rintro ⟨d, e, _⟩; cases e)
  · exact (List.filter_eq_self.mpr fun p _ => rfl).symm
  · rfl
  · subst h0
    obtain ⟨ht, hr, hf⟩ := hi
    by_cases fe : fresh = []
    · left
      subst fe
      refine ⟨by simp -implicitDefEqProofs [opNe_p], ?_⟩
      simp -implicitDefEqProofs
      refine ⟨tb, rfl, ⟨rk, ht⟩, fun a b hab hl => ?_⟩
      have nb : brkb tb ws c (a, b) ≠ true := fun z => by
        have : (a, b) ∈ (allS ws c).filter fun p => (lk tb p).isNone && brkb tb ws c p := List.mem_filter.mpr ⟨hab, by rw [hl, z]; rfl⟩
        rw [← hf] at this
        cases this
      unfold brkb at nb
      rw [Ne, List.all_eq_true] at nb
      refine Classical.byContradiction fun z => nb fun who hwho => ?_
      cases ev : wor tb ws c (a, b) who with
      | some v => rfl
      | none => exact absurd ⟨who, List.mem_range.mp hwho, ev⟩ z
    · right
      have tl := tab_len ht sl
      have frl : fresh.length ≤ 3000 := by rw [hf]; have := List.length_filter_le (fun p => (lk tb p).isNone && brkb tb ws c p) (allS ws c); omega
      have frn : fresh.Nodup := by rw [hf]; exact (allS_nodup ws c).filter _
      have mf : ∀ p, p ∈ fresh → lk tb p = none := fun p hp => by
        rw [hf, List.mem_filter, Bool.and_eq_true, Option.isNone_iff_eq_none] at hp
        exact hp.2.1
      have loop : ∃ x5', forD (gN 5) (sSetK 1 (fV 5) (fV 3)) (fresh.map stD) [some (hallD ws c), some (tabD .ow tb), some (.lst .ow (rest.map stD)), some (.int rk), some (.lst .fz (fresh.map stD)), x5] =
          .next [some (hallD ws c), some (tabD .ow (tb ++ fresh.map fun q => (q, rk))), some (.lst .ow (rest.map stD)), some (.int rk), some (.lst .fz (fresh.map stD)), x5'] := by
        refine forD_M0 (P := fun r => ∃ x5', r = SR.next [some (hallD ws c), some (tabD .ow (tb ++ fresh.map fun q => (q, rk))), some (.lst .ow (rest.map stD)), some (.int rk), some (.lst .fz (fresh.map stD)), x5']) (fun i ρ => ∃ x5, ρ = [some (hallD ws c), some (tabD .ow (tb ++ (fresh.take i).map fun q => (q, rk))), some (.lst .ow (rest.map stD)), some (.int rk), some (.lst .fz (fresh.map stD)), x5]) ⟨x5, by simp⟩ (fun i p ρ hk ⟨y5, h0⟩ => ?_) (fun ρ ⟨y5, h0⟩ => ?_)
        · subst h0
          have il : i < fresh.length := (List.getElem?_eq_some_iff.mp hk).1
          have pn : lk (tb ++ (fresh.take i).map fun q => (q, rk)) p = none := by
            rw [lk_append, mf p (List.mem_of_getElem? hk), lk_new]
            have : p ∉ fresh.take i := fun z => by
              have nd := frn
              rw [← List.take_append_drop i fresh, List.nodup_append] at nd
              have pe : p = fresh[i] := by rw [List.getElem?_eq_getElem il] at hk; exact (Option.some.inj hk).symm
              exact nd.2.2 p z p (by rw [List.drop_eq_getElem_cons il, ← pe]; exact List.mem_cons_self ..) rfl
            dsimp only
            rw [if_neg this]
          have nx : tb ++ (fresh.take (i + 1)).map (fun q => (q, rk)) = tb ++ (fresh.take i).map (fun q => (q, rk)) ++ [(p, rk)] := by
            rw [take_snoc fresh i p hk, List.map_append, List.append_assoc]
            rfl
          have sl2 : (tb ++ (fresh.take i).map fun q => (q, rk)).length < seqMax := by rw [List.length_append, List.length_map, List.length_take]; unfold seqMax; omega
          rw [nx]
          generalize tb ++ (fresh.take i).map (fun q => (q, rk)) = tb2 at *
          have st2 := setKD_tb tb2 p rk pn
          have ak := allK_tb tb2
          have ln : (tbD tb2).length < seqMax := by unfold tbD; rw [List.length_map]; exact sl2
          refine to_of (ρ' := [some (hallD ws c), some (tabD .ow (tb2 ++ [(p, rk)])), some (.lst .ow (rest.map stD)), some (.int rk), some (.lst .fz (fresh.map stD)), some (stD p)]) ?_ ⟨_, rfl⟩
          unfold tabD
          simp -implicitDefEqProofs [withD_def, ak, ln, st2]
        · subst h0
          rw [List.take_length]
          exact ⟨y5, rfl⟩
      obtain ⟨x5', lp⟩ := loop
      have hres : ∀ p ∈ rest, p ∈ allS ws c := fun p hp => by rw [hr] at hp; exact (List.mem_filter.mp hp).1
      have tR := ht.round h1 (by rw [← hf]; exact fe)
      rw [← hf] at tR
      have rest2 : rest.filter (fun p => (lk (tb ++ fresh.map fun q => (q, rk)) p).isNone) = (allS ws c).filter fun p => (lk (tb ++ fresh.map fun q => (q, rk)) p).isNone := by
        rw [hr, List.filter_filter]
        congr 1
        funext p
        rw [lk_append]
        cases lk tb p <;> simp
      have c2 := fun x4 x5 => co2 (tb ++ fresh.map fun q => (q, rk)) rest (some (.lst .ow (rest.map stD))) (some (.int (rk + 1))) x4 x5
      rw [rest2] at c2
      have c1 := fun x3 x4 x5 => co1 (tb ++ fresh.map fun q => (q, rk)) ((allS ws c).filter fun p => (lk (tb ++ fresh.map fun q => (q, rk)) p).isNone) .ow (some (.lst .ow (((allS ws c).filter fun p => (lk (tb ++ fresh.map fun q => (q, rk)) p).isNone).map stD))) x3 x4 x5 (fun p hp => (List.mem_filter.mp hp).1)
      rw [List.filter_filter] at c1
      have shorter : ((allS ws c).filter fun p => (lk (tb ++ fresh.map fun q => (q, rk)) p).isNone).length < rest.length := by
        rw [← rest2]
        refine List.length_filter_lt_length_iff_exists.mpr ?_
        cases hf2 : fresh with
        | nil => exact absurd hf2 fe
        | cons x xs =>
          have xf : x ∈ fresh := by rw [hf2]; exact List.mem_cons_self ..
          refine ⟨x, ?_, ?_⟩
          · rw [hr, List.mem_filter, mf x xf]
            rw [hf] at xf
            exact ⟨(List.mem_filter.mp xf).1, rfl⟩
          · rw [lk_append, mf x xf, lk_new, ← hf2]
            dsimp only
            rw [if_pos xf]
            simp
      have ne : opNe (.lst .vw (fresh.map stD)) (.lst .ow []) = .ok (.bl true) := by
        rw [opNe_p (by rw [shp_lst, List.all_eq_true]; intro x hx; obtain ⟨p, _, rfl⟩ := List.mem_map.mp hx; exact standD_shp 57 p.1 p.2) rfl]
        cases hf2 : fresh with
        | nil => exact absurd hf2 fe
        | cons x xs => rfl
      refine ⟨by simp -implicitDefEqProofs [ne], ?_⟩
      refine to_of (ρ' := [some (hallD ws c), some (tabD .ow (tb ++ fresh.map fun q => (q, rk))), some (.lst .ow (((allS ws c).filter fun p => (lk (tb ++ fresh.map fun q => (q, rk)) p).isNone).map stD)), some (.int (rk + 1)), some (.lst .ow (((allS ws c).filter fun p => brkb (tb ++ fresh.map fun q => (q, rk)) ws c p && (lk (tb ++ fresh.map fun q => (q, rk)) p).isNone).map stD)), x5']) ?_ ⟨⟨_, _, _, _, _, rfl, tR, rfl, ?_⟩, ?_⟩
      · simp -implicitDefEqProofs [lp, c1, c2, smf]
      · congr 1
        funext p
        exact Bool.and_comm ..
      · simpa using shorter
end Sh
/-! The laws' own turns and worths. -/
namespace Sh
open PySem PySem.Spec PySem.W PyProof.Rows L2 Dl
theorem pair_lt (a b d e : Int) : dataLt (.tuple [.int a, .int b]) (.tuple [.int d, .int e]) = (decide (a < d) || (decide (a = d) && decide (b < e))) := by
  rw [dataLt_tuple]
  by_cases c : a = d
  · subst c
    rw [dataLt_all_yes (x := .int a) (y := .int a) rfl (by simp [PyData.eqv])]
    by_cases c2 : b = e
    · subst c2
      rw [dataLt_all_yes (x := .int b) (y := .int b) rfl (by simp [PyData.eqv])]
      simp
      rfl
    · rw [dataLt_all_no (x := .int b) (y := .int e) rfl (by simp [PyData.eqv, c2]), dataLt_int]
      simp
  · rw [dataLt_all_no (x := .int a) (y := .int d) rfl (by simp [PyData.eqv, c]), dataLt_int]
    simp [c]
def toldD : Option Int → D
  | none => .tup [.int 1, .int 0]
  | some v => .tup [.int 0, .int v]
@[simp] theorem toldD_re (t : Tg) (c : Option Int) : (toldD c).re t = toldD c := by cases c <;> rfl
@[simp] theorem toldD_vw (c : Option Int) : vwOf (toldD c) = toldD c := by cases c <;> rfl
@[simp] theorem toldD_tg (c : Option Int) : (toldD c).tg = .fz := by cases c <;> rfl
@[simp] theorem toldD_isN (c : Option Int) : (toldD c).isN = false := by cases c <;> rfl
@[simp] theorem toldD_flat (c : Option Int) : (toldD c).flat = true := by cases c <;> rfl
theorem told_lt (l f : Option Int) : dataLt (toldD l).py (toldD f).py = und l f := by
  cases l <;> cases f
  · exact (pair_lt 1 0 1 0).trans (by simp [und])
  · exact (pair_lt 1 0 0 _).trans (by simp [und])
  · exact (pair_lt 0 _ 1 0).trans (by simp [und])
  · exact (pair_lt 0 _ 0 _).trans (by simp [und])
theorem told_like (os : List (Option Int)) : likeG (os.map toldD) = true := by
  unfold likeG
  rw [List.all_eq_true]
  intro x hx
  obtain ⟨n, _, rfl⟩ := List.mem_map.mp hx
  simp only [Bool.and_eq_true]
  refine ⟨by cases n <;> rfl, by cases n <;> rfl, by cases n <;> rfl, ?_⟩
  rw [List.all_eq_true]
  intro y hy
  obtain ⟨m, _, rfl⟩ := List.mem_map.mp hy
  cases n <;> cases m <;> rfl
theorem min2_told (f l : Option Int) : min2G (toldD f) (toldD l) = .ok (toldD (if und l f = true then l else f)) := by
  show best2 _ _ _ = _
  unfold best2
  rw [if_pos (show likeG [toldD f, toldD l] = true from told_like [f, l])]
  show Res.ok (if dataLt (toldD l).py (toldD f).py = true then toldD l else toldD f) = _
  rw [told_lt]
  by_cases c : und l f = true
  · rw [if_pos c, if_pos c]
  · rw [if_neg c, if_neg c]
theorem lt_told (l f : Option Int) : opLtG (toldD l) (toldD f) = .ok (.bl (und l f)) := by
  show opCm _ _ _ = _
  unfold opCm
  rw [if_pos (by cases l <;> cases f <;> rfl)]
  show Res.ok (D.bl (dataLt (toldD l).py (toldD f).py)) = _
  rw [told_lt]
/-- the best of a row of worths -/
theorem max1_told (t : Tg) (o : Option Int) (os : List (Option Int)) : max1G (.lst t ((o :: os).map toldD)) = .ok (toldD (os.foldl (fun a y => if und a y = true then y else a) o)) := by
  show bestL _ _ = _
  rw [List.map_cons]
  unfold bestL
  dsimp only
  rw [if_pos (show likeG (toldD o :: os.map toldD) = true from told_like (o :: os))]
  congr 1
  induction os generalizing o with
  | nil => rfl
  | cons y ys ih =>
    rw [List.map_cons]
    show bestOf _ (if dataLt (toldD o).py (toldD y).py = true then toldD y else toldD o) (ys.map toldD) = _
    rw [told_lt, List.foldl_cons]
    by_cases c : und o y = true
    · rw [if_pos c, if_pos c]; exact ih y
    · rw [if_neg c, if_neg c]; exact ih o
section
variable {ws : List Int} {c : Option Int} {p : P2} {tb : Tb}
theorem law_behind_eq (who : Nat) (lost : Bool) (h : who < ws.length) (hs : LeftOk ws p.1) (h8 : ws.length ≤ 1000) (hm : lost = true → mayL c p.2 = true) :
    f_law_behind [hallD ws c, stD p, .int who, .bl lost] = .ok (standO (aftO ws p.1 c p.2 who lost)) := by
  rw [r_law_behind]
  unfold g_law_behind
  obtain ⟨hl, hv⟩ := hs
  have ft : fits62 (ws.length : Int) := ⟨by omega, by omega⟩
  have k0 : opIdxK (hallD ws c) (.int 0) = .ok (.tup (ws.map .int)) := hallD_0 ws c
  have k1 : opIdxK (hallD ws c) (.int 1) = .ok (calmD c) := hallD_1 ws c
  have s0 : opIdxK (stD p) (.int 0) = .ok (.tup (p.1.map .int)) := standD_0 p.1 p.2
  have s1 : opIdxK (stD p) (.int 1) = .ok (.int p.2) := standD_1 p.1 p.2
  have lb := leftB_len ws p.1 who lost
  simp -implicitDefEqProofs [k0, ft, upTo_map]
  refine forD_M (P := fun r => toRes r = _) (fun i ρ => (∃ x5, ρ = [some (hallD ws c), some (stD p), some (.int who), some (.bl lost), some (.lst .ow (((leftB ws p.1 who lost).take i).map .int)), x5]) ∧ ∀ k, k < i → leftAt ws p.1 who lost k ≠ 0)
    ⟨⟨none, by simp⟩, fun k hk => by omega⟩ (fun i k ρ hk ⟨⟨x5, h0⟩, h1⟩ => ?_) (fun ρ ⟨⟨x5, h0⟩, h1⟩ => ?_)
  · subst h0
    obtain ⟨hi, rfl⟩ : i < ws.length ∧ k = i := by
      obtain ⟨q1, q2⟩ := List.getElem?_eq_some_iff.mp hk
      simp at q1 q2
      exact ⟨q1, q2.symm⟩
    have i1 := idx_intsT ws k hi
    have i2 := idx_intsT p.1 k (by omega)
    have la := leftB_at ws p.1 who lost k (by omega) h
    have nx := take_snoc (leftB ws p.1 who lost) k _ la
    have sm : ((leftB ws p.1 who lost).take k).length < seqMax := by rw [List.length_take]; unfold seqMax; omega
    rw [nx]
    generalize (leftB ws p.1 who lost).take k = acc at *
    have hvk := hv k hi
    have cond : ∀ z : Int, leftAt ws p.1 who lost k = z → z ≠ 0 → ((∃ x5, [some (hallD ws c), some (stD p), some (D.int who), some (D.bl lost), some (D.lst .ow (acc.map .int ++ [.int z])), some (D.int k)] = [some (hallD ws c), some (stD p), some (.int who), some (.bl lost), some (.lst .ow ((acc ++ [leftAt ws p.1 who lost k]).map .int)), x5]) ∧ ∀ j, j < k + 1 → leftAt ws p.1 who lost j ≠ 0) := fun z e nz => by
      refine ⟨⟨some (.int k), by rw [e]; simp⟩, fun j hj => ?_⟩
      by_cases d : j = k
      · rw [d, e]; exact nz
      · exact h1 j (by omega)
    by_cases c1 : k = who ∧ lost = false
    · obtain ⟨rfl, rfl⟩ := c1
      have e : leftAt ws p.1 k false k = ws.getD k 0 := if_pos ⟨rfl, rfl⟩
      refine to_of ?_ (cond (ws.getD k 0) e (by omega))
      generalize ws.getD k 0 = w at *
      simp -implicitDefEqProofs [k0, i1, withL_def, sm]
    · have e : leftAt ws p.1 who lost k = p.1.getD k 0 - 1 := if_neg c1
      have cc : ((k : Int) = who ∧ lost = false) ↔ False := ⟨fun ⟨a, b⟩ => c1 ⟨by omega, b⟩, False.elim⟩
      by_cases c2 : p.1.getD k 0 = 1
      · have z : (0 : Int) ∈ leftB ws p.1 who lost := (zero_mem h).mpr ⟨k, by omega, by rw [e, c2]; rfl⟩
        have an : aftO ws p.1 c p.2 who lost = none := by unfold aftO; rw [if_pos z]
        rw [an]
        rw [c2] at i2
        by_cases kw : (k : Int) = who
        · have lt : lost = true := by cases lost with | true => rfl | false => exact absurd ⟨by omega, rfl⟩ c1
          subst lt
          obtain rfl : k = who := by omega
          simp -implicitDefEqProofs [s0, i2, standO]
        · simp -implicitDefEqProofs [kw, s0, i2, standO]
      · refine to_of ?_ (cond (p.1.getD k 0 - 1) e (by omega))
        generalize p.1.getD k 0 = l at *
        by_cases kw : (k : Int) = who
        · have lt : lost = true := by cases lost with | true => rfl | false => exact absurd ⟨by omega, rfl⟩ c1
          subst lt
          obtain rfl : k = who := by omega
          simp -implicitDefEqProofs [s0, i2, c2, withL_def, sm]
        · simp -implicitDefEqProofs [kw, s0, i2, c2, withL_def, sm]
  · subst h0
    rw [List.length_range] at *
    have nz : ¬ (0 : Int) ∈ leftB ws p.1 who lost := fun z => by
      obtain ⟨k, hk, e⟩ := (zero_mem h).mp z
      exact h1 k (by omega) e
    have tk : (leftB ws p.1 who lost).take ws.length = leftB ws p.1 who lost := List.take_of_length_le (by omega)
    have sm : (leftB ws p.1 who lost).length ≤ seqMax := by unfold seqMax; omega
    unfold aftO
    rw [if_neg nz, tk]
    generalize leftB ws p.1 who lost = ms at *
    cases lost with
    | true =>
      cases c with
      | none => exact absurd (hm rfl) (by simp [mayL])
      | some n => simp -implicitDefEqProofs [sm, k1, standO, standD_t, calmD]
    | false =>
      simp -implicitDefEqProofs [sm, s1, standO, standD_t]
      split <;> split <;> first | rfl | omega
theorem law_told_eq (o : Option P2) : f_law_told [tabD .fz tb, standO o] = .ok (toldD (match o with
    | none => some 0
    | some q => lk tb q)) := by
  rw [r_law_told]
  unfold g_law_told
  cases o with
  | none => simp -implicitDefEqProofs [standO, toldD]
  | some q =>
    have e : standO (some q) = stD q := rfl
    rw [e]
    cases h : lk tb q with
    | none => simp -implicitDefEqProofs [inK_eq, h, toldD]
    | some v =>
      have i := idxK_eq .fz tb q v h
      simp -implicitDefEqProofs [inK_eq, h, toldD, i]
theorem law_worth_eq (who : Nat) (h : who < ws.length) (hs : LeftOk ws p.1) (h8 : ws.length ≤ 1000) : f_law_worth [hallD ws c, tabD .fz tb, stD p, .int who] = .ok (toldD (wor tb ws c p who)) := by
  rw [r_law_worth]
  unfold g_law_worth
  have b1 := law_behind_eq (c := c) (p := p) who false h hs h8 (fun z => by cases z)
  have t1 : f_law_told [tabD .fz tb, standO (aftO ws p.1 c p.2 who false)] = .ok (toldD (oc tb ws c p who false)) := law_told_eq _
  have k1 : opIdxK (hallD ws c) (.int 1) = .ok (calmD c) := hallD_1 ws c
  have s1 : opIdxK (stD p) (.int 1) = .ok (.int p.2) := standD_1 p.1 p.2
  unfold wor
  by_cases m : mayL c p.2 = true
  · have b2 := law_behind_eq (c := c) (p := p) who true h hs h8 (fun _ => m)
    have t2 : f_law_told [tabD .fz tb, standO (aftO ws p.1 c p.2 who true)] = .ok (toldD (oc tb ws c p who true)) := law_told_eq _
    have mm : c.isSome = true ∧ p.2 = 0 := by
      cases c with
      | none => simp [mayL] at m
      | some n => simpa [mayL] using m
    have mn := min2_told (oc tb ws c p who false) (oc tb ws c p who true)
    rw [show (if mayL c p.2 = true ∧ und (oc tb ws c p who true) (oc tb ws c p who false) = true then oc tb ws c p who true else oc tb ws c p who false) = (if und (oc tb ws c p who true) (oc tb ws c p who false) = true then oc tb ws c p who true else oc tb ws c p who false) by simp [m]]
    have s2 : opIdxK (stD p) (.int 1) = .ok (.int 0) := by rw [s1, mm.2]
    simp -implicitDefEqProofs [b1, t1, k1, s2, mm.1, b2, t2, mn]
  · have mm : ¬ (c.isSome = true ∧ p.2 = 0) := fun ⟨a, b⟩ => m (by
      cases c with
      | none => cases a
      | some n => simp [mayL, b])
    rw [if_neg (fun z => m z.1)]
    by_cases cs : c.isSome = true
    · have q0 : ¬ p.2 = 0 := fun z => mm ⟨cs, z⟩
      simp -implicitDefEqProofs [b1, t1, k1, s1, cs, q0]
    · simp -implicitDefEqProofs [b1, t1, k1, cs]
theorem law_standings_eq (ws : List Int) (c : Option Int) (hw : ∀ w ∈ ws, 1 ≤ w) (h8 : ws.length ≤ 8) (hc : ∀ n, c = some n → 1 ≤ n) (hm : manyI ws c ≤ 3000) :
    f_law_standings [hallD ws c] = .ok (.lst .ow ((allS ws c).map stD)) := by
  have pm : prodI ws ≤ manyI ws c := by
    have := prodI_pos ws hw
    cases c with
    | none => exact Int.le_refl _
    | some n =>
      have := hc n rfl
      have := Int.mul_le_mul_of_nonneg_left (show 1 ≤ n + 1 by omega) (show 0 ≤ prodI ws by omega)
      show prodI ws ≤ prodI ws * (n + 1)
      omega
  have wm := prodI_mem ws hw
  have cm : ∀ n, c = some n → n ≤ 3000 := fun n e => by
    subst e
    have h1 := prodI_pos ws hw
    have h2 := hc n rfl
    have := Int.mul_le_mul_of_nonneg_right h1 (show 0 ≤ n + 1 by omega)
    have : manyI ws (some n) = prodI ws * (n + 1) := rfl
    omega
  have k0 : opIdxK (hallD ws c) (.int 0) = .ok (.tup (ws.map .int)) := hallD_0 ws c
  have k1 : opIdxK (hallD ws c) (.int 1) = .ok (calmD c) := hallD_1 ws c
  rw [r_law_standings]
  unfold g_law_standings
  simp -implicitDefEqProofs [k0]
  rw [show ([D.tup []] : List D) = (allL (ws.take 0)).map tupI by simp [allL, tupI]]
  refine forD_M (P := fun r => toRes r = _) (fun i ρ => ∃ t x2 x3 x4 x5, ρ = [some (hallD ws c), some (.lst t ((allL (ws.take i)).map tupI)), x2, x3, x4, x5, none, none] ∧ (t = .ow ∨ t = .fz)) ⟨_, _, _, _, _, rfl, .inl rfl⟩ (fun i w ρ hk ⟨t, x2, x3, x4, x5, h0, ht⟩ => ?_) (fun ρ ⟨t, x2, x3, x4, x5, h0, ht⟩ => ?_)
  · subst h0
    have w1 := hw w (List.mem_of_getElem? hk)
    have w2 := wm w (List.mem_of_getElem? hk)
    have nx : allL (ws.take (i + 1)) = addL (allL (ws.take i)) w := by rw [take_snoc ws i w hk, allL_snoc]
    have ln := allL_take_le ws hw (i + 1)
    rw [nx] at ln
    have ll := allL_lens (ws.take i)
    have tl : (ws.take i).length ≤ 8 := by rw [List.length_take]; omega
    rw [nx]
    have := fun Q => lefts_loop (P := fun r => SR.to r (fun r => toRes r = Res.ok (D.lst Tg.ow ((allS ws c).map stD))) Q (fun ρ => ∃ t x2 x3 x4 x5, ρ = [some (hallD ws c), some (.lst t ((addL (allL (ws.take i)) w).map tupI)), x2, x3, x4, x5, none, none] ∧ (t = .ow ∨ t = .fz)))
      (g2 := sFrz 3 (sSet 1 (fV 3))) (allL (ws.take i)) w (by omega) (by omega) (by omega) (fun l hl => by rw [ll l hl]; omega) [some (hallD ws c), some (.lst .fz ((allL (ws.take i)).map tupI)), some (.int w)] [none, none] rfl _ rfl rfl x4 x5 (fun x4 x5 => by
        exact to_of (ρ' := [some (hallD ws c), some (.lst .fz ((addL (allL (ws.take i)) w).map tupI)), some (.int w), some (.lst .fz ((addL (allL (ws.take i)) w).map tupI)), x4, x5, none, none]) (by simp -implicitDefEqProofs) ⟨.fz, _, _, _, _, rfl, .inr rfl⟩)
    rcases ht with rfl | rfl
    · simp -implicitDefEqProofs
      exact to_mono (this _) fun ρ ⟨t, a, b, d, e, h, ht⟩ => ⟨t, ⟨a, b, d, e, h⟩, ht⟩
    · simp -implicitDefEqProofs
      exact to_mono (this _) fun ρ ⟨t, a, b, d, e, h, ht⟩ => ⟨t, ⟨a, b, d, e, h⟩, ht⟩
  · subst h0
    rw [List.take_length]
    cases c with
    | none =>
      have aS : allS ws none = (allL ws).map fun l => (l, (0 : Int)) := by
        unfold allS
        rw [List.map_eq_flatMap]
        rfl
      have sz : (allL ws).length ≤ seqMax := by have := allL_len ws hw; unfold seqMax; omega
      have co : ∀ (t : Tg) (a b d e f g : Option D), compD (gN 4) tYesD (fTup (fCons (fV 4) (fCons (fC (.int 0)) fNil))) [a, some (.lst t ((allL ws).map tupI)), b, d, e, f, g, none] ((allL ws).map tupI) = .ok ((allS ws none).map stD) := fun t a b d e f g => by
        rw [aS, List.map_map]
        exact compD_M _ fun l hl => by simp -implicitDefEqProofs [tupI, stD, standD]
      rcases ht with rfl | rfl
      · simp -implicitDefEqProofs [k1, calmD, co, aS, sz]
      · simp -implicitDefEqProofs [k1, calmD, co, aS, sz]
    | some n =>
      have n1 := hc n rfl
      have n2 := cm n rfl
      have aS : allS ws (some n) = (allL ws).flatMap fun l => (List.range (n + 1).toNat).map fun i : Nat => (l, (i : Int)) := rfl
      have sz : (allS ws (some n)).length ≤ 3000 := by have := allS_len ws (some n) hw hc; omega
      have ft : fits62 (n + 1) := ⟨by omega, by omega⟩
      have up : upTo 0 (n + 1).toNat = (List.range (n + 1).toNat).map fun i : Nat => D.int i := upTo_map _
      have k1' : opIdxK (hallD ws (some n)) (.int 1) = .ok (.int n) := hallD_1 ws (some n)
      have cN : (calmD (some n)).isN = false := rfl
      rw [aS] at sz ⊢
      have body : toRes ((forD (gN 4) (sFor (gN 7) (fRng rng1 (fCons (fB opAdd (fB opIdxK (fV 0) (fC (.int 1))) (fC (.int 1))) fNil)) (sApp 6 (fTup (fCons (fV 4) (fCons (fV 7) fNil))))) ((allL ws).map tupI) [some (hallD ws (some n)), some (.lst .fz ((allL ws).map tupI)), x2, x3, x4, x5, some (.lst .ow []), none]).seq (sRetV 6)) = .ok (.lst .ow (((allL ws).flatMap fun l => (List.range (n + 1).toNat).map fun i : Nat => (l, (i : Int))).map stD)) := by
        refine forD_M (P := fun r => toRes r = _) (fun i ρ => ∃ x4 x7, ρ = [some (hallD ws (some n)), some (.lst .fz ((allL ws).map tupI)), x2, x3, x4, x5, some (.lst .ow ((((allL ws).take i).flatMap fun l => (List.range (n + 1).toNat).map fun i : Nat => (l, (i : Int))).map stD)), x7]) ⟨_, _, rfl⟩ (fun i l ρ hk ⟨y4, y7, h0⟩ => ?_) (fun ρ ⟨y4, y7, h0⟩ => ?_)
        · subst h0
          have tot := flatMap_take_len (fun l => (List.range (n + 1).toNat).map fun i : Nat => (l, (i : Int))) (allL ws) (i + 1)
          rw [flatMap_take _ _ i l hk, List.length_append, List.length_map, List.length_range] at tot
          rw [flatMap_take _ _ i l hk]
          generalize (((allL ws).take i).flatMap fun l => (List.range (n + 1).toNat).map fun i : Nat => (l, (i : Int))) = acc at *
          have inner : ∀ (Q : DS) (y7 : Option D), SR.to (forD (gN 7) (sApp 6 (fTup (fCons (fV 4) (fCons (fV 7) fNil)))) ((List.range (n + 1).toNat).map fun i : Nat => D.int i) [some (hallD ws (some n)), some (.lst .fz ((allL ws).map tupI)), x2, x3, some (tupI l), x5, some (.lst .ow (acc.map stD)), y7]) (fun r => toRes r = .ok (.lst .ow (((allL ws).flatMap fun l => (List.range (n + 1).toNat).map fun i : Nat => (l, (i : Int))).map stD))) Q
              (fun ρ => ∃ x4 x7, ρ = [some (hallD ws (some n)), some (.lst .fz ((allL ws).map tupI)), x2, x3, x4, x5, some (.lst .ow ((acc ++ (List.range (n + 1).toNat).map fun i : Nat => (l, (i : Int))).map stD)), x7]) := fun Q y7 => by
            refine forD_M0 (P := fun r => SR.to r _ Q _) (fun j ρ => ∃ y7, ρ = [some (hallD ws (some n)), some (.lst .fz ((allL ws).map tupI)), x2, x3, some (tupI l), x5, some (.lst .ow ((acc ++ (List.range j).map fun i : Nat => (l, (i : Int))).map stD)), y7]) ⟨y7, by simp⟩ (fun j q ρ hj ⟨y, h0⟩ => ?_) (fun ρ ⟨y, h0⟩ => ?_)
            · subst h0
              obtain ⟨jl, rfl⟩ : j < (n + 1).toNat ∧ q = j := by
                obtain ⟨q1, q2⟩ := List.getElem?_eq_some_iff.mp hj
                simp at q1 q2
                exact ⟨by omega, q2.symm⟩
              have sm : acc.length + q < seqMax := by unfold seqMax; omega
              rw [List.range_succ]
              refine to_of (ρ' := [some (hallD ws (some n)), some (.lst .fz ((allL ws).map tupI)), x2, x3, some (tupI l), x5, some (.lst .ow ((acc ++ (List.range q ++ [q]).map fun i : Nat => (l, (i : Int))).map stD)), some (.int q)]) ?_ ⟨_, rfl⟩
              simp -implicitDefEqProofs [withL_def, tupI, sm, stD, standD]
            · subst h0
              rw [List.length_range]
              exact ⟨_, _, rfl⟩
          simp -implicitDefEqProofs [k1', ft, up]
          refine to_mono (inner _ _) fun ρ ⟨a, b, h⟩ => ?_
          rw [h]
          simp
        · subst h0
          rw [List.take_length]
          simp -implicitDefEqProofs
      rcases ht with rfl | rfl
      · simp -implicitDefEqProofs [k1', cN]
        exact body
      · simp -implicitDefEqProofs [k1', cN]
        exact body
end
end Sh
/-! The halls of the laws about ranks. -/
namespace Sh
open PySem PySem.Spec PySem.W PyProof.Rows L2 Dl
structure HallS (ws : List Int) (c : Option Int) : Prop where
  w1 : ∀ w ∈ ws, 1 ≤ w
  l1 : 1 ≤ ws.length
  l8 : ws.length ≤ 8
  c1 : ∀ n, c = some n → 1 ≤ n
  many : manyI ws c ≤ 3000
/-- the law's halls: few standings -/
def bnd (n : Nat) : Int := if n = 1 then 61 else if n = 4 then 256 else if n ≤ 3 then 150 else 54
theorem bnd_le (n : Nat) : bnd n ≤ 256 := by unfold bnd; split <;> (try split) <;> (try split) <;> omega
structure HallT (ws : List Int) (c : Option Int) : Prop where
  w1 : ∀ w ∈ ws, 1 ≤ w
  l1 : 1 ≤ ws.length
  l8 : ws.length ≤ 8
  c1 : ∀ n, c = some n → 1 ≤ n
  tight : manyI ws c ≤ bnd ws.length
theorem HallT.s {ws : List Int} {c : Option Int} (h : HallT ws c) : HallS ws c := ⟨h.w1, h.l1, h.l8, h.c1, by have := h.tight; have := bnd_le ws.length; omega⟩
theorem bnd_w {n : Nat} (h : 2 ≤ n) (h4 : n ≤ 4) : 150 ≤ bnd n := by
  obtain rfl | rfl | rfl : n = 2 ∨ n = 3 ∨ n = 4 := by omega
  · decide
  · decide
  · decide
theorem bnd_4 {n : Nat} (h : 4 ≤ n) : 54 ≤ bnd n := by
  unfold bnd
  rw [if_neg (by omega)]
  by_cases c : n = 4
  · rw [if_pos c]; decide
  · rw [if_neg c, if_neg (by omega)]; decide
theorem law_cell_ex (ns : List Int) (z : Int) (hz : 0 ≤ z) : ∃ c, f_law_cell [.lst .fz (ns.map .int), .int z] = .ok (.int c) := by
  obtain ⟨k, rfl⟩ := Int.eq_ofNat_of_zero_le hz
  refine ⟨ns.getD k 0, ?_⟩
  rw [r_law_cell]
  unfold g_law_cell
  by_cases h : k < ns.length
  · simp [h, idx_ints]
  · simp [h, List.getD_eq_getElem?_getD]
theorem idx_last (t : Tg) (l : List D) (d : D) : opIdx (.lst t (l ++ [d])) (.int (-1)) = .ok d := by
  unfold opIdx
  dsimp only
  rw [L2.atI_last]
theorem prodI_set (l : List Int) (k : Nat) (v : Int) (h : ∀ w ∈ l, 1 ≤ w) (hv : 1 ≤ v) : prodI (l.set k v) ≤ prodI l * v := by
  induction l using snoc_ind with
  | h0 => simp [prodI]; exact hv
  | h1 l a ih =>
    have hl : ∀ w ∈ l, 1 ≤ w := fun w hw => h w (List.mem_append_left _ hw)
    have p1 := prodI_pos l hl
    have a1 := h a (by simp)
    by_cases c : k < l.length
    · rw [List.set_append_left _ _ c, prodI_snoc, prodI_snoc]
      have := Int.mul_le_mul_of_nonneg_right (ih hl) (show 0 ≤ a by omega)
      rw [Int.mul_assoc, Int.mul_comm a v, ← Int.mul_assoc]
      exact this
    · by_cases d : k = l.length
      · subst d
        rw [List.set_append_right _ _ (by omega), Nat.sub_self]
        show prodI (l ++ [v]) ≤ _
        rw [prodI_snoc, prodI_snoc]
        refine Int.mul_le_mul_of_nonneg_right ?_ (by omega)
        have := Int.mul_le_mul_of_nonneg_left a1 (show 0 ≤ prodI l by omega)
        omega
      · rw [List.set_eq_of_length_le (by simp; omega)]
        have p2 := prodI_pos (l ++ [a]) h
        have := Int.mul_le_mul_of_nonneg_left hv (show 0 ≤ prodI (l ++ [a]) by omega)
        omega
theorem law_wide_eq (cs : List Int) (hl : cs.length = 7) : Res.Ok (f_law_wide [.lst .fz (cs.map .int)]) fun d => ∃ ws c, d = hallD ws c ∧ HallT ws c := by
  rw [r_law_wide]
  unfold g_law_wide
  have i6 := idx_ints .fz cs 6 (by omega)
  generalize cs.getD 6 0 = c6 at *
  obtain ⟨m, hm⟩ : ∃ m : Nat, (m : Int) = 2 + c6 % 3 := ⟨(2 + c6 % 3).toNat, by omega⟩
  have cut : Dl.cutD (cs.map D.int) none (some (2 + c6 % 3)) = (cs.take m).map D.int := by rw [← hm, cut_head, List.map_take]
  have i6' : opIdx (.lst .fz (cs.map .int)) (.int 6) = .ok (.int c6) := i6
  simp -implicitDefEqProofs [-List.map_take, i6', cut]
  refine forD_M (P := fun r => Res.Ok (toRes r) _) (fun i ρ => ∃ (room : Int) (ws : List Int) (x3 : Option D), ρ = [some (.lst .fz (cs.map .int)), some (.int room), some (.lst .ow (ws.map .int)), x3] ∧ ws.length = i ∧ 1 ≤ room ∧ (∀ w ∈ ws, 1 ≤ w) ∧ prodI ws * room ≤ 150) ⟨150, [], none, rfl, rfl, by omega, (fun w h => by cases h), by decide⟩ (fun i z ρ hk ⟨room, ws, x3, h0, h1, h2, h3, h4⟩ => ?_) (fun ρ ⟨room, ws, x3, h0, h1, h2, h3, h4⟩ => ?_)
  · subst h0
    have il : i < 7 := by have := (List.getElem?_eq_some_iff.mp hk).1; rw [List.length_take] at this; omega
    have sm : ws.length < seqMax := by unfold seqMax; omega
    obtain ⟨w, hw⟩ : ∃ w, 1 + z % (if (40 : Int) < room then 40 else room) = w := ⟨_, rfl⟩
    have m0 : 0 < (if (40 : Int) < room then (40 : Int) else room) := by split <;> omega
    have w1 : 1 ≤ w ∧ w ≤ room := by
      have a := Int.emod_nonneg z (show (if (40 : Int) < room then (40 : Int) else room) ≠ 0 by omega)
      have b := Int.emod_lt_of_pos z m0
      split at a <;> split at b <;> split at hw <;> omega
    have pos : 1 ≤ room / w := Int.le_ediv_of_mul_le (by omega) (by omega)
    have dm := Int.ediv_mul_le room (show w ≠ 0 by omega)
    have p1 := prodI_pos ws h3
    have pw : prodI (ws ++ [w]) * (room / w) ≤ 150 := by
      rw [prodI_snoc, Int.mul_assoc, Int.mul_comm w]
      have := Int.mul_le_mul_of_nonneg_left dm (show 0 ≤ prodI ws by omega)
      omega
    have sw : Sm 10 w := sm_pow (by omega) (by
      have : room ≤ prodI ws * room := by have := Int.mul_le_mul_of_nonneg_right p1 (show 0 ≤ room by omega); omega
      omega)
    have fd : opFdiv (.int room) (.int w) = .ok (.int (room / w)) := fdiv_sm (by omega) (sw.mono (by decide))
    refine to_of (ρ' := [some (.lst .fz (cs.map .int)), some (.int (room / w)), some (.lst .ow ((ws ++ [w]).map .int)), some (.int z)]) ?_ ⟨_, _, _, rfl, by simp [h1], pos, fun v hv => ?_, pw⟩
    · have mg : min2G (.int room) (.int 40) = .ok (.int (if (40 : Int) < room then 40 else room)) := by rw [min2G_i]
      simp -implicitDefEqProofs [-min2G_i, mg, m0, hw, withL_def, sm, idx_last, fd]
    · rcases List.mem_append.mp hv with q | q
      · exact h3 v q
      · cases List.mem_singleton.mp q; exact w1.1
  · subst h0
    have l2 : ws.length = m := by rw [h1, List.length_take]; omega
    have p1 := prodI_pos ws h3
    have sm : ws.length ≤ seqMax := by unfold seqMax; omega
    have base : prodI ws ≤ 150 := by
      have := Int.mul_le_mul_of_nonneg_left h2 (show 0 ≤ prodI ws by omega)
      omega
    have none_ok : HallT ws none := ⟨h3, by omega, by omega, fun n z => (by cases z), by show prodI ws ≤ bnd ws.length; have := bnd_w (n := ws.length) (by omega) (by omega); omega⟩
    by_cases a : room < 2
    · simp -implicitDefEqProofs [a, sm]
      exact ⟨ws, none, rfl, none_ok⟩
    · by_cases b : c6 / 3 % 2 = 0
      · simp -implicitDefEqProofs [a, b, sm, i6']
        exact ⟨ws, none, rfl, none_ok⟩
      · simp -implicitDefEqProofs [a, b, sm, i6', show 0 < room - 1 by omega, show (1 : Int) < room by omega]
        refine ⟨ws, some (1 + c6 / 6 % (room - 1)), rfl, h3, by omega, by omega, fun n z => ?_, ?_⟩
        · cases z
          have := Int.emod_nonneg (c6 / 6) (show room - 1 ≠ 0 by omega)
          omega
        · show prodI ws * (1 + c6 / 6 % (room - 1) + 1) ≤ bnd ws.length
          have bw := bnd_w (n := ws.length) (by omega) (by omega)
          have := Int.emod_lt_of_pos (c6 / 6) (show 0 < room - 1 by omega)
          have := Int.mul_le_mul_of_nonneg_left (show 1 + c6 / 6 % (room - 1) + 1 ≤ room by omega) (show 0 ≤ prodI ws by omega)
          omega
theorem seq_seq (r : SR) (f g : DS) : (r.seq f).seq g = r.seq (fun ρ => (f ρ).seq g) := by cases r <;> rfl
theorem law_hall_eqT (ns : List Int) : Res.Ok (f_law_hall [.lst .fz (ns.map .int)]) fun d => ∃ ws c, d = hallD ws c ∧ HallT ws c := by
  rw [r_law_hall]
  unfold g_law_hall
  obtain ⟨c0, e0⟩ := law_cell_ex ns 0 (by omega)
  obtain ⟨c1, e1⟩ := law_cell_ex ns 1 (by omega)
  obtain ⟨k, hk⟩ : ∃ k, c0 % 24 = k := ⟨_, rfl⟩
  have k0 : 0 ≤ k ∧ k < 24 := by omega
  have ft7 : fits62 (7 : Int) := ⟨by decide, by decide⟩
  have ft3 : fits62 (3 : Int) := ⟨by decide, by decide⟩
  simp -implicitDefEqProofs [e0, e1, hk, upTo_map, ft7]
  generalize hco : compD _ _ _ _ (List.map (fun i : Nat => D.int i) (List.range 7)) = r
  obtain ⟨cs, q1, cl⟩ : ∃ cs : List Int, r = .ok (cs.map .int) ∧ cs.length = 7 := by
    rw [← hco]
    obtain ⟨cs, a, b, _⟩ := compD_E (t := gN 4) (tt := tYesD) (el := fCallF f_law_cell (fCons (fV 0) (fCons (fB opAdd (fC (.int 2)) (fV 4)) fNil))) (ρ := [some (.lst .fz (ns.map .int)), some (.int k), some (.int c1), none, none, none, none, none]) (dec := fun i : Nat => D.int i) (enc := D.int) (xs := List.range 7) (Q := fun _ _ => True) (fun z hz => by
      obtain ⟨v, ev⟩ := law_cell_ex ns (2 + (z : Int)) (by omega)
      exact ⟨v, by simp -implicitDefEqProofs [ev], trivial⟩)
    exact ⟨cs, a, by rw [b]; rfl⟩
  subst q1
  have sm7 : cs.length ≤ seqMax := by unfold seqMax; omega
  have wide := law_wide_eq cs cl
  generalize hE : sSeq (sIf (tOf (fB opEq (fB opMod (fV 2) (fC (.int 3))) (fC (.int 0)))) _ _) _ = E
  have hallEnd : ∀ (ws : List Int) (most : Int) (a0 a3 a4 a6 : Option D), (∀ w ∈ ws, 1 ≤ w) → 1 ≤ ws.length → ws.length ≤ 8 → 1 ≤ most → most ≤ 10 → prodI ws * (most + 1) ≤ bnd ws.length → Res.Ok (toRes (E [a0, some (.int k), some (.int c1), a3, a4, some (.lst .ow (ws.map .int)), a6, some (.int most)])) fun d => ∃ ws c, d = hallD ws c ∧ HallT ws c := fun ws most a0 a3 a4 a6 h1 h2 h3 h4 h5 h6 => by
    subst hE
    have sm : ws.length ≤ seqMax := by unfold seqMax; omega
    have p1 := prodI_pos ws h1
    by_cases b : c1 % 3 = 0
    · simp -implicitDefEqProofs [b, sm]
      refine ⟨ws, none, rfl, h1, h2, h3, fun n z => (by cases z), ?_⟩
      show prodI ws ≤ bnd ws.length
      have := Int.mul_le_mul_of_nonneg_left (show 1 ≤ most + 1 by omega) (show 0 ≤ prodI ws by omega)
      omega
    · simp -implicitDefEqProofs [b, sm, show 0 < most by omega]
      refine ⟨ws, some (1 + c1 / 3 % most), rfl, h1, h2, h3, fun n z => ?_, ?_⟩
      · cases z
        have := Int.emod_nonneg (c1 / 3) (show most ≠ 0 by omega)
        omega
      · show prodI ws * (1 + c1 / 3 % most + 1) ≤ bnd ws.length
        have := Int.emod_lt_of_pos (c1 / 3) (show 0 < most by omega)
        have := Int.mul_le_mul_of_nonneg_left (show 1 + c1 / 3 % most + 1 ≤ most + 1 by omega) (show 0 ≤ prodI ws by omega)
        omega
  have comp2 : ∀ (n : Nat) (b : Int) (ρ : DEnv), n ≤ 7 → 1 ≤ b → b ≤ 100 → ρ.length = 8 → ∃ ws : List Int, compD (gN 6) tYesD (fB opAdd (fC (.int 1)) (fCall (op2 max2G) (fCons (fB opMod (fV 6) (fC (.int b))) (fCons (fB opMod (fB opFdiv (fV 6) (fC (.int b))) (fC (.int b))) fNil)))) ρ ((cs.take n).map .int) = .ok (ws.map .int) ∧ ws.length = n ∧ ∀ w ∈ ws, 1 ≤ w ∧ w ≤ b := fun n b ρ hn b1 b2 hρ => by
    obtain ⟨ws, a, l, q⟩ := compD_E (t := gN 6) (tt := tYesD) (el := fB opAdd (fC (.int 1)) (fCall (op2 max2G) (fCons (fB opMod (fV 6) (fC (.int b))) (fCons (fB opMod (fB opFdiv (fV 6) (fC (.int b))) (fC (.int b))) fNil)))) (ρ := ρ) (dec := D.int) (enc := D.int) (xs := cs.take n) (Q := fun _ w => 1 ≤ w ∧ w ≤ b) (fun z hz => by
      have f6 : fV 6 (ρ.set 6 (some (.int z))) = .ok (.int z) := by unfold fV; rw [List.getElem?_set_self (by omega)]; rfl
      have sb : Sm 10 b := sm_pow (by omega) (by omega)
      have fd : opFdiv (.int z) (.int b) = .ok (.int (z / b)) := fdiv_sm (by omega) (sb.mono (by decide))
      have m1 := Int.emod_nonneg z (show b ≠ 0 by omega)
      have m2 := Int.emod_lt_of_pos z (show 0 < b by omega)
      have m3 := Int.emod_nonneg (z / b) (show b ≠ 0 by omega)
      have m4 := Int.emod_lt_of_pos (z / b) (show 0 < b by omega)
      refine ⟨1 + (if z / b % b > z % b then z / b % b else z % b), ?_, by split <;> omega, by split <;> omega⟩
      rw [elD_gN]
      simp -implicitDefEqProofs [f6, fd, show 0 < b by omega])
    exact ⟨ws, a, by rw [l, List.length_take]; omega, fun w hw => by
      obtain ⟨i, hi⟩ := List.mem_iff_getElem?.mp hw
      have il : i < (cs.take n).length := by rw [← l]; exact (List.getElem?_eq_some_iff.mp hi).1
      obtain ⟨w2, e2, e3⟩ := q i _ (List.getElem?_eq_getElem il)
      rw [hi] at e2
      cases e2
      exact e3⟩
  have prod_le : ∀ (ws : List Int) (b : Int), 1 ≤ b → (∀ w ∈ ws, 1 ≤ w ∧ w ≤ b) → prodI ws ≤ b ^ ws.length := fun ws b hb h => by
    induction ws using snoc_ind with
    | h0 => show (1 : Int) ≤ b ^ 0; simp
    | h1 l a ih =>
      have h1 := ih fun w hw => h w (List.mem_append_left _ hw)
      have h2 := h a (by simp)
      have h3 := prodI_pos l fun w hw => (h w (List.mem_append_left _ hw)).1
      rw [prodI_snoc, List.length_append]
      show prodI l * a ≤ b ^ (l.length + 1)
      rw [Int.pow_succ]
      have := Int.mul_le_mul h1 h2.2 (by omega) (by omega)
      exact this
  have cutN : ∀ n : Nat, Dl.cutD (cs.map D.int) none (some (n : Int)) = (cs.take n).map D.int := fun n => by rw [cut_head, List.map_take]
  have cut2 : Dl.cutD (cs.map D.int) none (some 2) = (cs.take 2).map D.int := cutN 2
  have cut3 : Dl.cutD (cs.map D.int) none (some 3) = (cs.take 3).map D.int := cutN 3
  have cut4 : Dl.cutD (cs.map D.int) none (some 4) = (cs.take 4).map D.int := cutN 4
  have ix : ∀ j : Nat, j < 7 → ∃ v, opIdx (.lst .vw (cs.map .int)) (.int j) = .ok (.int v) := fun j hj => ⟨_, idx_ints .vw cs j (by omega)⟩
  obtain ⟨v0, i0⟩ : ∃ v, opIdx (.lst .vw (cs.map .int)) (.int 0) = .ok (.int v) := ix 0 (by omega)
  obtain ⟨v1, i1⟩ : ∃ v, opIdx (.lst .vw (cs.map .int)) (.int 1) = .ok (.int v) := ix 1 (by omega)
  obtain ⟨v2, i2⟩ : ∃ v, opIdx (.lst .vw (cs.map .int)) (.int 2) = .ok (.int v) := ix 2 (by omega)
  obtain ⟨v3, i3⟩ : ∃ v, opIdx (.lst .vw (cs.map .int)) (.int 3) = .ok (.int v) := ix 3 (by omega)
  obtain ⟨v4, i4⟩ : ∃ v, opIdx (.lst .vw (cs.map .int)) (.int 4) = .ok (.int v) := ix 4 (by omega)
  obtain ⟨v5, i5⟩ : ∃ v, opIdx (.lst .vw (cs.map .int)) (.int 5) = .ok (.int v) := ix 5 (by omega)
  obtain ⟨v6, i6⟩ : ∃ v, opIdx (.lst .vw (cs.map .int)) (.int 6) = .ok (.int v) := ix 6 (by omega)
  have fits2 : ∀ l : List Int, l.length ≤ 8 → l.length ≤ seqMax := fun l h => by unfold seqMax; omega
  by_cases hwide : 13 < k ∧ k < 17
  · obtain ⟨_, ew, ws, c, rfl, hw⟩ := wide
    simp -implicitDefEqProofs [sm7, hwide.1, hwide.2, ew]
    exact ⟨ws, c, rfl, hw⟩
  · obtain ⟨w2, p2, l2, b2⟩ := comp2 2 6 [some (.lst .fz (ns.map .int)), some (.int k), some (.int c1), some (.lst .ow (cs.map .int)), none, none, none, none] (by omega) (by omega) (by omega) rfl
    obtain ⟨w3, p3, l3, b3⟩ := comp2 3 4 [some (.lst .fz (ns.map .int)), some (.int k), some (.int c1), some (.lst .ow (cs.map .int)), none, some (.lst .ow (w2.map .int)), none, some (.int 2)] (by omega) (by omega) (by omega) rfl
    have pr2 := prod_le w2 6 (by omega) b2
    have pr3 := prod_le w3 4 (by omega) b3
    rw [l2] at pr2
    rw [l3] at pr3
    have n13 : ¬ ((13 : Int) < k ∧ k < 17) := hwide
    have tst : (if decide ((13 : Int) < k) = true then Res.ok (decide (k < 17)) else Res.ok false) = Res.ok false := by
      by_cases a : (13 : Int) < k
      · rw [if_pos (decide_eq_true a), decide_eq_false (fun z => n13 ⟨a, z⟩)]
      · rw [if_neg (by simpa using a)]
    by_cases a : 9 < k
    · by_cases b : 16 < k
      · have w12 : 1 ≤ 1 + v0 % 12 ∧ 1 + v0 % 12 ≤ 12 := by omega
        have nlt : ¬ k < 17 := by omega
        have g13 : (13 : Int) < k := by omega
        by_cases k20 : k = 20
        · subst k20
          simp -implicitDefEqProofs [sm7, cut2, cut3, p2, p3, l2, l3, fits2, -List.map_take, i0]
          refine ⟨[1], some (1 + c1 % 60), rfl, fun w h => by cases List.mem_singleton.mp h; omega, by decide, by decide, fun n z => by cases z; omega, ?_⟩
          show prodI [1] * (1 + c1 % 60 + 1) ≤ 61
          show (1 * 1 : Int) * (1 + c1 % 60 + 1) ≤ 61
          omega
        · by_cases k21 : k = 21
          · subst k21
            obtain ⟨w4, p4, l4, b4⟩ : ∃ ws : List Int, compD (gN 6) tYesD (fB opSub (fC (.int 4)) (fCall (op2 max2G) (fCons (fC (.int 0)) (fCons (fB opSub (fB opMod (fV 6) (fC (.int 5))) (fC (.int 2))) fNil)))) [some (.lst .fz (ns.map .int)), some (.int 21), some (.int c1), some (.lst .ow (cs.map .int)), none, some (.lst .ow [.int (1 + v0 % 12)]), none, some (.int 4)] ((cs.take 4).map .int) = .ok (ws.map .int) ∧ ws.length = 4 ∧ ∀ w ∈ ws, 1 ≤ w ∧ w ≤ 4 := by
              obtain ⟨ws, a, l, q⟩ := compD_E (t := gN 6) (tt := tYesD) (el := fB opSub (fC (.int 4)) (fCall (op2 max2G) (fCons (fC (.int 0)) (fCons (fB opSub (fB opMod (fV 6) (fC (.int 5))) (fC (.int 2))) fNil)))) (ρ := [some (.lst .fz (ns.map .int)), some (.int 21), some (.int c1), some (.lst .ow (cs.map .int)), none, some (.lst .ow [.int (1 + v0 % 12)]), none, some (.int 4)]) (dec := D.int) (enc := D.int) (xs := cs.take 4) (Q := fun _ w => 1 ≤ w ∧ w ≤ 4) (fun z hz => by
                refine ⟨4 - (if z % 5 - 2 > 0 then z % 5 - 2 else 0), ?_, by split <;> omega, by split <;> omega⟩
                simp -implicitDefEqProofs)
              exact ⟨ws, a, by rw [l, List.length_take]; omega, fun w hw => by
                obtain ⟨i, hi⟩ := List.mem_iff_getElem?.mp hw
                have il : i < (cs.take 4).length := by rw [← l]; exact (List.getElem?_eq_some_iff.mp hi).1
                obtain ⟨w2, e2, e3⟩ := q i _ (List.getElem?_eq_getElem il)
                rw [hi] at e2
                cases e2
                exact e3⟩
            have pr4 := prod_le w4 4 (by omega) b4
            rw [l4] at pr4
            simp -implicitDefEqProofs [sm7, cut2, cut3, cut4, p2, p3, p4, l2, l3, l4, fits2, -List.map_take, i0]
            refine ⟨w4, none, rfl, fun w h => (b4 w h).1, by omega, by omega, fun n z => (by cases z), ?_⟩
            show prodI w4 ≤ bnd w4.length
            rw [l4]
            show prodI w4 ≤ 256
            have : (4 : Int) ^ 4 = 256 := by decide
            omega
          · by_cases k22 : 21 < k
            · obtain ⟨m, hm⟩ : ∃ m : Nat, (m : Int) = 4 + v6 % 5 := ⟨(4 + v6 % 5).toNat, by omega⟩
              have rep : opMul (.lst .ow [.int 1]) (.int (4 + v6 % 5)) = .ok (.lst .ow ((List.replicate m (1 : Int)).map .int)) := by
                unfold opMul
                dsimp only
                rw [if_pos ⟨by decide, by omega, by omega, by unfold seqMax; simp; omega⟩, ← hm]
                simp
              simp -implicitDefEqProofs [sm7, cut2, cut3, p2, p3, l2, l3, fits2, -List.map_take, i0, i6, a, b, k20, k21, k22, nlt, g13, rep, ft3, upTo_map, -List.map_replicate]
              rw [seq_seq]
              refine forD_M (P := fun r => Res.Ok (toRes r) _) (fun i ρ => ∃ (ws : List Int) (x4 : Option D), ρ = [some (.lst .fz (ns.map .int)), some (.int k), some (.int c1), some (.lst .ow (cs.map .int)), x4, some (.lst .ow (ws.map .int)), none, some (.int 4)] ∧ ws.length = m ∧ (∀ w ∈ ws, 1 ≤ w) ∧ prodI ws ≤ 3 ^ i) ⟨List.replicate m 1, none, by simp, by simp, fun w h => by rw [(List.mem_replicate.mp h).2]; omega, ?_⟩ (fun i j ρ hj ⟨ws, x4, h0, h1, h2, h3⟩ => ?_) (fun ρ ⟨ws, x4, h0, h1, h2, h3⟩ => ?_)
              · have : ∀ m : Nat, prodI (List.replicate m 1) = 1 := fun m => by
                  induction m with
                  | zero => rfl
                  | succ m ih => rw [List.replicate_succ', prodI_snoc, ih]; rfl
                rw [this]
                simp
              · subst h0
                obtain ⟨hi, rfl⟩ : i < 3 ∧ j = i := by
                  obtain ⟨q1, q2⟩ := List.getElem?_eq_some_iff.mp hj
                  simp at q1 q2
                  exact ⟨q1, q2.symm⟩
                obtain ⟨u, iu⟩ := ix j (by omega)
                obtain ⟨y, iy⟩ : ∃ v, opIdx (.lst .vw (cs.map .int)) (.int (3 + (j : Int))) = .ok (.int v) := by
                  have := ix (3 + j) (by omega)
                  rwa [Int.natCast_add] at this
                obtain ⟨at', hat⟩ : ∃ at' : Nat, (at' : Int) = u % m := ⟨(u % m).toNat, Int.toNat_of_nonneg (Int.emod_nonneg _ (by omega))⟩
                have atl : at' < m := by have := Int.emod_lt_of_pos u (show (0 : Int) < m by omega); omega
                have ixn := ixN_nat ws.length at' (by omega)
                rw [h1] at ixn
                refine to_of (ρ' := [some (.lst .fz (ns.map .int)), some (.int k), some (.int c1), some (.lst .ow (cs.map .int)), some (.int j), some (.lst .ow ((ws.set at' (1 + y % 3)).map .int)), none, some (.int 4)]) ?_ ⟨_, _, rfl, by rw [List.length_set]; exact h1, fun w hw => ?_, ?_⟩
                · simp -implicitDefEqProofs [iu, iy, h1, withL_def, ← hat, ixn, show 0 < m by omega]
                · rcases List.mem_or_eq_of_mem_set hw with q | q
                  · exact h2 w q
                  · omega
                · have p1 := prodI_pos ws h2
                  have := prodI_set ws at' (1 + y % 3) h2 (by omega)
                  have q := Int.mul_le_mul_of_nonneg_left (show 1 + y % 3 ≤ 3 by omega) (show 0 ≤ prodI ws by omega)
                  rw [Int.pow_succ]
                  omega
              · subst h0
                rw [List.length_range] at h3
                have : (3 : Int) ^ 3 = 27 := by decide
                simp -implicitDefEqProofs
                exact hallEnd ws 1 _ _ _ _ h2 (by omega) (by omega) (by omega) (by omega) (by have := bnd_4 (n := ws.length) (by omega); omega)
            · simp -implicitDefEqProofs [sm7, cut2, cut3, p2, p3, l2, l3, fits2, -List.map_take, i0, a, b, k20, k21, k22, nlt, g13]
              refine hallEnd [1 + v0 % 12] 4 _ _ _ _ (fun w h => by cases List.mem_singleton.mp h; omega) (by simp) (by simp) (by omega) (by omega) ?_
              show (1 * (1 + v0 % 12) : Int) * (4 + 1) ≤ 61
              omega
      · have nk : ¬ k = 20 ∧ ¬ k = 21 ∧ ¬ 21 < k := by omega
        have : (4 : Int) ^ 3 = 64 := by decide
        have g : ¬ (13 : Int) < k := fun g => hwide ⟨g, by omega⟩
        simp -implicitDefEqProofs [sm7, cut2, cut3, p2, p3, l2, l3, fits2, -List.map_take, a, b, nk.1, nk.2.1, nk.2.2, g]
        exact hallEnd w3 1 _ _ _ _ (fun w h => (b3 w h).1) (by omega) (by omega) (by omega) (by omega) (by rw [l3]; show _ ≤ (150 : Int); omega)
    · have nk : ¬ 16 < k ∧ ¬ k = 20 ∧ ¬ k = 21 ∧ ¬ 21 < k ∧ ¬ 13 < k := by omega
      simp -implicitDefEqProofs [sm7, cut2, p2, l2, fits2, -List.map_take, a, nk.1, nk.2.1, nk.2.2.1, nk.2.2.2.1, nk.2.2.2.2]
      refine hallEnd w2 2 _ _ _ _ (fun w h => (b2 w h).1) (by omega) (by omega) (by omega) (by omega) ?_
      have : (6 : Int) ^ 2 = 36 := by decide
      rw [l2]
      show _ ≤ (150 : Int)
      omega
theorem law_hall_eq (ns : List Int) : Res.Ok (f_law_hall [.lst .fz (ns.map .int)]) fun d => ∃ ws c, d = hallD ws c ∧ HallS ws c := by
  obtain ⟨d, e, ws, c, h1, h2⟩ := law_hall_eqT ns
  exact ⟨d, e, ws, c, h1, h2.s⟩
end Sh
/-! Drawn standings; joining. -/
namespace Sh
open PySem PySem.Spec PySem.W PyProof.Rows L2 Dl
theorem HallS.wle {ws : List Int} {c : Option Int} (h : HallS ws c) : ∀ w ∈ ws, w ≤ 3000 := fun w hw => by
  have h1 := prodI_mem ws h.w1 w hw
  have p1 := prodI_pos ws h.w1
  have := h.many
  cases c with
  | none => have : prodI ws ≤ 3000 := this; omega
  | some n =>
    have n1 := h.c1 n rfl
    have h2 : prodI ws * (n + 1) ≤ 3000 := this
    have := Int.mul_le_mul_of_nonneg_left (show 1 ≤ n + 1 by omega) (show 0 ≤ prodI ws by omega)
    omega
theorem law_standing_eq (ws : List Int) (c : Option Int) (h : HallS ws c) (cell : Int) : ∃ p : P2, f_law_standing [hallD ws c, .int cell] = .ok (stD p) ∧ IsS ws c p := by
  suffices g : Res.Ok (f_law_standing [hallD ws c, .int cell]) fun d => ∃ p : P2, d = stD p ∧ IsS ws c p from by
    obtain ⟨_, e, p, rfl, w⟩ := g
    exact ⟨p, e, w⟩
  rw [r_law_standing]
  unfold g_law_standing
  have k0 : opIdxK (hallD ws c) (.int 0) = .ok (.tup (ws.map .int)) := hallD_0 ws c
  have k1 : opIdxK (hallD ws c) (.int 1) = .ok (calmD c) := hallD_1 ws c
  have wl := h.wle
  simp -implicitDefEqProofs [k0]
  refine forD_M (P := fun r => Res.Ok (toRes r) _) (fun i ρ => ∃ (cell : Int) (ls : List Int) (x3 : Option D), ρ = [some (hallD ws c), some (.int cell), some (.lst .ow (ls.map .int)), x3] ∧ ls.length = i ∧ ∀ j, j < i → 1 ≤ ls.getD j 0 ∧ ls.getD j 0 ≤ ws.getD j 0) ⟨cell, [], none, rfl, rfl, fun j hj => by omega⟩ (fun i w ρ hk ⟨cell, ls, x3, h0, h1, h2⟩ => ?_) (fun ρ ⟨cell, ls, x3, h0, h1, h2⟩ => ?_)
  · subst h0
    have il : i < ws.length := (List.getElem?_eq_some_iff.mp hk).1
    have w1 := h.w1 w (List.mem_of_getElem? hk)
    have w2 := wl w (List.mem_of_getElem? hk)
    have l8 := h.l8
    have sm : ls.length < seqMax := by unfold seqMax; omega
    have fd : opFdiv (.int cell) (.int w) = .ok (.int (cell / w)) := fdiv_sm (by omega) ((sm_pow (n := 12) (by omega) (by omega)).mono (by decide))
    refine to_of (ρ' := [some (hallD ws c), some (.int (cell / w)), some (.lst .ow ((ls ++ [1 + cell % w]).map .int)), some (.int w)]) ?_ ⟨_, _, _, rfl, by simp [h1], fun j hj => ?_⟩
    · simp -implicitDefEqProofs [show 0 < w by omega, withL_def, sm, fd]
    · rw [getD_snoc, h1]
      by_cases d : j < i
      · rw [if_pos d]; exact h2 j d
      · have e : j = i := by omega
        have a := Int.emod_nonneg cell (show w ≠ 0 by omega)
        have b := Int.emod_lt_of_pos cell (show 0 < w by omega)
        have gw : ws.getD j 0 = w := by rw [e, List.getD_eq_getElem?_getD, hk]; rfl
        rw [if_neg d, if_pos e, gw]
        omega
  · subst h0
    have l8 := h.l8
    have sm : ls.length ≤ seqMax := by unfold seqMax; omega
    have lok : LeftOk ws ls := ⟨h1, h2⟩
    cases c with
    | none =>
      simp -implicitDefEqProofs [k1, sm]
      exact ⟨ls, 0, rfl, lok, by omega, by simp⟩
    | some n =>
      have n1 := h.c1 n rfl
      have k1' : opIdxK (hallD ws (some n)) (.int 1) = .ok (.int n) := hallD_1 ws (some n)
      simp -implicitDefEqProofs [k1', sm, show 0 < n + 1 by omega]
      have a := Int.emod_nonneg cell (show n + 1 ≠ 0 by omega)
      have b := Int.emod_lt_of_pos cell (show 0 < n + 1 by omega)
      exact ⟨ls, cell % (n + 1), rfl, lok, a, by show cell % (n + 1) ≤ n; omega⟩
theorem joined_eq (ws : List Int) (c : Option Int) (p : P2) (w : Int) (h : HallS (ws ++ [w]) c) (hp : p.1.length ≤ 100) : f_joined [hallD ws c, stD p, .int w] = .ok (.tup [hallD (ws ++ [w]) c, stD (p.1 ++ [w], p.2)]) := by
  have hl := h.l8
  rw [List.length_append] at hl
  have l1 : ws.length + 1 ≤ 8 := hl
  have sm : ws.length + 1 ≤ seqMax := by unfold seqMax; omega
  have sm2 : p.1.length + 1 ≤ seqMax := by unfold seqMax; omega
  have e := hall_of_ok (ws ++ [w]) c ⟨h.l1, h.l8, h.w1, h.c1⟩
  rw [r_joined]
  unfold g_joined
  rw [hallD_t ws c, stD_t, standD_t]
  simp at e
  simp -implicitDefEqProofs [sm, sm2, e, stD, standD]
end Sh
/-! Ranks grow with what is left. -/
namespace Sh
open PySem PySem.Spec PySem.W PyProof.Rows L2 Dl
structure LeP (p q : P2) : Prop where
  len : p.1.length = q.1.length
  le : ∀ i, i < q.1.length → p.1.getD i 0 ≤ q.1.getD i 0
  qu : p.2 ≤ q.2
section
variable {ws : List Int} {c : Option Int} {tb : Tb} {rk : Int}
theorem leftB_getD (ls : List Int) (who : Nat) (lost : Bool) (i : Nat) (h : i < ls.length) (hw : who < ws.length) : (leftB ws ls who lost).getD i 0 = leftAt ws ls who lost i := by
  rw [List.getD_eq_getElem?_getD, leftB_at ws ls who lost i h hw]; rfl
theorem aft_isS {p : P2} (hs : IsS ws c p) (hc : ∀ n, c = some n → 1 ≤ n) (who : Nat) (lost : Bool) (hw : who < ws.length) (q : P2) (h : aftO ws p.1 c p.2 who lost = some q) (w1 : ∀ w ∈ ws, 1 ≤ w) : IsS ws c q := by
  unfold aftO at h
  by_cases z : (0 : Int) ∈ leftB ws p.1 who lost
  · rw [if_pos z] at h; cases h
  · rw [if_neg z] at h
    cases h
    obtain ⟨⟨l1, l2⟩, q0, q1⟩ := hs
    refine ⟨⟨by rw [leftB_len]; exact l1, fun i hi => ?_⟩, ?_, ?_⟩
    · show 1 ≤ (leftB ws p.1 who lost).getD i 0 ∧ (leftB ws p.1 who lost).getD i 0 ≤ ws.getD i 0
      rw [leftB_getD p.1 who lost i (by omega) hw]
      have nz : leftAt ws p.1 who lost i ≠ 0 := fun e => z ((zero_mem hw).mpr ⟨i, by omega, e⟩)
      have := l2 i hi
      have w := w1 _ (memD (l := ws) hi)
      unfold leftAt at nz ⊢
      split at nz <;> rename_i h2
      · rw [if_pos h2]; omega
      · rw [if_neg h2]; omega
    · show 0 ≤ (if lost = true then c.getD 0 else if 0 > p.2 - 1 then 0 else p.2 - 1)
      cases c with
      | none => split <;> (try split) <;> first | (simp; done) | omega
      | some n => have := hc n rfl; split <;> (try split) <;> first | (simp; omega) | omega
    · show (if lost = true then c.getD 0 else if 0 > p.2 - 1 then 0 else p.2 - 1) ≤ c.getD 0
      cases c with
      | none =>
        have q1 : p.2 ≤ 0 := q1
        split <;> (try split) <;> first | (simp; done) | (simp; omega) | omega
      | some n =>
        have := hc n rfl
        have q1 : p.2 ≤ n := q1
        split <;> (try split) <;> first | (simp; done) | (simp; omega)
theorem aft_le {p p' : P2} (hs : IsS ws c p) (hs' : IsS ws c p') (hle : LeP p p') (who : Nat) (lost : Bool) (hw : who < ws.length) :
    (aftO ws p.1 c p.2 who lost = none) ∨ ∃ q q', aftO ws p.1 c p.2 who lost = some q ∧ aftO ws p'.1 c p'.2 who lost = some q' ∧ LeP q q' := by
  obtain ⟨⟨l1, l2⟩, _⟩ := hs
  obtain ⟨⟨l1', l2'⟩, _⟩ := hs'
  have at_le : ∀ i, i < ws.length → leftAt ws p.1 who lost i ≤ leftAt ws p'.1 who lost i := fun i hi => by
    have := hle.le i (by omega)
    unfold leftAt
    split <;> omega
  by_cases z : (0 : Int) ∈ leftB ws p.1 who lost
  · left; unfold aftO; rw [if_pos z]
  · have z' : ¬ (0 : Int) ∈ leftB ws p'.1 who lost := fun z' => by
      obtain ⟨i, hi, e⟩ := (zero_mem hw).mp z'
      have a := at_le i (by omega)
      have nz : leftAt ws p.1 who lost i ≠ 0 := fun e => z ((zero_mem hw).mpr ⟨i, by omega, e⟩)
      have := l2 i (by omega)
      have : 0 ≤ leftAt ws p.1 who lost i := by
        unfold leftAt at e ⊢
        split at e <;> rename_i h2
        · rw [if_pos h2, e]; omega
        · rw [if_neg h2]; omega
      omega
    right
    unfold aftO
    rw [if_neg z, if_neg z']
    refine ⟨_, _, rfl, rfl, by rw [leftB_len, leftB_len]; exact hle.len, fun i hi => ?_, ?_⟩
    · rw [leftB_len] at hi
      show (leftB ws p.1 who lost).getD i 0 ≤ (leftB ws p'.1 who lost).getD i 0
      rw [leftB_getD p.1 who lost i (by omega) hw, leftB_getD p'.1 who lost i (by omega) hw]
      exact at_le i (by omega)
    · have := hle.qu
      show (if lost = true then c.getD 0 else if 0 > p.2 - 1 then 0 else p.2 - 1) ≤ (if lost = true then c.getD 0 else if 0 > p'.2 - 1 then 0 else p'.2 - 1)
      by_cases l : lost = true
      · rw [if_pos l, if_pos l]; omega
      · rw [if_neg l, if_neg l]; split <;> split <;> omega
theorem wor_le {p : P2} {who : Nat} {lost : Bool} {x : Int} (e : oc tb ws c p who lost = some x) (hm : lost = true → mayL c p.2 = true) : ∃ y, y ≤ x ∧ wor tb ws c p who = some y := by
  unfold wor
  cases lost with
  | false =>
    rw [e]
    by_cases u : mayL c p.2 = true ∧ und (oc tb ws c p who true) (some x) = true
    · rw [if_pos u]
      cases l : oc tb ws c p who true with
      | none => rw [l] at u; cases u.2
      | some a =>
        rw [l] at u
        have := of_decide_eq_true u.2
        exact ⟨a, by omega, rfl⟩
    · rw [if_neg u]; exact ⟨x, Int.le_refl _, rfl⟩
  | true =>
    rw [e]
    by_cases u : und (some x) (oc tb ws c p who false) = true
    · rw [if_pos ⟨hm rfl, u⟩]; exact ⟨x, Int.le_refl _, rfl⟩
    · rw [if_neg (fun z => u z.2)]
      cases f : oc tb ws c p who false with
      | none => rw [f] at u; exact absurd rfl u
      | some b =>
        rw [f] at u
        have : ¬ x < b := fun z => u (decide_eq_true z)
        exact ⟨b, by omega, rfl⟩
theorem wor_from {p : P2} {who : Nat} {v : Int} (e : wor tb ws c p who = some v) : ∃ lost, oc tb ws c p who lost = some v ∧ (lost = true → mayL c p.2 = true) := by
  unfold wor at e
  split at e
  · rename_i h; exact ⟨true, e, fun _ => h.1⟩
  · exact ⟨false, e, fun z => by cases z⟩
theorem rank_mono (h : TInv ws c tb rk) (hc : ∀ n, c = some n → 1 ≤ n) (w1 : ∀ w ∈ ws, 1 ≤ w) (fin : ∀ p ∈ allS ws c, lk tb p = none → ∃ who, who < ws.length ∧ wor tb ws c p who = none) :
    ∀ (n : Nat) (r : Int) (p p' : P2), r.toNat ≤ n → lk tb p' = some r → IsS ws c p → IsS ws c p' → LeP p p' → ∃ r0, r0 ≤ r ∧ lk tb p = some r0 := by
  intro n
  induction n with
  | zero =>
    intro r p p' hn hl
    have := h.rg _ (lk_mem hl)
    dsimp only at this
    omega
  | succ n ih =>
    intro r p p' hn hl hs hs' hle
    have key : ∀ who, who < ws.length → ∃ y, y ≤ r - 1 ∧ wor tb ws c p who = some y := fun who hwho => by
      obtain ⟨v, e1, v0, v1⟩ := h.a _ (lk_mem hl) who hwho
      dsimp only at e1 v1
      obtain ⟨lost, e2, hm⟩ := wor_from e1
      have hm2 : lost = true → mayL c p.2 = true := fun z => by
        have m := hm z
        cases c with
        | none => simp [mayL] at m
        | some k =>
          have m2 : p'.2 = 0 := by simpa [mayL] using m
          have := hle.qu
          have := hs.2.1
          simp [mayL]
          omega
      have : ∃ x, x ≤ v ∧ oc tb ws c p who lost = some x := by
        rcases aft_le hs hs' hle who lost hwho with e | ⟨q, q', f1, f2, f3⟩
        · exact ⟨0, v0, by unfold oc; rw [e]⟩
        · have e3 : lk tb q' = some v := by unfold oc at e2; rw [f2] at e2; exact e2
          have rg := h.rg _ (lk_mem hl)
          dsimp only at rg
          obtain ⟨x, x1, x2⟩ := ih v q q' (by omega) e3 (aft_isS hs hc who lost hwho q f1 w1) (aft_isS hs' hc who lost hwho q' f2 w1) f3
          exact ⟨x, x1, by unfold oc; rw [f1]; exact x2⟩
      obtain ⟨x, x1, x2⟩ := this
      obtain ⟨y, y1, y2⟩ := wor_le x2 hm2
      exact ⟨y, by omega, y2⟩
    cases hp : lk tb p with
    | none =>
      obtain ⟨who, g1, g2⟩ := fin p ((mem_allS ws c hc p).mpr hs) hp
      obtain ⟨y, _, y2⟩ := key who g1
      rw [g2] at y2
      cases y2
    | some r0 =>
      obtain ⟨who, g1, g2⟩ := h.b _ (lk_mem hp)
      obtain ⟨y, y1, y2⟩ := key who g1
      dsimp only at g2
      rw [g2] at y2
      cases y2
      exact ⟨r0, by omega, rfl⟩
end
end Sh
/-! The inverse, the shared turn of two wheels' rows. -/
namespace Sh
open PySem PySem.Spec PySem.W PyProof.Rows L2 Dl
theorem sm_le {a b : Int} {n : Nat} (h : Sm n b) (h0 : a.natAbs ≤ b.natAbs) : Sm n a := h.le h0
/-- the extended Euclid: what stands -/
structure EI (number m l r lo hi : Int) : Prop where
  l1 : 1 ≤ l
  lm : l ≤ m
  r0 : 0 ≤ r
  rm : r ≤ m
  ab : ∃ a b : Int, 0 ≤ a ∧ 0 ≤ b ∧ ((lo = a ∧ hi = -b) ∨ (lo = -a ∧ hi = b)) ∧ a * r + b * l = m
  c1 : m ∣ l - lo * number
  c2 : m ∣ r - hi * number
  g : Int.gcd l r = Int.gcd number m
theorem EI.hi {number m l r lo hi : Int} (h : EI number m l r lo hi) : hi.natAbs ≤ m.natAbs := by
  obtain ⟨a, b, a0, b0, s, e⟩ := h.ab
  have h1 := Int.mul_le_mul_of_nonneg_left h.l1 b0
  have h2 := Int.mul_nonneg a0 h.r0
  rcases s with ⟨_, rfl⟩ | ⟨_, rfl⟩ <;> omega
theorem EI.step {number m l r lo hi : Int} (h : EI number m l r lo hi) (hr : 0 < r) : EI number m r (l % r) hi (lo - l / r * hi) := by
  obtain ⟨a, b, a0, b0, s, e⟩ := h.ab
  have q0 : 0 ≤ l / r := Int.ediv_nonneg (by have := h.l1; omega) (by omega)
  have m0 := Int.emod_nonneg l (show r ≠ 0 by omega)
  have m1 := Int.emod_lt_of_pos l hr
  have dm := Int.mul_ediv_add_emod l r
  refine ⟨by omega, h.rm, m0, by have := h.rm; omega, ⟨b, a + l / r * b, b0, by have := Int.mul_nonneg q0 b0; omega, ?_, ?_⟩, h.c2, ?_, ?_⟩
  · rcases s with ⟨rfl, rfl⟩ | ⟨rfl, rfl⟩
    · right
      refine ⟨rfl, ?_⟩
      rw [Int.mul_neg]; omega
    · left
      refine ⟨rfl, by omega⟩
  · have : l % r = l - r * (l / r) := by omega
    rw [this, ← e]
    simp only [Int.mul_sub, Int.add_mul]
    have : b * (r * (l / r)) = l / r * b * r := by rw [Int.mul_comm r, ← Int.mul_assoc, Int.mul_comm b]
    omega
  · have : l % r = l - r * (l / r) := by omega
    have e1 : l % r - (lo - l / r * hi) * number = (l - lo * number) - (l / r) * (r - hi * number) := by
      rw [this, Int.sub_mul, Int.mul_sub, Int.mul_assoc, Int.mul_comm r]; omega
    rw [e1]
    exact Int.dvd_sub h.c1 (Int.dvd_mul_of_dvd_right h.c2)
  · rw [gcd_step]; exact h.g
theorem inverse_eq (number m : Int) (hm : 1 ≤ m) (hn : 0 ≤ number) (k : Nat) (sm : Sm k m) (hk : k ≤ 8999) (g : Int.gcd number m = 1) : ∃ v, f_inverse [.int number, .int m] = .ok (.int v) ∧ 0 ≤ v ∧ v < m ∧ m ∣ v * number - 1 := by
  suffices h : Res.Ok (f_inverse [.int number, .int m]) fun d => ∃ v, d = .int v ∧ 0 ≤ v ∧ v < m ∧ m ∣ v * number - 1 from by
    obtain ⟨_, e, v, rfl, w⟩ := h
    exact ⟨v, e, w⟩
  rw [r_inverse]
  unfold g_inverse
  have n0 := Int.emod_nonneg number (show m ≠ 0 by omega)
  have n1 := Int.emod_lt_of_pos number (show 0 < m by omega)
  simp -implicitDefEqProofs [show 0 < m by omega]
  refine sWhile_P (P := fun r => Res.Ok (toRes r) _) (fun ρ => ∃ (l r lo hi : Int) (x6 x7 : Option D), ρ = [some (.int number), some (.int m), some (.int l), some (.int r), some (.int lo), some (.int hi), x6, x7] ∧ EI number m l r lo hi) (fun ρ : DEnv => match ρ[3]? with | some (some (D.int r)) => r.toNat | _ => 0)
    ⟨m, number % m, 0, 1, none, none, rfl, by omega, by omega, n0, by omega, ⟨0, 1, by omega, by omega, .inr ⟨rfl, rfl⟩, by omega⟩, by simp, ?_, ?_⟩ (fun ρ ⟨l, r, lo, hi, x6, x7, h0, h⟩ => ?_) (by rintro ⟨d, e, _⟩; cases e)
  · rw [Int.one_mul]
    have : number % m - number = -(m * (number / m)) := by have := Int.mul_ediv_add_emod number m; omega
    rw [this]
    exact Int.dvd_neg.mpr (Int.dvd_mul_right ..)
  · rw [gcd_step, Int.gcd_comm]
  · subst h0
    have l1 := h.l1
    have lm := h.lm
    by_cases hr : 0 < r
    · right
      refine ⟨by simp -implicitDefEqProofs [hr], ?_⟩
      have rm := h.rm
      have sr : Sm k r := sm.le (by omega)
      have sq : Sm k (l / r) := sm.le (by
        have a := Int.ediv_nonneg (show 0 ≤ l by omega) (show 0 ≤ r by omega)
        have b := Int.ediv_le_self r (show 0 ≤ l by omega)
        omega)
      have ok : mulOk (l / r) hi = true := mulOk_of sq (sm.le h.hi) (by omega)
      have lr : r.natAbs.log2 < 9000 := by have : r.natAbs.log2 ≤ k := sr; omega
      refine to_of (ρ' := [some (.int number), some (.int m), some (.int r), some (.int (l % r)), some (.int hi), some (.int (lo - l / r * hi)), some (.int (l / r)), some (.int (l % r))]) ?_ ⟨⟨_, _, _, _, _, _, rfl, h.step hr⟩, ?_⟩
      · simp -implicitDefEqProofs [hr, lr, ok]
      · have a := Int.emod_nonneg l (show r ≠ 0 by omega)
        have b := Int.emod_lt_of_pos l hr
        show (l % r).toNat < r.toNat
        omega
    · left
      have r0 : r = 0 := by have := h.r0; omega
      subst r0
      refine ⟨by simp -implicitDefEqProofs, ?_⟩
      have gl : (l : Int) = 1 := by
        have := h.g
        rw [Int.gcd_zero_right, g] at this
        omega
      have c1 := h.c1
      rw [gl] at c1
      simp -implicitDefEqProofs [show 0 < m by omega]
      refine ⟨Int.emod_nonneg _ (by omega), Int.emod_lt_of_pos _ (by omega), ?_⟩
      have e : lo % m * number - 1 = -(1 - lo * number) - m * (lo / m * number) := by
        have : lo % m = lo - m * (lo / m) := by have := Int.mul_ediv_add_emod lo m; omega
        rw [this, Int.sub_mul, Int.mul_assoc]; omega
      rw [e]
      exact Int.dvd_sub (Int.dvd_neg.mpr c1) (Int.dvd_mul_right ..)
theorem shared_turn_no (p1 f1 p2 f2 : Int) (h1 : 1 ≤ p1) (h2 : 1 ≤ p2) (h : (f2 - f1) % (Int.gcd p1 p2 : Int) ≠ 0) : f_shared_turn [.tup [.int p1, .int f1], .tup [.int p2, .int f2]] = .ok .non := by
  rw [r_shared_turn]
  unfold g_shared_turn
  have d := divisor_eq p1 p2 (by omega) (by omega)
  have gp := (gcd_facts (a := p1) (n := p2) (by omega)).1
  generalize (Int.gcd p1 p2 : Int) = g at *
  simp -implicitDefEqProofs [d, gp, h]
theorem shared_turn_ok (p1 f1 p2 f2 : Int) (k : Nat) (hk : k ≤ 2000) (h1 : 1 ≤ p1) (h2 : 1 ≤ p2) (a0 : 0 ≤ f1) (a1 : f1 < p1) (b0 : 0 ≤ f2) (b1 : f2 < p2) (s1 : Sm k p1) (s2 : Sm k p2) (h : (f2 - f1) % (Int.gcd p1 p2 : Int) = 0) :
    ∃ t, f_shared_turn [.tup [.int p1, .int f1], .tup [.int p2, .int f2]] = .ok (.int t) ∧ 0 ≤ t ∧ t < p1 / (Int.gcd p1 p2 : Int) * p2 ∧ t % p1 = f1 ∧ t % p2 = f2 := by
  rw [r_shared_turn]
  unfold g_shared_turn
  have d := divisor_eq p1 p2 (by omega) (by omega)
  obtain ⟨gp, gl⟩ := gcd_facts (a := p1) (n := p2) (by omega)
  have d1 : (Int.gcd p1 p2 : Int) ∣ p1 := Int.gcd_dvd_left ..
  have d2 : (Int.gcd p1 p2 : Int) ∣ p2 := Int.gcd_dvd_right ..
  have cop : Int.gcd (p1 / Int.gcd p1 p2) (p2 / Int.gcd p1 p2) = 1 := Int.gcd_ediv_gcd_ediv_gcd (by omega)
  generalize (Int.gcd p1 p2 : Int) = g at *
  obtain ⟨n1, rfl⟩ := d1
  obtain ⟨n2, rfl⟩ := d2
  rw [Int.mul_ediv_cancel_left _ (by omega), Int.mul_ediv_cancel_left _ (by omega)] at cop
  have pos1 : 1 ≤ n1 := by
    have : 0 < g * n1 := by omega
    have := Int.pos_of_mul_pos_right this (by omega)
    omega
  have pos2 : 1 ≤ n2 := by
    have : 0 < g * n2 := by omega
    have := Int.pos_of_mul_pos_right this (by omega)
    omega
  have le2 : n2 ≤ g * n2 := by have := Int.mul_le_mul_of_nonneg_right (show 1 ≤ g by omega) (show 0 ≤ n2 by omega); omega
  have sn2 : Sm k n2 := s2.le (by omega)
  have sg : Sm k g := s2.le (by omega)
  obtain ⟨v, ev, v0, v1, vd⟩ := inverse_eq n1 n2 pos2 (by omega) k sn2 (by omega) cop
  have sv : Sm k v := sn2.le (by omega)
  have sap : Sm (k + 1) (f2 - f1) := by
    by_cases c : g * n1 ≤ g * n2
    · exact (s2.mono (by omega)).le (by omega)
    · exact (s1.mono (by omega)).le (by omega)
  have ok1 : mulOk ((f2 - f1) / g) v = true := mulOk_of (sap.div g) sv (by omega)
  have x0 := Int.emod_nonneg ((f2 - f1) / g * v) (show n2 ≠ 0 by omega)
  have x1 := Int.emod_lt_of_pos ((f2 - f1) / g * v) (show 0 < n2 by omega)
  have sx : Sm k ((f2 - f1) / g * v % n2) := sn2.le (by omega)
  have ok2 : mulOk (g * n1) ((f2 - f1) / g * v % n2) = true := mulOk_of s1 sx (by omega)
  have fg : g.natAbs.log2 < 9000 := by have : g.natAbs.log2 ≤ k := sg; omega
  have q : g * ((f2 - f1) / g) = f2 - f1 := by have := Int.mul_ediv_add_emod (f2 - f1) g; omega
  have c1 : g * n1 / g = n1 := Int.mul_ediv_cancel_left _ (by omega)
  have c2 : g * n2 / g = n2 := Int.mul_ediv_cancel_left _ (by omega)
  have fd1 : opFdiv (.int (g * n1)) (.int g) = .ok (.int n1) := by rw [fdiv_sm gp (sg.mono (by omega)), c1]
  have fd2 : opFdiv (.int (g * n2)) (.int g) = .ok (.int n2) := by rw [fdiv_sm gp (sg.mono (by omega)), c2]
  have fd3 : opFdiv (.int (f2 - f1)) (.int g) = .ok (.int ((f2 - f1) / g)) := fdiv_sm gp (sg.mono (by omega))
  refine ⟨f1 + g * n1 * ((f2 - f1) / g * v % n2), by simp -implicitDefEqProofs [d, gp, h, fd1, fd2, fd3, ev, ok1, ok2, show 0 < n2 by omega], ?_, ?_, ?_, ?_⟩
  · have := Int.mul_nonneg (show 0 ≤ g * n1 by omega) x0; omega
  · rw [c1]
    have a := Int.mul_le_mul_of_nonneg_left (show (f2 - f1) / g * v % n2 ≤ n2 - 1 by omega) (show 0 ≤ g * n1 by omega)
    rw [Int.mul_sub] at a
    have : n1 * (g * n2) = g * n1 * n2 := by rw [← Int.mul_assoc, Int.mul_comm n1]
    omega
  · rw [Int.add_mul_emod_self_left]; exact Int.emod_eq_of_lt a0 a1
  · generalize (f2 - f1) / g = r at *
    obtain ⟨w, hw⟩ := vd
    have xe : r * v % n2 = r * v - n2 * (r * v / n2) := by have := Int.mul_ediv_add_emod (r * v) n2; omega
    have key : f1 + g * n1 * (r * v % n2) = f2 + g * n2 * (r * w - n1 * (r * v / n2)) := by
      rw [xe]
      have e1 : g * n1 * (r * v - n2 * (r * v / n2)) = g * r * (v * n1) - g * n2 * (n1 * (r * v / n2)) := by
        rw [Int.mul_sub]
        congr 1
        · simp only [Int.mul_assoc, Int.mul_comm, Int.mul_left_comm]
        · simp only [Int.mul_assoc, Int.mul_comm, Int.mul_left_comm]
      have e2 : v * n1 = n2 * w + 1 := by omega
      have e3 : g * r * (n2 * w + 1) = g * n2 * (r * w) + g * r := by
        rw [Int.mul_add, Int.mul_one]
        congr 1
        simp only [Int.mul_assoc, Int.mul_comm, Int.mul_left_comm]
      rw [e1, e2, e3, Int.mul_sub]
      omega
    rw [key, Int.add_mul_emod_self_left]
    exact Int.emod_eq_of_lt b0 b1
end Sh
/-! A standing ranked in a smaller hall is ranked in a bigger one. -/
namespace Sh
open PySem PySem.Spec PySem.W PyProof.Rows L2 Dl
structure Emb (ws ws' : List Int) (f : Nat → Nat) : Prop where
  one : 1 ≤ ws'.length
  lt : ∀ j, j < ws'.length → f j < ws.length
  inj : ∀ i j, i < ws'.length → j < ws'.length → f i = f j → i = j
  eq : ∀ j, j < ws'.length → ws.getD (f j) 0 = ws'.getD j 0
structure RelP (n : Nat) (f : Nat → Nat) (p p' : P2) : Prop where
  le : ∀ j, j < n → p.1.getD (f j) 0 ≤ p'.1.getD j 0
  qu : p.2 ≤ p'.2
section
variable {ws ws' : List Int} {f : Nat → Nat} {c : Option Int} {tb tb' : Tb} {rk' : Int}
theorem emb_aft {p p' : P2} (E : Emb ws ws' f) (hs : IsS ws c p) (hs' : IsS ws' c p') (hle : RelP ws'.length f p p') (who who' : Nat) (lost : Bool) (hw : who < ws.length) (hw' : who' < ws'.length) (hh : ∀ j, j < ws'.length → f j = who → j = who') :
    (aftO ws p.1 c p.2 who lost = none) ∨ ∃ q q', aftO ws p.1 c p.2 who lost = some q ∧ aftO ws' p'.1 c p'.2 who' lost = some q' ∧ RelP ws'.length f q q' := by
  obtain ⟨⟨l1, l2⟩, _⟩ := hs
  obtain ⟨⟨l1', l2'⟩, _⟩ := hs'
  have at_le : ∀ j, j < ws'.length → leftAt ws p.1 who lost (f j) ≤ leftAt ws' p'.1 who' lost j := fun j hj => by
    have a := hle.le j hj
    have b := l2' j hj
    have e := E.eq j hj
    unfold leftAt
    by_cases h1 : f j = who ∧ lost = false
    · rw [if_pos h1, if_pos ⟨hh j hj h1.1, h1.2⟩, e]; omega
    · rw [if_neg h1]
      split <;> omega
  by_cases z : (0 : Int) ∈ leftB ws p.1 who lost
  · left; unfold aftO; rw [if_pos z]
  · have z' : ¬ (0 : Int) ∈ leftB ws' p'.1 who' lost := fun z' => by
      obtain ⟨j, hj, e⟩ := (zero_mem hw').mp z'
      have hj' : j < ws'.length := by omega
      have a := at_le j hj'
      have fl := E.lt j hj'
      have nz : leftAt ws p.1 who lost (f j) ≠ 0 := fun e => z ((zero_mem hw).mpr ⟨f j, by omega, e⟩)
      have b := l2 (f j) fl
      have : 0 ≤ leftAt ws p.1 who lost (f j) := by
        unfold leftAt
        split <;> omega
      omega
    right
    unfold aftO
    rw [if_neg z, if_neg z']
    refine ⟨_, _, rfl, rfl, fun j hj => ?_, ?_⟩
    · show (leftB ws p.1 who lost).getD (f j) 0 ≤ (leftB ws' p'.1 who' lost).getD j 0
      rw [leftB_getD (ws := ws) p.1 who lost (f j) (by have := E.lt j hj; omega) hw, leftB_getD (ws := ws') p'.1 who' lost j (by omega) hw']
      exact at_le j hj
    · have := hle.qu
      show (if lost = true then c.getD 0 else if 0 > p.2 - 1 then 0 else p.2 - 1) ≤ (if lost = true then c.getD 0 else if 0 > p'.2 - 1 then 0 else p'.2 - 1)
      by_cases l : lost = true
      · rw [if_pos l, if_pos l]; omega
      · rw [if_neg l, if_neg l]; split <;> split <;> omega
theorem emb_rank (E : Emb ws ws' f) (h : TInv ws' c tb' rk') (hc : ∀ n, c = some n → 1 ≤ n) (w1 : ∀ w ∈ ws, 1 ≤ w) (w1' : ∀ w ∈ ws', 1 ≤ w) (fin : ∀ p ∈ allS ws c, lk tb p = none → ∃ who, who < ws.length ∧ wor tb ws c p who = none) :
    ∀ (n : Nat) (r : Int) (p p' : P2), r.toNat ≤ n → lk tb' p' = some r → IsS ws c p → IsS ws' c p' → RelP ws'.length f p p' → lk tb p ≠ none := by
  intro n
  induction n with
  | zero =>
    intro r p p' hn hl
    have := h.rg _ (lk_mem hl)
    dsimp only at this
    omega
  | succ n ih =>
    intro r p p' hn hl hs hs' hle hp
    obtain ⟨who, g1, g2⟩ := fin p ((mem_allS ws c hc p).mpr hs) hp
    obtain ⟨who', hw', hh⟩ : ∃ who', who' < ws'.length ∧ ∀ j, j < ws'.length → f j = who → j = who' := by
      by_cases q : ∃ j, j < ws'.length ∧ f j = who
      · obtain ⟨j, j1, j2⟩ := q
        exact ⟨j, j1, fun i i1 i2 => E.inj i j i1 j1 (by omega)⟩
      · exact ⟨0, E.one, fun j j1 j2 => absurd ⟨j, j1, j2⟩ q⟩
    obtain ⟨v, e1, v0, v1⟩ := h.a _ (lk_mem hl) who' hw'
    dsimp only at e1 v1
    obtain ⟨lost, e2, hm⟩ := wor_from e1
    have hm2 : lost = true → mayL c p.2 = true := fun z => by
      have m := hm z
      cases c with
      | none => simp [mayL] at m
      | some k =>
        have m2 : p'.2 = 0 := by simpa [mayL] using m
        have := hle.qu
        have := hs.2.1
        simp [mayL]
        omega
    have : ∃ x, oc tb ws c p who lost = some x := by
      rcases emb_aft E hs hs' hle who who' lost g1 hw' hh with e | ⟨q, q', f1, f2, f3⟩
      · exact ⟨0, by unfold oc; rw [e]⟩
      · have e3 : lk tb' q' = some v := by unfold oc at e2; rw [f2] at e2; exact e2
        have rg := h.rg _ (lk_mem hl)
        dsimp only at rg
        have := ih v q q' (by omega) e3 (aft_isS hs hc who lost g1 q f1 w1) (aft_isS hs' hc who' lost hw' q' f2 w1') f3
        cases lq : lk tb q with
        | none => exact absurd lq this
        | some x => exact ⟨x, by unfold oc; rw [f1]; exact lq⟩
    obtain ⟨x, x2⟩ := this
    obtain ⟨y, _, y2⟩ := wor_le x2 hm2
    rw [g2] at y2
    cases y2
end
end Sh
/-! Who joins, who leaves, told and compared. -/
namespace Sh
open PySem PySem.Spec PySem.W PyProof.Rows L2 Dl
theorem tup_whole (z : Int) : f_law_whole [.int z] = .ok (.bl true) := whole_int z
theorem numbers_eq (l : List Int) (h : l.length ≤ 100) : f_law_numbers [.tup (l.map .int), .tup (l.map .int)] = .ok (.bl true) := by
  rw [r_law_numbers]
  unfold g_law_numbers
  have ft : fits62 (l.length : Int) := ⟨by omega, by omega⟩
  simp -implicitDefEqProofs [isTy, opNe_p, ft, upTo_map]
  refine forD_M (P := fun r => toRes r = .ok (.bl true)) (fun i ρ => ∃ x, ρ = [some (.tup (l.map .int)), some (.tup (l.map .int)), x]) ⟨none, rfl⟩ (fun i k ρ hk ⟨x, h0⟩ => ?_) fun ρ ⟨x, h0⟩ => by subst h0; simp -implicitDefEqProofs
  subst h0
  have kl : k < l.length := List.mem_range.mp (List.mem_of_getElem? hk)
  have e := idx_intsT l k kl
  exact to_of (ρ' := [some (.tup (l.map .int)), some (.tup (l.map .int)), some (.int k)]) (by simp -implicitDefEqProofs [e, whole_int, opNe_p]) ⟨_, rfl⟩
theorem alike_eq (ws ls : List Int) (c : Option Int) (q : Int) (h : ws.length ≤ 100) (h2 : ls.length ≤ 100) : f_law_alike [.tup [hallD ws c, standD ls q], .tup [hallD ws c, standD ls q]] = .ok (.bl true) := by
  rw [r_law_alike]
  unfold g_law_alike
  have ft : fits62 (2 : Int) := ⟨by decide, by decide⟩
  simp -implicitDefEqProofs [isTy, opNe_p, ft, upTo_map]
  refine forD_M (P := fun r => toRes r = .ok (.bl true)) (fun i ρ => ∃ x, ρ = [some (.tup [hallD ws c, standD ls q]), some (.tup [hallD ws c, standD ls q]), x]) ⟨none, rfl⟩ (fun i k ρ hk ⟨x, h0⟩ => ?_) fun ρ ⟨x, h0⟩ => by subst h0; simp -implicitDefEqProofs
  subst h0
  have kl : k < 2 := List.mem_range.mp (List.mem_of_getElem? hk)
  refine to_of (ρ' := [some (.tup [hallD ws c, standD ls q]), some (.tup [hallD ws c, standD ls q]), some (.int k)]) ?_ ⟨_, rfl⟩
  have i0 : opIdxK (.tup [hallD ws c, standD ls q]) (.int 0) = .ok (hallD ws c) := rfl
  have i1 : opIdxK (.tup [hallD ws c, standD ls q]) (.int 1) = .ok (standD ls q) := rfl
  have j0 : opIdxK (hallD ws c) (.int 0) = .ok (.tup (ws.map .int)) := rfl
  have j1 : opIdxK (hallD ws c) (.int 1) = .ok (calmD c) := rfl
  have k0 : opIdxK (standD ls q) (.int 0) = .ok (.tup (ls.map .int)) := rfl
  have k1 : opIdxK (standD ls q) (.int 1) = .ok (.int q) := rfl
  have t1 : isiD "tuple" (hallD ws c) = .ok (.bl true) := rfl
  have t2 : isiD "tuple" (standD ls q) = .ok (.bl true) := rfl
  have l1 : opLen [hallD ws c] = .ok (.int 2) := rfl
  have l2 : opLen [standD ls q] = .ok (.int 2) := rfl
  have n1 := numbers_eq ws h
  have n2 := numbers_eq ls h2
  obtain rfl | rfl : k = 0 ∨ k = 1 := by omega
  · have e0 : ((0 : Nat) : Int) = 0 := rfl
    cases c with
    | none => simp -implicitDefEqProofs [e0, i0, j0, j1, t1, l1, n1, opNe_p, calmD, D.isN, hallD_t, opLen, op1, len1, isTy] at *
    | some n => simp -implicitDefEqProofs [e0, i0, j0, j1, t1, l1, n1, opNe_p, calmD, D.isN, whole_int]
  · have e1 : ((1 : Nat) : Int) = 1 := rfl
    simp -implicitDefEqProofs [e1, i1, k0, k1, t2, l2, n2, opNe_p, D.isN, whole_int]
def outL (i : Nat) (l : List Int) : List Int := l.take i ++ l.drop (i + 1)
theorem joined_g (ws : List Int) (c : Option Int) (p : P2) (w : Int) (h : hallGood (ws ++ [w]) c) (hp : p.1.length ≤ 100) : f_joined [hallD ws c, stD p, .int w] = .ok (.tup [hallD (ws ++ [w]) c, stD (p.1 ++ [w], p.2)]) := by
  have hl := h.2.1
  rw [List.length_append] at hl
  have l1 : ws.length + 1 ≤ 8 := hl
  have sm : ws.length + 1 ≤ seqMax := by unfold seqMax; omega
  have sm2 : p.1.length + 1 ≤ seqMax := by unfold seqMax; omega
  have e := hall_of_ok (ws ++ [w]) c h
  rw [r_joined]
  unfold g_joined
  rw [hallD_t ws c, stD_t, standD_t]
  simp at e
  simp -implicitDefEqProofs [sm, sm2, e, stD, standD]
theorem joined_no (ws : List Int) (c : Option Int) (p : P2) (w : Int) (h : ¬ hallGood (ws ++ [w]) c) (hl : ws.length ≤ 100) : f_joined [hallD ws c, stD p, .int w] = .exc "NoHall" := by
  have sm : ws.length + 1 ≤ seqMax := by unfold seqMax; omega
  have e := hall_of_no (ws ++ [w]) c h
  rw [r_joined]
  unfold g_joined
  rw [hallD_t ws c, stD_t, standD_t]
  simp at e
  simp -implicitDefEqProofs [sm, e, stD, standD]
theorem left_out_g (ws : List Int) (c : Option Int) (p : P2) (i : Nat) (h : i < ws.length) (hl : p.1.length = ws.length) (h2 : 2 ≤ ws.length) (h8 : ws.length ≤ 100) :
    f_left_out [hallD ws c, stD p, .int i] = .ok (.tup [hallD (outL i ws) c, stD (outL i p.1, p.2)]) := by
  rw [r_left_out]
  unfold g_left_out hallD stD standD outL
  have a1 := cut_head (ws.map .int) i
  have a2 := cut_tail (ws.map .int) (i + 1)
  have b1 := cut_head (p.1.map .int) i
  have b2 := cut_tail (p.1.map .int) (i + 1)
  rw [show ((i + 1 : Nat) : Int) = (i : Int) + 1 by omega] at a2 b2
  have s1 : ∀ l : List Int, i < l.length → opSl (.tup (l.map .int)) none (some (i : Int)) = .ok (.tup (Dl.cutD (l.map .int) none (some (i : Int)))) := fun l hi => by
    unfold opSl
    dsimp only
    rw [if_pos (by rw [HT.sIx_nat, List.length_map]; omega)]
  have s2 : ∀ l : List Int, i < l.length → opSl (.tup (l.map .int)) (some ((i : Int) + 1)) none = .ok (.tup (Dl.cutD (l.map .int) (some ((i : Int) + 1)) none)) := fun l hi => by
    unfold opSl
    dsimp only
    rw [if_pos (by rw [show (i : Int) + 1 = ((i + 1 : Nat) : Int) by omega, HT.sIx_nat, List.length_map]; omega)]
  have sq : ∀ l : List Int, l.length = ws.length → min i l.length + (l.length - (i + 1)) ≤ seqMax := fun l e => by unfold seqMax; omega
  have m1 : ¬ ws.length = 1 := by omega
  have m2 : ¬ (ws.length : Int) = 1 := by omega
  simp -implicitDefEqProofs [s1 ws h, s2 ws h, s1 p.1 (by omega), s2 p.1 (by omega), sq ws rfl, sq p.1 hl, a1, a2, b1, b2, m1, m2, show ¬ (i : Int) < 0 by omega, show ¬ (ws.length : Int) ≤ i by omega, show ¬ ws.length ≤ i by omega, ← List.map_take, ← List.map_drop, -List.map_take, -List.map_drop]
  constructor <;> rw [List.map_take, List.map_drop]
theorem left_out_no (ws : List Int) (c : Option Int) (p : P2) (i : Int) (h : i < 0 ∨ (ws.length : Int) ≤ i) : f_left_out [hallD ws c, stD p, .int i] = .exc "NoListener" := by
  rw [r_left_out]
  unfold g_left_out hallD stD standD
  rcases h with h | h
  · simp -implicitDefEqProofs [h]
  · simp -implicitDefEqProofs [h]
theorem left_out_one (w : Int) (c : Option Int) (p : P2) : f_left_out [hallD [w] c, stD p, .int 0] = .exc "NoHall" := by
  rw [r_left_out]
  unfold g_left_out hallD stD standD
  simp -implicitDefEqProofs
theorem deq_hall (ws : List Int) (c : Option Int) : deq (hallD ws c) (hallD ws c) = true := by
  have := calmD_deq c c
  unfold hallD
  simp [this]
theorem deq_stand (ls : List Int) (q : Int) : deq (standD ls q) (standD ls q) = true := by
  unfold standD
  simp
end Sh
/-! The longest way from one call to the next, going round. -/
namespace Sh
open PySem PySem.Spec PySem.W PyProof.Rows L2 Dl
/-- L is the longest way from a hit to the next one -/
def MaxGap (h : Int → Prop) (L : Int) : Prop := 1 ≤ L ∧ (∃ i, h i ∧ h (i + L) ∧ ∀ s, 0 < s → s < L → ¬ h (i + s)) ∧ ∀ i, h i → ∃ s, 1 ≤ s ∧ s ≤ L ∧ h (i + s)
theorem MaxGap.le {h : Int → Prop} {L L' : Int} (a : MaxGap h L) (b : MaxGap h L') : L ≤ L' := by
  obtain ⟨_, ⟨i, h1, _, h3⟩, _⟩ := a
  obtain ⟨_, _, h4⟩ := b
  obtain ⟨s, s1, s2, s3⟩ := h4 i h1
  by_cases c : L ≤ s
  · omega
  · exact absurd s3 (h3 s (by omega) (by omega))
theorem MaxGap.uniq {h : Int → Prop} {L L' : Int} (a : MaxGap h L) (b : MaxGap h L') : L = L' := by
  have := a.le b
  have := b.le a
  omega
/-- a hit's place in the row, going round -/
def hitF (cs : List Int) (who : Int) (i : Int) : Prop := cs.getD (i % cs.length).toNat 0 = who
theorem hitF_nat (cs : List Int) (who : Int) (k : Nat) (h : k < cs.length) : hitF cs who k ↔ cs.getD k 0 = who := by
  unfold hitF
  rw [Int.emod_eq_of_lt (by omega) (by omega), Int.toNat_natCast]
theorem hitF_add (cs : List Int) (who i : Int) : hitF cs who (i + cs.length) ↔ hitF cs who i := by
  unfold hitF
  rw [Int.add_emod_right]
theorem hitF_mod (cs : List Int) (who i : Int) : hitF cs who (i % cs.length) ↔ hitF cs who i := by
  unfold hitF
  rw [Int.emod_emod_of_dvd _ (Int.dvd_refl _)]
theorem hitF_congr (cs : List Int) (who i j : Int) (h : i % cs.length = j % cs.length) : hitF cs who i ↔ hitF cs who j := by
  unfold hitF
  rw [h]
theorem hitF_eq {cs : List Int} {who i j : Int} (e : i = j) (h : hitF cs who i) : hitF cs who j := e ▸ h
/-- the places of who, as they come -/
def plc (cs : List Int) (who : Int) : List Nat := (List.range cs.length).filter fun i => decide (cs.getD i 0 = who)
theorem plc_mem (cs : List Int) (who : Int) (i : Nat) : i ∈ plc cs who ↔ i < cs.length ∧ cs.getD i 0 = who := by
  unfold plc
  rw [List.mem_filter, List.mem_range, decide_eq_true_eq]
theorem plc_pw (cs : List Int) (who : Int) : (plc cs who).Pairwise (· < ·) := List.Pairwise.filter _ List.pairwise_lt_range
theorem plc_len (cs : List Int) (who : Int) : (plc cs who).length ≤ cs.length := by
  unfold plc
  have := List.length_filter_le (fun i => decide (cs.getD i 0 = who)) (List.range cs.length)
  rwa [List.length_range] at this
theorem pw_lt {l : List Nat} (h : l.Pairwise (· < ·)) {i j : Nat} (hj : j < l.length) (hij : i < j) : l[i]'(by omega) < l[j] := List.pairwise_iff_getElem.mp h i j (by omega) hj hij
/-- the way from the k-th place to the next -/
def gapAt (cs : List Int) (who : Int) (k : Nat) : Int := (plc cs who).getD (k + 1) 0 - (plc cs who).getD k 0
def gapR (cs : List Int) (who : Int) : Int := (plc cs who).getD 0 0 + cs.length - (plc cs who).getD ((plc cs who).length - 1) 0
def mx (a b : Int) : Int := if b > a then b else a
def lgN (cs : List Int) (who : Int) : Nat → Int
  | 0 => gapR cs who
  | k + 1 => mx (lgN cs who k) (gapAt cs who k)
theorem getD_get {l : List Nat} {i : Nat} (h : i < l.length) : l.getD i 0 = l[i] := by rw [List.getD_eq_getElem?_getD, List.getElem?_eq_getElem h]; rfl
theorem lgN_ge (cs : List Int) (who : Int) : ∀ (m : Nat), gapR cs who ≤ lgN cs who m ∧ ∀ k, k < m → gapAt cs who k ≤ lgN cs who m
  | 0 => ⟨Int.le_refl _, fun k h => absurd h (by omega)⟩
  | m + 1 => by
    obtain ⟨h1, h2⟩ := lgN_ge cs who m
    show _ ≤ mx _ _ ∧ ∀ k, k < m + 1 → _ ≤ mx _ _
    unfold mx
    refine ⟨by split <;> omega, fun k hk => ?_⟩
    by_cases e : k = m
    · subst e; split <;> omega
    · have := h2 k (by omega)
      split <;> omega
theorem lgN_is (cs : List Int) (who : Int) : ∀ (m : Nat), lgN cs who m = gapR cs who ∨ ∃ k, k < m ∧ lgN cs who m = gapAt cs who k
  | 0 => .inl rfl
  | m + 1 => by
    show mx _ _ = _ ∨ ∃ k, k < m + 1 ∧ mx _ _ = _
    unfold mx
    split
    · exact .inr ⟨m, by omega, rfl⟩
    · rcases lgN_is cs who m with h | ⟨k, hk, h⟩
      · exact .inl h
      · exact .inr ⟨k, by omega, h⟩
theorem lg_gap (cs : List Int) (who : Int) (h0 : plc cs who ≠ []) : MaxGap (hitF cs who) (lgN cs who ((plc cs who).length - 1)) := by
  have pl : 0 < (plc cs who).length := List.length_pos_iff.mpr h0
  have pw := plc_pw cs who
  have mem : ∀ i (h : i < (plc cs who).length), (plc cs who)[i] < cs.length ∧ cs.getD (plc cs who)[i] 0 = who := fun i h => (plc_mem cs who _).mp (List.getElem_mem h)
  have hit : ∀ i (h : i < (plc cs who).length), hitF cs who ((plc cs who)[i] : Nat) := fun i h => (hitF_nat cs who _ (mem i h).1).mpr (mem i h).2
  have lt : ∀ i j (hj : j < (plc cs who).length) (hij : i < j), (plc cs who)[i]'(by omega) < (plc cs who)[j] := fun i j hj hij => pw_lt pw hj hij
  have le0 : ∀ i (h : i < (plc cs who).length), (plc cs who)[0] ≤ (plc cs who)[i] := fun i h => by
    by_cases c : i = 0
    · subst c; omega
    · have := lt 0 i h (by omega); omega
  have lel : ∀ i (h : i < (plc cs who).length), (plc cs who)[i] ≤ (plc cs who)[(plc cs who).length - 1]'(by omega) := fun i h => by
    by_cases c : i = (plc cs who).length - 1
    · subst c; omega
    · have := lt i ((plc cs who).length - 1) (by omega) (by omega); omega
  have nohit : ∀ x : Nat, x < cs.length → (∀ i (h : i < (plc cs who).length), (plc cs who)[i] ≠ x) → ¬ hitF cs who x := fun x hx hn hh => by
    have m := (plc_mem cs who x).mpr ⟨hx, (hitF_nat cs who x hx).mp hh⟩
    obtain ⟨i, hi, e⟩ := List.getElem_of_mem m
    exact hn i hi e
  obtain ⟨g1, g2⟩ := lgN_ge cs who ((plc cs who).length - 1)
  have eR : gapR cs who = ((plc cs who)[0] : Int) + cs.length - (plc cs who)[(plc cs who).length - 1]'(by omega) := by
    unfold gapR
    rw [getD_get pl, getD_get (by omega)]
  have eA : ∀ k (h : k + 1 < (plc cs who).length), gapAt cs who k = ((plc cs who)[k + 1] : Int) - (plc cs who)[k]'(by omega) := fun k h => by
    unfold gapAt
    rw [getD_get h, getD_get (by omega)]
  have last := mem ((plc cs who).length - 1) (by omega)
  have r1 : 1 ≤ gapR cs who := by rw [eR]; have := last.1; omega
  refine ⟨by omega, ?_, fun i hi => ?_⟩
  · rcases lgN_is cs who ((plc cs who).length - 1) with e | ⟨k, hk, e⟩
    · rw [e, eR]
      refine ⟨((plc cs who)[(plc cs who).length - 1]'(by omega) : Nat), hit _ _, ?_, fun s s1 s2 hs => ?_⟩
      · have := hit 0 pl
        rw [← hitF_add] at this
        exact hitF_eq (by omega) this
      · by_cases c : ((plc cs who)[(plc cs who).length - 1]'(by omega) : Int) + s < cs.length
        · obtain ⟨x, hx⟩ := Int.eq_ofNat_of_zero_le (show 0 ≤ ((plc cs who)[(plc cs who).length - 1]'(by omega) : Int) + s by omega)
          rw [hx] at hs c
          refine nohit x (by omega) (fun i hi e2 => ?_) hs
          have := lel i hi
          omega
        · obtain ⟨x, hx⟩ := Int.eq_ofNat_of_zero_le (show 0 ≤ ((plc cs who)[(plc cs who).length - 1]'(by omega) : Int) + s - cs.length by omega)
          have hs2 : hitF cs who x := by
            rw [← hx, ← hitF_add]
            exact hitF_eq (by omega) hs
          have := (mem 0 pl).1
          refine nohit x (by omega) (fun i hi e2 => ?_) hs2
          have := le0 i hi
          omega
    · rw [e, eA k (by omega)]
      refine ⟨((plc cs who)[k]'(by omega) : Nat), hit _ _, ?_, fun s s1 s2 hs => ?_⟩
      · have := hit (k + 1) (by omega)
        exact hitF_eq (by omega) this
      · obtain ⟨x, hx⟩ := Int.eq_ofNat_of_zero_le (show 0 ≤ ((plc cs who)[k]'(by omega) : Int) + s by omega)
        rw [hx] at hs
        have := (mem (k + 1) (by omega)).1
        refine nohit x (by omega) (fun i hi e2 => ?_) hs
        by_cases c : i ≤ k
        · have : (plc cs who)[i] ≤ (plc cs who)[k]'(by omega) := by
            by_cases c2 : i = k
            · subst c2; omega
            · have := lt i k (by omega) (by omega); omega
          omega
        · have : (plc cs who)[k + 1]'(by omega) ≤ (plc cs who)[i] := by
            by_cases c2 : i = k + 1
            · subst c2; omega
            · have := lt (k + 1) i hi (by omega); omega
          omega
  · have n0 : 0 < cs.length := by have := (mem 0 pl).1; omega
    obtain ⟨x, hx⟩ := Int.eq_ofNat_of_zero_le (Int.emod_nonneg i (show (cs.length : Int) ≠ 0 by omega))
    have xl := Int.emod_lt_of_pos i (show (0 : Int) < cs.length by omega)
    rw [hx] at xl
    have hx2 : hitF cs who x := by rw [← hx, hitF_mod]; exact hi
    have m := (plc_mem cs who x).mpr ⟨by omega, (hitF_nat cs who x (by omega)).mp hx2⟩
    obtain ⟨k, hk, e⟩ := List.getElem_of_mem m
    by_cases c : k + 1 < (plc cs who).length
    · refine ⟨gapAt cs who k, ?_, g2 k (by omega), ?_⟩
      · rw [eA k c]; have := lt k (k + 1) c (by omega); omega
      · have := hit (k + 1) c
        rw [hitF_congr cs who _ ((plc cs who)[k + 1] : Nat)]
        · exact this
        · rw [eA k c, e, Int.add_emod, hx]
          have : ((x : Int) + (((plc cs who)[k + 1] : Nat) - (x : Int)) % cs.length) % cs.length = (x + (((plc cs who)[k + 1] : Nat) - (x : Int))) % cs.length := by rw [Int.add_emod_emod]
          rw [this]
          congr 1
          omega
    · refine ⟨gapR cs who, r1, g1, ?_⟩
      have := hit 0 pl
      rw [hitF_congr cs who _ ((plc cs who)[0] : Nat)]
      · exact this
      · have ek : (plc cs who)[(plc cs who).length - 1]'(by omega) = x := by
          have : (plc cs who).length - 1 = k := by omega
          simp only [this]
          exact e
        rw [eR, ek, Int.add_emod, hx]
        have : ((x : Int) + (((plc cs who)[0] : Nat) + (cs.length : Int) - (x : Int)) % cs.length) % cs.length = (x + (((plc cs who)[0] : Nat) + (cs.length : Int) - (x : Int))) % cs.length := by rw [Int.add_emod_emod]
        rw [this, show (x : Int) + (((plc cs who)[0] : Nat) + (cs.length : Int) - (x : Int)) = ((plc cs who)[0] : Nat) + (cs.length : Int) by omega, Int.add_emod_right]
theorem longest_eq (cs : List Int) (who : Int) (hl : cs.length ≤ 100000) : f_longest [.lst .fz (cs.map .int), .int who] = .ok (if plc cs who = [] then .non else .int (lgN cs who ((plc cs who).length - 1))) := by
  rw [r_longest]
  unfold g_longest
  have ft : fits62 (cs.length : Int) := ⟨by omega, by omega⟩
  have pl := plc_len cs who
  simp -implicitDefEqProofs [ft, upTo_map]
  generalize hco : compD _ _ _ _ (List.map (fun i : Nat => D.int i) (List.range cs.length)) = r
  have hr : r = .ok ((plc cs who).map fun k : Nat => D.int k) := by
    rw [← hco]
    refine compD_F (fun k : Nat => decide (cs.getD k 0 = who)) (fun k : Nat => D.int k) fun k hk => ?_
    have e := idx_ints .fz cs k (List.mem_range.mp hk)
    generalize cs.getD k 0 = x at e
    simp -implicitDefEqProofs [e, opEq_p]
  subst hr
  have sm : (plc cs who).length ≤ seqMax := by unfold seqMax; omega
  have e0 : ((plc cs who).map fun k : Nat => D.int k) = ((plc cs who).map fun k : Nat => (k : Int)).map D.int := by rw [List.map_map]; rfl
  have gd : ∀ k, ((plc cs who).map fun k : Nat => (k : Int)).getD k 0 = ((plc cs who).getD k 0 : Nat) := fun k => by
    rw [List.getD_eq_getElem?_getD, List.getElem?_map, List.getD_eq_getElem?_getD]
    cases (plc cs who)[k]? <;> rfl
  by_cases h0 : plc cs who = []
  · rw [if_pos h0]
    simp -implicitDefEqProofs [h0, opEq_p]
  · rw [if_neg h0]
    have p0 : 0 < (plc cs who).length := List.length_pos_iff.mpr h0
    have ne : ¬ ((plc cs who).map fun k : Nat => (k : Int)) = [] := by simpa using h0
    have i0 := idx_ints .vw ((plc cs who).map fun k : Nat => (k : Int)) 0 (by rw [List.length_map]; exact p0)
    have i1 := idx_ints .vw ((plc cs who).map fun k : Nat => (k : Int)) ((plc cs who).length - 1) (by rw [List.length_map]; omega)
    rw [gd, show (((plc cs who).length - 1 : Nat) : Int) = ((plc cs who).length : Int) - 1 by omega] at i1
    rw [gd] at i0
    rw [e0]
    have l0 : ((plc cs who).map fun k : Nat => (k : Int)).length = (plc cs who).length := List.length_map ..
    generalize hps : ((plc cs who).map fun k : Nat => (k : Int)) = ps at *
    have f1 : fits62 (1 : Int) := ⟨by decide, by decide⟩
    have f2 : fits62 ((plc cs who).length : Int) := ⟨by omega, by omega⟩
    have sm2 : ps.length ≤ seqMax := by omega
    have i0' : opIdx (.lst .vw (ps.map .int)) (.int 0) = .ok (.int ((plc cs who).getD 0 0 : Nat)) := i0
    simp -implicitDefEqProofs [sm, sm2, opEq_p, ne, i0', i1, l0, f1, f2, upTo_shift]
    refine forD_M (P := fun r => toRes r = _) (fun i ρ => ∃ (x3 x5 : Option D), ρ = [some (.lst .fz (cs.map .int)), some (.int who), some (.lst .ow (ps.map .int)), x3, some (.int (lgN cs who i)), x5]) ⟨_, _, rfl⟩ (fun i k ρ hk ⟨x3, x5, h1⟩ => ?_) (fun ρ ⟨x3, x5, h1⟩ => ?_)
    · subst h1
      have kl : k < (plc cs who).length - 1 := by
        have := List.mem_range.mp (List.mem_of_getElem? hk)
        omega
      have ki : k = i := by
        obtain ⟨a, b⟩ := List.getElem?_eq_some_iff.mp hk
        rw [List.getElem_range] at b
        exact b.symm
      subst ki
      have j1 := idx_ints .vw ps (k + 1) (by omega)
      have j0 := idx_ints .vw ps k (by omega)
      rw [gd, show ((k + 1 : Nat) : Int) = 1 + (k : Int) by omega] at j1
      rw [gd] at j0
      refine to_of (ρ' := [some (.lst .fz (cs.map .int)), some (.int who), some (.lst .ow (ps.map .int)), x3, some (.int (lgN cs who (k + 1))), some (.int (1 + k))]) ?_ ⟨_, _, rfl⟩
      simp -implicitDefEqProofs [j1, j0, show (1 : Int) + k - 1 = k by omega]
      rfl
    · subst h1
      simp -implicitDefEqProofs [l0]
end Sh
/-! What longest tells, whether a round keeps a hall. -/
namespace Sh
open PySem PySem.Spec PySem.W PyProof.Rows L2 Dl
def oD : Option Int → D
  | none => .non
  | some n => .int n
/-- what longest tells -/
def LgO (cs : List Int) (who : Int) (o : Option Int) : Prop := (o = none ∧ plc cs who = []) ∨ ∃ L, o = some L ∧ plc cs who ≠ [] ∧ MaxGap (hitF cs who) L
theorem plc_hit (cs : List Int) (who i : Int) (h : hitF cs who i) (n0 : 0 < cs.length) : plc cs who ≠ [] := by
  obtain ⟨x, hx⟩ := Int.eq_ofNat_of_zero_le (Int.emod_nonneg i (show (cs.length : Int) ≠ 0 by omega))
  have xl := Int.emod_lt_of_pos i (show (0 : Int) < cs.length by omega)
  rw [hx] at xl
  have h2 : hitF cs who x := by rw [← hx, hitF_mod]; exact h
  exact List.ne_nil_of_mem ((plc_mem cs who x).mpr ⟨by omega, (hitF_nat cs who x (by omega)).mp h2⟩)
theorem plc_get (cs : List Int) (who : Int) (h : plc cs who ≠ []) : ∃ k : Nat, k < cs.length ∧ hitF cs who k := by
  obtain ⟨x, hx⟩ := List.exists_mem_of_ne_nil _ h
  obtain ⟨a, b⟩ := (plc_mem cs who x).mp hx
  exact ⟨x, a, (hitF_nat cs who x a).mpr b⟩
theorem LgO.uniq {cs ds : List Int} {who : Int} {o o' : Option Int} (a : LgO cs who o) (b : LgO ds who o') (h : plc cs who = [] ↔ plc ds who = []) (g : ∀ L, plc cs who ≠ [] → MaxGap (hitF cs who) L → MaxGap (hitF ds who) L) (n0 : cs ≠ []) (m0 : ds ≠ []) : o = o' := by
  rcases a with ⟨rfl, p⟩ | ⟨L, rfl, hp, p⟩
  · rcases b with ⟨rfl, q⟩ | ⟨M, rfl, hq, q⟩
    · rfl
    · exact absurd (h.mp p) hq
  · rcases b with ⟨rfl, q⟩ | ⟨M, rfl, hq, q⟩
    · exact absurd (h.mpr q) hp
    · rw [(g L hp p).uniq q]
theorem longest_o (cs : List Int) (who : Int) (hl : cs.length ≤ 100000) : ∃ o, f_longest [.lst .fz (cs.map .int), .int who] = .ok (oD o) ∧ LgO cs who o := by
  rw [longest_eq cs who hl]
  by_cases h : plc cs who = []
  · rw [if_pos h]; exact ⟨none, rfl, .inl ⟨rfl, h⟩⟩
  · rw [if_neg h]; exact ⟨some _, rfl, .inr ⟨_, rfl, h, lg_gap cs who h⟩⟩
/-! ### going round more than once, going back -/
theorem rep_len (cs : List Int) (r : Nat) : ((List.replicate r cs).flatten).length = r * cs.length := by
  induction r with
  | zero => simp
  | succ r ih => rw [List.replicate_succ, List.flatten_cons, List.length_append, ih, Nat.succ_mul, Nat.add_comm]
theorem rep_at (cs : List Int) : ∀ (r j : Nat), j < r * cs.length → ((List.replicate r cs).flatten).getD j 0 = cs.getD (j % cs.length) 0
  | 0, j, h => absurd h (by omega)
  | r + 1, j, h => by
    rw [List.replicate_succ, List.flatten_cons, List.getD_eq_getElem?_getD]
    by_cases c : j < cs.length
    · rw [List.getElem?_append_left c, Nat.mod_eq_of_lt c, List.getD_eq_getElem?_getD]
    · have hr := rep_at cs r (j - cs.length) (by rw [Nat.succ_mul] at h; omega)
      rw [List.getElem?_append_right (by omega), ← List.getD_eq_getElem?_getD, hr]
      rw [Nat.mod_eq_sub_mod (show j ≥ cs.length by omega)]
theorem hit_rep (cs : List Int) (who : Int) (r : Nat) (hr : 0 < r) (n0 : 0 < cs.length) (i : Int) : hitF ((List.replicate r cs).flatten) who i ↔ hitF cs who i := by
  unfold hitF
  rw [rep_len]
  have m0 : 0 < r * cs.length := Nat.mul_pos hr n0
  obtain ⟨x, hx⟩ := Int.eq_ofNat_of_zero_le (Int.emod_nonneg i (show ((r * cs.length : Nat) : Int) ≠ 0 by omega))
  have xl := Int.emod_lt_of_pos i (show (0 : Int) < ((r * cs.length : Nat) : Int) by omega)
  rw [hx] at xl ⊢
  rw [Int.toNat_natCast, rep_at cs r x (by omega)]
  have e : i % (cs.length : Int) = ((x % cs.length : Nat) : Int) := by
    rw [← Int.emod_emod_of_dvd i (show (cs.length : Int) ∣ ((r * cs.length : Nat) : Int) from ⟨r, by rw [Int.natCast_mul, Int.mul_comm]⟩), hx]
    omega
  rw [e, Int.toNat_natCast]
theorem hit_rev (cs : List Int) (who : Int) (n0 : 0 < cs.length) (i : Int) : hitF cs.reverse who i ↔ hitF cs who (-1 - i) := by
  unfold hitF
  rw [List.length_reverse]
  obtain ⟨x, hx⟩ := Int.eq_ofNat_of_zero_le (Int.emod_nonneg i (show (cs.length : Int) ≠ 0 by omega))
  have xl := Int.emod_lt_of_pos i (show (0 : Int) < cs.length by omega)
  have e : (-1 - i) % (cs.length : Int) = ((cs.length - 1 - x : Nat) : Int) := by
    have h1 : (-1 - i) = ((cs.length - 1 - x : Nat) : Int) + cs.length * (-1 - i / cs.length) := by
      have := Int.mul_ediv_add_emod i cs.length
      rw [Int.mul_sub]
      omega
    rw [h1, Int.add_mul_emod_self_left, Int.emod_eq_of_lt (by omega) (by omega)]
  rw [e, hx, Int.toNat_natCast, Int.toNat_natCast, List.getD_eq_getElem?_getD, List.getD_eq_getElem?_getD, List.getElem?_reverse (by omega)]
theorem gap_congr {h g : Int → Prop} (e : ∀ i, h i ↔ g i) {L : Int} (m : MaxGap h L) : MaxGap g L := by
  have : h = g := funext fun i => propext (e i)
  exact this ▸ m
theorem gap_rev {h : Int → Prop} {L : Int} {n : Int} (n0 : 0 < n) (per : ∀ i, h (i + n) ↔ h i) (m : MaxGap h L) : MaxGap (fun i => h (-1 - i)) L := by
  obtain ⟨l1, ⟨i, h1, h2, h3⟩, h4⟩ := m
  refine ⟨l1, ⟨-1 - (i + L), ?_, ?_, fun s s0 s1 hs => h3 (L - s) (by omega) (by omega) ?_⟩, fun j hj => ?_⟩
  · show h (-1 - (-1 - (i + L)))
    rw [show (-1 : Int) - (-1 - (i + L)) = i + L by omega]; exact h2
  · show h (-1 - (-1 - (i + L) + L))
    rw [show (-1 : Int) - (-1 - (i + L) + L) = i by omega]; exact h1
  · have : (-1 : Int) - (-1 - (i + L) + s) = i + (L - s) := by omega
    rw [← this]; exact hs
  · -- the last hit ahead of it
    have key : ∀ (k : Nat) (a : Int), h a → h (a - k) → 0 < k → ∃ s, 1 ≤ s ∧ s ≤ L ∧ h (a - s) := by
      intro k
      induction k using Nat.strongRecOn with
      | ind k ih =>
        intro a ha hk k0
        obtain ⟨s, s1, s2, s3⟩ := h4 (a - k) hk
        by_cases c : s < k
        · obtain ⟨t, ht⟩ := Int.eq_ofNat_of_zero_le (show 0 ≤ s by omega)
          refine ih (k - t) (by omega) a ha ?_ (by omega)
          rw [show a - ((k - t : Nat) : Int) = a - k + s by omega]
          exact s3
        · exact ⟨k, by omega, by omega, hk⟩
    obtain ⟨k, hk⟩ := Int.eq_ofNat_of_zero_le (show 0 ≤ n by omega)
    have hj' : h (-1 - j) := hj
    have hb : h (-1 - j - k) := by
      rw [← per, hk, show (-1 : Int) - j - k + k = -1 - j by omega]
      exact hj'
    obtain ⟨s, s1, s2, s3⟩ := key k (-1 - j) hj' hb (by omega)
    exact ⟨s, s1, s2, by show h (-1 - (j + s)); rw [show (-1 : Int) - (j + s) = -1 - j - s by omega]; exact s3⟩
theorem cs_idx (t : Tg) (cs : List Int) (who j : Int) (n0 : 0 < cs.length) : ∃ v, opIdx (.lst t (cs.map .int)) (.int (j % cs.length)) = .ok (.int v) ∧ (v = who ↔ hitF cs who j) := by
  obtain ⟨x, hx⟩ := Int.eq_ofNat_of_zero_le (Int.emod_nonneg j (show (cs.length : Int) ≠ 0 by omega))
  have xl := Int.emod_lt_of_pos j (show (0 : Int) < cs.length by omega)
  rw [hx] at xl
  refine ⟨_, by rw [hx]; exact idx_ints t cs x (by omega), ?_⟩
  unfold hitF
  rw [hx, Int.toNat_natCast]
/-- as a function -/
def lgo (cs : List Int) (who : Int) : Option Int := if plc cs who = [] then none else some (lgN cs who ((plc cs who).length - 1))
theorem lgo_o (cs : List Int) (who : Int) : LgO cs who (lgo cs who) := by
  unfold lgo
  by_cases h : plc cs who = []
  · rw [if_pos h]; exact .inl ⟨rfl, h⟩
  · rw [if_neg h]; exact .inr ⟨_, rfl, h, lg_gap cs who h⟩
theorem longest_f (cs : List Int) (who : Int) (hl : cs.length ≤ 100000) : f_longest [.lst .fz (cs.map .int), .int who] = .ok (oD (lgo cs who)) := by
  rw [longest_eq cs who hl]
  unfold lgo
  by_cases h : plc cs who = []
  · rw [if_pos h, if_pos h]; rfl
  · rw [if_neg h, if_neg h]; rfl
theorem LgO.eq {cs : List Int} {who : Int} {o : Option Int} (h : LgO cs who o) : o = lgo cs who := by
  by_cases n0 : cs = []
  · subst n0
    rcases h with ⟨rfl, h⟩ | ⟨L, _, h, _⟩
    · unfold lgo; rw [if_pos h]
    · exact absurd rfl h
  · exact h.uniq (lgo_o cs who) Iff.rfl (fun _ _ z => z) n0 n0
def okW (o : Option Int) (w : Int) : Bool := match o with
  | none => false
  | some L => decide (L ≤ w)
def keepsB (cs ws : List Int) : Bool := (List.range ws.length).all fun k => okW (lgo cs k) (ws.getD k 0)
theorem keeps_eq (cs ws : List Int) (c : Option Int) (hl : cs.length ≤ 100000) (h8 : ws.length ≤ 100) : f_keeps [hallD ws c, .lst .fz (cs.map .int)] = .ok (.bl (keepsB cs ws)) := by
  rw [r_keeps]
  unfold g_keeps
  have ft : fits62 (ws.length : Int) := ⟨by omega, by omega⟩
  have j0 : opIdx (hallD ws c) (.int 0) = .ok (.tup (ws.map .int)) := rfl
  simp -implicitDefEqProofs [ft, upTo_map, j0]
  refine forD_M (P := fun r => toRes r = _) (fun i ρ => (∃ (x2 x3 : Option D), ρ = [some (hallD ws c), some (.lst .fz (cs.map .int)), x2, x3]) ∧ ∀ k, k < i → okW (lgo cs k) (ws.getD k 0) = true) ⟨⟨_, _, rfl⟩, fun k h => absurd h (by omega)⟩ (fun i k ρ hk ⟨⟨x2, x3, h0⟩, h1⟩ => ?_) (fun ρ ⟨⟨x2, x3, h0⟩, h1⟩ => ?_)
  · subst h0
    have kl : k < ws.length := List.mem_range.mp (List.mem_of_getElem? hk)
    have ki : k = i := by
      obtain ⟨a, b⟩ := List.getElem?_eq_some_iff.mp hk
      rw [List.getElem_range] at b
      exact b.symm
    subst ki
    have e := longest_f cs k hl
    have e2 := idx_intsT ws k kl
    have bad : okW (lgo cs k) (ws.getD k 0) = false → keepsB cs ws = false := fun h => by
      unfold keepsB
      rw [List.all_eq_false]
      exact ⟨k, List.mem_range.mpr kl, by rw [h]; exact Bool.false_ne_true⟩
    cases hg : lgo cs k with
    | none =>
      rw [hg] at e bad
      simp -implicitDefEqProofs [e, oD, D.isN, bad rfl]
    | some L =>
      rw [hg] at e bad
      by_cases c2 : L ≤ ws.getD k 0
      · refine to_of (ρ' := [some (hallD ws c), some (.lst .fz (cs.map .int)), some (.int k), some (.int L)]) (by simp -implicitDefEqProofs [e, oD, D.isN, j0, e2, c2, -List.getD_eq_getElem?_getD]) ⟨⟨_, _, rfl⟩, fun j hj => ?_⟩
        by_cases e3 : j = k
        · subst e3; rw [hg]; exact decide_eq_true c2
        · exact h1 j (by omega)
      · have b2 := bad (decide_eq_false c2)
        have c3 : ws.getD k 0 < L := by omega
        simp -implicitDefEqProofs [e, oD, D.isN, j0, e2, c3, b2, -List.getD_eq_getElem?_getD]
  · subst h0
    rw [List.length_range] at h1
    have : keepsB cs ws = true := by
      unfold keepsB
      rw [List.all_eq_true]
      exact fun k hk => h1 k (List.mem_range.mp hk)
    simp -implicitDefEqProofs [this]
theorem hit_rot (c : Int) (cs : List Int) (who i : Int) : hitF (cs ++ [c]) who i ↔ hitF (c :: cs) who (i + 1) := by
  unfold hitF
  have l1 : (cs ++ [c]).length = cs.length + 1 := by simp
  have l2 : (c :: cs).length = cs.length + 1 := by simp
  rw [l1, l2]
  obtain ⟨x, hx⟩ := Int.eq_ofNat_of_zero_le (Int.emod_nonneg i (show ((cs.length + 1 : Nat) : Int) ≠ 0 by omega))
  have xl := Int.emod_lt_of_pos i (show (0 : Int) < ((cs.length + 1 : Nat) : Int) by omega)
  rw [hx] at xl
  have e : (i + 1) % ((cs.length + 1 : Nat) : Int) = if x = cs.length then 0 else ((x + 1 : Nat) : Int) := by
    rw [← Int.emod_add_emod, hx]
    by_cases h : x = cs.length
    · rw [if_pos h, h]
      exact Int.emod_self
    · rw [if_neg h, Int.emod_eq_of_lt (by omega) (by omega)]
      omega
  rw [e, hx, Int.toNat_natCast]
  by_cases h : x = cs.length
  · rw [if_pos h, h, List.getD_eq_getElem?_getD, List.getElem?_append_right (by omega)]
    simp
  · rw [if_neg h, Int.toNat_natCast, List.getD_eq_getElem?_getD, List.getElem?_append_left (by omega), List.getD_cons_succ, List.getD_eq_getElem?_getD]
theorem gap_shift {h : Int → Prop} {L : Int} (k : Int) (m : MaxGap h L) : MaxGap (fun i => h (i + k)) L := by
  obtain ⟨l1, ⟨i, h1, h2, h3⟩, h4⟩ := m
  refine ⟨l1, ⟨i - k, by show h (i - k + k); rw [Int.sub_add_cancel]; exact h1, by show h (i - k + L + k); rw [show i - k + L + k = i + L by omega]; exact h2, fun s s0 s1 hs => h3 s s0 s1 (by have : h (i - k + s + k) := hs; rw [show i - k + s + k = i + s by omega] at this; exact this)⟩, fun j hj => ?_⟩
  obtain ⟨s, s1, s2, s3⟩ := h4 (j + k) hj
  exact ⟨s, s1, s2, by show h (j + s + k); rw [show j + s + k = j + k + s by omega]; exact s3⟩
theorem lgo_rot (c : Int) (cs : List Int) (who : Int) : lgo (cs ++ [c]) who = lgo (c :: cs) who := by
  have n0 : cs ++ [c] ≠ [] := by simp
  have m0 : c :: cs ≠ [] := by simp
  refine (lgo_o (cs ++ [c]) who).uniq (lgo_o (c :: cs) who) ⟨fun h => ?_, fun h => ?_⟩ (fun L _ z => gap_congr (fun i => ?_) (gap_shift (-1) z)) n0 m0
  · by_cases q : plc (c :: cs) who = []
    · exact q
    · obtain ⟨k, _, b⟩ := plc_get _ who q
      exact absurd h (plc_hit _ who ((k : Int) - 1) ((hit_rot c cs who _).mpr (by rw [Int.sub_add_cancel]; exact b)) (by simp))
  · by_cases q : plc (cs ++ [c]) who = []
    · exact q
    · obtain ⟨k, _, b⟩ := plc_get _ who q
      exact absurd h (plc_hit _ who _ ((hit_rot c cs who _).mp b) (by simp))
  · show hitF (cs ++ [c]) who (i + -1) ↔ _
    rw [hit_rot, show i + -1 + 1 = i by omega]
theorem keepsB_rot (c : Int) (cs ws : List Int) : keepsB (cs ++ [c]) ws = keepsB (c :: cs) ws := by
  unfold keepsB
  simp only [lgo_rot]
end Sh
namespace Sh
open PySem PySem.Spec PyProof.Rows L2 Dl
noncomputable def g_behind_call : DS := (sSeq (sSet 3 (fLst (fCons (fCallF (fun ds => f_after (ds ++ [.bl false])) (fCons (fV 0) (fCons (fV 1) (fCons (fV 2) fNil)))) fNil)))
  (sSeq (sIf (tOf (fCallF f_may_lose (fCons (fV 0) (fCons (fV 1) fNil))))
  ((sApp 3 (fCallF f_after (fCons (fV 0) (fCons (fV 1) (fCons (fV 2) (fCons (fC (.bl true)) fNil)))))))
  sNext)
  (sRetV 3)))
noncomputable def f_behind_call : List D → Res D := runD 4 3 g_behind_call
theorem r_behind_call (a0 a1 a2 : D) : f_behind_call [a0, a1, a2] = toRes (g_behind_call [some a0, some a1, some a2, none]) := rfl
noncomputable def g_kept_paper : DS := (sSeq (sSet 1 (fCallF f_ranks (fCons (fV 0) fNil)))
  (sSeq (sIf (tOf (fB (opInK false) (fCallF f_beginning (fCons (fV 0) fNil)) (fV 1)))
  ((sRet (fC .non)))
  sNext)
  (sSeq (sSet 2 fDic0)
  (sSeq (sSet 3 (fLst (fCons (fCallF f_beginning (fCons (fV 0) fNil)) fNil)))
  (sSeq (sWhile (tOf (fB opNe (fV 3) (fLst fNil)))
  ((sSeq (sPop 4 3)
  (sIf (tOf (fB (opInK true) (fV 4) (fV 2)))
  ((sSeq (sSetK 2 (fV 4) (fCallF f_best_call (fCons (fV 0) (fCons (fV 1) (fCons (fV 4) fNil)))))
  (sExtend 3 (fCallF f_behind_call (fCons (fV 0) (fCons (fV 4) (fCons (fB opIdxK (fV 2) (fV 4)) fNil)))))))
  sNext))))
  (sRet (fCall (op1 (sort1 false)) (fCons (fComp [4] (fItGV (fV 2)) (gN 4) tYesD (fTup (fCons (fV 4) (fCons (fB opIdxK (fV 2) (fV 4)) fNil)))) fNil))))))))
noncomputable def f_kept_paper : List D → Res D := runD 5 1 g_kept_paper
theorem r_kept_paper (a0 : D) : f_kept_paper [a0] = toRes (g_kept_paper [some a0, none, none, none, none]) := rfl
noncomputable def g_worst_answers : DS := (sRet (fCall (op1 tuple1) (fCons (fComp [3] (fRng rng1 (fCons (fCall opLen (fCons (fB opIdxK (fV 0) (fC (.int 0))) fNil)) fNil)) (gN 3) tYesD (fCallF f_worst_answer (fCons (fV 0) (fCons (fV 1) (fCons (fV 2) (fCons (fV 3) fNil)))))) fNil)))
noncomputable def f_worst_answers : List D → Res D := runD 4 3 g_worst_answers
theorem r_worst_answers (a0 a1 a2 : D) : f_worst_answers [a0, a1, a2] = toRes (g_worst_answers [some a0, some a1, some a2, none]) := rfl
noncomputable def g_behind_answers : DS := (sSeq (sSet 3 (fLst fNil))
  (sSeq (sFor (gN 4) (fRng rng1 (fCons (fCall opLen (fCons (fB opIdxK (fV 0) (fC (.int 0))) fNil)) fNil))
  ((sSeq (sSet 5 (fCallF f_after (fCons (fV 0) (fCons (fV 1) (fCons (fV 4) (fCons (fB opIdxK (fV 2) (fV 4)) fNil))))))
  (sIf (tOf (fNotN (fV 5)))
  ((sFrz 5 (sApp 3 (fV 5))))
  sNext))))
  (sRetV 3)))
noncomputable def f_behind_answers : List D → Res D := runD 6 3 g_behind_answers
theorem r_behind_answers (a0 a1 a2 : D) : f_behind_answers [a0, a1, a2] = toRes (g_behind_answers [some a0, some a1, some a2, none, none, none]) := rfl
noncomputable def g_broken_paper : DS := (sSeq (sSet 1 (fCallF f_ranks (fCons (fV 0) fNil)))
  (sSeq (sIf (tOf (fB (opInK true) (fCallF f_beginning (fCons (fV 0) fNil)) (fV 1)))
  ((sRet (fC .non)))
  sNext)
  (sSeq (sSet 2 fDic0)
  (sSeq (sSet 3 (fLst (fCons (fCallF f_beginning (fCons (fV 0) fNil)) fNil)))
  (sSeq (sWhile (tOf (fB opNe (fV 3) (fLst fNil)))
  ((sSeq (sPop 4 3)
  (sIf (tOf (fB (opInK true) (fV 4) (fV 2)))
  ((sSeq (sSetK 2 (fV 4) (fCallF f_worst_answers (fCons (fV 0) (fCons (fV 1) (fCons (fV 4) fNil)))))
  (sExtend 3 (fCallF f_behind_answers (fCons (fV 0) (fCons (fV 4) (fCons (fB opIdxK (fV 2) (fV 4)) fNil)))))))
  sNext))))
  (sRet (fCall (op1 (sort1 false)) (fCons (fComp [4] (fItGV (fV 2)) (gN 4) tYesD (fTup (fCons (fV 4) (fCons (fB opIdxK (fV 1) (fV 4)) (fCons (fB opIdxK (fV 2) (fV 4)) fNil))))) fNil))))))))
noncomputable def f_broken_paper : List D → Res D := runD 5 1 g_broken_paper
theorem r_broken_paper (a0 : D) : f_broken_paper [a0] = toRes (g_broken_paper [some a0, none, none, none, none]) := rfl
noncomputable def g_are_chain : DS := (sSeq (sFor (gT (gs1 (gN 1) (gs1 (gN 2) gs0))) (fRng zip2 (fCons (fSl (fV 0) fNo (fPart (fU opNeg (fC (.int 1))))) (fCons (fSl (fV 0) (fPart (fC (.int 1))) fNo) fNil)))
  ((sIf (tOf (fB opNe (fB opMod (fV 2) (fV 1)) (fC (.int 0))))
  ((sRet (fC (.bl false))))
  sNext)))
  (sRet (fC (.bl true))))
noncomputable def f_are_chain : List D → Res D := runD 3 1 g_are_chain
theorem r_are_chain (a0 : D) : f_are_chain [a0] = toRes (g_are_chain [some a0, none, none]) := rfl
noncomputable def g_first_of : DS := (sSeq (sSet 2 (fC (.int 0)))
  (sSeq (sFor (gN 3) (fRng rng3 (fCons (fB opSub (fCall opLen (fCons (fV 0) fNil)) (fC (.int 1))) (fCons (fC (.int 0)) (fCons (fU opNeg (fC (.int 1))) fNil))))
  ((sSeq (sAsg (gT (gs1 (gN 1) (gs1 (gN 4) gs0))) (fCall (op2 dmW) (fCons (fV 1) (fCons (fB opFdiv (fB opIdxK (fV 0) (fV 3)) (fB opIdxK (fV 0) (fB opSub (fV 3) (fC (.int 1))))) fNil))))
  (sAug 2 opAdd (fB opMul (fB opIdxK (fV 0) (fB opSub (fV 3) (fC (.int 1)))) (fV 4))))))
  (sRetV 2)))
noncomputable def f_first_of : List D → Res D := runD 5 2 g_first_of
theorem r_first_of (a0 a1 : D) : f_first_of [a0, a1] = toRes (g_first_of [some a0, some a1, none, none, none]) := rfl
noncomputable def g_chain_wheel : DS := (sSeq (sFor (gN 1) (fItG (fV 0))
  ((sIf (tOf (fB opLtG (fV 1) (fC (.int 1))))
  ((sRaise "NoWheel"))
  sNext)))
  (sSeq (sSet 2 (fCall (op1 (sort1 false)) (fCons (fV 0) fNil)))
  (sSeq (sIf (tNotD (tOf (fCallF f_are_chain (fCons (fV 2) fNil))))
  ((sRaise "NoChain"))
  sNext)
  (sSeq (sIf (tOf (fCallF f_pass_one (fCons (fV 0) fNil)))
  ((sRaise "TooMuch"))
  sNext)
  (sSeq (sSet 3 (fComp [1] (fItGV (fV 0)) (gN 1) tYesD (fTup (fCons (fV 1) (fCons (fC (.int 0)) fNil)))))
  (sSeq (sSet 4 (fLst (fCons (fC (.int 1)) fNil)))
  (sSeq (sSet 5 (fC (.int 0)))
  (sSeq (sFor (gT (gs1 (gN 1) (gs1 (gN 6) gs0))) (fItG (fCall (op1 (sort1 false)) (fCons (fComp [6] (fRng rng1 (fCons (fCall opLen (fCons (fV 0) fNil)) fNil)) (gN 6) tYesD (fTup (fCons (fB opIdxK (fV 0) (fV 6)) (fCons (fV 6) fNil)))) fNil)))
  ((sSeq (sIf (tOf (fB opGtG (fV 1) (fB opIdxK (fV 4) (fU opNeg (fC (.int 1))))))
  ((sSeq (sSet 5 (fB opMul (fV 5) (fB opFdiv (fV 1) (fB opIdxK (fV 4) (fU opNeg (fC (.int 1)))))))
  (sApp 4 (fV 1))))
  sNext)
  (sSeq (sSetIx 3 (fV 6) (fTup (fCons (fV 1) (fCons (fCallF f_first_of (fCons (fV 4) (fCons (fV 5) fNil))) fNil))))
  (sAug 5 opAdd (fC (.int 1)))))))
  (sRetV 3)))))))))
noncomputable def f_chain_wheel : List D → Res D := runD 7 1 g_chain_wheel
theorem r_chain_wheel (a0 : D) : f_chain_wheel [a0] = toRes (g_chain_wheel [some a0, none, none, none, none, none, none]) := rfl
noncomputable def g_stays : DS := (sSeq (sSet 3 (fB opIdxK (fV 1) (fV 2)))
  (sSeq (sIf ((tOrD (tOf (fB opLtG (fV 3) (fC (.int 0)))) (tOf (fB opGeG (fV 3) (fCall opLen (fCons (fB opIdxK (fV 0) (fC (.int 0))) fNil))))))
  ((sRet (fC (.bl false))))
  sNext)
  (sSeq (sIf ((tAndD (tOf (fCallF f_may_lose (fCons (fV 0) (fCons (fV 2) fNil)))) (tOf (fB (opInKN true) (fCallF f_after (fCons (fV 0) (fCons (fV 2) (fCons (fV 3) (fCons (fC (.bl true)) fNil))))) (fV 1)))))
  ((sRet (fC (.bl false))))
  sNext)
  (sRet (fB (opInKN false) (fCallF (fun ds => f_after (ds ++ [.bl false])) (fCons (fV 0) (fCons (fV 2) (fCons (fV 3) fNil)))) (fV 1))))))
noncomputable def f_stays : List D → Res D := runD 4 3 g_stays
theorem r_stays (a0 a1 a2 : D) : f_stays [a0, a1, a2] = toRes (g_stays [some a0, some a1, some a2, none]) := rfl
noncomputable def g_lets_kept : DS := (sSeq (sSet 2 fDic0)
  (sSeq (sFor (gT (gs1 (gN 3) (gs1 (gN 4) gs0))) (fItG (fV 1))
  ((sSeq (sIf (tOf (fB (opInK false) (fV 3) (fV 2)))
  ((sRet (fC (.bl false))))
  sNext)
  (sSetK 2 (fV 3) (fV 4)))))
  (sSeq (sFrz 2 (sFor (gN 3) (fItG (fV 2))
  ((sIf (tNotD (tOf (fCallF f_stays (fCons (fV 0) (fCons (fV 2) (fCons (fV 3) fNil))))))
  ((sRet (fC (.bl false))))
  sNext))))
  (sRet (fB (opInK false) (fCallF f_beginning (fCons (fV 0) fNil)) (fV 2))))))
noncomputable def f_lets_kept : List D → Res D := runD 5 2 g_lets_kept
theorem r_lets_kept (a0 a1 : D) : f_lets_kept [a0, a1] = toRes (g_lets_kept [some a0, some a1, none, none, none]) := rfl
noncomputable def g_law_next : DS := (sSeq (sSet 3 (fLst (fCons (fCallF f_law_behind (fCons (fV 0) (fCons (fV 1) (fCons (fV 2) (fCons (fC (.bl false)) fNil))))) fNil)))
  (sSeq (sIf ((tAndD (tOf (fNotN (fB opIdxK (fV 0) (fC (.int 1))))) (tOf (fB opEq (fB opIdxK (fV 1) (fC (.int 1))) (fC (.int 0))))))
  ((sApp 3 (fCallF f_law_behind (fCons (fV 0) (fCons (fV 1) (fCons (fV 2) (fCons (fC (.bl true)) fNil)))))))
  sNext)
  (sRetV 3)))
noncomputable def f_law_next : List D → Res D := runD 4 3 g_law_next
theorem r_law_next (a0 a1 a2 : D) : f_law_next [a0, a1, a2] = toRes (g_law_next [some a0, some a1, some a2, none]) := rfl
noncomputable def g_ask_waits : DS := (sIf ((tOrD (tOf (fB opEq (fCall opLen (fCons (fV 0) fNil)) (fC (.int 0)))) (tOf (fB opLtG (fCall (op1 min1G) (fCons (fV 0) fNil)) (fC (.int 1))))))
  ((sRaise "NoWheel"))
  sNext)
noncomputable def f_ask_waits : List D → Res D := runD 1 1 g_ask_waits
theorem r_ask_waits (a0 : D) : f_ask_waits [a0] = toRes (g_ask_waits [some a0]) := rfl
noncomputable def g_halved : DS := (sSeq (sWhile (tOf (fB opGtG (fV 0) (fV 1)))
  ((sSet 0 (fB opShr (fV 0) (fC (.int 1))))))
  (sRetV 0))
noncomputable def f_halved : List D → Res D := runD 2 2 g_halved
theorem r_halved (a0 a1 : D) : f_halved [a0, a1] = toRes (g_halved [some a0, some a1]) := rfl
noncomputable def g_best_base : DS := (sSeq (sDrop (fCallF f_ask_waits (fCons (fV 0) fNil)))
  (sSeq (sSet 1 (fCall (op1 min1G) (fCons (fV 0) fNil)))
  (sSeq (sFor (gN 2) (fItG (fCallK sortK (fCons (fComp [3] (fItGV (fV 0)) (gN 3) tYesD (fCallF f_halved (fCons (fV 3) (fCons (fV 1) fNil)))) fNil) (fCons (fC (.bl true)) fNil)))
  ((sIf (tNotD (tOf (fCallF f_pass_one (fCons (fCallF f_doubled (fCons (fV 0) (fCons (fV 2) fNil))) fNil))))
  ((sRetV 2))
  sNext)))
  (sRet (fC .non)))))
noncomputable def f_best_base : List D → Res D := runD 4 1 g_best_base
theorem r_best_base (a0 : D) : f_best_base [a0] = toRes (g_best_base [some a0, none, none, none]) := rfl
noncomputable def g_law_is_standing : DS := (sSeq (sIf ((tOrD (tNotD (tOf (fU (isiD "tuple") (fV 1)))) (tOrD (tOf (fB opNe (fCall opLen (fCons (fV 1) fNil)) (fC (.int 2)))) (tNotD (tOf (fU (isiD "tuple") (fB opIdxK (fV 1) (fC (.int 0)))))))))
  ((sRet (fC (.bl false))))
  sNext)
  (sSeq (sIf ((tOrD (tOf (fB opNe (fCall opLen (fCons (fB opIdxK (fV 1) (fC (.int 0))) fNil)) (fCall opLen (fCons (fB opIdxK (fV 0) (fC (.int 0))) fNil)))) (tNotD (tOf (fCallF f_law_whole (fCons (fB opIdxK (fV 1) (fC (.int 1))) fNil))))))
  ((sRet (fC (.bl false))))
  sNext)
  (sSeq (sFor (gN 2) (fRng rng1 (fCons (fCall opLen (fCons (fB opIdxK (fV 0) (fC (.int 0))) fNil)) fNil))
  ((sIf ((tOrD (tNotD (tOf (fCallF f_law_whole (fCons (fB opIdxK (fB opIdxK (fV 1) (fC (.int 0))) (fV 2)) fNil)))) (tOrD (tOf (fB opLtG (fB opIdxK (fB opIdxK (fV 1) (fC (.int 0))) (fV 2)) (fC (.int 1)))) (tOf (fB opGtG (fB opIdxK (fB opIdxK (fV 1) (fC (.int 0))) (fV 2)) (fB opIdxK (fB opIdxK (fV 0) (fC (.int 0))) (fV 2)))))))
  ((sRet (fC (.bl false))))
  sNext)))
  (sSeq (sIf (tOf (fIsN (fB opIdxK (fV 0) (fC (.int 1)))))
  ((sRet (fB opEq (fB opIdxK (fV 1) (fC (.int 1))) (fC (.int 0)))))
  sNext)
  (sRet (fAndV (fB opLeG (fC (.int 0)) (fB opIdxK (fV 1) (fC (.int 1)))) (fB opLeG (fB opIdxK (fV 1) (fC (.int 1))) (fB opIdxK (fV 0) (fC (.int 1))))))))))
noncomputable def f_law_is_standing : List D → Res D := runD 3 2 g_law_is_standing
theorem r_law_is_standing (a0 a1 : D) : f_law_is_standing [a0, a1] = toRes (g_law_is_standing [some a0, some a1, none]) := rfl
noncomputable def g_falls : DS := (sSeq (sIf (tOf (fB opNe (fCall opLen (fCons (fV 3) fNil)) (fCall opLen (fCons (fB opIdxK (fV 0) (fC (.int 0))) fNil))))
  ((sRet (fC (.bl false))))
  sNext)
  (sSeq (sIf ((tAndD (tOf (fB (opInK false) (fC (.bl true)) (fV 3))) (tNotD (tOf (fCallF f_may_lose (fCons (fV 0) (fCons (fV 2) fNil)))))))
  ((sRet (fC (.bl false))))
  sNext)
  (sSeq (sFor (gN 4) (fRng rng1 (fCons (fCall opLen (fCons (fB opIdxK (fV 0) (fC (.int 0))) fNil)) fNil))
  ((sSeq (sSet 5 (fCallF f_after (fCons (fV 0) (fCons (fV 2) (fCons (fV 4) (fCons (fB opIdxK (fV 3) (fV 4)) fNil))))))
  (sIf (tOf (fNotN (fV 5)))
  ((sIf ((tOrD (tOf (fB (opInK true) (fV 5) (fV 1))) (tOf (fB opGeG (fB opIdxK (fV 1) (fV 5)) (fB opIdxK (fV 1) (fV 2))))))
  ((sRet (fC (.bl false))))
  sNext))
  sNext))))
  (sRet (fC (.bl true))))))
noncomputable def f_falls : List D → Res D := runD 6 4 g_falls
theorem r_falls (a0 a1 a2 a3 : D) : f_falls [a0, a1, a2, a3] = toRes (g_falls [some a0, some a1, some a2, some a3, none, none]) := rfl
noncomputable def g_lets_broken : DS := (sSeq (sSet 2 fDic0)
  (sSeq (sFor (gT (gs1 (gN 3) (gs1 (gN 4) (gs1 (gN 5) gs0)))) (fItG (fV 1))
  ((sSeq (sIf ((tOrD (tOf (fB (opInK false) (fV 3) (fV 2))) (tOf (fB opLtG (fV 4) (fC (.int 1))))))
  ((sRet (fC (.bl false))))
  sNext)
  (sSetK 2 (fV 3) (fV 4)))))
  (sSeq (sFor (gT (gs1 (gN 3) (gs1 (gN 4) (gs1 (gN 5) gs0)))) (fItG (fV 1))
  ((sIf (tNotD (tOf (fCallF f_falls (fCons (fV 0) (fCons (fV 2) (fCons (fV 3) (fCons (fV 5) fNil)))))))
  ((sRet (fC (.bl false))))
  sNext)))
  (sRet (fB (opInK false) (fCallF f_beginning (fCons (fV 0) fNil)) (fV 2))))))
noncomputable def f_lets_broken : List D → Res D := runD 6 2 g_lets_broken
theorem r_lets_broken (a0 a1 : D) : f_lets_broken [a0, a1] = toRes (g_lets_broken [some a0, some a1, none, none, none, none]) := rfl
noncomputable def g_law_grown : DS := (sSeq (sSet 1 (fB opAdd (fComp [2] (fItGV (fSl (fV 0) (fPart (fC (.int 3))) (fPart (fC (.int 11))))) (gN 2) tYesD (fB opAdd (fC (.int 1)) (fB opMod (fV 2) (fC (.int 5))))) (fB opMul (fLst (fCons (fB opAdd (fC (.int 1)) (fB opMod (fCallF f_law_cell (fCons (fV 0) (fCons (fC (.int 2)) fNil))) (fC (.int 5)))) fNil)) (fCall (op1 int1) (fCons (fB opLtG (fCall opLen (fCons (fV 0) fNil)) (fC (.int 4))) fNil)))))
  (sSeq (sSet 3 (fC .non))
  (sSeq (sSet 4 (fC (.int 1)))
  (sSeq (sIf (tOf (fB opGtG (fB opMod (fCallF f_law_cell (fCons (fV 0) (fCons (fC (.int 1)) fNil))) (fC (.int 4))) (fC (.int 0))))
  ((sSeq (sSet 3 (fB opMod (fCallF f_law_cell (fCons (fV 0) (fCons (fC (.int 1)) fNil))) (fC (.int 4))))
  (sSet 4 (fB opAdd (fV 3) (fC (.int 1))))))
  sNext)
  (sSeq (sForT 1 (gN 5)
  ((sSet 4 (fB opMul (fV 4) (fV 5)))))
  (sSeq (sSet 6 (fB opMod (fCallF f_law_cell (fCons (fV 0) (fCons (fC (.int 2)) fNil))) (fCall opLen (fCons (fV 1) fNil))))
  (sSeq (sSetIx 1 (fV 6) (fB opMul (fB opIdxK (fV 1) (fV 6)) (fB opAdd (fB opFdiv (fC (.int 3000)) (fV 4)) (fC (.int 1)))))
  (sSeq (sIf (tOf (fB opEq (fB opMod (fB opFdiv (fCallF f_law_cell (fCons (fV 0) (fCons (fC (.int 1)) fNil))) (fC (.int 4))) (fC (.int 2))) (fC (.int 1))))
  ((sSetIx 1 (fV 6) (fB opMul (fB opIdxK (fV 1) (fV 6)) (fB opAdd (fC (.int 1)) (fB opMod (fB opFdiv (fCallF f_law_cell (fCons (fV 0) (fCons (fC (.int 2)) fNil))) (fC (.int 8))) (fB opPow (fC (.int 10)) (fC (.int 40))))))))
  sNext)
  (sRet (fTup (fCons (fCall (op1 tuple1) (fCons (fV 1) fNil)) (fCons (fV 3) fNil))))))))))))
noncomputable def f_law_grown : List D → Res D := runD 7 1 g_law_grown
theorem r_law_grown (a0 : D) : f_law_grown [a0] = toRes (g_law_grown [some a0, none, none, none, none, none, none]) := rfl
noncomputable def g_law_full : DS := (sSeq (sSet 2 (fLst fNil))
  (sSeq (sSet 3 (fB opMul (fC (.int 64)) (fV 1)))
  (sSeq (sFor (gN 4) (fItG (fV 0))
  ((sSeq (sSet 5 (fCallF f_law_big (fCons (fV 4) fNil)))
  (sSeq (sSet 6 (fB opMod (fV 5) (fC (.int 7))))
  (sIf (tOf (fB opLeG (fB opShr (fC (.int 64)) (fV 6)) (fV 3)))
  ((sSeq (sSet 3 (fB opSub (fV 3) (fB opShr (fC (.int 64)) (fV 6))))
  (sSeq (sSet 7 (fB opIdxK (fLst (fCons (fC (.int 0)) (fCons (fB opSub (fB opShl (fV 1) (fV 6)) (fC (.int 1))) (fCons (fB opMod (fB opFdiv (fV 5) (fC (.int 21))) (fB opShl (fV 1) (fV 6))) fNil)))) (fB opMod (fB opFdiv (fV 5) (fC (.int 7))) (fC (.int 3)))))
  (sApp 2 (fB opAdd (fB opShl (fV 1) (fV 6)) (fV 7))))))
  sNext)))))
  (sSeq (sFor (gN 6) (fRng rng1 (fCons (fC (.int 7)) fNil))
  ((sWhile ((tAndD (tOf (fB opLeG (fB opShr (fC (.int 64)) (fV 6)) (fV 3))) (tOf (fB opLtG (fCall opLen (fCons (fV 2) fNil)) (fC (.int 24))))))
  ((sSeq (sSet 3 (fB opSub (fV 3) (fB opShr (fC (.int 64)) (fV 6))))
  (sApp 2 (fB opShl (fV 1) (fV 6))))))))
  (sRetV 2)))))
noncomputable def f_law_full : List D → Res D := runD 8 2 g_law_full
theorem r_law_full (a0 a1 : D) : f_law_full [a0, a1] = toRes (g_law_full [some a0, some a1, none, none, none, none, none, none]) := rfl
noncomputable def g_law_waits : DS := (sSeq (sSet 1 (fCallF f_law_big (fCons (fCallF f_law_cell_at (fCons (fV 0) (fCons (fC (.int 0)) fNil))) fNil)))
  (sSeq (sSet 2 (fComp [3] (fItGV (fV 0)) (gN 3) tYesD (fCallF f_law_wait (fCons (fV 3) (fCons (fCall opLen (fCons (fV 0) fNil)) fNil)))))
  (sSeq (sIf (tOf (fB opEq (fB opMod (fV 1) (fC (.int 2))) (fC (.int 1))))
  ((sSet 2 (fCallF f_law_full (fCons (fV 0) (fCons (fB opAdd (fC (.int 1)) (fB opMod (fB opFdiv (fV 1) (fC (.int 2))) (fB opAdd (fC (.int 1)) (fB opFdiv (fCall opLen (fCons (fV 0) fNil)) (fC (.int 2)))))) fNil)))))
  sNext)
  (sSeq (sIf (tOf (fB opEq (fB opMod (fB opFdiv (fV 1) (fC (.int 50))) (fC (.int 8))) (fC (.int 1))))
  ((sSeq (sSet 4 (fB opMod (fB opFdiv (fV 1) (fC (.int 400))) (fB opAdd (fCall opLen (fCons (fV 2) fNil)) (fC (.int 1)))))
  (sSet 2 (fB opAdd (fB opAdd (fSl (fV 2) fNo (fPart (fV 4))) (fLst (fCons (fB opIdxK (fLst (fCons (fC (.int 0)) (fCons (fU opNeg (fC (.int 1))) (fCons (fB opSub (fC (.int 0)) (fV 1)) fNil)))) (fB opMod (fB opFdiv (fV 1) (fC (.int 10000))) (fC (.int 3)))) fNil))) (fSl (fV 2) (fPart (fV 4)) fNo)))))
  sNext)
  (sRetV 2)))))
noncomputable def f_law_waits : List D → Res D := runD 5 1 g_law_waits
theorem r_law_waits (a0 : D) : f_law_waits [a0] = toRes (g_law_waits [some a0, none, none, none, none]) := rfl
noncomputable def g_wheel_for : DS := (sSeq (sSet 1 (fCallF f_best_base (fCons (fV 0) fNil)))
  (sSeq (sIf (tOf (fIsN (fV 1)))
  ((sRet (fC .non)))
  sNext)
  (sFrz 1 (sRet (fTup (fCons (fV 1) (fCons (fCallF f_chain_wheel (fCons (fCallF f_doubled (fCons (fV 0) (fCons (fV 1) fNil))) fNil)) fNil)))))))
noncomputable def f_wheel_for : List D → Res D := runD 2 1 g_wheel_for
theorem r_wheel_for (a0 : D) : f_wheel_for [a0] = toRes (g_wheel_for [some a0, none]) := rfl
noncomputable def g_law_lengths : DS := (sSeq (sSet 1 (fCallF f_law_big (fCons (fV 0) fNil)))
  (sSeq (sSet 2 (fLst (fCons (fB opAdd (fC (.int 1)) (fB opMod (fV 1) (fC (.int 6)))) fNil)))
  (sSeq (sFor (gN 3) (fRng rng1 (fCons (fC (.int 6)) fNil))
  ((sSeq (sSet 1 (fB opFdiv (fV 1) (fC (.int 7))))
  (sApp 2 (fB opMul (fB opIdxK (fV 2) (fU opNeg (fC (.int 1)))) (fB opIdxK (fLst (fCons (fC (.int 1)) (fCons (fC (.int 2)) (fCons (fC (.int 2)) (fCons (fC (.int 3)) (fCons (fC (.int 4)) (fCons (fC (.int 5)) (fCons (fC (.int 1000003)) fNil)))))))) (fB opMod (fV 1) (fC (.int 7)))))))))
  (sRetV 2))))
noncomputable def f_law_lengths : List D → Res D := runD 4 1 g_law_lengths
theorem r_law_lengths (a0 : D) : f_law_lengths [a0] = toRes (g_law_lengths [some a0, none, none, none]) := rfl
noncomputable def g_safe_steps : DS := (sSeq (sSet 4 (fLst fNil))
  (sSeq (sFor (gN 5) (fRng rng1 (fCons (fCall opLen (fCons (fB opIdxK (fV 0) (fC (.int 0))) fNil)) fNil))
  ((sSeq (sSet 6 (fCallF (fun ds => f_after (ds ++ [.bl false])) (fCons (fV 0) (fCons (fV 3) (fCons (fV 5) fNil)))))
  (sIf ((tAndD (tOf (fNotN (fV 6))) (tAndD (tOf (fB (opInK true) (fV 6) (fV 1))) (tOf (fB (opInK true) (fV 6) (fV 2))))))
  ((sFrz 6 (sApp 4 (fTup (fCons (fV 5) (fCons (fV 6) fNil))))))
  sNext))))
  (sRetV 4)))
noncomputable def f_safe_steps : List D → Res D := runD 7 4 g_safe_steps
theorem r_safe_steps (a0 a1 a2 a3 : D) : f_safe_steps [a0, a1, a2, a3] = toRes (g_safe_steps [some a0, some a1, some a2, some a3, none, none, none]) := rfl
noncomputable def g_way_in : DS := (sSeq (sIf (tOf (fNotN (fB opIdxK (fV 0) (fC (.int 1)))))
  ((sRaise "NoHall"))
  sNext)
  (sSeq (sSet 3 (fCallF f_ranks (fCons (fB opIdxK (fCallF f_joined (fCons (fV 0) (fCons (fV 1) (fCons (fV 2) fNil)))) (fC (.int 0))) fNil)))
  (sSeq (sSet 4 (fCallF f_ranks (fCons (fV 0) fNil)))
  (sSeq (sIf (tOf (fB (opInK false) (fV 1) (fV 4)))
  ((sRaise "Unsafe"))
  sNext)
  (sSeq (sSet 5 (fDic1 (fV 1) (fLst fNil)))
  (sSeq (sSet 6 (fLst (fCons (fV 1) fNil)))
  (sSeq (sWhile (tOf (fB opNe (fV 6) (fLst fNil)))
  ((sSeq (sSet 7 (fLst fNil))
  (sSeq (sFrz 6 (sFor (gN 8) (fItG (fV 6))
  ((sSeq (sIf (tOf (fB (opInK true) (fB opIdxK (fCallF f_joined (fCons (fV 0) (fCons (fV 8) (fCons (fV 2) fNil)))) (fC (.int 1))) (fV 3)))
  ((sRet (fB opIdxK (fV 5) (fV 8))))
  sNext)
  (sFor (gT (gs1 (gN 9) (gs1 (gN 10) gs0))) (fItG (fCallF f_safe_steps (fCons (fV 0) (fCons (fV 4) (fCons (fV 5) (fCons (fV 8) fNil))))))
  ((sSeq (sSetK 5 (fV 10) (fB opAdd (fB opIdxK (fV 5) (fV 8)) (fLst (fCons (fV 9) fNil))))
  (sApp 7 (fV 10)))))))))
  (sFrz 7 (sSet 6 (fV 7)))))))
  (sRet (fC .non)))))))))
noncomputable def f_way_in : List D → Res D := runD 11 3 g_way_in
theorem r_way_in (a0 a1 a2 : D) : f_way_in [a0, a1, a2] = toRes (g_way_in [some a0, some a1, some a2, none, none, none, none, none, none, none, none]) := rfl
noncomputable def g_law_cells : DS := (sSeq (sIf (tOf (fB opEq (fB opIdxK (fV 1) (fC (.int 0))) (fTup (fCons (fC (.int 6)) (fCons (fC (.int 6)) (fCons (fC (.int 6)) fNil))))))
  ((sRet (fLst (fCons (fCallF f_law_cell (fCons (fV 0) (fCons (fC (.int 4)) fNil))) fNil))))
  sNext)
  (sRet (fB opAdd (fLst (fCons (fC (.int 0)) fNil)) (fSl (fV 0) (fPart (fC (.int 4))) (fPart (fC (.int 7)))))))
noncomputable def f_law_cells : List D → Res D := runD 2 2 g_law_cells
theorem r_law_cells (a0 a1 : D) : f_law_cells [a0, a1] = toRes (g_law_cells [some a0, some a1]) := rfl
noncomputable def g_wheel_of : DS := (sSeq (sSet 1 (fLst fNil))
  (sSeq (sFor (gT (gs1 (gN 2) (gs1 (gN 3) gs0))) (fItG (fV 0))
  ((sSeq (sIf ((tOrD (tOf (fB opLtG (fV 2) (fC (.int 1)))) (tOrD (tOf (fB opLtG (fV 3) (fC (.int 0)))) (tOf (fB opGeG (fV 3) (fV 2))))))
  ((sRaise "NoWheel"))
  sNext)
  (sSeq (sForT 1 (gN 4)
  ((sIf (tOf (fNotN (fCallF f_shared_turn (fCons (fV 4) (fCons (fTup (fCons (fV 2) (fCons (fV 3) fNil))) fNil)))))
  ((sRaise "NoWheel"))
  sNext)))
  (sApp 1 (fTup (fCons (fV 2) (fCons (fV 3) fNil))))))))
  (sRetV 1)))
noncomputable def f_wheel_of : List D → Res D := runD 5 1 g_wheel_of
theorem r_wheel_of (a0 : D) : f_wheel_of [a0] = toRes (g_wheel_of [some a0, none, none, none, none]) := rfl
end Sh
/-! Instances of the module's classes: attributes, methods. -/
namespace Dl
open PySem PySem.Spec PySem.W PyProof.Rows L2
section
variable {X : Cx} {W : WX} {H0 F0 : Hp} {ρ : DEnv} {σ : L2.St} {F H F' H' : Hp} {k : Nat}
theorem zip_look {w : World} {K : PySem.W.Frag} {mg : Str → Option Value} {F : Hp} {f : Str} : ∀ {ps : List Str} {xs : List V} {ds : List D} {d : D}, Reps w K mg F xs ds → (ps.zip ds).lookup f = some d → ∃ v, (ps.zip xs).lookup f = some v ∧ Rep w K mg F v d
  | [], _, _, _, _, h => by simp at h
  | p :: ps, _, [], _, r, h => by simp at h
  | p :: ps, _, _ :: _, d, .cons (v := v) a b, h => by
    rw [List.zip_cons_cons] at h ⊢
    by_cases c : f = p
    · have e : (f == p) = true := beq_iff_eq.mpr c
      simp only [List.lookup, e] at h ⊢
      cases h
      exact ⟨v, rfl, a⟩
    · have e : (f == p) = false := beq_eq_false_iff_ne.mpr c
      simp only [List.lookup, e] at h ⊢
      exact zip_look b h
theorem zip_nolook {f : Str} : ∀ {ps : List Str} {xs : List V}, f ∉ ps → (ps.zip xs).lookup f = none
  | [], _, _ => by simp
  | p :: ps, [], _ => by simp
  | p :: ps, x :: xs, h => by
    rw [List.zip_cons_cons]
    have e : (f == p) = false := beq_eq_false_iff_ne.mpr fun z => h (by rw [z]; exact List.mem_cons_self ..)
    simp only [List.lookup, e]
    exact zip_nolook fun z => h (List.mem_cons_of_mem _ z)
/-- an instance, whatever its tag; no exception -/
theorem RX.obj {w : World} {K : PySem.W.Frag} {mg : Str → Option Value} {F H H1 : Hp} {v : V} {t : Tg} {c : Str} {ps : List Str} {ds : List D} (x : RX w K mg F H H1 v (.obj t c ps ds)) (s : Same F H1) (ne : ps ≠ [("!" : Str)]) : ∃ a C dx xs, v = .ref a ∧ mg c = some (.ref C) ∧ H1 a = some (.ins C dx (ps.zip xs)) ∧ ps.length = xs.length ∧ Reps w K mg F xs ds := by
  unfold RX at x
  cases t with
  | fz =>
    have x : Rep w K mg F v (.obj .fz c ps ds) := x
    cases x with
    | obj h r =>
      rcases h with ⟨C, h1, h2⟩ | ⟨e1, _⟩
      · rcases h2 with ⟨dx, e1, e2⟩ | ⟨e1, _⟩
        · exact ⟨_, C, dx, _, rfl, h1, s _ _ e1, e2, r⟩
        · exact absurd e1 ne
      · exact absurd e1 ne
  | ow =>
    obtain ⟨a, o, rfl, _, _, h3, C, dx, xs, m, rfl, l, r⟩ := x
    exact ⟨a, C, dx, xs, rfl, m, h3, l, r⟩
  | vw =>
    obtain ⟨a, o, rfl, _, h3, C, dx, xs, m, rfl, l, r⟩ := x
    exact ⟨a, C, dx, xs, rfl, m, h3, l, r⟩
/-! ### an attribute -/
/-- the classes in cs have no f of their own -/
structure FldC (K : PySem.W.Frag) (mg : Str → Option Value) (f : Str) (cs : List Str) : Prop where
  ok : ∀ c ∈ cs, ∀ C, mg c = some (.ref C) → Cls K C ∧ NoAttr K C f
def exm1 : List Str := [("!" : Str)]
def fldD (f : Str) (cs : List Str) : D → Res D
  | .obj _ c ps ds => if c ∈ cs ∧ ps ≠ exm1 then (match (ps.zip ds).lookup f with
    | some d => .ok d
    | none => .stuck) else .stuck
  | _ => .stuck
def fFld (f : Str) (cs : List Str) (fe : DE) : DE := fun ρ => (fe ρ).bind (fldD f cs)
@[simp] theorem fFld_ap (f : Str) (cs : List Str) (fe : DE) (ρ : DEnv) : fFld f cs fe ρ = (fe ρ).bind (fldD f cs) := rfl
theorem pd_fld {e : Expr} {fe : DE} {f : Str} {pos : Pos} {cs : List Str} (A : FldC X.K X.mg f cs) (he : PD X W e fe) (hb : attributeBase e f X.env (eval e X.env) = eval e X.env := by rfl) : PD X W (.Attribute e f pos) (fFld f cs fe) :=
  (pe_fld he hb).imp fun σ H Q ⟨H0, F0, ρ, F, r, p⟩ => ⟨H0, F0, ρ, F, r, p.bind (Gr.refl _ _) fun F1 H1 v d _ r1 g1 x1 p1 => by
    cases d with
    | obj t c ps ds =>
      obtain ⟨⟨c1, c2⟩, p2⟩ := Post.guard (c := c ∈ cs ∧ ps ≠ exm1) p1
      obtain ⟨a, C, dx, xs, rfl, m, e1, l, rs⟩ := x1.obj r1.fh c2
      cases e2 : (ps.zip ds).lookup f with
      | none => rw [e2] at p2; exact p2.elim
      | some d =>
        rw [e2] at p2
        obtain ⟨v, e3, rv⟩ := zip_look rs e2
        obtain ⟨k1, k2⟩ := A.ok c c1 C m
        exact ⟨a, C, dx, _, v, rfl, e1, k1, k2, e3, p2.here r1 g1 (RX.fz rv)⟩
    | _ => exact p1.elim⟩
/-! ### a method -/
/-- the method named m of the class named c keeps F: the first of its data the instance -/
def FnM (P : Program) (w : World) (K : PySem.W.Frag) (mg : Str → Option Value) (base : Heap) (k : Nat) (c m : Str) (ps : List Str) (F : List D → Res D) : Prop :=
  ∃ (C f : Addr) (fd : FuncData), mg c = some (.ref C) ∧ Cls K C ∧ Meth K C m f ∧ FnOk P w K mg base (L2.CX P w) k f fd ps (spD w K mg ps.length F) ∧ Binds K fd ps [] ∧ ∀ ds, ds.length ≠ ps.length → F ds = .stuck
abbrev Tbl := List (Str × List Str × (List D → Res D))
def TblOk (P : Program) (w : World) (K : PySem.W.Frag) (mg : Str → Option Value) (base : Heap) (k : Nat) (m : Str) (tb : Tbl) : Prop := ∀ c x, tb.lookup c = some x → FnM P w K mg base k c m x.1 x.2
/-- the method of an instance -/
def selM (m : Str) (tb : Tbl) : D → Option (List Str × (List D → Res D))
  | .obj _ c ps _ => if m ∉ ps ∧ ps ≠ exm1 then tb.lookup c else none
  | _ => none
def callM (F : List D → Res D) (ds : List D) : Res D := (F (ds.map (D.re .fz))).bind fun r => if anyVw ds = true → r.flat = true then .ok r else .stuck
def fMeth (m : Str) (tb : Tbl) (fe : DE) (fs : DA) : DE := fun ρ => (fe ρ).bind fun d => match selM m tb d with
  | some x => (fs ρ).bind fun ds => callM x.2 (d :: ds)
  | none => .stuck
@[simp] theorem fMeth_ap (m : Str) (tb : Tbl) (fe : DE) (fs : DA) (ρ : DEnv) : fMeth m tb fe fs ρ = (fe ρ).bind fun d => match selM m tb d with
  | some x => (fs ρ).bind fun ds => callM x.2 (d :: ds)
  | none => .stuck := rfl
def tMethT (X : Cx) (k : Nat) (m : Str) (E : L2.St → XK) (ta : TE) (t : TA) : TE := fun σ H Q => ta σ H fun x H1 => ∃ a C dx fs f fd ps sp, x = .ref a ∧ H1 a = some (.ins C dx fs) ∧ Cls X.K C ∧ Meth X.K C m f ∧ fs.lookup m = none ∧
  FnOk X.prog X.w X.K X.mg X.base (L2.CX X.prog X.w) k f fd ps sp ∧ Binds X.K fd ps [] ∧ t σ H1 fun vs H2 => sp (x :: vs) H2 Q (E σ)
theorem pe_methT {pl : Sem Bool} {m : Str} {o e : Expr} {es : List Expr} {ta : TE} {t : TA} {E : L2.St → XK} {apos pos : Pos} (he : PE X o ta) (hr : Room k X.A) (hx : ∀ σ, PassesAt (L2.CX X.prog X.w) X σ (E σ)) (ha : PA X (e :: es) t)
    (hst : starEach (e :: es) X.env = (false, eval e X.env) :: starEach es X.env := by rfl) (hpl : (backTo pos (starEach es X.env)).any (·.1) = false := by rfl)
    (ht : eval (.Call (.Attribute o m apos) (e :: es) [] pos) X.env = (do
      let ov ← eval o X.env
      standAt apos.atName
      let (f, first) ← holding [ov] (getMethod ov m pl)
      callWith pos f first (backTo pos (starEach (e :: es) X.env)) (backToKw pos (keywordEach [] X.env))) := by rfl) :
    PE X (.Call (.Attribute o m apos) (e :: es) [] pos) (tMethT X k m E ta t) := by
  refine ⟨fun pins s σ H Q I h => ?_⟩
  refine PySem.W.methodCall_KW (pl := pl) (thn (he.run pins s σ H _ I h) fun u s1 ⟨x, H1, I1, rx, a, C, dx, fs, f, fd, ps, sp, ex, ea, c, hm, l, F, hb, q⟩ => ?_) ht
  subst ex
  obtain rfl : u = Value.ref a := rx
  refine getmeth_ok I1 ea c hm l ?_
  refine PySem.W.callWith_K (first := [.ref a]) (h₀ := X.base) I.ok.mod.kin hm.kp (thn (ha.run pos pins s1 σ H1 _ I1 q) fun us s2 ⟨vs, H2, I2, r, q2⟩ => ⟨I2.kIn, ?_⟩) hst hpl
  exact run_fnSD (us := .ref a :: us) (vs := .ref a :: vs) (dvs := []) (ds := []) F hr hb .nil (hx σ) I2 (.cons rfl r) (by rw [List.append_nil]; exact q2)
theorem pe_methT0 {pl : Sem Bool} {m : Str} {o : Expr} {ta : TE} {E : L2.St → XK} {apos pos : Pos} (he : PE X o ta) (hr : Room k X.A) (hx : ∀ σ, PassesAt (L2.CX X.prog X.w) X σ (E σ))
    (ht : eval (.Call (.Attribute o m apos) [] [] pos) X.env = (do
      let ov ← eval o X.env
      standAt apos.atName
      let (f, first) ← holding [ov] (getMethod ov m pl)
      callWith pos f first (backTo pos (starEach [] X.env)) (backToKw pos (keywordEach [] X.env))) := by rfl) :
    PE X (.Call (.Attribute o m apos) [] [] pos) (tMethT X k m E ta tNil) := by
  refine ⟨fun pins s σ H Q I h => ?_⟩
  refine PySem.W.methodCall_KW (pl := pl) (thn (he.run pins s σ H _ I h) fun u s1 ⟨x, H1, I1, rx, a, C, dx, fs, f, fd, ps, sp, ex, ea, c, hm, l, F, hb, q⟩ => ?_) ht
  subst ex
  obtain rfl : u = Value.ref a := rx
  refine getmeth_ok I1 ea c hm l ?_
  exact PySem.W.callWith_K0 (first := [.ref a]) I1.kIn hm.kp (run_fnSD (us := [.ref a]) (vs := [.ref a]) (dvs := []) (ds := []) F hr hb .nil (hx σ) I1 (.cons rfl .nil) (by rw [List.append_nil]; exact q))
theorem meth_imp {m : Str} {tb : Tbl} {fe : DE} {fs : DA} {t : TA} (hT : ∀ σ H Q, tD X W (RXs X) fs σ H Q → t σ H Q) (T : TblOk X.prog X.w X.K X.mg X.base k m tb) {Q : VK} (h : tD X W (RXX X) (fMeth m tb fe fs) σ H Q) : tMethT X k m (WE W) (tD X W (RXX X) fe) t σ H Q := by
  obtain ⟨H0, F0, ρ, F, r, p⟩ := h
  refine ⟨H0, F0, ρ, F, r, p.bind (Gr.refl _ _) fun F1 H1 v d _ r1 g1 x1 p1 => ?_⟩
  cases hs : selM m tb d with
  | none => rw [hs] at p1; exact p1.elim
  | some z =>
    rw [hs] at p1
    cases d with
    | obj t c ps ds =>
      have hs2 : (if m ∉ ps ∧ ps ≠ exm1 then tb.lookup c else none) = some z := hs
      by_cases g : m ∉ ps ∧ ps ≠ exm1
      · rw [if_pos g] at hs2
        obtain ⟨C, f, fd, m1, k1, k2, k3, k4, k5⟩ := T c z hs2
        obtain ⟨a, C', dx, xs, rfl, m2, e1, l, rs⟩ := x1.obj r1.fh g.2
        rw [m1] at m2
        cases m2
        refine ⟨a, C, dx, _, f, fd, z.1, _, rfl, e1, k1, k2, zip_nolook g.1, k3, k4, hT _ _ _ ⟨H0, F0, ρ, F1, r1, p1.bind g1 fun F2 H2 vs as _ r2 g2 x2 p2 => ?_⟩⟩
        have xx : RXs X F2 H H2 (.ref a :: vs) (.obj t c ps ds :: as) := .cons (x1.mono g2) (relXs.st _ _ _ _ _ _ x2 g1.hh)
        have l1 := xx.length
        by_cases q : (((D.obj t c ps ds :: as).map (D.re .fz)) ++ []).length = z.1.length
        · have := call_run (dvs := []) (dfl := []) (Fn := z.2) (n := z.1.length) r r2 (g1.trans g2) xx (by rw [l1]; rw [List.append_nil, List.length_map] at q; exact q) (fun _ => .nil) (by rw [List.append_nil]; exact p2)
          rw [List.append_nil] at this
          exact this
        · unfold callM at p2
          rw [List.append_nil] at q
          rw [k5 _ q] at p2
          exact p2.elim
      · rw [if_neg g] at hs2; cases hs2
    | _ => cases hs
theorem pd_meth {m : Str} {tb : Tbl} {o e : Expr} {es : List Expr} {fe : DE} {fs : DA} {apos pos : Pos} {pl : Sem Bool} (T : TblOk X.prog X.w X.K X.mg X.base k m tb) (hr : Room k X.A) (tk : Takes X W) (he : PD X W o fe) (ha : PAD X W (e :: es) fs)
    (hst : starEach (e :: es) X.env = (false, eval e X.env) :: starEach es X.env := by rfl) (hpl : (backTo pos (starEach es X.env)).any (·.1) = false := by rfl)
    (ht : eval (.Call (.Attribute o m apos) (e :: es) [] pos) X.env = (do
      let ov ← eval o X.env
      standAt apos.atName
      let (f, first) ← holding [ov] (getMethod ov m pl)
      callWith pos f first (backTo pos (starEach (e :: es) X.env)) (backToKw pos (keywordEach [] X.env))) := by rfl) :
    PD X W (.Call (.Attribute o m apos) (e :: es) [] pos) (fMeth m tb fe fs) := (pe_methT he hr (passAt tk) ha hst hpl ht).imp fun σ H Q h => meth_imp (fun _ _ _ h => h) T h
theorem pd_meth0 {m : Str} {tb : Tbl} {o : Expr} {fe : DE} {apos pos : Pos} {pl : Sem Bool} (T : TblOk X.prog X.w X.K X.mg X.base k m tb) (hr : Room k X.A) (tk : Takes X W) (he : PD X W o fe)
    (ht : eval (.Call (.Attribute o m apos) [] [] pos) X.env = (do
      let ov ← eval o X.env
      standAt apos.atName
      let (f, first) ← holding [ov] (getMethod ov m pl)
      callWith pos f first (backTo pos (starEach [] X.env)) (backToKw pos (keywordEach [] X.env))) := by rfl) :
    PD X W (.Call (.Attribute o m apos) [] [] pos) (fMeth m tb fe fNil) := (pe_methT0 he hr (passAt tk) ht).imp fun σ H Q h => meth_imp (fun _ _ _ ⟨H0, F0, ρ, F, r, p⟩ => p.here r (Gr.refl _ _) .nil) T h
end
end Dl
/-! Methods by their bodies; instances made: __init__, attributes set. -/
namespace Dl
open PySem PySem.Spec PySem.W PyProof.Rows L2
/-- the method m (qualified q) of the class c stands there -/
structure MethAt (K : PySem.W.Frag) (mg : Str → Option Value) (c m q : Str) (st : Stmt) (ps : List Str) : Prop where
  ex : ∃ (C f : Addr) (fd : FuncData), mg c = some (.ref C) ∧ Cls K C ∧ Meth K C m f ∧ FunD K m q (defArgs st) (defBody st) (defScope st) [] [] f fd ∧ Binds K fd ps []
section
variable {P : Program} {w : World} {K : PySem.W.Frag} {mg : Str → Option Value} {base : Heap}
theorem fnM {c m q : Str} {st : Stmt} {N ps : List Str} {k : Nat} (g : DS) (A : MethAt K mg c m q st ps) (S : FnScope N ps (defScope st))
    (hb : ∀ (f : Addr) (cdv : Value) (A : Around) (outer : List Env) (s : Shared) (H : Hp) (E : XK), Room k (A.deeper (envOfC q (defScope st) s.heap.objs.size f cdv)) →
      PSSD (cxOf (L2.CX P w) P w K mg base N q (defScope st) f cdv A outer s H E) (fun cls d _ H => E cls d H) (defBody st) g) : FnM P w K mg base (k + 1) c m ps (runD N.length ps.length g) := by
  obtain ⟨C, f, fd, h0, hc, hm, h2, h3⟩ := A.ex
  refine ⟨C, f, fd, h0, hc, hm, h2.ok S (fun vs H Q E ⟨_, _, _, _, h, _⟩ => h) (fun cdv A outer s H vs Q E hr ⟨F0, ds, s0, r, hl, p⟩ => ⟨_, hb f cdv A outer s H E hr, ?_⟩), h3, fun ds hn => ?_⟩
  · unfold runD at p
    rw [if_pos (by rw [← r.length, hl])] at p
    refine ⟨H, F0, _, F0, start_R s0 r, ?_⟩
    cases e : g (start0 N.length ds) with
    | next ρ => rw [e] at p; exact fun σ F H' r' => p F H' .non r'.gr r'.fh (RX.fz .non)
    | ret d => rw [e] at p; exact fun F H' v g s x => p F H' v g s x
    | exc c ρ => rw [e] at p; exact fun σ F H' C r' m => p F H' C r'.gr r'.fh m
    | brk ρ => rw [e] at p; exact p.elim
    | cont ρ => rw [e] at p; exact p.elim
    | stuck => rw [e] at p; exact p.elim
  · unfold runD
    rw [if_neg hn]
end
/-! ### a new instance -/
/-- what __init__ leaves: the instance's datum -/
def IRes (F0 H0 : Hp) (w : World) (K : PySem.W.Frag) (mg : Str → Option Value) (x C : Addr) (r : Res D) (Q : VK) (E : XK) : Prop := match r with
  | .ok (.obj _ _ ps fs) => ∀ F' H' xs dx, Gr F0 H0 F' H' → Same F' H' → F' x = none → H' x = some (.ins C dx (ps.zip xs)) → ps.length = xs.length → Reps w K mg F' xs fs → Q .non H'
  | .exc e => ∀ F' H' Ce, Gr F0 H0 F' H' → Same F' H' → mg e = some (.ref Ce) → E (.ref Ce) none H'
  | _ => False
def spI (w : World) (K : PySem.W.Frag) (mg : Str → Option Value) (c : Str) (n : Nat) (FI : List D → Res D) : Sp := fun vs H Q E =>
  ∃ x dx C vs' F0 H0 ds, vs = .ref x :: vs' ∧ mg c = some (.ref C) ∧ H = upd H0 x (.ins C dx []) ∧ H0 x = none ∧ F0 x = none ∧ Same F0 H0 ∧ Reps w K mg F0 vs' ds ∧ vs.length = n ∧ IRes F0 H0 w K mg x C (FI ds) Q E
/-- the class c is made by FI: ps the parameters behind self -/
def MkD (P : Program) (w : World) (K : PySem.W.Frag) (mg : Str → Option Value) (base : Heap) (k : Nat) (c : Str) (ps : List Str) (FI : List D → Res D) : Prop :=
  ∃ (C f : Addr) (fd : FuncData), mg c = some (.ref C) ∧ Mk K C f ∧ FnOk P w K mg base (L2.CX P w) k f fd ("self" :: ps) (spI w K mg c (ps.length + 1) FI) ∧ Binds K fd ("self" :: ps) [] ∧ (∀ ds d, FI ds = .ok d → ∃ qs fs, d = .obj .ow c qs fs) ∧ ∀ ds, ds.length ≠ ps.length → FI ds = .stuck
/-- the class c, its __init__ -/
structure MkAt (K : PySem.W.Frag) (mg : Str → Option Value) (c q : Str) (st : Stmt) (ps : List Str) : Prop where
  ex : ∃ (C f : Addr) (fd : FuncData), mg c = some (.ref C) ∧ Mk K C f ∧ FunD K "__init__" q (defArgs st) (defBody st) (defScope st) [] [] f fd ∧ Binds K fd ("self" :: ps) []
def endI (c : Str) : SR → Res D
  | .next ρ => (match ρ[0]? with
    | some (some (D.obj .ow c' ps fs)) => if c' = c then .ok (.obj .ow c ps fs) else .stuck
    | _ => .stuck)
  | .exc e _ => .exc e
  | _ => .stuck
def runI (n m : Nat) (c : Str) (g : DS) : List D → Res D := fun ds => if ds.length = m then endI c (g (start0 n (.obj .ow c [] [] :: ds))) else .stuck
section
variable {P : Program} {w : World} {K : PySem.W.Frag} {mg : Str → Option Value} {base : Heap}
theorem start_I {H0 F0 : Hp} {vs : List V} {ds : List D} {N : List Str} {x C dx : Addr} {c : Str} (hx : H0 x = none) (fx : F0 x = none) (m : mg c = some (.ref C)) (s : Same F0 H0) (r : Reps w K mg F0 vs ds) : Rw w K mg H0 F0 (start0 N.length (.obj .ow c [] [] :: ds)) (L2.start N (.ref x :: vs)) F0 (upd H0 x (.ins C dx [])) := by
  have get : ∀ (i : Nat) d, (start0 N.length (.obj .ow c [] [] :: ds))[i]? = some (some d) → (D.obj .ow c [] [] :: ds)[i]? = some d := fun i d h => by
    unfold start0 at h
    by_cases hi : i < (D.obj .ow c [] [] :: ds).length
    · rw [List.getElem?_append_left (by simpa using hi), List.getElem?_map] at h
      cases e : (D.obj .ow c [] [] :: ds)[i]? with
      | none => rw [e] at h; cases h
      | some x => rw [e] at h; cases h; rfl
    · rw [List.getElem?_append_right (by simpa using hi), List.getElem?_replicate] at h
      split at h <;> cases h
  have tgs := r.tgs
  have st : ∀ (i : Nat) v, (V.ref x :: vs)[i]? = some v → (L2.start N (.ref x :: vs))[i]? = some (some v) := fun i v e1 => by
    unfold L2.start
    have hi : i < (V.ref x :: vs).length := (List.getElem?_eq_some_iff.mp e1).1
    rw [List.getElem?_append_left (by simpa using hi), List.getElem?_map, e1]
    rfl
  refine ⟨fun b o e => by rw [upd_ne (ne_of_none (s _ _ e) hx)]; exact s _ _ e, ⟨Same.refl _, same_upd_none hx, fun _ h => .inl h⟩, ?_, fun i d h => ?_, fun i j a di dj h1 h2 t1 t2 _ _ => ?_⟩
  · unfold start0 L2.start
    simp [r.length]
  · cases i with
    | zero =>
      have := get 0 d h
      cases this
      exact ⟨.ref x, st 0 _ rfl, x, _, rfl, hx, fx, upd_same, C, dx, [], m, rfl, rfl, .nil⟩
    | succ i =>
      obtain ⟨v, e1, e2⟩ := r.get (show ds[i]? = some d from get (i + 1) d h)
      refine ⟨v, st (i + 1) v e1, ?_⟩
      unfold VR
      rw [e2.tg]
      exact e2
  · have z : ∀ (i : Nat) d, (start0 N.length (.obj .ow c [] [] :: ds))[i]? = some (some d) → d.tg = .ow → i = 0 := fun i d h t => by
      cases i with
      | zero => rfl
      | succ i =>
        have := tgs d (List.mem_of_getElem? (show ds[i]? = some d from get (i + 1) d h))
        rw [this] at t
        cases t
    rw [z i di h1 t1, z j dj h2 t2]
theorem mkD {c q : Str} {st : Stmt} {N ps : List Str} {k : Nat} (g : DS) (A : MkAt K mg c q st ps) (S : FnScope N ("self" :: ps) (defScope st))
    (hb : ∀ (f : Addr) (cdv : Value) (A : Around) (outer : List Env) (s : Shared) (H : Hp) (E : XK), Room k (A.deeper (envOfC q (defScope st) s.heap.objs.size f cdv)) →
      PSSK (cxOf (L2.CX P w) P w K mg base N q (defScope st) f cdv A outer s H E) (fun cls d _ H => E cls d H) 0 (defBody st) g) : MkD P w K mg base (k + 1) c ps (runI N.length ps.length c g) := by
  obtain ⟨C, f, fd, h0, hm, h2, h3⟩ := A.ex
  refine ⟨C, f, fd, h0, hm, h2.ok S (fun vs H Q E ⟨_, _, _, _, _, _, _, _, _, _, _, _, _, _, h, _⟩ => h) (fun cdv A outer s H vs Q E hr ⟨x, dx, C', vs', F0, H0, ds, ev, m, eH, hx, fx, s0, r, hl, p⟩ => ⟨_, hb f cdv A outer s H E hr, ?_⟩), h3, fun ds d e => ?_, fun ds hn => by unfold runI; rw [if_neg hn]⟩
  · subst ev eH
    unfold runI at p
    rw [if_pos (by rw [← r.length]; simpa using hl)] at p
    refine ⟨H0, F0, _, F0, start_I (N := N) hx fx m s0 r, ?_⟩
    have s1 : (L2.start N (V.ref x :: vs'))[0]? = some (some (.ref x)) := by unfold L2.start; rfl
    rw [s1]
    cases e : g (start0 N.length (.obj .ow c [] [] :: ds)) with
    | next ρ =>
      rw [e] at p
      refine fun σ F H' r' sx => ?_
      unfold endI at p
      dsimp only at p
      cases e2 : ρ[0]? with
      | none => rw [e2] at p; exact p.elim
      | some o =>
        rw [e2] at p
        cases o with
        | none => exact p.elim
        | some d =>
          cases d with
          | obj t c' qs fs =>
            cases t with
            | ow =>
              dsimp only at p
              by_cases cc : c' = c
              · rw [if_pos cc] at p
                obtain ⟨a, o, z1, z2, z3, z4, C2, dx2, xs, m2, rfl, l, rs⟩ := r'.own e2 rfl
                rw [sx] at z1
                cases z1
                subst cc
                have m2 : mg c' = some (.ref C2) := m2
                rw [m] at m2
                cases m2
                exact p F H' xs dx2 r'.gr r'.fh z3 z4 l rs
              · rw [if_neg cc] at p; exact p.elim
            | _ => exact p.elim
          | _ => exact p.elim
    | exc c ρ => rw [e] at p; exact fun σ F H' C r' _ m => p F H' C r'.gr r'.fh m
    | ret d => rw [e] at p; exact p.elim
    | brk ρ => rw [e] at p; exact p.elim
    | cont ρ => rw [e] at p; exact p.elim
    | stuck => rw [e] at p; exact p.elim
  · unfold runI at e
    by_cases hn : ds.length = ps.length
    · rw [if_pos hn] at e
      cases eg : g (start0 N.length (.obj .ow c [] [] :: ds)) with
      | next ρ =>
        rw [eg] at e
        unfold endI at e
        dsimp only at e
        split at e
        · rename_i c' qs fs _
          by_cases cc : c' = c
          · rw [if_pos cc] at e; cases e; exact ⟨_, _, rfl⟩
          · rw [if_neg cc] at e; cases e
        · cases e
      | _ => rw [eg] at e; cases e
    · rw [if_neg hn] at e; cases e
end
/-! ### C(..) -/
section
variable {X : Cx} {W : WX} {H0 F0 : Hp} {ρ : DEnv} {σ : L2.St} {F H F' H' : Hp} {k : Nat}
def tMakeS (C : Addr) (sp : Sp) (E : L2.St → XK) (t : TA) : TE := fun σ H Q => t σ H fun vs H1 => ∀ x dx, H1 x = none → H1 dx = none → dx ≠ x →
  sp (.ref x :: vs) (upd (upd H1 dx (.own x)) x (.ins C dx [])) (fun v H2 => v = .non ∧ Q (.ref x) H2) (E σ)
theorem run_makeS {f C : Addr} {fd : FuncData} {ps : List Str} {sp : Sp} {E : XK} {CX : CXT} {pins : List (Addr × Obj)} {s : Shared} {Q : VK} {us : List Value} {vs : List V} (M : Mk X.K C f) (F : FnOk X.prog X.w X.K X.mg X.base CX k f fd ps sp) (hr : Room (k + 1) X.A) (hb : Binds X.K fd ps [])
    (hx : PassesAt CX X σ E) (I : Inv X pins σ H s) (r : Vals vs us)
    (h : ∀ x dx, H x = none → H dx = none → dx ≠ x → sp (.ref x :: vs) (upd (upd H dx (.own x)) x (.ins C dx [])) (fun v H2 => v = .non ∧ Q (.ref x) H2) E) :
    wpAny (model X.prog X.w) X.A (call (.ref C) us) (EP X pins σ Q) X.xe s := by
  have hq := h (s.heap.objs.size + 1) s.heap.objs.size (I.hok.fresh (Nat.le_succ _)) (I.hok.fresh (Nat.le_refl _)) (Nat.ne_of_lt (Nat.lt_succ_self _))
  have I2 := Inv.made (C := C) I
  have r2 : Vals (V.ref (s.heap.objs.size + 1) :: vs) (Value.ref (s.heap.objs.size + 1) :: us) := .cons rfl r
  have hl : (Value.ref (s.heap.objs.size + 1) :: us ++ ([] : List Value)).length = ps.length := by
    have e := r2.length
    rw [F.len _ _ _ _ hq] at e
    rw [List.append_nil]
    exact e.symm
  have bb := hb _ (Value.ref (s.heap.objs.size + 1) :: us) I2.kIn hl
  rw [List.append_nil] at bb
  refine wpAny_call (make_map (f := f) I.kIn M.makes M.init (beq_iff_eq.mp M.fn) (codeAny_mono (F.run _ X.stack _ _ ⟨Value.ref (s.heap.objs.size + 1) :: us, []⟩ (Value.ref (s.heap.objs.size + 1) :: us) _ _ E (hr.make C us [])
    (I2.env0.make C us []) bb r2 hq) fun r s' hq' => ?_))
  cases r with
  | error e => exact hx pins _ _ e s' I2 hq'
  | ok fl =>
    cases fl with
    | ret u =>
      obtain ⟨v, H', I3, rv, ev, q3⟩ := I2.after hq'
      subst ev
      exact ⟨rv, ⟨V.ref (s.heap.objs.size + 1), H', I3, rfl, q3⟩⟩
    | next => exact False.elim hq'
    | brk => exact False.elim hq'
    | cont => exact False.elim hq'
theorem pe_makeS {f C : Addr} {fd : FuncData} {ps : List Str} {sp : Sp} {E : L2.St → XK} {CX : CXT} {x : Str} {p pos : Pos} {e : Expr} {es : List Expr} {t : TA} (M : Mk X.K C f) (F : FnOk X.prog X.w X.K X.mg X.base CX k f fd ps sp) (hr : Room (k + 1) X.A) (hg : Gl X x) (hm : X.mg x = some (.ref C)) (hb : Binds X.K fd ps []) (hx : ∀ σ, PassesAt CX X σ (E σ))
    (ha : PA X (e :: es) t) (hdb : (x == ("__debug__" : Str)) = false := by decide) (he : starEach (e :: es) X.env = (false, eval e X.env) :: starEach es X.env := by rfl) (hpl : (backTo pos (starEach es X.env)).any (·.1) = false := by rfl) :
    PE X (.Call (.Name x p) (e :: es) [] pos) (tMakeS C sp E t) := by
  refine ⟨fun pins s σ H Q I h => ?_⟩
  refine wpAny_Call_Name_kw (ld_glob I hg hm ?_ hdb)
  refine PySem.W.callWith_K (h₀ := X.base) I.ok.mod.kin M.kp (thn (ha.run pos pins s σ H _ I h) fun us s1 ⟨vs, H1, I1, r, q⟩ => ⟨I1.kIn, ?_⟩) he hpl
  exact run_makeS M F hr hb (hx σ) I1 r q
theorem pe_makeS0 {f C : Addr} {fd : FuncData} {ps : List Str} {sp : Sp} {E : L2.St → XK} {CX : CXT} {x : Str} {p pos : Pos} (M : Mk X.K C f) (F : FnOk X.prog X.w X.K X.mg X.base CX k f fd ps sp) (hr : Room (k + 1) X.A) (hg : Gl X x) (hm : X.mg x = some (.ref C)) (hb : Binds X.K fd ps []) (hx : ∀ σ, PassesAt CX X σ (E σ))
    (hdb : (x == ("__debug__" : Str)) = false := by decide) : PE X (.Call (.Name x p) [] [] pos) (tMakeS C sp E tNil) := by
  refine ⟨fun pins s σ H Q I h => ?_⟩
  refine wpAny_Call_Name_kw (ld_glob I hg hm ?_ hdb)
  exact PySem.W.callWith_K0 I.kIn M.kp (run_makeS (us := []) M F hr hb (hx σ) I .nil h)
/-- C(e, ..): the arguments are frozen, the instance is its own -/
def makeD (FI : List D → Res D) (ds : List D) : Res D := if noVw ds = true then FI (ds.map (D.re .fz)) else .stuck
def fMake (FI : List D → Res D) (fs : DA) : DE := fun ρ => (fs ρ).bind (makeD FI)
@[simp] theorem fMake_ap (FI : List D → Res D) (fs : DA) (ρ : DEnv) : fMake FI fs ρ = (fs ρ).bind (makeD FI) := rfl
theorem make_imp {c : Str} {C : Addr} {ps : List Str} {FI : List D → Res D} {fs : DA} {t : TA} (hT : ∀ σ H Q, tD X W (RXs X) fs σ H Q → t σ H Q) (m0 : X.mg c = some (.ref C)) (ho : ∀ ds d, FI ds = .ok d → ∃ qs fs, d = .obj .ow c qs fs) (hs : ∀ ds, ds.length ≠ ps.length → FI ds = .stuck) {Q : VK} (h : tD X W (RXX X) (fMake FI fs) σ H Q) : tMakeS C (spI X.w X.K X.mg c (ps.length + 1) FI) (WE W) t σ H Q := by
  obtain ⟨H0, F0, ρ, F, r, p⟩ := h
  refine hT _ _ _ ⟨H0, F0, ρ, F, r, p.bind (Gr.refl _ _) fun F1 H1 vs ds _ r1 g1 x1 p1 => fun x dx hx hdx ne => ?_⟩
  obtain ⟨nv, p2⟩ := Post.guard (c := noVw ds = true) p1
  obtain ⟨F2, r2, g2, s2, q⟩ := RXs.freezeV r r1 g1 ⟨F1, Same.refl _, x1⟩
  have reps : Reps X.w X.K X.mg F2 vs (ds.map (D.re .fz)) := by
    refine Reps.of_get (by rw [List.length_map]; exact x1.length) fun i v d e1 e2 => ?_
    rw [List.getElem?_map] at e2
    obtain ⟨d', e3, rfl⟩ := Option.map_eq_some_iff.mp e2
    rcases q i v d' e1 e3 with ⟨_, z⟩ | ⟨t, _⟩
    · exact z
    · unfold noVw at nv
      rw [List.all_eq_true] at nv
      exact absurd t (by simpa using nv d' (List.mem_of_getElem? e3))
  have sH : Same H1 (upd H1 dx (.own x)) := same_upd_none hdx
  have hx0 : upd H1 dx (.own x) x = none := by rw [upd_ne (fun z => ne z.symm)]; exact hx
  have fx : F2 x = none := same_none r2.fh hx
  have sF : Same F2 (upd H1 dx (.own x)) := r2.fh.trans sH
  have gg : ∀ {F' H' : Hp}, Gr F2 (upd H1 dx (.own x)) F' H' → Gr F2 H1 F' H' := fun g => ⟨g.ff, sH.trans g.hh, fun a h => (g.nw a h).imp id fun z => same_none sH z⟩
  have hl : (V.ref x :: vs).length = ps.length + 1 := by
    by_cases c : (ds.map (D.re .fz)).length = ps.length
    · rw [List.length_cons, reps.length, c]
    · rw [hs _ c] at p2; exact p2.elim
  refine ⟨x, dx, C, vs, F2, upd H1 dx (.own x), ds.map (D.re .fz), rfl, m0, rfl, hx0, fx, sF, reps, hl, ?_⟩
  cases e : FI (ds.map (D.re .fz)) with
  | stuck => rw [e] at p2; exact p2.elim
  | exc c => rw [e] at p2; exact fun F' H' Ce g s m => p2 F' H' Ce (r2.grow (gg g) s) (g2.trans (gg g)) m
  | ok d =>
    obtain ⟨qs, fs', rfl⟩ := ho _ _ e
    rw [e] at p2
    refine fun F' H' xs dx' g s nf e1 l rs => ⟨rfl, p2.here (r2.grow (gg g) s) (g2.trans (gg g)) ?_⟩
    exact ⟨x, _, rfl, same_none g2.hh hx, nf, e1, C, dx', xs, m0, rfl, l, rs⟩
theorem pd_make {c : Str} {ps : List Str} {FI : List D → Res D} {fs : DA} {p pos : Pos} {e : Expr} {es : List Expr} (M : MkD X.prog X.w X.K X.mg X.base k c ps FI) (hr : Room (k + 1) X.A) (tk : Takes X W) (hg : Gl X c) (ha : PAD X W (e :: es) fs)
    (hdb : (c == ("__debug__" : Str)) = false := by decide) (he : starEach (e :: es) X.env = (false, eval e X.env) :: starEach es X.env := by rfl) (hpl : (backTo pos (starEach es X.env)).any (·.1) = false := by rfl) :
    PD X W (.Call (.Name c p) (e :: es) [] pos) (fMake FI fs) := by
  obtain ⟨C, f, fd, m0, mk, F, b, ho, hs⟩ := M
  exact (pe_makeS mk F hr hg m0 b (passAt tk) ha hdb he hpl).imp fun σ H Q h => make_imp (fun _ _ _ h => h) m0 ho hs h
theorem pd_make0 {c : Str} {ps : List Str} {FI : List D → Res D} {p pos : Pos} (M : MkD X.prog X.w X.K X.mg X.base k c ps FI) (hr : Room (k + 1) X.A) (tk : Takes X W) (hg : Gl X c) (hdb : (c == ("__debug__" : Str)) = false := by decide) :
    PD X W (.Call (.Name c p) [] [] pos) (fMake FI fNil) := by
  obtain ⟨C, f, fd, m0, mk, F, b, ho, hs⟩ := M
  exact (pe_makeS0 mk F hr hg m0 b (passAt tk) hdb).imp fun σ H Q h => make_imp (fun _ _ _ ⟨H0, F0, ρ, F, r, p⟩ => p.here r (Gr.refl _ _) .nil) m0 ho hs h
/-! ### self.f = e -/
def putP (f : Str) (ps : List Str) : List Str := if f ∈ ps then ps else ps ++ [f]
def putL {α : Type} (f : Str) (y : α) : List Str → List α → List α
  | p :: ps, x :: xs => if p = f then y :: xs else x :: putL f y ps xs
  | _, _ => [y]
theorem putP_cons (f p : Str) (ps : List Str) : putP f (p :: ps) = if p = f then p :: ps else p :: putP f ps := by
  unfold putP
  by_cases c : p = f
  · rw [if_pos c, if_pos (by rw [c]; exact List.mem_cons_self ..)]
  · rw [if_neg c]
    by_cases d : f ∈ ps
    · rw [if_pos d, if_pos (List.mem_cons_of_mem _ d)]
    · rw [if_neg d, if_neg (fun z => (List.mem_cons.mp z).elim (fun e => c e.symm) d)]
      rfl
theorem putF_zip (f : Str) (v : V) : ∀ {ps : List Str} {xs : List V}, ps.length = xs.length → putF f v (ps.zip xs) = (putP f ps).zip (putL f v ps xs) ∧ (putP f ps).length = (putL f v ps xs).length
  | [], [], _ => ⟨rfl, rfl⟩
  | [], _ :: _, h => by cases h
  | _ :: _, [], h => by cases h
  | p :: ps, x :: xs, h => by
    obtain ⟨i1, i2⟩ := putF_zip f v (ps := ps) (xs := xs) (by simpa using h)
    rw [putP_cons, List.zip_cons_cons]
    show (if p = f then (p, v) :: ps.zip xs else (p, x) :: putF f v (ps.zip xs)) = (if p = f then p :: ps else p :: putP f ps).zip (if p = f then v :: xs else x :: putL f v ps xs) ∧ (if p = f then p :: ps else p :: putP f ps).length = (if p = f then v :: xs else x :: putL f v ps xs).length
    by_cases c : p = f
    · rw [if_pos c, if_pos c, if_pos c]; exact ⟨rfl, h⟩
    · rw [if_neg c, if_neg c, if_neg c, i1, List.zip_cons_cons, List.length_cons, List.length_cons, i2]; exact ⟨rfl, rfl⟩
theorem putL_reps {w : World} {K : PySem.W.Frag} {mg : Str → Option Value} {F : Hp} {f : Str} {v : V} {d : D} (hv : Rep w K mg F v d) : ∀ {ps : List Str} {xs : List V} {ds : List D}, Reps w K mg F xs ds → Reps w K mg F (putL f v ps xs) (putL f d ps ds)
  | [], _, _, .nil => .cons hv .nil
  | [], _, _, .cons _ _ => .cons hv .nil
  | _ :: _, _, _, .nil => .cons hv .nil
  | p :: ps, _, _, .cons (v := x) (d := y) (vs := xs) (ds := ys) a b => by
    show Reps w K mg F (if p = f then v :: xs else x :: putL f v ps xs) (if p = f then d :: ys else y :: putL f d ps ys)
    by_cases c : p = f
    · rw [if_pos c, if_pos c]; exact .cons hv b
    · rw [if_neg c, if_neg c]; exact .cons a (putL_reps hv b)
/-- the own instance in slot i -/
def withO (ρ : DEnv) (i : Nat) (g : Str → List Str → List D → SR) : SR := match ρ[i]? with
  | some (some (.obj .ow c ps ds)) => if ps ≠ exm1 then g c ps ds else .stuck
  | _ => .stuck
def sFld (i : Nat) (f : Str) (cs : List Str) (fe : DE) : DS := fun ρ => (fe ρ).toS ρ fun d => withO ρ i fun c ps ds => if d.tg ≠ .vw ∧ c ∈ cs ∧ ps.length < 1000 ∧ ps.length = ds.length then .next (ρ.set i (some (.obj .ow c (putP f ps) (putL f (d.re .fz) ps ds)))) else .stuck
theorem psk_fld {e : Expr} {fe : DE} {f x : Str} {cs : List Str} {pos pos' p1 : Pos} {i k' : Nat} (A : FldC X.K X.mg f cs) (he : PD X W e fe) (hN : X.N[i]? = some x := by rfl) (hv : Vis X.env.scope x := by first | exact Or.inl rfl | exact Or.inr (Or.inl rfl) | exact Or.inr (Or.inr rfl)) (hd : (x == ("__debug__" : Str)) = false := by decide) (hcd : (x == ("__classdict__" : Str)) = false := by decide)
    (hs : swapsWith e (some (.Attribute (.Name x p1) f pos')) pos.line X.env = pure false := by rfl) : PSK X W k' (.Assign [.Attribute (.Name x p1) f pos'] e pos) (sFld i f cs fe) :=
  (ps_fld (pv i hN hv hd hcd) he hs).imp fun D σ H ⟨H0, F0, ρ, F, r, p⟩ => by
    refine ⟨H0, F0, ρ, F, r, p.expr r fun F1 H1 v d _ r1 g1 x1 p1 => ?_⟩
    unfold withO at p1
    split at p1
    · rename_i c ps ds e2
      obtain ⟨c1, p1⟩ := SPostK.guard p1
      obtain ⟨⟨c2, c3, c4, c5⟩, p1⟩ := SPostK.guard p1
      obtain ⟨F2, r2, g2, s2, y⟩ := RX.freeze r r1 g1 x1 c2
      obtain ⟨a, oo, z1, z2, z3, z4, C, dx, xs, m, rfl, l, rs⟩ := r2.own e2 rfl
      obtain ⟨k1, k2⟩ := A.ok c c3 C m
      obtain ⟨q1, q2⟩ := putF_zip f v l
      refine ⟨.ref a, z1, a, C, dx, _, rfl, z4, k1, k2, by rw [List.length_zip]; omega, ?_⟩
      rw [q1]
      exact p1 _ F2 _ (r2.change e2 rfl z1 rfl ⟨C, dx, _, m, rfl, q2, putL_reps y rs⟩) rfl
    · exact p1.elim
end
end Dl
/-! Classes without an __init__ of their own; isinstance of instances. -/
namespace Dl
open PySem PySem.Spec PySem.W PyProof.Rows L2
structure Mk0 (K : PySem.W.Frag) (C : Addr) : Prop where
  makes : PySem.W.makesIn K C = true
  init : PySem.W.findIn K (.ref C) "__init__" = some (some (.builtin "object.__init__"))
  kp : PySem.W.keepIn K (.ref C) = true
section
variable {X : Cx} {W : WX} {H0 F0 : Hp} {ρ : DEnv} {σ : L2.St} {F H F' H' : Hp} {k : Nat}
theorem run_make0 {C : Addr} {pins : List (Addr × Obj)} {s : Shared} {Q : VK} (M : Mk0 X.K C) (I : Inv X pins σ H s)
    (h : ∀ x dx, H x = none → H dx = none → dx ≠ x → Q (.ref x) (upd (upd H dx (.own x)) x (.ins C dx []))) : wpAny (model X.prog X.w) X.A (call (.ref C) []) (EP X pins σ Q) X.xe s := by
  have hq := h (s.heap.objs.size + 1) s.heap.objs.size (I.hok.fresh (Nat.le_succ _)) (I.hok.fresh (Nat.le_refl _)) (Nat.ne_of_lt (Nat.lt_succ_self _))
  have I2 := Inv.made (C := C) I
  obtain ⟨o, ho, hc⟩ := NwS.OfCls.ins (X := X) (upd_same : upd (upd H s.heap.objs.size (.own (s.heap.objs.size + 1))) (s.heap.objs.size + 1) (.ins C s.heap.objs.size []) (s.heap.objs.size + 1) = some (.ins C s.heap.objs.size [])) _ I2.hok
  refine wpAny_call (make_map0 I.kIn M.makes M.init (fun self => Looks.of_pure (PySem.W.oi_bind _)) ?_)
  have t2 : Looks (model X.prog X.w) ((s.heap.push PySem.W.emptyDict).push (PySem.W.instObj C s.heap.objs.size)) (isInstance (.ref (s.heap.objs.size + 1)) (.type "object")) true := (NwA.type_at ho hc).andThen (PySem.W.makes_of (M := model X.prog X.w) I2.kIn M.makes).top
  refine codeAny_call_builtin PySem.W.oi_plain PySem.W.entry_oi (@check_slot (model X.prog X.w) _ _ _ "object.__init__" "object" "__init__" (.ref (s.heap.objs.size + 1)) [] [] _ PySem.W.oi_kind PySem.W.oi_split t2 (PySem.W.oi_args _) ?_)
  rw [PySem.W.oi_run]
  exact wpAny_pure (And.intro rfl ⟨V.ref (s.heap.objs.size + 1), _, I2, rfl, hq⟩)
def tMake0 (C : Addr) : TE := fun σ H Q => ∀ x dx, H x = none → H dx = none → dx ≠ x → Q (.ref x) (upd (upd H dx (.own x)) x (.ins C dx []))
theorem pe_make00 {C : Addr} {x : Str} {p pos : Pos} (M : Mk0 X.K C) (hg : Gl X x) (hm : X.mg x = some (.ref C)) (hdb : (x == ("__debug__" : Str)) = false := by decide) : PE X (.Call (.Name x p) [] [] pos) (tMake0 C) := by
  refine ⟨fun pins s σ H Q I h => ?_⟩
  refine wpAny_Call_Name_kw (ld_glob I hg hm ?_ hdb)
  exact PySem.W.callWith_K0 I.kIn M.kp (run_make0 M I h)
/-- the class c has no __init__ of its own -/
structure Mk0At (K : PySem.W.Frag) (mg : Str → Option Value) (c : Str) : Prop where
  ex : ∃ C, mg c = some (.ref C) ∧ Mk0 K C
/-- an instance without attributes may as well be frozen at once -/
theorem pd_make00 {c : Str} {p pos : Pos} (A : Mk0At X.K X.mg c) (hg : Gl X c) (hdb : (c == ("__debug__" : Str)) = false := by decide) : PD X W (.Call (.Name c p) [] [] pos) (fC (.obj .fz c [] [])) := by
  obtain ⟨C, m, M⟩ := A.ex
  refine (pe_make00 M hg m hdb).imp fun σ H Q ⟨H0, F0, ρ, F, r, p⟩ => fun x dx hx hdx ne => ?_
  have fx : F x = none := same_none r.fh hx
  have g1 : Gr F H F (upd H dx (.own x)) := Gr.alloc hdx
  have r1 := r.alloc (o := .own x) hdx
  have hx1 : upd H dx (.own x) x = none := by rw [upd_ne (fun z => ne z.symm)]; exact hx
  have g2 : Gr F H F (upd (upd H dx (.own x)) x (.ins C dx [])) := g1.trans (Gr.alloc hx1)
  have r2 := r1.alloc (o := .ins C dx []) hx1
  have g3 : Gr F H (upd F x (.ins C dx [])) (upd (upd H dx (.own x)) x (.ins C dx [])) := g2.freeze hx fx
  exact p.here (r.grow g3 (same_freeze r2.fh upd_same)) g3 (RX.fz (.obj (.inl ⟨C, m, .inl ⟨dx, upd_same, rfl⟩⟩) .nil))
/-! ### isinstance of an instance -/
structure IsiC (K : PySem.W.Frag) (mg : Str → Option Value) (T : Str) (cs : List (Str × Bool)) : Prop where
  ex : ∃ D, mg T = some (.ref D) ∧ (∀ t ∈ tyNames, PySem.W.kitOne K (.type t) (.ref D) = some false) ∧ ∀ c b, cs.lookup c = some b → ∀ C, mg c = some (.ref C) → Cls K C ∧ PySem.W.findIn K (.ref C) "__class__" = some (some (.builtin "object.__class__")) ∧ PySem.W.specialIn K (.builtin "object.__class__") "__get__" = some (some (.builtin "getset_descriptor.__get__")) ∧ PySem.W.takesIn K (.builtin "object.__class__") = some true ∧ PySem.W.mroIn K C (.type "object") = some true ∧ PySem.W.kitOne K (.ref C) (.ref D) = some b
def isiO (cs : List (Str × Bool)) (d : D) : Res D := match d with
  | .obj _ c ps _ => if ps ≠ exm1 then (match cs.lookup c with
    | some b => .ok (.bl b)
    | none => .stuck) else .stuck
  | d => match d.tyn with
    | some _ => .ok (.bl false)
    | none => .stuck
theorem pd_isiO {x : Str} {cs : List (Str × Bool)} {e : Expr} {fe : DE} {p p2 pos : Pos} (A : IsiC X.K X.mg x cs) (hg : Gl X "isinstance") (hm : X.mg "isinstance" = none) (hg2 : Gl X x) (ha : PD X W e fe) (hd : (x == ("__debug__" : Str)) = false := by decide)
    (he : starEach [e, .Name x p2] X.env = (false, eval e X.env) :: starEach [.Name x p2] X.env := by rfl) (he2 : starEach [.Name x p2] X.env = (false, eval (.Name x p2) X.env) :: starEach [] X.env := by rfl) (hpl : (backTo pos (starEach [.Name x p2] X.env)).any (·.1) = false := by rfl) :
    PD X W (.Call (.Name "isinstance" p) [e, .Name x p2] [] pos) (fU (isiO cs) fe) := by
  obtain ⟨C, m1, m2, m3⟩ := A.ex
  refine (pe_callB call_isX hg hm (by decide +kernel) (pa_cons ha (pa_cons (pe_glob (v := .ref C) hg2 m1 rfl hd) pa_nil he2) he) (by decide) (by decide) he hpl).imp fun σ H Q ⟨H0, F0, ρ, F, r, q⟩ => ?_
  refine ⟨H0, F0, ρ, F, r, q.bind (Gr.refl _ _) fun F1 H1 v d _ r1 g1 x1 p1 => ?_⟩
  have other : ∀ t, d.tyn = some t → isiO cs d = .ok (.bl false) → rIsX X [v, .ref C] H1 Q := fun t et ei => by
    rw [ei] at p1
    have mem : t ∈ tyNames := by cases d <;> cases et <;> simp [tyNames]
    exact ⟨v, .ref C, .ref C, false, rfl, fun u hu => hu, p1.here r1 g1 (RX.fz (.bl _)), .inl ⟨_, x1.ty r1.fh et, m2 t mem⟩⟩
  cases d with
  | obj t k ps ds =>
    obtain ⟨c1, p3⟩ := Post.guard (c := ps ≠ exm1) p1
    cases e2 : cs.lookup k with
    | none => rw [e2] at p3; exact p3.elim
    | some b =>
      rw [e2] at p3
      obtain ⟨a, C2, dx, xs, rfl, m, e1, l, rs⟩ := x1.obj r1.fh c1
      obtain ⟨k1, k2, k4, k5, k6, k3⟩ := m3 k b e2 C2 m
      exact ⟨_, .ref C, .ref C, b, rfl, fun u hu => hu, p3.here r1 g1 (RX.fz (.bl _)), .inl ⟨_, .inl (.base (.ins e1 k1 k2 k4 k5 k6)), k3⟩⟩
  | non => exact other _ rfl rfl
  | bl b => exact other _ rfl rfl
  | int b => exact other _ rfl rfl
  | str b => exact other _ rfl rfl
  | tup b => exact other _ rfl rfl
  | lst t b => exact other _ rfl rfl
  | dic t b => exact other _ rfl rfl
end
/-! ### levels, tables -/
theorem FnM.up {P : Program} {w : World} {K : PySem.W.Frag} {mg : Str → Option Value} {base : Heap} {k k' : Nat} {c m : Str} {ps : List Str} {F : List D → Res D} (h : k ≤ k') (G : FnM P w K mg base k c m ps F) : FnM P w K mg base k' c m ps F := by
  obtain ⟨C, f, fd, a1, a2, a3, F, a5, a6⟩ := G
  exact ⟨C, f, fd, a1, a2, a3, ⟨F.len, fun A st s H as us vs Q E hr => F.run A st s H as us vs Q E (hr.mono h)⟩, a5, a6⟩
theorem tbl_nil {P : Program} {w : World} {K : PySem.W.Frag} {mg : Str → Option Value} {base : Heap} {k : Nat} {m : Str} : TblOk P w K mg base k m [] := fun c x h => by simp at h
theorem tbl_cons {P : Program} {w : World} {K : PySem.W.Frag} {mg : Str → Option Value} {base : Heap} {k : Nat} {c m : Str} {ps : List Str} {F : List D → Res D} {tb : Tbl} (G : FnM P w K mg base k c m ps F) (T : TblOk P w K mg base k m tb) : TblOk P w K mg base k m ((c, ps, F) :: tb) := fun c' x h => by
  by_cases e : c' = c
  · have eb : (c' == c) = true := beq_iff_eq.mpr e
    simp only [List.lookup, eb] at h
    cases h
    rw [e]; exact G
  · have eb : (c' == c) = false := beq_eq_false_iff_ne.mpr e
    simp only [List.lookup, eb] at h
    exact T c' x h
theorem TblOk.up {P : Program} {w : World} {K : PySem.W.Frag} {mg : Str → Option Value} {base : Heap} {k k' : Nat} {m : Str} {tb : Tbl} (h : k ≤ k') (T : TblOk P w K mg base k m tb) : TblOk P w K mg base k' m tb := fun c x e => (T c x e).up h
theorem fldC_nil {K : PySem.W.Frag} {mg : Str → Option Value} {f : Str} : FldC K mg f [] := ⟨fun c h => by cases h⟩
theorem fldC_cons {K : PySem.W.Frag} {mg : Str → Option Value} {f c : Str} {cs : List Str} {C : Addr} (m : mg c = some (.ref C)) (h1 : Cls K C) (h2 : NoAttr K C f) (T : FldC K mg f cs) : FldC K mg f (c :: cs) := ⟨fun c' h C' m' => by
  rcases List.mem_cons.mp h with e | e
  · rw [e, m] at m'
    cases m'
    exact ⟨h1, h2⟩
  · exact T.ok c' e C' m'⟩
/-- what stands within a class of the text -/
def clsB : Stmt → List Stmt
  | .ClassDef _ _ _ body .. => body
  | _ => []
/-! ### what the head leaves of classes -/
def mk0B (K : PySem.W.Frag) (c : Str) : Bool := He.eqO (PySem.W.nsIn K mainGlobals c) (some (some (.ref (He.ga K c)))) && (PySem.W.makesIn K (He.ga K c) && (He.eqO (PySem.W.findIn K (.ref (He.ga K c)) "__init__") (some (some (.builtin "object.__init__"))) && PySem.W.keepIn K (.ref (He.ga K c))))
theorem mk0B_ok {K : PySem.W.Frag} {h : Heap} {mg : Str → Option Value} {c : Str} (X : K.In h) (G : h.Ns mainGlobals mg) (e : mk0B K c = true) : Mk0At K mg c := by
  obtain ⟨h1, e⟩ := He.ba e
  obtain ⟨h2, e⟩ := He.ba e
  obtain ⟨h3, h4⟩ := He.ba e
  exact ⟨_, PySem.W.mg_of X G (He.eqO_ok h1), h2, He.eqO_ok h3, h4⟩
def isiB1 (K : PySem.W.Frag) (T : Str) (cb : Str × Bool) : Bool := He.eqO (PySem.W.nsIn K mainGlobals cb.1) (some (some (.ref (He.ga K cb.1)))) && ((He.Fa.cls cb.1).ok K && (He.eqO (PySem.W.findIn K (.ref (He.ga K cb.1)) "__class__") (some (some (.builtin "object.__class__"))) && (He.eqO (PySem.W.specialIn K (.builtin "object.__class__") "__get__") (some (some (.builtin "getset_descriptor.__get__"))) && (decide (PySem.W.takesIn K (.builtin "object.__class__") = some true) && (decide (PySem.W.mroIn K (He.ga K cb.1) (.type "object") = some true) && decide (PySem.W.kitOne K (.ref (He.ga K cb.1)) (.ref (He.ga K T)) = some cb.2))))))
def isiB (K : PySem.W.Frag) (q : Str × List (Str × Bool)) : Bool := He.eqO (PySem.W.nsIn K mainGlobals q.1) (some (some (.ref (He.ga K q.1)))) && (tysB K (.ref (He.ga K q.1)) && q.2.all fun cb => isiB1 K q.1 cb)
theorem lookup_mem {α : Type} {c : Str} {b : α} : ∀ {l : List (Str × α)}, l.lookup c = some b → (c, b) ∈ l
  | [], h => by simp at h
  | (k, v) :: l, h => by
    by_cases e : c = k
    · have eb : (c == k) = true := beq_iff_eq.mpr e
      simp only [List.lookup, eb] at h
      cases h
      rw [e]; exact List.mem_cons_self ..
    · have eb : (c == k) = false := beq_eq_false_iff_ne.mpr e
      simp only [List.lookup, eb] at h
      exact List.mem_cons_of_mem _ (lookup_mem h)
theorem isiB_ok {K : PySem.W.Frag} {h : Heap} {mg : Str → Option Value} {q : Str × List (Str × Bool)} (X : K.In h) (G : h.Ns mainGlobals mg) (e : isiB K q = true) : IsiC K mg q.1 q.2 := by
  obtain ⟨h1, e⟩ := He.ba e
  obtain ⟨h2, h3⟩ := He.ba e
  refine ⟨_, PySem.W.mg_of X G (He.eqO_ok h1), tysB_ok h2, fun c b hl C hC => ?_⟩
  have := List.all_eq_true.mp h3 _ (lookup_mem hl)
  obtain ⟨k1, this⟩ := He.ba this
  obtain ⟨k2, this⟩ := He.ba this
  obtain ⟨k3, this⟩ := He.ba this
  obtain ⟨k5, this⟩ := He.ba this
  obtain ⟨k6, this⟩ := He.ba this
  obtain ⟨k7, k4⟩ := He.ba this
  have m := PySem.W.mg_of X G (He.eqO_ok k1)
  dsimp only at m
  rw [hC] at m
  cases m
  exact ⟨He.cls_ok k2, He.eqO_ok k3, He.eqO_ok k5, of_decide_eq_true k6, of_decide_eq_true k7, of_decide_eq_true k4⟩
def exC (c0 : List Str) (is : List (Str × List (Str × Bool))) (K : PySem.W.Frag) : Bool := c0.all (mk0B K) && is.all (isiB K)
def obsY (es : List Str) (c0 : List Str) (is : List (Str × List (Str × Bool))) (fa : List He.Fa) (fn : List He.DefD) (K : PySem.W.Frag) : AlX := (errsB K es && exC c0 is K, He.obsD fa fn K)
def obsYG (n : Nat) (es : List Str) (c0 : List Str) (is : List (Str × List (Str × Bool))) (fa : List He.Fa) (fn : List He.DefD) (g : Addr → Option Obj) : AlX := obsY es c0 is fa fn (He.frG g (He.asD g n))
def hookY (n : Nat) (es : List Str) (c0 : List Str) (is : List (Str × List (Str × Bool))) (fa : List He.Fa) (fn : List He.DefD) : PySem.W.Hook where
  α := AlX
  obs := fun s => obsYG n es c0 is fa fn s.heap.get?
  val := fun _ => (true, He.valD fn)
  says := fun _ h => ∃ K : PySem.W.Frag, K.In h ∧ obsY es c0 is fa fn K = (true, He.valD fn)
  of := fun _ _ e => ⟨_, He.frG_in, e⟩
  keeps := fun _ _ _ ⟨K, hK, c⟩ k => ⟨K, PySem.W.Frag.In.keeps hK k, c⟩
theorem obsYG_eq {n : Nat} {es : List Str} {c0 : List Str} {is : List (Str × List (Str × Bool))} {fa : List He.Fa} {fn : List He.DefD} {g : Addr → Option Obj} {s : Shared} (h : ∀ a, g a = s.heap.get? a) : obsYG n es c0 is fa fn g = (hookY n es c0 is fa fn).obs s := by
  have e : g = s.heap.get? := funext h
  rw [e] <;> rfl
theorem saysY {es : List Str} {c0 : List Str} {is : List (Str × List (Str × Bool))} {fa : List He.Fa} {fn : List He.DefD} {K : PySem.W.Frag} (c : obsY es c0 is fa fn K = (true, He.valD fn)) : errsB K es = true ∧ exC c0 is K = true ∧ He.SaysD fa fn K := by
  obtain ⟨a, b⟩ := He.ba (congrArg Prod.fst c)
  exact ⟨a, b, congrArg Prod.snd c⟩
theorem exC_0 {c0 : List Str} {is : List (Str × List (Str × Bool))} {K : PySem.W.Frag} (e : exC c0 is K = true) {c : Str} (h : c ∈ c0) : mk0B K c = true := List.all_eq_true.mp (He.ba e).1 c h
theorem exC_i {c0 : List Str} {is : List (Str × List (Str × Bool))} {K : PySem.W.Frag} (e : exC c0 is K = true) {q : Str × List (Str × Bool)} (h : q ∈ is) : isiB K q = true := List.all_eq_true.mp (He.ba e).2 q h
end Dl
/-! Texts: str(..), join. -/
namespace Dl
open PySem PySem.Spec PySem.W PyProof.Rows L2
section
variable {X : Cx} {W : WX} {H0 F0 : Hp} {ρ : DEnv} {σ : L2.St} {F H F' H' : Hp} {k : Nat} {p pos : Pos}
def str1 : D → Res D
  | .int i => if i.natAbs.log2 < 1920 then .ok (.str (toString i)) else .stuck
  | _ => .stuck
theorem ok_str1 : UnOk X W str1 (fun x H Q => ∃ i, x = .int i ∧ i.natAbs.log2 < 1920 ∧ Q (.str (toString i)) H) := by
  intro H0 F0 ρ σ F H F2 H2 v d Q r r2 g x p
  cases d with
  | int i =>
    obtain ⟨h, p⟩ := Post.guard (c := i.natAbs.log2 < 1920) p
    exact ⟨i, x.int, h, p.here r2 g (RX.fz (.str _))⟩
  | _ => exact p.elim
theorem pd_str1 {e : Expr} {fs : DA} (hg : Gl X "str") (hm : X.mg "str" = none) (ha : PAD X W [e] fs) (he : starEach [e] X.env = (false, eval e X.env) :: starEach [] X.env := by rfl) (hpl : (backTo pos (starEach [] X.env)).any (·.1) = false := by rfl) :
    PD X W (.Call (.Name "str" p) [e] [] pos) (fCall (op1 str1) fs) := pd_callTy call_str_int (ok_op1 ok_str1 fun v H Q ⟨i, e, h, q⟩ => ⟨i, by rw [e], h, q⟩) hg hm (by decide +kernel) ha (by decide) (by decide) he hpl
theorem str1_i (i : Int) : str1 (.int i) = if i.natAbs.log2 < 1920 then .ok (.str (toString i)) else .stuck := rfl
/-! ### sep.join(xs) -/
def strsOf : List D → Option (List Str)
  | [] => some []
  | .str a :: ds => (strsOf ds).map (a :: ·)
  | _ => none
theorem strsOf_map : ∀ ys : List Str, strsOf (ys.map .str) = some ys
  | [] => rfl
  | y :: ys => by rw [List.map_cons]; show (strsOf (ys.map .str)).map (y :: ·) = _; rw [strsOf_map ys]; rfl
theorem strsOf_reps {w : World} {K : PySem.W.Frag} {mg : Str → Option Value} {F : Hp} : ∀ {xs : List V} {ds : List D} {ys : List Str}, Reps w K mg F xs ds → strsOf ds = some ys → xs = ys.map V.str
  | _, [], _, .nil, h => by cases h; rfl
  | _, .str a :: ds, ys, .cons r rs, h => by
    have h : (strsOf ds).map (a :: ·) = some ys := h
    obtain ⟨zs, e, rfl⟩ := Option.map_eq_some_iff.mp h
    rw [r.of_str, strsOf_reps rs e]
    rfl
  | _, .non :: _, _, _, h => by cases h
  | _, .bl _ :: _, _, _, h => by cases h
  | _, .int _ :: _, _, _, h => by cases h
  | _, .tup _ :: _, _, _, h => by cases h
  | _, .lst _ _ :: _, _, _, h => by cases h
  | _, .dic _ _ :: _, _, _, h => by cases h
  | _, .obj _ _ _ _ :: _, _, _, h => by cases h
def joinD (a : Str) : D → Res D
  | .lst _ ds => match strsOf ds with
    | some ys => if (ys.map (·.length)).sum + ys.length * a.length ≤ 16777216 then .ok (.str (Txt.join a ys)) else .stuck
    | none => .stuck
  | _ => .stuck
def fJoin (fo fe : DE) : DE := fun ρ => (fo ρ).bind fun d => match d with
  | .str a => (fe ρ).bind (joinD a)
  | _ => .stuck
@[simp] theorem fJoin_ap (fo fe : DE) (ρ : DEnv) : fJoin fo fe ρ = (fo ρ).bind fun d => match d with
  | .str a => (fe ρ).bind (joinD a)
  | _ => .stuck := rfl
theorem pd_join {o e : Expr} {fo fe : DE} {apos cpos : Pos} (ho : PD X W o fo) (ha : PD X W e fe) (hbase : attributeBase o "join" X.env (eval o X.env) = eval o X.env := by rfl)
    (hfew : ((backTo cpos (starEach [e] X.env)).all (fun x => !x.1) && (backToKw cpos (keywordEach [] X.env)).all (fun x => x.1.isSome)
      && decide ([e].length + ([] : List Keyword).length + (if ([] : List Keyword).isEmpty then 0 else 1) < 30)) = true := by rfl)
    (hline : (apos.endLine == cpos.line) = true := by rfl) (hs : starEach [e] X.env = (false, eval e X.env) :: starEach [] X.env := by rfl) (hplain : (backTo cpos (starEach [] X.env)).any (·.1) = false := by rfl) :
    PD X W (.Call (.Attribute o "join" apos) [e] [] cpos) (fJoin fo fe) :=
  (pe_bm PySem.F.plainAttrs_str PySem.F.slot_str_join PySem.F.type_str_join mt_join ho (pa_cons ha pa_nil hs) hbase hfew hline hs hplain).imp fun σ H Q ⟨H0, F0, ρ, F, r, p⟩ =>
    ⟨H0, F0, ρ, F, r, p.bind (Gr.refl _ _) fun F1 H1 v d _ r1 g1 x1 p1 => by
      cases d with
      | str a =>
        have ev := x1.str
        subst ev
        refine ⟨rfl, H0, F0, ρ, F1, r1, p1.bind g1 fun F2 H2 u b _ r2 g2 x2 p2 => ?_⟩
        cases b with
        | lst t ds =>
          obtain ⟨l, xs, rfl, hx, rx⟩ := x2.lst r2.fh
          have p2 : Post X W (RXX X) H0 F0 ρ σ F H (match strsOf ds with
            | some ys => if (ys.map (·.length)).sum + ys.length * a.length ≤ 16777216 then Res.ok (D.str (Txt.join a ys)) else .stuck
            | none => .stuck) Q := p2
          cases es : strsOf ds with
          | none => rw [es] at p2; exact p2.elim
          | some ys =>
            rw [es] at p2
            obtain ⟨c, p3⟩ := Post.guard p2
            have ex := strsOf_reps rx es
            subst ex
            exact ⟨a, l, ys, rfl, rfl, .inl hx.sq, c, p3.here r2 (g1.trans g2) (RX.fz (.str _))⟩
        | _ => exact p2.elim
      | _ => exact p1.elim⟩
end
end Dl
/-! evaluation of the rules of instances and texts. -/
namespace Dl
open PySem PySem.Spec PySem.W PyProof.Rows L2
@[simp] theorem obj_tg (t : Tg) (c : Str) (ps : List Str) (ds : List D) : (D.obj t c ps ds).tg = t := rfl
@[simp] theorem obj_re (t u : Tg) (c : Str) (ps : List Str) (ds : List D) : (D.obj t c ps ds).re u = .obj u c ps ds := rfl
@[simp] theorem obj_vw (c : Str) (ps : List Str) (ds : List D) : vwOf (D.obj .ow c ps ds) = .obj .vw c ps ds := rfl
@[simp] theorem obj_vf (c : Str) (ps : List Str) (ds : List D) : vwOf (D.obj .fz c ps ds) = .obj .fz c ps ds := rfl
@[simp] theorem obj_isN (t : Tg) (c : Str) (ps : List Str) (ds : List D) : (D.obj t c ps ds).isN = false := rfl
@[simp] theorem sFld_ap (i : Nat) (f : Str) (cs : List Str) (fe : DE) (ρ : DEnv) : Dl.sFld i f cs fe ρ = (fe ρ).toS ρ fun d => withO ρ i fun c ps ds => if d.tg ≠ .vw ∧ c ∈ cs ∧ ps.length < 1000 ∧ ps.length = ds.length then .next (ρ.set i (some (.obj .ow c (putP f ps) (putL f (d.re .fz) ps ds)))) else .stuck := rfl
theorem withO_at {ρ : DEnv} {i : Nat} {g : Str → List Str → List D → SR} {c : Str} {ps : List Str} {ds : List D} (h : ρ[i]? = some (some (.obj .ow c ps ds))) (n : ps ≠ exm1) : withO ρ i g = g c ps ds := by
  unfold withO
  rw [h]
  exact if_pos n
theorem fld_at {f : Str} {cs : List Str} {t : Tg} {c : Str} {ps : List Str} {ds : List D} {d : D} (h1 : c ∈ cs) (h2 : ps ≠ exm1) (h3 : (ps.zip ds).lookup f = some d) : fldD f cs (.obj t c ps ds) = .ok d := by
  show (if c ∈ cs ∧ ps ≠ exm1 then (match (ps.zip ds).lookup f with
    | some d => Res.ok d
    | none => .stuck) else .stuck) = _
  rw [if_pos ⟨h1, h2⟩, h3]
theorem sel_at {m : Str} {tb : Tbl} {t : Tg} {c : Str} {ps : List Str} {ds : List D} {x : List Str × (List D → Res D)} (h1 : m ∉ ps) (h2 : ps ≠ exm1) (h3 : tb.lookup c = some x) : selM m tb (.obj t c ps ds) = some x := by
  show (if m ∉ ps ∧ ps ≠ exm1 then tb.lookup c else none) = _
  rw [if_pos ⟨h1, h2⟩, h3]
theorem call_ok {F : List D → Res D} {ds : List D} {r : D} (h : F (ds.map (D.re .fz)) = .ok r) (g : anyVw ds = true → r.flat = true) : callM F ds = .ok r := by
  unfold callM
  rw [h]
  exact if_pos g
theorem make_ok {FI : List D → Res D} {ds : List D} {r : D} (h : FI (ds.map (D.re .fz)) = .ok r) (g : noVw ds = true) : makeD FI ds = .ok r := by
  unfold makeD
  rw [if_pos g, h]
theorem isO_at {cs : List (Str × Bool)} {t : Tg} {c : Str} {ps : List Str} {ds : List D} {b : Bool} (h2 : ps ≠ exm1) (h3 : cs.lookup c = some b) : isiO cs (.obj t c ps ds) = .ok (.bl b) := by
  show (if ps ≠ exm1 then (match cs.lookup c with
    | some b => Res.ok (D.bl b)
    | none => .stuck) else .stuck) = _
  rw [if_pos h2, h3]
/-! ### texts of good signs -/
theorem ok_app (a b : Str) : PyData.strOk (a ++ b) = (PyData.strOk a && PyData.strOk b) := by
  show (a.cps ++ b.cps).all _ = _
  rw [Array.all_append]
  rfl
theorem ok_fold (g : Array Nat) (hg : g.all (· < 0x110000) = true) : ∀ (l : List Str) (acc : Array Nat), acc.all (· < 0x110000) = true → (∀ p ∈ l, PyData.strOk p = true) → (l.foldl (fun acc p => acc ++ g ++ p.cps) acc).all (· < 0x110000) = true
  | [], acc, h, _ => h
  | p :: l, acc, h, hp => by
    rw [List.foldl_cons]
    refine ok_fold g hg l _ ?_ fun q hq => hp q (List.mem_cons_of_mem _ hq)
    rw [Array.all_append, Array.all_append, h, hg, show p.cps.all (· < 0x110000) = true from hp p (List.mem_cons_self ..)]
    rfl
theorem ok_join {g : Str} {ps : List Str} (hg : PyData.strOk g = true) (hp : ∀ p ∈ ps, PyData.strOk p = true) : PyData.strOk (Txt.join g ps) = true := by
  show ((ps.drop 1).foldl (fun acc p => acc ++ g.cps ++ p.cps) (ps.headD Str.empty).cps).all _ = true
  refine ok_fold g.cps hg _ _ ?_ fun p h => hp p (List.mem_of_mem_drop h)
  cases ps with
  | nil => show Str.empty.cps.all _ = true; decide +kernel
  | cons p ps => exact hp p (List.mem_cons_self ..)
theorem ok_at {s : Str} {c : Nat} (h : PyData.strOk s = true) (hc : c ∈ s.cps.toList) : PyData.strOk ⟨#[c]⟩ = true := by
  have : ∀ x ∈ s.cps, decide (x < 0x110000) = true := Array.all_eq_true_iff_forall_mem.mp h
  have := this c (by simpa using hc)
  show (#[c] : Array Nat).all _ = true
  simpa using this
end Dl
/-! t.index(x) of a tuple of whole numbers. -/
namespace Dl
open PySem PySem.Spec PySem.W PyProof.Rows L2
def intsQ : List D → Option (List Int)
  | [] => some []
  | .int a :: ds => (intsQ ds).map (a :: ·)
  | _ => none
theorem intsQ_map : ∀ ys : List Int, intsQ (ys.map .int) = some ys
  | [] => rfl
  | y :: ys => by rw [List.map_cons]; show (intsQ (ys.map .int)).map (y :: ·) = _; rw [intsQ_map ys]; rfl
theorem intsQ_reps {w : World} {K : PySem.W.Frag} {mg : Str → Option Value} {F : Hp} : ∀ {xs : List V} {ds : List D} {ys : List Int}, Reps w K mg F xs ds → intsQ ds = some ys → xs = ys.map V.int
  | [], [], ys, _, h => by cases h; rfl
  | _, .int a :: ds, ys, .cons r rs, h => by
    have h : (intsQ ds).map (a :: ·) = some ys := h
    obtain ⟨zs, e, rfl⟩ := Option.map_eq_some_iff.mp h
    cases r
    rw [intsQ_reps rs e]
    rfl
theorem intsAre_map {ns : List Int} : ∀ {its : List Value}, Vals (ns.map V.int) its → IntsAre its ns := by
  induction ns with
  | nil => intro its h; cases h; exact .nil
  | cons n ns ih =>
    intro its h
    cases h with
    | cons a b =>
      obtain ⟨t, rfl⟩ := a
      exact .cons n t (ih b)
def ixT (ds : List D) : D → Res D
  | .int k => match intsQ ds with
    | some ns => if k ∈ ns then .ok (.int (ns.idxOf k : Nat)) else .stuck
    | none => .stuck
  | _ => .stuck
def fIxT (fo fe : DE) : DE := fun ρ => (fo ρ).bind fun d => match d with
  | .tup ds => (fe ρ).bind fun b => ixT ds b
  | _ => .stuck
@[simp] theorem fIxT_ap (fo fe : DE) (ρ : DEnv) : fIxT fo fe ρ = (fo ρ).bind fun d => match d with
  | .tup ds => (fe ρ).bind fun b => ixT ds b
  | _ => .stuck := rfl
theorem ixT_ints (ns : List Int) (k : Int) (h : k ∈ ns) : ixT (ns.map .int) (.int k) = .ok (.int (ns.idxOf k : Nat)) := by
  show (match intsQ (ns.map .int) with
    | some ns => if k ∈ ns then Res.ok (D.int (ns.idxOf k : Nat)) else .stuck
    | none => .stuck) = _
  rw [intsQ_map]
  exact if_pos h
section
variable {X : Cx} {W : WX} {o e : Expr} {fo fe : DE} {apos cpos : Pos}
theorem pd_indexT (hc : X.calm = true) (ho : PD X W o fo) (ha : PD X W e fe) (hbase : attributeBase o "index" X.env (eval o X.env) = eval o X.env := by rfl)
    (hfew : ((backTo cpos (starEach [e] X.env)).all (fun x => !x.1) && (backToKw cpos (keywordEach [] X.env)).all (fun x => x.1.isSome)
      && decide ([e].length + ([] : List Keyword).length + (if ([] : List Keyword).isEmpty then 0 else 1) < 30)) = true := by rfl)
    (hline : (apos.endLine == cpos.line) = true := by rfl) (hs : starEach [e] X.env = (false, eval e X.env) :: starEach [] X.env := by rfl) (hplain : (backTo cpos (starEach [] X.env)).any (·.1) = false := by rfl) :
    PD X W (.Call (.Attribute o "index" apos) [e] [] cpos) (fIxT fo fe) := by
  refine ⟨fun pins s σ H Q I h => ?_⟩
  obtain ⟨H0, F0, ρ, F, r, p⟩ := h
  refine wpAny_Call_method_late hbase hfew hline rfl (thn (ho.run pins s σ H (fun x H1 => ∃ a xs ds F1, x = .ref a ∧ TRd H1 a xs ∧ Reps X.w X.K X.mg F1 xs ds ∧ R X H0 F0 ρ σ F1 H1 ∧ Gr F H F1 H1 ∧ Post X W (RXX X) H0 F0 ρ σ F H ((fe ρ).bind fun b => ixT ds b) Q) I ?_) fun v s1 ⟨x, H1, I1, r1, a, xs, ds, F1, ex, ta, ra, r', g', p'⟩ => ?_)
  · refine ⟨H0, F0, ρ, F, r, p.bind (Gr.refl _ _) fun F1 H1 v d _ r1 g1 x1 p1 => ?_⟩
    cases d with
    | tup ds =>
      obtain ⟨a, xs, rfl, h1, h2⟩ := (x1.rep rfl).of_tupN
      exact ⟨a, xs, ds, F1, rfl, trd_mono r1.fh h1, h2, r1, g1, p1⟩
    | _ => exact p1.elim
  · subst ex
    obtain rfl : v = Value.ref a := r1
    obtain ⟨ob, e1, e2, e3⟩ := ta
    obtain ⟨q1, z, its, rv, q2⟩ := I1.hok a _ e1
    refine ⟨"tuple", "tuple.index", PySem.F.plainAttrs_tuple, PySem.F.slot_tuple_index, PySem.F.type_tuple_index, ⟨ob, q1, e2⟩, fun b eb => by cases eb; exact ⟨ob, q1, e3⟩, ?_⟩
    have hA := (pa_cons ha pa_nil hs).run cpos pins s1 σ H1 (fun vs H2 => ∃ u k ns, vs = [u] ∧ u = V.int k ∧ intsQ ds = some ns ∧ k ∈ ns ∧ Same H1 H2 ∧ Q (.int (ns.idxOf k : Nat)) H2) I1 ⟨H0, F0, ρ, F1, r', p'.bind g' fun F2 H2 v2 b _ r2 g2 x2 p2 => ?_⟩
    · rw [hs] at hA ⊢
      refine Calls.callWith_builtin (by show (false || (backTo cpos (starEach [] X.env)).any (·.1)) = false; rw [hplain] <;> rfl) (Calls.evalArgs_plain ?_)
      refine thn hA fun us s2 ⟨vs, H2, I2, r2, u, k, ns, e4, e5, e6, e7, sm, q⟩ => ?_
      subst e4 e5
      obtain ⟨w, ew, t, et⟩ := vals1 r2
      subst ew et
      obtain ⟨c1, c2, its2, rv2, c3⟩ := I2.hok a _ (sm _ _ e1)
      have ei := intsQ_reps ra e6
      rw [ei] at rv2
      refine PySem.W.kix_tup (ns := ns) c3 (by simpa using intsAre_map rv2) (I2.ok.hd hc) (fun _ => ?_) (fun no => absurd e7 no)
      exact ⟨.int _, H2, I2.tok _, ⟨_, rfl⟩, q⟩
    · cases b with
      | int k =>
        have eb := x2.int
        have p3 : Post X W (RXX X) H0 F0 ρ σ F H (match intsQ ds with
          | some ns => if k ∈ ns then Res.ok (D.int (ns.idxOf k : Nat)) else .stuck
          | none => .stuck) Q := p2
        cases ei : intsQ ds with
        | none => rw [ei] at p3; exact p3.elim
        | some ns =>
          rw [ei] at p3
          obtain ⟨c, p4⟩ := Post.guard (c := k ∈ ns) p3
          exact ⟨_, k, ns, rfl, eb, rfl, c, g2.hh, p4.here r2 (g'.trans g2) (RX.fz (.int _))⟩
      | _ => exact p2.elim
end
end Dl
/-! 'a' * n -/
namespace Dl
open PySem PySem.Spec PySem.W PyProof.Rows L2
def strRep (x : Str) (n : Nat) : Str := if n < 1 then Str.empty else if (((n : Int) == 1) || x.length == 0) = true then x else ⟨(List.replicate n x.cps).foldl (· ++ ·) #[]⟩
def opMulS : D → D → Res D
  | .str x, .int n => if 0 ≤ n ∧ n < 10000 ∧ x.length < 1000 then .ok (.str (strRep x n.toNat)) else .stuck
  | _, _ => .stuck
@[simp] theorem opMulS_s (x : Str) (n : Int) : opMulS (.str x) (.int n) = if 0 ≤ n ∧ n < 10000 ∧ x.length < 1000 then .ok (.str (strRep x n.toNat)) else .stuck := rfl
section
variable {X : Cx} {W : WX} {a b : Expr} {fa fb : DE} {pos : Pos}
def rMulS : R2 := fun x y H Q => ∃ (z : Str) (n : Int), x = .str z ∧ y = .int n ∧ 0 ≤ n ∧ n < 10000 ∧ z.length < 1000 ∧ Q (.str (strRep z n.toNat)) H
theorem foldl_len (x : Array Nat) : ∀ (n : Nat) (acc : Array Nat), ((List.replicate n x).foldl (· ++ ·) acc).size = acc.size + n * x.size
  | 0, acc => by simp
  | n + 1, acc => by
    rw [List.replicate_succ, List.foldl_cons, foldl_len x n, Array.size_append, Nat.add_mul]
    omega
theorem op_mulS : OpR X (binaryOp .Mult) rMulS := by
  intro pins s σ H x y v u Q I rx ry h
  obtain ⟨z, n, rfl, rfl, n0, n1, zl, q⟩ := h
  obtain ⟨t, rfl⟩ := rx
  obtain ⟨t', rfl⟩ := ry
  have big : z.length * n.toNat ≤ 1000 * 10000 := Nat.mul_le_mul (by omega) (by omega)
  have sz : sizeLine = 16777216 := by rw [sizeLine_eq]
  refine PySem.P.mul_str (by simp; omega) (fun h1 h2 h3 => ?_) (fun h1 h2 => ?_) ?_
  · have e : (z.length : Int) * n ≤ 2 ^ 63 - 1 := by
      have : ((z.length * n.toNat : Nat) : Int) ≤ 10000000 := by omega
      rw [Int.natCast_mul] at this
      have e2 : ((n.toNat : Nat) : Int) = n := by omega
      rw [e2] at this
      omega
    have := (Int.le_ediv_iff_mul_le (by omega : 0 < n)).mpr e
    omega
  · unfold Builtin.Str.tooLong
    rw [sz]
    simp
    omega
  · unfold strRep at q
    by_cases c : n < 1
    · rw [if_pos c]
      rw [if_pos (by omega : n.toNat < 1)] at q
      exact ⟨by decide, ⟨.str Str.empty, H, I.tok _, ⟨_, rfl⟩, q⟩⟩
    · rw [if_neg c]
      rw [if_neg (by omega : ¬ n.toNat < 1)] at q
      have e2 : ((n.toNat : Nat) : Int) = n := by omega
      rw [e2] at q
      by_cases d : (n == 1 || z.length == 0) = true
      · rw [if_pos d]
        rw [if_pos d] at q
        exact ⟨.str z, H, I, ⟨_, rfl⟩, q⟩
      · rw [if_neg d]
        rw [if_neg d] at q
        refine ⟨?_, ⟨.str _, H, I.tok _, ⟨_, rfl⟩, q⟩⟩
        have l := foldl_len z.cps n.toNat #[]
        have zc : z.cps.size = z.length := rfl
        simp only [List.size_toArray, List.length_nil, Nat.zero_add] at l
        show ((List.replicate n.toNat z.cps).foldl (· ++ ·) #[]).size ≤ sizeLine
        rw [l, zc, sz, Nat.mul_comm]
        omega
theorem ok_mulS : OpOk X W opMulS rMulS := by
  intro H0 F0 ρ σ F H F2 H2 v u a b Q r r2 g x y p
  cases a with
  | str z =>
    cases b with
    | int n =>
      obtain ⟨⟨c1, c2, c3⟩, p⟩ := Post.guard (c := 0 ≤ n ∧ n < 10000 ∧ z.length < 1000) p
      exact ⟨z, n, x.str, y.int, c1, c2, c3, p.here r2 g (RX.fz (.str _))⟩
    | _ => exact p.elim
  | _ => exact p.elim
theorem pd_mulS (ha : PD X W a fa) (hb : PD X W b fb) : PD X W (.BinOp a .Mult b pos) (fB opMulS fa fb) := (pe_op op_mulS ha hb).imp fun _ _ _ => bin_imp ok_mulS
end
end Dl
/-! The listener with the least left. -/
namespace Sh
open PySem PySem.Spec PyProof.Rows L2 Dl
def leastI : List Int → Int
  | [] => 0
  | n :: ns => minI n ns
def urg (l : List Int) : Nat := l.idxOf (leastI l)
theorem least_mem {l : List Int} (h : l ≠ []) : leastI l ∈ l := by
  cases l with
  | nil => exact absurd rfl h
  | cons n ns => exact (minI_spec ns n).1
theorem least_le {l : List Int} {x : Int} (h : x ∈ l) : leastI l ≤ x := by
  cases l with
  | nil => cases h
  | cons n ns => exact (minI_spec ns n).2 x h
theorem urg_lt {l : List Int} (h : l ≠ []) : urg l < l.length := List.idxOf_lt_length_of_mem (least_mem h)
theorem urg_at {l : List Int} (h : l ≠ []) : l.getD (urg l) 0 = leastI l := by
  have := urg_lt h
  rw [List.getD_eq_getElem?_getD, List.getElem?_eq_getElem this]
  exact List.getElem_idxOf _
theorem idx_first : ∀ (l : List Int) (x : Int) (a : Nat), a < l.length → l.getD a 0 = x → (∀ j, j < a → l.getD j 0 ≠ x) → l.idxOf x = a
  | [], _, _, h, _, _ => by simp at h
  | y :: l, x, 0, _, h2, _ => by
    have : y = x := by simpa using h2
    rw [this]
    simp
  | y :: l, x, a + 1, h1, h2, h3 => by
    have n : y ≠ x := by simpa using h3 0 (by omega)
    have e : (y == x) = false := beq_eq_false_iff_ne.mpr n
    rw [List.idxOf_cons, e, idx_first l x a (by simpa using h1) (by simpa using h2) (fun j hj => by simpa using h3 (j + 1) (by omega))]
    rfl
theorem urg_eq {l : List Int} {a : Nat} (h : a < l.length) (h1 : ∀ j, j < l.length → l.getD a 0 ≤ l.getD j 0) (h2 : ∀ j, j < a → l.getD a 0 < l.getD j 0) : urg l = a := by
  have ne : l ≠ [] := by intro z; subst z; simp at h
  have e : l.getD a 0 = leastI l := by
    have i1 := least_le (l := l) (memD h)
    obtain ⟨j, hj⟩ := List.getElem?_of_mem (least_mem ne)
    have jl := (List.getElem?_eq_some_iff.mp hj).1
    have := h1 j jl
    rw [List.getD_eq_getElem?_getD (i := j), hj] at this
    have : l.getD a 0 ≤ leastI l := this
    omega
  refine idx_first l _ a h e fun j hj => ?_
  have := h2 j hj
  omega
theorem min1_least (l : List Int) (h : l ≠ []) : min1G (.tup (l.map .int)) = .ok (.int (leastI l)) := by
  cases l with
  | nil => exact absurd rfl h
  | cons n ns => exact min1G_intsT n ns
theorem ixT_urg (l : List Int) (h : l ≠ []) : ixT (l.map .int) (.int (leastI l)) = .ok (.int (urg l : Nat)) := ixT_ints l _ (least_mem h)
end Sh
namespace K71
open PySem PySem.Spec PyProof.Rows L2 Dl Sh
noncomputable def g_law_least : DS := (sSeq (sSet 1 (fC (.int 0)))
  (sSeq (sFor (gN 2) (fRng rng1 (fCons (fCall opLen (fCons (fV 0) fNil)) fNil))
  ((sIf (tOf (fB opLtG (fB opIdxK (fV 0) (fV 2)) (fB opIdxK (fV 0) (fV 1))))
  ((sSet 1 (fV 2)))
  sNext)))
  (sRetV 1)))
noncomputable def f_law_least : List D → Res D := runD 3 1 g_law_least
theorem r_law_least (a0 : D) : f_law_least [a0] = toRes (g_law_least [some a0, none, none]) := rfl
noncomputable def g_law_stand : DS := (sSeq (sSet 2 (fB opAdd (fC (.int 1)) (fB opMod (fV 0) (fC (.int 8)))))
  (sSeq (sSet 3 (fLst fNil))
  (sSeq (sSet 4 (fLst fNil))
  (sSeq (sSet 5 (fB opAdd (fB opMul (fB opMod (fV 0) (fB opPow (fC (.int 10)) (fC (.int 40)))) (fC (.int 48271))) (fV 1)))
  (sSeq (sSet 6 (fB opIdxK (fLst (fCons (fC (.int 2)) (fCons (fC (.int 3)) (fCons (fB opPow (fC (.int 10)) (fC (.int 30))) (fCons (fB opPow (fC (.int 10)) (fC (.int 60))) fNil))))) (fB opMod (fB opFdiv (fV 0) (fC (.int 8))) (fC (.int 4)))))
  (sSeq (sFor (gN 7) (fRng rng1 (fCons (fV 2) fNil))
  ((sSeq (sSet 5 (fB opMod (fB opAdd (fB opAdd (fB opMul (fV 5) (fV 5)) (fB opMul (fB opPow (fC (.int 7)) (fC (.int 40))) (fV 7))) (fV 1)) (fB opAdd (fB opPow (fC (.int 10)) (fC (.int 61))) (fC (.int 7)))))
  (sSeq (sSet 8 (fB opAdd (fC (.int 1)) (fB opMod (fB opFdiv (fV 5) (fC (.int 13))) (fV 6))))
  (sSeq (sApp 4 (fV 8))
  (sApp 3 (fB opAdd (fV 8) (fB opIdxK (fLst (fCons (fC (.int 0)) (fCons (fB opMod (fB opFdiv (fV 5) (fC (.int 5))) (fB opPow (fC (.int 10)) (fC (.int 9)))) fNil))) (fB opMod (fV 5) (fC (.int 2)))))))))))
  (sSeq (sSet 9 (fC .non))
  (sSeq (sSet 10 (fC (.int 0)))
  (sSeq (sIf (tOf (fB opNe (fB opMod (fV 5) (fC (.int 3))) (fC (.int 0))))
  ((sSeq (sSet 9 (fB opAdd (fC (.int 1)) (fB opMod (fB opFdiv (fV 5) (fC (.int 3))) (fB opPow (fC (.int 10)) (fC (.int 9))))))
  (sSet 10 (fB opIdxK (fLst (fCons (fC (.int 0)) (fCons (fB opMod (fB opFdiv (fV 5) (fC (.int 17))) (fB opAdd (fV 9) (fC (.int 1)))) fNil))) (fB opMod (fB opFdiv (fV 5) (fC (.int 2))) (fC (.int 2)))))))
  sNext)
  (sRet (fTup (fCons (fTup (fCons (fCall (op1 tuple1) (fCons (fV 3) fNil)) (fCons (fV 9) fNil))) (fCons (fTup (fCons (fCall (op1 tuple1) (fCons (fV 4) fNil)) (fCons (fV 10) fNil))) fNil)))))))))))))
noncomputable def f_law_stand : List D → Res D := runD 11 2 g_law_stand
theorem r_law_stand (a0 a1 : D) : f_law_stand [a0, a1] = toRes (g_law_stand [some a0, some a1, none, none, none, none, none, none, none, none, none]) := rfl
noncomputable def g_most_urgent : DS := (sSeq (sSet 1 (fB opIdxK (fV 0) (fC (.int 0))))
  (sRet (fIxT (fV 1) (fCall (op1 min1G) (fCons (fV 1) fNil)))))
noncomputable def f_most_urgent : List D → Res D := runD 2 1 g_most_urgent
theorem r_most_urgent (a0 : D) : f_most_urgent [a0] = toRes (g_most_urgent [some a0, none]) := rfl
noncomputable def g_Caller_call : DS := (sRet (fCallF f_most_urgent (fCons (fV 2) fNil)))
noncomputable def f_Caller_call : List D → Res D := runD 3 3 g_Caller_call
theorem r_Caller_call (a0 a1 a2 : D) : f_Caller_call [a0, a1, a2] = toRes (g_Caller_call [some a0, some a1, some a2]) := rfl
noncomputable def tb_call : Tbl := [("Caller", ["self", "hall", "standing"], f_Caller_call)]
noncomputable def g_Road_loses : DS := (sRet (fC (.bl false)))
noncomputable def f_Road_loses : List D → Res D := runD 4 4 g_Road_loses
theorem r_Road_loses (a0 a1 a2 a3 : D) : f_Road_loses [a0, a1, a2, a3] = toRes (g_Road_loses [some a0, some a1, some a2, some a3]) := rfl
noncomputable def tb_loses : Tbl := [("Road", ["self", "hall", "standing", "who"], f_Road_loses)]
noncomputable def g_law : DS := (sSeq (sSet 1 (fC (.obj .fz "Caller" [] [])))
  (sSeq (sSet 2 (fC (.obj .fz "Road" [] [])))
  (sSeq (sSet 3 (fB opAdd (fSl (fV 0) (fPart (fC (.int 2))) (fPart (fC (.int 63)))) (fLst (fCons (fCallF f_law_cell_at (fCons (fV 0) (fCons (fC (.int 0)) fNil))) fNil))))
  (sSeq (sFor (gN 4) (fRng rng1 (fCons (fCall opLen (fCons (fV 3) fNil)) fNil))
  ((sSeq (sAsg (gT (gs1 (gN 8) (gs1 (gN 9) gs0))) (fCallF f_law_stand (fCons (fB opIdxK (fV 3) (fV 4)) (fCons (fB opAdd (fB opMod (fCallF f_law_cell_at (fCons (fV 0) (fCons (fC (.int 1)) fNil))) (fC (.int 1009))) (fV 4)) fNil))))
  (sSeq (sSet 5 (fCallF f_law_least (fCons (fB opIdxK (fV 9) (fC (.int 0))) fNil)))
  (sSeq (sSet 6 (fMeth "call" tb_call (fV 1) (fCons (fV 8) (fCons (fV 9) fNil))))
  (sSeq (sIf ((tOrD (tNotD (tOf (fU (isiD "int") (fV 6)))) (tOrD (tOf (fU (isiD "bool") (fV 6))) (tOf (fB opNe (fV 6) (fV 5))))))
  ((sRet (fC (.bl false))))
  sNext)
  (sSeq (sSet 7 (fB opMod (fB opFdiv (fB opIdxK (fV 3) (fV 4)) (fC (.int 3))) (fCall opLen (fCons (fB opIdxK (fV 8) (fC (.int 0))) fNil))))
  (sSeq (sIf (tOf (fB (opIsB true) (fMeth "loses" tb_loses (fV 2) (fCons (fV 8) (fCons (fV 9) (fCons (fV 7) fNil)))) (fC (.bl false))))
  ((sRet (fC (.bl false))))
  sNext)
  (sSeq (sIf (tOf (fB (opIsB true) (fMeth "loses" tb_loses (fV 2) (fCons (fV 8) (fCons (fV 9) (fCons (fV 5) fNil)))) (fC (.bl false))))
  ((sRet (fC (.bl false))))
  sNext)
  (sSeq (sIf ((tAndD (tOf (fB opEq (fB opMod (fV 4) (fC (.int 7))) (fC (.int 0)))) (tOf (fB opNe (fMeth "call" tb_call (fC (.obj .fz "Caller" [] [])) (fCons (fV 8) (fCons (fV 9) fNil))) (fV 5)))))
  ((sRet (fC (.bl false))))
  sNext)
  (sIf ((tAndD (tOf (fB opEq (fB opMod (fV 4) (fC (.int 7))) (fC (.int 0)))) (tOf (fB (opIsB true) (fMeth "loses" tb_loses (fC (.obj .fz "Road" [] [])) (fCons (fV 8) (fCons (fV 9) (fCons (fV 5) fNil)))) (fC (.bl false))))))
  ((sRet (fC (.bl false))))
  sNext)))))))))))
  (sRet (fC (.bl true)))))))
noncomputable def f_law : List D → Res D := runD 10 1 g_law
theorem r_law (a0 : D) : f_law [a0] = toRes (g_law [some a0, none, none, none, none, none, none, none, none, none]) := rfl
end K71

namespace K71
open PySem PySem.Spec PySem.W PyProof.Rows L2 Dl Sh
theorem least_eq (l : List Int) (h : l ≠ []) (hl : l.length ≤ 100) : f_law_least [.tup (l.map .int)] = .ok (.int (urg l : Nat)) := by
  rw [r_law_least]
  unfold g_law_least
  have lp : 0 < l.length := List.length_pos_iff.mpr h
  have ft : fits62 (l.length : Int) := by unfold fits62; omega
  have nz : ((l.length : Int)).toNat = l.length := by omega
  have sm : l.length ≤ seqMax := by unfold seqMax; omega
  have ix : ∀ k : Nat, k < l.length → opIdxK (.tup (l.map .int)) (.int k) = .ok (.int (l.getD k 0)) := fun k hk => idx_intsT l k hk
  simp -implicitDefEqProofs [ft, upTo_map, nz, sm]
  refine forD_M (P := fun r => toRes r = _) (fun i ρ => ∃ (a : Nat) (x2 : Option D), ρ = [some (.tup (l.map .int)), some (.int a), x2] ∧ a < l.length ∧ (∀ j, j < i → l.getD a 0 ≤ l.getD j 0) ∧ (∀ j, j < a → l.getD a 0 < l.getD j 0) ∧ (a < i ∨ a = 0)) ⟨0, none, rfl, lp, fun j hj => by omega, fun j hj => by omega, .inr rfl⟩ (fun i k ρ hk ⟨a, x2, e, al, h1, h2, h3⟩ => ?_) (fun ρ ⟨a, x2, e, al, h1, h2, h3⟩ => ?_)
  · subst e
    obtain ⟨hi, e⟩ := List.getElem?_eq_some_iff.mp hk
    rw [List.getElem_range] at e
    rw [List.length_range] at hi
    subst e
    have i1 := ix i hi
    have i2 := ix a al
    by_cases c : l.getD i 0 < l.getD a 0
    · refine to_of (ρ' := [some (.tup (l.map .int)), some (.int i), some (.int i)]) (by simp -implicitDefEqProofs [i1, i2, c, -List.getD_eq_getElem?_getD]) ⟨i, some (.int i), rfl, hi, fun j hj => ?_, fun j hj => ?_, .inl (by omega)⟩
      · by_cases z : j = i
        · subst z; exact Int.le_refl _
        · have := h1 j (by omega); omega
      · have := h1 j hj; omega
    · refine to_of (ρ' := [some (.tup (l.map .int)), some (.int a), some (.int i)]) (by simp -implicitDefEqProofs [i1, i2, c, -List.getD_eq_getElem?_getD]) ⟨a, some (.int i), rfl, al, fun j hj => ?_, h2, by omega⟩
      by_cases z : j = i
      · subst z; omega
      · exact h1 j (by omega)
  · subst e
    rw [List.length_range] at h1
    have := urg_eq al h1 h2
    simp -implicitDefEqProofs [this]
theorem most_eq (ls : List Int) (q : Int) (h : ls ≠ []) : f_most_urgent [standD ls q] = .ok (.int (urg ls : Nat)) := by
  rw [r_most_urgent]
  unfold g_most_urgent
  have k0 : opIdxK (standD ls q) (.int 0) = .ok (.tup (ls.map .int)) := standD_0 ls q
  have m := min1_least ls h
  have u := ixT_urg ls h
  simp -implicitDefEqProofs [k0, m, u]
theorem call_eq (ws ls : List Int) (c : Option Int) (q : Int) (h : ls ≠ []) : callM f_Caller_call [.obj .fz "Caller" [] [], hallD ws c, standD ls q] = .ok (.int (urg ls : Nat)) := by
  refine call_ok ?_ (fun _ => rfl)
  show f_Caller_call [.obj .fz "Caller" [] [], hallD ws c, standD ls q] = _
  rw [r_Caller_call]
  unfold g_Caller_call
  have m := most_eq ls q h
  simp -implicitDefEqProofs [m]
theorem loses_eq (ws ls : List Int) (c : Option Int) (q who : Int) : callM f_Road_loses [.obj .fz "Road" [] [], hallD ws c, standD ls q, .int who] = .ok (.bl false) := by
  refine call_ok ?_ (fun _ => rfl)
  show f_Road_loses [.obj .fz "Road" [] [], hallD ws c, standD ls q, .int who] = _
  rw [r_Road_loses]
  unfold g_Road_loses
  simp -implicitDefEqProofs
def StandR (d : D) : Prop := ∃ (ws ls : List Int) (cm : Option Int) (q : Int), d = .tup [hallD ws cm, standD ls q] ∧ ls.length = ws.length ∧ ls ≠ [] ∧ ls.length ≤ 8
theorem stand_eq (c z : Int) (sc : Sm M c) (z0 : 0 ≤ z) (z1 : z ≤ 2000) : ∃ (ws ls : List Int) (cm : Option Int) (q : Int), f_law_stand [.int c, .int z] = .ok (.tup [hallD ws cm, standD ls q]) ∧ ls.length = ws.length ∧ ls ≠ [] ∧ ls.length ≤ 8 := by
  suffices h : Res.Ok (f_law_stand [.int c, .int z]) StandR by
    obtain ⟨d, e, ws, ls, cm, q, rfl, k⟩ := h
    exact ⟨ws, ls, cm, q, e, k⟩
  rw [r_law_stand]
  unfold g_law_stand
  obtain ⟨m, em, m1, m8⟩ : ∃ m : Nat, 1 + c % 8 = m ∧ 1 ≤ m ∧ m ≤ 8 := ⟨(1 + c % 8).toNat, by omega, by omega, by omega⟩
  have hfew : ∃ few : Int, opIdxK (.lst .ow [.int 2, .int 3, .int 1000000000000000000000000000000, .int 1000000000000000000000000000000000000000000000000000000000000]) (.int (c / 8 % 4)) = .ok (.int few) ∧ 0 < few := by
    have : c / 8 % 4 = 0 ∨ c / 8 % 4 = 1 ∨ c / 8 % 4 = 2 ∨ c / 8 % 4 = 3 := by omega
    rcases this with e | e | e | e <;> rw [e]
    · exact ⟨2, rfl, by decide⟩
    · exact ⟨3, rfl, by decide⟩
    · exact ⟨_, rfl, by decide⟩
    · exact ⟨_, rfl, by decide⟩
  obtain ⟨few, ef, f0⟩ := hfew
  have p40 : (0 : Int) < 10000000000000000000000000000000000000000 := by decide
  have n0 := Int.emod_nonneg c (show (10000000000000000000000000000000000000000 : Int) ≠ 0 by decide)
  have n1 := Int.emod_lt_of_pos c p40
  have mo : mulOk (c % 10000000000000000000000000000000000000000) 48271 = true := mulOk_of (sm_pow (n := 133) n0 (by omega)) (sm_pow (n := 16) (by decide) (by decide)) (by decide)
  have ft : fits62 (m : Int) := by unfold fits62; omega
  have nz : ((m : Int)).toNat = m := by omega
  simp -implicitDefEqProofs [em, mo, ef, ft, upTo_map, nz]
  have nn : 0 ≤ c % 10000000000000000000000000000000000000000 * 48271 + z ∧ c % 10000000000000000000000000000000000000000 * 48271 + z < 2 ^ 204 := by omega
  generalize c % 10000000000000000000000000000000000000000 * 48271 + z = num at *
  refine forD_M (P := fun r => Res.Ok (toRes r) _) (fun i ρ => ∃ (num : Int) (ws ls : List Int) (x7 x8 : Option D), ρ = [some (.int c), some (.int z), some (.int m), some (.lst .ow (ws.map .int)), some (.lst .ow (ls.map .int)), some (.int num), some (.int few), x7, x8, none, none] ∧ ws.length = i ∧ ls.length = i ∧ 0 ≤ num ∧ num < 2 ^ 204) ⟨num, [], [], none, none, rfl, rfl, rfl, nn⟩ (fun i k ρ hk ⟨num, ws, ls, x7, x8, e, wl, ll, a0, a1⟩ => ?_) (fun ρ ⟨num, ws, ls, x7, x8, e, wl, ll, a0, a1⟩ => ?_)
  · subst e
    obtain ⟨hi, e⟩ := List.getElem?_eq_some_iff.mp hk
    rw [List.getElem_range] at e
    rw [List.length_range] at hi
    subst e
    have m1 : mulOk num num = true := mulOk_of (sm_pow (n := 204) a0 (by omega)) (sm_pow (n := 204) a0 (by omega)) (by decide)
    have m2 : mulOk 6366805760909027985741435139224001 (i : Int) = true := mulOk_of (sm_pow (n := 120) (by decide) (by decide)) (sm_pow (n := 10) (by omega) (by omega)) (by decide)
    have b0 := Int.emod_nonneg (num * num + 6366805760909027985741435139224001 * (i : Int) + z) (show (10000000000000000000000000000000000000000000000000000000000007 : Int) ≠ 0 by decide)
    have b1 := Int.emod_lt_of_pos (num * num + 6366805760909027985741435139224001 * (i : Int) + z) (show (0 : Int) < 10000000000000000000000000000000000000000000000000000000000007 by decide)
    have lA : (ws.map D.int).length < seqMax := by rw [List.length_map]; unfold seqMax; omega
    have lB : (ls.map D.int).length < seqMax := by rw [List.length_map]; unfold seqMax; omega
    have lA2 : ws.length < seqMax := by unfold seqMax; omega
    have lB2 : ls.length < seqMax := by unfold seqMax; omega
    have few0 : ¬ few = 0 := by omega
    have add : ∀ y : Int, ∃ d : Int, opIdxK (.lst .ow [.int 0, .int (y / 5 % 1000000000)]) (.int (y % 2)) = .ok (.int d) := fun y => by
      have : y % 2 = 0 ∨ y % 2 = 1 := by omega
      rcases this with e | e <;> rw [e]
      · exact ⟨0, rfl⟩
      · exact ⟨y / 5 % 1000000000, rfl⟩
    simp -implicitDefEqProofs [m1, m2]
    generalize (num * num + 6366805760909027985741435139224001 * (i : Int) + z) % 10000000000000000000000000000000000000000000000000000000000007 = y at *
    obtain ⟨d, ed⟩ := add y
    refine to_of (ρ' := [some (.int c), some (.int z), some (.int m), some (.lst .ow (ws.map .int ++ [.int (1 + y / 13 % few + d)])), some (.lst .ow (ls.map .int ++ [.int (1 + y / 13 % few)])), some (.int y), some (.int few), some (.int i), some (.int (1 + y / 13 % few)), none, none]) ?_ ⟨y, ws ++ [1 + y / 13 % few + d], ls ++ [1 + y / 13 % few], ⟨_, _, by rw [List.map_append, List.map_append]; rfl⟩, by rw [List.length_append]; simp [wl], by rw [List.length_append]; simp [ll], b0, by omega⟩
    simp -implicitDefEqProofs [withL_def, few0, f0, lA, lB, lA2, lB2, ed]
  · subst e
    rw [List.length_range] at wl ll
    have sw : (ws.map D.int).length ≤ seqMax := by rw [List.length_map]; unfold seqMax; omega
    have fin : ls.length = ws.length ∧ ls ≠ [] ∧ ls.length ≤ 8 := ⟨by omega, fun e => by rw [e] at ll; simp at ll; omega, by omega⟩
    by_cases c3 : num % 3 = 0
    · refine ⟨_, ?_, ws, ls, none, 0, rfl, fin⟩
      simp -implicitDefEqProofs [c3, opNe_p, hallD_t, standD_t, calmD]
    · have q1 : ∃ n : Int, 1 + num / 3 % 1000000000 = n ∧ 0 < n := ⟨_, rfl, by omega⟩
      obtain ⟨n, en, n0⟩ := q1
      have n2 : ¬ n + 1 = 0 := by omega
      have n3 : 0 < n + 1 := by omega
      obtain ⟨q, eq⟩ : ∃ q : Int, opIdxK (.lst .ow [.int 0, .int (num / 17 % (n + 1))]) (.int (num / 2 % 2)) = .ok (.int q) := by
        have : num / 2 % 2 = 0 ∨ num / 2 % 2 = 1 := by omega
        rcases this with e | e <;> rw [e]
        · exact ⟨0, rfl⟩
        · exact ⟨num / 17 % (n + 1), rfl⟩
      refine ⟨_, ?_, ws, ls, some n, q, rfl, fin⟩
      simp -implicitDefEqProofs [c3, opNe_p, hallD_t, standD_t, calmD, en, n2, n3, eq]
theorem law_true (ns : List Int) (hl : ns.length ≤ 63) (hb : ∀ z ∈ ns, Builtin.Int.intBits z ≤ 1048576) : f_law [.lst .fz (ns.map .int)] = .ok (.bl true) := by
  rw [r_law]
  unfold g_law
  obtain ⟨c0, e0, s0⟩ := cell_sm hb 0 (by omega)
  obtain ⟨c1, e1, s1⟩ := cell_sm hb 1 (by omega)
  have cut : Dl.cutD (ns.map D.int) (some 2) (some 63) = ((ns.drop 2).take 61).map .int := by
    have := cut_mid (ns.map D.int) 2 63 (by omega)
    rw [← List.map_drop, ← List.map_take] at this
    exact this
  have xl : ((ns.drop 2).take 61).length ≤ 61 := by rw [List.length_take]; omega
  have xs : ∀ z ∈ (ns.drop 2).take 61, Sm M z := fun z hz => (sm_of_bits (hb z (List.mem_of_mem_drop (List.mem_of_mem_take hz)))).mono (by decide)
  generalize (ns.drop 2).take 61 = ys at cut xl xs
  have smy : (ys.map D.int).length + 1 ≤ seqMax := by rw [List.length_map]; unfold seqMax; omega
  have smy2 : ys.length + 1 ≤ seqMax := by unfold seqMax; omega
  have cells : ys.map D.int ++ [.int c0] = (ys ++ [c0]).map .int := by simp
  simp -implicitDefEqProofs [cut, e0, smy, smy2, cells, -List.map_append, -List.length_append]
  have zl : (ys ++ [c0]).length ≤ 62 := by rw [List.length_append]; simp; omega
  have zs : ∀ z ∈ ys ++ [c0], Sm M z := fun z hz => by
    rcases List.mem_append.mp hz with h | h
    · exact xs z h
    · rw [List.mem_singleton.mp h]; exact s0
  generalize ys ++ [c0] = cs at *
  have ft : fits62 (cs.length : Int) := by unfold fits62; omega
  have nz : ((cs.length : Int)).toNat = cs.length := by omega
  simp -implicitDefEqProofs [ft, upTo_map, nz]
  refine forD_M (P := fun r => toRes r = _) (fun i ρ => ∃ x4 x5 x6 x7 x8 x9 : Option D, ρ = [some (.lst .fz (ns.map .int)), some (.obj .fz "Caller" [] []), some (.obj .fz "Road" [] []), some (.lst .ow (cs.map .int)), x4, x5, x6, x7, x8, x9]) ⟨_, _, _, _, _, _, rfl⟩ (fun i k ρ hk ⟨x4, x5, x6, x7, x8, x9, e⟩ => ?_) (fun ρ ⟨x4, x5, x6, x7, x8, x9, e⟩ => ?_)
  · subst e
    obtain ⟨hi, e⟩ := List.getElem?_eq_some_iff.mp hk
    rw [List.getElem_range] at e
    rw [List.length_range] at hi
    subst e
    have ix : ∀ t, opIdxK (.lst t (cs.map .int)) (.int i) = .ok (.int (cs.getD i 0)) := fun t => idx_ints t cs i hi
    have sc := zs _ (memD hi)
    obtain ⟨ws, ls, cm, q, es, lw, ne, l8⟩ := stand_eq (cs.getD i 0) (c1 % 1009 + i) sc (by omega) (by omega)
    have k0 : opIdxK (standD ls q) (.int 0) = .ok (.tup (ls.map .int)) := standD_0 ls q
    have h0 : opIdxK (hallD ws cm) (.int 0) = .ok (.tup (ws.map .int)) := hallD_0 ws cm
    have le := least_eq ls ne (by omega)
    have ca := call_eq ws ls cm q ne
    have lo := fun who => loses_eq ws ls cm q who
    have wl : (ws.length : Int) ≠ 0 := by
      have := List.length_pos_iff.mpr ne
      omega
    have wp : 0 < ws.length := by omega
    have wsm : ws.length ≤ seqMax := by unfold seqMax; omega
    have s1 : selM "call" tb_call (.obj .fz "Caller" [] []) = some ((["self", "hall", "standing"] : List Str), f_Caller_call) := sel_at (by decide) (by decide) rfl
    have s2 : selM "loses" tb_loses (.obj .fz "Road" [] []) = some ((["self", "hall", "standing", "who"] : List Str), f_Road_loses) := sel_at (by decide) (by decide) rfl
    have isF : opIsB true (.bl false) (.bl false) = .ok (.bl false) := rfl
    refine to_of (ρ' := [some (.lst .fz (ns.map .int)), some (.obj .fz "Caller" [] []), some (.obj .fz "Road" [] []), some (.lst .ow (cs.map .int)), some (.int i), some (.int (urg ls : Nat)), some (.int (urg ls : Nat)), some (.int (cs.getD i 0 / 3 % (ws.length : Int))), some (hallD ws cm), some (standD ls q)]) ?_ ⟨_, _, _, _, _, _, rfl⟩
    have v1 : vwOf (standD ls q) = standD ls q := rfl
    have v2 : vwOf (hallD ws cm) = hallD ws cm := rfl
    have t1 : (standD ls q).tg = .fz := rfl
    have t2 : (hallD ws cm).tg = .fz := rfl
    generalize cs.getD i 0 = cell at *
    generalize hallD ws cm = HA at *
    generalize standD ls q = ST at *
    generalize ("Caller" : Str) = n1 at *
    generalize ("Road" : Str) = n2 at *
    simp -implicitDefEqProofs [ix, e1, es, k0, h0, le, ca, lo, s1, s2, isF, opNe_p, opEq_p, wl, wp, wsm, v1, v2, t1, t2]
  · subst e
    simp -implicitDefEqProofs
end K71
namespace K71
open PySem PySem.Spec PyProof.Rows L2 Dl Sh
def topS (i : Nat) : Stmt := PySem.Challenge.pw_roundcall_k71_plain_players.main.body.getD i (.Pass ⟨0, 0, 0, 0⟩)
abbrev s_law_cell_at : Stmt := topS 5
theorem sc_law_cell_at : FnScope ["script", "k"] ["script", "k"] (defScope s_law_cell_at) := ⟨rfl, rfl, rfl, by decide +kernel, rfl, by decide +kernel, by decide +kernel⟩
theorem ok_law_cell_at {P : Program} {w : World} {K : PySem.W.Frag} {mg : Str → Option Value} {base : Heap} (A : DefAt K mg "_law_cell_at" s_law_cell_at ["script", "k"] [[]] w) (b_len : mg "len" = none) :
  FnD P w K mg base 1 "_law_cell_at" ["script", "k"] [[]] f_law_cell_at := by
  refine fnD (N := ["script", "k"]) (k := 0) g_law_cell_at A sc_law_cell_at fun f cdv Ar outer s H E hr => ?_
  have nd : (["script", "k"] : List Str).Nodup := sc_law_cell_at.nd
  have tk := takes_of (X := cxOf (L2.CX P w) P w K mg base ["script", "k"] "_law_cell_at" (defScope s_law_cell_at) f cdv Ar outer s H E) rfl rfl rfl rfl
  have pas := passes_of (X := cxOf (L2.CX P w) P w K mg base ["script", "k"] "_law_cell_at" (defScope s_law_cell_at) f cdv Ar outer s H E) rfl
  exact (pssd_cons (psd_if (ptd_lt (pd_v 1) (pd_len rfl b_len (pad_cons (pd_v 0) pad_nil)))
    ((pssd_one (psd_ret (pd_ix (pd_v 0) (pd_v 1)))))
    pssd_nil)
    (pssd_one (psd_ret pd_int)))
abbrev s_law_least : Stmt := topS 7
theorem sc_law_least : FnScope ["lefts", "found", "k"] ["lefts"] (defScope s_law_least) := ⟨rfl, rfl, rfl, by decide +kernel, rfl, by decide +kernel, by decide +kernel⟩
theorem ok_law_least {P : Program} {w : World} {K : PySem.W.Frag} {mg : Str → Option Value} {base : Heap} (A : DefAt K mg "_law_least" s_law_least ["lefts"] [[]] w) (b_len : mg "len" = none) (b_range : mg "range" = none) :
  FnD P w K mg base 1 "_law_least" ["lefts"] [[]] f_law_least := by
  refine fnD (N := ["lefts", "found", "k"]) (k := 0) g_law_least A sc_law_least fun f cdv Ar outer s H E hr => ?_
  have nd : (["lefts", "found", "k"] : List Str).Nodup := sc_law_least.nd
  have tk := takes_of (X := cxOf (L2.CX P w) P w K mg base ["lefts", "found", "k"] "_law_least" (defScope s_law_least) f cdv Ar outer s H E) rfl rfl rfl rfl
  have pas := passes_of (X := cxOf (L2.CX P w) P w K mg base ["lefts", "found", "k"] "_law_least" (defScope s_law_least) f cdv Ar outer s H E) rfl
  exact (pssd_cons (psd_set 1 nd pd_int)
    (pssd_cons (psd_for pas rfl (pid_range1 rfl b_range (pad_cons (pd_len rfl b_len (pad_cons (pd_v 0) pad_nil)) pad_nil)) (pgd_name 2 nd)
    ((pssd_one (psd_if (ptd_ltG hr (pd_ixK hr (pd_v 0) (pd_v 2)) (pd_ixK hr (pd_v 0) (pd_v 1)))
    ((pssd_one (psd_set 1 nd (pd_v 2))))
    pssd_nil))))
    (pssd_one (psd_retV 1))))
abbrev s_law_stand : Stmt := topS 6
theorem sc_law_stand : FnScope ["cell", "salt", "many", "waits", "lefts", "number", "few", "k", "left", "calm", "quiet"] ["cell", "salt"] (defScope s_law_stand) := ⟨rfl, rfl, rfl, by decide +kernel, rfl, by decide +kernel, by decide +kernel⟩
theorem ok_law_stand {P : Program} {w : World} {K : PySem.W.Frag} {mg : Str → Option Value} {base : Heap} (A : DefAt K mg "_law_stand" s_law_stand ["cell", "salt"] [[]] w) (b_range : mg "range" = none) (b_tuple : mg "tuple" = none) :
  FnD P w K mg base 1 "_law_stand" ["cell", "salt"] [[]] f_law_stand := by
  refine fnD (N := ["cell", "salt", "many", "waits", "lefts", "number", "few", "k", "left", "calm", "quiet"]) (k := 0) g_law_stand A sc_law_stand fun f cdv Ar outer s H E hr => ?_
  have nd : (["cell", "salt", "many", "waits", "lefts", "number", "few", "k", "left", "calm", "quiet"] : List Str).Nodup := sc_law_stand.nd
  have tk := takes_of (X := cxOf (L2.CX P w) P w K mg base ["cell", "salt", "many", "waits", "lefts", "number", "few", "k", "left", "calm", "quiet"] "_law_stand" (defScope s_law_stand) f cdv Ar outer s H E) rfl rfl rfl rfl
  have pas := passes_of (X := cxOf (L2.CX P w) P w K mg base ["cell", "salt", "many", "waits", "lefts", "number", "few", "k", "left", "calm", "quiet"] "_law_stand" (defScope s_law_stand) f cdv Ar outer s H E) rfl
  exact (pssd_cons (psd_set 2 nd (pd_add pd_int (pd_mod (pd_v 0) pd_int)))
    (pssd_cons (psd_set 3 nd (pd_lst pad_nil))
    (pssd_cons (psd_set 4 nd (pd_lst pad_nil))
    (pssd_cons (psd_set 5 nd (pd_add (pd_mul (pd_mod (pd_v 0) (pd_pow pd_int pd_int)) pd_int) (pd_v 1)))
    (pssd_cons (psd_set 6 nd (pd_ixK hr (pd_lst (pad_cons pd_int (pad_cons pd_int (pad_cons (pd_pow pd_int pd_int) (pad_cons (pd_pow pd_int pd_int) pad_nil))))) (pd_mod (pd_fdiv (pd_v 0) pd_int) pd_int)))
    (pssd_cons (psd_for pas rfl (pid_range1 rfl b_range (pad_cons (pd_v 2) pad_nil)) (pgd_name 7 nd)
    ((pssd_cons (psd_set 5 nd (pd_mod (pd_add (pd_add (pd_mul (pd_v 5) (pd_v 5)) (pd_mul (pd_pow pd_int pd_int) (pd_v 7))) (pd_v 1)) (pd_add (pd_pow pd_int pd_int) pd_int)))
    (pssd_cons (psd_set 8 nd (pd_add pd_int (pd_mod (pd_fdiv (pd_v 5) pd_int) (pd_v 6))))
    (pssd_cons (psd_append 4 (pd_v 8))
    (pssd_one (psd_append 3 (pd_add (pd_v 8) (pd_ixK hr (pd_lst (pad_cons pd_int (pad_cons (pd_mod (pd_fdiv (pd_v 5) pd_int) (pd_pow pd_int pd_int)) pad_nil))) (pd_mod (pd_v 5) pd_int))))))))))
    (pssd_cons (psd_set 9 nd pd_non)
    (pssd_cons (psd_set 10 nd pd_int)
    (pssd_cons (psd_if (ptd_ne hr (pd_mod (pd_v 5) pd_int) pd_int)
    ((pssd_cons (psd_set 9 nd (pd_add pd_int (pd_mod (pd_fdiv (pd_v 5) pd_int) (pd_pow pd_int pd_int))))
    (pssd_one (psd_set 10 nd (pd_ixK hr (pd_lst (pad_cons pd_int (pad_cons (pd_mod (pd_fdiv (pd_v 5) pd_int) (pd_add (pd_v 9) pd_int)) pad_nil))) (pd_mod (pd_fdiv (pd_v 5) pd_int) pd_int))))))
    pssd_nil)
    (pssd_one (psd_ret (pd_tup (pad_cons (pd_tup (pad_cons (pd_tuple rfl b_tuple (pad_cons (pd_v 3) pad_nil)) (pad_cons (pd_v 9) pad_nil))) (pad_cons (pd_tup (pad_cons (pd_tuple rfl b_tuple (pad_cons (pd_v 4) pad_nil)) (pad_cons (pd_v 10) pad_nil))) pad_nil))))))))))))))
abbrev s_most_urgent : Stmt := topS 1
theorem sc_most_urgent : FnScope ["standing", "left"] ["standing"] (defScope s_most_urgent) := ⟨rfl, rfl, rfl, by decide +kernel, rfl, by decide +kernel, by decide +kernel⟩
theorem ok_most_urgent {P : Program} {w : World} {K : PySem.W.Frag} {mg : Str → Option Value} {base : Heap} (A : DefAt K mg "most_urgent" s_most_urgent ["standing"] [[]] w) (b_min : mg "min" = none) :
  FnD P w K mg base 1 "most_urgent" ["standing"] [[]] f_most_urgent := by
  refine fnD (N := ["standing", "left"]) (k := 0) g_most_urgent A sc_most_urgent fun f cdv Ar outer s H E hr => ?_
  have nd : (["standing", "left"] : List Str).Nodup := sc_most_urgent.nd
  have tk := takes_of (X := cxOf (L2.CX P w) P w K mg base ["standing", "left"] "most_urgent" (defScope s_most_urgent) f cdv Ar outer s H E) rfl rfl rfl rfl
  have pas := passes_of (X := cxOf (L2.CX P w) P w K mg base ["standing", "left"] "most_urgent" (defScope s_most_urgent) f cdv Ar outer s H E) rfl
  exact (pssd_cons (psd_set 1 nd (pd_ixK hr (pd_v 0) pd_int))
    (pssd_one (psd_ret (pd_indexT rfl (pd_v 1) (pd_min1G hr rfl rfl b_min (pad_cons (pd_v 1) pad_nil))))))
abbrev s_Caller_call : Stmt := (clsB (topS 2)).getD 0 (.Pass ⟨0, 0, 0, 0⟩)
theorem sc_Caller_call : FnScope ["self", "hall", "standing"] ["self", "hall", "standing"] (defScope s_Caller_call) := ⟨rfl, rfl, rfl, by decide +kernel, rfl, by decide +kernel, by decide +kernel⟩
theorem ok_Caller_call {P : Program} {w : World} {K : PySem.W.Frag} {mg : Str → Option Value} {base : Heap} (A : MethAt K mg "Caller" "call" "Caller.call" s_Caller_call ["self", "hall", "standing"]) (G_most_urgent : FnD P w K mg base 1 "most_urgent" ["standing"] [[]] f_most_urgent) :
  FnM P w K mg base 2 "Caller" "call" ["self", "hall", "standing"] f_Caller_call := by
  refine fnM (N := ["self", "hall", "standing"]) (k := 1) g_Caller_call A sc_Caller_call fun f cdv Ar outer s H E hr => ?_
  have nd : (["self", "hall", "standing"] : List Str).Nodup := sc_Caller_call.nd
  have tk := takes_of (X := cxOf (L2.CX P w) P w K mg base ["self", "hall", "standing"] "Caller.call" (defScope s_Caller_call) f cdv Ar outer s H E) rfl rfl rfl rfl
  have pas := passes_of (X := cxOf (L2.CX P w) P w K mg base ["self", "hall", "standing"] "Caller.call" (defScope s_Caller_call) f cdv Ar outer s H E) rfl
  exact (pssd_one (psd_ret (pd_call G_most_urgent (by simp) (hr.mono (by decide)) tk rfl (pad_cons (pd_v 2) pad_nil))))

abbrev s_Road_loses : Stmt := (clsB (topS 3)).getD 0 (.Pass ⟨0, 0, 0, 0⟩)
theorem sc_Road_loses : FnScope ["self", "hall", "standing", "who"] ["self", "hall", "standing", "who"] (defScope s_Road_loses) := ⟨rfl, rfl, rfl, by decide +kernel, rfl, by decide +kernel, by decide +kernel⟩
theorem ok_Road_loses {P : Program} {w : World} {K : PySem.W.Frag} {mg : Str → Option Value} {base : Heap} (A : MethAt K mg "Road" "loses" "Road.loses" s_Road_loses ["self", "hall", "standing", "who"]) :
  FnM P w K mg base 1 "Road" "loses" ["self", "hall", "standing", "who"] f_Road_loses := by
  refine fnM (N := ["self", "hall", "standing", "who"]) (k := 0) g_Road_loses A sc_Road_loses fun f cdv Ar outer s H E hr => ?_
  have nd : (["self", "hall", "standing", "who"] : List Str).Nodup := sc_Road_loses.nd
  have tk := takes_of (X := cxOf (L2.CX P w) P w K mg base ["self", "hall", "standing", "who"] "Road.loses" (defScope s_Road_loses) f cdv Ar outer s H E) rfl rfl rfl rfl
  have pas := passes_of (X := cxOf (L2.CX P w) P w K mg base ["self", "hall", "standing", "who"] "Road.loses" (defScope s_Road_loses) f cdv Ar outer s H E) rfl
  exact (pssd_one (psd_ret pd_bl))

abbrev s_law : Stmt := topS 8
theorem sc_law : FnScope ["script", "caller", "road", "cells", "k", "due", "found", "who", "hall", "standing"] ["script"] (defScope s_law) := ⟨rfl, rfl, rfl, by decide +kernel, rfl, by decide +kernel, by decide +kernel⟩
theorem ok_law {P : Program} {w : World} {K : PySem.W.Frag} {mg : Str → Option Value} {base : Heap} (A : DefAt K mg "law" s_law ["script"] [[]] w) (b_bool : mg "bool" = none) (b_int : mg "int" = none) (b_isinstance : mg "isinstance" = none) (b_len : mg "len" = none) (b_range : mg "range" = none) (G__law_cell_at : FnD P w K mg base 1 "_law_cell_at" ["script", "k"] [[]] f_law_cell_at) (G__law_least : FnD P w K mg base 1 "_law_least" ["lefts"] [[]] f_law_least) (G__law_stand : FnD P w K mg base 1 "_law_stand" ["cell", "salt"] [[]] f_law_stand) (T_call : TblOk P w K mg base 2 "call" tb_call) (T_loses : TblOk P w K mg base 1 "loses" tb_loses) (M0_Caller : Mk0At K mg "Caller") (M0_Road : Mk0At K mg "Road") :
  FnD P w K mg base 3 "law" ["script"] [[]] f_law := by
  refine fnD (N := ["script", "caller", "road", "cells", "k", "due", "found", "who", "hall", "standing"]) (k := 2) g_law A sc_law fun f cdv Ar outer s H E hr => ?_
  have nd : (["script", "caller", "road", "cells", "k", "due", "found", "who", "hall", "standing"] : List Str).Nodup := sc_law.nd
  have tk := takes_of (X := cxOf (L2.CX P w) P w K mg base ["script", "caller", "road", "cells", "k", "due", "found", "who", "hall", "standing"] "law" (defScope s_law) f cdv Ar outer s H E) rfl rfl rfl rfl
  have pas := passes_of (X := cxOf (L2.CX P w) P w K mg base ["script", "caller", "road", "cells", "k", "due", "found", "who", "hall", "standing"] "law" (defScope s_law) f cdv Ar outer s H E) rfl
  exact (pssd_cons (psd_set 1 nd (pd_make00 M0_Caller rfl))
    (pssd_cons (psd_set 2 nd (pd_make00 M0_Road rfl))
    (pssd_cons (psd_set 3 nd (pd_add (pd_sl (pd_v 0) (pod_some pd_int) (pod_some pd_int)) (pd_lst (pad_cons (pd_call G__law_cell_at (by simp) (hr.mono (by decide)) tk rfl (pad_cons (pd_v 0) (pad_cons pd_int pad_nil))) pad_nil))))
    (pssd_cons (psd_for pas rfl (pid_range1 rfl b_range (pad_cons (pd_len rfl b_len (pad_cons (pd_v 3) pad_nil)) pad_nil)) (pgd_name 4 nd)
    ((pssd_cons (psd_asg (pgd_tup rfl (pgsd_cons (pgd_name 8 nd) (pgsd_cons (pgd_name 9 nd) pgsd_nil)) (gs_len (gs_len gs_len0))) (pd_call G__law_stand (by simp) (hr.mono (by decide)) tk rfl (pad_cons (pd_ixK hr (pd_v 3) (pd_v 4)) (pad_cons (pd_add (pd_mod (pd_call G__law_cell_at (by simp) (hr.mono (by decide)) tk rfl (pad_cons (pd_v 0) (pad_cons pd_int pad_nil))) pd_int) (pd_v 4)) pad_nil))))
    (pssd_cons (psd_set 5 nd (pd_call G__law_least (by simp) (hr.mono (by decide)) tk rfl (pad_cons (pd_ixK hr (pd_v 9) pd_int) pad_nil)))
    (pssd_cons (psd_set 6 nd (pd_meth T_call (hr.mono (by decide)) tk (pd_v 1) (pad_cons (pd_v 8) (pad_cons (pd_v 9) pad_nil))))
    (pssd_cons (psd_if (ptd_w (pwd_or (ptd_not (ptd_val (pd_isi_int rfl b_isinstance rfl b_int (pd_v 6)))) (pwd_or (ptd_val (pd_isi_bool rfl b_isinstance rfl b_bool (pd_v 6))) (pwd_or1 (ptd_ne hr (pd_v 6) (pd_v 5))))))
    ((pssd_one (psd_ret pd_bl)))
    pssd_nil)
    (pssd_cons (psd_set 7 nd (pd_mod (pd_fdiv (pd_ixK hr (pd_v 3) (pd_v 4)) pd_int) (pd_len rfl b_len (pad_cons (pd_ixK hr (pd_v 8) pd_int) pad_nil))))
    (pssd_cons (psd_if (ptd_isnB (pd_meth T_loses (hr.mono (by decide)) tk (pd_v 2) (pad_cons (pd_v 8) (pad_cons (pd_v 9) (pad_cons (pd_v 7) pad_nil)))) pd_bl)
    ((pssd_one (psd_ret pd_bl)))
    pssd_nil)
    (pssd_cons (psd_if (ptd_isnB (pd_meth T_loses (hr.mono (by decide)) tk (pd_v 2) (pad_cons (pd_v 8) (pad_cons (pd_v 9) (pad_cons (pd_v 5) pad_nil)))) pd_bl)
    ((pssd_one (psd_ret pd_bl)))
    pssd_nil)
    (pssd_cons (psd_if (ptd_w (pwd_and (ptd_eq hr (pd_mod (pd_v 4) pd_int) pd_int) (pwd_and1 (ptd_ne hr (pd_meth T_call (hr.mono (by decide)) tk (pd_make00 M0_Caller rfl) (pad_cons (pd_v 8) (pad_cons (pd_v 9) pad_nil))) (pd_v 5)))))
    ((pssd_one (psd_ret pd_bl)))
    pssd_nil)
    (pssd_one (psd_if (ptd_w (pwd_and (ptd_eq hr (pd_mod (pd_v 4) pd_int) pd_int) (pwd_and1 (ptd_isnB (pd_meth T_loses (hr.mono (by decide)) tk (pd_make00 M0_Road rfl) (pad_cons (pd_v 8) (pad_cons (pd_v 9) (pad_cons (pd_v 5) pad_nil)))) pd_bl))))
    ((pssd_one (psd_ret pd_bl)))
    pssd_nil))))))))))))
    (pssd_one (psd_ret pd_bl))))))
end K71

namespace K71
open PySem PySem.Spec PyProof.Rows L2 Dl Sh
set_option maxHeartbeats 0
def d_law_cell_at : He.DefD := ⟨("_law_cell_at", none), "_law_cell_at", "_law_cell_at", defArgs s_law_cell_at, defBody s_law_cell_at, defScope s_law_cell_at, [], []⟩
def d_law_least : He.DefD := ⟨("_law_least", none), "_law_least", "_law_least", defArgs s_law_least, defBody s_law_least, defScope s_law_least, [], []⟩
def d_law_stand : He.DefD := ⟨("_law_stand", none), "_law_stand", "_law_stand", defArgs s_law_stand, defBody s_law_stand, defScope s_law_stand, [], []⟩
def d_most_urgent : He.DefD := ⟨("most_urgent", none), "most_urgent", "most_urgent", defArgs s_most_urgent, defBody s_most_urgent, defScope s_most_urgent, [], []⟩
def d_Caller_call : He.DefD := ⟨("Caller", some "call"), "call", "Caller.call", defArgs s_Caller_call, defBody s_Caller_call, defScope s_Caller_call, [], []⟩
def d_Road_loses : He.DefD := ⟨("Road", some "loses"), "loses", "Road.loses", defArgs s_Road_loses, defBody s_Road_loses, defScope s_Road_loses, [], []⟩
def d_law : He.DefD := ⟨("law", none), "law", "law", defArgs s_law, defBody s_law, defScope s_law, [], []⟩
def fn : List He.DefD := [d_law_cell_at, d_law_least, d_law_stand, d_most_urgent, d_Caller_call, d_Road_loses, d_law]
def fa : List He.Fa := [.glo "_law_cell_at", .glo "_law_least", .glo "_law_stand", .glo "most_urgent", .glo "Caller", .glo "Road", .glo "law", .free "bool", .free "int", .free "isinstance", .free "len", .free "min", .free "range", .free "tuple", .glo "Caller", .cls "Caller", .glo "Road", .cls "Road", .meth "Caller" "call", .meth "Road" "loses"]
abbrev Rr : PySem.W.OpenRow := PySem.W.OpenLaw.row PySem.Challenge.rw_roundcall_k71_plain_players
def es : List PySem.Str := []
def c0l : List Str := ["Caller", "Road"]
def isl : List (Str × List (Str × Bool)) := []
abbrev hk : PySem.W.Hook := hookY 4 es c0l isl fa fn
def ob (s : PySem.W.SharedT) : AlX := obsYG 4 es c0l isl fa fn (HandSHeadRun.getT s)
theorem ob_eq (s : PySem.W.SharedT) : ob s = hk.obs s.abs := obsYG_eq (HandSHeadRun.getT_eq s)
def loose : List PySem.Str := [("most_urgent" : PySem.Str), ("Caller" : PySem.Str), ("Road" : PySem.Str), ("_law_cell_at" : PySem.Str), ("_law_stand" : PySem.Str), ("_law_least" : PySem.Str)]
theorem run (w : World) : HandSHeadRun.RunEq Rr (PySem.W.view Rr.prog [8]) hk ob 4000 loose w := by
  intro os
  kernel_rfl
section
variable {P : Program} {w : World} {K : PySem.W.Frag} {h : Heap} {mg : Str → Option Value}
theorem at_law_cell_at (X : K.In h) (G : h.Ns mainGlobals mg) (c : He.SaysD fa fn K) : DefAt K mg "_law_cell_at" s_law_cell_at ["script", "k"] [[]] w := by
  obtain ⟨fd, F⟩ := c.def_ 0 (d := d_law_cell_at) rfl
  refine ⟨_, fd, _, He.glo_ok X G (c.fact 0 (f := .glo "_law_cell_at") rfl), F, fun dfl hd => ?_⟩
  cases List.mem_singleton.mp hd
  exact ⟨[], [], FunD.bindsN (ps := ["script", "k"]) F fun _ _ _ _ _ _ us hl => match us, hl with | [_, _], _ => rfl, .nil, fun _ => .nil⟩
theorem at_law_least (X : K.In h) (G : h.Ns mainGlobals mg) (c : He.SaysD fa fn K) : DefAt K mg "_law_least" s_law_least ["lefts"] [[]] w := by
  obtain ⟨fd, F⟩ := c.def_ 1 (d := d_law_least) rfl
  refine ⟨_, fd, _, He.glo_ok X G (c.fact 1 (f := .glo "_law_least") rfl), F, fun dfl hd => ?_⟩
  cases List.mem_singleton.mp hd
  exact ⟨[], [], FunD.bindsN (ps := ["lefts"]) F fun _ _ _ _ _ _ us hl => match us, hl with | [_], _ => rfl, .nil, fun _ => .nil⟩
theorem at_law_stand (X : K.In h) (G : h.Ns mainGlobals mg) (c : He.SaysD fa fn K) : DefAt K mg "_law_stand" s_law_stand ["cell", "salt"] [[]] w := by
  obtain ⟨fd, F⟩ := c.def_ 2 (d := d_law_stand) rfl
  refine ⟨_, fd, _, He.glo_ok X G (c.fact 2 (f := .glo "_law_stand") rfl), F, fun dfl hd => ?_⟩
  cases List.mem_singleton.mp hd
  exact ⟨[], [], FunD.bindsN (ps := ["cell", "salt"]) F fun _ _ _ _ _ _ us hl => match us, hl with | [_, _], _ => rfl, .nil, fun _ => .nil⟩
theorem at_most_urgent (X : K.In h) (G : h.Ns mainGlobals mg) (c : He.SaysD fa fn K) : DefAt K mg "most_urgent" s_most_urgent ["standing"] [[]] w := by
  obtain ⟨fd, F⟩ := c.def_ 3 (d := d_most_urgent) rfl
  refine ⟨_, fd, _, He.glo_ok X G (c.fact 3 (f := .glo "most_urgent") rfl), F, fun dfl hd => ?_⟩
  cases List.mem_singleton.mp hd
  exact ⟨[], [], FunD.bindsN (ps := ["standing"]) F fun _ _ _ _ _ _ us hl => match us, hl with | [_], _ => rfl, .nil, fun _ => .nil⟩
theorem at_Caller_call (X : K.In h) (G : h.Ns mainGlobals mg) (c : He.SaysD fa fn K) : MethAt K mg "Caller" "call" "Caller.call" s_Caller_call ["self", "hall", "standing"] := by
  obtain ⟨fd, F⟩ := c.def_ 4 (d := d_Caller_call) rfl
  exact ⟨_, _, fd, He.glo_ok X G (c.fact 14 (f := .glo "Caller") rfl), He.cls_ok (c.fact 15 (f := .cls "Caller") rfl), He.meth_ok (c.fact 18 (f := .meth "Caller" "call") rfl), F, FunD.bindsN (ps := ["self", "hall", "standing"]) F fun _ _ _ _ _ _ us hl => match us, hl with | [_, _, _], _ => rfl⟩
theorem at_Road_loses (X : K.In h) (G : h.Ns mainGlobals mg) (c : He.SaysD fa fn K) : MethAt K mg "Road" "loses" "Road.loses" s_Road_loses ["self", "hall", "standing", "who"] := by
  obtain ⟨fd, F⟩ := c.def_ 5 (d := d_Road_loses) rfl
  exact ⟨_, _, fd, He.glo_ok X G (c.fact 16 (f := .glo "Road") rfl), He.cls_ok (c.fact 17 (f := .cls "Road") rfl), He.meth_ok (c.fact 19 (f := .meth "Road" "loses") rfl), F, FunD.bindsN (ps := ["self", "hall", "standing", "who"]) F fun _ _ _ _ _ _ us hl => match us, hl with | [_, _, _, _], _ => rfl⟩
theorem at_law (X : K.In h) (G : h.Ns mainGlobals mg) (c : He.SaysD fa fn K) : DefAt K mg "law" s_law ["script"] [[]] w := by
  obtain ⟨fd, F⟩ := c.def_ 6 (d := d_law) rfl
  refine ⟨_, fd, _, He.glo_ok X G (c.fact 6 (f := .glo "law") rfl), F, fun dfl hd => ?_⟩
  cases List.mem_singleton.mp hd
  exact ⟨[], [], FunD.bindsN (ps := ["script"]) F fun _ _ _ _ _ _ us hl => match us, hl with | [_], _ => rfl, .nil, fun _ => .nil⟩
end
theorem facts {w : World} {K : PySem.W.Frag} {h : Heap} {mg : Str → Option Value} {f : Addr} (X : K.In h) (G : h.Ns mainGlobals mg) (hfa : mg ("law" : Str) = some (.ref f)) (cX : obsY es c0l isl fa fn K = (true, He.valD fn)) :
    ∃ fd : FuncData, (∀ (s : Shared) (v : Value), BindsTo s fd ⟨[v], []⟩ [("script", v)]) ∧ ∀ base : Heap, K.In base → base.Ns mainGlobals mg → FnOk PySem.Challenge.pw_roundcall_k71_plain_players w K mg base (L2.CX PySem.Challenge.pw_roundcall_k71_plain_players w) 3 f fd ["script"] (spD w K mg 1 f_law) := by
  obtain ⟨cE, cC, c⟩ := saysY cX
  have M0_Caller : Mk0At K mg "Caller" := mk0B_ok X G (exC_0 cC (by decide))
  have M0_Road : Mk0At K mg "Road" := mk0B_ok X G (exC_0 cC (by decide))
  have AL := at_law (w := w) X G c
  obtain ⟨fd0, F0⟩ := c.def_ 6 (d := d_law) rfl
  have e := hfa.symm.trans (He.glo_ok X G (c.fact 6 (f := .glo "law") rfl))
  cases e
  have b := FunD.bindsA (ps := ["script"]) F0 fun _ _ _ _ _ _ us hl => match us, hl with | [_], _ => rfl
  refine ⟨fd0, fun s v => b s [v] rfl, fun base _ _ => ?_⟩
  have b_bool : mg "bool" = none := He.free_ok X G (c.fact 7 (f := .free "bool") rfl)
  have b_int : mg "int" = none := He.free_ok X G (c.fact 8 (f := .free "int") rfl)
  have b_isinstance : mg "isinstance" = none := He.free_ok X G (c.fact 9 (f := .free "isinstance") rfl)
  have b_len : mg "len" = none := He.free_ok X G (c.fact 10 (f := .free "len") rfl)
  have b_min : mg "min" = none := He.free_ok X G (c.fact 11 (f := .free "min") rfl)
  have b_range : mg "range" = none := He.free_ok X G (c.fact 12 (f := .free "range") rfl)
  have b_tuple : mg "tuple" = none := He.free_ok X G (c.fact 13 (f := .free "tuple") rfl)
  have G__law_cell_at := ok_law_cell_at (P := PySem.Challenge.pw_roundcall_k71_plain_players) (base := base) (at_law_cell_at (w := w) X G c) b_len
  have G__law_least := ok_law_least (P := PySem.Challenge.pw_roundcall_k71_plain_players) (base := base) (at_law_least (w := w) X G c) b_len b_range
  have G__law_stand := ok_law_stand (P := PySem.Challenge.pw_roundcall_k71_plain_players) (base := base) (at_law_stand (w := w) X G c) b_range b_tuple
  have G_most_urgent := ok_most_urgent (P := PySem.Challenge.pw_roundcall_k71_plain_players) (base := base) (at_most_urgent (w := w) X G c) b_min
  have N_Caller_call := ok_Caller_call (P := PySem.Challenge.pw_roundcall_k71_plain_players) (w := w) (base := base) (at_Caller_call X G c) G_most_urgent
  have T_call : TblOk PySem.Challenge.pw_roundcall_k71_plain_players w K mg base 2 "call" tb_call := tbl_cons (N_Caller_call.up (by decide)) (tbl_nil)
  have N_Road_loses := ok_Road_loses (P := PySem.Challenge.pw_roundcall_k71_plain_players) (w := w) (base := base) (at_Road_loses X G c)
  have T_loses : TblOk PySem.Challenge.pw_roundcall_k71_plain_players w K mg base 1 "loses" tb_loses := tbl_cons (N_Road_loses.up (by decide)) (tbl_nil)
  have G_law := ok_law (P := PySem.Challenge.pw_roundcall_k71_plain_players) (base := base) (at_law (w := w) X G c) b_bool b_int b_isinstance b_len b_range G__law_cell_at G__law_least G__law_stand T_call T_loses M0_Caller M0_Road
  obtain ⟨f1, fd1, h1, h2, h3, _, _, hl⟩ := G_law
  have e1 := h1.symm.trans (He.glo_ok X G (c.fact 6 (f := .glo "law") rfl))
  cases e1
  exact fnOk_fd F0 h3 hl
end K71
open PySem PySem.W PySem.Calls PyProof.Rows
set_option maxRecDepth 100000 in
set_option maxHeartbeats 0 in
theorem PySem.Challenge.cw_roundcall_k71_plain_players_holds : PySem.Challenge.rw_roundcall_k71_plain_players.Holds := by
  w_on; o_law
  refine HandSHeadRun.head_any (r := OpenLaw.row PySem.Challenge.rw_roundcall_k71_plain_players) (q := view (OpenLaw.row PySem.Challenge.rw_roundcall_k71_plain_players).prog [8]) (H := K71.hk) (ob := K71.ob) (M := 4000) (loose := K71.loose) (d := HandSHeadRun.topDef (OpenLaw.row PySem.Challenge.rw_roundcall_k71_plain_players).prog 8) (kwd := []) K71.ob_eq
    (by kernel_rfl) (fun s => by kernel_rfl) K71.run (by kernel_rfl) (by kernel_rfl) (by kernel_rfl) (by rfl) (by first | assumption | decide +kernel) (by decide +kernel) ⟨rfl, rfl, rfl, rfl, rfl, by decide +kernel⟩ ?hw ?hc
  case hw => w_witness2
  case hc =>
    refine Dl.walk_ofEB (l := PySem.Challenge.rw_roundcall_k71_plain_players) (n := 63) (k := 3) (x := "script") (F := K71.f_law) rfl (by decide) (by kernel_rfl) ⟨rfl, by decide, by decide⟩ ?F K71.law_true
    intro w mg fa h Y G hmg0
    obtain ⟨K, KX, c⟩ := Y
    have hmg : mg ("law" : PySem.Str) = some (.ref fa) := by
      have e : (HandSHeadRun.topDef (OpenLaw.row PySem.Challenge.rw_roundcall_k71_plain_players).prog 8).name = ("law" : PySem.Str) := by kernel_rfl
      rw [← e]
      exact hmg0
    obtain ⟨fd, hb, hF⟩ := K71.facts (w := w) KX G hmg c
    exact ⟨K, fd, KX, hb, hF⟩
