import PyProof.Rows.All
import PySem.Challenge.RW_registerrooms_k06_whole_alike
import HandS.ForMost
import HandS.Exc
import HandS.Slots
import HandS.SlotsOwn
import HandS.Star
import HandS.Deep
import HandS.TupAny
import HandS.TupMul
import HandS.Codes
import HandS.Wide
import HandS.Style
import HandS.Conv
import KE.KDictKeyed
import HandS.IsInst
import HandS.DictComp
import KE.KDictWalk
import KE.GoesMore
import KE.KDictPairs
import HandS.TupLen
import HandS.IterVal
import KE.KOwnIter
import HandS.Defaults
import HandS.MakeKw
import HandS.MakeKwOnly
import KE.KSuper
import KE.GoesCell
import HandS.Head0
import HandS.Head1
import HandS.Head2
import HandS.HeadEnd
import HandS.HeadHook1
import HandS.HeadHook2
import HandS.HeadHook3
set_option Elab.async false
set_option linter.all false
set_option maxRecDepth 100000
set_option maxHeartbeats 4000000
/-! registerrooms: the data layer. D: data by value; R: how a value of the abstract heap bears a datum; Wp: what a def does, as a specification. -/
namespace Rr
open PySem PySem.Spec PyProof.Rows L2

/-! ### data -/
inductive D where
  | non | bl (b : Bool) | int (i : Int) | str (x : Str)
  | tup (ds : List D) | lst (ds : List D)
  | dct (ks vs : List D)
  | prg (m : Int) (bs : D) (h s : Int)
  | sam (ds : List D) | par (h : D) (is : List D)
  | drw
noncomputable instance instDecD : DecidableEq D := fun _ _ => Classical.propDecidable _

mutual
/-- data that may be compared: no truth values, no objects within -/
def D.cl : D → Bool
  | .non => true
  | .int _ => true
  | .str x => PyData.canLay0 (.str x)
  | .tup ds => D.cls ds
  | .lst ds => D.cls ds
  | .bl _ | .dct _ _ | .prg _ _ _ _ | .sam _ | .par _ _ | .drw => false
def D.cls : List D → Bool
  | [] => true
  | d :: ds => D.cl d && D.cls ds
end
mutual
def D.py : D → PyData
  | .non => .none
  | .bl b => .bool b
  | .int i => .int i
  | .str x => .str x
  | .tup ds => .tuple (D.pys ds)
  | .lst ds => .list (D.pys ds)
  | .dct _ _ | .prg _ _ _ _ | .sam _ | .par _ _ | .drw => .none
def D.pys : List D → List PyData
  | [] => []
  | d :: ds => D.py d :: D.pys ds
end
mutual
/-- how deep -/
def D.dep : D → Nat
  | .tup ds => D.deps ds + 1
  | .lst ds => D.deps ds + 1
  | .non | .bl _ | .int _ | .str _ | .dct _ _ | .prg _ _ _ _ | .sam _ | .par _ _ | .drw => 0
def D.deps : List D → Nat
  | [] => 0
  | d :: ds => max (D.dep d) (D.deps ds)
end
mutual
/-- data that may be a key: tuples, numbers, texts, None -/
def D.kb : D → Bool
  | .non => true
  | .int _ => true
  | .str _ => true
  | .tup ds => D.kbs ds
  | .bl _ | .lst _ | .dct _ _ | .prg _ _ _ _ | .sam _ | .par _ _ | .drw => false
def D.kbs : List D → Bool
  | [] => true
  | d :: ds => D.kb d && D.kbs ds
end
mutual
def D.key : D → NestedKey
  | .non => .none
  | .int i => .num i
  | .str x => .text x
  | .tup ds => .tup (D.keys ds)
  | .bl _ | .lst _ | .dct _ _ | .prg _ _ _ _ | .sam _ | .par _ _ | .drw => .none
def D.keys : List D → List NestedKey
  | [] => []
  | d :: ds => D.key d :: D.keys ds
end
theorem D.keys_map (ds : List D) : D.keys ds = ds.map D.key := by
  induction ds with
  | nil => rfl
  | cons d ds ih => simp [D.keys, ih]
theorem D.kbs_all (ds : List D) : D.kbs ds = ds.all D.kb := by
  induction ds with
  | nil => rfl
  | cons d ds ih => simp [D.kbs, ih]
theorem D.cls_all (ds : List D) : D.cls ds = ds.all D.cl := by
  induction ds with
  | nil => rfl
  | cons d ds ih => simp [D.cls, ih]
theorem D.pys_map (ds : List D) : D.pys ds = ds.map D.py := by
  induction ds with
  | nil => rfl
  | cons d ds ih => simp [D.pys, ih]
mutual
theorem D.key_inj : ∀ {a b : D}, D.kb a = true → D.kb b = true → D.key a = D.key b → a = b
  | .non, b, _, hb, h => by cases b <;> simp_all [D.key, D.kb]
  | .int i, b, _, hb, h => by cases b <;> simp_all [D.key, D.kb]
  | .str x, b, _, hb, h => by cases b <;> simp_all [D.key, D.kb]
  | .tup ds, b, ha, hb, h => by
    cases b with
    | tup es =>
      simp only [D.key, NestedKey.tup.injEq] at h
      simp only [D.kb] at ha hb
      rw [D.keys_inj ha hb h]
    | _ => simp_all [D.key, D.kb]
  | .bl _, _, ha, _, _ => by simp [D.kb] at ha
  | .lst _, _, ha, _, _ => by simp [D.kb] at ha
  | .dct _ _, _, ha, _, _ => by simp [D.kb] at ha
  | .prg _ _ _ _, _, ha, _, _ => by simp [D.kb] at ha
  | .sam _, _, ha, _, _ => by simp [D.kb] at ha
  | .par _ _, _, ha, _, _ => by simp [D.kb] at ha
  | .drw, _, ha, _, _ => by simp [D.kb] at ha
theorem D.keys_inj : ∀ {as bs : List D}, D.kbs as = true → D.kbs bs = true → D.keys as = D.keys bs → as = bs
  | [], [], _, _, _ => rfl
  | [], b :: bs, _, _, h => by simp [D.keys] at h
  | a :: as, [], _, _, h => by simp [D.keys] at h
  | a :: as, b :: bs, ha, hb, h => by
    simp only [D.keys, List.cons.injEq] at h
    simp only [D.kbs, Bool.and_eq_true] at ha hb
    rw [D.key_inj ha.1 hb.1 h.1, D.keys_inj ha.2 hb.2 h.2]
end
theorem D.key_eq {a b : D} (ha : D.kb a = true) (hb : D.kb b = true) : D.key a = D.key b ↔ a = b := ⟨D.key_inj ha hb, fun h => by rw [h]⟩
mutual
theorem D.eqv_cl : ∀ a b : D, D.cl a = true → D.cl b = true → (PyData.eqv a.py b.py = true ↔ a = b)
  | .non, b, _, hb => by cases b <;> simp_all [D.py, D.cl, PyData.eqv]
  | .int i, b, _, hb => by cases b <;> simp_all [D.py, D.cl, PyData.eqv]
  | .str x, b, _, hb => by cases b <;> simp_all [D.py, D.cl, PyData.eqv]
  | .tup ds, b, ha, hb => by
    cases b with
    | tup es =>
      simp only [D.cl] at ha hb
      simp only [D.py, PyData.eqv, D.tup.injEq]
      exact D.eqv_cls ds es ha hb
    | _ => simp_all [D.py, D.cl, PyData.eqv]
  | .lst ds, b, ha, hb => by
    cases b with
    | lst es =>
      simp only [D.cl] at ha hb
      simp only [D.py, PyData.eqv, D.lst.injEq]
      exact D.eqv_cls ds es ha hb
    | _ => simp_all [D.py, D.cl, PyData.eqv]
  | .bl _, _, ha, _ => by simp [D.cl] at ha
  | .dct _ _, _, ha, _ => by simp [D.cl] at ha
  | .prg _ _ _ _, _, ha, _ => by simp [D.cl] at ha
  | .sam _, _, ha, _ => by simp [D.cl] at ha
  | .par _ _, _, ha, _ => by simp [D.cl] at ha
  | .drw, _, ha, _ => by simp [D.cl] at ha
theorem D.eqv_cls : ∀ as bs : List D, D.cls as = true → D.cls bs = true → (PyData.eqvAll (D.pys as) (D.pys bs) = true ↔ as = bs)
  | [], [], _, _ => by simp [D.pys, PyData.eqvAll]
  | [], b :: bs, _, _ => by simp [D.pys, PyData.eqvAll]
  | a :: as, [], _, _ => by simp [D.pys, PyData.eqvAll]
  | a :: as, b :: bs, ha, hb => by
    simp only [D.cls, Bool.and_eq_true] at ha hb
    simp only [D.pys, PyData.eqvAll, Bool.and_eq_true, List.cons.injEq]
    rw [D.eqv_cl a b ha.1 hb.1, D.eqv_cls as bs ha.2 hb.2]
end
theorem D.eqv_dec {a b : D} (ha : D.cl a = true) (hb : D.cl b = true) : PyData.eqv a.py b.py = decide (a = b) := by
  rw [Bool.eq_iff_iff, D.eqv_cl a b ha hb, decide_eq_true_eq]
mutual
theorem D.lay_cl : ∀ a : D, D.cl a = true → a.py.canLay0 = true
  | .non, _ => rfl
  | .int _, _ => rfl
  | .str x, h => by simpa [D.cl, D.py] using h
  | .tup ds, h => by simp only [D.py, PyData.canLay0]; exact D.lay_cls ds (by simpa [D.cl] using h)
  | .lst ds, h => by simp only [D.py, PyData.canLay0]; exact D.lay_cls ds (by simpa [D.cl] using h)
  | .bl _, h => by simp [D.cl] at h
  | .dct _ _, h => by simp [D.cl] at h
  | .prg _ _ _ _, h => by simp [D.cl] at h
  | .sam _, h => by simp [D.cl] at h
  | .par _ _, h => by simp [D.cl] at h
  | .drw, h => by simp [D.cl] at h
theorem D.lay_cls : ∀ as : List D, D.cls as = true → PyData.canLayAll0 (D.pys as) = true
  | [], _ => rfl
  | a :: as, h => by
    simp only [D.cls, Bool.and_eq_true] at h
    simp only [D.pys, PyData.canLayAll0, Bool.and_eq_true]
    exact ⟨D.lay_cl a h.1, D.lay_cls as h.2⟩
end
mutual
theorem D.dep_py : ∀ a : D, a.py.depth = D.dep a
  | .non | .bl _ | .int _ | .str _ | .dct _ _ | .prg _ _ _ _ | .sam _ | .par _ _ | .drw => by simp [D.py, PyData.depth, D.dep]
  | .tup ds => by simp only [D.py, PyData.depth, D.dep]; rw [D.deps_py ds]
  | .lst ds => by simp only [D.py, PyData.depth, D.dep]; rw [D.deps_py ds]
theorem D.deps_py : ∀ as : List D, PyData.depthAll (D.pys as) = D.deps as
  | [] => by simp [D.pys, PyData.depthAll, D.deps]
  | a :: as => by simp only [D.pys, PyData.depthAll, D.deps]; rw [D.dep_py a, D.deps_py as]
end
mutual
theorem D.dep_key : ∀ a : D, D.kb a = true → a.key.depth = D.dep a
  | .non, _ => by simp [D.key, NestedKey.depth, D.dep]
  | .int _, _ => by simp [D.key, NestedKey.depth, D.dep]
  | .str _, _ => by simp [D.key, NestedKey.depth, D.dep]
  | .tup ds, h => by simp only [D.key, NestedKey.depth, D.dep]; rw [D.deps_key ds (by simpa [D.kb] using h)]
  | .bl _, h => by simp [D.kb] at h
  | .lst _, h => by simp [D.kb] at h
  | .dct _ _, h => by simp [D.kb] at h
  | .prg _ _ _ _, h => by simp [D.kb] at h
  | .sam _, h => by simp [D.kb] at h
  | .par _ _, h => by simp [D.kb] at h
  | .drw, h => by simp [D.kb] at h
theorem D.deps_key : ∀ as : List D, D.kbs as = true → NestedKey.depthAll (D.keys as) = D.deps as
  | [], _ => by simp [D.keys, NestedKey.depthAll, D.deps]
  | a :: as, h => by
    simp only [D.kbs, Bool.and_eq_true] at h
    simp only [D.keys, NestedKey.depthAll, D.deps]; rw [D.dep_key a h.1, D.deps_key as h.2]
end
end Rr
/-! registerrooms: values that bear data, the specification monad, environments. -/
namespace Rr
open PySem PySem.Spec PyProof.Rows L2

/-! ### what a piece of code does: a monotone predicate transformer -/
structure Wp (α : Type) where
  run : (α → Prop) → Prop
  mono : ∀ {K K' : α → Prop}, (∀ a, K a → K' a) → run K → run K'
theorem Wp.ext {α : Type} {m n : Wp α} (h : ∀ K, m.run K ↔ n.run K) : m = n := by
  cases m with
  | mk r1 m1 =>
    cases n with
    | mk r2 m2 =>
      have e : r1 = r2 := funext fun K => propext (h K)
      subst e
      rfl
namespace Wp
variable {α β γ : Type}
def ret (a : α) : Wp α := ⟨fun K => K a, fun h => h a⟩
def bind (m : Wp α) (f : α → Wp β) : Wp β := ⟨fun K => m.run fun a => (f a).run K, fun h => m.mono fun a => (f a).mono h⟩
def fail : Wp α := ⟨fun _ => False, fun _ h => h⟩
/-- a value that is there -/
def opt (o : Option α) : Wp α := ⟨fun K => ∃ a, o = some a ∧ K a, fun h ⟨a, e, k⟩ => ⟨a, e, h a k⟩⟩
/-- any value with p -/
def any (p : α → Prop) : Wp α := ⟨fun K => ∀ a, p a → K a, fun h k a q => h a (k a q)⟩
/-- c must be so -/
def chk (c : Prop) (m : Wp α) : Wp α := ⟨fun K => c ∧ m.run K, fun h ⟨x, k⟩ => ⟨x, m.mono h k⟩⟩
@[simp] theorem run_ret (a : α) (K : α → Prop) : (ret a).run K = K a := rfl
@[simp] theorem run_bind (m : Wp α) (f : α → Wp β) (K : β → Prop) : (bind m f).run K = m.run fun a => (f a).run K := rfl
@[simp] theorem run_fail (K : α → Prop) : (fail : Wp α).run K = False := rfl
@[simp] theorem run_opt (o : Option α) (K : α → Prop) : (opt o).run K = ∃ a, o = some a ∧ K a := rfl
@[simp] theorem run_any (p : α → Prop) (K : α → Prop) : (any p).run K = ∀ a, p a → K a := rfl
@[simp] theorem run_chk (c : Prop) (m : Wp α) (K : α → Prop) : (chk c m).run K = (c ∧ m.run K) := rfl
@[simp] theorem ret_bind (a : α) (f : α → Wp β) : bind (ret a) f = f a := rfl
@[simp] theorem bind_ret (m : Wp α) : bind m ret = m := rfl
@[simp] theorem bind_bind (m : Wp α) (f : α → Wp β) (g : β → Wp γ) : bind (bind m f) g = bind m fun a => bind (f a) g := rfl
@[simp] theorem fail_bind (f : α → Wp β) : bind fail f = fail := rfl
@[simp] theorem opt_some (a : α) : opt (some a) = ret a := ext fun K => by simp
@[simp] theorem opt_none : opt (none : Option α) = fail := ext fun K => by simp
@[simp] theorem chk_bind (c : Prop) (m : Wp α) (f : α → Wp β) : bind (chk c m) f = chk c (bind m f) := rfl
@[simp] theorem chk_true (m : Wp α) : chk True m = m := ext fun K => by simp
theorem chk_of {c : Prop} (h : c) (m : Wp α) : chk c m = m := ext fun K => by simp [h]
end Wp

/-! ### dicts whose keys are tuples, nested -/
abbrev DE := NestedKey × Addr × V
/-- what is true of the object o of a dict at a with the entries es: by key, the key's own address, value -/
structure DctF (P : Program) (w : World) (a : Addr) (es : List DE) (o : Obj) : Prop where
  ns : (a == sysModules) = false
  sz : es.length ≤ sizeLine
  ex : ∃ xs : List (NestedKey × Addr × Value), Paired (fun (p : DE) (q : NestedKey × Addr × Value) => p.1 = q.1 ∧ p.2.1 = q.2.1 ∧ RelV p.2.2 q.2.2) es xs ∧
    ∃ ds ep, o.ExactDict ∧ o.data = .dict ds ep ∧ ds.toList = xs.map (entryOfKey (nestedKind P w)) ∧ (xs.map (·.1)).Nodup
def DctO (P : Program) (w : World) (a : Addr) (es : List DE) (o : Obj) : HO := .ext fun h => h.get? a = some o ∧ DctF P w a es o

/-! ### values that bear data -/
/-- the classes of the program: Program, Same, Parted -/
structure Cs where
  cP : Addr
  cS : Addr
  cT : Addr
structure Ctx where
  P : Program
  w : World
  K : PySem.W.Frag
  cs : Cs
mutual
/-- v is the datum, in the heap G; dr: where the law's draws stand -/
inductive R (c : Ctx) (dr : Addr) (G : Hp) : V → D → Prop
  | non : R c dr G .non .non
  | bl (b : Bool) : R c dr G (.bl b) (.bl b)
  | int (i : Int) : R c dr G (.int i) (.int i)
  | str (x : Str) : R c dr G (.str x) (.str x)
  | tup {a : Addr} {xs : List V} {ds : List D} : G a = some (.tup xs) → Rs c dr G xs ds → R c dr G (.ref a) (.tup ds)
  | lst {a : Addr} {xs : List V} {ds : List D} : G a = some (.lst xs) → Rs c dr G xs ds → R c dr G (.ref a) (.lst ds)
  | dct {a : Addr} {es : List DE} {o : Obj} {ks vs : List D} : G a = some (DctO c.P c.w a es o) → es.map (·.1) = ks.map D.key → D.kbs ks = true → D.deps ks ≤ 8 →
      Rs c dr G (es.map fun e => V.ref e.2.1) ks → Rs c dr G (es.map fun e => e.2.2) vs → R c dr G (.ref a) (.dct ks vs)
  | prg {a dx : Addr} {sl : List (Option V)} {vb : V} {m h s : Int} {bs : D} : SlX.Slt G a c.cs.cP dx sl → sl[3]? = some (some vb) → R c dr G vb bs →
      sl[1]? = some (some (.int m)) → sl[0]? = some (some (.int h)) → sl[2]? = some (some (.int s)) → R c dr G (.ref a) (.prg m bs h s)
  | sam {a dx : Addr} {v : V} {ds : List D} : G a = some (.ins c.cs.cS dx [("pairs", v)]) → R c dr G v (.lst ds) → R c dr G (.ref a) (.sam ds)
  | par {a dx : Addr} {v u : V} {h : D} {is : List D} : G a = some (.ins c.cs.cT dx [("handed", v), ("inputs", u)]) → R c dr G v h → R c dr G u (.lst is) → R c dr G (.ref a) (.par h is)
  | drw : R c dr G (.ref dr) .drw
inductive Rs (c : Ctx) (dr : Addr) (G : Hp) : List V → List D → Prop
  | nil : Rs c dr G [] []
  | cons {v : V} {vs : List V} {d : D} {ds : List D} : R c dr G v d → Rs c dr G vs ds → Rs c dr G (v :: vs) (d :: ds)
end
section
variable {c : Ctx} {dr : Addr} {G G' : Hp}
theorem slt_mono (s : Same G G') {a C dx : Addr} {sl : List (Option V)} (h : SlX.Slt G a C dx sl) : SlX.Slt G' a C dx sl := by
  rcases h with ⟨h1, h2⟩ | ⟨h1, h2⟩
  · exact .inl ⟨s _ _ h1, h2⟩
  · exact .inr ⟨s _ _ h1, s _ _ h2⟩
mutual
theorem R.mono (s : Same G G') : ∀ {v : V} {d : D}, R c dr G v d → R c dr G' v d
  | _, _, .non => .non
  | _, _, .bl b => .bl b
  | _, _, .int i => .int i
  | _, _, .str x => .str x
  | _, _, .tup h r => .tup (s _ _ h) (Rs.mono s r)
  | _, _, .lst h r => .lst (s _ _ h) (Rs.mono s r)
  | _, _, .dct h e k dp r q => .dct (s _ _ h) e k dp (Rs.mono s r) (Rs.mono s q)
  | _, _, .prg h e r h1 h2 h3 => .prg (slt_mono s h) e (R.mono s r) h1 h2 h3
  | _, _, .sam h r => .sam (s _ _ h) (R.mono s r)
  | _, _, .par h r q => .par (s _ _ h) (R.mono s r) (R.mono s q)
  | _, _, .drw => .drw
theorem Rs.mono (s : Same G G') : ∀ {vs : List V} {ds : List D}, Rs c dr G vs ds → Rs c dr G' vs ds
  | _, _, .nil => .nil
  | _, _, .cons r q => .cons (R.mono s r) (Rs.mono s q)
end
theorem Rs.length {vs : List V} {ds : List D} (h : Rs c dr G vs ds) : vs.length = ds.length := by
  induction vs generalizing ds with
  | nil => cases h; rfl
  | cons v vs ih =>
    cases h with
    | cons r q => simp [ih q]
theorem Rs.get {vs : List V} {ds : List D} (h : Rs c dr G vs ds) {i : Nat} {d : D} (e : ds[i]? = some d) : ∃ v, vs[i]? = some v ∧ R c dr G v d := by
  induction vs generalizing ds i with
  | nil => cases h; simp at e
  | cons v vs ih =>
    cases h with
    | cons r q =>
      cases i with
      | zero => simp at e; subst e; exact ⟨v, rfl, r⟩
      | succ i => exact ih q (by simpa using e)
theorem Rs.get' {vs : List V} {ds : List D} (h : Rs c dr G vs ds) {i : Nat} {v : V} (e : vs[i]? = some v) : ∃ d, ds[i]? = some d ∧ R c dr G v d := by
  induction vs generalizing ds i with
  | nil => simp at e
  | cons v vs ih =>
    cases h with
    | cons r q =>
      cases i with
      | zero => simp at e; subst e; exact ⟨_, rfl, r⟩
      | succ i => exact ih q (by simpa using e)
theorem Rs.append {vs vs' : List V} {ds ds' : List D} (h : Rs c dr G vs ds) (h' : Rs c dr G vs' ds') : Rs c dr G (vs ++ vs') (ds ++ ds') := by
  induction vs generalizing ds with
  | nil => cases h; exact h'
  | cons v vs ih =>
    cases h with
    | cons r q => exact .cons r (ih q)
theorem Rs.take {vs : List V} {ds : List D} (n : Nat) (h : Rs c dr G vs ds) : Rs c dr G (vs.take n) (ds.take n) := by
  induction vs generalizing ds n with
  | nil => cases h; simp; exact .nil
  | cons v vs ih =>
    cases h with
    | cons r q =>
      cases n with
      | zero => exact .nil
      | succ n => exact .cons r (ih n q)
theorem Rs.drop {vs : List V} {ds : List D} (n : Nat) (h : Rs c dr G vs ds) : Rs c dr G (vs.drop n) (ds.drop n) := by
  induction vs generalizing ds n with
  | nil => cases h; simp; exact .nil
  | cons v vs ih =>
    cases n with
    | zero => exact h
    | succ n =>
      cases h with
      | cons r q => exact ih n q
theorem Rs.reverse {vs : List V} {ds : List D} (h : Rs c dr G vs ds) : Rs c dr G vs.reverse ds.reverse := by
  induction vs generalizing ds with
  | nil => cases h; exact .nil
  | cons v vs ih =>
    cases h with
    | cons r q =>
      rw [List.reverse_cons, List.reverse_cons]
      exact (ih q).append (.cons r .nil)
theorem Rs.set {vs : List V} {ds : List D} (h : Rs c dr G vs ds) (i : Nat) {v : V} {d : D} (r : R c dr G v d) : Rs c dr G (vs.set i v) (ds.set i d) := by
  induction vs generalizing ds i with
  | nil => cases h; exact .nil
  | cons x vs ih =>
    cases h with
    | cons q t =>
      cases i with
      | zero => exact .cons r t
      | succ i => exact .cons q (ih t i)
theorem Rs.eraseIdx {vs : List V} {ds : List D} (h : Rs c dr G vs ds) (i : Nat) : Rs c dr G (vs.eraseIdx i) (ds.eraseIdx i) := by
  induction vs generalizing ds i with
  | nil => cases h; exact .nil
  | cons x vs ih =>
    cases h with
    | cons q t =>
      cases i with
      | zero => exact t
      | succ i => exact .cons q (ih t i)
theorem Rs.replicate {vs : List V} {ds : List D} (h : Rs c dr G vs ds) (n : Nat) : Rs c dr G (List.replicate n vs).flatten (List.replicate n ds).flatten := by
  induction n with
  | zero => exact .nil
  | succ n ih =>
    rw [List.replicate_succ, List.replicate_succ, List.flatten_cons, List.flatten_cons]
    exact h.append ih
theorem Rs.ints (ns : List Int) : Rs c dr G (ns.map V.int) (ns.map D.int) := by
  induction ns with
  | nil => exact .nil
  | cons n ns ih => exact .cons (.int n) ih
end

/-! ### the heaps -/
/-- the draws' list stands at dr: the script's numbers, 0, a count -/
def DrawAt (dr : Addr) (G H : Hp) : Prop := G dr = none ∧ ∃ (s : Addr) (n : Int) (ns : List Int), H dr = some (.lst [.ref s, .int 0, .int n]) ∧ 0 ≤ n ∧ G s = some (.lst (ns.map V.int)) ∧ ns.length ≤ 63
structure Base (dr : Addr) (G H : Hp) : Prop where
  sub : Same G H
  draw : DrawAt dr G H
/-- G', H' grow out of G, H: what was tracked stays but for the draws' count; what is new in G' was not tracked -/
structure Step (dr : Addr) (G H G' H' : Hp) : Prop where
  hs : ∀ a o, a ≠ dr → H a = some o → H' a = some o
  gs : Same G G'
  base : Base dr G' H'
  new : ∀ a, G' a ≠ none → G a ≠ none ∨ H a = none
  dsc : ∀ s n, H dr = some (.lst [.ref s, .int 0, .int n]) → ∃ n', H' dr = some (.lst [.ref s, .int 0, .int n'])
section
variable {dr : Addr} {G H G1 H1 G2 H2 : Hp}
theorem Base.ndr (b : Base dr G H) {a : Addr} {o : HO} (h : G a = some o) : a ≠ dr := fun e => by
  rw [e, b.draw.1] at h
  cases h
theorem Base.hdr (b : Base dr G H) : H dr ≠ none := by
  obtain ⟨_, s, n, ns, h, _⟩ := b.draw
  rw [h]
  exact fun e => nomatch e
theorem Step.refl (b : Base dr G H) : Step dr G H G H := ⟨fun _ _ _ h => h, Same.refl _, b, fun _ h => .inl h, fun _ n h => ⟨n, h⟩⟩
theorem Step.trans (s : Step dr G H G1 H1) (b : Base dr G H) (t : Step dr G1 H1 G2 H2) : Step dr G H G2 H2 where
  hs := fun a o n h => t.hs a o n (s.hs a o n h)
  gs := s.gs.trans t.gs
  base := t.base
  new := fun a h => by
    rcases t.new a h with h1 | h1
    · exact s.new a h1
    · refine .inr ?_
      cases e : H a with
      | none => rfl
      | some o =>
        by_cases q : a = dr
        · rw [q] at h1
          exact absurd h1 s.base.hdr
        · rw [s.hs a o q e] at h1
          cases h1
  dsc := fun z n h => let ⟨_, h1⟩ := s.dsc z n h; t.dsc z _ h1
/-- a new object is laid -/
theorem Step.laid (b : Base dr G H) {p : Addr} (np : H p = none) (o : HO) : Step dr G H (upd G p o) (upd H p o) := by
  have gp : G p = none := b.sub.free np
  have pd : p ≠ dr := fun e => b.hdr (e ▸ np)
  refine ⟨fun a u _ h => by rw [upd_ne (ne_of_none h np)]; exact h, fun a u h => by rw [upd_ne (ne_of_none h gp)]; exact h, ⟨fun a u h => ?_, ?_⟩, fun a h => ?_, fun s n h => ⟨n, by rw [upd_ne (Ne.symm pd)]; exact h⟩⟩
  · by_cases e : a = p
    · subst e
      rw [upd_same] at h ⊢
      exact h
    · rw [upd_ne e] at h ⊢
      exact b.sub a u h
  · obtain ⟨d0, s, n, ns, h1, h2, h3, h4⟩ := b.draw
    refine ⟨by rw [upd_ne (Ne.symm pd)]; exact d0, s, n, ns, by rw [upd_ne (Ne.symm pd)]; exact h1, h2, by rw [upd_ne (ne_of_none h3 gp)]; exact h3, h4⟩
  · by_cases e : a = p
    · exact .inr (e ▸ np)
    · rw [upd_ne e] at h
      exact .inl h
/-- a new object is laid that G does not know -/
theorem Step.laidH (b : Base dr G H) {p : Addr} (np : H p = none) (o : HO) : Step dr G H G (upd H p o) := by
  have pd : p ≠ dr := fun e => b.hdr (e ▸ np)
  refine ⟨fun a u _ h => by rw [upd_ne (ne_of_none h np)]; exact h, Same.refl _, ⟨fun a u h => ?_, ?_⟩, fun a h => .inl h, fun s n h => ⟨n, by rw [upd_ne (Ne.symm pd)]; exact h⟩⟩
  · have h2 := b.sub a u h
    rw [upd_ne (ne_of_none h2 np)]
    exact h2
  · obtain ⟨d0, s, n, ns, h1, h2, h3, h4⟩ := b.draw
    exact ⟨d0, s, n, ns, by rw [upd_ne (Ne.symm pd)]; exact h1, h2, h3, h4⟩
end

/-! ### environments -/
abbrev Env := List (Option D)
structure EnvF (c : Ctx) (dr : Addr) (G : Hp) (σ : L2.St) (ρ : Env) : Prop where
  len : ρ.length = σ.length
  get : ∀ (i : Nat) (d : D), ρ[i]? = some (some d) → ∃ v, σ[i]? = some (some v) ∧ R c dr G v d
theorem EnvF.mono {c : Ctx} {dr : Addr} {G G' : Hp} {σ : L2.St} {ρ : Env} (e : EnvF c dr G σ ρ) (s : Same G G') : EnvF c dr G' σ ρ :=
  ⟨e.len, fun i d h => let ⟨v, h1, h2⟩ := e.get i d h; ⟨v, h1, h2.mono s⟩⟩
theorem EnvF.set {c : Ctx} {dr : Addr} {G : Hp} {σ : L2.St} {ρ : Env} (e : EnvF c dr G σ ρ) (i : Nat) {v : V} {d : D} (r : R c dr G v d) : EnvF c dr G (σ.set i (some v)) (ρ.set i (some d)) := by
  refine ⟨by simp [e.len], fun j x h => ?_⟩
  by_cases q : i = j
  · subst q
    by_cases l : i < ρ.length
    · rw [List.getElem?_set_self l] at h
      cases h
      exact ⟨v, List.getElem?_set_self (by rw [← e.len]; exact l), r⟩
    · rw [List.getElem?_set, if_pos rfl, if_neg l] at h
      cases h
  · rw [List.getElem?_set_ne q] at h ⊢
    exact e.get j x h
theorem EnvF.start {c : Ctx} {dr : Addr} {G : Hp} {vs : List V} {ds : List D} (r : Rs c dr G vs ds) (N : List Str) : EnvF c dr G (start N vs) (ds.map some ++ List.replicate (N.length - ds.length) none) := by
  have l := r.length
  refine ⟨by simp [L2.start, l], fun i d h => ?_⟩
  by_cases q : i < ds.length
  · rw [List.getElem?_append_left (by simpa using q), List.getElem?_map] at h
    cases e : ds[i]? with
    | none => rw [e] at h; cases h
    | some x =>
      rw [e] at h
      cases h
      obtain ⟨v, h1, h2⟩ := r.get e
      refine ⟨v, ?_, h2⟩
      unfold L2.start
      rw [List.getElem?_append_left (by simp [l, q]), List.getElem?_map, h1]
      rfl
  · rw [List.getElem?_append_right (by simpa using q), List.getElem?_replicate] at h
    split at h <;> cases h
end Rr
/-! registerrooms: expressions by their data: names, constants, operators, tests, arguments, displays, subscripts. -/
namespace Rr
open PySem PySem.Spec PyProof.Rows L2

abbrev WE := Env → Wp D
abbrev WT := Env → Wp Bool
abbrev WA := Env → Wp (List D)
abbrev xc (X : Cx) (cs : Cs) : Ctx := ⟨X.prog, X.w, X.K, cs⟩
/-- what is wanted of a datum's value -/
abbrev Wish (c : Ctx) (dr : Addr) (G H : Hp) (Q : VK) : D → Prop := fun d => ∀ v G' H', Step dr G H G' H' → R c dr G' v d → Q v H'
def tD (c : Ctx) (w : WE) : TE := fun σ H Q => ∃ dr G ρ, Base dr G H ∧ EnvF c dr G σ ρ ∧ (w ρ).run (Wish c dr G H Q)
def tDT (c : Ctx) (w : WT) : TT := fun σ H Q => ∃ dr G ρ, Base dr G H ∧ EnvF c dr G σ ρ ∧ (w ρ).run fun b => ∀ G' H', Step dr G H G' H' → Q b H'
def tDA (c : Ctx) (w : WA) : TA := fun σ H Q => ∃ dr G ρ, Base dr G H ∧ EnvF c dr G σ ρ ∧ (w ρ).run fun ds => ∀ vs G' H', Step dr G H G' H' → Rs c dr G' vs ds → Q vs H'
def PD (X : Cx) (cs : Cs) (e : Expr) (w : WE) : Prop := PE X e (tD (xc X cs) w)
def PTD (X : Cx) (cs : Cs) (e : Expr) (w : WT) : Prop := PT X e (tDT (xc X cs) w)
def PWD (X : Cx) (cs : Cs) (e : Expr) (w : WT) : Prop := PW X e (tDT (xc X cs) w)
def PAD (X : Cx) (cs : Cs) (es : List Expr) (w : WA) : Prop := PA X es (tDA (xc X cs) w)

theorem pe_of {X : Cx} {e : Expr} {t t' : TE} (h : PE X e t) (k : ∀ σ H Q, t' σ H Q → t σ H Q) : PE X e t' := ⟨fun pins s σ H Q I x => h.run pins s σ H Q I (k σ H Q x)⟩
theorem pt_of {X : Cx} {e : Expr} {t t' : TT} (h : PT X e t) (k : ∀ σ H Q, t' σ H Q → t σ H Q) : PT X e t' := ⟨fun pins s σ H Q I x => h.run pins s σ H Q I (k σ H Q x)⟩
theorem pw_of {X : Cx} {e : Expr} {t t' : TT} (h : PW X e t) (k : ∀ σ H Q, t' σ H Q → t σ H Q) : PW X e t' := ⟨fun wh pins s σ H Q I x => h.run wh pins s σ H Q I (k σ H Q x)⟩
theorem pa_of {X : Cx} {es : List Expr} {t t' : TA} (h : PA X es t) (k : ∀ σ H Q, t' σ H Q → t σ H Q) : PA X es t' := ⟨fun pos pins s σ H Q I x => h.run pos pins s σ H Q I (k σ H Q x)⟩
theorem ps_of {X : Cx} {st : Stmt} {t t' : TS} (h : PS X st t) (k : ∀ D σ H, t' D σ H → t D σ H) : PS X st t' := ⟨fun pins s σ H D I x => h.run pins s σ H D I (k D σ H x)⟩
theorem pss_of {X : Cx} {st : List Stmt} {t t' : TS} (h : PSs X st t) (k : ∀ D σ H, t' D σ H → t D σ H) : PSs X st t' := ⟨fun pins s σ H D I x => h.run pins s σ H D I (k D σ H x)⟩

section
variable {c : Ctx} {dr : Addr} {G H : Hp} {σ : L2.St} {ρ : Env}
theorem tD_seq {w : WE} {K : D → Prop} {Q : VK} (b : Base dr G H) (e : EnvF c dr G σ ρ) (h : (w ρ).run K)
    (k : ∀ d v G' H', Step dr G H G' H' → EnvF c dr G' σ ρ → R c dr G' v d → K d → Q v H') : tD c w σ H Q :=
  ⟨dr, G, ρ, b, e, (w ρ).mono (fun d kd v G' H' s r => k d v G' H' s (e.mono s.gs) r kd) h⟩
theorem tDT_seq {w : WT} {K : Bool → Prop} {Q : Bool → Hp → Prop} (b : Base dr G H) (e : EnvF c dr G σ ρ) (h : (w ρ).run K)
    (k : ∀ d G' H', Step dr G H G' H' → EnvF c dr G' σ ρ → K d → Q d H') : tDT c w σ H Q :=
  ⟨dr, G, ρ, b, e, (w ρ).mono (fun d kd G' H' s => k d G' H' s (e.mono s.gs) kd) h⟩
theorem tDA_seq {w : WA} {K : List D → Prop} {Q : List V → Hp → Prop} (b : Base dr G H) (e : EnvF c dr G σ ρ) (h : (w ρ).run K)
    (k : ∀ ds vs G' H', Step dr G H G' H' → EnvF c dr G' σ ρ → Rs c dr G' vs ds → K ds → Q vs H') : tDA c w σ H Q :=
  ⟨dr, G, ρ, b, e, (w ρ).mono (fun d kd v G' H' s r => k d v G' H' s (e.mono s.gs) r kd) h⟩
end

/-! ### names, constants -/
def wVar (i : Nat) : WE := fun ρ => match ρ[i]? with
  | some (some d) => .ret d
  | _ => .fail
def wC (d : D) : WE := fun _ => .ret d
theorem wVar_run {i : Nat} {ρ : Env} {K : D → Prop} (h : (wVar i ρ).run K) : ∃ d, ρ[i]? = some (some d) ∧ K d := by
  unfold wVar at h
  split at h
  · exact ⟨_, by assumption, h⟩
  · exact h.elim
section
variable {X : Cx} {cs : Cs}
theorem pd_var (i : Nat) {x : Str} {pos : Pos} (hN : X.N[i]? = some x := by rfl) (hv : Vis X.env.scope x := by first | exact Or.inl rfl | exact Or.inr (Or.inl rfl) | exact Or.inr (Or.inr rfl)) (hd : (x == ("__debug__" : Str)) = false := by decide)
    (hcd : (x == ("__classdict__" : Str)) = false := by decide) : PD X cs (.Name x pos) (wVar i) :=
  pe_of (pe_var hN hv hd hcd) fun σ H Q ⟨dr, G, ρ, b, e, h⟩ => by
    obtain ⟨d, hd, k⟩ := wVar_run h
    obtain ⟨v, h1, h2⟩ := e.get i d hd
    exact ⟨v, h1, k v G H (Step.refl b) h2⟩
theorem pd_k {e : Expr} {v : V} {d : D} (h : PE X e (tC v)) (r : ∀ c dr G, R c dr G v d) : PD X cs e (wC d) :=
  pe_of h fun σ H Q ⟨dr, G, ρ, b, e, h⟩ => h v G H (Step.refl b) (r _ _ _)
theorem pd_int {i j pos} : PD X cs (.Constant (.int i) j pos) (wC (.int i)) := pd_k pe_int fun _ _ _ => .int i
theorem pd_bl {i j pos} : PD X cs (.Constant (.bool i) j pos) (wC (.bl i)) := pd_k pe_bl fun _ _ _ => .bl i
theorem pd_non {j pos} : PD X cs (.Constant .none j pos) (wC .non) := pd_k pe_non fun _ _ _ => .non
theorem pd_str {x j pos} : PD X cs (.Constant (.str x) j pos) (wC (.str x)) := pd_k pe_str fun _ _ _ => .str x
/-- a module's int -/
theorem pd_gint {x : Str} {i : Int} {pos : Pos} (hg : Gl X x) (hm : ∃ t, X.mg x = some (.int i t)) (hd : (x == ("__debug__" : Str)) = false := by decide) : PD X cs (.Name x pos) (wC (.int i)) := by
  obtain ⟨t, hm⟩ := hm
  exact pd_k (pe_glob (v := V.int i) hg hm ⟨t, rfl⟩ hd) fun _ _ _ => .int i
end

/-! ### operators -/
def DOp (c : Ctx) (r : R2) (f : D → D → Wp D) : Prop := ∀ (dr : Addr) (G H : Hp) (x y : V) (dx dy : D) (Q : VK), Base dr G H → R c dr G x dx → R c dr G y dy → (f dx dy).run (Wish c dr G H Q) → r x y H Q
def wOp (f : D → D → Wp D) (a b : WE) : WE := fun ρ => (a ρ).bind fun x => (b ρ).bind fun y => f x y
section
variable {X : Cx} {cs : Cs} {a b : Expr} {wa wb : WE} {pos : Pos}
theorem tOp_of {c : Ctx} {r : R2} {f : D → D → Wp D} (hd : DOp c r f) (σ : L2.St) (H : Hp) (Q : VK) (h : tD c (wOp f wa wb) σ H Q) : tOp r (tD c wa) (tD c wb) σ H Q := by
  obtain ⟨dr, G, ρ, b, e, h⟩ := h
  refine tD_seq b e h fun dx vx G1 H1 s1 e1 r1 k1 => ?_
  refine tD_seq s1.base e1 k1 fun dy vy G2 H2 s2 e2 r2 k2 => ?_
  refine hd dr G2 H2 vx vy dx dy Q s2.base (r1.mono s2.gs) r2 ((f dx dy).mono (fun dz k v G3 H3 s3 r3 => ?_) k2)
  exact k v G3 H3 ((s1.trans b s2).trans b s3) r3
theorem pd_op {op : Operator} {r : R2} {f : D → D → Wp D} (ho : OpR X (binaryOp op) r) (hd : DOp (xc X cs) r f) (ha : PD X cs a wa) (hb : PD X cs b wb) : PD X cs (.BinOp a op b pos) (wOp f wa wb) :=
  pe_of (pe_op ho ha hb) fun σ H Q h => tOp_of hd σ H Q h
theorem pd_cmp {op : CmpOp} {r : R2} {f : D → D → Wp D} (ho : OpR X (compareOp op) r) (hd : DOp (xc X cs) r f) (ha : PD X cs a wa) (hb : PD X cs b wb) (hm : behindInMarks op b = false) : PD X cs (.Compare a [op] [b] pos) (wOp f wa wb) :=
  pe_of (pe_cmpR ho ha hb hm) fun σ H Q h => tOp_of hd σ H Q h
def asB : D → Wp Bool
  | .bl b => .ret b
  | _ => .fail
theorem asB_run {d : D} {K : Bool → Prop} (h : (asB d).run K) : ∃ b, d = .bl b ∧ K b := by
  cases d <;> first | exact ⟨_, rfl, h⟩ | exact h.elim
theorem R.bl_of {c : Ctx} {dr : Addr} {G : Hp} {v : V} {b : Bool} (r : R c dr G v (.bl b)) : v = .bl b := by cases r; rfl
theorem R.int_of {c : Ctx} {dr : Addr} {G : Hp} {v : V} {i : Int} (r : R c dr G v (.int i)) : v = .int i := by cases r; rfl
theorem R.str_of {c : Ctx} {dr : Addr} {G : Hp} {v : V} {x : Str} (r : R c dr G v (.str x)) : v = .str x := by cases r; rfl
theorem R.non_of {c : Ctx} {dr : Addr} {G : Hp} {v : V} (r : R c dr G v .non) : v = .non := by cases r; rfl
theorem R.tup_of {c : Ctx} {dr : Addr} {G : Hp} {v : V} {ds : List D} (r : R c dr G v (.tup ds)) : ∃ a xs, v = .ref a ∧ G a = some (.tup xs) ∧ Rs c dr G xs ds := by
  cases r with
  | tup h q => exact ⟨_, _, rfl, h, q⟩
theorem R.lst_of {c : Ctx} {dr : Addr} {G : Hp} {v : V} {ds : List D} (r : R c dr G v (.lst ds)) : ∃ a xs, v = .ref a ∧ G a = some (.lst xs) ∧ Rs c dr G xs ds := by
  cases r with
  | lst h q => exact ⟨_, _, rfl, h, q⟩
/-- an expression that hands a truth value, as a test -/
def wB (w : WE) : WT := fun ρ => (w ρ).bind asB
theorem ptd_val (h : PD X cs a wa) (he : ∀ whole, isTrue a X.env whole = (do let v ← whole; standAt a.pos; holding [v] (truthy v)) := by intro _; rfl) : PTD X cs a (wB wa) :=
  pt_of (pt_val h he) fun σ H Q ⟨dr, G, ρ, b, e, h⟩ => by
    refine tD_seq b e h fun d v G1 H1 s1 e1 r1 k1 => ?_
    obtain ⟨k, rfl, kk⟩ := asB_run k1
    exact ⟨k, r1.bl_of, kk G1 H1 s1⟩
theorem ptd_cmp {op : CmpOp} {r : R2} {f : D → D → Wp D} (ho : OpR X (compareOp op) r) (hd : DOp (xc X cs) r f) (ha : PD X cs a wa) (hb : PD X cs b wb) (hm : behindInMarks op b = false) : PTD X cs (.Compare a [op] [b] pos) (wB (wOp f wa wb)) :=
  pt_of (pt_cmpR ho ha hb hm) fun σ H Q ⟨dr, G, ρ, b, e, h⟩ => by
    refine tOp_of hd σ H _ ⟨dr, G, ρ, b, e, ?_⟩
    refine (wOp f wa wb ρ).mono (fun d k v G' H' s r => ?_) h
    obtain ⟨z, rfl, kk⟩ := asB_run k
    exact ⟨z, r.bl_of, kk G' H' s⟩
/-! ### tests -/
def wAnd (t u : WT) : WT := fun ρ => (t ρ).bind fun b => if b = true then u ρ else .ret false
def wOr (t u : WT) : WT := fun ρ => (t ρ).bind fun b => if b = true then .ret true else u ρ
def wNot (t : WT) : WT := fun ρ => (t ρ).bind fun b => .ret (!b)
def wIf (t : WT) (a b : WE) : WE := fun ρ => (t ρ).bind fun k => if k = true then a ρ else b ρ
variable {ta tb : WT} {rest : List Expr}
theorem ptd_pw (h : PWD X cs a ta) : PTD X cs a ta := PW.pt h
theorem pwd_and1 (ha : PTD X cs a ta) : PWD X cs (.BoolOp .And [a] pos) ta := pw_and1 ha
theorem pwd_or1 (ha : PTD X cs a ta) : PWD X cs (.BoolOp .Or [a] pos) ta := pw_or1 ha
theorem pwd_and (ha : PTD X cs a ta) (hb : PWD X cs (.BoolOp .And (b :: rest) pos) tb) : PWD X cs (.BoolOp .And (a :: b :: rest) pos) (wAnd ta tb) :=
  pw_of (pw_and ha hb) fun σ H Q ⟨dr, G, ρ, b, e, h⟩ => by
    refine tDT_seq b e h fun k G1 H1 s1 e1 k1 => ?_
    cases k with
    | true => exact iteT (tDT_seq s1.base e1 k1 fun k2 G2 H2 s2 e2 q => q G2 H2 (s1.trans b s2))
    | false => exact iteF (k1 G1 H1 s1)
theorem pwd_or (ha : PTD X cs a ta) (hb : PWD X cs (.BoolOp .Or (b :: rest) pos) tb) : PWD X cs (.BoolOp .Or (a :: b :: rest) pos) (wOr ta tb) :=
  pw_of (pw_or ha hb) fun σ H Q ⟨dr, G, ρ, b, e, h⟩ => by
    refine tDT_seq b e h fun k G1 H1 s1 e1 k1 => ?_
    cases k with
    | true => exact iteT (k1 G1 H1 s1)
    | false => exact iteF (tDT_seq s1.base e1 k1 fun k2 G2 H2 s2 e2 q => q G2 H2 (s1.trans b s2))
theorem ptd_not (ha : PTD X cs a ta) : PTD X cs (.UnaryOp .Not a pos) (wNot ta) :=
  pt_of (pt_not ha) fun σ H Q ⟨dr, G, ρ, b, e, h⟩ => tDT_seq b e h fun k G1 H1 s1 e1 k1 => k1 G1 H1 s1
theorem pd_if {t : Expr} (hc : PTD X cs t ta) (ha : PD X cs a wa) (hb : PD X cs b wb) : PD X cs (.IfExp t a b pos) (wIf ta wa wb) :=
  pe_of (pe_ifExp hc ha hb) fun σ H Q ⟨dr, G, ρ, b, e, h⟩ => by
    refine tDT_seq b e h fun k G1 H1 s1 e1 k1 => ?_
    cases k with
    | true => exact iteT (tD_seq s1.base e1 k1 fun d v G2 H2 s2 e2 r q => q v G2 H2 (s1.trans b s2) r)
    | false => exact iteF (tD_seq s1.base e1 k1 fun d v G2 H2 s2 e2 r q => q v G2 H2 (s1.trans b s2) r)
/-- and, or, not as values -/
def wAndV (u v : WE) : WE := fun ρ => (u ρ).bind fun x => (asB x).bind fun b => if b = true then v ρ else .ret (.bl false)
def wOrV (u v : WE) : WE := fun ρ => (u ρ).bind fun x => (asB x).bind fun b => if b = true then .ret (.bl true) else v ρ
def wNotV (u : WE) : WE := fun ρ => (u ρ).bind fun x => (asB x).bind fun b => .ret (.bl (!b))
theorem pd_one {op} (h : PD X cs a wa) : PD X cs (.BoolOp op [a] pos) wa := pe_one h
theorem pd_and (ha : PD X cs a wa) (hb : PD X cs (.BoolOp .And (b :: rest) pos) wb) : PD X cs (.BoolOp .And (a :: b :: rest) pos) (wAndV wa wb) :=
  pe_of (L2.pe_and ha hb) fun σ H Q ⟨dr, G, ρ, b, e, h⟩ => by
    refine tD_seq b e h fun d v G1 H1 s1 e1 r1 k1 => ?_
    obtain ⟨k, rfl, kk⟩ := asB_run k1
    refine ⟨k, r1.bl_of, ?_⟩
    cases k with
    | true => exact iteT (tD_seq s1.base e1 kk fun d v G2 H2 s2 e2 r q => q v G2 H2 (s1.trans b s2) r)
    | false => exact iteF (kk _ G1 H1 s1 (.bl false))
theorem pd_or (ha : PD X cs a wa) (hb : PD X cs (.BoolOp .Or (b :: rest) pos) wb) : PD X cs (.BoolOp .Or (a :: b :: rest) pos) (wOrV wa wb) :=
  pe_of (L2.pe_or ha hb) fun σ H Q ⟨dr, G, ρ, b, e, h⟩ => by
    refine tD_seq b e h fun d v G1 H1 s1 e1 r1 k1 => ?_
    obtain ⟨k, rfl, kk⟩ := asB_run k1
    refine ⟨k, r1.bl_of, ?_⟩
    cases k with
    | true => exact iteT (kk _ G1 H1 s1 (.bl true))
    | false => exact iteF (tD_seq s1.base e1 kk fun d v G2 H2 s2 e2 r q => q v G2 H2 (s1.trans b s2) r)
theorem pd_not (ha : PD X cs a wa) : PD X cs (.UnaryOp .Not a pos) (wNotV wa) :=
  pe_of (L2.pe_not ha) fun σ H Q ⟨dr, G, ρ, b, e, h⟩ => by
    refine tD_seq b e h fun d v G1 H1 s1 e1 r1 k1 => ?_
    obtain ⟨k, rfl, kk⟩ := asB_run k1
    exact ⟨k, r1.bl_of, kk _ G1 H1 s1 (.bl _)⟩
end

/-! ### arguments, displays -/
def wNil : WA := fun _ => .ret []
def wCons (a : WE) (r : WA) : WA := fun ρ => (a ρ).bind fun d => (r ρ).bind fun ds => .ret (d :: ds)
/-- the items of a list or a tuple -/
def itemsD : D → Wp (List D)
  | .tup ds => .ret ds
  | .lst ds => .ret ds
  | _ => .fail
def wStar (a : WE) (r : WA) : WA := fun ρ => (a ρ).bind fun d => (itemsD d).bind fun es => (r ρ).bind fun ds => .ret (es ++ ds)
def wTup (a : WA) : WE := fun ρ => (a ρ).bind fun ds => .chk (ds.length ≤ 16777216) (.ret (.tup ds))
def wLst (a : WA) : WE := fun ρ => (a ρ).bind fun ds => .chk (ds.length ≤ 16777216) (.ret (.lst ds))
theorem items_run {d : D} {K : List D → Prop} (h : (itemsD d).run K) : ∃ ds, (d = .tup ds ∨ d = .lst ds) ∧ K ds := by
  cases d with
  | tup ds => exact ⟨ds, .inl rfl, h⟩
  | lst ds => exact ⟨ds, .inr rfl, h⟩
  | _ => exact h.elim
theorem R.items {c : Ctx} {dr : Addr} {G H : Hp} {v : V} {d : D} {ds : List D} (b : Same G H) (r : R c dr G v d) (h : d = .tup ds ∨ d = .lst ds) : ∃ a xs, v = .ref a ∧ (SqT c.K H a xs ∨ SqL c.K H a xs) ∧ Rs c dr G xs ds := by
  rcases h with rfl | rfl
  · obtain ⟨a, xs, e, h, q⟩ := r.tup_of
    exact ⟨a, xs, e, .inl (SqT.of (b _ _ h)), q⟩
  · obtain ⟨a, xs, e, h, q⟩ := r.lst_of
    exact ⟨a, xs, e, .inr (SqL.of (b _ _ h)), q⟩
theorem line_le {n : Nat} (h : n ≤ 16777216) : n ≤ sizeLine := by rw [sizeLine_eq]; exact h
theorem line_lt {n : Nat} (h : n < 16777216) : n < sizeLine := by rw [sizeLine_eq]; exact h
section
variable {X : Cx} {cs : Cs} {e : Expr} {es : List Expr} {we : WE} {ws : WA} {pos : Pos}
theorem pad_nil : PAD X cs [] wNil := pa_of pa_nil fun σ H Q ⟨dr, G, ρ, b, e, h⟩ => h [] G H (Step.refl b) .nil
theorem pad_cons (ha : PD X cs e we) (hr : PAD X cs es ws) (hs : starEach (e :: es) X.env = (false, eval e X.env) :: starEach es X.env := by rfl) : PAD X cs (e :: es) (wCons we ws) :=
  pa_of (pa_cons ha hr hs) fun σ H Q ⟨dr, G, ρ, b, e, h⟩ => by
    refine tD_seq b e h fun d v G1 H1 s1 e1 r1 k1 => ?_
    refine tDA_seq s1.base e1 k1 fun ds vs G2 H2 s2 e2 r2 k2 => ?_
    exact k2 _ G2 H2 (s1.trans b s2) (.cons (r1.mono s2.gs) r2)
theorem pad_star {p : Pos} (ha : PD X cs e we) (hr : PAD X cs es ws) : PAD X cs (.Starred e p :: es) (wStar we ws) :=
  pa_of (StX.pa_star ha hr) fun σ H Q ⟨dr, G, ρ, b, e, h⟩ => by
    refine tD_seq b e h fun d v G1 H1 s1 e1 r1 k1 => ?_
    obtain ⟨ds, hd, k1⟩ := items_run k1
    obtain ⟨a, xs, ev, hq, rs⟩ := r1.items s1.base.sub hd
    refine ⟨a, xs, ev, hq, ?_⟩
    refine tDA_seq s1.base e1 k1 fun ds vs G2 H2 s2 e2 r2 k2 => ?_
    exact k2 _ G2 H2 (s1.trans b s2) ((rs.mono s2.gs).append r2)
theorem pd_tup {x1} (h : PAD X cs es ws) : PD X cs (.Tuple es x1 pos) (wTup ws) :=
  pe_of (pe_tup h) fun σ H Q ⟨dr, G, ρ, b, e, h⟩ => by
    refine tDA_seq b e h fun ds vs G1 H1 s1 e1 r1 k1 => ?_
    obtain ⟨hz, k1⟩ := k1
    refine ⟨line_le (by rw [r1.length]; exact hz), fun p np => ?_⟩
    have s2 := Step.laid s1.base np (.tup vs)
    exact k1 _ _ _ (s1.trans b s2) (.tup upd_same (r1.mono s2.gs))
theorem pd_lst (h : PAD X cs es ws) : PD X cs (.List es pos) (wLst ws) :=
  pe_of (pe_lst h) fun σ H Q ⟨dr, G, ρ, b, e, h⟩ => by
    refine tDA_seq b e h fun ds vs G1 H1 s1 e1 r1 k1 => ?_
    obtain ⟨hz, k1⟩ := k1
    refine ⟨line_le (by rw [r1.length]; exact hz), fun p np => ?_⟩
    have s2 := Step.laid s1.base np (.lst vs)
    exact k1 _ _ _ (s1.trans b s2) (.lst upd_same (r1.mono s2.gs))
end

/-! ### calls -/
/-- a def's promise: what it does, as F says -/
def spW (c : Ctx) (F : List D → Wp D) : Sp := fun vs H Q _ => ∃ dr G ds, Base dr G H ∧ Rs c dr G vs ds ∧ (F ds).run (Wish c dr G H Q)
def wCall (F : List D → Wp D) (a : WA) : WE := fun ρ => (a ρ).bind F
section
variable {X : Cx} {cs : Cs} {e : Expr} {es : List Expr} {we : WE} {ws : WA} {pos p : Pos} {F : List D → Wp D} {k j : Nat} {x : Str}
theorem tCall_of {c : Ctx} (σ : L2.St) (H : Hp) (Q : VK) (E : XK) (h : tD c (wCall F ws) σ H Q) : tCall (spW c F) [] E (tDA c ws) σ H Q := by
  obtain ⟨dr, G, ρ, b, e, h⟩ := h
  refine tDA_seq b e h fun ds vs G1 H1 s1 e1 r1 k1 => ?_
  rw [List.append_nil]
  exact ⟨dr, G1, ds, s1.base, r1, (F ds).mono (fun d k v G2 H2 s2 r => k v G2 H2 (s1.trans b s2) r) k1⟩
theorem pd_call (f : C8.Cal X.prog X.w X.K X.mg X.base k x (spW (xc X cs) F) []) (hr : Room j X.A) (hk : k ≤ j) (hg : Gl X x) (ha : PAD X cs (e :: es) ws)
    (hdb : (x == ("__debug__" : Str)) = false := by decide) (he : starEach (e :: es) X.env = (false, eval e X.env) :: starEach es X.env := by rfl) (hpl : (backTo pos (starEach es X.env)).any (·.1) = false := by rfl) :
    PD X cs (.Call (.Name x p) (e :: es) [] pos) (wCall F ws) :=
  pe_of (C8.pe_c f hr hk hg ha hdb he hpl) fun σ H Q h => tCall_of σ H Q _ h
/-- a built-in by values -/
def DCall (c : Ctx) (r : List V → Hp → VK → Prop) (f : List D → Wp D) : Prop := ∀ (dr : Addr) (G H : Hp) (xs : List V) (ds : List D) (Q : VK), Base dr G H → Rs c dr G xs ds → (f ds).run (Wish c dr G H Q) → r xs H Q
theorem tCB_of {c : Ctx} {r : List V → Hp → VK → Prop} (hd : DCall c r F) (σ : L2.St) (H : Hp) (Q : VK) (h : tD c (wCall F ws) σ H Q) : tCB r (tDA c ws) σ H Q := by
  obtain ⟨dr, G, ρ, b, e, h⟩ := h
  refine tDA_seq b e h fun ds vs G1 H1 s1 e1 r1 k1 => ?_
  exact hd dr G1 H1 vs ds Q s1.base r1 ((F ds).mono (fun d k v G2 H2 s2 r => k v G2 H2 (s1.trans b s2) r) k1)
theorem pd_callB {id : String} {r : List V → Hp → VK → Prop} (hc : CallR X (.builtin id) r) (hd : DCall (xc X cs) r F) (hg : Gl X x) (hm : X.mg x = none) (hv : bootBuiltins x = some (.builtin id)) (ha : PAD X cs (e :: es) ws) (hn : x ≠ "__name__" := by decide) (hdb : (x == ("__debug__" : Str)) = false := by decide)
    (he : starEach (e :: es) X.env = (false, eval e X.env) :: starEach es X.env := by rfl) (hpl : (backTo pos (starEach es X.env)).any (·.1) = false := by rfl) : PD X cs (.Call (.Name x p) (e :: es) [] pos) (wCall F ws) :=
  pe_of (pe_callB hc hg hm hv ha hn hdb he hpl) fun σ H Q h => tCB_of hd σ H Q h
theorem pd_callTy {T : String} {r : List V → Hp → VK → Prop} (hc : CallR X (.type T) r) (hd : DCall (xc X cs) r F) (hg : Gl X x) (hm : X.mg x = none) (hv : bootBuiltins x = some (.type T)) (ha : PAD X cs (e :: es) ws) (hn : x ≠ "__name__" := by decide) (hdb : (x == ("__debug__" : Str)) = false := by decide)
    (he : starEach (e :: es) X.env = (false, eval e X.env) :: starEach es X.env := by rfl) (hpl : (backTo pos (starEach es X.env)).any (·.1) = false := by rfl) : PD X cs (.Call (.Name x p) (e :: es) [] pos) (wCall F ws) :=
  pe_of (pe_callTy hc hg hm hv ha hn hdb he hpl) fun σ H Q h => tCB_of hd σ H Q h
end
end Rr
/-! registerrooms: what the operators and built-ins do to data. -/
namespace Rr
open PySem PySem.Spec PyProof.Rows L2

section
variable {X : Cx} {cs : Cs} {c : Ctx}
/-! ### numbers, lists, tuples: + - % * -/
def rAddA (K : PySem.W.Frag) : R2 := fun x y H Q => (rI0 fun i j => .int (i + j)) x y H Q ∨ rCatA K x y H Q ∨ rCat x y H Q
theorem op_addA : OpR X (binaryOp .Add) (rAddA X.K) := OpR.or op_add (OpR.or op_catA op_cat)
def addD : D → D → Wp D
  | .int i, .int j => .ret (.int (i + j))
  | .tup a, .tup b => .chk (a.length + b.length ≤ 16777216) (.ret (.tup (a ++ b)))
  | .lst a, .lst b => .chk (a.length + b.length ≤ 16777216) (.ret (.lst (a ++ b)))
  | _, _ => .fail
theorem do_add : DOp c (rAddA c.K) addD := by
  intro dr G H x y dx dy Q b rx ry h
  unfold addD at h
  split at h
  · exact .inl ⟨_, _, rx.int_of, ry.int_of, h _ G H (Step.refl b) (.int _)⟩
  · obtain ⟨hz, h⟩ := h
    obtain ⟨a, xs, rfl, ha, qa⟩ := rx.tup_of
    obtain ⟨a', ys, rfl, hb, qb⟩ := ry.tup_of
    refine .inr (.inl ⟨a, a', xs, ys, rfl, rfl, SqT.of (b.sub _ _ ha), SqT.of (b.sub _ _ hb), line_le (by rw [qa.length, qb.length]; exact hz), fun e => ?_, fun _ e => ?_, fun _ _ p np => ?_⟩)
    · subst e
      cases qa
      exact h _ G H (Step.refl b) ry
    · subst e
      cases qb
      rw [List.append_nil] at h
      exact h _ G H (Step.refl b) rx
    · have s := Step.laid b np (.tup (xs ++ ys))
      exact h _ _ _ s (.tup upd_same ((qa.append qb).mono s.gs))
  · obtain ⟨hz, h⟩ := h
    obtain ⟨a, xs, rfl, ha, qa⟩ := rx.lst_of
    obtain ⟨a', ys, rfl, hb, qb⟩ := ry.lst_of
    refine .inr (.inr ⟨a, a', xs, ys, rfl, rfl, b.sub _ _ ha, b.sub _ _ hb, line_le (by rw [qa.length, qb.length]; exact hz), fun p np => ?_⟩)
    have s := Step.laid b np (.lst (xs ++ ys))
    exact h _ _ _ s (.lst upd_same ((qa.append qb).mono s.gs))
  · exact h.elim
def subD : D → D → Wp D
  | .int i, .int j => .ret (.int (i - j))
  | _, _ => .fail
theorem do_sub : DOp c (rI0 fun i j => .int (i - j)) subD := by
  intro dr G H x y dx dy Q b rx ry h
  unfold subD at h
  split at h
  · exact ⟨_, _, rx.int_of, ry.int_of, h _ G H (Step.refl b) (.int _)⟩
  · exact h.elim
def modD : D → D → Wp D
  | .int i, .int j => .chk (0 < j) (.ret (.int (i % j)))
  | _, _ => .fail
theorem do_mod : DOp c (rI (fun _ j => 0 < j) fun i j => .int (i % j)) modD := by
  intro dr G H x y dx dy Q b rx ry h
  unfold modD at h
  split at h
  · exact ⟨_, _, rx.int_of, ry.int_of, h.1, h.2 _ G H (Step.refl b) (.int _)⟩
  · exact h.elim
/-- a list, so many times -/
def repD : D → D → Wp D
  | .lst a, .int k => .chk (0 ≤ k ∧ k ≤ 1000 ∧ a.length ≤ 1000) (.ret (.lst (List.replicate k.toNat a).flatten))
  | _, _ => .fail
theorem do_rep : DOp c rRep repD := by
  intro dr G H x y dx dy Q b rx ry h
  unfold repD at h
  split at h
  · rename_i k
    obtain ⟨⟨h0, h1, h2⟩, h⟩ := h
    obtain ⟨p, xs, rfl, ha, qa⟩ := rx.lst_of
    refine ⟨p, _, xs, rfl, ry.int_of, b.sub _ _ ha, by omega, by omega, line_le ?_, fun q nq => ?_⟩
    · have hk : k.toNat ≤ 1000 := by omega
      exact Nat.le_trans (Nat.mul_le_mul (show xs.length ≤ 1000 by rw [qa.length]; exact h2) hk) (by decide)
    · have s := Step.laid b nq (.lst (List.replicate k.toNat xs).flatten)
      exact h _ _ _ s (.lst upd_same ((qa.replicate _).mono s.gs))
  · exact h.elim

/-! ### comparisons -/
def ltD : D → D → Wp D
  | .int i, .int j => .ret (.bl (decide (i < j)))
  | _, _ => .fail
def leD : D → D → Wp D
  | .int i, .int j => .ret (.bl (decide (i ≤ j)))
  | _, _ => .fail
def gtD : D → D → Wp D
  | .int i, .int j => .ret (.bl (decide (j < i)))
  | _, _ => .fail
theorem do_lt : DOp c (rI0 fun i j => .bl (decide (i < j))) ltD := by
  intro dr G H x y dx dy Q b rx ry h
  unfold ltD at h
  split at h
  · exact ⟨_, _, rx.int_of, ry.int_of, h _ G H (Step.refl b) (.bl _)⟩
  · exact h.elim
theorem do_le : DOp c (rI0 fun i j => .bl (decide (i ≤ j))) leD := by
  intro dr G H x y dx dy Q b rx ry h
  unfold leD at h
  split at h
  · exact ⟨_, _, rx.int_of, ry.int_of, h _ G H (Step.refl b) (.bl _)⟩
  · exact h.elim
theorem do_gt : DOp c (rI0 fun i j => .bl (decide (j < i))) gtD := by
  intro dr G H x y dx dy Q b rx ry h
  unfold gtD at h
  split at h
  · exact ⟨_, _, rx.int_of, ry.int_of, h _ G H (Step.refl b) (.bl _)⟩
  · exact h.elim
mutual
theorem R.dp {c : Ctx} {dr : Addr} {G H : Hp} (s : Same G H) : ∀ {d : D} {v : V}, R c dr G v d → D.cl d = true → Dp c.K H v d.py
  | .non, _, r, _ => by cases r; exact .non
  | .int i, _, r, _ => by cases r; exact .int i
  | .str x, _, r, _ => by cases r; exact .str x
  | .tup ds, _, r, h => by
    obtain ⟨a, xs, rfl, ha, q⟩ := r.tup_of
    exact .tup (SqT.of (s _ _ ha)) (Rs.dp s q (by simpa [D.cl] using h))
  | .lst ds, _, r, h => by
    obtain ⟨a, xs, rfl, ha, q⟩ := r.lst_of
    exact .lst (SqL.of (s _ _ ha)) (Rs.dp s q (by simpa [D.cl] using h))
  | .bl _, _, _, h => by simp [D.cl] at h
  | .dct _ _, _, _, h => by simp [D.cl] at h
  | .prg _ _ _ _, _, _, h => by simp [D.cl] at h
  | .sam _, _, _, h => by simp [D.cl] at h
  | .par _ _, _, _, h => by simp [D.cl] at h
  | .drw, _, _, h => by simp [D.cl] at h
theorem Rs.dp {c : Ctx} {dr : Addr} {G H : Hp} (s : Same G H) : ∀ {ds : List D} {vs : List V}, Rs c dr G vs ds → D.cls ds = true → DpAll c.K H vs (D.pys ds)
  | [], _, r, _ => by cases r; exact .nil
  | d :: ds, _, r, h => by
    cases r with
    | cons r q =>
      simp only [D.cls, Bool.and_eq_true] at h
      exact .cons (R.dp s r h.1) (Rs.dp s q h.2)
end
/-- data that may be compared: clean, and not too deep -/
def D.ok (d : D) : Prop := D.cl d = true ∧ D.dep d ≤ 64
theorem D.ok.shaped {d : D} (h : d.ok) : SeqAt.shaped d.py = true := by
  unfold SeqAt.shaped
  rw [Bool.and_eq_true]
  exact ⟨D.lay_cl d h.1, decide_eq_true (by rw [D.dep_py]; exact h.2)⟩
noncomputable def eqD : D → D → Wp D
  | .bl a, .bl b => .ret (.bl (a == b))
  | a, b => .chk (a.ok ∧ b.ok) (.ret (.bl (decide (a = b))))
noncomputable def neD : D → D → Wp D
  | .bl a, .bl b => .ret (.bl (!(a == b)))
  | a, b => .chk (a.ok ∧ b.ok) (.ret (.bl (!decide (a = b))))
def rEqA (K : PySem.W.Frag) : R2 := fun x y H Q => rEqD K x y H Q ∨ rEq x y H Q
def rNeA (K : PySem.W.Frag) : R2 := fun x y H Q => rNeD K x y H Q ∨ rNe x y H Q
theorem op_eqA (hu : X.A.units + 64 < cLine) : OpR X (compareOp .Eq) (rEqA X.K) := OpR.or (op_eqD hu) op_eq
theorem op_neA (hu : X.A.units + 64 < cLine) : OpR X (compareOp .NotEq) (rNeA X.K) := OpR.or (op_neD hu) op_ne
theorem do_eq : DOp c (rEqA c.K) eqD := by
  intro dr G H x y dx dy Q b rx ry h
  unfold eqD at h
  split at h
  · cases rx.bl_of
    cases ry.bl_of
    refine .inr ⟨rfl, ?_⟩
    rw [dec_bl]
    exact h _ G H (Step.refl b) (.bl _)
  · obtain ⟨⟨h1, h2⟩, h⟩ := h
    refine .inl ⟨dx.py, dy.py, rx.dp b.sub h1.1, ry.dp b.sub h2.1, h1.shaped, h2.shaped, ?_⟩
    rw [D.eqv_dec h1.1 h2.1]
    exact h _ G H (Step.refl b) (.bl _)
theorem do_ne : DOp c (rNeA c.K) neD := by
  intro dr G H x y dx dy Q b rx ry h
  unfold neD at h
  split at h
  · cases rx.bl_of
    cases ry.bl_of
    refine .inr ⟨rfl, ?_⟩
    rw [dec_bl]
    exact h _ G H (Step.refl b) (.bl _)
  · obtain ⟨⟨h1, h2⟩, h⟩ := h
    refine .inl ⟨dx.py, dy.py, rx.dp b.sub h1.1, ry.dp b.sub h2.1, h1.shaped, h2.shaped, ?_⟩
    rw [D.eqv_dec h1.1 h2.1]
    exact h _ G H (Step.refl b) (.bl _)
/-- is None, is not None, is True, is False -/
def isN : D → Bool
  | .non => true
  | _ => false
theorem R.isN {c : Ctx} {dr : Addr} {G : Hp} {v : V} {d : D} (r : R c dr G v d) : decide (v = .non) = Rr.isN d := by
  cases r <;> simp [Rr.isN]
def isD : D → D → Wp D
  | a, .non => .ret (.bl (isN a))
  | .bl a, .bl b => .ret (.bl (decide (a = b)))
  | _, _ => .fail
def nisD : D → D → Wp D
  | a, .non => .ret (.bl (!isN a))
  | .bl a, .bl b => .ret (.bl (!decide (a = b)))
  | _, _ => .fail
def rIsA : R2 := fun x y H Q => (y = .non ∧ Q (.bl (decide (x = .non))) H) ∨ rIsB x y H Q
def rNisA : R2 := fun x y H Q => (y = .non ∧ Q (.bl (!decide (x = .non))) H) ∨ rNotB x y H Q
theorem op_isA : OpR X (compareOp .Is) rIsA := OpR.or op_isN op_isBl
theorem op_nisA : OpR X (compareOp .IsNot) rNisA := OpR.or op_notN op_notBl
theorem do_is : DOp c rIsA isD := by
  intro dr G H x y dx dy Q b rx ry h
  unfold isD at h
  split at h
  · refine .inl ⟨ry.non_of, ?_⟩
    rw [rx.isN]
    exact h _ G H (Step.refl b) (.bl _)
  · exact .inr ⟨_, _, rx.bl_of, ry.bl_of, h _ G H (Step.refl b) (.bl _)⟩
  · exact h.elim
theorem do_nis : DOp c rNisA nisD := by
  intro dr G H x y dx dy Q b rx ry h
  unfold nisD at h
  split at h
  · refine .inl ⟨ry.non_of, ?_⟩
    rw [rx.isN]
    exact h _ G H (Step.refl b) (.bl _)
  · exact .inr ⟨_, _, rx.bl_of, ry.bl_of, h _ G H (Step.refl b) (.bl _)⟩
  · exact h.elim
/-- in a list of data; in a tuple of texts -/
def isS : D → Bool
  | .str _ => true
  | _ => false
noncomputable def inD : D → D → Wp D
  | .str x, .tup ds => .chk (ds.all isS = true) (.ret (.bl (decide (D.str x ∈ ds))))
  | a, .lst ds => .chk (a.ok ∧ (D.lst ds).ok) (.ret (.bl (decide (a ∈ ds))))
  | _, _ => .fail
noncomputable def ninD : D → D → Wp D
  | .str x, .tup ds => .chk (ds.all isS = true) (.ret (.bl (!decide (D.str x ∈ ds))))
  | a, .lst ds => .chk (a.ok ∧ (D.lst ds).ok) (.ret (.bl (!decide (a ∈ ds))))
  | _, _ => .fail
theorem any_eqv {a : D} (ha : D.cl a = true) : ∀ {ds : List D}, D.cls ds = true → ((D.pys ds).any fun z => PyData.eqv z a.py) = decide (a ∈ ds)
  | [], _ => by simp [D.pys]
  | d :: ds, h => by
    simp only [D.cls, Bool.and_eq_true] at h
    rw [D.pys, List.any_cons, any_eqv ha h.2, D.eqv_dec h.1 ha, Bool.eq_iff_iff, Bool.or_eq_true, decide_eq_true_eq, decide_eq_true_eq, decide_eq_true_eq, List.mem_cons]
    exact ⟨fun z => z.imp (fun q => q.symm) fun q => q, fun z => z.imp (fun q => q.symm) fun q => q⟩
theorem Rs.strs {c : Ctx} {dr : Addr} {G : Hp} {vs : List V} {ds : List D} (h : Rs c dr G vs ds) (hs : ds.all isS = true) (x : Str) : vs.all flatV = true ∧ inV (.str x) vs = decide (D.str x ∈ ds) := by
  induction vs generalizing ds with
  | nil => cases h; simp [inV]
  | cons v vs ih =>
    cases h with
    | cons r q =>
      rename_i d ds
      rw [List.all_cons, Bool.and_eq_true] at hs
      obtain ⟨h1, h2⟩ := ih q hs.2
      cases d with
      | str y =>
        cases r.str_of
        refine ⟨by rw [List.all_cons, h1]; rfl, ?_⟩
        have e : inV (.str x) (V.str y :: vs) = (eqV (.str y) (.str x) || inV (.str x) vs) := rfl
        have e2 : eqV (.str y) (.str x) = (y == x) := rfl
        rw [e, h2, e2, Bool.eq_iff_iff, Bool.or_eq_true, decide_eq_true_eq, decide_eq_true_eq, List.mem_cons, beq_iff_eq, D.str.injEq]
        exact ⟨fun z => z.imp (fun q => q.symm) fun q => q, fun z => z.imp (fun q => q.symm) fun q => q⟩
      | _ => simp [isS] at hs
def rInA (K : PySem.W.Frag) : R2 := fun x y H Q => rIn K false x y H Q ∨ rInD K x y H Q
def rNinA (K : PySem.W.Frag) : R2 := fun x y H Q => rIn K true x y H Q ∨ rNotInD K x y H Q
theorem op_inA (hu : X.A.units + 65 < cLine) : OpR X (compareOp .In) (rInA X.K) := OpR.or op_in_seq (op_inD hu)
theorem op_ninA (hu : X.A.units + 65 < cLine) : OpR X (compareOp .NotIn) (rNinA X.K) := OpR.or op_notIn_seq (op_notInD hu)
theorem do_in : DOp c (rInA c.K) inD := by
  intro dr G H x y dx dy Q b rx ry h
  unfold inD at h
  split at h
  · obtain ⟨h1, h⟩ := h
    cases rx.str_of
    obtain ⟨a, xs, rfl, ha, qa⟩ := ry.tup_of
    obtain ⟨f1, f2⟩ := qa.strs h1 _
    refine .inl ⟨a, xs, rfl, .inr (SqT.of (b.sub _ _ ha)), rfl, f1, ?_⟩
    rw [if_neg Bool.false_ne_true, f2]
    exact h _ G H (Step.refl b) (.bl _)
  · obtain ⟨⟨h1, h2⟩, h⟩ := h
    have r2 := ry.dp b.sub h2.1
    have r3 := h2.shaped
    simp only [D.py] at r2 r3
    refine .inr ⟨dx.py, _, rx.dp b.sub h1.1, r2, h1.shaped, r3, ?_⟩
    rw [any_eqv h1.1 (by simpa [D.cl] using h2.1)]
    exact h _ G H (Step.refl b) (.bl _)
  · exact h.elim
theorem do_nin : DOp c (rNinA c.K) ninD := by
  intro dr G H x y dx dy Q b rx ry h
  unfold ninD at h
  split at h
  · obtain ⟨h1, h⟩ := h
    cases rx.str_of
    obtain ⟨a, xs, rfl, ha, qa⟩ := ry.tup_of
    obtain ⟨f1, f2⟩ := qa.strs h1 _
    refine .inl ⟨a, xs, rfl, .inr (SqT.of (b.sub _ _ ha)), rfl, f1, ?_⟩
    rw [if_pos rfl, f2]
    exact h _ G H (Step.refl b) (.bl _)
  · obtain ⟨⟨h1, h2⟩, h⟩ := h
    have r2 := ry.dp b.sub h2.1
    have r3 := h2.shaped
    simp only [D.py] at r2 r3
    refine .inr ⟨dx.py, _, rx.dp b.sub h1.1, r2, h1.shaped, r3, ?_⟩
    rw [any_eqv h1.1 (by simpa [D.cl] using h2.1)]
    exact h _ G H (Step.refl b) (.bl _)
  · exact h.elim

/-! ### subscripts, slices -/
theorem Rs.at_ {c : Ctx} {dr : Addr} {G : Hp} {vs : List V} {ds : List D} (h : Rs c dr G vs ds) {i : Int} {d : D} (e : atI ds i = some d) : ∃ v, atI vs i = some v ∧ R c dr G v d := by
  unfold atI at e ⊢
  rw [h.length]
  cases q : ixN ds.length i with
  | none => rw [q] at e; cases e
  | some j =>
    rw [q] at e
    obtain ⟨v, h1, h2⟩ := h.get (i := j) e
    exact ⟨v, h1, h2⟩
def ixD : D → D → Wp D
  | .tup ds, .int i => .opt (atI ds i)
  | .lst ds, .int i => .opt (atI ds i)
  | _, _ => .fail
def rIxA (K : PySem.W.Frag) : R2 := fun x y H Q => rIxL K x y H Q ∨ rIxT K x y H Q
theorem ix_A : IxR X (rIxA X.K) := ix_list.or ix_tup
theorem do_ix : DOp c (rIxA c.K) ixD := by
  intro dr G H x y dx dy Q b rx ry h
  unfold ixD at h
  split at h
  · obtain ⟨d, e, h⟩ := h
    obtain ⟨a, xs, rfl, ha, qa⟩ := rx.tup_of
    obtain ⟨v, h1, h2⟩ := qa.at_ e
    exact .inr ⟨a, xs, _, v, rfl, ry.int_of, SqT.of (b.sub _ _ ha), h1, h v G H (Step.refl b) h2⟩
  · obtain ⟨d, e, h⟩ := h
    obtain ⟨a, xs, rfl, ha, qa⟩ := rx.lst_of
    obtain ⟨v, h1, h2⟩ := qa.at_ e
    exact .inl ⟨a, xs, _, v, rfl, ry.int_of, SqL.of (b.sub _ _ ha), h1, h v G H (Step.refl b) h2⟩
  · exact h.elim
theorem pd_ix {a i : Expr} {wa wi : WE} {pos : Pos} (ha : PD X cs a wa) (hi : PD X cs i wi) (hs : PlainIx i := by exact fun _ _ => rfl) : PD X cs (.Subscript a i pos) (wOp ixD wa wi) :=
  pe_of (pe_ix ix_A ha hi hs) fun σ H Q h => tOp_of (c := xc X cs) do_ix σ H Q h
/-- a slice's part -/
def wNo : Env → Wp (Option Int) := fun _ => .ret none
def partD : D → Wp (Option Int)
  | .int i => .ret (some i)
  | _ => .fail
def wPt (w : WE) : Env → Wp (Option Int) := fun ρ => (w ρ).bind partD
def tDO (c : Ctx) (w : Env → Wp (Option Int)) : TO := fun σ H Q => ∃ dr G ρ, Base dr G H ∧ EnvF c dr G σ ρ ∧ (w ρ).run fun o => ∀ G' H', Step dr G H G' H' → Q o H'
def POD (X : Cx) (cs : Cs) (e : Option Expr) (w : Env → Wp (Option Int)) : Prop := PO X e (tDO (xc X cs) w)
theorem po_of {e : Option Expr} {t t' : TO} (h : PO X e t) (k : ∀ σ H Q, t' σ H Q → t σ H Q) : PO X e t' := ⟨fun pins s σ H Q I x => h.run pins s σ H Q I (k σ H Q x)⟩
theorem pod_none : POD X cs none wNo := po_of po_none fun σ H Q ⟨dr, G, ρ, b, e, h⟩ => h G H (Step.refl b)
theorem pod_some {e : Expr} {w : WE} (h : PD X cs e w) : POD X cs (some e) (wPt w) :=
  po_of (po_some h) fun σ H Q ⟨dr, G, ρ, b, e, h⟩ => by
    refine tD_seq b e h fun d v G1 H1 s1 e1 r1 k1 => ?_
    unfold partD at k1
    split at k1
    · exact ⟨_, r1.int_of, k1 G1 H1 s1⟩
    · exact k1.elim
def cutD (xs : List D) (lo hi : Option Int) : List D := (xs.drop (HT.sIx xs.length 0 lo)).take (HT.sIx xs.length xs.length hi - HT.sIx xs.length 0 lo)
theorem Rs.cut {c : Ctx} {dr : Addr} {G : Hp} {vs : List V} {ds : List D} (h : Rs c dr G vs ds) (lo hi : Option Int) : Rs c dr G (cutV vs lo hi) (cutD ds lo hi) := by
  unfold cutV cutD
  rw [h.length]
  exact (h.drop _).take _
def slD (d : D) (lo hi : Option Int) : Wp D := match d with
  | .tup ds => .ret (.tup (cutD ds lo hi))
  | .lst ds => .ret (.lst (cutD ds lo hi))
  | _ => .fail
def wSl (a : WE) (l u : Env → Wp (Option Int)) : WE := fun ρ => (a ρ).bind fun d => (l ρ).bind fun lo => (u ρ).bind fun hi => slD d lo hi
theorem pd_sl {a : Expr} {lo hi : Option Expr} {wa : WE} {wl wh : Env → Wp (Option Int)} {p2 pos : Pos} (ha : PD X cs a wa) (hl : POD X cs lo wl) (hh : POD X cs hi wh) : PD X cs (.Subscript a (.Slice lo hi none p2) pos) (wSl wa wl wh) :=
  pe_of (pe_slice (SlR.or sl_tupA sl_list) ha hl hh) fun σ H Q ⟨dr, G, ρ, b, e, h⟩ => by
    refine tD_seq b e h fun d v G1 H1 s1 e1 r1 k1 => ?_
    refine ⟨dr, G1, ρ, s1.base, e1, (wl ρ).mono (fun l k2 G2 H2 s2 => ?_) k1⟩
    have e2 := e1.mono s2.gs
    refine ⟨dr, G2, ρ, s2.base, e2, (wh ρ).mono (fun u k3 G3 H3 s3 => ?_) k2⟩
    have r3 := (r1.mono s2.gs).mono s3.gs
    have s13 := (s1.trans b s2).trans b s3
    unfold slD at k3
    split at k3
    · obtain ⟨a, xs, rfl, hx, qa⟩ := r3.tup_of
      refine .inl ⟨a, xs, rfl, SqT.of (s3.base.sub _ _ hx), fun w => ?_, fun _ p np => ?_⟩
      · refine k3 _ G3 H3 s13 (.tup hx ?_)
        have z := qa.cut l u
        have ez : cutV xs l u = xs := by
          unfold cutV
          rw [w.1, w.2]
          simp
        rw [ez] at z
        exact z
      · have s := Step.laid s3.base np (.tup (cutV xs l u))
        exact k3 _ _ _ (s13.trans b s) (.tup upd_same ((qa.cut l u).mono s.gs))
    · obtain ⟨a, xs, rfl, hx, qa⟩ := r3.lst_of
      refine .inr ⟨a, xs, rfl, SqL.of (s3.base.sub _ _ hx), fun p np => ?_⟩
      have s := Step.laid s3.base np (.lst (cutV xs l u))
      exact k3 _ _ _ (s13.trans b s) (.lst upd_same ((qa.cut l u).mono s.gs))
    · exact k3.elim
/-- xs[::-1] -/
def revD : D → Wp D
  | .lst ds => .ret (.lst ds.reverse)
  | _ => .fail
def wRev (a : WE) : WE := fun ρ => (a ρ).bind revD
theorem pd_rev {e : Expr} {w : WE} {k : Nat} {p1 p2 p3 pos : Pos} (h : PD X cs e w) : PD X cs (.Subscript e (.Slice none none (some (.UnaryOp .USub (.Constant (.int 1) k p1) p2)) p3) pos) (wRev w) :=
  pe_of (pe_revL h) fun σ H Q ⟨dr, G, ρ, b, e, h⟩ => by
    refine tD_seq b e h fun d v G1 H1 s1 e1 r1 k1 => ?_
    unfold revD at k1
    split at k1
    · obtain ⟨a, xs, rfl, hx, qa⟩ := r1.lst_of
      refine ⟨a, xs, rfl, SqL.of (s1.base.sub _ _ hx), fun p np => ?_⟩
      have s := Step.laid s1.base np (.lst xs.reverse)
      exact k1 _ _ _ (s1.trans b s) (.lst upd_same (qa.reverse.mono s.gs))
    · exact k1.elim
/-- -1, -2 -/
def negD : D → Wp D
  | .int i => .ret (.int (-i))
  | _ => .fail
def wNeg (a : WE) : WE := fun ρ => (a ρ).bind negD
theorem pd_neg {e : Expr} {w : WE} {pos : Pos} (h : PD X cs e w) : PD X cs (.UnaryOp .USub e pos) (wNeg w) :=
  pe_of (pe_un un_neg h) fun σ H Q ⟨dr, G, ρ, b, e, h⟩ => by
    refine tD_seq b e h fun d v G1 H1 s1 e1 r1 k1 => ?_
    unfold negD at k1
    split at k1
    · exact ⟨_, r1.int_of, k1 _ G1 H1 s1 (.int _)⟩
    · exact k1.elim

/-! ### built-ins by values -/
def lenD : List D → Wp D
  | [.tup ds] => .ret (.int ds.length)
  | [.lst ds] => .ret (.int ds.length)
  | _ => .fail
theorem Rs.one {c : Ctx} {dr : Addr} {G : Hp} {vs : List V} {d : D} (h : Rs c dr G vs [d]) : ∃ v, vs = [v] ∧ R c dr G v d := by
  cases h with
  | cons r q => cases q; exact ⟨_, rfl, r⟩
theorem Rs.two {c : Ctx} {dr : Addr} {G : Hp} {vs : List V} {d e : D} (h : Rs c dr G vs [d, e]) : ∃ v u, vs = [v, u] ∧ R c dr G v d ∧ R c dr G u e := by
  cases h with
  | cons r q =>
    obtain ⟨u, rfl, r2⟩ := q.one
    exact ⟨_, _, rfl, r, r2⟩
theorem dc_len : DCall c (fun xs H Q => ∃ p ys, xs = [.ref p] ∧ (SqL c.K H p ys ∨ SqT c.K H p ys) ∧ Q (.int ys.length) H) lenD := by
  intro dr G H xs ds Q b r h
  unfold lenD at h
  split at h
  · obtain ⟨v, rfl, r0⟩ := r.one
    obtain ⟨a, xs, rfl, ha, qa⟩ := r0.tup_of
    refine ⟨a, xs, rfl, .inr (SqT.of (b.sub _ _ ha)), ?_⟩
    rw [qa.length]
    exact h _ G H (Step.refl b) (.int _)
  · obtain ⟨v, rfl, r0⟩ := r.one
    obtain ⟨a, xs, rfl, ha, qa⟩ := r0.lst_of
    refine ⟨a, xs, rfl, .inl (SqL.of (b.sub _ _ ha)), ?_⟩
    rw [qa.length]
    exact h _ G H (Step.refl b) (.int _)
  · exact h.elim
def listD : List D → Wp D
  | [.tup ds] => .ret (.lst ds)
  | [.lst ds] => .ret (.lst ds)
  | _ => .fail
theorem dc_list : DCall c (fun xs H Q => ∃ p ys, xs = [.ref p] ∧ (SqL c.K H p ys ∨ SqT c.K H p ys) ∧ ∀ l, H l = none → Q (.ref l) (upd H l (.lst ys))) listD := by
  intro dr G H xs ds Q b r h
  unfold listD at h
  split at h
  · obtain ⟨v, rfl, r0⟩ := r.one
    obtain ⟨a, xs, rfl, ha, qa⟩ := r0.tup_of
    refine ⟨a, xs, rfl, .inr (SqT.of (b.sub _ _ ha)), fun l nl => ?_⟩
    have s := Step.laid b nl (.lst xs)
    exact h _ _ _ s (.lst upd_same (qa.mono s.gs))
  · obtain ⟨v, rfl, r0⟩ := r.one
    obtain ⟨a, xs, rfl, ha, qa⟩ := r0.lst_of
    refine ⟨a, xs, rfl, .inl (SqL.of (b.sub _ _ ha)), fun l nl => ?_⟩
    have s := Step.laid b nl (.lst xs)
    exact h _ _ _ s (.lst upd_same (qa.mono s.gs))
  · exact h.elim
def tupleD : List D → Wp D
  | [.tup ds] => .ret (.tup ds)
  | [.lst ds] => .ret (.tup ds)
  | _ => .fail
theorem dc_tuple : DCall c (fun xs H Q => ∃ p ys, xs = [.ref p] ∧ ((SqL c.K H p ys ∧ ∀ l, H l = none → Q (.ref l) (upd H l (.tup ys))) ∨ (SqT c.K H p ys ∧ Q (.ref p) H))) tupleD := by
  intro dr G H xs ds Q b r h
  unfold tupleD at h
  split at h
  · obtain ⟨v, rfl, r0⟩ := r.one
    obtain ⟨a, xs, rfl, ha, qa⟩ := r0.tup_of
    exact ⟨a, xs, rfl, .inr ⟨SqT.of (b.sub _ _ ha), h _ G H (Step.refl b) (.tup ha qa)⟩⟩
  · obtain ⟨v, rfl, r0⟩ := r.one
    obtain ⟨a, xs, rfl, ha, qa⟩ := r0.lst_of
    refine ⟨a, xs, rfl, .inl ⟨SqL.of (b.sub _ _ ha), fun l nl => ?_⟩⟩
    have s := Step.laid b nl (.tup xs)
    exact h _ _ _ s (.tup upd_same (qa.mono s.gs))
  · exact h.elim
def intD : List D → Wp D
  | [.int i] => .ret (.int i)
  | [.bl k] => .ret (.int (if k then 1 else 0))
  | _ => .fail
theorem dc_int : DCall c (fun xs H Q => (∃ i, xs = [.int i] ∧ Q (.int i) H) ∨ ∃ k, xs = [.bl k] ∧ Q (.int (if k then 1 else 0)) H) intD := by
  intro dr G H xs ds Q b r h
  unfold intD at h
  split at h
  · obtain ⟨v, rfl, r0⟩ := r.one
    cases r0.int_of
    exact .inl ⟨_, rfl, h _ G H (Step.refl b) (.int _)⟩
  · obtain ⟨v, rfl, r0⟩ := r.one
    cases r0.bl_of
    exact .inr ⟨_, rfl, h _ G H (Step.refl b) (.int _)⟩
  · exact h.elim
def maxD : List D → Wp D
  | [.int i, .int j] => .ret (.int (if j > i then j else i))
  | _ => .fail
def minD : List D → Wp D
  | [.int i, .int j] => .ret (.int (if j < i then j else i))
  | _ => .fail
theorem dc_max : DCall c (fun xs H Q => ∃ i j, xs = [.int i, .int j] ∧ Q (.int (if j > i then j else i)) H) maxD := by
  intro dr G H xs ds Q b r h
  unfold maxD at h
  split at h
  · obtain ⟨v, u, rfl, r1, r2⟩ := r.two
    cases r1.int_of
    cases r2.int_of
    exact ⟨_, _, rfl, h _ G H (Step.refl b) (.int _)⟩
  · exact h.elim
theorem dc_min : DCall c (fun xs H Q => ∃ i j, xs = [.int i, .int j] ∧ Q (.int (if j < i then j else i)) H) minD := by
  intro dr G H xs ds Q b r h
  unfold minD at h
  split at h
  · obtain ⟨v, u, rfl, r1, r2⟩ := r.two
    cases r1.int_of
    cases r2.int_of
    exact ⟨_, _, rfl, h _ G H (Step.refl b) (.int _)⟩
  · exact h.elim
/-- the truth values of a list -/
def blsD : List D → Option (List Bool)
  | [] => some []
  | .bl b :: r => (blsD r).map (b :: ·)
  | _ :: _ => none
theorem Rs.bls {c : Ctx} {dr : Addr} {G : Hp} : ∀ {ds : List D} {vs : List V} {bs : List Bool}, Rs c dr G vs ds → blsD ds = some bs → vs = bs.map V.bl
  | [], _, bs, r, h => by
    cases r
    simp [blsD] at h
    subst h
    rfl
  | d :: ds, _, bs, r, h => by
    cases r with
    | cons r q =>
      cases d with
      | bl b =>
        rw [blsD] at h
        cases e : blsD ds with
        | none => rw [e] at h; cases h
        | some t =>
          rw [e] at h
          cases h
          rw [r.bl_of, Rs.bls q e]
          rfl
      | _ => simp [blsD] at h
def allD : List D → Wp D
  | [.lst ds] => (Wp.opt (blsD ds)).bind fun bs => .ret (.bl (bs.all id))
  | _ => .fail
def anyD : List D → Wp D
  | [.lst ds] => (Wp.opt (blsD ds)).bind fun bs => .ret (.bl (bs.any id))
  | _ => .fail
theorem dc_all : DCall c (rAll c.K) allD := by
  intro dr G H xs ds Q b r h
  unfold allD at h
  split at h
  · obtain ⟨bs, e, h⟩ := h
    obtain ⟨v, rfl, r0⟩ := r.one
    obtain ⟨a, xs, rfl, ha, qa⟩ := r0.lst_of
    have ez := qa.bls e
    subst ez
    exact ⟨a, bs, rfl, SqL.of (b.sub _ _ ha), h _ G H (Step.refl b) (.bl _)⟩
  · exact h.elim
theorem dc_any : DCall c (rAny c.K) anyD := by
  intro dr G H xs ds Q b r h
  unfold anyD at h
  split at h
  · obtain ⟨bs, e, h⟩ := h
    obtain ⟨v, rfl, r0⟩ := r.one
    obtain ⟨a, xs, rfl, ha, qa⟩ := r0.lst_of
    have ez := qa.bls e
    subst ez
    exact ⟨a, bs, rfl, SqL.of (b.sub _ _ ha), h _ G H (Step.refl b) (.bl _)⟩
  · exact h.elim
end
end Rr
/-! registerrooms: dicts with nested tuples as keys: in, not in, d[k], d[k] = v, setdefault, len, list. -/
namespace Rr
open PySem PySem.Spec PyProof.Rows L2

/-! ### by data -/
/-- the value at a key -/
noncomputable def dlook : List D → List D → D → Option D
  | k' :: ks, v :: vs, k => if k' = k then some v else dlook ks vs k
  | _, _, _ => none
noncomputable def dputK (ks : List D) (k : D) : List D := if k ∈ ks then ks else ks ++ [k]
noncomputable def dputV : List D → List D → D → D → List D
  | k' :: ks, v' :: vs, k, v => if k' = k then v :: vs else v' :: dputV ks vs k v
  | _, vs, _, v => vs ++ [v]
/-- what may be a key of these dicts: a tuple, not too deep -/
def D.kd (d : D) : Prop := D.kb d = true ∧ D.dep d ≤ 8 ∧ ∃ ds, d = .tup ds

/-! ### by entries -/
def elook : List DE → NestedKey → Option V
  | [], _ => none
  | e :: es, k => if e.1 = k then some e.2.2 else elook es k
def eput : List DE → NestedKey → Addr → V → List DE
  | [], k, a, v => [(k, a, v)]
  | e :: es, k, a, v => if e.1 = k then (e.1, e.2.1, v) :: es else e :: eput es k a v
theorem eput_length (k : NestedKey) (a : Addr) (v : V) : ∀ es : List DE, (eput es k a v).length ≤ es.length + 1
  | [] => by simp [eput]
  | e :: es => by
    unfold eput
    split
    · simp
    · have := eput_length k a v es
      simp only [List.length_cons]
      omega
abbrev ER (p : DE) (q : NestedKey × Addr × Value) : Prop := p.1 = q.1 ∧ p.2.1 = q.2.1 ∧ RelV p.2.2 q.2.2
theorem er_keys : ∀ {es : List DE} {xs : List (NestedKey × Addr × Value)}, Paired ER es xs → es.map (·.1) = xs.map (·.1)
  | _, _, .nil => rfl
  | _, _, .cons r t => by rw [List.map_cons, List.map_cons, r.1, er_keys t]
theorem er_look {k : NestedKey} : ∀ {es : List DE} {xs : List (NestedKey × Addr × Value)}, Paired ER es xs → RelO (elook es k) ((atKey xs k).map (·.2))
  | _, _, .nil => True.intro
  | _, _, .cons (a := e) (b := x) r t => by
    unfold elook
    by_cases h : e.1 = k
    · rw [if_pos h]
      have h2 : x.1 = k := by rw [← r.1]; exact h
      simp only [atKey, List.find?_cons, h2, decide_true]
      exact r.2.2
    · rw [if_neg h]
      have h2 : ¬ x.1 = k := by rw [← r.1]; exact h
      simp only [atKey, List.find?_cons, h2, decide_false]
      exact er_look t
theorem not_at {k : NestedKey} : ∀ {xs : List (NestedKey × Addr × Value)}, atKey xs k = none ↔ ∀ x ∈ xs, ¬ x.1 = k
  | [] => by simp [atKey]
  | x :: xs => by
    by_cases h : x.1 = k
    · simp [atKey, h]
    · have := not_at (k := k) (xs := xs)
      simp only [atKey, List.find?_cons, h, decide_false] at this ⊢
      rw [this]
      simp [h]
theorem put_none {k : NestedKey} {u : Value} : ∀ {xs : List (NestedKey × Addr × Value)}, (∀ x ∈ xs, ¬ x.1 = k) → xs.map (putAt k u) = xs
  | [], _ => rfl
  | x :: xs, h => by
    rw [List.map_cons, put_none fun y hy => h y (List.mem_cons_of_mem _ hy), putAt, if_neg (h x List.mem_cons_self)]
theorem er_put {k : NestedKey} {a : Addr} {v : V} {u : Value} (rv : RelV v u) : ∀ {es : List DE} {xs : List (NestedKey × Addr × Value)}, Paired ER es xs → (xs.map (·.1)).Nodup → Paired ER (eput es k a v) (storedH xs k a u)
  | _, _, .nil, _ => .cons ⟨rfl, rfl, rv⟩ .nil
  | _, _, .cons (a := e) (b := x) (l₁ := es) (l₂ := xs) r t, nd => by
    rw [List.map_cons, List.nodup_cons] at nd
    unfold eput
    by_cases h : e.1 = k
    · rw [if_pos h]
      have h2 : x.1 = k := by rw [← r.1]; exact h
      have h3 : (atKey (x :: xs) k) = some x.2 := by simp [atKey, h2]
      have h4 : xs.map (putAt k u) = xs := put_none fun y hy e2 => nd.1 (List.mem_map.mpr ⟨y, hy, e2.trans h2.symm⟩)
      rw [storedH_old h3, List.map_cons, h4, putAt, if_pos h2]
      exact .cons ⟨r.1, r.2.1, rv⟩ t
    · rw [if_neg h]
      have h2 : ¬ x.1 = k := by rw [← r.1]; exact h
      have ih := er_put (k := k) (a := a) rv t nd.2
      have h3 : atKey (x :: xs) k = atKey xs k := by simp [atKey, h2]
      have e : storedH (x :: xs) k a u = x :: storedH xs k a u := by
        unfold storedH
        rw [h3]
        split
        · rw [List.map_cons, putAt, if_neg h2]
        · rfl
      rw [e]
      exact .cons r ih

/-! ### both -/
section
variable {c : Ctx} {dr : Addr} {G : Hp}
/-- the entries are the data -/
structure EsD (c : Ctx) (dr : Addr) (G : Hp) (es : List DE) (ks vs : List D) : Prop where
  key : es.map (·.1) = ks.map D.key
  kb : D.kbs ks = true
  dep : D.deps ks ≤ 8
  ka : Rs c dr G (es.map fun e => V.ref e.2.1) ks
  va : Rs c dr G (es.map fun e => e.2.2) vs
theorem EsD.nil : EsD c dr G [] [] [] := ⟨rfl, rfl, Nat.zero_le _, .nil, .nil⟩
theorem EsD.mono {G' : Hp} {es : List DE} {ks vs : List D} (h : EsD c dr G es ks vs) (s : Same G G') : EsD c dr G' es ks vs := ⟨h.key, h.kb, h.dep, h.ka.mono s, h.va.mono s⟩
theorem EsD.uncons {e : DE} {es : List DE} {k : D} {ks : List D} {v : D} {vs : List D} (h : EsD c dr G (e :: es) (k :: ks) (v :: vs)) :
    e.1 = k.key ∧ D.kb k = true ∧ D.dep k ≤ 8 ∧ R c dr G (.ref e.2.1) k ∧ R c dr G e.2.2 v ∧ EsD c dr G es ks vs := by
  obtain ⟨h1, h2, h3, h4, h5⟩ := h
  simp only [List.map_cons, List.cons.injEq] at h1
  simp only [D.kbs, Bool.and_eq_true] at h2
  simp only [D.deps] at h3
  cases h4 with
  | cons r q =>
    cases h5 with
    | cons r2 q2 => exact ⟨h1.1, h2.1, by omega, r, r2, h1.2, h2.2, by omega, q, q2⟩
theorem EsD.cons {e : DE} {es : List DE} {k : D} {ks : List D} {v : D} {vs : List D} (h1 : e.1 = k.key) (h2 : D.kb k = true) (h3 : D.dep k ≤ 8) (h4 : R c dr G (.ref e.2.1) k) (h5 : R c dr G e.2.2 v) (h : EsD c dr G es ks vs) :
    EsD c dr G (e :: es) (k :: ks) (v :: vs) :=
  ⟨by rw [List.map_cons, List.map_cons, h1, h.key], by simp [D.kbs, h2, h.kb], by simp only [D.deps]; have := h.dep; omega, .cons h4 h.ka, .cons h5 h.va⟩
theorem EsD.lens {es : List DE} {ks vs : List D} (h : EsD c dr G es ks vs) : es.length = ks.length ∧ es.length = vs.length := by
  have a := h.ka.length
  have b := h.va.length
  simp only [List.length_map] at a b
  exact ⟨a, b⟩
theorem EsD.look {es : List DE} {ks vs : List D} (h : EsD c dr G es ks vs) {k : D} (hk : D.kb k = true) : (elook es k.key = none ∧ dlook ks vs k = none ∧ k ∉ ks) ∨ ∃ v d, elook es k.key = some v ∧ dlook ks vs k = some d ∧ R c dr G v d ∧ k ∈ ks := by
  induction es generalizing ks vs with
  | nil =>
    obtain ⟨a, b⟩ := h.lens
    cases ks with
    | nil => exact .inl ⟨rfl, by simp [dlook], by simp⟩
    | cons _ _ => simp at a
  | cons e es ih =>
    obtain ⟨a, b⟩ := h.lens
    cases ks with
    | nil => simp at a
    | cons k' ks =>
      cases vs with
      | nil => simp at b
      | cons v vs =>
        obtain ⟨h1, h2, h3, h4, h5, h6⟩ := h.uncons
        unfold elook dlook
        by_cases q : k' = k
        · rw [if_pos (by rw [h1, q]), if_pos q]
          exact .inr ⟨_, _, rfl, rfl, h5, by simp [q]⟩
        · rw [if_neg (fun z => q (D.key_inj h2 hk (h1.symm.trans z))), if_neg q]
          rcases ih h6 with ⟨z1, z2, z3⟩ | ⟨v', d, z1, z2, z3, z4⟩
          · exact .inl ⟨z1, z2, by simp [z3, Ne.symm q]⟩
          · exact .inr ⟨v', d, z1, z2, z3, List.mem_cons_of_mem _ z4⟩
theorem EsD.put {es : List DE} {ks vs : List D} (h : EsD c dr G es ks vs) {k d : D} {a : Addr} {v : V} (hk : k.kd) (ra : R c dr G (.ref a) k) (rv : R c dr G v d) : EsD c dr G (eput es k.key a v) (dputK ks k) (dputV ks vs k d) := by
  induction es generalizing ks vs with
  | nil =>
    obtain ⟨x, y⟩ := h.lens
    cases ks with
    | nil =>
      cases vs with
      | nil =>
        show EsD c dr G [(k.key, a, v)] (dputK [] k) (dputV [] [] k d)
        have e1 : dputK [] k = [k] := by simp [dputK]
        have e2 : dputV [] [] k d = [d] := by simp [dputV]
        rw [e1, e2]
        exact .cons rfl hk.1 hk.2.1 ra rv .nil
      | cons _ _ => simp at y
    | cons _ _ => simp at x
  | cons e es ih =>
    obtain ⟨x, y⟩ := h.lens
    cases ks with
    | nil => simp at x
    | cons k' ks =>
      cases vs with
      | nil => simp at y
      | cons v' vs =>
        obtain ⟨h1, h2, h3, h4, h5, h6⟩ := h.uncons
        unfold eput
        by_cases q : k' = k
        · rw [if_pos (by rw [h1, q])]
          have e1 : dputK (k' :: ks) k = k' :: ks := by simp [dputK, q]
          have e2 : dputV (k' :: ks) (v' :: vs) k d = d :: vs := by simp [dputV, q]
          rw [e1, e2]
          exact .cons h1 h2 h3 h4 rv h6
        · rw [if_neg (fun z => q (D.key_inj h2 hk.1 (h1.symm.trans z)))]
          have e1 : dputK (k' :: ks) k = k' :: dputK ks k := by
            unfold dputK
            by_cases m : k ∈ ks
            · simp [m]
            · simp [m, Ne.symm q]
          have e2 : dputV (k' :: ks) (v' :: vs) k d = v' :: dputV ks vs k d := by
            conv => lhs; unfold dputV
            rw [if_neg q]
          rw [e1, e2]
          exact .cons h1 h2 h3 h4 h5 (ih h6)
theorem R.dct_of {v : V} {ks vs : List D} (r : R c dr G v (.dct ks vs)) : ∃ a es o, v = .ref a ∧ G a = some (DctO c.P c.w a es o) ∧ EsD c dr G es ks vs := by
  cases r with
  | dct h e k dp q t => exact ⟨_, _, _, rfl, h, e, k, dp, q, t⟩
theorem EsD.R {es : List DE} {ks vs : List D} (h : EsD c dr G es ks vs) {a : Addr} {o : Obj} (g : G a = some (DctO c.P c.w a es o)) : Rr.R c dr G (.ref a) (.dct ks vs) := .dct g h.key h.kb h.dep h.ka h.va
end

/-! ### the machine's side -/
section
variable {X : Cx} {cs : Cs} {pins : List (Addr × Obj)} {σ : L2.St} {H : Hp} {s : Shared} {dr : Addr} {G : Hp}
mutual
theorem R.isKey (I : Inv X pins σ H s) (sub : Same G H) : ∀ {d : D} {v : V} {u : Value}, R (xc X cs) dr G v d → D.kb d = true → RelV v u → NestedIs s.heap d.key u
  | .non, _, _, r, _, e => by cases r; cases e; exact .none
  | .int i, _, _, r, _, e => by cases r; obtain ⟨t, rfl⟩ := e; exact .int i t
  | .str x, _, _, r, _, e => by cases r; obtain ⟨t, rfl⟩ := e; exact .text x t
  | .tup ds, _, _, r, h, e => by
    obtain ⟨a, xs, rfl, ha, q⟩ := r.tup_of
    cases e
    obtain ⟨_, its, rv, o, h1, h2, n, h3⟩ := (show ObjOk X.prog X.w H s.heap a (.tup xs) from I.hok a _ (sub _ _ ha))
    exact .tup h1 h2 h3 (by simpa using Rs.areKeys I sub q (by simpa [D.kb] using h) rv)
  | .bl _, _, _, _, h, _ => by simp [D.kb] at h
  | .lst _, _, _, _, h, _ => by simp [D.kb] at h
  | .dct _ _, _, _, _, h, _ => by simp [D.kb] at h
  | .prg _ _ _ _, _, _, _, h, _ => by simp [D.kb] at h
  | .sam _, _, _, _, h, _ => by simp [D.kb] at h
  | .par _ _, _, _, _, h, _ => by simp [D.kb] at h
  | .drw, _, _, _, h, _ => by simp [D.kb] at h
theorem Rs.areKeys (I : Inv X pins σ H s) (sub : Same G H) : ∀ {ds : List D} {vs : List V} {us : List Value}, Rs (xc X cs) dr G vs ds → D.kbs ds = true → Vals vs us → NestedAll s.heap (D.keys ds) us
  | [], _, _, r, _, e => by cases r; cases e; exact .nil
  | d :: ds, _, _, r, h, e => by
    cases r with
    | cons r q =>
      cases e with
      | cons e1 e2 =>
        simp only [D.kbs, Bool.and_eq_true] at h
        exact .cons (R.isKey I sub r h.1 e1) (Rs.areKeys I sub q h.2 e2)
end
/-- the dict's object, as the library tells it -/
theorem dct_lib (I : Inv X pins σ H s) (sub : Same G H) {a : Addr} {es : List DE} {o : Obj} {ks vs : List D} (h : H a = some (DctO X.prog X.w a es o)) (E : EsD (xc X cs) dr G es ks vs) :
    (a == sysModules) = false ∧ es.length ≤ sizeLine ∧ ∃ xs, Paired ER es xs ∧ s.heap.DictOfH (nestedKind X.prog X.w) a xs ∧ (xs.map (·.1)).Nodup := by
  obtain ⟨⟨h1, F⟩, _, _⟩ := I.hok a _ h
  obtain ⟨xs, pr, ds, ep, hx, hd, he, nd⟩ := F.ex
  refine ⟨F.ns, F.sz, xs, pr, ⟨o, ds, ep, h1, hx, hd, he, fun x hx => ?_, nd⟩, nd⟩
  obtain ⟨i, hi⟩ := List.mem_iff_getElem?.mp hx
  have lp : es.length = xs.length := Paired.length pr
  have hie : i < es.length := by rw [lp]; exact (List.getElem?_eq_some_iff.mp hi).1
  obtain ⟨y, hy, r1, r2, r3⟩ := paired_get pr (List.getElem?_eq_getElem hie)
  rw [hi] at hy
  cases hy
  obtain ⟨l1, l2⟩ := E.lens
  have hik : i < ks.length := by rw [← l1]; exact hie
  have e1 : ks[i]? = some ks[i] := List.getElem?_eq_getElem hik
  obtain ⟨v, hv, rk⟩ := E.ka.get e1
  rw [List.getElem?_map, List.getElem?_eq_getElem hie] at hv
  cases hv
  have ek : es[i].1 = ks[i].key := by
    have := congrArg (fun l => l[i]?) E.key
    simp only [List.getElem?_map, List.getElem?_eq_getElem hie, e1, Option.map_some, Option.some.injEq] at this
    exact this
  have hkb : D.kb ks[i] = true := by
    have := E.kb
    rw [D.kbs_all, List.all_eq_true] at this
    exact this _ (List.getElem_mem hik)
  have hdp : D.dep ks[i] ≤ 8 := by
    have h8 := E.dep
    have : ∀ (l : List D) (d : D), d ∈ l → D.dep d ≤ D.deps l := by
      intro l
      induction l with
      | nil => intro d h; simp at h
      | cons x l ih =>
        intro d h
        rcases List.mem_cons.mp h with rfl | h
        · simp only [D.deps]; omega
        · have := ih d h
          simp only [D.deps]; omega
    exact Nat.le_trans (this ks _ (List.getElem_mem hik)) h8
  rw [← r1, ← r2, ek]
  exact ⟨R.isKey I sub rk hkb rfl, by rw [D.dep_key _ hkb]; exact hdp⟩
/-- a datum that may be a key stands at an address -/
theorem kd_at (I : Inv X pins σ H s) (sub : Same G H) {k : D} {v : V} {u : Value} (hk : k.kd) (r : R (xc X cs) dr G v k) (e : RelV v u) : ∃ a, v = .ref a ∧ u = .ref a ∧ (nestedKind X.prog X.w).is s.heap k.key a := by
  obtain ⟨h1, h2, ds, rfl⟩ := hk
  have z := R.isKey I sub r h1 e
  obtain ⟨a, xs, rfl, _, _⟩ := r.tup_of
  cases e
  exact ⟨a, rfl, rfl, z, by rw [D.dep_key _ h1]; exact h2⟩
/-- behind a store -/
theorem dct_stored (I : Inv X pins σ H s) {a : Addr} {es es' : List DE} {o : Obj} {xs' : List (NestedKey × Addr × Value)} {h' : Heap} {t' : Nat} (h : H a = some (DctO X.prog X.w a es o)) (ns : (a == sysModules) = false) (sz : es'.length ≤ sizeLine)
    (pr : Paired ER es' xs') (hm : h'.DictOfH (nestedKind X.prog X.w) a xs') (sb : Heap.SameBut a s.heap h') : ∃ o', Inv X pins σ (upd H a (DctO X.prog X.w a es' o')) { s with heap := h', toks := t' } := by
  obtain ⟨o', ds, ep, h1, h2, h3, h4, _, h6⟩ := hm
  refine ⟨o', I.write (x := a) (e := a) (by rw [h]; exact True.intro) (.inl rfl) (fun b q hb z => (sb.2 b hb).trans z) ⟨o', h1⟩ ?_⟩
  exact ⟨⟨h1, ns, sz, xs', pr, ds, ep, h2, h3, h4, h6⟩, ⟨o', h1⟩, fun k1 k2 ⟨z1, z2⟩ st => ⟨st _ z1, z2⟩⟩
end

/-! ### the rules -/
section
variable {X : Cx} {cs : Cs}
def rInE (c : Ctx) (neg : Bool) : R2 := fun x y H Q => ∃ dr G k ks vs, Same G H ∧ R c dr G x k ∧ R c dr G y (.dct ks vs) ∧ k.kd ∧ Q (.bl (if neg then !decide (k ∈ ks) else decide (k ∈ ks))) H
theorem isSome_of {es : List DE} {xs : List (NestedKey × Addr × Value)} (pr : Paired ER es xs) (k : NestedKey) : (atKey xs k).isSome = (elook es k).isSome := by
  have r := er_look (k := k) pr
  cases h1 : elook es k with
  | none =>
    rw [h1] at r
    cases h2 : atKey xs k with
    | none => rfl
    | some p => rw [h2] at r; exact r.elim
  | some v =>
    rw [h1] at r
    cases h2 : atKey xs k with
    | none => rw [h2] at r; exact r.elim
    | some p => rfl
theorem op_inE (hu : X.A.units + 64 < cLine) : OpR X (compareOp .In) (rInE (xc X cs) false) := by
  intro pins s σ H x y v u Q I rx ry ⟨dr, G, k, ks, vs, sub, r1, r2, hk, q⟩
  obtain ⟨a, es, o, rfl, ga, E⟩ := r2.dct_of
  cases ry
  obtain ⟨ka, rfl, rfl, hkey⟩ := kd_at I sub hk r1 rx
  obtain ⟨ns, sz, xs, pr, hm, nd⟩ := dct_lib I sub (sub _ _ ga) E
  refine wpAny_in_heap (show X.A.in1.units + 8 < cLine by show X.A.units + 1 + 8 < cLine; omega) hkey ns hm ?_
  rw [isSome_of pr]
  refine ⟨.bl _, H, I.tok _, rfl, ?_⟩
  rw [if_neg Bool.false_ne_true] at q
  rcases E.look hk.1 with ⟨z1, _, z3⟩ | ⟨v, d, z1, _, _, z3⟩
  · rw [z1]
    rw [decide_eq_false z3] at q
    exact q
  · rw [z1]
    rw [decide_eq_true z3] at q
    exact q
theorem op_ninE (hu : X.A.units + 64 < cLine) : OpR X (compareOp .NotIn) (rInE (xc X cs) true) := by
  intro pins s σ H x y v u Q I rx ry ⟨dr, G, k, ks, vs, sub, r1, r2, hk, q⟩
  obtain ⟨a, es, o, rfl, ga, E⟩ := r2.dct_of
  cases ry
  obtain ⟨ka, rfl, rfl, hkey⟩ := kd_at I sub hk r1 rx
  obtain ⟨ns, sz, xs, pr, hm, nd⟩ := dct_lib I sub (sub _ _ ga) E
  refine notIn_keyed (show X.A.in1.units + 8 < cLine by show X.A.units + 1 + 8 < cLine; omega) hkey ns ⟨xs, hm, rfl⟩ ?_
  rw [valueAt_pairsH, Option.isSome_map, isSome_of pr]
  refine ⟨.bl _, H, I.tok _, rfl, ?_⟩
  rw [if_pos rfl] at q
  rcases E.look hk.1 with ⟨z1, _, z3⟩ | ⟨v, d, z1, _, _, z3⟩
  · rw [z1]
    rw [decide_eq_false z3] at q
    exact q
  · rw [z1]
    rw [decide_eq_true z3] at q
    exact q
noncomputable def inE : D → D → Wp D
  | k, .dct ks _ => .chk k.kd (.ret (.bl (decide (k ∈ ks))))
  | _, _ => .fail
noncomputable def ninE : D → D → Wp D
  | k, .dct ks _ => .chk k.kd (.ret (.bl (!decide (k ∈ ks))))
  | _, _ => .fail
theorem do_inE {c : Ctx} : DOp c (rInE c false) inE := by
  intro dr G H x y dx dy Q b rx ry h
  unfold inE at h
  split at h
  · exact ⟨dr, G, _, _, _, b.sub, rx, ry, h.1, by rw [if_neg Bool.false_ne_true]; exact h.2 _ G H (Step.refl b) (.bl _)⟩
  · exact h.elim
theorem do_ninE {c : Ctx} : DOp c (rInE c true) ninE := by
  intro dr G H x y dx dy Q b rx ry h
  unfold ninE at h
  split at h
  · exact ⟨dr, G, _, _, _, b.sub, rx, ry, h.1, by rw [if_pos rfl]; exact h.2 _ G H (Step.refl b) (.bl _)⟩
  · exact h.elim
/-- d[k] -/
noncomputable def ixE : D → D → Wp D
  | .dct ks vs, k => .chk k.kd (.opt (dlook ks vs k))
  | _, _ => .fail
theorem pd_ixE {a i : Expr} {wa wi : WE} {pos : Pos} (hu : X.A.units + 64 < cLine) (ha : PD X cs a wa) (hi : PD X cs i wi) (hs : NoSl i := by exact fun _ _ => rfl) : PD X cs (.Subscript a i pos) (wOp ixE wa wi) := by
  refine ⟨fun pins s σ H Q I ⟨dr, G, ρ, b, e, h⟩ => ?_⟩
  have go : tD (xc X cs) wa σ H fun x H1 => tD (xc X cs) wi σ H1 fun y H2 => ∃ dr G k ks vs d, Same G H2 ∧ R (xc X cs) dr G y k ∧ R (xc X cs) dr G x (.dct ks vs) ∧ k.kd ∧ dlook ks vs k = some d ∧ ∀ v, R (xc X cs) dr G v d → Q v H2 := by
    refine tD_seq b e h fun dx vx G1 H1 s1 e1 r1 k1 => ?_
    refine tD_seq s1.base e1 k1 fun dy vy G2 H2 s2 e2 r2 k2 => ?_
    replace k2 : (ixE dx dy).run (Wish (xc X cs) dr G H Q) := k2
    unfold ixE at k2
    split at k2
    · obtain ⟨hk, d, hd, k2⟩ := k2
      exact ⟨dr, G2, _, _, _, d, s2.base.sub, r2, r1.mono s2.gs, hk, hd, fun v rv => k2 v G2 H2 (s1.trans b s2) rv⟩
    · exact k2.elim
  refine subD_of PySem.F.slot_dict_getitem.lookup hs (thn (ha.run pins s σ H _ I go) fun u s1 ⟨x, H1, I1, rx, q1⟩ => thn (hi.run pins s1 σ H1 _ I1 q1) fun iv s2 ⟨y, H2, I2, ry, q2⟩ => ?_)
  obtain ⟨dr2, G2, k, ks, vs, d, sub, r1, r2, hk, hd, q⟩ := q2
  obtain ⟨a, es, o, rfl, ga, E⟩ := r2.dct_of
  obtain rfl : u = Value.ref a := rx
  obtain ⟨ka, rfl, rfl, hkey⟩ := kd_at I2 sub hk r1 ry
  obtain ⟨ns, sz, xs, pr, hm, nd⟩ := dct_lib I2 sub (sub _ _ ga) E
  refine ⟨hm.typeIs, ?_⟩
  rcases E.look hk.1 with ⟨_, z2, _⟩ | ⟨v, d', z1, z2, z3, _⟩
  · rw [z2] at hd
    cases hd
  · rw [z2] at hd
    cases hd
    have r := er_look (k := k.key) pr
    rw [z1] at r
    obtain ⟨w, ew, rw'⟩ := r.some_of
    obtain ⟨p, hp, rfl⟩ := Option.map_eq_some_iff.mp ew
    exact wpAny_getItem_heap (show X.A.in1.units + 8 < cLine by show X.A.units + 1 + 8 < cLine; omega) hkey hm hp ⟨v, H2, I2.tok _, rw', q v z3⟩
/-- d[k] = v, by values -/
def rSetE (c : Ctx) : V → V → V → Hp → (Hp → Prop) → Prop := fun o i v H Q => ∃ dr G a es ob ks vs k, o = .ref a ∧ H a = some (DctO c.P c.w a es ob) ∧ EsD c dr G es ks vs ∧ Same G H ∧ R c dr G i k ∧ k.kd ∧ es.length < sizeLine ∧
  ∀ ka ob', i = .ref ka → Q (upd H a (DctO c.P c.w a (eput es k.key ka v) ob'))
theorem set_E (hu : X.A.units + 64 < cLine) : PSet X (rSetE (xc X cs)) := by
  intro pins s σ H o i v ov iv u Q I ro ri rv ⟨dr, G, a, es, ob, ks, vs, k, ho, ha, E, sub, r1, hk, hz, q⟩
  subst ho
  cases ro
  obtain ⟨ka, rfl, rfl, hkey⟩ := kd_at I sub hk r1 ri
  obtain ⟨ns, sz, xs, pr, hm, nd⟩ := dct_lib I sub ha E
  have lp : es.length = xs.length := Paired.length pr
  refine wpAny_setItem_heap (hsz := by rw [← lp]; exact sz) (show X.A.in1.units + 8 < cLine by show X.A.units + 1 + 8 < cLine; omega) hkey hm fun h' hm' sb => ?_
  have hl := eput_length k.key ka v es
  obtain ⟨o', I'⟩ := dct_stored (t' := s.toks + (nestedKind X.prog X.w).draws k.key) I ha ns (by omega) (er_put rv pr nd) hm' sb
  exact ⟨_, I', q ka o' rfl⟩
end
end Rr
/-! registerrooms: targets, what is walked. -/
namespace Rr
open PySem PySem.Spec PyProof.Rows L2

/-! ### steps where an object that G does not know changes -/
section
variable {dr : Addr} {G H G1 H1 : Hp}
/-- an object of ours at a (it was not there at the start) is written -/
theorem Step.mut (s : Step dr G H G1 H1) (b : Base dr G H) {a : Addr} {o : HO} (n0 : H a = none) (ng : G1 a = none) : Step dr G H G1 (upd H1 a o) := by
  have ad : a ≠ dr := fun e => b.hdr (e ▸ n0)
  refine ⟨fun x u hx h => ?_, s.gs, ⟨fun x u h => ?_, ?_⟩, s.new, fun z n h => let ⟨m, q⟩ := s.dsc z n h; ⟨m, by rw [upd_ne (Ne.symm ad)]; exact q⟩⟩
  · rw [upd_ne (ne_of_none h n0)]
    exact s.hs x u hx h
  · rw [upd_ne (ne_of_none h ng)]
    exact s.base.sub x u h
  · obtain ⟨d0, z, n, ns, h1, h2, h3, h4⟩ := s.base.draw
    exact ⟨d0, z, n, ns, by rw [upd_ne (Ne.symm ad)]; exact h1, h2, h3, h4⟩
/-- G comes to know an object of ours -/
theorem Step.freeze (s : Step dr G H G1 H1) (b : Base dr G H) {a : Addr} {o : HO} (n0 : H a = none) (ng : G1 a = none) (h : H1 a = some o) : Step dr G H (upd G1 a o) H1 := by
  have ad : a ≠ dr := fun e => b.hdr (e ▸ n0)
  have sg : Same G1 (upd G1 a o) := fun x u q => by rw [upd_ne (ne_of_none q ng)]; exact q
  refine ⟨s.hs, s.gs.trans sg, ⟨fun x u q => ?_, ?_⟩, fun x q => ?_, s.dsc⟩
  · by_cases e : x = a
    · subst e
      rw [upd_same] at q
      rw [← q]
      exact h
    · rw [upd_ne e] at q
      exact s.base.sub x u q
  · obtain ⟨d0, z, n, ns, h1, h2, h3, h4⟩ := s.base.draw
    exact ⟨by rw [upd_ne (Ne.symm ad)]; exact d0, z, n, ns, h1, h2, sg _ _ h3, h4⟩
  · by_cases e : x = a
    · exact .inr (e ▸ n0)
    · rw [upd_ne e] at q
      exact s.new x q
/-- what was not known and was there stays unknown -/
theorem Step.out (s : Step dr G H G1 H1) {a : Addr} (ng : G a = none) (h : H a ≠ none) : G1 a = none := by
  cases e : G1 a with
  | none => rfl
  | some o =>
    rcases s.new a (by rw [e]; exact fun z => nomatch z) with q | q
    · exact absurd ng q
    · exact absurd q h
theorem Step.none0 (s : Step dr G H G1 H1) (b : Base dr G H) {a : Addr} (h : H1 a = none) : H a = none := by
  cases e : H a with
  | none => rfl
  | some o =>
    by_cases q : a = dr
    · rw [q] at h
      exact absurd h s.base.hdr
    · rw [s.hs a o q e] at h
      cases h
end

/-! ### slots -/
def setA {α : Type} : List (Option α) → List Nat → List α → List (Option α)
  | σ, i :: is, v :: vs => setA (σ.set i (some v)) is vs
  | σ, _, _ => σ
theorem setA_length {α : Type} : ∀ (is : List Nat) (σ : List (Option α)) (vs : List α), (setA σ is vs).length = σ.length
  | [], _, _ => by simp [setA]
  | _ :: _, _, [] => by simp [setA]
  | i :: is, σ, v :: vs => by rw [setA, setA_length is, List.length_set]
theorem setA_out {α : Type} {j : Nat} : ∀ (is : List Nat) (σ : List (Option α)) (vs : List α), j ∉ is → (setA σ is vs)[j]? = σ[j]?
  | [], _, _, _ => by simp [setA]
  | _ :: _, _, [], _ => by simp [setA]
  | i :: is, σ, v :: vs, h => by
    rw [setA, setA_out is _ _ fun z => h (List.mem_cons_of_mem _ z), List.getElem?_set_ne fun z => h (by simp [z])]
theorem setA_app {α : Type} : ∀ (is js : List Nat) (σ : List (Option α)) (vs us : List α), vs.length = is.length → setA σ (is ++ js) (vs ++ us) = setA (setA σ is vs) js us
  | [], _, _, vs, _, h => by
    have : vs = [] := List.eq_nil_of_length_eq_zero h
    subst this
    simp [setA]
  | i :: is, js, σ, vs, us, h => by
    cases vs with
    | nil => simp at h
    | cons v vs =>
      simp only [List.cons_append, setA]
      exact setA_app is js _ vs us (by simpa using h)
def wipeE (ρ : Env) : List Nat → Env
  | [] => ρ
  | v :: vs => (wipeE ρ vs).set v none
theorem wipeE_length (ρ : Env) : ∀ vs : List Nat, (wipeE ρ vs).length = ρ.length
  | [] => rfl
  | v :: vs => by unfold wipeE; rw [List.length_set, wipeE_length ρ vs]
theorem wipeE_at (ρ : Env) (j : Nat) : ∀ vs : List Nat, (wipeE ρ vs)[j]? = if j ∈ vs ∧ j < ρ.length then some none else ρ[j]?
  | [] => by simp [wipeE]
  | v :: vs => by
    unfold wipeE
    have ih := wipeE_at ρ j vs
    by_cases q : v = j
    · subst q
      rw [List.getElem?_set, if_pos rfl, wipeE_length]
      by_cases l : v < ρ.length
      · simp [l]
      · simp [l]
    · rw [List.getElem?_set_ne q, ih]
      have : (j ∈ v :: vs) ↔ j ∈ vs := by simp [Ne.symm q]
      simp only [this]
theorem wipe_at (σ : L2.St) (j : Nat) : ∀ vs : List Nat, (wipe σ vs)[j]? = if j ∈ vs ∧ j < σ.length then some none else σ[j]?
  | [] => by simp [L2.wipe]
  | v :: vs => by
    unfold L2.wipe
    have ih := wipe_at σ j vs
    by_cases q : v = j
    · subst q
      rw [List.getElem?_set, if_pos rfl, wipe_length]
      by_cases l : v < σ.length
      · simp [l]
      · simp [l]
    · rw [List.getElem?_set_ne q, ih]
      have : (j ∈ v :: vs) ↔ j ∈ vs := by simp [Ne.symm q]
      simp only [this]
/-- what the wiped slots held is lost; the others' stay -/
theorem wipeE_some {ρ : Env} {vs : List Nat} {j : Nat} {d : D} (h : (wipeE ρ vs)[j]? = some (some d)) : j ∉ vs ∧ ρ[j]? = some (some d) := by
  rw [wipeE_at] at h
  by_cases c : j ∈ vs ∧ j < ρ.length
  · rw [if_pos c] at h; cases h
  · rw [if_neg c] at h
    refine ⟨fun m => c ⟨m, ?_⟩, h⟩
    exact (List.getElem?_eq_some_iff.mp h).1
theorem EnvF.wipe {c : Ctx} {dr : Addr} {G : Hp} {σ : L2.St} {ρ : Env} (e : EnvF c dr G σ ρ) (vs : List Nat) : EnvF c dr G (wipe σ vs) (wipeE ρ vs) := by
  refine ⟨by rw [wipeE_length, wipe_length, e.len], fun i d h => ?_⟩
  obtain ⟨n, h⟩ := wipeE_some h
  obtain ⟨v, h1, h2⟩ := e.get i d h
  exact ⟨v, by rw [wipe_at, if_neg fun z => n z.1]; exact h1, h2⟩
/-- a state whose owned slots are looked away from -/
theorem EnvF.mask {c : Ctx} {dr : Addr} {G : Hp} {σ : L2.St} {ρ : Env} (e : EnvF c dr G σ ρ) (vs : List Nat) : EnvF c dr G σ (wipeE ρ vs) :=
  ⟨by rw [wipeE_length, e.len], fun i d h => e.get i d (wipeE_some h).2⟩
theorem wipe_setA {σ : L2.St} {is vs : List Nat} {xs : List V} (h : ∀ i ∈ is, i ∈ vs) : wipe (setA (wipe σ vs) is xs) vs = wipe σ vs := by
  refine List.ext_getElem? fun j => ?_
  rw [wipe_at, setA_length, wipe_length]
  by_cases c : j ∈ vs ∧ j < σ.length
  · rw [if_pos c, wipe_at, if_pos c]
  · rw [if_neg c]
    by_cases m : j ∈ is
    · have l : ¬ j < σ.length := fun l => c ⟨h j m, l⟩
      rw [List.getElem?_eq_none (by rw [setA_length, wipe_length]; omega), List.getElem?_eq_none (by rw [wipe_length]; omega)]
    · exact setA_out _ _ _ m
theorem EnvF.setA {c : Ctx} {dr : Addr} {G : Hp} : ∀ {is : List Nat} {σ : L2.St} {ρ : Env} {vs : List V} {ds : List D}, EnvF c dr G σ ρ → Rs c dr G vs ds → EnvF c dr G (Rr.setA σ is vs) (Rr.setA ρ is ds)
  | [], _, _, _, _, e, _ => by simpa [Rr.setA] using e
  | i :: is, σ, ρ, _, _, e, .nil => by simpa [Rr.setA] using e
  | i :: is, σ, ρ, _, _, e, .cons r q => EnvF.setA (is := is) (e.set i r) q
theorem wipeE_setA {ρ : Env} {W is : List Nat} {ds : List D} (h : ∀ i ∈ is, i ∉ W) : wipeE (Rr.setA ρ is ds) W = Rr.setA (wipeE ρ W) is ds := by
  induction is generalizing ρ ds with
  | nil => simp [Rr.setA]
  | cons i is ih =>
    cases ds with
    | nil => simp [Rr.setA]
    | cons d ds =>
      rw [Rr.setA, Rr.setA, ih fun j hj => h j (List.mem_cons_of_mem _ hj)]
      congr 1
      refine List.ext_getElem? fun j => ?_
      have n := h i List.mem_cons_self
      by_cases q : i = j
      · subst q
        rw [wipeE_at, if_neg fun z => n z.1]
        by_cases l : i < ρ.length
        · rw [List.getElem?_set_self l, List.getElem?_set_self (by rw [wipeE_length]; exact l)]
        · rw [List.getElem?_eq_none (by simp; omega), List.getElem?_eq_none (by simp [wipeE_length]; omega)]
      · rw [List.getElem?_set_ne q, wipeE_at, wipeE_at, List.length_set, List.getElem?_set_ne q]

/-! ### targets -/
abbrev SetD := D → Wp (List D)
/-- a target takes a value apart; is: its slots, from the left -/
def gD (c : Ctx) (f : SetD) (is : List Nat) : TG := fun v σ H Q => ∃ dr G d, Base dr G H ∧ R c dr G v d ∧ (f d).run fun ds => ∀ vs, Rs c dr G vs ds → Q (setA σ is vs) H
def gsD (c : Ctx) (f : List D → Wp (List D)) (is : List Nat) : TGs := fun xs σ H Q => ∃ dr G ds, Base dr G H ∧ Rs c dr G xs ds ∧ (f ds).run fun es => ∀ vs, Rs c dr G vs es → Q (setA σ is vs) H
def PGD (X : Cx) (cs : Cs) (t : Expr) (f : SetD) (is : List Nat) : Prop := PG X t (gD (xc X cs) f is)
def PGsD (X : Cx) (cs : Cs) (ts : List Expr) (f : List D → Wp (List D)) (is : List Nat) : Prop := PGs X ts (gsD (xc X cs) f is)
theorem pg_of {X : Cx} {t : Expr} {g g' : TG} (h : PG X t g) (k : ∀ v σ H Q, g' v σ H Q → g v σ H Q) : PG X t g' := ⟨fun pins s σ H v u Q I r x => h.run pins s σ H v u Q I r (k v σ H Q x)⟩
theorem pgs_of {X : Cx} {t : List Expr} {g g' : TGs} (h : PGs X t g) (k : ∀ v σ H Q, g' v σ H Q → g v σ H Q) : PGs X t g' := ⟨fun pins s σ H v u Q I r x => h.run pins s σ H v u Q I r (k v σ H Q x)⟩
def setN : SetD := fun d => .ret [d]
def setNil : List D → Wp (List D)
  | [] => .ret []
  | _ :: _ => .fail
def setCons (n : Nat) (f : SetD) (g : List D → Wp (List D)) : List D → Wp (List D)
  | d :: ds => (f d).bind fun xs => .chk (xs.length = n) ((g ds).bind fun ys => .ret (xs ++ ys))
  | [] => .fail
def setT (n : Nat) (f : List D → Wp (List D)) : SetD := fun d => match d with
  | .tup ds => .chk (ds.length = n) (f ds)
  | _ => .fail
section
variable {X : Cx} {cs : Cs} {pos : Pos}
theorem pgd_name (i : Nat) {x : Str} (hN : X.N.Nodup) (hi : X.N[i]? = some x := by rfl) (hx : Loc X.env.scope x := by first | exact Or.inl rfl | exact Or.inr rfl) (hf : X.fn x = true ∨ X.env.scope.names.lookup x = some .local := by first | exact .inl rfl | exact .inr rfl | assumption) : PGD X cs (.Name x pos) setN [i] :=
  pg_of (pg_name hN hi hx hf) fun v σ H Q ⟨dr, G, d, b, r, h⟩ => h [v] (.cons r .nil)
theorem pgsd_nil : PGsD X cs [] setNil [] :=
  pgs_of pgs_nil fun v σ H Q ⟨dr, G, d, b, r, h⟩ => by
    cases r with
    | nil => exact ⟨rfl, h [] .nil⟩
    | cons r q => exact h.elim
theorem pgsd_cons {t : Expr} {ts : List Expr} {f : SetD} {g : List D → Wp (List D)} {is js : List Nat} (h1 : PGD X cs t f is) (h2 : PGsD X cs ts g js)
    (hs : (assignEach (t :: ts) X.env).map (·.2) = assign t X.env :: (assignEach ts X.env).map (·.2) := by rfl) : PGsD X cs (t :: ts) (setCons is.length f g) (is ++ js) :=
  pgs_of (pgs_cons h1 h2 hs) fun v σ H Q ⟨dr, G, d, b, r, h⟩ => by
    cases r with
    | nil => exact h.elim
    | cons r q =>
      refine ⟨_, _, rfl, dr, G, _, b, r, (f _).mono (fun xs k vs rv => ?_) h⟩
      refine ⟨dr, G, _, b, q, (g _).mono (fun ys k2 us ru => ?_) k.2⟩
      rw [← setA_app _ _ _ _ _ (by rw [rv.length]; exact k.1)]
      exact k2 _ (rv.append ru)
theorem pgd_tup {ts : List Expr} {k : Nat} {f : List D → Wp (List D)} {is : List Nat} (n : Nat) (hc : X.calm = true) (h : PGsD X cs ts f is)
    (hn : (assignEach ts X.env).length = n := by rfl) (hst : (assignEach ts X.env).findIdx? (·.1) = none := by rfl) : PGD X cs (.Tuple ts k pos) (setT n f) is :=
  pg_of (pg_tup hc h hn hst) fun v σ H Q ⟨dr, G, d, b, r, h⟩ => by
    unfold setT at h
    split at h
    · obtain ⟨a, xs, rfl, ha, qa⟩ := r.tup_of
      exact ⟨a, xs, rfl, SqT.of (b.sub _ _ ha), by rw [qa.length]; exact h.1, dr, G, _, b, qa, h.2⟩
    · exact h.elim
end

/-! ### what is walked -/
/-- the walk J yields the data ds -/
def IterD (c : Ctx) (dr : Addr) (G : Hp) (J : It) (ds : List D) : Prop := ∀ i G2 H2, Same G G2 → Base dr G2 H2 →
  (i < ds.length → J.go i H2 ∧ ∀ x H', J.yld i H2 x H' → ∃ G' d, Step dr G2 H2 G' H' ∧ ds[i]? = some d ∧ R c dr G' x d) ∧ (i = ds.length → J.stop i H2)
abbrev WI := Env → Wp (List D)
def tDI (c : Ctx) (w : WI) : TI := fun σ H Q => ∃ dr G ρ, Base dr G H ∧ EnvF c dr G σ ρ ∧ (w ρ).run fun ds => ∀ J G' H', Step dr G H G' H' → IterD c dr G' J ds → Q J H'
def PID (X : Cx) (cs : Cs) (tg e : Expr) (w : WI) : Prop := PI X tg e (tDI (xc X cs) w)
theorem pi_of {X : Cx} {tg e : Expr} {t t' : TI} (h : PI X tg e t) (k : ∀ σ H Q, t' σ H Q → t σ H Q) : PI X tg e t' := ⟨fun pins s σ H Q I x => h.run pins s σ H Q I (k σ H Q x)⟩
section
variable {c : Ctx} {dr : Addr} {G : Hp}
theorem SqL_inj {K : PySem.W.Frag} {H : Hp} {a : Addr} {xs ys : List V} (h : H a = some (.lst xs)) (q : ∀ zs, SqL K H a zs → ys = ys) : True := True.intro
theorem iter_lst {a : Addr} {xs : List V} {ds : List D} (h : G a = some (.lst xs)) (r : Rs c dr G xs ds) : IterD c dr G (Itl c.K a) ds := by
  intro i G2 H2 s b
  have hq := SqL.of (K := c.K) (b.sub _ _ (s _ _ h))
  refine ⟨fun hi => ?_, fun hi => ⟨xs, hq, by rw [r.length]; omega⟩⟩
  have hx : i < xs.length := by rw [r.length]; exact hi
  refine ⟨⟨xs, xs[i], hq, List.getElem?_eq_getElem hx⟩, fun x H' ⟨e, y⟩ => ?_⟩
  subst e
  have y := y xs hq
  obtain ⟨d, h1, h2⟩ := r.get' y
  exact ⟨G2, d, Step.refl b, h1, h2.mono s⟩
theorem iter_tup {a : Addr} {xs : List V} {ds : List D} (h : G a = some (.tup xs)) (r : Rs c dr G xs ds) : IterD c dr G (Itt c.K a) ds := by
  intro i G2 H2 s b
  have hq := SqT.of (K := c.K) (b.sub _ _ (s _ _ h))
  refine ⟨fun hi => ?_, fun hi => ⟨xs, hq, by rw [r.length]; omega⟩⟩
  have hx : i < xs.length := by rw [r.length]; exact hi
  refine ⟨⟨xs, xs[i], hq, List.getElem?_eq_getElem hx⟩, fun x H' ⟨e, y⟩ => ?_⟩
  subst e
  have y := y xs hq
  obtain ⟨d, h1, h2⟩ := r.get' y
  exact ⟨G2, d, Step.refl b, h1, h2.mono s⟩
def rangeD (lo : Int) (n : Nat) : List D := (List.range n).map fun k => D.int (lo + (k : Nat))
theorem rangeD_length (lo : Int) (n : Nat) : (rangeD lo n).length = n := by simp [rangeD]
theorem iter_rng (lo : Int) (n : Nat) : IterD c dr G (Itr lo n) (rangeD lo n) := by
  intro i G2 H2 s b
  rw [rangeD_length]
  refine ⟨fun hi => ⟨hi, fun x H' ⟨e, y⟩ => ?_⟩, fun hi => Nat.le_of_eq hi.symm⟩
  subst e y
  exact ⟨G2, _, Step.refl b, by simp [rangeD, hi], .int _⟩
/-- the keys of a dict that stays -/
def Itke (P : Program) (w : World) (a : Addr) (es : List DE) (o : Obj) : It :=
  ⟨fun i H => H a = some (DctO P w a es o) ∧ i < es.length, fun i H x H' => H' = H ∧ ∃ e, es[i]? = some e ∧ x = .ref e.2.1, fun i H => H a = some (DctO P w a es o) ∧ es.length ≤ i⟩
theorem dct_obj {X : Cx} {pins : List (Addr × Obj)} {σ : L2.St} {H : Hp} {s : Shared} {a : Addr} {es : List DE} {o : Obj} (I : Inv X pins σ H s) (h : H a = some (DctO X.prog X.w a es o)) :
    s.heap.get? a = some o ∧ (a == sysModules) = false ∧ o.ExactDict ∧ ∃ (en : Array DictEntry) (ep : Nat), o.data = .dict en ep ∧ en.size = es.length ∧ ∀ (i : Nat) (e : DE), es[i]? = some e → ∃ q, en[i]? = some q ∧ q.key = .ref e.2.1 ∧ L2.RelV e.2.2 q.val := by
  obtain ⟨⟨h1, F⟩, _, _⟩ := I.hok a _ h
  obtain ⟨xs, pr, ds, ep, hx, hd, he, nd⟩ := F.ex
  have lp : es.length = xs.length := Paired.length pr
  refine ⟨h1, F.ns, hx, ds, ep, hd, by rw [lp]; exact size_of_entries he, fun i e hi => ?_⟩
  obtain ⟨b, hb, r1, r2, r3⟩ := paired_get pr hi
  have q := entry_at he i
  rw [hb] at q
  refine ⟨_, q, ?_, ?_⟩
  · show Value.ref b.2.1 = Value.ref e.2.1
    rw [r2]
  · exact r3
theorem turn_keysE {P : Program} {w : World} {K : PySem.W.Frag} {tg : Expr} {a : Addr} {es : List DE} {o : Obj} {en : Array DictEntry} {ep : Nat} (it : Addr) (hod : o.data = .dict en ep) : Turn P w K tg (Itke P w a es o) [it] it (fun i h => h.IsKeyIter it a i es.length ep) where
  mem := by simp
  obj := fun i h st b hb => by
    obtain rfl : b = it := by simpa using hb
    obtain ⟨oi, e, _, dd⟩ := st
    exact ⟨oi, e, fun v z => by rw [dd] at z; cases z⟩
  keep := fun i h h' st k => st.at fun oi e => k it (by simp) oi e
  item := by
    intro X hP hw hK hc i pins s σ H E I hf st ⟨hd, hi⟩
    subst hP hw hK
    obtain ⟨f0, f1, f2, f3, f4, f5⟩ := hf it (by simp)
    obtain ⟨hgd, hs, hx, en', ep', hdt, hsz, ent⟩ := dct_obj I hd
    obtain ⟨rfl, rfl⟩ := dict_ep hod hdt
    obtain ⟨q, hq, hk, _⟩ := ent i _ (List.getElem?_eq_getElem hi)
    refine next_key_item st hgd hdt hsz hq fun h' st' sb => ?_
    have I1 : Inv X pins σ H { s with heap := h' } := I.turned (t' := s.toks) (fun b ob hb e => (sb.2 b hb).trans e) f0 f1 f3 f4 f5
    obtain ⟨oi, e, c, dd⟩ := id st'
    exact ⟨q.key, rfl, go_of (s := { s with heap := h' }) e c dd (by decide) ⟨.ref es[i].2.1, H, I1, hk, ⟨rfl, _, List.getElem?_eq_getElem hi, rfl⟩, st', fun b hb => (hf b hb).1⟩⟩
  done := by
    intro X hP hw hK hc i pins s σ H E I hf st ⟨hd, hi⟩
    subst hP hw hK
    obtain ⟨f0, f1, f2, f3, f4, f5⟩ := hf it (by simp)
    obtain ⟨hgd, hs, hx, en', ep', hdt, hsz, ent⟩ := dct_obj I hd
    obtain ⟨rfl, rfl⟩ := dict_ep hod hdt
    exact next_key_end (I.ok.hd hc) st hgd hdt hsz hi fun h' eb => ⟨rfl, I.turned (t' := s.toks) (fun b ob hb e => eb b ob hb e) f0 f1 f3 f4 f5⟩
  self := fun A i s Q E st h => by
    refine wpAny_pyIter_slot st.typeIs F.slot_dict_keyiterator_iter (wpAny_call_entry F.slot_dict_keyiterator_iter st.typeIs F.entry_dict_keyiterator_iter ?_ (F.args_dict_keyiterator_iter_1 _))
    show wpAny _ _ (ret (.ref it)) _ _ s
    exact wpAny_pure ⟨_, rfl, "dict_keyiterator", _, st.typeIs, F.slot_dict_keyiterator_next.lookup, h⟩
theorem iter_dct {a : Addr} {es : List DE} {o : Obj} {ks vs : List D} (h : G a = some (DctO c.P c.w a es o)) (E : EsD c dr G es ks vs) : IterD c dr G (Itke c.P c.w a es o) ks := by
  intro i G2 H2 s b
  have hq := b.sub _ _ (s _ _ h)
  have l := E.lens.1
  refine ⟨fun hi => ?_, fun hi => ⟨hq, by omega⟩⟩
  refine ⟨⟨hq, by omega⟩, fun x H' ⟨e, q, y, ex⟩ => ?_⟩
  subst e ex
  obtain ⟨d, h1, h2⟩ := E.ka.get' (i := i) (v := .ref q.2.1) (by rw [List.getElem?_map, y]; rfl)
  exact ⟨G2, d, Step.refl b, h1, h2.mono s⟩
end
def walkD : D → Wp (List D)
  | .tup ds => .ret ds
  | .lst ds => .ret ds
  | .dct ks _ => .ret ks
  | _ => .fail
def wWalk (w : WE) : WI := fun ρ => (w ρ).bind walkD
section
variable {X : Cx} {cs : Cs} {tg : Expr}
/-- what comes of walking a value -/
theorem walk_run {pins : List (Addr × Obj)} {s : Shared} {σ : L2.St} {H : Hp} {dr : Addr} {G : Hp} {v : V} {u : Value} {d : D} {Q : It → Hp → Prop} (I : Inv X pins σ H s) (b : Base dr G H) (r : R (xc X cs) dr G v d) (rv : RelV v u)
    (h : (walkD d).run fun ds => ∀ J G' H', Step dr G H G' H' → IterD (xc X cs) dr G' J ds → Q J H') : wpAny (model X.prog X.w) X.A (pyIter u) (PIE X pins σ tg Q) X.xe s := by
  unfold walkD at h
  split at h
  · obtain ⟨a, xs, rfl, ha, qa⟩ := r.tup_of
    obtain rfl : u = Value.ref a := rv
    obtain ⟨its, rl, p, hz⟩ := I.tuple (SqT.of (b.sub _ _ ha))
    exact wpAny_pyIter_tuple (show s.heap.IsTuple a its.toArray from p) (pi_one (tk := s.toks) I _ (turn_tuple a _) ⟨_, Heap.get?_push_size _ rfl, rfl, rfl⟩ (h _ G H (Step.refl b) (iter_tup ha qa)))
  · obtain ⟨a, xs, rfl, ha, qa⟩ := r.lst_of
    obtain rfl : u = Value.ref a := rv
    obtain ⟨its, rl, p, hz⟩ := I.list (SqL.of (b.sub _ _ ha))
    exact wpAny_pyIter_list p.isList (pi_one (tk := s.toks) I _ (turn_list a _) ⟨_, Heap.get?_push_size _ rfl, rfl, rfl⟩ (h _ G H (Step.refl b) (iter_lst ha qa)))
  · obtain ⟨a, es, o, rfl, ha, E⟩ := r.dct_of
    obtain rfl : u = Value.ref a := rv
    obtain ⟨hgd, hs, hx, en, ep, hdt, hsz, _⟩ := dct_obj I (b.sub _ _ ha)
    refine iter_keys hs hgd hx hdt (pi_one (tk := s.toks) I _ (turn_keysE _ hdt) ⟨_, Heap.get?_push_size _ rfl, rfl, ?_⟩ (h _ G H (Step.refl b) (iter_dct ha E)))
    rw [hsz] <;> rfl
  · exact h.elim
theorem pid_val {e : Expr} {w : WE} (he : PD X cs e w) : PID X cs tg e (wWalk w) := by
  refine ⟨fun pins s σ H Q I ⟨dr, G, ρ, b, ev, h⟩ => ?_⟩
  refine thn (he.run pins s σ H (fun v H1 => ∃ G1 d, Step dr G H G1 H1 ∧ R (xc X cs) dr G1 v d ∧ (walkD d).run fun ds => ∀ J G' H', Step dr G1 H1 G' H' → IterD (xc X cs) dr G' J ds → Q J H') I (tD_seq b ev h fun d v G1 H1 s1 e1 r1 k1 => ?_)) fun u s1 ⟨v, H1, I1, rv, G1, d, s1', r1, k1⟩ => walk_run I1 s1'.base r1 rv k1
  exact ⟨G1, d, s1, r1, (walkD d).mono (fun ds k J G' H' s2 it => k J G' H' (s1.trans b s2) it) k1⟩
def rng1D : List D → Wp (List D)
  | [.int j] => .chk (-1152921504606846976 ≤ j ∧ j < 1152921504606846976) (.ret (rangeD 0 j.toNat))
  | _ => .fail
def rng2D : List D → Wp (List D)
  | [.int i, .int j] => .chk (-1152921504606846976 ≤ i ∧ i < 1152921504606846976 ∧ -1152921504606846976 ≤ j ∧ j < 1152921504606846976) (.ret (rangeD i (j - i).toNat))
  | _ => .fail
def wRng1 (w : WA) : WI := fun ρ => (w ρ).bind rng1D
def wRng2 (w : WA) : WI := fun ρ => (w ρ).bind rng2D
theorem pid_range1 {a : Expr} {ta : WA} {p pos : Pos} (hg : Gl X "range") (hm : X.mg "range" = none) (ha : PAD X cs [a] ta) (hs : starEach [a] X.env = [(false, eval a X.env)] := by rfl) : PID X cs tg (.Call (.Name "range" p) [a] [] pos) (wRng1 ta) :=
  pi_of (pi_range1 hg hm ha hs) fun σ H Q ⟨dr, G, ρ, b, e, h⟩ => by
    refine tDA_seq b e h fun ds vs G1 H1 s1 e1 r1 k1 => ?_
    unfold rng1D at k1
    split at k1
    · obtain ⟨v, rfl, r0⟩ := r1.one
      cases r0.int_of
      obtain ⟨⟨q1, q2⟩, k1⟩ := k1
      exact ⟨_, rfl, by omega, by omega, k1 _ G1 H1 s1 (iter_rng 0 _)⟩
    · exact k1.elim
theorem pid_range2 {a a2 : Expr} {ta : WA} {p pos : Pos} (hg : Gl X "range") (hm : X.mg "range" = none) (ha : PAD X cs [a, a2] ta) (hs : starEach [a, a2] X.env = [(false, eval a X.env), (false, eval a2 X.env)] := by rfl) (hs2 : starEach [a2] X.env = [(false, eval a2 X.env)] := by rfl) :
    PID X cs tg (.Call (.Name "range" p) [a, a2] [] pos) (wRng2 ta) :=
  pi_of (pi_range2 hg hm ha hs hs2) fun σ H Q ⟨dr, G, ρ, b, e, h⟩ => by
    refine tDA_seq b e h fun ds vs G1 H1 s1 e1 r1 k1 => ?_
    unfold rng2D at k1
    split at k1
    · obtain ⟨v, u, rfl, r0, r2⟩ := r1.two
      cases r0.int_of
      cases r2.int_of
      obtain ⟨⟨q1, q2, q3, q4⟩, k1⟩ := k1
      exact ⟨_, _, rfl, ⟨by omega, by omega, by omega, by omega⟩, k1 _ G1 H1 s1 (iter_rng _ _)⟩
    · exact k1.elim
end
end Rr
/-! registerrooms: list comprehensions. -/
namespace Rr
open PySem PySem.Spec PyProof.Rows L2

/-! ### [e for t in i if c] -/
def wYes : WT := fun _ => .ret true
def lcN (f : SetD) (is vs : List Nat) (tt : WT) (te : WE) (ρ : Env) : List D → Wp (List D)
  | [] => .ret []
  | d :: ds => (f d).bind fun xs => (tt (setA (wipeE ρ vs) is xs)).bind fun b => if b = true then (te (setA (wipeE ρ vs) is xs)).bind fun y => (lcN f is vs tt te ρ ds).bind fun ys => .ret (y :: ys) else lcN f is vs tt te ρ ds
def wLc (wi : WI) (f : SetD) (is vs : List Nat) (tt : WT) (te : WE) : WE := fun ρ => (wi ρ).bind fun ds => .chk (ds.length ≤ 16777216) ((lcN f is vs tt te ρ ds).bind fun ys => .ret (.lst ys))
def PTsD (X : Cx) (cs : Cs) (ifs : List Expr) (w : WT) : Prop := PTs X ifs (tDT (xc X cs) w)
theorem pts_of {X : Cx} {ifs : List Expr} {t t' : TT} (h : PTs X ifs t) (k : ∀ σ H Q, t' σ H Q → t σ H Q) : PTs X ifs t' := ⟨fun pins s σ H Q I x => h.run pins s σ H Q I (k σ H Q x)⟩
section
variable {X : Cx} {cs : Cs}
theorem ptsd_nil : PTsD X cs [] wYes := pts_of pts_nil fun σ H Q ⟨dr, G, ρ, b, e, h⟩ => h G H (Step.refl b)
theorem ptsd_one {e : Expr} {t : WT} (h : PTD X cs e t) : PTsD X cs [e] t := pts_one h
theorem drop_cons {α : Type} {l : List α} {i : Nat} {d : α} (h : l[i]? = some d) : l.drop i = d :: l.drop (i + 1) := by
  obtain ⟨hi, e⟩ := List.getElem?_eq_some_iff.mp h
  rw [List.drop_eq_getElem_cons hi, e]
/-- the block's context -/
abbrev Blk (X : Cx) (scope : Scope) (p : Cx → Prop) : Prop := ∀ (s : Shared) (H : Hp) (C : Addr) (cl : List (Str × Addr)) (fp : List Addr), p (X.blk s H scope (compEnvC scope cl C X.env) fp)
theorem lc_ok {c : Ctx} {wi : WI} {f : SetD} {is vs : List Nat} {tt : WT} {te : WE} (hv : ∀ i ∈ is, i ∈ vs) (σ : L2.St) (H : Hp) (Q : VK) (h : tD c (wLc wi f is vs tt te) σ H Q) : tLc (tDI c wi) (gD c f is) (tDT c tt) (tD c te) vs σ H Q := by
  obtain ⟨dr, G, ρ, b, e, h⟩ := h
  refine ⟨dr, G, ρ, b, e, (wi ρ).mono (fun ds k J G1 H1 s1 it D nD => ?_) h⟩
  obtain ⟨hz, k⟩ := k
  have e1 := e.mono s1.gs
  have b1 := s1.base
  refine ⟨fun i m H2 => m = ds.length - i ∧ i ≤ ds.length ∧ ∃ G2 acc ad, Step dr G1 H1 G2 H2 ∧ G2 D = none ∧ H2 D = some (.lst acc) ∧ Rs c dr G2 acc ad ∧ acc.length ≤ i ∧ (lcN f is vs tt te ρ (ds.drop i)).run fun ys => Wish c dr G H Q (.lst (ad ++ ys)),
    ⟨ds.length, by simp, Nat.zero_le _, G1, [], [], Step.laidH b1 nD _, b1.sub.free nD, upd_same, .nil, Nat.le_refl _, k⟩, ?_⟩
  rintro i m H2 ⟨rfl, hi, G2, acc, ad, s2, gD2, hD2, ra, hl, k⟩
  have j := it i G2 H2 s2.gs s2.base
  by_cases q : i < ds.length
  · obtain ⟨jg, jy⟩ := j.1 q
    refine .inr ⟨jg, fun H3 => ∃ G3 acc ad, Step dr G1 H1 G3 H3 ∧ G3 D = none ∧ H3 D = some (.lst acc) ∧ Rs c dr G3 acc ad ∧ acc.length ≤ i + 1 ∧ (lcN f is vs tt te ρ (ds.drop (i + 1))).run fun ys => Wish c dr G H Q (.lst (ad ++ ys)),
      fun H3 ⟨G3, acc, ad, z⟩ => ⟨ds.length - (i + 1), by omega, rfl, q, G3, acc, ad, z⟩, fun x H3 y => ?_⟩
    obtain ⟨G3, d, s3, hd, rx⟩ := jy x H3 y
    rw [drop_cons hd, lcN] at k
    refine ⟨dr, G3, d, s3.base, rx, (f d).mono (fun xs k vs' rv => ⟨wipe_setA hv, ?_⟩) k⟩
    have s13 := s2.trans b1 s3
    have e3 : EnvF c dr G3 (setA (wipe σ vs) is vs') (setA (wipeE ρ vs) is xs) := ((e1.mono s13.gs).wipe vs).setA rv
    have gD3 : G3 D = none := s3.out gD2 (by rw [hD2]; exact fun z => nomatch z)
    have hdr : D ≠ dr := fun z => b1.hdr (z ▸ nD)
    have hD3 : H3 D = some (.lst acc) := s3.hs D _ hdr hD2
    refine tDT_seq s3.base e3 k fun t G4 H4 s4 e4 k4 => ?_
    have s14 := s13.trans b1 s4
    have gD4 : G4 D = none := s4.out gD3 (by rw [hD3]; exact fun z => nomatch z)
    have hD4 : H4 D = some (.lst acc) := s4.hs D _ hdr hD3
    cases t with
    | true =>
      refine iteT (tD_seq s4.base e4 k4 fun z v G5 H5 s5 e5 r5 k5 => ?_)
      have s15 := s14.trans b1 s5
      have gD5 : G5 D = none := s5.out gD4 (by rw [hD4]; exact fun z => nomatch z)
      have hD5 : H5 D = some (.lst acc) := s5.hs D _ hdr hD4
      refine ⟨acc, hD5, line_lt (by omega), G5, _, ad ++ [z], s15.mut b1 nD gD5, gD5, upd_same, (((ra.mono s3.gs).mono s4.gs).mono s5.gs).append (.cons r5 .nil), by simp; omega, ?_⟩
      refine (lcN f is vs tt te ρ (ds.drop (i + 1))).mono (fun ys k6 => ?_) k5
      rw [List.append_assoc]
      exact k6
    | false => exact iteF ⟨G4, acc, ad, s14, gD4, hD4, (ra.mono s3.gs).mono s4.gs, by omega, k4⟩
  · have hi2 : i = ds.length := by omega
    refine .inl ⟨j.2 hi2, ?_⟩
    rw [hi2, List.drop_length, lcN] at k
    have s4 := s2.freeze b1 nD gD2 hD2
    rw [Wp.run_ret, List.append_nil] at k
    exact k (.ref D) _ _ (s1.trans b s4) (.lst upd_same (ra.mono fun x u z => by rw [upd_ne (ne_of_none z gD2)]; exact z))
theorem pd_lc {elt tg iter : Expr} {ifs : List Expr} {scope : Scope} {own : List (Str × Nat)} {pos : Pos} {wi : WI} {f : SetD} {is : List Nat} {tt : WT} {te : WE} (hc : X.calm = true) (hN : X.N.Nodup) (hi : PID X cs tg iter wi) (ok : BlkOk X.N X.env.scope scope own) (hv : ∀ i ∈ is, i ∈ own.map (·.2))
    (hg : Blk X scope fun Y => PGD Y cs tg f is) (ht : Blk X scope fun Y => PTsD Y cs ifs tt) (he : Blk X scope fun Y => PD Y cs elt te) (hs : ∀ x, foldedSetIterable iter X.env x = pure x := by intro _; rfl) :
    PD X cs (.ListComp elt [⟨tg, iter, ifs, 0⟩] scope pos) (wLc wi f is (own.map (·.2)) tt te) :=
  pe_of (pe_lc (g := gD (xc X cs) f is) (tt := tDT (xc X cs) tt) (te := tD (xc X cs) te) hc hN hi ok hg ht he hs) fun σ H Q h => lc_ok hv σ H Q h

/-! ### [e for t in i for t' in i'] -/
def lcN2 (f : SetD) (is vs : List Nat) (wi1 : WI) (f1 : SetD) (is1 vs1 : List Nat) (tt1 : WT) (te : WE) (ρ : Env) : List D → Wp (List D)
  | [] => .ret []
  | d :: ds => (f d).bind fun xs => (wi1 (setA (wipeE ρ vs) is xs)).bind fun es => .chk (es.length ≤ 4096) ((lcN f1 is1 vs1 tt1 te (setA (wipeE ρ vs) is xs) es).bind fun ys => (lcN2 f is vs wi1 f1 is1 vs1 tt1 te ρ ds).bind fun zs => .ret (ys ++ zs))
def wLc2 (wi : WI) (f : SetD) (is vs : List Nat) (wi1 : WI) (f1 : SetD) (is1 vs1 : List Nat) (tt1 : WT) (te : WE) : WE := fun ρ => (wi ρ).bind fun ds => .chk (ds.length ≤ 4096) ((lcN2 f is vs wi1 f1 is1 vs1 tt1 te ρ ds).bind fun ys => .ret (.lst ys))
theorem lc2_ok {c : Ctx} {wi wi1 : WI} {f f1 : SetD} {is vs is1 vs1 : List Nat} {tt1 : WT} {te : WE} (hv : ∀ i ∈ is, i ∈ vs) (hv1 : ∀ i ∈ is1, i ∈ vs1) (σ : L2.St) (H : Hp) (Q : VK) (h : tD c (wLc2 wi f is vs wi1 f1 is1 vs1 tt1 te) σ H Q) :
    tLc2 (tDI c wi) (gD c f is) (tDT c wYes) (tDI c wi1) (gD c f1 is1) (tDT c tt1) (tD c te) vs vs1 σ H Q := by
  obtain ⟨dr, G, ρ, b, e, h⟩ := h
  refine ⟨dr, G, ρ, b, e, (wi ρ).mono (fun ds k J G1 H1 s1 it D nD => ?_) h⟩
  obtain ⟨hz, k⟩ := k
  have e1 := e.mono s1.gs
  have b1 := s1.base
  have hdr : D ≠ dr := fun z => b1.hdr (z ▸ nD)
  refine ⟨fun i m H2 => m = ds.length - i ∧ i ≤ ds.length ∧ ∃ G2 acc ad, Step dr G1 H1 G2 H2 ∧ G2 D = none ∧ H2 D = some (.lst acc) ∧ Rs c dr G2 acc ad ∧ acc.length ≤ i * 4096 ∧ (lcN2 f is vs wi1 f1 is1 vs1 tt1 te ρ (ds.drop i)).run fun ys => Wish c dr G H Q (.lst (ad ++ ys)),
    ⟨ds.length, by simp, Nat.zero_le _, G1, [], [], Step.laidH b1 nD _, b1.sub.free nD, upd_same, .nil, Nat.zero_le _, k⟩, ?_⟩
  rintro i m H2 ⟨rfl, hi, G2, acc, ad, s2, gD2, hD2, ra, hl, k⟩
  have j := it i G2 H2 s2.gs s2.base
  by_cases q : i < ds.length
  · obtain ⟨jg, jy⟩ := j.1 q
    refine .inr ⟨jg, fun H3 => ∃ G3 acc ad, Step dr G1 H1 G3 H3 ∧ G3 D = none ∧ H3 D = some (.lst acc) ∧ Rs c dr G3 acc ad ∧ acc.length ≤ (i + 1) * 4096 ∧ (lcN2 f is vs wi1 f1 is1 vs1 tt1 te ρ (ds.drop (i + 1))).run fun ys => Wish c dr G H Q (.lst (ad ++ ys)),
      fun H3 ⟨G3, acc, ad, z⟩ => ⟨ds.length - (i + 1), by omega, rfl, q, G3, acc, ad, z⟩, fun x H3 y => ?_⟩
    obtain ⟨G3, d, s3, hd, rx⟩ := jy x H3 y
    rw [drop_cons hd, lcN2] at k
    refine ⟨dr, G3, d, s3.base, rx, (f d).mono (fun xs k vs' rv => ⟨wipe_setA hv, ?_⟩) k⟩
    have s13 := s2.trans b1 s3
    have e3 : EnvF c dr G3 (setA (wipe σ vs) is vs') (setA (wipeE ρ vs) is xs) := ((e1.mono s13.gs).wipe vs).setA rv
    have gD3 : G3 D = none := s3.out gD2 (by rw [hD2]; exact fun z => nomatch z)
    have hD3 : H3 D = some (.lst acc) := s3.hs D _ hdr hD2
    refine ⟨dr, G3, _, s3.base, e3, fun G4 H4 s4 => iteT ?_⟩
    have s14 := s13.trans b1 s4
    have e4 := e3.mono s4.gs
    have gD4 : G4 D = none := s4.out gD3 (by rw [hD3]; exact fun z => nomatch z)
    have hD4 : H4 D = some (.lst acc) := s4.hs D _ hdr hD3
    refine ⟨dr, G4, _, s4.base, e4, (wi1 _).mono (fun es k J1 G5 H5 s5 it1 => ?_) k⟩
    obtain ⟨hz1, k⟩ := k
    have s15 := s14.trans b1 s5
    have e5 := e4.mono s5.gs
    have gD5 : G5 D = none := s5.out gD4 (by rw [hD4]; exact fun z => nomatch z)
    have hD5 : H5 D = some (.lst acc) := s5.hs D _ hdr hD4
    refine ⟨fun i1 m H6 => m = es.length - i1 ∧ i1 ≤ es.length ∧ ∃ G6 acc ad1, Step dr G1 H1 G6 H6 ∧ Same G5 G6 ∧ G6 D = none ∧ H6 D = some (.lst acc) ∧ Rs c dr G6 acc (ad ++ ad1) ∧ acc.length ≤ i * 4096 + i1 ∧
        (lcN f1 is1 vs1 tt1 te (setA (wipeE ρ vs) is xs) (es.drop i1)).run fun ys => (lcN2 f is vs wi1 f1 is1 vs1 tt1 te ρ (ds.drop (i + 1))).run fun zs => Wish c dr G H Q (.lst (ad ++ ((ad1 ++ ys) ++ zs))),
      ⟨es.length, by simp, Nat.zero_le _, G5, acc, [], s15, Same.refl _, gD5, hD5, by rw [List.append_nil]; exact ((ra.mono s3.gs).mono s4.gs).mono s5.gs, by omega, k⟩, ?_⟩
    rintro i1 m H6 ⟨rfl, hi1, G6, acc1, ad1, s16, g6, gD6, hD6, ra1, hl1, k⟩
    have j1 := it1 i1 G6 H6 g6 s16.base
    by_cases q1 : i1 < es.length
    · obtain ⟨jg1, jy1⟩ := j1.1 q1
      refine .inr ⟨jg1, fun H7 => ∃ G7 acc ad1, Step dr G1 H1 G7 H7 ∧ Same G5 G7 ∧ G7 D = none ∧ H7 D = some (.lst acc) ∧ Rs c dr G7 acc (ad ++ ad1) ∧ acc.length ≤ i * 4096 + (i1 + 1) ∧
          (lcN f1 is1 vs1 tt1 te (setA (wipeE ρ vs) is xs) (es.drop (i1 + 1))).run fun ys => (lcN2 f is vs wi1 f1 is1 vs1 tt1 te ρ (ds.drop (i + 1))).run fun zs => Wish c dr G H Q (.lst (ad ++ ((ad1 ++ ys) ++ zs))),
        fun H7 ⟨G7, acc, ad1, z⟩ => ⟨es.length - (i1 + 1), by omega, rfl, q1, G7, acc, ad1, z⟩, fun x1 H7 y1 => ?_⟩
      obtain ⟨G7, d1, s7, hd1, rx1⟩ := jy1 x1 H7 y1
      rw [drop_cons hd1, lcN] at k
      refine ⟨dr, G7, d1, s7.base, rx1, (f1 d1).mono (fun xs1 k vs1' rv1 => ⟨wipe_setA hv1, ?_⟩) k⟩
      have s17 := s16.trans b1 s7
      have g7 := g6.trans s7.gs
      have e7 : EnvF c dr G7 (setA (wipe (setA (wipe σ vs) is vs') vs1) is1 vs1') (setA (wipeE (setA (wipeE ρ vs) is xs) vs1) is1 xs1) := ((e5.mono g7).wipe vs1).setA rv1
      have gD7 : G7 D = none := s7.out gD6 (by rw [hD6]; exact fun z => nomatch z)
      have hD7 : H7 D = some (.lst acc1) := s7.hs D _ hdr hD6
      refine tDT_seq s7.base e7 k fun t G8 H8 s8 e8 k8 => ?_
      have s18 := s17.trans b1 s8
      have g8 := g7.trans s8.gs
      have gD8 : G8 D = none := s8.out gD7 (by rw [hD7]; exact fun z => nomatch z)
      have hD8 : H8 D = some (.lst acc1) := s8.hs D _ hdr hD7
      cases t with
      | true =>
        refine iteT (tD_seq s8.base e8 k8 fun z v G9 H9 s9 e9 r9 k9 => ?_)
        have s19 := s18.trans b1 s9
        have g9 := g8.trans s9.gs
        have gD9 : G9 D = none := s9.out gD8 (by rw [hD8]; exact fun z => nomatch z)
        have hD9 : H9 D = some (.lst acc1) := s9.hs D _ hdr hD8
        refine ⟨acc1, hD9, line_lt (by have := Nat.mul_le_mul_right 4096 (show i ≤ 4095 by omega); omega), G9, _, ad1 ++ [z], s19.mut b1 nD gD9, g9, gD9, upd_same, ?_, by simp; omega, ?_⟩
        · rw [← List.append_assoc]
          exact (((ra1.mono s7.gs).mono s8.gs).mono s9.gs).append (.cons r9 .nil)
        · refine (lcN _ _ _ _ _ _ _).mono (fun ys k10 => ?_) k9
          rw [List.append_assoc]
          exact k10
      | false => exact iteF ⟨G8, acc1, ad1, s18, g8, gD8, hD8, (ra1.mono s7.gs).mono s8.gs, by omega, k8⟩
    · have hi2 : i1 = es.length := by omega
      refine .inl ⟨j1.2 hi2, ?_⟩
      rw [hi2, List.drop_length, lcN] at k
      rw [Wp.run_ret, List.append_nil] at k
      refine ⟨G6, acc1, ad ++ ad1, s16, gD6, hD6, ra1, by omega, (lcN2 _ _ _ _ _ _ _ _ _ _ _).mono (fun zs k => ?_) k⟩
      rw [List.append_assoc]
      exact k
  · have hi2 : i = ds.length := by omega
    refine .inl ⟨j.2 hi2, ?_⟩
    rw [hi2, List.drop_length, lcN2] at k
    have s4 := s2.freeze b1 nD gD2 hD2
    rw [Wp.run_ret, List.append_nil] at k
    exact k (.ref D) _ _ (s1.trans b s4) (.lst upd_same (ra.mono fun x u z => by rw [upd_ne (ne_of_none z gD2)]; exact z))
theorem pd_lc2 {elt tg iter tg1 iter1 : Expr} {scope : Scope} {own : List (Str × Nat)} {pos : Pos} {wi wi1 : WI} {f f1 : SetD} {is is1 vs1 : List Nat} {te : WE} (hc : X.calm = true) (hN : X.N.Nodup) (hi : PID X cs tg iter wi) (ok : BlkOk X.N X.env.scope scope own) (hv0 : ∀ i ∈ vs1, i ∈ own.map (·.2)) (hv : ∀ i ∈ is, i ∈ own.map (·.2)) (hv1 : ∀ i ∈ is1, i ∈ vs1)
    (hg : Blk X scope fun Y => PGD Y cs tg f is) (hi1 : Blk X scope fun Y => PID Y cs tg1 iter1 wi1) (hg1 : Blk X scope fun Y => PGD Y cs tg1 f1 is1) (he : Blk X scope fun Y => PD Y cs elt te) (hs : ∀ x, foldedSetIterable iter X.env x = pure x := by intro _; rfl) (hs1 : ∀ env x, foldedSetIterable iter1 env x = pure x := by intro _ _; rfl) :
    PD X cs (.ListComp elt [⟨tg, iter, [], 0⟩, ⟨tg1, iter1, [], 0⟩] scope pos) (wLc2 wi f is (own.map (·.2)) wi1 f1 is1 vs1 wYes te) :=
  pe_of (pe_lc2 (g := gD (xc X cs) f is) (tt := tDT (xc X cs) wYes) (wi1 := tDI (xc X cs) wi1) (g1 := gD (xc X cs) f1 is1) (tt1 := tDT (xc X cs) wYes) (te := tD (xc X cs) te) hc hN hi ok hv0 hg (fun _ _ _ _ _ => ptsd_nil) hi1 hg1 (fun _ _ _ _ _ => ptsd_nil) he hs hs1) fun σ H Q h => lc2_ok hv hv1 σ H Q h
end
end Rr
/-! registerrooms: dict comprehensions whose keys are tuples; d.items() in one. -/
namespace Rr
open PySem PySem.Spec PyProof.Rows L2

/-- an empty dict, just laid -/
theorem dctF_nil (P : Program) (w : World) {a : Addr} (ns : (a == sysModules) = false) : DctF P w a [] { cls := .type "dict", data := .dict #[] } :=
  ⟨ns, Nat.zero_le _, [], .nil, #[], 0, ⟨rfl, rfl, rfl⟩, rfl, rfl, List.nodup_nil⟩
theorem dct_laid {X : Cx} {pins : List (Addr × Obj)} {σ : L2.St} {H : Hp} {s : Shared} (I : Inv X pins σ H s) :
    Inv X pins σ (upd H s.heap.objs.size (DctO X.prog X.w s.heap.objs.size [] { cls := .type "dict", data := .dict #[] })) { s with heap := s.heap.push { cls := .type "dict", data := .dict #[] } } := by
  have e : (s.heap.push { cls := .type "dict", data := .dict #[] }).get? s.heap.objs.size = some { cls := .type "dict", data := .dict #[] } := Heap.get?_push_size _ rfl
  have ns : (s.heap.objs.size == sysModules) = false := beq_eq_false_iff_ne.mpr (Ne.symm (Nat.ne_of_lt I.big))
  exact I.laid (t' := s.toks) (fun b o q => Heap.get?_push_of_some _ q) (Nat.le_refl _) ⟨⟨e, dctF_nil _ _ ns⟩, ⟨_, e⟩, fun k1 k2 ⟨z1, z2⟩ st => ⟨st _ z1, z2⟩⟩

/-! ### the loop of {k: v for t in i} -/
section
variable {X : Cx}
/-- one store -/
theorem dct_put {cs : Cs} {pins : List (Addr × Obj)} {σ : L2.St} {H : Hp} {s : Shared} {E : Value → Shared → Prop} {dr D : Addr} {G : Hp} {es : List DE} {o : Obj} {ks vs : List Rr.D} {k : Rr.D} {kv v : V} {ku u : Value} {Q : Unit → Shared → Prop} (hu : X.A.units + 64 < cLine) (I : Inv X pins σ H s) (hD : H D = some (DctO X.prog X.w D es o))
    (sub : Same G H) (E2 : EsD (xc X cs) dr G es ks vs) (hz : es.length < sizeLine) (rk : R (xc X cs) dr G kv k) (hk : k.kd) (ek : RelV kv ku) (ev : RelV v u)
    (h : ∀ ka o' s', kv = .ref ka → Inv X pins σ (upd H D (DctO X.prog X.w D (eput es k.key ka v) o')) s' → Q () s') : wpAny (model X.prog X.w) X.A (dictSet D ku u) Q E s := by
  obtain ⟨ka, rfl, rfl, hkey⟩ := kd_at I sub hk rk ek
  obtain ⟨ns, sz, xs, pr, hm, nd⟩ := dct_lib I sub hD E2
  have lp : es.length = xs.length := Paired.length pr
  refine wpAny_dictSet_heap (hsz := by rw [← lp]; exact sz) (show X.A.units + 8 < cLine by omega) hkey hm fun h' hm' sb => ?_
  have hl := eput_length k.key ka v es
  obtain ⟨o', I'⟩ := dct_stored (t' := s.toks + (nestedKind X.prog X.w).draws k.key) I hD ns (by omega) (er_put ev pr nd) hm' sb
  exact h ka o' _ rfl I'
def tDcE (cs : Cs) (X : Cx) (wi : TI) (g : TG) (tk tv : TE) (vs : List Nat) : TE := fun σ H Q => wi σ H fun J H1 => ∀ (D : Addr) (o0 : Obj), H1 D = none → ∃ W : Nat → Nat → Hp → Prop, (∃ m, W 0 m (upd H1 D (DctO X.prog X.w D [] o0))) ∧ ∀ i m H, W i m H →
  (J.stop i H ∧ Q (.ref D) H) ∨ (J.go i H ∧ ∃ Nx : Hp → Prop, (∀ H', Nx H' → ∃ m', m' < m ∧ W (i + 1) m' H') ∧ ∀ x H', J.yld i H x H' → g x (wipe σ vs) H' fun σ2 H2 => wipe σ2 vs = wipe σ vs ∧
    tk σ2 H2 fun y H4 => tv σ2 H4 fun z H5 => ∃ dr G es o ks vs k, H5 D = some (DctO X.prog X.w D es o) ∧ Same G H5 ∧ EsD (xc X cs) dr G es ks vs ∧ es.length < sizeLine ∧ R (xc X cs) dr G y k ∧ k.kd ∧ ∀ ka o', y = .ref ka → Nx (upd H5 D (DctO X.prog X.w D (eput es k.key ka z) o')))
theorem dcE_core {cs : Cs} {pins : List (Addr × Obj)} {u0 : Shared} {st : L2.St} {Hx : Hp} {Q : VK} {ke ve tg src : Expr} {scope : Scope} {own : List (Str × Nat)} {pos pos' : Pos} {wi : TI} {g : TG} {tk tv : TE} {use : Option (Value → Sem Unit)} {Qf : Value → Shared → Prop}
    (hu : X.A.units + 64 < cLine) (calm : X.calm = true) (nodup : X.N.Nodup) (I0 : Inv X pins st Hx u0) (walk : PI X tg src wi) (blk : BlkOk X.N X.env.scope scope own)
    (pg : Blk X scope fun Y => PG Y tg g) (pk : Blk X scope fun Y => PE Y ke tk) (pv : Blk X scope fun Y => PE Y ve tv) (fold : ∀ x, foldedSetIterable src X.env x = pure x)
    (pre : tDcE cs X wi g tk tv (own.map (·.2)) st Hx Q)
    (post : ∀ D C u m H', Inv X pins st H' u → Q (.ref D) H' → u.heap.Ns C m → FpOk X pins H' C → compPost (model X.prog X.w) X.A X.xe use Qf (.ref D) C (.ok .next) u) :
    wpAny (model X.prog X.w) X.A (comprehension (.DictComp ke ve [⟨tg, src, [], 0⟩] scope pos) scope X.env pos' newDict false (eval src X.env) use) Qf X.xe u0 := by
  have clo : ∀ y ∈ scope.names, y.2 = .free → ∃ c, X.env.cells.lookup y.1 = some c := fun y m q => (blk.free y m q).elim (fun z => I0.ok.has _ (.inl z)) fun z => I0.ok.has _ (.inr z)
  refine wpAny_comprehension_free (use := use) rfl fold (closure_ok clo) blk.kind (fun y m q => by rw [blk.uniq y m, q]) (thn (walk.run pins u0 st Hx _ I0 pre) fun xv u1 w1 => thn w1 fun itv u2 w2 => ?_)
  obtain ⟨it, fp, tn, J, Ha, rfl, Ia, T, tn0, fpa, wish⟩ := w2
  refine wpAny_newObj_type (newEnv_comp ?_)
  have Ib0 := dct_laid Ia
  have free : Ha u2.heap.objs.size = none := Ia.hok.fresh (Nat.le_refl _)
  obtain ⟨W, ⟨m0, w0⟩, turn⟩ := wish u2.heap.objs.size { cls := .type "dict", data := .dict #[] } free
  have small : ∀ b ∈ fp, b < u2.heap.objs.size := fun b m => let ⟨_, q, _⟩ := T.obj _ _ tn0 b m; Heap.lt_size q
  have fpb0 : ∀ b ∈ fp, FpOk X pins (upd Ha u2.heap.objs.size (DctO X.prog X.w u2.heap.objs.size [] { cls := .type "dict", data := .dict #[] })) b ∧ b < (u2.heap.push { cls := .type "dict", data := .dict #[] }).objs.size := fun b m => by
    have lt := small b m
    refine ⟨⟨?_, (fpa b m).2⟩, by rw [Heap.size_push]; exact Nat.lt_succ_of_lt lt⟩
    rw [upd_ne (Nat.ne_of_lt lt)]
    exact (fpa b m).1
  have tnb0 : tn 0 (u2.heap.push { cls := .type "dict", data := .dict #[] }) := T.keep _ _ _ tn0 fun b _ o q => Heap.get?_push_of_some _ q
  generalize upd Ha u2.heap.objs.size (DctO X.prog X.w u2.heap.objs.size [] { cls := .type "dict", data := .dict #[] }) = Hb at Ib0 fpb0 w0
  generalize eu : ({ u2 with heap := u2.heap.push { cls := .type "dict", data := .dict #[] } } : Shared) = u3 at Ib0
  have eh : u2.heap.push { cls := .type "dict", data := .dict #[] } = u3.heap := by rw [← eu]
  rw [eh] at fpb0 tnb0
  generalize u2.heap.objs.size = D at turn w0 ⊢
  have Ic0 := block_start Ib0 blk nodup fpb0
  have pgc := pg u3 Hb u3.heap.objs.size (cellsFrom (u3.heap.objs.size + 1) scope.names (cloFrom X.env.cells scope.names [])) fp
  have pkc := pk u3 Hb u3.heap.objs.size (cellsFrom (u3.heap.objs.size + 1) scope.names (cloFrom X.env.cells scope.names [])) fp
  have pvc := pv u3 Hb u3.heap.objs.size (cellsFrom (u3.heap.objs.size + 1) scope.names (cloFrom X.env.cells scope.names [])) fp
  show codeAny _ _ (.compStart (.DictComp ke ve [⟨tg, src, [], 0⟩] scope pos) 0 (.ref it) (.ref D) (compEnvC scope (cellsFrom (u3.heap.objs.size + 1) scope.names (cloFrom X.env.cells scope.names [])) u3.heap.objs.size X.env)) (compPost (model X.prog X.w) X.A X.xe use Qf (.ref D) u3.heap.objs.size) { u3 with heap := pushCells (u3.heap.push { cls := .type "dict", data := .dict #[] }) scope.names }
  generalize ec : compEnvC scope (cellsFrom (u3.heap.objs.size + 1) scope.names (cloFrom X.env.cells scope.names [])) u3.heap.objs.size X.env = ce at Ic0 pgc pkc pvc ⊢
  have el : ce.locals = u3.heap.objs.size := by subst ec; rfl
  generalize e4 : ({ u3 with heap := pushCells (u3.heap.push { cls := .type "dict", data := .dict #[] }) scope.names } : Shared) = u4 at Ic0 ⊢
  have tn4 : tn 0 u4.heap := T.keep _ _ _ tnb0 fun b _ o q => by rw [← e4]; exact pushCells_keeps _ _ _ _ (Heap.get?_push_of_some _ q)
  have fps : ∀ {st' : L2.St} {H' : Hp} {u' : Shared}, Inv (X.blk u3 Hb scope ce fp) [] st' H' u' → (∀ b ∈ fp, H' b = none) → ∀ b ∈ fp, FpOk (X.blk u3 Hb scope ce fp) [] H' b := fun {st' H' u'} I' n b m =>
    ⟨n b m, (I'.ok.exf b m).1, I'.ok.exfs b m, .inl m, (I'.ok.exf b m).2, fun p hp => by
      have hp : p ∈ ([] : List (Addr × Obj)) ++ [] := hp
      simp at hp⟩
  have all : codeAny (model X.prog X.w) X.A (.compLoop (.DictComp ke ve [⟨tg, src, [], 0⟩] scope pos) 0 (.ref it) (.ref D) ce) (compPost (model X.prog X.w) X.A X.xe use Qf (.ref D) u3.heap.objs.size) u4 := by
    refine compLoop_anyD (fun n u => ∃ i H', Inv (X.blk u3 Hb scope ce fp) [] (wipe st (own.map (·.2))) H' u ∧ tn i u.heap ∧ (∀ b ∈ fp, H' b = none) ∧ W i n H') ?_ m0 ⟨0, Hb, Ic0, tn4, fun b m => (fpb0 b m).1.1, w0⟩
    rintro n u5 ⟨i, H5, I5, tn5, none5, w5⟩
    rcases turn i n H5 w5 with ⟨halt, fin⟩ | ⟨more, Nx, again, step⟩
    · refine thnF (T.done (X.blk u3 Hb scope ce fp) rfl rfl rfl calm i [] u5 _ H5 (fun _ _ => False) I5 (fps I5 none5) tn5 halt) fun r u6 ⟨er, I6⟩ => ?_
      subst er
      have back : Inv X pins st H5 u6 := Ib0.call' (ch := fp) I6.os I6.base I6.hok I6.bare fun b m => by
        obtain ⟨⟨_, f1, _, f3, f4, f5⟩, _⟩ := fpb0 b m
        exact ⟨f3, f1, f4, f5⟩
      have nl : H5 u3.heap.objs.size = none := by rw [← el]; exact I6.free
      obtain ⟨m, ns, _⟩ := I6.loc
      exact post D _ u6 m H5 back fin (el ▸ ns) (Ib0.fpOk (Nat.le_refl _) nl)
    · refine thnF (T.item (X.blk u3 Hb scope ce fp) rfl rfl rfl calm i [] u5 _ H5 (fun _ _ => False) I5 (fps I5 none5) tn5 more) fun r u6 ⟨v, er, h6⟩ => ?_
      subst er
      refine thnF h6 fun _ u7 ⟨x, H7, I7, r7, y7, tn7, none7⟩ => ?_
      have I7p := I7.pinned (fps I7 none7) (T.obj _ _ tn7)
      refine thnF (pgc.run _ u7 _ H7 x v _ I7p r7 (step x H7 y7)) fun _ u8 ⟨st8, H8, I8, same8, q8⟩ => ?_
      have close : ∀ {u : Shared} {H' : Hp}, Inv (X.blk u3 Hb scope ce fp) ([] ++ pinsAt fp u7.heap) st8 H' u → Nx H' → ∃ m, m < n ∧ ∃ i H', Inv (X.blk u3 Hb scope ce fp) [] (wipe st (own.map (·.2))) H' u ∧ tn i u.heap ∧ (∀ b ∈ fp, H' b = none) ∧ W i m H' := fun {u H'} I' nx => by
        obtain ⟨m', lt, w'⟩ := again H' nx
        have kept : ∀ b ∈ fp, ∀ o, u7.heap.get? b = some o → u.heap.get? b = some o ∧ H' b = none := fun b m o q => by
          have z := I'.pin (b, o) (List.mem_append_right _ (List.mem_append_right _ (mem_pinsAt m q)))
          exact ⟨z.1, z.2.1⟩
        refine ⟨m', lt, i + 1, H', (I'.unpinned (pins := [])).weak (by rw [← same8, wipe_length]) (fun j v q => (wipe_some (same8 ▸ q)).1), T.keep _ _ _ tn7 fun b m o q => (kept b m o q).1, fun b m => ?_, w'⟩
        obtain ⟨o, q, _⟩ := T.obj _ _ tn7 b m
        exact (kept b m o q).2
      refine wpAny_tests_nil ?_
      rw [if_pos rfl]
      refine thnF (pkc.run _ u8 st8 H8 _ I8 q8) fun kx u9 ⟨yk, H9, I9, r9, q9⟩ => ?_
      refine thnF (pvc.run _ u9 st8 H9 _ I9 q9) fun vx u10 ⟨yv, H10, I10, r10, dr, G, es, o, ks, vs, k, hD, sub, E, hz, rk, hk, nx⟩ => ?_
      exact dct_put (X := X.blk u3 Hb scope ce fp) hu I10 hD sub E hz rk hk r9 r10 fun ka o' u11 ey I11 => close I11 (nx ka o' ey)
  exact codeAny_compStart_dict all (T.self X.A 0 _ _ _ tn4 all)
theorem pe_dcE {cs : Cs} {ke ve tg src : Expr} {scope : Scope} {own : List (Str × Nat)} {pos : Pos} {wi : TI} {g : TG} {tk tv : TE} (hu : X.A.units + 64 < cLine) (calm : X.calm = true) (nodup : X.N.Nodup) (walk : PI X tg src wi) (blk : BlkOk X.N X.env.scope scope own)
    (pg : Blk X scope fun Y => PG Y tg g) (pk : Blk X scope fun Y => PE Y ke tk) (pv : Blk X scope fun Y => PE Y ve tv) (fold : ∀ x, foldedSetIterable src X.env x = pure x := by intro _; rfl) :
    PE X (.DictComp ke ve [⟨tg, src, [], 0⟩] scope pos) (tDcE cs X wi g tk tv (own.map (·.2))) := by
  refine ⟨fun pins s σ H Q I h => ?_⟩
  rw [arm_eval_DictComp]
  refine dcE_core hu calm nodup I walk blk pg pk pv fold h fun D C u m H' I' q ns f => ⟨m, ns, fun h'' sb => ?_⟩
  exact ⟨.ref D, H', I'.turned (t' := u.toks) (fun b o nb e => (sb.2 b nb).trans e) f.1 f.2.1 f.2.2.2.1 f.2.2.2.2.1 f.2.2.2.2.2, rfl, q⟩
end

/-! ### by data -/
noncomputable def dcN (f : SetD) (is vs : List Nat) (tk tv : WE) (ρ : Env) : List D → List D → List D → Wp (List D × List D)
  | [], ks, es => .ret (ks, es)
  | d :: ds, ks, es => (f d).bind fun xs => (tk (setA (wipeE ρ vs) is xs)).bind fun k => (tv (setA (wipeE ρ vs) is xs)).bind fun v => .chk k.kd (dcN f is vs tk tv ρ ds (dputK ks k) (dputV ks es k v))
noncomputable def wDcP (wi : WI) (f : SetD) (is vs : List Nat) (tk tv : WE) : Env → Wp (List D × List D) := fun ρ => (wi ρ).bind fun ds => .chk (ds.length ≤ 16777216) (dcN f is vs tk tv ρ ds [] [])
def asDct (p : List D × List D) : D := .dct p.1 p.2
noncomputable def wDc (wi : WI) (f : SetD) (is vs : List Nat) (tk tv : WE) : WE := fun ρ => (wDcP wi f is vs tk tv ρ).bind fun p => .ret (asDct p)
section
variable {X : Cx} {cs : Cs}
/-- the comprehension, whatever becomes of the dict -/
theorem dc_gen {wi : WI} {f : SetD} {is vs : List Nat} {tk tv : WE} (hv : ∀ i ∈ is, i ∈ vs) (σ : L2.St) (H : Hp) (Q : VK) {dr : Addr} {G : Hp} {ρ : Env} (b : Base dr G H) (e : EnvF (xc X cs) dr G σ ρ)
    (h : (wDcP wi f is vs tk tv ρ).run fun p => ∀ a es o G' H', Step dr G H G' H' → H a = none → G' a = none → H' a = some (DctO X.prog X.w a es o) → EsD (xc X cs) dr G' es p.1 p.2 → Q (.ref a) H') :
    tDcE cs X (tDI (xc X cs) wi) (gD (xc X cs) f is) (tD (xc X cs) tk) (tD (xc X cs) tv) vs σ H Q := by
  refine ⟨dr, G, ρ, b, e, (wi ρ).mono (fun ds k J G1 H1 s1 it D o0 nD => ?_) h⟩
  obtain ⟨hz, k⟩ := k
  have e1 := e.mono s1.gs
  have b1 := s1.base
  have hdr : D ≠ dr := fun z => b1.hdr (z ▸ nD)
  refine ⟨fun i m H2 => m = ds.length - i ∧ i ≤ ds.length ∧ ∃ G2 es o ks us, Step dr G1 H1 G2 H2 ∧ G2 D = none ∧ H2 D = some (DctO X.prog X.w D es o) ∧ EsD (xc X cs) dr G2 es ks us ∧ es.length ≤ i ∧
      (dcN f is vs tk tv ρ (ds.drop i) ks us).run fun p => ∀ a es o G' H', Step dr G H G' H' → H a = none → G' a = none → H' a = some (DctO X.prog X.w a es o) → EsD (xc X cs) dr G' es p.1 p.2 → Q (.ref a) H',
    ⟨ds.length, by simp, Nat.zero_le _, G1, [], o0, [], [], Step.laidH b1 nD _, b1.sub.free nD, upd_same, .nil, Nat.le_refl _, k⟩, ?_⟩
  rintro i m H2 ⟨rfl, hi, G2, es, o, ks, us, s2, gD2, hD2, E, hl, k⟩
  have j := it i G2 H2 s2.gs s2.base
  by_cases q : i < ds.length
  · obtain ⟨jg, jy⟩ := j.1 q
    refine .inr ⟨jg, fun H3 => ∃ G3 es o ks us, Step dr G1 H1 G3 H3 ∧ G3 D = none ∧ H3 D = some (DctO X.prog X.w D es o) ∧ EsD (xc X cs) dr G3 es ks us ∧ es.length ≤ i + 1 ∧
        (dcN f is vs tk tv ρ (ds.drop (i + 1)) ks us).run fun p => ∀ a es o G' H', Step dr G H G' H' → H a = none → G' a = none → H' a = some (DctO X.prog X.w a es o) → EsD (xc X cs) dr G' es p.1 p.2 → Q (.ref a) H',
      fun H3 ⟨G3, es, o, ks, us, z⟩ => ⟨ds.length - (i + 1), by omega, rfl, q, G3, es, o, ks, us, z⟩, fun x H3 y => ?_⟩
    obtain ⟨G3, d, s3, hd, rx⟩ := jy x H3 y
    rw [drop_cons hd, dcN] at k
    refine ⟨dr, G3, d, s3.base, rx, (f d).mono (fun xs k vs' rv => ⟨wipe_setA hv, ?_⟩) k⟩
    have s13 := s2.trans b1 s3
    have e3 : EnvF (xc X cs) dr G3 (setA (wipe σ vs) is vs') (setA (wipeE ρ vs) is xs) := ((e1.mono s13.gs).wipe vs).setA rv
    have gD3 : G3 D = none := s3.out gD2 (by rw [hD2]; exact fun z => nomatch z)
    have hD3 := s3.hs D _ hdr hD2
    refine tD_seq s3.base e3 k fun kd kv G4 H4 s4 e4 r4 k4 => ?_
    have s14 := s13.trans b1 s4
    have gD4 : G4 D = none := s4.out gD3 (by rw [hD3]; exact fun z => nomatch z)
    have hD4 := s4.hs D _ hdr hD3
    refine tD_seq s4.base e4 k4 fun z v G5 H5 s5 e5 r5 k5 => ?_
    have s15 := s14.trans b1 s5
    have gD5 : G5 D = none := s5.out gD4 (by rw [hD4]; exact fun z => nomatch z)
    have hD5 := s5.hs D _ hdr hD4
    have r4' := r4.mono s5.gs
    have E5 := ((E.mono s3.gs).mono s4.gs).mono s5.gs
    refine ⟨dr, G5, es, o, ks, us, kd, hD5, s15.base.sub, E5, line_lt (by omega), r4', k5.1, fun ka o' ek => ?_⟩
    subst ek
    have hl2 := eput_length kd.key ka v es
    exact ⟨G5, _, o', _, _, s15.mut b1 nD gD5, gD5, upd_same, E5.put k5.1 r4' r5, by omega, k5.2⟩
  · have hi2 : i = ds.length := by omega
    refine .inl ⟨j.2 hi2, ?_⟩
    rw [hi2, List.drop_length, dcN] at k
    exact k D es o G2 H2 (s1.trans b s2) (s1.none0 b nD) gD2 hD2 E
theorem dc_ok {wi : WI} {f : SetD} {is vs : List Nat} {tk tv : WE} (hv : ∀ i ∈ is, i ∈ vs) (σ : L2.St) (H : Hp) (Q : VK) (h : tD (xc X cs) (wDc wi f is vs tk tv) σ H Q) : tDcE cs X (tDI (xc X cs) wi) (gD (xc X cs) f is) (tD (xc X cs) tk) (tD (xc X cs) tv) vs σ H Q := by
  obtain ⟨dr, G, ρ, b, e, h⟩ := h
  refine dc_gen hv σ H Q b e ((wDcP wi f is vs tk tv ρ).mono (fun p k a es o G' H' s n1 n2 q E => ?_) h)
  have s4 := s.freeze b n1 n2 q
  exact k (.ref a) _ _ s4 ((E.mono fun x u z => by rw [upd_ne (ne_of_none z n2)]; exact z).R upd_same)
theorem pd_dc {ke ve tg src : Expr} {scope : Scope} {own : List (Str × Nat)} {pos : Pos} {wi : WI} {f : SetD} {is : List Nat} {tk tv : WE} (hu : X.A.units + 64 < cLine) (hc : X.calm = true) (hN : X.N.Nodup) (hi : PID X cs tg src wi) (ok : BlkOk X.N X.env.scope scope own) (hv : ∀ i ∈ is, i ∈ own.map (·.2))
    (hg : Blk X scope fun Y => PGD Y cs tg f is) (hk : Blk X scope fun Y => PD Y cs ke tk) (he : Blk X scope fun Y => PD Y cs ve tv) (hs : ∀ x, foldedSetIterable src X.env x = pure x := by intro _; rfl) :
    PD X cs (.DictComp ke ve [⟨tg, src, [], 0⟩] scope pos) (wDc wi f is (own.map (·.2)) tk tv) :=
  pe_of (pe_dcE (cs := cs) (g := gD (xc X cs) f is) (tk := tD (xc X cs) tk) (tv := tD (xc X cs) tv) hu hc hN hi ok hg hk he hs) fun σ H Q h => dc_ok hv σ H Q h
/-- name = {..} on one line -/
theorem ps_setDcE {i : Nat} {y : Str} {py : Pos} {ke ve tg src : Expr} {scope : Scope} {own : List (Str × Nat)} {pos spos : Pos} {wi : TI} {g : TG} {tk tv : TE} (hu : X.A.units + 64 < cLine) (calm : X.calm = true) (nodup : X.N.Nodup) (hy : X.N[i]? = some y) (hyl : X.env.scope.names.lookup y = some .local)
    (hsw : swapsWith (.DictComp ke ve [⟨tg, src, [], 0⟩] scope pos) (some (.Name y py)) spos.line X.env = pure true) (walk : PI X tg src wi) (blk : BlkOk X.N X.env.scope scope own)
    (pg : Blk X scope fun Y => PG Y tg g) (pk : Blk X scope fun Y => PE Y ke tk) (pv : Blk X scope fun Y => PE Y ve tv) (fold : ∀ x, foldedSetIterable src X.env x = pure x := by intro _; rfl) :
    PS X (.Assign [.Name y py] (.DictComp ke ve [⟨tg, src, [], 0⟩] scope pos) spos) (tAsg (tDcE cs X wi g tk tv (own.map (·.2))) (gName i)) := by
  refine ⟨fun pins s σ H En I pre => ?_⟩
  rw [exec_Assign_Name_used _ _ _ _ hsw]
  refine wpAny_bind (wpAny_standAt (wpAny_bind ?_))
  show wpAny _ X.A (do let _ ← comprehension (.DictComp ke ve [⟨tg, src, [], 0⟩] scope pos) scope X.env (firstIterPos [⟨tg, src, [], 0⟩] pos) newDict false (eval src X.env) (some (assign (.Name y py) X.env))) _ _ s
  have pre : tDcE cs X wi g tk tv (own.map (·.2)) σ H (fun x H1 => gName i x σ H1 En.nx) := pre
  refine wpAny_bind (thn (dcE_core (Qf := fun _ u => SP X pins En .next u) hu calm nodup I walk blk pg pk pv fold pre fun L C u m H' I' q ns f => ?_) fun _ _ hq => wpAny_pure (wpAny_pure hq))
  show wpAny _ _ (assign (.Name y py) X.env (.ref L)) _ _ _
  refine wpAny_assign_Name (store_ok2 (v := V.ref L) I' nodup hy (.inl hyl) rfl (fun u2 I2 ⟨a, sb, wh⟩ => ?_) (.inr hyl))
  have apart : C ≠ a := by
    rcases wh with z | z
    · rw [z]; exact f.2.1
    · exact fun e => f.2.2.2.2.1 y a z e.symm
  exact ⟨m, ns.sameBut sb apart, fun h3 sb3 => ⟨_, H', I2.turned (t' := u2.toks) (fun b o nb e => (sb3.2 b nb).trans e) f.1 f.2.1 f.2.2.2.1 f.2.2.2.2.1 f.2.2.2.2.2, q⟩⟩
end
end Rr
/-! registerrooms: d.items() of a dict that stays; enumerate of a tuple. -/
namespace Rr
open PySem PySem.Spec PyProof.Rows L2

/-! ### items -/
/-- pairs, new ones -/
def Itie (P : Program) (w : World) (a : Addr) (es : List DE) (o : Obj) : It :=
  ⟨fun i H => H a = some (DctO P w a es o) ∧ i < es.length, fun i H x H' => ∃ T e, es[i]? = some e ∧ x = .ref T ∧ H T = none ∧ H' = upd H T (.tup [.ref e.2.1, e.2.2]), fun i H => H a = some (DctO P w a es o) ∧ es.length ≤ i⟩
theorem turn_itemsE {P : Program} {w : World} {K : PySem.W.Frag} {ts : List Expr} {kk : Nat} {tp : Pos} {a : Addr} {es : List DE} {o : Obj} {en : Array DictEntry} {ep : Nat} (it : Addr) (hod : o.data = .dict en ep) (hz : en.size = es.length) :
    Turn P w K (.Tuple ts kk tp) (Itie P w a es o) [it] it (fun i h => ∃ x y, IsItemIter h it a i en.size ep x y) where
  mem := by simp
  obj := fun i h ⟨x, y, q⟩ b hb => by
    obtain rfl : b = it := by simpa using hb
    exact ⟨_, q, fun v z => nomatch z⟩
  keep := fun i h h' ⟨x, y, q⟩ k => ⟨x, y, k it (by simp) _ q⟩
  item := by
    intro X hP hw hK calm i pins s σ H E I hf st ⟨hd, hi⟩
    subst hP hw hK
    obtain ⟨hgd, ns, hx, en', ep', hdt, hsz, ent⟩ := dct_obj I hd
    obtain ⟨rfl, rfl⟩ := dict_ep hod hdt
    obtain ⟨q, hq, hk, hv⟩ := ent i _ (List.getElem?_eq_getElem hi)
    obtain ⟨x, y, he⟩ := st
    have lt : it < s.heap.objs.size := Heap.lt_size he
    have hi2 : i < en'.size := by rw [hsz]; exact hi
    obtain rfl : en'[i] = q := by
      rw [Array.getElem?_eq_getElem hi2] at hq
      exact Option.some.inj hq
    refine wpAny_pyNext_items_item_raw he ⟨o, hgd, hx, hdt⟩ hi2 fun h1 ho hT _ kept => ?_
    refine ⟨_, rfl, wpAny_letOwnedTupleGo_items (s := { s with heap := h1 }) ho fun h2 he2 sb => ?_⟩
    have hT2 : h2.get? s.heap.objs.size = some { cls := .type "tuple", data := .seq #[en'[i].key, en'[i].val] } := (sb.2 _ (Nat.ne_of_gt lt)).trans hT
    have ok : ObjOk X.prog X.w (upd H s.heap.objs.size (.tup [.ref es[i].2.1, es[i].2.2])) h2 s.heap.objs.size (.tup [.ref es[i].2.1, es[i].2.2]) :=
      ⟨line_le (show 2 ≤ 16777216 by decide), [en'[i].key, en'[i].val], .cons hk (.cons hv .nil), ⟨_, hT2, rfl, _, rfl⟩⟩
    have I2 : Inv X pins σ (upd H s.heap.objs.size (.tup [.ref es[i].2.1, es[i].2.2])) { s with heap := h2 } :=
      I.turnedNew (t' := s.toks) (ch := [it]) (fun b u nb q => by
        have nb : b ≠ it := by simpa using nb
        exact (sb.2 b nb).trans (kept b u nb q)) hf (Nat.le_refl _) ok
    refine ⟨.ref s.heap.objs.size, _, I2, rfl, ⟨_, _, List.getElem?_eq_getElem hi, rfl, I.hok.fresh (Nat.le_refl _), rfl⟩, ⟨_, _, he2⟩, fun b hb => ?_⟩
    obtain rfl : b = it := by simpa using hb
    rw [upd_ne (Nat.ne_of_lt lt)]
    exact (hf b (by simp)).1
  done := by
    intro X hP hw hK calm i pins s σ H E I hf st ⟨hd, hi⟩
    subst hP hw hK
    obtain ⟨f0, f1, f2, f3, f4, f5⟩ := hf it (by simp)
    obtain ⟨hgd, ns, hx, en', ep', hdt, hsz, ent⟩ := dct_obj I hd
    obtain ⟨rfl, rfl⟩ := dict_ep hod hdt
    obtain ⟨x, y, he⟩ := st
    exact wpAny_pyNext_items_end_raw (I.ok.hd calm) he ⟨o, hgd, hx, hdt⟩ (by omega) fun h1 eb => ⟨rfl, I.turned (t' := s.toks) (fun b u nb q => eb b u nb q) f0 f1 f3 f4 f5⟩
  self := fun A i s Q E ⟨x, y, q⟩ h => PySem.W.kcp_self q h
def itemsP : List D → List D → List D
  | k :: ks, v :: vs => .tup [k, v] :: itemsP ks vs
  | _, _ => []
theorem itemsP_length : ∀ {ks vs : List D}, ks.length = vs.length → (itemsP ks vs).length = ks.length
  | [], _, _ => by simp [itemsP]
  | _ :: _, [], h => by simp at h
  | k :: ks, v :: vs, h => by simp [itemsP, itemsP_length (ks := ks) (vs := vs) (by simpa using h)]
theorem itemsP_at : ∀ {ks vs : List D} {i : Nat} {k v : D}, ks[i]? = some k → vs[i]? = some v → (itemsP ks vs)[i]? = some (.tup [k, v])
  | [], _, _, _, _, h, _ => by simp at h
  | _ :: _, [], _, _, _, _, h => by simp at h
  | k :: ks, v :: vs, 0, _, _, h, q => by
    simp at h q
    simp [itemsP, h, q]
  | k :: ks, v :: vs, i + 1, _, _, h, q => by
    simp only [List.getElem?_cons_succ] at h q
    simp only [itemsP, List.getElem?_cons_succ]
    exact itemsP_at h q
theorem iter_items {c : Ctx} {dr : Addr} {G : Hp} {a : Addr} {es : List DE} {o : Obj} {ks vs : List D} (h : G a = some (DctO c.P c.w a es o)) (E : EsD c dr G es ks vs) : IterD c dr G (Itie c.P c.w a es o) (itemsP ks vs) := by
  intro i G2 H2 s b
  have hq := b.sub _ _ (s _ _ h)
  obtain ⟨l1, l2⟩ := E.lens
  rw [itemsP_length (by omega)]
  refine ⟨fun hi => ⟨⟨hq, by omega⟩, fun x H' ⟨T, e, he, ex, nT, eH⟩ => ?_⟩, fun hi => ⟨hq, by omega⟩⟩
  subst ex eH
  obtain ⟨k, k1, k2⟩ := E.ka.get' (i := i) (v := .ref e.2.1) (by rw [List.getElem?_map, he]; rfl)
  obtain ⟨v, v1, v2⟩ := E.va.get' (i := i) (v := e.2.2) (by rw [List.getElem?_map, he]; rfl)
  have st := Step.laid b nT (.tup [.ref e.2.1, e.2.2])
  exact ⟨_, _, st, itemsP_at k1 v1, .tup upd_same (.cons ((k2.mono s).mono st.gs) (.cons ((v2.mono s).mono st.gs) .nil))⟩
def itemsW : D → Wp (List D)
  | .dct ks vs => .ret (itemsP ks vs)
  | _ => .fail
def wItems (w : WE) : WI := fun ρ => (w ρ).bind itemsW
theorem pid_items {X : Cx} {cs : Cs} {e : Expr} {w : WE} {ts : List Expr} {kk : Nat} {tp apos cpos : Pos} (he : PD X cs e w) (hbase : attributeBase e "items" X.env (eval e X.env) = eval e X.env := by rfl) (hline : (apos.endLine == cpos.line) = true := by rfl) :
    PID X cs (.Tuple ts kk tp) (.Call (.Attribute e "items" apos) [] [] cpos) (wItems w) := by
  refine ⟨fun pins s σ H Q I ⟨dr, G, ρ, b, ev, h⟩ => ?_⟩
  refine wpAny_Call_method (T := "dict") (id := "dict.items") hbase rfl hline F.plainAttrs_dict F.slot_dict_items F.type_dict_items (thn (he.run pins s σ H (fun v H1 => ∃ G1 d, Step dr G H G1 H1 ∧ R (xc X cs) dr G1 v d ∧ (itemsW d).run fun ds => ∀ J G' H', Step dr G1 H1 G' H' → IterD (xc X cs) dr G' J ds → Q J H') I (tD_seq b ev h fun d v G1 H1 s1 e1 r1 k1 => ?_)) fun u s1 ⟨v, H1, I1, rv, G1, d, st, r1, k1⟩ => ?_)
  · exact ⟨G1, d, s1, r1, (itemsW d).mono (fun ds k J G' H' s2 it => k J G' H' (s1.trans b s2) it) k1⟩
  · unfold itemsW at k1
    split at k1
    · obtain ⟨a, es, o, rfl, ha, E⟩ := r1.dct_of
      obtain rfl : u = Value.ref a := rv
      obtain ⟨hgd, ns, hx, en, ep, hdt, hsz, _⟩ := dct_obj I1 (st.base.sub _ _ ha)
      have raw : s1.heap.DictRaw a en ep := ⟨o, hgd, hx, hdt⟩
      refine ⟨raw.typeIs, fun a1 q => ?_, ?_⟩
      · cases q
        exact ⟨o, hgd, hx.2.1⟩
      have I2 : Inv X pins σ H1 { s1 with heap := s1.heap.push { cls := .type "dict_items", data := .fields #[.ref a] } } := I1.kept (t' := s1.toks) fun b ob q => Heap.get?_push_of_some _ q
      have fin : wpAny (model X.prog X.w) X.A (pyIter (.ref s1.heap.objs.size)) (PIE X pins σ (.Tuple ts kk tp) Q) X.xe { s1 with heap := s1.heap.push { cls := .type "dict_items", data := .fields #[.ref a] } } :=
        wpAny_pyIter_items_raw (d := a) ⟨_, Heap.get?_push_size _ rfl, rfl, rfl⟩ (raw.at fun o q => Heap.get?_push_of_some _ q) (pi_one (tk := s1.toks) I2 _ (turn_itemsE _ hdt hsz) ⟨.none, .none, Heap.get?_push_size _ rfl⟩ (k1 _ G1 H1 (Step.refl st.base) (iter_items ha E)))
      show wpAny _ _ (callWith cpos (.builtin "dict.items") [.ref a] [] []) _ X.xe s1
      exact method_meetsIn F.slot_dict_items F.entry_dict_items rfl (PySem.evalArgs_none ⟨rfl, raw.typeIs, F.args_dict_items_1 _, _, meets_dict_items_raw a ns, ⟨en, ep, raw⟩, fin⟩)
    · exact k1.elim

/-! ### enumerate(a tuple) -/
set_option maxHeartbeats 8000000 in
theorem meets_enum1 (t : Addr) (its : Array Value) :
    Meets (Builtin.«enumerate.__new__» ⟨[.type "enumerate", .ref t], []⟩) (fun _ R s => s.heap.IsTuple t its ∧
      R (.ok (.ret (.ref (s.heap.push { cls := .type "tuple_iterator", data := .fields #[.ref t, .int 0 0] }).objs.size))) { s with heap := (s.heap.push { cls := .type "tuple_iterator", data := .fields #[.ref t, .int 0 0] }).push { cls := .type "enumerate", data := .fields #[.none, .bool false, .ref s.heap.objs.size, rawInt 0, .none, .none] } }) :=
  .of_wp fun prog w A R s hh => by
    obtain ⟨hp, gn, dw, tk, os⟩ := s
    obtain ⟨ht, hh⟩ := hh
    have sub := sub_enumerate
    have go : ∀ {A' : Around} {E : Value → Shared → Prop} {Q : Value → Shared → Prop}, Q (.ref hp.objs.size) ⟨hp.push { cls := .type "tuple_iterator", data := .fields #[.ref t, .int 0 0] }, gn, dw, tk, os⟩ → wpAny (model prog w) A' (pyIter (.ref t)) Q E ⟨hp, gn, dw, tk, os⟩ :=
      fun q => wpAny_pyIter_tuple ht q
    wp_walk using go
    refine wpAny_stack_any fun z => wpAny_pure ?_
    split
    · rename_i k _ _ _ _ _
      cases (k == Value.type "enumerate") <;>
      · wp_walk using go
        exact ⟨_, rfl, hh⟩
    · wp_walk using go
      exact ⟨_, rfl, hh⟩
theorem enum1_call {prog : Program} {w : World} {A : Around} {E : Value → Shared → Prop} {s : Shared} {t : Addr} {its : Array Value} {Q : Value → Shared → Prop} (ht : s.heap.IsTuple t its)
    (h : ∀ h', IsEnum h' (s.heap.objs.size + 1) s.heap.objs.size 0 .none → h'.IsTupleIter s.heap.objs.size t 0 → (∀ b o, s.heap.get? b = some o → h'.get? b = some o) → Q (.ref (s.heap.objs.size + 1)) { s with heap := h' }) :
    wpAny (model prog w) A (call (.type "enumerate") [.ref t]) Q E s := by
  refine callType_new F.called_enumerate (by decide) (F.typeCall_enumerate_1 _) (F.newCall_enumerate_1 _) (fun obj => F.args_object_init_2 obj _) F.entry_enumerate_new (meets_enum1 t its) ⟨ht, ?_⟩
  have sz : (s.heap.push { cls := .type "tuple_iterator", data := .fields #[.ref t, .int 0 0] }).objs.size = s.heap.objs.size + 1 := Heap.size_push ..
  show _ ∧ _
  rw [sz]
  have at1 : IsEnum ((s.heap.push { cls := .type "tuple_iterator", data := .fields #[.ref t, .int 0 0] }).push { cls := .type "enumerate", data := .fields #[.none, .bool false, .ref s.heap.objs.size, rawInt 0, .none, .none] }) (s.heap.objs.size + 1) s.heap.objs.size 0 .none := by
    have z := Heap.get?_push_size (s.heap.push { cls := .type "tuple_iterator", data := .fields #[.ref t, .int 0 0] }) (o := { cls := .type "enumerate", data := .fields #[.none, .bool false, .ref s.heap.objs.size, rawInt 0, .none, .none] }) rfl
    rw [sz] at z
    exact z
  exact ⟨⟨_, at1, rfl⟩, h _ at1 ⟨_, Heap.get?_push_of_some _ (Heap.get?_push_size _ rfl), rfl, rfl⟩ fun b o q => Heap.get?_push_of_some _ (Heap.get?_push_of_some _ q)⟩
def Itet (K : PySem.W.Frag) (a : Addr) : It :=
  ⟨fun i H => ∃ (xs : List V) (x : V), SqT K H a xs ∧ xs[i]? = some x, fun i H v H' => ∃ T x, v = .ref T ∧ H T = none ∧ H' = upd H T (.tup [.int (i : Nat), x]) ∧ ∀ xs, SqT K H a xs → xs[i]? = some x, fun i H => ∃ xs : List V, SqT K H a xs ∧ xs.length = i⟩
theorem turn_enumT {P : Program} {w : World} {K : PySem.W.Frag} {ts : List Expr} {kk : Nat} {tp : Pos} (a e it : Addr) (nai : a ≠ it) (nae : a ≠ e) :
    Turn P w K (.Tuple ts kk tp) (Itet K a) [e, it] e (fun i h => (∃ old, IsEnum h e it ((i : Nat) : Int) old) ∧ h.IsTupleIter it a i ∧ e ≠ it) where
  mem := by simp
  obj := fun i h ⟨⟨old, he⟩, hi, _⟩ b hb => by
    rcases (show b = e ∨ b = it by simpa using hb) with rfl | rfl
    · exact ⟨_, he, fun v q => nomatch q⟩
    · obtain ⟨o, ho, _, hd⟩ := hi
      exact ⟨o, ho, fun v q => by rw [hd] at q; cases q⟩
  keep := fun i h h' ⟨⟨old, he⟩, hi, ne⟩ k => ⟨⟨old, k e (by simp) _ he⟩, hi.at fun o q => k it (by simp) o q, ne⟩
  item := by
    intro X hP hw hK calm i pins s σ H E I hf ⟨⟨old, he⟩, hit, ne⟩ ⟨xs, x, hq, hx⟩
    subst hP hw hK
    obtain ⟨its, rv, p, hz⟩ := I.tuple hq
    obtain ⟨u, hu, ru⟩ := rv.get hx
    have l1 : e < s.heap.objs.size := Heap.lt_size he
    have l2 : it < s.heap.objs.size := let ⟨_, q, _⟩ := hit; Heap.lt_size q
    have il : i < its.toArray.size := by
      have := (List.getElem?_eq_some_iff.mp hu).1
      simpa using this
    refine wpAny_pyNext_enum_itemD (Draws.tuple (A := X.A.in1) (show X.A.in1.handled = none from I.ok.hd calm) it a nai its.toArray) he ⟨hit, p⟩ il ne (by simp [ne, Ne.symm nae]) fun y h1 tk hy ho st1 hT _ kept => ?_
    obtain rfl : y = u := by
      have hy : its.toArray[i]? = some y := hy
      rw [List.getElem?_toArray, hu] at hy
      exact (Option.some.inj hy).symm
    refine ⟨_, rfl, wpAny_letOwnedTupleGo_enum (s := { s with heap := h1, toks := tk + 1 }) ho fun h2 he2 sb => ?_⟩
    have hT2 : h2.get? s.heap.objs.size = some { cls := .type "tuple", data := .seq #[.int i tk, y] } := (sb.2 _ (Nat.ne_of_gt l1)).trans hT
    have ok : ObjOk X.prog X.w (upd H s.heap.objs.size (.tup [.int (i : Nat), x])) h2 s.heap.objs.size (.tup [.int (i : Nat), x]) := ⟨line_le (show 2 ≤ 16777216 by decide), [.int i tk, y], .cons ⟨_, rfl⟩ (.cons ru .nil), ⟨_, hT2, rfl, _, rfl⟩⟩
    have I2 : Inv X pins σ (upd H s.heap.objs.size (.tup [.int (i : Nat), x])) { s with heap := h2, toks := tk + 1 } :=
      I.turnedNew (ch := [e, it]) (fun b u nb q => by
        have n1 : b ≠ e := fun z => nb (by simp [z])
        exact (sb.2 b n1).trans (kept b u n1 (fun z => nb (by simp [z])) q)) hf (Nat.le_refl _) ok
    refine ⟨.ref s.heap.objs.size, _, I2, rfl, ⟨_, x, rfl, I.hok.fresh (Nat.le_refl _), rfl, fun ys hy => by rw [I.tuple_inj hy hq]; exact hx⟩, ⟨⟨y, ?_⟩, st1.1.at fun o q => (sb.2 it (Ne.symm ne)).trans q, ne⟩, fun b hb => ?_⟩
    · show IsEnum h2 e it ((i + 1 : Nat) : Int) y
      rw [show ((i + 1 : Nat) : Int) = (i : Int) + 1 by omega]
      exact he2
    · have lt : b < s.heap.objs.size := by
        rcases (show b = e ∨ b = it by simpa using hb) with z | z
        · rw [z]; exact l1
        · rw [z]; exact l2
      rw [upd_ne (Nat.ne_of_lt lt)]
      exact (hf b hb).1
  done := by
    intro X hP hw hK calm i pins s σ H E I hf ⟨⟨old, he⟩, hit, ne⟩ ⟨xs, hq, hx⟩
    subst hP hw hK
    obtain ⟨its, rv, p, hz⟩ := I.tuple hq
    obtain ⟨f0, f1, f2, f3, f4, f5⟩ := hf it (by simp)
    have hl := rv.length
    have en : its.toArray.size = i := by simp; omega
    exact wpAny_pyNext_enum_endD (Draws.tuple (A := X.A.in1) (show X.A.in1.handled = none from I.ok.hd calm) it a nai its.toArray) he ⟨by rw [en]; exact hit, p⟩ fun h1 eb => ⟨rfl, I.turned (t' := s.toks) (fun b u nb q => eb b u nb q) f0 f1 f3 f4 f5⟩
  self := fun A i s Q E ⟨⟨_, he⟩, _⟩ h => wpAny_pyIter_enum he h
theorem iter_enumT {c : Ctx} {dr : Addr} {G : Hp} {a : Addr} {xs : List V} {ds : List D} (h : G a = some (.tup xs)) (r : Rs c dr G xs ds) : IterD c dr G (Itet c.K a) (ds.mapIdx fun i d => .tup [.int (i : Nat), d]) := by
  intro i G2 H2 s b
  have hq := SqT.of (K := c.K) (b.sub _ _ (s _ _ h))
  rw [List.length_mapIdx]
  refine ⟨fun hi => ?_, fun hi => ⟨xs, hq, by rw [r.length]; omega⟩⟩
  have hx : i < xs.length := by rw [r.length]; exact hi
  refine ⟨⟨xs, xs[i], hq, List.getElem?_eq_getElem hx⟩, fun x H' ⟨T, y, ex, nT, eH, hy⟩ => ?_⟩
  subst ex eH
  obtain ⟨d, h1, h2⟩ := r.get' (hy xs hq)
  have st := Step.laid b nT (.tup [.int (i : Nat), y])
  exact ⟨_, _, st, by rw [List.getElem?_mapIdx, h1]; rfl, .tup upd_same (.cons (.int _) (.cons ((h2.mono s).mono st.gs) .nil))⟩
def enumW : List D → Wp (List D)
  | [.tup ds] => .ret (ds.mapIdx fun i d => .tup [.int (i : Nat), d])
  | _ => .fail
def wEnum (w : WA) : WI := fun ρ => (w ρ).bind enumW
theorem pid_enum {X : Cx} {cs : Cs} {e : Expr} {w : WA} {ts : List Expr} {kk : Nat} {tp p pos : Pos} (hg : Gl X "enumerate") (hm : X.mg "enumerate" = none) (ha : PAD X cs [e] w) (hs : starEach [e] X.env = [(false, eval e X.env)] := by rfl) :
    PID X cs (.Tuple ts kk tp) (.Call (.Name "enumerate" p) [e] [] pos) (wEnum w) := by
  refine ⟨fun pins s σ H Q I ⟨dr, G, ρ, b, ev, h⟩ => ?_⟩
  refine Call_ (ld_blt I hg hm boot_enumerate (PyProof.Rows.callWith_type1 (thn (ha.run pos pins s σ H (fun vs H1 => ∃ G1 ds, Step dr G H G1 H1 ∧ Rs (xc X cs) dr G1 vs ds ∧ (enumW ds).run fun ds => ∀ J G' H', Step dr G1 H1 G' H' → IterD (xc X cs) dr G' J ds → Q J H') I (tDA_seq b ev h fun ds vs G1 H1 s1 e1 r1 k1 => ?_)) fun us s1 ⟨vs, H1, I1, rv, G1, ds, st, r1, k1⟩ => ?_) hs rfl))
  · exact ⟨G1, ds, s1, r1, (enumW ds).mono (fun ds k J G' H' s2 it => k J G' H' (s1.trans b s2) it) k1⟩
  · unfold enumW at k1
    split at k1
    · obtain ⟨v, rfl, r0⟩ := r1.one
      obtain ⟨a, xs, rfl, ha, qa⟩ := r0.tup_of
      obtain rfl := rv.ref1
      obtain ⟨its, rl, p', hz⟩ := I1.tuple (SqT.of (st.base.sub _ _ ha))
      have al : a < s1.heap.objs.size := I1.hok.lt (st.base.sub _ _ ha)
      refine enum1_call (show s1.heap.IsTuple a its.toArray from p') fun h1 he hit kept => wpAny_pyIter_enum he ?_
      refine ⟨s1.heap.objs.size + 1, [s1.heap.objs.size + 1, s1.heap.objs.size], _, _, H1, rfl, I1.kept (t' := s1.toks) kept, turn_enumT a (s1.heap.objs.size + 1) s1.heap.objs.size (Nat.ne_of_lt al) (Nat.ne_of_lt (Nat.lt_succ_of_lt al)), ⟨⟨.none, he⟩, hit, Nat.succ_ne_self _⟩, fun b hb => ?_, k1 _ G1 H1 (Step.refl st.base) (iter_enumT ha qa)⟩
      have le : s1.heap.objs.size ≤ b := by
        rcases (show b = s1.heap.objs.size + 1 ∨ b = s1.heap.objs.size by simpa using hb) with z | z
        · rw [z]; exact Nat.le_succ _
        · rw [z]; exact Nat.le_refl _
      exact I1.fpOk le (I1.hok.fresh le)
    · exact k1.elim
end Rr
/-! registerrooms: statements. A def's state: what is frozen (G), what it owns (the slots W). -/
namespace Rr
open PySem PySem.Spec PyProof.Rows L2

inductive Out where
  | nx (ρ : Env) | rt (d : D)
abbrev WS := Env → Wp Out
section
variable {c : Ctx} {dr : Addr} {G G' G0 H H' H0 : Hp} {W : List Nat} {σ σ' : L2.St} {ρ ρ' : Env}
/-- an object that a def owns -/
def OwnAt (c : Ctx) (dr : Addr) (G H : Hp) (a : Addr) (d : D) : Prop :=
  (∃ xs ds, d = .lst ds ∧ H a = some (.lst xs) ∧ Rs c dr G xs ds) ∨ ∃ es o ks vs, d = .dct ks vs ∧ H a = some (DctO c.P c.w a es o) ∧ EsD c dr G es ks vs
theorem OwnAt.mono {a : Addr} {d : D} (h : OwnAt c dr G H a d) (s : Same G G') (e : ∀ o, H a = some o → H' a = some o) : OwnAt c dr G' H' a d := by
  rcases h with ⟨xs, ds, h1, h2, h3⟩ | ⟨es, o, ks, vs, h1, h2, h3⟩
  · exact .inl ⟨xs, ds, h1, e _ h2, h3.mono s⟩
  · exact .inr ⟨es, o, ks, vs, h1, e _ h2, h3.mono s⟩
theorem OwnAt.there {a : Addr} {d : D} (h : OwnAt c dr G H a d) : H a ≠ none := by
  rcases h with ⟨xs, ds, h1, h2, h3⟩ | ⟨es, o, ks, vs, h1, h2, h3⟩ <;> (rw [h2]; exact fun z => nomatch z)
structure Stt (c : Ctx) (dr : Addr) (G0 H0 : Hp) (W : List Nat) (σ : L2.St) (H : Hp) (ρ : Env) (G : Hp) : Prop where
  base : Base dr G0 H0
  step : Step dr G0 H0 G H
  env : EnvF c dr G σ (wipeE ρ W)
  own : ∀ i ∈ W, ∀ d, ρ[i]? = some (some d) → ∃ a, σ[i]? = some (some (.ref a)) ∧ G a = none ∧ H0 a = none ∧ OwnAt c dr G H a d
  apart : ∀ i ∈ W, ∀ j ∈ W, ∀ d e, i ≠ j → ρ[i]? = some (some d) → ρ[j]? = some (some e) → σ[i]? ≠ σ[j]?
/-- the addresses that are owned -/
def Owned (W : List Nat) (σ : L2.St) (ρ : Env) (a : Addr) : Prop := ∃ i ∈ W, ∃ d, ρ[i]? = some (some d) ∧ σ[i]? = some (some (.ref a))
open Classical in
/-- G with what is owned -/
noncomputable def fzv (W : List Nat) (σ : L2.St) (ρ : Env) (G H : Hp) : Hp := fun a => if Owned W σ ρ a then H a else G a
open Classical in
/-- G without what is owned -/
noncomputable def unv (W : List Nat) (σ : L2.St) (ρ : Env) (G : Hp) : Hp := fun a => if Owned W σ ρ a then none else G a
theorem Stt.out (S : Stt c dr G0 H0 W σ H ρ G) {a : Addr} (o : Owned W σ ρ a) : G a = none ∧ H0 a = none ∧ a ≠ dr ∧ ∃ d, OwnAt c dr G H a d := by
  obtain ⟨i, hi, d, hd, hs⟩ := o
  obtain ⟨b, h1, h2, h3, h4⟩ := S.own i hi d hd
  rw [hs] at h1
  cases h1
  exact ⟨h2, h3, fun e => S.base.hdr (e ▸ h3), d, h4⟩
theorem Stt.sub_fzv (S : Stt c dr G0 H0 W σ H ρ G) : Same G (fzv W σ ρ G H) := fun a o h => by
  unfold fzv
  rw [if_neg fun z => by rw [(S.out z).1] at h; cases h]
  exact h
theorem Stt.fz (S : Stt c dr G0 H0 W σ H ρ G) : Step dr G0 H0 (fzv W σ ρ G H) H := by
  refine ⟨S.step.hs, S.step.gs.trans S.sub_fzv, ⟨fun a o h => ?_, ?_⟩, fun a h => ?_, S.step.dsc⟩
  · unfold fzv at h
    split at h
    · exact h
    · exact S.step.base.sub a o h
  · obtain ⟨d0, s, n, ns, h1, h2, h3, h4⟩ := S.step.base.draw
    refine ⟨?_, s, n, ns, h1, h2, S.sub_fzv _ _ h3, h4⟩
    unfold fzv
    rw [if_neg fun z => (S.out z).2.2.1 rfl]
    exact d0
  · unfold fzv at h
    split at h
    · exact .inr (S.out (by assumption)).2.1
    · exact S.step.new a h
theorem OwnAt.R {a : Addr} {d : D} (h : OwnAt c dr G H a d) {F : Hp} (s : Same G F) (e : F a = H a) : R c dr F (.ref a) d := by
  rcases h with ⟨xs, ds, rfl, h2, h3⟩ | ⟨es, o, ks, vs, rfl, h2, h3⟩
  · exact .lst (e.trans h2) (h3.mono s)
  · exact (h3.mono s).R (e.trans h2)
theorem Stt.len (S : Stt c dr G0 H0 W σ H ρ G) : ρ.length = σ.length := by
  have := S.env.len
  rwa [wipeE_length] at this
theorem Stt.fzE (S : Stt c dr G0 H0 W σ H ρ G) : EnvF c dr (fzv W σ ρ G H) σ ρ := by
  refine ⟨S.len, fun i d h => ?_⟩
  by_cases m : i ∈ W
  · obtain ⟨a, h1, h2, h3, h4⟩ := S.own i m d h
    refine ⟨_, h1, h4.R S.sub_fzv ?_⟩
    unfold fzv
    rw [if_pos ⟨i, m, d, h, h1⟩]
  · obtain ⟨v, h1, h2⟩ := S.env.get i d (by rw [wipeE_at, if_neg fun z => m z.1]; exact h)
    exact ⟨v, h1, h2.mono S.sub_fzv⟩
mutual
/-- scalars and tuples of such -/
def D.fl : D → Bool
  | .non | .bl _ | .int _ | .str _ => true
  | .tup ds => D.fls ds
  | .lst _ | .dct _ _ | .prg _ _ _ _ | .sam _ | .par _ _ | .drw => false
def D.fls : List D → Bool
  | [] => true
  | d :: ds => D.fl d && D.fls ds
end
mutual
theorem R.flat {F : Hp} (k : ∀ a xs, G a = some (.tup xs) → F a = some (.tup xs)) : ∀ {d : D} {v : V}, R c dr G v d → D.fl d = true → R c dr F v d
  | .non, _, r, _ => by cases r; exact .non
  | .bl _, _, r, _ => by cases r; exact .bl _
  | .int _, _, r, _ => by cases r; exact .int _
  | .str _, _, r, _ => by cases r; exact .str _
  | .tup ds, _, r, h => by
    obtain ⟨a, xs, rfl, ha, q⟩ := r.tup_of
    exact .tup (k _ _ ha) (Rs.flat k q (by simpa [D.fl] using h))
  | .lst _, _, _, h => by simp [D.fl] at h
  | .dct _ _, _, _, h => by simp [D.fl] at h
  | .prg _ _ _ _, _, _, h => by simp [D.fl] at h
  | .sam _, _, _, h => by simp [D.fl] at h
  | .par _ _, _, _, h => by simp [D.fl] at h
  | .drw, _, _, h => by simp [D.fl] at h
theorem Rs.flat {F : Hp} (k : ∀ a xs, G a = some (.tup xs) → F a = some (.tup xs)) : ∀ {ds : List D} {vs : List V}, Rs c dr G vs ds → D.fls ds = true → Rs c dr F vs ds
  | [], _, r, _ => by cases r; exact .nil
  | d :: ds, _, r, h => by
    cases r with
    | cons r q =>
      simp only [D.fls, Bool.and_eq_true] at h
      exact .cons (R.flat k r h.1) (Rs.flat k q h.2)
end
/-- what follows in G, all owned things apart -/
theorem Stt.keep1 (S : Stt c dr G0 H0 W σ H ρ G) (t : Step dr G H G' H') : Stt c dr G0 H0 W σ H' ρ G' := by
  refine ⟨S.base, S.step.trans S.base t, S.env.mono t.gs, fun i hi d h => ?_, S.apart⟩
  obtain ⟨a, h1, h2, h3, h4⟩ := S.own i hi d h
  have ad : a ≠ dr := fun e => S.base.hdr (e ▸ h3)
  exact ⟨a, h1, t.out h2 h4.there, h3, h4.mono t.gs fun o q => t.hs a o ad q⟩
/-- what follows where owned things were read -/
theorem Stt.keep2 (S : Stt c dr G0 H0 W σ H ρ G) (t : Step dr (fzv W σ ρ G H) H G' H') :
    Stt c dr G0 H0 W σ H' ρ (unv W σ ρ G') ∧ Same G (unv W σ ρ G') ∧ ∀ v d, D.fl d = true → R c dr G' v d → R c dr (unv W σ ρ G') v d := by
  have sg : Same G (unv W σ ρ G') := fun a o h => by
    unfold unv
    rw [if_neg fun z => by rw [(S.out z).1] at h; cases h]
    exact t.gs _ _ (S.sub_fzv _ _ h)
  have st : Step dr G0 H0 (unv W σ ρ G') H' := by
    refine ⟨fun a o n h => t.hs a o n (S.step.hs a o n h), S.step.gs.trans sg, ⟨fun a o h => ?_, ?_⟩, fun a h => ?_, fun s n h => ?_⟩
    · unfold unv at h
      split at h
      · cases h
      · exact t.base.sub a o h
    · obtain ⟨d0, s, n, ns, h1, h2, h3, h4⟩ := S.step.base.draw
      obtain ⟨n', h5⟩ := t.dsc s n h1
      obtain ⟨d1, s', m, ms, h6, h7, _, _⟩ := t.base.draw
      rw [h5] at h6
      simp only [Option.some.injEq, HO.lst.injEq, List.cons.injEq, V.ref.injEq, V.int.injEq, and_true, true_and] at h6
      obtain ⟨rfl, rfl⟩ := h6
      refine ⟨?_, s, n', ns, h5, h7, sg _ _ h3, h4⟩
      unfold unv
      rw [if_neg fun z => (S.out z).2.2.1 rfl]
      exact d1
    · unfold unv at h
      split at h
      · exact absurd rfl h
      · rename_i no
        rcases t.new a h with z | z
        · unfold fzv at z
          rw [if_neg no] at z
          exact S.step.new a z
        · exact .inr (S.step.none0 S.base z)
    · obtain ⟨m, q⟩ := S.step.dsc s n h
      exact t.dsc s m q
  refine ⟨⟨S.base, st, S.env.mono sg, fun i hi d h => ?_, S.apart⟩, sg, fun v d f r => r.flat (fun a xs h => ?_) f⟩
  · obtain ⟨a, h1, h2, h3, h4⟩ := S.own i hi d h
    have ad : a ≠ dr := fun e => S.base.hdr (e ▸ h3)
    refine ⟨a, h1, ?_, h3, h4.mono sg fun o q => t.hs a o ad q⟩
    unfold unv
    rw [if_pos ⟨i, hi, d, h, h1⟩]
  · unfold unv
    rw [if_neg fun z => ?_]
    · exact h
    · obtain ⟨h1, h2, h3, d', h4⟩ := S.out z
      have hf : fzv W σ ρ G H a = H a := by unfold fzv; rw [if_pos z]
      rcases h4 with ⟨ys, ds, _, q, _⟩ | ⟨es, o, ks, vs, _, q, _⟩
      · have := t.gs a _ (hf.trans q)
        rw [h] at this
        cases this
      · have := t.gs a _ (hf.trans q)
        rw [h] at this
        cases this
/-- slots that are not owned are set -/
theorem Stt.set (S : Stt c dr G0 H0 W σ H ρ G) {is : List Nat} {vs : List V} {ds : List D} (h : ∀ i ∈ is, i ∉ W) (r : Rs c dr G vs ds) : Stt c dr G0 H0 W (setA σ is vs) H (setA ρ is ds) G := by
  have at1 : ∀ i ∈ W, (setA ρ is ds)[i]? = ρ[i]? := fun i hi => setA_out _ _ _ fun z => h i z hi
  have at2 : ∀ i ∈ W, (setA σ is vs)[i]? = σ[i]? := fun i hi => setA_out _ _ _ fun z => h i z hi
  refine ⟨S.base, S.step, by rw [wipeE_setA h]; exact S.env.setA r, fun i hi d q => ?_, fun i hi j hj d e n q1 q2 => ?_⟩
  · rw [at1 i hi] at q
    rw [at2 i hi]
    exact S.own i hi d q
  · rw [at1 i hi] at q1
    rw [at1 j hj] at q2
    rw [at2 i hi, at2 j hj]
    exact S.apart i hi j hj d e n q1 q2
theorem wipeE_in {i : Nat} {x : Option D} (hi : i ∈ W) : wipeE (ρ.set i x) W = wipeE ρ W := by
  refine List.ext_getElem? fun j => ?_
  rw [wipeE_at, wipeE_at, List.length_set]
  by_cases q : j ∈ W ∧ j < ρ.length
  · rw [if_pos q, if_pos q]
  · rw [if_neg q, if_neg q]
    by_cases e : i = j
    · subst e
      have l : ¬ i < ρ.length := fun l => q ⟨hi, l⟩
      rw [List.getElem?_eq_none (by simp; omega), List.getElem?_eq_none (by omega)]
    · rw [List.getElem?_set_ne e]
/-- a new thing goes to an owned slot; it was not there at H1 -/
theorem Stt.born {H1 G1 : Hp} (S1 : Stt c dr G0 H0 W σ H1 ρ G1) (S : Stt c dr G0 H0 W σ H ρ G) {i : Nat} {a : Addr} {d : D} (hi : i ∈ W) (n1 : H1 a = none) (ng : G a = none) (ho : OwnAt c dr G H a d) : Stt c dr G0 H0 W (σ.set i (some (.ref a))) H (ρ.set i (some d)) G := by
  have n0 : H0 a = none := S1.step.none0 S1.base n1
  have ap : ∀ j ∈ W, ∀ e, ρ[j]? = some (some e) → σ[j]? ≠ some (some (.ref a)) := fun j hj e q z => by
    obtain ⟨b, h1, _, _, h4⟩ := S1.own j hj e q
    rw [z] at h1
    cases h1
    exact h4.there n1
  have ln := S.len
  have en : EnvF c dr G (σ.set i (some (.ref a))) (wipeE (ρ.set i (some d)) W) := by
    rw [wipeE_in hi]
    refine ⟨by rw [S.env.len, List.length_set], fun j e q => ?_⟩
    have m := (wipeE_some q).1
    rw [List.getElem?_set_ne (show i ≠ j from fun z => m (z ▸ hi))]
    exact S.env.get j e q
  refine ⟨S.base, S.step, en, fun j hj e q => ?_, fun j hj k hk e f n q1 q2 => ?_⟩
  · by_cases z : i = j
    · subst z
      by_cases l : i < ρ.length
      · rw [List.getElem?_set_self l] at q
        cases q
        exact ⟨a, List.getElem?_set_self (by omega), ng, n0, ho⟩
      · rw [List.getElem?_eq_none (by simp; omega)] at q
        cases q
    · rw [List.getElem?_set_ne z] at q ⊢
      exact S.own j hj e q
  · by_cases z : i = j
    · subst z
      rw [List.getElem?_set_ne n] at q2 ⊢
      by_cases l : i < σ.length
      · rw [List.getElem?_set_self l]
        exact fun y => ap k hk f q2 y.symm
      · rw [List.getElem?_eq_none (by simp; omega)] at q1
        cases q1
    · by_cases y : i = k
      · subst y
        rw [List.getElem?_set_ne z] at q1 ⊢
        by_cases l : i < σ.length
        · rw [List.getElem?_set_self l]
          exact ap j hj e q1
        · rw [List.getElem?_eq_none (by simp; omega)] at q2
          cases q2
      · rw [List.getElem?_set_ne z] at q1 ⊢
        rw [List.getElem?_set_ne y] at q2 ⊢
        exact S.apart j hj k hk e f n q1 q2
/-- an owned thing changes -/
theorem Stt.mut (S : Stt c dr G0 H0 W σ H ρ G) {i : Nat} {a : Addr} {d d' : D} {o : HO} (hi : i ∈ W) (hd : ρ[i]? = some (some d)) (hs : σ[i]? = some (some (.ref a))) (ho : OwnAt c dr G (upd H a o) a d') : Stt c dr G0 H0 W σ (upd H a o) (ρ.set i (some d')) G := by
  obtain ⟨b, h1, h2, h3, h4⟩ := S.own i hi d hd
  rw [hs] at h1
  cases h1
  have l : i < ρ.length := (List.getElem?_eq_some_iff.mp hd).1
  have st : Step dr G0 H0 G (upd H a o) := S.step.mut S.base h3 h2
  refine ⟨S.base, st, by rw [wipeE_in hi]; exact S.env, fun j hj e q => ?_, fun j hj k hk e f n q1 q2 => ?_⟩
  · by_cases z : i = j
    · subst z
      rw [List.getElem?_set_self l] at q
      cases q
      exact ⟨a, hs, h2, h3, ho⟩
    · rw [List.getElem?_set_ne z] at q
      obtain ⟨b, k1, k2, k3, k4⟩ := S.own j hj e q
      refine ⟨b, k1, k2, k3, k4.mono (Same.refl _) fun u hu => ?_⟩
      have ne : b ≠ a := fun y => S.apart i hi j hj d e z hd q (by rw [hs, k1, y])
      rw [upd_ne ne]
      exact hu
  · have old : ∀ m e, (ρ.set i (some d'))[m]? = some (some e) → ∃ e', ρ[m]? = some (some e') := fun m e q => by
      by_cases z : i = m
      · subst z; exact ⟨d, hd⟩
      · rw [List.getElem?_set_ne z] at q; exact ⟨e, q⟩
    obtain ⟨e', q1⟩ := old j e q1
    obtain ⟨f', q2⟩ := old k f q2
    exact S.apart j hj k hk e' f' n q1 q2
/-- an owned slot is given over to G -/
theorem Stt.give (S : Stt c dr G0 H0 W σ H ρ G) : Stt c dr G0 H0 [] σ H ρ (fzv W σ ρ G H) := ⟨S.base, S.fz, S.fzE, fun i hi => by simp at hi, fun i hi => by simp at hi⟩
end
end Rr
/-! registerrooms: the rules for statements. -/
namespace Rr
open PySem PySem.Spec PyProof.Rows L2

theorem iteRT {α : Type} {a b : Wp α} {K : α → Prop} (h : (if true = true then a else b).run K) : a.run K := h
theorem iteRF {α : Type} {a b : Wp α} {K : α → Prop} (h : (if false = true then a else b).run K) : b.run K := h
/-! ### expressions within a def's state -/
section
variable {c : Ctx} {W : List Nat}
def tSE (c : Ctx) (W : List Nat) (w : WE) : TE := fun σ H Q => ∃ dr G0 H0 G ρ, Stt c dr G0 H0 W σ H ρ G ∧ (w ρ).run fun d => ∀ v G' H', Same G G' → Stt c dr G0 H0 W σ H' ρ G' → R c dr G' v d → Q v H'
def tST (c : Ctx) (W : List Nat) (w : WT) : TT := fun σ H Q => ∃ dr G0 H0 G ρ, Stt c dr G0 H0 W σ H ρ G ∧ (w ρ).run fun b => ∀ G' H', Same G G' → Stt c dr G0 H0 W σ H' ρ G' → Q b H'
def tSA (c : Ctx) (W : List Nat) (w : WA) : TA := fun σ H Q => ∃ dr G0 H0 G ρ, Stt c dr G0 H0 W σ H ρ G ∧ (w ρ).run fun ds => ∀ vs G' H', Same G G' → Stt c dr G0 H0 W σ H' ρ G' → Rs c dr G' vs ds → Q vs H'
def tSI (c : Ctx) (W : List Nat) (w : WI) : TI := fun σ H Q => ∃ dr G0 H0 G ρ, Stt c dr G0 H0 W σ H ρ G ∧ (w ρ).run fun ds => ∀ J G' H', Same G G' → Stt c dr G0 H0 W σ H' ρ G' → IterD c dr G' J ds → Q J H'
/-- a new thing -/
def tSO (c : Ctx) (W : List Nat) (w : WE) : TE := fun σ H Q => ∃ dr G0 H0 G ρ, Stt c dr G0 H0 W σ H ρ G ∧ (w ρ).run fun d => ∀ a G1 H1 G' H', Same G G' → Stt c dr G0 H0 W σ H1 ρ G1 → Stt c dr G0 H0 W σ H' ρ G' → H1 a = none → G' a = none → OwnAt c dr G' H' a d → Q (.ref a) H'
end
def PSE (X : Cx) (cs : Cs) (W : List Nat) (e : Expr) (w : WE) : Prop := PE X e (tSE (xc X cs) W w)
def PST (X : Cx) (cs : Cs) (W : List Nat) (e : Expr) (w : WT) : Prop := PT X e (tST (xc X cs) W w)
def PSA (X : Cx) (cs : Cs) (W : List Nat) (es : List Expr) (w : WA) : Prop := PA X es (tSA (xc X cs) W w)
def PSI (X : Cx) (cs : Cs) (W : List Nat) (tg e : Expr) (w : WI) : Prop := PI X tg e (tSI (xc X cs) W w)
def PSO (X : Cx) (cs : Cs) (W : List Nat) (e : Expr) (w : WE) : Prop := PE X e (tSO (xc X cs) W w)
/-- without what is owned -/
def mk (W : List Nat) {α : Type} (w : Env → Wp α) : Env → Wp α := fun ρ => w (wipeE ρ W)
/-- what comes must be flat -/
def fl (w : WE) : WE := fun ρ => (w ρ).bind fun d => .chk (D.fl d = true) (.ret d)
section
variable {X : Cx} {cs : Cs} {W : List Nat} {e : Expr} {es : List Expr} {w : WE} {t : WT} {wa : WA} {pos p : Pos} {j k : Nat} {x : Str}
theorem k1 {c : Ctx} {σ : L2.St} {H : Hp} {Q : VK} (h : tSE c W (mk W w) σ H Q) : tD c w σ H Q := by
  obtain ⟨dr, G0, H0, G, ρ, S, h⟩ := h
  exact ⟨dr, G, wipeE ρ W, S.step.base, S.env, (w _).mono (fun d k v G' H' s r => k v G' H' s.gs (S.keep1 s) r) h⟩
theorem pse1 (h : PD X cs e w) : PSE X cs W e (mk W w) := pe_of h fun σ H Q => k1
theorem pse2 (h : PD X cs e w) : PSE X cs W e (fl w) := pe_of h fun σ H Q ⟨dr, G0, H0, G, ρ, S, h⟩ =>
  ⟨dr, _, ρ, S.fz.base, S.fzE, (w ρ).mono (fun d k v G' H' s r => by
    obtain ⟨S', sg, f⟩ := S.keep2 s
    exact k.2 v _ H' sg S' (f v d k.1 r)) h⟩
theorem pst2 (h : PTD X cs e t) : PST X cs W e t := pt_of h fun σ H Q ⟨dr, G0, H0, G, ρ, S, h⟩ =>
  ⟨dr, _, ρ, S.fz.base, S.fzE, (t ρ).mono (fun d k G' H' s => by
    obtain ⟨S', sg, f⟩ := S.keep2 s
    exact k _ H' sg S') h⟩
theorem psa1 (h : PAD X cs es wa) : PSA X cs W es (mk W wa) := pa_of h fun σ H Q ⟨dr, G0, H0, G, ρ, S, h⟩ =>
  ⟨dr, G, wipeE ρ W, S.step.base, S.env, (wa _).mono (fun d k v G' H' s r => k v G' H' s.gs (S.keep1 s) r) h⟩
theorem psa_nil : PSA X cs W [] wNil := pa_of pa_nil fun σ H Q ⟨dr, G0, H0, G, ρ, S, h⟩ => h [] G H (Same.refl _) S .nil
theorem psa_cons {ws : WA} (ha : PSE X cs W e w) (hr : PSA X cs W es ws) (hs : starEach (e :: es) X.env = (false, eval e X.env) :: starEach es X.env := by rfl) : PSA X cs W (e :: es) (wCons w ws) :=
  pa_of (pa_cons ha hr hs) fun σ H Q ⟨dr, G0, H0, G, ρ, S, h⟩ =>
    ⟨dr, G0, H0, G, ρ, S, (w ρ).mono (fun d k v G1 H1 s1 S1 r1 => ⟨dr, G0, H0, G1, ρ, S1, (ws ρ).mono (fun ds k2 vs G2 H2 s2 S2 r2 => k2 _ G2 H2 (s1.trans s2) S2 (.cons (r1.mono s2) r2)) k⟩) h⟩
theorem pse_if {ce ae be : Expr} {a b : WE} (hc : PST X cs W ce t) (ha : PSE X cs W ae a) (hb : PSE X cs W be b) : PSE X cs W (.IfExp ce ae be pos) (wIf t a b) :=
  pe_of (pe_ifExp hc ha hb) fun σ H Q ⟨dr, G0, H0, G, ρ, S, h⟩ =>
    ⟨dr, G0, H0, G, ρ, S, (t ρ).mono (fun d k G1 H1 s1 S1 => by
      cases d with
      | true => exact iteT ⟨dr, G0, H0, G1, ρ, S1, (a ρ).mono (fun d k v G2 H2 s2 S2 r => k v G2 H2 (s1.trans s2) S2 r) k⟩
      | false => exact iteF ⟨dr, G0, H0, G1, ρ, S1, (b ρ).mono (fun d k v G2 H2 s2 S2 r => k v G2 H2 (s1.trans s2) S2 r) k⟩) h⟩
theorem pse_call {F : List D → Wp D} (f : C8.Cal X.prog X.w X.K X.mg X.base k x (spW (xc X cs) F) []) (hr : Room j X.A) (hk : k ≤ j) (hg : Gl X x) (ha : PSA X cs W (e :: es) wa)
    (hdb : (x == ("__debug__" : Str)) = false := by decide) (he : starEach (e :: es) X.env = (false, eval e X.env) :: starEach es X.env := by rfl) (hpl : (backTo pos (starEach es X.env)).any (·.1) = false := by rfl) :
    PSE X cs W (.Call (.Name x p) (e :: es) [] pos) (wCall F wa) :=
  pe_of (C8.pe_c f hr hk hg ha hdb he hpl) fun σ H Q ⟨dr, G0, H0, G, ρ, S, h⟩ =>
    ⟨dr, G0, H0, G, ρ, S, (wa ρ).mono (fun ds k vs G1 H1 s1 S1 r1 => by
      show spW (xc X cs) F (vs ++ []) H1 Q C8.E0
      rw [List.append_nil]
      exact ⟨dr, G1, ds, S1.step.base, r1, (F ds).mono (fun d k v G2 H2 s2 r => k v G2 H2 (s1.trans s2.gs) (S1.keep1 s2) r) k⟩) h⟩
/-- what a loop walks -/
theorem psi1 {tg : Expr} {wi : WI} (h : PID X cs tg e wi) : PSI X cs W tg e (mk W wi) := pi_of h fun σ H Q ⟨dr, G0, H0, G, ρ, S, h⟩ =>
  ⟨dr, G, wipeE ρ W, S.step.base, S.env, (wi _).mono (fun d k v G' H' s r => k v G' H' s.gs (S.keep1 s) r) h⟩
theorem psi_val {tg : Expr} (h : PSE X cs W e w) : PSI X cs W tg e (wWalk w) := by
  refine ⟨fun pins s σ H Q I ⟨dr, G0, H0, G, ρ, S, h'⟩ => ?_⟩
  refine thn (h.run pins s σ H (fun v H1 => ∃ G1 d, Same G G1 ∧ Stt (xc X cs) dr G0 H0 W σ H1 ρ G1 ∧ R (xc X cs) dr G1 v d ∧ (walkD d).run fun ds => ∀ J G' H', Same G G' → Stt (xc X cs) dr G0 H0 W σ H' ρ G' → IterD (xc X cs) dr G' J ds → Q J H') I ⟨dr, G0, H0, G, ρ, S, (w ρ).mono (fun d k v G1 H1 s1 S1 r1 => ⟨G1, d, s1, S1, r1, k⟩) h'⟩) fun u s1 ⟨v, H1, I1, rv, G1, d, sg, S1, r1, k1⟩ => ?_
  exact walk_run I1 S1.step.base r1 rv ((walkD d).mono (fun ds k J G' H' s2 it => k J G' H' (sg.trans s2.gs) (S1.keep1 s2) it) k1)
/-! ### new lists and dicts that a def owns -/
theorem pso_lst {ws : WA} (h : PSA X cs W es ws) : PSO X cs W (.List es pos) (wLst ws) :=
  pe_of (pe_lst h) fun σ H Q ⟨dr, G0, H0, G, ρ, S, h⟩ =>
    ⟨dr, G0, H0, G, ρ, S, (ws ρ).mono (fun ds k vs G1 H1 s1 S1 r1 => by
      obtain ⟨hz, k⟩ := k
      refine ⟨line_le (by rw [r1.length]; exact hz), fun a na => ?_⟩
      exact k a G1 H1 G1 _ s1 S1 (S1.keep1 (Step.laidH S1.step.base na _)) na (S1.step.base.sub.free na) (.inl ⟨vs, ds, rfl, upd_same, r1⟩)) h⟩
def listO : List D → Wp D
  | [.tup ds] => .chk (D.fls ds = true) (.ret (.lst ds))
  | [.lst ds] => .chk (D.fls ds = true) (.ret (.lst ds))
  | _ => .fail
theorem fls_tup {ds : List D} {c : Ctx} {dr : Addr} {G F : Hp} (k : ∀ v d, D.fl d = true → R c dr G v d → R c dr F v d) {vs : List V} (r : Rs c dr G vs ds) (f : D.fls ds = true) : Rs c dr F vs ds := by
  induction vs generalizing ds with
  | nil => cases r; exact .nil
  | cons v vs ih =>
    cases r with
    | cons r q =>
      simp only [D.fls, Bool.and_eq_true] at f
      exact .cons (k _ _ f.1 r) (ih q f.2)
theorem pso_listOf (hg : Gl X "list") (hm : X.mg "list" = none) (hv : bootBuiltins ("list" : Str) = some (.type "list")) (ha : PAD X cs [e] wa)
    (he : starEach [e] X.env = [(false, eval e X.env)] := by rfl) : PSO X cs W (.Call (.Name "list" p) [e] [] pos) (wCall listO wa) :=
  pe_of (pe_callTy call_list_of hg hm hv ha (by decide) (by decide) he rfl) fun σ H Q ⟨dr, G0, H0, G, ρ, S, h⟩ => by
    refine tDA_seq (c := xc X cs) S.fz.base S.fzE h fun ds vs G1 H1 s1 e1 r1 k1 => ?_
    obtain ⟨S1, sg, f⟩ := S.keep2 s1
    unfold listO at k1
    split at k1
    · obtain ⟨v, rfl, r0⟩ := r1.one
      obtain ⟨a, xs, rfl, ha, qa⟩ := r0.tup_of
      refine ⟨a, xs, rfl, .inr (SqT.of (s1.base.sub _ _ ha)), fun l nl => ?_⟩
      exact k1.2 l _ H1 _ _ sg S1 (S1.keep1 (Step.laidH S1.step.base nl _)) nl (S1.step.base.sub.free nl) (.inl ⟨xs, _, rfl, upd_same, fls_tup f qa k1.1⟩)
    · obtain ⟨v, rfl, r0⟩ := r1.one
      obtain ⟨a, xs, rfl, ha, qa⟩ := r0.lst_of
      refine ⟨a, xs, rfl, .inl (SqL.of (s1.base.sub _ _ ha)), fun l nl => ?_⟩
      exact k1.2 l _ H1 _ _ sg S1 (S1.keep1 (Step.laidH S1.step.base nl _)) nl (S1.step.base.sub.free nl) (.inl ⟨xs, _, rfl, upd_same, fls_tup f qa k1.1⟩)
    · exact k1.elim
theorem pso_dict : PSO X cs W (.Dict [] [] pos) (wC (.dct [] [])) := by
  refine ⟨fun pins s σ H Q I ⟨dr, G0, H0, G, ρ, S, h⟩ => ?_⟩
  refine wpAny_Dict_empty ⟨.ref s.heap.objs.size, _, dct_laid I, rfl, ?_⟩
  have na : H s.heap.objs.size = none := I.hok.fresh (Nat.le_refl _)
  exact h _ G H G _ (Same.refl _) S (S.keep1 (Step.laidH S.step.base na _)) na (S.step.base.sub.free na) (.inr ⟨[], _, [], [], rfl, upd_same, .nil⟩)
end

/-! ### statements -/
def EndsW (c : Ctx) (dr : Addr) (G0 H0 : Hp) (W : List Nat) (G : Hp) (D : Ends) : Out → Prop
  | .nx ρ => ∀ σ H' G', Same G G' → Stt c dr G0 H0 W σ H' ρ G' → D.nx σ H'
  | .rt d => ∀ v H' G', Step dr G0 H0 G' H' → R c dr G' v d → D.rt v H'
theorem EndsW.weak {c : Ctx} {dr : Addr} {G0 H0 G G1 : Hp} {W : List Nat} {D : Ends} (s : Same G G1) : ∀ {o : Out}, EndsW c dr G0 H0 W G D o → EndsW c dr G0 H0 W G1 D o
  | .nx ρ, h => fun σ H' G' s' S => h σ H' G' (s.trans s') S
  | .rt d, h => h
def tSD (c : Ctx) (W : List Nat) (f : WS) : TS := fun D σ H => ∃ dr G0 H0 G ρ, Stt c dr G0 H0 W σ H ρ G ∧ (f ρ).run (EndsW c dr G0 H0 W G D)
def PSD (X : Cx) (cs : Cs) (W : List Nat) (st : Stmt) (f : WS) : Prop := PS X st (tSD (xc X cs) W f)
def PSsD (X : Cx) (cs : Cs) (W : List Nat) (st : List Stmt) (f : WS) : Prop := PSs X st (tSD (xc X cs) W f)
def seqK (g : WS) : Out → Wp Out
  | .nx ρ => g ρ
  | .rt d => .ret (.rt d)
def wSeq (f g : WS) : WS := fun ρ => (f ρ).bind (seqK g)
def wNext : WS := fun ρ => .ret (.nx ρ)
def wRet (w : WE) : WS := fun ρ => (w ρ).bind fun d => .ret (.rt d)
def wIfS (t : WT) (f g : WS) : WS := fun ρ => (t ρ).bind fun b => if b = true then f ρ else g ρ
def wDo (w : WE) : WS := fun ρ => (w ρ).bind fun _ => .ret (.nx ρ)
def wAsg (w : WE) (f : SetD) (is : List Nat) : WS := fun ρ => (w ρ).bind fun d => (f d).bind fun ds => .ret (.nx (setA ρ is ds))
def wNew (w : WE) (i : Nat) : WS := fun ρ => (w ρ).bind fun d => .ret (.nx (ρ.set i (some d)))
def wNever : WS := fun _ => .fail
section
variable {X : Cx} {cs : Cs} {W : List Nat} {st : Stmt} {sts : List Stmt} {e : Expr} {w : WE} {t : WT} {f g : WS} {pos p : Pos}
theorem seq_ends {c : Ctx} {dr : Addr} {G0 H0 G : Hp} {D : Ends} {o : Out} (h : (seqK g o).run (EndsW c dr G0 H0 W G D)) : EndsW c dr G0 H0 W G { D with nx := tSD c W g D } o := by
  cases o with
  | nx ρ => exact fun σ H' G' s S => ⟨dr, G0, H0, G', ρ, S, (g ρ).mono (fun o k => k.weak s) h⟩
  | rt d => exact h
theorem pssd_nil : PSsD X cs W [] wNext := pss_of pss_nil fun D σ H ⟨dr, G0, H0, G, ρ, S, h⟩ => h σ H G (Same.refl _) S
theorem pssd_cons (h1 : PSD X cs W st f) (h2 : PSsD X cs W sts g) : PSsD X cs W (st :: sts) (wSeq f g) :=
  pss_of (pss_cons h1 h2) fun D σ H ⟨dr, G0, H0, G, ρ, S, h⟩ => ⟨dr, G0, H0, G, ρ, S, (f ρ).mono (fun o k => seq_ends k) h⟩
theorem pssd_one (h1 : PSD X cs W st f) : PSsD X cs W [st] f := pss_one h1
theorem psd_never : PSD X cs W st wNever := ps_of ps_never fun D σ H ⟨dr, G0, H0, G, ρ, S, h⟩ => h
theorem psd_pass : PSD X cs W (.Pass pos) wNext := ps_of ps_pass fun D σ H ⟨dr, G0, H0, G, ρ, S, h⟩ => h σ H G (Same.refl _) S
theorem psd_ret (h : PD X cs e w) : PSD X cs W (.Return (some e) pos) (wRet w) := ps_of (ps_ret h) fun D σ H ⟨dr, G0, H0, G, ρ, S, h⟩ =>
  ⟨dr, _, ρ, S.fz.base, S.fzE, (w ρ).mono (fun d k v G' H' s r => k v H' G' (S.fz.trans S.base s) r) h⟩
theorem psd_if {b1 b2 : List Stmt} (hc : PTD X cs e t) (ha : PSsD X cs W b1 f) (hb : PSsD X cs W b2 g) : PSD X cs W (.If e b1 b2 pos) (wIfS t f g) :=
  ps_of (ps_if (pst2 (W := W) hc) ha hb) fun D σ H ⟨dr, G0, H0, G, ρ, S, h⟩ => ⟨dr, G0, H0, G, ρ, S, (t ρ).mono (fun b k G' H' s S' => by
    cases b with
    | true => exact iteT ⟨dr, G0, H0, G', ρ, S', (f ρ).mono (fun o k => k.weak s) k⟩
    | false => exact iteF ⟨dr, G0, H0, G', ρ, S', (g ρ).mono (fun o k => k.weak s) k⟩) h⟩
theorem psd_do (h : PSE X cs W e w) (hs : swapsWith e none pos.line X.env = pure false := by rfl) : PSD X cs W (.Expr e pos) (wDo w) :=
  ps_of (ps_expr h hs) fun D σ H ⟨dr, G0, H0, G, ρ, S, h⟩ => ⟨dr, G0, H0, G, ρ, S, (w ρ).mono (fun d k v G' H' s S' r => k σ H' G' s S') h⟩
theorem asg_k {c : Ctx} {fs : SetD} {is : List Nat} (hd : ∀ i ∈ is, i ∉ W) (D : Ends) (σ : L2.St) (H : Hp) (h : tSD c W (wAsg w fs is) D σ H) : tAsg (tSE c W w) (gD c fs is) D σ H := by
  obtain ⟨dr, G0, H0, G, ρ, S, h⟩ := h
  refine ⟨dr, G0, H0, G, ρ, S, (w ρ).mono (fun d k v G' H' s S' r => ?_) h⟩
  exact ⟨dr, G', d, S'.step.base, r, (fs d).mono (fun ds k vs rv => k _ H' G' s (S'.set hd rv)) k⟩
theorem psd_asg {tg : Expr} {fs : SetD} {is : List Nat} (he : PSE X cs W e w) (hg : PGD X cs tg fs is) (hd : ∀ i ∈ is, i ∉ W := by decide) (hs : swapsWithSole [tg] e pos.line X.env = pure false := by rfl) (hw : swappedStores [tg] e X.env = pure none := by rfl)
    (h1 : (assignEach [tg] X.env).map (·.2) = [assign tg X.env] := by rfl) : PSD X cs W (.Assign [tg] e pos) (wAsg w fs is) :=
  ps_of (ps_asg he hg hs hw h1) (asg_k hd)
/-- name = [..] on one line -/
theorem psd_setLc {i : Nat} {y : Str} {py : Pos} {elt tg iter : Expr} {ifs : List Expr} {scope : Scope} {own : List (Str × Nat)} {pos spos : Pos} {wi : WI} {fs : SetD} {is : List Nat} {tt : WT} {te : WE} (hc : X.calm = true) (hN : X.N.Nodup) (hy : X.N[i]? = some y) (hyl : X.env.scope.names.lookup y = some .local)
    (hsw : swapsWith (.ListComp elt [⟨tg, iter, ifs, 0⟩] scope pos) (some (.Name y py)) spos.line X.env = pure true) (hi : PID X cs tg iter wi) (ok : BlkOk X.N X.env.scope scope own) (hv : ∀ i ∈ is, i ∈ own.map (·.2)) (hd : ∀ j ∈ [i], j ∉ W)
    (hg : Blk X scope fun Y => PGD Y cs tg fs is) (ht : Blk X scope fun Y => PTsD Y cs ifs tt) (he : Blk X scope fun Y => PD Y cs elt te) (hs : ∀ x, foldedSetIterable iter X.env x = pure x := by intro _; rfl) :
    PSD X cs W (.Assign [.Name y py] (.ListComp elt [⟨tg, iter, ifs, 0⟩] scope pos) spos) (wAsg (mk W (wLc wi fs is (own.map (·.2)) tt te)) setN [i]) :=
  ps_of (ps_setLc (g := gD (xc X cs) fs is) (tt := tDT (xc X cs) tt) (te := tD (xc X cs) te) hc hN hy hyl hsw hi ok hg ht he hs) fun D σ H ⟨dr, G0, H0, G, ρ, S, h⟩ => by
    have h : (wLc wi fs is (own.map (·.2)) tt te (wipeE ρ W)).run _ := h
    refine lc_ok hv σ H _ ⟨dr, G, wipeE ρ W, S.step.base, S.env, Wp.mono _ (fun d k v G' H' s r => ?_) h⟩
    exact k _ H' G' s.gs ((S.keep1 s).set hd (.cons r .nil))
theorem psd_setLc2 {i : Nat} {y : Str} {py : Pos} {elt tg iter tg1 iter1 : Expr} {scope : Scope} {own : List (Str × Nat)} {pos spos : Pos} {wi wi1 : WI} {fs f1 : SetD} {is is1 vs1 : List Nat} {te : WE} (hc : X.calm = true) (hN : X.N.Nodup) (hy : X.N[i]? = some y) (hyl : X.env.scope.names.lookup y = some .local)
    (hsw : swapsWith (.ListComp elt [⟨tg, iter, [], 0⟩, ⟨tg1, iter1, [], 0⟩] scope pos) (some (.Name y py)) spos.line X.env = pure true) (hi : PID X cs tg iter wi) (ok : BlkOk X.N X.env.scope scope own) (hv0 : ∀ i ∈ vs1, i ∈ own.map (·.2)) (hv : ∀ i ∈ is, i ∈ own.map (·.2)) (hv1 : ∀ i ∈ is1, i ∈ vs1) (hd : ∀ j ∈ [i], j ∉ W)
    (hg : Blk X scope fun Y => PGD Y cs tg fs is) (hi1 : Blk X scope fun Y => PID Y cs tg1 iter1 wi1) (hg1 : Blk X scope fun Y => PGD Y cs tg1 f1 is1) (he : Blk X scope fun Y => PD Y cs elt te) (hs : ∀ x, foldedSetIterable iter X.env x = pure x := by intro _; rfl) (hs1 : ∀ env x, foldedSetIterable iter1 env x = pure x := by intro _ _; rfl) :
    PSD X cs W (.Assign [.Name y py] (.ListComp elt [⟨tg, iter, [], 0⟩, ⟨tg1, iter1, [], 0⟩] scope pos) spos) (wAsg (mk W (wLc2 wi fs is (own.map (·.2)) wi1 f1 is1 vs1 wYes te)) setN [i]) :=
  ps_of (ps_setLc2 (g := gD (xc X cs) fs is) (tt := tDT (xc X cs) wYes) (wi1 := tDI (xc X cs) wi1) (g1 := gD (xc X cs) f1 is1) (tt1 := tDT (xc X cs) wYes) (te := tD (xc X cs) te) hc hN hy hyl hsw hi ok hv0 hg (fun _ _ _ _ _ => ptsd_nil) hi1 hg1 (fun _ _ _ _ _ => ptsd_nil) he hs hs1) fun D σ H ⟨dr, G0, H0, G, ρ, S, h⟩ => by
    have h : (wLc2 wi fs is (own.map (·.2)) wi1 f1 is1 vs1 wYes te (wipeE ρ W)).run _ := h
    refine lc2_ok hv hv1 σ H _ ⟨dr, G, wipeE ρ W, S.step.base, S.env, Wp.mono _ (fun d k v G' H' s r => ?_) h⟩
    exact k _ H' G' s.gs ((S.keep1 s).set hd (.cons r .nil))
/-- name = a new thing, owned -/
theorem psd_new {i : Nat} {x : Str} {p' : Pos} (hN : X.N.Nodup) (he : PSO X cs W e w) (hi : X.N[i]? = some x) (hm : i ∈ W) (hx : Loc X.env.scope x := by first | exact Or.inl rfl | exact Or.inr rfl) (hs : swapsWith e (some (.Name x p')) pos.line X.env = pure false := by rfl) (hf : X.fn x = true ∨ X.env.scope.names.lookup x = some .local := by first | exact .inl rfl | exact .inr rfl | assumption) :
    PSD X cs W (.Assign [.Name x p'] e pos) (wNew w i) :=
  ps_of (ps_set hN hi hx he hs hf) fun D σ H ⟨dr, G0, H0, G, ρ, S, h⟩ => ⟨dr, G0, H0, G, ρ, S, (w ρ).mono (fun d k a G1 H1 G' H' sg S1 S' n1 ng o => k _ H' G' sg (S1.born S' hm n1 ng o)) h⟩
/-! ### loops -/
def whileN (t : WT) (f : WS) : Nat → Env → Wp Out
  | 0, _ => .fail
  | n + 1, ρ => (t ρ).bind fun b => if b = true then (f ρ).bind (seqK (whileN t f n)) else .ret (.nx ρ)
def wWhile (t : WT) (f : WS) : WS := fun ρ => ⟨fun K => ∃ n, (whileN t f n ρ).run K, fun h ⟨n, k⟩ => ⟨n, (whileN t f n ρ).mono h k⟩⟩
theorem psd_while {b : List Stmt} (hp : PassesOwn (model X.prog X.w) X.A X.env X.xe) (hc : PTD X cs e t) (hb : PSsD X cs W b f) : PSD X cs W (.While e b [] pos) (wWhile t f) :=
  ps_of (ps_while hp (pst2 (W := W) hc) hb) fun D σ H ⟨dr, G0, H0, G, ρ, S, n, h⟩ => by
    refine ⟨fun m σ H => ∃ G1 ρ, Same G G1 ∧ Stt (xc X cs) dr G0 H0 W σ H ρ G1 ∧ (whileN t f m ρ).run (EndsW (xc X cs) dr G0 H0 W G D), ⟨n, G, ρ, Same.refl _, S, h⟩, ?_⟩
    rintro m σ H ⟨G1, ρ, sg, S, h⟩
    cases m with
    | zero => exact h.elim
    | succ m =>
      rw [whileN] at h
      refine ⟨dr, G0, H0, G1, ρ, S, (t ρ).mono (fun b k G2 H2 s2 S2 => ?_) h⟩
      cases b with
      | false =>
        replace k := iteRF k
        exact iteF (k σ H2 G2 (sg.trans s2) S2)
      | true =>
        replace k := iteRT k
        refine iteT ⟨fun σ H => ∃ G1 ρ, Same G G1 ∧ Stt (xc X cs) dr G0 H0 W σ H ρ G1 ∧ (whileN t f m ρ).run (EndsW (xc X cs) dr G0 H0 W G D), fun σ' H' z => ⟨m, Nat.lt_succ_self m, z⟩, ?_⟩
        refine ⟨dr, G0, H0, G2, ρ, S2, (f ρ).mono (fun o k => ?_) k⟩
        cases o with
        | nx ρ' => exact fun σ' H' G' s' S' => ⟨G', ρ', (sg.trans s2).trans s', S', k⟩
        | rt d => exact k
def forN (fs : SetD) (is : List Nat) (f : WS) : List D → WS
  | [], ρ => .ret (.nx ρ)
  | d :: ds, ρ => (fs d).bind fun xs => (f (setA ρ is xs)).bind (seqK (forN fs is f ds))
def wFor (wi : WI) (fs : SetD) (is : List Nat) (f : WS) : WS := fun ρ => (wi ρ).bind fun ds => forN fs is f ds ρ
theorem psd_for {tg : Expr} {b : List Stmt} {wi : WI} {fs : SetD} {is : List Nat} (hp : PassesOwn (model X.prog X.w) X.A X.env X.xe) (hc : X.calm = true) (hi : PSI X cs W tg e wi) (hg : PGD X cs tg fs is) (hb : PSsD X cs W b f) (hd : ∀ i ∈ is, i ∉ W := by decide)
    (hs : ∀ x, foldedSetIterable e X.env x = pure x := by intro _; rfl) : PSD X cs W (.For tg e b [] pos) (wFor wi fs is f) :=
  ps_of (ps_for hp hc hi hg hb hs) fun D σ H ⟨dr, G0, H0, G, ρ, S, h⟩ => by
    refine ⟨dr, G0, H0, G, ρ, S, (wi ρ).mono (fun ds k J G1 H1 s1 S1 it => ?_) h⟩
    refine ⟨fun i m σ H => m = ds.length - i ∧ i ≤ ds.length ∧ ∃ G2 ρ, Same G1 G2 ∧ Stt (xc X cs) dr G0 H0 W σ H ρ G2 ∧ (forN fs is f (ds.drop i) ρ).run (EndsW (xc X cs) dr G0 H0 W G D), ⟨ds.length, by simp, Nat.zero_le _, G1, ρ, Same.refl _, S1, k⟩, ?_⟩
    rintro i m σ H ⟨rfl, hi, G2, ρ, sg, S2, k⟩
    have j := it i G2 H sg S2.step.base
    by_cases q : i < ds.length
    · obtain ⟨jg, jy⟩ := j.1 q
      refine .inr ⟨jg, fun σ H => ∃ G2 ρ, Same G1 G2 ∧ Stt (xc X cs) dr G0 H0 W σ H ρ G2 ∧ (forN fs is f (ds.drop (i + 1)) ρ).run (EndsW (xc X cs) dr G0 H0 W G D), fun σ' H' ⟨G', ρ', z⟩ => ⟨ds.length - (i + 1), by omega, rfl, q, G', ρ', z⟩, fun x H' y => ?_⟩
      obtain ⟨G3, d, s3, hd', rx⟩ := jy x H' y
      rw [drop_cons hd', forN] at k
      have S3 := S2.keep1 s3
      refine ⟨dr, G3, d, s3.base, rx, (fs d).mono (fun xs k vs rv => ?_) k⟩
      refine ⟨dr, G0, H0, G3, _, S3.set hd rv, (f _).mono (fun o k => ?_) k⟩
      cases o with
      | nx ρ' => exact fun σ' H' G' s' S' => ⟨G', ρ', (sg.trans s3.gs).trans s', S', k⟩
      | rt d => exact k
    · have hi2 : i = ds.length := by omega
      rw [hi2, List.drop_length, forN] at k
      exact .inl ⟨j.2 hi2, k σ H G2 (s1.trans sg) S2⟩
end
end Rr
/-! registerrooms: what a def owns is changed; dict(pairs); a, b = x, y; the end of owning. -/
namespace Rr
open PySem PySem.Spec PyProof.Rows L2

def ownL (i : Nat) : Env → Wp (List D) := fun ρ => match ρ[i]? with
  | some (some (.lst ds)) => .ret ds
  | _ => .fail
def ownD (i : Nat) : Env → Wp (List D × List D) := fun ρ => match ρ[i]? with
  | some (some (.dct ks vs)) => .ret (ks, vs)
  | _ => .fail
theorem ownL_run {i : Nat} {ρ : Env} {K : List D → Prop} (h : (ownL i ρ).run K) : ∃ ds, ρ[i]? = some (some (.lst ds)) ∧ K ds := by
  unfold ownL at h
  split at h
  · exact ⟨_, by assumption, h⟩
  · exact h.elim
theorem ownD_run {i : Nat} {ρ : Env} {K : List D × List D → Prop} (h : (ownD i ρ).run K) : ∃ ks vs, ρ[i]? = some (some (.dct ks vs)) ∧ K (ks, vs) := by
  unfold ownD at h
  split at h
  · exact ⟨_, _, by assumption, h⟩
  · exact h.elim
section
variable {c : Ctx} {dr : Addr} {G0 H0 G H : Hp} {W : List Nat} {σ : L2.St} {ρ : Env} {i : Nat}
theorem Stt.ownL (S : Stt c dr G0 H0 W σ H ρ G) (hi : i ∈ W) {ds : List D} (h : ρ[i]? = some (some (.lst ds))) : ∃ a xs, σ[i]? = some (some (.ref a)) ∧ H a = some (.lst xs) ∧ Rs c dr G xs ds := by
  obtain ⟨a, h1, _, _, h4⟩ := S.own i hi _ h
  rcases h4 with ⟨xs, ds', e, h2, h3⟩ | ⟨es, o, ks, vs, e, h2, h3⟩
  · cases e
    exact ⟨a, xs, h1, h2, h3⟩
  · cases e
theorem Stt.ownD (S : Stt c dr G0 H0 W σ H ρ G) (hi : i ∈ W) {ks vs : List D} (h : ρ[i]? = some (some (.dct ks vs))) : ∃ a es o, σ[i]? = some (some (.ref a)) ∧ H a = some (DctO c.P c.w a es o) ∧ EsD c dr G es ks vs := by
  obtain ⟨a, h1, _, _, h4⟩ := S.own i hi _ h
  rcases h4 with ⟨xs, ds', e, h2, h3⟩ | ⟨es, o, ks', vs', e, h2, h3⟩
  · cases e
  · cases e
    exact ⟨a, es, o, h1, h2, h3⟩
end
/-- xs.append(e) -/
def wApp (i : Nat) (w : WE) : WS := fun ρ => (ownL i ρ).bind fun ds => (w ρ).bind fun d => .chk (ds.length < 16777216) (.ret (.nx (ρ.set i (some (.lst (ds ++ [d]))))))
/-- y = xs.pop(0) -/
def wPop0 (i j : Nat) : WS := fun ρ => (ownL i ρ).bind fun ds => match ds with
  | d :: r => .ret (.nx ((ρ.set i (some (.lst r))).set j (some d)))
  | [] => .fail
/-- xs[k] = v -/
def wSetL (i : Nat) (wk wv : WE) : WS := fun ρ => (wv ρ).bind fun v => (ownL i ρ).bind fun ds => (wk ρ).bind fun k => match k with
  | .int k => (Wp.opt (ixN ds.length k)).bind fun j => .ret (.nx (ρ.set i (some (.lst (ds.set j v)))))
  | _ => .fail
/-- d[k] = v -/
noncomputable def wSetK (i : Nat) (wk wv : WE) : WS := fun ρ => (wv ρ).bind fun v => (ownD i ρ).bind fun p => (wk ρ).bind fun k => .chk (k.kd ∧ p.1.length < 16777216) (.ret (.nx (ρ.set i (some (.dct (dputK p.1 k) (dputV p.1 p.2 k v))))))
/-- d.setdefault(k, v) -/
noncomputable def wSetdef (i : Nat) (wk wv : WE) : WS := fun ρ => (ownD i ρ).bind fun p => (wk ρ).bind fun k => (wv ρ).bind fun v => .chk (k.kd ∧ p.1.length < 16777216) (.ret (.nx (if k ∈ p.1 then ρ else ρ.set i (some (.dct (dputK p.1 k) (dputV p.1 p.2 k v))))))
section
variable {X : Cx} {cs : Cs} {W : List Nat} {e f o : Expr} {w wk wv : WE} {pos p p' apos cpos tpos : Pos} {i j : Nat} {x y : Str}
theorem psd_append (hi : X.N[i]? = some x) (hm : i ∈ W) (he : PSE X cs W e w) (hv : Vis X.env.scope x := by first | exact Or.inl rfl | exact Or.inr (Or.inl rfl)) (hd : (x == ("__debug__" : Str)) = false := by decide) (hcd : (x == ("__classdict__" : Str)) = false := by decide)
    (hbase : attributeBase (.Name x p) "append" X.env (eval (.Name x p) X.env) = eval (.Name x p) X.env := by rfl)
    (hfew : ((backTo cpos (starEach [e] X.env)).all (fun x => !x.1) && (backToKw cpos (keywordEach [] X.env)).all (fun x => x.1.isSome) && decide ([e].length + ([] : List Keyword).length + (if ([] : List Keyword).isEmpty then 0 else 1) < 30)) = true := by rfl)
    (hline : (apos.endLine == cpos.line) = true := by rfl) (hs : starEach [e] X.env = (false, eval e X.env) :: starEach [] X.env := by rfl) (hplain : (backTo cpos (starEach [] X.env)).any (·.1) = false := by rfl)
    (hsw : swapsWith (.Call (.Attribute (.Name x p) "append" apos) [e] [] cpos) none pos.line X.env = pure false := by rfl) :
    PSD X cs W (.Expr (.Call (.Attribute (.Name x p) "append" apos) [e] [] cpos) pos) (wApp i w) :=
  ps_of (ps_expr (pe_bm F.plainAttrs_list F.slot_list_append F.type_list_append mt_append (pe_var hi hv hd hcd) (psa_cons he psa_nil hs) hbase hfew hline hs hplain) hsw) fun D σ H ⟨dr, G0, H0, G, ρ, S, h⟩ => by
    obtain ⟨ds, hd, h⟩ := ownL_run h
    obtain ⟨a, xs, h1, h2, h3⟩ := S.ownL hm hd
    refine ⟨_, h1, .inl ⟨rfl, xs, SqL.of h2⟩, dr, G0, H0, G, ρ, S, (w ρ).mono (fun d k vs G1 H1 s1 S1 r1 => ?_) h⟩
    obtain ⟨v, rfl, r0⟩ := r1.one
    obtain ⟨a', ys, q1, q2, q3⟩ := S1.ownL hm hd
    rw [h1] at q1
    cases q1
    refine ⟨a, ys, v, rfl, rfl, q2, line_lt (by rw [q3.length]; exact k.1), ?_⟩
    exact k.2 σ _ G1 s1 (S1.mut hm hd h1 (.inl ⟨_, _, rfl, upd_same, q3.append (.cons r0 .nil)⟩))
theorem psd_pop0 (hN : X.N.Nodup) (hi : X.N[i]? = some x) (hm : i ∈ W) (hj : X.N[j]? = some y) (hn : j ∉ W) (hv : Vis X.env.scope x := by first | exact Or.inl rfl | exact Or.inr (Or.inl rfl)) (hx : Loc X.env.scope y := by first | exact Or.inl rfl | exact Or.inr rfl)
    (hf : X.fn y = true ∨ X.env.scope.names.lookup y = some .local := by first | exact .inl rfl | exact .inr rfl | assumption) (hd : (x == ("__debug__" : Str)) = false := by decide) (hcd : (x == ("__classdict__" : Str)) = false := by decide) {k : Nat} {kp : Pos}
    (hbase : attributeBase (.Name x p) "pop" X.env (eval (.Name x p) X.env) = eval (.Name x p) X.env := by rfl) (hline : (apos.endLine == cpos.line) = true := by rfl)
    (hsw : swapsWith (.Call (.Attribute (.Name x p) "pop" apos) [.Constant (.int 0) k kp] [] cpos) (some (.Name y p')) pos.line X.env = pure false := by rfl) :
    PSD X cs W (.Assign [.Name y p'] (.Call (.Attribute (.Name x p) "pop" apos) [.Constant (.int 0) k kp] [] cpos) pos) (wPop0 i j) :=
  ps_of (ps_set hN hj hx (pe_bm F.plainAttrs_list F.slot_list_pop F.type_list_pop mt_popAt (pe_var hi hv hd hcd) (pa_cons pe_int pa_nil) hbase rfl hline) hsw hf) fun D σ H ⟨dr, G0, H0, G, ρ, S, h⟩ => by
    obtain ⟨ds, hd, h⟩ := ownL_run h
    obtain ⟨a, xs, h1, h2, h3⟩ := S.ownL hm hd
    refine ⟨_, h1, .inl ⟨rfl, xs, SqL.of h2⟩, ?_⟩
    cases h3 with
    | nil => exact h.elim
    | cons r q =>
      rename_i v vs d ds
      refine ⟨a, v :: vs, 0, 0, v, rfl, rfl, h2, by decide, by decide, ?_, rfl, ?_⟩
      · show seqIndex? 0 (vs.length + 1) = some 0
        unfold seqIndex?
        simp
      · have S1 := S.mut (d' := .lst ds) (o := .lst vs) hm hd h1 (.inl ⟨_, _, rfl, upd_same, q⟩)
        have S2 := S1.set (is := [j]) (vs := [v]) (ds := [d]) (fun z hz => by
          have : z = j := by simpa using hz
          rw [this]; exact hn) (.cons r .nil)
        exact h _ _ G (Same.refl _) S2
theorem psd_setL (hi : X.N[i]? = some x) (hm : i ∈ W) (hvv : PSE X cs W e wv) (hk : PSE X cs W f wk) (hv : Vis X.env.scope x := by first | exact Or.inl rfl | exact Or.inr (Or.inl rfl)) (hd : (x == ("__debug__" : Str)) = false := by decide) (hcd : (x == ("__classdict__" : Str)) = false := by decide)
    (ha : ∀ v, assign (.Subscript (.Name x p) f tpos) X.env v = (do
      let ov ← holding [v] (eval (.Name x p) X.env)
      let iv ← holding [v, ov] (eval f X.env)
      standAt tpos
      holding [v, ov, iv] (setItem ov iv v)
      release [v, ov, iv] []) := by intro _; rfl)
    (hs : swapsWithSole [.Subscript (.Name x p) f tpos] e pos.line X.env = pure false := by rfl) (hw : swappedStores [.Subscript (.Name x p) f tpos] e X.env = pure none := by rfl)
    (h1 : (assignEach [.Subscript (.Name x p) f tpos] X.env).map (·.2) = [assign (.Subscript (.Name x p) f tpos) X.env] := by rfl) : PSD X cs W (.Assign [.Subscript (.Name x p) f tpos] e pos) (wSetL i wk wv) :=
  ps_of (ps_asg hvv (pg_sub (pe_var hi hv hd hcd) hk set_list ha) hs hw h1) fun D σ H ⟨dr, G0, H0, G, ρ, S, h⟩ => by
    refine ⟨dr, G0, H0, G, ρ, S, (wv ρ).mono (fun d k v G1 H1 s1 S1 r1 => ?_) h⟩
    obtain ⟨ds, hd, k⟩ := ownL_run k
    obtain ⟨a, xs, q1, q2, q3⟩ := S1.ownL hm hd
    refine ⟨_, q1, dr, G0, H0, G1, ρ, S1, (wk ρ).mono (fun kd k v2 G2 H2 s2 S2 r2 => ?_) k⟩
    cases kd with
    | int n =>
      obtain ⟨j, hj, k⟩ := k
      cases r2.int_of
      obtain ⟨a', ys, t1, t2, t3⟩ := S2.ownL hm hd
      rw [q1] at t1
      cases t1
      refine ⟨a, ys, n, j, rfl, rfl, t2, by rw [t3.length]; exact hj, ?_⟩
      exact k σ _ G2 (s1.trans s2) (S2.mut hm hd q1 (.inl ⟨_, _, rfl, upd_same, t3.set j (r1.mono s2)⟩))
    | _ => exact k.elim
theorem psd_setK (hu : X.A.units + 64 < cLine) (hi : X.N[i]? = some x) (hm : i ∈ W) (hvv : PSE X cs W e wv) (hk : PSE X cs W f wk) (hv : Vis X.env.scope x := by first | exact Or.inl rfl | exact Or.inr (Or.inl rfl)) (hd : (x == ("__debug__" : Str)) = false := by decide) (hcd : (x == ("__classdict__" : Str)) = false := by decide)
    (ha : ∀ v, assign (.Subscript (.Name x p) f tpos) X.env v = (do
      let ov ← holding [v] (eval (.Name x p) X.env)
      let iv ← holding [v, ov] (eval f X.env)
      standAt tpos
      holding [v, ov, iv] (setItem ov iv v)
      release [v, ov, iv] []) := by intro _; rfl)
    (hs : swapsWithSole [.Subscript (.Name x p) f tpos] e pos.line X.env = pure false := by rfl) (hw : swappedStores [.Subscript (.Name x p) f tpos] e X.env = pure none := by rfl)
    (h1 : (assignEach [.Subscript (.Name x p) f tpos] X.env).map (·.2) = [assign (.Subscript (.Name x p) f tpos) X.env] := by rfl) : PSD X cs W (.Assign [.Subscript (.Name x p) f tpos] e pos) (wSetK i wk wv) :=
  ps_of (ps_asg hvv (pg_sub (pe_var hi hv hd hcd) hk (set_E (cs := cs) hu) ha) hs hw h1) fun D σ H ⟨dr, G0, H0, G, ρ, S, h⟩ => by
    refine ⟨dr, G0, H0, G, ρ, S, (wv ρ).mono (fun d k v G1 H1 s1 S1 r1 => ?_) h⟩
    obtain ⟨ks, vs, hd, k⟩ := ownD_run k
    obtain ⟨a, es, ob, q1, q2, q3⟩ := S1.ownD hm hd
    refine ⟨_, q1, dr, G0, H0, G1, ρ, S1, (wk ρ).mono (fun kd k v2 G2 H2 s2 S2 r2 => ?_) k⟩
    obtain ⟨⟨hk1, hk2⟩, k⟩ := k
    obtain ⟨a', es', ob', t1, t2, t3⟩ := S2.ownD hm hd
    rw [q1] at t1
    cases t1
    refine ⟨dr, G2, a, es', ob', ks, vs, kd, rfl, t2, t3, S2.step.base.sub, r2, hk1, line_lt (by rw [t3.lens.1]; exact hk2), fun ka o2 ek => ?_⟩
    subst ek
    exact k σ _ G2 (s1.trans s2) (S2.mut hm hd q1 (.inr ⟨_, o2, _, _, rfl, upd_same, t3.put hk1 r2 (r1.mono s2)⟩))

/-! ### d.setdefault(k, v) -/
def tSetdefE (cs : Cs) (X : Cx) (td ty tx : TE) : TE := fun σ H Q => td σ H fun o H1 => ∃ a, o = .ref a ∧ (∃ es ob, H1 a = some (DctO X.prog X.w a es ob)) ∧ ty σ H1 fun y H2 => tx σ H2 fun z H3 => ∃ dr G es ob ks vs k, H3 a = some (DctO X.prog X.w a es ob) ∧ EsD (xc X cs) dr G es ks vs ∧ Same G H3 ∧ R (xc X cs) dr G y k ∧ k.kd ∧ es.length < sizeLine ∧
  (k ∈ ks → ∀ v, Q v H3) ∧ (k ∉ ks → ∀ ka ob', y = .ref ka → Q z (upd H3 a (DctO X.prog X.w a (eput es k.key ka z) ob')))
theorem dct_type {pins : List (Addr × Obj)} {σ : L2.St} {H : Hp} {s : Shared} {a : Addr} {es : List DE} {ob : Obj} (I : Inv X pins σ H s) (h : H a = some (DctO X.prog X.w a es ob)) : s.TypeIs (.ref a) "dict" ∧ (∀ b, Value.ref a = .ref b → ∃ ob, s.heap.get? b = some ob ∧ ob.dict = none) := by
  obtain ⟨hg, ns, hx, _⟩ := dct_obj I h
  exact ⟨⟨ob, hg, hx.1⟩, fun b q => by cases q; exact ⟨ob, hg, hx.2.1⟩⟩
theorem pe_setdefE {td ty tx : TE} {g : Expr} (hu : X.A.units + 64 < cLine) (ho : PE X o td) (he : PE X e ty) (hf : PE X g tx) (m : M2 X o "setdefault" apos e g cpos) : PE X (.Call (.Attribute o "setdefault" apos) [e, g] [] cpos) (tSetdefE cs X td ty tx) := by
  refine ⟨fun pins s σ H Q I h => ?_⟩
  refine wpAny_Call_method m.base m.few m.line PySem.F.plainAttrs_dict PySem.F.slot_dict_setdefault PySem.F.type_dict_setdefault (thn (ho.run pins s σ H _ I h) fun u s1 ⟨x, H1, I1, rx, a, ex, ⟨es0, ob0, h0⟩, q1⟩ => ?_)
  subst ex
  obtain rfl : u = Value.ref a := rx
  obtain ⟨ty1, ty2⟩ := dct_type I1 h0
  refine ⟨ty1, ty2, ?_⟩
  rw [m.trees]
  refine Calls.callWith_builtin rfl (Calls.evalArgs_plain (Calls.spliced_cons (thn (he.run pins s1 σ H1 _ I1 q1) fun kv s2 ⟨y, H2, I2, ry, q2⟩ => Calls.spliced_cons (thn (hf.run pins s2 σ H2 _ I2 q2) fun dv s3 ⟨z, H3, I3, rz, q3⟩ => Calls.spliced_nil ?_))))
  obtain ⟨dr, G, es, ob, ks, vs, k, hD, E, sub, rk, hk, hz, old, new⟩ := q3
  obtain ⟨ka, rfl, rfl, hkey⟩ := kd_at I3 sub hk rk ry
  obtain ⟨ns, sz, xs, pr, hm, nd⟩ := dct_lib I3 sub hD E
  have lp : es.length = xs.length := Paired.length pr
  refine call_setdefault_heap (hsz := by rw [← lp]; exact sz) (show X.A.in1.units + 8 < cLine by show X.A.units + 1 + 8 < cLine; omega) hkey ns hm (fun p hp => ?_) fun hn h' hm' sb => ?_
  · have r := er_look (k := k.key) pr
    rcases E.look hk.1 with ⟨z1, _, z3⟩ | ⟨v, d, z1, _, _, z4⟩
    · rw [z1, hp] at r
      exact r.elim
    · rw [z1, hp] at r
      exact ⟨v, H3, I3.tok _, r, old z4 v⟩
  · have r := er_look (k := k.key) pr
    rcases E.look hk.1 with ⟨z1, _, z3⟩ | ⟨v, d, z1, _, _, z4⟩
    · have hl := eput_length k.key ka z es
      obtain ⟨o', I'⟩ := dct_stored (t' := s3.toks + (nestedKind X.prog X.w).draws k.key) I3 hD ns (by omega) (er_put rz pr nd) hm' sb
      exact ⟨z, _, I', rz, new z3 ka o' rfl⟩
    · rw [z1, hn] at r
      exact r.elim
theorem psd_setdef {g : Expr} (hu : X.A.units + 64 < cLine) (hi : X.N[i]? = some x) (hm : i ∈ W) (he : PSE X cs W e wk) (hf : PSE X cs W g wv) (m : M2 X (.Name x p) "setdefault" apos e g cpos) (hv : Vis X.env.scope x := by first | exact Or.inl rfl | exact Or.inr (Or.inl rfl)) (hd : (x == ("__debug__" : Str)) = false := by decide) (hcd : (x == ("__classdict__" : Str)) = false := by decide)
    (hs : swapsWith (.Call (.Attribute (.Name x p) "setdefault" apos) [e, g] [] cpos) none pos.line X.env = pure false := by rfl) :
    PSD X cs W (.Expr (.Call (.Attribute (.Name x p) "setdefault" apos) [e, g] [] cpos) pos) (wSetdef i wk wv) :=
  ps_of (ps_expr (pe_setdefE (cs := cs) hu (pe_var hi hv hd hcd) he hf m) hs) fun D σ H ⟨dr, G0, H0, G, ρ, S, h⟩ => by
    obtain ⟨ks, vs, hd, h⟩ := ownD_run h
    obtain ⟨a, es, ob, h1, h2, h3⟩ := S.ownD hm hd
    refine ⟨_, h1, a, rfl, ⟨es, ob, h2⟩, dr, G0, H0, G, ρ, S, (wk ρ).mono (fun kd k v G1 H1 s1 S1 r1 => ?_) h⟩
    refine ⟨dr, G0, H0, G1, ρ, S1, (wv ρ).mono (fun vd k2 u G2 H2 s2 S2 r2 => ?_) k⟩
    obtain ⟨⟨hk1, hk2⟩, k2⟩ := k2
    obtain ⟨a', es', ob', t1, t2, t3⟩ := S2.ownD hm hd
    rw [h1] at t1
    cases t1
    have hk2 : ks.length < 16777216 := hk2
    refine ⟨dr, G2, es', ob', ks, vs, kd, t2, t3, S2.step.base.sub, r1.mono s2, hk1, line_lt (by rw [t3.lens.1]; exact hk2), fun hin v => ?_, fun hin ka o2 ek => ?_⟩
    · rw [if_pos hin] at k2
      exact k2 σ H2 G2 (s1.trans s2) S2
    · subst ek
      rw [if_neg hin] at k2
      exact k2 σ _ G2 (s1.trans s2) (S2.mut hm hd h1 (.inr ⟨_, o2, _, _, rfl, upd_same, t3.put hk1 (r1.mono s2) r2⟩))
/-! ### dict(pairs) -/
noncomputable def foldP : List D → List D → List D → Wp (List D × List D)
  | [], ks, vs => .ret (ks, vs)
  | .tup [k, v] :: r, ks, vs => .chk k.kd (foldP r (dputK ks k) (dputV ks vs k v))
  | _ :: _, _, _ => .fail
theorem foldP_run {d : D} {ds ks vs : List D} {K : List D × List D → Prop} (h : (foldP (d :: ds) ks vs).run K) : ∃ k v, d = .tup [k, v] ∧ k.kd ∧ (foldP ds (dputK ks k) (dputV ks vs k v)).run K := by
  match d, h with
  | .tup [k, v], h => exact ⟨k, v, rfl, h.1, h.2⟩
  | .tup [], h => exact h.elim
  | .tup [_], h => exact h.elim
  | .tup (_ :: _ :: _ :: _), h => exact h.elim
  | .non, h => exact h.elim
  | .bl _, h => exact h.elim
  | .int _, h => exact h.elim
  | .str _, h => exact h.elim
  | .lst _, h => exact h.elim
  | .dct _ _, h => exact h.elim
  | .prg _ _ _ _, h => exact h.elim
  | .sam _, h => exact h.elim
  | .par _ _, h => exact h.elim
  | .drw, h => exact h.elim
theorem stored_nodup {xs : List (NestedKey × Addr × Value)} {k : NestedKey} {a : Addr} {u : Value} (nd : (xs.map (·.1)).Nodup) : ((storedH xs k a u).map (·.1)).Nodup := by
  unfold storedH
  split
  · have e : (xs.map (putAt k u)).map (·.1) = xs.map (·.1) := by
      rw [List.map_map]
      refine List.map_congr_left fun x _ => ?_
      simp only [Function.comp, putAt]
      split <;> rfl
    rw [e]
    exact nd
  · rename_i h
    have hn : atKey xs k = none := by
      cases q : atKey xs k with
      | none => rfl
      | some p => rw [q] at h; exact absurd rfl h
    rw [List.map_append, List.nodup_append]
    refine ⟨nd, by simp, fun y hy z hz e => ?_⟩
    obtain ⟨x, hx, rfl⟩ := List.mem_map.mp hy
    have hz : z = k := by simpa using hz
    exact not_at.mp hn x hx (e.trans hz)
abbrev DP := NestedKey × Addr × Value
theorem fold_lib {pins : List (Addr × Obj)} {σ : L2.St} {H : Hp} {s : Shared} {dr : Addr} {G : Hp} (I : Inv X pins σ H s) (sub : Same G H) : ∀ {ds : List D} {xs : List V} {us : List Value} {es : List DE} {ps0 : List DP} {ks vs : List D} {K : List D × List D → Prop},
    Rs (xc X cs) dr G xs ds → Vals xs us → (foldP ds ks vs).run K → EsD (xc X cs) dr G es ks vs → Paired ER es ps0 → (ps0.map (·.1)).Nodup →
    ∃ (Ts : List Addr) (ps : List DP) (es' : List DE) (ks' vs' : List D), K (ks', vs') ∧ us = Ts.map Value.ref ∧ ps.length = Ts.length ∧ Ts.length = ds.length ∧ (∀ (j : Nat) (q : DP), ps[j]? = some q → ∃ T, Ts[j]? = some T ∧ PairAt s.heap T (.ref q.2.1) q.2.2 ∧ (nestedKind X.prog X.w).is s.heap q.1 q.2.1) ∧
      EsD (xc X cs) dr G es' ks' vs' ∧ Paired ER es' (storedAllH ps0 ps) ∧ es'.length ≤ es.length + ds.length
  | [], _, _, es, ps0, ks, vs, K, r, rv, h, E, pr, nd => by
    cases r
    cases rv
    exact ⟨[], [], es, ks, vs, h, rfl, rfl, rfl, fun j q z => by simp at z, E, pr, by simp⟩
  | d :: ds, _, _, es, ps0, ks, vs, K, .cons r rr, .cons rv rvs, h, E, pr, nd => by
    obtain ⟨k, v, rfl, hk, h⟩ := foldP_run h
    obtain ⟨T, ys, rfl, hT, q⟩ := r.tup_of
    obtain ⟨kv, vv, rfl, rk, rvv⟩ := q.two
    obtain rfl := (show _ = Value.ref T from rv)
    obtain ⟨its, rl, tp, _⟩ := I.tuple (SqT.of (sub _ _ hT))
    obtain ⟨ku, vu, rfl, rku, rvu⟩ := rl.two
    obtain ⟨ka, rfl, rfl, hkey⟩ := kd_at I sub hk rk rku
    obtain ⟨Ts, ps, es', ks', vs', a1, a2, a3, a4, a5, a6, a7, a8⟩ := fold_lib I sub rr rvs h (E.put (a := ka) hk rk rvv) (er_put rvu pr nd) (stored_nodup nd)
    refine ⟨T :: Ts, (k.key, ka, vu) :: ps, es', ks', vs', a1, by rw [a2]; rfl, by simp [a3], by simp [a4], fun j q hq => ?_, a6, a7, ?_⟩
    · cases j with
      | zero =>
        simp at hq
        subst hq
        exact ⟨T, rfl, .inl tp, hkey⟩
      | succ j => exact a5 j q (by simpa using hq)
    · have := eput_length k.key ka vv es
      simp only [List.length_cons]
      omega
/-- dict of a list of pairs: a new dict -/
def rDictP (cs : Cs) (X : Cx) : List V → Hp → VK → Prop := fun xs H Q => ∃ dr G a ds, xs = [.ref a] ∧ Same G H ∧ R (xc X cs) dr G (.ref a) (.lst ds) ∧ ds.length ≤ 16777216 ∧ (foldP ds [] []).run fun p => ∀ l es o, H l = none → EsD (xc X cs) dr G es p.1 p.2 → Q (.ref l) (upd H l (DctO X.prog X.w l es o))
theorem call_dictP (hu : X.A.units + 64 < cLine) (hc : X.calm = true) : CallR X (.type "dict") (rDictP cs X) := by
  intro pins s σ H xs us Q I rv ⟨dr, G, a, ds, ex, sub, r, hz, h⟩
  subst ex
  obtain rfl := rv.ref1
  obtain ⟨_, ys, e, ha, qa⟩ := r.lst_of
  cases e
  obtain ⟨its, rl, pl, hz2⟩ := I.list (SqL.of (sub _ _ ha))
  obtain ⟨Ts, ps, es', ks', vs', a1, a2, a3, a4, a5, a6, a7, a8⟩ := fold_lib I sub qa rl h .nil .nil List.nodup_nil
  subst a2
  have items : PairItems s.heap (Ts.map Value.ref).toArray (fun j => Ts.getD j 0) (ps.map fun q => (Value.ref q.2.1, q.2.2)) := by
    refine ⟨by simp [a3], fun j k v hj => ?_⟩
    rw [List.getElem?_map] at hj
    obtain ⟨q, hq, e⟩ := Option.map_eq_some_iff.mp hj
    cases e
    obtain ⟨T, hT, pa, _⟩ := a5 j q hq
    have eT : Ts.getD j 0 = T := by rw [List.getD_eq_getElem?_getD, hT]; rfl
    refine ⟨by simp [hT, eT], by
      show PairAt s.heap (Ts.getD j 0) _ _
      rw [eT]
      exact pa⟩
  obtain ⟨o, n, e1, e2, e3, e4⟩ := pl
  have ns : (s.heap.objs.size == sysModules) = false := beq_eq_false_iff_ne.mpr (Ne.symm (Nat.ne_of_lt I.big))
  have ll : (ps.map fun q => (Value.ref q.2.1, q.2.2)).length ≤ sizeLine := by rw [List.length_map, a3, a4]; exact line_le hz
  refine call_dict_pairsH (knd := nestedKind X.prog X.w) (ps := ps) (PairArg.list a _ _ _) (I.ok.hd hc) (show X.A.in1.in1.units + 8 < cLine by show X.A.units + 1 + 1 + 8 < cLine; omega) ⟨⟨o, n, e1, e2, e3, e4⟩, items⟩ ⟨by simp, fun i key v hr => ?_⟩ (fun h' hk x hx => ?_) ll fun h' tk hd hk => ?_
  · have hr : (ps.map fun q => (Value.ref q.2.1, q.2.2))[i]? = some (key, v) := hr
    rw [List.getElem?_map] at hr
    obtain ⟨q, hq, e⟩ := Option.map_eq_some_iff.mp hr
    cases e
    exact ⟨q.1, q.2.1, hq, rfl⟩
  · obtain ⟨j, hj⟩ := List.mem_iff_getElem?.mp hx
    obtain ⟨T, _, _, z⟩ := a5 j x hj
    exact ⟨NestedIs.at (fun b ob vs n hb _ => hk b ob (Nat.ne_of_lt (Heap.lt_size hb)) (by simp) hb) _ _ z.1, z.2⟩
  · obtain ⟨od, dse, ep, g1, g2, g3, g4, _, g6⟩ := hd
    have keep : ∀ b u, s.heap.get? b = some u → h'.get? b = some u := fun b u q => hk b u (by simp) q
    have hz3 : es'.length ≤ sizeLine := line_le (by simpa using Nat.le_trans a8 (by simpa using hz))
    have ok : ObjOk X.prog X.w (upd H s.heap.objs.size (DctO X.prog X.w s.heap.objs.size es' od)) h' s.heap.objs.size (DctO X.prog X.w s.heap.objs.size es' od) :=
      ⟨⟨g1, ns, hz3, _, a7, dse, ep, g2, g3, g4, g6⟩, ⟨od, g1⟩, fun k1 k2 ⟨z1, z2⟩ st => ⟨st _ z1, z2⟩⟩
    exact ⟨.ref s.heap.objs.size, _, I.laid keep (Nat.le_refl _) ok, rfl, a1 _ es' od (I.hok.fresh (Nat.le_refl _)) a6⟩
noncomputable def dictW : List D → Wp (List D × List D)
  | [.lst ds] => .chk (ds.length ≤ 16777216) (foldP ds [] [])
  | _ => .fail
noncomputable def dictD (ds : List D) : Wp D := (dictW ds).bind fun p => .ret (asDct p)
theorem dc_dict : DCall (xc X cs) (rDictP cs X) dictD := by
  intro dr G H xs ds Q b r h
  have h : (dictW ds).run fun p => Wish (xc X cs) dr G H Q (asDct p) := h
  unfold dictW at h
  split at h
  · obtain ⟨v, rfl, r0⟩ := r.one
    obtain ⟨a, ys, rfl, ha, qa⟩ := r0.lst_of
    refine ⟨dr, G, a, _, rfl, b.sub, .lst ha qa, h.1, (foldP _ _ _).mono (fun p k l es o nl E => ?_) h.2⟩
    have s := Step.laid b nl (DctO X.prog X.w l es o)
    exact k _ _ _ s ((E.mono s.gs).R upd_same)
  · exact h.elim
/-- .. to be owned; the pairs are read away from what is owned -/
theorem pso_dictOf {wa : WA} (hu : X.A.units + 64 < cLine) (hc : X.calm = true) (hg : Gl X "dict") (hm : X.mg "dict" = none) (hv : bootBuiltins ("dict" : Str) = some (.type "dict")) (ha : PSA X cs W [e] wa) (he : starEach [e] X.env = [(false, eval e X.env)] := by rfl) :
    PSO X cs W (.Call (.Name "dict" p) [e] [] pos) (fun ρ => (wa ρ).bind dictD) :=
  pe_of (pe_callTy (call_dictP (cs := cs) hu hc) hg hm hv ha (by decide) (by decide) he rfl) fun σ H Q ⟨dr, G0, H0, G, ρ, S, h⟩ =>
    ⟨dr, G0, H0, G, ρ, S, (wa ρ).mono (fun ds k vs G1 H1 s1 S1 r1 => by
      have k : (dictW ds).run fun p => _ := k
      unfold dictW at k
      split at k
      · obtain ⟨v, rfl, r0⟩ := r1.one
        obtain ⟨a, ys, rfl, ha, qa⟩ := r0.lst_of
        refine ⟨dr, G1, a, _, rfl, S1.step.base.sub, .lst ha qa, k.1, Wp.mono _ (fun p k2 l es o nl E => ?_) k.2⟩
        exact k2 l G1 H1 G1 _ s1 S1 (S1.keep1 (Step.laidH S1.step.base nl _)) nl (S1.step.base.sub.free nl) (.inr ⟨es, o, _, _, rfl, upd_same, E⟩)
      · exact k.elim) h⟩
end
end Rr
/-! registerrooms: a, b = x, y; the end of owning; a def by its body. -/
namespace Rr
open PySem PySem.Spec PyProof.Rows L2

def par2 (i j : Nat) (ρ : Env) : List D → Wp Out
  | [d, e] => .ret (.nx ((ρ.set i (some d)).set j (some e)))
  | _ => .fail
def par3 (i j l : Nat) (ρ : Env) : List D → Wp Out
  | [d, e, f] => .ret (.nx (((ρ.set i (some d)).set j (some e)).set l (some f)))
  | _ => .fail
def wPar2 (i j : Nat) (wa : WA) : WS := fun ρ => (wa ρ).bind (par2 i j ρ)
def wPar3 (i j l : Nat) (wa : WA) : WS := fun ρ => (wa ρ).bind (par3 i j l ρ)
theorem Rs.three {c : Ctx} {dr : Addr} {G : Hp} {vs : List V} {d e f : D} (h : Rs c dr G vs [d, e, f]) : ∃ v u w, vs = [v, u, w] ∧ R c dr G v d ∧ R c dr G u e ∧ R c dr G w f := by
  cases h with
  | cons r q =>
    obtain ⟨v, u, rfl, r2, r3⟩ := q.two
    exact ⟨_, _, _, rfl, r, r2, r3⟩
theorem Rs.oneR {c : Ctx} {dr : Addr} {G : Hp} {v : V} {d : D} (r : R c dr G v d) : Rs c dr G [v] [d] := .cons r .nil
theorem not1 {W : List Nat} {i : Nat} (h : i ∉ W) : ∀ j ∈ [i], j ∉ W := fun j hj => by
  have : j = i := by simpa using hj
  rw [this]
  exact h
/-- a, b = (a value), (a new thing) -/
def wPar2o (i j : Nat) (w wo : WE) : WS := fun ρ => (w ρ).bind fun d => (wo ρ).bind fun e => .ret (.nx ((ρ.set i (some d)).set j (some e)))
/-- a, b, c = (two values), (a new thing) -/
def wPar3o (i j l : Nat) (w w2 wo : WE) : WS := fun ρ => (w ρ).bind fun d => (w2 ρ).bind fun e => (wo ρ).bind fun f => .ret (.nx (((ρ.set i (some d)).set j (some e)).set l (some f)))
section
variable {X : Cx} {cs : Cs} {W : List Nat} {a b d : Expr} {w w2 wo : WE} {wa : WA} {i j l : Nat} {x y z : Str} {px py pz pt pos : Pos} {kt k2 : Nat} {pt2 : Pos}
theorem psd_par2 (hc : X.calm = true) (hN : X.N.Nodup) (hi : X.N[i]? = some x) (hj : X.N[j]? = some y) (hij : i ≠ j) (hx : X.env.scope.names.lookup x = some .local) (hy : X.env.scope.names.lookup y = some .local) (ni : i ∉ W) (nj : j ∉ W) (ha : PSA X cs W [a, b] wa)
    (hw : swappedStores [.Tuple [.Name x px, .Name y py] kt pt] (.Tuple [a, b] k2 pt2) X.env = pure (some [x, y])) (hs : swapsWithSole [.Tuple [.Name x px, .Name y py] kt pt] (.Tuple [a, b] k2 pt2) pos.line X.env = pure false := by rfl) :
    PSD X cs W (.Assign [.Tuple [.Name x px, .Name y py] kt pt] (.Tuple [a, b] k2 pt2) pos) (wPar2 i j wa) :=
  ps_of (ps_par hc hN hi hj hij hx hy ha hw hs) fun En σ H ⟨dr, G0, H0, G, ρ, S, h⟩ => by
    refine ⟨dr, G0, H0, G, ρ, S, (wa ρ).mono (fun ds k vs G1 H1 s1 S1 r1 => ?_) h⟩
    unfold par2 at k
    split at k
    · obtain ⟨v, u, rfl, r2, r3⟩ := r1.two
      exact ⟨v, u, rfl, k _ H1 G1 s1 ((S1.set (not1 ni) (.oneR r2)).set (not1 nj) (.oneR r3))⟩
    · exact k.elim
theorem psd_par3 (hc : X.calm = true) (hN : X.N.Nodup) (hi : X.N[i]? = some x) (hj : X.N[j]? = some y) (hl : X.N[l]? = some z) (hij : i ≠ j) (hil : i ≠ l) (hjl : j ≠ l) (hx : X.env.scope.names.lookup x = some .local) (hy : X.env.scope.names.lookup y = some .local) (hz : X.env.scope.names.lookup z = some .local) (ni : i ∉ W) (nj : j ∉ W) (nl : l ∉ W) (ha : PSA X cs W [a, b, d] wa)
    (hw : swappedStores [.Tuple [.Name x px, .Name y py, .Name z pz] kt pt] (.Tuple [a, b, d] k2 pt2) X.env = pure (some [x, y, z])) (hs : swapsWithSole [.Tuple [.Name x px, .Name y py, .Name z pz] kt pt] (.Tuple [a, b, d] k2 pt2) pos.line X.env = pure false := by rfl) :
    PSD X cs W (.Assign [.Tuple [.Name x px, .Name y py, .Name z pz] kt pt] (.Tuple [a, b, d] k2 pt2) pos) (wPar3 i j l wa) :=
  ps_of (ps_par3 hc hN hi hj hl hij hil hjl hx hy hz ha hw hs) fun En σ H ⟨dr, G0, H0, G, ρ, S, h⟩ => by
    refine ⟨dr, G0, H0, G, ρ, S, (wa ρ).mono (fun ds k vs G1 H1 s1 S1 r1 => ?_) h⟩
    unfold par3 at k
    split at k
    · obtain ⟨v, u, t, rfl, r2, r3, r4⟩ := r1.three
      exact ⟨v, u, t, rfl, k _ H1 G1 s1 (((S1.set (not1 ni) (.oneR r2)).set (not1 nj) (.oneR r3)).set (not1 nl) (.oneR r4))⟩
    · exact k.elim
theorem psd_par2o (hc : X.calm = true) (hN : X.N.Nodup) (hi : X.N[i]? = some x) (hj : X.N[j]? = some y) (hij : i ≠ j) (hx : X.env.scope.names.lookup x = some .local) (hy : X.env.scope.names.lookup y = some .local) (ni : i ∉ W) (mj : j ∈ W) (ha : PSE X cs W a w) (hb : PSO X cs W b wo)
    (hw : swappedStores [.Tuple [.Name x px, .Name y py] kt pt] (.Tuple [a, b] k2 pt2) X.env = pure (some [x, y])) (hsa : starEach [a, b] X.env = (false, eval a X.env) :: starEach [b] X.env := by rfl) (hsb : starEach [b] X.env = (false, eval b X.env) :: starEach [] X.env := by rfl)
    (hs : swapsWithSole [.Tuple [.Name x px, .Name y py] kt pt] (.Tuple [a, b] k2 pt2) pos.line X.env = pure false := by rfl) :
    PSD X cs W (.Assign [.Tuple [.Name x px, .Name y py] kt pt] (.Tuple [a, b] k2 pt2) pos) (wPar2o i j w wo) :=
  ps_of (ps_par hc hN hi hj hij hx hy (pa_cons ha (pa_cons hb pa_nil hsb) hsa) hw hs) fun En σ H ⟨dr, G0, H0, G, ρ, S, h⟩ => by
    refine ⟨dr, G0, H0, G, ρ, S, (w ρ).mono (fun d k v G1 H1 s1 S1 r1 => ?_) h⟩
    refine ⟨dr, G0, H0, G1, ρ, S1, (wo ρ).mono (fun e k q G2 H2 G3 H3 s3 S2 S3 n1 n2 o => ?_) k⟩
    refine ⟨v, .ref q, rfl, ?_⟩
    have T := (S2.born S3 mj n1 n2 o).set (is := [i]) (not1 ni) (.oneR (r1.mono s3))
    have T : Stt (xc X cs) dr G0 H0 W ((σ.set j (some (.ref q))).set i (some v)) H3 ((ρ.set j (some e)).set i (some d)) G3 := T
    rw [List.set_comm _ _ (Ne.symm hij), List.set_comm _ _ (Ne.symm hij)] at T
    exact k _ H3 G3 (s1.trans s3) T
theorem psd_par3o (hc : X.calm = true) (hN : X.N.Nodup) (hi : X.N[i]? = some x) (hj : X.N[j]? = some y) (hl : X.N[l]? = some z) (hij : i ≠ j) (hil : i ≠ l) (hjl : j ≠ l) (hx : X.env.scope.names.lookup x = some .local) (hy : X.env.scope.names.lookup y = some .local) (hz : X.env.scope.names.lookup z = some .local) (ni : i ∉ W) (nj : j ∉ W) (ml : l ∈ W) (ha : PSE X cs W a w) (hb : PSE X cs W b w2) (hd : PSO X cs W d wo)
    (hw : swappedStores [.Tuple [.Name x px, .Name y py, .Name z pz] kt pt] (.Tuple [a, b, d] k2 pt2) X.env = pure (some [x, y, z])) (hsa : starEach [a, b, d] X.env = (false, eval a X.env) :: starEach [b, d] X.env := by rfl) (hsb : starEach [b, d] X.env = (false, eval b X.env) :: starEach [d] X.env := by rfl) (hsd : starEach [d] X.env = (false, eval d X.env) :: starEach [] X.env := by rfl)
    (hs : swapsWithSole [.Tuple [.Name x px, .Name y py, .Name z pz] kt pt] (.Tuple [a, b, d] k2 pt2) pos.line X.env = pure false := by rfl) :
    PSD X cs W (.Assign [.Tuple [.Name x px, .Name y py, .Name z pz] kt pt] (.Tuple [a, b, d] k2 pt2) pos) (wPar3o i j l w w2 wo) :=
  ps_of (ps_par3 hc hN hi hj hl hij hil hjl hx hy hz (pa_cons ha (pa_cons hb (pa_cons hd pa_nil hsd) hsb) hsa) hw hs) fun En σ H ⟨dr, G0, H0, G, ρ, S, h⟩ => by
    refine ⟨dr, G0, H0, G, ρ, S, (w ρ).mono (fun d k v G1 H1 s1 S1 r1 => ?_) h⟩
    refine ⟨dr, G0, H0, G1, ρ, S1, (w2 ρ).mono (fun e k u G2 H2 s2 S2 r2 => ?_) k⟩
    refine ⟨dr, G0, H0, G2, ρ, S2, (wo ρ).mono (fun f k q G3 H3 G4 H4 s4 S3 S4 n1 n2 o => ?_) k⟩
    refine ⟨v, u, .ref q, rfl, ?_⟩
    have T := ((S3.born S4 ml n1 n2 o).set (is := [i]) (not1 ni) (.oneR ((r1.mono s2).mono s4))).set (is := [j]) (not1 nj) (.oneR (r2.mono s4))
    have T : Stt (xc X cs) dr G0 H0 W (((σ.set l (some (.ref q))).set i (some v)).set j (some u)) H4 (((ρ.set l (some f)).set i (some d)).set j (some e)) G4 := T
    rw [List.set_comm _ _ (Ne.symm hil), List.set_comm _ _ (Ne.symm hjl), List.set_comm _ _ (Ne.symm hil), List.set_comm _ _ (Ne.symm hjl)] at T
    exact k _ H4 G4 ((s1.trans s2).trans s4) T
/-- a, b = (a new thing), (a value) -/
def wParo2 (i j : Nat) (wo w : WE) : WS := fun ρ => (wo ρ).bind fun d => (w (ρ.set i (some d))).bind fun e => .ret (.nx ((ρ.set i (some d)).set j (some e)))
theorem psd_paro2 {n : Int} {q : Nat} {qp : Pos} (hc : X.calm = true) (hN : X.N.Nodup) (hi : X.N[i]? = some x) (hj : X.N[j]? = some y) (hij : i ≠ j) (hx : X.env.scope.names.lookup x = some .local) (hy : X.env.scope.names.lookup y = some .local) (mi : i ∈ W) (nj : j ∉ W) (ha : PSO X cs W a wo)
    (hw : swappedStores [.Tuple [.Name x px, .Name y py] kt pt] (.Tuple [a, .Constant (.int n) q qp] k2 pt2) X.env = pure (some [x, y])) (hsa : starEach [a, .Constant (.int n) q qp] X.env = (false, eval a X.env) :: starEach [.Constant (.int n) q qp] X.env := by rfl)
    (hs : swapsWithSole [.Tuple [.Name x px, .Name y py] kt pt] (.Tuple [a, .Constant (.int n) q qp] k2 pt2) pos.line X.env = pure false := by rfl) :
    PSD X cs W (.Assign [.Tuple [.Name x px, .Name y py] kt pt] (.Tuple [a, .Constant (.int n) q qp] k2 pt2) pos) (wParo2 i j wo (wC (.int n))) :=
  ps_of (ps_par hc hN hi hj hij hx hy (pa_cons ha (pa_cons pe_int pa_nil) hsa) hw hs) fun En σ H ⟨dr, G0, H0, G, ρ, S, h⟩ => by
    refine ⟨dr, G0, H0, G, ρ, S, (wo ρ).mono (fun d k q G2 H2 G3 H3 s3 S2 S3 n1 n2 o => ?_) h⟩
    exact ⟨.ref q, .int n, rfl, k _ H3 G3 s3 ((S2.born S3 mi n1 n2 o).set (is := [j]) (not1 nj) (.oneR (.int n)))⟩
/-- name = {..} on one line, to be owned -/
noncomputable def wNewDc (w : Env → Wp (List D × List D)) (i : Nat) : WS := fun ρ => (w ρ).bind fun p => .ret (.nx (ρ.set i (some (asDct p))))
theorem psd_newDc {i : Nat} {y : Str} {py : Pos} {ke ve tg src : Expr} {scope : Scope} {own : List (Str × Nat)} {pos spos : Pos} {wi : WI} {f : SetD} {is : List Nat} {tk tv : WE} (hu : X.A.units + 64 < cLine) (hc : X.calm = true) (hN : X.N.Nodup) (hy : X.N[i]? = some y) (mi : i ∈ W) (hyl : X.env.scope.names.lookup y = some .local)
    (hsw : swapsWith (.DictComp ke ve [⟨tg, src, [], 0⟩] scope pos) (some (.Name y py)) spos.line X.env = pure true) (hi : PID X cs tg src wi) (ok : BlkOk X.N X.env.scope scope own) (hv : ∀ i ∈ is, i ∈ own.map (·.2))
    (hg : Blk X scope fun Y => PGD Y cs tg f is) (hk : Blk X scope fun Y => PD Y cs ke tk) (he : Blk X scope fun Y => PD Y cs ve tv) (hs : ∀ x, foldedSetIterable src X.env x = pure x := by intro _; rfl) :
    PSD X cs W (.Assign [.Name y py] (.DictComp ke ve [⟨tg, src, [], 0⟩] scope pos) spos) (wNewDc (mk W (wDcP wi f is (own.map (·.2)) tk tv)) i) :=
  ps_of (ps_setDcE (cs := cs) (g := gD (xc X cs) f is) (tk := tD (xc X cs) tk) (tv := tD (xc X cs) tv) hu hc hN hy hyl hsw hi ok hg hk he hs) fun En σ H ⟨dr, G0, H0, G, ρ, S, h⟩ => by
    have h : (wDcP wi f is (own.map (·.2)) tk tv (wipeE ρ W)).run _ := h
    refine dc_gen hv σ H _ S.step.base S.env (Wp.mono _ (fun p k a es o G' H' s n1 n2 q E => ?_) h)
    exact k _ H' G' s.gs (S.born (S.keep1 s) mi n1 n2 (.inr ⟨es, o, _, _, rfl, q, E⟩))
/-! ### the end of owning -/
def endK : Out → Wp Out
  | .rt d => .ret (.rt d)
  | .nx _ => .fail
def wGive (f : WS) : WS := fun ρ => (f ρ).bind endK
theorem pssd_give {sts : List Stmt} {f : WS} (h : PSsD X cs [] sts f) : PSsD X cs W sts (wGive f) :=
  pss_of h fun En σ H ⟨dr, G0, H0, G, ρ, S, h⟩ => ⟨dr, G0, H0, _, ρ, S.give, (f ρ).mono (fun o k => by
    cases o with
    | nx ρ' => exact k.elim
    | rt d => exact k) h⟩
end

/-! ### a def by its body -/
def retK : Out → Wp D
  | .rt d => .ret d
  | .nx _ => .ret .non
/-- n: the parameters; m: the other names -/
def fnW (n m : Nat) (f : WS) : List D → Wp D := fun ds => .chk (ds.length = n) ((f (ds.map some ++ List.replicate m none)).bind retK)
theorem fn_ends {c : Ctx} {N : List Str} {n m : Nat} {W : List Nat} {f : WS} {vs : List V} {H : Hp} {Q : VK} {E : XK} (hn : N.length = n + m) (hW : ∀ i ∈ W, n ≤ i) (h : spW c (fnW n m f) vs H Q E) : tSD c W f { nx := fun _ H' => Q .non H', rt := Q } (start N vs) H := by
  obtain ⟨dr, G, ds, b, r, hl, h⟩ := h
  have e := EnvF.start r N
  have em : N.length - ds.length = m := by omega
  rw [em] at e
  have own0 : ∀ i ∈ W, ∀ d, (ds.map some ++ List.replicate m none)[i]? ≠ some (some d) := fun i hi d q => by
    have := hW i hi
    rw [List.getElem?_append_right (by simp; omega), List.getElem?_replicate] at q
    split at q <;> cases q
  refine ⟨dr, G, H, G, _, ⟨b, Step.refl b, e.mask W, fun i hi d q => absurd q (own0 i hi d), fun i hi j hj d e _ q _ => absurd q (own0 i hi d)⟩, Wp.mono _ (fun o k => ?_) h⟩
  cases o with
  | nx ρ' => exact fun σ' H' G' s S => k .non G' H' S.step .non
  | rt d => exact fun v H' G' s r => k v G' H' s r
theorem sp_len {c : Ctx} {n m : Nat} {f : WS} {vs : List V} {H : Hp} {Q : VK} {E : XK} (h : spW c (fnW n m f) vs H Q E) : vs.length = n := by
  obtain ⟨dr, G, ds, b, r, hl, h⟩ := h
  rw [r.length]
  exact hl
section
variable {P : Program} {w : World} {K : PySem.W.Frag} {mg : Str → Option Value} {base : Heap} {cs : Cs}
abbrev cxF (P : Program) (w : World) (K : PySem.W.Frag) (mg : Str → Option Value) (base : Heap) (N : List Str) (q : Str) (st : Stmt) (f : Addr) (cdv : Value) (A : Around) (outer : List PySem.Env) (s : Shared) (H : Hp) : Cx := (cxOf C8.CX0 P w K mg base N q (C8.fnScope st) f cdv A outer s H C8.E0).nox
/-- the body's judgement, in every place where the def may run -/
abbrev BodyOk (P : Program) (w : World) (K : PySem.W.Frag) (mg : Str → Option Value) (base : Heap) (cs : Cs) (k : Nat) (N : List Str) (q : Str) (st : Stmt) (f : Addr) (W : List Nat) (F : WS) : Prop :=
  ∀ (cdv : Value) (A : Around) (outer : List PySem.Env) (s : Shared) (H : Hp) (E : XK), Room k (A.deeper (envOfC q (C8.fnScope st) s.heap.objs.size f cdv)) → PSsD (cxOf C8.CX0 P w K mg base N q (C8.fnScope st) f cdv A outer s H E).nox cs W (C8.fnBody st) F
theorem cal_by {x : Str} {st : Stmt} {f : Addr} {fd : FuncData} {N ps : List Str} {W : List Nat} {F : WS} {n m k : Nat} (D : C8.Def K mg x st f fd) (bi : Binds K fd ps []) (S : FnScope N ps (C8.fnScope st)) (hn : N.length = n + m) (hp : ps.length = n) (hW : ∀ i ∈ W, n ≤ i)
    (hb : BodyOk P w K mg base cs k N x st f W F) : C8.Cal P w K mg base (k + 1) x (spW ⟨P, w, K, cs⟩ (fnW n m F)) [] :=
  C8.cal0 D bi .nil S (fun vs H Q E h => by rw [hp]; exact sp_len h) fun cdv A outer s H vs Q E hr h => ⟨_, hb cdv A outer s H E hr, fn_ends hn hW h⟩
end
end Rr
set_option maxHeartbeats 8000000
/-! registerrooms: a tuple so many times; isinstance; the table of sizes; objects' fields. -/
namespace Rr
open PySem PySem.Spec PyProof.Rows L2

/-! ### (0,) * n -/
theorem tmul_one (l : Addr) (its : Array Value) (n : Nat) (dd : Option Addr) (sl : Array (Option Value)) (u : Tok) :
    Meets (Builtin.«tuple.__mul__» ⟨[.ref l, .int 1 u], []⟩) (fun _ R s => s.heap.get? l = some { cls := .type "tuple", dict := dd, data := .seq its n, slots := sl } ∧ R (.ok (.ret (.ref l))) s) :=
  .of_wp fun prog w A R s hh => by
    obtain ⟨hp, gn, dw, tk, os⟩ := s
    obtain ⟨hl, hh⟩ := hh
    have f1 := AutoSeq1.idx_int
    have c1 : (its.isEmpty || (1 : Int) == 1) = true := by simp
    wp_walk using wpAny_loadPart' hl
    repeat (first
      | (refine wpAny_ite_true (decide_eq_true (by rw [c1])) ?_; wp_walk using wpAny_loadPart' hl)
      | (refine wpAny_ite_true (by rw [c1]) ?_; wp_walk using wpAny_loadPart' hl))
    exact ⟨_, rfl, hh⟩
theorem tmul_none (l : Addr) (its : Array Value) (n : Nat) (dd : Option Addr) (sl : Array (Option Value)) (u : Tok) (ne : its.isEmpty = false) :
    Meets (Builtin.«tuple.__mul__» ⟨[.ref l, .int 0 u], []⟩) (fun _ R s => s.heap.get? l = some { cls := .type "tuple", dict := dd, data := .seq its n, slots := sl } ∧ R (.ok (.ret (Value.ref s.heap.objs.size))) { s with heap := s.heap.push { cls := Value.type "tuple", data := Data.seq #[] }, toks := s.toks }) :=
  .of_wp fun prog w A R s hh => by
    obtain ⟨hp, gn, dw, tk, os⟩ := s
    obtain ⟨hl, hh⟩ := hh
    have f1 := AutoSeq1.idx_int
    have c1 : (its.isEmpty || (0 : Int) == 1) = false := by rw [ne]; rfl
    have c2 : (decide ((0 : Int) ≤ 0) || its.isEmpty) = true := by simp
    wp_walk using wpAny_loadPart' hl
    repeat (first
      | (refine wpAny_ite_false (decide_eq_false (by rw [c1]; exact Bool.false_ne_true)) ?_; wp_walk using wpAny_loadPart' hl)
      | (refine wpAny_ite_true (decide_eq_true (by rw [c2])) ?_; wp_walk using wpAny_loadPart' hl))
    exact ⟨_, rfl, hh⟩
def rRep01 : R2 := fun x y H Q => ∃ l xs, x = .ref l ∧ H l = some (.tup xs) ∧ ((y = .int 1 ∧ Q (.ref l) H) ∨ (y = .int 0 ∧ xs ≠ [] ∧ ∀ p, H p = none → Q (.ref p) (upd H p (.tup []))))
theorem op_rep01 {X : Cx} : OpR X (binaryOp .Mult) rRep01 := by
  intro pins s σ H x y v u Q I rx ry ⟨l, xs, ex, hT, q⟩
  subst ex
  obtain rfl : v = Value.ref l := rx
  obtain ⟨its, r, ⟨⟨cls, dd, data, sl⟩, ho, hc, n, hd⟩, hs⟩ := I.tuple (SqT.of hT)
  simp only at hc hd
  subst hc hd
  rcases q with ⟨rfl, q⟩ | ⟨rfl, ne, q⟩
  · obtain ⟨t, rfl⟩ := ry
    exact wpAny_binaryOp_repeat_ref (T := "tuple") (U := "int") (by decide) ⟨_, ho, rfl⟩ (fun s' => typeIs_int s' 1 t) noFill_tuple_mul F.fills_int_mul F.slot_int_rmul repeat_tuple F.slot_int_index.lookup
      (call_meets F.slot_int_rmul (typeIs_int s 1 t) F.entry_int_rmul (F.args_int_rmul_2 _ _) (int_rmul_tuple 1 t l its.toArray n dd sl) ⟨ho, rfl, ⟨_, ho, rfl⟩, call_meets F.slot_tuple_mul ⟨_, ho, rfl⟩ F.entry_tuple_mul (F.args_tuple_mul_2 _ _) (tmul_one l its.toArray n dd sl t) ⟨ho, .ref l, H, I, rfl, q⟩⟩)
  · obtain ⟨t, rfl⟩ := ry
    have em : its.toArray.isEmpty = false := by
      cases its with
      | nil =>
        cases r
        exact absurd rfl ne
      | cons a b => rfl
    refine wpAny_binaryOp_repeat_ref (T := "tuple") (U := "int") (by decide) ⟨_, ho, rfl⟩ (fun s' => typeIs_int s' 0 t) noFill_tuple_mul F.fills_int_mul F.slot_int_rmul repeat_tuple F.slot_int_index.lookup
      (call_meets F.slot_int_rmul (typeIs_int s 0 t) F.entry_int_rmul (F.args_int_rmul_2 _ _) (int_rmul_tuple 0 t l its.toArray n dd sl) ⟨ho, rfl, ⟨_, ho, rfl⟩, call_meets F.slot_tuple_mul ⟨_, ho, rfl⟩ F.entry_tuple_mul (F.args_tuple_mul_2 _ _) (tmul_none l its.toArray n dd sl t em) ⟨ho, ?_⟩⟩)
    refine ⟨.ref s.heap.objs.size, _, I.laid (t' := s.toks) (o := .tup []) (fun b ob z => Heap.get?_push_of_some _ z) (Nat.le_refl _) ?_, rfl, q _ (I.hok.fresh (Nat.le_refl _))⟩
    exact ⟨Nat.zero_le _, [], .nil, IsTup.new _ _⟩
def rRepA (K : PySem.W.Frag) : R2 := fun x y H Q => rRepT K x y H Q ∨ rRep01 x y H Q
theorem op_repA {X : Cx} : OpR X (binaryOp .Mult) (rRepA X.K) := OpR.or op_repT op_rep01
def repTD : D → D → Wp D
  | .tup a, .int k => .chk (0 ≤ k ∧ k ≤ 1000 ∧ a ≠ [] ∧ a.length ≤ 1000) (.ret (.tup (List.replicate k.toNat a).flatten))
  | _, _ => .fail
theorem do_repT {c : Ctx} : DOp c (rRepA c.K) repTD := by
  intro dr G H x y dx dy Q b rx ry h
  unfold repTD at h
  split at h
  · rename_i k
    obtain ⟨⟨h0, h1, h2, h3⟩, h⟩ := h
    obtain ⟨l, xs, rfl, ha, qa⟩ := rx.tup_of
    have ne : xs ≠ [] := fun e => h2 (by
      subst e
      cases qa
      rfl)
    cases ry.int_of
    by_cases k2 : 2 ≤ k
    · refine .inl ⟨l, k, xs, rfl, rfl, SqT.of (b.sub _ _ ha), ne, k2, h1, by rw [qa.length]; exact h3, fun p np => ?_⟩
      have s := Step.laid b np (.tup (List.replicate k.toNat xs).flatten)
      exact h _ _ _ s (.tup upd_same ((qa.replicate _).mono s.gs))
    · refine .inr ⟨l, xs, rfl, b.sub _ _ ha, ?_⟩
      rcases (show k = 0 ∨ k = 1 by omega) with rfl | rfl
      · refine .inr ⟨rfl, ne, fun p np => ?_⟩
        have s := Step.laid b np (.tup [])
        exact h _ _ _ s (.tup upd_same .nil)
      · refine .inl ⟨rfl, ?_⟩
        have e := qa.replicate 1
        refine h _ G H (Step.refl b) (.tup ha ?_)
        simpa using qa
  · exact h.elim

/-! ### isinstance(x, int), ... -/
def tyN : D → Option String
  | .non => some "NoneType"
  | .bl _ => some "bool"
  | .int _ => some "int"
  | .str _ => some "str"
  | .tup _ => some "tuple"
  | _ => none
theorem R.ty {c : Ctx} {dr : Addr} {G H : Hp} {v : V} {d : D} {t : String} (b : Same G H) (r : R c dr G v d) (h : tyN d = some t) : TyX c.K H v (.type t) := by
  cases d <;> simp only [tyN, Option.some.injEq, reduceCtorEq] at h
  · subst h; cases r; exact .base .non
  · subst h; cases r; exact .base (.bl _)
  · subst h; cases r; exact .base (.int _)
  · subst h; cases r; exact .base (.str _)
  · subst h
    obtain ⟨a, xs, rfl, ha, _⟩ := r.tup_of
    exact .base (.tup (b _ _ ha))
def isiT (T : String) (d : D) : Wp D := (Wp.opt (tyN d)).bind fun t => (Wp.opt (kitB t T)).bind fun b => .ret (.bl b)
def wIsi (T : String) (w : WE) : WE := fun ρ => (w ρ).bind (isiT T)
section
variable {X : Cx} {cs : Cs} {e : Expr} {w : WE} {p q pos : Pos} {x : Str} {T : String}
theorem pd_isi (hg : Gl X "isinstance") (hm : X.mg "isinstance" = none) (gx : Gl X x) (mx : X.mg x = none) (bx : bootBuiltins x = some (.type T)) (he : PD X cs e w) (nx : x ≠ "__name__" := by decide) (dx : (x == ("__debug__" : Str)) = false := by decide)
    (hs : starEach (e :: [.Name x q]) X.env = (false, eval e X.env) :: starEach [.Name x q] X.env := by rfl) (hp : (backTo pos (starEach [.Name x q] X.env)).any (·.1) = false := by rfl) (hs2 : starEach [.Name x q] X.env = (false, eval (.Name x q) X.env) :: starEach [] X.env := by rfl) :
    PD X cs (.Call (.Name "isinstance" p) [e, .Name x q] [] pos) (wIsi T w) :=
  pe_of (pe_callB call_isi hg hm (by kernel_rfl) (pa_cons he (pa_cons (pe_bltn (v := .ty T) gx mx bx rfl nx dx) pa_nil hs2) hs) (by decide) (by decide) hs hp) fun σ H Q ⟨dr, G, ρ, b, ev, h⟩ => by
    refine tD_seq b ev h fun d v G1 H1 s1 e1 r1 k1 => ?_
    obtain ⟨t, ht, b', hb, k1⟩ := k1
    exact ⟨v, .ty T, .type t, .type T, b', rfl, .ty T, r1.ty s1.base.sub ht, kit_ty hb, k1 _ G1 H1 s1 (.bl _)⟩
end

/-! ### the classes -/
/-- what of the text the classes have; cB: Blocks -/
structure ClsOk (K : PySem.W.Frag) (cs : Cs) (cB : Addr) : Prop where
  sP : SlX.SCls K cs.cP
  iP : SlX.SIsi K cs.cP
  bl : ∃ p, SlX.Slot1 K cs.cP "blocks" p 3
  mn : ∃ p, SlX.Slot1 K cs.cP "many" p 1
  hn : ∃ p, SlX.Slot1 K cs.cP "handed" p 0
  sn : ∃ p, SlX.Slot1 K cs.cP "span" p 2
  kPB : PySem.W.kitOne K (.ref cs.cP) (.ref cB) = some true
  S : Cls K cs.cS
  nS : NoAttr K cs.cS "pairs"
  aS : PySem.W.findIn K (.ref cs.cS) "__class__" = some (some (.builtin "object.__class__"))
  mS : PySem.W.mroIn K cs.cS (.type "object") = some true
  T : Cls K cs.cT
  nT : NoAttr K cs.cT "handed"
  nI : NoAttr K cs.cT "inputs"
  aT : PySem.W.findIn K (.ref cs.cT) "__class__" = some (some (.builtin "object.__class__"))
  mT : PySem.W.mroIn K cs.cT (.type "object") = some true
  cn : PySem.W.specialIn K (.builtin "object.__class__") "__get__" = some (some (.builtin "getset_descriptor.__get__"))
  ct : PySem.W.takesIn K (.builtin "object.__class__") = some true
  kSS : PySem.W.kitOne K (.ref cs.cS) (.ref cs.cS) = some true
  kST : PySem.W.kitOne K (.ref cs.cS) (.ref cs.cT) = some false
  kTS : PySem.W.kitOne K (.ref cs.cT) (.ref cs.cS) = some false
  kTT : PySem.W.kitOne K (.ref cs.cT) (.ref cs.cT) = some true
/-- isinstance(x, Blocks) of a Program; isinstance(x, Same), isinstance(x, Parted) -/
def isBlocks : D → Wp D
  | .prg _ _ _ _ => .ret (.bl true)
  | _ => .fail
def isSame : D → Wp D
  | .sam _ => .ret (.bl true)
  | .par _ _ => .ret (.bl false)
  | _ => .fail
def isParted : D → Wp D
  | .sam _ => .ret (.bl false)
  | .par _ _ => .ret (.bl true)
  | _ => .fail
def wMap (f : D → Wp D) (w : WE) : WE := fun ρ => (w ρ).bind f
section
variable {X : Cx} {cs : Cs} {cB : Addr} {e : Expr} {w : WE} {p q pos : Pos} {x : Str}
theorem R.sam_of {c : Ctx} {dr : Addr} {G : Hp} {v : V} {ds : List D} (r : R c dr G v (.sam ds)) : ∃ a dx u, v = .ref a ∧ G a = some (.ins c.cs.cS dx [("pairs", u)]) ∧ R c dr G u (.lst ds) := by
  cases r with
  | sam h q => exact ⟨_, _, _, rfl, h, q⟩
theorem R.par_of {c : Ctx} {dr : Addr} {G : Hp} {v : V} {h : D} {is : List D} (r : R c dr G v (.par h is)) : ∃ a dx u u2, v = .ref a ∧ G a = some (.ins c.cs.cT dx [("handed", u), ("inputs", u2)]) ∧ R c dr G u h ∧ R c dr G u2 (.lst is) := by
  cases r with
  | par h q q2 => exact ⟨_, _, _, _, rfl, h, q, q2⟩
theorem R.prg_of {c : Ctx} {dr : Addr} {G : Hp} {v : V} {m h s : Int} {bs : D} (r : R c dr G v (.prg m bs h s)) : ∃ a dx sl vb, v = .ref a ∧ SlX.Slt G a c.cs.cP dx sl ∧ sl[3]? = some (some vb) ∧ R c dr G vb bs ∧ sl[1]? = some (some (.int m)) ∧ sl[0]? = some (some (.int h)) ∧ sl[2]? = some (some (.int s)) := by
  cases r with
  | prg h1 h2 h3 h4 h5 h6 => exact ⟨_, _, _, _, rfl, h1, h2, h3, h4, h5, h6⟩
theorem refOne {C : Addr} : ∀ w, RelV (.ref C) w → w = Value.ref C := fun _ h => h
theorem pd_isBlocks (T : ClsOk X.K cs cB) (hg : Gl X "isinstance") (hm : X.mg "isinstance" = none) (gx : Gl X x) (mx : X.mg x = some (.ref cB)) (he : PD X cs e w) (dx : (x == ("__debug__" : Str)) = false := by decide)
    (hs : starEach (e :: [.Name x q]) X.env = (false, eval e X.env) :: starEach [.Name x q] X.env := by rfl) (hp : (backTo pos (starEach [.Name x q] X.env)).any (·.1) = false := by rfl) (hs2 : starEach [.Name x q] X.env = (false, eval (.Name x q) X.env) :: starEach [] X.env := by rfl) :
    PD X cs (.Call (.Name "isinstance" p) [e, .Name x q] [] pos) (wMap isBlocks w) :=
  pe_of (pe_callB (SlX.call_isiSl (.ref cB)) hg hm (by kernel_rfl) (pa_cons he (pa_cons (pe_glob (v := .ref cB) gx mx rfl dx) pa_nil hs2) hs) (by decide) (by decide) hs hp) fun σ H Q ⟨dr, G, ρ, b, ev, h⟩ => by
    refine tD_seq b ev h fun d v G1 H1 s1 e1 r1 k1 => ?_
    cases d with
    | prg m bs h s =>
      obtain ⟨a, dx, sl, vb, rfl, hsl, _⟩ := r1.prg_of
      exact ⟨a, cs.cP, dx, sl, .ref cB, true, rfl, rfl, refOne, slt_mono s1.base.sub hsl, T.sP, T.iP, T.kPB, k1 _ G1 H1 s1 (.bl _)⟩
    | _ => exact k1.elim
theorem pd_isSame (T : ClsOk X.K cs cB) (hg : Gl X "isinstance") (hm : X.mg "isinstance" = none) (gx : Gl X x) (mx : X.mg x = some (.ref cs.cS)) (he : PD X cs e w) (dx : (x == ("__debug__" : Str)) = false := by decide)
    (hs : starEach (e :: [.Name x q]) X.env = (false, eval e X.env) :: starEach [.Name x q] X.env := by rfl) (hp : (backTo pos (starEach [.Name x q] X.env)).any (·.1) = false := by rfl) (hs2 : starEach [.Name x q] X.env = (false, eval (.Name x q) X.env) :: starEach [] X.env := by rfl) :
    PD X cs (.Call (.Name "isinstance" p) [e, .Name x q] [] pos) (wMap isSame w) :=
  pe_of (pe_callB call_isi hg hm (by kernel_rfl) (pa_cons he (pa_cons (pe_glob (v := .ref cs.cS) gx mx rfl dx) pa_nil hs2) hs) (by decide) (by decide) hs hp) fun σ H Q ⟨dr, G, ρ, b, ev, h⟩ => by
    refine tD_seq b ev h fun d v G1 H1 s1 e1 r1 k1 => ?_
    cases d with
    | sam ds =>
      obtain ⟨a, dx, u, rfl, ha, _⟩ := r1.sam_of
      exact ⟨_, .ref cs.cS, _, _, true, rfl, .own _, .base (.ins (s1.base.sub _ _ ha) T.S T.aS T.cn T.ct T.mS), T.kSS, k1 _ G1 H1 s1 (.bl _)⟩
    | par h is =>
      obtain ⟨a, dx, u, u2, rfl, ha, _⟩ := r1.par_of
      exact ⟨_, .ref cs.cS, _, _, false, rfl, .own _, .base (.ins (s1.base.sub _ _ ha) T.T T.aT T.cn T.ct T.mT), T.kTS, k1 _ G1 H1 s1 (.bl _)⟩
    | _ => exact k1.elim
theorem pd_isParted (T : ClsOk X.K cs cB) (hg : Gl X "isinstance") (hm : X.mg "isinstance" = none) (gx : Gl X x) (mx : X.mg x = some (.ref cs.cT)) (he : PD X cs e w) (dx : (x == ("__debug__" : Str)) = false := by decide)
    (hs : starEach (e :: [.Name x q]) X.env = (false, eval e X.env) :: starEach [.Name x q] X.env := by rfl) (hp : (backTo pos (starEach [.Name x q] X.env)).any (·.1) = false := by rfl) (hs2 : starEach [.Name x q] X.env = (false, eval (.Name x q) X.env) :: starEach [] X.env := by rfl) :
    PD X cs (.Call (.Name "isinstance" p) [e, .Name x q] [] pos) (wMap isParted w) :=
  pe_of (pe_callB call_isi hg hm (by kernel_rfl) (pa_cons he (pa_cons (pe_glob (v := .ref cs.cT) gx mx rfl dx) pa_nil hs2) hs) (by decide) (by decide) hs hp) fun σ H Q ⟨dr, G, ρ, b, ev, h⟩ => by
    refine tD_seq b ev h fun d v G1 H1 s1 e1 r1 k1 => ?_
    cases d with
    | sam ds =>
      obtain ⟨a, dx, u, rfl, ha, _⟩ := r1.sam_of
      exact ⟨_, .ref cs.cT, _, _, false, rfl, .own _, .base (.ins (s1.base.sub _ _ ha) T.S T.aS T.cn T.ct T.mS), T.kST, k1 _ G1 H1 s1 (.bl _)⟩
    | par h is =>
      obtain ⟨a, dx, u, u2, rfl, ha, _⟩ := r1.par_of
      exact ⟨_, .ref cs.cT, _, _, true, rfl, .own _, .base (.ins (s1.base.sub _ _ ha) T.T T.aT T.cn T.ct T.mT), T.kTT, k1 _ G1 H1 s1 (.bl _)⟩
    | _ => exact k1.elim
/-- e.many, e.handed, e.span, e.blocks of a Program -/
def fMany : D → Wp D
  | .prg m _ _ _ => .ret (.int m)
  | _ => .fail
def fHanded : D → Wp D
  | .prg _ _ h _ => .ret (.int h)
  | .par h _ => .ret h
  | _ => .fail
def fSpan : D → Wp D
  | .prg _ _ _ s => .ret (.int s)
  | _ => .fail
def fBlocks : D → Wp D
  | .prg _ b _ _ => .ret b
  | _ => .fail
def fPairs : D → Wp D
  | .sam ds => .ret (.lst ds)
  | _ => .fail
def fInputs : D → Wp D
  | .par _ is => .ret (.lst is)
  | _ => .fail
theorem pd_many (T : ClsOk X.K cs cB) (he : PD X cs e w) (hb : attributeBase e "many" X.env (eval e X.env) = eval e X.env := by rfl) : PD X cs (.Attribute e "many" pos) (wMap fMany w) :=
  pe_of (SlX.pe_sl he hb) fun σ H Q ⟨dr, G, ρ, b, ev, h⟩ => by
    refine tD_seq b ev h fun d v G1 H1 s1 e1 r1 k1 => ?_
    cases d with
    | prg m bs h s =>
      obtain ⟨a, dx, sl, vb, rfl, hsl, q0, rb, q1, q2, q3⟩ := r1.prg_of
      obtain ⟨p, t⟩ := T.mn
      exact ⟨a, cs.cP, dx, p, sl, 1, _, rfl, slt_mono s1.base.sub hsl, T.sP, t, q1, k1 _ G1 H1 s1 (.int _)⟩
    | _ => exact k1.elim
theorem pd_span (T : ClsOk X.K cs cB) (he : PD X cs e w) (hb : attributeBase e "span" X.env (eval e X.env) = eval e X.env := by rfl) : PD X cs (.Attribute e "span" pos) (wMap fSpan w) :=
  pe_of (SlX.pe_sl he hb) fun σ H Q ⟨dr, G, ρ, b, ev, h⟩ => by
    refine tD_seq b ev h fun d v G1 H1 s1 e1 r1 k1 => ?_
    cases d with
    | prg m bs h s =>
      obtain ⟨a, dx, sl, vb, rfl, hsl, q0, rb, q1, q2, q3⟩ := r1.prg_of
      obtain ⟨p, t⟩ := T.sn
      exact ⟨a, cs.cP, dx, p, sl, 2, _, rfl, slt_mono s1.base.sub hsl, T.sP, t, q3, k1 _ G1 H1 s1 (.int _)⟩
    | _ => exact k1.elim
theorem pd_blocks (T : ClsOk X.K cs cB) (he : PD X cs e w) (hb : attributeBase e "blocks" X.env (eval e X.env) = eval e X.env := by rfl) : PD X cs (.Attribute e "blocks" pos) (wMap fBlocks w) :=
  pe_of (SlX.pe_sl he hb) fun σ H Q ⟨dr, G, ρ, b, ev, h⟩ => by
    refine tD_seq b ev h fun d v G1 H1 s1 e1 r1 k1 => ?_
    cases d with
    | prg m bs h s =>
      obtain ⟨a, dx, sl, vb, rfl, hsl, q0, rb, q1, q2, q3⟩ := r1.prg_of
      obtain ⟨p, t⟩ := T.bl
      exact ⟨a, cs.cP, dx, p, sl, 3, _, rfl, slt_mono s1.base.sub hsl, T.sP, t, q0, k1 _ G1 H1 s1 rb⟩
    | _ => exact k1.elim
/-- .handed: of a Program -/
def fHandedP : D → Wp D
  | .prg _ _ h _ => .ret (.int h)
  | _ => .fail
def fHandedT : D → Wp D
  | .par h _ => .ret h
  | _ => .fail
theorem pd_handedP (T : ClsOk X.K cs cB) (he : PD X cs e w) (hb : attributeBase e "handed" X.env (eval e X.env) = eval e X.env := by rfl) : PD X cs (.Attribute e "handed" pos) (wMap fHandedP w) :=
  pe_of (SlX.pe_sl he hb) fun σ H Q ⟨dr, G, ρ, b, ev, h⟩ => by
    refine tD_seq b ev h fun d v G1 H1 s1 e1 r1 k1 => ?_
    cases d with
    | prg m bs h s =>
      obtain ⟨a, dx, sl, vb, rfl, hsl, q0, rb, q1, q2, q3⟩ := r1.prg_of
      obtain ⟨p, t⟩ := T.hn
      exact ⟨a, cs.cP, dx, p, sl, 0, _, rfl, slt_mono s1.base.sub hsl, T.sP, t, q2, k1 _ G1 H1 s1 (.int _)⟩
    | _ => exact k1.elim
theorem pd_handedT (T : ClsOk X.K cs cB) (he : PD X cs e w) (hb : attributeBase e "handed" X.env (eval e X.env) = eval e X.env := by rfl) : PD X cs (.Attribute e "handed" pos) (wMap fHandedT w) :=
  pe_of (pe_fld he hb) fun σ H Q ⟨dr, G, ρ, b, ev, h⟩ => by
    refine tD_seq b ev h fun d v G1 H1 s1 e1 r1 k1 => ?_
    cases d with
    | par h is =>
      obtain ⟨a, dx, u, u2, rfl, ha, ru, ru2⟩ := r1.par_of
      exact ⟨a, cs.cT, dx, _, u, rfl, s1.base.sub _ _ ha, T.T, T.nT, rfl, k1 _ G1 H1 s1 ru⟩
    | _ => exact k1.elim
theorem pd_inputs (T : ClsOk X.K cs cB) (he : PD X cs e w) (hb : attributeBase e "inputs" X.env (eval e X.env) = eval e X.env := by rfl) : PD X cs (.Attribute e "inputs" pos) (wMap fInputs w) :=
  pe_of (pe_fld he hb) fun σ H Q ⟨dr, G, ρ, b, ev, h⟩ => by
    refine tD_seq b ev h fun d v G1 H1 s1 e1 r1 k1 => ?_
    cases d with
    | par h is =>
      obtain ⟨a, dx, u, u2, rfl, ha, ru, ru2⟩ := r1.par_of
      exact ⟨a, cs.cT, dx, _, u2, rfl, s1.base.sub _ _ ha, T.T, T.nI, rfl, k1 _ G1 H1 s1 ru2⟩
    | _ => exact k1.elim
theorem pd_pairs (T : ClsOk X.K cs cB) (he : PD X cs e w) (hb : attributeBase e "pairs" X.env (eval e X.env) = eval e X.env := by rfl) : PD X cs (.Attribute e "pairs" pos) (wMap fPairs w) :=
  pe_of (pe_fld he hb) fun σ H Q ⟨dr, G, ρ, b, ev, h⟩ => by
    refine tD_seq b ev h fun d v G1 H1 s1 e1 r1 k1 => ?_
    cases d with
    | sam ds =>
      obtain ⟨a, dx, u, rfl, ha, ru⟩ := r1.sam_of
      exact ⟨a, cs.cS, dx, _, u, rfl, s1.base.sub _ _ ha, T.S, T.nS, rfl, k1 _ G1 H1 s1 ru⟩
    | _ => exact k1.elim
/-- o.m(..) of a Program -/
def wMeth (F : List D → Wp D) (w : WE) (wa : WA) : WE := fun ρ => (w ρ).bind fun d => match d with
  | .prg m b h s => (wa ρ).bind fun ds => F (.prg m b h s :: ds)
  | _ => .fail
theorem pd_methP {o : Expr} {es : List Expr} {m : Str} {g : Addr} {F : List D → Wp D} {wa : WA} {k j : Nat} {apos : Pos} {pl : Sem Bool} (T : ClsOk X.K cs cB) (hm : Meth X.K cs.cP m g) (Fn : FnR X.prog X.w X.K X.mg X.base C8.CX0 k g (spW (xc X cs) F)) (hr : Room j X.A) (hk : k ≤ j) (ho : PD X cs o w) (ha : PAD X cs (e :: es) wa)
    (hst : starEach (e :: es) X.env = (false, eval e X.env) :: starEach es X.env := by rfl) (hpl : (backTo pos (starEach es X.env)).any (·.1) = false := by rfl)
    (ht : eval (.Call (.Attribute o m apos) (e :: es) [] pos) X.env = (do
      let ov ← eval o X.env
      standAt apos.atName
      let (f, first) ← holding [ov] (getMethod ov m pl)
      callWith pos f first (backTo pos (starEach (e :: es) X.env)) (backToKw pos (keywordEach [] X.env))) := by rfl) :
    PD X cs (.Call (.Attribute o m apos) (e :: es) [] pos) (wMeth F w wa) :=
  pe_of (SlX.pe_methSl (E := C8.E0) ho T.sP hm Fn (hr.mono hk) C8.pass0 ha hst hpl ht) fun σ H Q ⟨dr, G, ρ, b, ev, h⟩ => by
    refine tD_seq b ev h fun d v G1 H1 s1 e1 r1 k1 => ?_
    cases d with
    | prg m bs h s =>
      obtain ⟨a, dx, sl, vb, rfl, hsl, _⟩ := r1.prg_of
      refine ⟨a, dx, sl, rfl, slt_mono s1.base.sub hsl, ?_⟩
      refine tDA_seq s1.base e1 k1 fun ds vs G2 H2 s2 e2 r2 k2 => ?_
      exact ⟨dr, G2, _, s2.base, .cons (r1.mono s2.gs) r2, (F _).mono (fun d k v G3 H3 s3 r3 => k v G3 H3 ((s1.trans b s2).trans b s3) r3) k2⟩
    | _ => exact k1.elim
end

/-! ### the table of sizes -/
def sizeOf : Str → Option Int := fun z => ([("put", 3), ("move", 3), ("add", 4), ("sub", 4), ("less", 4), ("take", 2), ("tell", 2)] : List (Str × Int)).lookup z
/-- at aZ stands the table -/
structure SizOk (K : PySem.W.Frag) (w : World) (aZ : Addr) : Prop where
  tab : ∃ es n, KDict K w aZ es n
  get : ∀ z n, sizeOf z = some n → ∃ t, PySem.W.nsIn K aZ z = some (some (.int n t))
def inSizes : D → Wp D
  | .str z => .chk ((sizeOf z).isSome = true) (.ret (.bl false))
  | _ => .fail
def atSizes : D → Wp D
  | .str z => (Wp.opt (sizeOf z)).bind fun n => .ret (.int n)
  | _ => .fail
section
variable {X : Cx} {cs : Cs} {aZ : Addr} {e : Expr} {w : WE} {p pos : Pos} {x : Str}
theorem pd_ninSizes (T : SizOk X.K X.w aZ) (gx : Gl X x) (mx : X.mg x = some (.ref aZ)) (he : PD X cs e w) (dx : (x == ("__debug__" : Str)) = false := by decide) (hb : behindInMarks .NotIn (.Name x p) = false := by rfl) : PD X cs (.Compare e [.NotIn] [.Name x p] pos) (wMap inSizes w) := by
  obtain ⟨es, n, D⟩ := T.tab
  refine pe_of (pe_cmpR (op_notIn_kd D) he (pe_glob (v := .ref aZ) gx mx rfl dx) hb) fun σ H Q ⟨dr, G, ρ, b, ev, h⟩ => ?_
  refine tD_seq b ev h fun d v G1 H1 s1 e1 r1 k1 => ?_
  cases d with
  | str z =>
    cases r1.str_of
    obtain ⟨k0, k1⟩ := k1
    obtain ⟨m, hm⟩ := Option.isSome_iff_exists.mp k0
    obtain ⟨t, ht⟩ := T.get z m hm
    exact ⟨z, _, rfl, rfl, ht, k1 _ G1 H1 s1 (.bl _)⟩
  | _ => exact k1.elim
theorem pd_atSizes (T : SizOk X.K X.w aZ) (gx : Gl X x) (mx : X.mg x = some (.ref aZ)) (he : PD X cs e w) (dx : (x == ("__debug__" : Str)) = false := by decide) (hs : PlainIx e := by exact fun _ _ => rfl) : PD X cs (.Subscript (.Name x p) e pos) (wMap atSizes w) := by
  refine pe_of (pe_ix ix_kdict (pe_glob (v := .ref aZ) gx mx rfl dx) he hs) fun σ H Q ⟨dr, G, ρ, b, ev, h⟩ => ?_
  refine tD_seq b ev h fun d v G1 H1 s1 e1 r1 k1 => ?_
  cases d with
  | str z =>
    cases r1.str_of
    obtain ⟨m, hm, k1⟩ := k1
    obtain ⟨t, ht⟩ := T.get z m hm
    obtain ⟨es, n, D⟩ := T.tab
    exact ⟨aZ, z, .int m, rfl, rfl, ⟨es, n, _, D.at_, D.lit, ht, t, rfl⟩, k1 _ G1 H1 s1 (.int _)⟩
  | _ => exact k1.elim
end
end Rr
/-! registerrooms: chains; more built-ins; objects made, their methods, walked. -/
namespace Rr
open PySem PySem.Spec PyProof.Rows L2
section
variable {X : Cx} {cs : Cs} {a b d : Expr} {wa wb wd : WE} {pos : Pos}
def wChain (f g : D → D → Wp D) (wa wb wd : WE) : WE := fun ρ => (wa ρ).bind fun x => (wb ρ).bind fun y => (f x y).bind fun z => (asB z).bind fun k => if k = true then (wd ρ).bind fun u => g y u else .ret (.bl false)
theorem pd_chain {op op' : CmpOp} {r r' : R2} {f g : D → D → Wp D} (ho : OpR X (compareOp op) r) (ho' : OpR X (compareOp op') r') (hf : DOp (xc X cs) r f) (hg : DOp (xc X cs) r' g) (ha : PD X cs a wa) (hb : PD X cs b wb) (hd : PD X cs d wd)
    (hm : lastMarks [op, op'] [b, d] = false := by with_unfolding_all rfl) : PD X cs (.Compare a [op, op'] [b, d] pos) (wChain f g wa wb wd) :=
  pe_of (pe_chain ho ho' ha hb hd hm) fun σ H Q ⟨dr, G, ρ, b, e, h⟩ => by
    refine tD_seq b e h fun x vx G1 H1 s1 e1 r1 k1 => ?_
    refine tD_seq s1.base e1 k1 fun y vy G2 H2 s2 e2 r2 k2 => ?_
    refine hf dr G2 H2 vx vy x y _ s2.base (r1.mono s2.gs) r2 ((f x y).mono (fun z k3 v G3 H3 s3 r3 => ?_) k2)
    obtain ⟨k, rfl, k3⟩ := asB_run k3
    refine ⟨k, r3.bl_of, ?_⟩
    have s13 := (s1.trans b s2).trans b s3
    have e3 := e2.mono s3.gs
    cases k with
    | true =>
      have k3 : ((wd ρ).bind fun u => g y u).run (Wish (xc X cs) dr G H Q) := k3
      refine iteT (tD_seq s3.base e3 k3 fun u vu G4 H4 s4 e4 r4 k4 => ?_)
      exact hg dr G4 H4 vy vu y u Q s4.base ((r2.mono s3.gs).mono s4.gs) r4 ((g y u).mono (fun z k v G5 H5 s5 r5 => k v G5 H5 ((s13.trans b s4).trans b s5) r5) k4)
    | false =>
      have k3 : (Wp.ret (D.bl false)).run (Wish (xc X cs) dr G H Q) := k3
      exact iteF (k3 _ G3 H3 s13 (.bl _))
end
section
variable {X : Cx} {cs : Cs} {a b d : Expr} {wa wb wd : WE} {pos : Pos}
theorem ptd_chain {op op' : CmpOp} {r r' : R2} {f g : D → D → Wp D} (ho : OpR X (compareOp op) r) (ho' : OpR X (compareOp op') r') (hf : DOp (xc X cs) r f) (hg : DOp (xc X cs) r' g) (ha : PD X cs a wa) (hb : PD X cs b wb) (hd : PD X cs d wd)
    (hm : lastMarks [op, op'] [b, d] = false := by with_unfolding_all rfl) : PTD X cs (.Compare a [op, op'] [b, d] pos) (wB (wChain f g wa wb wd)) :=
  pt_of (pt_chain ho ho' ha hb hd hm) fun σ H Q ⟨dr, G, ρ, b, e, h⟩ => by
    refine tD_seq b e h fun x vx G1 H1 s1 e1 r1 k1 => ?_
    refine tD_seq s1.base e1 k1 fun y vy G2 H2 s2 e2 r2 k2 => ?_
    refine hf dr G2 H2 vx vy x y _ s2.base (r1.mono s2.gs) r2 ((f x y).mono (fun z k3 v G3 H3 s3 r3 => ?_) k2)
    have k3 : (asB z).run fun k => (if k = true then (wd ρ).bind fun u => g y u else Wp.ret (D.bl false)).run fun d => (asB d).run fun b => ∀ G' H', Step dr G H G' H' → Q b H' := k3
    obtain ⟨k, rfl, k3⟩ := asB_run k3
    refine ⟨k, r3.bl_of, ?_⟩
    have s13 := (s1.trans b s2).trans b s3
    have e3 := e2.mono s3.gs
    cases k with
    | true =>
      have k3 : (wd ρ).run fun u => (g y u).run fun d => (asB d).run fun b => ∀ G' H', Step dr G H G' H' → Q b H' := k3
      refine iteT (tD_seq s3.base e3 k3 fun u vu G4 H4 s4 e4 r4 k4 => ?_)
      refine hg dr G4 H4 vy vu y u _ s4.base ((r2.mono s3.gs).mono s4.gs) r4 ((g y u).mono (fun z k v G5 H5 s5 r5 => ?_) k4)
      obtain ⟨q, rfl, k⟩ := asB_run k
      exact ⟨q, r5.bl_of, k G5 H5 ((s13.trans b s4).trans b s5)⟩
    | false =>
      have k3 : ∀ G' H', Step dr G H G' H' → Q false H' := k3
      exact iteF ⟨false, rfl, k3 G3 H3 s13⟩
end

/-! ### len, list of a dict -/
section
variable {X : Cx} {cs : Cs}
def rLenE (X : Cx) : List V → Hp → VK → Prop := fun xs H Q => ∃ p es o dr G ks vs, xs = [.ref p] ∧ H p = some (DctO X.prog X.w p es o) ∧ Same G H ∧ EsD (xc X cs) dr G es ks vs ∧ Q (.int ((es.length : Nat) : Int)) H
theorem call_lenE : CallR X (.builtin "len") (rLenE (cs := cs) X) := by
  intro pins s σ H xs us Q I rv ⟨p, es, o, dr, G, ks, vs, ex, hp, sub, E, q⟩
  subst ex
  obtain rfl := rv.ref1
  obtain ⟨ns, sz, ys, pr, hm, nd⟩ := dct_lib I sub hp E
  have lp : es.length = ys.length := Paired.length pr
  have hz : ys.length < 2 ^ 62 := by rw [sizeLine_eq] at sz; omega
  refine call_len_dictH ns hm (by omega) ?_
  rw [← lp]
  exact ⟨.int _, H, I.tok _, ⟨_, rfl⟩, q⟩
def rLenA (cs : Cs) (X : Cx) : List V → Hp → VK → Prop := fun xs H Q => (∃ p ys, xs = [.ref p] ∧ (SqL X.K H p ys ∨ SqT X.K H p ys) ∧ Q (.int ys.length) H) ∨ rLenE (cs := cs) X xs H Q
theorem call_lenA : CallR X (.builtin "len") (rLenA cs X) := CallR.or call_len_seq call_lenE
def lenA : List D → Wp D
  | [.tup ds] => .ret (.int ds.length)
  | [.lst ds] => .ret (.int ds.length)
  | [.dct ks _] => .ret (.int ks.length)
  | _ => .fail
theorem dc_lenA : DCall (xc X cs) (rLenA cs X) lenA := by
  intro dr G H xs ds Q b r h
  unfold lenA at h
  split at h
  · exact .inl (dc_len dr G H xs _ Q b r h)
  · exact .inl (dc_len dr G H xs _ Q b r h)
  · obtain ⟨v, rfl, r0⟩ := r.one
    obtain ⟨a, es, o, rfl, ha, E⟩ := r0.dct_of
    refine .inr ⟨a, es, o, dr, G, _, _, rfl, b.sub _ _ ha, b.sub, E, ?_⟩
    rw [E.lens.1]
    exact h _ G H (Step.refl b) (.int _)
  · exact h.elim
theorem vals_refsE : ∀ es : List DE, Vals (es.map fun e => V.ref e.2.1) (es.map fun e => Value.ref e.2.1)
  | [] => .nil
  | _ :: r => .cons rfl (vals_refsE r)
def rListE (X : Cx) : List V → Hp → VK → Prop := fun xs H Q => ∃ p es o, xs = [.ref p] ∧ H p = some (DctO X.prog X.w p es o) ∧ ∀ l, H l = none → Q (.ref l) (upd H l (.lst (es.map fun e => V.ref e.2.1)))
theorem call_listE (hc : X.calm = true) : CallR X (.type "list") (rListE X) := by
  intro pins s σ H xs us Q I rv ⟨p, es, o, ex, hp, q⟩
  subst ex
  obtain rfl := rv.ref1
  obtain ⟨hg, ns, hx, en, ep, hd, hsz, ent⟩ := dct_obj I hp
  have sz : es.length ≤ sizeLine := (I.hok p _ hp).1.2.sz
  refine PySem.W.kdl_call (kdl_raw ns hx hd) (I.ok.hd hc) hg (by omega) fun h' tk acc c' kept e it => ?_
  have ea : acc.toList = es.map fun e => Value.ref e.2.1 := by
    have hl : acc.toList.length = es.length := by rw [Array.length_toList, it.1]; exact hsz
    refine List.ext_getElem? fun j => ?_
    rw [List.getElem?_map]
    cases hj : acc.toList[j]? with
    | none =>
      have h1 := List.getElem?_eq_none_iff.mp hj
      rw [List.getElem?_eq_none (by omega)]
      rfl
    | some v =>
      have lt : j < es.length := by rw [← hl]; exact (List.getElem?_eq_some_iff.mp hj).1
      obtain ⟨f, hf, hv⟩ := it.2 j v (by rw [← Array.getElem?_toList]; exact hj)
      obtain ⟨g, hg2, hk, _⟩ := ent j _ (List.getElem?_eq_getElem lt)
      rw [hg2] at hf
      cases hf
      rw [List.getElem?_eq_getElem lt, hv, hk]
      rfl
  have rl : Vals (es.map fun e => V.ref e.2.1) acc.toList := by rw [ea]; exact vals_refsE es
  refine ⟨.ref s.heap.objs.size, _, I.laid (t' := tk) (o := .lst (es.map fun e => V.ref e.2.1)) kept (Nat.le_refl _) ?_, rfl, q _ (I.hok.fresh (Nat.le_refl _))⟩
  exact ⟨by rw [List.length_map]; exact sz, acc.toList, c', rl, by rw [Array.toArray_toList]; exact e⟩
def rListA (X : Cx) : List V → Hp → VK → Prop := fun xs H Q => (∃ p ys, xs = [.ref p] ∧ (SqL X.K H p ys ∨ SqT X.K H p ys) ∧ ∀ l, H l = none → Q (.ref l) (upd H l (.lst ys))) ∨ rListE X xs H Q
theorem call_listA (hc : X.calm = true) : CallR X (.type "list") (rListA X) := CallR.or call_list_of (call_listE hc)
def listA : List D → Wp D
  | [.tup ds] => .ret (.lst ds)
  | [.lst ds] => .ret (.lst ds)
  | [.dct ks _] => .ret (.lst ks)
  | _ => .fail
theorem dc_listA : DCall (xc X cs) (rListA X) listA := by
  intro dr G H xs ds Q b r h
  unfold listA at h
  split at h
  · exact .inl (dc_list dr G H xs _ Q b r h)
  · exact .inl (dc_list dr G H xs _ Q b r h)
  · obtain ⟨v, rfl, r0⟩ := r.one
    obtain ⟨a, es, o, rfl, ha, E⟩ := r0.dct_of
    refine .inr ⟨a, es, o, rfl, b.sub _ _ ha, fun l nl => ?_⟩
    have s := Step.laid b nl (.lst (es.map fun e => V.ref e.2.1))
    exact h _ _ _ s (.lst upd_same (E.ka.mono s.gs))
  · exact h.elim
/-- list(d), the keys flat, to be owned -/
def listOE : List D → Wp D
  | [.dct ks _] => .chk (D.fls ks = true) (.ret (.lst ks))
  | [.lst ds] => .chk (D.fls ds = true) (.ret (.lst ds))
  | [.tup ds] => .chk (D.fls ds = true) (.ret (.lst ds))
  | _ => .fail
theorem pso_listE {W : List Nat} {e : Expr} {wa : WA} {p pos : Pos} (hc : X.calm = true) (hg : Gl X "list") (hm : X.mg "list" = none) (hv : bootBuiltins ("list" : Str) = some (.type "list")) (ha : PAD X cs [e] wa)
    (he : starEach [e] X.env = [(false, eval e X.env)] := by rfl) : PSO X cs W (.Call (.Name "list" p) [e] [] pos) (wCall listOE wa) :=
  pe_of (pe_callTy (call_listA hc) hg hm hv ha (by decide) (by decide) he rfl) fun σ H Q ⟨dr, G0, H0, G, ρ, S, h⟩ => by
    refine tDA_seq (c := xc X cs) S.fz.base S.fzE h fun ds vs G1 H1 s1 e1 r1 k1 => ?_
    obtain ⟨S1, sg, f⟩ := S.keep2 s1
    have fin : ∀ l ys ds, H1 l = none → Rs (xc X cs) dr G1 ys ds → D.fls ds = true → _ := fun l ys ds (nl : H1 l = none) (qa : Rs (xc X cs) dr G1 ys ds) (hf : D.fls ds = true) => (show OwnAt (xc X cs) dr (unv W σ ρ G1) (upd H1 l (.lst ys)) l (.lst ds) from .inl ⟨ys, _, rfl, upd_same, fls_tup f qa hf⟩)
    unfold listOE at k1
    split at k1
    · obtain ⟨v, rfl, r0⟩ := r1.one
      obtain ⟨a, es, o, rfl, ha, E⟩ := r0.dct_of
      refine .inr ⟨a, es, o, rfl, s1.base.sub _ _ ha, fun l nl => ?_⟩
      exact k1.2 l _ H1 _ _ sg S1 (S1.keep1 (Step.laidH S1.step.base nl _)) nl (S1.step.base.sub.free nl) (fin l _ _ nl E.ka k1.1)
    · obtain ⟨v, rfl, r0⟩ := r1.one
      obtain ⟨a, xs, rfl, ha, qa⟩ := r0.lst_of
      refine .inl ⟨a, xs, rfl, .inl (SqL.of (s1.base.sub _ _ ha)), fun l nl => ?_⟩
      exact k1.2 l _ H1 _ _ sg S1 (S1.keep1 (Step.laidH S1.step.base nl _)) nl (S1.step.base.sub.free nl) (fin l _ _ nl qa k1.1)
    · obtain ⟨v, rfl, r0⟩ := r1.one
      obtain ⟨a, xs, rfl, ha, qa⟩ := r0.tup_of
      refine .inl ⟨a, xs, rfl, .inr (SqT.of (s1.base.sub _ _ ha)), fun l nl => ?_⟩
      exact k1.2 l _ H1 _ _ sg S1 (S1.keep1 (Step.laidH S1.step.base nl _)) nl (S1.step.base.sub.free nl) (fin l _ _ nl qa k1.1)
    · exact k1.elim
/-- list(range(n)) -/
def rgD : D → Wp D
  | .int n => .chk (0 ≤ n ∧ n ≤ 16777216) (.ret (.lst (rangeD 0 n.toNat)))
  | _ => .fail
theorem pd_listRg {e : Expr} {w : WE} {p q pos rpos : Pos} (hc : X.calm = true) (hg : Gl X "list") (hm : X.mg "list" = none) (gr : Gl X "range") (mr : X.mg "range" = none) (he : PD X cs e w)
    (n1 : starEach [e] X.env = (false, eval e X.env) :: starEach [] X.env := by rfl) (n2 : starEach [.Call (.Name "range" q) [e] [] rpos] X.env = (false, eval (.Call (.Name "range" q) [e] [] rpos) X.env) :: starEach [] X.env := by rfl) :
    PD X cs (.Call (.Name "list" p) [.Call (.Name "range" q) [e] [] rpos] [] pos) (wMap rgD w) :=
  pe_of (pe_listRg hc hg hm (prg_1 gr mr he n1) n2) fun σ H Q ⟨dr, G, ρ, b, ev, h⟩ => by
    refine tD_seq b ev h fun d v G1 H1 s1 e1 r1 k1 => ?_
    cases d with
    | int n =>
      obtain ⟨⟨h0, h1⟩, k1⟩ := k1
      refine ⟨n, r1.int_of, RgOk.of_le (by omega) h1 (by omega) h0, fun l nl => ?_⟩
      have s := Step.laid s1.base nl (.lst (rgV 0 n))
      refine k1 _ _ _ (s1.trans b s) (.lst upd_same ?_)
      have e1 : rgV 0 n = ((List.range n.toNat).map fun k : Nat => (0 : Int) + (k : Nat)).map V.int := by unfold rgV; rw [List.map_map]; simp [Function.comp]
      have e2 : rangeD 0 n.toNat = ((List.range n.toNat).map fun k : Nat => (0 : Int) + (k : Nat)).map D.int := by unfold rangeD; rw [List.map_map]; rfl
      rw [e1, e2]
      exact Rs.ints _
    | _ => exact k1.elim
/-- xs.index(x) -/
noncomputable def idxD : List D → List D → Wp D
  | ds, [x] => .chk (x.ok ∧ (D.lst ds).ok ∧ x ∈ ds) (.ret (.int ((ds.idxOf x : Nat) : Int)))
  | _, _ => .fail
def lstOf : D → Wp (List D)
  | .lst ds => .ret ds
  | _ => .fail
noncomputable def wIndex (w : WE) (wa : WA) : WE := fun ρ => (w ρ).bind fun d => (lstOf d).bind fun xs => (wa ρ).bind fun es => idxD xs es
theorem pd_index {o e : Expr} {w : WE} {wa : WA} {apos cpos : Pos} (hu : X.A.units + 65 < cLine) (ho : PD X cs o w) (ha : PAD X cs [e] wa) (hbase : attributeBase o "index" X.env (eval o X.env) = eval o X.env := by rfl)
    (hfew : ((backTo cpos (starEach [e] X.env)).all (fun x => !x.1) && (backToKw cpos (keywordEach [] X.env)).all (fun x => x.1.isSome) && decide ([e].length + ([] : List Keyword).length + (if ([] : List Keyword).isEmpty then 0 else 1) < 30)) = true := by rfl)
    (hline : (apos.endLine == cpos.line) = true := by rfl) (hs : starEach [e] X.env = (false, eval e X.env) :: starEach [] X.env := by rfl) (hplain : (backTo cpos (starEach [] X.env)).any (·.1) = false := by rfl) :
    PD X cs (.Call (.Attribute o "index" apos) [e] [] cpos) (wIndex w wa) :=
  pe_of (pe_bm F.plainAttrs_list F.slot_list_index F.type_list_index (mt_indexD hu) ho ha hbase hfew hline hs hplain) fun σ H Q ⟨dr, G, ρ, b, ev, h⟩ => by
    refine tD_seq b ev h fun d v G1 H1 s1 e1 r1 k1 => ?_
    cases d with
    | lst ds =>
      obtain ⟨a, xs, rfl, hxs, qa⟩ := r1.lst_of
      refine ⟨.inl ⟨rfl, xs, SqL.of (s1.base.sub _ _ hxs)⟩, ?_⟩
      refine tDA_seq s1.base e1 k1 fun es vs G2 H2 s2 e2 r2 k2 => ?_
      match es, r2, k2 with
      | [x], r2, k2 =>
        obtain ⟨v, rfl, r0⟩ := r2.one
        obtain ⟨⟨o1, o2, hin⟩, k2⟩ := k2
        have q2 := (r1.mono s2.gs).dp s2.base.sub o2.1
        have hcl : D.cls ds = true := by simpa [D.cl] using o2.1
        have lt : ds.idxOf x < ds.length := List.idxOf_lt_length_iff.mpr hin
        have cl : ∀ i (hi : i < ds.length), D.cl ds[i] = true := fun i hi => by
          rw [D.cls_all, List.all_eq_true] at hcl
          exact hcl _ (List.getElem_mem hi)
        have sh : SeqAt.shaped (PyData.list (D.pys ds)) = true := o2.shaped
        refine ⟨a, v, x.py, D.pys ds, ds.idxOf x, (ds[ds.idxOf x]).py, rfl, rfl, q2, r0.dp s2.base.sub o1.1, sh, o1.shaped, ?_, ?_, fun m z' hm hz => ?_, k2 _ G2 H2 (s1.trans b s2) (.int _)⟩
        · rw [D.pys_map, List.getElem?_map, List.getElem?_eq_getElem lt]
          rfl
        · rw [D.eqv_dec (cl _ lt) o1.1, List.getElem_idxOf]
          exact decide_eq_true rfl
        · rw [D.pys_map, List.getElem?_map, List.getElem?_eq_getElem (Nat.lt_trans hm lt)] at hz
          cases hz
          rw [D.eqv_dec (cl _ _) o1.1]
          exact decide_eq_false (List.not_of_lt_findIdx hm |> fun z => by simpa using z)
      | [], _, k2 => exact k2.elim
      | _ :: _ :: _, _, k2 => exact k2.elim
    | _ => exact k1.elim
end
end Rr
/-! registerrooms: objects made; their methods; a Same walked. -/
namespace Rr
open PySem PySem.Spec PyProof.Rows L2

/-! ### a def run at one state -/
theorem run_at {CX : CXT} {P : Program} {w : World} {K : PySem.W.Frag} {mg : Str → Option Value} {base : Heap} {k : Nat} {f : Addr} {name qual : Str} {params : Arguments} {body : List Stmt} {scope : Scope} {dV kV doc pm cdv ct oc : Value} {an od : Option Addr} {osl : Array (Option Value)} {N ps : List Str}
    {A : Around} {outer : List PySem.Env} {u : Shared} {H : Hp} {args : Args} {us : List Value} {vs : List V} {Q : VK} {E : XK} {t : TS}
    (lk : K.lookup f = some ⟨oc, od, .func (PySem.W.fnOf name qual params body scope dV kV doc pm an cdv ct), osl⟩) (hcd : PySem.W.codeIn K cdv qual = true) (S : FnScope N ps scope) (room : Room (k + 1) A) (e0 : Env0 P w K mg base A outer u H)
    (bd : BindsTo u (PySem.W.fnOf name qual params body scope dV kV doc pm an cdv ct) args (ps.zip us)) (rv : Vals vs us) (hl : vs.length = ps.length)
    (ht : PSs (cxOf CX P w K mg base N qual scope f cdv A outer u H E) body t) (hq : t { nx := fun _ H' => Q .non H', rt := Q } (start N vs) H) :
    codeAny (model P w) A (.call (.ref f) args) (CR CX outer P w H u Q E) u := by
  have inK : K.In u.heap := e0.mod.kin.keeps fun b o e => (e0.bs b o e).1
  have kinds : ∀ y ∈ ps.zip us, scope.names.lookup y.1 = some .local ∨ (scope.names.lookup y.1 = some .cell ∧ ((cellsFrom (u.heap.objs.size + 1) scope.names []).lookup y.1).isSome = true) := fun ⟨n, v⟩ hy =>
    (S.par n (List.of_mem_zip hy).1).elim .inl fun q => .inr ⟨q, PySem.W.cellsFrom_some _ _ _ (.inl q)⟩
  refine codeAny_call_function room.depth (inK _ _ lk) rfl S.co S.gen rfl (PySem.W.codeRec_of inK hcd) (bd _ _ _ _ (wpAny_newFunctionEnv_cells S.kind kinds fun env he u1 x => ?_))
  subst he
  refine ⟨(e0.mod.nolimit.keeps fun b o e => (e0.bs b o e).1).keeps x.toInCall.keep, codeAny_func ?_⟩
  refine wpAny_mono (ht.run [] u1 (start N vs) H _ (inv_start S room.hd e0 hl rv x) hq) (fun fl u2 done => ?_) fun _ _ z => z
  cases fl with
  | ret v =>
    obtain ⟨v, σ, H', J, r, q⟩ := done
    exact ⟨v, H', J.os, J.bare, J.base, J.hok, r, q⟩
  | next =>
    obtain ⟨σ, H', J, q⟩ := done
    exact ⟨.non, H', J.os, J.bare, J.base, J.hok, rfl, q⟩
  | brk =>
    obtain ⟨_, _, _, q⟩ := done
    exact q.elim
  | cont =>
    obtain ⟨_, _, _, q⟩ := done
    exact q.elim

/-! ### C(..) -/
/-- what an __init__ promises: the object at x is a datum of F -/
def spInit (c : Ctx) (C : Addr) (F : List D → Wp D) : Sp := fun vs H Q _ => ∃ dr G H1 ds x dx vr, vs = .ref x :: vr ∧ H = upd (upd H1 dx (.own x)) x (.ins C dx []) ∧ H1 x = none ∧ H1 dx = none ∧ dx ≠ x ∧ Base dr G H1 ∧ Rs c dr G vr ds ∧ (F ds).run fun d => ∀ G' H', Step dr G H1 G' H' → R c dr G' (.ref x) d → Q .non H'
section
variable {X : Cx} {cs : Cs} {C : Addr} {e : Expr} {es : List Expr} {wa : WA} {F : List D → Wp D} {k j : Nat} {x : Str} {p pos : Pos}
theorem pd_make (f : C8.Mak X.prog X.w X.K X.mg X.base k x C (spInit (xc X cs) C F) []) (hr : Room j X.A) (hk : k + 1 ≤ j) (hg : Gl X x) (ha : PAD X cs (e :: es) wa)
    (hdb : (x == ("__debug__" : Str)) = false := by decide) (he : starEach (e :: es) X.env = (false, eval e X.env) :: starEach es X.env := by rfl) (hpl : (backTo pos (starEach es X.env)).any (·.1) = false := by rfl) :
    PD X cs (.Call (.Name x p) (e :: es) [] pos) (wCall F wa) :=
  pe_of (C8.pe_mk f hr hk hg ha hdb he hpl) fun σ H Q ⟨dr, G, ρ, b, ev, h⟩ => by
    refine tDA_seq b ev h fun ds vs G1 H1 s1 e1 r1 k1 => ?_
    intro y dy n1 n2 ne
    rw [List.append_nil]
    exact ⟨dr, G1, H1, ds, y, dy, vs, rfl, rfl, n1, n2, ne, s1.base, r1, (F ds).mono (fun d k G' H' s r => ⟨rfl, k _ G' H' (s1.trans b s) r⟩) k1⟩
end
/-- self.pairs = list(pairs) -/
def mkSame : List D → Wp D
  | [.lst ds] => .ret (.sam ds)
  | [.dct ks _] => .ret (.sam ks)
  | _ => .fail
/-- self.handed = handed; self.inputs = list(inputs) -/
def mkParted : List D → Wp D
  | [h, .lst is] => .ret (.par h is)
  | [h, .tup is] => .ret (.par h is)
  | _ => .fail
theorem mk_len {c : Ctx} {C : Addr} {F : List D → Wp D} {n : Nat} (hF : ∀ ds K, (F ds).run K → ds.length = n) {vs : List V} {H : Hp} {Q : VK} {E : XK} (h : spInit c C F vs H Q E) : vs.length = n + 1 := by
  obtain ⟨dr, G, H1, ds, x, dx, vr, rfl, _, _, _, _, _, r, h⟩ := h
  rw [List.length_cons, r.length, hF _ _ h]
theorem mkSame_len : ∀ (ds : List D) (K : D → Prop), (mkSame ds).run K → ds.length = 1 := fun ds K h => by
  unfold mkSame at h
  split at h
  · rfl
  · rfl
  · exact h.elim
theorem mkParted_len : ∀ (ds : List D) (K : D → Prop), (mkParted ds).run K → ds.length = 2 := fun ds K h => by
  unfold mkParted at h
  split at h
  · rfl
  · rfl
  · exact h.elim
section
variable {c : Ctx} {dr : Addr} {G H1 : Hp} {x dx : Addr} {C : Addr}
/-- the way from before the object to its last store -/
theorem init_step (b : Base dr G H1) (n1 : H1 x = none) (n2 : H1 dx = none) (ne : dx ≠ x) : Step dr G H1 G (upd (upd H1 dx (.own x)) x (.ins C dx [])) := by
  have s1 := Step.laidH b n2 (.own x)
  have n3 : (upd H1 dx (.own x)) x = none := by rw [upd_ne (Ne.symm ne)]; exact n1
  exact s1.trans b (Step.laidH s1.base n3 _)
theorem init_end {G2 H2 : Hp} {fs : List (Str × V)} (b : Base dr G H1) (n1 : H1 x = none) (s : Step dr G H1 G2 H2) (ng : G2 x = none) : Step dr G H1 (upd G2 x (.ins C dx fs)) (upd H2 x (.ins C dx fs)) ∧ Same G2 (upd G2 x (.ins C dx fs)) :=
  ⟨(s.mut b n1 ng).freeze b n1 ng upd_same, fun a u h => by rw [upd_ne (ne_of_none h ng)]; exact h⟩
end
section
variable {P : Program} {w : World} {K : PySem.W.Frag} {mg : Str → Option Value} {base : Heap} {cs : Cs} {cB : Addr}
theorem mak_Same {st : Stmt} {f : Addr} {fd : FuncData} (T : ClsOk K cs cB) (M : Mk K cs.cS f) (hm : mg "Same" = some (.ref cs.cS)) (F : C8.Fun K "__init__" "Same.__init__" st f fd) (bi : Binds K fd ["self", "pairs"] []) (S : FnScope ["self", "pairs"] ["self", "pairs"] (C8.fnScope st)) (ml : mg "list" = none)
    (hst : ∃ p1 p2 p3 p4 p5 p6, C8.fnBody st = [.Assign [.Attribute (.Name "self" p1) "pairs" p2] (.Call (.Name "list" p3) [.Name "pairs" p4] [] p5) p6])
    (gl : ∀ (cdv : Value) (L : Addr), (envOfC "Same.__init__" (C8.fnScope st) L f cdv).kindOf ("list" : Str) = some .globalImplicit) (v0 : (C8.fnScope st).names.lookup ("self" : Str) = some .local) (v1 : (C8.fnScope st).names.lookup ("pairs" : Str) = some .local) :
    C8.Mak P w K mg base 1 "Same" cs.cS (spInit ⟨P, w, K, cs⟩ cs.cS mkSame) [] := by
  refine C8.mak0 M hm F bi .nil S (fun vs H Q E h => mk_len mkSame_len h) fun cdv A outer s H vs Q E hr h => ?_
  obtain ⟨p1, p2, p3, p4, p5, p6, eb⟩ := hst
  rw [eb]
  refine ⟨_, pss_one (ps_fld (pe_var (i := 0) rfl (.inl v0)) (pe_callTy (call_listA rfl) (gl _ _) ml (by kernel_rfl) (pa_cons (pe_var (i := 1) rfl (.inl v1)) pa_nil)) rfl), ?_⟩
  obtain ⟨dr, G, H1, ds, x, dx, vr, rfl, eH, n1, n2, ne, b, r, h⟩ := h
  have s0 := init_step (C := cs.cS) b n1 n2 ne
  rw [← eH] at s0
  have gx : G x = none := b.sub.free n1
  have hx : H x = some (.ins cs.cS dx []) := by rw [eH, upd_same]
  unfold mkSame at h
  have fin : ∀ (l : Addr) (ys : List V) (ds : List D), H l = none → Rs ⟨P, w, K, cs⟩ dr G ys ds → (∀ G' H', Step dr G H1 G' H' → R ⟨P, w, K, cs⟩ dr G' (.ref x) (.sam ds) → Q .non H') →
      ∃ a C dx fs, V.ref x = .ref a ∧ (upd H l (.lst ys)) a = some (.ins C dx fs) ∧ Cls K C ∧ NoAttr K C "pairs" ∧ fs.length < 1000 ∧ Q .non (upd (upd H l (.lst ys)) a (.ins C dx (putF "pairs" (.ref l) fs))) := fun l ys ds nl q k => by
    have xl : x ≠ l := fun e => by rw [← e, hx] at nl; cases nl
    have s1 := s0.trans b (Step.laid s0.base nl (.lst ys))
    have ng : (upd G l (.lst ys)) x = none := by rw [upd_ne xl]; exact gx
    obtain ⟨s2, sg⟩ := init_end (C := cs.cS) (dx := dx) (fs := [("pairs", .ref l)]) b n1 s1 ng
    refine ⟨x, cs.cS, dx, [], rfl, by rw [upd_ne xl]; exact hx, T.S, T.nS, by decide, k _ _ s2 (.sam upd_same (.lst ?_ (q.mono fun a u z => ?_)))⟩
    · rw [upd_ne (Ne.symm xl), upd_same]
    · refine sg _ _ ?_
      rw [upd_ne (ne_of_none z (s0.base.sub.free nl))]
      exact z
  split at h
  · obtain ⟨v, rfl, r0⟩ := r.one
    obtain ⟨a, ys, rfl, ha, qa⟩ := r0.lst_of
    refine ⟨_, rfl, .inl ⟨a, ys, rfl, .inl (SqL.of (s0.base.sub _ _ ha)), fun l nl => ?_⟩⟩
    exact ⟨_, rfl, fin l ys _ nl qa h⟩
  · obtain ⟨v, rfl, r0⟩ := r.one
    obtain ⟨a, es, o, rfl, ha, E2⟩ := r0.dct_of
    refine ⟨_, rfl, .inr ⟨a, es, o, rfl, s0.base.sub _ _ ha, fun l nl => ?_⟩⟩
    exact ⟨_, rfl, fin l _ _ nl E2.ka h⟩
  · exact h.elim
theorem mak_Parted {st : Stmt} {f : Addr} {fd : FuncData} (T : ClsOk K cs cB) (M : Mk K cs.cT f) (hm : mg "Parted" = some (.ref cs.cT)) (F : C8.Fun K "__init__" "Parted.__init__" st f fd) (bi : Binds K fd ["self", "handed", "inputs"] []) (S : FnScope ["self", "handed", "inputs"] ["self", "handed", "inputs"] (C8.fnScope st)) (ml : mg "list" = none)
    (hst : ∃ p1 p2 p3 p4 p5 p6 p7 p8 p9 q1, C8.fnBody st = [.Assign [.Attribute (.Name "self" p1) "handed" p2] (.Name "handed" p3) p4, .Assign [.Attribute (.Name "self" p5) "inputs" p6] (.Call (.Name "list" p7) [.Name "inputs" p8] [] p9) q1])
    (gl : ∀ (cdv : Value) (L : Addr), (envOfC "Parted.__init__" (C8.fnScope st) L f cdv).kindOf ("list" : Str) = some .globalImplicit) (v0 : (C8.fnScope st).names.lookup ("self" : Str) = some .local) (v1 : (C8.fnScope st).names.lookup ("handed" : Str) = some .local) (v2 : (C8.fnScope st).names.lookup ("inputs" : Str) = some .local) :
    C8.Mak P w K mg base 1 "Parted" cs.cT (spInit ⟨P, w, K, cs⟩ cs.cT mkParted) [] := by
  refine C8.mak0 M hm F bi .nil S (fun vs H Q E h => mk_len mkParted_len h) fun cdv A outer s H vs Q E hr h => ?_
  obtain ⟨p1, p2, p3, p4, p5, p6, p7, p8, p9, q1, eb⟩ := hst
  rw [eb]
  refine ⟨_, pss_cons (ps_fld (pe_var (i := 0) rfl (.inl v0)) (pe_var (i := 1) rfl (.inl v1)) rfl) (pss_one (ps_fld (pe_var (i := 0) rfl (.inl v0)) (pe_callTy call_list_of (gl _ _) ml (by kernel_rfl) (pa_cons (pe_var (i := 2) rfl (.inl v2)) pa_nil)) rfl)), ?_⟩
  obtain ⟨dr, G, H1, ds, x, dx, vr, rfl, eH, n1, n2, ne, b, r, h⟩ := h
  have s0 := init_step (C := cs.cT) b n1 n2 ne
  rw [← eH] at s0
  have gx : G x = none := b.sub.free n1
  have hx : H x = some (.ins cs.cT dx []) := by rw [eH, upd_same]
  unfold mkParted at h
  split at h
  · obtain ⟨v, u, rfl, r0, r1⟩ := r.two
    obtain ⟨a, ys, rfl, ha, qa⟩ := r1.lst_of
    refine ⟨v, rfl, .ref x, rfl, x, cs.cT, dx, [], rfl, hx, T.T, T.nT, by decide, ?_⟩
    have s1 := s0.mut (o := .ins cs.cT dx [("handed", v)]) b n1 gx
    have hx1 : (upd H x (.ins cs.cT dx [("handed", v)])) x = some (.ins cs.cT dx [("handed", v)]) := upd_same
    refine ⟨_, rfl, a, ys, rfl, .inl (SqL.of (s1.base.sub _ _ ha)), fun l nl => ?_⟩
    have xl : x ≠ l := fun e => by
      rw [← e] at nl
      exact nomatch hx1.symm.trans nl
    have s2 := s1.trans b (Step.laid s1.base nl (.lst ys))
    have ng : (upd G l (.lst ys)) x = none := by rw [upd_ne xl]; exact gx
    obtain ⟨s3, sg⟩ := init_end (C := cs.cT) (dx := dx) (fs := [("handed", v), ("inputs", .ref l)]) b n1 s2 ng
    have gl0 : G l = none := s1.base.sub.free nl
    refine ⟨_, rfl, x, cs.cT, dx, [("handed", v)], rfl, by rw [upd_ne xl]; exact hx1, T.T, T.nI, (show 1 < 1000 by decide), h _ _ s3 (.par upd_same (r0.mono fun a u z => ?_) (.lst ?_ (qa.mono fun a u z => ?_)))⟩
    · refine sg _ _ ?_
      rw [upd_ne (ne_of_none z gl0)]
      exact z
    · rw [upd_ne (Ne.symm xl), upd_same]
    · refine sg _ _ ?_
      rw [upd_ne (ne_of_none z gl0)]
      exact z
  · obtain ⟨v, u, rfl, r0, r1⟩ := r.two
    obtain ⟨a, ys, rfl, ha, qa⟩ := r1.tup_of
    refine ⟨v, rfl, .ref x, rfl, x, cs.cT, dx, [], rfl, hx, T.T, T.nT, by decide, ?_⟩
    have s1 := s0.mut (o := .ins cs.cT dx [("handed", v)]) b n1 gx
    have hx1 : (upd H x (.ins cs.cT dx [("handed", v)])) x = some (.ins cs.cT dx [("handed", v)]) := upd_same
    refine ⟨_, rfl, a, ys, rfl, .inr (SqT.of (s1.base.sub _ _ ha)), fun l nl => ?_⟩
    have xl : x ≠ l := fun e => by
      rw [← e] at nl
      exact nomatch hx1.symm.trans nl
    have s2 := s1.trans b (Step.laid s1.base nl (.lst ys))
    have ng : (upd G l (.lst ys)) x = none := by rw [upd_ne xl]; exact gx
    obtain ⟨s3, sg⟩ := init_end (C := cs.cT) (dx := dx) (fs := [("handed", v), ("inputs", .ref l)]) b n1 s2 ng
    have gl0 : G l = none := s1.base.sub.free nl
    refine ⟨_, rfl, x, cs.cT, dx, [("handed", v)], rfl, by rw [upd_ne xl]; exact hx1, T.T, T.nI, (show 1 < 1000 by decide), h _ _ s3 (.par upd_same (r0.mono fun a u z => ?_) (.lst ?_ (qa.mono fun a u z => ?_)))⟩
    · refine sg _ _ ?_
      rw [upd_ne (ne_of_none z gl0)]
      exact z
    · rw [upd_ne (Ne.symm xl), upd_same]
    · refine sg _ _ ?_
      rw [upd_ne (ne_of_none z gl0)]
      exact z
  · exact h.elim
end
/-! ### a.shows(..), of a Same or a Parted -/
def wShows (FS FT : List D → Wp D) (w : WE) (wa : WA) : WE := fun ρ => (w ρ).bind fun d => match d with
  | .sam ds => (wa ρ).bind fun es => FS (.sam ds :: es)
  | .par h is => (wa ρ).bind fun es => FT (.par h is :: es)
  | _ => .fail
def tSh (cS cT : Addr) (sp1 sp2 : Sp) (ta : TE) (t : TA) : TE := fun σ H Q => ta σ H fun x H1 => ∃ a C dx fs, x = .ref a ∧ H1 a = some (.ins C dx fs) ∧ fs.lookup ("shows" : Str) = none ∧ ((C = cS ∧ t σ H1 fun vs H2 => sp1 (x :: vs) H2 Q C8.E0) ∨ (C = cT ∧ t σ H1 fun vs H2 => sp2 (x :: vs) H2 Q C8.E0))
section
variable {X : Cx} {cs : Cs} {cB : Addr} {e o : Expr} {es : List Expr} {k k2 j : Nat} {apos pos : Pos}
theorem pe_sh {ta : TE} {t : TA} {sp1 sp2 : Sp} {pl : Sem Bool} (T : ClsOk X.K cs cB) (m1 : C8.Met X.prog X.w X.K X.mg X.base k cs.cS "shows" sp1 []) (m2 : C8.Met X.prog X.w X.K X.mg X.base k2 cs.cT "shows" sp2 []) (hr : Room j X.A) (hk : k ≤ j) (hk2 : k2 ≤ j) (ho : PE X o ta) (ha : PA X (e :: es) t)
    (hst : starEach (e :: es) X.env = (false, eval e X.env) :: starEach es X.env := by rfl) (hpl : (backTo pos (starEach es X.env)).any (·.1) = false := by rfl)
    (ht : eval (.Call (.Attribute o "shows" apos) (e :: es) [] pos) X.env = (do
      let ov ← eval o X.env
      standAt apos.atName
      let (f, first) ← holding [ov] (getMethod ov "shows" pl)
      callWith pos f first (backTo pos (starEach (e :: es) X.env)) (backToKw pos (keywordEach [] X.env))) := by rfl) :
    PE X (.Call (.Attribute o "shows" apos) (e :: es) [] pos) (tSh cs.cS cs.cT sp1 sp2 ta t) := by
  refine ⟨fun pins s σ H Q I h => ?_⟩
  refine PySem.W.methodCall_KW (pl := pl) (thn (ho.run pins s σ H _ I h) fun u s1 ⟨x, H1, I1, rx, a, C, dx, fs, ex, ea, l, q⟩ => ?_) ht
  subst ex
  obtain rfl : u = Value.ref a := rx
  rcases q with ⟨rfl, q⟩ | ⟨rfl, q⟩
  · obtain ⟨g, fd, ps, ds, hc, hm, F, b, d⟩ := m1.ex
    cases d
    refine getmeth_ok I1 ea hc hm l ?_
    refine PySem.W.callWith_K (first := [.ref a]) (h₀ := X.base) I.ok.mod.kin hm.kp (thn (ha.run pos pins s1 σ H1 _ I1 q) fun us s2 ⟨vs, H2, I2, r, q2⟩ => ⟨I2.kIn, ?_⟩) hst hpl
    exact run_fn (us := .ref a :: us) (vs := .ref a :: vs) F (hr.mono hk) b .nil C8.pass0 I2 (.cons rfl r) (by rw [List.append_nil]; exact q2)
  · obtain ⟨g, fd, ps, ds, hc, hm, F, b, d⟩ := m2.ex
    cases d
    refine getmeth_ok I1 ea hc hm l ?_
    refine PySem.W.callWith_K (first := [.ref a]) (h₀ := X.base) I.ok.mod.kin hm.kp (thn (ha.run pos pins s1 σ H1 _ I1 q) fun us s2 ⟨vs, H2, I2, r, q2⟩ => ⟨I2.kIn, ?_⟩) hst hpl
    exact run_fn (us := .ref a :: us) (vs := .ref a :: vs) F (hr.mono hk2) b .nil C8.pass0 I2 (.cons rfl r) (by rw [List.append_nil]; exact q2)
theorem pd_shows {w : WE} {wa : WA} {FS FT : List D → Wp D} {pl : Sem Bool} (T : ClsOk X.K cs cB) (m1 : C8.Met X.prog X.w X.K X.mg X.base k cs.cS "shows" (spW (xc X cs) FS) []) (m2 : C8.Met X.prog X.w X.K X.mg X.base k2 cs.cT "shows" (spW (xc X cs) FT) []) (hr : Room j X.A) (hk : k ≤ j) (hk2 : k2 ≤ j) (ho : PD X cs o w) (ha : PAD X cs (e :: es) wa)
    (hst : starEach (e :: es) X.env = (false, eval e X.env) :: starEach es X.env := by rfl) (hpl : (backTo pos (starEach es X.env)).any (·.1) = false := by rfl)
    (ht : eval (.Call (.Attribute o "shows" apos) (e :: es) [] pos) X.env = (do
      let ov ← eval o X.env
      standAt apos.atName
      let (f, first) ← holding [ov] (getMethod ov "shows" pl)
      callWith pos f first (backTo pos (starEach (e :: es) X.env)) (backToKw pos (keywordEach [] X.env))) := by rfl) :
    PD X cs (.Call (.Attribute o "shows" apos) (e :: es) [] pos) (wShows FS FT w wa) :=
  pe_of (pe_sh (pl := pl) T m1 m2 hr hk hk2 ho ha hst hpl ht) fun σ H Q ⟨dr, G, ρ, b, ev, h⟩ => by
    refine tD_seq b ev h fun d v G1 H1 s1 e1 r1 k1 => ?_
    cases d with
    | sam ds =>
      obtain ⟨a, dx, u, rfl, ha, ru⟩ := r1.sam_of
      refine ⟨a, _, dx, _, rfl, s1.base.sub _ _ ha, rfl, .inl ⟨rfl, tDA_seq s1.base e1 k1 fun ds vs G2 H2 s2 e2 r2 k2 => ?_⟩⟩
      exact ⟨dr, G2, _, s2.base, .cons (r1.mono s2.gs) r2, (FS _).mono (fun d k v G3 H3 s3 r3 => k v G3 H3 ((s1.trans b s2).trans b s3) r3) k2⟩
    | par h is =>
      obtain ⟨a, dx, u, u2, rfl, ha, ru, ru2⟩ := r1.par_of
      refine ⟨a, _, dx, _, rfl, s1.base.sub _ _ ha, rfl, .inr ⟨rfl, tDA_seq s1.base e1 k1 fun ds vs G2 H2 s2 e2 r2 k2 => ?_⟩⟩
      exact ⟨dr, G2, _, s2.base, .cons (r1.mono s2.gs) r2, (FT _).mono (fun d k v G3 H3 s3 r3 => k v G3 H3 ((s1.trans b s2).trans b s3) r3) k2⟩
    | _ => exact k1.elim
/-! ### a call that leaves a default to stand -/
def wCallN (F : List D → Wp D) (a : WA) : WE := fun ρ => (a ρ).bind fun ds => F (ds ++ [.non])
theorem pd_callN {F : List D → Wp D} {x : Str} {p : Pos} {wa : WA} (f : C8.Cal X.prog X.w X.K X.mg X.base k x (spW (xc X cs) F) [.non]) (hr : Room j X.A) (hk : k ≤ j) (hg : Gl X x) (ha : PAD X cs (e :: es) wa)
    (hdb : (x == ("__debug__" : Str)) = false := by decide) (he : starEach (e :: es) X.env = (false, eval e X.env) :: starEach es X.env := by rfl) (hpl : (backTo pos (starEach es X.env)).any (·.1) = false := by rfl) :
    PD X cs (.Call (.Name x p) (e :: es) [] pos) (wCallN F wa) :=
  pe_of (C8.pe_c f hr hk hg ha hdb he hpl) fun σ H Q ⟨dr, G, ρ, b, ev, h⟩ => by
    refine tDA_seq b ev h fun ds vs G1 H1 s1 e1 r1 k1 => ?_
    exact ⟨dr, G1, _, s1.base, r1.append (.oneR .non), (F _).mono (fun d k v G2 H2 s2 r => k v G2 H2 (s1.trans b s2) r) k1⟩
end

/-! ### for x in a Same -/
/-- what __iter__ says, and where it stands -/
structure IterOk (K : PySem.W.Frag) (cs : Cs) (st : Stmt) : Prop where
  ex : ∃ (f : Addr) (fd : FuncData), PySem.W.findIn K (.ref cs.cS) "__iter__" = some (some (.ref f)) ∧ PySem.W.isFn K (.ref f) = true ∧ C8.Fun K "__iter__" "Same.__iter__" st f fd ∧ Binds K fd ["self"] []
  sc : FnScope ["self"] ["self"] (C8.fnScope st)
  body : ∃ p1 p2 p3 p4 p5, C8.fnBody st = [.Return (some (.Call (.Name "iter" p1) [.Attribute (.Name "self" p2) "pairs" p3] [] p4)) p5]
  gi : ∀ (f : Addr) (cdv : Value) (L : Addr), (envOfC "Same.__iter__" (C8.fnScope st) L f cdv).kindOf ("iter" : Str) = some .globalImplicit
  v0 : (C8.fnScope st).names.lookup ("self" : Str) = some .local
  nolen : PySem.W.findIn K (.ref cs.cS) "__len__" = some none
  nohint : PySem.W.findIn K (.ref cs.cS) "__length_hint__" = some none
def walkS : D → Wp (List D)
  | .sam ds => .ret ds
  | _ => .fail
def wWalkS (w : WE) : WI := fun ρ => (w ρ).bind walkS
theorem pid_same {X : Cx} {cs : Cs} {cB : Addr} {e tg : Expr} {w : WE} {st : Stmt} {j : Nat} (T : ClsOk X.K cs cB) (It : IterOk X.K cs st) (mi : X.mg "iter" = none) (hr : Room j X.A) (hk : 2 ≤ j) (he : PD X cs e w) : PID X cs tg e (wWalkS w) := by
  refine ⟨fun pins s σ H Q I ⟨dr, G, ρ, b, ev, h⟩ => ?_⟩
  refine thn (he.run pins s σ H (fun v H1 => ∃ G1 d, Step dr G H G1 H1 ∧ R (xc X cs) dr G1 v d ∧ (walkS d).run fun ds => ∀ J G' H', Step dr G1 H1 G' H' → IterD (xc X cs) dr G' J ds → Q J H') I (tD_seq b ev h fun d v G1 H1 s1 e1 r1 k1 => ?_)) fun u s1 ⟨v, H1, I1, rv, G1, d, st1, r1, k1⟩ => ?_
  · exact ⟨G1, d, s1, r1, (walkS d).mono (fun ds k J G' H' s2 it => k J G' H' (s1.trans b s2) it) k1⟩
  · cases d with
    | sam ds =>
      obtain ⟨a, dx, l', rfl, ha, rl⟩ := r1.sam_of
      obtain rfl : u = Value.ref a := rv
      obtain ⟨l, xs, rfl, hl, qa⟩ := rl.lst_of
      obtain ⟨f, fd, hfind, hfn, F, bi⟩ := It.ex
      obtain ⟨oc, od, dV, kV, doc, pm, an, cdv, ct, osl, rfl, lk, hcd⟩ := F.ex
      obtain ⟨p1, p2, p3, p4, p5, eb⟩ := It.body
      have hA := st1.base.sub _ _ ha
      have hL := st1.base.sub _ _ hl
      obtain ⟨mA, O, _⟩ := ins_get I1.hok hA
      obtain ⟨od2, J, _⟩ := O.look
      obtain ⟨m, fr⟩ := I1.fr
      refine PySem.W.owit_iter fr I1.ok.mod.kin J hfind hfn ?_
      have go : codeAny (model X.prog X.w) X.A (.call (.ref f) ⟨[.ref a], []⟩) (CR C8.CX0 X.stack X.prog X.w H1 s1 (fun v H' => ∃ it, v = .ref it ∧ H1 it = none ∧ s1.heap.objs.size ≤ it ∧ H' = upd H1 it (ItO l it 0)) C8.E0) s1 := by
        have rl2 : Vals [V.ref a] [Value.ref a] := .cons rfl .nil
        have bd := bi s1 [Value.ref a] I1.kIn rfl
        refine run_at (k := 1) (ps := ["self"]) (us := [.ref a]) lk hcd It.sc (hr.mono hk) I1.env0 (by simpa using bd) rl2 rfl (t := tRet (tCB (ItX.rIterN X.K s1.heap.objs.size) (tCons (tFld X.K (tVar 0) "pairs") tNil))) ?_ ?_
        · rw [eb]
          exact pss_one (ps_ret (pe_callB ItX.call_iterN (It.gi _ _ _) mi (by kernel_rfl) (pa_cons (pe_fld (pe_var (i := 0) rfl (.inl It.v0)) rfl) pa_nil)))
        · exact ⟨_, rfl, a, cs.cS, dx, _, .ref l, rfl, hA, T.S, T.nS, rfl, l, xs, rfl, SqL.of hL, fun it n1 n2 => ⟨it, rfl, n1, n2, rfl⟩⟩
      refine wpAny_call (codeAny_mono go fun r s2 hq => ?_)
      cases r with
      | error e => exact hq.elim
      | ok fl =>
        cases fl with
        | ret v =>
          obtain ⟨y, H2, I2, ry, it, ey, n1, n2, eH⟩ := I1.after hq
          subst ey eH
          obtain rfl : v = Value.ref it := ry
          have hit : (upd H1 it (ItO l it 0)) it = some (ItO l it 0) := upd_same
          have obj := itO_get I2 hit
          have ne : l ≠ it := fun z => by rw [← z, hL] at n1; cases n1
          have I3 := ItX.inv_drop I2 (φ := fun h => h.get? it = some (GNX.itObj l 0)) hit
          have fp := ItX.inv_fp I2 hit (Nat.le_trans I1.sz n2)
          rw [ItX.dropH_upd n1] at I3 fp
          unfold PySem.W.OwitIt
          have ty : s2.TypeIs (.ref it) "list_iterator" := ⟨_, obj, rfl⟩
          refine wpAny_specialOf ty PySem.slot_listiter_next.lookup ?_
          refine ⟨it, [it], _, _, H1, rfl, I3, turn_list l it, ⟨_, obj, rfl, rfl⟩, fun b hb => ?_, k1 _ G1 H1 (Step.refl st1.base) (iter_lst hl qa)⟩
          obtain rfl : b = it := by simpa using hb
          exact fp
        | next => exact hq.elim
        | brk => exact hq.elim
        | cont => exact hq.elim
    | _ => exact k1.elim
/-! ### list(x) of a Same -/
theorem hintS {M : Model} {A : Around} {E : Value → Shared → Prop} {Q : Bool → Shared → Prop} {K : PySem.W.Frag} {s : Shared} {a C : Addr} {ox : Obj} {od : Option Obj} (n1 : PySem.W.findIn K (.ref C) "__len__" = some none) (n2 : PySem.W.findIn K (.ref C) "__length_hint__" = some none) (hK : K.In s.heap) (J : PySem.W.InstAt s.heap a ox C od) (h : Q true s) :
    wpAny M A (Builtin.List.listLengthHint (.ref a)) Q E s := by
  unfold Builtin.List.listLengthHint
  refine wpAny_bind (wpAny_bind (J.type.here ((PySem.W.looks_findIn hK n1).here ?_)))
  refine PySem.W.KFB.if_not rfl ?_
  refine PySem.W.KFB.if_not rfl ?_
  refine wpAny_bind (wpAny_bind (J.type.here ((PySem.W.looks_findIn hK n2).here ?_)))
  exact wpAny_pure h
section
variable {X : Cx} {cs : Cs} {cB : Addr} {pins : List (Addr × Obj)} {σ : L2.St} {s : Shared} {A1 : Around} {H0 : Hp} {it l q : Addr} {ys : List V} {Rs : Result → Shared → Prop}
theorem upd_upd' {H : Hp} {a : Addr} {o u : HO} : upd (upd H a o) a u = upd H a u := by
  funext b
  by_cases h : b = a
  · rw [h, upd_same, upd_same]
  · rw [upd_ne h, upd_ne h, upd_ne h]
theorem ls_loop (hh : A1.in1.handled = none) (hl : H0 l = some (.lst ys)) (lq : l ≠ q) (iq : it ≠ q) (hz : ys.length ≤ sizeLine) (hdone : ∀ s, Inv X pins σ (upd H0 q (.lst ys)) s → Rs (.ok (.ret .none)) s) :
    ∀ (m i : Nat) (s : Shared), i + m = ys.length → Inv X pins σ (upd H0 q (.lst (ys.take i))) s → FpOk X pins (upd H0 q (.lst (ys.take i))) it → s.heap.IsListIter it l i →
      codeAny (model X.prog X.w) A1 (.builtin "list.extend.loop" ⟨[.ref q, .ref it, .none], []⟩) Rs s
  | m, i, s, hm, I, fp, st => by
    refine codeAny_builtin PySem.F.entry_extend_loop ?_
    rw [Around.under_plainId PySem.F.plain_extend_loop _]
    show wpAny _ A1.in1 (pyNext (.ref it) >>= _) _ _ s
    have hL : (upd H0 q (.lst (ys.take i))) l = some (.lst ys) := by rw [upd_ne lq]; exact hl
    obtain ⟨its, rv, p, hz2⟩ := I.list (SqL.of hL)
    have lr := rv.length
    obtain ⟨f0, f1, f2, f3, f4, f5⟩ := fp
    cases m with
    | zero =>
      have ei : i = ys.length := by omega
      refine wpAny_bind (wpAny_pyNext_list_end hh st p.isList (by simp; omega) fun h' eb => wpAny_pure (hdone _ ?_))
      rw [ei, List.take_length] at I f0
      exact I.turned (t' := s.toks) (fun b o hb e => eb b o hb e) f0 f1 f3 f4 f5
    | succ m =>
      have li : i < ys.length := by omega
      obtain ⟨u, hu, ru⟩ := rv.get (List.getElem?_eq_getElem li)
      refine wpAny_bind (wpAny_pyNext_list_item st p.isList (x := u) (by simpa using hu) fun h' st' sb => ?_)
      have I1 : Inv X pins σ (upd H0 q (.lst (ys.take i))) { s with heap := h' } := I.turned (t' := s.toks) (fun b o hb e => (sb.2 b hb).trans e) f0 f1 f3 f4 f5
      show wpAny _ A1.in1 (updateSeq q (·.push u) >>= _) _ _ _
      obtain ⟨z, its2, k, r2, hl2, e⟩ := I1.lstM upd_same
      have lt : (ys.take i).length = i := by rw [List.length_take]; omega
      have l2 := r2.length
      have et : ys.take i ++ [ys[i]] = ys.take (i + 1) := by rw [List.take_succ, List.getElem?_eq_getElem li]; rfl
      refine wpAny_bind (wpAny_updateSeq e rfl (wpAny_pure ⟨plainId_quiet PySem.F.plain_extend_loop _, ?_⟩) (by rw [List.size_toArray]; omega) (by show (its2.toArray.push u).size ≤ sizeLine + 1; rw [Array.size_push, List.size_toArray]; omega))
      have I2 := I1.lset (f := (·.push u)) (its' := its2 ++ [u]) (t' := s.toks) upd_same e (by simp) (r2.append (.cons ru .nil)) (by rw [List.length_append, List.length_singleton]; omega)
      rw [upd_upd', et] at I2
      refine ls_loop hh hl lq iq hz hdone m (i + 1) _ (by omega) I2 ⟨by rw [upd_ne iq] at f0 ⊢; exact f0, f1, f2, f3, f4, f5⟩ ?_
      exact st'.at fun o ho => (Heap.get?_update_other _ _ (Ne.symm iq)).trans ho
def rListS (X : Cx) (cs : Cs) : List V → Hp → VK → Prop := fun xs H Q => ∃ a dx l ys, xs = [.ref a] ∧ H a = some (.ins cs.cS dx [("pairs", .ref l)]) ∧ H l = some (.lst ys) ∧ ∀ q, H q = none → Q (.ref q) (upd H q (.lst ys))
theorem call_listS {st : Stmt} {j : Nat} (T : ClsOk X.K cs cB) (It : IterOk X.K cs st) (mi : X.mg "iter" = none) (hr : Room j X.A) (hk : 4 ≤ j) (hcalm : X.calm = true) : CallR X (.type "list") (rListS X cs) := by
  intro pins s σ H xs us Q I rv h
  obtain ⟨a, dx, l, ys, rfl, ha, hl, hQ⟩ := h
  obtain ⟨u, rfl, ru⟩ := rv.one
  cases ru
  obtain ⟨f, fd, hfind, hfn, F, bi⟩ := It.ex
  obtain ⟨oc, od0, dV, kV, doc, pm, an, cdv, ct, osl, rfl, lk, hcd⟩ := F.ex
  obtain ⟨p1, p2, p3, p4, p5, eb⟩ := It.body
  have sb : Room 2 X.A.in1.in1 := (hr.mono hk).in1.in1
  refine callType_codes (Q₁ := fun obj s₁ => obj = .ref s.heap.objs.size ∧ s₁ = { s with heap := s.heap.push { cls := .type "list", data := .seq #[] } }) PySem.F.called_list (PySem.F.typeCall_list_1 _) PySem.F.entry_list_init
    (code_list_new _ ⟨rfl, rfl⟩) fun obj s₁ h₁ => ?_
  obtain ⟨rfl, rfl⟩ := h₁
  have hS : (s.heap.push { cls := .type "list", data := .seq #[] }).get? s.heap.objs.size = some { cls := .type "list", data := .seq #[] } := Heap.get?_push_size _ rfl
  refine ⟨⟨_, hS, rfl⟩, PySem.F.args_list_init_2 _ _, ?_⟩
  have fr : H s.heap.objs.size = none := I.hok.fresh (Nat.le_refl _)
  have hQ := hQ _ fr
  generalize hq : s.heap.objs.size = q at fr hQ hS ⊢
  have I1 : Inv X pins σ (upd H q (.lst [])) { s with heap := s.heap.push { cls := .type "list", data := .seq #[] } } := by
    have := I.lnew (its := []) (t' := s.toks) .nil (Nat.zero_le _)
    rw [hq] at this
    exact this
  show wpAny _ _ (do let old ← Builtin.List.listItems (.ref q); Builtin.List.listUpdate (.ref q) (fun _ => #[]); letGo old.toList.reverse; Builtin.List.listExtendWith (.ref q) (.ref a) .none) _ _ _
  refine wpAny_bind ?_
  unfold Builtin.List.listItems
  refine wpAny_bind (wpAny_seqItems hS rfl (wpAny_pure ?_))
  show wpAny _ _ (updateSeq q (fun _ => #[]) >>= fun _ => letGo (#[] : Array Value).toList.reverse >>= fun _ => Builtin.List.listExtendWith (.ref q) (.ref a) .none) _ _ _
  refine wpAny_bind (wpAny_updateSeq hS rfl ?_)
  have I2 := I1.lset (f := fun _ => #[]) (its := []) (its' := []) (ys := []) (t' := s.toks) upd_same hS rfl .nil (Nat.zero_le _)
  rw [upd_upd'] at I2
  refine wpAny_bind (wpAny_letGo ?_)
  have aq : a ≠ q := ne_of_none ha fr
  have lq : l ≠ q := ne_of_none hl fr
  have ha2 : upd H q (.lst []) a = some (.ins cs.cS dx [("pairs", .ref l)]) := by rw [upd_ne aq]; exact ha
  have hl2 : upd H q (.lst []) l = some (.lst ys) := by rw [upd_ne lq]; exact hl
  revert I2
  generalize hs0 : ({ s with heap := (s.heap.push { cls := .type "list", data := .seq #[] }).update q (Obj.mapSeq fun _ => #[]) } : Shared) = s0
  intro I2
  clear hs0
  obtain ⟨mA, J, _⟩ := ins_get I2.hok ha2
  obtain ⟨od, J, _⟩ := J.look
  obtain ⟨m0, hF⟩ := I2.fr
  have hne : q ≠ a := Ne.symm aq
  have hz : ys.length ≤ sizeLine := (I.hok l _ hl).1
  unfold Builtin.List.listExtendWith
  refine wpAny_bind (J.type.here ?_)
  have h1 : Builtin.List.listSameRef (.ref q) (.ref a) = false := by simp [Builtin.List.listSameRef, hne]
  have h2 : (Value.ref cs.cS == Value.type "list") = false := rfl
  have h3 : (Value.ref cs.cS == Value.type "tuple") = false := rfl
  simp only [h1, h2, h3, Bool.or_false, Bool.false_eq_true, if_false]
  refine wpAny_bind (PySem.W.owit_iter hF I2.ok.mod.kin J hfind hfn ?_)
  have go : codeAny (model X.prog X.w) X.A.in1.in1 (.call (.ref f) ⟨[.ref a], []⟩) (CR C8.CX0 X.stack X.prog X.w (upd H q (.lst [])) s0 (fun v H' => ∃ it, v = .ref it ∧ (upd H q (.lst [])) it = none ∧ s0.heap.objs.size ≤ it ∧ H' = upd (upd H q (.lst [])) it (ItO l it 0)) C8.E0) s0 := by
    have rl2 : Vals [V.ref a] [Value.ref a] := .cons rfl .nil
    have bd := bi s0 [Value.ref a] I2.kIn rfl
    refine run_at (k := 1) (ps := ["self"]) (us := [.ref a]) lk hcd It.sc sb I2.env0.in1.in1 (by simpa using bd) rl2 rfl (t := tRet (tCB (ItX.rIterN X.K s0.heap.objs.size) (tCons (tFld X.K (tVar 0) "pairs") tNil))) ?_ ?_
    · rw [eb]
      exact pss_one (ps_ret (pe_callB ItX.call_iterN (It.gi _ _ _) mi (by kernel_rfl) (pa_cons (pe_fld (pe_var (i := 0) rfl (.inl It.v0)) rfl) pa_nil)))
    · exact ⟨_, rfl, a, cs.cS, dx, _, .ref l, rfl, ha2, T.S, T.nS, rfl, l, ys, rfl, SqL.of hl2, fun it n1 n2 => ⟨it, rfl, n1, n2, rfl⟩⟩
  refine wpAny_call (codeAny_mono go fun r s2 hq2 => ?_)
  cases r with
  | error e => exact hq2.elim
  | ok fl =>
    cases fl with
    | next => exact hq2.elim
    | brk => exact hq2.elim
    | cont => exact hq2.elim
    | ret v =>
      obtain ⟨y, H2, I3, ry, it, ey, n1, n2, eH⟩ := I2.after hq2
      subst ey eH
      obtain rfl : v = Value.ref it := ry
      have hit : (upd (upd H q (.lst [])) it (ItO l it 0)) it = some (ItO l it 0) := upd_same
      have obj := itO_get I3 hit
      have I4 := ItX.inv_drop I3 (φ := fun h => h.get? it = some (GNX.itObj l 0)) hit
      have fp := ItX.inv_fp I3 hit (Nat.le_trans I2.sz n2)
      rw [ItX.dropH_upd n1] at I4 fp
      have iq : it ≠ q := fun z => by rw [z, upd_same] at n1; cases n1
      unfold PySem.W.OwitIt
      have ty : s2.TypeIs (.ref it) "list_iterator" := ⟨_, obj, rfl⟩
      refine wpAny_specialOf ty PySem.slot_listiter_next.lookup ?_
      obtain ⟨mA', J', _⟩ := ins_get I4.hok ha2
      obtain ⟨od', J', _⟩ := J'.look
      refine wpAny_bind (wpAny_holding (hintS It.nolen It.nohint I4.kIn J' ?_))
      obtain ⟨z, its, k, r3, hl3, e3⟩ := I4.lstM upd_same
      cases r3
      have hdone : ∀ s, Inv X pins σ (upd H q (.lst ys)) s → wants (fun r s₂ => r = .none ∧ EP X pins σ Q (.ref q) s₂) X.xe (.ok (.ret .none)) s := fun s' I' => ⟨rfl, .ref q, _, I', rfl, hQ⟩
      have st0 : s2.heap.IsListIter it l 0 := ⟨_, obj, rfl, rfl⟩
      refine wpAny_ite_split (fun _ => ?_) (fun _ => wpAny_pure ⟨plainId_quiet PySem.F.plain_extend_loop _, ls_loop (A1 := X.A.in1) (I.ok.hd hcalm) hl lq iq hz hdone ys.length 0 s2 (by omega) I4 fp st0⟩)
      refine wpAny_bind (wpAny_rule ?_)
      refine wpAny_bind ?_
      show wpAny _ _ (updateSeq q (·.push .none) >>= fun _ => updateSeq q (·.pop)) _ _ _
      refine wpAny_bind (wpAny_updateSeq e3 rfl ?_)
      have I5 := I4.lset (f := (·.push Value.none)) (its' := [Value.none]) (ys := [.non]) (t' := s2.toks) upd_same e3 (by simp) (.cons rfl .nil) (by rw [List.length_singleton, sizeLine_eq]; decide)
      obtain ⟨z4, its4, k4, r4, hl4, e4⟩ := I5.lstM upd_same
      obtain ⟨u4, rfl, ru4⟩ := r4.one
      refine wpAny_updateSeq e4 rfl ?_ (by show 1 ≤ sizeLine; rw [sizeLine_eq]; decide) (by show 0 ≤ sizeLine + 1; exact Nat.zero_le _)
      have I6 := I5.lset (f := (·.pop)) (its := [u4]) (its' := []) (ys := []) (t' := s2.toks) upd_same e4 (by rfl) .nil (Nat.zero_le _)
      rw [upd_upd', upd_upd'] at I6
      refine wpAny_pure ⟨plainId_quiet PySem.F.plain_extend_loop _, ls_loop (A1 := X.A.in1) (I.ok.hd hcalm) hl lq iq hz hdone ys.length 0 _ (by omega) I6 fp ?_⟩
      exact st0.at fun o ho => (Heap.get?_update_other _ _ (Ne.symm iq)).trans ((Heap.get?_update_other _ _ (Ne.symm iq)).trans ho)
def listS : List D → Wp D
  | [.sam ds] => .ret (.lst ds)
  | _ => .fail
theorem dc_listS : DCall (xc X cs) (rListS X cs) listS := by
  intro dr G H xs ds Q b r h
  unfold listS at h
  split at h
  · obtain ⟨v, rfl, r0⟩ := r.one
    obtain ⟨a, dx, l', rfl, ha, rl⟩ := r0.sam_of
    obtain ⟨l, xs, rfl, hl, qa⟩ := rl.lst_of
    refine ⟨a, dx, l, xs, rfl, b.sub _ _ ha, b.sub _ _ hl, fun q nq => ?_⟩
    have s2 := Step.laid b nq (.lst xs)
    exact h _ _ _ s2 (.lst upd_same (qa.mono s2.gs))
  · exact h.elim
end
end Rr
/-! registerrooms: what is known of the text behind its top. -/
namespace Rr
open PySem PySem.Spec PyProof.Rows L2

/-- a row of the text's top; a class's row -/
def top (i : Nat) : Stmt := PySem.Challenge.pw_registerrooms_k06_whole_alike.main.body.getD i (.Pass ⟨0, 0, 0, 0⟩)
def mem (i j : Nat) : Stmt := (C8.clsBody (top i)).getD j (.Pass ⟨0, 0, 0, 0⟩)
/-- a def of the top, under its name -/
def DefOk (K : PySem.W.Frag) (mg : Str → Option Value) (x : Str) (i : Nat) (dvs : List V) : Prop := ∃ f fd, FunD K x x (C8.fnArgs (top i)) (C8.fnBody (top i)) (C8.fnScope (top i)) dvs [] f fd ∧ mg x = some (.ref f)
/-- a method's def -/
def MemOk (K : PySem.W.Frag) (m q : Str) (st : Stmt) (f : Addr) : Prop := ∃ fd, FunD K m q (C8.fnArgs st) (C8.fnBody st) (C8.fnScope st) [] [] f fd
/-- what of the text super().__init__ in the def at f of the class at D reaches, for an instance of D: the def at f2 -/
structure SupOk (K : PySem.W.Frag) (prog : Program) (fd : FuncData) (f cda cc D f2 : Addr) : Prop where
  fn : ∃ oc od osl, K.lookup f = some ⟨oc, od, .func fd, osl⟩
  ar : ∃ a : Arg, (fd.params.posonlyargs ++ fd.params.args).head? = some a ∧ a.arg = ("self" : Str)
  code : ∃ ccl cdd vs ccs file tf, K.lookup cda = some ⟨ccl, cdd, .fields vs, ccs⟩ ∧ vs[2]? = some (.str file tf) ∧ ((prog.main.file : Str) == file) = true
  cell : ∃ cl cld csl, K.lookup cc = some ⟨cl, cld, .cell (some (.ref D)), csl⟩
  cls : ∃ cd, PySem.W.clsIn K D = some cd
  sub : PySem.W.mroIn K D (.ref D) = some true
  tp : PySem.W.nsIn K cStatics "thirdparty.any" = some none
  sup : PySem.W.ks_superIn K D D "__init__" = some (some (.ref f2))
  ty : PySem.W.typeIn K (.ref f2) = some (.type "function")
  fin : PySem.W.fnIn K f2 = true
  top : (prog.main.scope.names.lookup ("super" : Str)).isSome = false
/-- Program.__init__, with the def that it reaches by super() -/
def PrgOk (K : PySem.W.Frag) (P : Program) (cs : Cs) : Prop := ∃ (f f2 cda cc : Addr) (kV doc pm ct : Value) (an : Option Addr), Mk K cs.cP f ∧
  SupOk K P (PySem.W.fnX "__init__" "Program.__init__" (C8.fnArgs (mem 21 1)) (C8.fnBody (mem 21 1)) (C8.fnScope (mem 21 1)) [("__class__", cc)] .none kV doc pm an (.ref cda) ct) f cda cc cs.cP f2 ∧
  PySem.W.codeIn K (.ref cda) "Program.__init__" = true ∧ MemOk K "__init__" "Blocks.__init__" (mem 19 1) f2
structure Txt (P : Program) (w : World) (K : PySem.W.Frag) (mg : Str → Option Value) (cs : Cs) (cB aZ : Addr) where
  cl : ClsOk K cs cB
  sz : SizOk K w aZ
  mB : mg "Blocks" = some (.ref cB)
  mP : mg "Program" = some (.ref cs.cP)
  mS : mg "Same" = some (.ref cs.cS)
  mT : mg "Parted" = some (.ref cs.cT)
  mZ : mg "SIZES" = some (.ref aZ)
  f_isinstance : mg "isinstance" = none
  f_int : mg "int" = none
  f_bool : mg "bool" = none
  f_str : mg "str" = none
  f_tuple : mg "tuple" = none
  f_list : mg "list" = none
  f_dict : mg "dict" = none
  f_len : mg "len" = none
  f_range : mg "range" = none
  f_all : mg "all" = none
  f_any : mg "any" = none
  f_max : mg "max" = none
  f_min : mg "min" = none
  f_enumerate : mg "enumerate" = none
  f_iter : mg "iter" = none
  f_super : mg "super" = none
  i_MOST_VARIABLES : ∃ t, mg "MOST_VARIABLES" = some (.int 8 t)
  i_MOST_BLOCKS : ∃ t, mg "MOST_BLOCKS" = some (.int 16 t)
  i_MOST_ROWS : ∃ t, mg "MOST_ROWS" = some (.int 12 t)
  i_MOST_SPAN : ∃ t, mg "MOST_SPAN" = some (.int 8 t)
  i_MOST_HANDED : ∃ t, mg "MOST_HANDED" = some (.int 3 t)
  i_MOST_PAIRS : ∃ t, mg "MOST_PAIRS" = some (.int 3000 t)
  d_is_integer : DefOk K mg "is_integer" 14 []
  d_is_row : DefOk K mg "is_row" 15 []
  d_is_end : DefOk K mg "is_end" 16 []
  d_targets_of : DefOk K mg "targets_of" 17 []
  d_are_reached : DefOk K mg "are_reached" 18 []
  d_is_plain_block : DefOk K mg "is_plain_block" 20 []
  d_check_graph : DefOk K mg "check_graph" 23 []
  d_hands_of : DefOk K mg "hands_of" 25 []
  d_are_handed : DefOk K mg "are_handed" 26 []
  d_start_of : DefOk K mg "start_of" 27 []
  d_what_is_next : DefOk K mg "what_is_next" 28 []
  d_takes_next : DefOk K mg "takes_next" 29 []
  d_value_of : DefOk K mg "value_of" 30 []
  d_with_number : DefOk K mg "with_number" 31 []
  d_steps_from : DefOk K mg "steps_from" 33 []
  d_is_step : DefOk K mg "is_step" 34 []
  d_check_both : DefOk K mg "check_both" 37 []
  d_settled : DefOk K mg "settled" 38 []
  d_event_at : DefOk K mg "event_at" 39 []
  d_follow : DefOk K mg "follow" 40 []
  d_are_one : DefOk K mg "are_one" 41 []
  d_lates_of : DefOk K mg "lates_of" 42 []
  d_starts_of : DefOk K mg "starts_of" 43 []
  d_is_settled_in : DefOk K mg "is_settled_in" 44 []
  d_start_pairs : DefOk K mg "start_pairs" 47 []
  d_judge_both : DefOk K mg "judge_both" 48 []
  d_tell_alike : DefOk K mg "tell_alike" 49 []
  d__law_cell_at : DefOk K mg "_law_cell_at" 51 []
  d__law_draw : DefOk K mg "_law_draw" 52 []
  d__law_number : DefOk K mg "_law_number" 53 []
  d__law_next : DefOk K mg "_law_next" 54 []
  d__law_pick : DefOk K mg "_law_pick" 55 []
  d__law_row : DefOk K mg "_law_row" 56 []
  d__law_outs : DefOk K mg "_law_outs" 57 []
  d__law_end : DefOk K mg "_law_end" 58 []
  d__law_plain : DefOk K mg "_law_plain" 59 []
  d__law_made : DefOk K mg "_law_made" 60 []
  d__law_hands : DefOk K mg "_law_hands" 61 []
  d__law_first : DefOk K mg "_law_first" 62 []
  d__law_coming : DefOk K mg "_law_coming" 63 []
  d__law_options : DefOk K mg "_law_options" 64 []
  d__law_after : DefOk K mg "_law_after" 65 []
  d__law_settled : DefOk K mg "_law_settled" 66 []
  d__law_event : DefOk K mg "_law_event" 67 []
  d__law_lates : DefOk K mg "_law_lates" 68 []
  d__law_starts : DefOk K mg "_law_starts" 69 []
  d__law_is_one : DefOk K mg "_law_is_one" 70 []
  d__law_pairs : DefOk K mg "_law_pairs" 71 []
  d__law_is_same : DefOk K mg "_law_is_same" 72 []
  d__law_is_parted : DefOk K mg "_law_is_parted" 73 []
  d__law_other : DefOk K mg "_law_other" 74 []
  d__law_papers_right : DefOk K mg "_law_papers_right" 75 []
  d_stepped : DefOk K mg "stepped" 32 [.non]
  me_rows : {g : Addr // Meth K cs.cP "rows" g}
  md_rows : MemOk K "rows" "Blocks.rows" (mem 19 5) me_rows.1
  me_end : {g : Addr // Meth K cs.cP "end" g}
  md_end : MemOk K "end" "Blocks.end" (mem 19 6) me_end.1
  me_first_numbers : {g : Addr // Meth K cs.cP "first_numbers" g}
  md_first_numbers : MemOk K "first_numbers" "Program.first_numbers" (mem 21 5) me_first_numbers.1
  me_entered : {g : Addr // Meth K cs.cP "entered" g}
  md_entered : MemOk K "entered" "Program.entered" (mem 21 6) me_entered.1
  me_getitem : {g : Addr // Meth K cs.cP "__getitem__" g}
  md_getitem : MemOk K "__getitem__" "Blocks.__getitem__" (mem 19 3) me_getitem.1
  ms_Same : ∃ g, Meth K cs.cS "shows" g ∧ MemOk K "shows" "Same.shows" (mem 45 3) g
  in_Same : ∃ g, Mk K cs.cS g ∧ MemOk K "__init__" "Same.__init__" (mem 45 0) g
  ms_Parted : ∃ g, Meth K cs.cT "shows" g ∧ MemOk K "shows" "Parted.shows" (mem 46 2) g
  in_Parted : ∃ g, Mk K cs.cT g ∧ MemOk K "__init__" "Parted.__init__" (mem 46 0) g
  itS : IterOk K cs (mem 45 1)
  in_Program : PrgOk K P cs

section
variable {P : Program} {w : World} {K : PySem.W.Frag} {mg : Str → Option Value} {base : Heap} {cs : Cs}
theorem hu65 {j : Nat} {A : Around} (r : Room j A) : A.units + 65 < cLine := by have := r.un; omega
theorem FunD.fn {x q : Str} {st : Stmt} {dvs : List V} {f : Addr} {fd : FuncData} (F : FunD K x q (C8.fnArgs st) (C8.fnBody st) (C8.fnScope st) dvs [] f fd) : C8.Fun K x q st f fd := by
  obtain ⟨oc, od, dV, kV, doc, pm, an, cdv, ct, osl, e, lk, hcd, _, _⟩ := F.ex
  exact ⟨oc, od, dV, kV, doc, pm, an, cdv, ct, osl, e, lk, hcd⟩
theorem cal_d {x : Str} {i : Nat} {N ps : List Str} {W : List Nat} {F : WS} {n m k : Nat} (D : DefOk K mg x i [])
    (bi : ∀ (kV doc pm : Value) (an : Option Addr) (cdv ct : Value) (us : List Value), us.length = ps.length → bindArgs (PySem.W.fnOf x x (C8.fnArgs (top i)) (C8.fnBody (top i)) (C8.fnScope (top i)) .none kV doc pm an cdv ct) ⟨us, []⟩ = pure (ps.zip us))
    (S : FnScope N ps (C8.fnScope (top i))) (hn : N.length = n + m) (hp : ps.length = n) (hW : ∀ i ∈ W, n ≤ i) (hb : ∀ f, BodyOk P w K mg base cs k N x (top i) f W F) : C8.Cal P w K mg base (k + 1) x (spW ⟨P, w, K, cs⟩ (fnW n m F)) [] := by
  obtain ⟨f, fd, Fn, hm⟩ := D
  exact cal_by ⟨FunD.fn Fn, hm, Fn.kp⟩ (Fn.bindsN bi) S hn hp hW (hb f)
theorem fnok_m {m q : Str} {st : Stmt} {f : Addr} {fd : FuncData} {N ps : List Str} {W : List Nat} {F : WS} {n j k : Nat} (D : C8.Fun K m q st f fd) (S : FnScope N ps (C8.fnScope st)) (hn : N.length = n + j) (hp : ps.length = n) (hW : ∀ i ∈ W, n ≤ i) (hb : BodyOk P w K mg base cs k N q st f W F) :
    FnOk P w K mg base C8.CX0 (k + 1) f fd ps (spW ⟨P, w, K, cs⟩ (fnW n j F)) :=
  C8.fn0 D S (fun vs H Q E h => by rw [hp]; exact sp_len h) fun cdv A outer s H vs Q E hr h => ⟨_, hb cdv A outer s H E hr, fn_ends hn hW h⟩
theorem meth_d {m q : Str} {st : Stmt} {f : Addr} {N ps : List Str} {W : List Nat} {F : WS} {n j k : Nat} (D : MemOk K m q st f)
    (bi : ∀ (kV doc pm : Value) (an : Option Addr) (cdv ct : Value) (us : List Value), us.length = ps.length → bindArgs (PySem.W.fnOf m q (C8.fnArgs st) (C8.fnBody st) (C8.fnScope st) .none kV doc pm an cdv ct) ⟨us, []⟩ = pure (ps.zip us))
    (S : FnScope N ps (C8.fnScope st)) (hn : N.length = n + j) (hp : ps.length = n) (hW : ∀ i ∈ W, n ≤ i) (hb : BodyOk P w K mg base cs k N q st f W F) : FnR P w K mg base C8.CX0 (k + 1) f (spW ⟨P, w, K, cs⟩ (fnW n j F)) := by
  obtain ⟨fd, Fn⟩ := D
  exact ((fnok_m (FunD.fn Fn) S hn hp hW hb).raw (Fn.bindsN bi) .nil).imp fun vs H Q E h => by rw [List.append_nil]; exact h
theorem met_d {m q : Str} {C : Addr} {st : Stmt} {N ps : List Str} {W : List Nat} {F : WS} {n j k : Nat} (c : Cls K C) (D : ∃ g, Meth K C m g ∧ MemOk K m q st g)
    (bi : ∀ (kV doc pm : Value) (an : Option Addr) (cdv ct : Value) (us : List Value), us.length = ps.length → bindArgs (PySem.W.fnOf m q (C8.fnArgs st) (C8.fnBody st) (C8.fnScope st) .none kV doc pm an cdv ct) ⟨us, []⟩ = pure (ps.zip us))
    (S : FnScope N ps (C8.fnScope st)) (hn : N.length = n + j) (hp : ps.length = n) (hW : ∀ i ∈ W, n ≤ i) (hb : ∀ f, BodyOk P w K mg base cs k N q st f W F) : C8.Met P w K mg base (k + 1) C m (spW ⟨P, w, K, cs⟩ (fnW n j F)) [] := by
  obtain ⟨g, hm, fd, Fn⟩ := D
  exact ⟨g, fd, ps, [], c, hm, fnok_m (FunD.fn Fn) S hn hp hW (hb g), Fn.bindsN bi, .nil⟩
/-- stepped, its default given and left -/
theorem cal_s (D : DefOk K mg "stepped" 32 [.non]) {N : List Str} {F : WS} {m k : Nat} (S : FnScope N ["program", "state", "taken"] (C8.fnScope (top 32))) (hn : N.length = 3 + m) (hb : ∀ f, BodyOk P w K mg base cs k N "stepped" (top 32) f [] F) :
    C8.Cal P w K mg base (k + 1) "stepped" (spW ⟨P, w, K, cs⟩ (fnW 3 m F)) [] := by
  obtain ⟨f, fd, Fn, hm⟩ := D
  obtain ⟨ds, v, bi⟩ := Fn.binds1 (ps := ["program", "state", "taken"]) 3 1 (by simp) rfl fun T kV doc pm an cdv ct us its l1 l2 => match us, l1, its, l2 with
    | [_, _, _], _, [_], _ => ⟨_, rfl, rfl⟩
  cases v
  exact cal_by ⟨FunD.fn Fn, hm, Fn.kp⟩ bi S hn rfl (by simp) (hb f)
theorem cal_sN (D : DefOk K mg "stepped" 32 [.non]) {N : List Str} {F : WS} {m k : Nat} (S : FnScope N ["program", "state", "taken"] (C8.fnScope (top 32))) (hn : N.length = 3 + m) (hb : ∀ f, BodyOk P w K mg base cs k N "stepped" (top 32) f [] F) :
    C8.Cal P w K mg base (k + 1) "stepped" (spW ⟨P, w, K, cs⟩ (fnW 3 m F)) [.non] := by
  obtain ⟨f, fd, Fn, hm⟩ := D
  obtain ⟨ds, v, bi⟩ := Fn.binds1 (ps := ["program", "state", "taken"]) 2 0 (by simp) rfl fun T kV doc pm an cdv ct us its l1 l2 => match us, l1, its, l2 with
    | [_, _], _, [_], _ => ⟨_, rfl, rfl⟩
  exact ⟨f, fd, _, ds, fnok_m (FunD.fn Fn) S hn rfl (by simp) (hb f), hm, Fn.kp, bi, v⟩
end
/-! ### built-ins by name -/
theorem bb_isinstance : bootBuiltins ("isinstance" : Str) = some (.builtin "isinstance") := by kernel_rfl
theorem bb_int : bootBuiltins ("int" : Str) = some (.type "int") := by kernel_rfl
theorem bb_bool : bootBuiltins ("bool" : Str) = some (.type "bool") := by kernel_rfl
theorem bb_str : bootBuiltins ("str" : Str) = some (.type "str") := by kernel_rfl
theorem bb_tuple : bootBuiltins ("tuple" : Str) = some (.type "tuple") := by kernel_rfl
theorem bb_list : bootBuiltins ("list" : Str) = some (.type "list") := by kernel_rfl
theorem bb_dict : bootBuiltins ("dict" : Str) = some (.type "dict") := by kernel_rfl
theorem bb_len : bootBuiltins ("len" : Str) = some (.builtin "len") := by kernel_rfl
theorem bb_range : bootBuiltins ("range" : Str) = some (.type "range") := by kernel_rfl
theorem bb_all : bootBuiltins ("all" : Str) = some (.builtin "all") := by kernel_rfl
theorem bb_any : bootBuiltins ("any" : Str) = some (.builtin "any") := by kernel_rfl
theorem bb_max : bootBuiltins ("max" : Str) = some (.builtin "max") := by kernel_rfl
theorem bb_min : bootBuiltins ("min" : Str) = some (.builtin "min") := by kernel_rfl
theorem bb_enumerate : bootBuiltins ("enumerate" : Str) = some (.type "enumerate") := by kernel_rfl
theorem bb_iter : bootBuiltins ("iter" : Str) = some (.builtin "iter") := by kernel_rfl
theorem bb_super : bootBuiltins ("super" : Str) = some (.type "super") := by kernel_rfl
theorem sw_dc {ke ve : Expr} {gs : List Comprehension} {scope : Scope} {pos py : Pos} {y : Str} {l : Nat} {env : PySem.Env} (hk : env.scope.kind = .function) (hy : env.scope.names.lookup y = some .local) (hl : (py.line == pos.line) = true)
    (ha : (scope.names.any fun (n, k) => n == y && (k == .local || k == .cell)) = false) : swapsWith (.DictComp ke ve gs scope pos) (some (.Name y py)) l env = pure true := by
  have ky : env.kindOf y = some .local := hy
  have hb : env.blockKind = .function := by unfold Env.blockKind; rw [hk]; rfl
  unfold swapsWith
  simp only [hb, ky, ha, Expr.pos, hl]
  rfl
section
variable {X : Cx} {cs : Cs} {aZ : Addr} {e : Expr} {w : WE} {p pos : Pos} {x : Str}
theorem ptd_ninSizes (T : SizOk X.K X.w aZ) (gx : Gl X x) (mx : X.mg x = some (.ref aZ)) (he : PD X cs e w) (dx : (x == ("__debug__" : Str)) = false := by decide) (hb : behindInMarks .NotIn (.Name x p) = false := by rfl) : PTD X cs (.Compare e [.NotIn] [.Name x p] pos) (wB (wMap inSizes w)) := by
  obtain ⟨es, n, D⟩ := T.tab
  refine pt_of (pt_cmpR (op_notIn_kd D) he (pe_glob (v := .ref aZ) gx mx rfl dx) hb) fun σ H Q ⟨dr, G, ρ, b, ev, h⟩ => ?_
  refine tD_seq b ev h fun d v G1 H1 s1 e1 r1 k1 => ?_
  cases d with
  | str z =>
    cases r1.str_of
    obtain ⟨k0, k1⟩ := k1
    obtain ⟨m, hm⟩ := Option.isSome_iff_exists.mp k0
    obtain ⟨t, ht⟩ := T.get z m hm
    exact ⟨z, _, rfl, rfl, ht, false, rfl, k1 G1 H1 s1⟩
  | _ => exact k1.elim
end
end Rr
namespace Rr
open PySem PySem.Spec PyProof.Rows L2
variable {P : Program} {w : World} {K : PySem.W.Frag} {mg : Str → Option Value} {base : Heap} {cs : Cs} {cB aZ : Addr}
theorem mak_S (T : Txt P w K mg cs cB aZ) {base : Heap} : C8.Mak P w K mg base 1 "Same" cs.cS (spInit ⟨P, w, K, cs⟩ cs.cS mkSame) [] := by
  obtain ⟨f, hm, fd, F⟩ := T.in_Same
  exact mak_Same T.cl hm T.mS (FunD.fn F) (F.bindsN fun _ _ _ _ _ _ us hl => match us, hl with | [_, _], _ => rfl) (C8.fnScope_by (by decide +kernel)) T.f_list ⟨_, _, _, _, _, _, rfl⟩ (fun _ _ => rfl) rfl rfl
theorem mak_T (T : Txt P w K mg cs cB aZ) {base : Heap} : C8.Mak P w K mg base 1 "Parted" cs.cT (spInit ⟨P, w, K, cs⟩ cs.cT mkParted) [] := by
  obtain ⟨f, hm, fd, F⟩ := T.in_Parted
  exact mak_Parted T.cl hm T.mT (FunD.fn F) (F.bindsN fun _ _ _ _ _ _ us hl => match us, hl with | [_, _, _], _ => rfl) (C8.fnScope_by (by decide +kernel)) T.f_list ⟨_, _, _, _, _, _, _, _, _, _, rfl⟩ (fun _ _ => rfl) rfl rfl rfl
end Rr
/-! registerrooms: defs, printed by gen.py. -/
namespace Rr
open PySem PySem.Spec PyProof.Rows L2
variable {P : Program} {w : World} {K : PySem.W.Frag} {mg : Str → Option Value} {cs : Cs} {cB aZ : Addr}
/-! ### is_integer -/
def N_is_integer : List Str := ["thing", "low", "high"]
theorem nd_is_integer : N_is_integer.Nodup := by decide +kernel
noncomputable def b_is_integer : WS := (wRet (wAndV (wIsi "int" (wVar 0)) (wAndV (wNotV (wIsi "bool" (wVar 0))) (wChain leD leD (wVar 1) (wVar 0) (wVar 2)))))
noncomputable def F_is_integer : List D → Wp D := fnW 3 0 b_is_integer
theorem bd_is_integer (T : Txt P w K mg cs cB aZ) (base : Heap) (f : Addr) : BodyOk P w K mg base cs 0 N_is_integer "is_integer" (top 14) f [] b_is_integer := fun cdv A outer s H E hr =>
  (pssd_one (psd_ret (pd_and (pd_isi rfl T.f_isinstance rfl T.f_int bb_int (pd_var 0)) (pd_and (pd_not (pd_isi rfl T.f_isinstance rfl T.f_bool bb_bool (pd_var 0))) (pd_one (pd_chain op_le op_le do_le do_le (pd_var 1) (pd_var 0) (pd_var 2)))))))
theorem sc_is_integer : FnScope N_is_integer ["thing", "low", "high"] (C8.fnScope (top 14)) := C8.fnScope_by (by decide +kernel)
theorem ok_is_integer (T : Txt P w K mg cs cB aZ) {base : Heap} : C8.Cal P w K mg base 1 "is_integer" (spW ⟨P, w, K, cs⟩ F_is_integer) [] := cal_d T.d_is_integer (fun _ _ _ _ _ _ us hl => match us, hl with | [_, _, _], _ => rfl) sc_is_integer rfl rfl (by decide) (bd_is_integer T base)

/-! ### is_row -/
def N_is_row : List Str := ["thing", "many", "span", "one"]
theorem nd_is_row : N_is_row.Nodup := by decide +kernel
noncomputable def b_is_row : WS := (wSeq (wIfS (wOr (wNot (wB (wIsi "tuple" (wVar 0)))) (wOr (wB (wOp eqD (wVar 0) (wTup wNil))) (wOr (wNot (wB (wIsi "str" (wOp ixD (wVar 0) (wC (.int 0)))))) (wB (wMap inSizes (wOp ixD (wVar 0) (wC (.int 0)))))))) (wRet (wC (.bl false))) wNext) (wSeq (wIfS (wB (wOp neD (wCall lenA (wCons (wVar 0) wNil)) (wMap atSizes (wOp ixD (wVar 0) (wC (.int 0)))))) (wRet (wC (.bl false))) wNext) (wSeq (wIfS (wB (wOp eqD (wOp ixD (wVar 0) (wC (.int 0))) (wC (.str "put")))) (wRet (wAndV (wCall F_is_integer (wCons (wOp ixD (wVar 0) (wC (.int 1))) (wCons (wC (.int 0)) (wCons (wOp subD (wVar 1) (wC (.int 1))) wNil)))) (wCall F_is_integer (wCons (wOp ixD (wVar 0) (wC (.int 2))) (wCons (wC (.int 0)) (wCons (wOp subD (wVar 2) (wC (.int 1))) wNil)))))) wNext) (wRet (wCall allD (wCons (wLc (wWalk (wSl (wVar 0) (wPt (wC (.int 1))) wNo)) setN [3] [3] wYes (wCall F_is_integer (wCons (wVar 3) (wCons (wC (.int 0)) (wCons (wOp subD (wVar 1) (wC (.int 1))) wNil))))) wNil))))))
noncomputable def F_is_row : List D → Wp D := fnW 3 1 b_is_row
theorem bd_is_row (T : Txt P w K mg cs cB aZ) (base : Heap) (f : Addr) : BodyOk P w K mg base cs 1 N_is_row "is_row" (top 15) f [] b_is_row := fun cdv A outer s H E hr =>
  (pssd_cons (psd_if (ptd_pw (pwd_or (ptd_not (ptd_val (pd_isi rfl T.f_isinstance rfl T.f_tuple bb_tuple (pd_var 0)))) (pwd_or (ptd_cmp (op_eqA hr.units) do_eq (pd_var 0) (pd_tup pad_nil) (nobehind _ (by decide) (by decide))) (pwd_or (ptd_not (ptd_val (pd_isi rfl T.f_isinstance rfl T.f_str bb_str (pd_ix (pd_var 0) pd_int)))) (pwd_or1 (ptd_ninSizes T.sz rfl T.mZ (pd_ix (pd_var 0) pd_int))))))) (pssd_one (psd_ret pd_bl)) pssd_nil) (pssd_cons (psd_if (ptd_cmp (op_neA hr.units) do_ne (pd_callB call_lenA dc_lenA rfl T.f_len bb_len (pad_cons (pd_var 0) pad_nil)) (pd_atSizes T.sz rfl T.mZ (pd_ix (pd_var 0) pd_int)) (nobehind _ (by decide) (by decide))) (pssd_one (psd_ret pd_bl)) pssd_nil) (pssd_cons (psd_if (ptd_cmp (op_eqA hr.units) do_eq (pd_ix (pd_var 0) pd_int) pd_str (nobehind _ (by decide) (by decide))) (pssd_one (psd_ret (pd_and (pd_call (ok_is_integer T) hr (by decide) rfl (pad_cons (pd_ix (pd_var 0) pd_int) (pad_cons pd_int (pad_cons (pd_op op_sub do_sub (pd_var 1) pd_int) pad_nil)))) (pd_one (pd_call (ok_is_integer T) hr (by decide) rfl (pad_cons (pd_ix (pd_var 0) pd_int) (pad_cons pd_int (pad_cons (pd_op op_sub do_sub (pd_var 2) pd_int) pad_nil)))))))) pssd_nil) (pssd_one (psd_ret (pd_callB (cr_all rfl) dc_all rfl T.f_all bb_all (pad_cons (pd_lc (own := [("one", 3)]) (is := [3]) rfl nd_is_row (pid_val (pd_sl (pd_var 0) (pod_some pd_int) pod_none)) (blkOk_by (by kernel_rfl)) (by decide) (fun _ _ _ _ _ => (pgd_name 3 nd_is_row)) (fun _ _ _ _ _ => ptsd_nil) (fun _ _ _ _ _ => (pd_call (ok_is_integer T) hr (by decide) rfl (pad_cons (pd_var 3) (pad_cons pd_int (pad_cons (pd_op op_sub do_sub (pd_var 1) pd_int) pad_nil)))))) pad_nil)))))))
theorem sc_is_row : FnScope N_is_row ["thing", "many", "span"] (C8.fnScope (top 15)) := C8.fnScope_by (by decide +kernel)
theorem ok_is_row (T : Txt P w K mg cs cB aZ) {base : Heap} : C8.Cal P w K mg base 2 "is_row" (spW ⟨P, w, K, cs⟩ F_is_row) [] := cal_d T.d_is_row (fun _ _ _ _ _ _ us hl => match us, hl with | [_, _, _], _ => rfl) sc_is_row rfl rfl (by decide) (bd_is_row T base)

/-! ### is_end -/
def N_is_end : List Str := ["thing", "many", "size"]
theorem nd_is_end : N_is_end.Nodup := by decide +kernel
noncomputable def b_is_end : WS := (wSeq (wIfS (wOr (wNot (wB (wIsi "tuple" (wVar 0)))) (wOr (wB (wOp eqD (wVar 0) (wTup wNil))) (wNot (wB (wIsi "str" (wOp ixD (wVar 0) (wC (.int 0)))))))) (wRet (wC (.bl false))) wNext) (wSeq (wIfS (wB (wOp eqD (wOp ixD (wVar 0) (wC (.int 0))) (wC (.str "stop")))) (wRet (wOp eqD (wCall lenA (wCons (wVar 0) wNil)) (wC (.int 1)))) wNext) (wSeq (wIfS (wB (wOp eqD (wOp ixD (wVar 0) (wC (.int 0))) (wC (.str "go")))) (wRet (wAndV (wOp eqD (wCall lenA (wCons (wVar 0) wNil)) (wC (.int 2))) (wCall F_is_integer (wCons (wOp ixD (wVar 0) (wC (.int 1))) (wCons (wC (.int 1)) (wCons (wOp subD (wVar 2) (wC (.int 1))) wNil)))))) wNext) (wSeq (wIfS (wOr (wB (wOp neD (wOp ixD (wVar 0) (wC (.int 0))) (wC (.str "part")))) (wOr (wB (wOp neD (wCall lenA (wCons (wVar 0) wNil)) (wC (.int 4)))) (wNot (wB (wCall F_is_integer (wCons (wOp ixD (wVar 0) (wC (.int 1))) (wCons (wC (.int 0)) (wCons (wOp subD (wVar 1) (wC (.int 1))) wNil)))))))) (wRet (wC (.bl false))) wNext) (wRet (wAndV (wCall F_is_integer (wCons (wOp ixD (wVar 0) (wC (.int 2))) (wCons (wC (.int 1)) (wCons (wOp subD (wVar 2) (wC (.int 1))) wNil)))) (wCall F_is_integer (wCons (wOp ixD (wVar 0) (wC (.int 3))) (wCons (wC (.int 1)) (wCons (wOp subD (wVar 2) (wC (.int 1))) wNil))))))))))
noncomputable def F_is_end : List D → Wp D := fnW 3 0 b_is_end
theorem bd_is_end (T : Txt P w K mg cs cB aZ) (base : Heap) (f : Addr) : BodyOk P w K mg base cs 1 N_is_end "is_end" (top 16) f [] b_is_end := fun cdv A outer s H E hr =>
  (pssd_cons (psd_if (ptd_pw (pwd_or (ptd_not (ptd_val (pd_isi rfl T.f_isinstance rfl T.f_tuple bb_tuple (pd_var 0)))) (pwd_or (ptd_cmp (op_eqA hr.units) do_eq (pd_var 0) (pd_tup pad_nil) (nobehind _ (by decide) (by decide))) (pwd_or1 (ptd_not (ptd_val (pd_isi rfl T.f_isinstance rfl T.f_str bb_str (pd_ix (pd_var 0) pd_int)))))))) (pssd_one (psd_ret pd_bl)) pssd_nil) (pssd_cons (psd_if (ptd_cmp (op_eqA hr.units) do_eq (pd_ix (pd_var 0) pd_int) pd_str (nobehind _ (by decide) (by decide))) (pssd_one (psd_ret (pd_cmp (op_eqA hr.units) do_eq (pd_callB call_lenA dc_lenA rfl T.f_len bb_len (pad_cons (pd_var 0) pad_nil)) pd_int (nobehind _ (by decide) (by decide))))) pssd_nil) (pssd_cons (psd_if (ptd_cmp (op_eqA hr.units) do_eq (pd_ix (pd_var 0) pd_int) pd_str (nobehind _ (by decide) (by decide))) (pssd_one (psd_ret (pd_and (pd_cmp (op_eqA hr.units) do_eq (pd_callB call_lenA dc_lenA rfl T.f_len bb_len (pad_cons (pd_var 0) pad_nil)) pd_int (nobehind _ (by decide) (by decide))) (pd_one (pd_call (ok_is_integer T) hr (by decide) rfl (pad_cons (pd_ix (pd_var 0) pd_int) (pad_cons pd_int (pad_cons (pd_op op_sub do_sub (pd_var 2) pd_int) pad_nil)))))))) pssd_nil) (pssd_cons (psd_if (ptd_pw (pwd_or (ptd_cmp (op_neA hr.units) do_ne (pd_ix (pd_var 0) pd_int) pd_str (nobehind _ (by decide) (by decide))) (pwd_or (ptd_cmp (op_neA hr.units) do_ne (pd_callB call_lenA dc_lenA rfl T.f_len bb_len (pad_cons (pd_var 0) pad_nil)) pd_int (nobehind _ (by decide) (by decide))) (pwd_or1 (ptd_not (ptd_val (pd_call (ok_is_integer T) hr (by decide) rfl (pad_cons (pd_ix (pd_var 0) pd_int) (pad_cons pd_int (pad_cons (pd_op op_sub do_sub (pd_var 1) pd_int) pad_nil)))))))))) (pssd_one (psd_ret pd_bl)) pssd_nil) (pssd_one (psd_ret (pd_and (pd_call (ok_is_integer T) hr (by decide) rfl (pad_cons (pd_ix (pd_var 0) pd_int) (pad_cons pd_int (pad_cons (pd_op op_sub do_sub (pd_var 2) pd_int) pad_nil)))) (pd_one (pd_call (ok_is_integer T) hr (by decide) rfl (pad_cons (pd_ix (pd_var 0) pd_int) (pad_cons pd_int (pad_cons (pd_op op_sub do_sub (pd_var 2) pd_int) pad_nil))))))))))))
theorem sc_is_end : FnScope N_is_end ["thing", "many", "size"] (C8.fnScope (top 16)) := C8.fnScope_by (by decide +kernel)
theorem ok_is_end (T : Txt P w K mg cs cB aZ) {base : Heap} : C8.Cal P w K mg base 2 "is_end" (spW ⟨P, w, K, cs⟩ F_is_end) [] := cal_d T.d_is_end (fun _ _ _ _ _ _ us hl => match us, hl with | [_, _, _], _ => rfl) sc_is_end rfl rfl (by decide) (bd_is_end T base)

/-! ### targets_of -/
def N_targets_of : List Str := ["end"]
theorem nd_targets_of : N_targets_of.Nodup := by decide +kernel
noncomputable def b_targets_of : WS := (wSeq (wIfS (wB (wOp eqD (wOp ixD (wVar 0) (wC (.int 0))) (wC (.str "go")))) (wRet (wTup (wCons (wOp ixD (wVar 0) (wC (.int 1))) wNil))) wNext) (wRet (wIf (wB (wOp eqD (wOp ixD (wVar 0) (wC (.int 0))) (wC (.str "part")))) (wTup (wCons (wOp ixD (wVar 0) (wC (.int 2))) (wCons (wOp ixD (wVar 0) (wC (.int 3))) wNil))) (wTup wNil))))
noncomputable def F_targets_of : List D → Wp D := fnW 1 0 b_targets_of
theorem bd_targets_of (T : Txt P w K mg cs cB aZ) (base : Heap) (f : Addr) : BodyOk P w K mg base cs 0 N_targets_of "targets_of" (top 17) f [] b_targets_of := fun cdv A outer s H E hr =>
  (pssd_cons (psd_if (ptd_cmp (op_eqA hr.units) do_eq (pd_ix (pd_var 0) pd_int) pd_str (nobehind _ (by decide) (by decide))) (pssd_one (psd_ret (pd_tup (pad_cons (pd_ix (pd_var 0) pd_int) pad_nil)))) pssd_nil) (pssd_one (psd_ret (pd_if (ptd_cmp (op_eqA hr.units) do_eq (pd_ix (pd_var 0) pd_int) pd_str (nobehind _ (by decide) (by decide))) (pd_tup (pad_cons (pd_ix (pd_var 0) pd_int) (pad_cons (pd_ix (pd_var 0) pd_int) pad_nil))) (pd_tup pad_nil)))))
theorem sc_targets_of : FnScope N_targets_of ["end"] (C8.fnScope (top 17)) := C8.fnScope_by (by decide +kernel)
theorem ok_targets_of (T : Txt P w K mg cs cB aZ) {base : Heap} : C8.Cal P w K mg base 1 "targets_of" (spW ⟨P, w, K, cs⟩ F_targets_of) [] := cal_d T.d_targets_of (fun _ _ _ _ _ _ us hl => match us, hl with | [_], _ => rfl) sc_targets_of rfl rfl (by decide) (bd_targets_of T base)

/-! ### is_plain_block -/
def N_is_plain_block : List Str := ["thing", "many", "span", "size", "row"]
theorem nd_is_plain_block : N_is_plain_block.Nodup := by decide +kernel
noncomputable def b_is_plain_block : WS := (wSeq (wIfS (wOr (wNot (wB (wIsi "tuple" (wVar 0)))) (wOr (wB (wOp neD (wCall lenA (wCons (wVar 0) wNil)) (wC (.int 2)))) (wNot (wB (wIsi "tuple" (wOp ixD (wVar 0) (wC (.int 0)))))))) (wRet (wC (.bl false))) wNext) (wSeq (wIfS (wOr (wB (wOp gtD (wCall lenA (wCons (wOp ixD (wVar 0) (wC (.int 0))) wNil)) (wC (.int 12)))) (wNot (wB (wCall allD (wCons (wLc (wWalk (wOp ixD (wVar 0) (wC (.int 0)))) setN [4] [4] wYes (wCall F_is_row (wCons (wVar 4) (wCons (wVar 1) (wCons (wVar 2) wNil))))) wNil))))) (wRet (wC (.bl false))) wNext) (wRet (wCall F_is_end (wCons (wOp ixD (wVar 0) (wC (.int 1))) (wCons (wVar 1) (wCons (wVar 3) wNil)))))))
noncomputable def F_is_plain_block : List D → Wp D := fnW 4 1 b_is_plain_block
theorem bd_is_plain_block (T : Txt P w K mg cs cB aZ) (base : Heap) (f : Addr) : BodyOk P w K mg base cs 2 N_is_plain_block "is_plain_block" (top 20) f [] b_is_plain_block := fun cdv A outer s H E hr =>
  (pssd_cons (psd_if (ptd_pw (pwd_or (ptd_not (ptd_val (pd_isi rfl T.f_isinstance rfl T.f_tuple bb_tuple (pd_var 0)))) (pwd_or (ptd_cmp (op_neA hr.units) do_ne (pd_callB call_lenA dc_lenA rfl T.f_len bb_len (pad_cons (pd_var 0) pad_nil)) pd_int (nobehind _ (by decide) (by decide))) (pwd_or1 (ptd_not (ptd_val (pd_isi rfl T.f_isinstance rfl T.f_tuple bb_tuple (pd_ix (pd_var 0) pd_int)))))))) (pssd_one (psd_ret pd_bl)) pssd_nil) (pssd_cons (psd_if (ptd_pw (pwd_or (ptd_cmp op_gt do_gt (pd_callB call_lenA dc_lenA rfl T.f_len bb_len (pad_cons (pd_ix (pd_var 0) pd_int) pad_nil)) (pd_gint rfl (T.i_MOST_ROWS)) (nobehind _ (by decide) (by decide))) (pwd_or1 (ptd_not (ptd_val (pd_callB (cr_all rfl) dc_all rfl T.f_all bb_all (pad_cons (pd_lc (own := [("row", 4)]) (is := [4]) rfl nd_is_plain_block (pid_val (pd_ix (pd_var 0) pd_int)) (blkOk_by (by kernel_rfl)) (by decide) (fun _ _ _ _ _ => (pgd_name 4 nd_is_plain_block)) (fun _ _ _ _ _ => ptsd_nil) (fun _ _ _ _ _ => (pd_call (ok_is_row T) hr (by decide) rfl (pad_cons (pd_var 4) (pad_cons (pd_var 1) (pad_cons (pd_var 2) pad_nil)))))) pad_nil))))))) (pssd_one (psd_ret pd_bl)) pssd_nil) (pssd_one (psd_ret (pd_call (ok_is_end T) hr (by decide) rfl (pad_cons (pd_ix (pd_var 0) pd_int) (pad_cons (pd_var 1) (pad_cons (pd_var 3) pad_nil))))))))
theorem sc_is_plain_block : FnScope N_is_plain_block ["thing", "many", "span", "size"] (C8.fnScope (top 20)) := C8.fnScope_by (by decide +kernel)
theorem ok_is_plain_block (T : Txt P w K mg cs cB aZ) {base : Heap} : C8.Cal P w K mg base 3 "is_plain_block" (spW ⟨P, w, K, cs⟩ F_is_plain_block) [] := cal_d T.d_is_plain_block (fun _ _ _ _ _ _ us hl => match us, hl with | [_, _, _, _], _ => rfl) sc_is_plain_block rfl rfl (by decide) (bd_is_plain_block T base)

end Rr
/-! registerrooms: are_reached, by hand. -/
namespace Rr
open PySem PySem.Spec PyProof.Rows L2
variable {P : Program} {w : World} {K : PySem.W.Frag} {mg : Str → Option Value} {base : Heap} {cs : Cs} {cB aZ : Addr}

/-! ### what it does -/
noncomputable def arT (bs : List D) (ws : List Int) : Wp (List D) := (Wp.opt ws.getLast?).bind fun x => (ixD (.tup bs) (.int x)).bind fun b => (ixD b (.int (-1))).bind fun e => (F_targets_of [e]).bind walkD
def arB (t : Int) (ks ws : List Int) : Wp (List Int × List Int) := if t ∈ ks then .ret (ks, ws) else .chk (ks.length < 1000 ∧ ws.length < 1000) (.ret (ks ++ [t], ws ++ [t]))
def arFor : List D → List Int → List Int → Wp (List Int × List Int)
  | [], ks, ws => .ret (ks, ws)
  | .int t :: r, ks, ws => (arB t ks ws).bind fun p => arFor r p.1 p.2
  | _ :: _, _, _ => .fail
noncomputable def arLoop (bs : List D) : Nat → List Int → List Int → Wp (List Int)
  | 0, _, _ => .fail
  | n + 1, ks, ws => if ws = [] then .ret ks else (arT bs ws).bind fun ds => (arFor ds ks ws.dropLast).bind fun p => arLoop bs n p.1 p.2
noncomputable def arW (bs : List D) (ks ws : List Int) : Wp (List Int) := ⟨fun K => ∃ n, (arLoop bs n ks ws).run K, fun h ⟨n, k⟩ => ⟨n, (arLoop bs n ks ws).mono h k⟩⟩
noncomputable def F_are_reached : List D → Wp D
  | [.tup bs] => (arW bs [0] [0]).bind fun ks => .ret (.bl (decide ((ks.length : Int) = (bs.length : Int))))
  | _ => .fail

/-! ### its state -/
structure Ar (c : Ctx) (dr : Addr) (G0 H0 : Hp) (bs : List D) (ks ws : List Int) (σ : L2.St) (H G : Hp) : Prop where
  base : Base dr G0 H0
  step : Step dr G0 H0 G H
  b : ∃ v, σ[0]? = some (some v) ∧ R c dr G v (.tup bs)
  f : ∃ a kvs, σ[1]? = some (some (.ref a)) ∧ H a = some (.dK kvs) ∧ kvs.map (·.1) = ks.map Sum.inl ∧ G a = none ∧ H0 a = none
  w : ∃ a, σ[2]? = some (some (.ref a)) ∧ H a = some (.lst (ws.map V.int)) ∧ G a = none ∧ H0 a = none
  len : σ.length = 4
section
variable {c : Ctx} {dr : Addr} {G0 H0 G H G' H' : Hp} {bs : List D} {ks ws : List Int} {σ : L2.St}
theorem Ar.keep (A : Ar c dr G0 H0 bs ks ws σ H G) (t : Step dr G H G' H') : Ar c dr G0 H0 bs ks ws σ H' G' := by
  obtain ⟨v, b1, b2⟩ := A.b
  obtain ⟨a, kvs, f1, f2, f3, f4, f5⟩ := A.f
  obtain ⟨q, w1, w2, w3, w4⟩ := A.w
  have ad : a ≠ dr := fun e => A.base.hdr (e ▸ f5)
  have qd : q ≠ dr := fun e => A.base.hdr (e ▸ w4)
  exact ⟨A.base, A.step.trans A.base t, ⟨v, b1, b2.mono t.gs⟩, ⟨a, kvs, f1, t.hs _ _ ad f2, f3, t.out f4 (by rw [f2]; exact fun z => nomatch z), f5⟩,
    ⟨q, w1, t.hs _ _ qd w2, t.out w3 (by rw [w2]; exact fun z => nomatch z), w4⟩, A.len⟩
theorem Ar.setW (A : Ar c dr G0 H0 bs ks ws σ H G) {q : Addr} (hq : σ[2]? = some (some (.ref q))) (ws' : List Int) : Ar c dr G0 H0 bs ks ws' σ (upd H q (.lst (ws'.map V.int))) G := by
  obtain ⟨a, kvs, f1, f2, f3, f4, f5⟩ := A.f
  obtain ⟨q', w1, w2, w3, w4⟩ := A.w
  rw [hq] at w1
  cases w1
  have ne : a ≠ q := fun e => by rw [e, w2] at f2; cases f2
  exact ⟨A.base, A.step.mut A.base w4 w3, A.b, ⟨a, kvs, f1, by rw [upd_ne ne]; exact f2, f3, f4, f5⟩, ⟨q, hq, upd_same, w3, w4⟩, A.len⟩
theorem Ar.setF (A : Ar c dr G0 H0 bs ks ws σ H G) {a : Addr} (ha : σ[1]? = some (some (.ref a))) {kvs : List (Key × V)} {ks' : List Int} (hk : kvs.map (·.1) = ks'.map Sum.inl) : Ar c dr G0 H0 bs ks' ws σ (upd H a (.dK kvs)) G := by
  obtain ⟨a', kvs', f1, f2, f3, f4, f5⟩ := A.f
  obtain ⟨q, w1, w2, w3, w4⟩ := A.w
  rw [ha] at f1
  cases f1
  have ne : q ≠ a := fun e => by rw [e, f2] at w2; cases w2
  exact ⟨A.base, A.step.mut A.base f5 f4, A.b, ⟨a, kvs, ha, upd_same, hk, f4, f5⟩, ⟨q, w1, by rw [upd_ne ne]; exact w2, w3, w4⟩, A.len⟩
theorem Ar.set3 (A : Ar c dr G0 H0 bs ks ws σ H G) (v : V) : Ar c dr G0 H0 bs ks ws (σ.set 3 (some v)) H G := by
  obtain ⟨u, b1, b2⟩ := A.b
  obtain ⟨a, kvs, f1, f2⟩ := A.f
  obtain ⟨q, w1, w2⟩ := A.w
  exact ⟨A.base, A.step, ⟨u, by rw [List.getElem?_set_ne (by decide)]; exact b1, b2⟩, ⟨a, kvs, by rw [List.getElem?_set_ne (by decide)]; exact f1, f2⟩, ⟨q, by rw [List.getElem?_set_ne (by decide)]; exact w1, w2⟩, by rw [List.length_set]; exact A.len⟩
theorem has_int {kvs : List (Key × V)} {ks : List Int} (h : kvs.map (·.1) = ks.map Sum.inl) (t : Int) : (valV kvs (.inl t)).isSome = decide (t ∈ ks) := by
  rw [← valV_any, Bool.eq_iff_iff, decide_eq_true_eq]
  have : (kvs.any fun kv => decide (kv.1 = Sum.inl t)) = (kvs.map (·.1)).any fun k => decide (k = Sum.inl t) := by rw [List.any_map]; rfl
  rw [this, h, List.any_map, List.any_eq_true]
  constructor
  · rintro ⟨x, hx, e⟩
    have e := of_decide_eq_true e
    simp only [Sum.inl.injEq] at e
    exact e ▸ hx
  · exact fun h => ⟨t, h, decide_eq_true rfl⟩
theorem put_int {kvs : List (Key × V)} {ks : List Int} (h : kvs.map (·.1) = ks.map Sum.inl) {t : Int} (n : t ∉ ks) (v : V) : (putK kvs (.inl t) v).map (·.1) = (ks ++ [t]).map Sum.inl := by
  have q := has_int h t
  rw [decide_eq_false n] at q
  rw [putK_new v (by simpa using q)]
  simp [h]
end
end Rr

namespace Rr
open PySem PySem.Spec PyProof.Rows L2
variable {P : Program} {w : World} {K : PySem.W.Frag} {mg : Str → Option Value} {base : Heap} {cs : Cs} {cB aZ : Addr}
/-! ### its rows -/
abbrev N_are_reached : List Str := ["blocks", "found", "waiting", "target"]
theorem nd_are_reached : N_are_reached.Nodup := by decide +kernel
theorem sc_are_reached : FnScope N_are_reached ["blocks"] (C8.fnScope (top 18)) := C8.fnScope_by (by decide +kernel)
theorem fl_ints (ws : List Int) : D.cls (ws.map D.int) = true ∧ D.deps (ws.map D.int) = 0 := by
  induction ws with
  | nil => exact ⟨rfl, rfl⟩
  | cons x r ih => exact ⟨by simp [D.cls, D.cl, ih.1], by simp [D.deps, D.dep, ih.2]⟩
theorem ok_ints (ws : List Int) : (D.lst (ws.map D.int)).ok := ⟨by simpa [D.cl] using (fl_ints ws).1, by rw [D.dep, (fl_ints ws).2]; decide⟩
def rLenK : List V → Hp → VK → Prop := fun xs H Q => ∃ a kvs, xs = [.ref a] ∧ H a = some (.dK kvs) ∧ Q (.int ((kvs.length : Nat) : Int)) H
theorem call_lenK {X : Cx} : CallR X (.builtin "len") rLenK := by
  intro pins s σ H xs us Q I rv ⟨a, kvs, ex, hp, q⟩
  subst ex
  obtain rfl := rv.ref1
  exact d_len I (.inl hp) fun t s' I' => ⟨.int _, H, I', ⟨_, rfl⟩, q⟩
section
variable {X : Cx} {j : Nat} {pos : Pos}
/-- a test in its state -/
def tAr (c : Ctx) (bs : List D) (f : List Int → List Int → (Bool → Prop) → Prop) : TT := fun σ H Q => ∃ dr G0 H0 G ks ws, Ar c dr G0 H0 bs ks ws σ H G ∧ f ks ws fun b => ∀ G' H', Ar c dr G0 H0 bs ks ws σ H' G' → Same G G' → Q b H'
theorem ar_test {bs : List D} {p1 p2 p3 : Pos} (hr : Room j X.A) (h2 : X.N[2]? = some ("waiting" : Str)) (v2 : Vis X.env.scope "waiting") :
    PT X (.Compare (.Name "waiting" p1) [.NotEq] [.List [] p2] p3) (tAr (xc X cs) bs fun ks ws K => K (decide (ws ≠ []))) :=
  pt_of (pt_cmpR (op_neA hr.units) (pe_var h2 v2) (pe_lst pa_nil) (nobehind _ (by decide) (by decide))) fun σ H Q ⟨dr, G0, H0, G, ks, ws, A, h⟩ => by
    obtain ⟨q, w1, w2, w3, w4⟩ := A.w
    refine ⟨_, w1, Nat.zero_le _, fun p np => .inl ?_⟩
    have s := Step.laid A.step.base np (.lst [])
    have A' := A.keep s
    have qp : q ≠ p := fun e => by rw [e, np] at w2; cases w2
    have r1 : R (xc X cs) dr (upd H p (.lst [])) (.ref q) (.lst (ws.map D.int)) := .lst (by rw [upd_ne qp]; exact w2) (Rs.ints ws)
    have r2 : R (xc X cs) dr (upd H p (.lst [])) (.ref p) (.lst []) := .lst upd_same .nil
    have k1 := ok_ints ws
    have k2 : (D.lst []).ok := ok_ints []
    refine ⟨_, _, r1.dp (Same.refl _) k1.1, r2.dp (Same.refl _) k2.1, k1.shaped, k2.shaped, ?_⟩
    refine ⟨_, rfl, ?_⟩
    rw [D.eqv_dec k1.1 k2.1]
    have e : (!decide (D.lst (ws.map D.int) = D.lst [])) = decide (ws ≠ []) := by
      cases ws <;> simp
    rw [e]
    exact h _ _ A' s.gs
/-- what the loop walks -/
def tArI (c : Ctx) (bs : List D) : TI := fun σ H Q => ∃ dr G0 H0 G ks ws, Ar c dr G0 H0 bs ks ws σ H G ∧ (arT bs ws).run fun ds => ∀ J G' H', Ar c dr G0 H0 bs ks ws.dropLast σ H' G' → IterD c dr G' J ds → Q J H'
theorem last_get {α β : Type} {f : α → β} {ws : List α} {x : α} (h : ws.getLast? = some x) : (ws.map f)[(ws.map f).length - 1]? = some (f x) := by
  rw [List.getLast?_eq_getElem?] at h
  rw [List.length_map, List.getElem?_map, h]
  rfl
theorem ar_walk {bs : List D} {tg : Expr} {p0 p1 p2 p3 p4 p5 p6 p7 p8 p9 : Pos} {k : Nat} (T : Txt X.prog X.w X.K X.mg cs cB aZ) (hr : Room j X.A) (hj : 1 ≤ j) (hg : Gl X "targets_of") (h0 : X.N[0]? = some ("blocks" : Str)) (v0 : Vis X.env.scope "blocks") (h2 : X.N[2]? = some ("waiting" : Str)) (v2 : Vis X.env.scope "waiting")
    (hbase : attributeBase (.Name "waiting" p3) "pop" X.env (eval (.Name "waiting" p3) X.env) = eval (.Name "waiting" p3) X.env) (hline : (p4.endLine == p5.line) = true) :
    PI X tg (.Call (.Name "targets_of" p1) [.Subscript (.Subscript (.Name "blocks" p2) (.Call (.Attribute (.Name "waiting" p3) "pop" p4) [] [] p5) p6) (.UnaryOp .USub (.Constant (.int 1) k p7) p8) p9] [] p0) (tArI (xc X cs) bs) := by
  have he := C8.pe_c (pos := p0) (p := p1) (ok_targets_of T (base := X.base)) hr hj hg (pa_cons (pe_ix (pos := p9) ix_A (pe_ix (pos := p6) ix_A (pe_var (pos := p2) h0 v0) (pe_bm0 (apos := p4) (cpos := p5) F.plainAttrs_list F.slot_list_pop F.type_list_pop mt_pop (pe_var (pos := p3) h2 v2) hbase hline) (fun _ _ => rfl)) (pe_un (pos := p8) un_neg (show PE X (.Constant (.int 1) k p7) (tC (.int 1)) from pe_int)) (fun _ _ => rfl)) pa_nil)
  refine ⟨fun pins s σ H Q I ⟨dr, G0, H0, G, ks, ws, A, h⟩ => ?_⟩
  refine thn (he.run pins s σ H (fun v H1 => ∃ G1 d, Ar (xc X cs) dr G0 H0 bs ks ws.dropLast σ H1 G1 ∧ R (xc X cs) dr G1 v d ∧ (walkD d).run fun ds => ∀ J G' H', Ar (xc X cs) dr G0 H0 bs ks ws.dropLast σ H' G' → IterD (xc X cs) dr G' J ds → Q J H') I ?_) fun u s1 ⟨v, H1, I1, rv, G1, d, A1, r1, k1⟩ => walk_run I1 A1.step.base r1 rv ((walkD d).mono (fun ds k J G' H' s2 it => k J G' H' (A1.keep s2) it) k1)
  obtain ⟨x, hx, h⟩ := h
  obtain ⟨v, b1, b2⟩ := A.b
  obtain ⟨q, w1, w2, w3, w4⟩ := A.w
  refine ⟨v, b1, .ref q, w1, .inl ⟨rfl, _, SqL.of w2⟩, q, _, .int x, rfl, rfl, w2, last_get hx, ?_⟩
  have ed : (ws.map V.int).dropLast = ws.dropLast.map V.int := by rw [List.map_dropLast]
  rw [ed]
  have A1 := A.setW w1 ws.dropLast
  refine do_ix dr G _ v (.int x) _ _ _ A1.step.base b2 (.int x) ((ixD _ _).mono (fun b k vb G2 H2 s2 rb => ?_) h)
  refine ⟨1, rfl, ?_⟩
  have A2 := A1.keep s2
  refine do_ix dr G2 _ vb (.int (-1)) _ _ _ A2.step.base rb (.int (-1)) ((ixD _ _).mono (fun e k ve G3 H3 s3 re => ?_) k)
  have A3 := A2.keep s3
  refine ⟨dr, G3, [e], A3.step.base, .cons re .nil, (F_targets_of [e]).mono (fun d k vd G4 H4 s4 rd => ?_) k⟩
  exact ⟨G4, d, A3.keep s4, rd, k⟩
end
end Rr

namespace Rr
open PySem PySem.Spec PyProof.Rows L2
variable {P : Program} {w : World} {K : PySem.W.Frag} {mg : Str → Option Value} {base : Heap} {cs : Cs} {cB aZ : Addr}
section
variable {X : Cx} {j : Nat} {pos : Pos}
/-- one target -/
def tArB (c : Ctx) (bs : List D) : TS := fun D σ H => ∃ dr G0 H0 G ks ws t, Ar c dr G0 H0 bs ks ws σ H G ∧ σ[3]? = some (some (.int t)) ∧ (arB t ks ws).run fun p => ∀ H' G', Same G G' → Ar c dr G0 H0 bs p.1 p.2 σ H' G' → D.nx σ H'
theorem ar_body {bs : List D} {p0 p1 p2 p3 p4 p5 p6 p7 p8 q1 q2 q3 q4 q5 : Pos} (hr : Room j X.A) (h1 : X.N[1]? = some ("found" : Str)) (v1 : Vis X.env.scope "found") (h2 : X.N[2]? = some ("waiting" : Str)) (v2 : Vis X.env.scope "waiting") (h3 : X.N[3]? = some ("target" : Str)) (v3 : Vis X.env.scope "target")
    (hb : behindInMarks .NotIn (.Name "found" p2) = false) (hs1 : swapsWith (.Constant (.bool true) 0 p4) (some (.Subscript (.Name "found" p5) (.Name "target" p6) p7)) p8.line X.env = pure false)
    (hbase : attributeBase (.Name "waiting" q1) "append" X.env (eval (.Name "waiting" q1) X.env) = eval (.Name "waiting" q1) X.env)
    (hfew : ((backTo q4 (starEach [.Name "target" q3] X.env)).all (fun x => !x.1) && (backToKw q4 (keywordEach [] X.env)).all (fun x => x.1.isSome) && decide (([.Name "target" q3] : List Expr).length + ([] : List Keyword).length + (if ([] : List Keyword).isEmpty then 0 else 1) < 30)) = true)
    (hline : (q2.endLine == q4.line) = true) (hst : starEach [.Name "target" q3] X.env = (false, eval (.Name "target" q3) X.env) :: starEach [] X.env) (hplain : (backTo q4 (starEach [] X.env)).any (·.1) = false)
    (hs2 : swapsWith (.Call (.Attribute (.Name "waiting" q1) "append" q2) [.Name "target" q3] [] q4) none q5.line X.env = pure false) :
    PS X (.If (.Compare (.Name "target" p1) [.NotIn] [.Name "found" p2] p3) [.Assign [.Subscript (.Name "found" p5) (.Name "target" p6) p7] (.Constant (.bool true) 0 p4) p8, .Expr (.Call (.Attribute (.Name "waiting" q1) "append" q2) [.Name "target" q3] [] q4) q5] [] p0) (tArB (xc X cs) bs) :=
  ps_of (ps_if (pt_cmp (pc_dnotin (by have := hr.un; omega) (pe_var h3 v3) (pe_var h1 v1)) hb)
    (pss_cons (ps_dput (by have := hr.un; omega) (pe_var h1 v1) (pe_var h3 v3) pe_bl hs1) (pss_one (ps_expr (pe_bm F.plainAttrs_list F.slot_list_append F.type_list_append mt_append (pe_var h2 v2) (pa_cons (pe_var h3 v3) pa_nil hst) hbase hfew hline hst hplain) hs2))) pss_nil) fun D σ H ⟨dr, G0, H0, G, ks, ws, t, A, s3, h⟩ => by
    obtain ⟨a, kvs, f1, f2, f3, f4, f5⟩ := A.f
    obtain ⟨q, w1, w2, w3, w4⟩ := A.w
    refine ⟨_, s3, _, f1, a, _, rfl, DGet.k (k := .inl t) f2, _, rfl, ?_⟩
    rw [has_int f3]
    unfold arB at h
    by_cases m : t ∈ ks
    · rw [if_pos m] at h
      rw [decide_eq_true m]
      exact h H G (Same.refl _) A
    · rw [if_neg m] at h
      rw [decide_eq_false m]
      obtain ⟨⟨l1, l2⟩, h⟩ := h
      have lk : kvs.length = ks.length := by simpa using congrArg List.length f3
      refine ⟨_, f1, _, s3, a, _, rfl, DPut.k (k := .inl t) f2 (by rw [lk]; exact line_lt (by omega)), ?_⟩
      have A1 := A.setF f1 (put_int f3 m (.bl true))
      obtain ⟨q', w1', w2', _, _⟩ := A1.w
      rw [w1] at w1'
      cases w1'
      refine ⟨_, w1, .inl ⟨rfl, _, SqL.of w2'⟩, _, s3, q, _, _, rfl, rfl, w2', line_lt (by rw [List.length_map]; omega), ?_⟩
      have A2 := A1.setW w1 (ws ++ [t])
      rw [List.map_append] at A2
      exact h _ G (Same.refl _) A2
end
end Rr

namespace Rr
open PySem PySem.Spec PyProof.Rows L2
variable {P : Program} {w : World} {K : PySem.W.Frag} {mg : Str → Option Value} {base : Heap} {cs : Cs} {cB aZ : Addr}
theorem ar_args {ds : List D} {Kk : D → Prop} (h : (F_are_reached ds).run Kk) : ∃ bs, ds = [.tup bs] ∧ ∃ n, (arLoop bs n [0] [0]).run fun ks => Kk (.bl (decide ((ks.length : Int) = (bs.length : Int)))) := by
  unfold F_are_reached at h
  split at h
  · exact ⟨_, rfl, h⟩
  · exact h.elim
theorem ok_are_reached (T : Txt P w K mg cs cB aZ) {base : Heap} : C8.Cal P w K mg base 3 "are_reached" (spW ⟨P, w, K, cs⟩ F_are_reached) [] := by
  obtain ⟨f, fd, Fn, hm⟩ := T.d_are_reached
  refine C8.cal0 ⟨FunD.fn Fn, hm, Fn.kp⟩ (Fn.bindsN (ps := ["blocks"]) (fun _ _ _ _ _ _ us hl => match us, hl with | [_], _ => rfl)) .nil sc_are_reached (fun vs H Q E h => ?_) fun cdv A outer s H vs Q E hr h => ?_
  · obtain ⟨dr, G, ds, b, r, h⟩ := h
    obtain ⟨bs, rfl, _⟩ := ar_args h
    rw [r.length]; rfl
  obtain ⟨dr, G, ds, b, r, h⟩ := h
  obtain ⟨bs, rfl, n, h⟩ := ar_args h
  obtain ⟨v, rfl, r0⟩ := r.one
  refine ⟨_, pss_cons (ps_par (i := 1) (j := 2) rfl nd_are_reached rfl rfl (by decide) rfl rfl (pa_cons (pe_disp (pps_cons pe_int pe_bl pps_nil) rfl rfl (fun z => nomatch z) (by decide)) (pa_cons (pe_lst (pa_cons pe_int pa_nil)) pa_nil)) rfl rfl)
    (pss_cons (ps_while PassesOwn.never (ar_test (bs := bs) (cs := cs) hr rfl (.inl rfl)) (pss_one (ps_for PassesOwn.never rfl (ar_walk (bs := bs) T hr (by decide) rfl rfl (.inl rfl) rfl (.inl rfl) rfl rfl) (pg_name (i := 3) nd_are_reached rfl (.inl rfl)) (pss_one (ar_body (cs := cs) (bs := bs) hr rfl (.inl rfl) rfl (.inl rfl) rfl (.inl rfl) rfl rfl rfl rfl rfl rfl rfl rfl)))))
      (pss_one (ps_ret (pe_cmpR (op_eqA hr.units) (pe_callB call_lenK rfl T.f_len bb_len (pa_cons (pe_var (i := 1) rfl (.inl rfl)) pa_nil)) (pe_callB call_len_seq rfl T.f_len bb_len (pa_cons (pe_var (i := 0) rfl (.inl rfl)) pa_nil)) (nobehind _ (by decide) (by decide)))))), ?_⟩
  intro p np
  refine ⟨upd_same, [(.inl 0, .bl true)], rfl, by decide, ?_⟩
  rw [L2.upd_upd]
  refine ⟨Nat.le_of_ble_eq_true rfl, fun q nq => ⟨.ref p, .ref q, rfl, ?_⟩⟩
  have s1 := Step.laidH b np (.dK (mergeK [] [(.inl 0, .bl true)]))
  have s2 := Step.laidH s1.base nq (.lst [.int 0])
  have qp : p ≠ q := fun e => by rw [e] at nq; rw [upd_same] at nq; cases nq
  have A0 : Ar ⟨P, w, K, cs⟩ dr G H bs [0] [0] (((start N_are_reached [v]).set 1 (some (.ref p))).set 2 (some (.ref q))) _ G :=
    ⟨b, s1.trans b s2, ⟨v, rfl, r0⟩, ⟨p, _, rfl, by rw [upd_ne qp]; exact upd_same, rfl, b.sub.free np, np⟩, ⟨q, rfl, upd_same, s1.base.sub.free nq, s1.none0 b nq⟩, rfl⟩
  refine ⟨fun m σ H1 => ∃ G1 ks ws, Ar ⟨P, w, K, cs⟩ dr G H bs ks ws σ H1 G1 ∧ (arLoop bs m ks ws).run fun ks => Wish ⟨P, w, K, cs⟩ dr G H Q (.bl (decide ((ks.length : Int) = (bs.length : Int)))), ⟨n, G, [0], [0], A0, h⟩, ?_⟩
  rintro m σ H1 ⟨G1, ks, ws, A1, k1⟩
  cases m with
  | zero => exact k1.elim
  | succ m =>
    rw [arLoop] at k1
    refine ⟨dr, G, H, G1, ks, ws, A1, fun G2 H2 A2 sg2 => ?_⟩
    by_cases hw : ws = []
    · rw [if_pos hw] at k1
      rw [decide_eq_false (fun z => z hw)]
      refine iteF ?_
      obtain ⟨a, kvs, f1, f2, f3, f4, f5⟩ := A2.f
      obtain ⟨u, b1, b2⟩ := A2.b
      obtain ⟨ab, xs, rfl, hx, rx⟩ := b2.tup_of
      have lk : kvs.length = ks.length := by simpa using congrArg List.length f3
      refine ⟨_, f1, a, kvs, rfl, f2, _, b1, ab, xs, rfl, .inr (SqT.of (A2.step.base.sub _ _ hx)), ?_⟩
      refine do_eq (c := ⟨P, w, K, cs⟩) dr G2 H2 _ _ (.int kvs.length) (.int xs.length) Q A2.step.base (.int _) (.int _) ⟨⟨⟨rfl, Nat.zero_le _⟩, rfl, Nat.zero_le _⟩, ?_⟩
      intro v3 G3 H3 s3 r3
      rw [lk, rx.length] at r3
      refine k1 v3 G3 H3 (A2.step.trans b s3) ?_
      have e : decide (D.int (ks.length : Int) = D.int (bs.length : Int)) = decide ((ks.length : Int) = (bs.length : Int)) := by simp
      rw [← e]
      exact r3
    · rw [if_neg hw] at k1
      rw [decide_eq_true hw]
      refine iteT ⟨fun σ' H' => ∃ G1 ks ws, Ar ⟨P, w, K, cs⟩ dr G H bs ks ws σ' H' G1 ∧ (arLoop bs m ks ws).run fun ks => Wish ⟨P, w, K, cs⟩ dr G H Q (.bl (decide ((ks.length : Int) = (bs.length : Int)))), fun σ' H' z => ⟨m, Nat.lt_succ_self m, z⟩, ?_⟩
      refine ⟨dr, G, H, G2, ks, ws, A2, (arT bs ws).mono (fun ds k J G3 H3 A3 it => ?_) k1⟩
      refine ⟨fun i l σ' H' => l = ds.length - i ∧ i ≤ ds.length ∧ ∃ G4 ks ws, Same G3 G4 ∧ Ar ⟨P, w, K, cs⟩ dr G H bs ks ws σ' H' G4 ∧ (arFor (ds.drop i) ks ws).run fun p => (arLoop bs m p.1 p.2).run fun ks => Wish ⟨P, w, K, cs⟩ dr G H Q (.bl (decide ((ks.length : Int) = (bs.length : Int)))), ⟨ds.length, by simp, Nat.zero_le _, G3, ks, ws.dropLast, Same.refl _, A3, k⟩, ?_⟩
      rintro i l σ' H' ⟨rfl, hi, G4, ks', ws', sg, A4, k⟩
      have jt := it i G4 H' sg A4.step.base
      by_cases q : i < ds.length
      · obtain ⟨jg, jy⟩ := jt.1 q
        refine .inr ⟨jg, fun σ' H' => ∃ G4 ks ws, Same G3 G4 ∧ Ar ⟨P, w, K, cs⟩ dr G H bs ks ws σ' H' G4 ∧ (arFor (ds.drop (i + 1)) ks ws).run fun p => (arLoop bs m p.1 p.2).run fun ks => Wish ⟨P, w, K, cs⟩ dr G H Q (.bl (decide ((ks.length : Int) = (bs.length : Int)))), fun σ'' H'' z => ⟨ds.length - (i + 1), by omega, rfl, q, z⟩, fun x H5 y => ?_⟩
        obtain ⟨G5, d, s5, hd', rx⟩ := jy x H5 y
        rw [drop_cons hd'] at k
        have A5 := A4.keep s5
        cases d with
        | int t =>
          cases rx.int_of
          rw [arFor] at k
          refine ⟨dr, G, H, G5, ks', ws', t, A5.set3 _, ?_, (arB t ks' ws').mono (fun p k H6 G6 s6 A6 => ⟨G6, p.1, p.2, (sg.trans s5.gs).trans s6, A6, k⟩) k⟩
          exact List.getElem?_set_self (by rw [A5.len]; decide)
        | _ => exact k.elim
      · have hi2 : i = ds.length := by omega
        rw [hi2, List.drop_length, arFor] at k
        exact .inl ⟨jt.2 hi2, G4, ks', ws', A4, k⟩
end Rr
/-! registerrooms: self[block] of a Program, by its own __getitem__. -/
namespace Rr
open PySem PySem.Spec PyProof.Rows L2
def wSubP (F : List D → Wp D) (w wi : WE) : WE := fun ρ => (w ρ).bind fun d => match d with
  | .prg m b h s => (wi ρ).bind fun i => F [.prg m b h s, i]
  | _ => .fail
section
variable {X : Cx} {cs : Cs} {cB : Addr} {o i : Expr} {w wi : WE} {F : List D → Wp D} {g : Addr} {k j : Nat} {pos : Pos}
theorem pd_subP (T : ClsOk X.K cs cB) (hm : Meth X.K cs.cP "__getitem__" g) (hf : PySem.W.fnIn X.K g = true) (Fn : FnR X.prog X.w X.K X.mg X.base C8.CX0 k g (spW (xc X cs) F)) (hr : Room j X.A) (hk : k + 1 ≤ j) (ho : PD X cs o w) (hi : PD X cs i wi)
    (hsl : ∀ x iv, subscripted i true x iv = runValue (.builtin "lifetime.subscript" ⟨[x, iv], []⟩) := by intro _ _; with_unfolding_all rfl) : PD X cs (.Subscript o i pos) (wSubP F w wi) := by
  refine ⟨fun pins s σ H Q I ⟨dr, G, ρ, b, ev, h⟩ => ?_⟩
  refine Subscript_ (thn (ho.run pins s σ H (fun v H1 => ∃ G1 d, Step dr G H G1 H1 ∧ EnvF (xc X cs) dr G1 σ ρ ∧ R (xc X cs) dr G1 v d ∧ (match d with
    | .prg m b h s => (wi ρ).bind fun i => F [.prg m b h s, i]
    | _ => .fail : Wp D).run (Wish (xc X cs) dr G H Q)) I (tD_seq b ev h fun d v G1 H1 s1 e1 r1 k1 => ⟨G1, d, s1, e1, r1, k1⟩)) fun u s1 ⟨v, H1, I1, rv, G1, d, st1, e1, r1, k1⟩ => ?_)
  cases d with
  | prg m bs hd sp =>
    obtain ⟨a, dx, sl, vb, rfl, hsl1, _⟩ := r1.prg_of
    obtain rfl : u = Value.ref a := rv
    refine thn (hi.run pins s1 σ H1 (fun y H2 => ∃ G2 di, Step dr G1 H1 G2 H2 ∧ R (xc X cs) dr G2 y di ∧ (F [.prg m bs hd sp, di]).run (Wish (xc X cs) dr G H Q)) I1 (tD_seq st1.base e1 k1 fun d v G2 H2 s2 e2 r2 k2 => ⟨G2, d, s2, r2, k2⟩)) fun iv s2 ⟨y, H2, I2, ry, G2, di, st2, r2, k2⟩ => ?_
    obtain ⟨sl', od, _, J, _⟩ := SlX.slt_inst I2 (slt_mono st2.base.sub (slt_mono st2.gs hsl1))
    obtain ⟨fr, hF⟩ := I2.fr
    refine PySem.W.sub_K hF I2.ok.mod.kin J hm.at_ hf hm.fn ?_ (hsl _ _)
    have hr2 : Room k X.A.in1 := Room.in1 (hr.mono hk)
    refine wpAny_call (SlX.run_at (E := C8.E0) Fn hr2 I2.env0.in1 C8.pass0 I2 (.cons rfl (.cons ry .nil)) (ws := [.ref a, y]) ?_)
    exact ⟨dr, G2, _, st2.base, .cons (r1.mono st2.gs) (.cons r2 .nil), (F _).mono (fun d k v G3 H3 s3 r3 => k v G3 H3 ((st1.trans b st2).trans b s3) r3) k2⟩
  | _ => exact k1.elim
end
theorem fnIn_of {K : PySem.W.Frag} {m q : Str} {st : Stmt} {f : Addr} (h : MemOk K m q st f) : PySem.W.fnIn K f = true := by
  obtain ⟨fd, Fn⟩ := h
  obtain ⟨oc, od, dV, kV, doc, pm, an, cdv, ct, osl, e, lk, _⟩ := Fn.ex
  unfold PySem.W.fnIn
  rw [lk]
end Rr
/-! registerrooms: defs, printed by gen.py. -/
namespace Rr
open PySem PySem.Spec PyProof.Rows L2
variable {P : Program} {w : World} {K : PySem.W.Frag} {mg : Str → Option Value} {cs : Cs} {cB aZ : Addr}
/-! ### Blocks.__getitem__ -/
def N_Blocks_getitem : List Str := ["self", "block"]
theorem nd_Blocks_getitem : N_Blocks_getitem.Nodup := by decide +kernel
noncomputable def b_Blocks_getitem : WS := (wSeq (wIfS (wNot (wB (wCall F_is_integer (wCons (wVar 1) (wCons (wC (.int 0)) (wCons (wOp subD (wCall lenA (wCons (wMap fBlocks (wVar 0)) wNil)) (wC (.int 1))) wNil)))))) wNever wNext) (wRet (wOp ixD (wMap fBlocks (wVar 0)) (wVar 1))))
noncomputable def F_getitem : List D → Wp D := fnW 2 0 b_Blocks_getitem
theorem bd_Blocks_getitem (T : Txt P w K mg cs cB aZ) (base : Heap) (f : Addr) : BodyOk P w K mg base cs 1 N_Blocks_getitem "Blocks.__getitem__" (mem 19 3) f [] b_Blocks_getitem := fun cdv A outer s H E hr =>
  (pssd_cons (psd_if (ptd_not (ptd_val (pd_call (ok_is_integer T) hr (by decide) rfl (pad_cons (pd_var 1) (pad_cons pd_int (pad_cons (pd_op op_sub do_sub (pd_callB call_lenA dc_lenA rfl T.f_len bb_len (pad_cons (pd_blocks T.cl (pd_var 0)) pad_nil)) pd_int) pad_nil)))))) (pssd_one psd_never) pssd_nil) (pssd_one (psd_ret (pd_ix (pd_blocks T.cl (pd_var 0)) (pd_var 1)))))
theorem sc_Blocks_getitem : FnScope N_Blocks_getitem ["self", "block"] (C8.fnScope (mem 19 3)) := C8.fnScope_by (by decide +kernel)
theorem fr_getitem (T : Txt P w K mg cs cB aZ) {base : Heap} : FnR P w K mg base C8.CX0 2 (T.me_getitem).1 (spW ⟨P, w, K, cs⟩ F_getitem) := meth_d (T.md_getitem) (fun _ _ _ _ _ _ us hl => match us, hl with | [_, _], _ => rfl) sc_Blocks_getitem rfl rfl (by decide) (bd_Blocks_getitem T base _)

/-! ### Blocks.rows -/
def N_Blocks_rows : List Str := ["self", "block"]
theorem nd_Blocks_rows : N_Blocks_rows.Nodup := by decide +kernel
noncomputable def b_Blocks_rows : WS := (wRet (wOp ixD (wSubP F_getitem (wVar 0) (wVar 1)) (wNeg (wC (.int 2)))))
noncomputable def F_rows : List D → Wp D := fnW 2 0 b_Blocks_rows
theorem bd_Blocks_rows (T : Txt P w K mg cs cB aZ) (base : Heap) (f : Addr) : BodyOk P w K mg base cs 3 N_Blocks_rows "Blocks.rows" (mem 19 5) f [] b_Blocks_rows := fun cdv A outer s H E hr =>
  (pssd_one (psd_ret (pd_ix (pd_subP T.cl T.me_getitem.2 (fnIn_of T.md_getitem) (fr_getitem T) hr (by decide) (pd_var 0) (pd_var 1)) (pd_neg pd_int))))
theorem sc_Blocks_rows : FnScope N_Blocks_rows ["self", "block"] (C8.fnScope (mem 19 5)) := C8.fnScope_by (by decide +kernel)
theorem fr_rows (T : Txt P w K mg cs cB aZ) {base : Heap} : FnR P w K mg base C8.CX0 4 (T.me_rows).1 (spW ⟨P, w, K, cs⟩ F_rows) := meth_d (T.md_rows) (fun _ _ _ _ _ _ us hl => match us, hl with | [_, _], _ => rfl) sc_Blocks_rows rfl rfl (by decide) (bd_Blocks_rows T base _)

/-! ### Blocks.end -/
def N_Blocks_end : List Str := ["self", "block"]
theorem nd_Blocks_end : N_Blocks_end.Nodup := by decide +kernel
noncomputable def b_Blocks_end : WS := (wRet (wOp ixD (wSubP F_getitem (wVar 0) (wVar 1)) (wNeg (wC (.int 1)))))
noncomputable def F_end : List D → Wp D := fnW 2 0 b_Blocks_end
theorem bd_Blocks_end (T : Txt P w K mg cs cB aZ) (base : Heap) (f : Addr) : BodyOk P w K mg base cs 3 N_Blocks_end "Blocks.end" (mem 19 6) f [] b_Blocks_end := fun cdv A outer s H E hr =>
  (pssd_one (psd_ret (pd_ix (pd_subP T.cl T.me_getitem.2 (fnIn_of T.md_getitem) (fr_getitem T) hr (by decide) (pd_var 0) (pd_var 1)) (pd_neg pd_int))))
theorem sc_Blocks_end : FnScope N_Blocks_end ["self", "block"] (C8.fnScope (mem 19 6)) := C8.fnScope_by (by decide +kernel)
theorem fr_end (T : Txt P w K mg cs cB aZ) {base : Heap} : FnR P w K mg base C8.CX0 4 (T.me_end).1 (spW ⟨P, w, K, cs⟩ F_end) := meth_d (T.md_end) (fun _ _ _ _ _ _ us hl => match us, hl with | [_, _], _ => rfl) sc_Blocks_end rfl rfl (by decide) (bd_Blocks_end T base _)

end Rr
/-! registerrooms: the draws: * // **, the draws' list. -/
namespace Rr
open PySem PySem.Spec PyProof.Rows L2
section
variable {X : Cx} {cs : Cs} {c : Ctx}
def mulD : D → D → Wp D
  | .int i, .int j => .chk (CMul i j) (.ret (.int (i * j)))
  | _, _ => .fail
theorem do_mul : DOp c (rI CMul fun i j => .int (i * j)) mulD := by
  intro dr G H x y dx dy Q b rx ry h
  unfold mulD at h
  split at h
  · exact ⟨_, _, rx.int_of, ry.int_of, h.1, h.2 _ G H (Step.refl b) (.int _)⟩
  · exact h.elim
def fdivD : D → D → Wp D
  | .int i, .int j => .chk (CDivW i j) (.ret (.int (i / j)))
  | _, _ => .fail
theorem do_fdiv : DOp c (rI CDivW fun i j => .int (i / j)) fdivD := by
  intro dr G H x y dx dy Q b rx ry h
  unfold fdivD at h
  split at h
  · exact ⟨_, _, rx.int_of, ry.int_of, h.1, h.2 _ G H (Step.refl b) (.int _)⟩
  · exact h.elim
def powD : D → D → Wp D
  | .int i, .int j => .chk (CPow i j) (.ret (.int (i ^ j.toNat)))
  | _, _ => .fail
theorem do_pow : DOp c (rI CPow fun i j => .int (i ^ j.toNat)) powD := by
  intro dr G H x y dx dy Q b rx ry h
  unfold powD at h
  split at h
  · exact ⟨_, _, rx.int_of, ry.int_of, h.1, h.2 _ G H (Step.refl b) (.int _)⟩
  · exact h.elim
/-! ### the draws' list -/
def isDrw : D → Prop
  | .drw => True
  | _ => False
def wDrw0 (w : WE) : WE := fun ρ => (w ρ).bind fun d => .chk (isDrw d) ((Wp.any fun ns : List Int => ns.length ≤ 63).bind fun ns => .ret (.lst (ns.map .int)))
def wDrw1 (w : WE) : WE := fun ρ => (w ρ).bind fun d => .chk (isDrw d) (.ret (.int 0))
def wDrw2 (w : WE) : WE := fun ρ => (w ρ).bind fun d => .chk (isDrw d) ((Wp.any fun n : Int => 0 ≤ n).bind fun n => .ret (.int n))
theorem R.drw_of {dr : Addr} {G : Hp} {v : V} {d : D} (r : R c dr G v d) (h : isDrw d) : v = .ref dr ∧ d = .drw := by
  cases r <;> first | exact h.elim | exact ⟨rfl, rfl⟩
theorem pd_drw0 {e : Expr} {w : WE} {k : Nat} {p pos : Pos} (h : PD X cs e w) : PD X cs (.Subscript e (.Constant (.int 0) k p) pos) (wDrw0 w) :=
  pe_of (pe_ix ix_A h pe_int fun _ _ => rfl) fun σ H Q ⟨dr, G, ρ, b, ev, h⟩ => by
    refine tD_seq b ev h fun d v G1 H1 s1 e1 r1 k1 => ?_
    obtain ⟨kd, k1⟩ := k1
    obtain ⟨rfl, rfl⟩ := r1.drw_of kd
    obtain ⟨d0, s, n, ns, h1, h2, h3, h4⟩ := s1.base.draw
    exact .inl ⟨_, _, 0, _, rfl, rfl, SqL.of h1, rfl, k1 ns h4 _ G1 H1 s1 (.lst h3 (Rs.ints ns))⟩
theorem pd_drw1 {e : Expr} {w : WE} {k : Nat} {p pos : Pos} (h : PD X cs e w) : PD X cs (.Subscript e (.Constant (.int 1) k p) pos) (wDrw1 w) :=
  pe_of (pe_ix ix_A h pe_int fun _ _ => rfl) fun σ H Q ⟨dr, G, ρ, b, ev, h⟩ => by
    refine tD_seq b ev h fun d v G1 H1 s1 e1 r1 k1 => ?_
    obtain ⟨kd, k1⟩ := k1
    obtain ⟨rfl, rfl⟩ := r1.drw_of kd
    obtain ⟨d0, s, n, ns, h1, h2, h3, h4⟩ := s1.base.draw
    exact .inl ⟨_, _, 1, _, rfl, rfl, SqL.of h1, rfl, k1 _ G1 H1 s1 (.int 0)⟩
theorem pd_drw2 {e : Expr} {w : WE} {k : Nat} {p pos : Pos} (h : PD X cs e w) : PD X cs (.Subscript e (.Constant (.int 2) k p) pos) (wDrw2 w) :=
  pe_of (pe_ix ix_A h pe_int fun _ _ => rfl) fun σ H Q ⟨dr, G, ρ, b, ev, h⟩ => by
    refine tD_seq b ev h fun d v G1 H1 s1 e1 r1 k1 => ?_
    obtain ⟨kd, k1⟩ := k1
    obtain ⟨rfl, rfl⟩ := r1.drw_of kd
    obtain ⟨d0, s, n, ns, h1, h2, h3, h4⟩ := s1.base.draw
    exact .inl ⟨_, _, 2, _, rfl, rfl, SqL.of h1, rfl, k1 n h2 _ G1 H1 s1 (.int n)⟩
def wDrwSet (wv wd : WE) : WS := fun ρ => (wv ρ).bind fun v => (wd ρ).bind fun d => match v with
  | .int n => .chk (isDrw d ∧ 0 ≤ n) (.ret (.nx ρ))
  | _ => .fail
theorem Step.count {dr : Addr} {G H : Hp} (b : Base dr G H) {n : Int} (hn : 0 ≤ n) : ∃ s m, H dr = some (.lst [.ref s, .int 0, .int m]) ∧ Step dr G H G (upd H dr (.lst [.ref s, .int 0, .int n])) := by
  obtain ⟨d0, s, m, ns, h1, h2, h3, h4⟩ := b.draw
  refine ⟨s, m, h1, fun a o na h => by rw [upd_ne na]; exact h, Same.refl _, ⟨fun a o h => ?_, d0, s, n, ns, upd_same, hn, h3, h4⟩, fun a h => .inl h, fun z q h => ?_⟩
  · have na : a ≠ dr := fun e => by rw [e, d0] at h; cases h
    rw [upd_ne na]
    exact b.sub a o h
  · rw [h1] at h
    cases h
    exact ⟨n, upd_same⟩
theorem psd_drw {W : List Nat} {x : Expr} {e : Expr} {wv wd : WE} {k : Nat} {p tpos pos : Pos} (hvv : PSE X cs W e wv) (hx : PD X cs x wd)
    (ha : ∀ v, assign (.Subscript x (.Constant (.int 2) k p) tpos) X.env v = (do
      let ov ← holding [v] (eval x X.env)
      let iv ← holding [v, ov] (eval (.Constant (.int 2) k p) X.env)
      standAt tpos
      holding [v, ov, iv] (setItem ov iv v)
      release [v, ov, iv] []) := by intro _; rfl)
    (hs : swapsWithSole [.Subscript x (.Constant (.int 2) k p) tpos] e pos.line X.env = pure false := by rfl) (hw : swappedStores [.Subscript x (.Constant (.int 2) k p) tpos] e X.env = pure none := by rfl)
    (h1 : (assignEach [.Subscript x (.Constant (.int 2) k p) tpos] X.env).map (·.2) = [assign (.Subscript x (.Constant (.int 2) k p) tpos) X.env] := by rfl) : PSD X cs W (.Assign [.Subscript x (.Constant (.int 2) k p) tpos] e pos) (wDrwSet wv wd) :=
  ps_of (ps_asg hvv (pg_sub hx pe_int set_list ha) hs hw h1) fun D σ H ⟨dr, G0, H0, G, ρ, S, h⟩ => by
    refine ⟨dr, G0, H0, G, ρ, S, (wv ρ).mono (fun d kk v G1 H1 s1 S1 r1 => ?_) h⟩
    have S2 := S1.fz
    refine ⟨dr, _, ρ, S2.base, S1.fzE, (wd ρ).mono (fun dd kk2 v2 G2 H2 s2 r2 => ?_) kk⟩
    obtain ⟨S3, sg, _⟩ := S1.keep2 s2
    cases d with
    | int n =>
      obtain ⟨⟨kd, hn⟩, kk2⟩ := kk2
      obtain ⟨rfl, rfl⟩ := r2.drw_of kd
      cases r1.int_of
      obtain ⟨s, m, hd, st⟩ := Step.count S3.step.base hn
      refine ⟨dr, _, 2, 2, rfl, rfl, hd, rfl, ?_⟩
      exact kk2 σ _ _ (s1.trans sg) (S3.keep1 st)
    | _ => exact kk2.elim
end
end Rr
/-! registerrooms: defs, printed by gen.py. -/
namespace Rr
open PySem PySem.Spec PyProof.Rows L2
variable {P : Program} {w : World} {K : PySem.W.Frag} {mg : Str → Option Value} {cs : Cs} {cB aZ : Addr}
/-! ### _law_cell_at -/
def N__law_cell_at : List Str := ["_law_script", "_law_k"]
theorem nd__law_cell_at : N__law_cell_at.Nodup := by decide +kernel
noncomputable def b__law_cell_at : WS := (wSeq (wIfS (wB (wOp ltD (wVar 1) (wCall lenA (wCons (wVar 0) wNil)))) (wRet (wOp ixD (wVar 0) (wVar 1))) wNext) (wRet (wC (.int 0))))
noncomputable def F__law_cell_at : List D → Wp D := fnW 2 0 b__law_cell_at
theorem bd__law_cell_at (T : Txt P w K mg cs cB aZ) (base : Heap) (f : Addr) : BodyOk P w K mg base cs 0 N__law_cell_at "_law_cell_at" (top 51) f [] b__law_cell_at := fun cdv A outer s H E hr =>
  (pssd_cons (psd_if (ptd_cmp op_lt do_lt (pd_var 1) (pd_callB call_lenA dc_lenA rfl T.f_len bb_len (pad_cons (pd_var 0) pad_nil)) (nobehind _ (by decide) (by decide))) (pssd_one (psd_ret (pd_ix (pd_var 0) (pd_var 1)))) pssd_nil) (pssd_one (psd_ret pd_int)))
theorem sc__law_cell_at : FnScope N__law_cell_at ["_law_script", "_law_k"] (C8.fnScope (top 51)) := C8.fnScope_by (by decide +kernel)
theorem ok__law_cell_at (T : Txt P w K mg cs cB aZ) {base : Heap} : C8.Cal P w K mg base 1 "_law_cell_at" (spW ⟨P, w, K, cs⟩ F__law_cell_at) [] := cal_d T.d__law_cell_at (fun _ _ _ _ _ _ us hl => match us, hl with | [_, _], _ => rfl) sc__law_cell_at rfl rfl (by decide) (bd__law_cell_at T base)

/-! ### _law_draw -/
def N__law_draw : List Str := ["_law_cell", "_law_k", "_law_bound", "_law_primes"]
theorem nd__law_draw : N__law_draw.Nodup := by decide +kernel
noncomputable def b__law_draw : WS := (wSeq (wAsg (mk [] (wTup (wCons (wC (.int 1000003)) (wCons (wC (.int 1000033)) (wCons (wC (.int 1000037)) (wCons (wC (.int 1000039)) (wCons (wC (.int 1000081)) (wCons (wC (.int 1000099)) (wCons (wC (.int 1000117)) (wCons (wC (.int 1000121)) (wCons (wC (.int 1000133)) (wCons (wC (.int 1000151)) (wCons (wC (.int 1000159)) (wCons (wC (.int 1000171)) (wCons (wC (.int 1000183)) (wCons (wC (.int 1000187)) (wCons (wC (.int 1000193)) (wCons (wC (.int 1000199)) wNil)))))))))))))))))) setN [3]) (wRet (wOp modD (wOp modD (wCall intD (wCons (wOp addD (wOp mulD (wVar 0) (wC (.int 48271))) (wOp mulD (wVar 1) (wC (.int 69621)))) wNil)) (wOp ixD (wVar 3) (wOp modD (wCall intD (wCons (wVar 1) wNil)) (wC (.int 16))))) (wVar 2))))
noncomputable def F__law_draw : List D → Wp D := fnW 3 1 b__law_draw
theorem bd__law_draw (T : Txt P w K mg cs cB aZ) (base : Heap) (f : Addr) : BodyOk P w K mg base cs 0 N__law_draw "_law_draw" (top 52) f [] b__law_draw := fun cdv A outer s H E hr =>
  (pssd_cons (psd_asg (pse1 (pd_tup (pad_cons pd_int (pad_cons pd_int (pad_cons pd_int (pad_cons pd_int (pad_cons pd_int (pad_cons pd_int (pad_cons pd_int (pad_cons pd_int (pad_cons pd_int (pad_cons pd_int (pad_cons pd_int (pad_cons pd_int (pad_cons pd_int (pad_cons pd_int (pad_cons pd_int (pad_cons pd_int pad_nil)))))))))))))))))) (pgd_name 3 nd__law_draw)) (pssd_one (psd_ret (pd_op op_mod do_mod (pd_op op_mod do_mod (pd_callTy call_int1 dc_int rfl T.f_int bb_int (pad_cons (pd_op op_addA do_add (pd_op op_mul do_mul (pd_var 0) pd_int) (pd_op op_mul do_mul (pd_var 1) pd_int)) pad_nil)) (pd_ix (pd_var 3) (pd_op op_mod do_mod (pd_callTy call_int1 dc_int rfl T.f_int bb_int (pad_cons (pd_var 1) pad_nil)) pd_int))) (pd_var 2)))))
theorem sc__law_draw : FnScope N__law_draw ["_law_cell", "_law_k", "_law_bound"] (C8.fnScope (top 52)) := C8.fnScope_by (by decide +kernel)
theorem ok__law_draw (T : Txt P w K mg cs cB aZ) {base : Heap} : C8.Cal P w K mg base 1 "_law_draw" (spW ⟨P, w, K, cs⟩ F__law_draw) [] := cal_d T.d__law_draw (fun _ _ _ _ _ _ us hl => match us, hl with | [_, _, _], _ => rfl) sc__law_draw rfl rfl (by decide) (bd__law_draw T base)

/-! ### _law_number -/
def N__law_number : List Str := ["_law_cell", "_law_k", "_law_bound", "_law_power", "_law_lap", "_law_remains", "_law_small"]
theorem nd__law_number : N__law_number.Nodup := by decide +kernel
noncomputable def b__law_number : WS := (wSeq (wAsg (mk [] (wC (.int 1))) setN [3]) (wSeq (wFor (mk [] (wRng1 (wCons (wOp modD (wCall intD (wCons (wVar 1) wNil)) (wC (.int 24))) wNil))) setN [4] (wAsg (mk [] (wOp mulD (wVar 3) (wC (.int 1009)))) setN [3])) (wSeq (wAsg (mk [] (wOp fdivD (wOp subD (wVar 0) (wOp powD (wC (.int 10)) (wC (.int 18)))) (wVar 3))) setN [5]) (wSeq (wIfS (wB (wOp gtD (wVar 5) (wC (.int 0)))) (wRet (wOp modD (wOp modD (wCall intD (wCons (wVar 5) wNil)) (wC (.int 1009))) (wVar 2))) wNext) (wSeq (wAsg (mk [] (wOp modD (wCall intD (wCons (wVar 0) wNil)) (wC (.int 1000003)))) setN [6]) (wRet (wOp modD (wCall F__law_draw (wCons (wOp mulD (wOp addD (wVar 6) (wOp mulD (wC (.int 977)) (wVar 1))) (wOp addD (wOp addD (wVar 6) (wOp mulD (wC (.int 31)) (wVar 1))) (wC (.int 5)))) (wCons (wOp addD (wOp modD (wCall intD (wCons (wVar 1) wNil)) (wC (.int 9))) (wC (.int 1))) (wCons (wC (.int 999983)) wNil)))) (wVar 2))))))))
noncomputable def F__law_number : List D → Wp D := fnW 3 4 b__law_number
theorem bd__law_number (T : Txt P w K mg cs cB aZ) (base : Heap) (f : Addr) : BodyOk P w K mg base cs 1 N__law_number "_law_number" (top 53) f [] b__law_number := fun cdv A outer s H E hr =>
  (pssd_cons (psd_asg (pse1 pd_int) (pgd_name 3 nd__law_number)) (pssd_cons (psd_for PassesOwn.never rfl (psi1 (pid_range1 rfl T.f_range (pad_cons (pd_op op_mod do_mod (pd_callTy call_int1 dc_int rfl T.f_int bb_int (pad_cons (pd_var 1) pad_nil)) pd_int) pad_nil))) (pgd_name 4 nd__law_number) (pssd_one (psd_asg (pse1 (pd_op op_mul do_mul (pd_var 3) pd_int)) (pgd_name 3 nd__law_number)))) (pssd_cons (psd_asg (pse1 (pd_op op_fdivW do_fdiv (pd_op op_sub do_sub (pd_var 0) (pd_op op_pow do_pow pd_int pd_int)) (pd_var 3))) (pgd_name 5 nd__law_number)) (pssd_cons (psd_if (ptd_cmp op_gt do_gt (pd_var 5) pd_int (nobehind _ (by decide) (by decide))) (pssd_one (psd_ret (pd_op op_mod do_mod (pd_op op_mod do_mod (pd_callTy call_int1 dc_int rfl T.f_int bb_int (pad_cons (pd_var 5) pad_nil)) pd_int) (pd_var 2)))) pssd_nil) (pssd_cons (psd_asg (pse1 (pd_op op_mod do_mod (pd_callTy call_int1 dc_int rfl T.f_int bb_int (pad_cons (pd_var 0) pad_nil)) pd_int)) (pgd_name 6 nd__law_number)) (pssd_one (psd_ret (pd_op op_mod do_mod (pd_call (ok__law_draw T) hr (by decide) rfl (pad_cons (pd_op op_mul do_mul (pd_op op_addA do_add (pd_var 6) (pd_op op_mul do_mul pd_int (pd_var 1))) (pd_op op_addA do_add (pd_op op_addA do_add (pd_var 6) (pd_op op_mul do_mul pd_int (pd_var 1))) pd_int)) (pad_cons (pd_op op_addA do_add (pd_op op_mod do_mod (pd_callTy call_int1 dc_int rfl T.f_int bb_int (pad_cons (pd_var 1) pad_nil)) pd_int) pd_int) (pad_cons pd_int pad_nil)))) (pd_var 2)))))))))
theorem sc__law_number : FnScope N__law_number ["_law_cell", "_law_k", "_law_bound"] (C8.fnScope (top 53)) := C8.fnScope_by (by decide +kernel)
theorem ok__law_number (T : Txt P w K mg cs cB aZ) {base : Heap} : C8.Cal P w K mg base 2 "_law_number" (spW ⟨P, w, K, cs⟩ F__law_number) [] := cal_d T.d__law_number (fun _ _ _ _ _ _ us hl => match us, hl with | [_, _, _], _ => rfl) sc__law_number rfl rfl (by decide) (bd__law_number T base)

/-! ### _law_next -/
def N__law_next : List Str := ["_law_draw_here", "_law_bound", "_law_at", "_law_cell"]
theorem nd__law_next : N__law_next.Nodup := by decide +kernel
noncomputable def b__law_next : WS := (wSeq (wDrwSet (mk [] (wOp addD (wDrw2 (wVar 0)) (wC (.int 1)))) (wVar 0)) (wSeq (wAsg (mk [] (wOp fdivD (wDrw2 (wVar 0)) (wC (.int 12)))) setN [2]) (wSeq (wAsg (mk [] (wOp addD (wCall F__law_cell_at (wCons (wDrw0 (wVar 0)) (wCons (wOp addD (wDrw1 (wVar 0)) (wVar 2)) wNil))) (wOp mulD (wC (.int 31)) (wVar 2)))) setN [3]) (wRet (wCall F__law_number (wCons (wVar 3) (wCons (wOp addD (wOp modD (wCall intD (wCons (wDrw2 (wVar 0)) wNil)) (wC (.int 12))) (wC (.int 1))) (wCons (wVar 1) wNil))))))))
noncomputable def F__law_next : List D → Wp D := fnW 2 2 b__law_next
theorem bd__law_next (T : Txt P w K mg cs cB aZ) (base : Heap) (f : Addr) : BodyOk P w K mg base cs 2 N__law_next "_law_next" (top 54) f [] b__law_next := fun cdv A outer s H E hr =>
  (pssd_cons (psd_drw (pse1 (pd_op op_addA do_add (pd_drw2 (pd_var 0)) pd_int)) (pd_var 0)) (pssd_cons (psd_asg (pse1 (pd_op op_fdivW do_fdiv (pd_drw2 (pd_var 0)) pd_int)) (pgd_name 2 nd__law_next)) (pssd_cons (psd_asg (pse1 (pd_op op_addA do_add (pd_call (ok__law_cell_at T) hr (by decide) rfl (pad_cons (pd_drw0 (pd_var 0)) (pad_cons (pd_op op_addA do_add (pd_drw1 (pd_var 0)) (pd_var 2)) pad_nil))) (pd_op op_mul do_mul pd_int (pd_var 2)))) (pgd_name 3 nd__law_next)) (pssd_one (psd_ret (pd_call (ok__law_number T) hr (by decide) rfl (pad_cons (pd_var 3) (pad_cons (pd_op op_addA do_add (pd_op op_mod do_mod (pd_callTy call_int1 dc_int rfl T.f_int bb_int (pad_cons (pd_drw2 (pd_var 0)) pad_nil)) pd_int) pd_int) (pad_cons (pd_var 1) pad_nil)))))))))
theorem sc__law_next : FnScope N__law_next ["_law_draw_here", "_law_bound"] (C8.fnScope (top 54)) := C8.fnScope_by (by decide +kernel)
theorem ok__law_next (T : Txt P w K mg cs cB aZ) {base : Heap} : C8.Cal P w K mg base 3 "_law_next" (spW ⟨P, w, K, cs⟩ F__law_next) [] := cal_d T.d__law_next (fun _ _ _ _ _ _ us hl => match us, hl with | [_, _], _ => rfl) sc__law_next rfl rfl (by decide) (bd__law_next T base)

end Rr
/-! registerrooms: defs, printed by gen.py. -/
namespace Rr
open PySem PySem.Spec PyProof.Rows L2
variable {P : Program} {w : World} {K : PySem.W.Frag} {mg : Str → Option Value} {cs : Cs} {cB aZ : Addr}
/-! ### _law_pick -/
def N__law_pick : List Str := ["_law_draw_here", "_law_things"]
theorem nd__law_pick : N__law_pick.Nodup := by decide +kernel
noncomputable def b__law_pick : WS := (wRet (wOp ixD (wVar 1) (wCall F__law_next (wCons (wVar 0) (wCons (wCall lenA (wCons (wVar 1) wNil)) wNil)))))
noncomputable def F__law_pick : List D → Wp D := fnW 2 0 b__law_pick
theorem bd__law_pick (T : Txt P w K mg cs cB aZ) (base : Heap) (f : Addr) : BodyOk P w K mg base cs 3 N__law_pick "_law_pick" (top 55) f [] b__law_pick := fun cdv A outer s H E hr =>
  (pssd_one (psd_ret (pd_ix (pd_var 1) (pd_call (ok__law_next T) hr (by decide) rfl (pad_cons (pd_var 0) (pad_cons (pd_callB call_lenA dc_lenA rfl T.f_len bb_len (pad_cons (pd_var 1) pad_nil)) pad_nil))))))
theorem sc__law_pick : FnScope N__law_pick ["_law_draw_here", "_law_things"] (C8.fnScope (top 55)) := C8.fnScope_by (by decide +kernel)
theorem ok__law_pick (T : Txt P w K mg cs cB aZ) {base : Heap} : C8.Cal P w K mg base 4 "_law_pick" (spW ⟨P, w, K, cs⟩ F__law_pick) [] := cal_d T.d__law_pick (fun _ _ _ _ _ _ us hl => match us, hl with | [_, _], _ => rfl) sc__law_pick rfl rfl (by decide) (bd__law_pick T base)

end Rr
/-! registerrooms: _law_outs, by hand: a list of lists, all owned. -/
namespace Rr
open PySem PySem.Spec PyProof.Rows L2
section
variable {c : Ctx} {dr : Addr} {G0 H0 G H G' H' : Hp} {Ow : Addr → Prop}
open Classical in
noncomputable def frz (Ow : Addr → Prop) (G H : Hp) : Hp := fun b => if Ow b then H b else G b
open Classical in
noncomputable def unf (Ow : Addr → Prop) (G : Hp) : Hp := fun b => if Ow b then none else G b
theorem frz_in {a : Addr} (h : Ow a) : frz Ow G H a = H a := if_pos h
theorem frz_sub (ho : ∀ a, Ow a → G a = none) : Same G (frz Ow G H) := fun a o h => by
  unfold frz
  rw [if_neg fun z => by rw [ho a z] at h; cases h]
  exact h
theorem Step.frz (b : Base dr G0 H0) (s : Step dr G0 H0 G H) (ho : ∀ a, Ow a → G a = none ∧ H0 a = none) : Step dr G0 H0 (frz Ow G H) H := by
  have sg : Same G (Rr.frz Ow G H) := frz_sub fun a z => (ho a z).1
  refine ⟨s.hs, s.gs.trans sg, ⟨fun a o h => ?_, ?_⟩, fun a h => ?_, s.dsc⟩
  · unfold Rr.frz at h
    split at h
    · exact h
    · exact s.base.sub a o h
  · obtain ⟨d0, s1, n, ns, h1, h2, h3, h4⟩ := s.base.draw
    refine ⟨?_, s1, n, ns, h1, h2, sg _ _ h3, h4⟩
    unfold Rr.frz
    rw [if_neg fun z => b.hdr (ho _ z).2]
    exact d0
  · unfold Rr.frz at h
    split at h
    · exact .inr (ho a (by assumption)).2
    · exact s.new a h
theorem Step.unf (b : Base dr G0 H0) (s : Step dr G0 H0 G H) (ho : ∀ a, Ow a → G a = none ∧ H0 a = none ∧ H a ≠ none) (t : Step dr (Rr.frz Ow G H) H G' H') :
    Step dr G0 H0 (unf Ow G') H' ∧ Same G (unf Ow G') ∧ ∀ a, Ow a → H' a = H a := by
  have sg : Same G (Rr.unf Ow G') := fun a o h => by
    unfold Rr.unf
    rw [if_neg fun z => by rw [(ho a z).1] at h; cases h]
    exact t.gs _ _ (frz_sub (fun a z => (ho a z).1) _ _ h)
  have nd : ∀ a, Ow a → a ≠ dr := fun a z e => b.hdr (e ▸ (ho a z).2.1)
  refine ⟨⟨fun a o n h => t.hs a o n (s.hs a o n h), s.gs.trans sg, ⟨fun a o h => ?_, ?_⟩, fun a h => ?_, fun z n h => ?_⟩, sg, fun a z => ?_⟩
  · unfold Rr.unf at h
    split at h
    · cases h
    · exact t.base.sub a o h
  · obtain ⟨d0, s1, n, ns, h1, h2, h3, h4⟩ := s.base.draw
    obtain ⟨n', h5⟩ := t.dsc s1 n h1
    obtain ⟨d1, s', m, ms, h6, h7, _, _⟩ := t.base.draw
    rw [h5] at h6
    simp only [Option.some.injEq, HO.lst.injEq, List.cons.injEq, V.ref.injEq, V.int.injEq, and_true, true_and] at h6
    obtain ⟨rfl, rfl⟩ := h6
    refine ⟨?_, s1, n', ns, h5, h7, sg _ _ h3, h4⟩
    unfold Rr.unf
    rw [if_neg fun z => nd _ z rfl]
    exact d1
  · unfold Rr.unf at h
    split at h
    · exact absurd rfl h
    · rename_i no
      rcases t.new a h with z | z
      · unfold Rr.frz at z
        rw [if_neg no] at z
        exact s.new a z
      · exact .inr (s.none0 b z)
  · obtain ⟨m, q⟩ := s.dsc z n h
    exact t.dsc z m q
  · cases e : H a with
    | none => exact absurd e (ho a z).2.2
    | some o => exact t.hs a o (nd a z) e
end

/-! ### what it does -/
noncomputable def ouPick : WE := (wCall F__law_pick (wCons (wVar 0) (wCons (wLc (wRng1 (wCons (wVar 3) wNil)) setN [4] [4] (wB (wOp ltD (wCall lenA (wCons (wOp ixD (wVar 2) (wVar 4)) wNil)) (wC (.int 2)))) (wVar 4)) wNil)))
def ouD (os : List (List Int)) : D := .lst (os.map fun o => .lst (o.map .int))
def ouEnv (os : List (List Int)) (k : Int) : Env := [some .drw, none, some (ouD os), some (.int k), none]
noncomputable def ouStep (k : Int) (os : List (List Int)) : Wp (List (List Int)) := (ouPick (ouEnv os k)).bind fun d => match d with
  | .int i => (Wp.opt (ixN os.length i)).bind fun j => (Wp.opt os[j]?).bind fun o => .chk (o.length < 1000) (.ret (os.set j (o ++ [k])))
  | _ => .fail
noncomputable def ouLoop : List D → List (List Int) → Wp (List (List Int))
  | [], os => .ret os
  | .int k :: r, os => (ouStep k os).bind fun os => ouLoop r os
  | _ :: _, _ => .fail
noncomputable def F__law_outs : List D → Wp D
  | [.drw, .int n] => .chk (0 ≤ n ∧ n ≤ 1000) ((ouLoop (rangeD 1 (n - 1).toNat) (List.replicate n.toNat [])).bind fun os => .ret (ouD os))
  | _ => .fail
/-! ### its state -/
structure Ou (c : Ctx) (dr : Addr) (G0 H0 : Hp) (a : Addr) (xs : List Addr) (n : Int) (os : List (List Int)) (σ : L2.St) (H G : Hp) : Prop where
  base : Base dr G0 H0
  step : Step dr G0 H0 G H
  s0 : σ[0]? = some (some (.ref dr))
  s1 : σ[1]? = some (some (.int n))
  s2 : σ[2]? = some (some (.ref a))
  ha : H a = some (.lst (xs.map .ref))
  oa : G a = none ∧ H0 a = none
  na : a ∉ xs
  nd : xs.Nodup
  lx : xs.length = os.length
  hx : ∀ (i : Nat) (x : Addr) (o : List Int), xs[i]? = some x → os[i]? = some o → H x = some (.lst (o.map .int)) ∧ G x = none ∧ H0 x = none
  len : σ.length = 5
section
variable {c : Ctx} {dr a : Addr} {G0 H0 G H G' H' : Hp} {xs : List Addr} {n : Int} {os : List (List Int)} {σ : L2.St}
abbrev OwO (a : Addr) (xs : List Addr) (b : Addr) : Prop := b = a ∨ b ∈ xs
theorem Ou.own (A : Ou c dr G0 H0 a xs n os σ H G) : ∀ b, OwO a xs b → G b = none ∧ H0 b = none ∧ H b ≠ none := by
  rintro b (rfl | h)
  · exact ⟨A.oa.1, A.oa.2, by rw [A.ha]; exact fun z => nomatch z⟩
  · obtain ⟨i, hi⟩ := List.mem_iff_getElem?.mp h
    have l : i < os.length := by rw [← A.lx]; exact (List.getElem?_eq_some_iff.mp hi).1
    obtain ⟨h1, h2, h3⟩ := A.hx i b _ hi (List.getElem?_eq_getElem l)
    exact ⟨h2, h3, by rw [h1]; exact fun z => nomatch z⟩
theorem Ou.frz (A : Ou c dr G0 H0 a xs n os σ H G) : Step dr G0 H0 (Rr.frz (OwO a xs) G H) H := Step.frz A.base A.step fun b z => ⟨(A.own b z).1, (A.own b z).2.1⟩
theorem ou_rs {F : Hp} : ∀ {xs : List Addr} {os : List (List Int)}, xs.length = os.length → (∀ (i : Nat) (x : Addr) (o : List Int), xs[i]? = some x → os[i]? = some o → F x = some (.lst (o.map .int))) → Rs c dr F (xs.map .ref) (os.map fun o => .lst (o.map .int))
  | [], [], _, _ => .nil
  | x :: xs, o :: os, l, h => .cons (.lst (h 0 x o rfl rfl) (Rs.ints o)) (ou_rs (by simpa using l) fun i x o h1 h2 => h (i + 1) x o h1 h2)
theorem Ou.rd (A : Ou c dr G0 H0 a xs n os σ H G) : R c dr (Rr.frz (OwO a xs) G H) (.ref a) (ouD os) := by
  refine .lst ((frz_in (.inl rfl)).trans A.ha) (ou_rs A.lx fun i x o h1 h2 => ?_)
  exact (frz_in (Or.inr (List.mem_of_getElem? h1) : OwO a xs x)).trans (A.hx i x o h1 h2).1
theorem Ou.unf (A : Ou c dr G0 H0 a xs n os σ H G) (t : Step dr (Rr.frz (OwO a xs) G H) H G' H') : Ou c dr G0 H0 a xs n os σ H' (Rr.unf (OwO a xs) G') ∧ Same G (Rr.unf (OwO a xs) G') := by
  obtain ⟨s1, s2, s3⟩ := Step.unf A.base A.step A.own t
  have un : ∀ b, OwO a xs b → Rr.unf (OwO a xs) G' b = none := fun b z => if_pos z
  refine ⟨⟨A.base, s1, A.s0, A.s1, A.s2, (s3 a (.inl rfl)).trans A.ha, ⟨un a (.inl rfl), A.oa.2⟩, A.na, A.nd, A.lx, fun i x o h1 h2 => ?_, A.len⟩, s2⟩
  obtain ⟨q1, q2, q3⟩ := A.hx i x o h1 h2
  have m : OwO a xs x := .inr (List.mem_of_getElem? h1)
  exact ⟨(s3 x m).trans q1, un x m, q3⟩
theorem Ou.keep (A : Ou c dr G0 H0 a xs n os σ H G) (t : Step dr G H G' H') : Ou c dr G0 H0 a xs n os σ H' G' := by
  have nd : ∀ b, OwO a xs b → b ≠ dr := fun b z e => A.base.hdr (e ▸ (A.own b z).2.1)
  have k : ∀ b o, OwO a xs b → H b = some o → H' b = some o := fun b o z h => t.hs b o (nd b z) h
  have g : ∀ b, OwO a xs b → G' b = none := fun b z => t.out (A.own b z).1 (A.own b z).2.2
  exact ⟨A.base, A.step.trans A.base t, A.s0, A.s1, A.s2, k _ _ (.inl rfl) A.ha, ⟨g _ (.inl rfl), A.oa.2⟩, A.na, A.nd, A.lx, fun i x o h1 h2 =>
    let ⟨q1, q2, q3⟩ := A.hx i x o h1 h2
    have m : OwO a xs x := .inr (List.mem_of_getElem? h1)
    ⟨k _ _ m q1, g _ m, q3⟩, A.len⟩
theorem Ou.put (A : Ou c dr G0 H0 a xs n os σ H G) {j : Nat} {x : Addr} {o : List Int} (hx : xs[j]? = some x) (ho : os[j]? = some o) (o' : List Int) : Ou c dr G0 H0 a xs n (os.set j o') σ (upd H x (.lst (o'.map .int))) G := by
  obtain ⟨q1, q2, q3⟩ := A.hx j x o hx ho
  have ax : a ≠ x := fun e => A.na (e ▸ List.mem_of_getElem? hx)
  refine ⟨A.base, A.step.mut A.base q3 q2, A.s0, A.s1, A.s2, by rw [upd_ne ax]; exact A.ha, A.oa, A.na, A.nd, by rw [List.length_set]; exact A.lx, fun i y p h1 h2 => ?_, A.len⟩
  by_cases e : j = i
  · subst e
    rw [hx] at h1
    cases h1
    rw [List.getElem?_set_self (List.getElem?_eq_some_iff.mp ho).1] at h2
    cases h2
    exact ⟨upd_same, q2, q3⟩
  · rw [List.getElem?_set_ne e] at h2
    obtain ⟨p1, p2, p3⟩ := A.hx i y p h1 h2
    have ne : y ≠ x := fun z => by
      subst z
      obtain ⟨l1, e1⟩ := List.getElem?_eq_some_iff.mp hx
      obtain ⟨l2, e2⟩ := List.getElem?_eq_some_iff.mp h1
      have pw := List.pairwise_iff_getElem.mp A.nd
      rcases Nat.lt_or_gt_of_ne e with z | z
      · exact pw j i l1 l2 z (e1.trans e2.symm)
      · exact pw i j l2 l1 z (e2.trans e1.symm)
    exact ⟨by rw [upd_ne ne]; exact p1, p2, p3⟩
theorem Ou.set3 (A : Ou c dr G0 H0 a xs n os σ H G) (v : V) : Ou c dr G0 H0 a xs n os (σ.set 3 (some v)) H G :=
  ⟨A.base, A.step, by rw [List.getElem?_set_ne (by decide)]; exact A.s0, by rw [List.getElem?_set_ne (by decide)]; exact A.s1, by rw [List.getElem?_set_ne (by decide)]; exact A.s2, A.ha, A.oa, A.na, A.nd, A.lx, A.hx, by rw [List.length_set]; exact A.len⟩
theorem Ou.env (A : Ou c dr G0 H0 a xs n os σ H G) {k : Int} (h3 : σ[3]? = some (some (.int k))) : EnvF c dr (Rr.frz (OwO a xs) G H) σ (ouEnv os k) := by
  refine ⟨by rw [A.len]; rfl, fun i d h => ?_⟩
  match i, h with
  | 0, h => cases h; exact ⟨_, A.s0, .drw⟩
  | 1, h => cases h
  | 2, h => cases h; exact ⟨_, A.s2, A.rd⟩
  | 3, h => cases h; exact ⟨_, h3, .int k⟩
  | 4, h => cases h
  | i + 5, h => cases h
end
end Rr

namespace Rr
open PySem PySem.Spec PyProof.Rows L2
variable {P : Program} {w : World} {K : PySem.W.Frag} {mg : Str → Option Value} {base : Heap} {cs : Cs} {cB aZ : Addr}
def N__law_outs : List Str := ["_law_draw_here", "_law_size", "_law_outs_here", "_law_block", "_law_one"]
theorem nd__law_outs : N__law_outs.Nodup := by decide +kernel
theorem sc__law_outs : FnScope N__law_outs ["_law_draw_here", "_law_size"] (C8.fnScope (top 57)) := C8.fnScope_by (by decide +kernel)
theorem atI_map {α β : Type} {f : α → β} {xs : List α} {i : Int} {j : Nat} {x : α} (h : ixN xs.length i = some j) (hx : xs[j]? = some x) : atI (xs.map f) i = some (f x) := by
  unfold atI
  rw [List.length_map, h]
  show (xs.map f)[j]? = _
  rw [List.getElem?_map, hx]
  rfl
/-- one block gets its place -/
def tOu (c : Ctx) : TS := fun D σ H => ∃ dr G0 H0 G a xs n os k, Ou c dr G0 H0 a xs n os σ H G ∧ σ[3]? = some (some (.int k)) ∧ (ouStep k os).run fun os' => ∀ H' G', Same G G' → Ou c dr G0 H0 a xs n os' σ H' G' → D.nx σ H'
theorem ou_body {X : Cx} {e : Expr} {p1 p2 p3 p4 p5 p6 : Pos} (hp : PD X cs e ouPick) (h2 : X.N[2]? = some ("_law_outs_here" : Str)) (v2 : Vis X.env.scope "_law_outs_here") (h3 : X.N[3]? = some ("_law_block" : Str)) (v3 : Vis X.env.scope "_law_block") (hpl : PlainIx e)
    (hbase : attributeBase (.Subscript (.Name "_law_outs_here" p1) e p2) "append" X.env (eval (.Subscript (.Name "_law_outs_here" p1) e p2) X.env) = eval (.Subscript (.Name "_law_outs_here" p1) e p2) X.env)
    (hfew : ((backTo p5 (starEach [.Name "_law_block" p4] X.env)).all (fun x => !x.1) && (backToKw p5 (keywordEach [] X.env)).all (fun x => x.1.isSome) && decide (([.Name "_law_block" p4] : List Expr).length + ([] : List Keyword).length + (if ([] : List Keyword).isEmpty then 0 else 1) < 30)) = true)
    (hline : (p3.endLine == p5.line) = true) (hst : starEach [.Name "_law_block" p4] X.env = (false, eval (.Name "_law_block" p4) X.env) :: starEach [] X.env) (hplain : (backTo p5 (starEach [] X.env)).any (·.1) = false)
    (hsw : swapsWith (.Call (.Attribute (.Subscript (.Name "_law_outs_here" p1) e p2) "append" p3) [.Name "_law_block" p4] [] p5) none p6.line X.env = pure false) :
    PS X (.Expr (.Call (.Attribute (.Subscript (.Name "_law_outs_here" p1) e p2) "append" p3) [.Name "_law_block" p4] [] p5) p6) (tOu (xc X cs)) :=
  ps_of (ps_expr (pe_bm F.plainAttrs_list F.slot_list_append F.type_list_append mt_append (pe_ix ix_A (pe_var h2 v2) hp hpl) (pa_cons (pe_var h3 v3) pa_nil hst) hbase hfew hline hst hplain) hsw) fun D σ H ⟨dr, G0, H0, G, a, xs, n, os, k, A, s3, h⟩ => by
    refine ⟨_, A.s2, dr, _, ouEnv os k, A.frz.base, A.env s3, (ouPick (ouEnv os k)).mono (fun d kk v G1 H1 st r => ?_) h⟩
    obtain ⟨A1, sg⟩ := A.unf st
    cases d with
    | int i =>
      cases r.int_of
      obtain ⟨j, hj, o, ho, hl, kk⟩ := kk
      have lj : j < xs.length := by rw [A1.lx]; exact (List.getElem?_eq_some_iff.mp ho).1
      have hx := List.getElem?_eq_getElem lj
      obtain ⟨q1, q2, q3⟩ := A1.hx j _ o hx ho
      refine .inl ⟨a, _, i, _, rfl, rfl, SqL.of A1.ha, atI_map (by rw [A1.lx]; exact hj) hx, ?_⟩
      refine ⟨.inl ⟨rfl, _, SqL.of q1⟩, _, s3, _, _, _, rfl, rfl, q1, line_lt (by rw [List.length_map]; omega), ?_⟩
      have A2 := A1.put hx ho (o ++ [k])
      rw [List.map_append] at A2
      exact kk _ _ sg A2
    | _ => exact kk.elim
theorem ou_args {ds : List D} {Kk : D → Prop} (h : (F__law_outs ds).run Kk) : ∃ n, ds = [.drw, .int n] ∧ (0 ≤ n ∧ n ≤ 1000) ∧ (ouLoop (rangeD 1 (n - 1).toNat) (List.replicate n.toNat [])).run fun os => Kk (ouD os) := by
  unfold F__law_outs at h
  split at h
  · exact ⟨_, rfl, h.1, h.2⟩
  · exact h.elim
theorem ok__law_outs (T : Txt P w K mg cs cB aZ) {base : Heap} : C8.Cal P w K mg base 7 "_law_outs" (spW ⟨P, w, K, cs⟩ F__law_outs) [] := by
  obtain ⟨f, fd, Fn, hm⟩ := T.d__law_outs
  refine C8.cal0 ⟨FunD.fn Fn, hm, Fn.kp⟩ (Fn.bindsN (ps := ["_law_draw_here", "_law_size"]) (fun _ _ _ _ _ _ us hl => match us, hl with | [_, _], _ => rfl)) .nil sc__law_outs (fun vs H Q E h => ?_) fun cdv A outer s H vs Q E hr h => ?_
  · obtain ⟨dr, G, ds, b, r, h⟩ := h
    obtain ⟨n, rfl, _⟩ := ou_args h
    rw [r.length]; rfl
  obtain ⟨dr, G, ds, b, r, h⟩ := h
  obtain ⟨n, rfl, hn, h⟩ := ou_args h
  obtain ⟨v0, v1, rfl, r0, r1⟩ := r.two
  obtain ⟨rfl, _⟩ := r0.drw_of trivial
  obtain rfl := r1.int_of
  refine ⟨_, pss_cons (ps_asg (pe_lc (own := [("_law_block", 3)]) (g := gD ⟨P, w, K, cs⟩ setN [3]) (tt := tDT ⟨P, w, K, cs⟩ wYes) (te := tLst tNil) rfl nd__law_outs (pid_range1 (cs := cs) rfl T.f_range (pad_cons (pd_var 1) pad_nil)) (blkOk_by (by kernel_rfl)) (fun _ _ _ _ _ => pgd_name 3 nd__law_outs) (fun _ _ _ _ _ => ptsd_nil) (fun _ _ _ _ _ => pe_lst pa_nil)) (pg_name (i := 2) nd__law_outs rfl (.inr rfl)) rfl rfl rfl)
    (pss_cons (ps_for PassesOwn.never rfl (pid_range2 (cs := cs) rfl T.f_range (pad_cons (pd_int (i := 1)) (pad_cons (pd_var 1) pad_nil))) (pg_name (i := 3) nd__law_outs rfl (.inl rfl))
        (pss_one (ou_body (cs := cs) (pd_call (ok__law_pick T) hr (by decide) rfl (pad_cons (pd_var 0) (pad_cons (pd_lc (own := [("_law_one", 4)]) (is := [4]) rfl nd__law_outs (pid_range1 rfl T.f_range (pad_cons (pd_var 3) pad_nil)) (blkOk_by (by kernel_rfl)) (by decide) (fun _ _ _ _ _ => (pgd_name 4 nd__law_outs)) (fun _ _ _ _ _ => (ptsd_one (ptd_cmp op_lt do_lt (pd_callB call_lenA dc_lenA rfl T.f_len bb_len (pad_cons (pd_ix (pd_var 2) (pd_var 4)) pad_nil)) pd_int (nobehind _ (by decide) (by decide))))) (fun _ _ _ _ _ => (pd_var 4))) pad_nil))) rfl (.inr (.inl rfl)) rfl (.inl rfl) (fun _ _ => rfl) rfl rfl rfl rfl rfl rfl)))
      (pss_one (ps_ret (pe_var (i := 2) rfl (.inr (.inl rfl)))))), ?_⟩
  have e0 := EnvF.start r N__law_outs
  refine ⟨dr, G, _, b, e0, ⟨⟨by omega, by omega⟩, fun J G1 H1 s1 it D0 nD => ?_⟩⟩
  have b1 := s1.base
  have hdr : D0 ≠ dr := fun z => b1.hdr (z ▸ nD)
  have ll : (rangeD 0 n.toNat).length = n.toNat := rangeD_length _ _
  refine ⟨fun i m H2 => m = n.toNat - i ∧ i ≤ n.toNat ∧ ∃ G2 xs, Step dr G1 H1 G2 H2 ∧ G2 D0 = none ∧ H2 D0 = some (.lst (xs.map .ref)) ∧ xs.length = i ∧ xs.Nodup ∧ D0 ∉ xs ∧ ∀ x ∈ xs, H2 x = some (.lst []) ∧ G2 x = none ∧ H1 x = none,
    ⟨n.toNat, rfl, Nat.zero_le _, G1, [], Step.laidH b1 nD _, b1.sub.free nD, upd_same, rfl, .nil, by simp, fun x hx => by simp at hx⟩, ?_⟩
  rintro i m H2 ⟨rfl, hi, G2, xs, s2, gD2, hD2, hl, nd, nm, hx⟩
  have jt := it i G2 H2 s2.gs s2.base
  rw [ll] at jt
  by_cases q : i < n.toNat
  · obtain ⟨jg, jy⟩ := jt.1 q
    refine .inr ⟨jg, fun H3 => ∃ G2 xs, Step dr G1 H1 G2 H3 ∧ G2 D0 = none ∧ H3 D0 = some (.lst (xs.map .ref)) ∧ xs.length = i + 1 ∧ xs.Nodup ∧ D0 ∉ xs ∧ ∀ x ∈ xs, H3 x = some (.lst []) ∧ G2 x = none ∧ H1 x = none,
      fun H3 ⟨G3, ys, z⟩ => ⟨n.toNat - (i + 1), by omega, rfl, q, G3, ys, z⟩, fun x H3 y => ?_⟩
    obtain ⟨G3, d, s3, hd, rx⟩ := jy x H3 y
    refine ⟨dr, G3, d, s3.base, rx, fun vs' rv => ⟨wipe_setA (by decide), ?_⟩⟩
    have s13 := s2.trans b1 s3
    have e3 := (((e0.mono s1.gs).mono s13.gs).wipe [3]).setA (is := [3]) rv
    refine ⟨dr, G3, _, s3.base, e3, fun G4 H4 s4 => iteT ⟨Nat.zero_le _, fun p np => ?_⟩⟩
    have s14 := s13.trans b1 s4
    have out : ∀ z o, H2 z = some o → z ≠ dr → H4 z = some o := fun z o h1 h2 => s4.hs z o h2 (s3.hs z o h2 h1)
    have outg : ∀ z, G2 z = none → H2 z ≠ none → G4 z = none := fun z h1 h2 => by
      cases e : H2 z with
      | none => exact absurd e h2
      | some o =>
        by_cases zd : z = dr
        · rw [zd]; exact s4.base.draw.1
        · exact s4.out (s3.out h1 h2) (by rw [s3.hs z o zd e]; exact fun z => nomatch z)
    have hD4 := out D0 _ hD2 hdr
    have gD4 := outg D0 gD2 (by rw [hD2]; exact fun z => nomatch z)
    have pD : D0 ≠ p := fun z => by rw [z, np] at hD4; cases hD4
    have s5 := Step.laidH s4.base np (.lst [])
    have s15 := s14.trans b1 s5
    have gp : G4 p = none := s4.base.sub.free np
    have hx4 : ∀ x ∈ xs, x ≠ p ∧ H4 x = some (.lst []) ∧ G4 x = none ∧ H1 x = none := fun x hxm => by
      obtain ⟨q1, q2, q3⟩ := hx x hxm
      have xd : x ≠ dr := fun z => b1.hdr (z ▸ q3)
      have q4 := out x _ q1 xd
      exact ⟨(fun z => by rw [z, np] at q4; cases q4), q4, outg x q2 (by rw [q1]; exact fun z => nomatch z), q3⟩
    refine ⟨xs.map .ref, by rw [upd_ne pD]; exact hD4, line_lt (by rw [List.length_map, hl]; omega), G4, xs ++ [p], s15.mut b1 nD gD4, gD4, by rw [upd_same, List.map_append]; rfl, by simp [hl], ?_, ?_, ?_⟩
    · refine List.nodup_append.mpr ⟨nd, by simp, fun z hz y hy => ?_⟩
      have : y = p := by simpa using hy
      rw [this]
      exact (hx4 z hz).1
    · intro z
      rcases List.mem_append.mp z with z | z
      · exact nm z
      · exact pD (by simpa using z)
    · intro x hxm
      rcases List.mem_append.mp hxm with z | z
      · obtain ⟨q1, q2, q3, q4⟩ := hx4 x z
        have xD : x ≠ D0 := fun e => nm (e ▸ z)
        exact ⟨by rw [upd_ne xD, upd_ne q1]; exact q2, q3, q4⟩
      · have : x = p := by simpa using z
        subst this
        exact ⟨by rw [upd_ne (Ne.symm pD), upd_same], gp, s14.none0 b1 np⟩
  · have hi2 : i = n.toNat := by omega
    refine .inl ⟨jt.2 hi2, ?_⟩
    have A : Ou ⟨P, w, K, cs⟩ dr G H D0 xs n (List.replicate n.toNat []) ((start N__law_outs [.ref dr, .int n]).set 2 (some (.ref D0))) H2 G2 :=
      ⟨b, s1.trans b s2, rfl, rfl, rfl, hD2, ⟨gD2, s1.none0 b nD⟩, nm, nd, by rw [hl, hi2, List.length_replicate], fun j x o h1 h2 => by
        obtain ⟨q1, q2, q3⟩ := hx x (List.mem_of_getElem? h1)
        have : o = [] := by
          rw [List.getElem?_replicate] at h2
          split at h2
          · exact (Option.some.inj h2).symm
          · cases h2
        subst this
        exact ⟨q1, q2, s1.none0 b q3⟩, rfl⟩
    have e5 : EnvF ⟨P, w, K, cs⟩ dr G2 ((start N__law_outs [.ref dr, .int n]).set 2 (some (.ref D0))) [none, some (.int n), none, none, none] := by
      refine ⟨rfl, fun i d h => ?_⟩
      match i, h with
      | 0, h => cases h
      | 1, h => cases h; exact ⟨_, rfl, .int n⟩
      | 2, h => cases h
      | 3, h => cases h
      | 4, h => cases h
      | i + 5, h => cases h
    refine ⟨dr, G2, _, s2.base, e5, ⟨⟨by omega, by omega, by omega, by omega⟩, fun J2 G3 H3 s3 it2 => ?_⟩⟩
    have A3 := A.keep s3
    generalize hds : rangeD 1 (n - 1).toNat = ds at *
    refine ⟨fun i l σ' H' => l = ds.length - i ∧ i ≤ ds.length ∧ ∃ G4 os, Same G3 G4 ∧ Ou ⟨P, w, K, cs⟩ dr G H D0 xs n os σ' H' G4 ∧ (ouLoop (ds.drop i) os).run fun os => Wish ⟨P, w, K, cs⟩ dr G H Q (ouD os), ⟨ds.length, by simp, Nat.zero_le _, G3, _, Same.refl _, A3, h⟩, ?_⟩
    rintro i l σ' H' ⟨rfl, hi, G4, os, sg, A4, k⟩
    have jt := it2 i G4 H' sg A4.step.base
    by_cases q : i < ds.length
    · obtain ⟨jg, jy⟩ := jt.1 q
      refine .inr ⟨jg, fun σ' H' => ∃ G4 os, Same G3 G4 ∧ Ou ⟨P, w, K, cs⟩ dr G H D0 xs n os σ' H' G4 ∧ (ouLoop (ds.drop (i + 1)) os).run fun os => Wish ⟨P, w, K, cs⟩ dr G H Q (ouD os), fun σ'' H'' z => ⟨ds.length - (i + 1), by omega, rfl, q, z⟩, fun x H5 y => ?_⟩
      obtain ⟨G5, d, s5, hd', rx⟩ := jy x H5 y
      rw [drop_cons hd'] at k
      have A5 := A4.keep s5
      cases d with
      | int t =>
        cases rx.int_of
        rw [ouLoop] at k
        refine ⟨dr, G, H, G5, D0, xs, n, os, t, A5.set3 _, List.getElem?_set_self (by rw [A5.len]; decide), (ouStep t os).mono (fun p k H6 G6 s6 A6 => ⟨G6, p, (sg.trans s5.gs).trans s6, A6, k⟩) k⟩
      | _ => exact k.elim
    · have hi2 : i = ds.length := by omega
      rw [hi2, List.drop_length, ouLoop] at k
      exact .inl ⟨jt.2 hi2, _, A4.s2, k _ _ _ A4.frz A4.rd⟩
end Rr
/-! registerrooms: a def with own cells and a captured one (__init__ with super()). -/
namespace Rr
open PySem PySem.Spec PyProof.Rows L2

/-! ### its frame -/
section
variable {M : Model} {A : Around} {E : Value → Shared → Prop}
theorem store_same {env env' : PySem.Env} {x : Str} {v : Value} (e1 : env'.scope = env.scope) (e2 : env'.locals = env.locals) (e3 : env'.globals = env.globals) (hl : env.scope.names.lookup x = some .local ∨ env'.cells.lookup x = env.cells.lookup x) : storeName env' x v = storeName env x v := by
  have k : env'.kindOf x = env.kindOf x := by
    show env'.scope.names.lookup x = env.scope.names.lookup x
    rw [e1]
  have bk : env'.blockKind = env.blockKind := by
    unfold Env.blockKind
    rw [e1]
  have ll : localSet env' x v = localSet env x v := by
    unfold localSet
    rw [e2]
  rcases hl with h | h
  · have k0 : env.kindOf x = some .local := h
    unfold storeName
    rw [k, bk, e1, e2, e3, k0, ll]
    rfl
  · have kc : PySem.cellOf env' x = PySem.cellOf env x := by
      unfold PySem.cellOf
      rw [h]
    unfold storeName
    rw [k, bk, e1, e2, e3, kc, ll]
theorem for_same (f g : Str × Value → PUnit → Sem (ForInStep PUnit)) : ∀ binds : List (Str × Value), (∀ y ∈ binds, f y = g y) → (forIn binds PUnit.unit f : Sem PUnit) = forIn binds PUnit.unit g
  | [], _ => by rw [List.forIn_nil, List.forIn_nil]
  | y :: r, h => by
    rw [List.forIn_cons, List.forIn_cons, h y List.mem_cons_self]
    refine congrArg (g y PUnit.unit >>= ·) (funext fun z => ?_)
    cases z with
    | done b => rfl
    | yield b =>
      cases b
      exact for_same f g r fun z hz => h z (List.mem_cons_of_mem _ hz)
theorem nfe_cl {s : Shared} {scope : Scope} {globals : Addr} {cl : List (Str × Addr)} {binds : List (Str × Value)} {qual : Str} {func : Option Addr} {code : Value} {builtins : Addr} {Q : PySem.Env → Shared → Prop} (hk : scope.kind = .function)
    (hkind : ∀ x ∈ binds, scope.names.lookup x.1 = some .local ∨ (scope.names.lookup x.1 = some .cell ∧ ((cellsFrom (s.heap.objs.size + 1) scope.names []).lookup x.1).isSome = true))
    (hQ : ∀ s', InCallC s s.heap.objs.size (bindL (fun y => scope.names.lookup y) binds fun _ => none) (cellsFrom (s.heap.objs.size + 1) scope.names []) (bindC (fun y => scope.names.lookup y) binds fun _ => none) s' →
      Q (newEnv scope s.heap.objs.size globals (cellsFrom (s.heap.objs.size + 1) scope.names cl) qual func code none builtins) s') : wpAny M A (newFunctionEnv scope globals cl binds qual func code none builtins) Q E s := by
  simp only [Option.isSome_none, newFunctionEnv, if_false, Bool.false_eq_true]
  refine wpAny_bind (wpAny_alloc ?_)
  refine wpAny_bind (wpAny_layCells _ (fun a b cells => by cases q : b == NameKind.cell <;> simp [q]) _ _ _ _ ?_)
  have hz : ({ s with heap := s.heap.push { cls := .type "frame", data := .dict #[] } } : Shared).heap.objs.size = s.heap.objs.size + 1 := Heap.size_push ..
  have ok := cellsFrom_ok scope.names (s.heap.push { cls := .type "frame", data := .dict #[] }) (s.heap.objs.size + 1) [] ⟨fun _ _ hm => (nomatch hm), List.Pairwise.nil⟩ (Nat.le_of_eq (Heap.size_push ..).symm)
  rw [Heap.size_push] at ok
  rw [hz]
  generalize hcs : cellsFrom (s.heap.objs.size + 1) scope.names [] = cs at ok hkind hQ
  have hover : cellsFrom (s.heap.objs.size + 1) scope.names cl = cs ++ cl := by rw [← hcs]; exact cellsFrom_over _ _ _
  rw [hover]
  rw [hover] at hQ
  refine wpAny_bind ?_
  rw [for_same _ (fun y _ => do storeName (newEnv scope s.heap.objs.size globals cs qual func code none builtins) y.1 y.2; pure (.yield ⟨⟩)) binds ?_]
  · refine wpAny_bindParams (s₀ := s) (env := newEnv scope s.heap.objs.size globals cs qual func code none builtins) _ (fun _ _ _ => rfl) hk binds (fun _ => none) (fun _ => none) _ _ ⟨⟨⟨_, _, rfl⟩, (Heap.Ns.new s.heap (.type "frame")).keeps (pushCells_keeps _ _), fun b o e => pushCells_keeps _ _ b o (Heap.get?_push_of_some _ e), Nat.le_refl _⟩,
      fun n c hc => (ok.empty n c (mem_of_lookup hc)).1, ok.apart, fun n c hm => (ok.empty n c hm).2⟩ hkind fun s' x => wpAny_pure (hQ s' x)
  · intro y hy
    funext u
    refine congrArg (· >>= fun _ => pure (ForInStep.yield PUnit.unit)) ?_
    refine store_same rfl rfl rfl ?_
    rcases hkind y hy with h | ⟨_, h⟩
    · exact .inl h
    · refine .inr ?_
      obtain ⟨c, hc⟩ := Option.isSome_iff_exists.mp h
      show (cs ++ cl).lookup y.1 = cs.lookup y.1
      rw [List.lookup_append, hc]
      rfl
end
end Rr

namespace Rr
open PySem PySem.Spec PyProof.Rows L2
/-- names: the parameters first; z alone is captured -/
structure IScope (N ps : List Str) (z : Str) (sc : Scope) : Prop where
  kind : sc.kind = .function
  co : sc.isCoroutine = false
  gen : sc.isGenerator = false
  nd : N.Nodup
  pre : N.take ps.length = ps
  par : ∀ x ∈ ps, sc.names.lookup x = some .local ∨ sc.names.lookup x = some .cell
  free : ∀ y, sc.names.lookup y = some .free → y = z
  zf : sc.names.lookup z = some .free
def iscB (N ps : List Str) (z : Str) (sc : Scope) : Bool :=
  decide (sc.kind = .function) && (!sc.isCoroutine && (!sc.isGenerator && (decide N.Nodup && (decide (N.take ps.length = ps) && (ps.all (fun x => decide (sc.names.lookup x = some .local) || decide (sc.names.lookup x = some .cell)) && (sc.names.all (fun y => !decide (y.2 = .free) || decide (y.1 = z)) && decide (sc.names.lookup z = some .free)))))))
theorem iscope_by {N ps : List Str} {z : Str} {sc : Scope} (h : iscB N ps z sc = true) : IScope N ps z sc := by
  unfold iscB at h
  rw [Bool.and_eq_true, Bool.and_eq_true, Bool.and_eq_true, Bool.and_eq_true, Bool.and_eq_true, Bool.and_eq_true, Bool.and_eq_true] at h
  obtain ⟨h1, h2, h3, h4, h5, h6, h7, h8⟩ := h
  refine ⟨of_decide_eq_true h1, by simpa using h2, by simpa using h3, of_decide_eq_true h4, of_decide_eq_true h5, fun x hx => ?_, fun y hy => ?_, of_decide_eq_true h8⟩
  · have q := List.all_eq_true.mp h6 x hx
    rw [Bool.or_eq_true] at q
    exact q.imp of_decide_eq_true of_decide_eq_true
  · have q := List.all_eq_true.mp h7 _ (PySem.mem_of_lookup hy)
    rw [Bool.or_eq_true] at q
    rcases q with q | q
    · simp at q
    · exact of_decide_eq_true q
abbrev icEnv (qual : Str) (scope : Scope) (L f : Addr) (cd : Value) (cl : List (Str × Addr)) : PySem.Env := PySem.W.envX qual scope L f cd (cellsFrom (L + 1) scope.names cl)
/-- the context of such a body at its entry -/
def icx (CX : CXT) (P : Program) (w : World) (K : PySem.W.Frag) (mg : Str → Option Value) (base : Heap) (N : List Str) (qual : Str) (scope : Scope) (f : Addr) (cd : Value) (cl : List (Str × Addr)) (A : Around) (outer : List PySem.Env) (s : Shared) (H : Hp) (E : XK) : Cx where
  prog := P
  w := w
  K := K
  mg := mg
  base := base
  A := A.deeper (icEnv qual scope s.heap.objs.size f cd cl)
  N := N
  s_0 := s
  H_0 := H
  env := icEnv qual scope s.heap.objs.size f cd cl
  outer := outer
  stack := icEnv qual scope s.heap.objs.size f cd cl :: outer
  ex := []
  calm := true
  fn := fun _ => false
  pn := []
  xe := fun e s' => wpAny (model P w) (A.deeper (icEnv qual scope s.heap.objs.size f cd cl)) (leaving (icEnv qual scope s.heap.objs.size f cd cl) e) (fun _ s'' => CX outer H s E e s'') (fun e' s'' => CX outer H s E e' s'') s'
section
variable {CX : CXT} {P : Program} {w : World} {K : PySem.W.Frag} {mg : Str → Option Value} {base : Heap} {N ps : List Str} {z qual : Str} {scope : Scope} {f cc : Addr} {cd : Value} {A : Around} {outer : List PySem.Env} {s s1 : Shared} {H : Hp} {E : XK} {us : List Value} {vs : List V}
theorem inv_startC (S : IScope N ps z scope) (hd : A.handled = none) (e0 : Env0 P w K mg base A outer s H) (hl : vs.length = ps.length) (r : Vals vs us) (hcc : ∃ o v, base.get? cc = some o ∧ o.data = .cell v)
    (x : InCallC s s.heap.objs.size (bindL (fun y => scope.names.lookup y) (ps.zip us) fun _ => none) (cellsFrom (s.heap.objs.size + 1) scope.names []) (bindC (fun y => scope.names.lookup y) (ps.zip us) fun _ => none) s1) :
    Inv (icx CX P w K mg base N qual scope f cd [(z, cc)] A outer s H E) [] (start N vs) H s1 := by
  have hpl : ps.length ≤ N.length := by
    have q := congrArg List.length S.pre
    rw [List.length_take] at q
    omega
  obtain ⟨oc, vc, hcb, hcd⟩ := hcc
  obtain ⟨hcs, hcH⟩ := e0.bs cc oc hcb
  have ccL : cc < s.heap.objs.size := Heap.lt_size hcs
  obtain ⟨h1, tk, rfl, hk⟩ := x.done
  have look : ∀ y, (cellsFrom (s.heap.objs.size + 1) scope.names [(z, cc)]).lookup y = ((cellsFrom (s.heap.objs.size + 1) scope.names []).lookup y).or (([(z, cc)] : List (Str × Addr)).lookup y) := fun y => by
    rw [cellsFrom_over, List.lookup_append]
  have two : ∀ y c, (cellsFrom (s.heap.objs.size + 1) scope.names [(z, cc)]).lookup y = some c → ((cellsFrom (s.heap.objs.size + 1) scope.names []).lookup y = some c ∧ s.heap.objs.size < c) ∨ (y = z ∧ c = cc) := fun y c e => by
    rw [look] at e
    cases q : (cellsFrom (s.heap.objs.size + 1) scope.names []).lookup y with
    | some c' =>
      rw [q] at e
      cases e
      exact .inl ⟨rfl, x.above y c (PySem.mem_of_lookup q)⟩
    | none =>
      rw [q] at e
      have e : ([(z, cc)] : List (Str × Addr)).lookup y = some c := e
      rw [List.lookup_cons] at e
      split at e
      · rename_i h
        exact .inr ⟨beq_iff_eq.mp h, (Option.some.inj e).symm⟩
      · cases e
  have noA : ∀ b : Addr, b ∉ (icx CX P w K mg base N qual scope f cd [(z, cc)] A outer s H E).ex := fun b q => absurd (show b ∈ ([] : List Addr) from q) (by simp)
  refine ⟨⟨e0.mod, S.kind, rfl, rfl, Nat.le_refl _, fun y t c h1 h2 => ?_, fun y hy => ?_, fun y c q _ => absurd q Bool.false_ne_true, fun _ => hd, Around.frames_deeper e0.frames, .inr ⟨rfl, rfl⟩, fun b q => absurd q (noA b), e0.bs, e0.bsz, fun b _ _ => noA b, fun b q => absurd q (noA b), e0.funs, e0.frf⟩,
    rfl, e0.bare, Un.kept hk, ⟨_, x.toInCall.ns, fun i y v h1 h2 h3 => ?_⟩, fun y c h => ?_, e0.hok.fresh (Nat.le_refl _), fun y c h => ?_, fun p hp => absurd (show p ∈ ([] : List (Addr × Obj)) from hp) (by simp), e0.hok.kept hk, ?_⟩
  · rcases two y c h1 with ⟨a1, a2⟩ | ⟨a1, a2⟩ <;> rcases two t c h2 with ⟨b1, b2⟩ | ⟨b1, b2⟩
    · exact name_of_addr x.apart (PySem.mem_of_lookup a1) (PySem.mem_of_lookup b1)
    · rw [b2] at a2
      exact absurd ccL (Nat.lt_asymm a2)
    · rw [a2] at b2
      exact absurd ccL (Nat.lt_asymm b2)
    · rw [a1, b1]
  · have hy : scope.names.lookup y = some .cell ∨ scope.names.lookup y = some .free := hy
    show ∃ c, (cellsFrom (s.heap.objs.size + 1) scope.names [(z, cc)]).lookup y = some c
    rw [look]
    rcases hy with hy | hy
    · obtain ⟨c, e⟩ := cell_has (n := s.heap.objs.size + 1) hy
      exact ⟨c, by rw [e]; rfl⟩
    · rw [S.free y hy]
      cases (cellsFrom (s.heap.objs.size + 1) scope.names []).lookup z with
      | some c => exact ⟨c, rfl⟩
      | none => exact ⟨cc, by rw [Option.none_or, List.lookup_cons, beq_self_eq_true]⟩
  · have hi : i < vs.length := by
      unfold L2.start at h2
      by_cases hi : i < vs.length
      · exact hi
      · rw [List.getElem?_append_right (by simpa using hi)] at h2
        rw [List.getElem?_replicate] at h2
        split at h2 <;> cases h2
    have ha : vs[i]? = some v := by
      unfold L2.start at h2
      rw [List.getElem?_append_left (by simpa using hi), List.getElem?_map] at h2
      cases e : vs[i]? with
      | none => rw [e] at h2; cases h2
      | some a => rw [e] at h2; cases h2; rfl
    obtain ⟨u, hu, rv⟩ := r.get ha
    have hp : ps[i]? = some y := by
      have q : (N.take ps.length)[i]? = some y := by
        rw [List.getElem?_take_of_lt (by omega)]
        exact h1
      rwa [S.pre] at q
    have ndP : ps.Nodup := by
      have q := S.nd.sublist (List.take_sublist ps.length N)
      rwa [S.pre] at q
    refine ⟨u, rv, ?_⟩
    rcases S.par y (List.mem_of_getElem? hp) with k | k
    · exact .inl ⟨k, bindL_get ndP hp hu k⟩
    · obtain ⟨c, e⟩ := cell_has (n := s.heap.objs.size + 1) k
      refine .inr ⟨.inl k, c, ?_, ?_⟩
      · show (cellsFrom (s.heap.objs.size + 1) scope.names [(z, cc)]).lookup y = some c
        rw [look, e]
        rfl
      · have q := x.cell y c e
        rw [bindC_get ndP hp hu (by show scope.names.lookup y ≠ _; rw [k]; decide)] at q
        exact q
  · rcases two y c h with ⟨a1, a2⟩ | ⟨a1, a2⟩
    · exact ⟨_, x.cell y c a1⟩
    · rw [a2]
      exact ⟨vc, oc, hk _ _ hcs, hcd⟩
  · rcases two y c h with ⟨a1, a2⟩ | ⟨a1, a2⟩
    · exact e0.hok.fresh (Nat.le_of_lt a2)
    · rw [a2]
      exact hcH
  · unfold L2.start
    show _ = N.length
    rw [List.length_append, List.length_map, List.length_replicate]
    omega
end
end Rr

namespace Rr
open PySem PySem.Spec PyProof.Rows L2
theorem at_super {X : Cx} {body : List Stmt} {fd : FuncData} {f cda cc D f2 x dx : Addr} {sl : List (Option V)} {k j : Nat} {sp : Sp} {p0 p1 p2 p3 p4 : Pos} {pins : List (Addr × Obj)} {σ : L2.St} {H : Hp} {s : Shared} {Q : VK} {pl : Sem Bool} {v : V}
    (S : SupOk X.K X.prog fd f cda cc D f2) (hks : X.env.kindOf "super" = some .globalImplicit) (hkc : X.env.kindOf "__class__" = some .free) (hka : X.env.kindOf "self" = some .local) (hfu : X.env.func = some f) (hco : X.env.code = .ref cda) (hcl : X.env.cells.lookup ("__class__" : Str) = some cc)
    (hs : X.mg "super" = none) (hb : bootBuiltins ("super" : Str) = some (.type "super")) (h0 : X.N[0]? = some ("self" : Str)) (h2 : X.N[2]? = some ("blocks" : Str)) (v2 : Vis X.env.scope "blocks") (F : FnR X.prog X.w X.K X.mg X.base C8.CX0 k f2 sp) (hr : Room j X.A) (hk : k ≤ j) (I : Inv X pins σ H s) (s0 : σ[0]? = some (some (.ref x))) (s2 : σ[2]? = some (some v)) (hsl : SlX.Slt H x D dx sl)
    (h : ∀ q, H q = none → sp [.ref x, v] (upd H q (.met f2 x)) Q C8.E0)
    (he : eval (.Call (.Attribute (.Call (.Name "super" p0) [] [] p1) "__init__" p2) [.Name "blocks" p4] [] p3) X.env = (do
      let ov ← attributeBase (.Call (.Name "super" p0) [] [] p1) "__init__" X.env (eval (.Call (.Name "super" p0) [] [] p1) X.env)
      standAt p2.atName
      let (f, first) ← holding [ov] (getMethod ov "__init__" pl)
      callWith p3 f first (backTo p3 (starEach [.Name "blocks" p4] X.env)) [])) (hst : starEach [.Name "blocks" p4] X.env = (false, eval (.Name "blocks" p4) X.env) :: starEach [] X.env) (hpl : (backTo p3 (starEach [] X.env)).any (·.1) = false) :
    _root_.PySem.wpAt (model X.prog X.w) X.A (.func body X.env) (eval (.Call (.Attribute (.Call (.Name "super" p0) [] [] p1) "__init__" p2) [.Name "blocks" p4] [] p3) X.env) (EP X pins σ Q) X.xe s := by
  obtain ⟨ofc, ofd, ofs, hf⟩ := S.fn
  obtain ⟨ar, hp, har⟩ := S.ar
  obtain ⟨ccl, cdd, vs, ccs, file, tf, hcode, hvs, hfile⟩ := S.code
  obtain ⟨cl, cld, csl, hcell⟩ := S.cell
  obtain ⟨cd, hD⟩ := S.cls
  have Xk : X.K.In s.heap := I.kIn
  obtain ⟨sl', od, _, J, _⟩ := SlX.slt_inst I hsl
  obtain ⟨hh, g, d, t, os⟩ := s
  obtain ⟨oD, hD1, hD2⟩ : ∃ oD, hh.get? D = some oD ∧ oD.data = .cls cd := by
    unfold PySem.W.clsIn at hD
    split at hD
    · rename_i ho
      cases hD
      exact ⟨_, Xk _ _ ho, rfl⟩
    · cases hD
  refine ks_wpAt_MethodCall (pl := pl) (ks_wpAt_super_base (vs := vs) (file := file) (tf := tf) hks hkc (by decide) hfu (Xk _ _ hf) rfl hp hco (Xk _ _ hcode) rfl hvs hfile S.top ?_) he
  obtain ⟨mb, b1, b2⟩ := I.mod.blt
  refine PySem.W.ks_loadName_global I.ok.kind hks (Calls.loadGlobal_builtin (by rw [I.ok.glob]; exact I.mod.glob.keeps I.bk) hs (by rw [I.ok.blt]; exact b1.keeps I.bk) ((b2 _ (by decide)).trans hb) ⟨rfl, ?_⟩)
  refine wpAny_loadName_free I.ok.kind hkc hcl ⟨_, Xk _ _ hcell, rfl⟩ ?_
  obtain ⟨m, hn, hl⟩ := I.loc
  obtain ⟨u, ru, lk⟩ := hl 0 "self" (.ref x) h0 s0 (.inl hka)
  obtain rfl : u = Value.ref x := ru
  have hv : m "self" = some (.ref x) := by
    rcases lk with ⟨_, q⟩ | ⟨q, _⟩
    · exact q
    · rw [hka] at q
      rcases q with q | q <;> cases q
  rw [har]
  refine wpAny_loadName_local I.ok.kind hka hn hv ?_
  refine ks_wpAny_isType_cls hD1 hD2 ⟨rfl, ?_⟩
  refine ks_wpAny_call_super hD1 hD2 J.at_ J.cls (fun c e => ?_) (PySem.W.looks_mroIn Xk S.sub) fun h' e kp => ?_
  · have q := J.no
    unfold PySem.W.notCls at q
    rw [e] at q
    cases q
  have I1 : Inv X pins σ H ⟨h', g, d, t, os⟩ := I.kept (t' := t) kp
  have Xk1 : X.K.In h' := I1.kIn
  obtain ⟨of2, hof, hofc⟩ : ∃ of, h'.get? f2 = some of ∧ of.cls = .type "function" := by
    have ht : (X.K.lookup f2).map (·.cls) = some (.type "function") := S.ty
    cases q : X.K.lookup f2 with
    | none => rw [q] at ht; cases ht
    | some of => rw [q] at ht; exact ⟨of, Xk1 _ _ q, Option.some.inj ht⟩
  have hm := S.sup
  unfold PySem.W.ks_superIn at hm
  rw [hD] at hm
  refine ks_wpAny_getMethod_super e (PySem.W.looks_opaque Xk1 S.tp) (l₀ := cd.mro) (fun A Q E s k q => wpAny_bind ((PySem.W.looks_clsIn Xk1 hD) A _ E s k (wpAny_pure q))) rfl Xk1 hm hof hofc (PySem.W.ks_ne Xk J hD) (by decide) ?_
  have nq : H h'.objs.size = none := I1.hok.fresh (Nat.le_refl _)
  have I2 : Inv X pins σ (upd H h'.objs.size (.met f2 x)) ⟨h'.push (PySem.W.methodObj (.ref f2) (.ref x)), g, d, t + 1, os⟩ := I1.laid (t' := t + 1) (fun b o q => Heap.get?_push_of_some _ q) (Nat.le_refl _) (Heap.get?_push_at rfl rfl)
  have hq : (upd H h'.objs.size (.met f2 x)) h'.objs.size = some (.met f2 x) := upd_same
  show wpAny _ _ (callWith p3 (.ref h'.objs.size) [] (backTo p3 (starEach [.Name "blocks" p4] X.env)) []) _ _ _
  have ha : PA X [.Name "blocks" p4] (tCons (tVar 2) tNil) := pa_cons (pe_var h2 v2) pa_nil hst
  have hrun := ha.run p3 pins _ σ _ (fun vs H' => vs = [v] ∧ H' = upd H h'.objs.size (.met f2 x)) I2 ⟨v, s2, rfl, rfl⟩
  rw [hst] at hrun ⊢
  refine callwith_met (q := h'.objs.size) (g := f2) (a := x) (X := X) (first := []) (by show ((false || (backTo p3 (starEach [] X.env)).any (·.1)) || false) = false; rw [hpl]; rfl) S.fin (Calls.evalArgs_plain (thn hrun fun us s3 ⟨vs, H3, I3, r3, ev, eH⟩ => ?_))
  subst ev eH
  refine ⟨met_P I3 hq, ?_⟩
  refine wpAny_call (call_met I3 hq ?_)
  obtain ⟨u, rfl, ru⟩ := r3.one
  exact run_fnR (us := [.ref x, u]) (vs := [.ref x, v]) F (hr.mono hk) C8.pass0 I3 (.cons rfl (.cons ru .nil)) (h _ nq)
end Rr

/-! registerrooms: Program(..). -/
namespace Rr
open PySem PySem.Spec PyProof.Rows L2
variable {P : Program} {w : World} {K : PySem.W.Frag} {mg : Str → Option Value} {base : Heap} {cs : Cs} {cB aZ : Addr}
/-! ### Blocks.__init__ -/
abbrev N_Blocks_init : List Str := ["self", "blocks"]
theorem sc_Blocks_init : FnScope N_Blocks_init ["self", "blocks"] (C8.fnScope (mem 19 1)) := C8.fnScope_by (by decide +kernel)
def spSetB (cs : Cs) : Sp := fun vs H Q _ => ∃ a v dx sl, vs = [.ref a, v] ∧ SlX.Slt H a cs.cP dx sl ∧ Q .non (SlX.slH H a cs.cP dx (SlX.putS 3 v sl))
theorem fr_binit {f2 : Addr} (T : ClsOk K cs cB) (D : MemOk K "__init__" "Blocks.__init__" (mem 19 1) f2) : FnR P w K mg base C8.CX0 1 f2 (spSetB cs) := by
  obtain ⟨fd, Fn⟩ := D
  have F := C8.fn0 (P := P) (w := w) (mg := mg) (base := base) (k := 0) (sp := spSetB cs) (FunD.fn Fn) sc_Blocks_init (fun vs H Q E ⟨a, v, dx, sl, e, _⟩ => by rw [e]; rfl) fun cdv A outer s H vs Q E hr ⟨a, v, dx, sl, e, hs, q⟩ => ?_
  · exact (F.raw (Fn.bindsN fun _ _ _ _ _ _ us hl => match us, hl with | [_, _], _ => rfl) .nil).imp fun vs H Q E h => by rw [List.append_nil]; exact h
  · subst e
    obtain ⟨p, sb⟩ := T.bl
    exact ⟨_, pss_one (SlX.ps_sl (pe_var (i := 0) rfl (.inl rfl)) (pe_var (i := 1) rfl (.inl rfl))), _, rfl, _, rfl, a, cs.cP, dx, p, sl, 3, rfl, hs, T.sP, sb, q⟩
/-! ### its tests -/
abbrev N_Program_init : List Str := ["self", "many", "blocks", "handed", "span", "block"]
theorem nd_Program_init : N_Program_init.Nodup := by decide +kernel
theorem sc_Program_init : IScope N_Program_init ["self", "many", "blocks", "handed", "span"] "__class__" (C8.fnScope (mem 21 1)) := iscope_by (by decide +kernel)
noncomputable def pt1 : WT := (wNot (wB (wCall F_is_integer (wCons (wVar 1) (wCons (wC (.int 1)) (wCons (wC (.int 8)) wNil))))))
noncomputable def pt2 : WT := (wNot (wB (wCall F_is_integer (wCons (wVar 3) (wCons (wC (.int 0)) (wCons (wCall minD (wCons (wVar 1) (wCons (wC (.int 3)) wNil))) wNil))))))
noncomputable def pt3 : WT := (wNot (wB (wCall F_is_integer (wCons (wVar 4) (wCons (wC (.int 2)) (wCons (wC (.int 8)) wNil))))))
noncomputable def pt4 : WT := (wOr (wNot (wB (wIsi "tuple" (wVar 2)))) (wNot (wB (wChain leD leD (wC (.int 1)) (wCall lenA (wCons (wVar 2) wNil)) (wC (.int 16))))))
noncomputable def pt5 : WT := (wOr (wNot (wB (wCall allD (wCons (wLc (wWalk (wVar 2)) setN [5] [5] wYes (wCall F_is_plain_block (wCons (wVar 5) (wCons (wVar 1) (wCons (wVar 4) (wCons (wCall lenA (wCons (wVar 2) wNil)) wNil)))))) wNil)))) (wNot (wB (wCall F_are_reached (wCons (wVar 2) wNil)))))
section
variable {X : Cx} {j : Nat}
/-- a test that must be false -/
theorem at_if {e : Expr} {st : Stmt} {rest : List Stmt} {pos : Pos} {t : WT} {c : Code} {pins : List (Addr × Obj)} {σ : L2.St} {H : Hp} {s : Shared} {dr : Addr} {G : Hp} {ρ : Env} {Q : Flow → Shared → Prop} (hc : PTD X cs e t) (I : Inv X pins σ H s) (b : Base dr G H) (ev : EnvF (xc X cs) dr G σ ρ)
    (h : (t ρ).run fun b => b = false ∧ ∀ G' H' s', Step dr G H G' H' → Inv X pins σ H' s' → _root_.PySem.wpAt (model X.prog X.w) X.A c (execs rest X.env) Q X.xe s') : _root_.PySem.wpAt (model X.prog X.w) X.A c (execs (.If e [st] [] pos :: rest) X.env) Q X.xe s := by
  refine ks_wpAt_execs_cons (wpAt_of_wpAny (thn ((ps_if hc (pss_one (ps_never (st := st))) pss_nil).run pins s σ H { nx := fun σ' H' => σ' = σ ∧ ∃ G', Step dr G H G' H' ∧ ∀ G' H' s', Step dr G H G' H' → Inv X pins σ H' s' → _root_.PySem.wpAt (model X.prog X.w) X.A c (execs rest X.env) Q X.xe s', rt := fun _ _ => False } I ?_) fun fl s1 h1 => ?_))
  · exact ⟨dr, G, ρ, b, ev, (t ρ).mono (fun z ⟨e, k⟩ G' H' st => by subst e; exact iteF ⟨rfl, G', st, k⟩) h⟩
  · cases fl with
    | next =>
      obtain ⟨σ', H', I', rfl, G', st, k⟩ := h1
      exact k G' H' s1 st I'
    | brk => obtain ⟨_, _, _, q⟩ := h1; exact q.elim
    | cont => obtain ⟨_, _, _, q⟩ := h1; exact q.elim
    | ret u => obtain ⟨_, _, _, _, _, q⟩ := h1; exact q.elim
end
noncomputable def chkP (ρ : Env) (m : Wp D) : Wp D := (pt1 ρ).bind fun b => .chk (b = false) ((pt2 ρ).bind fun b => .chk (b = false) ((pt3 ρ).bind fun b => .chk (b = false) ((pt4 ρ).bind fun b => .chk (b = false) ((pt5 ρ).bind fun b => .chk (b = false) m))))
noncomputable def F_Program : List D → Wp D
  | [.int m, bs, .int h, .int s] => chkP [none, some (.int m), some bs, some (.int h), some (.int s), none] (.ret (.prg m bs h s))
  | _ => .fail
theorem prg_args {ds : List D} {Kk : D → Prop} (h : (F_Program ds).run Kk) : ∃ m bs hd sp, ds = [.int m, bs, .int hd, .int sp] ∧ (chkP [none, some (.int m), some bs, some (.int hd), some (.int sp), none] (.ret (.prg m bs hd sp))).run Kk := by
  unfold F_Program at h
  split at h
  · exact ⟨_, _, _, _, rfl, h⟩
  · exact h.elim
theorem slH2 {H : Hp} {a C dx : Addr} {v1 v2 : List (Option V)} (h : dx ≠ a) : SlX.slH (SlX.slH H a C dx v1) a C dx v2 = SlX.slH H a C dx v2 := by
  funext b
  unfold SlX.slH
  by_cases e : b = a
  · subst e
    rw [upd_same, upd_same]
  · rw [upd_ne e, upd_ne e]
    by_cases e2 : b = dx
    · subst e2
      rw [upd_same, upd_same]
    · rw [upd_ne e2, upd_ne e2, upd_ne e, upd_ne e2]
end Rr

namespace Rr
open PySem PySem.Spec PyProof.Rows L2
variable {P : Program} {w : World} {K : PySem.W.Frag} {mg : Str → Option Value} {base : Heap} {cs : Cs} {cB aZ : Addr}
theorem Rs.cons_of {c : Ctx} {dr : Addr} {G : Hp} {vs : List V} {d : D} {ds : List D} (h : Rs c dr G vs (d :: ds)) : ∃ v us, vs = v :: us ∧ R c dr G v d ∧ Rs c dr G us ds := by
  cases h with
  | cons r q => exact ⟨_, _, rfl, r, q⟩
def prow (i : Nat) : Stmt := (C8.fnBody (mem 21 1)).getD i (.Pass ⟨0, 0, 0, 0⟩)
def ifE : Stmt → Expr
  | .If e _ _ _ => e
  | _ => .Constant .none 0 ⟨0, 0, 0, 0⟩
section
variable {f cc : Addr} {cdv : Value} {A : Around} {outer : List PySem.Env} {s : Shared} {H : Hp} {E : XK}
abbrev pX (P : Program) (w : World) (K : PySem.W.Frag) (mg : Str → Option Value) (base : Heap) (f : Addr) (cdv : Value) (cc : Addr) (A : Around) (outer : List PySem.Env) (s : Shared) (H : Hp) (E : XK) : Cx := icx C8.CX0 P w K mg base N_Program_init "Program.__init__" (C8.fnScope (mem 21 1)) f cdv [("__class__", cc)] A outer s H E
theorem pi1 (T : Txt P w K mg cs cB aZ) (hr : Room 3 (pX P w K mg base f cdv cc A outer s H E).A) : PTD (pX P w K mg base f cdv cc A outer s H E) cs (ifE (prow 0)) pt1 := (ptd_not (ptd_val (pd_call (ok_is_integer T) hr (by decide) rfl (pad_cons (pd_var 1) (pad_cons pd_int (pad_cons (pd_gint rfl (T.i_MOST_VARIABLES)) pad_nil))))))
theorem pi2 (T : Txt P w K mg cs cB aZ) (hr : Room 3 (pX P w K mg base f cdv cc A outer s H E).A) : PTD (pX P w K mg base f cdv cc A outer s H E) cs (ifE (prow 1)) pt2 := (ptd_not (ptd_val (pd_call (ok_is_integer T) hr (by decide) rfl (pad_cons (pd_var 3) (pad_cons pd_int (pad_cons (pd_callB (call_min2 rfl) dc_min rfl T.f_min bb_min (pad_cons (pd_var 1) (pad_cons (pd_gint rfl (T.i_MOST_HANDED)) pad_nil))) pad_nil))))))
theorem pi3 (T : Txt P w K mg cs cB aZ) (hr : Room 3 (pX P w K mg base f cdv cc A outer s H E).A) : PTD (pX P w K mg base f cdv cc A outer s H E) cs (ifE (prow 2)) pt3 := (ptd_not (ptd_val (pd_call (ok_is_integer T) hr (by decide) rfl (pad_cons (pd_var 4) (pad_cons pd_int (pad_cons (pd_gint rfl (T.i_MOST_SPAN)) pad_nil))))))
theorem pi4 (T : Txt P w K mg cs cB aZ) (hr : Room 3 (pX P w K mg base f cdv cc A outer s H E).A) : PTD (pX P w K mg base f cdv cc A outer s H E) cs (ifE (prow 3)) pt4 := (ptd_pw (pwd_or (ptd_not (ptd_val (pd_isi rfl T.f_isinstance rfl T.f_tuple bb_tuple (pd_var 2)))) (pwd_or1 (ptd_not (ptd_chain op_le op_le do_le do_le pd_int (pd_callB call_lenA dc_lenA rfl T.f_len bb_len (pad_cons (pd_var 2) pad_nil)) (pd_gint rfl (T.i_MOST_BLOCKS)))))))
theorem pi5 (T : Txt P w K mg cs cB aZ) (hr : Room 3 (pX P w K mg base f cdv cc A outer s H E).A) : PTD (pX P w K mg base f cdv cc A outer s H E) cs (ifE (prow 4)) pt5 := (ptd_pw (pwd_or (ptd_not (ptd_val (pd_callB (cr_all rfl) dc_all rfl T.f_all bb_all (pad_cons (pd_lc (own := [("block", 5)]) (is := [5]) rfl nd_Program_init (pid_val (pd_var 2)) (blkOk_by (by kernel_rfl)) (by decide) (fun _ _ _ _ _ => (pgd_name 5 nd_Program_init)) (fun _ _ _ _ _ => ptsd_nil) (fun _ _ _ _ _ => (pd_call (ok_is_plain_block T) hr (by decide) rfl (pad_cons (pd_var 5) (pad_cons (pd_var 1) (pad_cons (pd_var 4) (pad_cons (pd_callB call_lenA dc_lenA rfl T.f_len bb_len (pad_cons (pd_var 2) pad_nil)) pad_nil))))))) pad_nil)))) (pwd_or1 (ptd_not (ptd_val (pd_call (ok_are_reached T) hr (by decide) rfl (pad_cons (pd_var 2) pad_nil)))))))
end
theorem init_ok (T : Txt P w K mg cs cB aZ) {f f2 cda cc : Addr} {kV doc pm ct : Value} {an : Option Addr}
    (S : SupOk K P (PySem.W.fnX "__init__" "Program.__init__" (C8.fnArgs (mem 21 1)) (C8.fnBody (mem 21 1)) (C8.fnScope (mem 21 1)) [("__class__", cc)] .none kV doc pm an (.ref cda) ct) f cda cc cs.cP f2)
    (hcd : PySem.W.codeIn K (.ref cda) "Program.__init__" = true) (bB : MemOk K "__init__" "Blocks.__init__" (mem 19 1) f2) :
    FnOk P w K mg base C8.CX0 4 f (PySem.W.fnX "__init__" "Program.__init__" (C8.fnArgs (mem 21 1)) (C8.fnBody (mem 21 1)) (C8.fnScope (mem 21 1)) [("__class__", cc)] .none kV doc pm an (.ref cda) ct) ["self", "many", "blocks", "handed", "span"] (spInit ⟨P, w, K, cs⟩ cs.cP F_Program) := by
  refine ⟨fun vs H Q E h => ?_, fun A outer s H args us vs Q E hr e0 bd rv h => ?_⟩
  · obtain ⟨dr, G, H1, ds, x, dx, vr, rfl, _, _, _, _, _, r, h⟩ := h
    obtain ⟨m, bs, hd, sp, rfl, _⟩ := prg_args h
    rw [List.length_cons, r.length]
    rfl
  obtain ⟨oc, od, osl, lk⟩ := S.fn
  obtain ⟨dr, G, H1, ds, x, dx, vr, rfl, eH, n1, n2, ne, b, r, h⟩ := h
  obtain ⟨m, bs, hd, sp, rfl, h⟩ := prg_args h
  have inK : K.In s.heap := e0.mod.kin.keeps fun b o e => (e0.bs b o e).1
  have kinds : ∀ y ∈ (["self", "many", "blocks", "handed", "span"] : List Str).zip us, (C8.fnScope (mem 21 1)).names.lookup y.1 = some .local ∨ ((C8.fnScope (mem 21 1)).names.lookup y.1 = some .cell ∧ ((cellsFrom (s.heap.objs.size + 1) (C8.fnScope (mem 21 1)).names []).lookup y.1).isSome = true) := fun ⟨n, v⟩ hy =>
    (sc_Program_init.par n (List.of_mem_zip hy).1).elim .inl fun q => .inr ⟨q, PySem.W.cellsFrom_some _ _ _ (.inl q)⟩
  refine codeAny_call_function hr.depth (inK _ _ lk) rfl sc_Program_init.co sc_Program_init.gen rfl (PySem.W.codeRec_of inK hcd) (bd _ _ _ _ (nfe_cl sc_Program_init.kind kinds fun u1 xc => ?_))
  refine ⟨(e0.mod.nolimit.keeps fun b o e => (e0.bs b o e).1).keeps xc.toInCall.keep, ks_codeAny_funcAt ?_⟩
  obtain ⟨ccl, ccd, csl, hcc⟩ := S.cell
  have lv : (V.ref x :: vr).length = (["self", "many", "blocks", "handed", "span"] : List Str).length := by
    rw [List.length_cons, r.length]
    rfl
  have I := inv_startC (CX := C8.CX0) (N := N_Program_init) (z := "__class__") (cc := cc) (qual := "Program.__init__") (f := f) (cd := .ref cda) (E := E) (outer := outer) sc_Program_init hr.hd e0 lv rv ⟨_, _, e0.mod.kin _ _ hcc, rfl⟩ xc
  have hr3 : Room 3 (icx C8.CX0 P w K mg base N_Program_init "Program.__init__" (C8.fnScope (mem 21 1)) f (.ref cda) [("__class__", cc)] A outer s H E).A := hr.deeper _
  have s0 := init_step (C := cs.cP) b n1 n2 ne
  rw [← eH] at s0
  have xd : x ≠ dr := fun e => b.hdr (e ▸ n1)
  have hx : H x = some (.ins cs.cP dx []) := by rw [eH, upd_same]
  obtain ⟨v1, vr1, rfl, rm, r⟩ := r.cons_of
  obtain ⟨v2, vr2, rfl, rb, r⟩ := r.cons_of
  obtain ⟨v3, vr3, rfl, rh, r⟩ := r.cons_of
  obtain ⟨v4, rfl, rs⟩ := r.one
  obtain rfl := rm.int_of
  obtain rfl := rh.int_of
  obtain rfl := rs.int_of
  have ev : EnvF ⟨P, w, K, cs⟩ dr G (L2.start N_Program_init [.ref x, .int m, v2, .int hd, .int sp]) [none, some (.int m), some bs, some (.int hd), some (.int sp), none] := by
    refine ⟨rfl, fun i d h => ?_⟩
    match i, h with
    | 0, h => cases h
    | 1, h => cases h; exact ⟨_, rfl, .int m⟩
    | 2, h => cases h; exact ⟨_, rfl, rb⟩
    | 3, h => cases h; exact ⟨_, rfl, .int hd⟩
    | 4, h => cases h; exact ⟨_, rfl, .int sp⟩
    | 5, h => cases h
    | i + 6, h => cases h
  have kh : bootBuiltins ("super" : Str) = some (.type "super") := by kernel_rfl
  obtain ⟨pb, sb⟩ := T.cl.bl
  obtain ⟨pm1, sm⟩ := T.cl.mn
  obtain ⟨ph, sh⟩ := T.cl.hn
  obtain ⟨ps, ss⟩ := T.cl.sn
  have t1 := pi1 (cs := cs) (cdv := .ref cda) (f := f) (cc := cc) (A := A) (outer := outer) (s := s) (H := H) (E := E) (base := base) T hr3
  have t2 := pi2 (cs := cs) (cdv := .ref cda) (f := f) (cc := cc) (A := A) (outer := outer) (s := s) (H := H) (E := E) (base := base) T hr3
  have t3 := pi3 (cs := cs) (cdv := .ref cda) (f := f) (cc := cc) (A := A) (outer := outer) (s := s) (H := H) (E := E) (base := base) T hr3
  have t4 := pi4 (cs := cs) (cdv := .ref cda) (f := f) (cc := cc) (A := A) (outer := outer) (s := s) (H := H) (E := E) (base := base) T hr3
  have t5 := pi5 (cs := cs) (cdv := .ref cda) (f := f) (cc := cc) (A := A) (outer := outer) (s := s) (H := H) (E := E) (base := base) T hr3
  refine at_if t1 I s0.base ev ((pt1 _).mono (fun _ ⟨e1, h⟩ => ⟨e1, fun G1 H1' s1 st1 I1 => ?_⟩) h)
  have ev := ev.mono st1.gs
  refine at_if t2 I1 st1.base ev ((pt2 _).mono (fun _ ⟨e1, h⟩ => ⟨e1, fun G2 H2' s2 st2 I2 => ?_⟩) h)
  have ev := ev.mono st2.gs
  refine at_if t3 I2 st2.base ev ((pt3 _).mono (fun _ ⟨e1, h⟩ => ⟨e1, fun G3 H3' s3 st3 I3 => ?_⟩) h)
  have ev := ev.mono st3.gs
  refine at_if t4 I3 st3.base ev ((pt4 _).mono (fun _ ⟨e1, h⟩ => ⟨e1, fun G4 H4' s4 st4 I4 => ?_⟩) h)
  have ev := ev.mono st4.gs
  refine at_if t5 I4 st4.base ev ((pt5 _).mono (fun _ ⟨e1, h⟩ => ⟨e1, fun G5 H5 s5 st5 I5 => ?_⟩) h)
  have ev := ev.mono st5.gs
  have st : Step dr G H G5 H5 := (((st1.trans s0.base st2).trans s0.base st3).trans s0.base st4).trans s0.base st5
  have hx5 : H5 x = some (.ins cs.cP dx []) := st.hs x _ xd hx
  have gx5 : G5 x = none := st.out (b.sub.free n1) (by rw [hx]; exact fun z => nomatch z)
  have hdx : H dx ≠ none := by rw [eH, upd_ne ne, upd_same]; exact fun z => nomatch z
  have gd5 : G5 dx = none := st.out (b.sub.free n2) hdx
  have s05 := s0.trans b st
  obtain ⟨vb5, hv5, rb5⟩ := ev.get 2 bs rfl
  have hsl : SlX.Slt H5 x cs.cP dx [] := .inl ⟨hx5, rfl⟩
  -- super().__init__(blocks)
  refine ks_wpAt_execs_cons (ks_wpAt_Expr_any (ks_wpAt_mono (at_super (X := pX P w K mg base f (.ref cda) cc A outer s H E) (Q := fun _ H6 => ∃ q, H5 q = none ∧ H6 = SlX.slH (upd H5 q (.met f2 x)) x cs.cP dx (SlX.putS 3 vb5 [])) S rfl rfl rfl rfl rfl ?_ T.f_super kh rfl rfl (.inr (.inl rfl)) (fr_binit T.cl bB) hr3 (by decide) I5 rfl hv5 hsl (fun q nq => ?_) rfl rfl rfl) (fun u s6 h6 => ?_) fun _ _ z => z))
  · rfl
  · have xq : x ≠ q := fun e => by rw [← e, hx5] at nq; cases nq
    exact ⟨x, vb5, dx, [], rfl, .inl ⟨by rw [upd_ne xq]; exact hx5, rfl⟩, q, nq, rfl⟩
  obtain ⟨_, H6, I6, _, q, nq, e6⟩ := h6
  have xq : x ≠ q := fun e => by rw [← e, hx5] at nq; cases nq
  have hs6 : SlX.Slt H6 x cs.cP dx (SlX.putS 3 vb5 []) := by rw [e6]; exact SlX.slH_slt ne
  have rows : PSs (pX P w K mg base f (.ref cda) cc A outer s H E) [prow 6, prow 7, prow 8] _ :=
    pss_cons (SlX.ps_sl (pe_var (i := 0) rfl (.inl rfl)) (pe_var (i := 1) rfl (.inr (.inl rfl)))) (pss_cons (SlX.ps_sl (pe_var (i := 0) rfl (.inl rfl)) (pe_var (i := 3) rfl (.inl rfl))) (pss_one (SlX.ps_sl (pe_var (i := 0) rfl (.inl rfl)) (pe_var (i := 4) rfl (.inr (.inl rfl))))))
  refine wpAt_of_wpAny (wpAny_mono (rows.run [] s6 _ H6 { nx := fun _ H' => Q .non H', rt := Q } I6 ?_) (fun fl u2 done => ?_) fun _ _ z => z)
  · refine ⟨_, rfl, _, rfl, x, cs.cP, dx, pm1, _, 1, rfl, hs6, T.cl.sP, sm, ?_⟩
    refine ⟨_, rfl, _, rfl, x, cs.cP, dx, ph, _, 0, rfl, SlX.slH_slt ne, T.cl.sP, sh, ?_⟩
    refine ⟨_, rfl, _, rfl, x, cs.cP, dx, ps, _, 2, rfl, SlX.slH_slt ne, T.cl.sP, ss, ?_⟩
    rw [slH2 ne, slH2 ne, e6, slH2 ne]
    have sA := s05.trans b (Step.laidH s05.base nq (.met f2 x))
    have sB := sA.mut b (o := .xd []) n2 gd5
    have sC := sB.mut b (o := SlX.SlO x cs.cP dx (SlX.putS 2 (.int sp) (SlX.putS 0 (.int hd) (SlX.putS 1 (.int m) (SlX.putS 3 vb5 []))))) n1 gx5
    have sD := sC.freeze b (o := .xd []) n2 gd5 (by rw [upd_ne ne, upd_same])
    have gx6 : (upd G5 dx (.xd [])) x = none := by rw [upd_ne (Ne.symm ne)]; exact gx5
    have sE := sD.freeze b n1 gx6 upd_same
    refine h _ _ sE (.prg (dx := dx) (.inr ⟨upd_same, by rw [upd_ne ne, upd_same]⟩) rfl (rb5.mono fun a o z => ?_) rfl rfl rfl)
    rw [upd_ne (ne_of_none z gx5), upd_ne (ne_of_none z gd5)]
    exact z
  · cases fl with
    | ret v =>
      obtain ⟨v, σ, H', J, r, q⟩ := done
      exact ⟨v, H', J.os, J.bare, J.base, J.hok, r, q⟩
    | next =>
      obtain ⟨σ, H', J, q⟩ := done
      exact ⟨.non, H', J.os, J.bare, J.base, J.hok, rfl, q⟩
    | brk =>
      obtain ⟨_, _, _, q⟩ := done
      exact q.elim
    | cont =>
      obtain ⟨_, _, _, q⟩ := done
      exact q.elim
end Rr

namespace Rr
open PySem PySem.Spec PyProof.Rows L2
noncomputable def wMakeP (wa : WA) (wh ws : WE) : WE := fun ρ => (wa ρ).bind fun ds => .chk (ds.length = 2) ((wh ρ).bind fun h => (ws ρ).bind fun s => F_Program (ds ++ [h, s]))
theorem pd_makeP {X : Cx} {cs : Cs} {cB aZ : Addr} {j : Nat} {e1 e2 h s : Expr} {wa : WA} {wh ws : WE} {p pos p1 p2 : Pos} (T : Txt X.prog X.w X.K X.mg cs cB aZ) (hr : Room j X.A) (hk : 5 ≤ j) (hg : Gl X "Program") (ha : PAD X cs [e1, e2] wa) (hh : PD X cs h wh) (hs : PD X cs s ws)
    (hall : (backToKw pos (keywordEach [⟨some "handed", h, p1⟩, ⟨some "span", s, p2⟩] X.env)).all (·.1.isSome) = true := by rfl) (hks : (backToKw pos (keywordEach [⟨some "handed", h, p1⟩, ⟨some "span", s, p2⟩] X.env)).filterMap (·.1) = (["handed", "span"] : List Str) := by rfl)
    (he : starEach [e1, e2] X.env = (false, eval e1 X.env) :: starEach [e2] X.env := by rfl) (hpl : ((backTo pos (starEach [e1, e2] X.env)).any (·.1) || (backToKw pos (keywordEach [⟨some "handed", h, p1⟩, ⟨some "span", s, p2⟩] X.env)).any (·.1.isNone)) = false := by rfl) :
    PD X cs (.Call (.Name "Program" p) [e1, e2] [⟨some "handed", h, p1⟩, ⟨some "span", s, p2⟩] pos) (wMakeP wa wh ws) := by
  obtain ⟨f, f2, cda, cc, kV, doc, pm, ct, an, M, S, hcd, bB⟩ := T.in_Program
  have hb : KBn X.K (PySem.W.fnX "__init__" "Program.__init__" (C8.fnArgs (mem 21 1)) (C8.fnBody (mem 21 1)) (C8.fnScope (mem 21 1)) [("__class__", cc)] .none kV doc pm an (.ref cda) ct) ["self", "many", "blocks", "handed", "span"] 3 ["handed", "span"] (fun us ws => us ++ ws) (fun vs zs => vs ++ zs) :=
    ⟨fun s us ws Xk l1 l2 => BindsTo.of_looks fun M => match us, l1, ws, l2 with
      | [_, _, _], _, [_, _], _ => .of_pure rfl, fun r1 r2 => r1.append r2⟩
  refine pe_of (pe_makeK (n := 2) (E := C8.E0) M (init_ok (base := X.base) T S hcd bB) (hr.mono hk) hg T.mP hb C8.pass0 ha (pk_cons hh (pk_cons hs pk_nil)) hall hks (by decide) he hpl) fun σ H Q ⟨dr, G, ρ, b, ev, h⟩ => ?_
  refine tDA_seq b ev h fun ds vs G1 H1 s1 e1 r1 k1 => ?_
  obtain ⟨kl, k1⟩ := k1
  refine tD_seq s1.base e1 k1 fun dh vh G2 H2 s2 e2 r2 k2 => ?_
  refine tD_seq s2.base e2 k2 fun dsp vsp G3 H3 s3 e3 r3 k3 => ?_
  refine ⟨by rw [r1.length]; exact kl, rfl, fun x dx n1 n2 ne => ?_⟩
  have s13 := (s1.trans b s2).trans b s3
  refine ⟨dr, G3, H3, ds ++ [dh, dsp], x, dx, vs ++ [vh, vsp], rfl, rfl, n1, n2, ne, s3.base, ((r1.mono s2.gs).mono s3.gs).append (.cons (r2.mono s3.gs) (.cons r3 .nil)), (F_Program _).mono (fun d k G' H' s r => ⟨rfl, k _ G' H' (s13.trans b s) r⟩) k3⟩
end Rr
/-! registerrooms: defs, printed by gen.py. -/
namespace Rr
open PySem PySem.Spec PyProof.Rows L2
variable {P : Program} {w : World} {K : PySem.W.Frag} {mg : Str → Option Value} {cs : Cs} {cB aZ : Addr}
/-! ### Program.first_numbers -/
def N_Program_first_numbers : List Str := ["self", "numbers"]
theorem nd_Program_first_numbers : N_Program_first_numbers.Nodup := by decide +kernel
noncomputable def b_Program_first_numbers : WS := (wRet (wTup (wStar (wVar 1) (wStar (wOp repD (wLst (wCons (wC (.int 0)) wNil)) (wOp subD (wMap fMany (wVar 0)) (wMap fHandedP (wVar 0)))) wNil))))
noncomputable def F_first_numbers : List D → Wp D := fnW 2 0 b_Program_first_numbers
theorem bd_Program_first_numbers (T : Txt P w K mg cs cB aZ) (base : Heap) (f : Addr) : BodyOk P w K mg base cs 0 N_Program_first_numbers "Program.first_numbers" (mem 21 5) f [] b_Program_first_numbers := fun cdv A outer s H E hr =>
  (pssd_one (psd_ret (pd_tup (pad_star (pd_var 1) (pad_star (pd_op op_rep do_rep (pd_lst (pad_cons pd_int pad_nil)) (pd_op op_sub do_sub (pd_many T.cl (pd_var 0)) (pd_handedP T.cl (pd_var 0)))) pad_nil)))))
theorem sc_Program_first_numbers : FnScope N_Program_first_numbers ["self", "numbers"] (C8.fnScope (mem 21 5)) := C8.fnScope_by (by decide +kernel)
theorem fr_first_numbers (T : Txt P w K mg cs cB aZ) {base : Heap} : FnR P w K mg base C8.CX0 1 (T.me_first_numbers).1 (spW ⟨P, w, K, cs⟩ F_first_numbers) := meth_d (T.md_first_numbers) (fun _ _ _ _ _ _ us hl => match us, hl with | [_, _], _ => rfl) sc_Program_first_numbers rfl rfl (by decide) (bd_Program_first_numbers T base _)

/-! ### Program.entered -/
def N_Program_entered : List Str := ["self", "numbers", "edge", "target"]
theorem nd_Program_entered : N_Program_entered.Nodup := by decide +kernel
noncomputable def b_Program_entered : WS := (wRet (wVar 1))
noncomputable def F_entered : List D → Wp D := fnW 4 0 b_Program_entered
theorem bd_Program_entered (T : Txt P w K mg cs cB aZ) (base : Heap) (f : Addr) : BodyOk P w K mg base cs 0 N_Program_entered "Program.entered" (mem 21 6) f [] b_Program_entered := fun cdv A outer s H E hr =>
  (pssd_one (psd_ret (pd_var 1)))
theorem sc_Program_entered : FnScope N_Program_entered ["self", "numbers", "edge", "target"] (C8.fnScope (mem 21 6)) := C8.fnScope_by (by decide +kernel)
theorem fr_entered (T : Txt P w K mg cs cB aZ) {base : Heap} : FnR P w K mg base C8.CX0 1 (T.me_entered).1 (spW ⟨P, w, K, cs⟩ F_entered) := meth_d (T.md_entered) (fun _ _ _ _ _ _ us hl => match us, hl with | [_, _, _, _], _ => rfl) sc_Program_entered rfl rfl (by decide) (bd_Program_entered T base _)

/-! ### check_graph -/
def N_check_graph : List Str := ["program"]
theorem nd_check_graph : N_check_graph.Nodup := by decide +kernel
noncomputable def b_check_graph : WS := (wIfS (wNot (wB (wMap isBlocks (wVar 0)))) wNever wNext)
noncomputable def F_check_graph : List D → Wp D := fnW 1 0 b_check_graph
theorem bd_check_graph (T : Txt P w K mg cs cB aZ) (base : Heap) (f : Addr) : BodyOk P w K mg base cs 0 N_check_graph "check_graph" (top 23) f [] b_check_graph := fun cdv A outer s H E hr =>
  (pssd_one (psd_if (ptd_not (ptd_val (pd_isBlocks T.cl rfl T.f_isinstance rfl T.mB (pd_var 0)))) (pssd_one psd_never) pssd_nil))
theorem sc_check_graph : FnScope N_check_graph ["program"] (C8.fnScope (top 23)) := C8.fnScope_by (by decide +kernel)
theorem ok_check_graph (T : Txt P w K mg cs cB aZ) {base : Heap} : C8.Cal P w K mg base 1 "check_graph" (spW ⟨P, w, K, cs⟩ F_check_graph) [] := cal_d T.d_check_graph (fun _ _ _ _ _ _ us hl => match us, hl with | [_], _ => rfl) sc_check_graph rfl rfl (by decide) (bd_check_graph T base)

/-! ### hands_of -/
def N_hands_of : List Str := ["program", "many", "found", "turn", "row", "number"]
theorem nd_hands_of : N_hands_of.Nodup := by decide +kernel
noncomputable def b_hands_of : WS := (wSeq (wAsg (mk [] (wIf (wB (wIsi "int" (wMap fHandedP (wVar 0)))) (wMap fHandedP (wVar 0)) (wCall lenA (wCons (wMap fHandedP (wVar 0)) wNil)))) setN [1]) (wSeq (wAsg (mk [] (wLst (wCons (wTup wNil) wNil))) setN [2]) (wSeq (wFor (mk [] (wRng1 (wCons (wVar 1) wNil))) setN [3] (wAsg (mk [] (wLc2 (wWalk (wVar 2)) setN [4] [4, 5] (wRng1 (wCons (wMap fSpan (wVar 0)) wNil)) setN [5] [5] wYes (wTup (wStar (wVar 4) (wCons (wVar 5) wNil))))) setN [2])) (wRet (wVar 2)))))
noncomputable def F_hands_of : List D → Wp D := fnW 1 5 b_hands_of
theorem bd_hands_of (T : Txt P w K mg cs cB aZ) (base : Heap) (f : Addr) : BodyOk P w K mg base cs 0 N_hands_of "hands_of" (top 25) f [] b_hands_of := fun cdv A outer s H E hr =>
  (pssd_cons (psd_asg (pse1 (pd_if (ptd_val (pd_isi rfl T.f_isinstance rfl T.f_int bb_int (pd_handedP T.cl (pd_var 0)))) (pd_handedP T.cl (pd_var 0)) (pd_callB call_lenA dc_lenA rfl T.f_len bb_len (pad_cons (pd_handedP T.cl (pd_var 0)) pad_nil)))) (pgd_name 1 nd_hands_of)) (pssd_cons (psd_asg (pse1 (pd_lst (pad_cons (pd_tup pad_nil) pad_nil))) (pgd_name 2 nd_hands_of)) (pssd_cons (psd_for PassesOwn.never rfl (psi1 (pid_range1 rfl T.f_range (pad_cons (pd_var 1) pad_nil))) (pgd_name 3 nd_hands_of) (pssd_one (psd_setLc2 (own := [("row", 4), ("number", 5)]) (is := [4]) (is1 := [5]) (vs1 := [5]) (i := 2) rfl nd_hands_of rfl rfl (sw_true rfl rfl rfl rfl) (pid_val (pd_var 2)) (blkOk_by (by kernel_rfl)) (by decide) (by decide) (by decide) (by decide) (fun _ _ _ _ _ => (pgd_name 4 nd_hands_of)) (fun _ _ _ _ _ => (pid_range1 rfl T.f_range (pad_cons (pd_span T.cl (pd_var 0)) pad_nil))) (fun _ _ _ _ _ => (pgd_name 5 nd_hands_of)) (fun _ _ _ _ _ => (pd_tup (pad_star (pd_var 4) (pad_cons (pd_var 5) pad_nil))))))) (pssd_one (psd_ret (pd_var 2))))))
theorem sc_hands_of : FnScope N_hands_of ["program"] (C8.fnScope (top 25)) := C8.fnScope_by (by decide +kernel)
theorem ok_hands_of (T : Txt P w K mg cs cB aZ) {base : Heap} : C8.Cal P w K mg base 1 "hands_of" (spW ⟨P, w, K, cs⟩ F_hands_of) [] := cal_d T.d_hands_of (fun _ _ _ _ _ _ us hl => match us, hl with | [_], _ => rfl) sc_hands_of rfl rfl (by decide) (bd_hands_of T base)

/-! ### are_handed -/
def N_are_handed : List Str := ["program", "thing", "one"]
theorem nd_are_handed : N_are_handed.Nodup := by decide +kernel
noncomputable def b_are_handed : WS := (wRet (wAndV (wIsi "tuple" (wVar 1)) (wAndV (wOp inD (wVar 1) (wCall F_hands_of (wCons (wVar 0) wNil))) (wNotV (wCall anyD (wCons (wLc (wWalk (wVar 1)) setN [2] [2] wYes (wIsi "bool" (wVar 2))) wNil))))))
noncomputable def F_are_handed : List D → Wp D := fnW 2 1 b_are_handed
theorem bd_are_handed (T : Txt P w K mg cs cB aZ) (base : Heap) (f : Addr) : BodyOk P w K mg base cs 1 N_are_handed "are_handed" (top 26) f [] b_are_handed := fun cdv A outer s H E hr =>
  (pssd_one (psd_ret (pd_and (pd_isi rfl T.f_isinstance rfl T.f_tuple bb_tuple (pd_var 1)) (pd_and (pd_cmp (op_inA (hu65 hr)) do_in (pd_var 1) (pd_call (ok_hands_of T) hr (by decide) rfl (pad_cons (pd_var 0) pad_nil)) (by with_unfolding_all rfl)) (pd_one (pd_not (pd_callB (cr_any rfl) dc_any rfl T.f_any bb_any (pad_cons (pd_lc (own := [("one", 2)]) (is := [2]) rfl nd_are_handed (pid_val (pd_var 1)) (blkOk_by (by kernel_rfl)) (by decide) (fun _ _ _ _ _ => (pgd_name 2 nd_are_handed)) (fun _ _ _ _ _ => ptsd_nil) (fun _ _ _ _ _ => (pd_isi rfl T.f_isinstance rfl T.f_bool bb_bool (pd_var 2)))) pad_nil))))))))
theorem sc_are_handed : FnScope N_are_handed ["program", "thing"] (C8.fnScope (top 26)) := C8.fnScope_by (by decide +kernel)
theorem ok_are_handed (T : Txt P w K mg cs cB aZ) {base : Heap} : C8.Cal P w K mg base 2 "are_handed" (spW ⟨P, w, K, cs⟩ F_are_handed) [] := cal_d T.d_are_handed (fun _ _ _ _ _ _ us hl => match us, hl with | [_, _], _ => rfl) sc_are_handed rfl rfl (by decide) (bd_are_handed T base)

/-! ### start_of -/
def N_start_of : List Str := ["program", "numbers"]
theorem nd_start_of : N_start_of.Nodup := by decide +kernel
noncomputable def b_start_of : WS := (wRet (wTup (wCons (wC (.int 0)) (wCons (wC (.int 0)) (wCons (wMeth F_first_numbers (wVar 0) (wCons (wVar 1) wNil)) wNil)))))
noncomputable def F_start_of : List D → Wp D := fnW 2 0 b_start_of
theorem bd_start_of (T : Txt P w K mg cs cB aZ) (base : Heap) (f : Addr) : BodyOk P w K mg base cs 1 N_start_of "start_of" (top 27) f [] b_start_of := fun cdv A outer s H E hr =>
  (pssd_one (psd_ret (pd_tup (pad_cons pd_int (pad_cons pd_int (pad_cons (pd_methP T.cl (T.me_first_numbers).2 (fr_first_numbers T) hr (by decide) (pd_var 0) (pad_cons (pd_var 1) pad_nil)) pad_nil))))))
theorem sc_start_of : FnScope N_start_of ["program", "numbers"] (C8.fnScope (top 27)) := C8.fnScope_by (by decide +kernel)
theorem ok_start_of (T : Txt P w K mg cs cB aZ) {base : Heap} : C8.Cal P w K mg base 2 "start_of" (spW ⟨P, w, K, cs⟩ F_start_of) [] := cal_d T.d_start_of (fun _ _ _ _ _ _ us hl => match us, hl with | [_, _], _ => rfl) sc_start_of rfl rfl (by decide) (bd_start_of T base)

/-! ### what_is_next -/
def N_what_is_next : List Str := ["program", "state", "rows"]
theorem nd_what_is_next : N_what_is_next.Nodup := by decide +kernel
noncomputable def b_what_is_next : WS := (wSeq (wAsg (mk [] (wMeth F_rows (wVar 0) (wCons (wOp ixD (wVar 1) (wC (.int 0))) wNil))) setN [2]) (wRet (wIf (wB (wOp ltD (wOp ixD (wVar 1) (wC (.int 1))) (wCall lenA (wCons (wVar 2) wNil)))) (wOp ixD (wVar 2) (wOp ixD (wVar 1) (wC (.int 1)))) (wMeth F_end (wVar 0) (wCons (wOp ixD (wVar 1) (wC (.int 0))) wNil)))))
noncomputable def F_what_is_next : List D → Wp D := fnW 2 1 b_what_is_next
theorem bd_what_is_next (T : Txt P w K mg cs cB aZ) (base : Heap) (f : Addr) : BodyOk P w K mg base cs 4 N_what_is_next "what_is_next" (top 28) f [] b_what_is_next := fun cdv A outer s H E hr =>
  (pssd_cons (psd_asg (pse1 (pd_methP T.cl (T.me_rows).2 (fr_rows T) hr (by decide) (pd_var 0) (pad_cons (pd_ix (pd_var 1) pd_int) pad_nil))) (pgd_name 2 nd_what_is_next)) (pssd_one (psd_ret (pd_if (ptd_cmp op_lt do_lt (pd_ix (pd_var 1) pd_int) (pd_callB call_lenA dc_lenA rfl T.f_len bb_len (pad_cons (pd_var 2) pad_nil)) (nobehind _ (by decide) (by decide))) (pd_ix (pd_var 2) (pd_ix (pd_var 1) pd_int)) (pd_methP T.cl (T.me_end).2 (fr_end T) hr (by decide) (pd_var 0) (pad_cons (pd_ix (pd_var 1) pd_int) pad_nil))))))
theorem sc_what_is_next : FnScope N_what_is_next ["program", "state"] (C8.fnScope (top 28)) := C8.fnScope_by (by decide +kernel)
theorem ok_what_is_next (T : Txt P w K mg cs cB aZ) {base : Heap} : C8.Cal P w K mg base 5 "what_is_next" (spW ⟨P, w, K, cs⟩ F_what_is_next) [] := cal_d T.d_what_is_next (fun _ _ _ _ _ _ us hl => match us, hl with | [_, _], _ => rfl) sc_what_is_next rfl rfl (by decide) (bd_what_is_next T base)

/-! ### takes_next -/
def N_takes_next : List Str := ["program", "state"]
theorem nd_takes_next : N_takes_next.Nodup := by decide +kernel
noncomputable def b_takes_next : WS := (wRet (wOp eqD (wOp ixD (wCall F_what_is_next (wCons (wVar 0) (wCons (wVar 1) wNil))) (wC (.int 0))) (wC (.str "take"))))
noncomputable def F_takes_next : List D → Wp D := fnW 2 0 b_takes_next
theorem bd_takes_next (T : Txt P w K mg cs cB aZ) (base : Heap) (f : Addr) : BodyOk P w K mg base cs 5 N_takes_next "takes_next" (top 29) f [] b_takes_next := fun cdv A outer s H E hr =>
  (pssd_one (psd_ret (pd_cmp (op_eqA hr.units) do_eq (pd_ix (pd_call (ok_what_is_next T) hr (by decide) rfl (pad_cons (pd_var 0) (pad_cons (pd_var 1) pad_nil))) pd_int) pd_str (nobehind _ (by decide) (by decide)))))
theorem sc_takes_next : FnScope N_takes_next ["program", "state"] (C8.fnScope (top 29)) := C8.fnScope_by (by decide +kernel)
theorem ok_takes_next (T : Txt P w K mg cs cB aZ) {base : Heap} : C8.Cal P w K mg base 6 "takes_next" (spW ⟨P, w, K, cs⟩ F_takes_next) [] := cal_d T.d_takes_next (fun _ _ _ _ _ _ us hl => match us, hl with | [_, _], _ => rfl) sc_takes_next rfl rfl (by decide) (bd_takes_next T base)

/-! ### value_of -/
def N_value_of : List Str := ["program", "row", "numbers", "one", "other"]
theorem nd_value_of : N_value_of.Nodup := by decide +kernel
noncomputable def b_value_of : WS := (wSeq (wIfS (wB (wOp eqD (wOp ixD (wVar 1) (wC (.int 0))) (wC (.str "put")))) (wRet (wOp ixD (wVar 1) (wC (.int 2)))) wNext) (wSeq (wIfS (wB (wOp eqD (wOp ixD (wVar 1) (wC (.int 0))) (wC (.str "move")))) (wRet (wOp ixD (wVar 2) (wOp ixD (wVar 1) (wC (.int 2))))) wNext) (wSeq (wPar2 3 4 (wCons (mk [] (wOp ixD (wVar 2) (wOp ixD (wVar 1) (wC (.int 2))))) (wCons (mk [] (wOp ixD (wVar 2) (wOp ixD (wVar 1) (wC (.int 3))))) wNil))) (wSeq (wIfS (wB (wOp eqD (wOp ixD (wVar 1) (wC (.int 0))) (wC (.str "less")))) (wRet (wIf (wB (wOp ltD (wVar 3) (wVar 4))) (wC (.int 1)) (wC (.int 0)))) wNext) (wRet (wOp modD (wIf (wB (wOp eqD (wOp ixD (wVar 1) (wC (.int 0))) (wC (.str "add")))) (wOp addD (wVar 3) (wVar 4)) (wOp subD (wVar 3) (wVar 4))) (wMap fSpan (wVar 0))))))))
noncomputable def F_value_of : List D → Wp D := fnW 3 2 b_value_of
theorem bd_value_of (T : Txt P w K mg cs cB aZ) (base : Heap) (f : Addr) : BodyOk P w K mg base cs 0 N_value_of "value_of" (top 30) f [] b_value_of := fun cdv A outer s H E hr =>
  (pssd_cons (psd_if (ptd_cmp (op_eqA hr.units) do_eq (pd_ix (pd_var 1) pd_int) pd_str (nobehind _ (by decide) (by decide))) (pssd_one (psd_ret (pd_ix (pd_var 1) pd_int))) pssd_nil) (pssd_cons (psd_if (ptd_cmp (op_eqA hr.units) do_eq (pd_ix (pd_var 1) pd_int) pd_str (nobehind _ (by decide) (by decide))) (pssd_one (psd_ret (pd_ix (pd_var 2) (pd_ix (pd_var 1) pd_int)))) pssd_nil) (pssd_cons (psd_par2 (i := 3) (j := 4) rfl nd_value_of rfl rfl (by decide) rfl rfl (by decide) (by decide) (psa_cons (pse1 (pd_ix (pd_var 2) (pd_ix (pd_var 1) pd_int))) (psa_cons (pse1 (pd_ix (pd_var 2) (pd_ix (pd_var 1) pd_int))) psa_nil)) rfl) (pssd_cons (psd_if (ptd_cmp (op_eqA hr.units) do_eq (pd_ix (pd_var 1) pd_int) pd_str (nobehind _ (by decide) (by decide))) (pssd_one (psd_ret (pd_if (ptd_cmp op_lt do_lt (pd_var 3) (pd_var 4) (nobehind _ (by decide) (by decide))) pd_int pd_int))) pssd_nil) (pssd_one (psd_ret (pd_op op_mod do_mod (pd_if (ptd_cmp (op_eqA hr.units) do_eq (pd_ix (pd_var 1) pd_int) pd_str (nobehind _ (by decide) (by decide))) (pd_op op_addA do_add (pd_var 3) (pd_var 4)) (pd_op op_sub do_sub (pd_var 3) (pd_var 4))) (pd_span T.cl (pd_var 0)))))))))
theorem sc_value_of : FnScope N_value_of ["program", "row", "numbers"] (C8.fnScope (top 30)) := C8.fnScope_by (by decide +kernel)
theorem ok_value_of (T : Txt P w K mg cs cB aZ) {base : Heap} : C8.Cal P w K mg base 1 "value_of" (spW ⟨P, w, K, cs⟩ F_value_of) [] := cal_d T.d_value_of (fun _ _ _ _ _ _ us hl => match us, hl with | [_, _, _], _ => rfl) sc_value_of rfl rfl (by decide) (bd_value_of T base)

/-! ### with_number -/
def N_with_number : List Str := ["numbers", "one", "number"]
theorem nd_with_number : N_with_number.Nodup := by decide +kernel
noncomputable def b_with_number : WS := (wRet (wTup (wStar (wSl (wVar 0) wNo (wPt (wVar 1))) (wCons (wVar 2) (wStar (wSl (wVar 0) (wPt (wOp addD (wVar 1) (wC (.int 1)))) wNo) wNil)))))
noncomputable def F_with_number : List D → Wp D := fnW 3 0 b_with_number
theorem bd_with_number (T : Txt P w K mg cs cB aZ) (base : Heap) (f : Addr) : BodyOk P w K mg base cs 0 N_with_number "with_number" (top 31) f [] b_with_number := fun cdv A outer s H E hr =>
  (pssd_one (psd_ret (pd_tup (pad_star (pd_sl (pd_var 0) pod_none (pod_some (pd_var 1))) (pad_cons (pd_var 2) (pad_star (pd_sl (pd_var 0) (pod_some (pd_op op_addA do_add (pd_var 1) pd_int)) pod_none) pad_nil))))))
theorem sc_with_number : FnScope N_with_number ["numbers", "one", "number"] (C8.fnScope (top 31)) := C8.fnScope_by (by decide +kernel)
theorem ok_with_number (T : Txt P w K mg cs cB aZ) {base : Heap} : C8.Cal P w K mg base 1 "with_number" (spW ⟨P, w, K, cs⟩ F_with_number) [] := cal_d T.d_with_number (fun _ _ _ _ _ _ us hl => match us, hl with | [_, _, _], _ => rfl) sc_with_number rfl rfl (by decide) (bd_with_number T base)

/-! ### stepped -/
def N_stepped : List Str := ["program", "state", "taken", "block", "done", "numbers", "row", "number", "way", "target"]
theorem nd_stepped : N_stepped.Nodup := by decide +kernel
noncomputable def b_stepped : WS := (wSeq (wAsg (mk [] (wVar 1)) (setT 3 (setCons 1 setN (setCons 1 setN (setCons 1 setN setNil)))) [3, 4, 5]) (wSeq (wAsg (mk [] (wCall F_what_is_next (wCons (wVar 0) (wCons (wVar 1) wNil)))) setN [6]) (wSeq (wIfS (wB (wOp eqD (wOp ixD (wVar 6) (wC (.int 0))) (wC (.str "stop")))) (wRet (wC .non)) wNext) (wSeq (wIfS (wB (wOp inD (wOp ixD (wVar 6) (wC (.int 0))) (wTup (wCons (wC (.str "go")) (wCons (wC (.str "part")) wNil))))) (wSeq (wAsg (mk [] (wIf (wAnd (wB (wOp eqD (wOp ixD (wVar 6) (wC (.int 0))) (wC (.str "part")))) (wB (wOp eqD (wOp ixD (wVar 5) (wOp ixD (wVar 6) (wC (.int 1)))) (wC (.int 0))))) (wC (.int 1)) (wC (.int 0)))) setN [8]) (wSeq (wAsg (mk [] (wOp ixD (wCall F_targets_of (wCons (wVar 6) wNil)) (wVar 8))) setN [9]) (wRet (wTup (wCons (wVar 9) (wCons (wC (.int 0)) (wCons (wMeth F_entered (wVar 0) (wCons (wVar 5) (wCons (wTup (wCons (wVar 3) (wCons (wVar 8) wNil))) (wCons (wVar 9) wNil)))) wNil))))))) wNext) (wSeq (wIfS (wB (wOp eqD (wOp ixD (wVar 6) (wC (.int 0))) (wC (.str "tell")))) (wRet (wTup (wCons (wVar 3) (wCons (wOp addD (wVar 4) (wC (.int 1))) (wCons (wVar 5) wNil))))) wNext) (wSeq (wAsg (mk [] (wIf (wB (wOp eqD (wOp ixD (wVar 6) (wC (.int 0))) (wC (.str "take")))) (wVar 2) (wCall F_value_of (wCons (wVar 0) (wCons (wVar 6) (wCons (wVar 5) wNil)))))) setN [7]) (wRet (wTup (wCons (wVar 3) (wCons (wOp addD (wVar 4) (wC (.int 1))) (wCons (wCall F_with_number (wCons (wVar 5) (wCons (wOp ixD (wVar 6) (wC (.int 1))) (wCons (wVar 7) wNil)))) wNil)))))))))))
noncomputable def F_stepped : List D → Wp D := fnW 3 7 b_stepped
theorem bd_stepped (T : Txt P w K mg cs cB aZ) (base : Heap) (f : Addr) : BodyOk P w K mg base cs 5 N_stepped "stepped" (top 32) f [] b_stepped := fun cdv A outer s H E hr =>
  (pssd_cons (psd_asg (pse1 (pd_var 1)) (pgd_tup 3 rfl (pgsd_cons (pgd_name 3 nd_stepped) (pgsd_cons (pgd_name 4 nd_stepped) (pgsd_cons (pgd_name 5 nd_stepped) pgsd_nil))))) (pssd_cons (psd_asg (pse1 (pd_call (ok_what_is_next T) hr (by decide) rfl (pad_cons (pd_var 0) (pad_cons (pd_var 1) pad_nil)))) (pgd_name 6 nd_stepped)) (pssd_cons (psd_if (ptd_cmp (op_eqA hr.units) do_eq (pd_ix (pd_var 6) pd_int) pd_str (nobehind _ (by decide) (by decide))) (pssd_one (psd_ret pd_non)) pssd_nil) (pssd_cons (psd_if (ptd_cmp (op_inA (hu65 hr)) do_in (pd_ix (pd_var 6) pd_int) (pd_tup (pad_cons pd_str (pad_cons pd_str pad_nil))) (by with_unfolding_all rfl)) (pssd_cons (psd_asg (pse1 (pd_if (ptd_pw (pwd_and (ptd_cmp (op_eqA hr.units) do_eq (pd_ix (pd_var 6) pd_int) pd_str (nobehind _ (by decide) (by decide))) (pwd_and1 (ptd_cmp (op_eqA hr.units) do_eq (pd_ix (pd_var 5) (pd_ix (pd_var 6) pd_int)) pd_int (nobehind _ (by decide) (by decide)))))) pd_int pd_int)) (pgd_name 8 nd_stepped)) (pssd_cons (psd_asg (pse1 (pd_ix (pd_call (ok_targets_of T) hr (by decide) rfl (pad_cons (pd_var 6) pad_nil)) (pd_var 8))) (pgd_name 9 nd_stepped)) (pssd_one (psd_ret (pd_tup (pad_cons (pd_var 9) (pad_cons pd_int (pad_cons (pd_methP T.cl (T.me_entered).2 (fr_entered T) hr (by decide) (pd_var 0) (pad_cons (pd_var 5) (pad_cons (pd_tup (pad_cons (pd_var 3) (pad_cons (pd_var 8) pad_nil))) (pad_cons (pd_var 9) pad_nil)))) pad_nil)))))))) pssd_nil) (pssd_cons (psd_if (ptd_cmp (op_eqA hr.units) do_eq (pd_ix (pd_var 6) pd_int) pd_str (nobehind _ (by decide) (by decide))) (pssd_one (psd_ret (pd_tup (pad_cons (pd_var 3) (pad_cons (pd_op op_addA do_add (pd_var 4) pd_int) (pad_cons (pd_var 5) pad_nil)))))) pssd_nil) (pssd_cons (psd_asg (pse1 (pd_if (ptd_cmp (op_eqA hr.units) do_eq (pd_ix (pd_var 6) pd_int) pd_str (nobehind _ (by decide) (by decide))) (pd_var 2) (pd_call (ok_value_of T) hr (by decide) rfl (pad_cons (pd_var 0) (pad_cons (pd_var 6) (pad_cons (pd_var 5) pad_nil)))))) (pgd_name 7 nd_stepped)) (pssd_one (psd_ret (pd_tup (pad_cons (pd_var 3) (pad_cons (pd_op op_addA do_add (pd_var 4) pd_int) (pad_cons (pd_call (ok_with_number T) hr (by decide) rfl (pad_cons (pd_var 5) (pad_cons (pd_ix (pd_var 6) pd_int) (pad_cons (pd_var 7) pad_nil)))) pad_nil))))))))))))
theorem sc_stepped : FnScope N_stepped ["program", "state", "taken"] (C8.fnScope (top 32)) := C8.fnScope_by (by decide +kernel)
theorem ok_stepped (T : Txt P w K mg cs cB aZ) {base : Heap} : C8.Cal P w K mg base 6 "stepped" (spW ⟨P, w, K, cs⟩ F_stepped) [] := cal_s T.d_stepped sc_stepped rfl (bd_stepped T base)
theorem ok_steppedN (T : Txt P w K mg cs cB aZ) {base : Heap} : C8.Cal P w K mg base 6 "stepped" (spW ⟨P, w, K, cs⟩ F_stepped) [.non] := cal_sN T.d_stepped sc_stepped rfl (bd_stepped T base)

/-! ### steps_from -/
def N_steps_from : List Str := ["program", "state"]
theorem nd_steps_from : N_steps_from.Nodup := by decide +kernel
noncomputable def b_steps_from : WS := (wSeq (wIfS (wB (wOp eqD (wOp ixD (wCall F_what_is_next (wCons (wVar 0) (wCons (wVar 1) wNil))) (wC (.int 0))) (wC (.str "stop")))) (wRet (wLst wNil)) wNext) (wRet (wIf (wB (wCall F_takes_next (wCons (wVar 0) (wCons (wVar 1) wNil)))) (wMap rgD (wMap fSpan (wVar 0))) (wLst (wCons (wC .non) wNil)))))
noncomputable def F_steps_from : List D → Wp D := fnW 2 0 b_steps_from
theorem bd_steps_from (T : Txt P w K mg cs cB aZ) (base : Heap) (f : Addr) : BodyOk P w K mg base cs 6 N_steps_from "steps_from" (top 33) f [] b_steps_from := fun cdv A outer s H E hr =>
  (pssd_cons (psd_if (ptd_cmp (op_eqA hr.units) do_eq (pd_ix (pd_call (ok_what_is_next T) hr (by decide) rfl (pad_cons (pd_var 0) (pad_cons (pd_var 1) pad_nil))) pd_int) pd_str (nobehind _ (by decide) (by decide))) (pssd_one (psd_ret (pd_lst pad_nil))) pssd_nil) (pssd_one (psd_ret (pd_if (ptd_val (pd_call (ok_takes_next T) hr (by decide) rfl (pad_cons (pd_var 0) (pad_cons (pd_var 1) pad_nil)))) (pd_listRg rfl rfl T.f_list rfl T.f_range (pd_span T.cl (pd_var 0))) (pd_lst (pad_cons pd_non pad_nil))))))
theorem sc_steps_from : FnScope N_steps_from ["program", "state"] (C8.fnScope (top 33)) := C8.fnScope_by (by decide +kernel)
theorem ok_steps_from (T : Txt P w K mg cs cB aZ) {base : Heap} : C8.Cal P w K mg base 7 "steps_from" (spW ⟨P, w, K, cs⟩ F_steps_from) [] := cal_d T.d_steps_from (fun _ _ _ _ _ _ us hl => match us, hl with | [_, _], _ => rfl) sc_steps_from rfl rfl (by decide) (bd_steps_from T base)

/-! ### is_step -/
def N_is_step : List Str := ["program", "state", "taken"]
theorem nd_is_step : N_is_step.Nodup := by decide +kernel
noncomputable def b_is_step : WS := (wRet (wAndV (wNotV (wIsi "bool" (wVar 2))) (wOp inD (wVar 2) (wCall F_steps_from (wCons (wVar 0) (wCons (wVar 1) wNil))))))
noncomputable def F_is_step : List D → Wp D := fnW 3 0 b_is_step
theorem bd_is_step (T : Txt P w K mg cs cB aZ) (base : Heap) (f : Addr) : BodyOk P w K mg base cs 7 N_is_step "is_step" (top 34) f [] b_is_step := fun cdv A outer s H E hr =>
  (pssd_one (psd_ret (pd_and (pd_not (pd_isi rfl T.f_isinstance rfl T.f_bool bb_bool (pd_var 2))) (pd_one (pd_cmp (op_inA (hu65 hr)) do_in (pd_var 2) (pd_call (ok_steps_from T) hr (by decide) rfl (pad_cons (pd_var 0) (pad_cons (pd_var 1) pad_nil))) (by with_unfolding_all rfl))))))
theorem sc_is_step : FnScope N_is_step ["program", "state", "taken"] (C8.fnScope (top 34)) := C8.fnScope_by (by decide +kernel)
theorem ok_is_step (T : Txt P w K mg cs cB aZ) {base : Heap} : C8.Cal P w K mg base 8 "is_step" (spW ⟨P, w, K, cs⟩ F_is_step) [] := cal_d T.d_is_step (fun _ _ _ _ _ _ us hl => match us, hl with | [_, _, _], _ => rfl) sc_is_step rfl rfl (by decide) (bd_is_step T base)

/-! ### check_both -/
def N_check_both : List Str := ["one", "other"]
theorem nd_check_both : N_check_both.Nodup := by decide +kernel
noncomputable def b_check_both : WS := (wSeq (wDo (mk [] (wCall F_check_graph (wCons (wVar 0) wNil)))) (wSeq (wDo (mk [] (wCall F_check_graph (wCons (wVar 1) wNil)))) (wIfS (wOr (wB (wOp neD (wCall F_hands_of (wCons (wVar 0) wNil)) (wCall F_hands_of (wCons (wVar 1) wNil)))) (wB (wOp neD (wMap fSpan (wVar 0)) (wMap fSpan (wVar 1))))) wNever wNext)))
noncomputable def F_check_both : List D → Wp D := fnW 2 0 b_check_both
theorem bd_check_both (T : Txt P w K mg cs cB aZ) (base : Heap) (f : Addr) : BodyOk P w K mg base cs 1 N_check_both "check_both" (top 37) f [] b_check_both := fun cdv A outer s H E hr =>
  (pssd_cons (psd_do (pse1 (pd_call (ok_check_graph T) hr (by decide) rfl (pad_cons (pd_var 0) pad_nil)))) (pssd_cons (psd_do (pse1 (pd_call (ok_check_graph T) hr (by decide) rfl (pad_cons (pd_var 1) pad_nil)))) (pssd_one (psd_if (ptd_pw (pwd_or (ptd_cmp (op_neA hr.units) do_ne (pd_call (ok_hands_of T) hr (by decide) rfl (pad_cons (pd_var 0) pad_nil)) (pd_call (ok_hands_of T) hr (by decide) rfl (pad_cons (pd_var 1) pad_nil)) (nobehind _ (by decide) (by decide))) (pwd_or1 (ptd_cmp (op_neA hr.units) do_ne (pd_span T.cl (pd_var 0)) (pd_span T.cl (pd_var 1)) (nobehind _ (by decide) (by decide)))))) (pssd_one psd_never) pssd_nil))))
theorem sc_check_both : FnScope N_check_both ["one", "other"] (C8.fnScope (top 37)) := C8.fnScope_by (by decide +kernel)
theorem ok_check_both (T : Txt P w K mg cs cB aZ) {base : Heap} : C8.Cal P w K mg base 2 "check_both" (spW ⟨P, w, K, cs⟩ F_check_both) [] := cal_d T.d_check_both (fun _ _ _ _ _ _ us hl => match us, hl with | [_, _], _ => rfl) sc_check_both rfl rfl (by decide) (bd_check_both T base)

/-! ### settled -/
def N_settled : List Str := ["program", "state", "met"]
theorem nd_settled : N_settled.Nodup := by decide +kernel
noncomputable def b_settled : WS := (wSeq (wNew (wC (.dct [] [])) 2) (wSeq (wWhile (wB (wOp ninD (wOp ixD (wCall F_what_is_next (wCons (wVar 0) (wCons (wVar 1) wNil))) (wC (.int 0))) (wTup (wCons (wC (.str "take")) (wCons (wC (.str "tell")) (wCons (wC (.str "stop")) wNil)))))) (wSeq (wIfS (wB (wOp inE (wVar 1) (wVar 2))) (wRet (wC .non)) wNext) (wSeq (wSetK 2 (mk [2] (wVar 1)) (mk [2] (wC (.bl true)))) (wAsg (mk [2] (wCallN F_stepped (wCons (wVar 0) (wCons (wVar 1) wNil)))) setN [1])))) (wRet (wVar 1))))
noncomputable def F_settled : List D → Wp D := fnW 2 1 b_settled
theorem bd_settled (T : Txt P w K mg cs cB aZ) (base : Heap) (f : Addr) : BodyOk P w K mg base cs 6 N_settled "settled" (top 38) f [2] b_settled := fun cdv A outer s H E hr =>
  (pssd_cons (psd_new (i := 2) nd_settled pso_dict rfl (by decide)) (pssd_cons (psd_while PassesOwn.never (ptd_cmp (op_ninA (hu65 hr)) do_nin (pd_ix (pd_call (ok_what_is_next T) hr (by decide) rfl (pad_cons (pd_var 0) (pad_cons (pd_var 1) pad_nil))) pd_int) (pd_tup (pad_cons pd_str (pad_cons pd_str (pad_cons pd_str pad_nil)))) (by with_unfolding_all rfl)) (pssd_cons (psd_if (ptd_cmp (op_inE (cs := cs) (hr.units)) do_inE (pd_var 1) (pd_var 2) (by with_unfolding_all rfl)) (pssd_one (psd_ret pd_non)) pssd_nil) (pssd_cons (psd_setK (i := 2) hr.units rfl (by decide) (pse1 pd_bl) (pse1 (pd_var 1))) (pssd_one (psd_asg (pse1 (pd_callN (ok_steppedN T) hr (by decide) rfl (pad_cons (pd_var 0) (pad_cons (pd_var 1) pad_nil)))) (pgd_name 1 nd_settled)))))) (pssd_one (psd_ret (pd_var 1)))))
theorem sc_settled : FnScope N_settled ["program", "state"] (C8.fnScope (top 38)) := C8.fnScope_by (by decide +kernel)
theorem ok_settled (T : Txt P w K mg cs cB aZ) {base : Heap} : C8.Cal P w K mg base 7 "settled" (spW ⟨P, w, K, cs⟩ F_settled) [] := cal_d T.d_settled (fun _ _ _ _ _ _ us hl => match us, hl with | [_, _], _ => rfl) sc_settled rfl rfl (by decide) (bd_settled T base)

/-! ### event_at -/
def N_event_at : List Str := ["program", "state", "row"]
theorem nd_event_at : N_event_at.Nodup := by decide +kernel
noncomputable def b_event_at : WS := (wSeq (wIfS (wB (wOp isD (wVar 1) (wC .non))) (wRet (wTup (wCons (wC (.str "silent")) (wCons (wC .non) wNil)))) wNext) (wSeq (wAsg (mk [] (wCall F_what_is_next (wCons (wVar 0) (wCons (wVar 1) wNil)))) setN [2]) (wRet (wTup (wCons (wOp ixD (wVar 2) (wC (.int 0))) (wCons (wIf (wB (wOp eqD (wOp ixD (wVar 2) (wC (.int 0))) (wC (.str "tell")))) (wOp ixD (wOp ixD (wVar 1) (wC (.int 2))) (wOp ixD (wVar 2) (wC (.int 1)))) (wC .non)) wNil))))))
noncomputable def F_event_at : List D → Wp D := fnW 2 1 b_event_at
theorem bd_event_at (T : Txt P w K mg cs cB aZ) (base : Heap) (f : Addr) : BodyOk P w K mg base cs 5 N_event_at "event_at" (top 39) f [] b_event_at := fun cdv A outer s H E hr =>
  (pssd_cons (psd_if (ptd_cmp op_isA do_is (pd_var 1) pd_non (nobehind _ (by decide) (by decide))) (pssd_one (psd_ret (pd_tup (pad_cons pd_str (pad_cons pd_non pad_nil))))) pssd_nil) (pssd_cons (psd_asg (pse1 (pd_call (ok_what_is_next T) hr (by decide) rfl (pad_cons (pd_var 0) (pad_cons (pd_var 1) pad_nil)))) (pgd_name 2 nd_event_at)) (pssd_one (psd_ret (pd_tup (pad_cons (pd_ix (pd_var 2) pd_int) (pad_cons (pd_if (ptd_cmp (op_eqA hr.units) do_eq (pd_ix (pd_var 2) pd_int) pd_str (nobehind _ (by decide) (by decide))) (pd_ix (pd_ix (pd_var 1) pd_int) (pd_ix (pd_var 2) pd_int)) pd_non) pad_nil)))))))
theorem sc_event_at : FnScope N_event_at ["program", "state"] (C8.fnScope (top 39)) := C8.fnScope_by (by decide +kernel)
theorem ok_event_at (T : Txt P w K mg cs cB aZ) {base : Heap} : C8.Cal P w K mg base 6 "event_at" (spW ⟨P, w, K, cs⟩ F_event_at) [] := cal_d T.d_event_at (fun _ _ _ _ _ _ us hl => match us, hl with | [_, _], _ => rfl) sc_event_at rfl rfl (by decide) (bd_event_at T base)

/-! ### follow -/
def N_follow : List Str := ["program", "state", "taken"]
theorem nd_follow : N_follow.Nodup := by decide +kernel
noncomputable def b_follow : WS := (wRet (wCall F_settled (wCons (wVar 0) (wCons (wCall F_stepped (wCons (wVar 0) (wCons (wVar 1) (wCons (wVar 2) wNil)))) wNil))))
noncomputable def F_follow : List D → Wp D := fnW 3 0 b_follow
theorem bd_follow (T : Txt P w K mg cs cB aZ) (base : Heap) (f : Addr) : BodyOk P w K mg base cs 7 N_follow "follow" (top 40) f [] b_follow := fun cdv A outer s H E hr =>
  (pssd_one (psd_ret (pd_call (ok_settled T) hr (by decide) rfl (pad_cons (pd_var 0) (pad_cons (pd_call (ok_stepped T) hr (by decide) rfl (pad_cons (pd_var 0) (pad_cons (pd_var 1) (pad_cons (pd_var 2) pad_nil)))) pad_nil)))))
theorem sc_follow : FnScope N_follow ["program", "state", "taken"] (C8.fnScope (top 40)) := C8.fnScope_by (by decide +kernel)
theorem ok_follow (T : Txt P w K mg cs cB aZ) {base : Heap} : C8.Cal P w K mg base 8 "follow" (spW ⟨P, w, K, cs⟩ F_follow) [] := cal_d T.d_follow (fun _ _ _ _ _ _ us hl => match us, hl with | [_, _, _], _ => rfl) sc_follow rfl rfl (by decide) (bd_follow T base)

/-! ### are_one -/
def N_are_one : List Str := ["one", "other", "pair"]
theorem nd_are_one : N_are_one.Nodup := by decide +kernel
noncomputable def b_are_one : WS := (wRet (wOp eqD (wCall F_event_at (wCons (wVar 0) (wCons (wOp ixD (wVar 2) (wC (.int 0))) wNil))) (wCall F_event_at (wCons (wVar 1) (wCons (wOp ixD (wVar 2) (wC (.int 1))) wNil)))))
noncomputable def F_are_one : List D → Wp D := fnW 3 0 b_are_one
theorem bd_are_one (T : Txt P w K mg cs cB aZ) (base : Heap) (f : Addr) : BodyOk P w K mg base cs 6 N_are_one "are_one" (top 41) f [] b_are_one := fun cdv A outer s H E hr =>
  (pssd_one (psd_ret (pd_cmp (op_eqA hr.units) do_eq (pd_call (ok_event_at T) hr (by decide) rfl (pad_cons (pd_var 0) (pad_cons (pd_ix (pd_var 2) pd_int) pad_nil))) (pd_call (ok_event_at T) hr (by decide) rfl (pad_cons (pd_var 1) (pad_cons (pd_ix (pd_var 2) pd_int) pad_nil))) (nobehind _ (by decide) (by decide)))))
theorem sc_are_one : FnScope N_are_one ["one", "other", "pair"] (C8.fnScope (top 41)) := C8.fnScope_by (by decide +kernel)
theorem ok_are_one (T : Txt P w K mg cs cB aZ) {base : Heap} : C8.Cal P w K mg base 7 "are_one" (spW ⟨P, w, K, cs⟩ F_are_one) [] := cal_d T.d_are_one (fun _ _ _ _ _ _ us hl => match us, hl with | [_, _, _], _ => rfl) sc_are_one rfl rfl (by decide) (bd_are_one T base)

/-! ### lates_of -/
def N_lates_of : List Str := ["one", "other", "pair", "taken"]
theorem nd_lates_of : N_lates_of.Nodup := by decide +kernel
noncomputable def b_lates_of : WS := (wSeq (wIfS (wOr (wB (wOp isD (wOp ixD (wVar 2) (wC (.int 0))) (wC .non))) (wB (wOp eqD (wOp ixD (wCall F_what_is_next (wCons (wVar 0) (wCons (wOp ixD (wVar 2) (wC (.int 0))) wNil))) (wC (.int 0))) (wC (.str "stop"))))) (wRet (wLst wNil)) wNext) (wRet (wLc (wWalk (wCall F_steps_from (wCons (wVar 0) (wCons (wOp ixD (wVar 2) (wC (.int 0))) wNil)))) setN [3] [3] wYes (wTup (wCons (wVar 3) (wCons (wTup (wCons (wCall F_follow (wCons (wVar 0) (wCons (wOp ixD (wVar 2) (wC (.int 0))) (wCons (wVar 3) wNil)))) (wCons (wCall F_follow (wCons (wVar 1) (wCons (wOp ixD (wVar 2) (wC (.int 1))) (wCons (wVar 3) wNil)))) wNil))) wNil))))))
noncomputable def F_lates_of : List D → Wp D := fnW 3 1 b_lates_of
theorem bd_lates_of (T : Txt P w K mg cs cB aZ) (base : Heap) (f : Addr) : BodyOk P w K mg base cs 8 N_lates_of "lates_of" (top 42) f [] b_lates_of := fun cdv A outer s H E hr =>
  (pssd_cons (psd_if (ptd_pw (pwd_or (ptd_cmp op_isA do_is (pd_ix (pd_var 2) pd_int) pd_non (nobehind _ (by decide) (by decide))) (pwd_or1 (ptd_cmp (op_eqA hr.units) do_eq (pd_ix (pd_call (ok_what_is_next T) hr (by decide) rfl (pad_cons (pd_var 0) (pad_cons (pd_ix (pd_var 2) pd_int) pad_nil))) pd_int) pd_str (nobehind _ (by decide) (by decide)))))) (pssd_one (psd_ret (pd_lst pad_nil))) pssd_nil) (pssd_one (psd_ret (pd_lc (own := [("taken", 3)]) (is := [3]) rfl nd_lates_of (pid_val (pd_call (ok_steps_from T) hr (by decide) rfl (pad_cons (pd_var 0) (pad_cons (pd_ix (pd_var 2) pd_int) pad_nil)))) (blkOk_by (by kernel_rfl)) (by decide) (fun _ _ _ _ _ => (pgd_name 3 nd_lates_of)) (fun _ _ _ _ _ => ptsd_nil) (fun _ _ _ _ _ => (pd_tup (pad_cons (pd_var 3) (pad_cons (pd_tup (pad_cons (pd_call (ok_follow T) hr (by decide) rfl (pad_cons (pd_var 0) (pad_cons (pd_ix (pd_var 2) pd_int) (pad_cons (pd_var 3) pad_nil)))) (pad_cons (pd_call (ok_follow T) hr (by decide) rfl (pad_cons (pd_var 1) (pad_cons (pd_ix (pd_var 2) pd_int) (pad_cons (pd_var 3) pad_nil)))) pad_nil))) pad_nil))))))))
theorem sc_lates_of : FnScope N_lates_of ["one", "other", "pair"] (C8.fnScope (top 42)) := C8.fnScope_by (by decide +kernel)
theorem ok_lates_of (T : Txt P w K mg cs cB aZ) {base : Heap} : C8.Cal P w K mg base 9 "lates_of" (spW ⟨P, w, K, cs⟩ F_lates_of) [] := cal_d T.d_lates_of (fun _ _ _ _ _ _ us hl => match us, hl with | [_, _, _], _ => rfl) sc_lates_of rfl rfl (by decide) (bd_lates_of T base)

/-! ### starts_of -/
def N_starts_of : List Str := ["one", "other", "found", "numbers", "pair"]
theorem nd_starts_of : N_starts_of.Nodup := by decide +kernel
noncomputable def b_starts_of : WS := (wSeq (wNew (wC (.dct [] [])) 2) (wSeq (wFor (mk [2] (wWalk (wCall F_hands_of (wCons (wVar 0) wNil)))) setN [3] (wSeq (wAsg (mk [2] (wTup (wCons (wCall F_settled (wCons (wVar 0) (wCons (wCall F_start_of (wCons (wVar 0) (wCons (wVar 3) wNil))) wNil))) (wCons (wCall F_settled (wCons (wVar 1) (wCons (wCall F_start_of (wCons (wVar 1) (wCons (wVar 3) wNil))) wNil))) wNil)))) setN [4]) (wSetdef 2 (mk [2] (wVar 4)) (mk [2] (wVar 3))))) (wRet (wVar 2))))
noncomputable def F_starts_of : List D → Wp D := fnW 2 3 b_starts_of
theorem bd_starts_of (T : Txt P w K mg cs cB aZ) (base : Heap) (f : Addr) : BodyOk P w K mg base cs 7 N_starts_of "starts_of" (top 43) f [2] b_starts_of := fun cdv A outer s H E hr =>
  (pssd_cons (psd_new (i := 2) nd_starts_of pso_dict rfl (by decide)) (pssd_cons (psd_for PassesOwn.never rfl (psi1 (pid_val (pd_call (ok_hands_of T) hr (by decide) rfl (pad_cons (pd_var 0) pad_nil)))) (pgd_name 3 nd_starts_of) (pssd_cons (psd_asg (pse1 (pd_tup (pad_cons (pd_call (ok_settled T) hr (by decide) rfl (pad_cons (pd_var 0) (pad_cons (pd_call (ok_start_of T) hr (by decide) rfl (pad_cons (pd_var 0) (pad_cons (pd_var 3) pad_nil))) pad_nil))) (pad_cons (pd_call (ok_settled T) hr (by decide) rfl (pad_cons (pd_var 1) (pad_cons (pd_call (ok_start_of T) hr (by decide) rfl (pad_cons (pd_var 1) (pad_cons (pd_var 3) pad_nil))) pad_nil))) pad_nil)))) (pgd_name 4 nd_starts_of)) (pssd_one (psd_setdef (i := 2) hr.units rfl (by decide) (pse1 (pd_var 4)) (pse1 (pd_var 3)) ⟨rfl, rfl, rfl, rfl⟩)))) (pssd_one (psd_ret (pd_var 2)))))
theorem sc_starts_of : FnScope N_starts_of ["one", "other"] (C8.fnScope (top 43)) := C8.fnScope_by (by decide +kernel)
theorem ok_starts_of (T : Txt P w K mg cs cB aZ) {base : Heap} : C8.Cal P w K mg base 8 "starts_of" (spW ⟨P, w, K, cs⟩ F_starts_of) [] := cal_d T.d_starts_of (fun _ _ _ _ _ _ us hl => match us, hl with | [_, _], _ => rfl) sc_starts_of rfl rfl (by decide) (bd_starts_of T base)

/-! ### is_settled_in -/
def N_is_settled_in : List Str := ["program", "state"]
theorem nd_is_settled_in : N_is_settled_in.Nodup := by decide +kernel
noncomputable def b_is_settled_in : WS := (wRet (wOrV (wOp isD (wVar 1) (wC .non)) (wOp inD (wOp ixD (wCall F_what_is_next (wCons (wVar 0) (wCons (wVar 1) wNil))) (wC (.int 0))) (wTup (wCons (wC (.str "take")) (wCons (wC (.str "tell")) (wCons (wC (.str "stop")) wNil)))))))
noncomputable def F_is_settled_in : List D → Wp D := fnW 2 0 b_is_settled_in
theorem bd_is_settled_in (T : Txt P w K mg cs cB aZ) (base : Heap) (f : Addr) : BodyOk P w K mg base cs 5 N_is_settled_in "is_settled_in" (top 44) f [] b_is_settled_in := fun cdv A outer s H E hr =>
  (pssd_one (psd_ret (pd_or (pd_cmp op_isA do_is (pd_var 1) pd_non (nobehind _ (by decide) (by decide))) (pd_one (pd_cmp (op_inA (hu65 hr)) do_in (pd_ix (pd_call (ok_what_is_next T) hr (by decide) rfl (pad_cons (pd_var 0) (pad_cons (pd_var 1) pad_nil))) pd_int) (pd_tup (pad_cons pd_str (pad_cons pd_str (pad_cons pd_str pad_nil)))) (by with_unfolding_all rfl))))))
theorem sc_is_settled_in : FnScope N_is_settled_in ["program", "state"] (C8.fnScope (top 44)) := C8.fnScope_by (by decide +kernel)
theorem ok_is_settled_in (T : Txt P w K mg cs cB aZ) {base : Heap} : C8.Cal P w K mg base 6 "is_settled_in" (spW ⟨P, w, K, cs⟩ F_is_settled_in) [] := cal_d T.d_is_settled_in (fun _ _ _ _ _ _ us hl => match us, hl with | [_, _], _ => rfl) sc_is_settled_in rfl rfl (by decide) (bd_is_settled_in T base)

/-! ### Same.shows -/
def N_Same_shows : List Str := ["self", "one", "other", "known", "pair", "taken", "late"]
theorem nd_Same_shows : N_Same_shows.Nodup := by decide +kernel
noncomputable def b_Same_shows : WS := (wSeq (wDo (mk [] (wCall F_check_both (wCons (wVar 1) (wCons (wVar 2) wNil))))) (wSeq (wAsg (mk [] (wDc (wWalkS (wVar 0)) setN [4] [4] (wVar 4) (wC (.bl true)))) setN [3]) (wSeq (wIfS (wNot (wB (wCall allD (wCons (wLc (wWalk (wCall F_starts_of (wCons (wVar 1) (wCons (wVar 2) wNil)))) setN [4] [4] wYes (wOp inE (wVar 4) (wVar 3))) wNil)))) (wRet (wC (.bl false))) wNext) (wSeq (wFor (mk [] (wWalk (wVar 3))) setN [4] (wSeq (wIfS (wOr (wNot (wB (wCall F_is_settled_in (wCons (wVar 1) (wCons (wOp ixD (wVar 4) (wC (.int 0))) wNil))))) (wNot (wB (wCall F_is_settled_in (wCons (wVar 2) (wCons (wOp ixD (wVar 4) (wC (.int 1))) wNil)))))) (wRet (wC (.bl false))) wNext) (wSeq (wIfS (wB (wOp neD (wCall F_event_at (wCons (wVar 1) (wCons (wOp ixD (wVar 4) (wC (.int 0))) wNil))) (wCall F_event_at (wCons (wVar 2) (wCons (wOp ixD (wVar 4) (wC (.int 1))) wNil))))) (wRet (wC (.bl false))) wNext) (wIfS (wNot (wB (wCall allD (wCons (wLc (wWalk (wCall F_lates_of (wCons (wVar 1) (wCons (wVar 2) (wCons (wVar 4) wNil))))) (setT 2 (setCons 1 setN (setCons 1 setN setNil))) [5, 6] [5, 6] wYes (wOp inE (wVar 6) (wVar 3))) wNil)))) (wRet (wC (.bl false))) wNext)))) (wRet (wC (.bl true)))))))
noncomputable def F_Same_shows : List D → Wp D := fnW 3 4 b_Same_shows
theorem bd_Same_shows (T : Txt P w K mg cs cB aZ) (base : Heap) (f : Addr) : BodyOk P w K mg base cs 9 N_Same_shows "Same.shows" (mem 45 3) f [] b_Same_shows := fun cdv A outer s H E hr =>
  (pssd_cons (psd_do (pse1 (pd_call (ok_check_both T) hr (by decide) rfl (pad_cons (pd_var 1) (pad_cons (pd_var 2) pad_nil))))) (pssd_cons (psd_asg (pse1 (pd_dc (own := [("pair", 4)]) (is := [4]) hr.units rfl nd_Same_shows (pid_same T.cl T.itS T.f_iter hr (by decide) (pd_var 0)) (blkOk_by (by kernel_rfl)) (by decide) (fun _ _ _ _ _ => (pgd_name 4 nd_Same_shows)) (fun _ _ _ _ _ => (pd_var 4)) (fun _ _ _ _ _ => pd_bl))) (pgd_name 3 nd_Same_shows)) (pssd_cons (psd_if (ptd_not (ptd_val (pd_callB (cr_all rfl) dc_all rfl T.f_all bb_all (pad_cons (pd_lc (own := [("pair", 4)]) (is := [4]) rfl nd_Same_shows (pid_val (pd_call (ok_starts_of T) hr (by decide) rfl (pad_cons (pd_var 1) (pad_cons (pd_var 2) pad_nil)))) (blkOk_by (by kernel_rfl)) (by decide) (fun _ _ _ _ _ => (pgd_name 4 nd_Same_shows)) (fun _ _ _ _ _ => ptsd_nil) (fun _ _ _ _ _ => (pd_cmp (op_inE (cs := cs) (hr.units)) do_inE (pd_var 4) (pd_var 3) (by with_unfolding_all rfl)))) pad_nil)))) (pssd_one (psd_ret pd_bl)) pssd_nil) (pssd_cons (psd_for PassesOwn.never rfl (psi1 (pid_val (pd_var 3))) (pgd_name 4 nd_Same_shows) (pssd_cons (psd_if (ptd_pw (pwd_or (ptd_not (ptd_val (pd_call (ok_is_settled_in T) hr (by decide) rfl (pad_cons (pd_var 1) (pad_cons (pd_ix (pd_var 4) pd_int) pad_nil))))) (pwd_or1 (ptd_not (ptd_val (pd_call (ok_is_settled_in T) hr (by decide) rfl (pad_cons (pd_var 2) (pad_cons (pd_ix (pd_var 4) pd_int) pad_nil)))))))) (pssd_one (psd_ret pd_bl)) pssd_nil) (pssd_cons (psd_if (ptd_cmp (op_neA hr.units) do_ne (pd_call (ok_event_at T) hr (by decide) rfl (pad_cons (pd_var 1) (pad_cons (pd_ix (pd_var 4) pd_int) pad_nil))) (pd_call (ok_event_at T) hr (by decide) rfl (pad_cons (pd_var 2) (pad_cons (pd_ix (pd_var 4) pd_int) pad_nil))) (nobehind _ (by decide) (by decide))) (pssd_one (psd_ret pd_bl)) pssd_nil) (pssd_one (psd_if (ptd_not (ptd_val (pd_callB (cr_all rfl) dc_all rfl T.f_all bb_all (pad_cons (pd_lc (own := [("taken", 5), ("late", 6)]) (is := [5, 6]) rfl nd_Same_shows (pid_val (pd_call (ok_lates_of T) hr (by decide) rfl (pad_cons (pd_var 1) (pad_cons (pd_var 2) (pad_cons (pd_var 4) pad_nil))))) (blkOk_by (by kernel_rfl)) (by decide) (fun _ _ _ _ _ => (pgd_tup 2 rfl (pgsd_cons (pgd_name 5 nd_Same_shows) (pgsd_cons (pgd_name 6 nd_Same_shows) pgsd_nil)))) (fun _ _ _ _ _ => ptsd_nil) (fun _ _ _ _ _ => (pd_cmp (op_inE (cs := cs) (hr.units)) do_inE (pd_var 6) (pd_var 3) (by with_unfolding_all rfl)))) pad_nil)))) (pssd_one (psd_ret pd_bl)) pssd_nil))))) (pssd_one (psd_ret pd_bl))))))
theorem sc_Same_shows : FnScope N_Same_shows ["self", "one", "other"] (C8.fnScope (mem 45 3)) := C8.fnScope_by (by decide +kernel)
theorem met_Same_shows (T : Txt P w K mg cs cB aZ) {base : Heap} : C8.Met P w K mg base 10 cs.cS "shows" (spW ⟨P, w, K, cs⟩ F_Same_shows) [] := met_d T.cl.S T.ms_Same (fun _ _ _ _ _ _ us hl => match us, hl with | [_, _, _], _ => rfl) sc_Same_shows rfl rfl (by decide) (bd_Same_shows T base)

/-! ### start_pairs -/
def N_start_pairs : List Str := ["one", "other", "row"]
theorem nd_start_pairs : N_start_pairs.Nodup := by decide +kernel
noncomputable def b_start_pairs : WS := (wRet (wLc (wWalk (wCall F_hands_of (wCons (wVar 0) wNil))) setN [2] [2] wYes (wTup (wCons (wTup (wCons (wCall F_settled (wCons (wVar 0) (wCons (wCall F_start_of (wCons (wVar 0) (wCons (wVar 2) wNil))) wNil))) (wCons (wCall F_settled (wCons (wVar 1) (wCons (wCall F_start_of (wCons (wVar 1) (wCons (wVar 2) wNil))) wNil))) wNil))) (wCons (wVar 2) wNil)))))
noncomputable def F_start_pairs : List D → Wp D := fnW 2 1 b_start_pairs
theorem bd_start_pairs (T : Txt P w K mg cs cB aZ) (base : Heap) (f : Addr) : BodyOk P w K mg base cs 7 N_start_pairs "start_pairs" (top 47) f [] b_start_pairs := fun cdv A outer s H E hr =>
  (pssd_one (psd_ret (pd_lc (own := [("row", 2)]) (is := [2]) rfl nd_start_pairs (pid_val (pd_call (ok_hands_of T) hr (by decide) rfl (pad_cons (pd_var 0) pad_nil))) (blkOk_by (by kernel_rfl)) (by decide) (fun _ _ _ _ _ => (pgd_name 2 nd_start_pairs)) (fun _ _ _ _ _ => ptsd_nil) (fun _ _ _ _ _ => (pd_tup (pad_cons (pd_tup (pad_cons (pd_call (ok_settled T) hr (by decide) rfl (pad_cons (pd_var 0) (pad_cons (pd_call (ok_start_of T) hr (by decide) rfl (pad_cons (pd_var 0) (pad_cons (pd_var 2) pad_nil))) pad_nil))) (pad_cons (pd_call (ok_settled T) hr (by decide) rfl (pad_cons (pd_var 1) (pad_cons (pd_call (ok_start_of T) hr (by decide) rfl (pad_cons (pd_var 1) (pad_cons (pd_var 2) pad_nil))) pad_nil))) pad_nil))) (pad_cons (pd_var 2) pad_nil)))))))
theorem sc_start_pairs : FnScope N_start_pairs ["one", "other"] (C8.fnScope (top 47)) := C8.fnScope_by (by decide +kernel)
theorem ok_start_pairs (T : Txt P w K mg cs cB aZ) {base : Heap} : C8.Cal P w K mg base 8 "start_pairs" (spW ⟨P, w, K, cs⟩ F_start_pairs) [] := cal_d T.d_start_pairs (fun _ _ _ _ _ _ us hl => match us, hl with | [_, _], _ => rfl) sc_start_pairs rfl rfl (by decide) (bd_start_pairs T base)

/-! ### Parted.shows -/
def N_Parted_shows : List Str := ["self", "one", "other", "pair", "waiting", "met", "word", "taken", "numbers"]
theorem nd_Parted_shows : N_Parted_shows.Nodup := by decide +kernel
noncomputable def b_Parted_shows : WS := (wSeq (wDo (mk [5] (wCall F_check_both (wCons (wVar 1) (wCons (wVar 2) wNil))))) (wSeq (wIfS (wNot (wB (wCall F_are_handed (wCons (wVar 1) (wCons (wMap fHandedT (wVar 0)) wNil))))) (wRet (wC (.bl false))) wNext) (wSeq (wAsg (mk [5] (wOp ixD (wLc (wWalk (wCall F_start_pairs (wCons (wVar 1) (wCons (wVar 2) wNil)))) (setT 2 (setCons 1 setN (setCons 1 setN setNil))) [3, 8] [3, 8] (wB (wOp eqD (wVar 8) (wMap fHandedT (wVar 0)))) (wVar 3)) (wC (.int 0)))) setN [3]) (wSeq (wPar2o 4 5 (mk [5] (wMap fInputs (wVar 0))) (wC (.dct [] []))) (wSeq (wWhile (wB (wOp eqD (wCall F_event_at (wCons (wVar 1) (wCons (wOp ixD (wVar 3) (wC (.int 0))) wNil))) (wCall F_event_at (wCons (wVar 2) (wCons (wOp ixD (wVar 3) (wC (.int 1))) wNil))))) (wSeq (wAsg (mk [5] (wOp ixD (wCall F_event_at (wCons (wVar 1) (wCons (wOp ixD (wVar 3) (wC (.int 0))) wNil))) (wC (.int 0)))) setN [6]) (wSeq (wIfS (wOr (wB (wOp inD (wVar 6) (wTup (wCons (wC (.str "stop")) (wCons (wC (.str "silent")) wNil))))) (wOr (wB (wOp inE (wTup (wCons (wVar 3) (wCons (wCall lenA (wCons (wVar 4) wNil)) wNil))) (wVar 5))) (wAnd (wB (wOp eqD (wVar 6) (wC (.str "take")))) (wB (wOp eqD (wVar 4) (wLst wNil)))))) (wRet (wC (.bl false))) wNext) (wSeq (wSetK 5 (mk [5] (wTup (wCons (wVar 3) (wCons (wCall lenA (wCons (wVar 4) wNil)) wNil)))) (mk [5] (wC (.bl true)))) (wSeq (wAsg (mk [5] (wIf (wB (wOp eqD (wVar 6) (wC (.str "take")))) (wOp ixD (wVar 4) (wC (.int 0))) (wC .non))) setN [7]) (wSeq (wIfS (wNot (wB (wCall F_is_step (wCons (wVar 1) (wCons (wOp ixD (wVar 3) (wC (.int 0))) (wCons (wVar 7) wNil)))))) (wRet (wC (.bl false))) wNext) (wSeq (wAsg (mk [5] (wIf (wB (wOp eqD (wVar 6) (wC (.str "take")))) (wSl (wVar 4) (wPt (wC (.int 1))) wNo) (wVar 4))) setN [4]) (wAsg (mk [5] (wTup (wCons (wCall F_follow (wCons (wVar 1) (wCons (wOp ixD (wVar 3) (wC (.int 0))) (wCons (wVar 7) wNil)))) (wCons (wCall F_follow (wCons (wVar 2) (wCons (wOp ixD (wVar 3) (wC (.int 1))) (wCons (wVar 7) wNil)))) wNil)))) setN [3])))))))) (wRet (wC (.bl true))))))))
noncomputable def F_Parted_shows : List D → Wp D := fnW 3 6 b_Parted_shows
theorem bd_Parted_shows (T : Txt P w K mg cs cB aZ) (base : Heap) (f : Addr) : BodyOk P w K mg base cs 8 N_Parted_shows "Parted.shows" (mem 46 2) f [5] b_Parted_shows := fun cdv A outer s H E hr =>
  (pssd_cons (psd_do (pse1 (pd_call (ok_check_both T) hr (by decide) rfl (pad_cons (pd_var 1) (pad_cons (pd_var 2) pad_nil))))) (pssd_cons (psd_if (ptd_not (ptd_val (pd_call (ok_are_handed T) hr (by decide) rfl (pad_cons (pd_var 1) (pad_cons (pd_handedT T.cl (pd_var 0)) pad_nil))))) (pssd_one (psd_ret pd_bl)) pssd_nil) (pssd_cons (psd_asg (pse1 (pd_ix (pd_lc (own := [("pair", 3), ("numbers", 8)]) (is := [3, 8]) rfl nd_Parted_shows (pid_val (pd_call (ok_start_pairs T) hr (by decide) rfl (pad_cons (pd_var 1) (pad_cons (pd_var 2) pad_nil)))) (blkOk_by (by kernel_rfl)) (by decide) (fun _ _ _ _ _ => (pgd_tup 2 rfl (pgsd_cons (pgd_name 3 nd_Parted_shows) (pgsd_cons (pgd_name 8 nd_Parted_shows) pgsd_nil)))) (fun _ _ _ _ _ => (ptsd_one (ptd_cmp (op_eqA hr.units) do_eq (pd_var 8) (pd_handedT T.cl (pd_var 0)) (nobehind _ (by decide) (by decide))))) (fun _ _ _ _ _ => (pd_var 3))) pd_int)) (pgd_name 3 nd_Parted_shows)) (pssd_cons (psd_par2o (i := 4) (j := 5) rfl nd_Parted_shows rfl rfl (by decide) rfl rfl (by decide) (by decide) (pse1 (pd_inputs T.cl (pd_var 0))) pso_dict rfl) (pssd_cons (psd_while PassesOwn.never (ptd_cmp (op_eqA hr.units) do_eq (pd_call (ok_event_at T) hr (by decide) rfl (pad_cons (pd_var 1) (pad_cons (pd_ix (pd_var 3) pd_int) pad_nil))) (pd_call (ok_event_at T) hr (by decide) rfl (pad_cons (pd_var 2) (pad_cons (pd_ix (pd_var 3) pd_int) pad_nil))) (nobehind _ (by decide) (by decide))) (pssd_cons (psd_asg (pse1 (pd_ix (pd_call (ok_event_at T) hr (by decide) rfl (pad_cons (pd_var 1) (pad_cons (pd_ix (pd_var 3) pd_int) pad_nil))) pd_int)) (pgd_name 6 nd_Parted_shows)) (pssd_cons (psd_if (ptd_pw (pwd_or (ptd_cmp (op_inA (hu65 hr)) do_in (pd_var 6) (pd_tup (pad_cons pd_str (pad_cons pd_str pad_nil))) (by with_unfolding_all rfl)) (pwd_or (ptd_cmp (op_inE (cs := cs) (hr.units)) do_inE (pd_tup (pad_cons (pd_var 3) (pad_cons (pd_callB call_lenA dc_lenA rfl T.f_len bb_len (pad_cons (pd_var 4) pad_nil)) pad_nil))) (pd_var 5) (by with_unfolding_all rfl)) (pwd_or1 (ptd_pw (pwd_and (ptd_cmp (op_eqA hr.units) do_eq (pd_var 6) pd_str (nobehind _ (by decide) (by decide))) (pwd_and1 (ptd_cmp (op_eqA hr.units) do_eq (pd_var 4) (pd_lst pad_nil) (nobehind _ (by decide) (by decide)))))))))) (pssd_one (psd_ret pd_bl)) pssd_nil) (pssd_cons (psd_setK (i := 5) hr.units rfl (by decide) (pse1 pd_bl) (pse1 (pd_tup (pad_cons (pd_var 3) (pad_cons (pd_callB call_lenA dc_lenA rfl T.f_len bb_len (pad_cons (pd_var 4) pad_nil)) pad_nil))))) (pssd_cons (psd_asg (pse1 (pd_if (ptd_cmp (op_eqA hr.units) do_eq (pd_var 6) pd_str (nobehind _ (by decide) (by decide))) (pd_ix (pd_var 4) pd_int) pd_non)) (pgd_name 7 nd_Parted_shows)) (pssd_cons (psd_if (ptd_not (ptd_val (pd_call (ok_is_step T) hr (by decide) rfl (pad_cons (pd_var 1) (pad_cons (pd_ix (pd_var 3) pd_int) (pad_cons (pd_var 7) pad_nil)))))) (pssd_one (psd_ret pd_bl)) pssd_nil) (pssd_cons (psd_asg (pse1 (pd_if (ptd_cmp (op_eqA hr.units) do_eq (pd_var 6) pd_str (nobehind _ (by decide) (by decide))) (pd_sl (pd_var 4) (pod_some pd_int) pod_none) (pd_var 4))) (pgd_name 4 nd_Parted_shows)) (pssd_one (psd_asg (pse1 (pd_tup (pad_cons (pd_call (ok_follow T) hr (by decide) rfl (pad_cons (pd_var 1) (pad_cons (pd_ix (pd_var 3) pd_int) (pad_cons (pd_var 7) pad_nil)))) (pad_cons (pd_call (ok_follow T) hr (by decide) rfl (pad_cons (pd_var 2) (pad_cons (pd_ix (pd_var 3) pd_int) (pad_cons (pd_var 7) pad_nil)))) pad_nil)))) (pgd_name 3 nd_Parted_shows)))))))))) (pssd_one (psd_ret pd_bl)))))))
theorem sc_Parted_shows : FnScope N_Parted_shows ["self", "one", "other"] (C8.fnScope (mem 46 2)) := C8.fnScope_by (by decide +kernel)
theorem met_Parted_shows (T : Txt P w K mg cs cB aZ) {base : Heap} : C8.Met P w K mg base 9 cs.cT "shows" (spW ⟨P, w, K, cs⟩ F_Parted_shows) [] := met_d T.cl.T T.ms_Parted (fun _ _ _ _ _ _ us hl => match us, hl with | [_, _, _], _ => rfl) sc_Parted_shows rfl rfl (by decide) (bd_Parted_shows T base)

/-! ### judge_both -/
def N_judge_both : List Str := ["one", "other", "found", "waiting", "odd", "pair", "taken", "late", "row", "numbers"]
theorem nd_judge_both : N_judge_both.Nodup := by decide +kernel
noncomputable def b_judge_both : WS := (wSeq (wDo (mk [2, 3] (wCall F_check_both (wCons (wVar 0) (wCons (wVar 1) wNil))))) (wSeq (wNewDc (mk [2, 3] (wDcP (wItems (wCall F_starts_of (wCons (wVar 0) (wCons (wVar 1) wNil)))) (setT 2 (setCons 1 setN (setCons 1 setN setNil))) [5, 9] [5, 9] (wVar 5) (wTup (wCons (wVar 9) (wCons (wTup wNil) wNil))))) 2) (wSeq (wNew (wCall listOE (wCons (wVar 2) wNil)) 3) (wSeq (wWhile (wB (wOp neD (wVar 3) (wLst wNil))) (wSeq (wPop0 3 5) (wFor (mk [2, 3] (wWalk (wIf (wB (wCall F_are_one (wCons (wVar 0) (wCons (wVar 1) (wCons (wVar 5) wNil))))) (wCall F_lates_of (wCons (wVar 0) (wCons (wVar 1) (wCons (wVar 5) wNil)))) (wLst wNil)))) (setT 2 (setCons 1 setN (setCons 1 setN setNil))) [6, 7] (wIfS (wB (wOp ninE (wVar 7) (wVar 2))) (wSeq (wIfS (wB (wOp eqD (wCall lenA (wCons (wVar 2) wNil)) (wC (.int 3000)))) wNever wNext) (wSeq (wAsg (fl (wOp ixD (wOp ixE (wVar 2) (wVar 5)) (wC (.int 1)))) setN [8]) (wSeq (wSetK 2 (mk [2, 3] (wVar 7)) (fl (wTup (wCons (wOp ixD (wOp ixE (wVar 2) (wVar 5)) (wC (.int 0))) (wCons (wIf (wB (wOp isD (wVar 6) (wC .non))) (wVar 8) (wTup (wStar (wVar 8) (wCons (wVar 6) wNil)))) wNil))))) (wApp 3 (mk [2, 3] (wVar 7)))))) wNext)))) (wGive (wSeq (wAsg (mk [] (wLc (wWalk (wVar 2)) setN [5] [5] (wNot (wB (wCall F_are_one (wCons (wVar 0) (wCons (wVar 1) (wCons (wVar 5) wNil)))))) (wVar 5))) setN [4]) (wRet (wIf (wB (wOp neD (wVar 4) (wLst wNil))) (wCall mkParted (wCons (wOp ixD (wOp ixE (wVar 2) (wOp ixD (wVar 4) (wC (.int 0)))) (wC (.int 0))) (wCons (wOp ixD (wOp ixE (wVar 2) (wOp ixD (wVar 4) (wC (.int 0)))) (wC (.int 1))) wNil))) (wCall mkSame (wCons (wVar 2) wNil))))))))))
noncomputable def F_judge_both : List D → Wp D := fnW 2 8 b_judge_both
theorem bd_judge_both (T : Txt P w K mg cs cB aZ) (base : Heap) (f : Addr) : BodyOk P w K mg base cs 9 N_judge_both "judge_both" (top 48) f [2, 3] b_judge_both := fun cdv A outer s H E hr =>
  (pssd_cons (psd_do (pse1 (pd_call (ok_check_both T) hr (by decide) rfl (pad_cons (pd_var 0) (pad_cons (pd_var 1) pad_nil))))) (pssd_cons (psd_newDc (i := 2) (own := [("pair", 5), ("numbers", 9)]) (is := [5, 9]) hr.units rfl nd_judge_both rfl (by decide) rfl (sw_dc rfl rfl rfl rfl) (pid_items (pd_call (ok_starts_of T) hr (by decide) rfl (pad_cons (pd_var 0) (pad_cons (pd_var 1) pad_nil)))) (blkOk_by (by kernel_rfl)) (by decide) (fun _ _ _ _ _ => (pgd_tup 2 rfl (pgsd_cons (pgd_name 5 nd_judge_both) (pgsd_cons (pgd_name 9 nd_judge_both) pgsd_nil)))) (fun _ _ _ _ _ => (pd_var 5)) (fun _ _ _ _ _ => (pd_tup (pad_cons (pd_var 9) (pad_cons (pd_tup pad_nil) pad_nil))))) (pssd_cons (psd_new (i := 3) nd_judge_both (pso_listE rfl rfl T.f_list bb_list (pad_cons (pd_var 2) pad_nil)) rfl (by decide)) (pssd_cons (psd_while PassesOwn.never (ptd_cmp (op_neA hr.units) do_ne (pd_var 3) (pd_lst pad_nil) (nobehind _ (by decide) (by decide))) (pssd_cons (psd_pop0 (i := 3) (j := 5) nd_judge_both rfl (by decide) rfl (by decide)) (pssd_one (psd_for PassesOwn.never rfl (psi1 (pid_val (pd_if (ptd_val (pd_call (ok_are_one T) hr (by decide) rfl (pad_cons (pd_var 0) (pad_cons (pd_var 1) (pad_cons (pd_var 5) pad_nil))))) (pd_call (ok_lates_of T) hr (by decide) rfl (pad_cons (pd_var 0) (pad_cons (pd_var 1) (pad_cons (pd_var 5) pad_nil)))) (pd_lst pad_nil)))) (pgd_tup 2 rfl (pgsd_cons (pgd_name 6 nd_judge_both) (pgsd_cons (pgd_name 7 nd_judge_both) pgsd_nil))) (pssd_one (psd_if (ptd_cmp (op_ninE (cs := cs) (hr.units)) do_ninE (pd_var 7) (pd_var 2) (by with_unfolding_all rfl)) (pssd_cons (psd_if (ptd_cmp (op_eqA hr.units) do_eq (pd_callB call_lenA dc_lenA rfl T.f_len bb_len (pad_cons (pd_var 2) pad_nil)) (pd_gint rfl (T.i_MOST_PAIRS)) (nobehind _ (by decide) (by decide))) (pssd_one psd_never) pssd_nil) (pssd_cons (psd_asg (pse2 (pd_ix (pd_ixE hr.units (pd_var 2) (pd_var 5)) pd_int)) (pgd_name 8 nd_judge_both)) (pssd_cons (psd_setK (i := 2) hr.units rfl (by decide) (pse2 (pd_tup (pad_cons (pd_ix (pd_ixE hr.units (pd_var 2) (pd_var 5)) pd_int) (pad_cons (pd_if (ptd_cmp op_isA do_is (pd_var 6) pd_non (nobehind _ (by decide) (by decide))) (pd_var 8) (pd_tup (pad_star (pd_var 8) (pad_cons (pd_var 6) pad_nil)))) pad_nil)))) (pse1 (pd_var 7))) (pssd_one (psd_append (i := 3) rfl (by decide) (pse1 (pd_var 7))))))) pssd_nil)))))) (pssd_give (pssd_cons (psd_setLc (own := [("pair", 5)]) (is := [5]) (i := 4) rfl nd_judge_both rfl rfl (sw_true rfl rfl rfl rfl) (pid_val (pd_var 2)) (blkOk_by (by kernel_rfl)) (by decide) (by decide) (fun _ _ _ _ _ => (pgd_name 5 nd_judge_both)) (fun _ _ _ _ _ => (ptsd_one (ptd_not (ptd_val (pd_call (ok_are_one T) hr (by decide) rfl (pad_cons (pd_var 0) (pad_cons (pd_var 1) (pad_cons (pd_var 5) pad_nil)))))))) (fun _ _ _ _ _ => (pd_var 5))) (pssd_one (psd_ret (pd_if (ptd_cmp (op_neA hr.units) do_ne (pd_var 4) (pd_lst pad_nil) (nobehind _ (by decide) (by decide))) (pd_make (mak_T T) hr (by decide) rfl (pad_cons (pd_ix (pd_ixE hr.units (pd_var 2) (pd_ix (pd_var 4) pd_int)) pd_int) (pad_cons (pd_ix (pd_ixE hr.units (pd_var 2) (pd_ix (pd_var 4) pd_int)) pd_int) pad_nil))) (pd_make (mak_S T) hr (by decide) rfl (pad_cons (pd_var 2) pad_nil)))))))))))
theorem sc_judge_both : FnScope N_judge_both ["one", "other"] (C8.fnScope (top 48)) := C8.fnScope_by (by decide +kernel)
theorem ok_judge_both (T : Txt P w K mg cs cB aZ) {base : Heap} : C8.Cal P w K mg base 10 "judge_both" (spW ⟨P, w, K, cs⟩ F_judge_both) [] := cal_d T.d_judge_both (fun _ _ _ _ _ _ us hl => match us, hl with | [_, _], _ => rfl) sc_judge_both rfl rfl (by decide) (bd_judge_both T base)

/-! ### tell_alike -/
def N_tell_alike : List Str := ["one", "other"]
theorem nd_tell_alike : N_tell_alike.Nodup := by decide +kernel
noncomputable def b_tell_alike : WS := (wRet (wMap isSame (wCall F_judge_both (wCons (wVar 0) (wCons (wVar 1) wNil)))))
noncomputable def F_tell_alike : List D → Wp D := fnW 2 0 b_tell_alike
theorem bd_tell_alike (T : Txt P w K mg cs cB aZ) (base : Heap) (f : Addr) : BodyOk P w K mg base cs 10 N_tell_alike "tell_alike" (top 49) f [] b_tell_alike := fun cdv A outer s H E hr =>
  (pssd_one (psd_ret (pd_isSame T.cl rfl T.f_isinstance rfl T.mS (pd_call (ok_judge_both T) hr (by decide) rfl (pad_cons (pd_var 0) (pad_cons (pd_var 1) pad_nil))))))
theorem sc_tell_alike : FnScope N_tell_alike ["one", "other"] (C8.fnScope (top 49)) := C8.fnScope_by (by decide +kernel)
theorem ok_tell_alike (T : Txt P w K mg cs cB aZ) {base : Heap} : C8.Cal P w K mg base 11 "tell_alike" (spW ⟨P, w, K, cs⟩ F_tell_alike) [] := cal_d T.d_tell_alike (fun _ _ _ _ _ _ us hl => match us, hl with | [_, _], _ => rfl) sc_tell_alike rfl rfl (by decide) (bd_tell_alike T base)

/-! ### _law_row -/
def N__law_row : List Str := ["_law_draw_here", "_law_many", "_law_wide", "_law_word", "_law_r", "_law_s", "_law_t"]
theorem nd__law_row : N__law_row.Nodup := by decide +kernel
noncomputable def b__law_row : WS := (wSeq (wAsg (mk [] (wCall F__law_pick (wCons (wVar 0) (wCons (wLst (wCons (wC (.str "put")) (wCons (wC (.str "move")) (wCons (wC (.str "add")) (wCons (wC (.str "sub")) (wCons (wC (.str "less")) (wCons (wC (.str "take")) (wCons (wC (.str "tell")) (wCons (wC (.str "tell")) wNil))))))))) wNil)))) setN [3]) (wSeq (wPar3 4 5 6 (wCons (mk [] (wCall F__law_next (wCons (wVar 0) (wCons (wVar 1) wNil)))) (wCons (mk [] (wCall F__law_next (wCons (wVar 0) (wCons (wVar 1) wNil)))) (wCons (mk [] (wCall F__law_next (wCons (wVar 0) (wCons (wVar 1) wNil)))) wNil)))) (wSeq (wIfS (wB (wOp eqD (wVar 3) (wC (.str "put")))) (wRet (wTup (wCons (wVar 3) (wCons (wVar 4) (wCons (wCall F__law_next (wCons (wVar 0) (wCons (wVar 2) wNil))) wNil))))) wNext) (wSeq (wIfS (wB (wOp inD (wVar 3) (wTup (wCons (wC (.str "take")) (wCons (wC (.str "tell")) wNil))))) (wRet (wTup (wCons (wVar 3) (wCons (wVar 4) wNil)))) wNext) (wRet (wIf (wB (wOp eqD (wVar 3) (wC (.str "move")))) (wTup (wCons (wVar 3) (wCons (wVar 4) (wCons (wVar 5) wNil)))) (wTup (wCons (wVar 3) (wCons (wVar 4) (wCons (wVar 5) (wCons (wVar 6) wNil)))))))))))
noncomputable def F__law_row : List D → Wp D := fnW 3 4 b__law_row
theorem bd__law_row (T : Txt P w K mg cs cB aZ) (base : Heap) (f : Addr) : BodyOk P w K mg base cs 4 N__law_row "_law_row" (top 56) f [] b__law_row := fun cdv A outer s H E hr =>
  (pssd_cons (psd_asg (pse1 (pd_call (ok__law_pick T) hr (by decide) rfl (pad_cons (pd_var 0) (pad_cons (pd_lst (pad_cons pd_str (pad_cons pd_str (pad_cons pd_str (pad_cons pd_str (pad_cons pd_str (pad_cons pd_str (pad_cons pd_str (pad_cons pd_str pad_nil))))))))) pad_nil)))) (pgd_name 3 nd__law_row)) (pssd_cons (psd_par3 (i := 4) (j := 5) (l := 6) rfl nd__law_row rfl rfl rfl (by decide) (by decide) (by decide) rfl rfl rfl (by decide) (by decide) (by decide) (psa_cons (pse1 (pd_call (ok__law_next T) hr (by decide) rfl (pad_cons (pd_var 0) (pad_cons (pd_var 1) pad_nil)))) (psa_cons (pse1 (pd_call (ok__law_next T) hr (by decide) rfl (pad_cons (pd_var 0) (pad_cons (pd_var 1) pad_nil)))) (psa_cons (pse1 (pd_call (ok__law_next T) hr (by decide) rfl (pad_cons (pd_var 0) (pad_cons (pd_var 1) pad_nil)))) psa_nil))) rfl) (pssd_cons (psd_if (ptd_cmp (op_eqA hr.units) do_eq (pd_var 3) pd_str (nobehind _ (by decide) (by decide))) (pssd_one (psd_ret (pd_tup (pad_cons (pd_var 3) (pad_cons (pd_var 4) (pad_cons (pd_call (ok__law_next T) hr (by decide) rfl (pad_cons (pd_var 0) (pad_cons (pd_var 2) pad_nil))) pad_nil)))))) pssd_nil) (pssd_cons (psd_if (ptd_cmp (op_inA (hu65 hr)) do_in (pd_var 3) (pd_tup (pad_cons pd_str (pad_cons pd_str pad_nil))) (by with_unfolding_all rfl)) (pssd_one (psd_ret (pd_tup (pad_cons (pd_var 3) (pad_cons (pd_var 4) pad_nil))))) pssd_nil) (pssd_one (psd_ret (pd_if (ptd_cmp (op_eqA hr.units) do_eq (pd_var 3) pd_str (nobehind _ (by decide) (by decide))) (pd_tup (pad_cons (pd_var 3) (pad_cons (pd_var 4) (pad_cons (pd_var 5) pad_nil)))) (pd_tup (pad_cons (pd_var 3) (pad_cons (pd_var 4) (pad_cons (pd_var 5) (pad_cons (pd_var 6) pad_nil))))))))))))
theorem sc__law_row : FnScope N__law_row ["_law_draw_here", "_law_many", "_law_wide"] (C8.fnScope (top 56)) := C8.fnScope_by (by decide +kernel)
theorem ok__law_row (T : Txt P w K mg cs cB aZ) {base : Heap} : C8.Cal P w K mg base 5 "_law_row" (spW ⟨P, w, K, cs⟩ F__law_row) [] := cal_d T.d__law_row (fun _ _ _ _ _ _ us hl => match us, hl with | [_, _, _], _ => rfl) sc__law_row rfl rfl (by decide) (bd__law_row T base)

/-! ### _law_end -/
def N__law_end : List Str := ["_law_draw_here", "_law_many", "_law_size", "_law_outs_here", "_law_way", "_law_one", "_law_some"]
theorem nd__law_end : N__law_end.Nodup := by decide +kernel
noncomputable def b__law_end : WS := (wSeq (wPar2 4 5 (wCons (mk [] (wCall F__law_next (wCons (wVar 0) (wCons (wC (.int 4)) wNil)))) (wCons (mk [] (wCall F__law_next (wCons (wVar 0) (wCons (wVar 1) wNil)))) wNil))) (wSeq (wIfS (wB (wOp eqD (wVar 3) (wLst wNil))) (wRet (wIf (wOr (wB (wOp eqD (wVar 2) (wC (.int 1)))) (wB (wOp ltD (wVar 4) (wC (.int 2))))) (wTup (wCons (wC (.str "stop")) wNil)) (wTup (wCons (wC (.str "go")) (wCons (wOp addD (wC (.int 1)) (wCall F__law_next (wCons (wVar 0) (wCons (wOp subD (wVar 2) (wC (.int 1))) wNil)))) wNil))))) wNext) (wSeq (wIfS (wAnd (wB (wOp eqD (wCall lenA (wCons (wVar 3) wNil)) (wC (.int 1)))) (wB (wOp ltD (wVar 4) (wC (.int 2))))) (wRet (wTup (wCons (wC (.str "go")) (wCons (wOp ixD (wVar 3) (wC (.int 0))) wNil)))) wNext) (wSeq (wAsg (mk [] (wOp addD (wVar 3) (wIf (wB (wOp eqD (wCall lenA (wCons (wVar 3) wNil)) (wC (.int 1)))) (wLst (wCons (wOp addD (wC (.int 1)) (wCall F__law_next (wCons (wVar 0) (wCons (wOp subD (wVar 2) (wC (.int 1))) wNil)))) wNil)) (wLst wNil)))) setN [6]) (wRet (wIf (wB (wOp eqD (wOp modD (wVar 4) (wC (.int 2))) (wC (.int 0)))) (wTup (wCons (wC (.str "part")) (wCons (wVar 5) (wCons (wOp ixD (wVar 6) (wC (.int 0))) (wCons (wOp ixD (wVar 6) (wC (.int 1))) wNil))))) (wTup (wCons (wC (.str "part")) (wCons (wVar 5) (wCons (wOp ixD (wVar 6) (wC (.int 1))) (wCons (wOp ixD (wVar 6) (wC (.int 0))) wNil)))))))))))
noncomputable def F__law_end : List D → Wp D := fnW 4 3 b__law_end
theorem bd__law_end (T : Txt P w K mg cs cB aZ) (base : Heap) (f : Addr) : BodyOk P w K mg base cs 3 N__law_end "_law_end" (top 58) f [] b__law_end := fun cdv A outer s H E hr =>
  (pssd_cons (psd_par2 (i := 4) (j := 5) rfl nd__law_end rfl rfl (by decide) rfl rfl (by decide) (by decide) (psa_cons (pse1 (pd_call (ok__law_next T) hr (by decide) rfl (pad_cons (pd_var 0) (pad_cons pd_int pad_nil)))) (psa_cons (pse1 (pd_call (ok__law_next T) hr (by decide) rfl (pad_cons (pd_var 0) (pad_cons (pd_var 1) pad_nil)))) psa_nil)) rfl) (pssd_cons (psd_if (ptd_cmp (op_eqA hr.units) do_eq (pd_var 3) (pd_lst pad_nil) (nobehind _ (by decide) (by decide))) (pssd_one (psd_ret (pd_if (ptd_pw (pwd_or (ptd_cmp (op_eqA hr.units) do_eq (pd_var 2) pd_int (nobehind _ (by decide) (by decide))) (pwd_or1 (ptd_cmp op_lt do_lt (pd_var 4) pd_int (nobehind _ (by decide) (by decide)))))) (pd_tup (pad_cons pd_str pad_nil)) (pd_tup (pad_cons pd_str (pad_cons (pd_op op_addA do_add pd_int (pd_call (ok__law_next T) hr (by decide) rfl (pad_cons (pd_var 0) (pad_cons (pd_op op_sub do_sub (pd_var 2) pd_int) pad_nil)))) pad_nil)))))) pssd_nil) (pssd_cons (psd_if (ptd_pw (pwd_and (ptd_cmp (op_eqA hr.units) do_eq (pd_callB call_lenA dc_lenA rfl T.f_len bb_len (pad_cons (pd_var 3) pad_nil)) pd_int (nobehind _ (by decide) (by decide))) (pwd_and1 (ptd_cmp op_lt do_lt (pd_var 4) pd_int (nobehind _ (by decide) (by decide)))))) (pssd_one (psd_ret (pd_tup (pad_cons pd_str (pad_cons (pd_ix (pd_var 3) pd_int) pad_nil))))) pssd_nil) (pssd_cons (psd_asg (pse1 (pd_op op_addA do_add (pd_var 3) (pd_if (ptd_cmp (op_eqA hr.units) do_eq (pd_callB call_lenA dc_lenA rfl T.f_len bb_len (pad_cons (pd_var 3) pad_nil)) pd_int (nobehind _ (by decide) (by decide))) (pd_lst (pad_cons (pd_op op_addA do_add pd_int (pd_call (ok__law_next T) hr (by decide) rfl (pad_cons (pd_var 0) (pad_cons (pd_op op_sub do_sub (pd_var 2) pd_int) pad_nil)))) pad_nil)) (pd_lst pad_nil)))) (pgd_name 6 nd__law_end)) (pssd_one (psd_ret (pd_if (ptd_cmp (op_eqA hr.units) do_eq (pd_op op_mod do_mod (pd_var 4) pd_int) pd_int (nobehind _ (by decide) (by decide))) (pd_tup (pad_cons pd_str (pad_cons (pd_var 5) (pad_cons (pd_ix (pd_var 6) pd_int) (pad_cons (pd_ix (pd_var 6) pd_int) pad_nil))))) (pd_tup (pad_cons pd_str (pad_cons (pd_var 5) (pad_cons (pd_ix (pd_var 6) pd_int) (pad_cons (pd_ix (pd_var 6) pd_int) pad_nil))))))))))))
theorem sc__law_end : FnScope N__law_end ["_law_draw_here", "_law_many", "_law_size", "_law_outs_here"] (C8.fnScope (top 58)) := C8.fnScope_by (by decide +kernel)
theorem ok__law_end (T : Txt P w K mg cs cB aZ) {base : Heap} : C8.Cal P w K mg base 4 "_law_end" (spW ⟨P, w, K, cs⟩ F__law_end) [] := cal_d T.d__law_end (fun _ _ _ _ _ _ us hl => match us, hl with | [_, _, _, _], _ => rfl) sc__law_end rfl rfl (by decide) (bd__law_end T base)

/-! ### _law_plain -/
def N__law_plain : List Str := ["_law_draw_here", "_law_sizes", "_law_lengths", "_law_many", "_law_wide", "_law_size", "_law_outs_here", "_law_blocks", "_law_block", "_law_rows", "_law_turn"]
theorem nd__law_plain : N__law_plain.Nodup := by decide +kernel
noncomputable def b__law_plain : WS := (wSeq (wAsg (mk [7] (wTup (wCons (wOp addD (wC (.int 1)) (wCall F__law_next (wCons (wVar 0) (wCons (wC (.int 3)) wNil)))) (wCons (wOp addD (wC (.int 2)) (wCall F__law_next (wCons (wVar 0) (wCons (wC (.int 3)) wNil)))) (wCons (wOp addD (wC (.int 1)) (wCall F__law_next (wCons (wVar 0) (wCons (wVar 1) wNil)))) wNil))))) (setT 3 (setCons 1 setN (setCons 1 setN (setCons 1 setN setNil)))) [3, 4, 5]) (wSeq (wPar2o 6 7 (mk [7] (wCall F__law_outs (wCons (wVar 0) (wCons (wVar 5) wNil)))) (wLst wNil)) (wSeq (wFor (mk [7] (wRng1 (wCons (wVar 5) wNil))) setN [8] (wSeq (wAsg (mk [7] (wLc (wRng1 (wCons (wCall F__law_next (wCons (wVar 0) (wCons (wOp addD (wVar 2) (wC (.int 1))) wNil))) wNil)) setN [10] [10] wYes (wCall F__law_row (wCons (wVar 0) (wCons (wVar 3) (wCons (wVar 4) wNil)))))) setN [9]) (wApp 7 (mk [7] (wTup (wCons (wCall tupleD (wCons (wVar 9) wNil)) (wCons (wCall F__law_end (wCons (wVar 0) (wCons (wVar 3) (wCons (wVar 5) (wCons (wOp ixD (wVar 6) (wVar 8)) wNil))))) wNil))))))) (wRet (wTup (wCons (wVar 3) (wCons (wCall tupleD (wCons (wVar 7) wNil)) (wCons (wCall F__law_next (wCons (wVar 0) (wCons (wOp addD (wCall minD (wCons (wVar 3) (wCons (wC (.int 2)) wNil))) (wC (.int 1))) wNil))) (wCons (wVar 4) wNil)))))))))
noncomputable def F__law_plain : List D → Wp D := fnW 3 8 b__law_plain
theorem bd__law_plain (T : Txt P w K mg cs cB aZ) (base : Heap) (f : Addr) : BodyOk P w K mg base cs 7 N__law_plain "_law_plain" (top 59) f [7] b__law_plain := fun cdv A outer s H E hr =>
  (pssd_cons (psd_asg (pse1 (pd_tup (pad_cons (pd_op op_addA do_add pd_int (pd_call (ok__law_next T) hr (by decide) rfl (pad_cons (pd_var 0) (pad_cons pd_int pad_nil)))) (pad_cons (pd_op op_addA do_add pd_int (pd_call (ok__law_next T) hr (by decide) rfl (pad_cons (pd_var 0) (pad_cons pd_int pad_nil)))) (pad_cons (pd_op op_addA do_add pd_int (pd_call (ok__law_next T) hr (by decide) rfl (pad_cons (pd_var 0) (pad_cons (pd_var 1) pad_nil)))) pad_nil))))) (pgd_tup 3 rfl (pgsd_cons (pgd_name 3 nd__law_plain) (pgsd_cons (pgd_name 4 nd__law_plain) (pgsd_cons (pgd_name 5 nd__law_plain) pgsd_nil))))) (pssd_cons (psd_par2o (i := 6) (j := 7) rfl nd__law_plain rfl rfl (by decide) rfl rfl (by decide) (by decide) (pse1 (pd_call (ok__law_outs T) hr (by decide) rfl (pad_cons (pd_var 0) (pad_cons (pd_var 5) pad_nil)))) (pso_lst psa_nil) rfl) (pssd_cons (psd_for PassesOwn.never rfl (psi1 (pid_range1 rfl T.f_range (pad_cons (pd_var 5) pad_nil))) (pgd_name 8 nd__law_plain) (pssd_cons (psd_setLc (own := [("_law_turn", 10)]) (is := [10]) (i := 9) rfl nd__law_plain rfl rfl (sw_true rfl rfl rfl rfl) (pid_range1 rfl T.f_range (pad_cons (pd_call (ok__law_next T) hr (by decide) rfl (pad_cons (pd_var 0) (pad_cons (pd_op op_addA do_add (pd_var 2) pd_int) pad_nil))) pad_nil)) (blkOk_by (by kernel_rfl)) (by decide) (by decide) (fun _ _ _ _ _ => (pgd_name 10 nd__law_plain)) (fun _ _ _ _ _ => ptsd_nil) (fun _ _ _ _ _ => (pd_call (ok__law_row T) hr (by decide) rfl (pad_cons (pd_var 0) (pad_cons (pd_var 3) (pad_cons (pd_var 4) pad_nil)))))) (pssd_one (psd_append (i := 7) rfl (by decide) (pse1 (pd_tup (pad_cons (pd_callTy call_tuple_of dc_tuple rfl T.f_tuple bb_tuple (pad_cons (pd_var 9) pad_nil)) (pad_cons (pd_call (ok__law_end T) hr (by decide) rfl (pad_cons (pd_var 0) (pad_cons (pd_var 3) (pad_cons (pd_var 5) (pad_cons (pd_ix (pd_var 6) (pd_var 8)) pad_nil))))) pad_nil)))))))) (pssd_one (psd_ret (pd_tup (pad_cons (pd_var 3) (pad_cons (pd_callTy call_tuple_of dc_tuple rfl T.f_tuple bb_tuple (pad_cons (pd_var 7) pad_nil)) (pad_cons (pd_call (ok__law_next T) hr (by decide) rfl (pad_cons (pd_var 0) (pad_cons (pd_op op_addA do_add (pd_callB (call_min2 rfl) dc_min rfl T.f_min bb_min (pad_cons (pd_var 3) (pad_cons pd_int pad_nil))) pd_int) pad_nil))) (pad_cons (pd_var 4) pad_nil))))))))))
theorem sc__law_plain : FnScope N__law_plain ["_law_draw_here", "_law_sizes", "_law_lengths"] (C8.fnScope (top 59)) := C8.fnScope_by (by decide +kernel)
theorem ok__law_plain (T : Txt P w K mg cs cB aZ) {base : Heap} : C8.Cal P w K mg base 8 "_law_plain" (spW ⟨P, w, K, cs⟩ F__law_plain) [] := cal_d T.d__law_plain (fun _ _ _ _ _ _ us hl => match us, hl with | [_, _, _], _ => rfl) sc__law_plain rfl rfl (by decide) (bd__law_plain T base)

/-! ### _law_made -/
def N__law_made : List Str := ["_law_plain_here"]
theorem nd__law_made : N__law_made.Nodup := by decide +kernel
noncomputable def b__law_made : WS := (wRet (wMakeP (wCons (wOp ixD (wVar 0) (wC (.int 0))) (wCons (wOp ixD (wVar 0) (wC (.int 1))) wNil)) (wOp ixD (wVar 0) (wC (.int 2))) (wOp ixD (wVar 0) (wC (.int 3)))))
noncomputable def F__law_made : List D → Wp D := fnW 1 0 b__law_made
theorem bd__law_made (T : Txt P w K mg cs cB aZ) (base : Heap) (f : Addr) : BodyOk P w K mg base cs 7 N__law_made "_law_made" (top 60) f [] b__law_made := fun cdv A outer s H E hr =>
  (pssd_one (psd_ret (pd_makeP T hr (by decide) rfl (pad_cons (pd_ix (pd_var 0) pd_int) (pad_cons (pd_ix (pd_var 0) pd_int) pad_nil)) (pd_ix (pd_var 0) pd_int) (pd_ix (pd_var 0) pd_int))))
theorem sc__law_made : FnScope N__law_made ["_law_plain_here"] (C8.fnScope (top 60)) := C8.fnScope_by (by decide +kernel)
theorem ok__law_made (T : Txt P w K mg cs cB aZ) {base : Heap} : C8.Cal P w K mg base 8 "_law_made" (spW ⟨P, w, K, cs⟩ F__law_made) [] := cal_d T.d__law_made (fun _ _ _ _ _ _ us hl => match us, hl with | [_], _ => rfl) sc__law_made rfl rfl (by decide) (bd__law_made T base)

/-! ### _law_hands -/
def N__law_hands : List Str := ["_law_plain_here", "_law_found", "_law_turn", "_law_longer", "_law_row_here", "_law_value"]
theorem nd__law_hands : N__law_hands.Nodup := by decide +kernel
noncomputable def b__law_hands : WS := (wSeq (wAsg (mk [] (wLst (wCons (wTup wNil) wNil))) setN [1]) (wSeq (wFor (mk [] (wRng1 (wCons (wOp ixD (wVar 0) (wC (.int 2))) wNil))) setN [2] (wSeq (wAsg (mk [] (wLst wNil)) setN [3]) (wSeq (wFor (mk [] (wWalk (wVar 1))) setN [4] (wAsg (mk [] (wOp addD (wVar 3) (wLc (wRng1 (wCons (wOp ixD (wVar 0) (wC (.int 3))) wNil)) setN [5] [5] wYes (wOp addD (wVar 4) (wTup (wCons (wVar 5) wNil)))))) setN [3])) (wAsg (mk [] (wVar 3)) setN [1])))) (wRet (wVar 1))))
noncomputable def F__law_hands : List D → Wp D := fnW 1 5 b__law_hands
theorem bd__law_hands (T : Txt P w K mg cs cB aZ) (base : Heap) (f : Addr) : BodyOk P w K mg base cs 0 N__law_hands "_law_hands" (top 61) f [] b__law_hands := fun cdv A outer s H E hr =>
  (pssd_cons (psd_asg (pse1 (pd_lst (pad_cons (pd_tup pad_nil) pad_nil))) (pgd_name 1 nd__law_hands)) (pssd_cons (psd_for PassesOwn.never rfl (psi1 (pid_range1 rfl T.f_range (pad_cons (pd_ix (pd_var 0) pd_int) pad_nil))) (pgd_name 2 nd__law_hands) (pssd_cons (psd_asg (pse1 (pd_lst pad_nil)) (pgd_name 3 nd__law_hands)) (pssd_cons (psd_for PassesOwn.never rfl (psi1 (pid_val (pd_var 1))) (pgd_name 4 nd__law_hands) (pssd_one (psd_asg (pse1 (pd_op op_addA do_add (pd_var 3) (pd_lc (own := [("_law_value", 5)]) (is := [5]) rfl nd__law_hands (pid_range1 rfl T.f_range (pad_cons (pd_ix (pd_var 0) pd_int) pad_nil)) (blkOk_by (by kernel_rfl)) (by decide) (fun _ _ _ _ _ => (pgd_name 5 nd__law_hands)) (fun _ _ _ _ _ => ptsd_nil) (fun _ _ _ _ _ => (pd_op op_addA do_add (pd_var 4) (pd_tup (pad_cons (pd_var 5) pad_nil))))))) (pgd_name 3 nd__law_hands)))) (pssd_one (psd_asg (pse1 (pd_var 3)) (pgd_name 1 nd__law_hands)))))) (pssd_one (psd_ret (pd_var 1)))))
theorem sc__law_hands : FnScope N__law_hands ["_law_plain_here"] (C8.fnScope (top 61)) := C8.fnScope_by (by decide +kernel)
theorem ok__law_hands (T : Txt P w K mg cs cB aZ) {base : Heap} : C8.Cal P w K mg base 1 "_law_hands" (spW ⟨P, w, K, cs⟩ F__law_hands) [] := cal_d T.d__law_hands (fun _ _ _ _ _ _ us hl => match us, hl with | [_], _ => rfl) sc__law_hands rfl rfl (by decide) (bd__law_hands T base)

/-! ### _law_first -/
def N__law_first : List Str := ["_law_plain_here", "_law_numbers"]
theorem nd__law_first : N__law_first.Nodup := by decide +kernel
noncomputable def b__law_first : WS := (wRet (wTup (wCons (wC (.int 0)) (wCons (wC (.int 0)) (wCons (wOp addD (wVar 1) (wOp repTD (wTup (wCons (wC (.int 0)) wNil)) (wOp subD (wOp ixD (wVar 0) (wC (.int 0))) (wOp ixD (wVar 0) (wC (.int 2)))))) wNil)))))
noncomputable def F__law_first : List D → Wp D := fnW 2 0 b__law_first
theorem bd__law_first (T : Txt P w K mg cs cB aZ) (base : Heap) (f : Addr) : BodyOk P w K mg base cs 0 N__law_first "_law_first" (top 62) f [] b__law_first := fun cdv A outer s H E hr =>
  (pssd_one (psd_ret (pd_tup (pad_cons pd_int (pad_cons pd_int (pad_cons (pd_op op_addA do_add (pd_var 1) (pd_op op_repA do_repT (pd_tup (pad_cons pd_int pad_nil)) (pd_op op_sub do_sub (pd_ix (pd_var 0) pd_int) (pd_ix (pd_var 0) pd_int)))) pad_nil))))))
theorem sc__law_first : FnScope N__law_first ["_law_plain_here", "_law_numbers"] (C8.fnScope (top 62)) := C8.fnScope_by (by decide +kernel)
theorem ok__law_first (T : Txt P w K mg cs cB aZ) {base : Heap} : C8.Cal P w K mg base 1 "_law_first" (spW ⟨P, w, K, cs⟩ F__law_first) [] := cal_d T.d__law_first (fun _ _ _ _ _ _ us hl => match us, hl with | [_, _], _ => rfl) sc__law_first rfl rfl (by decide) (bd__law_first T base)

/-! ### _law_coming -/
def N__law_coming : List Str := ["_law_plain_here", "_law_state", "_law_rows", "_law_end_here"]
theorem nd__law_coming : N__law_coming.Nodup := by decide +kernel
noncomputable def b__law_coming : WS := (wSeq (wAsg (mk [] (wOp ixD (wOp ixD (wVar 0) (wC (.int 1))) (wOp ixD (wVar 1) (wC (.int 0))))) (setT 2 (setCons 1 setN (setCons 1 setN setNil))) [2, 3]) (wRet (wOp ixD (wOp addD (wVar 2) (wTup (wCons (wVar 3) wNil))) (wOp ixD (wVar 1) (wC (.int 1))))))
noncomputable def F__law_coming : List D → Wp D := fnW 2 2 b__law_coming
theorem bd__law_coming (T : Txt P w K mg cs cB aZ) (base : Heap) (f : Addr) : BodyOk P w K mg base cs 0 N__law_coming "_law_coming" (top 63) f [] b__law_coming := fun cdv A outer s H E hr =>
  (pssd_cons (psd_asg (pse1 (pd_ix (pd_ix (pd_var 0) pd_int) (pd_ix (pd_var 1) pd_int))) (pgd_tup 2 rfl (pgsd_cons (pgd_name 2 nd__law_coming) (pgsd_cons (pgd_name 3 nd__law_coming) pgsd_nil)))) (pssd_one (psd_ret (pd_ix (pd_op op_addA do_add (pd_var 2) (pd_tup (pad_cons (pd_var 3) pad_nil))) (pd_ix (pd_var 1) pd_int)))))
theorem sc__law_coming : FnScope N__law_coming ["_law_plain_here", "_law_state"] (C8.fnScope (top 63)) := C8.fnScope_by (by decide +kernel)
theorem ok__law_coming (T : Txt P w K mg cs cB aZ) {base : Heap} : C8.Cal P w K mg base 1 "_law_coming" (spW ⟨P, w, K, cs⟩ F__law_coming) [] := cal_d T.d__law_coming (fun _ _ _ _ _ _ us hl => match us, hl with | [_, _], _ => rfl) sc__law_coming rfl rfl (by decide) (bd__law_coming T base)

/-! ### _law_options -/
def N__law_options : List Str := ["_law_plain_here", "_law_state", "_law_word"]
theorem nd__law_options : N__law_options.Nodup := by decide +kernel
noncomputable def b__law_options : WS := (wSeq (wAsg (mk [] (wOp ixD (wCall F__law_coming (wCons (wVar 0) (wCons (wVar 1) wNil))) (wC (.int 0)))) setN [2]) (wSeq (wIfS (wB (wOp eqD (wVar 2) (wC (.str "stop")))) (wRet (wLst wNil)) wNext) (wRet (wIf (wB (wOp eqD (wVar 2) (wC (.str "take")))) (wMap rgD (wOp ixD (wVar 0) (wC (.int 3)))) (wLst (wCons (wC .non) wNil))))))
noncomputable def F__law_options : List D → Wp D := fnW 2 1 b__law_options
theorem bd__law_options (T : Txt P w K mg cs cB aZ) (base : Heap) (f : Addr) : BodyOk P w K mg base cs 1 N__law_options "_law_options" (top 64) f [] b__law_options := fun cdv A outer s H E hr =>
  (pssd_cons (psd_asg (pse1 (pd_ix (pd_call (ok__law_coming T) hr (by decide) rfl (pad_cons (pd_var 0) (pad_cons (pd_var 1) pad_nil))) pd_int)) (pgd_name 2 nd__law_options)) (pssd_cons (psd_if (ptd_cmp (op_eqA hr.units) do_eq (pd_var 2) pd_str (nobehind _ (by decide) (by decide))) (pssd_one (psd_ret (pd_lst pad_nil))) pssd_nil) (pssd_one (psd_ret (pd_if (ptd_cmp (op_eqA hr.units) do_eq (pd_var 2) pd_str (nobehind _ (by decide) (by decide))) (pd_listRg rfl rfl T.f_list rfl T.f_range (pd_ix (pd_var 0) pd_int)) (pd_lst (pad_cons pd_non pad_nil)))))))
theorem sc__law_options : FnScope N__law_options ["_law_plain_here", "_law_state"] (C8.fnScope (top 64)) := C8.fnScope_by (by decide +kernel)
theorem ok__law_options (T : Txt P w K mg cs cB aZ) {base : Heap} : C8.Cal P w K mg base 2 "_law_options" (spW ⟨P, w, K, cs⟩ F__law_options) [] := cal_d T.d__law_options (fun _ _ _ _ _ _ us hl => match us, hl with | [_, _], _ => rfl) sc__law_options rfl rfl (by decide) (bd__law_options T base)

/-! ### _law_after -/
def N__law_after : List Str := ["_law_plain_here", "_law_state", "_law_taken", "_law_block", "_law_done", "_law_numbers", "_law_row_here", "_law_late", "_law_more"]
theorem nd__law_after : N__law_after.Nodup := by decide +kernel
noncomputable def b__law_after : WS := (wSeq (wAsg (mk [7] (wVar 1)) (setT 3 (setCons 1 setN (setCons 1 setN (setCons 1 setN setNil)))) [3, 4, 5]) (wSeq (wPar2o 6 7 (mk [7] (wCall F__law_coming (wCons (wVar 0) (wCons (wVar 1) wNil)))) (wCall listOE (wCons (wOp ixD (wVar 1) (wC (.int 2))) wNil))) (wSeq (wIfS (wB (wOp eqD (wOp ixD (wVar 6) (wC (.int 0))) (wC (.str "go")))) (wRet (wTup (wCons (wOp ixD (wVar 6) (wC (.int 1))) (wCons (wC (.int 0)) (wCons (wVar 5) wNil))))) wNext) (wSeq (wIfS (wB (wOp eqD (wOp ixD (wVar 6) (wC (.int 0))) (wC (.str "part")))) (wRet (wTup (wCons (wIf (wB (wOp eqD (wOp ixD (wVar 5) (wOp ixD (wVar 6) (wC (.int 1)))) (wC (.int 0)))) (wOp ixD (wVar 6) (wC (.int 3))) (wOp ixD (wVar 6) (wC (.int 2)))) (wCons (wC (.int 0)) (wCons (wVar 5) wNil))))) wNext) (wSeq (wIfS (wB (wOp eqD (wOp ixD (wVar 6) (wC (.int 0))) (wC (.str "put")))) (wSetL 7 (mk [7] (wOp ixD (wVar 6) (wC (.int 1)))) (mk [7] (wOp ixD (wVar 6) (wC (.int 2))))) wNext) (wSeq (wIfS (wB (wOp eqD (wOp ixD (wVar 6) (wC (.int 0))) (wC (.str "move")))) (wSetL 7 (mk [7] (wOp ixD (wVar 6) (wC (.int 1)))) (mk [7] (wOp ixD (wVar 5) (wOp ixD (wVar 6) (wC (.int 2)))))) wNext) (wSeq (wIfS (wB (wOp inD (wOp ixD (wVar 6) (wC (.int 0))) (wTup (wCons (wC (.str "add")) (wCons (wC (.str "sub")) wNil))))) (wSeq (wAsg (mk [7] (wOp ixD (wVar 5) (wOp ixD (wVar 6) (wC (.int 3))))) setN [8]) (wSeq (wAsg (mk [7] (wIf (wB (wOp eqD (wOp ixD (wVar 6) (wC (.int 0))) (wC (.str "add")))) (wVar 8) (wOp subD (wOp ixD (wVar 0) (wC (.int 3))) (wVar 8)))) setN [8]) (wSetL 7 (mk [7] (wOp ixD (wVar 6) (wC (.int 1)))) (mk [7] (wOp modD (wCall intD (wCons (wOp addD (wOp ixD (wVar 5) (wOp ixD (wVar 6) (wC (.int 2)))) (wVar 8)) wNil)) (wOp ixD (wVar 0) (wC (.int 3)))))))) wNext) (wSeq (wIfS (wB (wOp eqD (wOp ixD (wVar 6) (wC (.int 0))) (wC (.str "less")))) (wSetL 7 (mk [7] (wOp ixD (wVar 6) (wC (.int 1)))) (mk [7] (wCall intD (wCons (wOp ltD (wOp ixD (wVar 5) (wOp ixD (wVar 6) (wC (.int 2)))) (wOp ixD (wVar 5) (wOp ixD (wVar 6) (wC (.int 3))))) wNil)))) wNext) (wSeq (wIfS (wB (wOp eqD (wOp ixD (wVar 6) (wC (.int 0))) (wC (.str "take")))) (wSetL 7 (mk [7] (wOp ixD (wVar 6) (wC (.int 1)))) (mk [7] (wVar 2))) wNext) (wRet (wTup (wCons (wVar 3) (wCons (wOp addD (wVar 4) (wC (.int 1))) (wCons (wCall tupleD (wCons (wVar 7) wNil)) wNil))))))))))))))
noncomputable def F__law_after : List D → Wp D := fnW 3 6 b__law_after
theorem bd__law_after (T : Txt P w K mg cs cB aZ) (base : Heap) (f : Addr) : BodyOk P w K mg base cs 1 N__law_after "_law_after" (top 65) f [7] b__law_after := fun cdv A outer s H E hr =>
  (pssd_cons (psd_asg (pse1 (pd_var 1)) (pgd_tup 3 rfl (pgsd_cons (pgd_name 3 nd__law_after) (pgsd_cons (pgd_name 4 nd__law_after) (pgsd_cons (pgd_name 5 nd__law_after) pgsd_nil))))) (pssd_cons (psd_par2o (i := 6) (j := 7) rfl nd__law_after rfl rfl (by decide) rfl rfl (by decide) (by decide) (pse1 (pd_call (ok__law_coming T) hr (by decide) rfl (pad_cons (pd_var 0) (pad_cons (pd_var 1) pad_nil)))) (pso_listE rfl rfl T.f_list bb_list (pad_cons (pd_ix (pd_var 1) pd_int) pad_nil)) rfl) (pssd_cons (psd_if (ptd_cmp (op_eqA hr.units) do_eq (pd_ix (pd_var 6) pd_int) pd_str (nobehind _ (by decide) (by decide))) (pssd_one (psd_ret (pd_tup (pad_cons (pd_ix (pd_var 6) pd_int) (pad_cons pd_int (pad_cons (pd_var 5) pad_nil)))))) pssd_nil) (pssd_cons (psd_if (ptd_cmp (op_eqA hr.units) do_eq (pd_ix (pd_var 6) pd_int) pd_str (nobehind _ (by decide) (by decide))) (pssd_one (psd_ret (pd_tup (pad_cons (pd_if (ptd_cmp (op_eqA hr.units) do_eq (pd_ix (pd_var 5) (pd_ix (pd_var 6) pd_int)) pd_int (nobehind _ (by decide) (by decide))) (pd_ix (pd_var 6) pd_int) (pd_ix (pd_var 6) pd_int)) (pad_cons pd_int (pad_cons (pd_var 5) pad_nil)))))) pssd_nil) (pssd_cons (psd_if (ptd_cmp (op_eqA hr.units) do_eq (pd_ix (pd_var 6) pd_int) pd_str (nobehind _ (by decide) (by decide))) (pssd_one (psd_setL (i := 7) rfl (by decide) (pse1 (pd_ix (pd_var 6) pd_int)) (pse1 (pd_ix (pd_var 6) pd_int)))) pssd_nil) (pssd_cons (psd_if (ptd_cmp (op_eqA hr.units) do_eq (pd_ix (pd_var 6) pd_int) pd_str (nobehind _ (by decide) (by decide))) (pssd_one (psd_setL (i := 7) rfl (by decide) (pse1 (pd_ix (pd_var 5) (pd_ix (pd_var 6) pd_int))) (pse1 (pd_ix (pd_var 6) pd_int)))) pssd_nil) (pssd_cons (psd_if (ptd_cmp (op_inA (hu65 hr)) do_in (pd_ix (pd_var 6) pd_int) (pd_tup (pad_cons pd_str (pad_cons pd_str pad_nil))) (by with_unfolding_all rfl)) (pssd_cons (psd_asg (pse1 (pd_ix (pd_var 5) (pd_ix (pd_var 6) pd_int))) (pgd_name 8 nd__law_after)) (pssd_cons (psd_asg (pse1 (pd_if (ptd_cmp (op_eqA hr.units) do_eq (pd_ix (pd_var 6) pd_int) pd_str (nobehind _ (by decide) (by decide))) (pd_var 8) (pd_op op_sub do_sub (pd_ix (pd_var 0) pd_int) (pd_var 8)))) (pgd_name 8 nd__law_after)) (pssd_one (psd_setL (i := 7) rfl (by decide) (pse1 (pd_op op_mod do_mod (pd_callTy call_int1 dc_int rfl T.f_int bb_int (pad_cons (pd_op op_addA do_add (pd_ix (pd_var 5) (pd_ix (pd_var 6) pd_int)) (pd_var 8)) pad_nil)) (pd_ix (pd_var 0) pd_int))) (pse1 (pd_ix (pd_var 6) pd_int)))))) pssd_nil) (pssd_cons (psd_if (ptd_cmp (op_eqA hr.units) do_eq (pd_ix (pd_var 6) pd_int) pd_str (nobehind _ (by decide) (by decide))) (pssd_one (psd_setL (i := 7) rfl (by decide) (pse1 (pd_callTy call_int1 dc_int rfl T.f_int bb_int (pad_cons (pd_cmp op_lt do_lt (pd_ix (pd_var 5) (pd_ix (pd_var 6) pd_int)) (pd_ix (pd_var 5) (pd_ix (pd_var 6) pd_int)) (nobehind _ (by decide) (by decide))) pad_nil))) (pse1 (pd_ix (pd_var 6) pd_int)))) pssd_nil) (pssd_cons (psd_if (ptd_cmp (op_eqA hr.units) do_eq (pd_ix (pd_var 6) pd_int) pd_str (nobehind _ (by decide) (by decide))) (pssd_one (psd_setL (i := 7) rfl (by decide) (pse1 (pd_var 2)) (pse1 (pd_ix (pd_var 6) pd_int)))) pssd_nil) (pssd_one (psd_ret (pd_tup (pad_cons (pd_var 3) (pad_cons (pd_op op_addA do_add (pd_var 4) pd_int) (pad_cons (pd_callTy call_tuple_of dc_tuple rfl T.f_tuple bb_tuple (pad_cons (pd_var 7) pad_nil)) pad_nil)))))))))))))))
theorem sc__law_after : FnScope N__law_after ["_law_plain_here", "_law_state", "_law_taken"] (C8.fnScope (top 65)) := C8.fnScope_by (by decide +kernel)
theorem ok__law_after (T : Txt P w K mg cs cB aZ) {base : Heap} : C8.Cal P w K mg base 2 "_law_after" (spW ⟨P, w, K, cs⟩ F__law_after) [] := cal_d T.d__law_after (fun _ _ _ _ _ _ us hl => match us, hl with | [_, _, _], _ => rfl) sc__law_after rfl rfl (by decide) (bd__law_after T base)

/-! ### _law_settled -/
def N__law_settled : List Str := ["_law_plain_here", "_law_state", "_law_seen", "_law_turn"]
theorem nd__law_settled : N__law_settled.Nodup := by decide +kernel
noncomputable def b__law_settled : WS := (wSeq (wNew (wLst wNil) 2) (wSeq (wFor (mk [2] (wRng1 (wCons (wC (.int 100000)) wNil))) setN [3] (wSeq (wIfS (wB (wOp inD (wOp ixD (wCall F__law_coming (wCons (wVar 0) (wCons (wVar 1) wNil))) (wC (.int 0))) (wTup (wCons (wC (.str "take")) (wCons (wC (.str "tell")) (wCons (wC (.str "stop")) wNil)))))) (wRet (wVar 1)) wNext) (wSeq (wIfS (wB (wOp inD (wVar 1) (wVar 2))) (wRet (wC .non)) wNext) (wSeq (wApp 2 (mk [2] (wVar 1))) (wAsg (mk [2] (wCall F__law_after (wCons (wVar 0) (wCons (wVar 1) (wCons (wC .non) wNil))))) setN [1]))))) (wRet (wC .non))))
noncomputable def F__law_settled : List D → Wp D := fnW 2 2 b__law_settled
theorem bd__law_settled (T : Txt P w K mg cs cB aZ) (base : Heap) (f : Addr) : BodyOk P w K mg base cs 2 N__law_settled "_law_settled" (top 66) f [2] b__law_settled := fun cdv A outer s H E hr =>
  (pssd_cons (psd_new (i := 2) nd__law_settled (pso_lst psa_nil) rfl (by decide)) (pssd_cons (psd_for PassesOwn.never rfl (psi1 (pid_range1 rfl T.f_range (pad_cons pd_int pad_nil))) (pgd_name 3 nd__law_settled) (pssd_cons (psd_if (ptd_cmp (op_inA (hu65 hr)) do_in (pd_ix (pd_call (ok__law_coming T) hr (by decide) rfl (pad_cons (pd_var 0) (pad_cons (pd_var 1) pad_nil))) pd_int) (pd_tup (pad_cons pd_str (pad_cons pd_str (pad_cons pd_str pad_nil)))) (by with_unfolding_all rfl)) (pssd_one (psd_ret (pd_var 1))) pssd_nil) (pssd_cons (psd_if (ptd_cmp (op_inA (hu65 hr)) do_in (pd_var 1) (pd_var 2) (by with_unfolding_all rfl)) (pssd_one (psd_ret pd_non)) pssd_nil) (pssd_cons (psd_append (i := 2) rfl (by decide) (pse1 (pd_var 1))) (pssd_one (psd_asg (pse1 (pd_call (ok__law_after T) hr (by decide) rfl (pad_cons (pd_var 0) (pad_cons (pd_var 1) (pad_cons pd_non pad_nil))))) (pgd_name 1 nd__law_settled))))))) (pssd_one (psd_ret pd_non))))
theorem sc__law_settled : FnScope N__law_settled ["_law_plain_here", "_law_state"] (C8.fnScope (top 66)) := C8.fnScope_by (by decide +kernel)
theorem ok__law_settled (T : Txt P w K mg cs cB aZ) {base : Heap} : C8.Cal P w K mg base 3 "_law_settled" (spW ⟨P, w, K, cs⟩ F__law_settled) [] := cal_d T.d__law_settled (fun _ _ _ _ _ _ us hl => match us, hl with | [_, _], _ => rfl) sc__law_settled rfl rfl (by decide) (bd__law_settled T base)

/-! ### _law_event -/
def N__law_event : List Str := ["_law_plain_here", "_law_state", "_law_row_here"]
theorem nd__law_event : N__law_event.Nodup := by decide +kernel
noncomputable def b__law_event : WS := (wSeq (wIfS (wB (wOp isD (wVar 1) (wC .non))) (wRet (wTup (wCons (wC (.str "silent")) (wCons (wC .non) wNil)))) wNext) (wSeq (wAsg (mk [] (wCall F__law_coming (wCons (wVar 0) (wCons (wVar 1) wNil)))) setN [2]) (wRet (wTup (wCons (wOp ixD (wVar 2) (wC (.int 0))) (wCons (wIf (wB (wOp eqD (wOp ixD (wVar 2) (wC (.int 0))) (wC (.str "tell")))) (wOp ixD (wOp ixD (wVar 1) (wC (.int 2))) (wOp ixD (wVar 2) (wC (.int 1)))) (wC .non)) wNil))))))
noncomputable def F__law_event : List D → Wp D := fnW 2 1 b__law_event
theorem bd__law_event (T : Txt P w K mg cs cB aZ) (base : Heap) (f : Addr) : BodyOk P w K mg base cs 1 N__law_event "_law_event" (top 67) f [] b__law_event := fun cdv A outer s H E hr =>
  (pssd_cons (psd_if (ptd_cmp op_isA do_is (pd_var 1) pd_non (nobehind _ (by decide) (by decide))) (pssd_one (psd_ret (pd_tup (pad_cons pd_str (pad_cons pd_non pad_nil))))) pssd_nil) (pssd_cons (psd_asg (pse1 (pd_call (ok__law_coming T) hr (by decide) rfl (pad_cons (pd_var 0) (pad_cons (pd_var 1) pad_nil)))) (pgd_name 2 nd__law_event)) (pssd_one (psd_ret (pd_tup (pad_cons (pd_ix (pd_var 2) pd_int) (pad_cons (pd_if (ptd_cmp (op_eqA hr.units) do_eq (pd_ix (pd_var 2) pd_int) pd_str (nobehind _ (by decide) (by decide))) (pd_ix (pd_ix (pd_var 1) pd_int) (pd_ix (pd_var 2) pd_int)) pd_non) pad_nil)))))))
theorem sc__law_event : FnScope N__law_event ["_law_plain_here", "_law_state"] (C8.fnScope (top 67)) := C8.fnScope_by (by decide +kernel)
theorem ok__law_event (T : Txt P w K mg cs cB aZ) {base : Heap} : C8.Cal P w K mg base 2 "_law_event" (spW ⟨P, w, K, cs⟩ F__law_event) [] := cal_d T.d__law_event (fun _ _ _ _ _ _ us hl => match us, hl with | [_, _], _ => rfl) sc__law_event rfl rfl (by decide) (bd__law_event T base)

/-! ### _law_lates -/
def N__law_lates : List Str := ["_law_both", "_law_pair", "_law_one", "_law_other_here", "_law_found", "_law_taken", "_law_ahead", "_law_late"]
theorem nd__law_lates : N__law_lates.Nodup := by decide +kernel
noncomputable def b__law_lates : WS := (wSeq (wAsg (mk [4] (wVar 0)) (setT 2 (setCons 1 setN (setCons 1 setN setNil))) [2, 3]) (wSeq (wNew (wLst wNil) 4) (wSeq (wFor (mk [4] (wWalk (wIf (wB (wOp isD (wOp ixD (wVar 1) (wC (.int 0))) (wC .non))) (wLst wNil) (wCall F__law_options (wCons (wVar 2) (wCons (wOp ixD (wVar 1) (wC (.int 0))) wNil)))))) setN [5] (wSeq (wPar2 6 7 (wCons (mk [4] (wCall F__law_after (wCons (wVar 2) (wCons (wOp ixD (wVar 1) (wC (.int 0))) (wCons (wVar 5) wNil))))) (wCons (mk [4] (wCall F__law_after (wCons (wVar 3) (wCons (wOp ixD (wVar 1) (wC (.int 1))) (wCons (wVar 5) wNil))))) wNil))) (wApp 4 (mk [4] (wTup (wCons (wVar 5) (wCons (wTup (wCons (wCall F__law_settled (wCons (wVar 2) (wCons (wVar 6) wNil))) (wCons (wCall F__law_settled (wCons (wVar 3) (wCons (wVar 7) wNil))) wNil))) wNil))))))) (wRet (wVar 4)))))
noncomputable def F__law_lates : List D → Wp D := fnW 2 6 b__law_lates
theorem bd__law_lates (T : Txt P w K mg cs cB aZ) (base : Heap) (f : Addr) : BodyOk P w K mg base cs 3 N__law_lates "_law_lates" (top 68) f [4] b__law_lates := fun cdv A outer s H E hr =>
  (pssd_cons (psd_asg (pse1 (pd_var 0)) (pgd_tup 2 rfl (pgsd_cons (pgd_name 2 nd__law_lates) (pgsd_cons (pgd_name 3 nd__law_lates) pgsd_nil)))) (pssd_cons (psd_new (i := 4) nd__law_lates (pso_lst psa_nil) rfl (by decide)) (pssd_cons (psd_for PassesOwn.never rfl (psi1 (pid_val (pd_if (ptd_cmp op_isA do_is (pd_ix (pd_var 1) pd_int) pd_non (nobehind _ (by decide) (by decide))) (pd_lst pad_nil) (pd_call (ok__law_options T) hr (by decide) rfl (pad_cons (pd_var 2) (pad_cons (pd_ix (pd_var 1) pd_int) pad_nil)))))) (pgd_name 5 nd__law_lates) (pssd_cons (psd_par2 (i := 6) (j := 7) rfl nd__law_lates rfl rfl (by decide) rfl rfl (by decide) (by decide) (psa_cons (pse1 (pd_call (ok__law_after T) hr (by decide) rfl (pad_cons (pd_var 2) (pad_cons (pd_ix (pd_var 1) pd_int) (pad_cons (pd_var 5) pad_nil))))) (psa_cons (pse1 (pd_call (ok__law_after T) hr (by decide) rfl (pad_cons (pd_var 3) (pad_cons (pd_ix (pd_var 1) pd_int) (pad_cons (pd_var 5) pad_nil))))) psa_nil)) rfl) (pssd_one (psd_append (i := 4) rfl (by decide) (pse1 (pd_tup (pad_cons (pd_var 5) (pad_cons (pd_tup (pad_cons (pd_call (ok__law_settled T) hr (by decide) rfl (pad_cons (pd_var 2) (pad_cons (pd_var 6) pad_nil))) (pad_cons (pd_call (ok__law_settled T) hr (by decide) rfl (pad_cons (pd_var 3) (pad_cons (pd_var 7) pad_nil))) pad_nil))) pad_nil)))))))) (pssd_one (psd_ret (pd_var 4))))))
theorem sc__law_lates : FnScope N__law_lates ["_law_both", "_law_pair"] (C8.fnScope (top 68)) := C8.fnScope_by (by decide +kernel)
theorem ok__law_lates (T : Txt P w K mg cs cB aZ) {base : Heap} : C8.Cal P w K mg base 4 "_law_lates" (spW ⟨P, w, K, cs⟩ F__law_lates) [] := cal_d T.d__law_lates (fun _ _ _ _ _ _ us hl => match us, hl with | [_, _], _ => rfl) sc__law_lates rfl rfl (by decide) (bd__law_lates T base)

/-! ### _law_starts -/
def N__law_starts : List Str := ["_law_both", "_law_one", "_law_other_here", "_law_found", "_law_numbers", "_law_ahead", "_law_late"]
theorem nd__law_starts : N__law_starts.Nodup := by decide +kernel
noncomputable def b__law_starts : WS := (wSeq (wAsg (mk [3] (wVar 0)) (setT 2 (setCons 1 setN (setCons 1 setN setNil))) [1, 2]) (wSeq (wNew (wLst wNil) 3) (wSeq (wFor (mk [3] (wWalk (wCall F__law_hands (wCons (wVar 1) wNil)))) setN [4] (wSeq (wPar2 5 6 (wCons (mk [3] (wCall F__law_first (wCons (wVar 1) (wCons (wVar 4) wNil)))) (wCons (mk [3] (wCall F__law_first (wCons (wVar 2) (wCons (wVar 4) wNil)))) wNil))) (wApp 3 (mk [3] (wTup (wCons (wCall F__law_settled (wCons (wVar 1) (wCons (wVar 5) wNil))) (wCons (wCall F__law_settled (wCons (wVar 2) (wCons (wVar 6) wNil))) wNil))))))) (wRet (wVar 3)))))
noncomputable def F__law_starts : List D → Wp D := fnW 1 6 b__law_starts
theorem bd__law_starts (T : Txt P w K mg cs cB aZ) (base : Heap) (f : Addr) : BodyOk P w K mg base cs 3 N__law_starts "_law_starts" (top 69) f [3] b__law_starts := fun cdv A outer s H E hr =>
  (pssd_cons (psd_asg (pse1 (pd_var 0)) (pgd_tup 2 rfl (pgsd_cons (pgd_name 1 nd__law_starts) (pgsd_cons (pgd_name 2 nd__law_starts) pgsd_nil)))) (pssd_cons (psd_new (i := 3) nd__law_starts (pso_lst psa_nil) rfl (by decide)) (pssd_cons (psd_for PassesOwn.never rfl (psi1 (pid_val (pd_call (ok__law_hands T) hr (by decide) rfl (pad_cons (pd_var 1) pad_nil)))) (pgd_name 4 nd__law_starts) (pssd_cons (psd_par2 (i := 5) (j := 6) rfl nd__law_starts rfl rfl (by decide) rfl rfl (by decide) (by decide) (psa_cons (pse1 (pd_call (ok__law_first T) hr (by decide) rfl (pad_cons (pd_var 1) (pad_cons (pd_var 4) pad_nil)))) (psa_cons (pse1 (pd_call (ok__law_first T) hr (by decide) rfl (pad_cons (pd_var 2) (pad_cons (pd_var 4) pad_nil)))) psa_nil)) rfl) (pssd_one (psd_append (i := 3) rfl (by decide) (pse1 (pd_tup (pad_cons (pd_call (ok__law_settled T) hr (by decide) rfl (pad_cons (pd_var 1) (pad_cons (pd_var 5) pad_nil))) (pad_cons (pd_call (ok__law_settled T) hr (by decide) rfl (pad_cons (pd_var 2) (pad_cons (pd_var 6) pad_nil))) pad_nil)))))))) (pssd_one (psd_ret (pd_var 3))))))
theorem sc__law_starts : FnScope N__law_starts ["_law_both"] (C8.fnScope (top 69)) := C8.fnScope_by (by decide +kernel)
theorem ok__law_starts (T : Txt P w K mg cs cB aZ) {base : Heap} : C8.Cal P w K mg base 4 "_law_starts" (spW ⟨P, w, K, cs⟩ F__law_starts) [] := cal_d T.d__law_starts (fun _ _ _ _ _ _ us hl => match us, hl with | [_], _ => rfl) sc__law_starts rfl rfl (by decide) (bd__law_starts T base)

/-! ### _law_is_one -/
def N__law_is_one : List Str := ["_law_both", "_law_pair"]
theorem nd__law_is_one : N__law_is_one.Nodup := by decide +kernel
noncomputable def b__law_is_one : WS := (wRet (wOp eqD (wCall F__law_event (wCons (wOp ixD (wVar 0) (wC (.int 0))) (wCons (wOp ixD (wVar 1) (wC (.int 0))) wNil))) (wCall F__law_event (wCons (wOp ixD (wVar 0) (wC (.int 1))) (wCons (wOp ixD (wVar 1) (wC (.int 1))) wNil)))))
noncomputable def F__law_is_one : List D → Wp D := fnW 2 0 b__law_is_one
theorem bd__law_is_one (T : Txt P w K mg cs cB aZ) (base : Heap) (f : Addr) : BodyOk P w K mg base cs 2 N__law_is_one "_law_is_one" (top 70) f [] b__law_is_one := fun cdv A outer s H E hr =>
  (pssd_one (psd_ret (pd_cmp (op_eqA hr.units) do_eq (pd_call (ok__law_event T) hr (by decide) rfl (pad_cons (pd_ix (pd_var 0) pd_int) (pad_cons (pd_ix (pd_var 1) pd_int) pad_nil))) (pd_call (ok__law_event T) hr (by decide) rfl (pad_cons (pd_ix (pd_var 0) pd_int) (pad_cons (pd_ix (pd_var 1) pd_int) pad_nil))) (nobehind _ (by decide) (by decide)))))
theorem sc__law_is_one : FnScope N__law_is_one ["_law_both", "_law_pair"] (C8.fnScope (top 70)) := C8.fnScope_by (by decide +kernel)
theorem ok__law_is_one (T : Txt P w K mg cs cB aZ) {base : Heap} : C8.Cal P w K mg base 3 "_law_is_one" (spW ⟨P, w, K, cs⟩ F__law_is_one) [] := cal_d T.d__law_is_one (fun _ _ _ _ _ _ us hl => match us, hl with | [_, _], _ => rfl) sc__law_is_one rfl rfl (by decide) (bd__law_is_one T base)

/-! ### _law_pairs -/
def N__law_pairs : List Str := ["_law_both", "_law_limit", "_law_known", "_law_line", "_law_at", "_law_taken", "_law_late", "_law_pair"]
theorem nd__law_pairs : N__law_pairs.Nodup := by decide +kernel
noncomputable def b__law_pairs : WS := (wSeq (wNew (fun ρ => (mk [2, 3] (wCons (wLc (wWalk (wCall F__law_starts (wCons (wVar 0) wNil))) setN [7] [7] wYes (wTup (wCons (wVar 7) (wCons (wC (.int 1)) wNil)))) wNil) ρ).bind dictD) 2) (wSeq (wParo2 3 4 (wCall listOE (wCons (wVar 2) wNil)) (wC (.int 0))) (wSeq (wWhile (wB (wOp ltD (wVar 4) (wCall lenA (wCons (wVar 3) wNil)))) (wSeq (wFor (wWalk (wIf (wB (wCall F__law_is_one (wCons (wVar 0) (wCons (wOp ixD (wVar 3) (wVar 4)) wNil)))) (wCall F__law_lates (wCons (mk [2, 3] (wVar 0)) (wCons (fl (wOp ixD (wVar 3) (wVar 4))) wNil))) (mk [2, 3] (wLst wNil)))) (setT 2 (setCons 1 setN (setCons 1 setN setNil))) [5, 6] (wIfS (wB (wOp ninE (wVar 6) (wVar 2))) (wSeq (wSetK 2 (mk [2, 3] (wVar 6)) (mk [2, 3] (wC (.int 1)))) (wApp 3 (mk [2, 3] (wVar 6)))) wNext)) (wSeq (wIfS (wB (wOp gtD (wCall lenA (wCons (wVar 3) wNil)) (wVar 1))) (wRet (wC .non)) wNext) (wAsg (mk [2, 3] (wOp addD (wVar 4) (wC (.int 1)))) setN [4])))) (wRet (wVar 3)))))
noncomputable def F__law_pairs : List D → Wp D := fnW 2 6 b__law_pairs
theorem bd__law_pairs (T : Txt P w K mg cs cB aZ) (base : Heap) (f : Addr) : BodyOk P w K mg base cs 4 N__law_pairs "_law_pairs" (top 71) f [2, 3] b__law_pairs := fun cdv A outer s H E hr =>
  (pssd_cons (psd_new (i := 2) nd__law_pairs (pso_dictOf hr.units rfl rfl T.f_dict bb_dict (psa1 (pad_cons (pd_lc (own := [("_law_pair", 7)]) (is := [7]) rfl nd__law_pairs (pid_val (pd_call (ok__law_starts T) hr (by decide) rfl (pad_cons (pd_var 0) pad_nil))) (blkOk_by (by kernel_rfl)) (by decide) (fun _ _ _ _ _ => (pgd_name 7 nd__law_pairs)) (fun _ _ _ _ _ => ptsd_nil) (fun _ _ _ _ _ => (pd_tup (pad_cons (pd_var 7) (pad_cons pd_int pad_nil))))) pad_nil))) rfl (by decide)) (pssd_cons (psd_paro2 (i := 3) (j := 4) rfl nd__law_pairs rfl rfl (by decide) rfl rfl (by decide) (by decide) (pso_listE rfl rfl T.f_list bb_list (pad_cons (pd_var 2) pad_nil)) rfl) (pssd_cons (psd_while PassesOwn.never (ptd_cmp op_lt do_lt (pd_var 4) (pd_callB call_lenA dc_lenA rfl T.f_len bb_len (pad_cons (pd_var 3) pad_nil)) (nobehind _ (by decide) (by decide))) (pssd_cons (psd_for PassesOwn.never rfl (psi_val (pse_if (pst2 (ptd_val (pd_call (ok__law_is_one T) hr (by decide) rfl (pad_cons (pd_var 0) (pad_cons (pd_ix (pd_var 3) (pd_var 4)) pad_nil))))) (pse_call (ok__law_lates T) hr (by decide) rfl (psa_cons (pse1 (pd_var 0)) (psa_cons (pse2 (pd_ix (pd_var 3) (pd_var 4))) psa_nil))) (pse1 (pd_lst pad_nil)))) (pgd_tup 2 rfl (pgsd_cons (pgd_name 5 nd__law_pairs) (pgsd_cons (pgd_name 6 nd__law_pairs) pgsd_nil))) (pssd_one (psd_if (ptd_cmp (op_ninE (cs := cs) (hr.units)) do_ninE (pd_var 6) (pd_var 2) (by with_unfolding_all rfl)) (pssd_cons (psd_setK (i := 2) hr.units rfl (by decide) (pse1 pd_int) (pse1 (pd_var 6))) (pssd_one (psd_append (i := 3) rfl (by decide) (pse1 (pd_var 6))))) pssd_nil))) (pssd_cons (psd_if (ptd_cmp op_gt do_gt (pd_callB call_lenA dc_lenA rfl T.f_len bb_len (pad_cons (pd_var 3) pad_nil)) (pd_var 1) (nobehind _ (by decide) (by decide))) (pssd_one (psd_ret pd_non)) pssd_nil) (pssd_one (psd_asg (pse1 (pd_op op_addA do_add (pd_var 4) pd_int)) (pgd_name 4 nd__law_pairs)))))) (pssd_one (psd_ret (pd_var 3))))))
theorem sc__law_pairs : FnScope N__law_pairs ["_law_both", "_law_limit"] (C8.fnScope (top 71)) := C8.fnScope_by (by decide +kernel)
theorem ok__law_pairs (T : Txt P w K mg cs cB aZ) {base : Heap} : C8.Cal P w K mg base 5 "_law_pairs" (spW ⟨P, w, K, cs⟩ F__law_pairs) [] := cal_d T.d__law_pairs (fun _ _ _ _ _ _ us hl => match us, hl with | [_, _], _ => rfl) sc__law_pairs rfl rfl (by decide) (bd__law_pairs T base)

/-! ### _law_is_same -/
def N__law_is_same : List Str := ["_law_both", "_law_pairs_here", "_law_known", "_law_pair", "_law_ends", "_law_at", "_law_state", "_law_taken", "_law_late"]
theorem nd__law_is_same : N__law_is_same.Nodup := by decide +kernel
noncomputable def b__law_is_same : WS := (wSeq (wAsg (mk [] (wCall dictD (wCons (wLc (wWalk (wVar 1)) setN [3] [3] wYes (wTup (wCons (wVar 3) (wCons (wC (.int 1)) wNil)))) wNil))) setN [2]) (wSeq (wIfS (wNot (wB (wCall allD (wCons (wLc (wWalk (wCall F__law_starts (wCons (wVar 0) wNil))) setN [3] [3] wYes (wOp inE (wVar 3) (wVar 2))) wNil)))) (wRet (wC (.bl false))) wNext) (wSeq (wFor (mk [] (wWalk (wVar 2))) setN [3] (wSeq (wAsg (mk [] (wLc (wEnum (wCons (wVar 3) wNil)) (setT 2 (setCons 1 setN (setCons 1 setN setNil))) [5, 6] [5, 6] wYes (wIf (wB (wOp isD (wVar 6) (wC .non))) (wC .non) (wCall F__law_settled (wCons (wOp ixD (wVar 0) (wVar 5)) (wCons (wVar 6) wNil)))))) setN [4]) (wSeq (wIfS (wOr (wB (wOp neD (wCall tupleD (wCons (wVar 4) wNil)) (wVar 3))) (wNot (wB (wCall F__law_is_one (wCons (wVar 0) (wCons (wVar 3) wNil)))))) (wRet (wC (.bl false))) wNext) (wIfS (wNot (wB (wCall allD (wCons (wLc (wWalk (wCall F__law_lates (wCons (wVar 0) (wCons (wVar 3) wNil)))) (setT 2 (setCons 1 setN (setCons 1 setN setNil))) [7, 8] [7, 8] wYes (wOp inE (wVar 8) (wVar 2))) wNil)))) (wRet (wC (.bl false))) wNext)))) (wRet (wC (.bl true))))))
noncomputable def F__law_is_same : List D → Wp D := fnW 2 7 b__law_is_same
theorem bd__law_is_same (T : Txt P w K mg cs cB aZ) (base : Heap) (f : Addr) : BodyOk P w K mg base cs 4 N__law_is_same "_law_is_same" (top 72) f [] b__law_is_same := fun cdv A outer s H E hr =>
  (pssd_cons (psd_asg (pse1 (pd_callTy (call_dictP (cs := cs) hr.units rfl) dc_dict rfl T.f_dict bb_dict (pad_cons (pd_lc (own := [("_law_pair", 3)]) (is := [3]) rfl nd__law_is_same (pid_val (pd_var 1)) (blkOk_by (by kernel_rfl)) (by decide) (fun _ _ _ _ _ => (pgd_name 3 nd__law_is_same)) (fun _ _ _ _ _ => ptsd_nil) (fun _ _ _ _ _ => (pd_tup (pad_cons (pd_var 3) (pad_cons pd_int pad_nil))))) pad_nil))) (pgd_name 2 nd__law_is_same)) (pssd_cons (psd_if (ptd_not (ptd_val (pd_callB (cr_all rfl) dc_all rfl T.f_all bb_all (pad_cons (pd_lc (own := [("_law_pair", 3)]) (is := [3]) rfl nd__law_is_same (pid_val (pd_call (ok__law_starts T) hr (by decide) rfl (pad_cons (pd_var 0) pad_nil))) (blkOk_by (by kernel_rfl)) (by decide) (fun _ _ _ _ _ => (pgd_name 3 nd__law_is_same)) (fun _ _ _ _ _ => ptsd_nil) (fun _ _ _ _ _ => (pd_cmp (op_inE (cs := cs) (hr.units)) do_inE (pd_var 3) (pd_var 2) (by with_unfolding_all rfl)))) pad_nil)))) (pssd_one (psd_ret pd_bl)) pssd_nil) (pssd_cons (psd_for PassesOwn.never rfl (psi1 (pid_val (pd_var 2))) (pgd_name 3 nd__law_is_same) (pssd_cons (psd_setLc (own := [("_law_at", 5), ("_law_state", 6)]) (is := [5, 6]) (i := 4) rfl nd__law_is_same rfl rfl (sw_true rfl rfl rfl rfl) (pid_enum rfl T.f_enumerate (pad_cons (pd_var 3) pad_nil)) (blkOk_by (by kernel_rfl)) (by decide) (by decide) (fun _ _ _ _ _ => (pgd_tup 2 rfl (pgsd_cons (pgd_name 5 nd__law_is_same) (pgsd_cons (pgd_name 6 nd__law_is_same) pgsd_nil)))) (fun _ _ _ _ _ => ptsd_nil) (fun _ _ _ _ _ => (pd_if (ptd_cmp op_isA do_is (pd_var 6) pd_non (nobehind _ (by decide) (by decide))) pd_non (pd_call (ok__law_settled T) hr (by decide) rfl (pad_cons (pd_ix (pd_var 0) (pd_var 5)) (pad_cons (pd_var 6) pad_nil)))))) (pssd_cons (psd_if (ptd_pw (pwd_or (ptd_cmp (op_neA hr.units) do_ne (pd_callTy call_tuple_of dc_tuple rfl T.f_tuple bb_tuple (pad_cons (pd_var 4) pad_nil)) (pd_var 3) (nobehind _ (by decide) (by decide))) (pwd_or1 (ptd_not (ptd_val (pd_call (ok__law_is_one T) hr (by decide) rfl (pad_cons (pd_var 0) (pad_cons (pd_var 3) pad_nil)))))))) (pssd_one (psd_ret pd_bl)) pssd_nil) (pssd_one (psd_if (ptd_not (ptd_val (pd_callB (cr_all rfl) dc_all rfl T.f_all bb_all (pad_cons (pd_lc (own := [("_law_taken", 7), ("_law_late", 8)]) (is := [7, 8]) rfl nd__law_is_same (pid_val (pd_call (ok__law_lates T) hr (by decide) rfl (pad_cons (pd_var 0) (pad_cons (pd_var 3) pad_nil)))) (blkOk_by (by kernel_rfl)) (by decide) (fun _ _ _ _ _ => (pgd_tup 2 rfl (pgsd_cons (pgd_name 7 nd__law_is_same) (pgsd_cons (pgd_name 8 nd__law_is_same) pgsd_nil)))) (fun _ _ _ _ _ => ptsd_nil) (fun _ _ _ _ _ => (pd_cmp (op_inE (cs := cs) (hr.units)) do_inE (pd_var 8) (pd_var 2) (by with_unfolding_all rfl)))) pad_nil)))) (pssd_one (psd_ret pd_bl)) pssd_nil))))) (pssd_one (psd_ret pd_bl)))))
theorem sc__law_is_same : FnScope N__law_is_same ["_law_both", "_law_pairs_here"] (C8.fnScope (top 72)) := C8.fnScope_by (by decide +kernel)
theorem ok__law_is_same (T : Txt P w K mg cs cB aZ) {base : Heap} : C8.Cal P w K mg base 5 "_law_is_same" (spW ⟨P, w, K, cs⟩ F__law_is_same) [] := cal_d T.d__law_is_same (fun _ _ _ _ _ _ us hl => match us, hl with | [_, _], _ => rfl) sc__law_is_same rfl rfl (by decide) (bd__law_is_same T base)

/-! ### _law_is_parted -/
def N__law_is_parted : List Str := ["_law_both", "_law_given", "_law_inputs", "_law_pair", "_law_at", "_law_met", "_law_turn", "_law_word", "_law_taken", "_law_other_here", "_law_late"]
theorem nd__law_is_parted : N__law_is_parted.Nodup := by decide +kernel
noncomputable def b__law_is_parted : WS := (wSeq (wIfS (wB (wOp ninD (wVar 1) (wCall F__law_hands (wCons (wOp ixD (wVar 0) (wC (.int 0))) wNil)))) (wRet (wC (.bl false))) wNext) (wSeq (wPar3o 3 4 5 (mk [5] (wOp ixD (wCall F__law_starts (wCons (wVar 0) wNil)) (wIndex (wCall F__law_hands (wCons (wOp ixD (wVar 0) (wC (.int 0))) wNil)) (wCons (wVar 1) wNil)))) (mk [5] (wC (.int 0))) (wLst wNil)) (wSeq (wFor (mk [5] (wRng1 (wCons (wC (.int 100000)) wNil))) setN [6] (wSeq (wIfS (wNot (wB (wCall F__law_is_one (wCons (wVar 0) (wCons (wVar 3) wNil))))) (wRet (wC (.bl true))) wNext) (wSeq (wAsg (mk [5] (wOp ixD (wCall F__law_event (wCons (wOp ixD (wVar 0) (wC (.int 0))) (wCons (wOp ixD (wVar 3) (wC (.int 0))) wNil))) (wC (.int 0)))) setN [7]) (wSeq (wIfS (wOr (wB (wOp inD (wVar 7) (wTup (wCons (wC (.str "stop")) (wCons (wC (.str "silent")) wNil))))) (wOr (wB (wOp inD (wTup (wCons (wVar 3) (wCons (wVar 4) wNil))) (wVar 5))) (wAnd (wB (wOp eqD (wVar 7) (wC (.str "take")))) (wB (wOp eqD (wVar 4) (wCall lenA (wCons (wVar 2) wNil))))))) (wRet (wC (.bl false))) wNext) (wSeq (wApp 5 (mk [5] (wTup (wCons (wVar 3) (wCons (wVar 4) wNil))))) (wSeq (wAsg (mk [5] (wIf (wB (wOp eqD (wVar 7) (wC (.str "take")))) (wTup (wCons (wOp ixD (wVar 2) (wVar 4)) (wCons (wOp addD (wVar 4) (wC (.int 1))) wNil))) (wTup (wCons (wC .non) (wCons (wVar 4) wNil))))) (setT 2 (setCons 1 setN (setCons 1 setN setNil))) [8, 4]) (wAsg (mk [5] (wOp ixD (wLc (wWalk (wCall F__law_lates (wCons (wVar 0) (wCons (wVar 3) wNil)))) (setT 2 (setCons 1 setN (setCons 1 setN setNil))) [9, 10] [9, 10] (wB (wOp eqD (wVar 9) (wVar 8))) (wVar 10)) (wC (.int 0)))) setN [3]))))))) (wRet (wC (.bl false))))))
noncomputable def F__law_is_parted : List D → Wp D := fnW 3 8 b__law_is_parted
theorem bd__law_is_parted (T : Txt P w K mg cs cB aZ) (base : Heap) (f : Addr) : BodyOk P w K mg base cs 4 N__law_is_parted "_law_is_parted" (top 73) f [5] b__law_is_parted := fun cdv A outer s H E hr =>
  (pssd_cons (psd_if (ptd_cmp (op_ninA (hu65 hr)) do_nin (pd_var 1) (pd_call (ok__law_hands T) hr (by decide) rfl (pad_cons (pd_ix (pd_var 0) pd_int) pad_nil)) (by with_unfolding_all rfl)) (pssd_one (psd_ret pd_bl)) pssd_nil) (pssd_cons (psd_par3o (i := 3) (j := 4) (l := 5) rfl nd__law_is_parted rfl rfl rfl (by decide) (by decide) (by decide) rfl rfl rfl (by decide) (by decide) (by decide) (pse1 (pd_ix (pd_call (ok__law_starts T) hr (by decide) rfl (pad_cons (pd_var 0) pad_nil)) (pd_index (hu65 hr) (pd_call (ok__law_hands T) hr (by decide) rfl (pad_cons (pd_ix (pd_var 0) pd_int) pad_nil)) (pad_cons (pd_var 1) pad_nil)))) (pse1 pd_int) (pso_lst psa_nil) rfl) (pssd_cons (psd_for PassesOwn.never rfl (psi1 (pid_range1 rfl T.f_range (pad_cons pd_int pad_nil))) (pgd_name 6 nd__law_is_parted) (pssd_cons (psd_if (ptd_not (ptd_val (pd_call (ok__law_is_one T) hr (by decide) rfl (pad_cons (pd_var 0) (pad_cons (pd_var 3) pad_nil))))) (pssd_one (psd_ret pd_bl)) pssd_nil) (pssd_cons (psd_asg (pse1 (pd_ix (pd_call (ok__law_event T) hr (by decide) rfl (pad_cons (pd_ix (pd_var 0) pd_int) (pad_cons (pd_ix (pd_var 3) pd_int) pad_nil))) pd_int)) (pgd_name 7 nd__law_is_parted)) (pssd_cons (psd_if (ptd_pw (pwd_or (ptd_cmp (op_inA (hu65 hr)) do_in (pd_var 7) (pd_tup (pad_cons pd_str (pad_cons pd_str pad_nil))) (by with_unfolding_all rfl)) (pwd_or (ptd_cmp (op_inA (hu65 hr)) do_in (pd_tup (pad_cons (pd_var 3) (pad_cons (pd_var 4) pad_nil))) (pd_var 5) (by with_unfolding_all rfl)) (pwd_or1 (ptd_pw (pwd_and (ptd_cmp (op_eqA hr.units) do_eq (pd_var 7) pd_str (nobehind _ (by decide) (by decide))) (pwd_and1 (ptd_cmp (op_eqA hr.units) do_eq (pd_var 4) (pd_callB call_lenA dc_lenA rfl T.f_len bb_len (pad_cons (pd_var 2) pad_nil)) (nobehind _ (by decide) (by decide)))))))))) (pssd_one (psd_ret pd_bl)) pssd_nil) (pssd_cons (psd_append (i := 5) rfl (by decide) (pse1 (pd_tup (pad_cons (pd_var 3) (pad_cons (pd_var 4) pad_nil))))) (pssd_cons (psd_asg (pse1 (pd_if (ptd_cmp (op_eqA hr.units) do_eq (pd_var 7) pd_str (nobehind _ (by decide) (by decide))) (pd_tup (pad_cons (pd_ix (pd_var 2) (pd_var 4)) (pad_cons (pd_op op_addA do_add (pd_var 4) pd_int) pad_nil))) (pd_tup (pad_cons pd_non (pad_cons (pd_var 4) pad_nil))))) (pgd_tup 2 rfl (pgsd_cons (pgd_name 8 nd__law_is_parted) (pgsd_cons (pgd_name 4 nd__law_is_parted) pgsd_nil)))) (pssd_one (psd_asg (pse1 (pd_ix (pd_lc (own := [("_law_other_here", 9), ("_law_late", 10)]) (is := [9, 10]) rfl nd__law_is_parted (pid_val (pd_call (ok__law_lates T) hr (by decide) rfl (pad_cons (pd_var 0) (pad_cons (pd_var 3) pad_nil)))) (blkOk_by (by kernel_rfl)) (by decide) (fun _ _ _ _ _ => (pgd_tup 2 rfl (pgsd_cons (pgd_name 9 nd__law_is_parted) (pgsd_cons (pgd_name 10 nd__law_is_parted) pgsd_nil)))) (fun _ _ _ _ _ => (ptsd_one (ptd_cmp (op_eqA hr.units) do_eq (pd_var 9) (pd_var 8) (nobehind _ (by decide) (by decide))))) (fun _ _ _ _ _ => (pd_var 10))) pd_int)) (pgd_name 3 nd__law_is_parted))))))))) (pssd_one (psd_ret pd_bl)))))
theorem sc__law_is_parted : FnScope N__law_is_parted ["_law_both", "_law_given", "_law_inputs"] (C8.fnScope (top 73)) := C8.fnScope_by (by decide +kernel)
theorem ok__law_is_parted (T : Txt P w K mg cs cB aZ) {base : Heap} : C8.Cal P w K mg base 5 "_law_is_parted" (spW ⟨P, w, K, cs⟩ F__law_is_parted) [] := cal_d T.d__law_is_parted (fun _ _ _ _ _ _ us hl => match us, hl with | [_, _, _], _ => rfl) sc__law_is_parted rfl rfl (by decide) (bd__law_is_parted T base)

/-! ### _law_other -/
def N__law_other : List Str := ["_law_draw_here", "_law_plain_here", "_law_many", "_law_blocks", "_law_given", "_law_wide", "_law_way", "_law_at", "_law_rows", "_law_end_here"]
theorem nd__law_other : N__law_other.Nodup := by decide +kernel
noncomputable def b__law_other : WS := (wSeq (wAsg (mk [] (wVar 1)) (setT 4 (setCons 1 setN (setCons 1 setN (setCons 1 setN (setCons 1 setN setNil))))) [2, 3, 4, 5]) (wSeq (wPar2 6 7 (wCons (mk [] (wCall F__law_next (wCons (wVar 0) (wCons (wC (.int 4)) wNil)))) (wCons (mk [] (wCall F__law_next (wCons (wVar 0) (wCons (wCall lenA (wCons (wVar 3) wNil)) wNil)))) wNil))) (wSeq (wAsg (mk [] (wOp ixD (wVar 3) (wVar 7))) (setT 2 (setCons 1 setN (setCons 1 setN setNil))) [8, 9]) (wSeq (wIfS (wB (wOp eqD (wVar 6) (wC (.int 0)))) (wAsg (mk [] (wOp addD (wVar 8) (wTup (wCons (wCall F__law_row (wCons (wVar 0) (wCons (wVar 2) (wCons (wVar 5) wNil)))) wNil)))) setN [8]) wNext) (wSeq (wIfS (wB (wOp eqD (wVar 6) (wC (.int 1)))) (wAsg (mk [] (wOp addD (wTup (wCons (wTup (wCons (wC (.str "move")) (wCons (wVar 2) (wCons (wVar 2) wNil)))) wNil)) (wVar 8))) setN [8]) wNext) (wSeq (wIfS (wB (wOp eqD (wVar 6) (wC (.int 2)))) (wAsg (mk [] (wSl (wVar 8) (wPt (wC (.int 1))) wNo)) setN [8]) wNext) (wSeq (wIfS (wAnd (wB (wOp eqD (wVar 6) (wC (.int 3)))) (wB (wOp eqD (wOp ixD (wVar 9) (wC (.int 0))) (wC (.str "part"))))) (wAsg (mk [] (wTup (wCons (wC (.str "part")) (wCons (wOp ixD (wVar 9) (wC (.int 1))) (wCons (wOp ixD (wVar 9) (wC (.int 3))) (wCons (wOp ixD (wVar 9) (wC (.int 2))) wNil)))))) setN [9]) wNext) (wRet (wTup (wCons (wOp addD (wCall maxD (wCons (wVar 2) (wCons (wC (.int 3)) wNil))) (wC (.int 1))) (wCons (wOp addD (wOp addD (wSl (wVar 3) wNo (wPt (wVar 7))) (wTup (wCons (wTup (wCons (wVar 8) (wCons (wVar 9) wNil))) wNil))) (wSl (wVar 3) (wPt (wOp addD (wVar 7) (wC (.int 1)))) wNo)) (wCons (wVar 4) (wCons (wVar 5) wNil)))))))))))))
noncomputable def F__law_other : List D → Wp D := fnW 2 8 b__law_other
theorem bd__law_other (T : Txt P w K mg cs cB aZ) (base : Heap) (f : Addr) : BodyOk P w K mg base cs 5 N__law_other "_law_other" (top 74) f [] b__law_other := fun cdv A outer s H E hr =>
  (pssd_cons (psd_asg (pse1 (pd_var 1)) (pgd_tup 4 rfl (pgsd_cons (pgd_name 2 nd__law_other) (pgsd_cons (pgd_name 3 nd__law_other) (pgsd_cons (pgd_name 4 nd__law_other) (pgsd_cons (pgd_name 5 nd__law_other) pgsd_nil)))))) (pssd_cons (psd_par2 (i := 6) (j := 7) rfl nd__law_other rfl rfl (by decide) rfl rfl (by decide) (by decide) (psa_cons (pse1 (pd_call (ok__law_next T) hr (by decide) rfl (pad_cons (pd_var 0) (pad_cons pd_int pad_nil)))) (psa_cons (pse1 (pd_call (ok__law_next T) hr (by decide) rfl (pad_cons (pd_var 0) (pad_cons (pd_callB call_lenA dc_lenA rfl T.f_len bb_len (pad_cons (pd_var 3) pad_nil)) pad_nil)))) psa_nil)) rfl) (pssd_cons (psd_asg (pse1 (pd_ix (pd_var 3) (pd_var 7))) (pgd_tup 2 rfl (pgsd_cons (pgd_name 8 nd__law_other) (pgsd_cons (pgd_name 9 nd__law_other) pgsd_nil)))) (pssd_cons (psd_if (ptd_cmp (op_eqA hr.units) do_eq (pd_var 6) pd_int (nobehind _ (by decide) (by decide))) (pssd_one (psd_asg (pse1 (pd_op op_addA do_add (pd_var 8) (pd_tup (pad_cons (pd_call (ok__law_row T) hr (by decide) rfl (pad_cons (pd_var 0) (pad_cons (pd_var 2) (pad_cons (pd_var 5) pad_nil)))) pad_nil)))) (pgd_name 8 nd__law_other))) pssd_nil) (pssd_cons (psd_if (ptd_cmp (op_eqA hr.units) do_eq (pd_var 6) pd_int (nobehind _ (by decide) (by decide))) (pssd_one (psd_asg (pse1 (pd_op op_addA do_add (pd_tup (pad_cons (pd_tup (pad_cons pd_str (pad_cons (pd_var 2) (pad_cons (pd_var 2) pad_nil)))) pad_nil)) (pd_var 8))) (pgd_name 8 nd__law_other))) pssd_nil) (pssd_cons (psd_if (ptd_cmp (op_eqA hr.units) do_eq (pd_var 6) pd_int (nobehind _ (by decide) (by decide))) (pssd_one (psd_asg (pse1 (pd_sl (pd_var 8) (pod_some pd_int) pod_none)) (pgd_name 8 nd__law_other))) pssd_nil) (pssd_cons (psd_if (ptd_pw (pwd_and (ptd_cmp (op_eqA hr.units) do_eq (pd_var 6) pd_int (nobehind _ (by decide) (by decide))) (pwd_and1 (ptd_cmp (op_eqA hr.units) do_eq (pd_ix (pd_var 9) pd_int) pd_str (nobehind _ (by decide) (by decide)))))) (pssd_one (psd_asg (pse1 (pd_tup (pad_cons pd_str (pad_cons (pd_ix (pd_var 9) pd_int) (pad_cons (pd_ix (pd_var 9) pd_int) (pad_cons (pd_ix (pd_var 9) pd_int) pad_nil)))))) (pgd_name 9 nd__law_other))) pssd_nil) (pssd_one (psd_ret (pd_tup (pad_cons (pd_op op_addA do_add (pd_callB (call_max2 rfl) dc_max rfl T.f_max bb_max (pad_cons (pd_var 2) (pad_cons pd_int pad_nil))) pd_int) (pad_cons (pd_op op_addA do_add (pd_op op_addA do_add (pd_sl (pd_var 3) pod_none (pod_some (pd_var 7))) (pd_tup (pad_cons (pd_tup (pad_cons (pd_var 8) (pad_cons (pd_var 9) pad_nil))) pad_nil))) (pd_sl (pd_var 3) (pod_some (pd_op op_addA do_add (pd_var 7) pd_int)) pod_none)) (pad_cons (pd_var 4) (pad_cons (pd_var 5) pad_nil))))))))))))))
theorem sc__law_other : FnScope N__law_other ["_law_draw_here", "_law_plain_here"] (C8.fnScope (top 74)) := C8.fnScope_by (by decide +kernel)
theorem ok__law_other (T : Txt P w K mg cs cB aZ) {base : Heap} : C8.Cal P w K mg base 6 "_law_other" (spW ⟨P, w, K, cs⟩ F__law_other) [] := cal_d T.d__law_other (fun _ _ _ _ _ _ us hl => match us, hl with | [_, _], _ => rfl) sc__law_other rfl rfl (by decide) (bd__law_other T base)

/-! ### _law_papers_right -/
def N__law_papers_right : List Str := ["_law_draw_here", "_law_both", "_law_built", "_law_pairs_here", "_law_found", "_law_at", "_law_cases", "_law_rows", "_law_inputs", "_law_given", "_law_one", "_law_other_here", "_law_turn"]
theorem nd__law_papers_right : N__law_papers_right.Nodup := by decide +kernel
noncomputable def b__law_papers_right : WS := (wSeq (wIfS (wB (wMap isParted (wVar 4))) (wSeq (wPar2 9 8 (wCons (mk [] (wMap fHandedT (wVar 4))) (wCons (mk [] (wCall listA (wCons (wMap fInputs (wVar 4)) wNil))) wNil))) (wSeq (wAsg (mk [] (wLst (wCons (wTup (wCons (wVar 9) (wCons (wVar 8) wNil))) (wCons (wTup (wCons (wVar 9) (wCons (wSl (wVar 8) wNo (wPt (wNeg (wC (.int 1))))) wNil))) (wCons (wTup (wCons (wVar 9) (wCons (wOp addD (wVar 8) (wLst (wCons (wC (.int 0)) wNil))) wNil))) (wCons (wTup (wCons (wVar 9) (wCons (wRev (wVar 8)) wNil))) (wCons (wTup (wCons (wOp addD (wVar 9) (wTup (wCons (wC (.int 0)) wNil))) (wCons (wVar 8) wNil))) wNil))))))) setN [6]) (wSeq (wFor (mk [] (wWalk (wOp addD (wVar 6) (wLst (wCons (wTup (wCons (wCall F__law_pick (wCons (wVar 0) (wCons (wCall F__law_hands (wCons (wOp ixD (wVar 1) (wC (.int 0))) wNil)) wNil))) (wCons (wVar 8) wNil))) wNil))))) (setT 2 (setCons 1 setN (setCons 1 setN setNil))) [10, 11] (wIfS (wB (wOp neD (wShows F_Same_shows F_Parted_shows (wCall mkParted (wCons (wVar 10) (wCons (wVar 11) wNil))) (wCons (wOp ixD (wVar 2) (wC (.int 0))) (wCons (wOp ixD (wVar 2) (wC (.int 1))) wNil))) (wCall F__law_is_parted (wCons (wVar 1) (wCons (wVar 10) (wCons (wVar 11) wNil)))))) (wRet (wC (.bl false))) wNext)) (wRet (wCall F__law_is_parted (wCons (wVar 1) (wCons (wVar 9) (wCons (wVar 8) wNil)))))))) wNext) (wSeq (wAsg (mk [] (wCall F__law_next (wCons (wVar 0) (wCons (wCall lenA (wCons (wVar 3) wNil)) wNil)))) setN [5]) (wSeq (wAsg (mk [] (wLst (wCons (wOp addD (wRev (wVar 3)) (wSl (wVar 3) wNo (wPt (wC (.int 1))))) (wCons (wOp addD (wSl (wVar 3) wNo (wPt (wVar 5))) (wSl (wVar 3) (wPt (wOp addD (wVar 5) (wC (.int 1)))) wNo)) (wCons (wLst wNil) (wCons (wOp addD (wVar 3) (wLst (wCons (wTup (wCons (wC .non) (wCons (wOp ixD (wOp ixD (wVar 3) (wC (.int 0))) (wC (.int 1))) wNil))) wNil))) wNil)))))) setN [6]) (wSeq (wFor (mk [] (wWalk (wOp addD (wVar 6) (wLst (wCons (wCall listS (wCons (wVar 4) wNil)) (wCons (wOp addD (wVar 3) (wLst (wCons (wTup (wCons (wCall F__law_first (wCons (wOp ixD (wVar 1) (wC (.int 0))) (wCons (wOp ixD (wCall F__law_hands (wCons (wOp ixD (wVar 1) (wC (.int 0))) wNil)) (wC (.int 0))) wNil))) (wCons (wOp ixD (wOp ixD (wVar 3) (wC (.int 0))) (wC (.int 1))) wNil))) wNil))) wNil)))))) setN [7] (wIfS (wB (wOp neD (wShows F_Same_shows F_Parted_shows (wCall mkSame (wCons (wVar 7) wNil)) (wCons (wOp ixD (wVar 2) (wC (.int 0))) (wCons (wOp ixD (wVar 2) (wC (.int 1))) wNil))) (wCall F__law_is_same (wCons (wVar 1) (wCons (wVar 7) wNil))))) (wRet (wC (.bl false))) wNext)) (wSeq (wAsg (mk [] (wLc (wRng1 (wCons (wCall F__law_next (wCons (wVar 0) (wCons (wC (.int 6)) wNil))) wNil)) setN [12] [12] wYes (wCall F__law_next (wCons (wVar 0) (wCons (wOp ixD (wOp ixD (wVar 1) (wC (.int 0))) (wC (.int 3))) wNil))))) setN [8]) (wRet (wOp isD (wShows F_Same_shows F_Parted_shows (wCall mkParted (wCons (wCall F__law_pick (wCons (wVar 0) (wCons (wCall F__law_hands (wCons (wOp ixD (wVar 1) (wC (.int 0))) wNil)) wNil))) (wCons (wVar 8) wNil))) (wCons (wOp ixD (wVar 2) (wC (.int 0))) (wCons (wOp ixD (wVar 2) (wC (.int 1))) wNil))) (wC (.bl false)))))))))
noncomputable def F__law_papers_right : List D → Wp D := fnW 5 8 b__law_papers_right
theorem bd__law_papers_right (T : Txt P w K mg cs cB aZ) (base : Heap) (f : Addr) : BodyOk P w K mg base cs 10 N__law_papers_right "_law_papers_right" (top 75) f [] b__law_papers_right := fun cdv A outer s H E hr =>
  (pssd_cons (psd_if (ptd_val (pd_isParted T.cl rfl T.f_isinstance rfl T.mT (pd_var 4))) (pssd_cons (psd_par2 (i := 9) (j := 8) rfl nd__law_papers_right rfl rfl (by decide) rfl rfl (by decide) (by decide) (psa_cons (pse1 (pd_handedT T.cl (pd_var 4))) (psa_cons (pse1 (pd_callTy (call_listA rfl) dc_listA rfl T.f_list bb_list (pad_cons (pd_inputs T.cl (pd_var 4)) pad_nil))) psa_nil)) rfl) (pssd_cons (psd_asg (pse1 (pd_lst (pad_cons (pd_tup (pad_cons (pd_var 9) (pad_cons (pd_var 8) pad_nil))) (pad_cons (pd_tup (pad_cons (pd_var 9) (pad_cons (pd_sl (pd_var 8) pod_none (pod_some (pd_neg pd_int))) pad_nil))) (pad_cons (pd_tup (pad_cons (pd_var 9) (pad_cons (pd_op op_addA do_add (pd_var 8) (pd_lst (pad_cons pd_int pad_nil))) pad_nil))) (pad_cons (pd_tup (pad_cons (pd_var 9) (pad_cons (pd_rev (pd_var 8)) pad_nil))) (pad_cons (pd_tup (pad_cons (pd_op op_addA do_add (pd_var 9) (pd_tup (pad_cons pd_int pad_nil))) (pad_cons (pd_var 8) pad_nil))) pad_nil))))))) (pgd_name 6 nd__law_papers_right)) (pssd_cons (psd_for PassesOwn.never rfl (psi1 (pid_val (pd_op op_addA do_add (pd_var 6) (pd_lst (pad_cons (pd_tup (pad_cons (pd_call (ok__law_pick T) hr (by decide) rfl (pad_cons (pd_var 0) (pad_cons (pd_call (ok__law_hands T) hr (by decide) rfl (pad_cons (pd_ix (pd_var 1) pd_int) pad_nil)) pad_nil))) (pad_cons (pd_var 8) pad_nil))) pad_nil))))) (pgd_tup 2 rfl (pgsd_cons (pgd_name 10 nd__law_papers_right) (pgsd_cons (pgd_name 11 nd__law_papers_right) pgsd_nil))) (pssd_one (psd_if (ptd_cmp (op_neA hr.units) do_ne (pd_shows T.cl (met_Same_shows T) (met_Parted_shows T) hr (by decide) (by decide) (pd_make (mak_T T) hr (by decide) rfl (pad_cons (pd_var 10) (pad_cons (pd_var 11) pad_nil))) (pad_cons (pd_ix (pd_var 2) pd_int) (pad_cons (pd_ix (pd_var 2) pd_int) pad_nil))) (pd_call (ok__law_is_parted T) hr (by decide) rfl (pad_cons (pd_var 1) (pad_cons (pd_var 10) (pad_cons (pd_var 11) pad_nil)))) (nobehind _ (by decide) (by decide))) (pssd_one (psd_ret pd_bl)) pssd_nil))) (pssd_one (psd_ret (pd_call (ok__law_is_parted T) hr (by decide) rfl (pad_cons (pd_var 1) (pad_cons (pd_var 9) (pad_cons (pd_var 8) pad_nil))))))))) pssd_nil) (pssd_cons (psd_asg (pse1 (pd_call (ok__law_next T) hr (by decide) rfl (pad_cons (pd_var 0) (pad_cons (pd_callB call_lenA dc_lenA rfl T.f_len bb_len (pad_cons (pd_var 3) pad_nil)) pad_nil)))) (pgd_name 5 nd__law_papers_right)) (pssd_cons (psd_asg (pse1 (pd_lst (pad_cons (pd_op op_addA do_add (pd_rev (pd_var 3)) (pd_sl (pd_var 3) pod_none (pod_some pd_int))) (pad_cons (pd_op op_addA do_add (pd_sl (pd_var 3) pod_none (pod_some (pd_var 5))) (pd_sl (pd_var 3) (pod_some (pd_op op_addA do_add (pd_var 5) pd_int)) pod_none)) (pad_cons (pd_lst pad_nil) (pad_cons (pd_op op_addA do_add (pd_var 3) (pd_lst (pad_cons (pd_tup (pad_cons pd_non (pad_cons (pd_ix (pd_ix (pd_var 3) pd_int) pd_int) pad_nil))) pad_nil))) pad_nil)))))) (pgd_name 6 nd__law_papers_right)) (pssd_cons (psd_for PassesOwn.never rfl (psi1 (pid_val (pd_op op_addA do_add (pd_var 6) (pd_lst (pad_cons (pd_callTy (call_listS T.cl T.itS T.f_iter hr (by decide) rfl) dc_listS rfl T.f_list bb_list (pad_cons (pd_var 4) pad_nil)) (pad_cons (pd_op op_addA do_add (pd_var 3) (pd_lst (pad_cons (pd_tup (pad_cons (pd_call (ok__law_first T) hr (by decide) rfl (pad_cons (pd_ix (pd_var 1) pd_int) (pad_cons (pd_ix (pd_call (ok__law_hands T) hr (by decide) rfl (pad_cons (pd_ix (pd_var 1) pd_int) pad_nil)) pd_int) pad_nil))) (pad_cons (pd_ix (pd_ix (pd_var 3) pd_int) pd_int) pad_nil))) pad_nil))) pad_nil)))))) (pgd_name 7 nd__law_papers_right) (pssd_one (psd_if (ptd_cmp (op_neA hr.units) do_ne (pd_shows T.cl (met_Same_shows T) (met_Parted_shows T) hr (by decide) (by decide) (pd_make (mak_S T) hr (by decide) rfl (pad_cons (pd_var 7) pad_nil)) (pad_cons (pd_ix (pd_var 2) pd_int) (pad_cons (pd_ix (pd_var 2) pd_int) pad_nil))) (pd_call (ok__law_is_same T) hr (by decide) rfl (pad_cons (pd_var 1) (pad_cons (pd_var 7) pad_nil))) (nobehind _ (by decide) (by decide))) (pssd_one (psd_ret pd_bl)) pssd_nil))) (pssd_cons (psd_setLc (own := [("_law_turn", 12)]) (is := [12]) (i := 8) rfl nd__law_papers_right rfl rfl (sw_true rfl rfl rfl rfl) (pid_range1 rfl T.f_range (pad_cons (pd_call (ok__law_next T) hr (by decide) rfl (pad_cons (pd_var 0) (pad_cons pd_int pad_nil))) pad_nil)) (blkOk_by (by kernel_rfl)) (by decide) (by decide) (fun _ _ _ _ _ => (pgd_name 12 nd__law_papers_right)) (fun _ _ _ _ _ => ptsd_nil) (fun _ _ _ _ _ => (pd_call (ok__law_next T) hr (by decide) rfl (pad_cons (pd_var 0) (pad_cons (pd_ix (pd_ix (pd_var 1) pd_int) pd_int) pad_nil))))) (pssd_one (psd_ret (pd_cmp op_isA do_is (pd_shows T.cl (met_Same_shows T) (met_Parted_shows T) hr (by decide) (by decide) (pd_make (mak_T T) hr (by decide) rfl (pad_cons (pd_call (ok__law_pick T) hr (by decide) rfl (pad_cons (pd_var 0) (pad_cons (pd_call (ok__law_hands T) hr (by decide) rfl (pad_cons (pd_ix (pd_var 1) pd_int) pad_nil)) pad_nil))) (pad_cons (pd_var 8) pad_nil))) (pad_cons (pd_ix (pd_var 2) pd_int) (pad_cons (pd_ix (pd_var 2) pd_int) pad_nil))) pd_bl (nobehind _ (by decide) (by decide))))))))))
theorem sc__law_papers_right : FnScope N__law_papers_right ["_law_draw_here", "_law_both", "_law_built", "_law_pairs_here", "_law_found"] (C8.fnScope (top 75)) := C8.fnScope_by (by decide +kernel)
theorem ok__law_papers_right (T : Txt P w K mg cs cB aZ) {base : Heap} : C8.Cal P w K mg base 11 "_law_papers_right" (spW ⟨P, w, K, cs⟩ F__law_papers_right) [] := cal_d T.d__law_papers_right (fun _ _ _ _ _ _ us hl => match us, hl with | [_, _, _, _, _], _ => rfl) sc__law_papers_right rfl rfl (by decide) (bd__law_papers_right T base)

end Rr
/-! registerrooms: defs, printed by gen.py. -/
namespace Rr
open PySem PySem.Spec PyProof.Rows L2
variable {P : Program} {w : World} {K : PySem.W.Frag} {mg : Str → Option Value} {cs : Cs} {cB aZ : Addr}
/-! ### law -/
def N_law : List Str := ["_law_script", "_law_draw_here", "_law_by", "_law_plain_here", "_law_both", "_law_built", "_law_pairs_here", "_law_found", "_law_is_good", "_law_pair"]
theorem nd_law : N_law.Nodup := by decide +kernel
noncomputable def b_law : WS := (wSeq (wFor (mk [] (wRng1 (wCons (wC (.int 3)) wNil))) setN [2] (wSeq (wAsg (mk [] (wCall F__law_plain (wCons (wVar 1) (wCons (wC (.int 3)) (wCons (wC (.int 3)) wNil))))) setN [3]) (wSeq (wAsg (mk [] (wTup (wCons (wVar 3) (wCons (wCall F__law_other (wCons (wVar 1) (wCons (wVar 3) wNil))) wNil)))) setN [4]) (wSeq (wPar2 5 6 (wCons (mk [] (wTup (wCons (wCall F__law_made (wCons (wOp ixD (wVar 4) (wC (.int 0))) wNil)) (wCons (wCall F__law_made (wCons (wOp ixD (wVar 4) (wC (.int 1))) wNil)) wNil)))) (wCons (mk [] (wCall F__law_pairs (wCons (wVar 4) (wCons (wC (.int 300)) wNil)))) wNil))) (wIfS (wB (wOp nisD (wVar 6) (wC .non))) (wSeq (wPar2 7 8 (wCons (mk [] (wCall F_judge_both (wCons (wOp ixD (wVar 5) (wC (.int 0))) (wCons (wOp ixD (wVar 5) (wC (.int 1))) wNil)))) (wCons (mk [] (wCall allD (wCons (wLc (wWalk (wVar 6)) setN [9] [9] wYes (wCall F__law_is_one (wCons (wVar 4) (wCons (wVar 9) wNil)))) wNil))) wNil))) (wSeq (wIfS (wOr (wB (wOp neD (wCall F_tell_alike (wCons (wOp ixD (wVar 5) (wC (.int 0))) (wCons (wOp ixD (wVar 5) (wC (.int 1))) wNil))) (wVar 8))) (wB (wOp neD (wMap isSame (wVar 7)) (wVar 8)))) (wRet (wC (.bl false))) wNext) (wIfS (wOr (wB (wOp nisD (wShows F_Same_shows F_Parted_shows (wVar 7) (wCons (wOp ixD (wVar 5) (wC (.int 0))) (wCons (wOp ixD (wVar 5) (wC (.int 1))) wNil))) (wC (.bl true)))) (wNot (wB (wCall F__law_papers_right (wCons (wVar 1) (wCons (wVar 4) (wCons (wVar 5) (wCons (wVar 6) (wCons (wVar 7) wNil))))))))) (wRet (wC (.bl false))) wNext))) wNext))))) (wRet (wC (.bl true))))
theorem bd_law (T : Txt P w K mg cs cB aZ) (base : Heap) (f : Addr) (cdv : Value) (A : Around) (outer : List PySem.Env) (s : Shared) (H : Hp) (E : XK) (hr : Room 11 (A.deeper (envOfC "law" (C8.fnScope (top 76)) s.heap.objs.size f cdv))) : PSsD (cxOf C8.CX0 P w K mg base N_law "law" (C8.fnScope (top 76)) f cdv A outer s H E).nox cs [] ((C8.fnBody (top 76)).drop 1) b_law :=
  (pssd_cons (psd_for PassesOwn.never rfl (psi1 (pid_range1 rfl T.f_range (pad_cons pd_int pad_nil))) (pgd_name 2 nd_law) (pssd_cons (psd_asg (pse1 (pd_call (ok__law_plain T) hr (by decide) rfl (pad_cons (pd_var 1) (pad_cons pd_int (pad_cons pd_int pad_nil))))) (pgd_name 3 nd_law)) (pssd_cons (psd_asg (pse1 (pd_tup (pad_cons (pd_var 3) (pad_cons (pd_call (ok__law_other T) hr (by decide) rfl (pad_cons (pd_var 1) (pad_cons (pd_var 3) pad_nil))) pad_nil)))) (pgd_name 4 nd_law)) (pssd_cons (psd_par2 (i := 5) (j := 6) rfl nd_law rfl rfl (by decide) rfl rfl (by decide) (by decide) (psa_cons (pse1 (pd_tup (pad_cons (pd_call (ok__law_made T) hr (by decide) rfl (pad_cons (pd_ix (pd_var 4) pd_int) pad_nil)) (pad_cons (pd_call (ok__law_made T) hr (by decide) rfl (pad_cons (pd_ix (pd_var 4) pd_int) pad_nil)) pad_nil)))) (psa_cons (pse1 (pd_call (ok__law_pairs T) hr (by decide) rfl (pad_cons (pd_var 4) (pad_cons pd_int pad_nil)))) psa_nil)) rfl) (pssd_one (psd_if (ptd_cmp op_nisA do_nis (pd_var 6) pd_non (nobehind _ (by decide) (by decide))) (pssd_cons (psd_par2 (i := 7) (j := 8) rfl nd_law rfl rfl (by decide) rfl rfl (by decide) (by decide) (psa_cons (pse1 (pd_call (ok_judge_both T) hr (by decide) rfl (pad_cons (pd_ix (pd_var 5) pd_int) (pad_cons (pd_ix (pd_var 5) pd_int) pad_nil)))) (psa_cons (pse1 (pd_callB (cr_all rfl) dc_all rfl T.f_all bb_all (pad_cons (pd_lc (own := [("_law_pair", 9)]) (is := [9]) rfl nd_law (pid_val (pd_var 6)) (blkOk_by (by kernel_rfl)) (by decide) (fun _ _ _ _ _ => (pgd_name 9 nd_law)) (fun _ _ _ _ _ => ptsd_nil) (fun _ _ _ _ _ => (pd_call (ok__law_is_one T) hr (by decide) rfl (pad_cons (pd_var 4) (pad_cons (pd_var 9) pad_nil))))) pad_nil))) psa_nil)) rfl) (pssd_cons (psd_if (ptd_pw (pwd_or (ptd_cmp (op_neA hr.units) do_ne (pd_call (ok_tell_alike T) hr (by decide) rfl (pad_cons (pd_ix (pd_var 5) pd_int) (pad_cons (pd_ix (pd_var 5) pd_int) pad_nil))) (pd_var 8) (nobehind _ (by decide) (by decide))) (pwd_or1 (ptd_cmp (op_neA hr.units) do_ne (pd_isSame T.cl rfl T.f_isinstance rfl T.mS (pd_var 7)) (pd_var 8) (nobehind _ (by decide) (by decide)))))) (pssd_one (psd_ret pd_bl)) pssd_nil) (pssd_one (psd_if (ptd_pw (pwd_or (ptd_cmp op_nisA do_nis (pd_shows T.cl (met_Same_shows T) (met_Parted_shows T) hr (by decide) (by decide) (pd_var 7) (pad_cons (pd_ix (pd_var 5) pd_int) (pad_cons (pd_ix (pd_var 5) pd_int) pad_nil))) pd_bl (nobehind _ (by decide) (by decide))) (pwd_or1 (ptd_not (ptd_val (pd_call (ok__law_papers_right T) hr (by decide) rfl (pad_cons (pd_var 1) (pad_cons (pd_var 4) (pad_cons (pd_var 5) (pad_cons (pd_var 6) (pad_cons (pd_var 7) pad_nil))))))))))) (pssd_one (psd_ret pd_bl)) pssd_nil)))) pssd_nil)))))) (pssd_one (psd_ret pd_bl)))
theorem sc_law : FnScope N_law ["_law_script"] (C8.fnScope (top 76)) := C8.fnScope_by (by decide +kernel)
end Rr
/-! registerrooms: law, by the plain law of its mirror. -/
namespace Rr
open PySem PySem.Spec PyProof.Rows L2
variable {P : Program} {w : World} {K : PySem.W.Frag} {mg : Str → Option Value} {base : Heap} {cs : Cs} {cB aZ : Addr}
/-- what is left: the plain law -/
def LawOk : Prop := (b_law [none, some .drw, none, none, none, none, none, none, none, none]).run fun o => match o with
  | .rt d => d = .bl true
  | .nx _ => False
def spLaw (K : PySem.W.Frag) : Sp := fun vs H Q _ => ∃ (a : Addr) (ns : List Int), vs = [.ref a] ∧ ns.length ≤ 63 ∧ SqL K H a (ns.map V.int) ∧ ∀ H', Q (.bl true) H'
theorem ok_law (L : LawOk) (T : Txt P w K mg cs cB aZ) {f : Addr} {fd : FuncData} (Fn : FunD K "law" "law" (C8.fnArgs (top 76)) (C8.fnBody (top 76)) (C8.fnScope (top 76)) [] [] f fd) : FnOk P w K mg base C8.CX0 12 f fd ["_law_script"] (spLaw K) := by
  refine C8.fn0 (FunD.fn Fn) sc_law (fun vs H Q E ⟨a, ns, e, _⟩ => by rw [e]; rfl) fun cdv A outer s H vs Q E hr ⟨a, ns, e, hl, hs, hQ⟩ => ?_
  subst e
  refine ⟨_, pss_cons (ps_set (i := 1) nd_law rfl (.inl rfl) (pe_lst (pa_cons (pe_slice sl_list (pe_var (i := 0) rfl (.inl rfl)) po_none (po_some pe_int)) (pa_cons pe_int (pa_cons pe_int pa_nil))))) (bd_law T base f cdv A outer s H E hr), ?_⟩
  refine ⟨_, rfl, 63, rfl, a, _, rfl, hs, fun z nz => ⟨Nat.le_of_ble_eq_true rfl, fun dr nd => ?_⟩⟩
  have hc : cutV (ns.map V.int) none (some 63) = ((ns.drop (HT.sIx ns.length 0 none)).take (HT.sIx ns.length ns.length (some 63) - HT.sIx ns.length 0 none)).map V.int := by
    unfold cutV
    rw [List.length_map, List.map_take, List.map_drop]
  rw [hc]
  rw [hc] at nd
  generalize hm : (ns.drop (HT.sIx ns.length 0 none)).take (HT.sIx ns.length ns.length (some 63) - HT.sIx ns.length 0 none) = ms at nd ⊢
  have lm : ms.length ≤ 63 := by
    rw [← hm]
    have h1 := List.length_take_le (HT.sIx ns.length ns.length (some 63) - HT.sIx ns.length 0 none) (ns.drop (HT.sIx ns.length 0 none))
    have h2 : (ns.drop (HT.sIx ns.length 0 none)).length ≤ ns.length := by
      rw [List.length_drop]
      omega
    have h3 : ((ns.drop (HT.sIx ns.length 0 none)).take (HT.sIx ns.length ns.length (some 63) - HT.sIx ns.length 0 none)).length ≤ (ns.drop (HT.sIx ns.length 0 none)).length := List.length_take_le' ..
    omega
  have zd : z ≠ dr := fun e => by rw [← e, upd_same] at nd; cases nd
  have b : Base dr (upd (fun _ => none) z (.lst (ms.map V.int))) (upd (upd H z (.lst (ms.map V.int))) dr (.lst [.ref z, .int 0, .int 0])) := by
    refine ⟨fun x o h => ?_, by rw [upd_ne (Ne.symm zd)], z, 0, ms, upd_same, Int.le_refl _, upd_same, lm⟩
    by_cases e : x = z
    · subst e
      rw [upd_same] at h
      rw [upd_ne zd, upd_same]
      exact h
    · rw [upd_ne e] at h
      cases h
  refine ⟨dr, _, _, _, [none, some .drw, none, none, none, none, none, none, none, none], ⟨b, Step.refl b, ⟨rfl, fun i d h => ?_⟩, fun i hi => by simp at hi, fun i hi => by simp at hi⟩, Wp.mono _ (fun o k => ?_) L⟩
  · match i, h with
    | 0, h => cases h
    | 1, h => cases h; exact ⟨_, rfl, .drw⟩
    | i + 2, h =>
      exfalso
      revert h
      show ([none, none, none, none, none, none, none, none] : List (Option D))[i]? = _ → _
      intro h
      have := List.mem_of_getElem? h
      simp at this
  · cases o with
    | nx ρ => exact k.elim
    | rt d =>
      intro v H' G' st r
      subst k
      cases r
      exact hQ H'
end Rr
set_option maxHeartbeats 0
/-! registerrooms: what the head says of the text; the table out of it. -/
namespace Rr
open PySem PySem.Spec PyProof.Rows L2
def dd_is_integer : He.DefD := ⟨("is_integer", none), "is_integer", "is_integer", C8.fnArgs (top 14), C8.fnBody (top 14), C8.fnScope (top 14), [], []⟩
def dd_is_row : He.DefD := ⟨("is_row", none), "is_row", "is_row", C8.fnArgs (top 15), C8.fnBody (top 15), C8.fnScope (top 15), [], []⟩
def dd_is_end : He.DefD := ⟨("is_end", none), "is_end", "is_end", C8.fnArgs (top 16), C8.fnBody (top 16), C8.fnScope (top 16), [], []⟩
def dd_targets_of : He.DefD := ⟨("targets_of", none), "targets_of", "targets_of", C8.fnArgs (top 17), C8.fnBody (top 17), C8.fnScope (top 17), [], []⟩
def dd_are_reached : He.DefD := ⟨("are_reached", none), "are_reached", "are_reached", C8.fnArgs (top 18), C8.fnBody (top 18), C8.fnScope (top 18), [], []⟩
def dd_is_plain_block : He.DefD := ⟨("is_plain_block", none), "is_plain_block", "is_plain_block", C8.fnArgs (top 20), C8.fnBody (top 20), C8.fnScope (top 20), [], []⟩
def dd_check_graph : He.DefD := ⟨("check_graph", none), "check_graph", "check_graph", C8.fnArgs (top 23), C8.fnBody (top 23), C8.fnScope (top 23), [], []⟩
def dd_hands_of : He.DefD := ⟨("hands_of", none), "hands_of", "hands_of", C8.fnArgs (top 25), C8.fnBody (top 25), C8.fnScope (top 25), [], []⟩
def dd_are_handed : He.DefD := ⟨("are_handed", none), "are_handed", "are_handed", C8.fnArgs (top 26), C8.fnBody (top 26), C8.fnScope (top 26), [], []⟩
def dd_start_of : He.DefD := ⟨("start_of", none), "start_of", "start_of", C8.fnArgs (top 27), C8.fnBody (top 27), C8.fnScope (top 27), [], []⟩
def dd_what_is_next : He.DefD := ⟨("what_is_next", none), "what_is_next", "what_is_next", C8.fnArgs (top 28), C8.fnBody (top 28), C8.fnScope (top 28), [], []⟩
def dd_takes_next : He.DefD := ⟨("takes_next", none), "takes_next", "takes_next", C8.fnArgs (top 29), C8.fnBody (top 29), C8.fnScope (top 29), [], []⟩
def dd_value_of : He.DefD := ⟨("value_of", none), "value_of", "value_of", C8.fnArgs (top 30), C8.fnBody (top 30), C8.fnScope (top 30), [], []⟩
def dd_with_number : He.DefD := ⟨("with_number", none), "with_number", "with_number", C8.fnArgs (top 31), C8.fnBody (top 31), C8.fnScope (top 31), [], []⟩
def dd_steps_from : He.DefD := ⟨("steps_from", none), "steps_from", "steps_from", C8.fnArgs (top 33), C8.fnBody (top 33), C8.fnScope (top 33), [], []⟩
def dd_is_step : He.DefD := ⟨("is_step", none), "is_step", "is_step", C8.fnArgs (top 34), C8.fnBody (top 34), C8.fnScope (top 34), [], []⟩
def dd_check_both : He.DefD := ⟨("check_both", none), "check_both", "check_both", C8.fnArgs (top 37), C8.fnBody (top 37), C8.fnScope (top 37), [], []⟩
def dd_settled : He.DefD := ⟨("settled", none), "settled", "settled", C8.fnArgs (top 38), C8.fnBody (top 38), C8.fnScope (top 38), [], []⟩
def dd_event_at : He.DefD := ⟨("event_at", none), "event_at", "event_at", C8.fnArgs (top 39), C8.fnBody (top 39), C8.fnScope (top 39), [], []⟩
def dd_follow : He.DefD := ⟨("follow", none), "follow", "follow", C8.fnArgs (top 40), C8.fnBody (top 40), C8.fnScope (top 40), [], []⟩
def dd_are_one : He.DefD := ⟨("are_one", none), "are_one", "are_one", C8.fnArgs (top 41), C8.fnBody (top 41), C8.fnScope (top 41), [], []⟩
def dd_lates_of : He.DefD := ⟨("lates_of", none), "lates_of", "lates_of", C8.fnArgs (top 42), C8.fnBody (top 42), C8.fnScope (top 42), [], []⟩
def dd_starts_of : He.DefD := ⟨("starts_of", none), "starts_of", "starts_of", C8.fnArgs (top 43), C8.fnBody (top 43), C8.fnScope (top 43), [], []⟩
def dd_is_settled_in : He.DefD := ⟨("is_settled_in", none), "is_settled_in", "is_settled_in", C8.fnArgs (top 44), C8.fnBody (top 44), C8.fnScope (top 44), [], []⟩
def dd_start_pairs : He.DefD := ⟨("start_pairs", none), "start_pairs", "start_pairs", C8.fnArgs (top 47), C8.fnBody (top 47), C8.fnScope (top 47), [], []⟩
def dd_judge_both : He.DefD := ⟨("judge_both", none), "judge_both", "judge_both", C8.fnArgs (top 48), C8.fnBody (top 48), C8.fnScope (top 48), [], []⟩
def dd_tell_alike : He.DefD := ⟨("tell_alike", none), "tell_alike", "tell_alike", C8.fnArgs (top 49), C8.fnBody (top 49), C8.fnScope (top 49), [], []⟩
def dd__law_cell_at : He.DefD := ⟨("_law_cell_at", none), "_law_cell_at", "_law_cell_at", C8.fnArgs (top 51), C8.fnBody (top 51), C8.fnScope (top 51), [], []⟩
def dd__law_draw : He.DefD := ⟨("_law_draw", none), "_law_draw", "_law_draw", C8.fnArgs (top 52), C8.fnBody (top 52), C8.fnScope (top 52), [], []⟩
def dd__law_number : He.DefD := ⟨("_law_number", none), "_law_number", "_law_number", C8.fnArgs (top 53), C8.fnBody (top 53), C8.fnScope (top 53), [], []⟩
def dd__law_next : He.DefD := ⟨("_law_next", none), "_law_next", "_law_next", C8.fnArgs (top 54), C8.fnBody (top 54), C8.fnScope (top 54), [], []⟩
def dd__law_pick : He.DefD := ⟨("_law_pick", none), "_law_pick", "_law_pick", C8.fnArgs (top 55), C8.fnBody (top 55), C8.fnScope (top 55), [], []⟩
def dd__law_row : He.DefD := ⟨("_law_row", none), "_law_row", "_law_row", C8.fnArgs (top 56), C8.fnBody (top 56), C8.fnScope (top 56), [], []⟩
def dd__law_outs : He.DefD := ⟨("_law_outs", none), "_law_outs", "_law_outs", C8.fnArgs (top 57), C8.fnBody (top 57), C8.fnScope (top 57), [], []⟩
def dd__law_end : He.DefD := ⟨("_law_end", none), "_law_end", "_law_end", C8.fnArgs (top 58), C8.fnBody (top 58), C8.fnScope (top 58), [], []⟩
def dd__law_plain : He.DefD := ⟨("_law_plain", none), "_law_plain", "_law_plain", C8.fnArgs (top 59), C8.fnBody (top 59), C8.fnScope (top 59), [], []⟩
def dd__law_made : He.DefD := ⟨("_law_made", none), "_law_made", "_law_made", C8.fnArgs (top 60), C8.fnBody (top 60), C8.fnScope (top 60), [], []⟩
def dd__law_hands : He.DefD := ⟨("_law_hands", none), "_law_hands", "_law_hands", C8.fnArgs (top 61), C8.fnBody (top 61), C8.fnScope (top 61), [], []⟩
def dd__law_first : He.DefD := ⟨("_law_first", none), "_law_first", "_law_first", C8.fnArgs (top 62), C8.fnBody (top 62), C8.fnScope (top 62), [], []⟩
def dd__law_coming : He.DefD := ⟨("_law_coming", none), "_law_coming", "_law_coming", C8.fnArgs (top 63), C8.fnBody (top 63), C8.fnScope (top 63), [], []⟩
def dd__law_options : He.DefD := ⟨("_law_options", none), "_law_options", "_law_options", C8.fnArgs (top 64), C8.fnBody (top 64), C8.fnScope (top 64), [], []⟩
def dd__law_after : He.DefD := ⟨("_law_after", none), "_law_after", "_law_after", C8.fnArgs (top 65), C8.fnBody (top 65), C8.fnScope (top 65), [], []⟩
def dd__law_settled : He.DefD := ⟨("_law_settled", none), "_law_settled", "_law_settled", C8.fnArgs (top 66), C8.fnBody (top 66), C8.fnScope (top 66), [], []⟩
def dd__law_event : He.DefD := ⟨("_law_event", none), "_law_event", "_law_event", C8.fnArgs (top 67), C8.fnBody (top 67), C8.fnScope (top 67), [], []⟩
def dd__law_lates : He.DefD := ⟨("_law_lates", none), "_law_lates", "_law_lates", C8.fnArgs (top 68), C8.fnBody (top 68), C8.fnScope (top 68), [], []⟩
def dd__law_starts : He.DefD := ⟨("_law_starts", none), "_law_starts", "_law_starts", C8.fnArgs (top 69), C8.fnBody (top 69), C8.fnScope (top 69), [], []⟩
def dd__law_is_one : He.DefD := ⟨("_law_is_one", none), "_law_is_one", "_law_is_one", C8.fnArgs (top 70), C8.fnBody (top 70), C8.fnScope (top 70), [], []⟩
def dd__law_pairs : He.DefD := ⟨("_law_pairs", none), "_law_pairs", "_law_pairs", C8.fnArgs (top 71), C8.fnBody (top 71), C8.fnScope (top 71), [], []⟩
def dd__law_is_same : He.DefD := ⟨("_law_is_same", none), "_law_is_same", "_law_is_same", C8.fnArgs (top 72), C8.fnBody (top 72), C8.fnScope (top 72), [], []⟩
def dd__law_is_parted : He.DefD := ⟨("_law_is_parted", none), "_law_is_parted", "_law_is_parted", C8.fnArgs (top 73), C8.fnBody (top 73), C8.fnScope (top 73), [], []⟩
def dd__law_other : He.DefD := ⟨("_law_other", none), "_law_other", "_law_other", C8.fnArgs (top 74), C8.fnBody (top 74), C8.fnScope (top 74), [], []⟩
def dd__law_papers_right : He.DefD := ⟨("_law_papers_right", none), "_law_papers_right", "_law_papers_right", C8.fnArgs (top 75), C8.fnBody (top 75), C8.fnScope (top 75), [], []⟩
def dd_stepped : He.DefD := ⟨("stepped", none), "stepped", "stepped", C8.fnArgs (top 32), C8.fnBody (top 32), C8.fnScope (top 32), [.non], []⟩
def dd_law : He.DefD := ⟨("law", none), "law", "law", C8.fnArgs (top 76), C8.fnBody (top 76), C8.fnScope (top 76), [], []⟩
def dm_Program_rows : He.DefD := ⟨("Program", some "rows"), "rows", "Blocks.rows", C8.fnArgs (mem 19 5), C8.fnBody (mem 19 5), C8.fnScope (mem 19 5), [], []⟩
def dm_Program_end : He.DefD := ⟨("Program", some "end"), "end", "Blocks.end", C8.fnArgs (mem 19 6), C8.fnBody (mem 19 6), C8.fnScope (mem 19 6), [], []⟩
def dm_Program_first_numbers : He.DefD := ⟨("Program", some "first_numbers"), "first_numbers", "Program.first_numbers", C8.fnArgs (mem 21 5), C8.fnBody (mem 21 5), C8.fnScope (mem 21 5), [], []⟩
def dm_Program_entered : He.DefD := ⟨("Program", some "entered"), "entered", "Program.entered", C8.fnArgs (mem 21 6), C8.fnBody (mem 21 6), C8.fnScope (mem 21 6), [], []⟩
def dm_Program_getitem : He.DefD := ⟨("Program", some "__getitem__"), "__getitem__", "Blocks.__getitem__", C8.fnArgs (mem 19 3), C8.fnBody (mem 19 3), C8.fnScope (mem 19 3), [], []⟩
def dm_Same_shows : He.DefD := ⟨("Same", some "shows"), "shows", "Same.shows", C8.fnArgs (mem 45 3), C8.fnBody (mem 45 3), C8.fnScope (mem 45 3), [], []⟩
def dm_Same_init : He.DefD := ⟨("Same", some "__init__"), "__init__", "Same.__init__", C8.fnArgs (mem 45 0), C8.fnBody (mem 45 0), C8.fnScope (mem 45 0), [], []⟩
def dm_Parted_shows : He.DefD := ⟨("Parted", some "shows"), "shows", "Parted.shows", C8.fnArgs (mem 46 2), C8.fnBody (mem 46 2), C8.fnScope (mem 46 2), [], []⟩
def dm_Parted_init : He.DefD := ⟨("Parted", some "__init__"), "__init__", "Parted.__init__", C8.fnArgs (mem 46 0), C8.fnBody (mem 46 0), C8.fnScope (mem 46 0), [], []⟩
def dm_Same_iter : He.DefD := ⟨("Same", some "__iter__"), "__iter__", "Same.__iter__", C8.fnArgs (mem 45 1), C8.fnBody (mem 45 1), C8.fnScope (mem 45 1), [], []⟩
def dm_Blocks_init : He.DefD := ⟨("Blocks", some "__init__"), "__init__", "Blocks.__init__", C8.fnArgs (mem 19 1), C8.fnBody (mem 19 1), C8.fnScope (mem 19 1), [], []⟩
def hfn0 : List He.DefD := [dd_is_integer, dd_is_row, dd_is_end, dd_targets_of, dd_are_reached, dd_is_plain_block, dd_check_graph, dd_hands_of]
def hfn1 : List He.DefD := [dd_are_handed, dd_start_of, dd_what_is_next, dd_takes_next, dd_value_of, dd_with_number, dd_steps_from, dd_is_step]
def hfn2 : List He.DefD := [dd_check_both, dd_settled, dd_event_at, dd_follow, dd_are_one, dd_lates_of, dd_starts_of, dd_is_settled_in]
def hfn3 : List He.DefD := [dd_start_pairs, dd_judge_both, dd_tell_alike, dd__law_cell_at, dd__law_draw, dd__law_number, dd__law_next, dd__law_pick]
def hfn4 : List He.DefD := [dd__law_row, dd__law_outs, dd__law_end, dd__law_plain, dd__law_made, dd__law_hands, dd__law_first, dd__law_coming]
def hfn5 : List He.DefD := [dd__law_options, dd__law_after, dd__law_settled, dd__law_event, dd__law_lates, dd__law_starts, dd__law_is_one, dd__law_pairs]
def hfn6 : List He.DefD := [dd__law_is_same, dd__law_is_parted, dd__law_other, dd__law_papers_right, dd_stepped, dd_law, dm_Program_rows, dm_Program_end]
def hfn7 : List He.DefD := [dm_Program_first_numbers, dm_Program_entered, dm_Program_getitem, dm_Same_shows, dm_Same_init, dm_Parted_shows, dm_Parted_init, dm_Same_iter]
def hfn8 : List He.DefD := [dm_Blocks_init]
def hfn : List He.DefD := (List.append hfn0 (List.append hfn1 (List.append hfn2 (List.append hfn3 (List.append hfn4 (List.append hfn5 (List.append hfn6 (List.append hfn7 hfn8))))))))
def hfa0 : List He.Fa := [.glo "is_integer", .glo "is_row", .glo "is_end", .glo "targets_of", .glo "are_reached", .glo "is_plain_block", .glo "check_graph", .glo "hands_of"]
def hfa1 : List He.Fa := [.glo "are_handed", .glo "start_of", .glo "what_is_next", .glo "takes_next", .glo "value_of", .glo "with_number", .glo "steps_from", .glo "is_step"]
def hfa2 : List He.Fa := [.glo "check_both", .glo "settled", .glo "event_at", .glo "follow", .glo "are_one", .glo "lates_of", .glo "starts_of", .glo "is_settled_in"]
def hfa3 : List He.Fa := [.glo "start_pairs", .glo "judge_both", .glo "tell_alike", .glo "_law_cell_at", .glo "_law_draw", .glo "_law_number", .glo "_law_next", .glo "_law_pick"]
def hfa4 : List He.Fa := [.glo "_law_row", .glo "_law_outs", .glo "_law_end", .glo "_law_plain", .glo "_law_made", .glo "_law_hands", .glo "_law_first", .glo "_law_coming"]
def hfa5 : List He.Fa := [.glo "_law_options", .glo "_law_after", .glo "_law_settled", .glo "_law_event", .glo "_law_lates", .glo "_law_starts", .glo "_law_is_one", .glo "_law_pairs"]
def hfa6 : List He.Fa := [.glo "_law_is_same", .glo "_law_is_parted", .glo "_law_other", .glo "_law_papers_right", .glo "stepped", .glo "law", .glo "Blocks", .glo "Program"]
def hfa7 : List He.Fa := [.glo "Same", .glo "Parted", .glo "SIZES", .free "isinstance", .free "int", .free "bool", .free "str", .free "tuple"]
def hfa8 : List He.Fa := [.free "list", .free "dict", .free "len", .free "range", .free "all", .free "any", .free "max", .free "min"]
def hfa9 : List He.Fa := [.free "enumerate", .free "iter", .free "super", .int "MOST_VARIABLES" 8, .int "MOST_BLOCKS" 16, .int "MOST_ROWS" 12, .int "MOST_SPAN" 8, .int "MOST_HANDED" 3]
def hfa10 : List He.Fa := [.int "MOST_PAIRS" 3000, .meth "Program" "rows", .meth "Program" "end", .meth "Program" "first_numbers", .meth "Program" "entered", .meth "Program" "__getitem__", .meth "Same" "shows", .meth "Same" "__init__"]
def hfa11 : List He.Fa := [.meth "Parted" "shows", .meth "Parted" "__init__", .meth "Same" "__iter__", .meth "Blocks" "__init__", .mkr "Same", .mkr "Parted", .mkr "Program", .cls "Same"]
def hfa12 : List He.Fa := [.cls "Parted", .noat "Same" "pairs", .noat "Parted" "handed", .noat "Parted" "inputs", .noat "Same" "__len__", .noat "Same" "__length_hint__"]
def hfa : List He.Fa := (List.append hfa0 (List.append hfa1 (List.append hfa2 (List.append hfa3 (List.append hfa4 (List.append hfa5 (List.append hfa6 (List.append hfa7 (List.append hfa8 (List.append hfa9 (List.append hfa10 (List.append hfa11 hfa12))))))))))))
abbrev hB (K : PySem.W.Frag) : Addr := He.ga K "Blocks"
abbrev hP (K : PySem.W.Frag) : Addr := He.ga K "Program"
abbrev hS (K : PySem.W.Frag) : Addr := He.ga K "Same"
abbrev hT (K : PySem.W.Frag) : Addr := He.ga K "Parted"
abbrev hI (K : PySem.W.Frag) : Addr := He.ma K (hP K) "__init__"
abbrev hI2 (K : PySem.W.Frag) : Addr := He.ma K (hB K) "__init__"
/-- a slot of Program -/
def slotB (K : PySem.W.Frag) (f : Str) (i : Nat) : Bool := He.eqO (PySem.W.findIn K (.ref (hP K)) f) (some (some (.ref (He.ma K (hP K) f)))) && (He.eqO (PySem.W.specialIn K (.ref (He.ma K (hP K) f)) "__get__") (some (some (.builtin "member_descriptor.__get__"))) &&
  (decide (PySem.W.takesIn K (.ref (He.ma K (hP K) f)) = some true) && (decide (PySem.W.typeIn K (.ref (He.ma K (hP K) f)) = some (.type "member_descriptor")) && decide (PySem.W.slotIn K (He.ma K (hP K) f) (hP K) = some i))))
theorem slotB_ok {K : PySem.W.Frag} {f : Str} {i : Nat} (hi : i < 1000) (h : slotB K f i = true) : ∃ p, SlX.Slot1 K (hP K) f p i := by
  obtain ⟨h1, h⟩ := He.ba h
  obtain ⟨h2, h⟩ := He.ba h
  obtain ⟨h3, h⟩ := He.ba h
  obtain ⟨h4, h5⟩ := He.ba h
  exact ⟨_, He.eqO_ok h1, He.eqO_ok h2, of_decide_eq_true h3, of_decide_eq_true h4, of_decide_eq_true h5, hi⟩
def slotsB (K : PySem.W.Frag) : Bool := slotB K "blocks" 3 && (slotB K "many" 1 && (slotB K "handed" 0 && slotB K "span" 2))
def prgB (K : PySem.W.Frag) : Bool := PySem.W.plainGet K (hP K) Str.empty && (PySem.W.isClsIn K (hP K) && (PySem.W.plainOver K (hP K) && He.eqO (PySem.W.findIn K (.ref (hP K)) "__setattr__") (some (some (.builtin "object.__setattr__")))))
def objB (K : PySem.W.Frag) (C : Addr) : Bool := He.eqO (PySem.W.findIn K (.ref C) "__class__") (some (some (.builtin "object.__class__"))) && decide (PySem.W.mroIn K C (.type "object") = some true)
def getB (K : PySem.W.Frag) : Bool := He.eqO (PySem.W.specialIn K (.builtin "object.__class__") "__get__") (some (some (.builtin "getset_descriptor.__get__"))) && decide (PySem.W.takesIn K (.builtin "object.__class__") = some true)
def kitB (K : PySem.W.Frag) : Bool := decide (PySem.W.kitOne K (.ref (hP K)) (.ref (hB K)) = some true) && (decide (PySem.W.kitOne K (.ref (hS K)) (.ref (hS K)) = some true) && (decide (PySem.W.kitOne K (.ref (hS K)) (.ref (hT K)) = some false) &&
  (decide (PySem.W.kitOne K (.ref (hT K)) (.ref (hS K)) = some false) && decide (PySem.W.kitOne K (.ref (hT K)) (.ref (hT K)) = some true))))
def codeB (P : Program) (K : PySem.W.Frag) (cda : Addr) : Bool := match K.lookup cda with
  | some ⟨_, _, .fields vs, _⟩ => (match vs[2]? with
    | some (Value.str file _) => (P.main.file : Str) == file
    | _ => false)
  | _ => false
def cellB (K : PySem.W.Frag) (cc : Addr) : Bool := match K.lookup cc with
  | some ⟨_, _, .cell (some (.ref D)), _⟩ => decide (D = hP K)
  | _ => false
def closB (K : PySem.W.Frag) : List (Str × Addr) → Bool
  | [(_, cc)] => cellB K cc
  | _ => false
def codesB (P : Program) (K : PySem.W.Frag) : Value → Bool
  | .ref cda => PySem.W.codeIn K (.ref cda) "Program.__init__" && codeB P K cda
  | _ => false
def fdB (P : Program) (K : PySem.W.Frag) (fd : FuncData) : Bool := decide (fd.defaults = .none) && (closB K fd.closure && codesB P K fd.code)
def initB (P : Program) (K : PySem.W.Frag) : Bool := match K.lookup (hI K) with
  | some ⟨_, _, .func fd, _⟩ => fdB P K fd
  | _ => false
def supB (K : PySem.W.Frag) : Bool := decide (PySem.W.mroIn K (hP K) (.ref (hP K)) = some true) && (He.eqO (PySem.W.nsIn K cStatics "thirdparty.any") (some none) && (He.eqO (PySem.W.ks_superIn K (hP K) (hP K) "__init__") (some (some (.ref (hI2 K)))) &&
  (decide (PySem.W.typeIn K (.ref (hI2 K)) = some (.type "function")) && PySem.W.fnIn K (hI2 K))))
abbrev InV : Type := Option (Str × Str × Arguments × FuncBody × Scope × Addr × List Str × Addr)
def obsI (K : PySem.W.Frag) : InV := match K.lookup (hI K) with
  | some ⟨_, _, .func fd, _⟩ => some (fd.name, fd.qualname, fd.params, fd.body, fd.scope, fd.globals, fd.closure.map (·.1), fd.builtins)
  | _ => none
def valI : InV := some ("__init__", "Program.__init__", C8.fnArgs (mem 21 1), .stmts (C8.fnBody (mem 21 1)), C8.fnScope (mem 21 1), mainGlobals, ["__class__"], builtinsNs)
def szK : List Str := ["put", "move", "add", "sub", "less", "take", "tell"]
def szV : List (Str × He.Dv) := [("put", .int 3), ("move", .int 3), ("add", .int 4), ("sub", .int 4), ("less", .int 4), ("take", .int 2), ("tell", .int 2)]
def hts : List He.Tab := [((fun K => He.ga K "SIZES"), szK)]
abbrev lawP : Program := PySem.Challenge.pw_registerrooms_k06_whole_alike
def exB (K : PySem.W.Frag) : Bool := slotsB K && (prgB K && (objB K (hP K) && (objB K (hS K) && (objB K (hT K) && (getB K && (kitB K && (initB lawP K && (supB K && He.valsB K (He.ga K "SIZES") szV))))))))
def refsR (o : Obj) : List Addr := match o.data with
  | .dict es _ => es.toList.flatMap fun e => He.refV e.val
  | .func fd => He.refV fd.code ++ (He.refV fd.defaults ++ fd.closure.map (·.2))
  | .cls cd => [cd.ns]
  | _ => []
def growR (g : Addr → Option Obj) (as : List Addr) : List Addr := as.flatMap fun a => match g a with
  | some o => refsR o
  | none => []
/-- what the module's names reach, step by step -/
def reachR (g : Addr → Option Obj) : Nat → List Addr → List Addr
  | 0, as => as
  | n + 1, as => as ++ reachR g n (growR g as)
def hK (g : Addr → Option Obj) : PySem.W.Frag := He.frG g (reachR g 4 [mainGlobals] ++ [cStatics])
abbrev AlR : Type := He.AlT × (InV × Bool)
def obsR (K : PySem.W.Frag) : AlR := (He.obsT hfa hfn hts K, obsI K, exB K)
def valR (w : World) : AlR := (He.valT hfn hts w, valI, true)
def SaysR (w : World) (K : PySem.W.Frag) : Prop := He.SaysT hfa hfn hts w K ∧ obsI K = valI ∧ exB K = true
theorem three_eq {α β γ : Type} {a a' : α} {b b' : β} {c c' : γ} (e : (a, b, c) = (a', b', c')) : a = a' ∧ b = b' ∧ c = c' := by
  injection e with e1 e2
  injection e2 with e2 e3
  exact ⟨e1, e2, e3⟩
theorem saysR_of {w : World} {K : PySem.W.Frag} (e : obsR K = valR w) : SaysR w K := by
  unfold obsR valR at e
  exact three_eq e
theorem saysR_in {w : World} {h : Heap} (e : obsR (hK h.get?) = valR w) : ∃ K : PySem.W.Frag, K.In h ∧ SaysR w K := ⟨hK h.get?, He.frG_in, saysR_of e⟩
def hookR : PySem.W.Hook where
  α := AlR
  obs := fun s => obsR (hK s.heap.get?)
  val := valR
  says := fun w h => ∃ K : PySem.W.Frag, K.In h ∧ SaysR w K
  of := fun _ _ e => saysR_in e
  keeps := fun _ _ _ ⟨K, hK, c⟩ k => ⟨K, PySem.W.Frag.In.keeps hK k, c⟩
end Rr
namespace Rr
open PySem PySem.Spec PyProof.Rows L2
section
variable {K : PySem.W.Frag} {w : World}
theorem ex_split (h : exB K = true) : slotsB K = true ∧ prgB K = true ∧ objB K (hP K) = true ∧ objB K (hS K) = true ∧ objB K (hT K) = true ∧ getB K = true ∧ kitB K = true ∧ initB lawP K = true ∧ supB K = true ∧ He.valsB K (He.ga K "SIZES") szV = true := by
  unfold exB at h
  obtain ⟨h1, h⟩ := He.ba h
  obtain ⟨h2, h⟩ := He.ba h
  obtain ⟨h3, h⟩ := He.ba h
  obtain ⟨h4, h⟩ := He.ba h
  obtain ⟨h5, h⟩ := He.ba h
  obtain ⟨h6, h⟩ := He.ba h
  obtain ⟨h7, h⟩ := He.ba h
  obtain ⟨h8, h⟩ := He.ba h
  obtain ⟨h9, h⟩ := He.ba h
  exact ⟨h1, h2, h3, h4, h5, h6, h7, h8, h9, h⟩
theorem objB_ok {C : Addr} (h : objB K C = true) : PySem.W.findIn K (.ref C) "__class__" = some (some (.builtin "object.__class__")) ∧ PySem.W.mroIn K C (.type "object") = some true := by
  obtain ⟨h1, h2⟩ := He.ba h
  exact ⟨He.eqO_ok h1, of_decide_eq_true h2⟩
theorem getB_ok (h : getB K = true) : PySem.W.specialIn K (.builtin "object.__class__") "__get__" = some (some (.builtin "getset_descriptor.__get__")) ∧ PySem.W.takesIn K (.builtin "object.__class__") = some true := by
  obtain ⟨h1, h2⟩ := He.ba h
  exact ⟨He.eqO_ok h1, of_decide_eq_true h2⟩
theorem prgB_ok (h : prgB K = true) : SlX.SCls K (hP K) ∧ PySem.W.isClsIn K (hP K) = true := by
  obtain ⟨h1, h⟩ := He.ba h
  obtain ⟨h2, h⟩ := He.ba h
  obtain ⟨h3, h4⟩ := He.ba h
  exact ⟨⟨h1, h2, h3, He.eqO_ok h4⟩, h2⟩
theorem kitB_ok (h : kitB K = true) : PySem.W.kitOne K (.ref (hP K)) (.ref (hB K)) = some true ∧ PySem.W.kitOne K (.ref (hS K)) (.ref (hS K)) = some true ∧ PySem.W.kitOne K (.ref (hS K)) (.ref (hT K)) = some false ∧ PySem.W.kitOne K (.ref (hT K)) (.ref (hS K)) = some false ∧ PySem.W.kitOne K (.ref (hT K)) (.ref (hT K)) = some true := by
  obtain ⟨h1, h⟩ := He.ba h
  obtain ⟨h2, h⟩ := He.ba h
  obtain ⟨h3, h⟩ := He.ba h
  obtain ⟨h4, h5⟩ := He.ba h
  exact ⟨of_decide_eq_true h1, of_decide_eq_true h2, of_decide_eq_true h3, of_decide_eq_true h4, of_decide_eq_true h5⟩
theorem slotsB_ok (h : slotsB K = true) : (∃ p, SlX.Slot1 K (hP K) "blocks" p 3) ∧ (∃ p, SlX.Slot1 K (hP K) "many" p 1) ∧ (∃ p, SlX.Slot1 K (hP K) "handed" p 0) ∧ ∃ p, SlX.Slot1 K (hP K) "span" p 2 := by
  obtain ⟨h1, h⟩ := He.ba h
  obtain ⟨h2, h⟩ := He.ba h
  obtain ⟨h3, h4⟩ := He.ba h
  exact ⟨slotB_ok (by decide) h1, slotB_ok (by decide) h2, slotB_ok (by decide) h3, slotB_ok (by decide) h4⟩
abbrev hCs (K : PySem.W.Frag) : Cs := ⟨hP K, hS K, hT K⟩
theorem cls_of (c : SaysR w K) : ClsOk K (hCs K) (hB K) := by
  obtain ⟨h1, h2, h3, h4, h5, h6, h7, h8, h9, h0⟩ := ex_split c.2.2
  obtain ⟨s1, s2, s3, s4⟩ := slotsB_ok h1
  obtain ⟨o1, o2⟩ := objB_ok h3
  obtain ⟨o3, o4⟩ := objB_ok h4
  obtain ⟨o5, o6⟩ := objB_ok h5
  obtain ⟨g1, g2⟩ := getB_ok h6
  obtain ⟨k1, k2, k3, k4, k5⟩ := kitB_ok h7
  exact { sP := (prgB_ok h2).1, iP := ⟨o1, g1, g2, o2⟩, bl := s1, mn := s2, hn := s3, sn := s4, kPB := k1, S := He.cls_ok (c.1.d.fact 95 (f := He.Fa.cls "Same") rfl), nS := He.noat_ok (c.1.d.fact 97 (f := He.Fa.noat "Same" "pairs") rfl), aS := o3, mS := o4, T := He.cls_ok (c.1.d.fact 96 (f := He.Fa.cls "Parted") rfl), nT := He.noat_ok (c.1.d.fact 98 (f := He.Fa.noat "Parted" "handed") rfl), nI := He.noat_ok (c.1.d.fact 99 (f := He.Fa.noat "Parted" "inputs") rfl), aT := o5, mT := o6, cn := g1, ct := g2, kSS := k2, kST := k3, kTS := k4, kTT := k5 }
theorem siz1 (h0 : He.valsB K (He.ga K "SIZES") szV = true) {x : Str} {n : Int} (k : Nat) (e : szV[k]? = some (x, He.Dv.int n)) : ∃ t, PySem.W.nsIn K (He.ga K "SIZES") x = some (some (.int n t)) := by
  obtain ⟨u, hu, ru⟩ := He.valsB_ok h0 (List.mem_of_getElem? e)
  obtain ⟨t, rfl⟩ := (show ∃ t, u = .int n t from ru)
  exact ⟨t, hu⟩
theorem siz_of (c : SaysR w K) : SizOk K w (He.ga K "SIZES") := by
  have h0 := (ex_split c.2.2).2.2.2.2.2.2.2.2.2
  refine ⟨c.1.tab 0 (t := ((fun K => He.ga K "SIZES"), szK)) rfl, fun z n e => ?_⟩
  have hm := PySem.mem_of_lookup e
  simp only [List.mem_cons, Prod.mk.injEq, List.not_mem_nil, or_false] at hm
  rcases hm with ⟨rfl, rfl⟩ | ⟨rfl, rfl⟩ | ⟨rfl, rfl⟩ | ⟨rfl, rfl⟩ | ⟨rfl, rfl⟩ | ⟨rfl, rfl⟩ | ⟨rfl, rfl⟩
  · exact siz1 h0 0 rfl
  · exact siz1 h0 1 rfl
  · exact siz1 h0 2 rfl
  · exact siz1 h0 3 rfl
  · exact siz1 h0 4 rfl
  · exact siz1 h0 5 rfl
  · exact siz1 h0 6 rfl
theorem codeB_ok {cda : Addr} (h : codeB lawP K cda = true) : ∃ ccl cdd vs ccs file tf, K.lookup cda = some ⟨ccl, cdd, .fields vs, ccs⟩ ∧ vs[2]? = some (.str file tf) ∧ ((lawP.main.file : Str) == file) = true := by
  unfold codeB at h
  split at h
  · rename_i e
    split at h
    · rename_i e2
      exact ⟨_, _, _, _, _, _, e, e2, h⟩
    · cases h
  · cases h
theorem cellB_ok {cc : Addr} (h : cellB K cc = true) : ∃ cl cld csl, K.lookup cc = some ⟨cl, cld, .cell (some (.ref (hP K))), csl⟩ := by
  unfold cellB at h
  split at h
  · rename_i e
    rw [of_decide_eq_true h] at e
    exact ⟨_, _, _, e⟩
  · cases h
theorem prg_of (c : SaysR w K) : PrgOk K lawP (hCs K) := by
  obtain ⟨h1, h2, h3, h4, h5, h6, h7, h8, h9, h0⟩ := ex_split c.2.2
  obtain ⟨fdb, Fb⟩ := c.1.d.def_ 64 (d := dm_Blocks_init) rfl
  have M : Mk K (hP K) (hI K) := He.mkr_ok (c.1.d.fact 94 (f := He.Fa.mkr "Program") rfl)
  have hI := c.2.1
  unfold obsI valI at hI
  unfold initB at h8
  cases q : K.lookup (Rr.hI K) with
  | none => rw [q] at h8; cases h8
  | some o =>
    obtain ⟨oc, od, dt, osl⟩ := o
    rw [q] at h8 hI
    cases dt with
    | func fd =>
      obtain ⟨n1, n2, n3, n4, n5, n6, n7, n8, n9, n10, n11, n12, n13, n14, n15⟩ := fd
      have e2 : (some (n1, n2, n3, n4, n5, n6, n7.map (·.1), n15) : InV) = some (("__init__" : Str), ("Program.__init__" : Str), C8.fnArgs (mem 21 1), FuncBody.stmts (C8.fnBody (mem 21 1)), C8.fnScope (mem 21 1), mainGlobals, (["__class__"] : List Str), builtinsNs) := hI
      simp only [Option.some.injEq, Prod.mk.injEq] at e2
      obtain ⟨z1, z2, z3, z4, z5, z6, z7, z8⟩ := e2
      have h8 : (decide (n8 = .none) && (closB K n7 && codesB lawP K n13)) = true := h8
      obtain ⟨y1, h8⟩ := He.ba h8
      obtain ⟨y2, y3⟩ := He.ba h8
      have y1 := of_decide_eq_true y1
      subst z1 z2 z3 z4 z5 z6 z8 y1
      cases n13 with
      | ref cda =>
        obtain ⟨y3, y4⟩ := He.ba (show (PySem.W.codeIn K (.ref cda) "Program.__init__" && codeB lawP K cda) = true from y3)
        match n7, z7, y2 with
        | [(nm, cc)], z7, y2 =>
          have z7 : nm = ("__class__" : Str) := by simpa using z7
          subst z7
          obtain ⟨x1, h9⟩ := He.ba h9
          obtain ⟨x2, h9⟩ := He.ba h9
          obtain ⟨x3, h9⟩ := He.ba h9
          obtain ⟨x4, x5⟩ := He.ba h9
          refine ⟨Rr.hI K, hI2 K, cda, cc, n9, n10, n11, n14, n12, M, ⟨⟨_, _, _, q⟩, ⟨_, rfl, rfl⟩, codeB_ok y4, cellB_ok y2, Option.isSome_iff_exists.mp (prgB_ok h2).2, of_decide_eq_true x1, He.eqO_ok x2, He.eqO_ok x3, of_decide_eq_true x4, x5, by kernel_rfl⟩, y3, fdb, Fb⟩
      | _ => cases y3
    | _ => cases h8
end
end Rr
namespace Rr
open PySem PySem.Spec PyProof.Rows L2
theorem it_of {K : PySem.W.Frag} {w : World} (c : SaysR w K) : IterOk K (hCs K) (mem 45 1) := by
  have M := He.meth_ok (c.1.d.fact 90 (f := .meth "Same" "__iter__") rfl)
  obtain ⟨fd, F⟩ := c.1.d.def_ 63 (d := dm_Same_iter) rfl
  exact ⟨⟨_, fd, M.at_, M.fn, FunD.fn F, F.bindsN fun _ _ _ _ _ _ us hl => match us, hl with | [_], _ => rfl⟩, C8.fnScope_by (by decide +kernel), ⟨_, _, _, _, _, rfl⟩, fun _ _ _ => rfl, rfl, He.noat_ok (c.1.d.fact 100 (f := .noat "Same" "__len__") rfl), He.noat_ok (c.1.d.fact 101 (f := .noat "Same" "__length_hint__") rfl)⟩
noncomputable def txt_of {K : PySem.W.Frag} {w : World} {h : Heap} {mg : Str → Option Value} (X : K.In h) (G : h.Ns mainGlobals mg) (c : SaysR w K) : Txt lawP w K mg (hCs K) (hB K) (He.ga K "SIZES") where
  cl := cls_of c
  sz := siz_of c
  itS := it_of c
  in_Program := prg_of c
  mB := He.glo_ok X G (c.1.d.fact 54 (f := (He.Fa.glo "Blocks")) rfl)
  mP := He.glo_ok X G (c.1.d.fact 55 (f := (He.Fa.glo "Program")) rfl)
  mS := He.glo_ok X G (c.1.d.fact 56 (f := (He.Fa.glo "Same")) rfl)
  mT := He.glo_ok X G (c.1.d.fact 57 (f := (He.Fa.glo "Parted")) rfl)
  mZ := He.glo_ok X G (c.1.d.fact 58 (f := (He.Fa.glo "SIZES")) rfl)
  f_isinstance := He.free_ok X G (c.1.d.fact 59 (f := (He.Fa.free "isinstance")) rfl)
  f_int := He.free_ok X G (c.1.d.fact 60 (f := (He.Fa.free "int")) rfl)
  f_bool := He.free_ok X G (c.1.d.fact 61 (f := (He.Fa.free "bool")) rfl)
  f_str := He.free_ok X G (c.1.d.fact 62 (f := (He.Fa.free "str")) rfl)
  f_tuple := He.free_ok X G (c.1.d.fact 63 (f := (He.Fa.free "tuple")) rfl)
  f_list := He.free_ok X G (c.1.d.fact 64 (f := (He.Fa.free "list")) rfl)
  f_dict := He.free_ok X G (c.1.d.fact 65 (f := (He.Fa.free "dict")) rfl)
  f_len := He.free_ok X G (c.1.d.fact 66 (f := (He.Fa.free "len")) rfl)
  f_range := He.free_ok X G (c.1.d.fact 67 (f := (He.Fa.free "range")) rfl)
  f_all := He.free_ok X G (c.1.d.fact 68 (f := (He.Fa.free "all")) rfl)
  f_any := He.free_ok X G (c.1.d.fact 69 (f := (He.Fa.free "any")) rfl)
  f_max := He.free_ok X G (c.1.d.fact 70 (f := (He.Fa.free "max")) rfl)
  f_min := He.free_ok X G (c.1.d.fact 71 (f := (He.Fa.free "min")) rfl)
  f_enumerate := He.free_ok X G (c.1.d.fact 72 (f := (He.Fa.free "enumerate")) rfl)
  f_iter := He.free_ok X G (c.1.d.fact 73 (f := (He.Fa.free "iter")) rfl)
  f_super := He.free_ok X G (c.1.d.fact 74 (f := (He.Fa.free "super")) rfl)
  i_MOST_VARIABLES := He.int_ok X G (c.1.d.fact 75 (f := (He.Fa.int "MOST_VARIABLES" 8)) rfl)
  i_MOST_BLOCKS := He.int_ok X G (c.1.d.fact 76 (f := (He.Fa.int "MOST_BLOCKS" 16)) rfl)
  i_MOST_ROWS := He.int_ok X G (c.1.d.fact 77 (f := (He.Fa.int "MOST_ROWS" 12)) rfl)
  i_MOST_SPAN := He.int_ok X G (c.1.d.fact 78 (f := (He.Fa.int "MOST_SPAN" 8)) rfl)
  i_MOST_HANDED := He.int_ok X G (c.1.d.fact 79 (f := (He.Fa.int "MOST_HANDED" 3)) rfl)
  i_MOST_PAIRS := He.int_ok X G (c.1.d.fact 80 (f := (He.Fa.int "MOST_PAIRS" 3000)) rfl)
  d_is_integer := let ⟨fd, F⟩ := c.1.d.def_ 0 (d := dd_is_integer) rfl; ⟨_, fd, F, He.glo_ok X G (c.1.d.fact 0 (f := (He.Fa.glo "is_integer")) rfl)⟩
  d_is_row := let ⟨fd, F⟩ := c.1.d.def_ 1 (d := dd_is_row) rfl; ⟨_, fd, F, He.glo_ok X G (c.1.d.fact 1 (f := (He.Fa.glo "is_row")) rfl)⟩
  d_is_end := let ⟨fd, F⟩ := c.1.d.def_ 2 (d := dd_is_end) rfl; ⟨_, fd, F, He.glo_ok X G (c.1.d.fact 2 (f := (He.Fa.glo "is_end")) rfl)⟩
  d_targets_of := let ⟨fd, F⟩ := c.1.d.def_ 3 (d := dd_targets_of) rfl; ⟨_, fd, F, He.glo_ok X G (c.1.d.fact 3 (f := (He.Fa.glo "targets_of")) rfl)⟩
  d_are_reached := let ⟨fd, F⟩ := c.1.d.def_ 4 (d := dd_are_reached) rfl; ⟨_, fd, F, He.glo_ok X G (c.1.d.fact 4 (f := (He.Fa.glo "are_reached")) rfl)⟩
  d_is_plain_block := let ⟨fd, F⟩ := c.1.d.def_ 5 (d := dd_is_plain_block) rfl; ⟨_, fd, F, He.glo_ok X G (c.1.d.fact 5 (f := (He.Fa.glo "is_plain_block")) rfl)⟩
  d_check_graph := let ⟨fd, F⟩ := c.1.d.def_ 6 (d := dd_check_graph) rfl; ⟨_, fd, F, He.glo_ok X G (c.1.d.fact 6 (f := (He.Fa.glo "check_graph")) rfl)⟩
  d_hands_of := let ⟨fd, F⟩ := c.1.d.def_ 7 (d := dd_hands_of) rfl; ⟨_, fd, F, He.glo_ok X G (c.1.d.fact 7 (f := (He.Fa.glo "hands_of")) rfl)⟩
  d_are_handed := let ⟨fd, F⟩ := c.1.d.def_ 8 (d := dd_are_handed) rfl; ⟨_, fd, F, He.glo_ok X G (c.1.d.fact 8 (f := (He.Fa.glo "are_handed")) rfl)⟩
  d_start_of := let ⟨fd, F⟩ := c.1.d.def_ 9 (d := dd_start_of) rfl; ⟨_, fd, F, He.glo_ok X G (c.1.d.fact 9 (f := (He.Fa.glo "start_of")) rfl)⟩
  d_what_is_next := let ⟨fd, F⟩ := c.1.d.def_ 10 (d := dd_what_is_next) rfl; ⟨_, fd, F, He.glo_ok X G (c.1.d.fact 10 (f := (He.Fa.glo "what_is_next")) rfl)⟩
  d_takes_next := let ⟨fd, F⟩ := c.1.d.def_ 11 (d := dd_takes_next) rfl; ⟨_, fd, F, He.glo_ok X G (c.1.d.fact 11 (f := (He.Fa.glo "takes_next")) rfl)⟩
  d_value_of := let ⟨fd, F⟩ := c.1.d.def_ 12 (d := dd_value_of) rfl; ⟨_, fd, F, He.glo_ok X G (c.1.d.fact 12 (f := (He.Fa.glo "value_of")) rfl)⟩
  d_with_number := let ⟨fd, F⟩ := c.1.d.def_ 13 (d := dd_with_number) rfl; ⟨_, fd, F, He.glo_ok X G (c.1.d.fact 13 (f := (He.Fa.glo "with_number")) rfl)⟩
  d_steps_from := let ⟨fd, F⟩ := c.1.d.def_ 14 (d := dd_steps_from) rfl; ⟨_, fd, F, He.glo_ok X G (c.1.d.fact 14 (f := (He.Fa.glo "steps_from")) rfl)⟩
  d_is_step := let ⟨fd, F⟩ := c.1.d.def_ 15 (d := dd_is_step) rfl; ⟨_, fd, F, He.glo_ok X G (c.1.d.fact 15 (f := (He.Fa.glo "is_step")) rfl)⟩
  d_check_both := let ⟨fd, F⟩ := c.1.d.def_ 16 (d := dd_check_both) rfl; ⟨_, fd, F, He.glo_ok X G (c.1.d.fact 16 (f := (He.Fa.glo "check_both")) rfl)⟩
  d_settled := let ⟨fd, F⟩ := c.1.d.def_ 17 (d := dd_settled) rfl; ⟨_, fd, F, He.glo_ok X G (c.1.d.fact 17 (f := (He.Fa.glo "settled")) rfl)⟩
  d_event_at := let ⟨fd, F⟩ := c.1.d.def_ 18 (d := dd_event_at) rfl; ⟨_, fd, F, He.glo_ok X G (c.1.d.fact 18 (f := (He.Fa.glo "event_at")) rfl)⟩
  d_follow := let ⟨fd, F⟩ := c.1.d.def_ 19 (d := dd_follow) rfl; ⟨_, fd, F, He.glo_ok X G (c.1.d.fact 19 (f := (He.Fa.glo "follow")) rfl)⟩
  d_are_one := let ⟨fd, F⟩ := c.1.d.def_ 20 (d := dd_are_one) rfl; ⟨_, fd, F, He.glo_ok X G (c.1.d.fact 20 (f := (He.Fa.glo "are_one")) rfl)⟩
  d_lates_of := let ⟨fd, F⟩ := c.1.d.def_ 21 (d := dd_lates_of) rfl; ⟨_, fd, F, He.glo_ok X G (c.1.d.fact 21 (f := (He.Fa.glo "lates_of")) rfl)⟩
  d_starts_of := let ⟨fd, F⟩ := c.1.d.def_ 22 (d := dd_starts_of) rfl; ⟨_, fd, F, He.glo_ok X G (c.1.d.fact 22 (f := (He.Fa.glo "starts_of")) rfl)⟩
  d_is_settled_in := let ⟨fd, F⟩ := c.1.d.def_ 23 (d := dd_is_settled_in) rfl; ⟨_, fd, F, He.glo_ok X G (c.1.d.fact 23 (f := (He.Fa.glo "is_settled_in")) rfl)⟩
  d_start_pairs := let ⟨fd, F⟩ := c.1.d.def_ 24 (d := dd_start_pairs) rfl; ⟨_, fd, F, He.glo_ok X G (c.1.d.fact 24 (f := (He.Fa.glo "start_pairs")) rfl)⟩
  d_judge_both := let ⟨fd, F⟩ := c.1.d.def_ 25 (d := dd_judge_both) rfl; ⟨_, fd, F, He.glo_ok X G (c.1.d.fact 25 (f := (He.Fa.glo "judge_both")) rfl)⟩
  d_tell_alike := let ⟨fd, F⟩ := c.1.d.def_ 26 (d := dd_tell_alike) rfl; ⟨_, fd, F, He.glo_ok X G (c.1.d.fact 26 (f := (He.Fa.glo "tell_alike")) rfl)⟩
  d__law_cell_at := let ⟨fd, F⟩ := c.1.d.def_ 27 (d := dd__law_cell_at) rfl; ⟨_, fd, F, He.glo_ok X G (c.1.d.fact 27 (f := (He.Fa.glo "_law_cell_at")) rfl)⟩
  d__law_draw := let ⟨fd, F⟩ := c.1.d.def_ 28 (d := dd__law_draw) rfl; ⟨_, fd, F, He.glo_ok X G (c.1.d.fact 28 (f := (He.Fa.glo "_law_draw")) rfl)⟩
  d__law_number := let ⟨fd, F⟩ := c.1.d.def_ 29 (d := dd__law_number) rfl; ⟨_, fd, F, He.glo_ok X G (c.1.d.fact 29 (f := (He.Fa.glo "_law_number")) rfl)⟩
  d__law_next := let ⟨fd, F⟩ := c.1.d.def_ 30 (d := dd__law_next) rfl; ⟨_, fd, F, He.glo_ok X G (c.1.d.fact 30 (f := (He.Fa.glo "_law_next")) rfl)⟩
  d__law_pick := let ⟨fd, F⟩ := c.1.d.def_ 31 (d := dd__law_pick) rfl; ⟨_, fd, F, He.glo_ok X G (c.1.d.fact 31 (f := (He.Fa.glo "_law_pick")) rfl)⟩
  d__law_row := let ⟨fd, F⟩ := c.1.d.def_ 32 (d := dd__law_row) rfl; ⟨_, fd, F, He.glo_ok X G (c.1.d.fact 32 (f := (He.Fa.glo "_law_row")) rfl)⟩
  d__law_outs := let ⟨fd, F⟩ := c.1.d.def_ 33 (d := dd__law_outs) rfl; ⟨_, fd, F, He.glo_ok X G (c.1.d.fact 33 (f := (He.Fa.glo "_law_outs")) rfl)⟩
  d__law_end := let ⟨fd, F⟩ := c.1.d.def_ 34 (d := dd__law_end) rfl; ⟨_, fd, F, He.glo_ok X G (c.1.d.fact 34 (f := (He.Fa.glo "_law_end")) rfl)⟩
  d__law_plain := let ⟨fd, F⟩ := c.1.d.def_ 35 (d := dd__law_plain) rfl; ⟨_, fd, F, He.glo_ok X G (c.1.d.fact 35 (f := (He.Fa.glo "_law_plain")) rfl)⟩
  d__law_made := let ⟨fd, F⟩ := c.1.d.def_ 36 (d := dd__law_made) rfl; ⟨_, fd, F, He.glo_ok X G (c.1.d.fact 36 (f := (He.Fa.glo "_law_made")) rfl)⟩
  d__law_hands := let ⟨fd, F⟩ := c.1.d.def_ 37 (d := dd__law_hands) rfl; ⟨_, fd, F, He.glo_ok X G (c.1.d.fact 37 (f := (He.Fa.glo "_law_hands")) rfl)⟩
  d__law_first := let ⟨fd, F⟩ := c.1.d.def_ 38 (d := dd__law_first) rfl; ⟨_, fd, F, He.glo_ok X G (c.1.d.fact 38 (f := (He.Fa.glo "_law_first")) rfl)⟩
  d__law_coming := let ⟨fd, F⟩ := c.1.d.def_ 39 (d := dd__law_coming) rfl; ⟨_, fd, F, He.glo_ok X G (c.1.d.fact 39 (f := (He.Fa.glo "_law_coming")) rfl)⟩
  d__law_options := let ⟨fd, F⟩ := c.1.d.def_ 40 (d := dd__law_options) rfl; ⟨_, fd, F, He.glo_ok X G (c.1.d.fact 40 (f := (He.Fa.glo "_law_options")) rfl)⟩
  d__law_after := let ⟨fd, F⟩ := c.1.d.def_ 41 (d := dd__law_after) rfl; ⟨_, fd, F, He.glo_ok X G (c.1.d.fact 41 (f := (He.Fa.glo "_law_after")) rfl)⟩
  d__law_settled := let ⟨fd, F⟩ := c.1.d.def_ 42 (d := dd__law_settled) rfl; ⟨_, fd, F, He.glo_ok X G (c.1.d.fact 42 (f := (He.Fa.glo "_law_settled")) rfl)⟩
  d__law_event := let ⟨fd, F⟩ := c.1.d.def_ 43 (d := dd__law_event) rfl; ⟨_, fd, F, He.glo_ok X G (c.1.d.fact 43 (f := (He.Fa.glo "_law_event")) rfl)⟩
  d__law_lates := let ⟨fd, F⟩ := c.1.d.def_ 44 (d := dd__law_lates) rfl; ⟨_, fd, F, He.glo_ok X G (c.1.d.fact 44 (f := (He.Fa.glo "_law_lates")) rfl)⟩
  d__law_starts := let ⟨fd, F⟩ := c.1.d.def_ 45 (d := dd__law_starts) rfl; ⟨_, fd, F, He.glo_ok X G (c.1.d.fact 45 (f := (He.Fa.glo "_law_starts")) rfl)⟩
  d__law_is_one := let ⟨fd, F⟩ := c.1.d.def_ 46 (d := dd__law_is_one) rfl; ⟨_, fd, F, He.glo_ok X G (c.1.d.fact 46 (f := (He.Fa.glo "_law_is_one")) rfl)⟩
  d__law_pairs := let ⟨fd, F⟩ := c.1.d.def_ 47 (d := dd__law_pairs) rfl; ⟨_, fd, F, He.glo_ok X G (c.1.d.fact 47 (f := (He.Fa.glo "_law_pairs")) rfl)⟩
  d__law_is_same := let ⟨fd, F⟩ := c.1.d.def_ 48 (d := dd__law_is_same) rfl; ⟨_, fd, F, He.glo_ok X G (c.1.d.fact 48 (f := (He.Fa.glo "_law_is_same")) rfl)⟩
  d__law_is_parted := let ⟨fd, F⟩ := c.1.d.def_ 49 (d := dd__law_is_parted) rfl; ⟨_, fd, F, He.glo_ok X G (c.1.d.fact 49 (f := (He.Fa.glo "_law_is_parted")) rfl)⟩
  d__law_other := let ⟨fd, F⟩ := c.1.d.def_ 50 (d := dd__law_other) rfl; ⟨_, fd, F, He.glo_ok X G (c.1.d.fact 50 (f := (He.Fa.glo "_law_other")) rfl)⟩
  d__law_papers_right := let ⟨fd, F⟩ := c.1.d.def_ 51 (d := dd__law_papers_right) rfl; ⟨_, fd, F, He.glo_ok X G (c.1.d.fact 51 (f := (He.Fa.glo "_law_papers_right")) rfl)⟩
  d_stepped := let ⟨fd, F⟩ := c.1.d.def_ 52 (d := dd_stepped) rfl; ⟨_, fd, F, He.glo_ok X G (c.1.d.fact 52 (f := (He.Fa.glo "stepped")) rfl)⟩
  me_rows := ⟨_, He.meth_ok (c.1.d.fact 81 (f := (He.Fa.meth "Program" "rows")) rfl)⟩
  md_rows := (let ⟨fd, F⟩ := c.1.d.def_ 54 (d := dm_Program_rows) rfl; ⟨fd, F⟩)
  me_end := ⟨_, He.meth_ok (c.1.d.fact 82 (f := (He.Fa.meth "Program" "end")) rfl)⟩
  md_end := (let ⟨fd, F⟩ := c.1.d.def_ 55 (d := dm_Program_end) rfl; ⟨fd, F⟩)
  me_first_numbers := ⟨_, He.meth_ok (c.1.d.fact 83 (f := (He.Fa.meth "Program" "first_numbers")) rfl)⟩
  md_first_numbers := (let ⟨fd, F⟩ := c.1.d.def_ 56 (d := dm_Program_first_numbers) rfl; ⟨fd, F⟩)
  me_entered := ⟨_, He.meth_ok (c.1.d.fact 84 (f := (He.Fa.meth "Program" "entered")) rfl)⟩
  md_entered := (let ⟨fd, F⟩ := c.1.d.def_ 57 (d := dm_Program_entered) rfl; ⟨fd, F⟩)
  me_getitem := ⟨_, He.meth_ok (c.1.d.fact 85 (f := (He.Fa.meth "Program" "__getitem__")) rfl)⟩
  md_getitem := (let ⟨fd, F⟩ := c.1.d.def_ 58 (d := dm_Program_getitem) rfl; ⟨fd, F⟩)
  ms_Same := ⟨_, He.meth_ok (c.1.d.fact 86 (f := (He.Fa.meth "Same" "shows")) rfl), (let ⟨fd, F⟩ := c.1.d.def_ 59 (d := dm_Same_shows) rfl; ⟨fd, F⟩)⟩
  in_Same := ⟨_, He.mkr_ok (c.1.d.fact 92 (f := (He.Fa.mkr "Same")) rfl), (let ⟨fd, F⟩ := c.1.d.def_ 60 (d := dm_Same_init) rfl; ⟨fd, F⟩)⟩
  ms_Parted := ⟨_, He.meth_ok (c.1.d.fact 88 (f := (He.Fa.meth "Parted" "shows")) rfl), (let ⟨fd, F⟩ := c.1.d.def_ 61 (d := dm_Parted_shows) rfl; ⟨fd, F⟩)⟩
  in_Parted := ⟨_, He.mkr_ok (c.1.d.fact 93 (f := (He.Fa.mkr "Parted")) rfl), (let ⟨fd, F⟩ := c.1.d.def_ 62 (d := dm_Parted_init) rfl; ⟨fd, F⟩)⟩
abbrev lawR : PySem.W.OpenRow := PySem.W.OpenLaw.row PySem.Challenge.rw_registerrooms_k06_whole_alike
abbrev lawV : Program := PySem.W.view lawR.prog [76]
def ln0 : List Str := ["_wall", "__name__", "RoomError", "BadProgram", "BadBlock", "Unlike", "TooLarge", "MOST_VARIABLES"]
def ln1 : List Str := ["MOST_BLOCKS", "MOST_ROWS", "MOST_SPAN", "MOST_HANDED", "SIZES", "is_integer", "is_row", "is_end"]
def ln2 : List Str := ["targets_of", "are_reached", "Blocks", "is_plain_block", "Program", "check_graph", "hands_of", "are_handed"]
def ln3 : List Str := ["start_of", "what_is_next", "takes_next", "value_of", "with_number", "stepped", "steps_from", "is_step"]
def ln4 : List Str := ["MOST_PAIRS", "check_both", "settled", "event_at", "follow", "are_one", "lates_of", "starts_of"]
def ln5 : List Str := ["is_settled_in", "Same", "Parted", "start_pairs", "judge_both", "tell_alike", "_law_cell_at", "_law_draw"]
def ln6 : List Str := ["_law_number", "_law_next", "_law_pick", "_law_row", "_law_outs", "_law_end", "_law_plain", "_law_made"]
def ln7 : List Str := ["_law_hands", "_law_first", "_law_coming", "_law_options", "_law_after", "_law_settled", "_law_event", "_law_lates"]
def ln8 : List Str := ["_law_starts", "_law_is_one", "_law_pairs", "_law_is_same", "_law_is_parted", "_law_other", "_law_papers_right"]
def lns : List Str := ln0 ++ ln1 ++ ln2 ++ ln3 ++ ln4 ++ ln5 ++ ln6 ++ ln7 ++ ln8
def obT (s : PySem.W.SharedT) : AlR := obsR (hK (HandSHeadRun.getT s))
theorem obT_eq (s : PySem.W.SharedT) : obT s = hookR.obs s.abs := by
  have e : HandSHeadRun.getT s = s.abs.heap.get? := funext (HandSHeadRun.getT_eq s)
  show obsR (hK (HandSHeadRun.getT s)) = obsR (hK s.abs.heap.get?)
  rw [e]
theorem runF (w : World) : HandSHeadRun.RunEq lawR lawV hookR obT 6000 lns (w.withFollow "special-get-raises" false) := by
  intro os
  kernel_rfl
theorem runT (w : World) : HandSHeadRun.RunEq lawR lawV hookR obT 6000 lns (w.withFollow "special-get-raises" true) := by
  intro os
  kernel_rfl
theorem runA (w : World) : HandSHeadRun.RunEq lawR lawV hookR obT 6000 lns w := PySem.W.byRow2 "special-get-raises" (P := fun w => HandSHeadRun.RunEq lawR lawV hookR obT 6000 lns w) runF runT w
end Rr
/-! registerrooms, the plain law: graphs of pairs, searched in breadth; runs that show that two part. No program in sight. -/
namespace Rr
section
variable {α : Type} [DecidableEq α]
theorem pg_len : ∀ {l m : List α}, l.Nodup → (∀ x ∈ l, x ∈ m) → l.length ≤ m.length
  | [], _, _, _ => Nat.zero_le _
  | x :: l, m, h, s => by
    have hx : x ∈ m := s x (List.mem_cons_self ..)
    have h1 : l.length ≤ (m.erase x).length := pg_len (List.nodup_cons.mp h).2 fun y hy => by
      have ne : y ≠ x := fun e => (List.nodup_cons.mp h).1 (e ▸ hy)
      exact (List.mem_erase_of_ne ne).mpr (s y (List.mem_cons_of_mem _ hy))
    have h2 := List.length_erase_of_mem hx
    have h3 : 0 < m.length := List.length_pos_of_mem hx
    rw [List.length_cons]
    omega
/-- all tuples of so many numbers below s -/
def tups (s : Nat) : Nat → List (List Int)
  | 0 => [[]]
  | n + 1 => (tups s n).flatMap fun r => (List.range s).map fun (x : Nat) => r ++ [(x : Int)]
theorem mem_tups {s : Nat} : ∀ {n : Nat} {r : List Int}, r ∈ tups s n ↔ r.length = n ∧ ∀ x ∈ r, 0 ≤ x ∧ x < (s : Int)
  | 0, r => by
    simp only [tups, List.mem_singleton]
    constructor
    · rintro rfl
      exact ⟨rfl, fun x h => by cases h⟩
    · rintro ⟨h, _⟩
      exact List.eq_nil_of_length_eq_zero h
  | n + 1, r => by
    simp only [tups, List.mem_flatMap, List.mem_map, List.mem_range]
    constructor
    · rintro ⟨q, hq, x, hx, rfl⟩
      obtain ⟨h1, h2⟩ := mem_tups.mp hq
      refine ⟨by simp [h1], fun y hy => ?_⟩
      rcases List.mem_append.mp hy with hy | hy
      · exact h2 y hy
      · rw [List.mem_singleton.mp hy]
        omega
    · rintro ⟨h1, h2⟩
      have ne : r ≠ [] := fun e => by rw [e] at h1; cases h1
      have hl := h2 (r.getLast ne) (List.getLast_mem ne)
      refine ⟨r.dropLast, mem_tups.mpr ⟨by simp [h1], fun x hx => h2 x (List.dropLast_subset _ hx)⟩, (r.getLast ne).toNat, by omega, ?_⟩
      have e : (((r.getLast ne).toNat : Nat) : Int) = r.getLast ne := by omega
      rw [e]
      exact List.dropLast_concat_getLast ne
theorem len_tups {s : Nat} : ∀ n : Nat, (tups s n).length = s ^ n
  | 0 => rfl
  | n + 1 => by
    rw [tups, List.length_flatMap]
    simp only [List.length_map, List.length_range]
    have h : ∀ l : List (List Int), (l.map fun _ => s).sum = l.length * s := fun l => by
      induction l with
      | nil => simp
      | cons a l ih => simp [ih, Nat.add_mul, Nat.add_comm]
    rw [h, len_tups n, Nat.pow_succ]

/-- pairs, and what comes behind them -/
structure Gr (α : Type) where
  one : α → Bool
  tk : α → Bool
  nd : α → Bool
  nx : α → Option Int → α
  sp : Nat
  hs : List (List Int)
  st : List Int → α
def Gr.opts (g : Gr α) (p : α) : List (Option Int) := if g.nd p then [] else if g.tk p then (List.range g.sp).map fun (x : Nat) => some (x : Int) else [none]
def Gr.lat (g : Gr α) (p : α) : List (Option Int × α) := (g.opts p).map fun t => (t, g.nx p t)
abbrev Ent (α : Type) := α × List Int × List Int
def addE (f : List (Ent α)) (e : Ent α) : List (Ent α) := if e.1 ∈ f.map (·.1) then f else f ++ [e]
def app1 (r : List Int) : Option Int → List Int
  | none => r
  | some x => r ++ [x]
def Gr.src (g : Gr α) : List (Ent α) := g.hs.foldl (fun f h => addE f (g.st h, h, [])) []
def Gr.adds (g : Gr α) (e : Ent α) (f : List (Ent α)) : List (Ent α) := (g.lat e.1).foldl (fun f l => addE f (l.2, e.2.1, app1 e.2.2 l.1)) f
def Gr.stp (g : Gr α) (f : List (Ent α)) (i : Nat) : List (Ent α) := match f[i]? with
  | none => f
  | some e => if g.one e.1 then g.adds e f else f
def Gr.its (g : Gr α) : Nat → List (Ent α)
  | 0 => g.src
  | n + 1 => g.stp (g.its n) n
abbrev kys (f : List (Ent α)) : List α := f.map (·.1)
theorem addE_pre (f : List (Ent α)) (e : Ent α) : ∃ t, addE f e = f ++ t := by
  unfold addE
  split
  · exact ⟨[], by simp⟩
  · exact ⟨[e], rfl⟩
theorem addE_mem (f : List (Ent α)) (e : Ent α) : e.1 ∈ kys (addE f e) := by
  unfold addE
  split
  · assumption
  · simp [kys]
theorem addE_nd {f : List (Ent α)} (e : Ent α) (h : (kys f).Nodup) : (kys (addE f e)).Nodup := by
  unfold addE
  split
  · exact h
  · rename_i n
    simp only [kys, List.map_append, List.map_cons, List.map_nil]
    refine List.nodup_append.mpr ⟨h, by simp, fun a ha b hb e' => ?_⟩
    rw [List.mem_singleton.mp hb] at e'
    exact n (e' ▸ ha)
section
variable {ι : Type} (w : ι → Ent α)
theorem addF_pre : ∀ (l : List ι) (f : List (Ent α)), ∃ t, l.foldl (fun f i => addE f (w i)) f = f ++ t
  | [], f => ⟨[], by simp⟩
  | i :: l, f => by
    obtain ⟨t, ht⟩ := addE_pre f (w i)
    obtain ⟨u, hu⟩ := addF_pre l (addE f (w i))
    exact ⟨t ++ u, by rw [List.foldl_cons, hu, ht, List.append_assoc]⟩
theorem addF_nd : ∀ (l : List ι) {f : List (Ent α)}, (kys f).Nodup → (kys (l.foldl (fun f i => addE f (w i)) f)).Nodup
  | [], _, h => h
  | i :: l, _, h => addF_nd l (addE_nd _ h)
theorem kys_pre {f t : List (Ent α)} {x : α} (h : x ∈ kys f) : x ∈ kys (f ++ t) := by
  simp only [kys, List.map_append, List.mem_append]
  exact .inl h
theorem addF_mem : ∀ (l : List ι) (f : List (Ent α)), ∀ i ∈ l, (w i).1 ∈ kys (l.foldl (fun f i => addE f (w i)) f)
  | j :: l, f, i, h => by
    rw [List.foldl_cons]
    rcases List.mem_cons.mp h with rfl | h
    · obtain ⟨t, ht⟩ := addF_pre w l (addE f (w i))
      rw [ht]
      exact kys_pre (addE_mem f (w i))
    · exact addF_mem l _ i h
/-- what holds of all that are in, and of each that is put in -/
theorem addF_inv (I : List (Ent α) → Prop) : ∀ (l : List ι) (f : List (Ent α)), I f → (∀ f, I f → ∀ i ∈ l, (w i).1 ∉ kys f → I (f ++ [w i])) → I (l.foldl (fun f i => addE f (w i)) f)
  | [], f, h, _ => h
  | i :: l, f, h, k => by
    rw [List.foldl_cons]
    refine addF_inv I l _ ?_ fun f hf j hj => k f hf j (List.mem_cons_of_mem _ hj)
    unfold addE
    split
    · exact h
    · rename_i n
      exact k f h i (List.mem_cons_self ..) n
end
variable {g : Gr α}
theorem its_pre (g : Gr α) (n : Nat) : ∃ t, g.its (n + 1) = g.its n ++ t := by
  show ∃ t, g.stp (g.its n) n = _
  unfold Gr.stp
  split
  · exact ⟨[], by simp⟩
  · split
    · exact addF_pre _ _ _
    · exact ⟨[], by simp⟩
theorem its_pre_le (g : Gr α) {m : Nat} : ∀ {n : Nat}, m ≤ n → ∃ t, g.its n = g.its m ++ t
  | 0, h => ⟨[], by rw [Nat.le_zero.mp h]; simp⟩
  | n + 1, h => by
    by_cases e : m = n + 1
    · exact ⟨[], by rw [e]; simp⟩
    · obtain ⟨t, ht⟩ := its_pre_le g (show m ≤ n by omega)
      obtain ⟨u, hu⟩ := its_pre g n
      exact ⟨t ++ u, by rw [hu, ht, List.append_assoc]⟩
theorem its_nd (g : Gr α) : ∀ n : Nat, (kys (g.its n)).Nodup
  | 0 => addF_nd _ _ (by simp [kys])
  | n + 1 => by
    show (kys (g.stp (g.its n) n)).Nodup
    unfold Gr.stp
    split
    · exact its_nd g n
    · split
      · exact addF_nd _ _ (its_nd g n)
      · exact its_nd g n
theorem its_start (g : Gr α) (n : Nat) {h : List Int} (m : h ∈ g.hs) : g.st h ∈ kys (g.its n) := by
  obtain ⟨t, ht⟩ := its_pre_le g (Nat.zero_le n)
  rw [ht]
  exact kys_pre (addF_mem (fun h => (g.st h, h, [])) g.hs [] h m)
theorem its_get (g : Gr α) {m n i : Nat} (h : m ≤ n) {e : Ent α} (k : (g.its m)[i]? = some e) : (g.its n)[i]? = some e := by
  obtain ⟨t, ht⟩ := its_pre_le g h
  rw [ht, List.getElem?_append_left (List.getElem?_eq_some_iff.mp k).1, k]
theorem its_closed (g : Gr α) {n i : Nat} (hi : i < n) {e : Ent α} (k : (g.its i)[i]? = some e) (o : g.one e.1 = true) : ∀ l ∈ g.lat e.1, l.2 ∈ kys (g.its n) := by
  intro l hl
  obtain ⟨t, ht⟩ := its_pre_le g (show i + 1 ≤ n from hi)
  rw [ht]
  refine kys_pre ?_
  show l.2 ∈ kys (g.stp (g.its i) i)
  unfold Gr.stp
  rw [k]
  show l.2 ∈ kys (if g.one e.1 then g.adds e (g.its i) else g.its i)
  rw [if_pos o]
  exact addF_mem (fun l : Option Int × α => (l.2, e.2.1, app1 e.2.2 l.1)) (g.lat e.1) _ l hl
/-- the search has come to its end -/
def Gr.Fin (g : Gr α) (n : Nat) : Prop := (g.its n).length = n ∧ ∀ i, i < n → i < (g.its i).length
theorem fin_closed {n : Nat} (F : g.Fin n) {p : α} (h : p ∈ kys (g.its n)) (o : g.one p = true) : ∀ l ∈ g.lat p, l.2 ∈ kys (g.its n) := by
  obtain ⟨e, he, rfl⟩ := List.mem_map.mp h
  obtain ⟨i, hi⟩ := List.getElem?_of_mem he
  have li : i < n := by
    have := (List.getElem?_eq_some_iff.mp hi).1
    have := F.1
    omega
  have l2 := F.2 i li
  have e2 : (g.its i)[i]? = some ((g.its i)[i]) := List.getElem?_eq_getElem l2
  have e3 := its_get g (Nat.le_of_lt li) e2
  rw [hi] at e3
  rw [← Option.some.inj e3] at e2
  exact its_closed g li e2 o
/-- how one comes to a pair -/
inductive Pth (g : Gr α) (h : List Int) : List α → α → List Int → Prop
  | start : h ∈ g.hs → Pth g h [] (g.st h) []
  | step {ps : List α} {p : α} {r : List Int} {l : Option Int × α} : Pth g h ps p r → p ∉ ps → g.one p = true → l ∈ g.lat p → l.2 ∉ ps → l.2 ≠ p → Pth g h (ps ++ [p]) l.2 (app1 r l.1)
/-- what is known of what was found -/
def Fnd (g : Gr α) (f : List (Ent α)) : Prop := (∀ e ∈ f, e.2.1 ∈ g.hs ∧ ∃ ps, Pth g e.2.1 ps e.1 e.2.2 ∧ e.1 ∉ ps ∧ ∀ x ∈ ps, x ∈ kys f) ∧ ∀ (i : Nat) (e : Ent α), f[i]? = some e → e.2.2.length ≤ i
theorem fnd_add {f : List (Ent α)} (F : Fnd g f) {e : Ent α} (hh : e.2.1 ∈ g.hs) {ps : List α} (P : Pth g e.2.1 ps e.1 e.2.2) (n : e.1 ∉ kys f) (hp : ∀ x ∈ ps, x ∈ kys f) (l : e.2.2.length ≤ f.length) : Fnd g (f ++ [e]) := by
  refine ⟨fun x hx => ?_, fun i x hx => ?_⟩
  · rcases List.mem_append.mp hx with hx | hx
    · obtain ⟨h1, ps, P, h2, h3⟩ := F.1 x hx
      exact ⟨h1, ps, P, h2, fun y hy => kys_pre (h3 y hy)⟩
    · rw [List.mem_singleton.mp hx]
      exact ⟨hh, ps, P, fun q => n (hp _ q), fun y hy => kys_pre (hp y hy)⟩
  · by_cases q : i < f.length
    · rw [List.getElem?_append_left q] at hx
      exact F.2 i x hx
    · rw [List.getElem?_append_right (by omega)] at hx
      have : i - f.length = 0 := by
        have := (List.getElem?_eq_some_iff.mp hx).1
        simp at this
        omega
      rw [this] at hx
      cases hx
      omega
theorem its_fnd (g : Gr α) : ∀ n : Nat, Fnd g (g.its n)
  | 0 => by
    refine addF_inv (fun h : List Int => ((g.st h, h, []) : Ent α)) (Fnd g) g.hs [] ⟨fun e h => (List.not_mem_nil h).elim, fun i e h => by cases h⟩ fun f F h hh n => ?_
    exact fnd_add F hh (.start hh) n (fun x hx => (List.not_mem_nil hx).elim) (Nat.zero_le _)
  | n + 1 => by
    have F := its_fnd g n
    show Fnd g (g.stp (g.its n) n)
    unfold Gr.stp
    split
    · exact F
    · rename_i e he
      split
      · rename_i o
        have len := F.2 n e he
        have ln := (List.getElem?_eq_some_iff.mp he).1
        obtain ⟨h1, ps, P, h2, h3⟩ := F.1 e (List.mem_of_getElem? he)
        refine (addF_inv (fun l : Option Int × α => ((l.2, e.2.1, app1 e.2.2 l.1) : Ent α)) (fun f => Fnd g f ∧ e.1 ∈ kys f ∧ (∀ x ∈ ps, x ∈ kys f) ∧ n < f.length) (g.lat e.1) (g.its n) ⟨F, List.mem_map_of_mem (List.mem_of_getElem? he), h3, ln⟩ fun f F l hl nl => ?_).1
        refine ⟨fnd_add F.1 h1 (.step P h2 o hl (fun q => nl (F.2.2.1 _ q)) (fun q => nl (by show l.2 ∈ kys f; rw [q]; exact F.2.1))) nl (fun x hx => ?_) ?_, kys_pre F.2.1, fun x hx => kys_pre (F.2.2.1 x hx), by simp; omega⟩
        · rcases List.mem_append.mp hx with hx | hx
          · exact F.2.2.1 x hx
          · rw [List.mem_singleton.mp hx]
            exact F.2.1
        · show (app1 e.2.2 l.1).length ≤ f.length
          have : (app1 e.2.2 l.1).length ≤ e.2.2.length + 1 := by
            unfold app1
            split <;> simp
          omega
      · exact F
/-! ### runs that show that both part -/
def Gr.run (g : Gr α) : Nat → α → List Int → List (α × Nat) → Option Bool
  | 0, _, _, _ => none
  | n + 1, p, w, m => if g.one p = true then
      if g.nd p = true ∨ (p, w.length) ∈ m ∨ (g.tk p = true ∧ w = []) then some false
      else if g.tk p = true then g.run n (g.nx p w.head?) w.tail (m ++ [(p, w.length)]) else g.run n (g.nx p none) w (m ++ [(p, w.length)])
    else some true
theorem lat_mem {p : α} {l : Option Int × α} (h : l ∈ g.lat p) : g.nd p = false ∧ l.2 = g.nx p l.1 ∧ ((g.tk p = true ∧ ∃ x : Nat, x < g.sp ∧ l.1 = some (x : Int)) ∨ (g.tk p = false ∧ l.1 = none)) := by
  obtain ⟨t, ht, rfl⟩ := List.mem_map.mp h
  unfold Gr.opts at ht
  cases n : g.nd p with
  | true => rw [n] at ht; simp at ht
  | false =>
    rw [n] at ht
    cases k : g.tk p with
    | true =>
      rw [k] at ht
      simp at ht
      obtain ⟨x, hx, rfl⟩ := ht
      exact ⟨rfl, rfl, .inl ⟨rfl, x, hx, rfl⟩⟩
    | false =>
      rw [k] at ht
      simp at ht
      subst ht
      exact ⟨rfl, rfl, .inr ⟨rfl, rfl⟩⟩
theorem mem_lat {p : α} (n : g.nd p = false) {x : Int} (k : g.tk p = true) (h : 0 ≤ x ∧ x < (g.sp : Int)) : (some x, g.nx p (some x)) ∈ g.lat p := by
  unfold Gr.lat Gr.opts
  rw [n, k]
  refine List.mem_map.mpr ⟨some x, ?_, rfl⟩
  simp
  exact ⟨x.toNat, by omega, by omega⟩
theorem mem_latN {p : α} (n : g.nd p = false) (k : g.tk p = false) : (none, g.nx p none) ∈ g.lat p := by
  unfold Gr.lat Gr.opts
  rw [n, k]
  simp
theorem run_path {h : List Int} {ps : List α} {p : α} {r : List Int} (P : Pth g h ps p r) : ∀ (n : Nat) (w : List Int), ∃ m, (∀ x ∈ m, x.1 ∈ ps) ∧ g.run (n + ps.length) (g.st h) (r ++ w) [] = g.run n p w m := by
  induction P with
  | start _ => exact fun n w => ⟨[], fun x hx => (List.not_mem_nil hx).elim, rfl⟩
  | @step ps p r l P np o hl _ _ ih =>
    intro n w
    obtain ⟨h1, h2, h3⟩ := lat_mem hl
    obtain ⟨m, hm, e⟩ := ih (n + 1) ((match l.1 with | none => [] | some x => [x]) ++ w)
    have e1 : app1 r l.1 ++ w = r ++ ((match l.1 with | none => [] | some x => [x]) ++ w) := by
      unfold app1
      split <;> simp
    have e2 : n + (ps ++ [p]).length = n + 1 + ps.length := by simp; omega
    rw [e1, e2, e]
    have nm : ∀ k, (p, k) ∉ m := fun k q => np (hm _ q)
    rcases h3 with ⟨k, x, hx, e3⟩ | ⟨k, e3⟩
    · rw [e3] at h2 ⊢
      refine ⟨m ++ [(p, w.length + 1)], fun y hy => ?_, ?_⟩
      · rcases List.mem_append.mp hy with hy | hy
        · exact List.mem_append_left _ (hm y hy)
        · rw [List.mem_singleton.mp hy]; simp
      · simp [Gr.run, o, h1, k, nm, h2]
    · rw [e3] at h2 ⊢
      refine ⟨m ++ [(p, w.length)], fun y hy => ?_, ?_⟩
      · rcases List.mem_append.mp hy with hy | hy
        · exact List.mem_append_left _ (hm y hy)
        · rw [List.mem_singleton.mp hy]; simp
      · simp [Gr.run, o, h1, k, nm, h2]
/-- a set of pairs that is closed -/
def Cls' (g : Gr α) (S : List α) : Prop := ∀ p ∈ S, g.one p = true → ∀ l ∈ g.lat p, l.2 ∈ S
theorem run_ends {S : List α} (C : Cls' g S) : ∀ (n : Nat) (p : α) (w : List Int) (m : List (α × Nat)) (L : Nat), p ∈ S → (∀ x ∈ w, 0 ≤ x ∧ x < (g.sp : Int)) → w.length ≤ L → m.Nodup → (∀ x ∈ m, x.1 ∈ S ∧ x.2 ≤ L) → S.length * (L + 1) < n + m.length →
    ∃ b, g.run n p w m = some b ∧ ((∀ x ∈ S, g.one x = true) → b = false)
  | 0, p, w, m, L, hp, hw, hl, hm, hx, hn => by
    exfalso
    have : m.length ≤ (S.flatMap fun a => (List.range (L + 1)).map fun k => (a, k)).length := pg_len hm fun x hx' => by
      obtain ⟨h1, h2⟩ := hx x hx'
      exact List.mem_flatMap.mpr ⟨x.1, h1, List.mem_map.mpr ⟨x.2, List.mem_range.mpr (by omega), rfl⟩⟩
    rw [List.length_flatMap] at this
    simp only [List.length_map, List.length_range] at this
    have h : ∀ l : List α, (l.map fun _ => L + 1).sum = l.length * (L + 1) := fun l => by
      induction l with
      | nil => simp
      | cons a l ih => simp [ih, Nat.add_mul, Nat.add_comm]
    rw [h] at this
    omega
  | n + 1, p, w, m, L, hp, hw, hl, hm, hx, hn => by
    unfold Gr.run
    by_cases o : g.one p = true
    · rw [if_pos o]
      by_cases c : g.nd p = true ∨ (p, w.length) ∈ m ∨ (g.tk p = true ∧ w = [])
      · rw [if_pos c]
        exact ⟨false, rfl, fun _ => rfl⟩
      · rw [if_neg c]
        simp only [not_or, Bool.not_eq_true] at c
        obtain ⟨c1, c2, c3⟩ := c
        have hm2 : (m ++ [(p, w.length)]).Nodup := List.nodup_append.mpr ⟨hm, by simp, fun a ha b hb e => by
          rw [List.mem_singleton.mp hb] at e
          exact c2 (e ▸ ha)⟩
        have hx2 : ∀ x ∈ m ++ [(p, w.length)], x.1 ∈ S ∧ x.2 ≤ L := fun x h => by
          rcases List.mem_append.mp h with h | h
          · exact hx x h
          · rw [List.mem_singleton.mp h]
            exact ⟨hp, hl⟩
        by_cases k : g.tk p = true
        · rw [if_pos k]
          cases w with
          | nil => exact (c3 ⟨k, rfl⟩).elim
          | cons x w =>
            refine run_ends C n _ _ _ L (C p hp o _ (mem_lat c1 k (hw x (List.mem_cons_self ..)))) (fun y hy => hw y (List.mem_cons_of_mem _ hy)) (by simp at hl ⊢; omega) hm2 hx2 (by simp; omega)
        · rw [if_neg k]
          exact run_ends C n _ _ _ L (C p hp o _ (mem_latN c1 (by simpa using k))) hw hl hm2 hx2 (by simp; omega)
    · rw [if_neg o]
      exact ⟨true, rfl, fun h => absurd (h p hp) o⟩
theorem run_up : ∀ {n : Nat} {p : α} {w : List Int} {m : List (α × Nat)} {b : Bool} {k : Nat}, n ≤ k → g.run n p w m = some b → g.run k p w m = some b
  | 0, _, _, _, _, _, _, h => by simp [Gr.run] at h
  | n + 1, p, w, m, b, 0, l, h => by omega
  | n + 1, p, w, m, b, k + 1, l, h => by
    unfold Gr.run at h ⊢
    split at h
    · rename_i o
      rw [if_pos o]
      split at h
      · rename_i c
        rw [if_pos c]
        exact h
      · rename_i c
        rw [if_neg c]
        split at h
        · rename_i t
          rw [if_pos t]
          exact run_up (by omega) h
        · rename_i t
          rw [if_neg t]
          exact run_up (by omega) h
    · rename_i o
      rw [if_neg o]
      exact h
/-- a path to a pair at which both part shows it -/
theorem run_true {h : List Int} {ps : List α} {p : α} {r : List Int} (P : Pth g h ps p r) (o : g.one p = false) : g.run (1 + ps.length) (g.st h) r [] = some true := by
  obtain ⟨m, _, e⟩ := run_path P 1 []
  rw [List.append_nil] at e
  rw [e]
  simp [Gr.run, o]
end
end Rr
/-! registerrooms, the plain law: programs, states, steps, settled states. No text in sight. -/
namespace Rr
inductive Wd where
  | put | move | add | sub | less | take | tell | stop | go | part | silent
deriving DecidableEq
inductive Rw where
  | put (r : Nat) (x : Int) | mv (r s : Nat) | add (r s t : Nat) | sub (r s t : Nat) | less (r s t : Nat) | take (r : Nat) | tell (r : Nat)
inductive En where
  | stop | go (t : Nat) | part (v a b : Nat)
inductive It where
  | row (r : Rw) | fin (e : En)
def Rw.wd : Rw → Wd
  | .put _ _ => .put
  | .mv _ _ => .move
  | .add _ _ _ => .add
  | .sub _ _ _ => .sub
  | .less _ _ _ => .less
  | .take _ => .take
  | .tell _ => .tell
def En.wd : En → Wd
  | .stop => .stop
  | .go _ => .go
  | .part _ _ _ => .part
def It.wd : It → Wd
  | .row r => r.wd
  | .fin e => e.wd
structure Pg where
  many : Nat
  bs : List (List Rw × En)
  hd : Nat
  sp : Nat
structure St where
  b : Nat
  i : Nat
  ns : List Int
deriving DecidableEq
def Rw.Ok (m s : Nat) : Rw → Prop
  | .put r x => r < m ∧ 0 ≤ x ∧ x < (s : Int)
  | .mv r a => r < m ∧ a < m
  | .add r a b => r < m ∧ a < m ∧ b < m
  | .sub r a b => r < m ∧ a < m ∧ b < m
  | .less r a b => r < m ∧ a < m ∧ b < m
  | .take r => r < m
  | .tell r => r < m
def En.Ok (m n : Nat) : En → Prop
  | .stop => True
  | .go t => 1 ≤ t ∧ t < n
  | .part v a b => v < m ∧ (1 ≤ a ∧ a < n) ∧ (1 ≤ b ∧ b < n)
structure Pg.Ok (p : Pg) : Prop where
  many : 1 ≤ p.many ∧ p.many ≤ 4
  sp : 2 ≤ p.sp ∧ p.sp ≤ 4
  hd : p.hd ≤ 2 ∧ p.hd ≤ p.many
  nb : 1 ≤ p.bs.length ∧ p.bs.length ≤ 3
  ln : ∀ b ∈ p.bs, b.1.length ≤ 4
  rw : ∀ b ∈ p.bs, ∀ r ∈ b.1, r.Ok p.many p.sp
  en : ∀ b ∈ p.bs, b.2.Ok p.many p.bs.length
def Below (s : Nat) (ns : List Int) : Prop := ∀ x ∈ ns, 0 ≤ x ∧ x < (s : Int)
structure St.Ok (p : Pg) (s : St) : Prop where
  b : s.b < p.bs.length
  i : ∀ blk, p.bs[s.b]? = some blk → s.i ≤ blk.1.length
  n : s.ns.length = p.many
  l : Below p.sp s.ns
/-- what comes next -/
def Pg.nx (p : Pg) (s : St) : It := match p.bs[s.b]? with
  | none => .fin .stop
  | some b => match b.1[s.i]? with
    | some r => .row r
    | none => .fin b.2
def nat (ns : List Int) (r : Nat) : Int := ns.getD r 0
def Rw.val (sp : Nat) (ns : List Int) (t : Option Int) : Rw → Int
  | .put _ x => x
  | .mv _ a => nat ns a
  | .add _ a b => (nat ns a + nat ns b) % (sp : Int)
  | .sub _ a b => (nat ns a - nat ns b) % (sp : Int)
  | .less _ a b => if nat ns a < nat ns b then 1 else 0
  | .take _ => t.getD 0
  | .tell _ => 0
def Rw.to : Rw → Option Nat
  | .put r _ | .mv r _ | .add r _ _ | .sub r _ _ | .less r _ _ | .take r => some r
  | .tell _ => none
def Pg.aft (p : Pg) (s : St) (t : Option Int) : St := match p.nx s with
  | .row r => match r.to with
    | some v => ⟨s.b, s.i + 1, s.ns.set v (r.val p.sp s.ns t)⟩
    | none => ⟨s.b, s.i + 1, s.ns⟩
  | .fin .stop => s
  | .fin (.go b) => ⟨b, 0, s.ns⟩
  | .fin (.part v a b) => ⟨if nat s.ns v = 0 then b else a, 0, s.ns⟩
/-- at such a word one halts -/
def Wd.halt : Wd → Bool
  | .take | .tell | .stop => true
  | _ => false
def Pg.settN (p : Pg) : Nat → List St → St → Option (Option St)
  | 0, _, _ => none
  | n + 1, seen, s => if (p.nx s).wd.halt = true then some (some s) else if s ∈ seen then some none else p.settN n (seen ++ [s]) (p.aft s none)
def Pg.sett (p : Pg) (s : St) : Option St := (p.settN 4000 [] s).getD none
def Pg.fst (p : Pg) (h : List Int) : St := ⟨0, 0, h ++ List.replicate (p.many - p.hd) 0⟩
def Pg.ev (p : Pg) : Option St → Wd × Option Int
  | none => (.silent, none)
  | some s => match p.nx s with
    | .row (.tell r) => (.tell, some (nat s.ns r))
    | it => (it.wd, none)
def Pg.fol (p : Pg) (o : Option St) (t : Option Int) : Option St := o.bind fun s => p.sett (p.aft s t)
abbrev Pr := Option St × Option St
def gr (p q : Pg) : Gr Pr where
  one x := decide (p.ev x.1 = q.ev x.2)
  tk x := decide ((p.ev x.1).1 = .take)
  nd x := decide ((p.ev x.1).1 = .stop) || decide ((p.ev x.1).1 = .silent)
  nx x t := (p.fol x.1 t, q.fol x.2 t)
  sp := p.sp
  hs := tups p.sp p.hd
  st h := (p.sett (p.fst h), q.sett (q.fst h))
/-! ### what is so of them -/
theorem nat_get {ns : List Int} {r : Nat} (h : r < ns.length) : ns[r]? = some (nat ns r) := by
  unfold nat
  rw [List.getD_eq_getElem?_getD, List.getElem?_eq_getElem h]
  rfl
theorem nat_below {s : Nat} {ns : List Int} {r : Nat} (b : Below s ns) (h : r < ns.length) : 0 ≤ nat ns r ∧ nat ns r < (s : Int) := b _ (List.mem_of_getElem? (nat_get h))
section
variable {p : Pg} {s : St}
theorem Pg.Ok.blk (O : p.Ok) (S : s.Ok p) : ∃ blk, p.bs[s.b]? = some blk ∧ blk ∈ p.bs ∧ s.i ≤ blk.1.length := by
  have e := List.getElem?_eq_getElem S.b
  exact ⟨_, e, List.mem_of_getElem? e, S.i _ e⟩
/-- the row or the end that comes next is one of the program -/
theorem nx_cases (O : p.Ok) (S : s.Ok p) : ∃ blk, p.bs[s.b]? = some blk ∧ blk ∈ p.bs ∧ ((∃ r, blk.1[s.i]? = some r ∧ p.nx s = .row r ∧ r.Ok p.many p.sp) ∨ (s.i = blk.1.length ∧ p.nx s = .fin blk.2 ∧ blk.2.Ok p.many p.bs.length)) := by
  obtain ⟨blk, e, m, l⟩ := O.blk S
  refine ⟨blk, e, m, ?_⟩
  unfold Pg.nx
  rw [e]
  cases h : blk.1[s.i]? with
  | none => exact .inr ⟨by have := List.getElem?_eq_none_iff.mp h; omega, by simp [h], O.en _ m⟩
  | some r => exact .inl ⟨r, rfl, by simp [h], O.rw _ m _ (List.mem_of_getElem? h)⟩
theorem nx_row (O : p.Ok) (S : s.Ok p) {r : Rw} (h : p.nx s = .row r) : r.Ok p.many p.sp ∧ ∃ blk, p.bs[s.b]? = some blk ∧ s.i < blk.1.length := by
  obtain ⟨blk, e, m, k⟩ := nx_cases O S
  rcases k with ⟨r', h1, h2, h3⟩ | ⟨_, h2, _⟩
  · rw [h] at h2
    cases h2
    exact ⟨h3, blk, e, (List.getElem?_eq_some_iff.mp h1).1⟩
  · rw [h] at h2
    cases h2
theorem nx_fin (O : p.Ok) (S : s.Ok p) {e : En} (h : p.nx s = .fin e) : e.Ok p.many p.bs.length := by
  obtain ⟨blk, e, m, k⟩ := nx_cases O S
  rcases k with ⟨r', h1, h2, h3⟩ | ⟨_, h2, k⟩
  · rw [h] at h2
    cases h2
  · rw [h] at h2
    cases h2
    exact k
theorem Below.set {sp : Nat} {ns : List Int} (b : Below sp ns) (r : Nat) {x : Int} (h : 0 ≤ x ∧ x < (sp : Int)) : Below sp (ns.set r x) := fun y hy => by
  rcases List.mem_or_eq_of_mem_set hy with q | q
  · exact b y q
  · rw [q]
    exact h
/-- what is taken may be taken -/
def TkOk (sp : Nat) (w : Wd) (t : Option Int) : Prop := w = .take → ∃ x, t = some x ∧ 0 ≤ x ∧ x < (sp : Int)
theorem val_below (O : p.Ok) {ns : List Int} (n : ns.length = p.many) (l : Below p.sp ns) {r : Rw} (R : r.Ok p.many p.sp) {t : Option Int} (T : TkOk p.sp r.wd t) : 0 ≤ r.val p.sp ns t ∧ r.val p.sp ns t < (p.sp : Int) := by
  have h2 := O.sp.1
  cases r with
  | put v x => exact R.2
  | mv v a => exact nat_below l (by rw [n]; exact R.2)
  | add v a b => exact ⟨Int.emod_nonneg _ (by omega), Int.emod_lt_of_pos _ (by omega)⟩
  | sub v a b => exact ⟨Int.emod_nonneg _ (by omega), Int.emod_lt_of_pos _ (by omega)⟩
  | less v a b =>
    show 0 ≤ (if nat ns a < nat ns b then (1 : Int) else 0) ∧ (if nat ns a < nat ns b then (1 : Int) else 0) < (p.sp : Int)
    split <;> omega
  | take v =>
    obtain ⟨x, e, h⟩ := T rfl
    rw [e]
    exact h
  | tell v => exact ⟨Int.le_refl _, by show (0 : Int) < _; omega⟩
theorem aft_ok (O : p.Ok) (S : s.Ok p) {t : Option Int} (T : TkOk p.sp (p.nx s).wd t) : (p.aft s t).Ok p := by
  unfold Pg.aft
  cases h : p.nx s with
  | row r =>
    obtain ⟨R, blk, e, l⟩ := nx_row O S h
    have L : ∀ blk', p.bs[s.b]? = some blk' → s.i + 1 ≤ blk'.1.length := fun blk' h => by
      rw [e] at h
      cases h
      exact l
    show St.Ok p (match r.to with
      | some v => ⟨s.b, s.i + 1, s.ns.set v (r.val p.sp s.ns t)⟩
      | none => ⟨s.b, s.i + 1, s.ns⟩)
    cases q : r.to with
    | none => exact ⟨S.b, L, S.n, S.l⟩
    | some v =>
      rw [h] at T
      exact ⟨S.b, L, by simp [S.n], S.l.set v (val_below O S.n S.l R T)⟩
  | fin e =>
    have E := nx_fin O S h
    have Z : ∀ b, b < p.bs.length → St.Ok p ⟨b, 0, s.ns⟩ := fun b hb => ⟨hb, fun _ _ => Nat.zero_le _, S.n, S.l⟩
    cases e with
    | stop => exact S
    | go b => exact Z b E.2
    | part v a b =>
      show St.Ok p ⟨if nat s.ns v = 0 then b else a, 0, s.ns⟩
      split
      · exact Z b E.2.2.2
      · exact Z a E.2.1.2
theorem fst_ok (O : p.Ok) {h : List Int} (H : h ∈ tups p.sp p.hd) : (p.fst h).Ok p := by
  obtain ⟨h1, h2⟩ := mem_tups.mp H
  have := O.nb
  have := O.hd
  have := O.sp
  refine ⟨by show 0 < _; omega, fun _ _ => Nat.zero_le _, by simp [Pg.fst]; omega, fun x hx => ?_⟩
  rcases List.mem_append.mp hx with hx | hx
  · exact h2 x hx
  · rw [List.eq_of_mem_replicate hx]
    omega
/-- all states -/
def allSt (p : Pg) : List St := (List.range 3).flatMap fun b => (List.range 5).flatMap fun i => (tups p.sp p.many).map fun ns => ⟨b, i, ns⟩
theorem mem_allSt (O : p.Ok) (S : s.Ok p) : s ∈ allSt p := by
  obtain ⟨blk, e, m, l⟩ := O.blk S
  have h1 := O.ln _ m
  have h2 := O.nb
  have h3 := S.b
  unfold allSt
  simp only [List.mem_flatMap, List.mem_map, List.mem_range]
  exact ⟨s.b, by omega, s.i, by omega, s.ns, mem_tups.mpr ⟨S.n, S.l⟩, rfl⟩
theorem allSt_len (O : p.Ok) : (allSt p).length ≤ 3840 := by
  have h1 := O.many.2
  have h2 := O.sp
  have h3 : p.sp ^ p.many ≤ 4 ^ 4 := Nat.le_trans (Nat.pow_le_pow_left h2.2 _) (Nat.pow_le_pow_right (by decide) h1)
  unfold allSt
  simp only [List.range, List.range.loop, List.flatMap_cons, List.flatMap_nil, List.length_append, List.length_map, List.length_nil, len_tups]
  omega
theorem settN_ends (O : p.Ok) : ∀ (n : Nat) (seen : List St) (s : St), s.Ok p → seen.Nodup → (∀ x ∈ seen, x.Ok p) → 3840 < n + seen.length → ∃ o, p.settN n seen s = some o
  | 0, seen, s, S, N, A, l => by
    have := pg_len N fun x hx => mem_allSt O (A x hx)
    have := allSt_len O
    omega
  | n + 1, seen, s, S, N, A, l => by
    unfold Pg.settN
    split
    · exact ⟨_, rfl⟩
    · split
      · exact ⟨_, rfl⟩
      · rename_i h1 h2
        refine settN_ends O n _ _ (aft_ok O S fun e => absurd (by rw [e]; rfl) h1) (List.nodup_append.mpr ⟨N, by simp, fun a ha b hb e => ?_⟩) (fun x hx => ?_) (by simp; omega)
        · rw [List.mem_singleton.mp hb] at e
          exact h2 (e ▸ ha)
        · rcases List.mem_append.mp hx with hx | hx
          · exact A x hx
          · rw [List.mem_singleton.mp hx]
            exact S
theorem sett_eq (O : p.Ok) (S : s.Ok p) : p.settN 4000 [] s = some (p.sett s) := by
  obtain ⟨o, h⟩ := settN_ends O 4000 [] s S (by simp) (fun x hx => (List.not_mem_nil hx).elim) (by simp)
  unfold Pg.sett
  rw [h]
  rfl
/-- a state at which it halts, or none -/
def SO (p : Pg) (o : Option St) : Prop := ∀ s, o = some s → s.Ok p ∧ (p.nx s).wd.halt = true
theorem settN_so (O : p.Ok) : ∀ (n : Nat) (seen : List St) (s : St), s.Ok p → ∀ o, p.settN n seen s = some o → SO p o
  | 0, seen, s, S, o, h => by simp [Pg.settN] at h
  | n + 1, seen, s, S, o, h => by
    unfold Pg.settN at h
    split at h
    · rename_i k
      cases h
      intro s' e
      cases e
      exact ⟨S, k⟩
    · split at h
      · cases h
        intro s' e
        cases e
      · rename_i h1 h2
        exact settN_so O n _ _ (aft_ok O S fun e => absurd (by rw [e]; rfl) h1) o h
theorem sett_so (O : p.Ok) (S : s.Ok p) : SO p (p.sett s) := settN_so O _ _ _ S _ (sett_eq O S)
theorem sett_halt (h : (p.nx s).wd.halt = true) : p.sett s = some s := by
  unfold Pg.sett
  rw [show (4000 : Nat) = 3999 + 1 from rfl, Pg.settN, if_pos h]
  rfl
theorem sett_self (O : p.Ok) (S : s.Ok p) : p.sett s = some s ↔ (p.nx s).wd.halt = true := ⟨fun h => (sett_so O S s h).2, sett_halt⟩
theorem fol_so (O : p.Ok) {o : Option St} (h : SO p o) {t : Option Int} (T : TkOk p.sp (p.ev o).1 t) : SO p (p.fol o t) := by
  cases o with
  | none => intro s e; cases e
  | some s =>
    have k := h s rfl
    refine sett_so O (aft_ok O k.1 fun e => T ?_)
    show (match p.nx s with
      | .row (.tell r) => (Wd.tell, some (nat s.ns r))
      | it => (it.wd, none)).1 = .take
    split
    · rename_i h2
      rw [h2] at e
      cases e
    · exact e
/-! ### pairs -/
structure Two (p q : Pg) : Prop where
  hd : p.hd = q.hd
  sp : p.sp = q.sp
  l : p.Ok
  r : q.Ok
def PrOk (p q : Pg) (x : Pr) : Prop := SO p x.1 ∧ SO q x.2
variable {q : Pg}
theorem st_ok (T : Two p q) {h : List Int} (H : h ∈ (gr p q).hs) : PrOk p q ((gr p q).st h) :=
  ⟨sett_so T.l (fst_ok T.l H), sett_so T.r (fst_ok T.r (by rw [← T.sp, ← T.hd]; exact H))⟩
theorem lat_ok (T : Two p q) {x : Pr} (X : PrOk p q x) (o : (gr p q).one x = true) {l : Option Int × Pr} (h : l ∈ (gr p q).lat x) : PrOk p q l.2 := by
  obtain ⟨n, e, k⟩ := lat_mem h
  rw [e]
  have o' : p.ev x.1 = q.ev x.2 := by simpa [gr] using o
  have t1 : TkOk p.sp (p.ev x.1).1 l.1 := by
    intro w
    rcases k with ⟨_, y, hy, e⟩ | ⟨k, _⟩
    · refine ⟨_, e, by omega, ?_⟩
      have : (gr p q).sp = p.sp := rfl
      omega
    · simp [gr, w] at k
  exact ⟨fol_so T.l X.1 t1, fol_so T.r X.2 (by rw [← T.sp, ← o']; exact t1)⟩
theorem its_ok (T : Two p q) : ∀ n : Nat, ∀ x ∈ kys ((gr p q).its n), PrOk p q x
  | 0 => by
    refine addF_inv (fun h : List Int => (((gr p q).st h, h, []) : Ent Pr)) (fun f => ∀ x ∈ kys f, PrOk p q x) (gr p q).hs [] (fun x h => (List.not_mem_nil h).elim) fun f F h hh n x hx => ?_
    simp only [kys, List.map_append, List.mem_append] at hx
    rcases hx with hx | hx
    · exact F x hx
    · rw [List.mem_singleton.mp hx]
      exact st_ok T hh
  | n + 1 => by
    have F := its_ok T n
    show ∀ x ∈ kys ((gr p q).stp ((gr p q).its n) n), PrOk p q x
    unfold Gr.stp
    split
    · exact F
    · rename_i e he
      split
      · rename_i o
        have E := F e.1 (List.mem_map_of_mem (List.mem_of_getElem? he))
        refine addF_inv (fun l : Option Int × Pr => ((l.2, e.2.1, app1 e.2.2 l.1) : Ent Pr)) (fun f => ∀ x ∈ kys f, PrOk p q x) ((gr p q).lat e.1) ((gr p q).its n) F fun f F l hl n x hx => ?_
        simp only [kys, List.map_append, List.mem_append] at hx
        rcases hx with hx | hx
        · exact F x hx
        · rw [List.mem_singleton.mp hx]
          exact lat_ok T E o hl
      · exact F
theorem src_len (T : p.Ok) : ((gr p q).its 0).length ≤ 16 := by
  have h : ∀ (l : List (List Int)) (f : List (Ent Pr)), (l.foldl (fun f h => addE f ((gr p q).st h, h, [])) f).length ≤ f.length + l.length := fun l => by
    induction l with
    | nil => intro f; simp
    | cons a l ih =>
      intro f
      rw [List.foldl_cons]
      refine Nat.le_trans (ih _) ?_
      have : (addE f ((gr p q).st a, a, [])).length ≤ f.length + 1 := by
        unfold addE
        split <;> simp
      simp
      omega
  have h2 := h (tups p.sp p.hd) []
  rw [len_tups] at h2
  have : p.sp ^ p.hd ≤ 4 ^ 2 := Nat.le_trans (Nat.pow_le_pow_left T.sp.2 _) (Nat.pow_le_pow_right (by decide) T.hd.1)
  show (List.foldl (fun f h => addE f ((gr p q).st h, h, [])) [] (tups p.sp p.hd)).length ≤ _
  simp at h2
  omega
end
end Rr
set_option maxHeartbeats 8000000
/-! registerrooms, the plain law: how the mirrors compute. -/
namespace Rr
open PySem PySem.Spec PyProof.Rows L2
section
variable {ρ : Env} {a b d : WE} {t u : WT} {f g : WS} {ws : WA} {i j l : Nat}
@[simp] theorem x_fnW (n m : Nat) (ds : List D) : fnW n m f ds = .chk (ds.length = n) ((f (ds.map some ++ List.replicate m none)).bind retK) := rfl
@[simp] theorem x_retK_rt (d : D) : retK (.rt d) = .ret d := rfl
@[simp] theorem x_retK_nx (ρ : Env) : retK (.nx ρ) = .ret .non := rfl
@[simp] theorem x_seq : wSeq f g ρ = (f ρ).bind (seqK g) := rfl
@[simp] theorem x_seqK_nx (ρ : Env) : seqK g (.nx ρ) = g ρ := rfl
@[simp] theorem x_seqK_rt (d : D) : seqK g (.rt d) = .ret (.rt d) := rfl
@[simp] theorem x_next : wNext ρ = .ret (.nx ρ) := rfl
@[simp] theorem x_ret : wRet a ρ = (a ρ).bind fun d => .ret (.rt d) := rfl
@[simp] theorem x_ifS : wIfS t f g ρ = (t ρ).bind fun b => if b = true then f ρ else g ρ := rfl
@[simp] theorem x_do : wDo a ρ = (a ρ).bind fun _ => .ret (.nx ρ) := rfl
@[simp] theorem x_asg (s : SetD) (is : List Nat) : wAsg a s is ρ = (a ρ).bind fun d => (s d).bind fun ds => .ret (.nx (setA ρ is ds)) := rfl
@[simp] theorem x_new : wNew a i ρ = (a ρ).bind fun d => .ret (.nx (ρ.set i (some d))) := rfl
@[simp] theorem x_never : wNever ρ = .fail := rfl
@[simp] theorem x_wB : wB a ρ = (a ρ).bind asB := rfl
@[simp] theorem x_and : wAnd t u ρ = (t ρ).bind fun b => if b = true then u ρ else .ret false := rfl
@[simp] theorem x_or : wOr t u ρ = (t ρ).bind fun b => if b = true then .ret true else u ρ := rfl
@[simp] theorem x_not : wNot t ρ = (t ρ).bind fun b => .ret (!b) := rfl
@[simp] theorem x_if : wIf t a b ρ = (t ρ).bind fun k => if k = true then a ρ else b ρ := rfl
@[simp] theorem x_andV : wAndV a b ρ = (a ρ).bind fun x => (asB x).bind fun k => if k = true then b ρ else .ret (.bl false) := rfl
@[simp] theorem x_orV : wOrV a b ρ = (a ρ).bind fun x => (asB x).bind fun k => if k = true then .ret (.bl true) else b ρ := rfl
@[simp] theorem x_notV : wNotV a ρ = (a ρ).bind fun x => (asB x).bind fun k => .ret (.bl (!k)) := rfl
@[simp] theorem x_asB (k : Bool) : asB (.bl k) = .ret k := rfl
@[simp] theorem x_nil : wNil ρ = .ret [] := rfl
@[simp] theorem x_cons : wCons a ws ρ = (a ρ).bind fun d => (ws ρ).bind fun ds => .ret (d :: ds) := rfl
@[simp] theorem x_star : wStar a ws ρ = (a ρ).bind fun d => (itemsD d).bind fun es => (ws ρ).bind fun ds => .ret (es ++ ds) := rfl
@[simp] theorem x_items_t (ds : List D) : itemsD (.tup ds) = .ret ds := rfl
@[simp] theorem x_items_l (ds : List D) : itemsD (.lst ds) = .ret ds := rfl
@[simp] theorem x_tup : wTup ws ρ = (ws ρ).bind fun ds => .chk (ds.length ≤ 16777216) (.ret (.tup ds)) := rfl
@[simp] theorem x_lst : wLst ws ρ = (ws ρ).bind fun ds => .chk (ds.length ≤ 16777216) (.ret (.lst ds)) := rfl
@[simp] theorem x_call (F : List D → Wp D) : wCall F ws ρ = (ws ρ).bind F := rfl
@[simp] theorem x_op (h : D → D → Wp D) : wOp h a b ρ = (a ρ).bind fun x => (b ρ).bind fun y => h x y := rfl
@[simp] theorem x_C (d : D) : wC d ρ = .ret d := rfl
@[simp] theorem x_map (h : D → Wp D) : wMap h a ρ = (a ρ).bind h := rfl
@[simp] theorem x_mk {α : Type} (W : List Nat) (w : Env → Wp α) : mk W w ρ = w (wipeE ρ W) := rfl
@[simp] theorem x_wipe0 : wipeE ρ [] = ρ := rfl
@[simp] theorem x_wipe1 (v : Nat) (vs : List Nat) : wipeE ρ (v :: vs) = (wipeE ρ vs).set v none := rfl
@[simp] theorem x_fl : fl a ρ = (a ρ).bind fun d => .chk (D.fl d = true) (.ret d) := rfl
@[simp] theorem x_setN (d : D) : setN d = .ret [d] := rfl
@[simp] theorem x_chain (h k : D → D → Wp D) : wChain h k a b d ρ = (a ρ).bind fun x => (b ρ).bind fun y => (h x y).bind fun z => (asB z).bind fun q => if q = true then (d ρ).bind fun u => k y u else .ret (.bl false) := rfl
theorem x_var (i : Nat) : wVar i ρ = match ρ[i]? with
  | some (some d) => .ret d
  | _ => .fail := rfl
end
/-! ### operators on data -/
section
variable {i j : Int} {x y : Str} {as bs : List D}
@[simp] theorem x_add_i : addD (.int i) (.int j) = .ret (.int (i + j)) := rfl
@[simp] theorem x_add_t : addD (.tup as) (.tup bs) = .chk (as.length + bs.length ≤ 16777216) (.ret (.tup (as ++ bs))) := rfl
@[simp] theorem x_add_l : addD (.lst as) (.lst bs) = .chk (as.length + bs.length ≤ 16777216) (.ret (.lst (as ++ bs))) := rfl
@[simp] theorem x_sub : subD (.int i) (.int j) = .ret (.int (i - j)) := rfl
@[simp] theorem x_mod : modD (.int i) (.int j) = .chk (0 < j) (.ret (.int (i % j))) := rfl
@[simp] theorem x_lt : ltD (.int i) (.int j) = .ret (.bl (decide (i < j))) := rfl
@[simp] theorem x_le : leD (.int i) (.int j) = .ret (.bl (decide (i ≤ j))) := rfl
@[simp] theorem x_gt : gtD (.int i) (.int j) = .ret (.bl (decide (j < i))) := rfl
@[simp] theorem x_neg : wNeg (wC (.int i)) = fun _ => .ret (.int (-i)) := rfl
theorem ok_int : (D.int i).ok := ⟨rfl, Nat.zero_le _⟩
theorem ok_non : D.non.ok := ⟨rfl, Nat.zero_le _⟩
theorem ok_str (h : PyData.strOk x = true) : (D.str x).ok := ⟨h, Nat.zero_le _⟩
theorem eq_ii : eqD (.int i) (.int j) = .ret (.bl (decide (i = j))) := by
  show Wp.chk _ _ = _
  rw [Wp.chk_of ⟨ok_int, ok_int⟩]
  simp
theorem eq_ss (h1 : PyData.strOk x = true) (h2 : PyData.strOk y = true) : eqD (.str x) (.str y) = .ret (.bl (decide (x = y))) := by
  show Wp.chk _ _ = _
  rw [Wp.chk_of ⟨ok_str h1, ok_str h2⟩]
  simp
theorem eq_tt (h1 : (D.tup as).ok) (h2 : (D.tup bs).ok) : eqD (.tup as) (.tup bs) = .ret (.bl (decide (as = bs))) := by
  show Wp.chk _ _ = _
  rw [Wp.chk_of ⟨h1, h2⟩]
  simp
theorem ne_tt (h1 : (D.tup as).ok) (h2 : (D.tup bs).ok) : neD (.tup as) (.tup bs) = .ret (.bl (!decide (as = bs))) := by
  show Wp.chk _ _ = _
  rw [Wp.chk_of ⟨h1, h2⟩]
  simp
@[simp] theorem eq_bb (a b : Bool) : eqD (.bl a) (.bl b) = .ret (.bl (a == b)) := rfl
@[simp] theorem ne_bb (a b : Bool) : neD (.bl a) (.bl b) = .ret (.bl (!(a == b))) := rfl
@[simp] theorem x_ix_t : ixD (.tup as) (.int i) = .opt (atI as i) := rfl
@[simp] theorem x_ix_l : ixD (.lst as) (.int i) = .opt (atI as i) := rfl
@[simp] theorem x_len_t : lenA [.tup as] = .ret (.int as.length) := rfl
@[simp] theorem x_len_l : lenA [.lst as] = .ret (.int as.length) := rfl
@[simp] theorem x_len_d : lenA [.dct as bs] = .ret (.int as.length) := rfl
end
end Rr
/-! registerrooms, the plain law: programs, states, pairs as data. -/
namespace Rr
open PySem PySem.Spec PyProof.Rows L2
abbrev ni (n : Nat) : D := .int (n : Int)
def Wd.s : Wd → Str
  | .put => "put" | .move => "move" | .add => "add" | .sub => "sub" | .less => "less" | .take => "take" | .tell => "tell" | .stop => "stop" | .go => "go" | .part => "part" | .silent => "silent"
theorem Wd.ok (a : Wd) : PyData.strOk a.s = true := by cases a <;> decide +kernel
theorem Wd.inj {a b : Wd} (h : a.s = b.s) : a = b := by
  cases a <;> cases b <;> first | rfl | exact absurd h (by decide +kernel)
theorem Wd.dec (a b : Wd) : decide (a.s = b.s) = decide (a = b) := by
  by_cases h : a = b
  · simp [h]
  · rw [decide_eq_false h, decide_eq_false fun e => h (Wd.inj e)]
theorem eq_w (a b : Wd) : eqD (.str a.s) (.str b.s) = .ret (.bl (decide (a = b))) := by rw [eq_ss a.ok b.ok, Wd.dec]
theorem ne_ss {x y : Str} (h1 : PyData.strOk x = true) (h2 : PyData.strOk y = true) : neD (.str x) (.str y) = .ret (.bl (!decide (x = y))) := by
  show Wp.chk _ _ = _
  rw [Wp.chk_of ⟨ok_str h1, ok_str h2⟩]
  simp
theorem ne_w (a b : Wd) : neD (.str a.s) (.str b.s) = .ret (.bl (!decide (a = b))) := by rw [ne_ss a.ok b.ok, Wd.dec]
theorem in_st {x : Str} {ds : List D} : inD (.str x) (.tup ds) = .chk (ds.all isS = true) (.ret (.bl (decide (D.str x ∈ ds)))) := rfl
theorem nin_st {x : Str} {ds : List D} : ninD (.str x) (.tup ds) = .chk (ds.all isS = true) (.ret (.bl (!decide (D.str x ∈ ds)))) := rfl
section
variable (a : Wd)
@[simp] theorem eqw_put : eqD (.str a.s) (.str "put") = .ret (.bl (decide (a = .put))) := eq_w a .put
@[simp] theorem eqw_move : eqD (.str a.s) (.str "move") = .ret (.bl (decide (a = .move))) := eq_w a .move
@[simp] theorem eqw_add : eqD (.str a.s) (.str "add") = .ret (.bl (decide (a = .add))) := eq_w a .add
@[simp] theorem eqw_less : eqD (.str a.s) (.str "less") = .ret (.bl (decide (a = .less))) := eq_w a .less
@[simp] theorem eqw_take : eqD (.str a.s) (.str "take") = .ret (.bl (decide (a = .take))) := eq_w a .take
@[simp] theorem eqw_tell : eqD (.str a.s) (.str "tell") = .ret (.bl (decide (a = .tell))) := eq_w a .tell
@[simp] theorem eqw_stop : eqD (.str a.s) (.str "stop") = .ret (.bl (decide (a = .stop))) := eq_w a .stop
@[simp] theorem eqw_go : eqD (.str a.s) (.str "go") = .ret (.bl (decide (a = .go))) := eq_w a .go
@[simp] theorem eqw_part : eqD (.str a.s) (.str "part") = .ret (.bl (decide (a = .part))) := eq_w a .part
@[simp] theorem new_part : neD (.str a.s) (.str "part") = .ret (.bl (!decide (a = .part))) := ne_w a .part
theorem inw2 (b c : Wd) : inD (.str a.s) (.tup [.str b.s, .str c.s]) = .ret (.bl (decide (a = b) || decide (a = c))) := by
  rw [in_st, Wp.chk_of (by rfl), ← Wd.dec a b, ← Wd.dec a c]
  simp
theorem inw3 (b c d : Wd) : inD (.str a.s) (.tup [.str b.s, .str c.s, .str d.s]) = .ret (.bl (decide (a = b) || (decide (a = c) || decide (a = d)))) := by
  rw [in_st, Wp.chk_of (by rfl), ← Wd.dec a b, ← Wd.dec a c, ← Wd.dec a d]
  simp
theorem ninw3 (b c d : Wd) : ninD (.str a.s) (.tup [.str b.s, .str c.s, .str d.s]) = .ret (.bl (!(decide (a = b) || (decide (a = c) || decide (a = d))))) := by
  rw [nin_st, Wp.chk_of (by rfl), ← Wd.dec a b, ← Wd.dec a c, ← Wd.dec a d]
  simp
@[simp] theorem inw_gp : inD (.str a.s) (.tup [.str "go", .str "part"]) = .ret (.bl (decide (a = .go) || decide (a = .part))) := inw2 a .go .part
@[simp] theorem inw_ss : inD (.str a.s) (.tup [.str "stop", .str "silent"]) = .ret (.bl (decide (a = .stop) || decide (a = .silent))) := inw2 a .stop .silent
@[simp] theorem inw_as : inD (.str a.s) (.tup [.str "add", .str "sub"]) = .ret (.bl (decide (a = .add) || decide (a = .sub))) := inw2 a .add .sub
@[simp] theorem inw_tt : inD (.str a.s) (.tup [.str "take", .str "tell"]) = .ret (.bl (decide (a = .take) || decide (a = .tell))) := inw2 a .take .tell
theorem halt_eq : a.halt = (decide (a = .take) || (decide (a = .tell) || decide (a = .stop))) := by cases a <;> rfl
@[simp] theorem inw_h : inD (.str a.s) (.tup [.str "take", .str "tell", .str "stop"]) = .ret (.bl a.halt) := by rw [halt_eq]; exact inw3 a .take .tell .stop
@[simp] theorem ninw_h : ninD (.str a.s) (.tup [.str "take", .str "tell", .str "stop"]) = .ret (.bl (!a.halt)) := by rw [halt_eq]; exact ninw3 a .take .tell .stop
end
def Rw.args : Rw → List D
  | .put r x => [ni r, .int x]
  | .mv r s => [ni r, ni s]
  | .add r s t => [ni r, ni s, ni t]
  | .sub r s t => [ni r, ni s, ni t]
  | .less r s t => [ni r, ni s, ni t]
  | .take r => [ni r]
  | .tell r => [ni r]
def En.args : En → List D
  | .stop => []
  | .go t => [ni t]
  | .part v a b => [ni v, ni a, ni b]
def It.args : It → List D
  | .row r => r.args
  | .fin e => e.args
def Rw.d (r : Rw) : D := .tup (.str r.wd.s :: r.args)
def En.d (e : En) : D := .tup (.str e.wd.s :: e.args)
def It.d (i : It) : D := .tup (.str i.wd.s :: i.args)
@[simp] theorem It.d_row (r : Rw) : (It.row r).d = r.d := rfl
@[simp] theorem It.d_fin (e : En) : (It.fin e).d = e.d := rfl
def bd1 (b : List Rw × En) : D := .tup [.tup (b.1.map Rw.d), b.2.d]
def Pg.bd (p : Pg) : D := .tup (p.bs.map bd1)
def Pg.prg (p : Pg) : D := .prg p.many p.bd p.hd p.sp
def Pg.pl (p : Pg) : D := .tup [ni p.many, p.bd, ni p.hd, ni p.sp]
def tns (ns : List Int) : D := .tup (ns.map .int)
def St.d (s : St) : D := .tup [ni s.b, ni s.i, tns s.ns]
def so : Option St → D
  | none => .non
  | some s => s.d
def prd (x : Pr) : D := .tup [so x.1, so x.2]
def tkd : Option Int → D
  | none => .non
  | some x => .int x
/-! ### places -/
theorem atI_nat {α : Type} {xs : List α} {i : Nat} {x : α} (h : xs[i]? = some x) : atI xs (i : Int) = some x := by
  have l := (List.getElem?_eq_some_iff.mp h).1
  unfold atI ixN
  rw [if_pos (by omega), if_pos (by omega)]
  show xs[((i : Int)).toNat]? = some x
  rw [Int.toNat_natCast]
  exact h
@[simp] theorem atI_0 {α : Type} {x : α} {xs : List α} : atI (x :: xs) 0 = some x := atI_nat (i := 0) rfl
@[simp] theorem atI_1 {α : Type} {x y : α} {xs : List α} : atI (x :: y :: xs) 1 = some y := atI_nat (i := 1) rfl
@[simp] theorem atI_2 {α : Type} {x y z : α} {xs : List α} : atI (x :: y :: z :: xs) 2 = some z := atI_nat (i := 2) rfl
@[simp] theorem atI_3 {α : Type} {x y z t : α} {xs : List α} : atI (x :: y :: z :: t :: xs) 3 = some t := atI_nat (i := 3) rfl
theorem atI_neg1 {α : Type} {xs : List α} {x : α} (h : xs[xs.length - 1]? = some x) : atI xs (-1) = some x := by
  have l := (List.getElem?_eq_some_iff.mp h).1
  unfold atI ixN
  have e1 : ¬ (0 : Int) ≤ -1 := by decide
  rw [if_neg e1, if_pos (by omega)]
  show xs[((-1 + (xs.length : Int))).toNat]? = some x
  have e2 : ((-1 + (xs.length : Int))).toNat = xs.length - 1 := by omega
  rw [e2]
  exact h
theorem atI_neg2 {α : Type} {xs : List α} {x : α} (h : xs[xs.length - 2]? = some x) (h2 : 2 ≤ xs.length) : atI xs (-2) = some x := by
  unfold atI ixN
  have e1 : ¬ (0 : Int) ≤ -2 := by decide
  rw [if_neg e1, if_pos (by omega)]
  show xs[((-2 + (xs.length : Int))).toNat]? = some x
  have e2 : ((-2 + (xs.length : Int))).toNat = xs.length - 2 := by omega
  rw [e2]
  exact h
theorem atI_mp {α β : Type} (f : α → β) {xs : List α} {i : Nat} {x : α} (h : xs[i]? = some x) : atI (xs.map f) (i : Int) = some (f x) := atI_nat (by rw [List.getElem?_map, h]; rfl)
theorem at_ns {ns : List Int} {r : Nat} (h : r < ns.length) : atI (ns.map D.int) (r : Int) = some (.int (nat ns r)) := atI_mp D.int (nat_get h)
theorem cut_to {xs : List D} {k : Nat} (h : k ≤ xs.length) : cutD xs none (some (k : Int)) = xs.take k := by
  unfold cutD
  rw [HT.sIx_nat, HT.sIx_none, Nat.min_eq_left h]
  simp
theorem cut_from {xs : List D} {k : Nat} (h : k ≤ xs.length) : cutD xs (some (k : Int)) none = xs.drop k := by
  unfold cutD
  rw [HT.sIx_nat, HT.sIx_none, Nat.min_eq_left h]
  exact List.take_of_length_le (by simp)
@[simp] theorem x_sl {a : WE} {l u : Env → Wp (Option Int)} {ρ : Env} : wSl a l u ρ = (a ρ).bind fun d => (l ρ).bind fun lo => (u ρ).bind fun hi => slD d lo hi := rfl
@[simp] theorem x_no {ρ : Env} : wNo ρ = .ret none := rfl
@[simp] theorem x_pt {w : WE} {ρ : Env} : wPt w ρ = (w ρ).bind partD := rfl
@[simp] theorem x_part {i : Int} : partD (.int i) = .ret (some i) := rfl
@[simp] theorem x_sl_t {ds : List D} {lo hi : Option Int} : slD (.tup ds) lo hi = .ret (.tup (cutD ds lo hi)) := rfl
@[simp] theorem x_sl_l {ds : List D} {lo hi : Option Int} : slD (.lst ds) lo hi = .ret (.lst (cutD ds lo hi)) := rfl
@[simp] theorem x_rev {a : WE} {ρ : Env} : wRev a ρ = (a ρ).bind revD := rfl
@[simp] theorem x_revD {ds : List D} : revD (.lst ds) = .ret (.lst ds.reverse) := rfl
@[simp] theorem x_meth {F : List D → Wp D} {a : WE} {wa : WA} {ρ : Env} : wMeth F a wa ρ = (a ρ).bind fun d => match d with
  | .prg m b h s => (wa ρ).bind fun ds => F (.prg m b h s :: ds)
  | _ => .fail := rfl
@[simp] theorem x_callN {F : List D → Wp D} {wa : WA} {ρ : Env} : wCallN F wa ρ = (wa ρ).bind fun ds => F (ds ++ [.non]) := rfl
@[simp] theorem x_par2 {i j : Nat} {wa : WA} {ρ : Env} : wPar2 i j wa ρ = (wa ρ).bind (par2 i j ρ) := rfl
@[simp] theorem x_par2k {i j : Nat} {ρ : Env} {d e : D} : par2 i j ρ [d, e] = .ret (.nx ((ρ.set i (some d)).set j (some e))) := rfl
@[simp] theorem x_par3 {i j l : Nat} {wa : WA} {ρ : Env} : wPar3 i j l wa ρ = (wa ρ).bind (par3 i j l ρ) := rfl
@[simp] theorem x_par3k {i j l : Nat} {ρ : Env} {d e f : D} : par3 i j l ρ [d, e, f] = .ret (.nx (((ρ.set i (some d)).set j (some e)).set l (some f))) := rfl
@[simp] theorem x_par2o {i j : Nat} {a b : WE} {ρ : Env} : wPar2o i j a b ρ = (a ρ).bind fun d => (b ρ).bind fun e => .ret (.nx ((ρ.set i (some d)).set j (some e))) := rfl
@[simp] theorem x_par3o {i j l : Nat} {a b f : WE} {ρ : Env} : wPar3o i j l a b f ρ = (a ρ).bind fun d => (b ρ).bind fun e => (f ρ).bind fun g => .ret (.nx (((ρ.set i (some d)).set j (some e)).set l (some g))) := rfl
@[simp] theorem x_paro2 {i j : Nat} {a b : WE} {ρ : Env} : wParo2 i j a b ρ = (a ρ).bind fun d => (b (ρ.set i (some d))).bind fun e => .ret (.nx ((ρ.set i (some d)).set j (some e))) := rfl
@[simp] theorem x_setCons {n : Nat} {f : SetD} {g : List D → Wp (List D)} {d : D} {ds : List D} : setCons n f g (d :: ds) = (f d).bind fun xs => .chk (xs.length = n) ((g ds).bind fun ys => .ret (xs ++ ys)) := rfl
@[simp] theorem x_setNil : setNil [] = .ret [] := rfl
@[simp] theorem x_setT {n : Nat} {f : List D → Wp (List D)} {ds : List D} : setT n f (.tup ds) = .chk (ds.length = n) (f ds) := rfl
@[simp] theorem x_setA0 {ρ : Env} : setA ρ [] [] = ρ := rfl
@[simp] theorem x_setA1 {ρ : Env} {i : Nat} {is : List Nat} {v : D} {vs : List D} : setA ρ (i :: is) (v :: vs) = setA (ρ.set i (some v)) is vs := rfl
theorem isi_of {T t : String} {d : D} {b : Bool} (h1 : tyN d = some t) (h2 : L2.kitB t T = some b) : isiT T d = .ret (.bl b) := by
  unfold isiT
  rw [h1, Wp.opt_some, Wp.ret_bind, h2, Wp.opt_some, Wp.ret_bind]
@[simp] theorem isi_ii (x : Int) : isiT "int" (.int x) = .ret (.bl true) := isi_of rfl (by kernel_rfl)
@[simp] theorem isi_bi (x : Int) : isiT "bool" (.int x) = .ret (.bl false) := isi_of rfl (by kernel_rfl)
@[simp] theorem isi_bn : isiT "bool" .non = .ret (.bl false) := isi_of rfl (by kernel_rfl)
@[simp] theorem isi_tt (x : List D) : isiT "tuple" (.tup x) = .ret (.bl true) := isi_of rfl (by kernel_rfl)
@[simp] theorem isi_ss (x : Str) : isiT "str" (.str x) = .ret (.bl true) := isi_of rfl (by kernel_rfl)
@[simp] theorem x_isi (T : String) (a : WE) (ρ : Env) : wIsi T a ρ = (a ρ).bind (isiT T) := rfl
theorem is_integer_i (x lo hi : Int) : F_is_integer [.int x, .int lo, .int hi] = .ret (.bl (decide (lo ≤ x) && decide (x ≤ hi))) := by
  simp [F_is_integer, b_is_integer, x_var]
  by_cases h : lo ≤ x <;> simp [h]
end Rr
/-! registerrooms, the plain law: one step of a program, both ways. -/
namespace Rr
open PySem PySem.Spec PyProof.Rows L2
section
variable {p : Pg} {b : Nat} {blk : List Rw × En}
theorem getitem_p (hb : p.bs[b]? = some blk) : F_getitem [p.prg, ni b] = .ret (bd1 blk) := by
  have l := (List.getElem?_eq_some_iff.mp hb).1
  have e : atI (p.bs.map bd1) (b : Int) = some (bd1 blk) := atI_mp bd1 hb
  have l1 : (b : Int) ≤ (p.bs.length : Int) - 1 := by omega
  simp [F_getitem, b_Blocks_getitem, x_var, Pg.prg, Pg.bd, fBlocks, ni, is_integer_i, l1, e]
theorem rows_p (hb : p.bs[b]? = some blk) : F_rows [p.prg, ni b] = .ret (.tup (blk.1.map Rw.d)) := by
  have e : atI [D.tup (blk.1.map Rw.d), blk.2.d] (-2) = some (.tup (blk.1.map Rw.d)) := atI_neg2 rfl (by simp)
  have g := getitem_p hb
  unfold Pg.prg at g
  simp [F_rows, b_Blocks_rows, x_var, Pg.prg, wSubP, g, bd1, e]
theorem end_p (hb : p.bs[b]? = some blk) : F_end [p.prg, ni b] = .ret blk.2.d := by
  have e : atI [D.tup (blk.1.map Rw.d), blk.2.d] (-1) = some blk.2.d := atI_neg1 rfl
  have g := getitem_p hb
  unfold Pg.prg at g
  simp [F_end, b_Blocks_end, x_var, Pg.prg, wSubP, g, bd1, e]
end
section
variable {p : Pg} {s : St}
theorem next_p (O : p.Ok) (S : s.Ok p) : F_what_is_next [p.prg, s.d] = .ret (p.nx s).d := by
  obtain ⟨blk, hb, _, h⟩ := nx_cases O S
  have r := rows_p hb
  have e := end_p hb
  unfold Pg.prg ni at r e
  rcases h with ⟨r1, hi, h, _⟩ | ⟨hi, h, _⟩
  · have l := (List.getElem?_eq_some_iff.mp hi).1
    have a : atI (blk.1.map Rw.d) (s.i : Int) = some r1.d := atI_mp Rw.d hi
    have l2 : (s.i : Int) < (blk.1.length : Int) := by omega
    simp [F_what_is_next, b_what_is_next, x_var, Pg.prg, St.d, ni, a, r, l2, h]
  · have l2 : ¬ (s.i : Int) < (blk.1.length : Int) := by omega
    simp [F_what_is_next, b_what_is_next, x_var, Pg.prg, St.d, ni, r, e, l2, h]
theorem coming_p (O : p.Ok) (S : s.Ok p) : F__law_coming [p.pl, s.d] = .ret (p.nx s).d := by
  obtain ⟨blk, hb, m, h⟩ := nx_cases O S
  have z := O.ln _ m
  have z2 : blk.1.length ≤ 16777215 := by omega
  have a1 : atI (p.bs.map bd1) (s.b : Int) = some (bd1 blk) := atI_mp bd1 hb
  have a2 : atI (blk.1.map Rw.d ++ [blk.2.d]) (s.i : Int) = some (p.nx s).d := by
    refine atI_nat ?_
    rcases h with ⟨rw1, hi, h, _⟩ | ⟨hi, h, _⟩
    · have l := (List.getElem?_eq_some_iff.mp hi).1
      rw [List.getElem?_append_left (by simpa using l), List.getElem?_map, hi, h]; rfl
    · rw [hi, List.getElem?_append_right (by simp), h]; simp
  simp [F__law_coming, b__law_coming, x_var, Pg.pl, Pg.bd, St.d, ni, a1, bd1, a2, z2]
theorem It.ix0 (i : It) : ixD i.d (.int 0) = .ret (.str i.wd.s) := by simp [It.d]
theorem takes_p (O : p.Ok) (S : s.Ok p) : F_takes_next [p.prg, s.d] = .ret (.bl (decide ((p.nx s).wd = .take))) := by
  simp [F_takes_next, b_takes_next, x_var, next_p O S, It.ix0]
theorem with_p {ns : List Int} {r : Nat} {x : Int} (h : r < ns.length) (l : ns.length ≤ 4) : F_with_number [tns ns, ni r, .int x] = .ret (tns (ns.set r x)) := by
  have e1 : cutD (ns.map D.int) none (some (r : Int)) = (ns.map D.int).take r := cut_to (by simp; omega)
  have e2 : cutD (ns.map D.int) (some ((r : Int) + 1)) none = (ns.map D.int).drop (r + 1) := by
    rw [← cut_from (by simp; omega)]
    rfl
  have e3 : (ns.map D.int).take r ++ D.int x :: (ns.map D.int).drop (r + 1) = (ns.set r x).map D.int := by
    rw [List.set_eq_take_append_cons_drop, if_pos h]
    simp
  have e4 : ((ns.map D.int).take r ++ D.int x :: (ns.map D.int).drop (r + 1)).length ≤ 16777216 := by
    rw [e3]
    simp
    omega
  simp only [List.length_append, List.length_cons, List.length_take, List.length_drop, List.length_map] at e4
  simp [F_with_number, b_with_number, x_var, tns, ni, e1, e2, e3]
  exact Wp.chk_of (by omega) _
theorem value_p (O : p.Ok) {ns : List Int} (n : ns.length = p.many) {r : Rw} (R : r.Ok p.many p.sp) (h1 : r.wd ≠ .take) (h2 : r.wd ≠ .tell) (t : Option Int) : F_value_of [p.prg, r.d, tns ns] = .ret (.int (r.val p.sp ns t)) := by
  have h3 := O.sp.1
  have h4 : 0 < p.sp := by omega
  cases r with
  | put v x => simp [F_value_of, b_value_of, x_var, Rw.d, Rw.wd, Rw.args, Rw.val]
  | mv v a => simp [F_value_of, b_value_of, x_var, Rw.d, Rw.wd, Rw.args, Rw.val, tns, ni, at_ns (ns := ns) (r := a) (by rw [n]; exact R.2)]
  | add v a b => simp [F_value_of, b_value_of, x_var, Rw.d, Rw.wd, Rw.args, Rw.val, tns, ni, at_ns (ns := ns) (r := a) (by rw [n]; exact R.2.1), at_ns (ns := ns) (r := b) (by rw [n]; exact R.2.2), Pg.prg, fSpan, h4]
  | sub v a b => simp [F_value_of, b_value_of, x_var, Rw.d, Rw.wd, Rw.args, Rw.val, tns, ni, at_ns (ns := ns) (r := a) (by rw [n]; exact R.2.1), at_ns (ns := ns) (r := b) (by rw [n]; exact R.2.2), Pg.prg, fSpan, h4]
  | less v a b =>
    simp [F_value_of, b_value_of, x_var, Rw.d, Rw.wd, Rw.args, Rw.val, tns, ni, at_ns (ns := ns) (r := a) (by rw [n]; exact R.2.1), at_ns (ns := ns) (r := b) (by rw [n]; exact R.2.2)]
    split <;> rfl
  | take v => exact absurd rfl h1
  | tell v => exact absurd rfl h2
theorem entered_p {a b c : D} : F_entered [p.prg, a, b, c] = .ret a := by simp [F_entered, b_Program_entered, x_var]
theorem targets_go (t : Nat) : F_targets_of [(En.go t).d] = .ret (.tup [ni t]) := by simp [F_targets_of, b_targets_of, x_var, En.d, En.wd, En.args]
theorem targets_part (v a b : Nat) : F_targets_of [(En.part v a b).d] = .ret (.tup [ni a, ni b]) := by simp [F_targets_of, b_targets_of, x_var, En.d, En.wd, En.args]
theorem targets_stop : F_targets_of [En.stop.d] = .ret (.tup []) := by simp [F_targets_of, b_targets_of, x_var, En.d, En.wd, En.args]
theorem it_row (r : Rw) : (It.row r).d = .tup (.str r.wd.s :: r.args) := rfl
theorem stepped_p (O : p.Ok) (S : s.Ok p) {t : Option Int} (T : TkOk p.sp (p.nx s).wd t) (h : (p.nx s).wd ≠ .stop) : F_stepped [p.prg, s.d, tkd t] = .ret (p.aft s t).d := by
  have nx := next_p O S
  have l4 : s.ns.length ≤ 4 := by rw [S.n]; exact O.many.2
  have W : ∀ v x, v < p.many → F_with_number [tns s.ns, ni v, .int x] = .ret (tns (s.ns.set v x)) := fun v x hv => with_p (by rw [S.n]; exact hv) l4
  have en : ∀ a b c, F_entered [.prg p.many p.bd p.hd p.sp, a, b, c] = .ret a := fun a b c => entered_p (p := p)
  unfold Pg.prg St.d at nx
  cases q : p.nx s with
  | row r =>
    have R := (nx_row O S q).1
    rw [q] at nx T
    have V := fun h1 h2 => value_p O S.n R h1 h2 t
    unfold Pg.prg at V
    unfold Pg.aft
    rw [q]
    cases r with
    | tell v =>
      simp [F_stepped, b_stepped, x_var, nx, St.d, Rw.d, Rw.wd, Rw.args, Pg.prg, Rw.to]
      rfl
    | take v =>
      obtain ⟨x, rfl, _⟩ := T rfl
      simp [F_stepped, b_stepped, x_var, nx, St.d, Rw.d, Rw.wd, Rw.args, Pg.prg, Rw.to, Rw.val, tkd, W v x R]
      rfl
    | put v x => 
      have V := V (by simp [Rw.wd]) (by simp [Rw.wd])
      simp [F_stepped, b_stepped, x_var, nx, St.d, Rw.d, Rw.wd, Rw.args, Pg.prg, Rw.to, Rw.val] at V ⊢
      simp [V, W v _ R.1]
      rfl
    | mv v a => 
      have V := V (by simp [Rw.wd]) (by simp [Rw.wd])
      simp [F_stepped, b_stepped, x_var, nx, St.d, Rw.d, Rw.wd, Rw.args, Pg.prg, Rw.to, Rw.val] at V ⊢
      simp [V, W v _ R.1]
      rfl
    | add v a b => 
      have V := V (by simp [Rw.wd]) (by simp [Rw.wd])
      simp [F_stepped, b_stepped, x_var, nx, St.d, Rw.d, Rw.wd, Rw.args, Pg.prg, Rw.to, Rw.val] at V ⊢
      simp [V, W v _ R.1]
      rfl
    | sub v a b => 
      have V := V (by simp [Rw.wd]) (by simp [Rw.wd])
      simp [F_stepped, b_stepped, x_var, nx, St.d, Rw.d, Rw.wd, Rw.args, Pg.prg, Rw.to, Rw.val] at V ⊢
      simp [V, W v _ R.1]
      rfl
    | less v a b => 
      have V := V (by simp [Rw.wd]) (by simp [Rw.wd])
      simp [F_stepped, b_stepped, x_var, nx, St.d, Rw.d, Rw.wd, Rw.args, Pg.prg, Rw.to, Rw.val] at V ⊢
      simp [V, W v _ R.1]
      rfl
  | fin e =>
    have E := nx_fin O S q
    rw [q] at nx h
    unfold Pg.aft
    rw [q]
    cases e with
    | stop => exact absurd rfl h
    | go b =>
      have G := targets_go b
      simp [F_stepped, b_stepped, x_var, nx, St.d, En.d, En.wd, En.args, Pg.prg] at G ⊢
      simp [G, en, tns]
      rfl
    | part v a b =>
      have G := targets_part v a b
      have A := at_ns (ns := s.ns) (r := v) (by rw [S.n]; exact E.1)
      simp [F_stepped, b_stepped, x_var, nx, St.d, En.d, En.wd, En.args, Pg.prg] at G ⊢
      simp [G, en, tns, A, eq_ii, ni]
      by_cases z : nat s.ns v = 0
      · simp [z]
      · simp [z]
end
end Rr
/-! registerrooms, the plain law: loops and comprehensions. -/
namespace Rr
open PySem PySem.Spec PyProof.Rows L2
section
variable {t : WT} {f : WS} {ρ ρ' : Env}
theorem while_f (h : t ρ = .ret false) : wWhile t f ρ = .ret (.nx ρ) := Wp.ext fun K => by
  show (∃ n, (whileN t f n ρ).run K) ↔ K _
  constructor
  · rintro ⟨n, k⟩
    cases n with
    | zero => exact k.elim
    | succ n =>
      unfold whileN at k
      rw [h] at k
      exact k
  · intro k
    refine ⟨1, ?_⟩
    unfold whileN
    rw [h]
    exact k
theorem while_rt (h : t ρ = .ret true) {d : D} (k : f ρ = .ret (.rt d)) : wWhile t f ρ = .ret (.rt d) := Wp.ext fun K => by
  show (∃ n, (whileN t f n ρ).run K) ↔ K _
  constructor
  · rintro ⟨n, q⟩
    cases n with
    | zero => exact q.elim
    | succ n =>
      unfold whileN at q
      rw [h, Wp.ret_bind, if_pos rfl, k] at q
      exact q
  · intro q
    refine ⟨1, ?_⟩
    unfold whileN
    rw [h, Wp.ret_bind, if_pos rfl, k]
    exact q
theorem while_nx (h : t ρ = .ret true) (k : f ρ = .ret (.nx ρ')) : wWhile t f ρ = wWhile t f ρ' := Wp.ext fun K => by
  show (∃ n, (whileN t f n ρ).run K) ↔ (∃ n, (whileN t f n ρ').run K)
  constructor
  · rintro ⟨n, q⟩
    cases n with
    | zero => exact q.elim
    | succ n =>
      unfold whileN at q
      rw [h, Wp.ret_bind, if_pos rfl, k] at q
      exact ⟨n, q⟩
  · rintro ⟨n, q⟩
    refine ⟨n + 1, ?_⟩
    unfold whileN
    rw [h, Wp.ret_bind, if_pos rfl, k]
    exact q
end
section
variable {fs : SetD} {is vs : List Nat} {f : WS}
@[simp] theorem x_forNil {ρ : Env} : forN fs is f [] ρ = .ret (.nx ρ) := rfl
theorem x_forCons {ρ : Env} {d : D} {ds : List D} : forN fs is f (d :: ds) ρ = (fs d).bind fun xs => (f (setA ρ is xs)).bind (seqK (forN fs is f ds)) := rfl
@[simp] theorem x_for {wi : WI} {ρ : Env} : wFor wi fs is f ρ = (wi ρ).bind fun ds => forN fs is f ds ρ := rfl
@[simp] theorem x_walk {w : WE} {ρ : Env} : wWalk w ρ = (w ρ).bind walkD := rfl
@[simp] theorem x_walk_t {ds : List D} : walkD (.tup ds) = .ret ds := rfl
@[simp] theorem x_walk_l {ds : List D} : walkD (.lst ds) = .ret ds := rfl
@[simp] theorem x_walk_d {ks vs : List D} : walkD (.dct ks vs) = .ret ks := rfl
@[simp] theorem x_rng1 {w : WA} {ρ : Env} : wRng1 w ρ = (w ρ).bind rng1D := rfl
theorem x_rng1D {n : Nat} (h : n < 1000000) : rng1D [.int (n : Int)] = .ret (rangeD 0 n) := by
  show Wp.chk _ _ = _
  rw [Wp.chk_of (by omega), Int.toNat_natCast]
theorem rangeD_eq (n : Nat) : rangeD 0 n = (List.range n).map fun k => D.int ((k : Nat) : Int) := by
  unfold rangeD
  congr 1
  funext k
  rw [Int.zero_add]
/-- a loop that does not end early, over states -/
theorem for_fold {σ τ : Type} (en : σ → Env) (ed : τ → D) (st : σ → τ → σ) (I : List τ → σ → Prop) : ∀ (xs : List τ) (s : σ), I xs s → (∀ s x xs, I (x :: xs) s → I xs (st s x) ∧ ((fs (ed x)).bind fun ys => f (setA (en s) is ys)) = .ret (.nx (en (st s x)))) →
    I [] (xs.foldl st s) ∧ forN fs is f (xs.map ed) (en s) = .ret (.nx (en (xs.foldl st s)))
  | [], s, i, _ => ⟨i, rfl⟩
  | x :: xs, s, i, h => by
    obtain ⟨h1, h2⟩ := h s x xs i
    rw [List.map_cons, x_forCons, List.foldl_cons, ← Wp.bind_bind, h2, Wp.ret_bind]
    exact for_fold en ed st I xs _ h1 h
/-- a loop that ends early with d at the first one that is bad -/
theorem for_all {τ : Type} (I : Env → Prop) (ed : τ → D) (ok : τ → Bool) (d : D) : ∀ (xs : List τ) (ρ : Env), I ρ → (∀ ρ x, x ∈ xs → I ρ → if ok x = true then ∃ ρ', I ρ' ∧ ((fs (ed x)).bind fun ys => f (setA ρ is ys)) = .ret (.nx ρ') else ((fs (ed x)).bind fun ys => f (setA ρ is ys)) = .ret (.rt d)) →
    if xs.all ok = true then ∃ ρ', I ρ' ∧ forN fs is f (xs.map ed) ρ = .ret (.nx ρ') else forN fs is f (xs.map ed) ρ = .ret (.rt d)
  | [], ρ, i, _ => ⟨ρ, i, rfl⟩
  | x :: xs, ρ, i, h => by
    have h1 := h ρ x (List.mem_cons_self ..) i
    cases e : ok x with
    | false =>
      rw [e] at h1
      have h2 : (x :: xs).all ok = false := by simp [e]
      rw [h2]
      show forN fs is f ((x :: xs).map ed) ρ = _
      rw [List.map_cons, x_forCons, ← Wp.bind_bind]
      rw [show ((fs (ed x)).bind fun ys => f (setA ρ is ys)) = .ret (.rt d) from h1]
      rfl
    | true =>
      rw [e] at h1
      obtain ⟨ρ', i', h1⟩ := (show ∃ ρ', I ρ' ∧ ((fs (ed x)).bind fun ys => f (setA ρ is ys)) = .ret (.nx ρ') from h1)
      have h2 : (x :: xs).all ok = xs.all ok := by simp [e]
      have h3 : forN fs is f ((x :: xs).map ed) ρ = forN fs is f (xs.map ed) ρ' := by
        rw [List.map_cons, x_forCons, ← Wp.bind_bind, h1]
        rfl
      rw [h2, h3]
      exact for_all I ed ok d xs ρ' i' fun ρ x hx => h ρ x (List.mem_cons_of_mem _ hx)
/-- a loop that draws -/
theorem for_run {τ : Type} (I : List τ → Env → Prop) (ed : τ → D) : ∀ (xs : List τ) (ρ : Env) (K : Out → Prop), I xs ρ → (∀ ρ x xs, I (x :: xs) ρ → ((fs (ed x)).bind fun ys => f (setA ρ is ys)).run fun o => ∃ ρ', o = .nx ρ' ∧ I xs ρ') → (∀ ρ', I [] ρ' → K (.nx ρ')) →
    (forN fs is f (xs.map ed) ρ).run K
  | [], ρ, K, i, _, k => k ρ i
  | x :: xs, ρ, K, i, h, k => by
    have h1 := h ρ x xs i
    rw [List.map_cons, x_forCons, ← Wp.bind_bind, Wp.run_bind]
    refine Wp.mono _ (fun o ho => ?_) h1
    obtain ⟨ρ', rfl, i'⟩ := ho
    exact for_run I ed xs ρ' K i' h k
end
section
variable {fs : SetD} {is vs : List Nat} {tt : WT} {te : WE} {ρ : Env}
theorem lc_filter {τ : Type} (ed : τ → D) (gs : τ → List D) (c : τ → Bool) (g : τ → D) : ∀ (xs : List τ), (∀ x ∈ xs, fs (ed x) = .ret (gs x) ∧ tt (setA (wipeE ρ vs) is (gs x)) = .ret (c x) ∧ (c x = true → te (setA (wipeE ρ vs) is (gs x)) = .ret (g x))) →
    lcN fs is vs tt te ρ (xs.map ed) = .ret ((xs.filter c).map g)
  | [], _ => rfl
  | x :: xs, h => by
    obtain ⟨h1, h2, h3⟩ := h x (List.mem_cons_self ..)
    have ih := lc_filter ed gs c g xs fun x hx => h x (List.mem_cons_of_mem _ hx)
    rw [List.map_cons]
    show ((fs (ed x)).bind fun ys => (tt (setA (wipeE ρ vs) is ys)).bind fun b => if b = true then (te (setA (wipeE ρ vs) is ys)).bind fun y => (lcN fs is vs tt te ρ (xs.map ed)).bind fun zs => .ret (y :: zs) else lcN fs is vs tt te ρ (xs.map ed)) = _
    rw [h1, Wp.ret_bind, h2, Wp.ret_bind, ih]
    cases e : c x with
    | false => rw [if_neg (by simp), List.filter_cons_of_neg (by simp [e])]
    | true => rw [if_pos rfl, h3 e, Wp.ret_bind, Wp.ret_bind, List.filter_cons_of_pos e, List.map_cons]
theorem lc_map {τ : Type} (ed : τ → D) (gs : τ → List D) (g : τ → D) (xs : List τ) (h : ∀ x ∈ xs, fs (ed x) = .ret (gs x) ∧ te (setA (wipeE ρ vs) is (gs x)) = .ret (g x)) :
    lcN fs is vs wYes te ρ (xs.map ed) = .ret (xs.map g) := by
  rw [lc_filter ed gs (fun _ => true) g xs fun x hx => ⟨(h x hx).1, rfl, fun _ => (h x hx).2⟩, List.filter_eq_self.mpr fun _ _ => rfl]
@[simp] theorem x_lc {wi : WI} : wLc wi fs is vs tt te ρ = (wi ρ).bind fun ds => .chk (ds.length ≤ 16777216) ((lcN fs is vs tt te ρ ds).bind fun ys => .ret (.lst ys)) := rfl
end
section
variable {fs fs1 : SetD} {is vs is1 vs1 : List Nat} {tt1 : WT} {wi wi1 : WI} {te : WE} {ρ : Env}
@[simp] theorem x_lc2 : wLc2 wi fs is vs wi1 fs1 is1 vs1 tt1 te ρ = (wi ρ).bind fun ds => .chk (ds.length ≤ 4096) ((lcN2 fs is vs wi1 fs1 is1 vs1 tt1 te ρ ds).bind fun ys => .ret (.lst ys)) := rfl
theorem lc2_map {τ : Type} (ed : τ → D) (gs : τ → List D) (es : τ → List D) (zs : τ → List D) : ∀ (xs : List τ), (∀ x ∈ xs, fs (ed x) = .ret (gs x) ∧ wi1 (setA (wipeE ρ vs) is (gs x)) = .ret (es x) ∧ (es x).length ≤ 4096 ∧ lcN fs1 is1 vs1 tt1 te (setA (wipeE ρ vs) is (gs x)) (es x) = .ret (zs x)) →
    lcN2 fs is vs wi1 fs1 is1 vs1 tt1 te ρ (xs.map ed) = .ret (xs.flatMap zs)
  | [], _ => rfl
  | x :: xs, h => by
    obtain ⟨h1, h2, h3, h4⟩ := h x (List.mem_cons_self ..)
    have ih := lc2_map ed gs es zs xs fun x hx => h x (List.mem_cons_of_mem _ hx)
    rw [List.map_cons]
    show ((fs (ed x)).bind fun ys => (wi1 (setA (wipeE ρ vs) is ys)).bind fun es => .chk (es.length ≤ 4096) ((lcN fs1 is1 vs1 tt1 te (setA (wipeE ρ vs) is ys) es).bind fun ys => (lcN2 fs is vs wi1 fs1 is1 vs1 tt1 te ρ (xs.map ed)).bind fun zs => .ret (ys ++ zs))) = _
    rw [h1, Wp.ret_bind, h2, Wp.ret_bind, Wp.chk_of h3, h4, Wp.ret_bind, ih, Wp.ret_bind, List.flatMap_cons]
end
theorem bls_map : ∀ bs : List Bool, blsD (bs.map D.bl) = some bs
  | [] => rfl
  | b :: bs => by
    show (blsD (bs.map D.bl)).map (b :: ·) = _
    rw [bls_map bs]
    rfl
theorem all_bl {τ : Type} (xs : List τ) (c : τ → Bool) : allD [.lst (xs.map fun x => D.bl (c x))] = .ret (.bl (xs.all c)) := by
  have e : xs.map (fun x => D.bl (c x)) = (xs.map c).map D.bl := by simp
  show (Wp.opt (blsD _)).bind _ = _
  rw [e, bls_map, Wp.opt_some, Wp.ret_bind]
  simp [List.all_map, Function.comp_def]
theorem any_bl {τ : Type} (xs : List τ) (c : τ → Bool) : anyD [.lst (xs.map fun x => D.bl (c x))] = .ret (.bl (xs.any c)) := by
  have e : xs.map (fun x => D.bl (c x)) = (xs.map c).map D.bl := by simp
  show (Wp.opt (blsD _)).bind _ = _
  rw [e, bls_map, Wp.opt_some, Wp.ret_bind]
  simp [List.any_map, Function.comp_def]
end Rr
/-! registerrooms, the plain law: steps as the law makes them; options; first states; what can be handed in. -/
namespace Rr
open PySem PySem.Spec PyProof.Rows L2
theorem ixN_nat {n r : Nat} (h : r < n) : ixN n (r : Int) = some r := by
  unfold ixN
  rw [if_pos (by omega), if_pos (by omega), Int.toNat_natCast]
theorem fls_ints (ns : List Int) : D.fls (ns.map .int) = true := by
  induction ns with
  | nil => rfl
  | cons a ns ih => simp [D.fls, D.fl, ih]
@[simp] theorem x_listOE_t {ds : List D} : listOE [.tup ds] = .chk (D.fls ds = true) (.ret (.lst ds)) := rfl
@[simp] theorem x_tupleD_l {ds : List D} : tupleD [.lst ds] = .ret (.tup ds) := rfl
@[simp] theorem x_intD_i {i : Int} : intD [.int i] = .ret (.int i) := rfl
@[simp] theorem x_intD_b {b : Bool} : intD [.bl b] = .ret (.int (if b then 1 else 0)) := rfl
@[simp] theorem x_setL {i : Nat} {wk wv : WE} {ρ : Env} : wSetL i wk wv ρ = (wv ρ).bind fun v => (ownL i ρ).bind fun ds => (wk ρ).bind fun k => match k with
  | .int k => (Wp.opt (ixN ds.length k)).bind fun j => .ret (.nx (ρ.set i (some (.lst (ds.set j v)))))
  | _ => .fail := rfl
theorem map_set_int (ns : List Int) (r : Nat) (x : Int) : (ns.map D.int).set r (.int x) = (ns.set r x).map D.int := by rw [List.map_set]
section
variable {p : Pg} {s : St}
theorem after_p (O : p.Ok) (S : s.Ok p) {t : Option Int} (T : TkOk p.sp (p.nx s).wd t) (h : (p.nx s).wd ≠ .stop) : F__law_after [p.pl, s.d, tkd t] = .ret (p.aft s t).d := by
  have nx := coming_p O S
  have h4 : 0 < p.sp := by have := O.sp.1; omega
  have l4 : s.ns.length ≤ 4 := by rw [S.n]; exact O.many.2
  have fl := fls_ints s.ns
  have V : ∀ v, v < p.many → ixN s.ns.length (v : Int) = some v := fun v hv => ixN_nat (by rw [S.n]; exact hv)
  have A : ∀ v, v < p.many → atI (s.ns.map D.int) (v : Int) = some (.int (nat s.ns v)) := fun v hv => at_ns (by rw [S.n]; exact hv)
  unfold Pg.pl St.d tns at nx
  cases q : p.nx s with
  | row r =>
    have R := (nx_row O S q).1
    rw [q] at nx T
    unfold Pg.aft
    rw [q]
    cases r with
    | tell v =>
      simp [F__law_after, b__law_after, x_var, nx, St.d, Rw.d, Rw.wd, Rw.args, Pg.pl, Rw.to, tns, fl]
      rfl
    | take v =>
      obtain ⟨x, rfl, _⟩ := T rfl
      simp [F__law_after, b__law_after, x_var, nx, St.d, Rw.d, Rw.wd, Rw.args, Pg.pl, Rw.to, Rw.val, tns, fl, tkd, V v R, ownL]
      rfl
    | put v x =>
      simp [F__law_after, b__law_after, x_var, nx, St.d, Rw.d, Rw.wd, Rw.args, Pg.pl, Rw.to, Rw.val, tns, fl, V v R.1, ownL]
      rfl
    | mv v a =>
      simp [F__law_after, b__law_after, x_var, nx, St.d, Rw.d, Rw.wd, Rw.args, Pg.pl, Rw.to, Rw.val, tns, fl, V v R.1, A a R.2, ownL]
      rfl
    | add v a b =>
      simp [F__law_after, b__law_after, x_var, nx, St.d, Rw.d, Rw.wd, Rw.args, Pg.pl, Rw.to, Rw.val, tns, fl, V v R.1, A a R.2.1, A b R.2.2, ownL, h4]
      rfl
    | sub v a b =>
      have e : (nat s.ns a + ((p.sp : Int) - nat s.ns b)) % (p.sp : Int) = (nat s.ns a - nat s.ns b) % (p.sp : Int) := by
        rw [show nat s.ns a + ((p.sp : Int) - nat s.ns b) = (nat s.ns a - nat s.ns b) + (p.sp : Int) by omega, Int.add_emod_right]
      simp [F__law_after, b__law_after, x_var, nx, St.d, Rw.d, Rw.wd, Rw.args, Pg.pl, Rw.to, Rw.val, tns, fl, V v R.1, A a R.2.1, A b R.2.2, ownL, h4, e]
      rfl
    | less v a b =>
      simp [F__law_after, b__law_after, x_var, nx, St.d, Rw.d, Rw.wd, Rw.args, Pg.pl, Rw.to, Rw.val, tns, fl, V v R.1, A a R.2.1, A b R.2.2, ownL, h4]
      rfl
  | fin e =>
    have E := nx_fin O S q
    rw [q] at nx h
    unfold Pg.aft
    rw [q]
    cases e with
    | stop => exact absurd rfl h
    | go b =>
      simp [F__law_after, b__law_after, x_var, nx, St.d, En.d, En.wd, En.args, Pg.pl, tns, fl]
      rfl
    | part v a b =>
      simp [F__law_after, b__law_after, x_var, nx, St.d, En.d, En.wd, En.args, Pg.pl, tns, fl, A v E.1, eq_ii]
      by_cases z : nat s.ns v = 0
      · simp [z]
        rfl
      · simp [z]
        rfl
/-- what can be taken -/
def Pg.opt (p : Pg) (s : St) : List (Option Int) := if (p.nx s).wd = .stop then [] else if (p.nx s).wd = .take then (List.range p.sp).map fun (x : Nat) => some (x : Int) else [none]
theorem rg_tkd (n : Nat) : rangeD 0 n = ((List.range n).map fun (x : Nat) => some (x : Int)).map tkd := by
  rw [rangeD_eq, List.map_map]
  rfl
theorem x_rgD {n : Nat} (h : n ≤ 16777216) : rgD (.int (n : Int)) = .ret (.lst (rangeD 0 n)) := by
  show Wp.chk _ _ = _
  rw [Wp.chk_of (by omega), Int.toNat_natCast]
theorem steps_p (O : p.Ok) (S : s.Ok p) : F_steps_from [p.prg, s.d] = .ret (.lst ((p.opt s).map tkd)) := by
  have r : rgD (.int (p.sp : Int)) = _ := x_rgD (by have := O.sp.2; omega)
  have nx := next_p O S
  have tk := takes_p O S
  unfold Pg.prg at nx tk
  unfold Pg.opt
  by_cases h : (p.nx s).wd = .stop
  · simp [F_steps_from, b_steps_from, x_var, Pg.prg, nx, It.ix0, h]
  · by_cases k : (p.nx s).wd = .take
    · simp [F_steps_from, b_steps_from, x_var, Pg.prg, nx, tk, It.ix0, k, wMap, fSpan, r, rg_tkd]
    · simp [F_steps_from, b_steps_from, x_var, Pg.prg, nx, tk, It.ix0, h, k, tkd]
theorem options_p (O : p.Ok) (S : s.Ok p) : F__law_options [p.pl, s.d] = .ret (.lst ((p.opt s).map tkd)) := by
  have r : rgD (.int (p.sp : Int)) = _ := x_rgD (by have := O.sp.2; omega)
  have nx := coming_p O S
  unfold Pg.pl at nx
  unfold Pg.opt
  by_cases h : (p.nx s).wd = .stop
  · simp [F__law_options, b__law_options, x_var, Pg.pl, nx, It.ix0, h]
  · by_cases k : (p.nx s).wd = .take
    · simp [F__law_options, b__law_options, x_var, Pg.pl, nx, It.ix0, k, wMap, r, rg_tkd]
    · simp [F__law_options, b__law_options, x_var, Pg.pl, nx, It.ix0, h, k, tkd]
theorem rep1 (n : Nat) : (List.replicate n [D.int 0]).flatten = (List.replicate n (0 : Int)).map D.int := by
  induction n with
  | zero => rfl
  | succ n ih => rw [List.replicate_succ, List.flatten_cons, ih]; rfl
theorem first_p (O : p.Ok) {h : List Int} (l : h.length ≤ 4) : F_first_numbers [p.prg, tns h] = .ret (tns (h ++ List.replicate (p.many - p.hd) 0)) := by
  have h1 := O.hd.2
  have h2 := O.many
  have e : ((p.many : Int) - (p.hd : Int)) = ((p.many - p.hd : Nat) : Int) := by omega
  simp [F_first_numbers, b_Program_first_numbers, x_var, Pg.prg, wMap, fMany, fHandedP, e, repD, tns, rep1]
  rw [Wp.chk_of (by omega), Wp.chk_of (by omega)]
theorem start_p (O : p.Ok) {h : List Int} (l : h.length ≤ 4) : F_start_of [p.prg, tns h] = .ret (p.fst h).d := by
  have f := first_p O l
  unfold Pg.prg at f
  simp [F_start_of, b_start_of, x_var, Pg.prg, f, Pg.fst, St.d]
  rfl
theorem lfirst_p (O : p.Ok) {h : List Int} (l : h.length ≤ 4) : F__law_first [p.pl, tns h] = .ret (p.fst h).d := by
  have h1 := O.hd.2
  have h2 := O.many
  have e : ((p.many : Int) - (p.hd : Int)) = ((p.many - p.hd : Nat) : Int) := by omega
  simp [F__law_first, b__law_first, x_var, Pg.pl, e, repTD, tns, rep1]
  rw [Wp.chk_of (by omega), Wp.chk_of (by omega)]
  simp [Pg.fst, St.d, tns]
  rfl
end
end Rr
/-! registerrooms, the plain law: data that may be compared and be keys; what can be handed in. -/
namespace Rr
open PySem PySem.Spec PyProof.Rows L2
theorem cls_map {τ : Type} (f : τ → D) (h : ∀ x, D.cl (f x) = true) : ∀ xs : List τ, D.cls (xs.map f) = true
  | [] => rfl
  | x :: xs => by simp [D.cls, h x, cls_map f h xs]
theorem kbs_map {τ : Type} (f : τ → D) (h : ∀ x, D.kb (f x) = true) : ∀ xs : List τ, D.kbs (xs.map f) = true
  | [] => rfl
  | x :: xs => by simp [D.kbs, h x, kbs_map f h xs]
theorem deps_map {τ : Type} (f : τ → D) (n : Nat) (h : ∀ x, D.dep (f x) ≤ n) : ∀ xs : List τ, D.deps (xs.map f) ≤ n
  | [] => Nat.zero_le _
  | x :: xs => by
    have h1 := h x
    have h2 := deps_map f n h xs
    simp only [List.map_cons, D.deps]
    omega
theorem fls_map {τ : Type} (f : τ → D) (h : ∀ x, D.fl (f x) = true) : ∀ xs : List τ, D.fls (xs.map f) = true
  | [] => rfl
  | x :: xs => by simp [D.fls, h x, fls_map f h xs]
/-- plain: may be compared, may be within a key, is small, lies flat -/
structure Pln (d : D) (n : Nat) : Prop where
  cl : D.cl d = true
  kb : D.kb d = true
  fl : D.fl d = true
  dep : D.dep d ≤ n
theorem Pln.up {d : D} {n m : Nat} (h : Pln d n) (l : n ≤ m) : Pln d m := ⟨h.cl, h.kb, h.fl, Nat.le_trans h.dep l⟩
theorem pln_non : Pln .non 0 := ⟨rfl, rfl, rfl, Nat.le_refl _⟩
theorem pln_int (i : Int) : Pln (.int i) 0 := ⟨rfl, rfl, rfl, Nat.le_refl _⟩
theorem pln_w (a : Wd) : Pln (.str a.s) 0 := ⟨a.ok, rfl, rfl, Nat.le_refl _⟩
theorem pln_tup {ds : List D} {n : Nat} (h : ∀ d ∈ ds, Pln d n) : Pln (.tup ds) (n + 1) := by
  have key : D.cls ds = true ∧ D.kbs ds = true ∧ D.fls ds = true ∧ D.deps ds ≤ n := by
    induction ds with
    | nil => exact ⟨rfl, rfl, rfl, Nat.zero_le _⟩
    | cons d ds ih =>
      have h1 := h d (List.mem_cons_self ..)
      obtain ⟨i1, i2, i3, i4⟩ := ih fun x hx => h x (List.mem_cons_of_mem _ hx)
      exact ⟨by simp [D.cls, h1.cl, i1], by simp [D.kbs, h1.kb, i2], by simp [D.fls, h1.fl, i3], by have := h1.dep; simp only [D.deps]; omega⟩
  exact ⟨key.1, key.2.1, key.2.2.1, by simp only [D.dep]; omega⟩
theorem pln_map {τ : Type} (f : τ → D) {n : Nat} (h : ∀ x, Pln (f x) n) (xs : List τ) : Pln (.tup (xs.map f)) (n + 1) := pln_tup fun d hd => by
  obtain ⟨x, _, rfl⟩ := List.mem_map.mp hd
  exact h x
theorem pln2 {a b : D} {n : Nat} (ha : Pln a n) (hb : Pln b n) : Pln (.tup [a, b]) (n + 1) := pln_tup fun d hd => by
  simp at hd
  rcases hd with rfl | rfl <;> assumption
theorem pln3 {a b c : D} {n : Nat} (ha : Pln a n) (hb : Pln b n) (hc : Pln c n) : Pln (.tup [a, b, c]) (n + 1) := pln_tup fun d hd => by
  simp at hd
  rcases hd with rfl | rfl | rfl <;> assumption
theorem Pln.ok {d : D} {n : Nat} (h : Pln d n) (l : n ≤ 60 := by decide) : d.ok := ⟨h.cl, by have := h.dep; omega⟩
theorem ok_lst {τ : Type} (f : τ → D) {n : Nat} (h : ∀ x, Pln (f x) n) (l : n ≤ 60) (xs : List τ) : (D.lst (xs.map f)).ok :=
  ⟨cls_map f (fun x => (h x).cl) xs, by have := deps_map f n (fun x => (h x).dep) xs; simp only [D.dep]; omega⟩
theorem pln_tns (ns : List Int) : Pln (tns ns) 1 := pln_map D.int (fun x => pln_int x) ns
theorem pln_st (s : St) : Pln s.d 2 := pln3 ((pln_int _).up (by decide)) ((pln_int _).up (by decide)) (pln_tns _)
theorem pln_so (o : Option St) : Pln (so o) 2 := by
  cases o with
  | none => exact pln_non.up (by decide)
  | some s => exact pln_st s
theorem pln_pr (x : Pr) : Pln (prd x) 3 := pln2 (pln_so _) (pln_so _)
theorem pln_tk (t : Option Int) : Pln (tkd t) 0 := by
  cases t with
  | none => exact pln_non
  | some x => exact pln_int x
theorem kd_t {ds : List D} {n : Nat} (h : Pln (.tup ds) n) (l : n ≤ 8) : (D.tup ds).kd := ⟨h.kb, Nat.le_trans h.dep l, ds, rfl⟩
theorem kd_st (s : St) : s.d.kd := kd_t (pln_st s) (by decide)
theorem kd_pr (x : Pr) : (prd x).kd := kd_t (pln_pr x) (by decide)
theorem eq_ok {a b : D} (ha : a.ok) (hb : b.ok) : eqD a b = .ret (.bl (decide (a = b))) := by
  have e : eqD a b = .chk (a.ok ∧ b.ok) (.ret (.bl (decide (a = b)))) := by
    cases a with
    | bl x => exact absurd ha.1 (by simp [D.cl])
    | _ => rfl
  rw [e, Wp.chk_of ⟨ha, hb⟩]
theorem ne_ok {a b : D} (ha : a.ok) (hb : b.ok) : neD a b = .ret (.bl (!decide (a = b))) := by
  have e : neD a b = .chk (a.ok ∧ b.ok) (.ret (.bl (!decide (a = b)))) := by
    cases a with
    | bl x => exact absurd ha.1 (by simp [D.cl])
    | _ => rfl
  rw [e, Wp.chk_of ⟨ha, hb⟩]
theorem in_ok {a : D} {ds : List D} (ha : a.ok) (hb : (D.lst ds).ok) : inD a (.lst ds) = .ret (.bl (decide (a ∈ ds))) := by
  have e : inD a (.lst ds) = .chk (a.ok ∧ (D.lst ds).ok) (.ret (.bl (decide (a ∈ ds)))) := by cases a <;> rfl
  rw [e, Wp.chk_of ⟨ha, hb⟩]
theorem nin_ok {a : D} {ds : List D} (ha : a.ok) (hb : (D.lst ds).ok) : ninD a (.lst ds) = .ret (.bl (!decide (a ∈ ds))) := by
  have e : ninD a (.lst ds) = .chk (a.ok ∧ (D.lst ds).ok) (.ret (.bl (!decide (a ∈ ds)))) := by cases a <;> rfl
  rw [e, Wp.chk_of ⟨ha, hb⟩]
theorem in_e {k : D} {ks vs : List D} (h : k.kd) : inE k (.dct ks vs) = .ret (.bl (decide (k ∈ ks))) := Wp.chk_of h _
theorem nin_e {k : D} {ks vs : List D} (h : k.kd) : ninE k (.dct ks vs) = .ret (.bl (!decide (k ∈ ks))) := Wp.chk_of h _
/-! ### what tells data apart -/
theorem map_inj' {τ : Type} {f : τ → D} (h : ∀ x y, f x = f y → x = y) : ∀ {xs ys : List τ}, xs.map f = ys.map f → xs = ys
  | [], [], _ => rfl
  | [], _ :: _, e => by cases e
  | _ :: _, [], e => by cases e
  | x :: xs, y :: ys, e => by
    rw [List.map_cons, List.map_cons, List.cons.injEq] at e
    rw [h _ _ e.1, map_inj' h e.2]
theorem mem_inj {τ : Type} {f : τ → D} (h : ∀ x y, f x = f y → x = y) {x : τ} {xs : List τ} : f x ∈ xs.map f ↔ x ∈ xs := by
  constructor
  · intro m
    obtain ⟨y, hy, e⟩ := List.mem_map.mp m
    rw [← h _ _ e]
    exact hy
  · exact fun m => List.mem_map_of_mem m
theorem int_inj (x y : Int) (h : D.int x = D.int y) : x = y := D.int.inj h
theorem tns_inj (x y : List Int) (h : tns x = tns y) : x = y := map_inj' int_inj (D.tup.inj h)
theorem st_inj (x y : St) (h : x.d = y.d) : x = y := by
  unfold St.d at h
  simp only [D.tup.injEq, List.cons.injEq, D.int.injEq, and_true] at h
  cases x; cases y
  simp only [St.mk.injEq]
  exact ⟨Int.ofNat.inj h.1, Int.ofNat.inj h.2.1, tns_inj _ _ h.2.2⟩
theorem so_inj (x y : Option St) (h : so x = so y) : x = y := by
  cases x with
  | none =>
    cases y with
    | none => rfl
    | some t => cases h
  | some s =>
    cases y with
    | none => cases h
    | some t => rw [st_inj s t h]
theorem pr_inj (x y : Pr) (h : prd x = prd y) : x = y := by
  unfold prd at h
  simp only [D.tup.injEq, List.cons.injEq, and_true] at h
  exact Prod.ext (so_inj _ _ h.1) (so_inj _ _ h.2)
theorem tk_inj (x y : Option Int) (h : tkd x = tkd y) : x = y := by
  cases x <;> cases y <;> first | rfl | (cases h; done) | (cases h; rfl)
/-! ### what can be handed in -/
section
variable {p q : Pg}
def Pg.hs (p : Pg) : List (List Int) := tups p.sp p.hd
theorem hs_len (O : p.Ok) : p.hs.length ≤ 16 := by
  unfold Pg.hs
  rw [len_tups]
  exact Nat.le_trans (Nat.pow_le_pow_left O.sp.2 _) (Nat.pow_le_pow_right (by decide) O.hd.1)
theorem tups_le {s k : Nat} (h : s ≤ 4) (hk : k ≤ 2) : (tups s k).length ≤ 16 := by
  rw [len_tups]
  exact Nat.le_trans (Nat.pow_le_pow_left h _) (Nat.pow_le_pow_right (by decide) hk)
theorem hands_p (O : p.Ok) : F_hands_of [p.prg] = .ret (.lst (p.hs.map tns)) := by
  have h1 := O.hd.1
  have h2 := O.sp.2
  have r1 : rng1D [.int (p.hd : Int)] = _ := x_rng1D (by omega)
  have r2 : rng1D [.int (p.sp : Int)] = _ := x_rng1D (by omega)
  have L := for_fold (fs := setN) (is := [3]) (f := wAsg (mk [] (wLc2 (wWalk (wVar 2)) setN [4] [4, 5] (wRng1 (wCons (wMap fSpan (wVar 0)) wNil)) setN [5] [5] wYes (wTup (wStar (wVar 4) (wCons (wVar 5) wNil))))) setN [2])
    (fun s : Nat × Option D => [some p.prg, some (ni p.hd), some (.lst ((tups p.sp s.1).map tns)), s.2, none, none]) (fun x : Nat => D.int (x : Int)) (fun s x => (s.1 + 1, some (D.int (x : Int)))) (fun xs s => s.1 + xs.length = p.hd) (List.range p.hd) (0, none) (by simp)
    (fun s x xs hs => by
      rw [List.length_cons] at hs
      refine ⟨by show s.1 + 1 + xs.length = p.hd; omega, ?_⟩
      have e := lc2_map (fs := setN) (is := [4]) (vs := [4, 5]) (wi1 := wRng1 (wCons (wMap fSpan (wVar 0)) wNil)) (fs1 := setN) (is1 := [5]) (vs1 := [5]) (tt1 := wYes) (te := wTup (wStar (wVar 4) (wCons (wVar 5) wNil)))
        (ρ := [some p.prg, some (ni p.hd), some (.lst ((tups p.sp s.1).map tns)), some (D.int (x : Int)), none, none]) tns (fun r => [tns r]) (fun _ => rangeD 0 p.sp) (fun r => (List.range p.sp).map fun (x : Nat) => tns (r ++ [(x : Int)])) (tups p.sp s.1) (fun r hr => by
          refine ⟨rfl, by simp [x_var, wMap, Pg.prg, fSpan, r2], by simp [rangeD]; omega, ?_⟩
          rw [rangeD_eq]
          refine lc_map (fun x : Nat => D.int (x : Int)) (fun x => [D.int (x : Int)]) _ _ fun y _ => ⟨rfl, ?_⟩
          have lr := (mem_tups.mp hr).1
          simp [x_var, tns]
          exact Wp.chk_of (by omega) _)
      have l := tups_le h2 (k := s.1) (by omega)
      simp [x_var, e]
      rw [Wp.chk_of (by omega)]
      simp [tups, List.map_flatMap, Function.comp_def])
  obtain ⟨i, L⟩ := L
  generalize (List.foldl (fun (s : Nat × Option D) (x : Nat) => (s.1 + 1, some (D.int (x : Int)))) (0, none) (List.range p.hd)) = sf at i L
  have e0 : sf.1 = p.hd := by simpa using i
  rw [e0, ← rangeD_eq] at L
  simp only [tups, Pg.prg, List.map_cons, List.map_nil, show tns [] = D.tup [] from rfl] at L
  simp [F_hands_of, b_hands_of, x_var, wMap, Pg.prg, fHandedP, r1, L]
  rfl
theorem fold_app (g : List Int → List (List Int)) : ∀ (xs : List (List Int)) (u : List (List Int) × Option D), xs.foldl (fun u r => (u.1 ++ g r, some (tns r))) u = (u.1 ++ xs.flatMap g, match xs.getLast? with | some r => some (tns r) | none => u.2)
  | [], u => by simp
  | r :: xs, u => by
    rw [List.foldl_cons, fold_app g xs, List.getLast?_cons]
    refine Prod.ext (by simp) ?_
    cases xs.getLast? <;> rfl
theorem lhands_p (O : p.Ok) : F__law_hands [p.pl] = .ret (.lst (p.hs.map tns)) := by
  have h1 := O.hd.1
  have h2 := O.sp.2
  have r1 : rng1D [.int (p.hd : Int)] = _ := x_rng1D (by omega)
  have r2 : rng1D [.int (p.sp : Int)] = _ := x_rng1D (by omega)
  obtain ⟨i, L⟩ := for_fold (fs := setN) (is := [2]) (f := wSeq (wAsg (mk [] (wLst wNil)) setN [3]) (wSeq (wFor (mk [] (wWalk (wVar 1))) setN [4] (wAsg (mk [] (wOp addD (wVar 3) (wLc (wRng1 (wCons (wOp ixD (wVar 0) (wC (.int 3))) wNil)) setN [5] [5] wYes (wOp addD (wVar 4) (wTup (wCons (wVar 5) wNil)))))) setN [3])) (wAsg (mk [] (wVar 3)) setN [1])))
    (fun s : Nat × Option D × Option D × Option D => [some p.pl, some (.lst ((tups p.sp s.1).map tns)), s.2.1, s.2.2.1, s.2.2.2, none]) (fun x : Nat => D.int (x : Int)) (fun s x => (s.1 + 1, some (D.int (x : Int)), some (.lst ((tups p.sp (s.1 + 1)).map tns)), (match (tups p.sp s.1).getLast? with | some r => some (tns r) | none => s.2.2.2))) (fun xs s => s.1 + xs.length = p.hd) (List.range p.hd) (0, none, none, none) (by simp)
    (fun s x xs hs => by
      rw [List.length_cons] at hs
      refine ⟨by show s.1 + 1 + xs.length = p.hd; omega, ?_⟩
      obtain ⟨i, L⟩ := for_fold (fs := setN) (is := [4]) (f := wAsg (mk [] (wOp addD (wVar 3) (wLc (wRng1 (wCons (wOp ixD (wVar 0) (wC (.int 3))) wNil)) setN [5] [5] wYes (wOp addD (wVar 4) (wTup (wCons (wVar 5) wNil)))))) setN [3])
        (fun u : List (List Int) × Option D => [some p.pl, some (.lst ((tups p.sp s.1).map tns)), some (D.int (x : Int)), some (.lst (u.1.map tns)), u.2, none]) tns (fun u r => (u.1 ++ (List.range p.sp).map fun (y : Nat) => r ++ [(y : Int)], some (tns r))) (fun rs u => u.1.length + 4 * rs.length ≤ 64 ∧ ∀ r ∈ rs, r.length ≤ 2) (tups p.sp s.1) ([], s.2.2.2)
        ⟨by have := tups_le h2 (k := s.1) (by omega); simp; omega, fun r hr => by have := (mem_tups.mp hr).1; omega⟩
        (fun u r rs hu => by
          obtain ⟨hu1, hu2⟩ := hu
          rw [List.length_cons] at hu1
          refine ⟨⟨by simp; omega, fun r hr => hu2 r (List.mem_cons_of_mem _ hr)⟩, ?_⟩
          have lr := hu2 r (List.mem_cons_self ..)
          have e := lc_map (fs := setN) (is := [5]) (vs := [5]) (te := wOp addD (wVar 4) (wTup (wCons (wVar 5) wNil))) (ρ := [some p.pl, some (.lst ((tups p.sp s.1).map tns)), some (D.int (x : Int)), some (.lst (u.1.map tns)), some (tns r), none])
            (fun x : Nat => D.int (x : Int)) (fun x => [D.int (x : Int)]) (fun x => tns (r ++ [(x : Int)])) (List.range p.sp) fun y _ => ⟨rfl, by
              simp [x_var, tns]
              exact Wp.chk_of (by omega) _⟩
          rw [← rangeD_eq] at e
          have l3 : (rangeD 0 p.sp).length ≤ 16777216 := by simp [rangeD]; omega
          unfold Pg.pl at e
          simp [x_var, Pg.pl, r2, l3, e]
          rw [Wp.chk_of (by omega)]
          simp [Function.comp_def])
      rw [fold_app] at L
      unfold Pg.pl at L
      dsimp only at L
      rw [List.map_nil, List.nil_append] at L
      simp [x_var, Pg.pl, L]
      rfl)
  generalize (List.foldl (fun (s : Nat × Option D × Option D × Option D) (x : Nat) => (s.1 + 1, some (D.int (x : Int)), some (D.lst ((tups p.sp (s.1 + 1)).map tns)), (match (tups p.sp s.1).getLast? with | some r => some (tns r) | none => s.2.2.2))) (0, none, none, none) (List.range p.hd)) = sf at i L
  have e0 : sf.1 = p.hd := by simpa using i
  rw [e0, ← rangeD_eq] at L
  simp only [tups, Pg.pl, List.map_cons, List.map_nil, show tns [] = D.tup [] from rfl] at L
  simp [F__law_hands, b__law_hands, x_var, Pg.pl, r1, L]
  rfl
end
end Rr
/-! registerrooms, the plain law: settled states, events, what comes behind, first pairs. -/
namespace Rr
open PySem PySem.Spec PyProof.Rows L2
@[simp] theorem x_setK {i : Nat} {wk wv : WE} {ρ : Env} : wSetK i wk wv ρ = (wv ρ).bind fun v => (ownD i ρ).bind fun p => (wk ρ).bind fun k => .chk (k.kd ∧ p.1.length < 16777216) (.ret (.nx (ρ.set i (some (.dct (dputK p.1 k) (dputV p.1 p.2 k v)))))) := rfl
@[simp] theorem x_app {i : Nat} {w : WE} {ρ : Env} : wApp i w ρ = (ownL i ρ).bind fun ds => (w ρ).bind fun d => .chk (ds.length < 16777216) (.ret (.nx (ρ.set i (some (.lst (ds ++ [d])))))) := rfl
@[simp] theorem x_isD_non {d : D} : isD d .non = .ret (.bl (isN d)) := by cases d <;> rfl
@[simp] theorem x_nisD_non {d : D} : nisD d .non = .ret (.bl (!isN d)) := by cases d <;> rfl
theorem dputK_new {ks : List D} {k : D} (h : k ∉ ks) : dputK ks k = ks ++ [k] := by
  unfold dputK
  rw [if_neg h]
theorem dputK_old {ks : List D} {k : D} (h : k ∈ ks) : dputK ks k = ks := by
  unfold dputK
  rw [if_pos h]
theorem dputV_new : ∀ {ks vs : List D} {k v : D}, k ∉ ks → ks.length = vs.length → dputV ks vs k v = vs ++ [v]
  | [], [], _, _, _, _ => rfl
  | [], _ :: _, _, _, _, h => by cases h
  | _ :: _, [], _, _, _, h => by cases h
  | a :: ks, b :: vs, k, v, h, l => by
    unfold dputV
    rw [if_neg fun e => h (by rw [e]; exact List.mem_cons_self ..), dputV_new (fun m => h (List.mem_cons_of_mem _ m)) (by simpa using l)]
    rfl
section
variable {p q : Pg} {s : St}
theorem handed_p (O : p.Ok) (h : List Int) : F_are_handed [p.prg, tns h] = .ret (.bl (decide (h ∈ p.hs))) := by
  have hs := hands_p O
  have i := in_ok (a := tns h) (ds := p.hs.map tns) (pln_tns h).ok (ok_lst tns pln_tns (by decide) p.hs)
  rw [show decide (tns h ∈ p.hs.map tns) = decide (h ∈ p.hs) by rw [decide_eq_decide]; exact mem_inj tns_inj] at i
  replace i : inD (.tup (h.map .int)) (.lst (p.hs.map tns)) = .ret (.bl (decide (h ∈ p.hs))) := i
  unfold Pg.prg at hs
  by_cases m : h ∈ p.hs
  · have e := lc_map (fs := setN) (is := [2]) (vs := [2]) (te := wIsi "bool" (wVar 2)) (ρ := [some p.prg, some (tns h), none]) D.int (fun x => [D.int x]) (fun x => D.bl ((fun _ => false) x)) h fun y _ => ⟨rfl, by simp [x_var]⟩
    have l := (mem_tups.mp m).1
    have l2 := O.hd.1
    unfold Pg.prg tns at e
    have a := any_bl h (fun _ => false)
    rw [show h.any (fun _ => false) = false by simp] at a
    rw [decide_eq_true m] at i ⊢
    have l3 : h.length ≤ 16777216 := by omega
    simp [F_are_handed, b_are_handed, x_var, Pg.prg, hs, tns, i, e, l3]
    rw [a]
    rfl
  · rw [decide_eq_false m] at i ⊢
    simp [F_are_handed, b_are_handed, x_var, Pg.prg, hs, tns, i]
theorem check1_p : F_check_graph [p.prg] = .ret .non := by simp [F_check_graph, b_check_graph, x_var, Pg.prg, wMap, isBlocks]
theorem both_p (T : Two p q) : F_check_both [p.prg, q.prg] = .ret .non := by
  have h1 := hands_p T.l
  have h2 := hands_p T.r
  have c1 := check1_p (p := p)
  have c2 := check1_p (p := q)
  have e : q.hs = p.hs := by unfold Pg.hs; rw [T.sp, T.hd]
  rw [e] at h2
  have n := ne_ok (a := .lst (p.hs.map tns)) (b := .lst (p.hs.map tns)) (ok_lst tns pln_tns (by decide) p.hs) (ok_lst tns pln_tns (by decide) p.hs)
  have n2 := ne_ok (a := .int (q.sp : Int)) (b := .int (q.sp : Int)) ok_int ok_int
  unfold Pg.prg at h1 h2 c1 c2
  rw [T.sp] at h1 c1
  simp at n n2
  simp [F_check_both, b_check_both, x_var, Pg.prg, h1, h2, c1, c2, n, n2, wMap, fSpan, T.sp]
noncomputable def stT : WT := wB (wOp ninD (wOp ixD (wCall F_what_is_next (wCons (wVar 0) (wCons (wVar 1) wNil))) (wC (.int 0))) (wTup (wCons (wC (.str "take")) (wCons (wC (.str "tell")) (wCons (wC (.str "stop")) wNil)))))
noncomputable def stB : WS := wSeq (wIfS (wB (wOp inE (wVar 1) (wVar 2))) (wRet (wC .non)) wNext) (wSeq (wSetK 2 (mk [2] (wVar 1)) (mk [2] (wC (.bl true)))) (wAsg (mk [2] (wCallN F_stepped (wCons (wVar 0) (wCons (wVar 1) wNil)))) setN [1]))
theorem settled_loop (O : p.Ok) : ∀ (n : Nat) (seen : List St) (s : St) (o : Option St), p.settN n seen s = some o → s.Ok p → n + seen.length ≤ 16000000 →
    (wWhile stT stB [some p.prg, some s.d, some (.dct (seen.map St.d) (seen.map fun _ => .bl true))]).bind (seqK (wRet (wVar 1))) = .ret (.rt (so o))
  | 0, _, _, _, h, _, _ => by simp [Pg.settN] at h
  | n + 1, seen, s, o, h, S, l => by
    have nx := next_p O S
    unfold Pg.settN at h
    by_cases k : (p.nx s).wd.halt = true
    · rw [if_pos k] at h
      cases h
      rw [while_f (by simp [stT, x_var, nx, It.ix0, k])]
      simp [x_var, so]
    · have t : stT [some p.prg, some s.d, some (.dct (seen.map St.d) (seen.map fun _ => .bl true))] = .ret true := by simp [stT, x_var, nx, It.ix0, k]
      rw [if_neg k] at h
      have i := in_e (k := s.d) (ks := seen.map St.d) (vs := seen.map fun _ => D.bl true) (kd_st s)
      rw [show decide (s.d ∈ seen.map St.d) = decide (s ∈ seen) by rw [decide_eq_decide]; exact mem_inj st_inj] at i
      by_cases m : s ∈ seen
      · rw [if_pos m] at h
        cases h
        rw [decide_eq_true m] at i
        rw [while_rt t (d := .non) (by simp [stB, x_var, i])]
        rfl
      · rw [if_neg m] at h
        rw [decide_eq_false m] at i
        have T : TkOk p.sp (p.nx s).wd none := fun e => absurd (by rw [e]; rfl) k
        have st := stepped_p O S T (fun e => absurd (by rw [e]; rfl) k)
        have m2 : s.d ∉ seen.map St.d := fun e => m ((mem_inj st_inj).mp e)
        have dv := dputV_new (vs := seen.map fun _ => D.bl true) (v := .bl true) m2 (by simp)
        have ih := settled_loop O n (seen ++ [s]) (p.aft s none) o h (aft_ok O S T) (by simp; omega)
        rw [while_nx t (ρ' := [some p.prg, some (p.aft s none).d, some (.dct ((seen ++ [s]).map St.d) ((seen ++ [s]).map fun _ => .bl true))])]
        · exact ih
        · simp [stB, x_var, i, ownD, dputK_new m2, dv]
          rw [Wp.chk_of ⟨kd_st s, by omega⟩]
          simp [tkd] at st
          simp [x_var, st]
theorem settled_p (O : p.Ok) (S : s.Ok p) : F_settled [p.prg, s.d] = .ret (so (p.sett s)) := by
  have h := settled_loop O 4000 [] s _ (sett_eq O S) S (by simp)
  simp only [List.map_nil] at h
  have e : F_settled [p.prg, s.d] = ((wWhile stT stB [some p.prg, some s.d, some (.dct [] [])]).bind (seqK (wRet (wVar 1)))).bind retK := by
    simp [F_settled, b_settled]
    rfl
  rw [e, h]
  rfl
noncomputable def lsB : WS := wSeq (wIfS (wB (wOp inD (wOp ixD (wCall F__law_coming (wCons (wVar 0) (wCons (wVar 1) wNil))) (wC (.int 0))) (wTup (wCons (wC (.str "take")) (wCons (wC (.str "tell")) (wCons (wC (.str "stop")) wNil)))))) (wRet (wVar 1)) wNext) (wSeq (wIfS (wB (wOp inD (wVar 1) (wVar 2))) (wRet (wC .non)) wNext) (wSeq (wApp 2 (mk [2] (wVar 1))) (wAsg (mk [2] (wCall F__law_after (wCons (wVar 0) (wCons (wVar 1) (wCons (wC .non) wNil))))) setN [1])))
theorem lsettled_loop (O : p.Ok) : ∀ (n : Nat) (seen : List St) (s : St) (o : Option St) (ds : List D) (u : Option D), p.settN n seen s = some o → s.Ok p → n + seen.length ≤ 16000000 → n ≤ ds.length →
    (forN setN [3] lsB ds [some p.pl, some s.d, some (.lst (seen.map St.d)), u]).bind (seqK (wRet (wC .non))) = .ret (.rt (so o))
  | 0, _, _, _, _, _, h, _, _, _ => by simp [Pg.settN] at h
  | n + 1, seen, s, o, [], u, h, S, l, l2 => by simp at l2
  | n + 1, seen, s, o, d :: ds, u, h, S, l, l2 => by
    have nx := coming_p O S
    unfold Pg.settN at h
    rw [x_forCons]
    by_cases k : (p.nx s).wd.halt = true
    · rw [if_pos k] at h
      cases h
      simp [lsB, x_var, nx, It.ix0, k, so]
    · rw [if_neg k] at h
      have i := in_ok (a := s.d) (ds := seen.map St.d) (pln_st s).ok (ok_lst St.d pln_st (by decide) seen)
      rw [show decide (s.d ∈ seen.map St.d) = decide (s ∈ seen) by rw [decide_eq_decide]; exact mem_inj st_inj] at i
      by_cases m : s ∈ seen
      · rw [if_pos m] at h
        cases h
        rw [decide_eq_true m] at i
        simp [lsB, x_var, nx, It.ix0, k, i, so]
      · rw [if_neg m] at h
        rw [decide_eq_false m] at i
        have T : TkOk p.sp (p.nx s).wd none := fun e => absurd (by rw [e]; rfl) k
        have st := after_p O S T (fun e => absurd (by rw [e]; rfl) k)
        have ih := lsettled_loop O n (seen ++ [s]) (p.aft s none) o ds (some d) h (aft_ok O S T) (by simp; omega) (by simp at l2; omega)
        have l3 : seen.length < 16777216 := by omega
        simp only [tkd] at st
        simp only [List.map_append, List.map_cons, List.map_nil] at ih
        have e : lsB [some p.pl, some s.d, some (.lst (seen.map St.d)), some d] = .ret (.nx [some p.pl, some (p.aft s none).d, some (.lst (seen.map St.d ++ [s.d])), some d]) := by
          simp [lsB, x_var, nx, It.ix0, k, i, ownL, l3, st]
        simp [e, ih]
theorem lsettled_p (O : p.Ok) (S : s.Ok p) : F__law_settled [p.pl, s.d] = .ret (so (p.sett s)) := by
  have h := lsettled_loop O 4000 [] s _ (rangeD 0 100000) none (sett_eq O S) S (by simp) (by simp [rangeD])
  simp only [List.map_nil] at h
  have r : rng1D [.int 100000] = .ret (rangeD 0 100000) := x_rng1D (n := 100000) (by decide)
  have e : F__law_settled [p.pl, s.d] = ((forN setN [3] lsB (rangeD 0 100000) [some p.pl, some s.d, some (.lst []), none]).bind (seqK (wRet (wC .non)))).bind retK := by
    simp [F__law_settled, b__law_settled, r]
    rfl
  rw [e, h]
  rfl
end
end Rr
/-! registerrooms, the plain law: events, what comes behind a pair, first pairs. -/
namespace Rr
open PySem PySem.Spec PyProof.Rows L2
def evd (e : Wd × Option Int) : D := .tup [.str e.1.s, tkd e.2]
theorem pln_ev (e : Wd × Option Int) : Pln (evd e) 1 := pln2 (pln_w _) (pln_tk _)
theorem evd_inj (x y : Wd × Option Int) (h : evd x = evd y) : x = y := by
  unfold evd at h
  simp only [D.tup.injEq, List.cons.injEq, and_true, D.str.injEq] at h
  exact Prod.ext (Wd.inj h.1) (tk_inj _ _ h.2)
def OkO (p : Pg) (o : Option St) : Prop := ∀ s, o = some s → s.Ok p
theorem SO.ok {p : Pg} {o : Option St} (h : SO p o) : OkO p o := fun s e => (h s e).1
def halts (p : Pg) : Option St → Bool
  | none => true
  | some s => (p.nx s).wd.halt
theorem so_iff {p : Pg} {o : Option St} (O : OkO p o) : halts p o = true ↔ SO p o := by
  cases o with
  | none => exact ⟨fun _ s e => (nomatch e), fun _ => rfl⟩
  | some s => exact ⟨fun h t e => (Option.some.inj e) ▸ ⟨O _ rfl, h⟩, fun h => (h s rfl).2⟩
theorem nx_talk (p : Pg) (s : St) : (p.nx s).wd ≠ .silent := by
  cases p.nx s with
  | row r => cases r <;> simp [It.wd, Rw.wd]
  | fin e => cases e <;> simp [It.wd, En.wd]
theorem ev_wd (p : Pg) (s : St) : (p.ev (some s)).1 = (p.nx s).wd := by
  show (match p.nx s with
      | .row (.tell r) => (Wd.tell, some (nat s.ns r))
      | it => (it.wd, none)).1 = _
  split
  · rename_i h
    rw [h]
    rfl
  · rfl
section
variable {p q : Pg} {s : St}
theorem event_p (O : p.Ok) {o : Option St} (h : OkO p o) : F_event_at [p.prg, so o] = .ret (evd (p.ev o)) := by
  cases o with
  | none => simp [F_event_at, b_event_at, x_var, so, isN, evd, Pg.ev, tkd]; rfl
  | some s =>
    have S := h s rfl
    have nx := next_p O S
    have n : isN s.d = false := rfl
    have i2 : ixD s.d (.int 2) = .ret (tns s.ns) := by simp [St.d]
    cases k : p.nx s with
    | row r =>
      have R := (nx_row O S k).1
      rw [k] at nx
      cases r with
      | tell v =>
        have A := at_ns (ns := s.ns) (r := v) (by rw [S.n]; exact R)
        simp [F_event_at, b_event_at, x_var, so, n, nx, Rw.d, Rw.wd, Rw.args, i2, tns, A, evd, Pg.ev, k, tkd]
      | _ => simp [F_event_at, b_event_at, x_var, so, n, nx, Rw.d, Rw.wd, Rw.args, evd, Pg.ev, k, tkd, It.wd]
    | fin e =>
      rw [k] at nx
      cases e <;> simp [F_event_at, b_event_at, x_var, so, n, nx, En.d, En.wd, En.args, evd, Pg.ev, k, tkd, It.wd]
theorem levent_p (O : p.Ok) {o : Option St} (h : OkO p o) : F__law_event [p.pl, so o] = .ret (evd (p.ev o)) := by
  cases o with
  | none => simp [F__law_event, b__law_event, x_var, so, isN, evd, Pg.ev, tkd]; rfl
  | some s =>
    have S := h s rfl
    have nx := coming_p O S
    have n : isN s.d = false := rfl
    have i2 : ixD s.d (.int 2) = .ret (tns s.ns) := by simp [St.d]
    cases k : p.nx s with
    | row r =>
      have R := (nx_row O S k).1
      rw [k] at nx
      cases r with
      | tell v =>
        have A := at_ns (ns := s.ns) (r := v) (by rw [S.n]; exact R)
        simp [F__law_event, b__law_event, x_var, so, n, nx, Rw.d, Rw.wd, Rw.args, i2, tns, A, evd, Pg.ev, k, tkd]
      | _ => simp [F__law_event, b__law_event, x_var, so, n, nx, Rw.d, Rw.wd, Rw.args, evd, Pg.ev, k, tkd, It.wd]
    | fin e =>
      rw [k] at nx
      cases e <;> simp [F__law_event, b__law_event, x_var, so, n, nx, En.d, En.wd, En.args, evd, Pg.ev, k, tkd, It.wd]
theorem is_settled_p (O : p.Ok) {o : Option St} (h : OkO p o) : F_is_settled_in [p.prg, so o] = .ret (.bl (halts p o)) := by
  cases o with
  | none => simp [F_is_settled_in, b_is_settled_in, x_var, so, isN, halts]
  | some s =>
    have nx := next_p O (h s rfl)
    have n : isN s.d = false := rfl
    simp [F_is_settled_in, b_is_settled_in, x_var, so, n, nx, It.ix0, halts]
theorem follow_p (O : p.Ok) (S : s.Ok p) {t : Option Int} (T : TkOk p.sp (p.nx s).wd t) (h : (p.nx s).wd ≠ .stop) : F_follow [p.prg, s.d, tkd t] = .ret (so (p.fol (some s) t)) := by
  have st := stepped_p O S T h
  have se := settled_p O (aft_ok O S T)
  simp [F_follow, b_follow, x_var, st, se, Pg.fol]
variable {x : Pr}
theorem ix_pr0 (x : Pr) : ixD (prd x) (.int 0) = .ret (so x.1) := by simp [prd]
theorem ix_pr1 (x : Pr) : ixD (prd x) (.int 1) = .ret (so x.2) := by simp [prd]
theorem eq_ev (a b : Wd × Option Int) : eqD (evd a) (evd b) = .ret (.bl (decide (a = b))) := by
  rw [eq_ok (pln_ev a).ok (pln_ev b).ok, show decide (evd a = evd b) = decide (a = b) by rw [decide_eq_decide]; exact ⟨evd_inj a b, fun h => by rw [h]⟩]
theorem ne_ev (a b : Wd × Option Int) : neD (evd a) (evd b) = .ret (.bl (!decide (a = b))) := by
  rw [ne_ok (pln_ev a).ok (pln_ev b).ok, show decide (evd a = evd b) = decide (a = b) by rw [decide_eq_decide]; exact ⟨evd_inj a b, fun h => by rw [h]⟩]
theorem one_p (T : Two p q) (h1 : OkO p x.1) (h2 : OkO q x.2) : F_are_one [p.prg, q.prg, prd x] = .ret (.bl ((gr p q).one x)) := by
  simp [F_are_one, b_are_one, x_var, ix_pr0, ix_pr1, event_p T.l h1, event_p T.r h2, eq_ev, gr]
def lbo (p q : Pg) : D := .tup [p.pl, q.pl]
theorem lone_p (T : Two p q) (h1 : OkO p x.1) (h2 : OkO q x.2) : F__law_is_one [lbo p q, prd x] = .ret (.bl ((gr p q).one x)) := by
  simp [F__law_is_one, b__law_is_one, x_var, lbo, ix_pr0, ix_pr1, levent_p T.l h1, levent_p T.r h2, eq_ev, gr]
/-! ### what comes behind -/
def ltd (l : Option Int × Pr) : D := .tup [tkd l.1, prd l.2]
theorem opts_some (T : Two p q) {s : St} {o : Option St} : (gr p q).opts (some s, o) = p.opt s := by
  unfold Gr.opts Pg.opt
  have k := nx_talk p s
  have e := ev_wd p s
  by_cases h : (p.nx s).wd = .stop
  · simp [gr, e, h]
  · simp [gr, e, h, k]
theorem opts_none {o : Option St} : (gr p q).opts (none, o) = [] := by simp [Gr.opts, gr, Pg.ev]
/-- both at a state, if both do the same and do not end -/
theorem both_some (o : (gr p q).one x = true) {s : St} (h : x.1 = some s) : ∃ t, x.2 = some t ∧ (p.nx s).wd = (q.nx t).wd := by
  have e : p.ev x.1 = q.ev x.2 := by simpa [gr] using o
  cases h2 : x.2 with
  | none =>
    exfalso
    rw [h, h2] at e
    have := congrArg Prod.fst e
    rw [ev_wd] at this
    exact nx_talk p s this
  | some t =>
    refine ⟨t, rfl, ?_⟩
    rw [h, h2] at e
    have := congrArg Prod.fst e
    rwa [ev_wd, ev_wd] at this
theorem opt_tk {s : St} {t : Option Int} (h : t ∈ p.opt s) : (p.nx s).wd ≠ .stop ∧ TkOk p.sp (p.nx s).wd t := by
  unfold Pg.opt at h
  split at h
  · cases h
  · rename_i n
    refine ⟨n, fun k => ?_⟩
    rw [if_pos k] at h
    simp at h
    obtain ⟨y, hy, rfl⟩ := h
    exact ⟨_, rfl, by omega, by omega⟩
theorem opt_le (O : p.Ok) (s : St) : (p.opt s).length ≤ 4 := by
  have := O.sp.2
  unfold Pg.opt
  split
  · simp
  · split
    · simpa using this
    · simp
theorem lates_p (T : Two p q) (X : PrOk p q x) (o : (gr p q).one x = true) : F_lates_of [p.prg, q.prg, prd x] = .ret (.lst (((gr p q).lat x).map ltd)) := by
  obtain ⟨a, b⟩ := x
  cases a with
  | none => simp [F_lates_of, b_lates_of, x_var, ix_pr0, so, isN, Gr.lat, opts_none]
  | some s =>
    obtain ⟨t, rfl, w⟩ : ∃ t, b = some t ∧ (p.nx s).wd = (q.nx t).wd := both_some o rfl
    have S := (X.1 s rfl).1
    have S2 := (X.2 t rfl).1
    have nx := next_p T.l S
    have n : isN s.d = false := rfl
    have st := steps_p T.l S
    have l := opt_le T.l s
    by_cases k : (p.nx s).wd = .stop
    · have e : p.opt s = [] := by unfold Pg.opt; rw [if_pos k]
      simp [F_lates_of, b_lates_of, x_var, ix_pr0, so, n, nx, It.ix0, k, Gr.lat, opts_some T, e]
    · have e := lc_map (fs := setN) (is := [3]) (vs := [3]) (te := wTup (wCons (wVar 3) (wCons (wTup (wCons (wCall F_follow (wCons (wVar 0) (wCons (wOp ixD (wVar 2) (wC (.int 0))) (wCons (wVar 3) wNil)))) (wCons (wCall F_follow (wCons (wVar 1) (wCons (wOp ixD (wVar 2) (wC (.int 1))) (wCons (wVar 3) wNil)))) wNil))) wNil)))
        (ρ := [some p.prg, some q.prg, some (prd (some s, some t)), none]) tkd (fun t => [tkd t]) (fun u => ltd (u, (gr p q).nx (some s, some t) u)) (p.opt s) (fun u hu => ⟨rfl, by
          obtain ⟨_, k2⟩ := opt_tk hu
          have f1 := follow_p T.l S k2 k
          have f2 := follow_p T.r S2 (t := u) (by rw [← w, ← T.sp]; exact k2) (by rw [← w]; exact k)
          simp [x_var, ix_pr0, ix_pr1, so, f1, f2, ltd, gr, prd]⟩)
      have l2 : (p.opt s).length ≤ 16777216 := by omega
      simp [F_lates_of, b_lates_of, x_var, ix_pr0, so, n, nx, It.ix0, k, st, l2, e, Gr.lat, opts_some T]
      rfl
theorem llates_p (T : Two p q) (X : PrOk p q x) (o : (gr p q).one x = true) : F__law_lates [lbo p q, prd x] = .ret (.lst (((gr p q).lat x).map ltd)) := by
  obtain ⟨a, b⟩ := x
  cases a with
  | none => simp [F__law_lates, b__law_lates, x_var, lbo, ix_pr0, so, isN, Gr.lat, opts_none]
  | some s =>
    obtain ⟨t, rfl, w⟩ : ∃ t, b = some t ∧ (p.nx s).wd = (q.nx t).wd := both_some o rfl
    have S := (X.1 s rfl).1
    have S2 := (X.2 t rfl).1
    have n : isN s.d = false := rfl
    have st := options_p T.l S
    have l := opt_le T.l s
    obtain ⟨i, L⟩ := for_fold (fs := setN) (is := [5]) (f := wSeq (wPar2 6 7 (wCons (mk [4] (wCall F__law_after (wCons (wVar 2) (wCons (wOp ixD (wVar 1) (wC (.int 0))) (wCons (wVar 5) wNil))))) (wCons (mk [4] (wCall F__law_after (wCons (wVar 3) (wCons (wOp ixD (wVar 1) (wC (.int 1))) (wCons (wVar 5) wNil))))) wNil))) (wApp 4 (mk [4] (wTup (wCons (wVar 5) (wCons (wTup (wCons (wCall F__law_settled (wCons (wVar 2) (wCons (wVar 6) wNil))) (wCons (wCall F__law_settled (wCons (wVar 3) (wCons (wVar 7) wNil))) wNil))) wNil))))))
      (fun u : List (Option Int × Pr) × Option D × Option D × Option D => [some (lbo p q), some (prd (some s, some t)), some p.pl, some q.pl, some (.lst (u.1.map ltd)), u.2.1, u.2.2.1, u.2.2.2]) tkd (fun u v => (u.1 ++ [(v, (gr p q).nx (some s, some t) v)], some (tkd v), some (p.aft s v).d, some (q.aft t v).d)) (fun vs u => (∀ v ∈ vs, v ∈ p.opt s) ∧ u.1.length + vs.length ≤ 1000) (p.opt s) ([], none, none, none) ⟨fun v h => h, by simp; omega⟩
      (fun u v vs hu => by
        obtain ⟨h1, h2⟩ := hu
        rw [List.length_cons] at h2
        refine ⟨⟨fun w hw => h1 w (List.mem_cons_of_mem _ hw), by simp; omega⟩, ?_⟩
        obtain ⟨k, k2⟩ := opt_tk (h1 v (List.mem_cons_self ..))
        have k3 : TkOk q.sp (q.nx t).wd v := by rw [← w, ← T.sp]; exact k2
        have f1 := after_p T.l S k2 k
        have f2 := after_p T.r S2 k3 (by rw [← w]; exact k)
        have g1 := lsettled_p T.l (aft_ok T.l S k2)
        have g2 := lsettled_p T.r (aft_ok T.r S2 k3)
        have l3 : u.1.length < 16777216 := by omega
        simp [x_var, ix_pr0, ix_pr1, so, f1, f2, g1, g2, ownL, l3, ltd, gr, prd, Pg.fol])
    have e : ∀ (vs : List (Option Int)) (u : List (Option Int × Pr) × Option D × Option D × Option D), (vs.foldl (fun u v => (u.1 ++ [(v, (gr p q).nx (some s, some t) v)], some (tkd v), some (p.aft s v).d, some (q.aft t v).d)) u).1 = u.1 ++ vs.map fun v => (v, (gr p q).nx (some s, some t) v) := fun vs => by
      induction vs with
      | nil => intro u; simp
      | cons v vs ih => intro u; rw [List.foldl_cons, ih]; simp
    have e1 := e (p.opt s) ([], none, none, none)
    generalize (List.foldl (fun (u : List (Option Int × Pr) × Option D × Option D × Option D) v => (u.1 ++ [(v, (gr p q).nx (some s, some t) v)], some (tkd v), some (p.aft s v).d, some (q.aft t v).d)) ([], none, none, none) (p.opt s)) = sf at e1 L
    rw [e1] at L
    dsimp only at L
    rw [List.nil_append, List.map_nil] at L
    unfold lbo at L
    simp [F__law_lates, b__law_lates, x_var, lbo, ix_pr0, so, n, st, L, Gr.lat, opts_some T]
end
end Rr
/-! registerrooms, the plain law: first pairs; papers of what tells alike. -/
namespace Rr
open PySem PySem.Spec PyProof.Rows L2
@[simp] theorem x_setdef {i : Nat} {wk wv : WE} {ρ : Env} : wSetdef i wk wv ρ = (ownD i ρ).bind fun p => (wk ρ).bind fun k => (wv ρ).bind fun v => .chk (k.kd ∧ p.1.length < 16777216) (.ret (.nx (if k ∈ p.1 then ρ else ρ.set i (some (.dct (dputK p.1 k) (dputV p.1 p.2 k v)))))) := rfl
theorem fold_fst {α β τ : Type} (g : α → τ → α) (b : α × β → τ → β) : ∀ (xs : List τ) (s : α × β), (xs.foldl (fun s x => (g s.1 x, b s x)) s).1 = xs.foldl g s.1
  | [], s => rfl
  | x :: xs, s => by rw [List.foldl_cons, fold_fst g b xs, List.foldl_cons]
section
variable {p q : Pg}
def dks (f : List (Ent Pr)) : List D := f.map fun e => prd e.1
theorem dks_mem {f : List (Ent Pr)} {x : Pr} : prd x ∈ dks f ↔ x ∈ kys f := by
  unfold dks kys
  rw [show (f.map fun e => prd e.1) = (f.map (·.1)).map prd by simp [Function.comp_def]]
  exact mem_inj pr_inj
theorem addE_dct (f : List (Ent Pr)) (e : Ent Pr) (v : Ent Pr → D) : (dks (addE f e) = if prd e.1 ∈ dks f then dks f else dputK (dks f) (prd e.1)) ∧ ((addE f e).map v = if prd e.1 ∈ dks f then f.map v else dputV (dks f) (f.map v) (prd e.1) (v e)) := by
  unfold addE
  by_cases h : e.1 ∈ kys f
  · rw [if_pos h, if_pos (dks_mem.mpr h), if_pos (dks_mem.mpr h)]
    exact ⟨rfl, rfl⟩
  · have h2 : prd e.1 ∉ dks f := fun k => h (dks_mem.mp k)
    rw [if_neg h, if_neg h2, if_neg h2, dputK_new h2, dputV_new h2 (by simp [dks])]
    exact ⟨by simp [dks], by simp⟩
def vst (e : Ent Pr) : D := tns e.2.1
theorem hs_mem (O : p.Ok) {h : List Int} (m : h ∈ p.hs) : h.length ≤ 4 := by
  have := (mem_tups.mp m).1
  have := O.hd.1
  omega
theorem hs_two (T : Two p q) {h : List Int} (m : h ∈ p.hs) : h ∈ q.hs := by
  unfold Pg.hs at m ⊢
  rwa [← T.sp, ← T.hd]
theorem addE_len (f : List (Ent Pr)) (e : Ent Pr) : (addE f e).length ≤ f.length + 1 := by
  unfold addE
  split <;> simp
theorem starts_p (T : Two p q) : F_starts_of [p.prg, q.prg] = .ret (.dct (dks (gr p q).src) ((gr p q).src.map vst)) := by
  have hh := hands_p T.l
  obtain ⟨i, L⟩ := for_fold (fs := setN) (is := [3]) (f := wSeq (wAsg (mk [2] (wTup (wCons (wCall F_settled (wCons (wVar 0) (wCons (wCall F_start_of (wCons (wVar 0) (wCons (wVar 3) wNil))) wNil))) (wCons (wCall F_settled (wCons (wVar 1) (wCons (wCall F_start_of (wCons (wVar 1) (wCons (wVar 3) wNil))) wNil))) wNil)))) setN [4]) (wSetdef 2 (mk [2] (wVar 4)) (mk [2] (wVar 3))))
    (fun u : List (Ent Pr) × Option D × Option D => [some p.prg, some q.prg, some (.dct (dks u.1) (u.1.map vst)), u.2.1, u.2.2]) tns (fun u h => (addE u.1 ((gr p q).st h, h, []), some (tns h), some (prd ((gr p q).st h)))) (fun hs u => (∀ h ∈ hs, h ∈ p.hs) ∧ u.1.length + hs.length ≤ 1000) p.hs ([], none, none) ⟨fun h m => m, by have := hs_len T.l; simp; omega⟩
    (fun u h hs hu => by
      obtain ⟨h1, h2⟩ := hu
      rw [List.length_cons] at h2
      have l := addE_len u.1 ((gr p q).st h, h, [])
      refine ⟨⟨fun w hw => h1 w (List.mem_cons_of_mem _ hw), by dsimp only; omega⟩, ?_⟩
      have m := h1 h (List.mem_cons_self ..)
      have m2 := hs_two T m
      have a1 := start_p T.l (hs_mem T.l m)
      have a2 := start_p T.r (hs_mem T.l m)
      have b1 := settled_p T.l (fst_ok T.l m)
      have b2 := settled_p T.r (fst_ok T.r m2)
      obtain ⟨e1, e2⟩ := addE_dct u.1 ((gr p q).st h, h, []) vst
      have kd := kd_pr ((gr p q).st h)
      have g : prd ((gr p q).st h) = .tup [so (p.sett (p.fst h)), so (q.sett (q.fst h))] := rfl
      dsimp only at e1 e2
      rw [e1, e2]
      rw [g] at kd ⊢
      have l2 : (dks u.1).length < 16777216 := by simp [dks]; omega
      by_cases mm : D.tup [so (p.sett (p.fst h)), so (q.sett (q.fst h))] ∈ dks u.1
      · simp [x_var, a1, a2, b1, b2, ownD, mm]
        exact Wp.chk_of ⟨kd, l2⟩ _
      · simp [x_var, a1, a2, b1, b2, ownD, mm]
        exact Wp.chk_of ⟨kd, l2⟩ _)
  have e1 := fold_fst (fun (f : List (Ent Pr)) h => addE f ((gr p q).st h, h, [])) (fun (_ : List (Ent Pr) × Option D × Option D) (h : List Int) => (some (tns h), some (prd ((gr p q).st h)))) p.hs ([], none, none)
  generalize (List.foldl (fun (u : List (Ent Pr) × Option D × Option D) h => (addE u.1 ((gr p q).st h, h, []), some (tns h), some (prd ((gr p q).st h)))) ([], none, none) p.hs) = sf at e1 L
  rw [e1] at L
  dsimp only at L
  rw [show List.foldl (fun (f : List (Ent Pr)) h => addE f ((gr p q).st h, h, [])) [] p.hs = (gr p q).src from rfl] at L
  unfold dks at L ⊢
  rw [List.map_nil, List.map_nil] at L
  simp [F_starts_of, b_starts_of, x_var, hh, L]
theorem lstarts_p (T : Two p q) : F__law_starts [lbo p q] = .ret (.lst (p.hs.map fun h => prd ((gr p q).st h))) := by
  have hh := lhands_p T.l
  obtain ⟨i, L⟩ := for_fold (fs := setN) (is := [4]) (f := wSeq (wPar2 5 6 (wCons (mk [3] (wCall F__law_first (wCons (wVar 1) (wCons (wVar 4) wNil)))) (wCons (mk [3] (wCall F__law_first (wCons (wVar 2) (wCons (wVar 4) wNil)))) wNil))) (wApp 3 (mk [3] (wTup (wCons (wCall F__law_settled (wCons (wVar 1) (wCons (wVar 5) wNil))) (wCons (wCall F__law_settled (wCons (wVar 2) (wCons (wVar 6) wNil))) wNil))))))
    (fun u : List Pr × Option D × Option D × Option D => [some (lbo p q), some p.pl, some q.pl, some (.lst (u.1.map prd)), u.2.1, u.2.2.1, u.2.2.2]) tns (fun u h => (u.1 ++ [(gr p q).st h], some (tns h), some (p.fst h).d, some (q.fst h).d)) (fun hs u => (∀ h ∈ hs, h ∈ p.hs) ∧ u.1.length + hs.length ≤ 1000) p.hs ([], none, none, none) ⟨fun h m => m, by have := hs_len T.l; simp; omega⟩
    (fun u h hs hu => by
      obtain ⟨h1, h2⟩ := hu
      rw [List.length_cons] at h2
      refine ⟨⟨fun w hw => h1 w (List.mem_cons_of_mem _ hw), by simp; omega⟩, ?_⟩
      have m := h1 h (List.mem_cons_self ..)
      have m2 := hs_two T m
      have a1 := lfirst_p T.l (hs_mem T.l m)
      have a2 := lfirst_p T.r (hs_mem T.l m)
      have b1 := lsettled_p T.l (fst_ok T.l m)
      have b2 := lsettled_p T.r (fst_ok T.r m2)
      have l3 : u.1.length < 16777216 := by omega
      simp [x_var, a1, a2, b1, b2, ownL, l3, prd, gr])
  have e1 := fold_fst (fun (f : List Pr) h => f ++ [(gr p q).st h]) (fun (_ : List Pr × Option D × Option D × Option D) (h : List Int) => (some (tns h), some (p.fst h).d, some (q.fst h).d)) p.hs ([], none, none, none)
  generalize (List.foldl (fun (u : List Pr × Option D × Option D × Option D) h => (u.1 ++ [(gr p q).st h], some (tns h), some (p.fst h).d, some (q.fst h).d)) ([], none, none, none) p.hs) = sf at e1 L
  have e2 : ∀ (hs : List (List Int)) (u : List Pr), hs.foldl (fun (f : List Pr) h => f ++ [(gr p q).st h]) u = u ++ hs.map (gr p q).st := fun hs => by
    induction hs with
    | nil => intro u; simp
    | cons h hs ih => intro u; rw [List.foldl_cons, ih]; simp
  rw [e1, e2] at L
  dsimp only at L
  rw [List.nil_append, List.map_nil] at L
  unfold lbo at L
  simp [F__law_starts, b__law_starts, x_var, lbo, hh, L]
  rfl
theorem start_pairs_p (T : Two p q) : F_start_pairs [p.prg, q.prg] = .ret (.lst (p.hs.map fun h => .tup [prd ((gr p q).st h), tns h])) := by
  have hh := hands_p T.l
  have l := hs_len T.l
  have e := lc_map (fs := setN) (is := [2]) (vs := [2]) (te := wTup (wCons (wTup (wCons (wCall F_settled (wCons (wVar 0) (wCons (wCall F_start_of (wCons (wVar 0) (wCons (wVar 2) wNil))) wNil))) (wCons (wCall F_settled (wCons (wVar 1) (wCons (wCall F_start_of (wCons (wVar 1) (wCons (wVar 2) wNil))) wNil))) wNil))) (wCons (wVar 2) wNil)))
    (ρ := [some p.prg, some q.prg, none]) tns (fun h => [tns h]) (fun h => .tup [prd ((gr p q).st h), tns h]) p.hs (fun h m => ⟨rfl, by
      have m2 := hs_two T m
      have a1 := start_p T.l (hs_mem T.l m)
      have a2 := start_p T.r (hs_mem T.l m)
      have b1 := settled_p T.l (fst_ok T.l m)
      have b2 := settled_p T.r (fst_ok T.r m2)
      simp [x_var, a1, a2, b1, b2, prd, gr]⟩)
  have l2 : p.hs.length ≤ 16777216 := by omega
  simp [F_start_pairs, b_start_pairs, x_var, hh, l2, e]
theorem is_step_p {s : St} (O : p.Ok) (S : s.Ok p) (t : Option Int) : F_is_step [p.prg, s.d, tkd t] = .ret (.bl (decide (t ∈ p.opt s))) := by
  have st := steps_p O S
  have b : isiT "bool" (tkd t) = .ret (.bl false) := by cases t <;> simp [tkd]
  have i := in_ok (a := tkd t) (ds := (p.opt s).map tkd) (pln_tk t).ok (ok_lst tkd pln_tk (by decide) _)
  rw [show decide (tkd t ∈ (p.opt s).map tkd) = decide (t ∈ p.opt s) by rw [decide_eq_decide]; exact mem_inj tk_inj] at i
  simp [F_is_step, b_is_step, x_var, st, b, i]
end
end Rr
/-! registerrooms, the plain law: papers of what tells alike. -/
namespace Rr
open PySem PySem.Spec PyProof.Rows L2
@[simp] theorem x_dc {fs : SetD} {is vs : List Nat} {wi : WI} {tk tv : WE} {ρ : Env} : wDc wi fs is vs tk tv ρ = ((wi ρ).bind fun ds => .chk (ds.length ≤ 16777216) (dcN fs is vs tk tv ρ ds [] [])).bind fun p => .ret (asDct p) := rfl
@[simp] theorem x_walkS {w : WE} {ρ : Env} : wWalkS w ρ = (w ρ).bind walkS := rfl
@[simp] theorem x_walkSD {ds : List D} : walkS (.sam ds) = .ret ds := rfl
@[simp] theorem x_enum {w : WA} {ρ : Env} : wEnum w ρ = (w ρ).bind enumW := rfl
theorem x_enum2 {a b : D} : enumW [.tup [a, b]] = .ret [.tup [.int 0, a], .tup [.int 1, b]] := rfl
section
variable {p q : Pg}
def addk (k : List Pr) (x : Pr) : List Pr := if x ∈ k then k else k ++ [x]
def ddp (xs : List Pr) : List Pr := xs.foldl addk []
theorem addk_mem {k : List Pr} {x y : Pr} : y ∈ addk k x ↔ y ∈ k ∨ y = x := by
  unfold addk
  by_cases h : x ∈ k
  · rw [if_pos h]
    exact ⟨.inl, fun h' => h'.elim id fun e => e ▸ h⟩
  · rw [if_neg h]
    simp
theorem ddp_memF : ∀ (xs k : List Pr) (y : Pr), y ∈ xs.foldl addk k ↔ y ∈ k ∨ y ∈ xs
  | [], k, y => by simp
  | x :: xs, k, y => by
    rw [List.foldl_cons, ddp_memF xs, addk_mem, List.mem_cons, or_assoc]
theorem ddp_mem {xs : List Pr} {y : Pr} : y ∈ ddp xs ↔ y ∈ xs := by
  unfold ddp
  rw [ddp_memF]
  simp
theorem ddp_lenF : ∀ (xs k : List Pr), (xs.foldl addk k).length ≤ k.length + xs.length
  | [], k => by simp
  | x :: xs, k => by
    have h1 := ddp_lenF xs (addk k x)
    have h2 : (addk k x).length ≤ k.length + 1 := by
      unfold addk
      split <;> simp
    rw [List.foldl_cons, List.length_cons]
    omega
theorem dput_typed (k : List Pr) (x : Pr) (v : D) : dputK (k.map prd) (prd x) = (addk k x).map prd ∧ dputV (k.map prd) (k.map fun _ => v) (prd x) v = (addk k x).map fun _ => v := by
  unfold addk
  by_cases h : x ∈ k
  · rw [if_pos h, dputK_old ((mem_inj pr_inj).mpr h)]
    refine ⟨rfl, ?_⟩
    have key : ∀ k : List Pr, x ∈ k → dputV (k.map prd) (k.map fun _ => v) (prd x) v = k.map fun _ => v := fun k => by
      induction k with
      | nil => intro h; cases h
      | cons y k ih =>
        intro h
        show (if prd y = prd x then v :: k.map (fun _ => v) else v :: dputV (k.map prd) (k.map fun _ => v) (prd x) v) = v :: k.map fun _ => v
        split
        · rfl
        · rename_i n
          rcases List.mem_cons.mp h with e | h
          · exact absurd (by rw [e]) n
          · rw [ih h]
    exact key k h
  · have h2 : prd x ∉ k.map prd := fun e => h ((mem_inj pr_inj).mp e)
    rw [if_neg h, dputK_new h2, dputV_new h2 (by simp)]
    simp
theorem dc_typed {fs : SetD} {is vs : List Nat} {tk tv : WE} {ρ : Env} (v : D) : ∀ (xs k : List Pr), (∀ x ∈ xs, ((fs (prd x)).bind fun ys => (tk (setA (wipeE ρ vs) is ys)).bind fun kk => (tv (setA (wipeE ρ vs) is ys)).bind fun vv => .ret (kk, vv)) = .ret (prd x, v)) →
    dcN fs is vs tk tv ρ (xs.map prd) (k.map prd) (k.map fun _ => v) = .ret ((xs.foldl addk k).map prd, (xs.foldl addk k).map fun _ => v)
  | [], k, _ => rfl
  | x :: xs, k, h => by
    obtain ⟨e1, e2⟩ := dput_typed k x v
    rw [List.map_cons, List.foldl_cons]
    have h1 := h x (List.mem_cons_self ..)
    have e : dcN fs is vs tk tv ρ (prd x :: xs.map prd) (k.map prd) (k.map fun _ => v) = ((fs (prd x)).bind fun ys => (tk (setA (wipeE ρ vs) is ys)).bind fun kk => (tv (setA (wipeE ρ vs) is ys)).bind fun vv => .ret (kk, vv)).bind fun z => .chk z.1.kd (dcN fs is vs tk tv ρ (xs.map prd) (dputK (k.map prd) z.1) (dputV (k.map prd) (k.map fun _ => v) z.1 z.2)) := rfl
    rw [e, h1, Wp.ret_bind, Wp.chk_of (kd_pr x), e1, e2]
    exact dc_typed v xs (addk k x) fun y hy => h y (List.mem_cons_of_mem _ hy)
theorem foldP_typed (v : D) : ∀ (xs k : List Pr), foldP (xs.map fun x => .tup [prd x, v]) (k.map prd) (k.map fun _ => v) = .ret ((xs.foldl addk k).map prd, (xs.foldl addk k).map fun _ => v)
  | [], k => rfl
  | x :: xs, k => by
    obtain ⟨e1, e2⟩ := dput_typed k x v
    rw [List.map_cons, List.foldl_cons]
    show Wp.chk (prd x).kd (foldP (xs.map fun x => .tup [prd x, v]) (dputK (k.map prd) (prd x)) (dputV (k.map prd) (k.map fun _ => v) (prd x) v)) = _
    rw [Wp.chk_of (kd_pr x), e1, e2]
    exact foldP_typed v xs (addk k x)
theorem dict_p (v : D) (xs : List Pr) (l : xs.length ≤ 1000000) : dictD [.lst (xs.map fun x => .tup [prd x, v])] = .ret (.dct ((ddp xs).map prd) ((ddp xs).map fun _ => v)) := by
  show (Wp.chk _ (foldP _ [] [])).bind _ = _
  rw [Wp.chk_of (by simp; omega)]
  have := foldP_typed v xs []
  rw [List.map_nil, List.map_nil] at this
  rw [this]
  rfl
/-- one pair of a paper is right -/
def okp (p q : Pg) (K : List Pr) (x : Pr) : Bool := halts p x.1 && halts q x.2 && (gr p q).one x && ((gr p q).lat x).all fun l => decide (l.2 ∈ K)
def sameB (p q : Pg) (xs : List Pr) : Bool := (p.hs.all fun h => decide ((gr p q).st h ∈ ddp xs)) && (ddp xs).all (okp p q (ddp xs))
theorem src_mem {x : Pr} : x ∈ kys (gr p q).src ↔ ∃ h ∈ p.hs, (gr p q).st h = x := by
  constructor
  · exact addF_inv (fun h : List Int => (((gr p q).st h, h, []) : Ent Pr)) (fun f => x ∈ kys f → ∃ h ∈ p.hs, (gr p q).st h = x) p.hs [] (fun h => (List.not_mem_nil h).elim) (fun f F h hh n hx => by
      simp only [kys, List.map_append, List.mem_append] at hx
      rcases hx with hx | hx
      · exact F hx
      · exact ⟨h, hh, (List.mem_singleton.mp hx).symm⟩)
  · rintro ⟨h, m, rfl⟩
    exact its_start (gr p q) 0 m
theorem src_all (K : List Pr) : ((gr p q).src.all fun e => decide (e.1 ∈ K)) = p.hs.all fun h => decide ((gr p q).st h ∈ K) := by
  rw [Bool.eq_iff_iff, List.all_eq_true, List.all_eq_true]
  constructor
  · intro H h m
    obtain ⟨e, he, e2⟩ := List.mem_map.mp ((src_mem (p := p) (q := q)).mpr ⟨h, m, rfl⟩)
    rw [← e2]
    exact H e he
  · intro H e he
    obtain ⟨h, m, e2⟩ := (src_mem (p := p) (q := q)).mp (List.mem_map_of_mem he)
    rw [← e2]
    exact H h m
theorem in_K (K : List Pr) (v : D) (x : Pr) : inE (prd x) (.dct (K.map prd) (K.map fun _ => v)) = .ret (.bl (decide (x ∈ K))) := by
  rw [in_e (kd_pr x), show decide (prd x ∈ K.map prd) = decide (x ∈ K) by rw [decide_eq_decide]; exact mem_inj pr_inj]
theorem src_len' (T : Two p q) : (gr p q).src.length ≤ 16 := src_len T.l
theorem lat_le (T : Two p q) (x : Pr) : ((gr p q).lat x).length ≤ 4 := by
  unfold Gr.lat
  obtain ⟨a, b⟩ := x
  cases a with
  | none => simp [opts_none]
  | some s =>
    have := opt_le T.l s
    rw [List.length_map, opts_some T]
    omega
theorem same_p (T : Two p q) {xs : List Pr} (X : ∀ x ∈ xs, OkO p x.1 ∧ OkO q x.2) (l : xs.length ≤ 1000) : F_Same_shows [.sam (xs.map prd), p.prg, q.prg] = .ret (.bl (sameB p q xs)) := by
  have b := both_p T
  have s := starts_p T
  have dc := dc_typed (fs := setN) (is := [4]) (vs := [4]) (tk := wVar 4) (tv := wC (.bl true)) (ρ := [some (.sam (xs.map prd)), some p.prg, some q.prg, none, none, none, none]) (.bl true) xs [] (fun x _ => by simp [x_var])
  rw [List.map_nil, List.map_nil] at dc
  have l2 : xs.length ≤ 16777216 := by omega
  rw [show xs.foldl addk [] = ddp xs from rfl] at dc
  have sl := src_len' T
  have l3 : (gr p q).src.length ≤ 16777216 := by omega
  have lc := lc_map (fs := setN) (is := [4]) (vs := [4]) (te := wOp inE (wVar 4) (wVar 3)) (ρ := [some (.sam (xs.map prd)), some p.prg, some q.prg, some (.dct ((ddp xs).map prd) ((ddp xs).map fun _ => .bl true)), none, none, none]) (fun e : Ent Pr => prd e.1) (fun e => [prd e.1]) (fun e => D.bl (decide (e.1 ∈ ddp xs))) (gr p q).src (fun e _ => ⟨rfl, by simp [x_var, in_K]⟩)
  have al := all_bl (gr p q).src (fun e => decide (e.1 ∈ ddp xs))
  rw [src_all] at al
  have fa := for_all (fs := setN) (is := [4]) (f := wSeq (wIfS (wOr (wNot (wB (wCall F_is_settled_in (wCons (wVar 1) (wCons (wOp ixD (wVar 4) (wC (.int 0))) wNil))))) (wNot (wB (wCall F_is_settled_in (wCons (wVar 2) (wCons (wOp ixD (wVar 4) (wC (.int 1))) wNil)))))) (wRet (wC (.bl false))) wNext) (wSeq (wIfS (wB (wOp neD (wCall F_event_at (wCons (wVar 1) (wCons (wOp ixD (wVar 4) (wC (.int 0))) wNil))) (wCall F_event_at (wCons (wVar 2) (wCons (wOp ixD (wVar 4) (wC (.int 1))) wNil))))) (wRet (wC (.bl false))) wNext) (wIfS (wNot (wB (wCall allD (wCons (wLc (wWalk (wCall F_lates_of (wCons (wVar 1) (wCons (wVar 2) (wCons (wVar 4) wNil))))) (setT 2 (setCons 1 setN (setCons 1 setN setNil))) [5, 6] [5, 6] wYes (wOp inE (wVar 6) (wVar 3))) wNil)))) (wRet (wC (.bl false))) wNext)))
    (fun ρ => ∃ o, ρ = [some (.sam (xs.map prd)), some p.prg, some q.prg, some (.dct ((ddp xs).map prd) ((ddp xs).map fun _ => .bl true)), o, none, none]) prd (okp p q (ddp xs)) (.bl false) (ddp xs) [some (.sam (xs.map prd)), some p.prg, some q.prg, some (.dct ((ddp xs).map prd) ((ddp xs).map fun _ => .bl true)), none, none, none] ⟨none, rfl⟩ (by
      rintro ρ x hx ⟨o, rfl⟩
      obtain ⟨h1, h2⟩ := X x (ddp_mem.mp hx)
      have s1 := is_settled_p T.l h1
      have s2 := is_settled_p T.r h2
      have e1 := event_p T.l h1
      have e2 := event_p T.r h2
      unfold okp
      cases a : halts p x.1 with
      | false => simp [x_var, ix_pr0, s1, a]
      | true =>
        cases b : halts q x.2 with
        | false => simp [x_var, ix_pr0, ix_pr1, s1, s2, a, b]
        | true =>
          cases c : (gr p q).one x with
          | false =>
            have c2 : decide (p.ev x.1 = q.ev x.2) = false := c
            simp [x_var, ix_pr0, ix_pr1, s1, s2, a, b, e1, e2, ne_ev, c2]
          | true =>
            have c2 : decide (p.ev x.1 = q.ev x.2) = true := c
            have la := lates_p T (x := x) ⟨(so_iff h1).mp a, (so_iff h2).mp b⟩ c
            have ll : ((gr p q).lat x).length ≤ 16777216 := Nat.le_trans (lat_le T x) (by decide)
            have lc := lc_map (fs := (setT 2 (setCons 1 setN (setCons 1 setN setNil)))) (is := [5, 6]) (vs := [5, 6]) (te := wOp inE (wVar 6) (wVar 3)) (ρ := [some (.sam (xs.map prd)), some p.prg, some q.prg, some (.dct ((ddp xs).map prd) ((ddp xs).map fun _ => .bl true)), some (prd x), none, none]) ltd (fun l => [tkd l.1, prd l.2]) (fun l => D.bl (decide (l.2 ∈ ddp xs))) ((gr p q).lat x) (fun l _ => ⟨by simp [ltd], by simp [x_var, in_K]⟩)
            have al := all_bl ((gr p q).lat x) (fun l => decide (l.2 ∈ ddp xs))
            cases d : ((gr p q).lat x).all fun l => decide (l.2 ∈ ddp xs) with
            | false =>
              rw [d] at al
              simp [x_var, ix_pr0, ix_pr1, s1, s2, a, b, e1, e2, ne_ev, c2, la, ll, lc, al]
            | true =>
              rw [d] at al
              rw [if_pos (by rfl)]
              exact ⟨_, ⟨some (prd x), rfl⟩, by simp [x_var, ix_pr0, ix_pr1, s1, s2, a, b, e1, e2, ne_ev, c2, la, ll, lc, al]⟩)
  unfold sameB
  unfold dks at s
  cases c : p.hs.all fun h => decide ((gr p q).st h ∈ ddp xs) with
  | false =>
    rw [c] at al
    simp [F_Same_shows, b_Same_shows, x_var, b, l2, dc, asDct, s, l3, lc, al]
  | true =>
    rw [c] at al
    cases e : (ddp xs).all (okp p q (ddp xs)) with
    | false =>
      rw [e] at fa
      rw [if_neg (by simp)] at fa
      simp [F_Same_shows, b_Same_shows, x_var, b, l2, dc, asDct, s, l3, lc, al, fa]
    | true =>
      rw [e, if_pos rfl] at fa
      obtain ⟨_, ⟨o, rfl⟩, fa⟩ := fa
      simp [F_Same_shows, b_Same_shows, x_var, b, l2, dc, asDct, s, l3, lc, al, fa]
/-! ### the law's own view of them -/
def rso (p : Pg) (o : Option St) : Option St := o.bind p.sett
theorem rso_self (O : p.Ok) {o : Option St} (h : OkO p o) : rso p o = o ↔ halts p o = true := by
  cases o with
  | none => exact ⟨fun _ => rfl, fun _ => rfl⟩
  | some s => exact sett_self O (h s rfl)
theorem rso_p (O : p.Ok) {o : Option St} (h : OkO p o) : (if isN (so o) = true then Wp.ret D.non else F__law_settled [p.pl, so o]) = .ret (so (rso p o)) := by
  cases o with
  | none => rfl
  | some s => exact lsettled_p O (h s rfl)
theorem lsame_p (T : Two p q) {xs : List Pr} (X : ∀ x ∈ xs, OkO p x.1 ∧ OkO q x.2) (l : xs.length ≤ 1000) : F__law_is_same [lbo p q, .lst (xs.map prd)] = .ret (.bl (sameB p q xs)) := by
  have s := lstarts_p T
  have dc := lc_map (fs := setN) (is := [3]) (vs := [3]) (te := wTup (wCons (wVar 3) (wCons (wC (.int 1)) wNil))) (ρ := [some (lbo p q), some (.lst (xs.map prd)), none, none, none, none, none, none, none]) prd (fun x => [prd x]) (fun x => .tup [prd x, .int 1]) xs (fun x _ => ⟨rfl, by simp [x_var]⟩)
  have dd := dict_p (.int 1) xs (by omega)
  have l2 : xs.length ≤ 16777216 := by omega
  have sl := hs_len T.l
  have l3 : p.hs.length ≤ 16777216 := by omega
  have lc := lc_map (fs := setN) (is := [3]) (vs := [3]) (te := wOp inE (wVar 3) (wVar 2)) (ρ := [some (lbo p q), some (.lst (xs.map prd)), some (.dct ((ddp xs).map prd) ((ddp xs).map fun _ => .int 1)), none, none, none, none, none, none]) (fun h : List Int => prd ((gr p q).st h)) (fun h => [prd ((gr p q).st h)]) (fun h => D.bl (decide ((gr p q).st h ∈ ddp xs))) p.hs (fun e _ => ⟨rfl, by simp [x_var, in_K]⟩)
  have al := all_bl p.hs (fun h => decide ((gr p q).st h ∈ ddp xs))
  have fa := for_all (fs := setN) (is := [3]) (f := wSeq (wAsg (mk [] (wLc (wEnum (wCons (wVar 3) wNil)) (setT 2 (setCons 1 setN (setCons 1 setN setNil))) [5, 6] [5, 6] wYes (wIf (wB (wOp isD (wVar 6) (wC .non))) (wC .non) (wCall F__law_settled (wCons (wOp ixD (wVar 0) (wVar 5)) (wCons (wVar 6) wNil)))))) setN [4]) (wSeq (wIfS (wOr (wB (wOp neD (wCall tupleD (wCons (wVar 4) wNil)) (wVar 3))) (wNot (wB (wCall F__law_is_one (wCons (wVar 0) (wCons (wVar 3) wNil)))))) (wRet (wC (.bl false))) wNext) (wIfS (wNot (wB (wCall allD (wCons (wLc (wWalk (wCall F__law_lates (wCons (wVar 0) (wCons (wVar 3) wNil)))) (setT 2 (setCons 1 setN (setCons 1 setN setNil))) [7, 8] [7, 8] wYes (wOp inE (wVar 8) (wVar 2))) wNil)))) (wRet (wC (.bl false))) wNext)))
    (fun ρ => ∃ o o2, ρ = [some (lbo p q), some (.lst (xs.map prd)), some (.dct ((ddp xs).map prd) ((ddp xs).map fun _ => .int 1)), o, o2, none, none, none, none]) prd (okp p q (ddp xs)) (.bl false) (ddp xs) [some (lbo p q), some (.lst (xs.map prd)), some (.dct ((ddp xs).map prd) ((ddp xs).map fun _ => .int 1)), none, none, none, none, none, none] ⟨none, none, rfl⟩ (by
      rintro ρ x hx ⟨o, o2, rfl⟩
      obtain ⟨h1, h2⟩ := X x (ddp_mem.mp hx)
      have r1 := rso_p T.l h1
      have r2 := rso_p T.r h2
      have i1 := rso_self T.l h1
      have i2 := rso_self T.r h2
      have on := lone_p T h1 h2
      have e : lcN (setT 2 (setCons 1 setN (setCons 1 setN setNil))) [5, 6] [5, 6] wYes (wIf (wB (wOp isD (wVar 6) (wC .non))) (wC .non) (wCall F__law_settled (wCons (wOp ixD (wVar 0) (wVar 5)) (wCons (wVar 6) wNil)))) [some (lbo p q), some (.lst (xs.map prd)), some (.dct ((ddp xs).map prd) ((ddp xs).map fun _ => .int 1)), some (prd x), o2, none, none, none, none] [.tup [.int 0, so x.1], .tup [.int 1, so x.2]] = .ret [so (rso p x.1), so (rso q x.2)] := by
        simp only [lcN]
        simp [x_var, wYes, lbo, r1, r2]
      have en : enumW [prd x] = .ret [.tup [.int 0, so x.1], .tup [.int 1, so x.2]] := rfl
      have nn := ne_ok (a := prd (rso p x.1, rso q x.2)) (b := prd x) (pln_pr _).ok (pln_pr _).ok
      have nd : decide (prd (rso p x.1, rso q x.2) = prd x) = (halts p x.1 && halts q x.2) := by
        rw [Bool.eq_iff_iff, decide_eq_true_eq, Bool.and_eq_true, ← i1, ← i2]
        constructor
        · intro h
          have := pr_inj _ _ h
          exact ⟨congrArg Prod.fst this, congrArg Prod.snd this⟩
        · rintro ⟨h1, h2⟩
          rw [h1, h2]
      rw [nd] at nn
      replace nn : neD (.tup [so (rso p x.1), so (rso q x.2)]) (prd x) = _ := nn
      unfold okp
      cases a : halts p x.1 && halts q x.2 with
      | false =>
        rw [a] at nn
        simp [x_var, en, e, nn]
      | true =>
        rw [a] at nn
        simp only [Bool.and_eq_true] at a
        cases c : (gr p q).one x with
        | false =>
          rw [c] at on
          simp [x_var, en, e, nn, on]
        | true =>
          rw [c] at on
          have la := llates_p T (x := x) ⟨(so_iff h1).mp a.1, (so_iff h2).mp a.2⟩ c
          have ll : ((gr p q).lat x).length ≤ 16777216 := Nat.le_trans (lat_le T x) (by decide)
          have lc := lc_map (fs := (setT 2 (setCons 1 setN (setCons 1 setN setNil)))) (is := [7, 8]) (vs := [7, 8]) (te := wOp inE (wVar 8) (wVar 2)) (ρ := [some (lbo p q), some (.lst (xs.map prd)), some (.dct ((ddp xs).map prd) ((ddp xs).map fun _ => .int 1)), some (prd x), some (.lst [so (rso p x.1), so (rso q x.2)]), none, none, none, none]) ltd (fun l => [tkd l.1, prd l.2]) (fun l => D.bl (decide (l.2 ∈ ddp xs))) ((gr p q).lat x) (fun l _ => ⟨by simp [ltd], by simp [x_var, in_K]⟩)
          have al := all_bl ((gr p q).lat x) (fun l => decide (l.2 ∈ ddp xs))
          cases d : ((gr p q).lat x).all fun l => decide (l.2 ∈ ddp xs) with
          | false =>
            rw [d] at al
            simp [x_var, en, e, nn, on, la, ll, lc, al]
          | true =>
            rw [d] at al
            rw [if_pos (by rfl)]
            exact ⟨_, ⟨some (prd x), some (.lst [so (rso p x.1), so (rso q x.2)]), rfl⟩, by simp [x_var, en, e, nn, on, la, ll, lc, al]⟩)
  unfold sameB
  cases c : p.hs.all fun h => decide ((gr p q).st h ∈ ddp xs) with
  | false =>
    rw [c] at al
    simp [F__law_is_same, b__law_is_same, x_var, l2, dc, dd, s, l3, lc, al]
  | true =>
    rw [c] at al
    cases e : (ddp xs).all (okp p q (ddp xs)) with
    | false =>
      rw [e] at fa
      rw [if_neg (by simp)] at fa
      simp [F__law_is_same, b__law_is_same, x_var, l2, dc, dd, s, l3, lc, al, fa]
    | true =>
      rw [e, if_pos rfl] at fa
      obtain ⟨_, ⟨o, o2, rfl⟩, fa⟩ := fa
      simp [F__law_is_same, b__law_is_same, x_var, l2, dc, dd, s, l3, lc, al, fa]
end
end Rr
/-! registerrooms, the plain law: papers of what parts. -/
namespace Rr
open PySem PySem.Spec PyProof.Rows L2
section
variable {p q : Pg}
def mdd (e : Pr × Nat) : D := .tup [prd e.1, ni e.2]
theorem pln_md (e : Pr × Nat) : Pln (mdd e) 4 := pln2 (pln_pr _) ((pln_int _).up (by decide))
theorem md_inj (x y : Pr × Nat) (h : mdd x = mdd y) : x = y := by
  unfold mdd at h
  simp only [D.tup.injEq, List.cons.injEq, and_true, D.int.injEq] at h
  exact Prod.ext (pr_inj _ _ h.1) (Int.ofNat.inj h.2)
def mdl (L : Nat) (e : Pr × Nat) : D := .tup [prd e.1, .int ((L : Int) - (e.2 : Int))]
theorem pln_mdl (L : Nat) (e : Pr × Nat) : Pln (mdl L e) 4 := pln2 (pln_pr _) ((pln_int _).up (by decide))
theorem mdl_inj (L : Nat) (x y : Pr × Nat) (h : mdl L x = mdl L y) : x = y := by
  unfold mdl at h
  simp only [D.tup.injEq, List.cons.injEq, and_true, D.int.injEq] at h
  exact Prod.ext (pr_inj _ _ h.1) (by omega)
theorem filter_first {τ : Type} (c : τ → Bool) (a : τ) : ∀ {xs : List τ}, a ∈ xs → (∀ x ∈ xs, c x = true ↔ x = a) → ∃ r, xs.filter c = a :: r
  | [], h, _ => by cases h
  | x :: xs, h, k => by
    by_cases e : x = a
    · rw [List.filter_cons_of_pos ((k x (List.mem_cons_self ..)).mpr e), e]
      exact ⟨_, rfl⟩
    · rw [List.filter_cons_of_neg fun m => e ((k x (List.mem_cons_self ..)).mp m)]
      exact filter_first c a ((List.mem_cons.mp h).elim (fun m => absurd m.symm e) id) fun y hy => k y (List.mem_cons_of_mem _ hy)
theorem so_s (s : St) : so (some s) = s.d := rfl
theorem eq_nil_i (w : List Int) : eqD (.lst (w.map .int)) (.lst []) = .ret (.bl (decide (w = []))) := by
  have k := eq_ok (a := .lst (w.map .int)) (b := .lst []) (ok_lst D.int pln_int (by decide) w) ⟨rfl, by simp [D.dep, D.deps]⟩
  rw [k]
  cases w <;> simp
/-- a pair that is not at its end: what it takes, and what comes behind it -/
theorem nd_cases (T : Two p q) {x : Pr} (X : PrOk p q x) (o : (gr p q).one x = true) (n : (gr p q).nd x = false) : ∃ s t, x = (some s, some t) ∧ s.Ok p ∧ t.Ok q ∧ (p.nx s).wd = (q.nx t).wd ∧ (p.nx s).wd ≠ .stop ∧ ((gr p q).tk x = decide ((p.nx s).wd = .take)) := by
  obtain ⟨a, b⟩ := x
  cases a with
  | none => simp [gr, Pg.ev] at n
  | some s =>
    obtain ⟨t, rfl, w⟩ : ∃ t, b = some t ∧ (p.nx s).wd = (q.nx t).wd := both_some o rfl
    refine ⟨s, t, rfl, (X.1 s rfl).1, (X.2 t rfl).1, w, fun e => ?_, ?_⟩
    · simp [gr, ev_wd, e] at n
    · simp [gr, ev_wd]
theorem nd_eq (x : Pr) : (decide ((p.ev x.1).1 = .stop) || decide ((p.ev x.1).1 = .silent)) = (gr p q).nd x := rfl
theorem tk_eq (x : Pr) : decide ((p.ev x.1).1 = .take) = (gr p q).tk x := rfl
theorem evd0 (e : Wd × Option Int) : ixD (evd e) (.int 0) = .ret (.str e.1.s) := by simp [evd]
theorem evd0' (e : Wd × Option Int) : atI [D.str e.1.s, tkd e.2] 0 = some (.str e.1.s) := by simp
noncomputable def paT : WT := wB (wOp eqD (wCall F_event_at (wCons (wVar 1) (wCons (wOp ixD (wVar 3) (wC (.int 0))) wNil))) (wCall F_event_at (wCons (wVar 2) (wCons (wOp ixD (wVar 3) (wC (.int 1))) wNil))))
noncomputable def paB : WS := wSeq (wAsg (mk [5] (wOp ixD (wCall F_event_at (wCons (wVar 1) (wCons (wOp ixD (wVar 3) (wC (.int 0))) wNil))) (wC (.int 0)))) setN [6]) (wSeq (wIfS (wOr (wB (wOp inD (wVar 6) (wTup (wCons (wC (.str "stop")) (wCons (wC (.str "silent")) wNil))))) (wOr (wB (wOp inE (wTup (wCons (wVar 3) (wCons (wCall lenA (wCons (wVar 4) wNil)) wNil))) (wVar 5))) (wAnd (wB (wOp eqD (wVar 6) (wC (.str "take")))) (wB (wOp eqD (wVar 4) (wLst wNil)))))) (wRet (wC (.bl false))) wNext) (wSeq (wSetK 5 (mk [5] (wTup (wCons (wVar 3) (wCons (wCall lenA (wCons (wVar 4) wNil)) wNil)))) (mk [5] (wC (.bl true)))) (wSeq (wAsg (mk [5] (wIf (wB (wOp eqD (wVar 6) (wC (.str "take")))) (wOp ixD (wVar 4) (wC (.int 0))) (wC .non))) setN [7]) (wSeq (wIfS (wNot (wB (wCall F_is_step (wCons (wVar 1) (wCons (wOp ixD (wVar 3) (wC (.int 0))) (wCons (wVar 7) wNil)))))) (wRet (wC (.bl false))) wNext) (wSeq (wAsg (mk [5] (wIf (wB (wOp eqD (wVar 6) (wC (.str "take")))) (wSl (wVar 4) (wPt (wC (.int 1))) wNo) (wVar 4))) setN [4]) (wAsg (mk [5] (wTup (wCons (wCall F_follow (wCons (wVar 1) (wCons (wOp ixD (wVar 3) (wC (.int 0))) (wCons (wVar 7) wNil)))) (wCons (wCall F_follow (wCons (wVar 2) (wCons (wOp ixD (wVar 3) (wC (.int 1))) (wCons (wVar 7) wNil)))) wNil)))) setN [3]))))))
def paE (p q : Pg) (self : D) (x : Pr) (w : List Int) (m : List (Pr × Nat)) (o6 o7 : Option D) : Env := [some self, some p.prg, some q.prg, some (prd x), some (.lst (w.map .int)), some (.dct (m.map mdd) (m.map fun _ => .bl true)), o6, o7, none]
theorem cut1 (x : D) (xs : List D) : cutD (x :: xs) (some 1) none = xs := cut_from (xs := x :: xs) (k := 1) (by simp)
theorem parted_loop (T : Two p q) (self : D) : ∀ (n : Nat) (x : Pr) (w : List Int) (m : List (Pr × Nat)) (o6 o7 : Option D) (b : Bool), (gr p q).run n x w m = some b → PrOk p q x → Below p.sp w → n + m.length ≤ 16000000 →
    (wWhile paT paB (paE p q self x w m o6 o7)).bind (seqK (wRet (wC (.bl true)))) = .ret (.rt (.bl b))
  | 0, _, _, _, _, _, _, h, _, _, _ => by simp [Gr.run] at h
  | n + 1, x, w, m, o6, o7, b, h, X, W, l => by
    have e1 := event_p T.l X.1.ok
    have e2 := event_p T.r X.2.ok
    have t : paT (paE p q self x w m o6 o7) = .ret ((gr p q).one x) := by
      simp [paT, paE, x_var, ix_pr0, ix_pr1, e1, e2, eq_ev, gr]
    unfold Gr.run at h
    cases o : (gr p q).one x with
    | false =>
      rw [o] at h t
      simp at h
      rw [while_f t, ← h]
      simp
    | true =>
      rw [o, if_pos rfl] at h
      rw [o] at t
      have i := in_e (k := .tup [prd x, .int (w.length : Int)]) (ks := m.map mdd) (vs := m.map fun _ => D.bl true) (kd_t (pln_md (x, w.length)) (by decide))
      rw [show decide (D.tup [prd x, .int (w.length : Int)] ∈ m.map mdd) = decide ((x, w.length) ∈ m) by rw [decide_eq_decide]; exact mem_inj (x := (x, w.length)) md_inj] at i
      have nl := eq_nil_i w
      have ndx := nd_eq (p := p) (q := q) x
      have tkx := tk_eq (p := p) (q := q) x
      by_cases c : (gr p q).nd x = true ∨ (x, w.length) ∈ m ∨ ((gr p q).tk x = true ∧ w = [])
      · rw [if_pos c] at h
        cases h
        rw [while_rt t (d := .bl false)]
        · rfl
        · cases a : (gr p q).nd x with
          | true =>
            rw [a] at ndx
            simp [paB, paE, x_var, ix_pr0, e1, evd0, ndx]
          | false =>
            rw [a] at ndx
            by_cases c2 : (x, w.length) ∈ m
            · rw [decide_eq_true c2] at i
              simp [paB, paE, x_var, ix_pr0, e1, evd0, ndx, i]
            · rw [decide_eq_false c2] at i
              have c3 : (gr p q).tk x = true ∧ w = [] := by simpa [a, c2] using c
              rw [c3.1] at tkx
              rw [decide_eq_true c3.2] at nl
              simp [paB, paE, x_var, ix_pr0, e1, evd0, ndx, i, tkx, nl]
      · rw [if_neg c] at h
        simp only [not_or, Bool.not_eq_true] at c
        obtain ⟨c1, c2, c3⟩ := c
        rw [c1] at ndx
        rw [decide_eq_false c2] at i
        have m2 : D.tup [prd x, .int (w.length : Int)] ∉ m.map mdd := fun e => c2 ((mem_inj (x := (x, w.length)) md_inj).mp e)
        have dk := dputK_new m2
        have dv := dputV_new (vs := m.map fun _ => D.bl true) (v := .bl true) m2 (by simp)
        have kd : (D.tup [prd x, .int (w.length : Int)]).kd ∧ m.length < 16777216 := ⟨kd_t (pln_md (x, w.length)) (by decide), by omega⟩
        obtain ⟨s, u, rfl, S, U, wd, ns, tk⟩ := nd_cases T X o c1
        have is := fun t => is_step_p T.l S t
        replace e1 : F_event_at [p.prg, s.d] = .ret (evd (p.ev (some s))) := e1
        replace ndx : (decide ((p.ev (some s)).1 = .stop) || decide ((p.ev (some s)).1 = .silent)) = false := ndx
        replace tkx : decide ((p.ev (some s)).1 = .take) = (gr p q).tk (some s, some u) := tkx
        cases k : (gr p q).tk (some s, some u) with
        | true =>
          rw [k, if_pos rfl] at h
          rw [k] at tkx tk
          obtain ⟨y, w', hw⟩ : ∃ y w', w = y :: w' := by
            cases w with
            | nil => exact (c3 ⟨k, rfl⟩).elim
            | cons y w' => exact ⟨y, w', rfl⟩
          rw [decide_eq_false (show w ≠ [] by rw [hw]; simp)] at nl
          have Y := W y (by rw [hw]; exact List.mem_cons_self ..)
          have hd : w.head? = some y := by rw [hw]; rfl
          have a0 : atI (w.map D.int) 0 = some (.int y) := by rw [hw]; simp
          have ct : cutD (w.map D.int) (some 1) none = w.tail.map .int := by rw [hw]; exact cut1 _ _
          rw [hd] at h
          have hl := mem_lat c1 k (x := y) Y
          have ih := parted_loop T self n _ w.tail (m ++ [((some s, some u), w.length)]) (some (.str (p.ev (some s)).1.s)) (some (.int y)) b h (lat_ok T X o hl) (fun z hz => W z (List.mem_of_mem_tail hz)) (by simp; omega)
          have tkw : (p.nx s).wd = .take := by simpa using tk.symm
          have K : TkOk p.sp (p.nx s).wd (some y) := fun _ => ⟨y, rfl, Y⟩
          have f1 := follow_p T.l S K ns
          have f2 := follow_p T.r U (t := some y) (fun _ => ⟨y, rfl, by rw [← T.sp]; exact Y⟩) (by rw [← wd]; exact ns)
          have i2 := is (some y)
          rw [decide_eq_true (show some y ∈ p.opt s by unfold Pg.opt; rw [if_neg ns, if_pos tkw]; simp; exact ⟨y.toNat, by omega, by omega⟩)] at i2
          simp only [tkd] at f1 f2 i2
          rw [while_nx t (ρ' := paE p q self ((gr p q).nx (some s, some u) (some y)) w.tail (m ++ [((some s, some u), w.length)]) (some (.str (p.ev (some s)).1.s)) (some (.int y)))]
          · exact ih
          · simp [paB, paE, x_var, ix_pr0, ix_pr1, e1, evd0, ndx, i, tkx, ownD, dk, dv, Wp.chk_of kd, so_s, f1, f2, i2, a0, ct, nl]
            rfl
        | false =>
          rw [k, if_neg (by simp)] at h
          rw [k] at tkx tk
          have hl := mem_latN c1 k
          have ih := parted_loop T self n _ w (m ++ [((some s, some u), w.length)]) (some (.str (p.ev (some s)).1.s)) (some .non) b h (lat_ok T X o hl) W (by simp; omega)
          have tkw : (p.nx s).wd ≠ .take := by simpa using tk.symm
          have K : TkOk p.sp (p.nx s).wd none := fun e => absurd e tkw
          have f1 := follow_p T.l S K ns
          have f2 := follow_p T.r U (t := none) (fun e => absurd e (by rw [← wd]; exact tkw)) (by rw [← wd]; exact ns)
          have i2 := is none
          rw [decide_eq_true (show none ∈ p.opt s by unfold Pg.opt; rw [if_neg ns, if_neg tkw]; simp)] at i2
          simp only [tkd] at f1 f2 i2
          rw [while_nx t (ρ' := paE p q self ((gr p q).nx (some s, some u) none) w (m ++ [((some s, some u), w.length)]) (some (.str (p.ev (some s)).1.s)) (some .non))]
          · exact ih
          · simp [paB, paE, x_var, ix_pr0, ix_pr1, e1, evd0, ndx, i, tkx, ownD, dk, dv, Wp.chk_of kd, so_s, f1, f2, i2]
            rfl
theorem parted_p (T : Two p q) {h is : List Int} (W : Below p.sp is) : (h ∉ p.hs → F_Parted_shows [.par (tns h) (is.map .int), p.prg, q.prg] = .ret (.bl false)) ∧
    (h ∈ p.hs → ∀ (n : Nat) (b : Bool), (gr p q).run n ((gr p q).st h) is [] = some b → n ≤ 16000000 → F_Parted_shows [.par (tns h) (is.map .int), p.prg, q.prg] = .ret (.bl b)) := by
  have bo := both_p T
  have ha := handed_p T.l h
  constructor
  · intro m
    rw [decide_eq_false m] at ha
    simp [F_Parted_shows, b_Parted_shows, x_var, bo, wMap, fHandedT, ha]
  · intro m n b r l
    rw [decide_eq_true m] at ha
    have sp := start_pairs_p T
    have lc := lc_filter (fs := (setT 2 (setCons 1 setN (setCons 1 setN setNil)))) (is := [3, 8]) (vs := [3, 8]) (tt := wB (wOp eqD (wVar 8) (wMap fHandedT (wVar 0)))) (te := wVar 3) (ρ := [some (.par (tns h) (is.map .int)), some p.prg, some q.prg, none, none, none, none, none, none]) (fun h => .tup [prd ((gr p q).st h), tns h]) (fun h => [prd ((gr p q).st h), tns h]) (fun h' => decide (h' = h)) (fun h => prd ((gr p q).st h)) p.hs (fun h' _ => ⟨by simp, by
      have e := eq_ok (a := tns h') (b := tns h) (pln_tns _).ok (pln_tns _).ok
      rw [show decide (tns h' = tns h) = decide (h' = h) by rw [decide_eq_decide]; exact ⟨tns_inj _ _, fun e => by rw [e]⟩] at e
      simp [x_var, wMap, fHandedT, e], fun _ => by simp [x_var]⟩)
    obtain ⟨rest, fi⟩ := filter_first (fun h' => decide (h' = h)) h m (fun x _ => by simp)
    rw [fi] at lc
    have pl := parted_loop T (.par (tns h) (is.map .int)) n _ is [] none none b r (st_ok T m) W (by simp; omega)
    unfold paE at pl
    rw [List.map_nil, List.map_nil] at pl
    have l2 := hs_len T.l
    have l3 : p.hs.length ≤ 16777216 := by omega
    have e : F_Parted_shows [.par (tns h) (is.map .int), p.prg, q.prg] = ((wWhile paT paB [some (.par (tns h) (is.map .int)), some p.prg, some q.prg, some (prd ((gr p q).st h)), some (.lst (is.map .int)), some (.dct [] []), none, none, none]).bind (seqK (wRet (wC (.bl true))))).bind retK := by
      simp [F_Parted_shows, b_Parted_shows, x_var, bo, wMap, fHandedT, ha, sp, l3]
      simp [wMap] at lc
      simp [lc, fInputs]
      rfl
    rw [e, pl]
    rfl
end
end Rr
/-! registerrooms, the plain law: papers of what parts, as the law sees them. -/
namespace Rr
open PySem PySem.Spec PyProof.Rows L2
section
variable {p q : Pg}
noncomputable def lpB : WS := wSeq (wIfS (wNot (wB (wCall F__law_is_one (wCons (wVar 0) (wCons (wVar 3) wNil))))) (wRet (wC (.bl true))) wNext) (wSeq (wAsg (mk [5] (wOp ixD (wCall F__law_event (wCons (wOp ixD (wVar 0) (wC (.int 0))) (wCons (wOp ixD (wVar 3) (wC (.int 0))) wNil))) (wC (.int 0)))) setN [7]) (wSeq (wIfS (wOr (wB (wOp inD (wVar 7) (wTup (wCons (wC (.str "stop")) (wCons (wC (.str "silent")) wNil))))) (wOr (wB (wOp inD (wTup (wCons (wVar 3) (wCons (wVar 4) wNil))) (wVar 5))) (wAnd (wB (wOp eqD (wVar 7) (wC (.str "take")))) (wB (wOp eqD (wVar 4) (wCall lenA (wCons (wVar 2) wNil))))))) (wRet (wC (.bl false))) wNext) (wSeq (wApp 5 (mk [5] (wTup (wCons (wVar 3) (wCons (wVar 4) wNil))))) (wSeq (wAsg (mk [5] (wIf (wB (wOp eqD (wVar 7) (wC (.str "take")))) (wTup (wCons (wOp ixD (wVar 2) (wVar 4)) (wCons (wOp addD (wVar 4) (wC (.int 1))) wNil))) (wTup (wCons (wC .non) (wCons (wVar 4) wNil))))) (setT 2 (setCons 1 setN (setCons 1 setN setNil))) [8, 4]) (wAsg (mk [5] (wOp ixD (wLc (wWalk (wCall F__law_lates (wCons (wVar 0) (wCons (wVar 3) wNil)))) (setT 2 (setCons 1 setN (setCons 1 setN setNil))) [9, 10] [9, 10] (wB (wOp eqD (wVar 9) (wVar 8))) (wVar 10)) (wC (.int 0)))) setN [3])))))
def lpE (p q : Pg) (g : D) (is : List Int) (x : Pr) (w : List Int) (m : List (Pr × Nat)) (o6 o7 o8 : Option D) : Env := [some (lbo p q), some g, some (.lst (is.map .int)), some (prd x), some (.int ((is.length : Int) - (w.length : Int))), some (.lst (m.map (mdl is.length))), o6, o7, o8, none, none]
theorem lbo0 (p q : Pg) : ixD (lbo p q) (.int 0) = .ret p.pl := by simp [lbo]
theorem lates_of_tk (x : Pr) {t : Option Int} (h : (t, (gr p q).nx x t) ∈ (gr p q).lat x) : ∃ r, ((gr p q).lat x).filter (fun l => decide (l.1 = t)) = (t, (gr p q).nx x t) :: r := by
  refine filter_first _ _ h fun l hl => ?_
  obtain ⟨_, e, _⟩ := lat_mem hl
  rw [decide_eq_true_eq]
  constructor
  · intro k
    exact Prod.ext k (by rw [e, k])
  · intro k
    rw [k]
theorem lparted_loop (T : Two p q) (g : D) (is : List Int) : ∀ (n : Nat) (ds : List D) (x : Pr) (w : List Int) (m : List (Pr × Nat)) (o6 o7 o8 : Option D) (b : Bool), (gr p q).run n x w m = some b → PrOk p q x → Below p.sp w → (∃ pre, is = pre ++ w) → n + m.length ≤ 16000000 → n ≤ ds.length →
    (forN setN [6] lpB ds (lpE p q g is x w m o6 o7 o8)).bind (seqK (wRet (wC (.bl false)))) = .ret (.rt (.bl b))
  | 0, _, _, _, _, _, _, _, _, h, _, _, _, _, _ => by simp [Gr.run] at h
  | n + 1, [], _, _, _, _, _, _, _, _, _, _, _, _, l2 => by simp at l2
  | n + 1, d :: ds, x, w, m, o6, o7, o8, b, h, X, W, ⟨pre, hpre⟩, l, l2 => by
    have e1 := levent_p T.l X.1.ok
    have on := lone_p T X.1.ok X.2.ok
    show ((lpB ((lpE p q g is x w m o6 o7 o8).set 6 (some d))).bind (seqK (forN setN [6] lpB ds))).bind _ = _
    unfold Gr.run at h
    cases o : (gr p q).one x with
    | false =>
      rw [o] at h on
      simp at h
      rw [h]
      simp [lpB, lpE, x_var, on]
    | true =>
      rw [o, if_pos rfl] at h
      rw [o] at on
      have i := in_ok (a := mdl is.length (x, w.length)) (ds := m.map (mdl is.length)) (pln_mdl _ _).ok (ok_lst _ (pln_mdl is.length) (by decide) m)
      rw [show decide (mdl is.length (x, w.length) ∈ m.map (mdl is.length)) = decide ((x, w.length) ∈ m) by rw [decide_eq_decide]; exact mem_inj (mdl_inj is.length)] at i
      replace i : inD (.tup [prd x, .int ((is.length : Int) - (w.length : Int))]) (.lst (m.map (mdl is.length))) = _ := i
      have nl := eq_ok (a := .int ((is.length : Int) - (w.length : Int))) (b := .int (is.length : Int)) ok_int ok_int
      rw [show decide (D.int ((is.length : Int) - (w.length : Int)) = .int (is.length : Int)) = decide (w = []) by
        rw [decide_eq_decide, D.int.injEq]
        constructor
        · intro e
          exact List.eq_nil_of_length_eq_zero (by omega)
        · intro e
          rw [e]
          simp] at nl
      have ndx := nd_eq (p := p) (q := q) x
      have tkx := tk_eq (p := p) (q := q) x
      by_cases c : (gr p q).nd x = true ∨ (x, w.length) ∈ m ∨ ((gr p q).tk x = true ∧ w = [])
      · rw [if_pos c] at h
        cases h
        have e : lpB ((lpE p q g is x w m o6 o7 o8).set 6 (some d)) = .ret (.rt (.bl false)) := by
          cases a : (gr p q).nd x with
          | true =>
            rw [a] at ndx
            simp [lpB, lpE, x_var, on, lbo0, ix_pr0, e1, evd0, ndx]
          | false =>
            rw [a] at ndx
            by_cases c2 : (x, w.length) ∈ m
            · rw [decide_eq_true c2] at i
              simp [lpB, lpE, x_var, on, lbo0, ix_pr0, e1, evd0, ndx, i]
            · rw [decide_eq_false c2] at i
              have c3 : (gr p q).tk x = true ∧ w = [] := by simpa [a, c2] using c
              rw [c3.1] at tkx
              rw [decide_eq_true c3.2] at nl
              simp [lpB, lpE, x_var, on, lbo0, ix_pr0, e1, evd0, ndx, i, tkx, nl]
        rw [e]
        rfl
      · rw [if_neg c] at h
        simp only [not_or, Bool.not_eq_true] at c
        obtain ⟨c1, c2, c3⟩ := c
        rw [c1] at ndx
        rw [decide_eq_false c2] at i
        have ml : m.length < 16777216 := by omega
        obtain ⟨s, u, rfl, S, U, wd, ns, tk⟩ := nd_cases T X o c1
        have la := llates_p T X o
        have ll : ((gr p q).lat (some s, some u)).length ≤ 16777216 := Nat.le_trans (lat_le T _) (by decide)
        replace e1 : F__law_event [p.pl, so (some s)] = .ret (evd (p.ev (some s))) := e1
        replace ndx : (decide ((p.ev (some s)).1 = .stop) || decide ((p.ev (some s)).1 = .silent)) = false := ndx
        replace tkx : decide ((p.ev (some s)).1 = .take) = (gr p q).tk (some s, some u) := tkx
        have lc := fun (t : Option Int) (a8 o7 o4 o5 : Option D) (e8 : a8 = some (tkd t)) => lc_filter (fs := (setT 2 (setCons 1 setN (setCons 1 setN setNil)))) (is := [9, 10]) (vs := [9, 10]) (tt := wB (wOp eqD (wVar 9) (wVar 8))) (te := wVar 10) (ρ := [some (lbo p q), some g, some (.lst (is.map .int)), some (prd (some s, some u)), o4, o5, some d, o7, a8, none, none]) ltd (fun l => [tkd l.1, prd l.2]) (fun l => decide (l.1 = t)) (fun l => prd l.2) ((gr p q).lat (some s, some u)) (fun l _ => ⟨by simp [ltd], by
          have e := eq_ok (a := tkd l.1) (b := tkd t) (pln_tk _).ok (pln_tk _).ok
          rw [show decide (tkd l.1 = tkd t) = decide (l.1 = t) by rw [decide_eq_decide]; exact ⟨tk_inj _ _, fun e => by rw [e]⟩] at e
          simp [x_var, e8, e], fun _ => by simp [x_var]⟩)
        cases k : (gr p q).tk (some s, some u) with
        | true =>
          rw [k, if_pos rfl] at h
          rw [k] at tkx
          obtain ⟨y, w', hw⟩ : ∃ y w', w = y :: w' := by
            cases w with
            | nil => exact (c3 ⟨k, rfl⟩).elim
            | cons y w' => exact ⟨y, w', rfl⟩
          have Y := W y (by rw [hw]; exact List.mem_cons_self ..)
          have hd : w.head? = some y := by rw [hw]; rfl
          have len : is.length = pre.length + w.length := by rw [hpre]; simp
          have at1 : ((is.length : Int) - (w.length : Int)) = (pre.length : Int) := by omega
          have a0 : atI (is.map D.int) ((is.length : Int) - (w.length : Int)) = some (.int y) := by
            rw [at1]
            refine atI_mp D.int ?_
            rw [hpre, List.getElem?_append_right (Nat.le_refl _), hw]
            simp
          have at2 : ((is.length : Int) - (w.length : Int)) + 1 = (is.length : Int) - (w.tail.length : Int) := by
            rw [hw]
            simp
            omega
          rw [hd] at h
          rw [decide_eq_false (show w ≠ [] by rw [hw]; simp)] at nl
          have hl := mem_lat c1 k (x := y) Y
          have ih := lparted_loop T g is n ds _ w.tail (m ++ [((some s, some u), w.length)]) (some d) (some (.str (p.ev (some s)).1.s)) (some (.int y)) b h (lat_ok T X o hl) (fun z hz => W z (List.mem_of_mem_tail hz)) ⟨pre ++ [y], by rw [hpre, hw]; simp⟩ (by simp; omega) (by simp at l2; omega)
          obtain ⟨r, fi⟩ := lates_of_tk (some s, some u) hl
          have lc := lc (some y) (some (.int y)) (some (.str (p.ev (some s)).1.s)) (some (.int ((is.length : Int) - (w.length : Int) + 1))) none rfl
          rw [fi] at lc
          have e : lpB ((lpE p q g is (some s, some u) w m o6 o7 o8).set 6 (some d)) = .ret (.nx (lpE p q g is ((gr p q).nx (some s, some u) (some y)) w.tail (m ++ [((some s, some u), w.length)]) (some d) (some (.str (p.ev (some s)).1.s)) (some (.int y)))) := by
            simp [lpB, lpE, x_var, on, lbo0, ix_pr0, e1, evd0, ndx, i, tkx, nl, ownL, ml, a0, la, ll, lc]
            rw [show ((is.length : Int) - (w.length : Int) + 1) = (is.length : Int) - ((w.length - 1 : Nat) : Int) by
              have : 0 < w.length := by rw [hw]; simp
              omega]
            rfl
          rw [e]
          exact ih
        | false =>
          rw [k, if_neg (by simp)] at h
          rw [k] at tkx
          have hl := mem_latN c1 k
          have ih := lparted_loop T g is n ds _ w (m ++ [((some s, some u), w.length)]) (some d) (some (.str (p.ev (some s)).1.s)) (some .non) b h (lat_ok T X o hl) W ⟨pre, hpre⟩ (by simp; omega) (by simp at l2; omega)
          obtain ⟨r, fi⟩ := lates_of_tk (some s, some u) hl
          have lc := lc none (some .non) (some (.str (p.ev (some s)).1.s)) (some (.int ((is.length : Int) - (w.length : Int)))) none rfl
          rw [fi] at lc
          have e : lpB ((lpE p q g is (some s, some u) w m o6 o7 o8).set 6 (some d)) = .ret (.nx (lpE p q g is ((gr p q).nx (some s, some u) none) w (m ++ [((some s, some u), w.length)]) (some d) (some (.str (p.ev (some s)).1.s)) (some .non))) := by
            simp [lpB, lpE, x_var, on, lbo0, ix_pr0, e1, evd0, ndx, i, tkx, ownL, ml, la, ll, lc]
            rfl
          rw [e]
          exact ih
theorem index_p {xs : List (List Int)} {h : List Int} (m : h ∈ xs) : idxD (xs.map tns) [tns h] = .ret (.int ((xs.idxOf h : Nat) : Int)) := by
  show Wp.chk _ _ = _
  rw [Wp.chk_of ⟨(pln_tns h).ok, ok_lst tns pln_tns (by decide) xs, (mem_inj tns_inj).mpr m⟩]
  have e : ∀ xs : List (List Int), (xs.map tns).idxOf (tns h) = xs.idxOf h := fun xs => by
    induction xs with
    | nil => rfl
    | cons a xs ih =>
      rw [List.map_cons, List.idxOf_cons, List.idxOf_cons, ih]
      by_cases c : a = h
      · rw [c]; simp
      · have c2 : tns a ≠ tns h := fun k => c (tns_inj _ _ k)
        rw [beq_eq_false_iff_ne.mpr c, beq_eq_false_iff_ne.mpr c2]
  rw [e]
theorem lparted_p (T : Two p q) {h is : List Int} (W : Below p.sp is) : (h ∉ p.hs → F__law_is_parted [lbo p q, tns h, .lst (is.map .int)] = .ret (.bl false)) ∧
    (h ∈ p.hs → ∀ (n : Nat) (b : Bool), (gr p q).run n ((gr p q).st h) is [] = some b → n ≤ 100000 → F__law_is_parted [lbo p q, tns h, .lst (is.map .int)] = .ret (.bl b)) := by
  have hh := lhands_p T.l
  have ni := nin_ok (a := tns h) (ds := p.hs.map tns) (pln_tns h).ok (ok_lst tns pln_tns (by decide) p.hs)
  rw [show decide (tns h ∈ p.hs.map tns) = decide (h ∈ p.hs) by rw [decide_eq_decide]; exact mem_inj tns_inj] at ni
  constructor
  · intro m
    rw [decide_eq_false m] at ni
    simp [F__law_is_parted, b__law_is_parted, x_var, lbo0, hh, ni]
  · intro m n b r l
    rw [decide_eq_true m] at ni
    have ls := lstarts_p T
    have ix := index_p m
    have li := List.idxOf_lt_length_of_mem m
    have a0 : atI (p.hs.map fun h => prd ((gr p q).st h)) ((p.hs.idxOf h : Nat) : Int) = some (prd ((gr p q).st h)) := by
      refine atI_mp (fun h => prd ((gr p q).st h)) ?_
      rw [List.getElem?_eq_getElem li, List.getElem_idxOf]
    have pl := lparted_loop T (tns h) is n (rangeD 0 100000) _ is [] none none none b r (st_ok T m) W ⟨[], rfl⟩ (by simp; omega) (by simp [rangeD]; omega)
    have r1 : rng1D [.int 100000] = .ret (rangeD 0 100000) := x_rng1D (n := 100000) (by decide)
    unfold lpE at pl
    rw [List.map_nil, Int.sub_self] at pl
    have e : F__law_is_parted [lbo p q, tns h, .lst (is.map .int)] = ((forN setN [6] lpB (rangeD 0 100000) [some (lbo p q), some (tns h), some (.lst (is.map .int)), some (prd ((gr p q).st h)), some (.int 0), some (.lst []), none, none, none, none, none]).bind (seqK (wRet (wC (.bl false))))).bind retK := by
      simp [F__law_is_parted, b__law_is_parted, x_var, lbo0, hh, ni, ls, wIndex, lstOf, ix, a0, r1]
      rfl
    rw [e, pl]
    rfl
end
end Rr
/-! registerrooms, the plain law: the law's search. -/
namespace Rr
open PySem PySem.Spec PyProof.Rows L2
section
variable {p q : Pg}
theorem kys_add (f : List (Ent Pr)) (e : Ent Pr) : kys (addE f e) = addk (kys f) e.1 := by
  unfold addE addk
  split
  · rfl
  · simp [kys]
theorem kys_fold {ι : Type} (w : ι → Ent Pr) : ∀ (xs : List ι) (f : List (Ent Pr)), kys (xs.foldl (fun f i => addE f (w i)) f) = xs.foldl (fun k i => addk k (w i).1) (kys f)
  | [], f => rfl
  | x :: xs, f => by rw [List.foldl_cons, kys_fold w xs, kys_add, List.foldl_cons]
theorem src_ddp : kys (gr p q).src = ddp (p.hs.map (gr p q).st) := by
  unfold Gr.src ddp
  rw [kys_fold (fun h => ((gr p q).st h, h, [])), List.foldl_map]
  rfl
theorem adds_kys (e : Ent Pr) (f : List (Ent Pr)) : kys ((gr p q).adds e f) = ((gr p q).lat e.1).foldl (fun k l => addk k l.2) (kys f) := by
  unfold Gr.adds
  rw [kys_fold (fun l : Option Int × Pr => (l.2, e.2.1, app1 e.2.2 l.1))]
theorem listOE_d {ks vs : List D} (h : D.fls ks = true) : listOE [.dct ks vs] = .ret (.lst ks) := by
  show Wp.chk _ _ = _
  rw [Wp.chk_of h]
theorem fls_pr (k : List Pr) : D.fls (k.map prd) = true := fls_map prd (fun x => (pln_pr x).fl) k
noncomputable def lqT : WT := wB (wOp ltD (wVar 4) (wCall lenA (wCons (wVar 3) wNil)))
noncomputable def lqF : WS := wIfS (wB (wOp ninE (wVar 6) (wVar 2))) (wSeq (wSetK 2 (mk [2, 3] (wVar 6)) (mk [2, 3] (wC (.int 1)))) (wApp 3 (mk [2, 3] (wVar 6)))) wNext
noncomputable def lqB : WS := wSeq (wFor (wWalk (wIf (wB (wCall F__law_is_one (wCons (wVar 0) (wCons (wOp ixD (wVar 3) (wVar 4)) wNil)))) (wCall F__law_lates (wCons (mk [2, 3] (wVar 0)) (wCons (fl (wOp ixD (wVar 3) (wVar 4))) wNil))) (mk [2, 3] (wLst wNil)))) (setT 2 (setCons 1 setN (setCons 1 setN setNil))) [5, 6] lqF) (wSeq (wIfS (wB (wOp gtD (wCall lenA (wCons (wVar 3) wNil)) (wVar 1))) (wRet (wC .non)) wNext) (wAsg (mk [2, 3] (wOp addD (wVar 4) (wC (.int 1)))) setN [4]))
def lqE (p q : Pg) (K : List Pr) (n : Nat) (o5 o6 : Option D) : Env := [some (lbo p q), some (.int 300), some (.dct (K.map prd) (K.map fun _ => .int 1)), some (.lst (K.map prd)), some (.int (n : Int)), o5, o6, none]
theorem ninK (K : List Pr) (v : D) (x : Pr) : ninE (prd x) (.dct (K.map prd) (K.map fun _ => v)) = .ret (.bl (!decide (x ∈ K))) := by
  rw [nin_e (kd_pr x), show decide (prd x ∈ K.map prd) = decide (x ∈ K) by rw [decide_eq_decide]; exact mem_inj pr_inj]
theorem lq_inner (n : Nat) (ls : List (Option Int × Pr)) (K : List Pr) (o5 o6 : Option D) (l : K.length + ls.length ≤ 1000) :
    ∃ o5' o6', forN (setT 2 (setCons 1 setN (setCons 1 setN setNil))) [5, 6] lqF (ls.map ltd) (lqE p q K n o5 o6) = .ret (.nx (lqE p q (ls.foldl (fun k l => addk k l.2) K) n o5' o6')) := by
  obtain ⟨i, L⟩ := for_fold (fs := (setT 2 (setCons 1 setN (setCons 1 setN setNil)))) (is := [5, 6]) (f := lqF) (fun u : List Pr × Option D × Option D => lqE p q u.1 n u.2.1 u.2.2) ltd (fun u l => (addk u.1 l.2, some (tkd l.1), some (prd l.2))) (fun ls u => u.1.length + ls.length ≤ 1000) ls (K, o5, o6) l (fun u l ls h => by
    rw [List.length_cons] at h
    have al : (addk u.1 l.2).length ≤ u.1.length + 1 := by
      unfold addk
      split <;> simp
    refine ⟨by dsimp only; omega, ?_⟩
    have ni := ninK u.1 (.int 1) l.2
    have kd : (prd l.2).kd ∧ u.1.length < 16777216 := ⟨kd_pr _, by omega⟩
    obtain ⟨d1, d2⟩ := dput_typed u.1 l.2 (.int 1)
    have l3 : u.1.length < 16777216 := by omega
    unfold addk at d1 d2 ⊢
    by_cases m : l.2 ∈ u.1
    · rw [decide_eq_true m] at ni
      simp [ltd, lqE, lqF, x_var, ni, m]
    · rw [decide_eq_false m] at ni
      rw [if_neg m] at d1 d2
      simp [ltd, lqE, lqF, x_var, ni, m, ownD, d1, d2, kd.1, l3, ownL])
  have e1 := fold_fst (fun (k : List Pr) (l : Option Int × Pr) => addk k l.2) (fun (_ : List Pr × Option D × Option D) (l : Option Int × Pr) => (some (tkd l.1), some (prd l.2))) ls (K, o5, o6)
  rw [e1] at L
  exact ⟨_, _, L⟩
/-- one turn of the search -/
theorem lq_turn (T : Two p q) {n : Nat} (hn : n < ((gr p q).its n).length) (l : ((gr p q).its n).length ≤ 300) (o5 o6 : Option D) :
    ∃ o5' o6', if ((gr p q).its (n + 1)).length ≤ 300 then lqB (lqE p q (kys ((gr p q).its n)) n o5 o6) = .ret (.nx (lqE p q (kys ((gr p q).its (n + 1))) (n + 1) o5' o6')) else lqB (lqE p q (kys ((gr p q).its n)) n o5 o6) = .ret (.rt .non) := by
  have he := List.getElem?_eq_getElem hn
  generalize ((gr p q).its n)[n] = e at he
  have X := its_ok T n e.1 (List.mem_map_of_mem (List.mem_of_getElem? he))
  have on := lone_p T X.1.ok X.2.ok
  have a0 : atI ((kys ((gr p q).its n)).map prd) (n : Int) = some (prd e.1) := atI_mp prd (by simp [kys, he])
  have fx : D.fl (prd e.1) = true := (pln_pr _).fl
  have st : (gr p q).its (n + 1) = if (gr p q).one e.1 = true then (gr p q).adds e ((gr p q).its n) else (gr p q).its n := by
    show (gr p q).stp ((gr p q).its n) n = _
    unfold Gr.stp
    rw [he]
  have key : ∃ o5' o6', (wFor (wWalk (wIf (wB (wCall F__law_is_one (wCons (wVar 0) (wCons (wOp ixD (wVar 3) (wVar 4)) wNil)))) (wCall F__law_lates (wCons (mk [2, 3] (wVar 0)) (wCons (fl (wOp ixD (wVar 3) (wVar 4))) wNil))) (mk [2, 3] (wLst wNil)))) (setT 2 (setCons 1 setN (setCons 1 setN setNil))) [5, 6] lqF) (lqE p q (kys ((gr p q).its n)) n o5 o6) = .ret (.nx (lqE p q (kys ((gr p q).its (n + 1))) n o5' o6')) := by
    cases o : (gr p q).one e.1 with
    | false =>
      rw [o] at on st
      rw [if_neg (by simp)] at st
      rw [st]
      refine ⟨o5, o6, ?_⟩
      generalize kys ((gr p q).its n) = K at a0 ⊢
      simp [lqE, x_var, a0, on]
    | true =>
      rw [o] at on st
      rw [if_pos rfl] at st
      have la := llates_p T X o
      have ll := lat_le T e.1
      obtain ⟨o5', o6', L⟩ := lq_inner (p := p) (q := q) n ((gr p q).lat e.1) (kys ((gr p q).its n)) o5 o6 (by simp [kys]; omega)
      refine ⟨o5', o6', ?_⟩
      rw [st, adds_kys, ← L]
      generalize kys ((gr p q).its n) = K at a0 ⊢
      simp [lqE, x_var, a0, on, fx, la]
  obtain ⟨o5', o6', key⟩ := key
  refine ⟨o5', o6', ?_⟩
  unfold lqB
  have kl : (kys ((gr p q).its (n + 1))).length = ((gr p q).its (n + 1)).length := by simp [kys]
  generalize kys ((gr p q).its (n + 1)) = K at kl key ⊢
  split
  · rename_i c
    have c2 : ¬ (300 : Int) < (((gr p q).its (n + 1)).length : Int) := by omega
    rw [x_seq, key]
    rw [← kl] at c2
    simp [lqE, x_var, c2]
  · rename_i c
    have c2 : (300 : Int) < (((gr p q).its (n + 1)).length : Int) := by omega
    rw [x_seq, key]
    rw [← kl] at c2
    simp [lqE, x_var, c2]
theorem lq_loop (T : Two p q) : ∀ (k n : Nat) (o5 o6 : Option D), k + n = 301 → ((gr p q).its n).length ≤ 300 → (∀ i, i < n → i < ((gr p q).its i).length) → n ≤ ((gr p q).its n).length →
    (wWhile lqT lqB (lqE p q (kys ((gr p q).its n)) n o5 o6)).bind (seqK (wRet (wVar 3))) = .ret (.rt .non) ∨ ∃ N, (gr p q).Fin N ∧ N ≤ 300 ∧ (wWhile lqT lqB (lqE p q (kys ((gr p q).its n)) n o5 o6)).bind (seqK (wRet (wVar 3))) = .ret (.rt (.lst ((kys ((gr p q).its N)).map prd)))
  | 0, n, o5, o6, hk, l, h, hn => by omega
  | k + 1, n, o5, o6, hk, l, h, hn => by
    have t : lqT (lqE p q (kys ((gr p q).its n)) n o5 o6) = .ret (decide (n < ((gr p q).its n).length)) := by
      simp [lqT, lqE, x_var]
    by_cases c : n < ((gr p q).its n).length
    · rw [decide_eq_true c] at t
      obtain ⟨o5', o6', tu⟩ := lq_turn T c l o5 o6
      by_cases c2 : ((gr p q).its (n + 1)).length ≤ 300
      · rw [if_pos c2] at tu
        rw [while_nx t tu]
        refine lq_loop T k (n + 1) o5' o6' (by omega) c2 (fun i hi => ?_) ?_
        · by_cases e : i = n
          · rw [e]; exact c
          · exact h i (by omega)
        · obtain ⟨tl, ht⟩ := its_pre (gr p q) n
          rw [ht, List.length_append]
          omega
      · rw [if_neg c2] at tu
        rw [while_rt t tu]
        exact .inl rfl
    · rw [decide_eq_false c] at t
      rw [while_f t]
      exact .inr ⟨n, ⟨by omega, h⟩, by omega, by simp [lqE, x_var]⟩
theorem lpairs_p (T : Two p q) : F__law_pairs [lbo p q, .int 300] = .ret .non ∨ ∃ N, (gr p q).Fin N ∧ N ≤ 300 ∧ F__law_pairs [lbo p q, .int 300] = .ret (.lst ((kys ((gr p q).its N)).map prd)) := by
  have ls := lstarts_p T
  have sl := hs_len T.l
  have l2 : p.hs.length ≤ 16777216 := by omega
  have lc := lc_map (fs := setN) (is := [7]) (vs := [7]) (te := wTup (wCons (wVar 7) (wCons (wC (.int 1)) wNil))) (ρ := [some (lbo p q), some (.int 300), none, none, none, none, none, none]) prd (fun x => [prd x]) (fun x => .tup [prd x, .int 1]) (p.hs.map (gr p q).st) (fun x _ => ⟨rfl, by simp [x_var]⟩)
  have dd := dict_p (.int 1) (p.hs.map (gr p q).st) (by simp; omega)
  rw [← src_ddp] at dd
  have fl := listOE_d (vs := (kys (gr p q).src).map fun _ => D.int 1) (fls_pr (kys (gr p q).src))
  rw [show (p.hs.map fun h => prd ((gr p q).st h)) = (p.hs.map (gr p q).st).map prd by simp] at ls
  have l4 : (p.hs.map (gr p q).st).length ≤ 16777216 := by simp; omega
  have e : F__law_pairs [lbo p q, .int 300] = ((wWhile lqT lqB (lqE p q (kys ((gr p q).its 0)) 0 none none)).bind (seqK (wRet (wVar 3)))).bind retK := by
    rw [show (gr p q).its 0 = (gr p q).src from rfl]
    generalize p.hs.map (gr p q).st = S at ls lc dd l4
    generalize kys (gr p q).src = K at dd fl ⊢
    simp only [F__law_pairs, b__law_pairs]
    simp [x_var, ls, l4, lc, dd, fl]
    rfl
  have sl2 := src_len' T
  rcases lq_loop T 301 0 none none rfl (by show (gr p q).src.length ≤ 300; omega) (fun i hi => by omega) (Nat.zero_le _) with h | ⟨N, F, l, h⟩
  · left
    rw [e, h]
    rfl
  · right
    exact ⟨N, F, l, by rw [e, h]; rfl⟩
end
end Rr
/-! registerrooms, the plain law: the program's search. -/
namespace Rr
open PySem PySem.Spec PyProof.Rows L2
@[simp] theorem x_fl' {a : WE} {ρ : Env} : fl a ρ = (a ρ).bind fun d => .chk (D.fl d = true) (.ret d) := rfl
@[simp] theorem x_give {f : WS} {ρ : Env} : wGive f ρ = (f ρ).bind endK := rfl
@[simp] theorem x_endK {d : D} : endK (.rt d) = .ret (.rt d) := rfl
@[simp] theorem x_newdc {w : Env → Wp (List D × List D)} {i : Nat} {ρ : Env} : wNewDc w i ρ = (w ρ).bind fun p => .ret (.nx (ρ.set i (some (asDct p)))) := rfl
@[simp] theorem x_dcP {fs : SetD} {is vs : List Nat} {wi : WI} {tk tv : WE} {ρ : Env} : wDcP wi fs is vs tk tv ρ = (wi ρ).bind fun ds => .chk (ds.length ≤ 16777216) (dcN fs is vs tk tv ρ ds [] []) := rfl
@[simp] theorem x_items {w : WE} {ρ : Env} : wItems w ρ = (w ρ).bind itemsW := rfl
@[simp] theorem x_itemsD {ks vs : List D} : itemsW (.dct ks vs) = .ret (itemsP ks vs) := rfl
@[simp] theorem x_pop {i j : Nat} {ρ : Env} : wPop0 i j ρ = (ownL i ρ).bind fun ds => match ds with
  | d :: r => .ret (.nx ((ρ.set i (some (.lst r))).set j (some d)))
  | [] => .fail := rfl
section
variable {p q : Pg}
def vfd (e : Ent Pr) : D := .tup [tns e.2.1, tns e.2.2]
theorem fl_vfd (e : Ent Pr) : D.fl (vfd e) = true := (pln2 (pln_tns e.2.1) (pln_tns e.2.2)).fl
theorem items_ent (f : List (Ent Pr)) (v : Ent Pr → D) : itemsP (dks f) (f.map v) = f.map fun e => .tup [prd e.1, v e] := by
  induction f with
  | nil => rfl
  | cons e f ih =>
    show D.tup [prd e.1, v e] :: itemsP (dks f) (f.map v) = _
    rw [ih]
    rfl
theorem dcN_ent {fs : SetD} {is vs : List Nat} {tk tv : WE} {ρ : Env} (ed v : Ent Pr → D) : ∀ (xs pre : List (Ent Pr)), (kys (pre ++ xs)).Nodup → (∀ x ∈ xs, ((fs (ed x)).bind fun ys => (tk (setA (wipeE ρ vs) is ys)).bind fun kk => (tv (setA (wipeE ρ vs) is ys)).bind fun vv => .ret (kk, vv)) = .ret (prd x.1, v x)) →
    dcN fs is vs tk tv ρ (xs.map ed) (dks pre) (pre.map v) = .ret (dks (pre ++ xs), (pre ++ xs).map v)
  | [], pre, _, _ => by rw [List.append_nil]; rfl
  | x :: xs, pre, nd, h => by
    have h1 := h x (List.mem_cons_self ..)
    have m : x.1 ∉ kys pre := by
      intro m
      simp only [kys, List.map_append, List.map_cons] at nd
      exact (List.nodup_append.mp nd).2.2 _ m _ (List.mem_cons_self ..) rfl
    have m2 : prd x.1 ∉ dks pre := fun k => m (dks_mem.mp k)
    rw [List.map_cons]
    have e : dcN fs is vs tk tv ρ (ed x :: xs.map ed) (dks pre) (pre.map v) = ((fs (ed x)).bind fun ys => (tk (setA (wipeE ρ vs) is ys)).bind fun kk => (tv (setA (wipeE ρ vs) is ys)).bind fun vv => .ret (kk, vv)).bind fun z => .chk z.1.kd (dcN fs is vs tk tv ρ (xs.map ed) (dputK (dks pre) z.1) (dputV (dks pre) (pre.map v) z.1 z.2)) := rfl
    rw [e, h1, Wp.ret_bind, Wp.chk_of (kd_pr x.1), dputK_new m2, dputV_new m2 (by simp [dks])]
    have ih := dcN_ent ed v xs (pre ++ [x]) (by rw [List.append_assoc]; exact nd) fun y hy => h y (List.mem_cons_of_mem _ hy)
    rw [List.append_assoc] at ih
    rw [show pre ++ x :: xs = pre ++ ([x] ++ xs) from rfl, ← ih]
    simp [dks]
theorem dlook_ent (v : Ent Pr → D) : ∀ {f : List (Ent Pr)} {n : Nat} {e : Ent Pr}, (kys f).Nodup → f[n]? = some e → dlook (dks f) (f.map v) (prd e.1) = some (v e)
  | [], _, _, _, h => by cases h
  | a :: f, 0, e, _, h => by
    cases h
    show (if prd a.1 = prd a.1 then some (v a) else _) = _
    rw [if_pos rfl]
  | a :: f, n + 1, e, nd, h => by
    have m : a.1 ≠ e.1 := fun k => by
      have h2 : f[n]? = some e := h
      exact (List.nodup_cons.mp nd).1 (show a.1 ∈ kys f by rw [k]; exact List.mem_map_of_mem (List.mem_of_getElem? h2))
    show (if prd a.1 = prd e.1 then some (v a) else dlook (dks f) (f.map v) (prd e.1)) = _
    rw [if_neg fun k => m (pr_inj _ _ k)]
    exact dlook_ent v (List.nodup_cons.mp nd).2 h
theorem src_nil : ∀ e ∈ (gr p q).src, e.2.2 = [] :=
  addF_inv (fun h : List Int => (((gr p q).st h, h, []) : Ent Pr)) (fun f => ∀ e ∈ f, e.2.2 = []) p.hs [] (fun e h => (List.not_mem_nil h).elim) (fun f F h hh n e he => by
    rcases List.mem_append.mp he with he | he
    · exact F e he
    · rw [List.mem_singleton.mp he])
noncomputable def jdT : WT := wB (wOp neD (wVar 3) (wLst wNil))
noncomputable def jdF : WS := wIfS (wB (wOp ninE (wVar 7) (wVar 2))) (wSeq (wIfS (wB (wOp eqD (wCall lenA (wCons (wVar 2) wNil)) (wC (.int 3000)))) wNever wNext) (wSeq (wAsg (fl (wOp ixD (wOp ixE (wVar 2) (wVar 5)) (wC (.int 1)))) setN [8]) (wSeq (wSetK 2 (mk [2, 3] (wVar 7)) (fl (wTup (wCons (wOp ixD (wOp ixE (wVar 2) (wVar 5)) (wC (.int 0))) (wCons (wIf (wB (wOp isD (wVar 6) (wC .non))) (wVar 8) (wTup (wStar (wVar 8) (wCons (wVar 6) wNil)))) wNil))))) (wApp 3 (mk [2, 3] (wVar 7)))))) wNext
noncomputable def jdFor : WS := wFor (mk [2, 3] (wWalk (wIf (wB (wCall F_are_one (wCons (wVar 0) (wCons (wVar 1) (wCons (wVar 5) wNil))))) (wCall F_lates_of (wCons (wVar 0) (wCons (wVar 1) (wCons (wVar 5) wNil)))) (wLst wNil)))) (setT 2 (setCons 1 setN (setCons 1 setN setNil))) [6, 7] jdF
noncomputable def jdB : WS := wSeq (wPop0 3 5) jdFor
def jdE (p q : Pg) (f : List (Ent Pr)) (w : List Pr) (o5 o6 o7 o8 : Option D) : Env := [some p.prg, some q.prg, some (.dct (dks f) (f.map vfd)), some (.lst (w.map prd)), none, o5, o6, o7, o8, none]
theorem jd_inner {n : Nat} {e : Ent Pr} (le : e.2.2.length ≤ 1000) (ls : List (Option Int × Pr)) (f : List (Ent Pr)) (o6 o7 o8 : Option D) (he : f[n]? = some e) (nd : (kys f).Nodup) (l : f.length + ls.length ≤ 2999) :
    ∃ o6' o7' o8', forN (setT 2 (setCons 1 setN (setCons 1 setN setNil))) [6, 7] jdF (ls.map ltd) (jdE p q f ((kys f).drop (n + 1)) (some (prd e.1)) o6 o7 o8) = .ret (.nx (jdE p q (ls.foldl (fun f l => addE f (l.2, e.2.1, app1 e.2.2 l.1)) f) ((kys (ls.foldl (fun f l => addE f (l.2, e.2.1, app1 e.2.2 l.1)) f)).drop (n + 1)) (some (prd e.1)) o6' o7' o8')) := by
  obtain ⟨i, L⟩ := for_fold (fs := (setT 2 (setCons 1 setN (setCons 1 setN setNil)))) (is := [6, 7]) (f := jdF) (fun u : List (Ent Pr) × Option D × Option D × Option D => jdE p q u.1 ((kys u.1).drop (n + 1)) (some (prd e.1)) u.2.1 u.2.2.1 u.2.2.2) ltd (fun u l => (addE u.1 (l.2, e.2.1, app1 e.2.2 l.1), some (tkd l.1), some (prd l.2), if l.2 ∈ kys u.1 then u.2.2.2 else some (tns e.2.2)))
    (fun ls u => u.1[n]? = some e ∧ (kys u.1).Nodup ∧ u.1.length + ls.length ≤ 2999) ls (f, o6, o7, o8) ⟨he, nd, l⟩ (fun u l ls h => by
      obtain ⟨h1, h2, h3⟩ := h
      rw [List.length_cons] at h3
      have al := addE_len u.1 (l.2, e.2.1, app1 e.2.2 l.1)
      obtain ⟨t, ht⟩ := addE_pre u.1 (l.2, e.2.1, app1 e.2.2 l.1)
      have ln := (List.getElem?_eq_some_iff.mp h1).1
      refine ⟨⟨by dsimp only; rw [ht, List.getElem?_append_left ln, h1], addE_nd _ h2, by dsimp only; omega⟩, ?_⟩
      have ni := nin_e (k := prd l.2) (ks := dks u.1) (vs := u.1.map vfd) (kd_pr l.2)
      rw [show decide (prd l.2 ∈ dks u.1) = decide (l.2 ∈ kys u.1) by rw [decide_eq_decide]; exact dks_mem] at ni
      by_cases m : l.2 ∈ kys u.1
      · rw [decide_eq_true m] at ni
        rw [if_pos m]
        unfold addE
        rw [if_pos (show (l.2, e.2.1, app1 e.2.2 l.1).1 ∈ u.1.map (·.1) from m)]
        simp [ltd, jdE, jdF, x_var, ni]
      · rw [decide_eq_false m] at ni
        rw [if_neg m]
        unfold addE
        rw [if_neg (show ¬ (l.2, e.2.1, app1 e.2.2 l.1).1 ∈ u.1.map (·.1) from m)]
        have m2 : prd l.2 ∉ dks u.1 := fun k => m (dks_mem.mp k)
        have c3 : ¬ ((u.1.length : Int) = 3000) := by omega
        have dl := dlook_ent vfd h2 h1
        have ix : ixE (.dct (dks u.1) (u.1.map vfd)) (prd e.1) = .ret (vfd e) := by
          show Wp.chk _ _ = _
          rw [Wp.chk_of (kd_pr _), dl, Wp.opt_some]
        have f1 : D.fl (tns e.2.2) = true := (pln_tns _).fl
        have dk := dputK_new m2
        have dv : ∀ v, dputV (dks u.1) (u.1.map vfd) (prd l.2) v = u.1.map vfd ++ [v] := fun v => dputV_new m2 (by simp [dks])
        have kd : (prd l.2).kd ∧ u.1.length < 16777216 := ⟨kd_pr _, by omega⟩
        have kl : (dks u.1).length = u.1.length := by simp [dks]
        have dr : ((kys u.1).drop (n + 1)).map prd ++ [prd l.2] = ((kys (u.1 ++ [(l.2, e.2.1, app1 e.2.2 l.1)])).drop (n + 1)).map prd := by
          rw [show kys (u.1 ++ [(l.2, e.2.1, app1 e.2.2 l.1)]) = kys u.1 ++ [l.2] by simp [kys], List.drop_append_of_le_length (by simp [kys]; omega)]
          simp
        have ld : ((kys u.1).drop (n + 1)).length < 16777216 := by simp [kys]; omega
        have ix0 : ixD (vfd e) (.int 0) = .ret (tns e.2.1) := by simp [vfd]
        have ix1 : ixD (vfd e) (.int 1) = .ret (tns e.2.2) := by simp [vfd]
        have fv : D.fl (.tup [tns e.2.1, tns (app1 e.2.2 l.1)]) = true := fl_vfd (l.2, e.2.1, app1 e.2.2 l.1)
        have le2 : e.2.2.length + 1 ≤ 16777216 := by omega
        have l3 : u.1.length < 16777216 := by omega
        have dkk : dks (u.1 ++ [(l.2, e.2.1, app1 e.2.2 l.1)]) = dks u.1 ++ [prd l.2] := by simp [dks]
        have vkk : (u.1 ++ [(l.2, e.2.1, app1 e.2.2 l.1)]).map vfd = u.1.map vfd ++ [.tup [tns e.2.1, tns (app1 e.2.2 l.1)]] := by simp [vfd]
        unfold jdE
        rw [dkk, vkk]
        generalize (kys u.1).drop (n + 1) = W at dr ld ⊢
        generalize (kys (u.1 ++ [(l.2, e.2.1, app1 e.2.2 l.1)])).drop (n + 1) = W' at dr ⊢
        generalize hk : dks u.1 = ks at ni ix dk dv kl ⊢
        generalize hv : u.1.map vfd = vs at ni ix dv ⊢
        have isx : isN (tkd l.1) = decide (l.1 = none) := by cases l.1 <;> rfl
        have lw : W.length < 16777216 := ld
        cases h1 : l.1 with
        | none =>
          rw [h1] at isx fv
          simp only [app1] at fv
          simp [ltd, jdF, x_var, ni, eq_ii, kl, c3, ix, ix0, ix1, f1, h1, isx, ownD, dk, dv, fv, app1, kd.1, l3, ownL, lw, dr]
        | some y =>
          rw [h1] at isx fv
          simp only [app1] at fv
          have isy : isN (D.int y) = false := rfl
          have tt : D.tup (e.2.2.map .int ++ [.int y]) = tns (e.2.2 ++ [y]) := by simp [tns]
          have it : itemsD (tns e.2.2) = .ret (e.2.2.map .int) := rfl
          simp [ltd, jdF, x_var, ni, eq_ii, kl, c3, ix, ix0, ix1, f1, h1, isy, ownD, dk, dv, it, tkd, le2, tt, fv, app1, kd.1, l3, ownL, lw, dr])
  have e1 := fold_fst (fun (f : List (Ent Pr)) (l : Option Int × Pr) => addE f (l.2, e.2.1, app1 e.2.2 l.1)) (fun (u : List (Ent Pr) × Option D × Option D × Option D) (l : Option Int × Pr) => (some (tkd l.1), some (prd l.2), if l.2 ∈ kys u.1 then u.2.2.2 else some (tns e.2.2))) ls (f, o6, o7, o8)
  rw [e1] at L
  exact ⟨_, _, _, L⟩
theorem jd_turn (T : Two p q) {n : Nat} {e : Ent Pr} (he : ((gr p q).its n)[n]? = some e) (l : ((gr p q).its n).length ≤ 300) (o5 o6 o7 o8 : Option D) :
    ∃ o5' o6' o7' o8', jdB (jdE p q ((gr p q).its n) ((kys ((gr p q).its n)).drop n) o5 o6 o7 o8) = .ret (.nx (jdE p q ((gr p q).its (n + 1)) ((kys ((gr p q).its (n + 1))).drop (n + 1)) o5' o6' o7' o8')) := by
  have X := its_ok T n e.1 (List.mem_map_of_mem (List.mem_of_getElem? he))
  have on := one_p T X.1.ok X.2.ok
  have ln := (List.getElem?_eq_some_iff.mp he).1
  have dr : (kys ((gr p q).its n)).drop n = e.1 :: (kys ((gr p q).its n)).drop (n + 1) := by
    have l2 : n < (kys ((gr p q).its n)).length := by simp [kys]; exact ln
    rw [List.drop_eq_getElem_cons l2]
    congr 1
    have h2 : (kys ((gr p q).its n))[n]? = some e.1 := by rw [List.getElem?_map, he]; rfl
    rw [List.getElem?_eq_getElem l2] at h2
    exact Option.some.inj h2
  have st : (gr p q).its (n + 1) = if (gr p q).one e.1 = true then (gr p q).adds e ((gr p q).its n) else (gr p q).its n := by
    show (gr p q).stp ((gr p q).its n) n = _
    unfold Gr.stp
    rw [he]
  have le := (its_fnd (gr p q) n).2 n e he
  have pop : wPop0 3 5 (jdE p q ((gr p q).its n) ((kys ((gr p q).its n)).drop n) o5 o6 o7 o8) = .ret (.nx (jdE p q ((gr p q).its n) ((kys ((gr p q).its n)).drop (n + 1)) (some (prd e.1)) o6 o7 o8)) := by
    rw [dr]
    generalize (kys ((gr p q).its n)).drop (n + 1) = W
    simp [jdE, ownL]
  have hf : jdFor (jdE p q ((gr p q).its n) ((kys ((gr p q).its n)).drop (n + 1)) (some (prd e.1)) o6 o7 o8) = if (gr p q).one e.1 = true then forN (setT 2 (setCons 1 setN (setCons 1 setN setNil))) [6, 7] jdF (((gr p q).lat e.1).map ltd) (jdE p q ((gr p q).its n) ((kys ((gr p q).its n)).drop (n + 1)) (some (prd e.1)) o6 o7 o8) else .ret (.nx (jdE p q ((gr p q).its n) ((kys ((gr p q).its n)).drop (n + 1)) (some (prd e.1)) o6 o7 o8)) := by
    cases o : (gr p q).one e.1 with
    | false =>
      rw [o] at on
      simp [jdFor, jdE, x_var, on]
    | true =>
      rw [o] at on
      have la := lates_p T X o
      simp [jdFor, jdE, x_var, on, la]
  unfold jdB
  rw [x_seq, pop, Wp.ret_bind, x_seqK_nx, hf]
  cases o : (gr p q).one e.1 with
  | false =>
    rw [o] at st
    rw [if_neg (by simp)] at st ⊢
    rw [st]
    exact ⟨_, _, _, _, rfl⟩
  | true =>
    rw [o, if_pos rfl] at st
    rw [if_pos rfl, st]
    obtain ⟨o6', o7', o8', L⟩ := jd_inner (p := p) (q := q) (n := n) (e := e) (by omega) ((gr p q).lat e.1) ((gr p q).its n) o6 o7 o8 he (its_nd (gr p q) n) (by have := lat_le T e.1; omega)
    exact ⟨_, _, _, _, L⟩
theorem jd_loop (T : Two p q) {N : Nat} (F : (gr p q).Fin N) (hN : N ≤ 300) : ∀ (k n : Nat) (o5 o6 o7 o8 : Option D), k + n = N →
    ∃ o5' o6' o7' o8', wWhile jdT jdB (jdE p q ((gr p q).its n) ((kys ((gr p q).its n)).drop n) o5 o6 o7 o8) = .ret (.nx (jdE p q ((gr p q).its N) [] o5' o6' o7' o8'))
  | 0, n, o5, o6, o7, o8, h => by
    have e : n = N := by omega
    subst e
    have d : (kys ((gr p q).its n)).drop n = [] := List.drop_eq_nil_of_le (by simp [kys, F.1])
    have ne := ne_ok (a := .lst []) (b := .lst []) ⟨rfl, by simp [D.dep, D.deps]⟩ ⟨rfl, by simp [D.dep, D.deps]⟩
    simp at ne
    rw [d, while_f (by simp [jdT, jdE, x_var, ne])]
    exact ⟨_, _, _, _, rfl⟩
  | k + 1, n, o5, o6, o7, o8, h => by
    have ln := F.2 n (by omega)
    obtain ⟨t, ht⟩ := its_pre_le (g := gr p q) (show n ≤ N by omega)
    have l : ((gr p q).its n).length ≤ 300 := by
      have := F.1
      rw [ht, List.length_append] at this
      omega
    have he := List.getElem?_eq_getElem ln
    obtain ⟨o5', o6', o7', o8', tu⟩ := jd_turn T he l o5 o6 o7 o8
    have tt : jdT (jdE p q ((gr p q).its n) ((kys ((gr p q).its n)).drop n) o5 o6 o7 o8) = .ret true := by
      have l2 : 0 < ((kys ((gr p q).its n)).drop n).length := by simp [kys]; omega
      generalize (kys ((gr p q).its n)).drop n = W at l2
      have ne := ne_ok (a := .lst (W.map prd)) (b := .lst []) (ok_lst prd pln_pr (by decide) W) ⟨rfl, by simp [D.dep, D.deps]⟩
      have nn : decide (D.lst (W.map prd) = .lst []) = false := by
        rw [decide_eq_false_iff_not, D.lst.injEq]
        intro e
        have := congrArg List.length e
        simp at this
        rw [this] at l2
        simp at l2
      rw [nn] at ne
      simp [jdT, jdE, x_var, ne]
    rw [while_nx tt tu]
    exact jd_loop T F hN k (n + 1) o5' o6' o7' o8' (by omega)
@[simp] theorem x_mkSame_d {ks vs : List D} : mkSame [.dct ks vs] = .ret (.sam ks) := rfl
@[simp] theorem x_mkSame_l {ds : List D} : mkSame [.lst ds] = .ret (.sam ds) := rfl
@[simp] theorem x_mkParted_l {h : D} {is : List D} : mkParted [h, .lst is] = .ret (.par h is) := rfl
@[simp] theorem x_mkParted_t {h : D} {is : List D} : mkParted [h, .tup is] = .ret (.par h is) := rfl
theorem judge_p (T : Two p q) {N : Nat} (F : (gr p q).Fin N) (hN : N ≤ 300) :
    ((((gr p q).its N).all fun e => (gr p q).one e.1) = true → F_judge_both [p.prg, q.prg] = .ret (.sam ((kys ((gr p q).its N)).map prd))) ∧
    ((((gr p q).its N).all fun e => (gr p q).one e.1) = false → ∃ e ∈ (gr p q).its N, (gr p q).one e.1 = false ∧ F_judge_both [p.prg, q.prg] = .ret (.par (tns e.2.1) (e.2.2.map .int))) := by
  have bo := both_p T
  have s := starts_p T
  have sl := src_len' T
  have it := items_ent (gr p q).src vst
  have dc := dcN_ent (fs := (setT 2 (setCons 1 setN (setCons 1 setN setNil)))) (is := [5, 9]) (vs := [5, 9]) (tk := wVar 5) (tv := wTup (wCons (wVar 9) (wCons (wTup wNil) wNil))) (ρ := [some p.prg, some q.prg, none, none, none, none, none, none, none, none]) (fun e => .tup [prd e.1, vst e]) vfd (gr p q).src [] (its_nd (gr p q) 0) (fun e he => by
    have n := src_nil (p := p) (q := q) e he
    simp [x_var, vfd, vst, n]
    rfl)
  rw [List.nil_append, List.map_nil, show dks [] = [] from rfl] at dc
  have fl := listOE_d (vs := (gr p q).src.map vfd) (fls_pr (kys (gr p q).src))
  rw [show (kys (gr p q).src).map prd = dks (gr p q).src by simp [kys, dks]] at fl
  obtain ⟨o5, o6, o7, o8, lo⟩ := jd_loop T F hN N 0 none none none none (by omega)
  rw [List.drop_zero, show (gr p q).its 0 = (gr p q).src from rfl] at lo
  generalize hf : (gr p q).its N = f at lo ⊢
  have nd : (kys f).Nodup := by rw [← hf]; exact its_nd _ _
  have fl2 : f.length ≤ 16777216 := by
    have := F.1
    rw [hf] at this
    omega
  have fo : ∀ e ∈ f, PrOk p q e.1 := fun e he => its_ok T N e.1 (by rw [hf]; exact List.mem_map_of_mem he)
  have lc := lc_filter (fs := setN) (is := [5]) (vs := [5]) (tt := wNot (wB (wCall F_are_one (wCons (wVar 0) (wCons (wVar 1) (wCons (wVar 5) wNil)))))) (te := wVar 5) (ρ := jdE p q f [] o5 o6 o7 o8) (fun e : Ent Pr => prd e.1) (fun e => [prd e.1]) (fun e => !(gr p q).one e.1) (fun e => prd e.1) f (fun e he => ⟨rfl, by
    have on := one_p T (fo e he).1.ok (fo e he).2.ok
    simp [jdE, x_var, on], fun _ => by simp [jdE, x_var]⟩)
  have e : F_judge_both [p.prg, q.prg] = ((wGive (wSeq (wAsg (mk [] (wLc (wWalk (wVar 2)) setN [5] [5] (wNot (wB (wCall F_are_one (wCons (wVar 0) (wCons (wVar 1) (wCons (wVar 5) wNil)))))) (wVar 5))) setN [4]) (wRet (wIf (wB (wOp neD (wVar 4) (wLst wNil))) (wCall mkParted (wCons (wOp ixD (wOp ixE (wVar 2) (wOp ixD (wVar 4) (wC (.int 0)))) (wC (.int 0))) (wCons (wOp ixD (wOp ixE (wVar 2) (wOp ixD (wVar 4) (wC (.int 0)))) (wC (.int 1))) wNil))) (wCall mkSame (wCons (wVar 2) wNil)))))) (jdE p q f [] o5 o6 o7 o8)).bind retK := by
    have e1 : F_judge_both [p.prg, q.prg] = ((wWhile jdT jdB (jdE p q (gr p q).src (kys (gr p q).src) none none none none)).bind (seqK (wGive (wSeq (wAsg (mk [] (wLc (wWalk (wVar 2)) setN [5] [5] (wNot (wB (wCall F_are_one (wCons (wVar 0) (wCons (wVar 1) (wCons (wVar 5) wNil)))))) (wVar 5))) setN [4]) (wRet (wIf (wB (wOp neD (wVar 4) (wLst wNil))) (wCall mkParted (wCons (wOp ixD (wOp ixE (wVar 2) (wOp ixD (wVar 4) (wC (.int 0)))) (wC (.int 0))) (wCons (wOp ixD (wOp ixE (wVar 2) (wOp ixD (wVar 4) (wC (.int 0)))) (wC (.int 1))) wNil))) (wCall mkSame (wCons (wVar 2) wNil)))))))).bind retK := by
      have l2 : (gr p q).src.length ≤ 16777216 := by omega
      unfold jdE
      rw [show (kys (gr p q).src).map prd = dks (gr p q).src by simp [kys, dks]]
      generalize hs : (gr p q).src = S at s it dc fl l2 ⊢
      generalize hk : dks S = ks at s it dc fl ⊢
      simp only [F_judge_both, b_judge_both]
      simp [x_var, bo, s, it, l2, dc, asDct, fl]
      rfl
    rw [e1, lo, Wp.ret_bind, x_seqK_nx]
  rw [e]
  clear e lo dc it s fl bo
  have kd : (dks f) = (kys f).map prd := by simp [kys, dks]
  have lcd : lcN setN [5] [5] (wNot (wB (wCall F_are_one (wCons (wVar 0) (wCons (wVar 1) (wCons (wVar 5) wNil)))))) (wVar 5) (jdE p q f [] o5 o6 o7 o8) (dks f) = .ret ((f.filter fun e => !(gr p q).one e.1).map fun e => prd e.1) := lc
  clear lc
  have ne := ne_ok (a := .lst ((f.filter fun e => !(gr p q).one e.1).map fun e => prd e.1)) (b := .lst []) (ok_lst (fun e : Ent Pr => prd e.1) (fun e => pln_pr e.1) (by decide) _) ⟨rfl, by simp [D.dep, D.deps]⟩
  have kl : (dks f).length ≤ 16777216 := by simp [dks]; exact fl2
  constructor
  · intro al
    have bad : (f.filter fun e => !(gr p q).one e.1) = [] := by
      rw [List.filter_eq_nil_iff]
      intro a ha
      have := List.all_eq_true.mp al a ha
      simp [this]
    rw [bad] at ne lcd
    simp at ne
    rw [← kd]
    unfold jdE at lcd ⊢
    simp only [List.map_nil] at lcd ⊢
    generalize dks f = ks at lcd kl ⊢
    simp [x_var, lcd, kl, ne]
  · intro al
    cases bad : (f.filter fun e => !(gr p q).one e.1) with
    | nil =>
      exfalso
      rw [List.filter_eq_nil_iff] at bad
      have : (f.all fun e => (gr p q).one e.1) = true := List.all_eq_true.mpr fun a ha => by simpa using bad a ha
      rw [this] at al
      cases al
    | cons e0 r =>
      have m0 : e0 ∈ f.filter fun e => !(gr p q).one e.1 := by rw [bad]; exact List.mem_cons_self ..
      rw [List.mem_filter] at m0
      obtain ⟨i, hi⟩ := List.getElem?_of_mem m0.1
      have dl := dlook_ent vfd nd hi
      have ix : ixE (.dct (dks f) (f.map vfd)) (prd e0.1) = .ret (vfd e0) := by
        show Wp.chk _ _ = _
        rw [Wp.chk_of (kd_pr _), dl, Wp.opt_some]
      refine ⟨e0, m0.1, by simpa using m0.2, ?_⟩
      rw [bad] at ne lcd
      simp at ne
      have ix0 : ixD (vfd e0) (.int 0) = .ret (tns e0.2.1) := by simp [vfd]
      have ix1 : ixD (vfd e0) (.int 1) = .ret (.tup (e0.2.2.map .int)) := by simp [vfd, tns]
      unfold jdE at lcd ⊢
      simp only [List.map_nil] at lcd ⊢
      generalize dks f = ks at lcd kl ix ⊢
      generalize f.map vfd = vs at lcd ix ⊢
      simp [x_var, lcd, kl, ne, ix, ix0, ix1]
theorem tell_p {j : D} (h : F_judge_both [p.prg, q.prg] = .ret j) : F_tell_alike [p.prg, q.prg] = isSame j := by
  simp [F_tell_alike, b_tell_alike, x_var, h, wMap]
theorem pth_below {h : List Int} {ps : List Pr} {x : Pr} {r : List Int} (P : Pth (gr p q) h ps x r) : Below p.sp r := by
  induction P with
  | start _ => exact fun x h => (List.not_mem_nil h).elim
  | @step ps x r l P _ _ hl _ _ ih =>
    obtain ⟨_, _, k⟩ := lat_mem hl
    rcases k with ⟨_, y, hy, e⟩ | ⟨_, e⟩
    · rw [e]
      intro z hz
      rcases List.mem_append.mp hz with hz | hz
      · exact ih z hz
      · rw [List.mem_singleton.mp hz]
        have : (gr p q).sp = p.sp := rfl
        omega
    · rw [e]
      exact ih
end
end Rr
/-! registerrooms, the plain law: draws. -/
namespace Rr
open PySem PySem.Spec PyProof.Rows L2
theorem x_mul {i j : Int} (h : CMul i j) : mulD (.int i) (.int j) = .ret (.int (i * j)) := Wp.chk_of h _
theorem x_fdiv {i j : Int} (h : CDivW i j) : fdivD (.int i) (.int j) = .ret (.int (i / j)) := Wp.chk_of h _
theorem x_pow {i j : Int} (h : CPow i j) : powD (.int i) (.int j) = .ret (.int (i ^ j.toNat)) := Wp.chk_of h _
theorem cmul_r {i j : Int} (h : -(2 ^ 64) < j ∧ j < 2 ^ 64) : CMul i j := .inr h
theorem cmul_l {i j : Int} (h : -(2 ^ 64) < i ∧ i < 2 ^ 64) : CMul i j := .inl h
theorem cell_p (ns : List Int) {k : Int} (hk : 0 ≤ k) : ∃ c, F__law_cell_at [.lst (ns.map .int), .int k] = .ret (.int c) := by
  obtain ⟨n, rfl⟩ : ∃ n : Nat, k = (n : Int) := ⟨k.toNat, by omega⟩
  by_cases h : n < ns.length
  · refine ⟨nat ns n, ?_⟩
    have a := at_ns h
    simp [F__law_cell_at, b__law_cell_at, x_var, h, a]
  · refine ⟨0, ?_⟩
    simp [F__law_cell_at, b__law_cell_at, x_var, h]
def primes16 : List Int := [1000003, 1000033, 1000037, 1000039, 1000081, 1000099, 1000117, 1000121, 1000133, 1000151, 1000159, 1000171, 1000183, 1000187, 1000193, 1000199]
theorem draw_p (c : Int) {k b : Int} (hb : 0 < b) : ∃ r, 0 ≤ r ∧ F__law_draw [.int c, .int k, .int b] = .ret (.int r) := by
  obtain ⟨n, hn, lt⟩ : ∃ n : Nat, k % 16 = (n : Int) ∧ n < 16 := ⟨(k % 16).toNat, by have := Int.emod_nonneg k (show (16 : Int) ≠ 0 by decide); omega, by have := Int.emod_lt_of_pos k (show (0 : Int) < 16 by decide); omega⟩
  have a : atI (primes16.map D.int) (n : Int) = some (.int (nat primes16 n)) := at_ns lt
  have pos : 0 < nat primes16 n := by
    have : ∀ n, n < 16 → 0 < nat primes16 n := by decide
    exact this n lt
  have m1 := x_mul (i := c) (j := 48271) (cmul_r (by decide))
  have m2 := x_mul (i := k) (j := 69621) (cmul_r (by decide))
  generalize nat primes16 n = pr at a pos
  simp only [primes16, List.map_cons, List.map_nil] at a
  refine ⟨(c * 48271 + k * 69621) % pr % b, Int.emod_nonneg _ (by omega), ?_⟩
  simp [F__law_draw, b__law_draw, x_var, m1, m2, hn, a, pos, hb]
theorem number_p (c : Int) {k b : Int} (h1 : 1 ≤ k) (h2 : k ≤ 12) (hb : 0 < b) : ∃ r, 0 ≤ r ∧ r < b ∧ F__law_number [.int c, .int k, .int b] = .ret (.int r) := by
  obtain ⟨n, rfl⟩ : ∃ n : Nat, k = (n : Int) := ⟨k.toNat, by omega⟩
  have e24 : (n : Int) % 24 = (n : Int) := Int.emod_eq_of_lt (by omega) (by omega)
  have r1 : rng1D [.int (n : Int)] = _ := x_rng1D (n := n) (by omega)
  obtain ⟨i, L⟩ := for_fold (fs := setN) (is := [4]) (f := wAsg (mk [] (wOp mulD (wVar 3) (wC (.int 1009)))) setN [3]) (fun u : Nat × Option D => [some (.int c), some (.int (n : Int)), some (.int b), some (.int (1009 ^ u.1)), u.2, none, none]) (fun x : Nat => D.int (x : Int)) (fun u x => (u.1 + 1, some (.int (x : Int)))) (fun xs u => u.1 + xs.length = n) (List.range n) (0, none) (by simp)
    (fun u x xs h => by
      rw [List.length_cons] at h
      refine ⟨by dsimp only; omega, ?_⟩
      have m := x_mul (i := 1009 ^ u.1) (j := 1009) (cmul_r (by decide))
      simp [x_var, m, Int.pow_succ])
  generalize (List.foldl (fun (u : Nat × Option D) (x : Nat) => (u.1 + 1, some (D.int (x : Int)))) (0, none) (List.range n)) = sf at i L
  rw [← rangeD_eq] at L
  have en : sf.1 = n := by simpa using i
  rw [en] at L
  simp only [Int.pow_zero] at L
  have pw : (0 : Int) < 1009 ^ n := Int.pow_pos (by decide)
  have dv := x_fdiv (i := c - 10 ^ 18) (j := 1009 ^ n) ⟨pw, by
    have e : ((1009 : Int) ^ n).natAbs = 1009 ^ n := by rw [Int.natAbs_pow]; rfl
    rw [e]
    have l : 1009 ^ n < 2 ^ 9000 := by
      have a : 1009 ^ n ≤ 1009 ^ 12 := Nat.pow_le_pow_right (by decide) (by omega)
      have b : 1009 ^ 12 < 2 ^ 9000 := by decide +kernel
      omega
    exact (Nat.log2_lt (by have := Nat.pow_pos (n := n) (show 0 < 1009 by decide); omega)).mpr l⟩
  have p18 := x_pow (i := 10) (j := 18) ⟨by decide, by decide, by decide⟩
  rw [show (10 : Int) ^ (18 : Int).toNat = 10 ^ 18 from rfl] at p18
  by_cases pos : 0 < (c - 10 ^ 18) / 1009 ^ n
  · refine ⟨(c - 10 ^ 18) / 1009 ^ n % 1009 % b, Int.emod_nonneg _ (by omega), Int.emod_lt_of_pos _ hb, ?_⟩
    simp only [F__law_number, b__law_number]
    simp [x_var, e24, r1, L, p18, -Int.reducePow]
    rw [dv]
    simp [x_var, pos, hb, -Int.reducePow]
  · have sm0 := Int.emod_nonneg c (show (1000003 : Int) ≠ 0 by decide)
    have sm1 := Int.emod_lt_of_pos c (show (0 : Int) < 1000003 by decide)
    have m1 := x_mul (i := 977) (j := (n : Int)) (cmul_l (by decide))
    have m2 := x_mul (i := 31) (j := (n : Int)) (cmul_l (by decide))
    have m3 := x_mul (i := c % 1000003 + 977 * (n : Int)) (j := c % 1000003 + 31 * (n : Int) + 5) (cmul_l ⟨by omega, by omega⟩)
    obtain ⟨r, hr, dr⟩ := draw_p ((c % 1000003 + 977 * (n : Int)) * (c % 1000003 + 31 * (n : Int) + 5)) (k := (n : Int) % 9 + 1) (b := 999983) (by decide)
    refine ⟨r % b, Int.emod_nonneg _ (by omega), Int.emod_lt_of_pos _ hb, ?_⟩
    simp only [F__law_number, b__law_number]
    simp [x_var, e24, r1, L, p18, -Int.reducePow]
    rw [dv]
    simp [x_var, pos, hb, m1, m2, m3, dr, -Int.reducePow]
theorem next_run {b : Int} (hb : 0 < b) {K : D → Prop} (h : ∀ i : Nat, (i : Int) < b → K (ni i)) : (F__law_next [.drw, .int b]).run K := by
  have h0 : isDrw .drw := trivial
  simp [F__law_next, b__law_next, x_var, wDrwSet, wDrw2, wDrw1, wDrw0, h0]
  intro n1 hn1
  refine ⟨by omega, fun n hn => ?_⟩
  have d1 := x_fdiv (i := n) (j := 12) ⟨by decide, by decide⟩
  rw [d1]
  simp
  intro ns hns
  have p12 : 0 ≤ n / 12 := Int.ediv_nonneg hn (by decide)
  obtain ⟨c, hc⟩ := cell_p ns p12
  have m := x_mul (i := 31) (j := n / 12) (cmul_l (by decide))
  rw [hc, m]
  simp
  intro n2 hn2
  obtain ⟨r, r1, r2, hr⟩ := number_p (c + 31 * (n / 12)) (k := n2 % 12 + 1) (b := b) (by have := Int.emod_nonneg n2 (show (12 : Int) ≠ 0 by decide); omega) (by have := Int.emod_lt_of_pos n2 (show (0 : Int) < 12 by decide); omega) hb
  rw [hr]
  have := h r.toNat (by omega)
  rw [show ni r.toNat = .int r by show D.int _ = _; rw [Int.toNat_of_nonneg r1]] at this
  exact this
theorem pick_run {ds : List D} (hd : ds ≠ []) {K : D → Prop} (h : ∀ d ∈ ds, K d) : (F__law_pick [.drw, .lst ds]).run K := by
  have l : 0 < ds.length := List.length_pos_iff.mpr hd
  simp [F__law_pick, b__law_pick, x_var]
  refine next_run (by omega) fun i hi => ?_
  have li : i < ds.length := by omega
  have a : atI ds (i : Int) = some ds[i] := atI_nat (List.getElem?_eq_getElem li)
  simp [a]
  exact h _ (List.getElem_mem li)
noncomputable def rowB : WS := wSeq (wPar3 4 5 6 (wCons (mk [] (wCall F__law_next (wCons (wVar 0) (wCons (wVar 1) wNil)))) (wCons (mk [] (wCall F__law_next (wCons (wVar 0) (wCons (wVar 1) wNil)))) (wCons (mk [] (wCall F__law_next (wCons (wVar 0) (wCons (wVar 1) wNil)))) wNil)))) (wSeq (wIfS (wB (wOp eqD (wVar 3) (wC (.str "put")))) (wRet (wTup (wCons (wVar 3) (wCons (wVar 4) (wCons (wCall F__law_next (wCons (wVar 0) (wCons (wVar 2) wNil))) wNil))))) wNext) (wSeq (wIfS (wB (wOp inD (wVar 3) (wTup (wCons (wC (.str "take")) (wCons (wC (.str "tell")) wNil))))) (wRet (wTup (wCons (wVar 3) (wCons (wVar 4) wNil)))) wNext) (wRet (wIf (wB (wOp eqD (wVar 3) (wC (.str "move")))) (wTup (wCons (wVar 3) (wCons (wVar 4) (wCons (wVar 5) wNil)))) (wTup (wCons (wVar 3) (wCons (wVar 4) (wCons (wVar 5) (wCons (wVar 6) wNil)))))))))
theorem row_run {m s : Nat} (hm : 0 < m) (hs : 0 < s) {K : D → Prop} (h : ∀ r : Rw, r.Ok m s → K r.d) : (F__law_row [.drw, ni m, ni s]).run K := by
  have key : ∀ a ∈ [Wd.put, .move, .add, .sub, .less, .take, .tell], (rowB [some .drw, some (ni m), some (ni s), some (.str a.s), none, none, none]).run fun o => (retK o).run K := by
    intro a ha
    have m0 : (0 : Int) < (m : Int) := by omega
    have s0 : (0 : Int) < (s : Int) := by omega
    simp [rowB, x_var]
    refine next_run m0 fun i hi => ?_
    refine next_run m0 fun j hj => ?_
    refine next_run m0 fun l hl => ?_
    have i1 : i < m := by omega
    have j1 : j < m := by omega
    have l1 : l < m := by omega
    simp at ha
    rcases ha with rfl | rfl | rfl | rfl | rfl | rfl | rfl
    · simp [x_var]
      refine next_run s0 fun x hx => ?_
      exact h (.put i (x : Int)) ⟨i1, by omega, hx⟩
    · simp [x_var]
      exact h (.mv i j) ⟨i1, j1⟩
    · simp [x_var]
      exact h (.add i j l) ⟨i1, j1, l1⟩
    · simp [x_var]
      exact h (.sub i j l) ⟨i1, j1, l1⟩
    · simp [x_var]
      exact h (.less i j l) ⟨i1, j1, l1⟩
    · simp [x_var]
      exact h (.take i) i1
    · simp [x_var]
      exact h (.tell i) i1
  have e : F__law_row [.drw, ni m, ni s] = ((F__law_pick [.drw, .lst [.str "put", .str "move", .str "add", .str "sub", .str "less", .str "take", .str "tell", .str "tell"]]).bind fun d => rowB [some .drw, some (ni m), some (ni s), some d, none, none, none]).bind retK := by
    have e0 : b__law_row = wSeq (wAsg (mk [] (wCall F__law_pick (wCons (wVar 0) (wCons (wLst (wCons (wC (.str "put")) (wCons (wC (.str "move")) (wCons (wC (.str "add")) (wCons (wC (.str "sub")) (wCons (wC (.str "less")) (wCons (wC (.str "take")) (wCons (wC (.str "tell")) (wCons (wC (.str "tell")) wNil))))))))) wNil)))) setN [3]) rowB := rfl
    simp [F__law_row, e0, x_var]
  rw [e, Wp.run_bind, Wp.run_bind]
  refine pick_run (by simp) fun d hd => ?_
  simp at hd
  rcases hd with rfl | rfl | rfl | rfl | rfl | rfl | rfl
  · exact key .put (by simp)
  · exact key .move (by simp)
  · exact key .add (by simp)
  · exact key .sub (by simp)
  · exact key .less (by simp)
  · exact key .take (by simp)
  · exact key .tell (by simp)
end Rr
/-! registerrooms, the plain law: programs are made. -/
namespace Rr
open PySem PySem.Spec PyProof.Rows L2
def En.tg : En → List Nat
  | .stop => []
  | .go t => [t]
  | .part _ a b => [a, b]
/-- each block but the first one has one before it that leads to it -/
def Reach (p : Pg) : Prop := ∀ b, 1 ≤ b → b < p.bs.length → ∃ a blk, a < b ∧ p.bs[a]? = some blk ∧ b ∈ blk.2.tg
theorem targets_d (e : En) : F_targets_of [e.d] = .ret (.tup (e.tg.map ni)) := by
  cases e with
  | stop => exact targets_stop
  | go t => exact targets_go t
  | part v a b => exact targets_part v a b
def sizW : Wd → Option Int
  | .put | .move => some 3
  | .add | .sub | .less => some 4
  | .take | .tell => some 2
  | _ => none
theorem size_w (a : Wd) : sizeOf a.s = sizW a := by cases a <;> decide +kernel
theorem is_int_n {x : Nat} {m : Nat} (h : x < m) : F_is_integer [ni x, .int 0, .int ((m : Int) - 1)] = .ret (.bl true) := by
  rw [is_integer_i]
  have h1 : (0 : Int) ≤ (x : Int) := by omega
  have h2 : (x : Int) ≤ (m : Int) - 1 := by omega
  simp [h1, h2]
theorem is_int_1 {x : Nat} {m : Nat} (h1 : 1 ≤ x) (h : x < m) : F_is_integer [ni x, .int 1, .int ((m : Int) - 1)] = .ret (.bl true) := by
  rw [is_integer_i]
  have h1 : (1 : Int) ≤ (x : Int) := by omega
  have h2 : (x : Int) ≤ (m : Int) - 1 := by omega
  simp [h1, h2]
theorem ne_nil (d : D) (ds : List D) {n : Nat} (h : Pln (.tup (d :: ds)) n) (l : n ≤ 60) : eqD (.tup (d :: ds)) (.tup []) = .ret (.bl false) := by
  rw [eq_ok (h.ok l) ⟨rfl, by simp [D.dep, D.deps]⟩]
  simp
theorem pln_row (r : Rw) : Pln r.d 1 := by
  cases r <;> exact pln_tup fun d hd => by
    simp [Rw.args] at hd
    rcases hd with rfl | hd
    · exact pln_w _
    · first
      | (rcases hd with rfl | rfl | rfl <;> exact pln_int _)
      | (rcases hd with rfl | rfl <;> exact pln_int _)
      | (rw [hd]; exact pln_int _)
theorem pln_en (e : En) : Pln e.d 1 := by
  cases e <;> exact pln_tup fun d hd => by
    simp [En.args] at hd
    first
    | (rw [hd]; exact pln_w _)
    | (rcases hd with rfl | rfl
       · exact pln_w _
       · exact pln_int _)
    | (rcases hd with rfl | rfl | rfl | rfl
       · exact pln_w _
       all_goals exact pln_int _)
theorem ne_ii {i j : Int} : neD (.int i) (.int j) = .ret (.bl (!decide (i = j))) := by
  rw [ne_ok ok_int ok_int]
  simp
theorem is_row_p {m s : Nat} {r : Rw} (R : r.Ok m s) : F_is_row [r.d, ni m, ni s] = .ret (.bl true) := by
  have pl := pln_row r
  unfold Rw.d at pl
  have nn := ne_nil _ _ pl (by decide)
  have sz := size_w r.wd
  have al : ∀ (xs : List Nat), (∀ x ∈ xs, x < m) → ∀ (d : D), lcN setN [3] [3] wYes (wCall F_is_integer (wCons (wVar 3) (wCons (wC (.int 0)) (wCons (wOp subD (wVar 1) (wC (.int 1))) wNil)))) [some d, some (ni m), some (ni s), none] (xs.map ni) = .ret (xs.map fun x => D.bl ((fun _ => true) x)) := fun xs hx d => by
    refine lc_map ni (fun x => [ni x]) _ xs fun x h => ⟨rfl, ?_⟩
    have := is_int_n (hx x h)
    simp [x_var, this]
  have all : ∀ xs : List Nat, allD [.lst (xs.map fun x => D.bl ((fun _ => true) x))] = .ret (.bl true) := fun xs => by
    rw [all_bl xs (fun _ => true), show (xs.all fun _ => true) = true by simp]
  have ct : ∀ (d : D) (ds : List D), cutD (d :: ds) (some 1) none = ds := cut1
  cases r with
  | put v x =>
    have i1 := is_int_n R.1
    have i2 : F_is_integer [.int x, .int 0, .int ((s : Int) - 1)] = .ret (.bl true) := by
      rw [is_integer_i]
      have := R.2
      have h1 : 0 ≤ x := this.1
      have h2 : x ≤ (s : Int) - 1 := by omega
      simp [h1, h2]
    simp [Rw.wd, sizW] at sz
    simp [Rw.wd, Rw.args] at nn
    simp [F_is_row, b_is_row, x_var, Rw.d, Rw.wd, Rw.args, nn, wMap, inSizes, atSizes, sz, i1, i2, ne_ii]
  | mv v a =>
    have al := al [v, a] (by simp; exact R)
    have all := all [v, a]
    simp only [List.map_cons, List.map_nil] at al all
    simp [Rw.wd, sizW] at sz
    simp [Rw.wd, Rw.args] at nn
    simp [F_is_row, b_is_row, x_var, Rw.d, Rw.wd, Rw.args, nn, wMap, inSizes, atSizes, sz, ct, al, all, ne_ii]
  | add v a b =>
    have al := al [v, a, b] (by simp; exact R)
    have all := all [v, a, b]
    simp only [List.map_cons, List.map_nil] at al all
    simp [Rw.wd, sizW] at sz
    simp [Rw.wd, Rw.args] at nn
    simp [F_is_row, b_is_row, x_var, Rw.d, Rw.wd, Rw.args, nn, wMap, inSizes, atSizes, sz, ct, al, all, ne_ii]
  | sub v a b =>
    have al := al [v, a, b] (by simp; exact R)
    have all := all [v, a, b]
    simp only [List.map_cons, List.map_nil] at al all
    simp [Rw.wd, sizW] at sz
    simp [Rw.wd, Rw.args] at nn
    simp [F_is_row, b_is_row, x_var, Rw.d, Rw.wd, Rw.args, nn, wMap, inSizes, atSizes, sz, ct, al, all, ne_ii]
  | less v a b =>
    have al := al [v, a, b] (by simp; exact R)
    have all := all [v, a, b]
    simp only [List.map_cons, List.map_nil] at al all
    simp [Rw.wd, sizW] at sz
    simp [Rw.wd, Rw.args] at nn
    simp [F_is_row, b_is_row, x_var, Rw.d, Rw.wd, Rw.args, nn, wMap, inSizes, atSizes, sz, ct, al, all, ne_ii]
  | take v =>
    have al := al [v] (by simp; exact R)
    have all := all [v]
    simp only [List.map_cons, List.map_nil] at al all
    simp [Rw.wd, sizW] at sz
    simp [Rw.wd, Rw.args] at nn
    simp [F_is_row, b_is_row, x_var, Rw.d, Rw.wd, Rw.args, nn, wMap, inSizes, atSizes, sz, ct, al, all, ne_ii]
  | tell v =>
    have al := al [v] (by simp; exact R)
    have all := all [v]
    simp only [List.map_cons, List.map_nil] at al all
    simp [Rw.wd, sizW] at sz
    simp [Rw.wd, Rw.args] at nn
    simp [F_is_row, b_is_row, x_var, Rw.d, Rw.wd, Rw.args, nn, wMap, inSizes, atSizes, sz, ct, al, all, ne_ii]
theorem is_end_p {m n : Nat} {e : En} (E : e.Ok m n) : F_is_end [e.d, ni m, ni n] = .ret (.bl true) := by
  have pl := pln_en e
  unfold En.d at pl
  have nn := ne_nil _ _ pl (by decide)
  cases e with
  | stop =>
    simp [En.wd, En.args] at nn
    simp [F_is_end, b_is_end, x_var, En.d, En.wd, En.args, nn, eq_ii]
  | go t =>
    have i1 := is_int_1 E.1 E.2
    simp [En.wd, En.args] at nn
    simp [F_is_end, b_is_end, x_var, En.d, En.wd, En.args, nn, eq_ii, i1]
  | part v a b =>
    have i1 := is_int_n E.1
    have i2 := is_int_1 E.2.1.1 E.2.1.2
    have i3 := is_int_1 E.2.2.1 E.2.2.2
    simp [En.wd, En.args] at nn
    simp [F_is_end, b_is_end, x_var, En.d, En.wd, En.args, nn, eq_ii, ne_ii, i1, i2, i3]
theorem is_block_p {m s n : Nat} {b : List Rw × En} (l : b.1.length ≤ 12) (R : ∀ r ∈ b.1, r.Ok m s) (E : b.2.Ok m n) : F_is_plain_block [bd1 b, ni m, ni s, ni n] = .ret (.bl true) := by
  have ie := is_end_p E
  have lc := lc_map (fs := setN) (is := [4]) (vs := [4]) (te := wCall F_is_row (wCons (wVar 4) (wCons (wVar 1) (wCons (wVar 2) wNil)))) (ρ := [some (bd1 b), some (ni m), some (ni s), some (ni n), none]) Rw.d (fun r => [r.d]) (fun r => D.bl ((fun _ => true) r)) b.1 (fun r hr => ⟨rfl, by
    have := is_row_p (R r hr)
    simp [x_var, this]⟩)
  have al := all_bl b.1 (fun _ => true)
  rw [show (b.1.all fun _ => true) = true by simp] at al
  unfold bd1 at lc
  have l1 : ¬ (12 : Int) < (b.1.length : Int) := by omega
  have l2 : b.1.length ≤ 16777216 := by omega
  generalize b.1.map (fun r => D.bl ((fun _ => true) r)) = ys at lc al
  simp [F_is_plain_block, b_is_plain_block, x_var, bd1, ne_ii, l1, l2, lc, al, ie]
/-! ### each block is come to -/
def arl (tg : List (List Nat)) : Nat → List Nat → List Nat → Option (List Nat)
  | 0, _, _ => none
  | n + 1, ks, ws => match ws.getLast? with
    | none => some ks
    | some x => let p := (tg.getD x []).foldl (fun (p : List Nat × List Nat) t => if t ∈ p.1 then p else (p.1 ++ [t], p.2 ++ [t])) (ks, ws.dropLast)
      arl tg n p.1 p.2
theorem arFor_p : ∀ (ts ks ws : List Nat), ks.length + ts.length < 1000 → ws.length + ts.length < 1000 → arFor (ts.map ni) (ks.map fun (x : Nat) => (x : Int)) (ws.map fun (x : Nat) => (x : Int)) = .ret ((ts.foldl (fun (p : List Nat × List Nat) t => if t ∈ p.1 then p else (p.1 ++ [t], p.2 ++ [t])) (ks, ws)).1.map (fun (x : Nat) => (x : Int)), (ts.foldl (fun (p : List Nat × List Nat) t => if t ∈ p.1 then p else (p.1 ++ [t], p.2 ++ [t])) (ks, ws)).2.map fun (x : Nat) => (x : Int))
  | [], ks, ws, _, _ => rfl
  | t :: ts, ks, ws, l1, l2 => by
    rw [List.length_cons] at l1 l2
    rw [List.map_cons, List.foldl_cons]
    show (arB (t : Int) _ _).bind (fun p => arFor (ts.map ni) p.1 p.2) = _
    have mem : ((t : Int) ∈ ks.map fun (x : Nat) => (x : Int)) ↔ t ∈ ks := by
      rw [List.mem_map]
      constructor
      · rintro ⟨y, hy, e⟩
        rw [← Int.ofNat.inj e]
        exact hy
      · exact fun h => ⟨t, h, rfl⟩
    unfold arB
    by_cases m : t ∈ ks
    · rw [if_pos (mem.mpr m), if_pos m, Wp.ret_bind]
      exact arFor_p ts ks ws (by omega) (by omega)
    · rw [if_neg fun h => m (mem.mp h), if_neg m, Wp.chk_of ⟨by simp; omega, by simp; omega⟩, Wp.ret_bind]
      have := arFor_p ts (ks ++ [t]) (ws ++ [t]) (by simp; omega) (by simp; omega)
      simp only [List.map_append, List.map_cons, List.map_nil] at this
      exact this
theorem arl_len (tg : List (List Nat)) (ts ks ws : List Nat) : (ts.foldl (fun (p : List Nat × List Nat) t => if t ∈ p.1 then p else (p.1 ++ [t], p.2 ++ [t])) (ks, ws)).1.length ≤ ks.length + ts.length ∧ (ts.foldl (fun (p : List Nat × List Nat) t => if t ∈ p.1 then p else (p.1 ++ [t], p.2 ++ [t])) (ks, ws)).2.length ≤ ws.length + ts.length := by
  induction ts generalizing ks ws with
  | nil => simp
  | cons t ts ih =>
    rw [List.foldl_cons, List.length_cons]
    dsimp only
    split
    · have := ih ks ws
      omega
    · have := ih (ks ++ [t]) (ws ++ [t])
      simp only [List.length_append, List.length_singleton] at this
      omega
theorem tg_len (e : En) : e.tg.length ≤ 2 := by cases e <;> simp [En.tg]
theorem arLoop_p (p : Pg) (hb : ∀ b ∈ p.bs, ∀ t ∈ b.2.tg, t < p.bs.length) : ∀ (n : Nat) (ks ws res : List Nat), arl (p.bs.map fun b => b.2.tg) n ks ws = some res → (∀ w ∈ ws, w < p.bs.length) → ks.length + 2 * n < 1000 → ws.length + 2 * n < 1000 →
    arLoop (p.bs.map bd1) n (ks.map fun (x : Nat) => (x : Int)) (ws.map fun (x : Nat) => (x : Int)) = .ret (res.map fun (x : Nat) => (x : Int))
  | 0, ks, ws, res, h, _, _, _ => by simp [arl] at h
  | n + 1, ks, ws, res, h, hw, l1, l2 => by
    unfold arl at h
    unfold arLoop
    cases g : ws.getLast? with
    | none =>
      rw [g] at h
      cases h
      rw [List.getLast?_eq_none_iff] at g
      rw [g, List.map_nil, if_pos rfl]
    | some x =>
      rw [g] at h
      have ne : ws ≠ [] := fun e => by rw [e] at g; cases g
      have xm : x ∈ ws := List.mem_of_getLast? g
      have lx := hw x xm
      rw [if_neg (by simp [ne])]
      have hx := List.getElem?_eq_getElem lx
      have bm : p.bs[x] ∈ p.bs := List.getElem_mem lx
      have gd : (p.bs.map fun b => b.2.tg).getD x [] = p.bs[x].2.tg := by
        rw [List.getD_eq_getElem?_getD, List.getElem?_map, hx]
        rfl
      have a0 : atI (p.bs.map bd1) (x : Int) = some (bd1 p.bs[x]) := atI_mp bd1 hx
      have a1 : atI [D.tup (p.bs[x].1.map Rw.d), p.bs[x].2.d] (-1) = some p.bs[x].2.d := atI_neg1 rfl
      have t : arT (p.bs.map bd1) (ws.map fun (x : Nat) => (x : Int)) = .ret (p.bs[x].2.tg.map ni) := by
        unfold arT
        rw [List.getLast?_map, g]
        simp [a0, bd1, a1, targets_d]
      have tl := tg_len p.bs[x].2
      dsimp only at h
      rw [gd] at h
      have ll := arl_len (p.bs.map fun b => b.2.tg) p.bs[x].2.tg ks ws.dropLast
      have dl : ws.dropLast.length ≤ ws.length := by simp
      rw [t, Wp.ret_bind, ← List.map_dropLast, arFor_p _ _ _ (by omega) (by omega), Wp.ret_bind]
      refine arLoop_p p hb n _ _ res h (fun w hw2 => ?_) (by omega) (by omega)
      have key : ∀ (ts ks ws : List Nat), (∀ t ∈ ts, t < p.bs.length) → (∀ w ∈ ws, w < p.bs.length) → ∀ w ∈ (ts.foldl (fun (p : List Nat × List Nat) t => if t ∈ p.1 then p else (p.1 ++ [t], p.2 ++ [t])) (ks, ws)).2, w < p.bs.length := fun ts => by
        induction ts with
        | nil => exact fun ks ws _ h => h
        | cons t ts ih =>
          intro ks ws h1 h2
          rw [List.foldl_cons]
          dsimp only
          split
          · exact ih ks ws (fun t ht => h1 t (List.mem_cons_of_mem _ ht)) h2
          · refine ih _ _ (fun t ht => h1 t (List.mem_cons_of_mem _ ht)) fun w hw => ?_
            rcases List.mem_append.mp hw with hw | hw
            · exact h2 w hw
            · rw [List.mem_singleton.mp hw]
              exact h1 t (List.mem_cons_self ..)
      exact key _ _ _ (hb _ bm) (fun w hw3 => hw w (List.dropLast_subset _ hw3)) w hw2
def reachB (tg : List (List Nat)) : Bool := (List.range tg.length).all fun b => b == 0 || (List.range b).any fun a => (tg.getD a []).contains b
def tgs (n : Nat) : List (List Nat) := [[]] ++ ((List.range n).filter (fun x => decide (1 ≤ x))).map (fun x => [x]) ++ ((List.range n).filter (fun x => decide (1 ≤ x))).flatMap fun x => ((List.range n).filter (fun x => decide (1 ≤ x))).map fun y => [x, y]
theorem arl1 : ∀ a ∈ tgs 1, reachB [a] = true → (arl [a] 5 [0] [0]).map List.length = some 1 := by decide +kernel
theorem arl2 : ∀ a ∈ tgs 2, ∀ b ∈ tgs 2, reachB [a, b] = true → (arl [a, b] 5 [0] [0]).map List.length = some 2 := by decide +kernel
theorem arl3 : ∀ a ∈ tgs 3, ∀ b ∈ tgs 3, ∀ c ∈ tgs 3, reachB [a, b, c] = true → (arl [a, b, c] 5 [0] [0]).map List.length = some 3 := by decide +kernel
theorem tg_in {m n : Nat} {e : En} (E : e.Ok m n) : e.tg ∈ tgs n := by
  unfold tgs
  cases e with
  | stop => simp [En.tg]
  | go t => simp [En.tg]; exact ⟨E.2, E.1⟩
  | part v a b => simp [En.tg]; exact ⟨⟨E.2.1.2, E.2.1.1⟩, E.2.2.2, E.2.2.1⟩
theorem tg_lt {m n : Nat} {e : En} (E : e.Ok m n) : ∀ t ∈ e.tg, t < n := by
  cases e with
  | stop => simp [En.tg]
  | go t => simp [En.tg]; exact E.2
  | part v a b => simp [En.tg]; exact ⟨E.2.1.2, E.2.2.2⟩
theorem reachB_of {p : Pg} (h : Reach p) : reachB (p.bs.map fun b => b.2.tg) = true := by
  unfold reachB
  rw [List.all_eq_true]
  intro b hb
  rw [List.mem_range, List.length_map] at hb
  by_cases z : b = 0
  · simp [z]
  · obtain ⟨a, blk, lt, e, m⟩ := h b (by omega) hb
    rw [Bool.or_eq_true, List.any_eq_true]
    refine .inr ⟨a, List.mem_range.mpr lt, ?_⟩
    rw [List.getD_eq_getElem?_getD, List.getElem?_map, e]
    simpa using m
theorem arl_p {p : Pg} (O : p.Ok) (h : Reach p) : ∃ res, arl (p.bs.map fun b => b.2.tg) 5 [0] [0] = some res ∧ res.length = p.bs.length := by
  have r := reachB_of h
  have E : ∀ b ∈ p.bs, b.2.tg ∈ tgs p.bs.length := fun b hb => tg_in (O.en b hb)
  have n1 := O.nb
  have key : (arl (p.bs.map fun b => b.2.tg) 5 [0] [0]).map List.length = some p.bs.length := by
    generalize p.bs = bs at r E n1
    match bs, n1 with
    | [], h => simp at h
    | [a], _ => exact arl1 _ (E a (by simp)) r
    | [a, b], _ => exact arl2 _ (E a (by simp)) _ (E b (by simp)) r
    | [a, b, c], _ => exact arl3 _ (E a (by simp)) _ (E b (by simp)) _ (E c (by simp)) r
    | _ :: _ :: _ :: _ :: _, h => simp at h
  cases q : arl (p.bs.map fun b => b.2.tg) 5 [0] [0] with
  | none => rw [q] at key; cases key
  | some res => rw [q] at key; exact ⟨res, rfl, Option.some.inj key⟩
theorem reached_run {p : Pg} (O : p.Ok) (h : Reach p) {K : D → Prop} (k : K (.bl true)) : (F_are_reached [p.bd]).run K := by
  obtain ⟨res, e, l⟩ := arl_p O h
  have n1 := O.nb
  have := arLoop_p p (fun b hb => tg_lt (O.en b hb)) 5 [0] [0] res e (by simp; omega) (by decide) (by decide)
  show ((arW (p.bs.map bd1) [0] [0]).bind fun ks => .ret (.bl (decide ((ks.length : Int) = ((p.bs.map bd1).length : Int))))).run K
  rw [Wp.run_bind]
  refine ⟨5, ?_⟩
  rw [show ([0] : List Int) = [0].map fun (x : Nat) => (x : Int) from rfl, this, Wp.run_ret]
  simp [l]
  exact k
theorem made_run {p : Pg} (O : p.Ok) (h : Reach p) {K : D → Prop} (k : K p.prg) : (F__law_made [p.pl]).run K := by
  have m := O.many
  have s := O.sp
  have hd := O.hd
  have nb := O.nb
  have i1 := is_integer_i (p.many : Int) 1 8
  have d1 : (1 : Int) ≤ (p.many : Int) := by omega
  have d2 : (p.many : Int) ≤ 8 := by omega
  have i2 := is_integer_i (p.hd : Int) 0 (if (3 : Int) < (p.many : Int) then 3 else (p.many : Int))
  have d3 : (p.hd : Int) ≤ (if (3 : Int) < (p.many : Int) then 3 else (p.many : Int)) := by split <;> omega
  have i3 := is_integer_i (p.sp : Int) 2 8
  have d4 : (2 : Int) ≤ (p.sp : Int) := by omega
  have d5 : (p.sp : Int) ≤ 8 := by omega
  have d6 : (1 : Int) ≤ (p.bs.length : Int) := by omega
  have d7 : (p.bs.length : Int) ≤ 16 := by omega
  have lc := lc_map (fs := setN) (is := [5]) (vs := [5]) (te := wCall F_is_plain_block (wCons (wVar 5) (wCons (wVar 1) (wCons (wVar 4) (wCons (wCall lenA (wCons (wVar 2) wNil)) wNil))))) (ρ := [none, some (ni p.many), some p.bd, some (ni p.hd), some (ni p.sp), none]) bd1 (fun b => [bd1 b]) (fun b => D.bl ((fun _ => true) b)) p.bs (fun b hb => ⟨rfl, by
    have := is_block_p (s := p.sp) (n := p.bs.length) (by have := O.ln b hb; omega) (O.rw b hb) (O.en b hb)
    simp [x_var, Pg.bd, this]⟩)
  have al := all_bl p.bs (fun _ => true)
  rw [show (p.bs.all fun _ => true) = true by simp] at al
  have l2 : p.bs.length ≤ 16777216 := by omega
  have rr := reached_run O h (K := fun d => d = .bl true) rfl
  generalize p.bs.map (fun r => D.bl ((fun _ => true) r)) = ys at lc al
  have mn : minD [.int (p.many : Int), .int 3] = .ret (.int (if (3 : Int) < (p.many : Int) then 3 else (p.many : Int))) := rfl
  have ib : isiT "tuple" p.bd = .ret (.bl true) := isi_tt _
  have lb : lenA [p.bd] = .ret (.int (p.bs.length : Int)) := by
    show lenA [.tup (p.bs.map bd1)] = _
    simp
  have wb : walkD p.bd = .ret (p.bs.map bd1) := rfl
  simp [F__law_made, b__law_made, x_var, Pg.pl, wMakeP, F_Program, chkP, pt1, pt2, pt3, pt4, pt5, i1, d1, d2, mn, i2, d3, i3, d4, d5, ib, lb, d6, d7, wb, l2, lc, al]
  refine Wp.mono _ (fun a e => ?_) rr
  rw [e]
  simp
  exact k
end Rr
/-! registerrooms, the plain law: programs are drawn. -/
namespace Rr
open PySem PySem.Spec PyProof.Rows L2
def ouN (os : List (List Nat)) : D := .lst (os.map fun o => .lst (o.map ni))
theorem outs1 {K : D → Prop} (h : K (ouN [[]])) : (F__law_outs [.drw, .int 1]).run K := by
  have r : rangeD 1 0 = [] := by simp [rangeD]
  show (Wp.chk _ ((ouLoop (rangeD 1 0) [[]]).bind fun os => .ret (ouD os))).run K
  rw [r]
  exact ⟨by decide, h⟩
theorem ou_step1 {os : List (List Int)} (h : os = [[], []] ∨ os = [[], [], []]) : ∀ {K : List (List Int) → Prop}, K (os.set 0 [1]) → (ouStep 1 os).run K := by
  intro K k
  have r : rng1D [.int 1] = .ret (rangeD 0 1) := x_rng1D (n := 1) (by decide)
  have r2 : rangeD 0 1 = [.int 0] := by simp [rangeD]
  rcases h with rfl | rfl
  all_goals
    simp [ouStep, ouPick, ouEnv, ouD, x_var, r, r2, lcN]
    refine pick_run (by simp) fun d hd => ?_
    rw [List.mem_singleton.mp hd]
    simp [ixN]
    exact k
theorem ou_step2 : ∀ {K : List (List Int) → Prop}, K [[1, 2], [], []] → K [[1], [2], []] → (ouStep 2 [[1], [], []]).run K := by
  intro K k1 k2
  have r : rng1D [.int 2] = .ret (rangeD 0 2) := x_rng1D (n := 2) (by decide)
  have r2 : rangeD 0 2 = [.int 0, .int 1] := by simp [rangeD, List.range, List.range.loop]
  simp [ouStep, ouPick, ouEnv, ouD, x_var, r, r2, lcN]
  refine pick_run (by simp) fun d hd => ?_
  simp at hd
  rcases hd with rfl | rfl
  · simp [ixN]
    exact k1
  · simp [ixN]
    exact k2
theorem outs2 {K : D → Prop} (h : K (ouN [[1], []])) : (F__law_outs [.drw, .int 2]).run K := by
  have r : rangeD 1 1 = [.int 1] := by simp [rangeD]
  show (Wp.chk _ ((ouLoop (rangeD 1 1) [[], []]).bind fun os => .ret (ouD os))).run K
  rw [r]
  refine ⟨by decide, ?_⟩
  show ((ouStep 1 [[], []]).bind fun os => _).run _
  rw [Wp.run_bind]
  exact ou_step1 (.inl rfl) h
theorem outs3 {K : D → Prop} (h1 : K (ouN [[1, 2], [], []])) (h2 : K (ouN [[1], [2], []])) : (F__law_outs [.drw, .int 3]).run K := by
  have r : rangeD 1 2 = [.int 1, .int 2] := by simp [rangeD, List.range, List.range.loop]
  have e1 : ((3 : Int) - 1).toNat = 2 := rfl
  have e2 : List.replicate (3 : Int).toNat ([] : List Int) = [[], [], []] := rfl
  simp only [F__law_outs]
  rw [e1, e2, r]
  refine ⟨by decide, ?_⟩
  have e3 : ouLoop [.int 1, .int 2] [[], [], []] = (ouStep 1 [[], [], []]).bind fun os => (ouStep 2 os).bind fun os => .ret os := rfl
  rw [e3, Wp.run_bind, Wp.run_bind]
  refine ou_step1 (.inr rfl) ?_
  rw [Wp.run_bind]
  exact ou_step2 h1 h2
structure OuOk (n : Nat) (os : List (List Nat)) : Prop where
  len : os.length = n
  two : ∀ o ∈ os, o.length ≤ 2 ∧ ∀ x ∈ o, 1 ≤ x ∧ x < n
  all : ∀ b, 1 ≤ b → b < n → ∃ a o, a < b ∧ os[a]? = some o ∧ b ∈ o
theorem outs_run {n : Nat} (h1 : 1 ≤ n) (h3 : n ≤ 3) {K : D → Prop} (h : ∀ os, OuOk n os → K (ouN os)) : (F__law_outs [.drw, ni n]).run K := by
  have e : n = 1 ∨ n = 2 ∨ n = 3 := by omega
  rcases e with rfl | rfl | rfl
  · exact outs1 (h _ ⟨rfl, by simp, fun b _ _ => by omega⟩)
  · exact outs2 (h _ ⟨rfl, by simp, fun b _ _ => by
      have : b = 1 := by omega
      subst this
      exact ⟨0, [1], by omega, rfl, by simp⟩⟩)
  · refine outs3 (h _ ⟨rfl, by simp, fun b _ _ => ?_⟩) (h _ ⟨rfl, by simp, fun b _ _ => ?_⟩)
    · exact ⟨0, [1, 2], by omega, rfl, by simp; omega⟩
    · by_cases e : b = 1
      · subst e
        exact ⟨0, [1], by omega, rfl, by simp⟩
      · exact ⟨1, [2], by omega, rfl, by simp; omega⟩
theorem end_run {m n : Nat} (hm : 0 < m) (hn : 1 ≤ n) {o : List Nat} (ho : o.length ≤ 2 ∧ ∀ x ∈ o, 1 ≤ x ∧ x < n) {K : D → Prop} (h : ∀ e : En, e.Ok m n → (∀ x ∈ o, x ∈ e.tg) → K e.d) : (F__law_end [.drw, ni m, ni n, .lst (o.map ni)]).run K := by
  have m0 : (0 : Int) < (m : Int) := by omega
  have sub1 : ((n : Int) - 1) = ((n - 1 : Nat) : Int) := by omega
  match o, ho with
  | [], _ =>
    have nn := eq_ok (a := .lst []) (b := .lst []) ⟨rfl, by simp [D.dep, D.deps]⟩ ⟨rfl, by simp [D.dep, D.deps]⟩
    simp at nn
    simp [F__law_end, b__law_end, x_var, nn, eq_ii]
    refine next_run (by decide) fun w hw => ?_
    refine next_run m0 fun v hv => ?_
    by_cases c : n = 1
    · have c' : (n : Int) = 1 := by omega
      simp [x_var, nn, eq_ii, c']
      exact h .stop trivial (by simp)
    · have c' : ¬ (n : Int) = 1 := by omega
      by_cases c2 : (w : Int) < 2
      · simp [x_var, nn, eq_ii, c', c2]
        exact h .stop trivial (by simp)
      · simp [x_var, nn, eq_ii, c', c2]
        refine next_run (by omega) fun t ht => ?_
        have g := h (.go (1 + t)) ⟨by omega, by omega⟩ (by simp)
        have e : D.tup [D.str Wd.go.s, .int (1 + (t : Int))] = (En.go (1 + t)).d := by
          show D.tup [D.str Wd.go.s, .int (1 + (t : Int))] = D.tup [D.str Wd.go.s, .int ((1 + t : Nat) : Int)]
          rw [show ((1 + t : Nat) : Int) = 1 + (t : Int) by omega]
        rw [← e] at g
        simp
        exact g
  | [x], ho =>
    obtain ⟨x1, x2⟩ := ho.2 x (by simp)
    have nn := eq_ok (a := .lst [ni x]) (b := .lst []) ⟨rfl, by simp [D.dep, D.deps]⟩ ⟨rfl, by simp [D.dep, D.deps]⟩
    simp at nn
    simp [F__law_end, b__law_end, x_var, nn, eq_ii]
    refine next_run (by decide) fun w hw => ?_
    refine next_run m0 fun v hv => ?_
    have v1 : v < m := by omega
    by_cases c : (w : Int) < 2
    · simp [x_var, nn, eq_ii, c]
      exact h (.go x) ⟨x1, x2⟩ (by simp [En.tg])
    · simp [x_var, nn, eq_ii, c]
      refine next_run (by omega) fun t ht => ?_
      have e : (1 + (t : Int)) = ((1 + t : Nat) : Int) := by omega
      have t2 : 1 ≤ 1 + t ∧ 1 + t < n := ⟨by omega, by omega⟩
      by_cases c2 : (w : Int) % 2 = 0
      · simp [x_var, c2, eq_ii]
        rw [e]
        exact h (.part v x (1 + t)) ⟨v1, ⟨x1, x2⟩, t2⟩ (by simp [En.tg])
      · simp [x_var, c2, eq_ii]
        rw [e]
        exact h (.part v (1 + t) x) ⟨v1, t2, ⟨x1, x2⟩⟩ (by simp [En.tg])
  | [x, y], ho =>
    have X := ho.2 x (by simp)
    have Y := ho.2 y (by simp)
    have nn := eq_ok (a := .lst [ni x, ni y]) (b := .lst []) ⟨rfl, by simp [D.dep, D.deps]⟩ ⟨rfl, by simp [D.dep, D.deps]⟩
    simp at nn
    simp [F__law_end, b__law_end, x_var, nn, eq_ii]
    refine next_run (by decide) fun w hw => ?_
    refine next_run m0 fun v hv => ?_
    have v1 : v < m := by omega
    by_cases c2 : (w : Int) % 2 = 0
    · simp [x_var, nn, eq_ii, c2]
      exact h (.part v x y) ⟨v1, X, Y⟩ (by simp [En.tg])
    · simp [x_var, nn, eq_ii, c2]
      exact h (.part v y x) ⟨v1, Y, X⟩ (by simp [En.tg])
  | _ :: _ :: _ :: _, ho => simp at ho
end Rr
/-! registerrooms, the plain law: programs are drawn, and changed. -/
namespace Rr
open PySem PySem.Spec PyProof.Rows L2
theorem lc_run {fs : SetD} {is vs : List Nat} {te : WE} {ρ : Env} {τ υ : Type} (ed : τ → D) (g : υ → D) (P : υ → Prop) : ∀ (xs : List τ) (K : List D → Prop), (∀ x ∈ xs, ∀ K' : D → Prop, (∀ u, P u → K' (g u)) → ((fs (ed x)).bind fun ys => te (setA (wipeE ρ vs) is ys)).run K') → (∀ us : List υ, us.length = xs.length → (∀ u ∈ us, P u) → K (us.map g)) →
    (lcN fs is vs wYes te ρ (xs.map ed)).run K
  | [], K, _, k => k [] rfl (fun u h => (List.not_mem_nil h).elim)
  | x :: xs, K, h, k => by
    rw [List.map_cons]
    show ((fs (ed x)).bind fun ys => (te (setA (wipeE ρ vs) is ys)).bind fun y => (lcN fs is vs wYes te ρ (xs.map ed)).bind fun zs => .ret (y :: zs)).run K
    rw [← Wp.bind_bind, Wp.run_bind]
    refine h x (List.mem_cons_self ..) _ fun u hu => ?_
    rw [Wp.run_bind]
    refine lc_run ed g P xs _ (fun y hy => h y (List.mem_cons_of_mem _ hy)) fun us hl hp => ?_
    exact k (u :: us) (by simp [hl]) fun v hv => (List.mem_cons.mp hv).elim (fun e => e ▸ hu) (hp v)
noncomputable def plB : WS := wSeq (wAsg (mk [7] (wLc (wRng1 (wCons (wCall F__law_next (wCons (wVar 0) (wCons (wOp addD (wVar 2) (wC (.int 1))) wNil))) wNil)) setN [10] [10] wYes (wCall F__law_row (wCons (wVar 0) (wCons (wVar 3) (wCons (wVar 4) wNil)))))) setN [9]) (wApp 7 (mk [7] (wTup (wCons (wCall tupleD (wCons (wVar 9) wNil)) (wCons (wCall F__law_end (wCons (wVar 0) (wCons (wVar 3) (wCons (wVar 5) (wCons (wOp ixD (wVar 6) (wVar 8)) wNil))))) wNil)))))
def plE (m s n : Nat) (os : List (List Nat)) (bs : List (List Rw × En)) (o8 o9 : Option D) : Env := [some .drw, some (.int 3), some (.int 3), some (ni m), some (ni s), some (ni n), some (ouN os), some (.lst (bs.map bd1)), o8, o9, none]
/-- blocks as they are drawn -/
def BsOk (m s n : Nat) (os : List (List Nat)) (bs : List (List Rw × En)) : Prop := ∀ (j : Nat) (b : List Rw × En), bs[j]? = some b → b.1.length ≤ 3 ∧ (∀ r ∈ b.1, r.Ok m s) ∧ b.2.Ok m n ∧ ∀ o, os[j]? = some o → ∀ x ∈ o, x ∈ b.2.tg
theorem block_run {m s n : Nat} (hm : 0 < m) (hs : 0 < s) (hn : 1 ≤ n) {os : List (List Nat)} (ok : OuOk n os) {bs : List (List Rw × En)} (l : bs.length < n) (n3 : n ≤ 3) (B : BsOk m s n os bs) {o9 : Option D} {K : Out → Prop} (k : ∀ b d9, BsOk m s n os (bs ++ [b]) → K (.nx (plE m s n os (bs ++ [b]) (some (ni bs.length)) (some d9)))) :
    (plB (plE m s n os bs (some (ni bs.length)) o9)).run K := by
  have l2 : bs.length < os.length := by rw [ok.len]; exact l
  have ho := List.getElem?_eq_getElem l2
  generalize os[bs.length] = o at ho
  have om : o ∈ os := List.mem_of_getElem? ho
  have a0 : atI (os.map fun o => D.lst (o.map ni)) (bs.length : Int) = some (.lst (o.map ni)) := atI_mp (fun o : List Nat => D.lst (o.map ni)) ho
  have l3 : bs.length < 16777216 := by omega
  unfold plB plE ouN
  simp [x_var]
  refine next_run (by decide) fun c hc => ?_
  have c4 : c < 4 := by omega
  have r1 : rng1D [.int (c : Int)] = _ := x_rng1D (n := c) (by omega)
  have lr : (rangeD 0 c).length ≤ 16777216 := by simp [rangeD]; omega
  have lr2 : c ≤ 16777216 := by omega
  rw [r1, rangeD_eq]
  simp [lr2]
  refine lc_run (fun x : Nat => D.int (x : Int)) Rw.d (fun r => r.Ok m s) (List.range c) _ (fun x _ K' h => ?_) fun rs lrs hrs => ?_
  · simp [x_var]
    exact row_run hm hs h
  · simp [x_var, a0]
    rw [List.length_range] at lrs
    refine end_run hm hn (ok.two o om) fun e E T => ?_
    simp [ownL, l3]
    have := k (rs, e) (.lst (rs.map Rw.d)) (fun j b hb => by
      by_cases q : j < bs.length
      · rw [List.getElem?_append_left q] at hb
        exact B j b hb
      · rw [List.getElem?_append_right (by omega)] at hb
        have jz : j - bs.length = 0 := by
          have := (List.getElem?_eq_some_iff.mp hb).1
          simp at this
          omega
        rw [jz] at hb
        cases hb
        have je : j = bs.length := by omega
        exact ⟨by simp; omega, hrs, E, fun o' ho' x hx => by
          rw [je, ho] at ho'
          cases ho'
          exact T x hx⟩)
    simp [plE, ouN, bd1] at this
    exact this
theorem plain_run {K : D → Prop} (h : ∀ p : Pg, p.Ok → p.many ≤ 3 → (∀ b ∈ p.bs, b.1.length ≤ 3) → Reach p → K p.pl) : (F__law_plain [.drw, .int 3, .int 3]).run K := by
  have e0 : b__law_plain = wSeq (wAsg (mk [7] (wTup (wCons (wOp addD (wC (.int 1)) (wCall F__law_next (wCons (wVar 0) (wCons (wC (.int 3)) wNil)))) (wCons (wOp addD (wC (.int 2)) (wCall F__law_next (wCons (wVar 0) (wCons (wC (.int 3)) wNil)))) (wCons (wOp addD (wC (.int 1)) (wCall F__law_next (wCons (wVar 0) (wCons (wVar 1) wNil)))) wNil))))) (setT 3 (setCons 1 setN (setCons 1 setN (setCons 1 setN setNil)))) [3, 4, 5]) (wSeq (wPar2o 6 7 (mk [7] (wCall F__law_outs (wCons (wVar 0) (wCons (wVar 5) wNil)))) (wLst wNil)) (wSeq (wFor (mk [7] (wRng1 (wCons (wVar 5) wNil))) setN [8] plB) (wRet (wTup (wCons (wVar 3) (wCons (wCall tupleD (wCons (wVar 7) wNil)) (wCons (wCall F__law_next (wCons (wVar 0) (wCons (wOp addD (wCall minD (wCons (wVar 3) (wCons (wC (.int 2)) wNil))) (wC (.int 1))) wNil))) (wCons (wVar 4) wNil)))))))) := rfl
  simp [F__law_plain, e0, x_var]
  refine next_run (by decide) fun i hi => ?_
  simp
  refine next_run (by decide) fun j hj => ?_
  simp
  refine next_run (by decide) fun l hl => ?_
  obtain ⟨m, em, m1, m3⟩ : ∃ m : Nat, (1 + (i : Int)) = (m : Int) ∧ 1 ≤ m ∧ m ≤ 3 := ⟨1 + i, by omega, by omega, by omega⟩
  obtain ⟨s, es, s2, s4⟩ : ∃ s : Nat, (2 + (j : Int)) = (s : Int) ∧ 2 ≤ s ∧ s ≤ 4 := ⟨2 + j, by omega, by omega, by omega⟩
  obtain ⟨n, en, n1, n3⟩ : ∃ n : Nat, (1 + (l : Int)) = (n : Int) ∧ 1 ≤ n ∧ n ≤ 3 := ⟨1 + l, by omega, by omega, by omega⟩
  simp [x_var, em, es, en]
  refine outs_run n1 n3 fun os ok => ?_
  have r1 : rng1D [.int (n : Int)] = _ := x_rng1D (n := n) (by omega)
  simp [r1, rangeD_eq]
  refine for_run (fun xs ρ => ∃ bs o8 o9, ρ = plE m s n os bs o8 o9 ∧ xs = (List.range n).drop bs.length ∧ bs.length ≤ n ∧ BsOk m s n os bs) (fun x : Nat => D.int (x : Int)) (List.range n) _ _ ⟨[], none, none, rfl, rfl, Nat.zero_le _, fun j b hb => by simp at hb⟩ (fun ρ x xs I => ?_) fun ρ' I => ?_
  · obtain ⟨bs, o8, o9, rfl, hx, hl, B⟩ := I
    have lt : bs.length < n := by
      have := congrArg List.length hx
      simp at this
      omega
    rw [List.drop_eq_getElem_cons (by simpa using lt)] at hx
    simp at hx
    obtain ⟨rfl, hxs⟩ := hx
    have st : plE m s n os bs o8 o9 = plE m s n os bs o8 o9 := rfl
    show (plB ((plE m s n os bs o8 o9).set 8 (some (.int (bs.length : Int))))).run _
    refine block_run (by omega) (by omega) n1 ok lt n3 B (o9 := o9) fun b d9 B' => ?_
    exact ⟨_, rfl, bs ++ [b], _, _, rfl, by rw [hxs]; simp, by simp; omega, B'⟩
  · obtain ⟨bs, o8, o9, rfl, hx, hl, B⟩ := I
    have ln : bs.length = n := by
      have := congrArg List.length hx
      simp at this
      omega
    have mn : minD [.int (m : Int), .int 2] = .ret (.int ((min m 2 : Nat) : Int)) := by
      show Wp.ret (D.int (if (2 : Int) < (m : Int) then 2 else (m : Int))) = _
      congr 2
      split <;> omega
    simp [plE, x_var, mn]
    refine next_run (by omega) fun hd hh => ?_
    have G : ∀ b ∈ bs, b.1.length ≤ 3 ∧ (∀ r ∈ b.1, r.Ok m s) ∧ b.2.Ok m n := fun b hb => by
      obtain ⟨j, hj⟩ := List.getElem?_of_mem hb
      obtain ⟨g1, g2, g3, _⟩ := B j b hj
      exact ⟨g1, g2, g3⟩
    have := h ⟨m, bs, hd, s⟩ ⟨⟨m1, by show m ≤ 4; omega⟩, ⟨s2, s4⟩, ⟨by show hd ≤ 2; omega, by show hd ≤ m; omega⟩, ⟨by show 1 ≤ bs.length; omega, by show bs.length ≤ 3; omega⟩, fun b hb => by have := (G b hb).1; omega, fun b hb => (G b hb).2.1, fun b hb => by rw [ln]; exact (G b hb).2.2⟩ m3 (fun b hb => (G b hb).1) (fun b b1 b2 => by
      obtain ⟨a, o, al, ao, bo⟩ := ok.all b b1 (by rw [← ln]; exact b2)
      have la : a < bs.length := Nat.lt_trans al b2
      exact ⟨a, bs[a], al, List.getElem?_eq_getElem la, (B a _ (List.getElem?_eq_getElem la)).2.2.2 o ao b bo⟩)
    simp [Pg.pl, Pg.bd] at this
    exact this
theorem Rw.Ok.up {m m' s : Nat} {r : Rw} (h : r.Ok m s) (l : m ≤ m') : r.Ok m' s := by
  cases r with
  | put v x => exact ⟨Nat.lt_of_lt_of_le h.1 l, h.2⟩
  | mv v a => exact ⟨Nat.lt_of_lt_of_le h.1 l, Nat.lt_of_lt_of_le h.2 l⟩
  | add v a b => exact ⟨Nat.lt_of_lt_of_le h.1 l, Nat.lt_of_lt_of_le h.2.1 l, Nat.lt_of_lt_of_le h.2.2 l⟩
  | sub v a b => exact ⟨Nat.lt_of_lt_of_le h.1 l, Nat.lt_of_lt_of_le h.2.1 l, Nat.lt_of_lt_of_le h.2.2 l⟩
  | less v a b => exact ⟨Nat.lt_of_lt_of_le h.1 l, Nat.lt_of_lt_of_le h.2.1 l, Nat.lt_of_lt_of_le h.2.2 l⟩
  | take v => exact Nat.lt_of_lt_of_le h l
  | tell v => exact Nat.lt_of_lt_of_le h l
theorem En.Ok.up {m m' n : Nat} {e : En} (h : e.Ok m n) (l : m ≤ m') : e.Ok m' n := by
  cases e with
  | stop => trivial
  | go t => exact h
  | part v a b => exact ⟨Nat.lt_of_lt_of_le h.1 l, h.2⟩
theorem set_ok {p : Pg} (O : p.Ok) (m3 : p.many ≤ 3) (Rc : Reach p) {i : Nat} {b b' : List Rw × En} (hb : p.bs[i]? = some b) (l : b'.1.length ≤ 4) (R : ∀ r ∈ b'.1, r.Ok 4 p.sp) (E : b'.2.Ok 4 p.bs.length) (tg : ∀ x ∈ b.2.tg, x ∈ b'.2.tg) : Two p ⟨4, p.bs.set i b', p.hd, p.sp⟩ ∧ Reach ⟨4, p.bs.set i b', p.hd, p.sp⟩ := by
  have hd := O.hd
  have G : ∀ c ∈ p.bs.set i b', c ∈ p.bs ∨ c = b' := fun c hc => List.mem_or_eq_of_mem_set hc
  refine ⟨⟨rfl, rfl, O, ⟨⟨by show 1 ≤ 4; decide, by show 4 ≤ 4; decide⟩, O.sp, ⟨hd.1, by show p.hd ≤ 4; omega⟩, by simpa using O.nb, fun c hc => ?_, fun c hc => ?_, fun c hc => ?_⟩⟩, fun c c1 c2 => ?_⟩
  · rcases G c hc with g | g
    · exact O.ln c g
    · rw [g]; exact l
  · rcases G c hc with g | g
    · exact fun r hr => (O.rw c g r hr).up (by show p.many ≤ 4; omega)
    · rw [g]; exact R
  · show c.2.Ok 4 (p.bs.set i b').length
    rw [List.length_set]
    rcases G c hc with g | g
    · exact (O.en c g).up (by omega)
    · rw [g]; exact E
  · have c2 : c < (p.bs.set i b').length := c2
    rw [List.length_set] at c2
    obtain ⟨a, blk, al, ae, ab⟩ := Rc c c1 c2
    by_cases q : a = i
    · subst q
      rw [hb] at ae
      cases ae
      exact ⟨a, b', al, List.getElem?_set_self (List.getElem?_eq_some_iff.mp hb).1, tg c ab⟩
    · exact ⟨a, blk, al, by show (p.bs.set i b')[a]? = _; rw [List.getElem?_set_ne (Ne.symm q)]; exact ae, ab⟩
theorem other_run {p : Pg} (O : p.Ok) (m3 : p.many ≤ 3) (r3 : ∀ b ∈ p.bs, b.1.length ≤ 3) (Rc : Reach p) {K : D → Prop} (h : ∀ q, Two p q → Reach q → K q.pl) : (F__law_other [.drw, p.pl]).run K := by
  have nb := O.nb
  have mm := O.many
  have sp := O.sp
  have mx : maxD [.int (p.many : Int), .int 3] = .ret (.int 3) := by
    show Wp.ret (D.int (if (3 : Int) > (p.many : Int) then 3 else (p.many : Int))) = _
    congr 2
    split <;> omega
  simp [F__law_other, b__law_other, x_var, Pg.pl, Pg.bd]
  refine next_run (by decide) fun w hw => ?_
  refine next_run (by omega) fun i hi => ?_
  have il : i < p.bs.length := by omega
  have hb := List.getElem?_eq_getElem il
  generalize p.bs[i] = b at hb
  have bm := List.mem_of_getElem? hb
  have a0 : atI (p.bs.map bd1) (i : Int) = some (bd1 b) := atI_mp bd1 hb
  have c1 : cutD (p.bs.map bd1) none (some (i : Int)) = (p.bs.map bd1).take i := cut_to (by simp; omega)
  have c2 : cutD (p.bs.map bd1) (some ((i : Int) + 1)) none = (p.bs.map bd1).drop (i + 1) := by
    rw [← cut_from (by simp; omega)]
    rfl
  have tu : ∀ b', (p.bs.map bd1).take i ++ bd1 b' :: (p.bs.map bd1).drop (i + 1) = (p.bs.set i b').map bd1 := fun b' => by
    rw [List.set_eq_take_append_cons_drop, if_pos il]
    simp
  have lt : ((p.bs.map bd1).take i).length ≤ 3 := by simp; omega
  have lu : ((p.bs.map bd1).drop (i + 1)).length ≤ 3 := by simp; omega
  generalize (p.bs.map bd1).take i = TT at c1 tu lt
  generalize (p.bs.map bd1).drop (i + 1) = UU at c2 tu lu
  have l1 : TT.length + 1 ≤ 16777216 := by omega
  have l2 : TT.length + (UU.length + 1) ≤ 16777216 := by omega
  have l2' : TT.length + 1 + UU.length ≤ 16777216 := by omega
  have rl := r3 b bm
  have R := O.rw b bm
  have E := O.en b bm
  have fin : ∀ b' : List Rw × En, b'.1.length ≤ 4 → (∀ r ∈ b'.1, r.Ok 4 p.sp) → b'.2.Ok 4 p.bs.length → (∀ x ∈ b.2.tg, x ∈ b'.2.tg) → K (.tup [.int 4, .tup (TT ++ bd1 b' :: UU), ni p.hd, ni p.sp]) := fun b' g1 g2 g3 g4 => by
    obtain ⟨t, r⟩ := set_ok O m3 Rc hb g1 g2 g3 g4
    have := h _ t r
    rw [tu]
    exact this
  have R4 : ∀ r ∈ b.1, r.Ok 4 p.sp := fun r hr => (R r hr).up (by omega)
  have E4 : b.2.Ok 4 p.bs.length := E.up (by omega)
  have wv : w = 0 ∨ w = 1 ∨ w = 2 ∨ w = 3 := by omega
  have lr1 : b.1.length + 1 ≤ 16777216 := by omega
  have lr2 : 1 + b.1.length ≤ 16777216 := by omega
  have lr3 : b.1.length ≤ 16777215 := by omega
  rcases wv with rfl | rfl | rfl | rfl
  · simp [x_var, a0, bd1, eq_ii]
    refine row_run (m := p.many) (s := p.sp) (by omega) (by omega) fun r hr => ?_
    simp [x_var, eq_ii, lr1, lr3, mx, c1, c2, l1, l2, l2']
    have := fin (b.1 ++ [r], b.2) (by simp; omega) (fun r' hr' => by
      rcases List.mem_append.mp hr' with q | q
      · exact R4 r' q
      · rw [List.mem_singleton.mp q]; exact hr.up (by omega)) E4 (fun x hx => hx)
    simp [bd1] at this
    exact ⟨by omega, this⟩
  · have g := fin (.mv p.many p.many :: b.1, b.2) (by simp; omega) (fun r' hr' => by
      rcases List.mem_cons.mp hr' with q | q
      · rw [q]; exact ⟨by omega, by omega⟩
      · exact R4 r' q) E4 (fun x hx => hx)
    simp only [bd1, List.map_cons] at g
    simp [x_var, a0, bd1, eq_ii, lr1, lr2, lr3, mx, c1, c2, l1, l2, l2']
    exact g
  · have g := fin (b.1.drop 1, b.2) (by simp; omega) (fun r' hr' => R4 r' (List.mem_of_mem_drop hr')) E4 (fun x hx => hx)
    have ct : cutD (b.1.map Rw.d) (some 1) none = (b.1.drop 1).map Rw.d := by
      cases q : b.1 with
      | nil => rfl
      | cons r rs => exact cut1 _ _
    simp only [bd1] at g
    simp [x_var, a0, bd1, eq_ii, mx, c1, c2, ct, l1, l2, l2']
    simp at g
    exact g
  · cases q : b.2 with
    | part v x y =>
      rw [q] at E4
      have g := fin (b.1, .part v y x) (by show b.1.length ≤ 4; omega) R4 ⟨E4.1, E4.2.2, E4.2.1⟩ (fun z hz => by
        rw [q] at hz
        simp [En.tg] at hz ⊢
        exact hz.symm)
      simp only [bd1, En.d, En.wd, En.args] at g
      simp [x_var, a0, bd1, q, En.d, En.wd, En.args, eq_ii, mx, c1, c2, l1, l2, l2']
      exact g
    | stop =>
      have g := fin b (by omega) R4 E4 (fun x hx => hx)
      simp only [bd1, q, En.d, En.wd, En.args] at g
      simp [x_var, a0, bd1, q, En.d, En.wd, En.args, eq_ii, mx, c1, c2, l1, l2, l2']
      exact g
    | go t =>
      have g := fin b (by omega) R4 E4 (fun x hx => hx)
      simp only [bd1, q, En.d, En.wd, En.args] at g
      simp [x_var, a0, bd1, q, En.d, En.wd, En.args, eq_ii, mx, c1, c2, l1, l2, l2']
      exact g
end Rr
/-! registerrooms, the plain law: papers are judged rightly. -/
namespace Rr
open PySem PySem.Spec PyProof.Rows L2
@[simp] theorem x_shows {FS FT : List D → Wp D} {w : WE} {wa : WA} {ρ : Env} : wShows FS FT w wa ρ = (w ρ).bind fun d => match d with
  | .sam ds => (wa ρ).bind fun es => FS (.sam ds :: es)
  | .par h is => (wa ρ).bind fun es => FT (.par h is :: es)
  | _ => .fail := rfl
@[simp] theorem x_listA_l {ds : List D} : listA [.lst ds] = .ret (.lst ds) := rfl
@[simp] theorem x_listS {ds : List D} : listS [.sam ds] = .ret (.lst ds) := rfl
@[simp] theorem x_isD_bb (a b : Bool) : isD (.bl a) (.bl b) = .ret (.bl (decide (a = b))) := rfl
section
variable {p q : Pg} {N : Nat}
/-- both judge a paper of what parts alike -/
theorem verdict (T : Two p q) (F : (gr p q).Fin N) (hN : N ≤ 300) {h is : List Int} (W : Below p.sp is) (l : is.length ≤ 300) :
    ∃ b, F_Parted_shows [.par (tns h) (is.map .int), p.prg, q.prg] = .ret (.bl b) ∧ F__law_is_parted [lbo p q, tns h, .lst (is.map .int)] = .ret (.bl b) ∧ ((∀ x ∈ kys ((gr p q).its N), (gr p q).one x = true) → b = false) ∧
      (h ∈ p.hs → (gr p q).run 100000 ((gr p q).st h) is [] = some b) := by
  obtain ⟨p1, p2⟩ := parted_p T (h := h) W
  obtain ⟨l1, l2⟩ := lparted_p T (h := h) W
  by_cases m : h ∈ p.hs
  · have kl : (kys ((gr p q).its N)).length = N := by simp [kys, F.1]
    obtain ⟨b, hb, hf⟩ := run_ends (g := gr p q) (S := kys ((gr p q).its N)) (fun x hx o => fin_closed F hx o) 100000 ((gr p q).st h) is [] 300 (its_start (gr p q) N m) W l (by simp) (fun x hx => (List.not_mem_nil hx).elim) (by rw [kl]; simp; omega)
    exact ⟨b, p2 m 100000 b hb (by decide), l2 m 100000 b hb (by decide), hf, fun _ => hb⟩
  · exact ⟨false, p1 m, l1 m, fun _ => rfl, fun k => absurd k m⟩
def csd (c : List Int × List Int) : D := .tup [tns c.1, .lst (c.2.map .int)]
def ppE (p q : Pg) (L : List D) (found : D) (o5 o6 o7 o8 o9 o10 o11 o12 : Option D) : Env := [some .drw, some (lbo p q), some (.tup [p.prg, q.prg]), some (.lst L), some found, o5, o6, o7, o8, o9, o10, o11, o12]
noncomputable def ppT : WS := (wIfS (wB (wOp neD (wShows F_Same_shows F_Parted_shows (wCall mkParted (wCons (wVar 10) (wCons (wVar 11) wNil))) (wCons (wOp ixD (wVar 2) (wC (.int 0))) (wCons (wOp ixD (wVar 2) (wC (.int 1))) wNil))) (wCall F__law_is_parted (wCons (wVar 1) (wCons (wVar 10) (wCons (wVar 11) wNil)))))) (wRet (wC (.bl false))) wNext)
noncomputable def ppA : WS := (wSeq (wPar2 9 8 (wCons (mk [] (wMap fHandedT (wVar 4))) (wCons (mk [] (wCall listA (wCons (wMap fInputs (wVar 4)) wNil))) wNil))) (wSeq (wAsg (mk [] (wLst (wCons (wTup (wCons (wVar 9) (wCons (wVar 8) wNil))) (wCons (wTup (wCons (wVar 9) (wCons (wSl (wVar 8) wNo (wPt (wNeg (wC (.int 1))))) wNil))) (wCons (wTup (wCons (wVar 9) (wCons (wOp addD (wVar 8) (wLst (wCons (wC (.int 0)) wNil))) wNil))) (wCons (wTup (wCons (wVar 9) (wCons (wRev (wVar 8)) wNil))) (wCons (wTup (wCons (wOp addD (wVar 9) (wTup (wCons (wC (.int 0)) wNil))) (wCons (wVar 8) wNil))) wNil))))))) setN [6]) (wSeq (wFor (mk [] (wWalk (wOp addD (wVar 6) (wLst (wCons (wTup (wCons (wCall F__law_pick (wCons (wVar 0) (wCons (wCall F__law_hands (wCons (wOp ixD (wVar 1) (wC (.int 0))) wNil)) wNil))) (wCons (wVar 8) wNil))) wNil))))) (setT 2 (setCons 1 setN (setCons 1 setN setNil))) [10, 11] ppT) (wRet (wCall F__law_is_parted (wCons (wVar 1) (wCons (wVar 9) (wCons (wVar 8) wNil))))))))
noncomputable def ppU : WS := (wIfS (wB (wOp neD (wShows F_Same_shows F_Parted_shows (wCall mkSame (wCons (wVar 7) wNil)) (wCons (wOp ixD (wVar 2) (wC (.int 0))) (wCons (wOp ixD (wVar 2) (wC (.int 1))) wNil))) (wCall F__law_is_same (wCons (wVar 1) (wCons (wVar 7) wNil))))) (wRet (wC (.bl false))) wNext)
noncomputable def ppS : WS := (wSeq (wAsg (mk [] (wCall F__law_next (wCons (wVar 0) (wCons (wCall lenA (wCons (wVar 3) wNil)) wNil)))) setN [5]) (wSeq (wAsg (mk [] (wLst (wCons (wOp addD (wRev (wVar 3)) (wSl (wVar 3) wNo (wPt (wC (.int 1))))) (wCons (wOp addD (wSl (wVar 3) wNo (wPt (wVar 5))) (wSl (wVar 3) (wPt (wOp addD (wVar 5) (wC (.int 1)))) wNo)) (wCons (wLst wNil) (wCons (wOp addD (wVar 3) (wLst (wCons (wTup (wCons (wC .non) (wCons (wOp ixD (wOp ixD (wVar 3) (wC (.int 0))) (wC (.int 1))) wNil))) wNil))) wNil)))))) setN [6]) (wSeq (wFor (mk [] (wWalk (wOp addD (wVar 6) (wLst (wCons (wCall listS (wCons (wVar 4) wNil)) (wCons (wOp addD (wVar 3) (wLst (wCons (wTup (wCons (wCall F__law_first (wCons (wOp ixD (wVar 1) (wC (.int 0))) (wCons (wOp ixD (wCall F__law_hands (wCons (wOp ixD (wVar 1) (wC (.int 0))) wNil)) (wC (.int 0))) wNil))) (wCons (wOp ixD (wOp ixD (wVar 3) (wC (.int 0))) (wC (.int 1))) wNil))) wNil))) wNil)))))) setN [7] ppU) (wSeq (wAsg (mk [] (wLc (wRng1 (wCons (wCall F__law_next (wCons (wVar 0) (wCons (wC (.int 6)) wNil))) wNil)) setN [12] [12] wYes (wCall F__law_next (wCons (wVar 0) (wCons (wOp ixD (wOp ixD (wVar 1) (wC (.int 0))) (wC (.int 3))) wNil))))) setN [8]) (wRet (wOp isD (wShows F_Same_shows F_Parted_shows (wCall mkParted (wCons (wCall F__law_pick (wCons (wVar 0) (wCons (wCall F__law_hands (wCons (wOp ixD (wVar 1) (wC (.int 0))) wNil)) wNil))) (wCons (wVar 8) wNil))) (wCons (wOp ixD (wVar 2) (wC (.int 0))) (wCons (wOp ixD (wVar 2) (wC (.int 1))) wNil))) (wC (.bl false))))))))
theorem pp_eq : b__law_papers_right = wSeq (wIfS (wB (wMap isParted (wVar 4))) ppA wNext) ppS := rfl
theorem cut_neg1 (row : List Int) : cutD (row.map D.int) none (some (-1)) = (row.take (row.length - 1)).map D.int := by
  unfold cutD
  have e : HT.sIx (row.map D.int).length (row.map D.int).length (some (-1)) = row.length - 1 := by
    show (if (-1 : Int) < 0 then (-1 + ((row.map D.int).length : Int)).toNat else min (-1 : Int).toNat (row.map D.int).length) = _
    rw [if_pos (by decide), List.length_map]
    omega
  rw [e, HT.sIx_none]
  simp
theorem parted_run (T : Two p q) (F : (gr p q).Fin N) (hN : N ≤ 300) {L : List D} {h row : List Int} (W : Below p.sp row) (l : row.length ≤ 299) (m : h ∈ p.hs) (y : F__law_is_parted [lbo p q, tns h, .lst (row.map .int)] = .ret (.bl true)) {K : D → Prop} (k : K (.bl true)) :
    (F__law_papers_right [.drw, lbo p q, .tup [p.prg, q.prg], .lst L, .par (tns h) (row.map .int)]).run K := by
  have sp := T.l.sp.1
  have hh := lhands_p T.l
  have h0 : p.hs ≠ [] := by
    have : 0 < p.hs.length := by
      unfold Pg.hs
      rw [len_tups]
      exact Nat.pow_pos (by omega)
    exact List.length_pos_iff.mp this
  have l1 : row.length + 1 ≤ 16777216 := by omega
  have e1 : addD (.lst (row.map .int)) (.lst [.int 0]) = .ret (.lst ((row ++ [0]).map .int)) := by
    simp
    exact Wp.chk_of (by omega) _
  have lh := hs_mem T.l m
  have e2 : addD (tns h) (.tup [.int 0]) = .ret (tns (h ++ [0])) := by
    simp [tns]
    exact Wp.chk_of (by omega) _
  have c1 := cut_neg1 row
  have rv : (row.map D.int).reverse = row.reverse.map D.int := by rw [List.map_reverse]
  have lr : row.length ≤ 300 := by omega
  have V : ∀ c ∈ [(h, row), (h, row.take (row.length - 1)), (h, row ++ [0]), (h, row.reverse), (h ++ [0], row)], Below p.sp c.2 ∧ c.2.length ≤ 300 := by
    intro c hc
    simp at hc
    rcases hc with rfl | rfl | rfl | rfl | rfl
    · exact ⟨W, lr⟩
    · exact ⟨fun x hx => W x (List.mem_of_mem_take hx), by simp; omega⟩
    · refine ⟨fun x hx => ?_, by simp; omega⟩
      rcases List.mem_append.mp hx with hx | hx
      · exact W x hx
      · rw [List.mem_singleton.mp hx]
        omega
    · exact ⟨fun x hx => W x (List.mem_reverse.mp hx), by simpa using lr⟩
    · exact ⟨W, lr⟩
  have loop : ∀ (cs : List (List Int × List Int)) (o6 o8 o9 : Option D), (∀ c ∈ cs, Below p.sp c.2 ∧ c.2.length ≤ 300) → ∃ o10 o11, forN (setT 2 (setCons 1 setN (setCons 1 setN setNil))) [10, 11] ppT (cs.map csd) (ppE p q L (.par (tns h) (row.map .int)) none o6 none o8 o9 none none none) = .ret (.nx (ppE p q L (.par (tns h) (row.map .int)) none o6 none o8 o9 o10 o11 none)) := fun cs o6 o8 o9 hcs => by
    have fa := for_all (fs := (setT 2 (setCons 1 setN (setCons 1 setN setNil)))) (is := [10, 11]) (f := ppT) (fun ρ => ∃ o10 o11, ρ = ppE p q L (.par (tns h) (row.map .int)) none o6 none o8 o9 o10 o11 none) csd (fun _ => true) (.bl false) cs (ppE p q L (.par (tns h) (row.map .int)) none o6 none o8 o9 none none none) ⟨none, none, rfl⟩ (by
      rintro ρ c hc ⟨o10, o11, rfl⟩
      rw [if_pos rfl]
      obtain ⟨g1, g2⟩ := hcs c hc
      obtain ⟨b, v1, v2, _, _⟩ := verdict T F hN (h := c.1) g1 g2
      exact ⟨_, ⟨some (tns c.1), some (.lst (c.2.map .int)), rfl⟩, by simp [csd, ppE, ppT, x_var, v1, v2]⟩)
    rw [if_pos (by simp)] at fa
    obtain ⟨_, ⟨o10, o11, rfl⟩, fa⟩ := fa
    exact ⟨o10, o11, fa⟩
  simp only [F__law_papers_right, pp_eq]
  have hp : isParted (.par (tns h) (row.map .int)) = .ret (.bl true) := rfl
  have f1 : fHandedT (.par (tns h) (row.map .int)) = .ret (tns h) := rfl
  have f2 : fInputs (.par (tns h) (row.map .int)) = .ret (.lst (row.map .int)) := rfl
  generalize ht1 : (row.take (row.length - 1)).map D.int = t1 at c1
  generalize ht2 : (row ++ [0]).map D.int = t2 at e1
  generalize ht3 : row.reverse.map D.int = t3 at rv
  simp [x_var, wMap, hp, ppA, f1, f2, c1, e1, e2, rv, lbo0, hh]
  subst ht1 ht2 ht3
  refine pick_run (by simpa using h0) fun d hd => ?_
  obtain ⟨h', hm', rfl⟩ := List.mem_map.mp hd
  obtain ⟨o10, o11, lo⟩ := loop [(h, row), (h, row.take (row.length - 1)), (h, row ++ [0]), (h, row.reverse), (h ++ [0], row), (h', row)] (some (.lst [.tup [tns h, .lst (row.map .int)], .tup [tns h, .lst ((row.take (row.length - 1)).map .int)], .tup [tns h, .lst ((row ++ [0]).map .int)], .tup [tns h, .lst (row.reverse.map .int)], .tup [tns (h ++ [0]), .lst (row.map .int)]])) (some (.lst (row.map .int))) (some (tns h)) (fun c hc => by
    have : c ∈ [(h, row), (h, row.take (row.length - 1)), (h, row ++ [0]), (h, row.reverse), (h ++ [0], row)] ∨ c = (h', row) := by
      simp only [List.mem_cons, List.not_mem_nil, or_false] at hc ⊢
      rcases hc with g | g | g | g | g | g
      · exact .inl (.inl g)
      · exact .inl (.inr (.inl g))
      · exact .inl (.inr (.inr (.inl g)))
      · exact .inl (.inr (.inr (.inr (.inl g))))
      · exact .inl (.inr (.inr (.inr (.inr g))))
      · exact .inr g
    rcases this with g | g
    · exact V c g
    · rw [g]; exact ⟨W, lr⟩)
  erw [lo]
  simp [ppE, x_var, y]
  exact k
end
end Rr
/-! registerrooms, the plain law: papers of what tells alike are judged rightly. -/
namespace Rr
open PySem PySem.Spec PyProof.Rows L2
section
variable {p q : Pg} {N : Nat}
theorem same_run (T : Two p q) (F : (gr p q).Fin N) (hN : N ≤ 300) (al : ∀ x ∈ kys ((gr p q).its N), (gr p q).one x = true) {K : D → Prop} (k : K (.bl true)) :
    (F__law_papers_right [.drw, lbo p q, .tup [p.prg, q.prg], .lst ((kys ((gr p q).its N)).map prd), .sam ((kys ((gr p q).its N)).map prd)]).run K := by
  have sp := T.l.sp
  have hh := lhands_p T.l
  obtain ⟨h0, hr, hs⟩ : ∃ h0 hr, p.hs = h0 :: hr := by
    have : 0 < p.hs.length := by
      unfold Pg.hs
      rw [len_tups]
      exact Nat.pow_pos (by omega)
    cases e : p.hs with
    | nil => rw [e] at this; simp at this
    | cons a r => exact ⟨a, r, rfl⟩
  have m0 : h0 ∈ p.hs := by rw [hs]; exact List.mem_cons_self ..
  have hm0 : atI (p.hs.map tns) 0 = some (tns h0) := by rw [hs]; simp
  have fp := lfirst_p T.l (hs_mem T.l m0)
  have pok : ∀ x ∈ kys ((gr p q).its N), OkO p x.1 ∧ OkO q x.2 := fun x hx => ⟨(its_ok T N x hx).1.ok, (its_ok T N x hx).2.ok⟩
  have kl : (kys ((gr p q).its N)).length = N := by simp [kys, F.1]
  have st := its_start (gr p q) N m0
  have vd := fun (h is : List Int) (W : Below p.sp is) (l : is.length ≤ 300) => verdict T F hN (h := h) W l
  generalize kys ((gr p q).its N) = L at pok kl st al vd ⊢
  obtain ⟨x0, hx0⟩ : ∃ x0, L[0]? = some x0 := by
    cases L with
    | nil => cases st
    | cons a r => exact ⟨a, rfl⟩
  have xm : x0 ∈ L := List.mem_of_getElem? hx0
  have a0 : atI (L.map prd) 0 = some (prd x0) := atI_mp (i := 0) prd hx0
  have c1 : cutD (L.map prd) none (some 1) = (L.map prd).take 1 := cut_to (k := 1) (by
    have := List.length_pos_of_mem st
    simp
    omega)
  have rvm : (L.map prd).reverse = L.reverse.map prd := by rw [List.map_reverse]
  have loop : ∀ (o5 o6 : Option D) (ds : List D), (∀ d ∈ ds, ∃ xs : List Pr, d = .lst (xs.map prd) ∧ xs.length ≤ 1000 ∧ ∀ x ∈ xs, OkO p x.1 ∧ OkO q x.2) → ∃ o7, forN setN [7] ppU ds (ppE p q (L.map prd) (.sam (L.map prd)) o5 o6 none none none none none none) = .ret (.nx (ppE p q (L.map prd) (.sam (L.map prd)) o5 o6 o7 none none none none none)) := fun o5 o6 ds hds => by
    have fa := for_all (fs := setN) (is := [7]) (f := ppU) (fun ρ => ∃ o7, ρ = ppE p q (L.map prd) (.sam (L.map prd)) o5 o6 o7 none none none none none) (fun d : D => d) (fun _ => true) (.bl false) ds (ppE p q (L.map prd) (.sam (L.map prd)) o5 o6 none none none none none none) ⟨none, rfl⟩ (by
      rintro ρ d hd ⟨o7, rfl⟩
      rw [if_pos rfl]
      obtain ⟨xs, rfl, g1, g2⟩ := hds d hd
      have v1 := same_p T g2 g1
      have v2 := lsame_p T g2 g1
      exact ⟨_, ⟨some (.lst (xs.map prd)), rfl⟩, by simp [ppE, ppU, x_var, v1, v2]⟩)
    rw [if_pos (by simp), List.map_id'] at fa
    obtain ⟨_, ⟨o7, rfl⟩, fa⟩ := fa
    exact ⟨o7, fa⟩
  have hp : isParted (.sam (L.map prd)) = .ret (.bl false) := rfl
  have ll : (L.map prd).length = N := by simp [kl]
  have lpos : 0 < N := by rw [← kl]; exact List.length_pos_of_mem st
  generalize hLD : L.map prd = LD at a0 c1 rvm loop hp ll ⊢
  have t1 : LD.length + (LD.take 1).length ≤ 16777216 := by simp; omega
  have t2 : LD.length + 1 ≤ 16777216 := by omega
  generalize hT1 : LD.take 1 = T1 at c1 t1
  simp only [F__law_papers_right, pp_eq]
  simp [x_var, wMap, hp, ppS]
  refine next_run (by omega) fun a ha => ?_
  have c2 : cutD LD none (some (a : Int)) = LD.take a := cut_to (by omega)
  have c3 : cutD LD (some ((a : Int) + 1)) none = LD.drop (a + 1) := by
    rw [← cut_from (by omega)]
    rfl
  have t3 : (LD.take a).length + (LD.drop (a + 1)).length ≤ 16777216 := by simp; omega
  generalize hT2 : LD.take a = T2 at c2 t3
  generalize hT3 : LD.drop (a + 1) = T3 at c3 t3
  have t2' : LD.length ≤ 16777215 := by omega
  simp [x_var, c1, c2, c3, t1, t2, t2', t3, a0, ix_pr1, lbo0, hh, hm0, fp]
  have mem : ∀ d ∈ [D.lst (LD.reverse ++ T1), D.lst (T2 ++ T3), D.lst [], D.lst (LD ++ [D.tup [D.non, so x0.2]]), D.lst LD, D.lst (LD ++ [D.tup [(p.fst h0).d, so x0.2]])], ∃ xs : List Pr, d = .lst (xs.map prd) ∧ xs.length ≤ 1000 ∧ ∀ x ∈ xs, OkO p x.1 ∧ OkO q x.2 := by
    subst hLD hT1 hT2 hT3
    intro d hd
    simp only [List.mem_cons, List.not_mem_nil, or_false] at hd
    have x0o := pok x0 xm
    rcases hd with rfl | rfl | rfl | rfl | rfl | rfl
    · refine ⟨L.reverse ++ L.take 1, by simp, by simp; omega, fun x hx => ?_⟩
      rcases List.mem_append.mp hx with hx | hx
      · exact pok x (List.mem_reverse.mp hx)
      · exact pok x (List.mem_of_mem_take hx)
    · refine ⟨L.take a ++ L.drop (a + 1), by simp, by simp; omega, fun x hx => ?_⟩
      rcases List.mem_append.mp hx with hx | hx
      · exact pok x (List.mem_of_mem_take hx)
      · exact pok x (List.mem_of_mem_drop hx)
    · exact ⟨[], rfl, by simp, fun x hx => (List.not_mem_nil hx).elim⟩
    · refine ⟨L ++ [(none, x0.2)], by simp [prd, so], by simp; omega, fun x hx => ?_⟩
      rcases List.mem_append.mp hx with hx | hx
      · exact pok x hx
      · rw [List.mem_singleton.mp hx]
        exact ⟨fun s e => (nomatch e), x0o.2⟩
    · exact ⟨L, rfl, by omega, pok⟩
    · refine ⟨L ++ [(some (p.fst h0), x0.2)], by simp [prd, so], by simp; omega, fun x hx => ?_⟩
      rcases List.mem_append.mp hx with hx | hx
      · exact pok x hx
      · rw [List.mem_singleton.mp hx]
        exact ⟨fun s e => (Option.some.inj e) ▸ fst_ok T.l m0, x0o.2⟩
  obtain ⟨o7, lo⟩ := loop (some (ni a)) (some (.lst [.lst (LD.reverse ++ T1), .lst (T2 ++ T3), .lst [], .lst (LD ++ [.tup [.non, so x0.2]])])) _ mem
  erw [lo]
  have i3 : ixD p.pl (.int 3) = .ret (ni p.sp) := by simp [Pg.pl]
  simp [ppE, x_var, lbo0, hh]
  refine next_run (by decide) fun c hc => ?_
  have r1 : rng1D [.int (c : Int)] = _ := x_rng1D (n := c) (by omega)
  have lr2 : c ≤ 16777216 := by omega
  rw [r1, rangeD_eq]
  simp [lr2]
  refine lc_run (fun x : Nat => D.int (x : Int)) ni (fun u => (u : Int) < (p.sp : Int)) (List.range c) _ (fun x _ K' h => ?_) fun us lus hus => ?_
  · simp [x_var, lbo0, i3]
    exact next_run (by omega) h
  · rw [List.length_range] at lus
    refine pick_run (by rw [hs]; simp) fun d hd => ?_
    obtain ⟨h', hm', rfl⟩ := List.mem_map.mp hd
    obtain ⟨b, v1, _, v3, _⟩ := vd h' (us.map fun (u : Nat) => (u : Int)) (fun x hx => by
      obtain ⟨u, hu, rfl⟩ := List.mem_map.mp hx
      exact ⟨by omega, hus u hu⟩) (by simp; omega)
    rw [v3 al, show (us.map fun (u : Nat) => (u : Int)).map D.int = us.map ni by simp [Function.comp_def]] at v1
    simp [v1]
    exact k
end
end Rr
/-! registerrooms, the plain law: the law holds. -/
namespace Rr
open PySem PySem.Spec PyProof.Rows L2
@[simp] theorem x_nisD_bb (a b : Bool) : nisD (.bl a) (.bl b) = .ret (.bl (!decide (a = b))) := rfl
section
variable {p q : Pg} {N : Nat}
theorem sameB_fin (F : (gr p q).Fin N) (T : Two p q) (al : ∀ x ∈ kys ((gr p q).its N), (gr p q).one x = true) : sameB p q (kys ((gr p q).its N)) = true := by
  unfold sameB
  rw [Bool.and_eq_true, List.all_eq_true, List.all_eq_true]
  refine ⟨fun h m => decide_eq_true (ddp_mem.mpr (its_start (gr p q) N m)), fun x hx => ?_⟩
  have hx := ddp_mem.mp hx
  have X := its_ok T N x hx
  unfold okp
  simp only [Bool.and_eq_true, List.all_eq_true, decide_eq_true_eq]
  exact ⟨⟨⟨(so_iff X.1.ok).mpr X.1, (so_iff X.2.ok).mpr X.2⟩, al x hx⟩, fun l hl => ddp_mem.mpr (fin_closed F hx (al x hx) l hl)⟩
noncomputable def lwB : WS := (wSeq (wAsg (mk [] (wCall F__law_plain (wCons (wVar 1) (wCons (wC (.int 3)) (wCons (wC (.int 3)) wNil))))) setN [3]) (wSeq (wAsg (mk [] (wTup (wCons (wVar 3) (wCons (wCall F__law_other (wCons (wVar 1) (wCons (wVar 3) wNil))) wNil)))) setN [4]) (wSeq (wPar2 5 6 (wCons (mk [] (wTup (wCons (wCall F__law_made (wCons (wOp ixD (wVar 4) (wC (.int 0))) wNil)) (wCons (wCall F__law_made (wCons (wOp ixD (wVar 4) (wC (.int 1))) wNil)) wNil)))) (wCons (mk [] (wCall F__law_pairs (wCons (wVar 4) (wCons (wC (.int 300)) wNil)))) wNil))) (wIfS (wB (wOp nisD (wVar 6) (wC .non))) (wSeq (wPar2 7 8 (wCons (mk [] (wCall F_judge_both (wCons (wOp ixD (wVar 5) (wC (.int 0))) (wCons (wOp ixD (wVar 5) (wC (.int 1))) wNil)))) (wCons (mk [] (wCall allD (wCons (wLc (wWalk (wVar 6)) setN [9] [9] wYes (wCall F__law_is_one (wCons (wVar 4) (wCons (wVar 9) wNil)))) wNil))) wNil))) (wSeq (wIfS (wOr (wB (wOp neD (wCall F_tell_alike (wCons (wOp ixD (wVar 5) (wC (.int 0))) (wCons (wOp ixD (wVar 5) (wC (.int 1))) wNil))) (wVar 8))) (wB (wOp neD (wMap isSame (wVar 7)) (wVar 8)))) (wRet (wC (.bl false))) wNext) (wIfS (wOr (wB (wOp nisD (wShows F_Same_shows F_Parted_shows (wVar 7) (wCons (wOp ixD (wVar 5) (wC (.int 0))) (wCons (wOp ixD (wVar 5) (wC (.int 1))) wNil))) (wC (.bl true)))) (wNot (wB (wCall F__law_papers_right (wCons (wVar 1) (wCons (wVar 4) (wCons (wVar 5) (wCons (wVar 6) (wCons (wVar 7) wNil))))))))) (wRet (wC (.bl false))) wNext))) wNext))))
theorem law_eq : b_law = wSeq (wFor (mk [] (wRng1 (wCons (wC (.int 3)) wNil))) setN [2] lwB) (wRet (wC (.bl true))) := rfl
def lwE (o2 o3 o4 o5 o6 o7 o8 o9 : Option D) : Env := [none, some .drw, o2, o3, o4, o5, o6, o7, o8, o9]
theorem lw_body {o2 o3 o4 o5 o6 o7 o8 o9 : Option D} : (lwB (lwE o2 o3 o4 o5 o6 o7 o8 o9)).run fun o => ∃ ρ', o = .nx ρ' ∧ ∃ o2 o3 o4 o5 o6 o7 o8 o9, ρ' = lwE o2 o3 o4 o5 o6 o7 o8 o9 := by
  unfold lwB lwE
  simp [x_var]
  refine plain_run fun p O m3 r3 Rc => ?_
  refine other_run O m3 r3 Rc fun q T Rq => ?_
  refine made_run O Rc ?_
  refine made_run T.r Rq ?_
  rcases lpairs_p T with h | ⟨N, F, hN, h⟩
  · unfold lbo at h
    simp [x_var, h, isN]
  · unfold lbo at h
    have nn : isN (.lst ((kys ((gr p q).its N)).map prd)) = false := rfl
    obtain ⟨j1, j2⟩ := judge_p T F hN
    have kl : (kys ((gr p q).its N)).length = N := by simp [kys, F.1]
    have lc := lc_map (fs := setN) (is := [9]) (vs := [9]) (te := wCall F__law_is_one (wCons (wVar 4) (wCons (wVar 9) wNil))) (ρ := [none, some .drw, o2, some p.pl, some (lbo p q), some (.tup [p.prg, q.prg]), some (.lst ((kys ((gr p q).its N)).map prd)), o7, o8, o9]) prd (fun x => [prd x]) (fun x => D.bl ((gr p q).one x)) (kys ((gr p q).its N)) (fun x hx => ⟨rfl, by
      have X := its_ok T N x hx
      have := lone_p T X.1.ok X.2.ok
      simp [x_var, this]⟩)
    have gd := all_bl (kys ((gr p q).its N)) (fun x => (gr p q).one x)
    have ge : ((kys ((gr p q).its N)).all fun x => (gr p q).one x) = ((gr p q).its N).all fun e => (gr p q).one e.1 := by simp [kys, List.all_map, Function.comp_def]
    rw [ge] at gd
    have l2 : (kys ((gr p q).its N)).length ≤ 16777216 := by omega
    cases al : ((gr p q).its N).all fun e => (gr p q).one e.1 with
    | true =>
      rw [al] at gd
      have j := j1 al
      have tl := tell_p j
      have a1 : ∀ x ∈ kys ((gr p q).its N), (gr p q).one x = true := fun x hx => by
        rw [← ge] at al
        exact List.all_eq_true.mp al x hx
      have sh := same_p T (xs := kys ((gr p q).its N)) (fun x hx => ⟨(its_ok T N x hx).1.ok, (its_ok T N x hx).2.ok⟩) (by omega)
      rw [sameB_fin F T a1] at sh
      have pr := same_run T F hN a1 (K := fun d => d = .bl true) rfl
      unfold lbo at lc pr
      have l3 : ((kys ((gr p q).its N)).map prd).length ≤ 16777216 := by rw [List.length_map, kl]; omega
      generalize (kys ((gr p q).its N)).map prd = LD at h nn j tl sh pr lc l3
      generalize (kys ((gr p q).its N)).map (fun x => D.bl ((gr p q).one x)) = GD at lc gd
      have sm : isSame (.sam LD) = .ret (.bl true) := rfl
      rw [sm] at tl
      simp [x_var, h, nn, j, l3, lc, gd, tl, wMap, sm, sh]
      refine Wp.mono _ (fun d hd => ?_) pr
      subst hd
      simp
    | false =>
      rw [al] at gd
      obtain ⟨e, em, eo, j⟩ := j2 al
      have tl := tell_p j
      obtain ⟨i, hi⟩ := List.getElem?_of_mem em
      have fn := its_fnd (gr p q) N
      obtain ⟨m, ps, P, pn, pm⟩ := fn.1 e em
      have le := fn.2 i e hi
      have li := (List.getElem?_eq_some_iff.mp hi).1
      have lN := F.1
      have W := pth_below P
      obtain ⟨b, v1, v2, _, v3⟩ := verdict T F hN (h := e.2.1) W (by omega)
      have rt := run_true P eo
      have b1 : b = true := by
        have u1 := run_up (Nat.le_max_left 100000 (1 + ps.length)) (v3 m)
        have u2 := run_up (Nat.le_max_right 100000 (1 + ps.length)) rt
        rw [u1] at u2
        exact Option.some.inj u2
      subst b1
      have pr := parted_run T F hN (L := (kys ((gr p q).its N)).map prd) W (by omega) m v2 (K := fun d => d = .bl true) rfl
      unfold lbo at lc pr
      have l3 : ((kys ((gr p q).its N)).map prd).length ≤ 16777216 := by rw [List.length_map, kl]; omega
      generalize (kys ((gr p q).its N)).map prd = LD at h nn pr lc l3
      generalize (kys ((gr p q).its N)).map (fun x => D.bl ((gr p q).one x)) = GD at lc gd
      have sm : isSame (.par (tns e.2.1) (e.2.2.map .int)) = .ret (.bl false) := rfl
      rw [sm] at tl
      simp [x_var, h, nn, j, l3, lc, gd, tl, wMap, sm, v1]
      refine Wp.mono _ (fun d hd => ?_) pr
      subst hd
      simp
end
theorem law_ok : LawOk := by
  have r1 : rng1D [.int 3] = .ret (rangeD 0 3) := x_rng1D (n := 3) (by decide)
  unfold LawOk
  rw [law_eq]
  simp [x_var, r1, rangeD_eq]
  refine for_run (fun _ ρ => ∃ o2 o3 o4 o5 o6 o7 o8 o9, ρ = lwE o2 o3 o4 o5 o6 o7 o8 o9) (fun x : Nat => D.int (x : Int)) (List.range 3) _ _ ⟨_, _, _, _, _, _, _, _, rfl⟩ (fun ρ x xs I => ?_) fun ρ' I => ?_
  · obtain ⟨o2, o3, o4, o5, o6, o7, o8, o9, rfl⟩ := I
    exact lw_body (o2 := some (.int (x : Int)))
  · rfl
end Rr
set_option maxHeartbeats 0
open PySem PySem.W PySem.Calls PyProof.Rows
theorem Rr.holds_of (L : Rr.LawOk) : PySem.Challenge.rw_registerrooms_k06_whole_alike.Holds := by
  w_on; o_law
  refine HandSHeadRun.head_any (r := OpenLaw.row PySem.Challenge.rw_registerrooms_k06_whole_alike) (q := view (OpenLaw.row PySem.Challenge.rw_registerrooms_k06_whole_alike).prog [76]) (H := Rr.hookR) (ob := Rr.obT) (M := 6000) (loose := Rr.lns) (d := HandSHeadRun.topDef (OpenLaw.row PySem.Challenge.rw_registerrooms_k06_whole_alike).prog 76) (kwd := []) Rr.obT_eq
    (by kernel_rfl) (fun s => by kernel_rfl) Rr.runA (by kernel_rfl) (by kernel_rfl) (by kernel_rfl) (by rfl) (by first | assumption | decide +kernel) (by decide +kernel) ⟨rfl, rfl, rfl, rfl, rfl, by decide +kernel⟩ ?hw ?hc
  case hw => w_witness2
  case hc =>
    refine L2.walk_ofE (l := PySem.Challenge.rw_registerrooms_k06_whole_alike) (n := 63) (k := 12) (x := "_law_script") (CX := C8.CX0) rfl (by decide) (by kernel_rfl) ⟨rfl, by decide, by decide⟩ ?F (fun _ _ _ _ z => z)
    intro w mg fa h Y G hmg0
    obtain ⟨K, KX, c⟩ := Y
    have hmg : mg ("law" : PySem.Str) = some (.ref fa) := by
      have e : (HandSHeadRun.topDef (OpenLaw.row PySem.Challenge.rw_registerrooms_k06_whole_alike).prog 76).name = ("law" : PySem.Str) := by kernel_rfl
      rw [← e]
      exact hmg0
    obtain ⟨fd, F⟩ := c.1.d.def_ 53 (d := Rr.dd_law) rfl
    have e := hmg.symm.trans (He.glo_ok KX G (c.1.d.fact 53 (f := .glo "law") rfl))
    cases e
    have b := L2.FunD.bindsA (ps := ["_law_script"]) F fun _ _ _ _ _ _ us hl => match us, hl with | [_], _ => rfl
    exact ⟨K, fd, Rr.spLaw K, KX, fun s v => b s [v] rfl, fun H a ns hl _ hS => ⟨a, ns, rfl, hl, hS, fun _ => rfl⟩, fun base _ _ => Rr.ok_law L (Rr.txt_of KX G c) F⟩
theorem PySem.Challenge.cw_registerrooms_k06_whole_alike_holds : PySem.Challenge.rw_registerrooms_k06_whole_alike.Holds :=
  Rr.holds_of Rr.law_ok
