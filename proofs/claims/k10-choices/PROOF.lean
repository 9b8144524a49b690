import PyProof.Rows.All
import Wide.All
import OpenK.AllK
import Wide.FinOn
import HandS.ForMost
import HandS.Walk
import HandS.Deep
import HandS.Conv
import HandS.SortInts
import HandS.TupAny
import HandS.Wide
import HandS.Style
import HandS.IsInst
import HandS.Text
import HandS.Rev
import PyProof.ListNew
import HandS.Ends
import HandS.Words
import HandS.EndTab
import HandS.AnyAll
import PyProof.GenQ
import PyProof.Cells
import HandS.GenOver
import PyProof.SumAny
import PySem.Challenge.RW_bestsets_k10_ranks_of_choices
set_option Elab.async false
set_option linter.all false
set_option maxRecDepth 100000
set_option maxHeartbeats 4000000
/-! Den, part 0: pure values over the abstract heap, the relation of states. -/
namespace Dn
open PySem PySem.Spec PyProof.Rows L2

/-! ### values -/
/-- what is known of addresses: the classes; the dicts in which an instance remembers ranks, with the instance's datum -/
structure Rho where
  cl : Str → Option Addr
  ca : Addr → Option PyData
/-- an instance as a datum: its class, its fields -/
abbrev insD (cn : Str) (es : List (PyData × PyData)) : PyData := .dict ((.str "", .str cn) :: es)
mutual
/-- the value v is the pure datum d, by what the registry Φ (lists and tuples that never change) and ρ (the objects' addresses) tell -/
inductive Rp (K : PySem.W.Frag) (ρ : Rho) (Φ : Hp) : V → PyData → Prop
  | non : Rp K ρ Φ .non .none
  | bl (b : Bool) : Rp K ρ Φ (.bl b) (.bool b)
  | int (i : Int) : Rp K ρ Φ (.int i) (.int i)
  | str (x : Str) : Rp K ρ Φ (.str x) (.str x)
  | lst {a : Addr} {xs : List V} {ds : List PyData} : Φ a = some (.lst xs) → RpA K ρ Φ xs ds → Rp K ρ Φ (.ref a) (.list ds)
  | tup {a : Addr} {xs : List V} {ds : List PyData} : Φ a = some (.tup xs) → RpA K ρ Φ xs ds → Rp K ρ Φ (.ref a) (.tuple ds)
  | ins {a dx C : Addr} {cn : Str} {fs : List (Str × V)} {es : List (PyData × PyData)} : ρ.cl cn = some C → Φ a = some (.ins C dx fs) → Φ dx = some (.own a) → RpF K ρ Φ (insD cn es) fs es → Rp K ρ Φ (.ref a) (insD cn es)
inductive RpA (K : PySem.W.Frag) (ρ : Rho) (Φ : Hp) : List V → List PyData → Prop
  | nil : RpA K ρ Φ [] []
  | cons {v : V} {vs : List V} {d : PyData} {ds : List PyData} : Rp K ρ Φ v d → RpA K ρ Φ vs ds → RpA K ρ Φ (v :: vs) (d :: ds)
/-- fields; where ranks are remembered the datum tells nothing -/
inductive RpF (K : PySem.W.Frag) (ρ : Rho) (Φ : Hp) : PyData → List (Str × V) → List (PyData × PyData) → Prop
  | nil {d : PyData} : RpF K ρ Φ d [] []
  | cons {d : PyData} {f : Str} {v : V} {e : PyData} {fs : List (Str × V)} {es : List (PyData × PyData)} : Rp K ρ Φ v e → RpF K ρ Φ d fs es → RpF K ρ Φ d ((f, v) :: fs) ((.str f, e) :: es)
  | mem {d : PyData} {f : Str} {kd : Addr} {fs : List (Str × V)} {es : List (PyData × PyData)} : ρ.ca kd = some d → RpF K ρ Φ d fs es → RpF K ρ Φ d ((f, .ref kd) :: fs) ((.str f, .dict []) :: es)
end
def Mon (ρ : Rho) (Φ : Hp) (ρ' : Rho) (Φ' : Hp) : Prop := (ρ'.cl = ρ.cl ∧ ∀ a d, ρ.ca a = some d → ρ'.ca a = some d) ∧ Same Φ Φ'
theorem Mon.refl (ρ : Rho) (Φ : Hp) : Mon ρ Φ ρ Φ := ⟨⟨rfl, fun _ _ h => h⟩, Same.refl Φ⟩
theorem Mon.trans {ρ ρ1 ρ2 : Rho} {Φ Φ1 Φ2 : Hp} (a : Mon ρ Φ ρ1 Φ1) (b : Mon ρ1 Φ1 ρ2 Φ2) : Mon ρ Φ ρ2 Φ2 := ⟨⟨b.1.1.trans a.1.1, fun n x h => b.1.2 n x (a.1.2 n x h)⟩, a.2.trans b.2⟩
theorem same_sqt {K : PySem.W.Frag} {H H' : Hp} {a : Addr} {xs : List V} (e : Same H H') (h : SqT K H a xs) : SqT K H' a xs := by
  rcases h with (h | ⟨o, h⟩) | h
  · exact .inl (.inl (e _ _ h))
  · exact .inl (.inr ⟨o, e _ _ h⟩)
  · exact .inr h
mutual
theorem Rp.mono {K : PySem.W.Frag} {ρ ρ' : Rho} {Φ Φ' : Hp} (m : Mon ρ Φ ρ' Φ') : ∀ {v : V} {d : PyData}, Rp K ρ Φ v d → Rp K ρ' Φ' v d
  | _, _, .non => .non
  | _, _, .bl b => .bl b
  | _, _, .int i => .int i
  | _, _, .str x => .str x
  | _, _, .lst h r => .lst (m.2 _ _ h) (RpA.mono m r)
  | _, _, .tup h r => .tup (m.2 _ _ h) (RpA.mono m r)
  | _, _, .ins h1 h2 h3 r => .ins (by rw [m.1.1]; exact h1) (m.2 _ _ h2) (m.2 _ _ h3) (RpF.mono m r)
theorem RpA.mono {K : PySem.W.Frag} {ρ ρ' : Rho} {Φ Φ' : Hp} (m : Mon ρ Φ ρ' Φ') : ∀ {vs : List V} {ds : List PyData}, RpA K ρ Φ vs ds → RpA K ρ' Φ' vs ds
  | _, _, .nil => .nil
  | _, _, .cons r t => .cons (Rp.mono m r) (RpA.mono m t)
theorem RpF.mono {K : PySem.W.Frag} {ρ ρ' : Rho} {Φ Φ' : Hp} (m : Mon ρ Φ ρ' Φ') : ∀ {d : PyData} {fs : List (Str × V)} {es : List (PyData × PyData)}, RpF K ρ Φ d fs es → RpF K ρ' Φ' d fs es
  | _, _, _, .nil => .nil
  | _, _, _, .cons r t => .cons (Rp.mono m r) (RpF.mono m t)
  | _, _, _, .mem h t => .mem (m.1.2 _ _ h) (RpF.mono m t)
end
section
variable {K : PySem.W.Frag} {ρ : Rho} {Φ : Hp}
theorem RpA.length : ∀ {vs : List V} {ds : List PyData}, RpA K ρ Φ vs ds → vs.length = ds.length
  | _, _, .nil => rfl
  | _, _, .cons _ t => congrArg (· + 1) (RpA.length t)
theorem RpA.append : ∀ {vs ws : List V} {ds es : List PyData}, RpA K ρ Φ vs ds → RpA K ρ Φ ws es → RpA K ρ Φ (vs ++ ws) (ds ++ es)
  | _, _, _, _, .nil, s => s
  | _, _, _, _, .cons r t, s => .cons r (RpA.append t s)
theorem RpA.get : ∀ {vs : List V} {ds : List PyData} {i : Nat} {d : PyData}, RpA K ρ Φ vs ds → ds[i]? = some d → ∃ v, vs[i]? = some v ∧ Rp K ρ Φ v d
  | _, _, _, _, .nil, e => by simp at e
  | _, _, 0, _, .cons r _, e => by simp at e; subst e; exact ⟨_, rfl, r⟩
  | _, _, i + 1, d, .cons _ t, e => by
    obtain ⟨v, h1, h2⟩ := RpA.get (i := i) (d := d) t (by simpa using e)
    exact ⟨v, by simpa using h1, h2⟩
theorem RpA.getV : ∀ {vs : List V} {ds : List PyData} {i : Nat} {v : V}, RpA K ρ Φ vs ds → vs[i]? = some v → ∃ d, ds[i]? = some d ∧ Rp K ρ Φ v d
  | _, _, _, _, .nil, e => by simp at e
  | _, _, 0, _, .cons r _, e => by simp at e; subst e; exact ⟨_, rfl, r⟩
  | _, _, i + 1, v, .cons _ t, e => by
    obtain ⟨d, h1, h2⟩ := RpA.getV (i := i) (v := v) t (by simpa using e)
    exact ⟨d, by simpa using h1, h2⟩
theorem RpA.set {v : V} {d : PyData} (r : Rp K ρ Φ v d) : ∀ {vs : List V} {ds : List PyData} (i : Nat), RpA K ρ Φ vs ds → RpA K ρ Φ (vs.set i v) (ds.set i d)
  | _, _, _, .nil => .nil
  | _, _, 0, .cons _ t => .cons r t
  | _, _, i + 1, .cons q t => .cons q (RpA.set r i t)
theorem RpA.eraseIdx : ∀ {vs : List V} {ds : List PyData} (i : Nat), RpA K ρ Φ vs ds → RpA K ρ Φ (vs.eraseIdx i) (ds.eraseIdx i)
  | _, _, _, .nil => .nil
  | _, _, 0, .cons _ t => t
  | _, _, i + 1, .cons q t => .cons q (RpA.eraseIdx i t)
theorem RpA.take : ∀ {vs : List V} {ds : List PyData} (n : Nat), RpA K ρ Φ vs ds → RpA K ρ Φ (vs.take n) (ds.take n)
  | _, _, 0, _ => .nil
  | _, _, _ + 1, .nil => .nil
  | _, _, n + 1, .cons r t => .cons r (RpA.take n t)
theorem RpA.drop : ∀ {vs : List V} {ds : List PyData} (n : Nat), RpA K ρ Φ vs ds → RpA K ρ Φ (vs.drop n) (ds.drop n)
  | _, _, 0, r => r
  | _, _, _ + 1, .nil => .nil
  | _, _, n + 1, .cons _ t => RpA.drop n t
theorem RpA.reverse : ∀ {vs : List V} {ds : List PyData}, RpA K ρ Φ vs ds → RpA K ρ Φ vs.reverse ds.reverse
  | _, _, .nil => .nil
  | _, _, .cons r t => by
    rw [List.reverse_cons, List.reverse_cons]
    exact (RpA.reverse t).append (.cons r .nil)
theorem RpA.ints : ∀ (ns : List Int), RpA K ρ Φ (ns.map V.int) (ns.map PyData.int)
  | [] => .nil
  | n :: ns => .cons (.int n) (RpA.ints ns)
theorem RpA.of_ints : ∀ {vs : List V} (ns : List Int), RpA K ρ Φ vs (ns.map PyData.int) → vs = ns.map V.int
  | _, [], .nil => rfl
  | _, n :: ns, .cons r t => by
    cases r
    rw [RpA.of_ints ns t]
    rfl
theorem RpA.bools : ∀ {vs : List V} (ns : List Bool), RpA K ρ Φ vs (ns.map PyData.bool) → vs = ns.map V.bl
  | _, [], .nil => rfl
  | _, n :: ns, .cons r t => by
    cases r
    rw [RpA.bools ns t]
    rfl
theorem RpA.strs : ∀ {vs : List V} (ns : List Str), RpA K ρ Φ vs (ns.map PyData.str) → vs = ns.map V.str
  | _, [], .nil => rfl
  | _, n :: ns, .cons r t => by
    cases r
    rw [RpA.strs ns t]
    rfl
mutual
/-- data without objects, as the library tells them -/
theorem Rp.dp {H : Hp} (e : Same Φ H) : ∀ (d : PyData) {v : V}, Rp K ρ Φ v d → d.canLay0 = true → Dp K H v d
  | .none, _, .non, _ => .non
  | .bool b, _, .bl _, _ => .bl b
  | .int i, _, .int _, _ => .int i
  | .str x, _, .str _, _ => .str x
  | .list ds, _, .lst h r, c => .lst (.inl (.inl (e _ _ h))) (RpA.dp e ds r (by simpa [PyData.canLay0] using c))
  | .tuple ds, _, .tup h r, c => .tup (.inl (.inl (e _ _ h))) (RpA.dp e ds r (by simpa [PyData.canLay0] using c))
  | .dict kvs, _, _, c => by simp [PyData.canLay0] at c
theorem RpA.dp {H : Hp} (e : Same Φ H) : ∀ (ds : List PyData) {vs : List V}, RpA K ρ Φ vs ds → PyData.canLayAll0 ds = true → DpAll K H vs ds
  | [], _, .nil, _ => .nil
  | d :: ds, _, .cons r t, c => by
    simp only [PyData.canLayAll0, Bool.and_eq_true] at c
    exact .cons (Rp.dp e d r c.1) (RpA.dp e ds t c.2)
end
end

/-! ### what a slot or a temporary holds -/
inductive Tag where
  | slot (i : Nat) | tmp (i : Nat) | frame | cache | cod | tab
  deriving DecidableEq
inductive LV where
  /-- a datum that nobody changes any more -/
  | sh (d : PyData)
  /-- a list of one's own; one that is read only, while a loop walks it -/
  | lst (ds : List PyData) | ro (ds : List PyData)
  /-- the script, which is read only -/
  | scr (ds : List PyData)
  /-- a list that may be read -/
  | rv (ds : List PyData)
  /-- a dict of one's own, keys ints and texts; keys tuples of these -/
  | dk (kvs : List (Key × PyData)) | dt (kvs : List (List Key × PyData))
  /-- a set of ints -/
  | set (ks : List Int)
def LV.isOwn : LV → Bool
  | .sh _ => false
  | _ => true
/-- read only -/
def LV.isRo : LV → Bool
  | .ro _ => true
  | .scr _ => true
  | .rv _ => true
  | _ => false
def LV.isRv : LV → Bool
  | .rv _ => true
  | _ => false
abbrev LV.int (i : Int) : LV := .sh (.int i)
abbrev LV.bl (b : Bool) : LV := .sh (.bool b)
abbrev LV.str (x : Str) : LV := .sh (.str x)
abbrev LV.non : LV := .sh .none
abbrev KvD {κ : Type} (K : PySem.W.Frag) (ρ : Rho) (Φ : Hp) : List (κ × V) → List (κ × PyData) → Prop := Paired fun (p : κ × V) (q : κ × PyData) => p.1 = q.1 ∧ Rp K ρ Φ p.2 q.2
/-- the object o holds l -/
inductive OwnO (K : PySem.W.Frag) (ρ : Rho) (Φ : Hp) : HO → LV → Prop
  | lst {vs : List V} {ds : List PyData} : RpA K ρ Φ vs ds → OwnO K ρ Φ (.lst vs) (.lst ds)
  | ro {vs : List V} {ds : List PyData} : RpA K ρ Φ vs ds → OwnO K ρ Φ (.lst vs) (.ro ds)
  | scr {o : Obj} {vs : List V} {ds : List PyData} : RpA K ρ Φ vs ds → OwnO K ρ Φ (.frz o (.lst vs)) (.scr ds)
  | scl {vs : List V} {ds : List PyData} : RpA K ρ Φ vs ds → OwnO K ρ Φ (.lst vs) (.scr ds)
  | rv {vs : List V} {ds : List PyData} : RpA K ρ Φ vs ds → OwnO K ρ Φ (.lst vs) (.rv ds)
  | dk {kvs : List (Key × V)} {es : List (Key × PyData)} : KvD K ρ Φ kvs es → OwnO K ρ Φ (.dK kvs) (.dk es)
  | dt {kvs : List (List Key × V)} {es : List (List Key × PyData)} : KvD K ρ Φ kvs es → OwnO K ρ Φ (.dT kvs) (.dt es)
  | set {f : Int → Bool} {ks : List Int} : (∀ i, f i = decide (i ∈ ks)) → ks.Nodup → OwnO K ρ Φ (.set f ks.length) (.set ks)
theorem KvD.mono {κ : Type} {K : PySem.W.Frag} {ρ ρ' : Rho} {Φ Φ' : Hp} (m : Mon ρ Φ ρ' Φ') {l₁ : List (κ × V)} {l₂ : List (κ × PyData)} (h : KvD K ρ Φ l₁ l₂) : KvD K ρ' Φ' l₁ l₂ :=
  Paired.mapP h fun _ _ x => ⟨x.1, x.2.mono m⟩
theorem OwnO.mono {K : PySem.W.Frag} {ρ ρ' : Rho} {Φ Φ' : Hp} (m : Mon ρ Φ ρ' Φ') : ∀ {o : HO} {l : LV}, OwnO K ρ Φ o l → OwnO K ρ' Φ' o l
  | _, _, .lst r => .lst (r.mono m)
  | _, _, .ro r => .ro (r.mono m)
  | _, _, .scr r => .scr (r.mono m)
  | _, _, .scl r => .scl (r.mono m)
  | _, _, .rv r => .rv (r.mono m)
  | _, _, .dk r => .dk (KvD.mono m r)
  | _, _, .dt r => .dt (KvD.mono m r)
  | _, _, .set r n => .set r n
/-- v is l; if l is of one's own, its object bears the tag -/
inductive LvOk (K : PySem.W.Frag) (own : Addr → Option Tag) (ρ : Rho) (Φ H : Hp) (t : Tag) : V → LV → Prop
  | sh {v : V} {d : PyData} : Rp K ρ Φ v d → LvOk K own ρ Φ H t v (.sh d)
  | ow {a : Addr} {o : HO} {l : LV} : H a = some o → OwnO K ρ Φ o l → own a = some t → LvOk K own ρ Φ H t (.ref a) l
  /-- a list that stands in the written part -/
  | kl {a : Addr} {vs : List V} {ds : List PyData} : (∀ H, SqL K H a vs) → RpA K ρ Φ vs ds → LvOk K own ρ Φ H t (.ref a) (.scr ds)
  /-- a list that is read only: of a caller's, of nobody -/
  | rf {a : Addr} {vs : List V} {ds : List PyData} : H a = some (.lst vs) → own a = some .frame → RpA K ρ Φ vs ds → LvOk K own ρ Φ H t (.ref a) (.rv ds)
  | rp {a : Addr} {vs : List V} {ds : List PyData} : Φ a = some (.lst vs) → RpA K ρ Φ vs ds → LvOk K own ρ Φ H t (.ref a) (.rv ds)
theorem LvOk.mono {K : PySem.W.Frag} {own own' : Addr → Option Tag} {ρ ρ' : Rho} {Φ Φ' H H' : Hp} {t t' : Tag} {v : V} {l : LV} (m : Mon ρ Φ ρ' Φ') (h : LvOk K own ρ Φ H t v l)
    (k : ∀ a o, own a = some t → H a = some o → H' a = some o ∧ own' a = some t') (kf : ∀ a o, own a = some .frame → H a = some o → H' a = some o ∧ own' a = some .frame) : LvOk K own' ρ' Φ' H' t' v l := by
  cases h with
  | rf h1 h2 h3 => exact .rf (kf _ _ h2 h1).1 (kf _ _ h2 h1).2 (h3.mono m)
  | rp h1 h2 => exact .rp (m.2 _ _ h1) (h2.mono m)
  | sh r => exact .sh (r.mono m)
  | ow h1 h2 h3 => exact .ow (k _ _ h3 h1).1 (h2.mono m) (k _ _ h3 h1).2
  | kl h1 h2 => exact .kl h1 (h2.mono m)
theorem LvOk.mono' {K : PySem.W.Frag} {own own' : Addr → Option Tag} {ρ ρ' : Rho} {Φ Φ' H H' : Hp} {t t' : Tag} {v : V} {l : LV} (nr : l.isRv = false) (m : Mon ρ Φ ρ' Φ') (h : LvOk K own ρ Φ H t v l)
    (k : ∀ a o, own a = some t → H a = some o → H' a = some o ∧ own' a = some t') : LvOk K own' ρ' Φ' H' t' v l := by
  cases h with
  | rf h1 h2 h3 => cases nr
  | rp h1 h2 => cases nr
  | sh r => exact .sh (r.mono m)
  | ow h1 h2 h3 => exact .ow (k _ _ h3 h1).1 (h2.mono m) (k _ _ h3 h1).2
  | kl h1 h2 => exact .kl h1 (h2.mono m)
structure Sl where
  lv : LV
  /-- it still holds the parameter's own object -/
  p : Bool := false
  /-- a name of a comprehension's own -/
  c : Bool := false
structure S where
  ls : List (Option Sl)
inductive Opd where
  | lv (l : LV) | slot (i : Nat)
/-- temporaries, the newest first -/
def TsOk (K : PySem.W.Frag) (own : Addr → Option Tag) (ρ : Rho) (Φ H : Hp) (ls : List (Option Sl)) (σ : L2.St) : List (V × Opd) → Prop
  | [] => True
  | (v, .lv l) :: ts => LvOk K own ρ Φ H (.tmp ts.length) v l ∧ TsOk K own ρ Φ H ls σ ts
  | (v, .slot i) :: ts => (σ[i]? = some (some v) ∧ ∃ x, ls[i]? = some (some x) ∧ x.c = false) ∧ TsOk K own ρ Φ H ls σ ts
/-- a def's run: the parameters' values, the tables of code objects -/
structure GV where
  /-- the tables of code objects -/
  tb : List Addr
  /-- the ranks that instances remember -/
  rk : PyData → List Int → Option Int
  cl : Str → Option Addr
structure PV where
  vs : List V
  cd : List (Addr × Addr)
  g : GV
/-- what a dict of ranks holds -/
def CacheOk (rk : PyData → List Int → Option Int) (d : PyData) (kvs : List (List Key × V)) : Prop :=
  (kvs.map (·.1)).Nodup ∧ ∀ k v, (k, v) ∈ kvs → ∃ (ns : List Int) (i : Int), k = ns.map Sum.inl ∧ v = .int i ∧ rk d ns = some i
/-- a code object of a generator, its table -/
def CodO (own : Addr → Option Tag) (H : Hp) (c P : Addr) : Prop := H c = some (.ext fun h => PySem.W.CodeHd h c P) ∧ own c = some .cod ∧ own P = some .tab
theorem CodO.mono {own own' : Addr → Option Tag} {H H' : Hp} {c P : Addr} (x : CodO own H c P) (k : ∀ a o, own a = some .cod → H a = some o → H' a = some o ∧ own' a = some .cod) (kt : ∀ a, own a = some .tab → own' a = some .tab) : CodO own' H' c P :=
  ⟨(k _ _ x.2.1 x.1).1, (k _ _ x.2.1 x.1).2, kt _ x.2.2⟩
def TabO (own : Addr → Option Tag) (H : Hp) (a : Addr) : Prop := ∃ ps : Array Value, H a = some (.tbl ps) ∧ TriplesOk ps.toList ∧ ∀ pos cv, codeAmong pos ps.toList = some cv → ∃ c P, cv = .ref c ∧ CodO own H c P
theorem TabO.mono {own own' : Addr → Option Tag} {H H' : Hp} {a : Addr} (x : TabO own H a) (e : ∀ ps, H a = some (.tbl ps) → H' a = some (.tbl ps)) (k : ∀ a o, own a = some .cod → H a = some o → H' a = some o ∧ own' a = some .cod) (kt : ∀ a, own a = some .tab → own' a = some .tab) : TabO own' H' a := by
  obtain ⟨ps, h1, h2, h3⟩ := x
  refine ⟨ps, e _ h1, h2, fun pos cv h => ?_⟩
  obtain ⟨c, P, h4, h5⟩ := h3 pos cv h
  exact ⟨c, P, h4, h5.mono k kt⟩
structure Stt (K : PySem.W.Frag) (pv : PV) (own : Addr → Option Tag) (ρ : Rho) (Φ Ψ : Hp) (ts : List (V × Opd)) (st : S) (σ : L2.St) (H : Hp) : Prop where
  phi : Same Φ H
  psi : Same Ψ H
  dPhi : ∀ a t, own a = some t → Φ a = none
  dPsi : ∀ a u, Ψ a = some u → own a = some .frame
  dom : ∀ a t, own a = some t → ∃ o, H a = some o
  len : st.ls.length = σ.length
  slots : ∀ (i : Nat) (x : Sl), st.ls[i]? = some (some x) → ∃ v, σ[i]? = some (some v) ∧ LvOk K own ρ Φ H (.slot i) v x.lv ∧ (x.p = true → pv.vs[i]? = some v)
  temps : TsOk K own ρ Φ H st.ls σ ts
  tabs : ∀ a, own a = some .tab → TabO own H a
  tabsIn : ∀ a ∈ pv.g.tb, own a = some .tab
  codsIn : ∀ q ∈ pv.cd, CodO own H q.1 q.2
  rcl : ρ.cl = pv.g.cl
  cach : ∀ a d, ρ.ca a = some d → own a = some .cache ∧ ∃ kvs, H a = some (.dT kvs) ∧ CacheOk pv.g.rk d kvs

section
variable {K : PySem.W.Frag} {pv : PV} {own own' : Addr → Option Tag} {ρ ρ' : Rho} {Φ Φ' Ψ H H' : Hp} {ts : List (V × Opd)} {st : S} {σ : L2.St}
theorem TsOk.mono (m : Mon ρ Φ ρ' Φ') (k : ∀ j a o, own a = some (.tmp j) → H a = some o → H' a = some o ∧ own' a = some (.tmp j)) (kf : ∀ a o, own a = some .frame → H a = some o → H' a = some o ∧ own' a = some .frame) {ls : List (Option Sl)} :
    ∀ {ts : List (V × Opd)}, TsOk K own ρ Φ H ls σ ts → TsOk K own' ρ' Φ' H' ls σ ts
  | [], _ => trivial
  | (_, .lv _) :: ts, ⟨h1, h2⟩ => ⟨h1.mono m (fun a o => k ts.length a o) kf, TsOk.mono m k kf h2⟩
  | (_, .slot _) :: _, ⟨h1, h2⟩ => ⟨h1, TsOk.mono m k kf h2⟩
theorem Stt.none_own (z : Stt K pv own ρ Φ Ψ ts st σ H) {p : Addr} (h : H p = none) : own p = none := by
  cases e : own p with
  | none => rfl
  | some t =>
    obtain ⟨o, q⟩ := z.dom p t e
    rw [h] at q
    cases q
/-- the parts that lean on no slot: codes, tables, remembered ranks -/
theorem Stt.tabsK (z : Stt K pv own ρ Φ Ψ ts st σ H) (k : ∀ t a o, (t = .cache ∨ t = .cod ∨ t = .tab) → own a = some t → H a = some o → H' a = some o ∧ own' a = some t) (ht : ∀ a, own' a = some .tab → own a = some .tab) :
    (∀ a, own' a = some .tab → TabO own' H' a) ∧ (∀ a ∈ pv.g.tb, own' a = some .tab) ∧ (∀ q ∈ pv.cd, CodO own' H' q.1 q.2) ∧ ∀ a d, ρ.ca a = some d → own' a = some .cache ∧ ∃ kvs, H' a = some (.dT kvs) ∧ CacheOk pv.g.rk d kvs := by
  have k1 : ∀ a o, own a = some .cod → H a = some o → H' a = some o ∧ own' a = some .cod := fun a o => k _ a o (.inr (.inl rfl))
  have k2 : ∀ a, own a = some .tab → own' a = some .tab := fun a e => by
    obtain ⟨o, q⟩ := z.dom a _ e
    exact (k _ a o (.inr (.inr rfl)) e q).2
  refine ⟨fun a e => (z.tabs a (ht a e)).mono (fun ps q => (k _ a _ (.inr (.inr rfl)) (ht a e) q).1) k1 k2, fun a h => k2 a (z.tabsIn a h), fun q h => (z.codsIn q h).mono k1 k2, fun a d e => ?_⟩
  obtain ⟨h1, kvs, h2, h3⟩ := z.cach a d e
  exact ⟨(k _ a _ (.inl rfl) h1 h2).2, kvs, (k _ a _ (.inl rfl) h1 h2).1, h3⟩
/-- all owned things stand as they stood, with the same tags; the registry may have grown -/
theorem Stt.move (z : Stt K pv own ρ Φ Ψ ts st σ H) (m : Mon ρ Φ ρ Φ') (k : ∀ a t o, own a = some t → H a = some o → H' a = some o ∧ own' a = some t) (hp : Same Φ' H') (d1 : ∀ a t, own' a = some t → Φ' a = none) (d2 : ∀ a t, own' a = some t → own a = some t) :
    Stt K pv own' ρ Φ' Ψ ts st σ H' where
  phi := hp
  psi := fun a u e => (k a _ u (z.dPsi a u e) (z.psi a u e)).1
  dPhi := d1
  dPsi := fun a u e => (k a _ u (z.dPsi a u e) (z.psi a u e)).2
  dom := fun a t e => by
    obtain ⟨o, h⟩ := z.dom a t (d2 a t e)
    exact ⟨o, (k a t o (d2 a t e) h).1⟩
  len := z.len
  slots := fun i x e => by
    obtain ⟨v, h1, h2, h3⟩ := z.slots i x e
    exact ⟨v, h1, h2.mono m (fun a o => k a _ o) (fun a o => k a _ o), h3⟩
  temps := z.temps.mono m (fun j a o => k a _ o) (fun a o => k a _ o)
  tabs := (z.tabsK (fun t a o _ => k a t o) (fun a => d2 a _)).1
  tabsIn := (z.tabsK (fun t a o _ => k a t o) (fun a => d2 a _)).2.1
  codsIn := (z.tabsK (fun t a o _ => k a t o) (fun a => d2 a _)).2.2.1
  rcl := z.rcl
  cach := (z.tabsK (fun t a o _ => k a t o) (fun a => d2 a _)).2.2.2
theorem tsOk_tail {v : V} {o : Opd} {ls : List (Option Sl)} (h : TsOk K own ρ Φ H ls σ ((v, o) :: ts)) : TsOk K own ρ Φ H ls σ ts := by
  cases o with
  | lv l => exact h.2
  | slot i => exact h.2
theorem Stt.drop {v : V} {o : Opd} (z : Stt K pv own ρ Φ Ψ ((v, o) :: ts) st σ H) : Stt K pv own ρ Φ Ψ ts st σ H :=
  { z with temps := tsOk_tail z.temps }
/-- a result that comes out of an operation by values -/
inductive Res (K : PySem.W.Frag) (ρ : Rho) (Φ H : Hp) : LV → V → Hp → Prop
  | same {v : V} {d : PyData} : Rp K ρ Φ v d → Res K ρ Φ H (.sh d) v H
  | new {p : Addr} {o : HO} {l : LV} : H p = none → OwnO K ρ Φ o l → Res K ρ Φ H l (.ref p) (upd H p o)
  | tup {p : Addr} {vs : List V} {ds : List PyData} : H p = none → RpA K ρ Φ vs ds → Res K ρ Φ H (.sh (.tuple ds)) (.ref p) (upd H p (.tup vs))
theorem mon_new {p : Addr} {o : HO} (h : Φ p = none) : Mon ρ Φ ρ (upd Φ p o) := ⟨⟨rfl, fun _ _ h => h⟩, fun a u e => by rw [upd_ne (ne_of_none e h)]; exact e⟩
theorem Stt.phi_none (z : Stt K pv own ρ Φ Ψ ts st σ H) {p : Addr} (h : H p = none) : Φ p = none := by
  cases e : Φ p with
  | none => rfl
  | some o =>
    rw [z.phi p o e] at h
    cases h
def setOwn (own : Addr → Option Tag) (p : Addr) (t : Tag) : Addr → Option Tag := fun a => if a = p then some t else own a
theorem setOwn_same {p : Addr} {t : Tag} : setOwn own p t p = some t := if_pos rfl
theorem setOwn_ne {p a : Addr} {t : Tag} (h : a ≠ p) : setOwn own p t a = own a := if_neg h
/-- a new object of one's own, a temporary -/
theorem Stt.fresh (z : Stt K pv own ρ Φ Ψ ts st σ H) {p : Addr} {o : HO} {l : LV} (h : H p = none) (r : OwnO K ρ Φ o l) : Stt K pv (setOwn own p (.tmp ts.length)) ρ Φ Ψ ((.ref p, .lv l) :: ts) st σ (upd H p o) := by
  have np : own p = none := z.none_own h
  have hn : Φ p = none := z.phi_none h
  have ne : ∀ a t, own a = some t → a ≠ p := fun a t e q => by rw [q, np] at e; cases e
  have sm : Same H (upd H p o) := fun a u e => by rw [upd_ne (ne_of_none e h)]; exact e
  have z' : Stt K pv own ρ Φ Ψ ts st σ (upd H p o) := z.move (Mon.refl _ _) (fun a t u e q => ⟨sm a u q, e⟩) (z.phi.trans sm) z.dPhi fun _ _ e => e
  have k : ∀ a t u, own a = some t → upd H p o a = some u → upd H p o a = some u ∧ setOwn own p (.tmp ts.length) a = some t := fun a t u e q => ⟨q, by rw [setOwn_ne (ne a t e)]; exact e⟩
  have tk := z'.tabsK (own' := setOwn own p (.tmp ts.length)) (H' := upd H p o) (fun t a o _ => k a t o) (fun a e => by
    by_cases ha : a = p
    · rw [ha, setOwn_same] at e; cases e
    · rw [setOwn_ne ha] at e; exact e)
  refine { phi := z'.phi, psi := z'.psi, dPhi := fun a t e => ?_, dPsi := fun a u e => ?_, dom := fun a t e => ?_, len := z.len, slots := fun i x e => ?_, temps := ?_, tabs := tk.1, tabsIn := tk.2.1, codsIn := tk.2.2.1, rcl := z.rcl, cach := tk.2.2.2 }
  · by_cases ha : a = p
    · rw [ha]; exact hn
    · rw [setOwn_ne ha] at e; exact z.dPhi a t e
  · rw [setOwn_ne (ne a _ (z.dPsi a u e))]; exact z.dPsi a u e
  · by_cases ha : a = p
    · rw [ha]; exact ⟨o, upd_same⟩
    · rw [setOwn_ne ha] at e; exact z'.dom a t e
  · obtain ⟨v, h1, h2, h3⟩ := z'.slots i x e
    exact ⟨v, h1, h2.mono (Mon.refl _ _) (fun a o => k a _ o) (fun a o => k a _ o), h3⟩
  · exact ⟨.ow upd_same r setOwn_same, z'.temps.mono (Mon.refl _ _) (fun j a o => k a _ o) (fun a o => k a _ o)⟩
/-- a shared temporary -/
theorem Stt.push (z : Stt K pv own ρ Φ Ψ ts st σ H) {v : V} {d : PyData} (r : Rp K ρ Φ v d) : Stt K pv own ρ Φ Ψ ((v, .lv (.sh d)) :: ts) st σ H :=
  { z with temps := ⟨.sh r, z.temps⟩ }
/-- a new object that nobody will change -/
theorem Stt.reg (z : Stt K pv own ρ Φ Ψ ts st σ H) {p : Addr} {o : HO} (h : H p = none) : Stt K pv own ρ (upd Φ p o) Ψ ts st σ (upd H p o) := by
  have np : own p = none := z.none_own h
  have sm : Same H (upd H p o) := fun a u e => by rw [upd_ne (ne_of_none e h)]; exact e
  refine z.move (mon_new (z.phi_none h)) (fun a t u e q => ⟨sm a u q, e⟩) (fun a u e => ?_) (fun a t e => ?_) fun _ _ e => e
  · by_cases ha : a = p
    · rw [ha, upd_same] at e; rw [ha, upd_same]; exact e
    · rw [upd_ne ha] at e; rw [upd_ne ha]; exact z.phi a u e
  · have ha : a ≠ p := fun q => by rw [q, np] at e; cases e
    rw [upd_ne ha]; exact z.dPhi a t e
theorem Stt.res (z : Stt K pv own ρ Φ Ψ ts st σ H) {l : LV} {v : V} (r : Res K ρ Φ H l v H') : ∃ own' Φ', Mon ρ Φ ρ Φ' ∧ Stt K pv own' ρ Φ' Ψ ((v, .lv l) :: ts) st σ H' := by
  cases r with
  | same r => exact ⟨own, Φ, Mon.refl _ _, z.push r⟩
  | new h r => exact ⟨_, Φ, Mon.refl _ _, z.fresh h r⟩
  | @tup p vs ds h r => 
    have m : Mon ρ Φ ρ (upd Φ p (.tup vs)) := mon_new (z.phi_none h)
    exact ⟨own, _, m, (z.reg h).push (.tup upd_same (r.mono m))⟩
end
end Dn
set_option Elab.async false
set_option linter.all false
set_option maxRecDepth 100000
set_option maxHeartbeats 4000000
/-! Den, part 1: moves of the state, the judgements. -/
namespace Dn
open PySem PySem.Spec PyProof.Rows L2

/-- slots that are locked stay so -/
structure Kp (st st' : S) : Prop where
  len : st'.ls.length = st.ls.length
  ro : ∀ (i : Nat) (x : Sl), st.ls[i]? = some (some x) → x.lv.isRo = true → st'.ls[i]? = some (some x)
theorem Kp.refl (st : S) : Kp st st := ⟨rfl, fun _ _ h _ => h⟩
theorem Kp.trans {a b c : S} (h : Kp a b) (k : Kp b c) : Kp a c := ⟨k.len.trans h.len, fun i x e r => k.ro i x (h.ro i x e r) r⟩

section
variable {K : PySem.W.Frag} {pv : PV} {own own' : Addr → Option Tag} {ρ ρ' : Rho} {Φ Φ' Ψ H H' : Hp} {ts : List (V × Opd)} {st : S} {σ : L2.St}
/-- the tag t becomes u (no object bears u that matters) -/
def reTag (own : Addr → Option Tag) (t u : Tag) : Addr → Option Tag := fun a => if own a = some t then some u else own a
theorem reTag_old {t u : Tag} {a : Addr} (h : own a = some t) : reTag own t u a = some u := if_pos h
theorem reTag_ne {t u x : Tag} {a : Addr} (h : own a = some x) (n : x ≠ t) : reTag own t u a = some x := by
  unfold reTag
  rw [if_neg (by rw [h]; exact fun e => n (Option.some.inj e))]
  exact h
theorem reTag_some {t u : Tag} {a : Addr} {x : Tag} (h : reTag own t u a = some x) : (own a = some t ∧ x = u) ∨ (own a = some x ∧ x ≠ t) := by
  unfold reTag at h
  by_cases e : own a = some t
  · rw [if_pos e] at h; exact .inl ⟨e, (Option.some.inj h).symm⟩
  · rw [if_neg e] at h
    exact .inr ⟨h, fun q => e (by rw [h, q])⟩
/-- the tag is taken off -/
def unTag (own : Addr → Option Tag) (t : Tag) : Addr → Option Tag := fun a => if own a = some t then none else own a
theorem unTag_ne {t x : Tag} {a : Addr} (h : own a = some x) (n : x ≠ t) : unTag own t a = some x := by
  unfold unTag
  rw [if_neg (by rw [h]; exact fun e => n (Option.some.inj e))]
  exact h
theorem unTag_some {t x : Tag} {a : Addr} (h : unTag own t a = some x) : own a = some x ∧ x ≠ t := by
  unfold unTag at h
  by_cases e : own a = some t
  · rw [if_pos e] at h; cases h
  · rw [if_neg e] at h
    exact ⟨h, fun q => e (by rw [h, q])⟩
theorem TsOk.tagNe {ls : List (Option Sl)} (own' : Addr → Option Tag) (Φ' : Hp) (H' : Hp) (m : Mon ρ Φ ρ Φ') (n : Nat) (k : ∀ j a o, j < n → own a = some (.tmp j) → H a = some o → H' a = some o ∧ own' a = some (.tmp j)) (kf : ∀ a o, own a = some .frame → H a = some o → H' a = some o ∧ own' a = some .frame) :
    ∀ {ts : List (V × Opd)}, ts.length ≤ n → TsOk K own ρ Φ H ls σ ts → TsOk K own' ρ Φ' H' ls σ ts
  | [], _, _ => trivial
  | (_, .lv _) :: ts, hn, ⟨h1, h2⟩ => ⟨h1.mono m (fun a o => k ts.length a o (by simp only [List.length_cons] at hn; omega)) kf, TsOk.tagNe own' Φ' H' m n k kf (by simp only [List.length_cons] at hn; omega) h2⟩
  | (_, .slot _) :: ts, hn, ⟨h1, h2⟩ => ⟨h1, TsOk.tagNe own' Φ' H' m n k kf (by simp only [List.length_cons] at hn; omega) h2⟩
/-- the newest temporary's list is changed by nobody any more -/
theorem Stt.freezeT {v : V} {ds : List PyData} (z : Stt K pv own ρ Φ Ψ ((v, .lv (.lst ds)) :: ts) st σ H) :
    ∃ own' Φ', Mon ρ Φ ρ Φ' ∧ Stt K pv own' ρ Φ' Ψ ((v, .lv (.sh (.list ds))) :: ts) st σ H := by
  obtain ⟨hl, hts⟩ := z.temps
  cases hl with
  | @ow a o _ h1 h2 h3 =>
  cases h2 with
  | @lst vs _ r =>
    have hn : Φ a = none := z.dPhi a _ h3
    have m : Mon ρ Φ ρ (upd Φ a (.lst vs)) := mon_new hn
    have k : ∀ (t : Tag) (b : Addr) (u : HO), t ≠ .tmp ts.length → own b = some t → H b = some u → H b = some u ∧ unTag own (.tmp ts.length) b = some t := fun t b u n e q => ⟨q, unTag_ne e n⟩
    have tk := z.tabsK (own' := unTag own (.tmp ts.length)) (H' := H) (fun t b u ht e q => k t b u (by rcases ht with rfl | rfl | rfl <;> exact fun q => by cases q) e q) (fun b e => (unTag_some e).1)
    refine ⟨unTag own (.tmp ts.length), upd Φ a (.lst vs), m, { phi := fun b u e => ?_, psi := z.psi, dPhi := fun b t e => ?_, dPsi := fun b u e => ?_, dom := fun b t e => z.dom b t (unTag_some e).1, len := z.len, slots := fun i x e => ?_, temps := ?_, tabs := tk.1, tabsIn := tk.2.1, codsIn := tk.2.2.1, rcl := z.rcl, cach := tk.2.2.2 }⟩
    · by_cases hb : b = a
      · rw [hb, upd_same] at e; rw [hb, ← e]; exact h1
      · rw [upd_ne hb] at e; exact z.phi b u e
    · obtain ⟨e1, e2⟩ := unTag_some e
      have hb : b ≠ a := fun q => by rw [q, h3] at e1; exact e2 (Option.some.inj e1).symm
      rw [upd_ne hb]; exact z.dPhi b t e1
    · exact unTag_ne (z.dPsi b u e) (fun q => by cases q)
    · obtain ⟨v, h1, h2, h3⟩ := z.slots i x e
      exact ⟨v, h1, h2.mono m (fun a o => k _ a o (fun q => by cases q)) (fun a o => k _ a o (fun q => by cases q)), h3⟩
    · refine ⟨.sh (.lst upd_same (r.mono m)), ?_⟩
      exact TsOk.tagNe _ _ _ m ts.length (fun j a o hj => k _ a o (fun q => by have := Tag.tmp.inj q; omega)) (fun a o => k _ a o (fun q => by cases q)) (Nat.le_refl _) hts
theorem set_get {α : Type} {l : List α} {i j : Nat} {x y : α} (h : (l.set i x)[j]? = some y) : (j = i ∧ y = x) ∨ (j ≠ i ∧ l[j]? = some y) := by
  by_cases e : i = j
  · subst e
    by_cases hl : i < l.length
    · rw [List.getElem?_set_self hl] at h; exact .inl ⟨rfl, (Option.some.inj h).symm⟩
    · rw [List.getElem?_eq_none (by simpa using hl)] at h; cases h
  · rw [List.getElem?_set_ne e] at h
    exact .inr ⟨fun q => e q.symm, h⟩
/-- a slot's content changes, its object stays where it is, or is told anew: what one has to show -/
theorem Stt.slotTo {i : Nat} {x : Sl} {v : V} {lv' : LV} (z : Stt K pv own ρ Φ Ψ ts st σ H) (hx : st.ls[i]? = some (some x)) (hv : σ[i]? = some (some v)) (hp : x.p = true → pv.vs[i]? = some v)
    (own' : Addr → Option Tag) (Φ' H' : Hp) (m : Mon ρ Φ ρ Φ') (k : ∀ (t : Tag) (b : Addr) (u : HO), t ≠ .slot i → own b = some t → H b = some u → H' b = some u ∧ own' b = some t) (h' : LvOk K own' ρ Φ' H' (.slot i) v lv')
    (phi : Same Φ' H') (dPhi : ∀ a t, own' a = some t → Φ' a = none) (dom : ∀ a t, own' a = some t → ∃ o, H' a = some o) (htab : ∀ a, own' a = some .tab → own a = some .tab) :
    Stt K pv own' ρ Φ' Ψ ts { st with ls := st.ls.set i (some { x with lv := lv' }) } σ H' where
  phi := phi
  psi := fun b u e => (k _ b u (fun q => by cases q) (z.dPsi b u e) (z.psi b u e)).1
  dPhi := dPhi
  dPsi := fun b u e => (k _ b u (fun q => by cases q) (z.dPsi b u e) (z.psi b u e)).2
  dom := dom
  len := by rw [List.length_set]; exact z.len
  slots := fun j y e => by
    rcases set_get e with ⟨ej, ey⟩ | ⟨hj, e⟩
    · cases ey
      rw [ej]
      exact ⟨v, hv, h', hp⟩
    · obtain ⟨w, h1, h2, h3⟩ := z.slots j y e
      exact ⟨w, h1, h2.mono m (fun a o => k _ a o (fun q => by cases q; exact hj rfl)) (fun a o => k _ a o (fun q => by cases q)), h3⟩
  temps := by
    have go : ∀ {ts : List (V × Opd)}, TsOk K own ρ Φ H st.ls σ ts → TsOk K own' ρ Φ' H' (st.ls.set i (some { x with lv := lv' })) σ ts := by
      intro ts
      induction ts with
      | nil => exact fun _ => trivial
      | cons q ts ih =>
        obtain ⟨w, o⟩ := q
        cases o with
        | lv l => exact fun h => ⟨h.1.mono m (fun a o => k _ a o (fun q => by cases q)) (fun a o => k _ a o (fun q => by cases q)), ih h.2⟩
        | slot j =>
          intro h
          refine ⟨⟨h.1.1, ?_⟩, ih h.2⟩
          obtain ⟨y, e1, e2⟩ := h.1.2
          by_cases hj : i = j
          · subst hj
            rw [hx] at e1; cases e1
            exact ⟨{ x with lv := lv' }, List.getElem?_set_self (List.getElem?_eq_some_iff.mp hx).1, e2⟩
          · exact ⟨y, by rw [List.getElem?_set_ne hj]; exact e1, e2⟩
    exact go z.temps
  tabs := (z.tabsK (fun t a o h => k t a o (by rcases h with rfl | rfl | rfl <;> exact fun q => by cases q)) htab).1
  tabsIn := (z.tabsK (fun t a o h => k t a o (by rcases h with rfl | rfl | rfl <;> exact fun q => by cases q)) htab).2.1
  codsIn := (z.tabsK (fun t a o h => k t a o (by rcases h with rfl | rfl | rfl <;> exact fun q => by cases q)) htab).2.2.1
  rcl := z.rcl
  cach := (z.tabsK (fun t a o h => k t a o (by rcases h with rfl | rfl | rfl <;> exact fun q => by cases q)) htab).2.2.2
/-- a slot's own object gets other content -/
theorem Stt.mutS {i : Nat} {x : Sl} {v : V} {a : Addr} {o' : HO} {lv' : LV} (z : Stt K pv own ρ Φ Ψ ts st σ H) (hx : st.ls[i]? = some (some x)) (hv : σ[i]? = some (some (.ref a))) (hp : x.p = true → pv.vs[i]? = some (.ref a)) (ht : own a = some (.slot i)) (hr : OwnO K ρ Φ o' lv') :
    Stt K pv own ρ Φ Ψ ts { st with ls := st.ls.set i (some { x with lv := lv' }) } σ (upd H a o') := by
  refine z.slotTo hx hv hp own Φ (upd H a o') (Mon.refl _ _) (fun t b u n e q => ⟨?_, e⟩) (.ow upd_same hr ht) (fun b u e => ?_) z.dPhi (fun b t e => ?_) fun _ e => e
  · have hb : b ≠ a := fun z => by rw [z, ht] at e; exact n (Option.some.inj e).symm
    rw [upd_ne hb]; exact q
  · have hb : b ≠ a := fun y => by rw [y, z.dPhi a _ ht] at e; cases e
    rw [upd_ne hb]; exact z.phi b u e
  · by_cases hb : b = a
    · rw [hb]; exact ⟨o', upd_same⟩
    · rw [upd_ne hb]; exact z.dom b t e
/-- told otherwise, the object as it is (locked, unlocked) -/
theorem Stt.asS {i : Nat} {x : Sl} {lv' : LV} (z : Stt K pv own ρ Φ Ψ ts st σ H) (hx : st.ls[i]? = some (some x)) (hr : ∀ o, OwnO K ρ Φ o x.lv → OwnO K ρ Φ o lv') (hn : ∀ d, x.lv ≠ .sh d) (hn2 : ∀ d, x.lv ≠ .rv d) :
    Stt K pv own ρ Φ Ψ ts { st with ls := st.ls.set i (some { x with lv := lv' }) } σ H := by
  obtain ⟨v, h1, h2, h3⟩ := z.slots i x hx
  obtain ⟨lv, p, c⟩ := x
  cases h2 with
  | sh r => exact absurd rfl (hn _)
  | rf _ _ _ => exact absurd rfl (hn2 _)
  | rp _ _ => exact absurd rfl (hn2 _)
  | ow g1 g2 g3 => exact z.slotTo hx h1 h3 own Φ H (Mon.refl _ _) (fun t b u n e q => ⟨q, e⟩) (.ow g1 (hr _ g2) g3) z.phi z.dPhi z.dom fun _ e => e
  | kl g1 g2 =>
    have g3 := hr (.frz ⟨.none, none, .seq #[] 0, #[]⟩ (.lst _)) (.scr g2)
    cases g3 with
    | scr g3 => exact z.slotTo hx h1 h3 own Φ H (Mon.refl _ _) (fun t b u n e q => ⟨q, e⟩) (.kl g1 g3) z.phi z.dPhi z.dom fun _ e => e
/-- a slot's list is changed by nobody any more -/
theorem Stt.freezeS {i : Nat} {x : Sl} {ds : List PyData} (z : Stt K pv own ρ Φ Ψ ts st σ H) (hx : st.ls[i]? = some (some x)) (hl : x.lv = .lst ds) :
    ∃ own' Φ', Mon ρ Φ ρ Φ' ∧ Stt K pv own' ρ Φ' Ψ ts { st with ls := st.ls.set i (some { x with lv := .sh (.list ds) }) } σ H := by
  obtain ⟨v, h1, h2, h3⟩ := z.slots i x hx
  obtain ⟨lv, p, c⟩ := x
  cases hl
  cases h2 with
  | @ow a o _ g1 g2 g3 =>
  cases g2 with
  | @lst vs _ r =>
    have hn : Φ a = none := z.dPhi a _ g3
    have m : Mon ρ Φ ρ (upd Φ a (.lst vs)) := mon_new hn
    refine ⟨unTag own (.slot i), upd Φ a (.lst vs), m, z.slotTo hx h1 h3 _ _ H m (fun t b u n e q => ⟨q, unTag_ne e n⟩) (.sh (.lst upd_same (r.mono m))) (fun b u e => ?_) (fun b t e => ?_) (fun b t e => z.dom b t (unTag_some e).1) fun b e => (unTag_some e).1⟩
    · by_cases hb : b = a
      · rw [hb, upd_same] at e; rw [hb, ← e]; exact g1
      · rw [upd_ne hb] at e; exact z.phi b u e
    · obtain ⟨e1, e2⟩ := unTag_some e
      have hb : b ≠ a := fun q => by rw [q, g3] at e1; exact e2 (Option.some.inj e1).symm
      rw [upd_ne hb]; exact z.dPhi b t e1
/-- the newest temporary goes into a slot -/
theorem Stt.store {i : Nat} {v : V} {l : LV} {c : Bool} (z : Stt K pv own ρ Φ Ψ ((v, .lv l) :: ts) st σ H) (hi : i < st.ls.length) (hts : ∀ w, (w, Opd.slot i) ∉ ts) :
    ∃ own', Stt K pv own' ρ Φ Ψ ts { st with ls := st.ls.set i (some ⟨l, false, c⟩) } (σ.set i (some v)) H := by
  have hσ : i < σ.length := by rw [← z.len]; exact hi
  have k : ∀ (t : Tag) (b : Addr) (u : HO), t ≠ .tmp ts.length → own b = some t → H b = some u → H b = some u ∧ reTag own (.tmp ts.length) (.slot i) b = some t := fun t b u n e q => ⟨q, reTag_ne e n⟩
  obtain ⟨hl, hrest⟩ := z.temps
  have tk := z.tabsK (own' := reTag own (.tmp ts.length) (.slot i)) (H' := H) (fun t b u ht e q => k t b u (by rcases ht with rfl | rfl | rfl <;> exact fun q => by cases q) e q) (fun b e => by
    rcases reTag_some e with ⟨_, e2⟩ | ⟨e1, _⟩
    · cases e2
    · exact e1)
  refine ⟨reTag own (.tmp ts.length) (.slot i), { phi := z.phi, psi := z.psi, dPhi := fun b t e => ?_, dPsi := fun b u e => reTag_ne (z.dPsi b u e) (fun q => by cases q), dom := fun b t e => ?_, len := by simpa using z.len, slots := fun j x e => ?_, temps := ?_, tabs := tk.1, tabsIn := tk.2.1, codsIn := tk.2.2.1, rcl := z.rcl, cach := tk.2.2.2 }⟩
  · rcases reTag_some e with ⟨e1, _⟩ | ⟨e1, _⟩
    · exact z.dPhi b _ e1
    · exact z.dPhi b _ e1
  · rcases reTag_some e with ⟨e1, _⟩ | ⟨e1, _⟩
    · exact z.dom b _ e1
    · exact z.dom b _ e1
  · rcases set_get e with ⟨ej, ey⟩ | ⟨hj, e⟩
    · cases ey
      rw [ej]
      refine ⟨v, List.getElem?_set_self hσ, hl.mono (Mon.refl _ _) (fun a o e q => ⟨q, reTag_old e⟩) (fun a o => k _ a o (fun q => by cases q)), fun h => by cases h⟩
    · obtain ⟨w, h1, h2, h3⟩ := z.slots j x e
      exact ⟨w, by rw [List.getElem?_set_ne (Ne.symm hj)]; exact h1, h2.mono (Mon.refl _ _) (fun a o => k _ a o (fun q => by cases q)) (fun a o => k _ a o (fun q => by cases q)), h3⟩
  · have go : ∀ {us : List (V × Opd)}, us.length ≤ ts.length → (∀ w, (w, Opd.slot i) ∉ us) → TsOk K own ρ Φ H st.ls σ us → TsOk K (reTag own (.tmp ts.length) (.slot i)) ρ Φ H (st.ls.set i (some ⟨l, false, c⟩)) (σ.set i (some v)) us := by
      intro us
      induction us with
      | nil => exact fun _ _ _ => trivial
      | cons q us ih =>
        intro hn hs
        simp only [List.length_cons] at hn
        obtain ⟨w, o⟩ := q
        cases o with
        | lv l => exact fun h => ⟨h.1.mono (Mon.refl _ _) (fun a o => k _ a o (fun q => by have := Tag.tmp.inj q; omega)) (fun a o => k _ a o (fun q => by cases q)), ih (by omega) (fun w hw => hs w (List.mem_cons_of_mem _ hw)) h.2⟩
        | slot j =>
          intro h
          have hj : i ≠ j := fun q => by subst q; exact hs w List.mem_cons_self
          refine ⟨⟨by rw [List.getElem?_set_ne hj]; exact h.1.1, ?_⟩, ih (by omega) (fun w hw => hs w (List.mem_cons_of_mem _ hw)) h.2⟩
          obtain ⟨y, e1, e2⟩ := h.1.2
          exact ⟨y, by rw [List.getElem?_set_ne hj]; exact e1, e2⟩
    exact go (Nat.le_refl _) hts hrest
/-- the temporary below the newest goes -/
theorem Stt.drop1 {v w : V} {l : LV} {o : Opd} (z : Stt K pv own ρ Φ Ψ ((v, .lv l) :: (w, o) :: ts) st σ H) : ∃ own', Stt K pv own' ρ Φ Ψ ((v, .lv l) :: ts) st σ H := by
  obtain ⟨hl, hrest⟩ := z.temps
  have hrest := tsOk_tail hrest
  have hlen : ((w, o) :: ts).length = ts.length + 1 := rfl
  rw [hlen] at hl
  -- the tag of the newest becomes the lower one's; what bore the lower one's loses it
  refine ⟨reTag (unTag own (.tmp ts.length)) (.tmp (ts.length + 1)) (.tmp ts.length), ?_⟩
  have k : ∀ (t : Tag) (b : Addr) (u : HO), t ≠ .tmp ts.length → t ≠ .tmp (ts.length + 1) → own b = some t → H b = some u → H b = some u ∧ reTag (unTag own (.tmp ts.length)) (.tmp (ts.length + 1)) (.tmp ts.length) b = some t := fun t b u n n' e q => ⟨q, reTag_ne (unTag_ne e n) n'⟩
  have back : ∀ b t, reTag (unTag own (.tmp ts.length)) (.tmp (ts.length + 1)) (.tmp ts.length) b = some t → ∃ t', own b = some t' ∧ (t = t' ∨ t = .tmp ts.length) := fun b t e => by
    rcases reTag_some e with ⟨e1, e2⟩ | ⟨e1, _⟩
    · exact ⟨_, (unTag_some e1).1, .inr e2⟩
    · exact ⟨_, (unTag_some e1).1, .inl rfl⟩
  have tk := z.tabsK (own' := reTag (unTag own (.tmp ts.length)) (.tmp (ts.length + 1)) (.tmp ts.length)) (H' := H) (fun t b u ht e q => k t b u (by rcases ht with rfl | rfl | rfl <;> exact fun q => by cases q) (by rcases ht with rfl | rfl | rfl <;> exact fun q => by cases q) e q) (fun b e => by
    obtain ⟨t', e1, e2⟩ := back b _ e
    rcases e2 with e2 | e2
    · rw [e1, ← e2]
    · cases e2)
  refine { phi := z.phi, psi := z.psi, dPhi := fun b t e => ?_, dPsi := fun b u e => (k _ b u (fun q => by cases q) (fun q => by cases q) (z.dPsi b u e) (z.psi b u e)).2, dom := fun b t e => ?_, len := z.len, slots := fun j x e => ?_, temps := ?_, tabs := tk.1, tabsIn := tk.2.1, codsIn := tk.2.2.1, rcl := z.rcl, cach := tk.2.2.2 }
  · obtain ⟨t', e1, _⟩ := back b t e
    exact z.dPhi b _ e1
  · obtain ⟨t', e1, _⟩ := back b t e
    exact z.dom b _ e1
  · obtain ⟨w, h1, h2, h3⟩ := z.slots j x e
    exact ⟨w, h1, h2.mono (Mon.refl _ _) (fun a o => k _ a o (fun q => by cases q) (fun q => by cases q)) (fun a o => k _ a o (fun q => by cases q) (fun q => by cases q)), h3⟩
  · refine ⟨hl.mono (Mon.refl _ _) (fun a o e q => ⟨q, reTag_old (unTag_ne e (fun q => by have := Tag.tmp.inj q; omega))⟩) (fun a o => k _ a o (fun q => by cases q) (fun q => by cases q)), ?_⟩
    exact TsOk.tagNe _ _ _ (Mon.refl _ _) ts.length (fun j a o hj => k _ a o (fun q => by have := Tag.tmp.inj q; omega) (fun q => by have := Tag.tmp.inj q; omega)) (fun a o => k _ a o (fun q => by cases q) (fun q => by cases q)) (Nat.le_refl _) hrest
end

/-! ### the judgements -/
def SE (X : Cx) (e : Expr) : TE := fun σ H Q => ∀ (pins : List (Addr × Obj)) (s : Shared), Inv X pins σ H s → wpAny (model X.prog X.w) X.A (eval e X.env) (EP X pins σ Q) X.xe s
def ST (X : Cx) (e : Expr) : TT := fun σ H Q => ∀ (pins : List (Addr × Obj)) (s : Shared), Inv X pins σ H s → wpAny (model X.prog X.w) X.A (isTrue e X.env (eval e X.env)) (TP X pins σ Q) X.xe s
def SW (X : Cx) (e : Expr) : TT := fun σ H Q => ∀ (whole : Sem Value) (pins : List (Addr × Obj)) (s : Shared), Inv X pins σ H s → wpAny (model X.prog X.w) X.A (isTrue e X.env whole) (TP X pins σ Q) X.xe s
def SA (X : Cx) (es : List Expr) : TA := fun σ H Q => ∀ (pos : Pos) (pins : List (Addr × Obj)) (s : Shared), Inv X pins σ H s → wpAny (model X.prog X.w) X.A (spliced (backTo pos (starEach es X.env))) (AP X pins σ Q) X.xe s
def SS (X : Cx) (st : Stmt) : TS := fun D σ H => ∀ (pins : List (Addr × Obj)) (s : Shared), Inv X pins σ H s → wpAny (model X.prog X.w) X.A (exec st X.env) (SP X pins D) X.xe s
def SSs (X : Cx) (st : List Stmt) : TS := fun D σ H => ∀ (pins : List (Addr × Obj)) (s : Shared), Inv X pins σ H s → wpAny (model X.prog X.w) X.A (execs st X.env) (SP X pins D) X.xe s
section
variable {X : Cx}
theorem pe_SE {e : Expr} : PE X e (SE X e) := ⟨fun pins s _ _ _ I h => h pins s I⟩
theorem pt_ST {e : Expr} : PT X e (ST X e) := ⟨fun pins s _ _ _ I h => h pins s I⟩
theorem pw_SW {e : Expr} : PW X e (SW X e) := ⟨fun whole pins s _ _ _ I h => h whole pins s I⟩
theorem pa_SA {es : List Expr} : PA X es (SA X es) := ⟨fun pos pins s _ _ _ I h => h pos pins s I⟩
theorem ps_SS {st : Stmt} : PS X st (SS X st) := ⟨fun pins s _ _ _ I h => h pins s I⟩
theorem pss_SSs {st : List Stmt} : PSs X st (SSs X st) := ⟨fun pins s _ _ _ I h => h pins s I⟩
theorem se_of {e : Expr} {t : TE} (p : PE X e t) {σ : L2.St} {H : Hp} {Q : VK} (h : t σ H Q) : SE X e σ H Q := fun pins s I => p.run pins s σ H Q I h
theorem st_of {e : Expr} {t : TT} (p : PT X e t) {σ : L2.St} {H : Hp} {Q : Bool → Hp → Prop} (h : t σ H Q) : ST X e σ H Q := fun pins s I => p.run pins s σ H Q I h
theorem sw_of {e : Expr} {t : TT} (p : PW X e t) {σ : L2.St} {H : Hp} {Q : Bool → Hp → Prop} (h : t σ H Q) : SW X e σ H Q := fun whole pins s I => p.run whole pins s σ H Q I h
theorem sa_of {es : List Expr} {t : TA} (p : PA X es t) {σ : L2.St} {H : Hp} {Q : List V → Hp → Prop} (h : t σ H Q) : SA X es σ H Q := fun pos pins s I => p.run pos pins s σ H Q I h
theorem ss_of {st : Stmt} {t : TS} (p : PS X st t) {σ : L2.St} {H : Hp} {D : Ends} (h : t D σ H) : SS X st D σ H := fun pins s I => p.run pins s σ H D I h
theorem sss_of {st : List Stmt} {t : TS} (p : PSs X st t) {σ : L2.St} {H : Hp} {D : Ends} (h : t D σ H) : SSs X st D σ H := fun pins s I => p.run pins s σ H D I h
end
/-- the expression does what m says of the pure state -/
abbrev ME := S → Option (Opd × S)
abbrev MT := S → Option (Bool × S)
abbrev MA := S → Option (List Opd × S)
inductive Fl where
  | nx | bk | ct | rt (l : LV)
abbrev MS := S → Option (Fl × S)
def DE (X : Cx) (pv : PV) (e : Expr) (m : ME) : Prop := ∀ st o st', m st = some (o, st') → Kp st st' ∧
  ∀ own ρ Φ Ψ ts σ H, Stt X.K pv own ρ Φ Ψ ts st σ H → ∀ Q : VK, (∀ own' ρ' Φ' H' v, Mon ρ Φ ρ' Φ' → Stt X.K pv own' ρ' Φ' Ψ ((v, o) :: ts) st' σ H' → Q v H') → SE X e σ H Q
def DT (X : Cx) (pv : PV) (e : Expr) (m : MT) : Prop := ∀ st b st', m st = some (b, st') → Kp st st' ∧
  ∀ own ρ Φ Ψ ts σ H, Stt X.K pv own ρ Φ Ψ ts st σ H → ∀ Q : Bool → Hp → Prop, (∀ own' ρ' Φ' H', Mon ρ Φ ρ' Φ' → Stt X.K pv own' ρ' Φ' Ψ ts st' σ H' → Q b H') → ST X e σ H Q
def DW (X : Cx) (pv : PV) (e : Expr) (m : MT) : Prop := ∀ st b st', m st = some (b, st') → Kp st st' ∧
  ∀ own ρ Φ Ψ ts σ H, Stt X.K pv own ρ Φ Ψ ts st σ H → ∀ Q : Bool → Hp → Prop, (∀ own' ρ' Φ' H', Mon ρ Φ ρ' Φ' → Stt X.K pv own' ρ' Φ' Ψ ts st' σ H' → Q b H') → SW X e σ H Q
def pushTs : List V → List Opd → List (V × Opd) → List (V × Opd)
  | v :: vs, o :: os, ts => pushTs vs os ((v, o) :: ts)
  | _, _, ts => ts
def DA (X : Cx) (pv : PV) (es : List Expr) (m : MA) : Prop := ∀ st os st', m st = some (os, st') → Kp st st' ∧ os.length = es.length ∧
  ∀ own ρ Φ Ψ ts σ H, Stt X.K pv own ρ Φ Ψ ts st σ H → ∀ Q : List V → Hp → Prop, (∀ own' ρ' Φ' H' vs, Mon ρ Φ ρ' Φ' → vs.length = os.length → Stt X.K pv own' ρ' Φ' Ψ (pushTs vs os ts) st' σ H' → Q vs H') → SA X es σ H Q
/-- no temporary but the locked lists that loops walk -/
def Pins (ts : List (V × Opd)) (st : S) : Prop := ∀ w i, (w, Opd.slot i) ∈ ts → ∃ x, st.ls[i]? = some (some x) ∧ x.lv.isRo = true
def Aft (K : PySem.W.Frag) (pv : PV) (ρ : Rho) (Φ Ψ : Hp) (ts : List (V × Opd)) (st' : S) (D : Ends) : Fl → Prop
  | .nx => ∀ own' ρ' Φ' σ' H', Mon ρ Φ ρ' Φ' → Stt K pv own' ρ' Φ' Ψ ts st' σ' H' → D.nx σ' H'
  | .bk => ∀ own' ρ' Φ' σ' H', Mon ρ Φ ρ' Φ' → Stt K pv own' ρ' Φ' Ψ ts st' σ' H' → D.bk σ' H'
  | .ct => ∀ own' ρ' Φ' σ' H', Mon ρ Φ ρ' Φ' → Stt K pv own' ρ' Φ' Ψ ts st' σ' H' → D.ct σ' H'
  | .rt l => ∀ own' ρ' Φ' σ' H' v, Mon ρ Φ ρ' Φ' → Stt K pv own' ρ' Φ' Ψ ((v, .lv l) :: ts) st' σ' H' → D.rt v H'
def DS (X : Cx) (pv : PV) (s : Stmt) (m : MS) : Prop := ∀ st f st', m st = some (f, st') → Kp st st' ∧
  ∀ own ρ Φ Ψ ts σ H, Stt X.K pv own ρ Φ Ψ ts st σ H → Pins ts st → ∀ D : Ends, Aft X.K pv ρ Φ Ψ ts st' D f → SS X s D σ H
def DSs (X : Cx) (pv : PV) (s : List Stmt) (m : MS) : Prop := ∀ st f st', m st = some (f, st') → Kp st st' ∧
  ∀ own ρ Φ Ψ ts σ H, Stt X.K pv own ρ Φ Ψ ts st σ H → Pins ts st → ∀ D : Ends, Aft X.K pv ρ Φ Ψ ts st' D f → SSs X s D σ H
theorem Pins.kp {ts : List (V × Opd)} {st st' : S} (h : Pins ts st) (k : Kp st st') : Pins ts st' := fun w i e => by
  obtain ⟨x, q, r⟩ := h w i e
  exact ⟨x, k.ro i x q r, r⟩
theorem Aft.mon {K : PySem.W.Frag} {pv : PV} {ρ ρ' : Rho} {Φ Φ' Ψ : Hp} {ts : List (V × Opd)} {st' : S} {D : Ends} {f : Fl} (m : Mon ρ Φ ρ' Φ') (h : Aft K pv ρ Φ Ψ ts st' D f) : Aft K pv ρ' Φ' Ψ ts st' D f := by
  cases f <;> intro own' ρ2 Φ2 σ' H' <;> first
    | exact fun m' z => h own' ρ2 Φ2 σ' H' (m.trans m') z
    | exact fun v m' z => h own' ρ2 Φ2 σ' H' v (m.trans m') z
end Dn
set_option Elab.async false
set_option linter.all false
set_option maxRecDepth 100000
set_option maxHeartbeats 4000000
/-! Den, part 2: operations by values. -/
namespace Dn
open PySem PySem.Spec PyProof.Rows L2

def LV.rd? : LV → Option (List PyData)
  | .sh (.list ds) => some ds
  | .lst ds => some ds
  | .ro ds => some ds
  | .rv ds => some ds
  | .scr ds => some ds
  | _ => none
def LV.cat? : LV → Option (List PyData)
  | .sh (.list ds) => some ds
  | .lst ds => some ds
  | .ro ds => some ds
  | .rv ds => some ds
  | _ => none
def LV.tup? : LV → Option (List PyData)
  | .sh (.tuple ds) => some ds
  | _ => none
/-- a list's or tuple's items -/
def LV.seq? : LV → Option (List PyData)
  | .sh (.list ds) => some ds
  | .sh (.tuple ds) => some ds
  | .lst ds => some ds
  | .ro ds => some ds
  | .rv ds => some ds
  | .scr ds => some ds
  | _ => none
def LV.toD? : LV → Option PyData
  | .sh d => some d
  | .lst ds => some (.list ds)
  | .ro ds => some (.list ds)
  | .rv ds => some (.list ds)
  | .scr ds => some (.list ds)
  | _ => none
abbrev LvR (K : PySem.W.Frag) (own : Addr → Option Tag) (ρ : Rho) (Φ H : Hp) (v : V) (l : LV) : Prop := ∃ t, LvOk K own ρ Φ H t v l
section
variable {K : PySem.W.Frag} {own : Addr → Option Tag} {ρ : Rho} {Φ H : Hp} {v : V} {l : LV}
theorem LvR.cat {ds : List PyData} (h : LvR K own ρ Φ H v l) (e : l.cat? = some ds) (p : Same Φ H) : ∃ a vs, v = .ref a ∧ H a = some (.lst vs) ∧ RpA K ρ Φ vs ds := by
  obtain ⟨t, h⟩ := h
  cases h with
  | sh r =>
    cases r <;> simp only [LV.cat?] at e <;> try cases e
    rename_i a vs hv r
    exact ⟨_, _, rfl, p _ _ hv, r⟩
  | @ow a o l h1 h2 h3 =>
    cases h2 <;> simp only [LV.cat?] at e <;> cases e <;> exact ⟨_, _, rfl, h1, by assumption⟩
  | kl h1 h2 => simp only [LV.cat?] at e; cases e
  | rf h1 _ h2 => simp only [LV.cat?] at e; cases e; exact ⟨_, _, rfl, h1, h2⟩
  | rp h1 h2 => simp only [LV.cat?] at e; cases e; exact ⟨_, _, rfl, p _ _ h1, h2⟩
theorem LvR.rd {ds : List PyData} (h : LvR K own ρ Φ H v l) (e : l.rd? = some ds) (p : Same Φ H) : ∃ a vs, v = .ref a ∧ SqL K H a vs ∧ RpA K ρ Φ vs ds := by
  obtain ⟨t, h⟩ := h
  cases h with
  | sh r =>
    cases r <;> simp only [LV.rd?] at e <;> try cases e
    rename_i a vs hv r
    exact ⟨_, _, rfl, .inl (.inl (p _ _ hv)), r⟩
  | @ow a o l h1 h2 h3 =>
    cases h2 <;> simp only [LV.rd?] at e <;> cases e
    · exact ⟨_, _, rfl, .inl (.inl h1), by assumption⟩
    · exact ⟨_, _, rfl, .inl (.inl h1), by assumption⟩
    · exact ⟨_, _, rfl, .inl (.inr ⟨_, h1⟩), by assumption⟩
    · exact ⟨_, _, rfl, .inl (.inl h1), by assumption⟩
    · exact ⟨_, _, rfl, .inl (.inl h1), by assumption⟩
  | kl h1 h2 => simp only [LV.rd?] at e; cases e; exact ⟨_, _, rfl, h1 H, h2⟩
  | rf h1 _ h2 => simp only [LV.rd?] at e; cases e; exact ⟨_, _, rfl, .inl (.inl h1), h2⟩
  | rp h1 h2 => simp only [LV.rd?] at e; cases e; exact ⟨_, _, rfl, .inl (.inl (p _ _ h1)), h2⟩
theorem LvR.tup {ds : List PyData} (h : LvR K own ρ Φ H v l) (e : l.tup? = some ds) (p : Same Φ H) : ∃ a vs, v = .ref a ∧ SqT K H a vs ∧ RpA K ρ Φ vs ds := by
  obtain ⟨t, h⟩ := h
  cases h with
  | sh r =>
    cases r <;> simp only [LV.tup?] at e <;> try cases e
    rename_i a vs hv r
    exact ⟨_, _, rfl, .inl (.inl (p _ _ hv)), r⟩
  | @ow a o l h1 h2 h3 => cases h2 <;> simp only [LV.tup?] at e <;> cases e
  | kl h1 h2 => simp only [LV.tup?] at e; cases e
  | rf h1 _ h2 => simp only [LV.tup?] at e; cases e
  | rp h1 h2 => simp only [LV.tup?] at e; cases e
theorem seq_of {ds : List PyData} (e : l.seq? = some ds) : l.rd? = some ds ∨ l.tup? = some ds := by
  cases l with
  | sh d => cases d <;> simp only [LV.seq?] at e <;> first | (cases e; done) | exact .inl e | exact .inr e
  | _ => first | exact .inl e | (simp only [LV.seq?] at e; cases e)
theorem LvR.seq {ds : List PyData} (h : LvR K own ρ Φ H v l) (e : l.seq? = some ds) (p : Same Φ H) : ∃ a vs, v = .ref a ∧ (SqL K H a vs ∨ SqT K H a vs) ∧ RpA K ρ Φ vs ds := by
  rcases seq_of e with e | e
  · obtain ⟨a, vs, h1, h2, h3⟩ := h.rd e p
    exact ⟨a, vs, h1, .inl h2, h3⟩
  · obtain ⟨a, vs, h1, h2, h3⟩ := h.tup e p
    exact ⟨a, vs, h1, .inr h2, h3⟩
theorem tup_eq {ds : List PyData} (e : l.tup? = some ds) : l = .sh (.tuple ds) := by
  unfold LV.tup? at e
  split at e
  · cases e; rfl
  · cases e
theorem LvR.sh {d : PyData} (h : LvR K own ρ Φ H v (.sh d)) : Rp K ρ Φ v d := by
  obtain ⟨t, h⟩ := h
  cases h with
  | sh r => exact r
  | @ow a o l h1 h2 h3 => cases h2
theorem LvR.dp {d : PyData} (h : LvR K own ρ Φ H v l) (e : l.toD? = some d) (c : d.canLay0 = true) (p : Same Φ H) : Dp K H v d := by
  cases l with
  | sh d' => 
    have e' : d' = d := Option.some.inj e
    subst e'
    exact (LvR.sh h).dp p d' c
  | lst ds =>
    have e' : PyData.list ds = d := Option.some.inj e
    subst e'
    obtain ⟨a, vs, rfl, h1, h2⟩ := h.rd (ds := ds) rfl p
    exact .lst h1 (RpA.dp p ds h2 (by simpa [PyData.canLay0] using c))
  | ro ds =>
    have e' : PyData.list ds = d := Option.some.inj e
    subst e'
    obtain ⟨a, vs, rfl, h1, h2⟩ := h.rd (ds := ds) rfl p
    exact .lst h1 (RpA.dp p ds h2 (by simpa [PyData.canLay0] using c))
  | scr ds =>
    have e' : PyData.list ds = d := Option.some.inj e
    subst e'
    obtain ⟨a, vs, rfl, h1, h2⟩ := h.rd (ds := ds) rfl p
    exact .lst h1 (RpA.dp p ds h2 (by simpa [PyData.canLay0] using c))
  | rv ds =>
    have e' : PyData.list ds = d := Option.some.inj e
    subst e'
    obtain ⟨a, vs, rfl, h1, h2⟩ := h.rd (ds := ds) rfl p
    exact .lst h1 (RpA.dp p ds h2 (by simpa [PyData.canLay0] using c))
  | _ => cases e
end

/-! ### two-place operations -/
def SOp (X : Cx) (f : Value → Value → Sem Value) : R2 := fun x y H Q => ∀ (pins : List (Addr × Obj)) (s : Shared) (σ : L2.St) (v u : Value), Inv X pins σ H s → RelV x v → RelV y u → wpAny (model X.prog X.w) X.A (f v u) (EP X pins σ Q) X.xe s
theorem opR_SOp {X : Cx} {f : Value → Value → Sem Value} : OpR X f (SOp X f) := fun pins s σ _ _ _ v u _ I rx ry h => h pins s σ v u I rx ry
theorem sop_of {X : Cx} {f : Value → Value → Sem Value} {r : R2} (h : OpR X f r) {x y : V} {H : Hp} {Q : VK} (q : r x y H Q) : SOp X f x y H Q := fun pins s σ v u I rx ry => h pins s σ H x y v u Q I rx ry q
def OpD (X : Cx) (f : Value → Value → Sem Value) (g : LV → LV → Option LV) : Prop :=
  ∀ (own : Addr → Option Tag) (ρ : Rho) (Φ H : Hp) (x y : V) (l1 l2 r : LV), g l1 l2 = some r → LvR X.K own ρ Φ H x l1 → LvR X.K own ρ Φ H y l2 → Same Φ H → ∀ Q : VK, (∀ v H', Res X.K ρ Φ H r v H' → Q v H') → SOp X f x y H Q
/-- a function on ints -/
def gI (C : Int → Int → Bool) (g : Int → Int → PyData) : LV → LV → Option LV
  | .sh (.int i), .sh (.int j) => if C i j then some (.sh (g i j)) else none
  | _, _ => none
theorem gI_some {C : Int → Int → Bool} {g : Int → Int → PyData} {a b r : LV} (h : gI C g a b = some r) : ∃ i j, a = .sh (.int i) ∧ b = .sh (.int j) ∧ C i j = true ∧ r = .sh (g i j) := by
  unfold gI at h
  split at h
  · rename_i i j
    by_cases c : C i j = true
    · rw [if_pos c] at h
      exact ⟨i, j, rfl, rfl, c, (Option.some.inj h).symm⟩
    · rw [if_neg c] at h; cases h
  · cases h
theorem lv_int {K : PySem.W.Frag} {own : Addr → Option Tag} {ρ : Rho} {Φ H : Hp} {v : V} {i : Int} (h : LvR K own ρ Φ H v (.sh (.int i))) : v = .int i := by
  have r := LvR.sh h
  cases r
  rfl
theorem lv_str {K : PySem.W.Frag} {own : Addr → Option Tag} {ρ : Rho} {Φ H : Hp} {v : V} {i : Str} (h : LvR K own ρ Φ H v (.sh (.str i))) : v = .str i := by
  have r := LvR.sh h
  cases r
  rfl
theorem lv_bl {K : PySem.W.Frag} {own : Addr → Option Tag} {ρ : Rho} {Φ H : Hp} {v : V} {i : Bool} (h : LvR K own ρ Φ H v (.sh (.bool i))) : v = .bl i := by
  have r := LvR.sh h
  cases r
  rfl
section
variable {X : Cx}
theorem opd_I {f : Value → Value → Sem Value} {C : Int → Int → Prop} {gv : Int → Int → V} {Cb : Int → Int → Bool} {gd : Int → Int → PyData} (h : OpR X f (rI C gv)) (hC : ∀ i j, Cb i j = true → C i j) (hg : ∀ K ρ Φ i j, Rp K ρ Φ (gv i j) (gd i j)) : OpD X f (gI Cb gd) := by
  intro own ρ Φ H x y l1 l2 r e hx hy p Q q
  obtain ⟨i, j, rfl, rfl, c, rfl⟩ := gI_some e
  rw [lv_int hx, lv_int hy]
  exact sop_of h ⟨i, j, rfl, rfl, hC i j c, q _ _ (.same (hg _ _ _ i j))⟩
theorem opd_I0 {f : Value → Value → Sem Value} {gv : Int → Int → V} {gd : Int → Int → PyData} (h : OpR X f (rI0 gv)) (hg : ∀ K ρ Φ i j, Rp K ρ Φ (gv i j) (gd i j)) : OpD X f (gI (fun _ _ => true) gd) := by
  intro own ρ Φ H x y l1 l2 r e hx hy p Q q
  obtain ⟨i, j, rfl, rfl, c, rfl⟩ := gI_some e
  rw [lv_int hx, lv_int hy]
  exact sop_of h ⟨i, j, rfl, rfl, q _ _ (.same (hg _ _ _ i j))⟩
theorem OpD.or {f : Value → Value → Sem Value} {g g' : LV → LV → Option LV} (h : OpD X f g) (h' : OpD X f g') : OpD X f (fun a b => (g a b).orElse fun _ => g' a b) := by
  intro own ρ Φ H x y l1 l2 r e hx hy p Q q
  cases e1 : g l1 l2 with
  | some r' =>
    have er : r' = r := by
      simp only [e1, Option.orElse] at e
      exact Option.some.inj e
    subst er
    exact h own ρ Φ H x y l1 l2 r' e1 hx hy p Q q
  | none =>
    simp only [e1, Option.orElse] at e
    exact h' own ρ Φ H x y l1 l2 r e hx hy p Q q
/-- ints, then texts, lists, tuples -/
def gAddI : LV → LV → Option LV := gI (fun _ _ => true) fun i j => .int (i + j)
def gAddS : LV → LV → Option LV
  | .sh (.str x), .sh (.str y) => if x.length + y.length ≤ 16777216 then some (.str (x ++ y)) else none
  | _, _ => none
def gAddL : LV → LV → Option LV := fun a b => match a.cat?, b.cat? with
  | some xs, some ys => if xs.length + ys.length ≤ 16777216 then some (.lst (xs ++ ys)) else none
  | _, _ => none
def gAddT : LV → LV → Option LV := fun a b => match a.tup?, b.tup? with
  | some xs, some ys => if xs.length + ys.length ≤ 16777216 then some (.sh (.tuple (xs ++ ys))) else none
  | _, _ => none
theorem opd_addI : OpD X (binaryOp .Add) gAddI := opd_I0 op_add fun _ _ _ i j => .int (i + j)
theorem opd_addS : OpD X (binaryOp .Add) gAddS := by
  intro own ρ Φ H x y l1 l2 r e hx hy p Q q
  unfold gAddS at e
  split at e
  · rename_i a b
    split at e
    · cases e
      rename_i hz
      rw [lv_str hx, lv_str hy]
      exact sop_of op_add_str ⟨a, b, rfl, rfl, by rw [sizeLine_eq]; exact hz, q _ _ (.same (.str _))⟩
    · cases e
  · cases e
theorem opd_addL : OpD X (binaryOp .Add) gAddL := by
  intro own ρ Φ H x y l1 l2 r e hx hy p Q q
  unfold gAddL at e
  cases e1 : l1.cat? with
  | none => simp only [e1] at e; cases e
  | some xs =>
    cases e2 : l2.cat? with
    | none => simp only [e1, e2] at e; cases e
    | some ys =>
      simp only [e1, e2] at e
      split at e
      · rename_i hz
        cases e
        obtain ⟨a, vs, rfl, h1, r1⟩ := hx.cat e1 p
        obtain ⟨b, ws, rfl, h2, r2⟩ := hy.cat e2 p
        refine sop_of op_cat ⟨a, b, vs, ws, rfl, rfl, h1, h2, ?_, fun p' np => q _ _ (.new np (.lst (r1.append r2)))⟩
        rw [sizeLine_eq, r1.length, r2.length]
        exact hz
      · cases e
theorem opd_addT : OpD X (binaryOp .Add) gAddT := by
  intro own ρ Φ H x y l1 l2 r e hx hy p Q q
  unfold gAddT at e
  cases e1 : l1.tup? with
  | none => simp only [e1] at e; cases e
  | some xs =>
    cases e2 : l2.tup? with
    | none => simp only [e1, e2] at e; cases e
    | some ys =>
      simp only [e1, e2] at e
      split at e
      · rename_i hz
        cases e
        obtain ⟨a, vs, rfl, h1, r1⟩ := hx.tup e1 p
        obtain ⟨b, ws, rfl, h2, r2⟩ := hy.tup e2 p
        have el1 : l1 = .sh (.tuple xs) := tup_eq e1
        have el2 : l2 = .sh (.tuple ys) := tup_eq e2
        subst el1 el2
        refine sop_of op_catA ⟨a, b, vs, ws, rfl, rfl, h1, h2, by rw [sizeLine_eq, r1.length, r2.length]; exact hz, fun h => ?_, fun _ h => ?_, fun _ _ p' np => q _ _ (.tup np (r1.append r2))⟩
        · subst h
          cases r1
          exact q _ _ (.same (LvR.sh hy))
        · subst h
          cases r2
          rw [List.append_nil] at q
          exact q _ _ (.same (LvR.sh hx))
      · cases e
def gAdd : LV → LV → Option LV := fun a b => (gAddI a b).orElse fun _ => (gAddL a b).orElse fun _ => (gAddT a b).orElse fun _ => gAddS a b
theorem opd_add : OpD X (binaryOp .Add) gAdd := opd_addI.or (opd_addL.or (opd_addT.or opd_addS))
def gSub : LV → LV → Option LV := gI (fun _ _ => true) fun i j => .int (i - j)
theorem opd_sub : OpD X (binaryOp .Sub) gSub := opd_I0 op_sub fun _ _ _ i j => .int (i - j)
def two64 : Int := 18446744073709551616
def gMulI : LV → LV → Option LV := gI (fun i j => decide ((-two64 < i ∧ i < two64) ∨ (-two64 < j ∧ j < two64))) fun i j => .int (i * j)
def gMulL : LV → LV → Option LV := fun a b => match a.cat?, b with
  | some xs, .sh (.int k) => if -1000000000 ≤ k ∧ k ≤ 1000000000 ∧ xs.length * k.toNat ≤ 16777216 then some (.lst (List.replicate k.toNat xs).flatten) else none
  | _, _ => none
theorem opd_mulI : OpD X (binaryOp .Mult) gMulI := opd_I op_mul (fun i j h => by
  have h := of_decide_eq_true h
  have e : two64 = 2 ^ 64 := by decide
  rw [e] at h
  exact h) fun _ _ _ i j => .int (i * j)
theorem RpA.rep {K : PySem.W.Frag} {ρ : Rho} {Φ : Hp} {vs : List V} {ds : List PyData} (r : RpA K ρ Φ vs ds) : ∀ n : Nat, RpA K ρ Φ (List.replicate n vs).flatten (List.replicate n ds).flatten
  | 0 => .nil
  | n + 1 => by
    rw [List.replicate_succ, List.replicate_succ, List.flatten_cons, List.flatten_cons]
    exact r.append (RpA.rep r n)
theorem opd_mulL : OpD X (binaryOp .Mult) gMulL := by
  intro own ρ Φ H x y l1 l2 r e hx hy p Q q
  unfold gMulL at e
  split at e
  · rename_i xs k e1
    split at e
    · rename_i hz
      cases e
      obtain ⟨a, vs, rfl, h1, r1⟩ := hx.cat e1 p
      rw [lv_int hy]
      refine sop_of op_rep ⟨a, k, vs, rfl, rfl, h1, by omega, by omega, by rw [sizeLine_eq, r1.length]; exact hz.2.2, fun p' np => q _ _ (.new np (.lst (r1.rep _)))⟩
    · cases e
  · cases e
def gMul : LV → LV → Option LV := fun a b => (gMulI a b).orElse fun _ => gMulL a b
theorem opd_mul : OpD X (binaryOp .Mult) gMul := opd_mulI.or opd_mulL
def gFdiv : LV → LV → Option LV := gI (fun _ j => decide (0 < j) && decide (j < 1073741824)) fun i j => .int (i / j)
theorem opd_fdiv : OpD X (binaryOp .FloorDiv) gFdiv := opd_I op_fdiv (fun i j h => by
  simp only [Bool.and_eq_true, decide_eq_true_eq] at h
  exact h) fun _ _ _ i j => .int (i / j)
def gMod : LV → LV → Option LV := gI (fun _ j => decide (0 < j)) fun i j => .int (i % j)
theorem opd_mod : OpD X (binaryOp .Mod) gMod := opd_I op_mod (fun i j h => by
  simp only [decide_eq_true_eq] at h
  exact h) fun _ _ _ i j => .int (i % j)
def gPow : LV → LV → Option LV := gI (fun i j => decide (0 ≤ j) && decide (j ≤ 1000000) && decide (i.natAbs < 18446744073709551616)) fun i j => .int (i ^ j.toNat)
theorem opd_pow : OpD X (binaryOp .Pow) gPow := opd_I op_pow (fun i j h => by
  simp only [Bool.and_eq_true, decide_eq_true_eq] at h
  show CPow i j
  unfold CPow
  omega) fun _ _ _ i j => .int (i ^ j.toNat)

/-! ### comparisons -/
def gLt : LV → LV → Option LV := gI (fun _ _ => true) fun i j => .bool (decide (i < j))
def gLe : LV → LV → Option LV := gI (fun _ _ => true) fun i j => .bool (decide (i ≤ j))
def gGt : LV → LV → Option LV := gI (fun _ _ => true) fun i j => .bool (decide (j < i))
def gGe : LV → LV → Option LV := gI (fun _ _ => true) fun i j => .bool (decide (j ≤ i))
theorem opd_lt : OpD X (compareOp .Lt) gLt := opd_I0 op_lt fun _ _ _ i j => .bl _
theorem opd_le : OpD X (compareOp .LtE) gLe := opd_I0 op_le fun _ _ _ i j => .bl _
theorem opd_gt : OpD X (compareOp .Gt) gGt := opd_I0 op_gt fun _ _ _ i j => .bl _
theorem opd_ge : OpD X (compareOp .GtE) gGe := opd_I0 op_ge fun _ _ _ i j => .bl _
def gEq : LV → LV → Option LV := fun a b => match a.toD?, b.toD? with
  | some d, some e => if SeqAt.shaped d && SeqAt.shaped e then some (.bl (PyData.eqv d e)) else none
  | _, _ => none
def gNe : LV → LV → Option LV := fun a b => match a.toD?, b.toD? with
  | some d, some e => if SeqAt.shaped d && SeqAt.shaped e then some (.bl (!PyData.eqv d e)) else none
  | _, _ => none
theorem opd_eq (hu : X.A.units + 65 < cLine) : OpD X (compareOp .Eq) gEq := by
  intro own ρ Φ H x y l1 l2 r e hx hy p Q q
  unfold gEq at e
  split at e
  · rename_i d d' e1 e2
    split at e
    · rename_i hs
      rw [Bool.and_eq_true] at hs
      cases e
      exact sop_of (op_eqD (by omega)) ⟨d, d', hx.dp e1 (SeqAt.canLay_of_shaped hs.1) p, hy.dp e2 (SeqAt.canLay_of_shaped hs.2) p, hs.1, hs.2, q _ _ (.same (.bl _))⟩
    · cases e
  · cases e
theorem opd_ne (hu : X.A.units + 65 < cLine) : OpD X (compareOp .NotEq) gNe := by
  intro own ρ Φ H x y l1 l2 r e hx hy p Q q
  unfold gNe at e
  split at e
  · rename_i d d' e1 e2
    split at e
    · rename_i hs
      rw [Bool.and_eq_true] at hs
      cases e
      exact sop_of (op_neD (by omega)) ⟨d, d', hx.dp e1 (SeqAt.canLay_of_shaped hs.1) p, hy.dp e2 (SeqAt.canLay_of_shaped hs.2) p, hs.1, hs.2, q _ _ (.same (.bl _))⟩
    · cases e
  · cases e
/-- x is None, x is not None -/
def gIsN (neg : Bool) : LV → LV → Option LV
  | .sh .none, .sh .none => some (.bl (!neg))
  | .sh _, .sh .none => some (.bl neg)
  | .lst _, .sh .none => some (.bl neg)
  | .rv _, .sh .none => some (.bl neg)
  | _, _ => none
theorem rp_non {K : PySem.W.Frag} {ρ : Rho} {Φ : Hp} {v : V} {d : PyData} (r : Rp K ρ Φ v d) : (decide (v = .non)) = (match d with | .none => true | _ => false) := by
  cases r <;> rfl
theorem opd_is : OpD X (compareOp .Is) (gIsN false) := by
  intro own ρ Φ H x y l1 l2 r e hx hy p Q q
  have hb : l2 = .sh .none ∧ ∃ b, r = .bl b ∧ decide (x = .non) = b := by
    unfold gIsN at e
    split at e
    · cases e; have := LvR.sh hx; cases this; exact ⟨rfl, _, rfl, rfl⟩
    · cases e
      rename_i d h1
      refine ⟨rfl, _, rfl, ?_⟩
      rw [rp_non (LvR.sh hx)]
      cases d <;> first | rfl | exact (h1 rfl).elim
    · cases e
      obtain ⟨t, hx⟩ := hx
      cases hx
      exact ⟨rfl, _, rfl, rfl⟩
    · cases e
      obtain ⟨t, hx⟩ := hx
      cases hx <;> exact ⟨rfl, _, rfl, rfl⟩
    · cases e
  obtain ⟨rfl, b, rfl, e2⟩ := hb
  have ry := LvR.sh hy
  cases ry
  refine sop_of op_isN ⟨rfl, ?_⟩
  rw [e2]
  exact q _ _ (.same (.bl _))
theorem opd_isNot : OpD X (compareOp .IsNot) (gIsN true) := by
  intro own ρ Φ H x y l1 l2 r e hx hy p Q q
  have hb : l2 = .sh .none ∧ ∃ b, r = .bl b ∧ (!decide (x = .non)) = b := by
    unfold gIsN at e
    split at e
    · cases e; have := LvR.sh hx; cases this; exact ⟨rfl, _, rfl, rfl⟩
    · cases e
      rename_i d h1
      refine ⟨rfl, _, rfl, ?_⟩
      rw [rp_non (LvR.sh hx)]
      cases d <;> first | rfl | exact (h1 rfl).elim
    · cases e
      obtain ⟨t, hx⟩ := hx
      cases hx
      exact ⟨rfl, _, rfl, rfl⟩
    · cases e
      obtain ⟨t, hx⟩ := hx
      cases hx <;> exact ⟨rfl, _, rfl, rfl⟩
    · cases e
  obtain ⟨rfl, b, rfl, e2⟩ := hb
  have ry := LvR.sh hy
  cases ry
  refine sop_of op_notN ⟨rfl, ?_⟩
  rw [e2]
  exact q _ _ (.same (.bl _))
/-- x in xs, a list or tuple -/
def gIn (neg : Bool) : LV → LV → Option LV := fun a b => match a.toD?, b.seq? with
  | some d, some ds => if SeqAt.shaped d && SeqAt.shaped (.list ds) then some (.bl (neg != (ds.any fun z => PyData.eqv z d))) else none
  | _, _ => none
theorem shaped_tup {ds : List PyData} (h : SeqAt.shaped (.list ds) = true) : SeqAt.shaped (.tuple ds) = true := h
theorem opd_inG (hu : X.A.units + 65 < cLine) (neg : Bool) : OpD X (compareOp (if neg then .NotIn else .In)) (gIn neg) := by
  intro own ρ Φ H x y l1 l2 r e hx hy p Q q
  unfold gIn at e
  split at e
  · rename_i d ds e1 e2
    split at e
    · rename_i hs
      rw [Bool.and_eq_true] at hs
      cases e
      have hd := hx.dp e1 (SeqAt.canLay_of_shaped hs.1) p
      have hl : PyData.canLayAll0 ds = true := SeqAt.canLay_of_shaped hs.2
      obtain ⟨a, vs, rfl, h2, r2⟩ := hy.seq e2 p
      have hds := RpA.dp p ds r2 hl
      rcases h2 with h2 | h2
      · have hD : Dp X.K H (.ref a) (.list ds) := .lst h2 hds
        cases neg with
        | false => exact sop_of (op_inD hu) ⟨d, ds, hd, hD, hs.1, hs.2, by have := q _ _ (.same (.bl _)); simpa using this⟩
        | true => exact sop_of (op_notInD hu) ⟨d, ds, hd, hD, hs.1, hs.2, by have := q _ _ (.same (.bl _)); simpa using this⟩
      · have hD : Dp X.K H (.ref a) (.tuple ds) := .tup h2 hds
        intro pins s σ v u I rx ry
        obtain ⟨as, r1⟩ := Dp.reads I d x v hd rx
        obtain ⟨bs, r3⟩ := Dp.reads I (.tuple ds) _ u hD ry
        cases neg with
        | false => exact SeqAt.in_tuple_reads r3 r1 hl (SeqAt.canLay_of_shaped hs.1) (room_in_shaped hs.1 hu) ⟨.bl _, H, I, rfl, by have := q _ _ (.same (.bl _)); simpa using this⟩
        | true => exact SeqAt.notIn_tuple_reads r3 r1 hl (SeqAt.canLay_of_shaped hs.1) (room_in_shaped hs.1 hu) ⟨.bl _, H, I, rfl, by have := q _ _ (.same (.bl _)); simpa using this⟩
    · cases e
  · cases e
theorem opd_in (hu : X.A.units + 65 < cLine) : OpD X (compareOp .In) (gIn false) := opd_inG hu false
theorem opd_notIn (hu : X.A.units + 65 < cLine) : OpD X (compareOp .NotIn) (gIn true) := opd_inG hu true
end
end Dn
set_option Elab.async false
set_option linter.all false
set_option maxRecDepth 100000
set_option maxHeartbeats 4000000
/-! Den, part 3: expressions. -/
namespace Dn
open PySem PySem.Spec PyProof.Rows L2

def resO (st : S) : Opd → Option LV
  | .lv l => some l
  | .slot i => st.ls[i]?.bind fun x => x.map (·.lv)
section
variable {K : PySem.W.Frag} {pv : PV} {own own' : Addr → Option Tag} {ρ ρ' : Rho} {Φ Φ' Ψ H H' : Hp} {ts : List (V × Opd)} {st : S} {σ : L2.St}
theorem Stt.top {v : V} {o : Opd} {l : LV} (z : Stt K pv own ρ Φ Ψ ((v, o) :: ts) st σ H) (e : resO st o = some l) : LvR K own ρ Φ H v l := by
  have h := z.temps
  cases o with
  | lv l' =>
    cases e
    exact ⟨_, h.1⟩
  | slot i =>
    obtain ⟨⟨h1, x, h2, _⟩, _⟩ := h
    obtain ⟨w, g1, g2, _⟩ := z.slots i x h2
    rw [h1] at g1
    cases g1
    simp only [resO, h2, Option.bind_some, Option.map_some] at e
    cases e
    exact ⟨_, g2⟩
/-- what an operand leaves when it is handed over for good -/
def frz : Opd → S → Option (PyData × S)
  | .lv (.sh d), st => some (d, st)
  | .lv (.lst ds), st => some (.list ds, st)
  | .slot i, st => match st.ls[i]? with
    | some (some ⟨.sh d, _, _⟩) => some (d, st)
    | some (some ⟨.lst ds, p, c⟩) => some (.list ds, { st with ls := st.ls.set i (some ⟨.sh (.list ds), p, c⟩) })
    | _ => none
  | _, _ => none
theorem set_kp {i : Nat} {x : Sl} {y : Option Sl} (hx : st.ls[i]? = some (some x)) (hn : x.lv.isRo = false) : Kp st { st with ls := st.ls.set i y } := by
  refine ⟨by show (st.ls.set i y).length = _; rw [List.length_set], fun j w e r => ?_⟩
  by_cases hj : i = j
  · subst hj
    rw [hx] at e
    cases e
    rw [hn] at r
    cases r
  · show (st.ls.set i y)[j]? = _
    rw [List.getElem?_set_ne hj]
    exact e
theorem frz_kp {o : Opd} {d : PyData} {st' : S} (e : frz o st = some (d, st')) : Kp st st' := by
  unfold frz at e
  split at e
  · cases e; exact Kp.refl _
  · cases e; exact Kp.refl _
  · split at e
    · cases e; exact Kp.refl _
    · rename_i h
      cases e
      exact set_kp h rfl
    · cases e
  · cases e
theorem Stt.frz {v : V} {o : Opd} {d : PyData} {st' : S} (z : Stt K pv own ρ Φ Ψ ((v, o) :: ts) st σ H) (e : frz o st = some (d, st')) :
    ∃ own' Φ', Mon ρ Φ ρ Φ' ∧ Stt K pv own' ρ Φ' Ψ ts st' σ H ∧ Rp K ρ Φ' v d := by
  have z0 := z
  unfold Dn.frz at e
  split at e
  · cases e
    exact ⟨own, Φ, Mon.refl _ _, z.drop, LvR.sh (z.top rfl)⟩
  · cases e
    obtain ⟨own', Φ', m, z'⟩ := z.freezeT
    exact ⟨own', Φ', m, z'.drop, LvR.sh (z'.top rfl)⟩
  · split at e
    · rename_i h
      cases e
      exact ⟨own, Φ, Mon.refl _ _, z.drop, LvR.sh (z.top (by simp only [resO, h, Option.bind_some, Option.map_some]))⟩
    · rename_i i ds p c h
      cases e
      obtain ⟨own', Φ', m, z'⟩ := z.freezeS h rfl
      refine ⟨own', Φ', m, z'.drop, LvR.sh (z'.top ?_)⟩
      simp only [resO]
      rw [List.getElem?_set_self (List.getElem?_eq_some_iff.mp h).1]
      rfl
    · cases e
  · cases e
end

/-- handed over for good -/
abbrev MF := S → Option (PyData × S)
abbrev MFA := S → Option (List PyData × S)
def DF (X : Cx) (pv : PV) (e : Expr) (m : MF) : Prop := ∀ st d st', m st = some (d, st') → Kp st st' ∧
  ∀ own ρ Φ Ψ ts σ H, Stt X.K pv own ρ Φ Ψ ts st σ H → ∀ Q : VK, (∀ own' ρ' Φ' H' v, Mon ρ Φ ρ' Φ' → Stt X.K pv own' ρ' Φ' Ψ ts st' σ H' → Rp X.K ρ' Φ' v d → Q v H') → SE X e σ H Q
def DFA (X : Cx) (pv : PV) (es : List Expr) (m : MFA) : Prop := ∀ st ds st', m st = some (ds, st') → Kp st st' ∧
  ∀ own ρ Φ Ψ ts σ H, Stt X.K pv own ρ Φ Ψ ts st σ H → ∀ Q : List V → Hp → Prop, (∀ own' ρ' Φ' H' vs, Mon ρ Φ ρ' Φ' → Stt X.K pv own' ρ' Φ' Ψ ts st' σ H' → RpA X.K ρ' Φ' vs ds → Q vs H') → SA X es σ H Q

/-! ### the pure machine -/
def mC (d : PyData) : ME := fun st => some (.lv (.sh d), st)
def mName (i : Nat) : ME := fun st => match st.ls[i]? with
  | some (some ⟨.sh d, _, _⟩) => some (.lv (.sh d), st)
  | some (some ⟨_, _, false⟩) => some (.slot i, st)
  | _ => none
def mFrz (m : ME) : MF := fun st => (m st).bind fun p => frz p.1 p.2
def mSh (m : MF) : ME := fun st => (m st).bind fun p => some (.lv (.sh p.1), p.2)
def mBin (g : LV → LV → Option LV) (ma mb : ME) : ME := fun st => (ma st).bind fun p => (mb p.2).bind fun q => (resO q.2 p.1).bind fun x => (resO q.2 q.1).bind fun y => (g x y).bind fun r => some (.lv r, q.2)
def mUn (g : LV → Option LV) (ma : ME) : ME := fun st => (ma st).bind fun p => (resO p.2 p.1).bind fun x => (g x).bind fun r => some (.lv r, p.2)
def toB : Opd → Option Bool
  | .lv (.sh (.bool b)) => some b
  | _ => none
def mTst (m : ME) : MT := fun st => (m st).bind fun p => (toB p.1).bind fun b => some (b, p.2)
def mTand (ma mb : MT) : MT := fun st => (ma st).bind fun p => if p.1 then mb p.2 else some (false, p.2)
def mTor (ma mb : MT) : MT := fun st => (ma st).bind fun p => if p.1 then some (true, p.2) else mb p.2
def mTnot (ma : MT) : MT := fun st => (ma st).bind fun p => some (!p.1, p.2)
def mAndV (ma mb : ME) : ME := fun st => (ma st).bind fun p => (toB p.1).bind fun b => if b then mb p.2 else some (.lv (.bl false), p.2)
def mOrV (ma mb : ME) : ME := fun st => (ma st).bind fun p => (toB p.1).bind fun b => if b then some (.lv (.bl true), p.2) else mb p.2
def mNotV (ma : ME) : ME := fun st => (ma st).bind fun p => (toB p.1).bind fun b => some (.lv (.bl (!b)), p.2)
def mIf (mt : MT) (ma mb : ME) : ME := fun st => (mt st).bind fun p => if p.1 then ma p.2 else mb p.2
def mFnil : MFA := fun st => some ([], st)
def mFcons (m : MF) (ms : MFA) : MFA := fun st => (m st).bind fun p => (ms p.2).bind fun q => some (p.1 :: q.1, q.2)
def mTup (ms : MFA) : ME := fun st => (ms st).bind fun p => if p.1.length ≤ 16777216 then some (.lv (.sh (.tuple p.1)), p.2) else none
def mLst (ms : MFA) : ME := fun st => (ms st).bind fun p => if p.1.length ≤ 16777216 then some (.lv (.lst p.1), p.2) else none
def mChain (g g' : LV → LV → Option LV) (ma mb mc : ME) : ME := fun st => (ma st).bind fun p => (mb p.2).bind fun q => (resO q.2 p.1).bind fun x => (resO q.2 q.1).bind fun y => (g x y).bind fun r => (toB (.lv r)).bind fun b =>
  if b then (mc q.2).bind fun w => (resO w.2 q.1).bind fun y => (resO w.2 w.1).bind fun z => (g' y z).bind fun r => some (.lv r, w.2) else some (.lv (.bl false), q.2)

theorem bind_some' {α β : Type} {x : Option α} {f : α → Option β} {b : β} (h : x.bind f = some b) : ∃ a, x = some a ∧ f a = some b := Option.bind_eq_some_iff.mp h
section
variable {X : Cx} {pv : PV} {a b c : Expr} {ma mb mc : ME} {pos : Pos}
theorem d_c {d : PyData} {v : V} {e : Expr} (h : PE X e (tC v)) (r : ∀ ρ Φ, Rp X.K ρ Φ v d) : DE X pv e (mC d) := by
  intro st o st' e1
  cases e1
  exact ⟨Kp.refl _, fun own ρ Φ Ψ ts σ H z Q q => se_of h (q own ρ Φ H v (Mon.refl _ _) (z.push (r ρ Φ)))⟩
theorem d_int {i : Int} {j : Nat} : DE X pv (.Constant (.int i) j pos) (mC (.int i)) := d_c pe_int fun _ _ => .int i
theorem d_bl {i : Bool} {j : Nat} : DE X pv (.Constant (.bool i) j pos) (mC (.bool i)) := d_c pe_bl fun _ _ => .bl i
theorem d_non {j : Nat} : DE X pv (.Constant .none j pos) (mC .none) := d_c pe_non fun _ _ => .non
theorem d_str {x : Str} {j : Nat} : DE X pv (.Constant (.str x) j pos) (mC (.str x)) := d_c pe_str fun _ _ => .str x
theorem d_name (i : Nat) {x : Str} (hN : X.N[i]? = some x := by rfl) (hv : Vis X.env.scope x := by first | exact Or.inl rfl | exact Or.inr (Or.inl rfl) | exact Or.inr (Or.inr rfl)) (hd : (x == ("__debug__" : Str)) = false := by decide)
    (hcd : (x == ("__classdict__" : Str)) = false := by decide) : DE X pv (.Name x pos) (mName i) := by
  intro st o st' e1
  unfold mName at e1
  split at e1
  · rename_i d p c h
    cases e1
    refine ⟨Kp.refl _, fun own ρ Φ Ψ ts σ H z Q q => ?_⟩
    obtain ⟨v, h1, h2, _⟩ := z.slots i _ h
    exact se_of (pe_var hN hv hd hcd) ⟨v, h1, q own ρ Φ H v (Mon.refl _ _) (z.push (LvR.sh ⟨_, h2⟩))⟩
  · rename_i l p hn h
    cases e1
    refine ⟨Kp.refl _, fun own ρ Φ Ψ ts σ H z Q q => ?_⟩
    obtain ⟨v, h1, h2, _⟩ := z.slots i _ h
    exact se_of (pe_var hN hv hd hcd) ⟨v, h1, q own ρ Φ H v (Mon.refl _ _) { z with temps := ⟨⟨h1, _, h, rfl⟩, z.temps⟩ }⟩
  · cases e1
theorem d_frz (ha : DE X pv a ma) : DF X pv a (mFrz ma) := by
  intro st d st' e1
  obtain ⟨⟨o, s1⟩, e1, e2⟩ := bind_some' e1
  obtain ⟨k1, h1⟩ := ha st o s1 e1
  refine ⟨k1.trans (frz_kp e2), fun own ρ Φ Ψ ts σ H z Q q => h1 own ρ Φ Ψ ts σ H z Q fun own' ρ' Φ' H' v m z' => ?_⟩
  obtain ⟨own2, Φ2, m2, z2, r2⟩ := z'.frz e2
  exact q own2 ρ' Φ2 H' v (m.trans m2) z2 r2
theorem d_sh {mf : MF} (ha : DF X pv a mf) : DE X pv a (mSh mf) := by
  intro st o st' e
  obtain ⟨⟨d, s1⟩, e1, e2⟩ := bind_some' e
  cases e2
  obtain ⟨k1, h1⟩ := ha st d s1 e1
  exact ⟨k1, fun own ρ Φ Ψ ts σ H z Q q => h1 own ρ Φ Ψ ts σ H z Q fun own' ρ' Φ' H' v m z' r => q own' ρ' Φ' H' v m (z'.push r)⟩
/-- two operands, then an operation by values -/
theorem bin_run {g : LV → LV → Option LV} {f : Value → Value → Sem Value} (hg : OpD X f g) (ha : DE X pv a ma) (hb : DE X pv b mb) {st st' : S} {o : Opd} (e : mBin g ma mb st = some (o, st')) : Kp st st' ∧
    ∀ own ρ Φ Ψ ts σ H, Stt X.K pv own ρ Φ Ψ ts st σ H → ∀ Q : VK, (∀ own' ρ' Φ' H' v, Mon ρ Φ ρ' Φ' → Stt X.K pv own' ρ' Φ' Ψ ((v, o) :: ts) st' σ H' → Q v H') →
      SE X a σ H fun x H1 => SE X b σ H1 fun y H2 => SOp X f x y H2 Q := by
  obtain ⟨⟨oa, s1⟩, e1, e⟩ := bind_some' e
  obtain ⟨⟨ob, s2⟩, e2, e⟩ := bind_some' e
  obtain ⟨x, e3, e⟩ := bind_some' e
  obtain ⟨y, e4, e⟩ := bind_some' e
  obtain ⟨r, e5, e⟩ := bind_some' e
  cases e
  obtain ⟨k1, h1⟩ := ha _ _ _ e1
  obtain ⟨k2, h2⟩ := hb _ _ _ e2
  refine ⟨k1.trans k2, fun own ρ Φ Ψ ts σ H z Q q => h1 own ρ Φ Ψ ts σ H z _ fun own1 ρ1 Φ1 H1 v m1 z1 => h2 own1 ρ1 Φ1 Ψ _ σ H1 z1 _ fun own2 ρ2 Φ2 H2 u m2 z2 => ?_⟩
  refine hg own2 ρ2 Φ2 H2 v u x y r e5 (z2.drop.top e3) (z2.top e4) z2.phi Q fun w H3 rs => ?_
  obtain ⟨own3, Φ3, m3, z3⟩ := z2.drop.drop.res rs
  exact q own3 ρ2 Φ3 H3 w ((m1.trans m2).trans m3) z3
theorem d_bin {op : Operator} {g : LV → LV → Option LV} (hg : OpD X (binaryOp op) g) (ha : DE X pv a ma) (hb : DE X pv b mb) : DE X pv (.BinOp a op b pos) (mBin g ma mb) := by
  intro st o st' e
  obtain ⟨k, h⟩ := bin_run hg ha hb e
  exact ⟨k, fun own ρ Φ Ψ ts σ H z Q q => se_of (pe_op opR_SOp pe_SE pe_SE) (h own ρ Φ Ψ ts σ H z Q q)⟩
theorem d_cmp {op : CmpOp} {g : LV → LV → Option LV} (hg : OpD X (compareOp op) g) (ha : DE X pv a ma) (hb : DE X pv b mb) (hm : behindInMarks op b = false := by first | exact nomark _ | rfl) : DE X pv (.Compare a [op] [b] pos) (mBin g ma mb) := by
  intro st o st' e
  obtain ⟨k, h⟩ := bin_run hg ha hb e
  exact ⟨k, fun own ρ Φ Ψ ts σ H z Q q => se_of (pe_cmpR opR_SOp pe_SE pe_SE hm) (h own ρ Φ Ψ ts σ H z Q q)⟩
theorem toB_some {o : Opd} {b : Bool} (h : toB o = some b) : o = .lv (.sh (.bool b)) := by
  unfold toB at h
  split at h
  · cases h; rfl
  · cases h
/-- the end of a test: its value is a truth value -/
theorem tst_run {K : PySem.W.Frag} {ρ : Rho} {Φ Ψ H : Hp} {own : Addr → Option Tag} {ts : List (V × Opd)} {st' : S} {σ : L2.St} {v : V} {b : Bool} (z : Stt K pv own ρ Φ Ψ ((v, .lv (.sh (.bool b))) :: ts) st' σ H) : v = .bl b := lv_bl (z.top (l := .sh (.bool b)) rfl)
theorem d_tcmp {op : CmpOp} {g : LV → LV → Option LV} (hg : OpD X (compareOp op) g) (ha : DE X pv a ma) (hb : DE X pv b mb) (hm : behindInMarks op b = false := by first | exact nomark _ | rfl) : DT X pv (.Compare a [op] [b] pos) (mTst (mBin g ma mb)) := by
  intro st k st' e
  obtain ⟨⟨o, s1⟩, e1, e⟩ := bind_some' e
  obtain ⟨k', e2, e⟩ := bind_some' e
  cases e
  have eo := toB_some e2
  simp only at eo
  subst eo
  obtain ⟨kp, h⟩ := bin_run hg ha hb e1
  exact ⟨kp, fun own ρ Φ Ψ ts σ H z Q q => st_of (pt_cmpR opR_SOp pe_SE pe_SE hm) (h own ρ Φ Ψ ts σ H z _ fun own' ρ' Φ' H' v m z' => ⟨k, tst_run z', q own' ρ' Φ' H' m z'.drop⟩)⟩
/-- an expression that gives True or False, as a test -/
theorem d_tval (ha : DE X pv a ma) (he : ∀ whole, isTrue a X.env whole = (do let v ← whole; standAt a.pos; holding [v] (truthy v)) := by intro _; rfl) : DT X pv a (mTst ma) := by
  intro st k st' e
  obtain ⟨⟨o, s1⟩, e1, e⟩ := bind_some' e
  obtain ⟨k', e2, e⟩ := bind_some' e
  cases e
  have eo := toB_some e2
  simp only at eo
  subst eo
  obtain ⟨kp, h⟩ := ha _ _ _ e1
  exact ⟨kp, fun own ρ Φ Ψ ts σ H z Q q => st_of (pt_val pe_SE he) (h own ρ Φ Ψ ts σ H z _ fun own' ρ' Φ' H' v m z' => ⟨k, tst_run z', q own' ρ' Φ' H' m z'.drop⟩)⟩
/-- an expression of any kind as a test -/
def truth? : LV → Option Bool
  | .sh .none => some false
  | .sh (.bool b) => some b
  | .sh (.int i) => some (i != 0)
  | .sh (.tuple ds) => some (!ds.isEmpty)
  | .sh (.list ds) => some (!ds.isEmpty)
  | .lst ds => some (!ds.isEmpty)
  | .ro ds => some (!ds.isEmpty)
  | .rv ds => some (!ds.isEmpty)
  | .scr ds => some (!ds.isEmpty)
  | _ => none
def mTru (m : ME) : MT := fun st => (m st).bind fun p => (resO p.2 p.1).bind fun l => (truth? l).bind fun b => some (b, p.2)
theorem rpA_empty {K : PySem.W.Frag} {ρ : Rho} {Φ : Hp} {vs : List V} {ds : List PyData} (r : RpA K ρ Φ vs ds) : vs.isEmpty = ds.isEmpty := by cases r <;> rfl
theorem truth_ok {K : PySem.W.Frag} {own : Addr → Option Tag} {ρ : Rho} {Φ H : Hp} {v : V} {l : LV} {b : Bool} (h : LvR K own ρ Φ H v l) (p : Same Φ H) (e : truth? l = some b) : TruV K v H b := by
  unfold truth? at e
  split at e
  · cases e; have := LvR.sh h; cases this; rfl
  · cases e; have := LvR.sh h; cases this; rfl
  · cases e; have := LvR.sh h; cases this; rfl
  · cases e
    obtain ⟨a, vs, rfl, h1, h2⟩ := h.tup (ds := _) rfl p
    exact .inr (.inl ⟨vs, h1, by rw [rpA_empty h2]⟩)
  all_goals first
    | (cases e; done)
    | (cases e
       obtain ⟨a, vs, rfl, h1, h2⟩ := h.rd (ds := _) rfl p
       exact .inl ⟨vs, h1, by rw [rpA_empty h2]⟩)
theorem d_truth (ha : DE X pv a ma) (he : ∀ whole, isTrue a X.env whole = (do let v ← whole; standAt a.pos; holding [v] (truthy v)) := by intro _; rfl) : DT X pv a (mTru ma) := by
  intro st k st' e
  obtain ⟨⟨o, s1⟩, e1, e⟩ := bind_some' e
  obtain ⟨l, e2, e⟩ := bind_some' e
  obtain ⟨b, e3, e⟩ := bind_some' e
  cases e
  obtain ⟨kp, h⟩ := ha _ _ _ e1
  exact ⟨kp, fun own ρ Φ Ψ ts σ H z Q q => st_of (pt_truth pe_SE he) (h own ρ Φ Ψ ts σ H z _ fun own' ρ' Φ' H' v m z' => ⟨k, truth_ok (z'.top e2) z'.phi e3, q own' ρ' Φ' H' m z'.drop⟩)⟩
theorem d_tw {m : MT} (h : DW X pv a m) : DT X pv a m := by
  intro st k st' e
  obtain ⟨kp, h⟩ := h _ _ _ e
  exact ⟨kp, fun own ρ Φ Ψ ts σ H z Q q => st_of (PW.pt pw_SW) (h own ρ Φ Ψ ts σ H z Q q)⟩
theorem d_wand1 {m : MT} (h : DT X pv a m) : DW X pv (.BoolOp .And [a] pos) m := by
  intro st k st' e
  obtain ⟨kp, h⟩ := h _ _ _ e
  exact ⟨kp, fun own ρ Φ Ψ ts σ H z Q q => sw_of (pw_and1 pt_ST) (h own ρ Φ Ψ ts σ H z Q q)⟩
theorem d_wor1 {m : MT} (h : DT X pv a m) : DW X pv (.BoolOp .Or [a] pos) m := by
  intro st k st' e
  obtain ⟨kp, h⟩ := h _ _ _ e
  exact ⟨kp, fun own ρ Φ Ψ ts σ H z Q q => sw_of (pw_or1 pt_ST) (h own ρ Φ Ψ ts σ H z Q q)⟩
theorem d_wand {m m' : MT} {rest : List Expr} (h : DT X pv a m) (h' : DW X pv (.BoolOp .And (b :: rest) pos) m') : DW X pv (.BoolOp .And (a :: b :: rest) pos) (mTand m m') := by
  intro st k st' e
  obtain ⟨⟨c, s1⟩, e1, e⟩ := bind_some' e
  obtain ⟨k1, h1⟩ := h _ _ _ e1
  cases c with
  | true =>
    obtain ⟨k2, h2⟩ := h' _ _ _ e
    refine ⟨k1.trans k2, fun own ρ Φ Ψ ts σ H z Q q => sw_of (pw_and pt_ST pw_SW) (h1 own ρ Φ Ψ ts σ H z _ fun own' ρ' Φ' H' m z' => ?_)⟩
    show SW X _ σ H' Q
    exact h2 _ _ _ _ _ _ _ z' Q fun own2 ρ2 Φ2 H2 m2 z2 => q own2 ρ2 Φ2 H2 (m.trans m2) z2
  | false =>
    cases e
    refine ⟨k1, fun own ρ Φ Ψ ts σ H z Q q => sw_of (pw_and pt_ST pw_SW) (h1 own ρ Φ Ψ ts σ H z _ fun own' ρ' Φ' H' m z' => ?_)⟩
    exact q own' ρ' Φ' H' m z'
theorem d_wor {m m' : MT} {rest : List Expr} (h : DT X pv a m) (h' : DW X pv (.BoolOp .Or (b :: rest) pos) m') : DW X pv (.BoolOp .Or (a :: b :: rest) pos) (mTor m m') := by
  intro st k st' e
  obtain ⟨⟨c, s1⟩, e1, e⟩ := bind_some' e
  obtain ⟨k1, h1⟩ := h _ _ _ e1
  cases c with
  | false =>
    obtain ⟨k2, h2⟩ := h' _ _ _ e
    refine ⟨k1.trans k2, fun own ρ Φ Ψ ts σ H z Q q => sw_of (pw_or pt_ST pw_SW) (h1 own ρ Φ Ψ ts σ H z _ fun own' ρ' Φ' H' m z' => ?_)⟩
    show SW X _ σ H' Q
    exact h2 _ _ _ _ _ _ _ z' Q fun own2 ρ2 Φ2 H2 m2 z2 => q own2 ρ2 Φ2 H2 (m.trans m2) z2
  | true =>
    cases e
    refine ⟨k1, fun own ρ Φ Ψ ts σ H z Q q => sw_of (pw_or pt_ST pw_SW) (h1 own ρ Φ Ψ ts σ H z _ fun own' ρ' Φ' H' m z' => ?_)⟩
    exact q own' ρ' Φ' H' m z'
theorem d_tnot {m : MT} (h : DT X pv a m) : DT X pv (.UnaryOp .Not a pos) (mTnot m) := by
  intro st k st' e
  obtain ⟨⟨c, s1⟩, e1, e⟩ := bind_some' e
  cases e
  obtain ⟨k1, h1⟩ := h _ _ _ e1
  exact ⟨k1, fun own ρ Φ Ψ ts σ H z Q q => st_of (pt_not pt_ST) (h1 own ρ Φ Ψ ts σ H z _ fun own' ρ' Φ' H' m z' => q own' ρ' Φ' H' m z')⟩
theorem d_one {op : BoolOp} (h : DE X pv a ma) : DE X pv (.BoolOp op [a] pos) ma := by
  intro st o st' e
  obtain ⟨k1, h1⟩ := h _ _ _ e
  exact ⟨k1, fun own ρ Φ Ψ ts σ H z Q q => se_of (pe_one pe_SE) (h1 own ρ Φ Ψ ts σ H z Q q)⟩
theorem d_and {rest : List Expr} (h : DE X pv a ma) (h' : DE X pv (.BoolOp .And (b :: rest) pos) mb) : DE X pv (.BoolOp .And (a :: b :: rest) pos) (mAndV ma mb) := by
  intro st o st' e
  obtain ⟨⟨oa, s1⟩, e1, e⟩ := bind_some' e
  obtain ⟨c, e2, e⟩ := bind_some' e
  have eo := toB_some e2
  simp only at eo
  subst eo
  obtain ⟨k1, h1⟩ := h _ _ _ e1
  cases c with
  | true =>
    obtain ⟨k2, h2⟩ := h' _ _ _ e
    refine ⟨k1.trans k2, fun own ρ Φ Ψ ts σ H z Q q => se_of (pe_and pe_SE pe_SE) (h1 own ρ Φ Ψ ts σ H z _ fun own' ρ' Φ' H' v m z' => ⟨true, tst_run z', ?_⟩)⟩
    show SE X _ σ H' Q
    exact h2 _ _ _ _ _ _ _ z'.drop Q fun own2 ρ2 Φ2 H2 v m2 z2 => q own2 ρ2 Φ2 H2 v (m.trans m2) z2
  | false =>
    cases e
    refine ⟨k1, fun own ρ Φ Ψ ts σ H z Q q => se_of (pe_and pe_SE pe_SE) (h1 own ρ Φ Ψ ts σ H z _ fun own' ρ' Φ' H' v m z' => ⟨false, tst_run z', ?_⟩)⟩
    exact q own' ρ' Φ' H' _ m (z'.drop.push (.bl false))
theorem d_or {rest : List Expr} (h : DE X pv a ma) (h' : DE X pv (.BoolOp .Or (b :: rest) pos) mb) : DE X pv (.BoolOp .Or (a :: b :: rest) pos) (mOrV ma mb) := by
  intro st o st' e
  obtain ⟨⟨oa, s1⟩, e1, e⟩ := bind_some' e
  obtain ⟨c, e2, e⟩ := bind_some' e
  have eo := toB_some e2
  simp only at eo
  subst eo
  obtain ⟨k1, h1⟩ := h _ _ _ e1
  cases c with
  | false =>
    obtain ⟨k2, h2⟩ := h' _ _ _ e
    refine ⟨k1.trans k2, fun own ρ Φ Ψ ts σ H z Q q => se_of (pe_or pe_SE pe_SE) (h1 own ρ Φ Ψ ts σ H z _ fun own' ρ' Φ' H' v m z' => ⟨false, tst_run z', ?_⟩)⟩
    show SE X _ σ H' Q
    exact h2 _ _ _ _ _ _ _ z'.drop Q fun own2 ρ2 Φ2 H2 v m2 z2 => q own2 ρ2 Φ2 H2 v (m.trans m2) z2
  | true =>
    cases e
    refine ⟨k1, fun own ρ Φ Ψ ts σ H z Q q => se_of (pe_or pe_SE pe_SE) (h1 own ρ Φ Ψ ts σ H z _ fun own' ρ' Φ' H' v m z' => ⟨true, tst_run z', ?_⟩)⟩
    exact q own' ρ' Φ' H' _ m (z'.drop.push (.bl true))
theorem d_not (h : DE X pv a ma) : DE X pv (.UnaryOp .Not a pos) (mNotV ma) := by
  intro st o st' e
  obtain ⟨⟨oa, s1⟩, e1, e⟩ := bind_some' e
  obtain ⟨c, e2, e⟩ := bind_some' e
  have eo := toB_some e2
  simp only at eo
  subst eo
  cases e
  obtain ⟨k1, h1⟩ := h _ _ _ e1
  exact ⟨k1, fun own ρ Φ Ψ ts σ H z Q q => se_of (pe_not pe_SE) (h1 own ρ Φ Ψ ts σ H z _ fun own' ρ' Φ' H' v m z' => ⟨c, tst_run z', q own' ρ' Φ' H' _ m (z'.drop.push (.bl _))⟩)⟩
theorem d_if {mt : MT} (hc : DT X pv c mt) (ha : DE X pv a ma) (hb : DE X pv b mb) : DE X pv (.IfExp c a b pos) (mIf mt ma mb) := by
  intro st o st' e
  obtain ⟨⟨k, s1⟩, e1, e⟩ := bind_some' e
  obtain ⟨k1, h1⟩ := hc _ _ _ e1
  cases k with
  | true =>
    obtain ⟨k2, h2⟩ := ha _ _ _ e
    refine ⟨k1.trans k2, fun own ρ Φ Ψ ts σ H z Q q => se_of (pe_ifExp pt_ST pe_SE pe_SE) (h1 own ρ Φ Ψ ts σ H z _ fun own' ρ' Φ' H' m z' => ?_)⟩
    show SE X _ σ H' Q
    exact h2 _ _ _ _ _ _ _ z' Q fun own2 ρ2 Φ2 H2 v m2 z2 => q own2 ρ2 Φ2 H2 v (m.trans m2) z2
  | false =>
    obtain ⟨k2, h2⟩ := hb _ _ _ e
    refine ⟨k1.trans k2, fun own ρ Φ Ψ ts σ H z Q q => se_of (pe_ifExp pt_ST pe_SE pe_SE) (h1 own ρ Φ Ψ ts σ H z _ fun own' ρ' Φ' H' m z' => ?_)⟩
    show SE X _ σ H' Q
    exact h2 _ _ _ _ _ _ _ z' Q fun own2 ρ2 Φ2 H2 v m2 z2 => q own2 ρ2 Φ2 H2 v (m.trans m2) z2
/-! ### unary operations, displays -/
def SUn (X : Cx) (f : Value → Sem Value) : V → Hp → VK → Prop := fun x H Q => ∀ (pins : List (Addr × Obj)) (s : Shared) (σ : L2.St) (v : Value), Inv X pins σ H s → RelV x v → wpAny (model X.prog X.w) X.A (f v) (EP X pins σ Q) X.xe s
def gNeg : LV → Option LV
  | .sh (.int i) => some (.sh (.int (-i)))
  | _ => none
theorem d_neg (h : DE X pv a ma) : DE X pv (.UnaryOp .USub a pos) (mUn gNeg ma) := by
  intro st o st' e
  obtain ⟨⟨oa, s1⟩, e1, e⟩ := bind_some' e
  obtain ⟨x, e2, e⟩ := bind_some' e
  obtain ⟨r, e3, e⟩ := bind_some' e
  cases e
  obtain ⟨k1, h1⟩ := h _ _ _ e1
  unfold gNeg at e3
  split at e3
  · rename_i i
    cases e3
    refine ⟨k1, fun own ρ Φ Ψ ts σ H z Q q => se_of (pe_un un_neg pe_SE) (h1 own ρ Φ Ψ ts σ H z _ fun own' ρ' Φ' H' v m z' => ⟨i, lv_int (z'.top e2), q own' ρ' Φ' H' _ m (z'.drop.push (.int _))⟩)⟩
  · cases e3
theorem d_fnil : DFA X pv [] mFnil := by
  intro st o st' e
  cases e
  exact ⟨Kp.refl _, fun own ρ Φ Ψ ts σ H z Q q => sa_of pa_nil (q own ρ Φ H [] (Mon.refl _ _) z .nil)⟩
theorem d_fcons {es : List Expr} {mf : MF} {ms : MFA} (h : DF X pv a mf) (hs : DFA X pv es ms) (hst : starEach (a :: es) X.env = (false, eval a X.env) :: starEach es X.env := by rfl) : DFA X pv (a :: es) (mFcons mf ms) := by
  intro st o st' e
  obtain ⟨⟨d, s1⟩, e1, e⟩ := bind_some' e
  obtain ⟨⟨ds, s2⟩, e2, e⟩ := bind_some' e
  cases e
  obtain ⟨k1, h1⟩ := h _ _ _ e1
  obtain ⟨k2, h2⟩ := hs _ _ _ e2
  refine ⟨k1.trans k2, fun own ρ Φ Ψ ts σ H z Q q => sa_of (pa_cons pe_SE pa_SA hst) (h1 own ρ Φ Ψ ts σ H z _ fun own' ρ' Φ' H' v m z' r => ?_)⟩
  exact h2 _ _ _ _ _ _ _ z' _ fun own2 ρ2 Φ2 H2 vs m2 z2 rs => q own2 ρ2 Φ2 H2 (v :: vs) (m.trans m2) z2 (.cons (r.mono m2) rs)
theorem d_tup {es : List Expr} {ms : MFA} {x1} (h : DFA X pv es ms) : DE X pv (.Tuple es x1 pos) (mTup ms) := by
  intro st o st' e
  obtain ⟨⟨ds, s1⟩, e1, e⟩ := bind_some' e
  split at e
  · rename_i hz
    cases e
    obtain ⟨k1, h1⟩ := h _ _ _ e1
    refine ⟨k1, fun own ρ Φ Ψ ts σ H z Q q => se_of (pe_tup pa_SA) (h1 own ρ Φ Ψ ts σ H z _ fun own' ρ' Φ' H' vs m z' r => ⟨by rw [sizeLine_eq, r.length]; exact hz, fun p np => ?_⟩)⟩
    obtain ⟨own2, Φ2, m2, z2⟩ := z'.res (.tup np r)
    exact q own2 ρ' Φ2 _ _ (m.trans m2) z2
  · cases e
theorem d_lst {es : List Expr} {ms : MFA} (h : DFA X pv es ms) : DE X pv (.List es pos) (mLst ms) := by
  intro st o st' e
  obtain ⟨⟨ds, s1⟩, e1, e⟩ := bind_some' e
  split at e
  · rename_i hz
    cases e
    obtain ⟨k1, h1⟩ := h _ _ _ e1
    refine ⟨k1, fun own ρ Φ Ψ ts σ H z Q q => se_of (pe_lst pa_SA) (h1 own ρ Φ Ψ ts σ H z _ fun own' ρ' Φ' H' vs m z' r => ⟨by rw [sizeLine_eq, r.length]; exact hz, fun p np => ?_⟩)⟩
    obtain ⟨own2, Φ2, m2, z2⟩ := z'.res (.new np (.lst r))
    exact q own2 ρ' Φ2 _ _ (m.trans m2) z2
  · cases e

/-! ### chains of comparisons -/
theorem chain_run {g g' : LV → LV → Option LV} {f f' : Value → Value → Sem Value} (hg : OpD X f g) (hg' : OpD X f' g') (ha : DE X pv a ma) (hb : DE X pv b mb) (hc : DE X pv c mc) {st st' : S} {o : Opd} (e : mChain g g' ma mb mc st = some (o, st')) : Kp st st' ∧
    ∀ own ρ Φ Ψ ts σ H, Stt X.K pv own ρ Φ Ψ ts st σ H → ∀ Q : VK, (∀ own' ρ' Φ' H' v, Mon ρ Φ ρ' Φ' → Stt X.K pv own' ρ' Φ' Ψ ((v, o) :: ts) st' σ H' → Q v H') →
      tChain (SOp X f) (SOp X f') (SE X a) (SE X b) (SE X c) σ H Q := by
  obtain ⟨⟨oa, s1⟩, e1, e⟩ := bind_some' e
  obtain ⟨⟨ob, s2⟩, e2, e⟩ := bind_some' e
  obtain ⟨x, e3, e⟩ := bind_some' e
  obtain ⟨y, e4, e⟩ := bind_some' e
  obtain ⟨r, e5, e⟩ := bind_some' e
  obtain ⟨k, e6, eK⟩ := bind_some' e
  have eo := toB_some e6
  cases eo
  obtain ⟨k1, h1⟩ := ha _ _ _ e1
  obtain ⟨k2, h2⟩ := hb _ _ _ e2
  have first : ∀ (G : Kp s2 st'), (∀ own ρ Φ Ψ ts σ H, Stt X.K pv own ρ Φ Ψ ts st σ H → ∀ Q : VK, (∀ own' ρ' Φ' H' v, Mon ρ Φ ρ' Φ' → Stt X.K pv own' ρ' Φ' Ψ ((v, o) :: ts) st' σ H' → Q v H') →
      ∀ own2 ρ2 Φ2 H2 v u, Mon ρ Φ ρ2 Φ2 → Stt X.K pv own2 ρ2 Φ2 Ψ ((u, ob) :: (v, oa) :: ts) s2 σ H2 → (if k = true then SE X c σ H2 fun w' H4 => SOp X f' u w' H4 Q else Q (.bl false) H2)) → Kp st st' ∧
    ∀ own ρ Φ Ψ ts σ H, Stt X.K pv own ρ Φ Ψ ts st σ H → ∀ Q : VK, (∀ own' ρ' Φ' H' v, Mon ρ Φ ρ' Φ' → Stt X.K pv own' ρ' Φ' Ψ ((v, o) :: ts) st' σ H' → Q v H') →
      tChain (SOp X f) (SOp X f') (SE X a) (SE X b) (SE X c) σ H Q := fun G go => by
    refine ⟨(k1.trans k2).trans G, fun own ρ Φ Ψ ts σ H z Q q => h1 own ρ Φ Ψ ts σ H z _ fun own1 ρ1 Φ1 H1 v m1 z1 => h2 own1 ρ1 Φ1 Ψ _ σ H1 z1 _ fun own2 ρ2 Φ2 H2 u m2 z2 => ?_⟩
    refine hg own2 ρ2 Φ2 H2 v u x y _ e5 (z2.drop.top e3) (z2.top e4) z2.phi _ fun w H3 rs => ⟨k, ?_, ?_⟩
    · cases rs with
      | same r => cases r; rfl
      | new _ h => cases h
    · cases rs with
      | same r => exact go own ρ Φ Ψ ts σ H z Q q own2 ρ2 Φ2 H2 v u (m1.trans m2) z2
      | new _ h => cases h
  cases k with
  | true =>
    rw [if_pos rfl] at eK
    obtain ⟨⟨oc, s3⟩, e7, e⟩ := bind_some' eK
    obtain ⟨y', e8, e⟩ := bind_some' e
    obtain ⟨zz, e9, e⟩ := bind_some' e
    obtain ⟨r', e10, e⟩ := bind_some' e
    cases e
    obtain ⟨k3, h3⟩ := hc _ _ _ e7
    refine first k3 fun own ρ Φ Ψ ts σ H z Q q own2 ρ2 Φ2 H2 v u m2 z2 => ?_
    rw [if_pos rfl]
    refine h3 own2 ρ2 Φ2 Ψ _ σ H2 z2 _ fun own3 ρ3 Φ3 H3 w m3 z3 => ?_
    refine hg' own3 ρ3 Φ3 H3 u w y' zz r' e10 (z3.drop.top e8) (z3.top e9) z3.phi Q fun w' H4 rs => ?_
    obtain ⟨own4, Φ4, m4, z4⟩ := z3.drop.drop.drop.res rs
    exact q own4 ρ3 Φ4 H4 w' ((m2.trans m3).trans m4) z4
  | false =>
    rw [if_neg Bool.false_ne_true] at eK
    cases eK
    refine first (Kp.refl _) fun own ρ Φ Ψ ts σ H z Q q own2 ρ2 Φ2 H2 v u m2 z2 => ?_
    rw [if_neg Bool.false_ne_true]
    exact q own2 ρ2 Φ2 H2 _ m2 (z2.drop.drop.push (.bl false))
theorem d_chain {op op' : CmpOp} {g g' : LV → LV → Option LV} (hg : OpD X (compareOp op) g) (hg' : OpD X (compareOp op') g') (ha : DE X pv a ma) (hb : DE X pv b mb) (hc : DE X pv c mc)
    (hm : lastMarks [op, op'] [b, c] = false := by with_unfolding_all rfl) : DE X pv (.Compare a [op, op'] [b, c] pos) (mChain g g' ma mb mc) := by
  intro st o st' e
  obtain ⟨k, h⟩ := chain_run hg hg' ha hb hc e
  exact ⟨k, fun own ρ Φ Ψ ts σ H z Q q => se_of (pe_chain opR_SOp opR_SOp pe_SE pe_SE pe_SE hm) (h own ρ Φ Ψ ts σ H z Q q)⟩
theorem d_tchain {op op' : CmpOp} {g g' : LV → LV → Option LV} (hg : OpD X (compareOp op) g) (hg' : OpD X (compareOp op') g') (ha : DE X pv a ma) (hb : DE X pv b mb) (hc : DE X pv c mc)
    (hm : lastMarks [op, op'] [b, c] = false := by with_unfolding_all rfl) : DT X pv (.Compare a [op, op'] [b, c] pos) (mTst (mChain g g' ma mb mc)) := by
  intro st k st' e
  obtain ⟨⟨o, s1⟩, e1, e⟩ := bind_some' e
  obtain ⟨k', e2, e⟩ := bind_some' e
  cases e
  have eo := toB_some e2
  simp only at eo
  subst eo
  obtain ⟨kp, h⟩ := chain_run hg hg' ha hb hc e1
  exact ⟨kp, fun own ρ Φ Ψ ts σ H z Q q => st_of (pt_chain opR_SOp opR_SOp pe_SE pe_SE pe_SE hm) (h own ρ Φ Ψ ts σ H z _ fun own' ρ' Φ' H' v m z' => ⟨k, tst_run z', q own' ρ' Φ' H' m z'.drop⟩)⟩
end
end Dn
set_option Elab.async false
set_option linter.all false
set_option maxRecDepth 100000
set_option maxHeartbeats 4000000
/-! Den, part 4: subscripts, slices, calls of built-ins. -/
namespace Dn
open PySem PySem.Spec PyProof.Rows L2

section
variable {K : PySem.W.Frag} {ρ : Rho} {Φ : Hp}
theorem RpA.atI {vs : List V} {ds : List PyData} {i : Int} {d : PyData} (r : RpA K ρ Φ vs ds) (h : L2.atI ds i = some d) : ∃ v, L2.atI vs i = some v ∧ Rp K ρ Φ v d := by
  unfold L2.atI at h ⊢
  rw [r.length]
  cases e : ixN ds.length i with
  | none => rw [e] at h; cases h
  | some j =>
    rw [e] at h
    exact r.get h
def keyD : PyData → Option Key
  | .int i => some (.inl i)
  | .str x => some (.inr x)
  | _ => none
def keysD : List PyData → Option (List Key)
  | [] => some []
  | d :: ds => (keyD d).bind fun k => (keysD ds).bind fun ks => some (k :: ks)
theorem rp_key {v : V} {d : PyData} {k : Key} (r : Rp K ρ Φ v d) (h : keyD d = some k) : v = kV k := by
  cases r <;> simp only [keyD] at h <;> cases h <;> rfl
theorem rpA_keys : ∀ {vs : List V} {ds : List PyData} {ks : List Key}, RpA K ρ Φ vs ds → keysD ds = some ks → vs = ks.map kV
  | _, _, _, .nil, h => by cases h; rfl
  | _, _, _, .cons r t, h => by
    obtain ⟨k, h1, h⟩ := bind_some' h
    obtain ⟨ks, h2, h⟩ := bind_some' h
    cases h
    rw [rp_key r h1, rpA_keys t h2]
    rfl
/-- what stands at a key -/
def getK {κ : Type} [DecidableEq κ] (es : List (κ × PyData)) (k : κ) : Option PyData := (es.find? fun kv => decide (kv.1 = k)).map (·.2)
theorem kvd_get {κ : Type} [DecidableEq κ] (k : κ) : ∀ {kvs : List (κ × V)} {es : List (κ × PyData)}, KvD K ρ Φ kvs es → (∀ d, getK es k = some d → ∃ v, valV kvs k = some v ∧ Rp K ρ Φ v d) ∧ (getK es k = none → valV kvs k = none)
  | _, _, .nil => ⟨(fun d h => by cases h), fun _ => rfl⟩
  | (k1, v1) :: kvs, (k2, d2) :: es, .cons r t => by
    obtain ⟨e, r⟩ := r
    simp only at e
    subst e
    obtain ⟨h1, h2⟩ := kvd_get k t
    by_cases hk : k1 = k
    · subst hk
      have e1 : getK ((k1, d2) :: es) k1 = some d2 := by simp [getK, List.find?_cons]
      have e2 : valV ((k1, v1) :: kvs) k1 = some v1 := by simp [valV, List.find?_cons]
      rw [e1, e2]
      exact ⟨fun d h => ⟨v1, rfl, by cases h; exact r⟩, fun h => by cases h⟩
    · have e1 : getK ((k1, d2) :: es) k = getK es k := by simp [getK, List.find?_cons, hk]
      have e2 : valV ((k1, v1) :: kvs) k = valV kvs k := by simp [valV, List.find?_cons, hk]
      rw [e1, e2]
      exact ⟨h1, h2⟩
def putKD {κ : Type} [DecidableEq κ] (es : List (κ × PyData)) (k : κ) (d : PyData) : List (κ × PyData) :=
  if (es.any fun kv => decide (kv.1 = k)) = true then es.map (fun kv => if kv.1 = k then (kv.1, d) else kv) else es ++ [(k, d)]
theorem kvd_any {κ : Type} [DecidableEq κ] (k : κ) : ∀ {kvs : List (κ × V)} {es : List (κ × PyData)}, KvD K ρ Φ kvs es → (kvs.any fun kv => decide (kv.1 = k)) = (es.any fun kv => decide (kv.1 = k))
  | _, _, .nil => rfl
  | _, _, .cons r t => by rw [List.any_cons, List.any_cons, r.1, kvd_any k t]
theorem kvd_map {κ : Type} [DecidableEq κ] (k : κ) {v : V} {d : PyData} (r : Rp K ρ Φ v d) : ∀ {kvs : List (κ × V)} {es : List (κ × PyData)}, KvD K ρ Φ kvs es → KvD K ρ Φ (kvs.map fun kv => if kv.1 = k then (kv.1, v) else kv) (es.map fun kv => if kv.1 = k then (kv.1, d) else kv)
  | _, _, .nil => .nil
  | (k1, v1) :: _, (k2, d2) :: _, .cons q t => by
    obtain ⟨e, q⟩ := q
    simp only at e
    subst e
    refine .cons ?_ (kvd_map k r t)
    by_cases h : k1 = k
    · show (if k1 = k then (k1, v) else (k1, v1)).1 = (if k1 = k then (k1, d) else (k1, d2)).1 ∧ Rp K ρ Φ (if k1 = k then (k1, v) else (k1, v1)).2 (if k1 = k then (k1, d) else (k1, d2)).2
      rw [if_pos h, if_pos h]
      exact ⟨rfl, r⟩
    · show (if k1 = k then (k1, v) else (k1, v1)).1 = (if k1 = k then (k1, d) else (k1, d2)).1 ∧ Rp K ρ Φ (if k1 = k then (k1, v) else (k1, v1)).2 (if k1 = k then (k1, d) else (k1, d2)).2
      rw [if_neg h, if_neg h]
      exact ⟨rfl, q⟩
theorem Paired.app {α β : Type} {F : α → β → Prop} : ∀ {l₁ m₁ : List α} {l₂ m₂ : List β}, Paired F l₁ l₂ → Paired F m₁ m₂ → Paired F (l₁ ++ m₁) (l₂ ++ m₂)
  | _, _, _, _, .nil, s => s
  | _, _, _, _, .cons r t, s => .cons r (Paired.app t s)
theorem kvd_put {κ : Type} [DecidableEq κ] (k : κ) {v : V} {d : PyData} (r : Rp K ρ Φ v d) {kvs : List (κ × V)} {es : List (κ × PyData)} (h : KvD K ρ Φ kvs es) : KvD K ρ Φ (putK kvs k v) (putKD es k d) := by
  unfold putK putKD
  rw [kvd_any k h]
  split
  · exact kvd_map k r h
  · exact Paired.app h (.cons ⟨rfl, r⟩ .nil)
theorem kvd_len {κ : Type} : ∀ {kvs : List (κ × V)} {es : List (κ × PyData)}, KvD K ρ Φ kvs es → kvs.length = es.length
  | _, _, .nil => rfl
  | _, _, .cons _ t => congrArg (· + 1) (kvd_len t)
/-- a key that a dict with such keys may be asked for -/
def dkKey : LV → Option Key
  | .sh d => keyD d
  | _ => none
def dtKey : LV → Option (List Key)
  | .sh (.tuple ds) => keysD ds
  | _ => none
/-- d[k]: is it there -/
def dGet : LV → LV → Option (Option PyData)
  | .dk es, k => (dkKey k).bind fun k => some (getK es k)
  | .dt es, k => (dtKey k).bind fun k => some (getK es k)
  | _, _ => none
def dPut : LV → LV → PyData → Option LV
  | .dk es, k, d => (dkKey k).bind fun k => if es.length < 16777216 then some (.dk (putKD es k d)) else none
  | .dt es, k, d => (dtKey k).bind fun k => if es.length < 16777216 then some (.dt (putKD es k d)) else none
  | _, _, _ => none
theorem dGet_ok {own : Addr → Option Tag} {H : Hp} {x y : V} {l k : LV} {r : Option PyData} (hx : LvR K own ρ Φ H x l) (hy : LvR K own ρ Φ H y k) (p : Same Φ H) (e : dGet l k = some r) :
    ∃ a ov, x = .ref a ∧ DGet H a y ov ∧ (∀ d, r = some d → ∃ v, ov = some v ∧ Rp K ρ Φ v d) ∧ (r = none → ov = none) := by
  obtain ⟨t, hx⟩ := hx
  unfold dGet at e
  split at e
  · obtain ⟨k', e1, e⟩ := bind_some' e
    cases e
    cases hx with
    | ow h1 h2 h3 =>
    cases h2 with
    | dk h2 =>
    unfold dkKey at e1
    split at e1
    · have ey := rp_key (LvR.sh hy) e1
      obtain ⟨g1, g2⟩ := kvd_get k' h2
      refine ⟨_, _, rfl, ?_, g1, g2⟩
      rw [ey]
      exact DGet.k h1
    · cases e1
  · obtain ⟨k', e1, e⟩ := bind_some' e
    cases e
    cases hx with
    | ow h1 h2 h3 =>
    cases h2 with
    | dt h2 =>
    unfold dtKey at e1
    split at e1
    · have ry := LvR.sh hy
      cases ry with
      | tup hb rb =>
      have ey := rpA_keys rb e1
      subst ey
      obtain ⟨g1, g2⟩ := kvd_get k' h2
      exact ⟨_, _, rfl, DGet.t h1 (p _ _ hb), g1, g2⟩
    · cases e1
  · cases e
/-- a store into a dict at a: the new content -/
theorem dPut_ok {own : Addr → Option Tag} {H : Hp} {t : Tag} {x y v : V} {l k l' : LV} {d : PyData} (hx : LvOk K own ρ Φ H t x l) (hy : LvR K own ρ Φ H y k) (rv : Rp K ρ Φ v d) (p : Same Φ H) (e : dPut l k d = some l') :
    ∃ a o o', x = .ref a ∧ H a = some o ∧ own a = some t ∧ DPut H a y v (upd H a o') ∧ OwnO K ρ Φ o' l' := by
  unfold dPut at e
  split at e
  · obtain ⟨k', e1, e⟩ := bind_some' e
    split at e
    · rename_i hz
      cases e
      cases hx with
      | ow h1 h2 h3 =>
      cases h2 with
      | dk h2 =>
      unfold dkKey at e1
      split at e1
      · have ey := rp_key (LvR.sh hy) e1
        refine ⟨_, _, _, rfl, h1, h3, ?_, .dk (kvd_put k' rv h2)⟩
        rw [ey]
        exact DPut.k h1 (by rw [sizeLine_eq, kvd_len h2]; exact hz)
      · cases e1
    · cases e
  · obtain ⟨k', e1, e⟩ := bind_some' e
    split at e
    · rename_i hz
      cases e
      cases hx with
      | ow h1 h2 h3 =>
      cases h2 with
      | dt h2 =>
      unfold dtKey at e1
      split at e1
      · have ry := LvR.sh hy
        cases ry with
        | tup hb rb =>
        have ey := rpA_keys rb e1
        subst ey
        exact ⟨_, _, _, rfl, h1, h3, DPut.t h1 (p _ _ hb) (by rw [sizeLine_eq, kvd_len h2]; exact hz), .dt (kvd_put k' rv h2)⟩
      · cases e1
    · cases e
  · cases e
end

/-- a[b] -/
def ixSeq (a b : LV) : Option LV := match a.seq?, b with
  | some ds, .sh (.int i) => (L2.atI ds i).bind fun d => some (.sh d)
  | _, _ => none
theorem ixSeq_some {a b r : LV} (h : ixSeq a b = some r) : ∃ ds i d, a.seq? = some ds ∧ b = .sh (.int i) ∧ L2.atI ds i = some d ∧ r = .sh d := by
  unfold ixSeq at h
  split at h
  · rename_i ds i e1
    obtain ⟨d, e2, e⟩ := bind_some' h
    cases e
    exact ⟨ds, i, d, e1, rfl, e2, rfl⟩
  · cases h
def ixStr (a b : LV) : Option LV := match a, b with
  | .sh (.str z), .sh (.int i) => if z.length ≤ 16777216 then (L2.atI z.cps.toList i).bind fun c => some (.sh (.str ⟨#[c]⟩)) else none
  | _, _ => none
theorem ixStr_some {a b r : LV} (h : ixStr a b = some r) : ∃ z i c, a = .sh (.str z) ∧ b = .sh (.int i) ∧ z.length ≤ 16777216 ∧ L2.atI z.cps.toList i = some c ∧ r = .sh (.str ⟨#[c]⟩) := by
  unfold ixStr at h
  split at h
  · rename_i z i
    split at h
    · rename_i hz
      obtain ⟨d, e2, e⟩ := bind_some' h
      cases e
      exact ⟨z, i, d, rfl, rfl, hz, e2, rfl⟩
    · cases h
  · cases h
def ixDict (a b : LV) : Option LV := (dGet a b).bind fun r => r.bind fun d => some (.sh d)
theorem ixDict_some {a b r : LV} (h : ixDict a b = some r) : ∃ d, dGet a b = some (some d) ∧ r = .sh d := by
  obtain ⟨od, e1, h⟩ := bind_some' h
  obtain ⟨d, e2, h⟩ := bind_some' h
  cases h
  subst e2
  exact ⟨d, e1, rfl⟩
def gIx (a b : LV) : Option LV := match ixSeq a b with
  | some r => some r
  | none => match ixDict a b with
    | some r => some r
    | none => ixStr a b
def mIx (ma mb : ME) : ME := mBin gIx ma mb
section
variable {X : Cx} {pv : PV} {a b c : Expr} {ma mb mc : ME} {pos : Pos}
theorem d_ix (hu : X.A.units + 65 < cLine) (ha : DE X pv a ma) (hb : DE X pv b mb) (hs : PlainIx b := by exact fun _ _ => rfl) : DE X pv (.Subscript a b pos) (mIx ma mb) := by
  intro st o st' e
  obtain ⟨⟨oa, s1⟩, e1, e⟩ := bind_some' e
  obtain ⟨⟨ob, s2⟩, e2, e⟩ := bind_some' e
  obtain ⟨x, e3, e⟩ := bind_some' e
  obtain ⟨y, e4, e⟩ := bind_some' e
  obtain ⟨r, e5, e⟩ := bind_some' e
  cases e
  obtain ⟨k1, h1⟩ := ha _ _ _ e1
  obtain ⟨k2, h2⟩ := hb _ _ _ e2
  have both : ∀ own ρ Φ Ψ ts σ H, Stt X.K pv own ρ Φ Ψ ts st σ H → ∀ R : V → V → Hp → Prop, (∀ own2 ρ2 Φ2 H2 v u, Mon ρ Φ ρ2 Φ2 → Stt X.K pv own2 ρ2 Φ2 Ψ ts s2 σ H2 → LvR X.K own2 ρ2 Φ2 H2 v x → LvR X.K own2 ρ2 Φ2 H2 u y → R v u H2) →
      SE X a σ H fun x H1 => SE X b σ H1 fun y H2 => R x y H2 := fun own ρ Φ Ψ ts σ H z R q =>
    h1 own ρ Φ Ψ ts σ H z _ fun own1 ρ1 Φ1 H1 v m1 z1 => h2 own1 ρ1 Φ1 Ψ _ σ H1 z1 _ fun own2 ρ2 Φ2 H2 u m2 z2 => q own2 ρ2 Φ2 H2 v u (m1.trans m2) z2.drop.drop (z2.drop.top e3) (z2.top e4)
  refine ⟨k1.trans k2, fun own ρ Φ Ψ ts σ H z Q q => ?_⟩
  have hgo : ∀ t : Option LV, t = some r → t = some r := fun _ h => h
  unfold gIx at e5
  split at e5
  · rename_i r' e6
    cases e5
    obtain ⟨ds, i, d, g1, rfl, g2, rfl⟩ := ixSeq_some e6
    refine se_of (pe_ix (ix_list.or ix_tup) pe_SE pe_SE hs) (both own ρ Φ Ψ ts σ H z _ fun own2 ρ2 Φ2 H2 v u m2 z2 hv hy => ?_)
    have ey := lv_int hy
    subst ey
    obtain ⟨p', vs, rfl, g3, g4⟩ := hv.seq g1 z2.phi
    obtain ⟨w, g5, g6⟩ := g4.atI g2
    have qq := q own2 ρ2 Φ2 H2 w m2 (z2.push g6)
    rcases g3 with g3 | g3
    · exact .inl ⟨p', vs, i, w, rfl, rfl, g3, g5, qq⟩
    · exact .inr ⟨p', vs, i, w, rfl, rfl, g3, g5, qq⟩
  · split at e5
    · rename_i r' e6
      cases e5
      obtain ⟨d, g1, rfl⟩ := ixDict_some e6
      refine se_of (pe_dget (by omega) pe_SE pe_SE hs) (both own ρ Φ Ψ ts σ H z _ fun own2 ρ2 Φ2 H2 v u m2 z2 hv hy => ?_)
      obtain ⟨a', ov, rfl, g, g2, _⟩ := dGet_ok hv hy z2.phi g1
      obtain ⟨w, rfl, rw⟩ := g2 d rfl
      exact ⟨a', w, rfl, g, q own2 ρ2 Φ2 H2 w m2 (z2.push rw)⟩
    · obtain ⟨zz, i, ch, rfl, rfl, hz, g1, rfl⟩ := ixStr_some e5
      refine se_of (pe_ix ix_str pe_SE pe_SE hs) (both own ρ Φ Ψ ts σ H z _ fun own2 ρ2 Φ2 H2 v u m2 z2 hv hy => ?_)
      exact ⟨zz, i, ch, lv_str hv, lv_int hy, by rw [sizeLine_eq]; exact hz, g1, q own2 ρ2 Φ2 H2 _ m2 (z2.push (.str _))⟩

/-! ### calls of built-ins with one argument -/
def SCall (X : Cx) (f : Value) : List V → Hp → VK → Prop := fun xs H Q => ∀ (pins : List (Addr × Obj)) (s : Shared) (σ : L2.St) (us : List Value), Inv X pins σ H s → Vals xs us → wpAny (model X.prog X.w) X.A (call f us) (EP X pins σ Q) X.xe s
theorem callR_SCall {f : Value} : CallR X f (SCall X f) := fun pins s σ _ _ us _ I r h => h pins s σ us I r
theorem scall_of {f : Value} {r : List V → Hp → VK → Prop} (h : CallR X f r) {xs : List V} {H : Hp} {Q : VK} (q : r xs H Q) : SCall X f xs H Q := fun pins s σ us I rs => h pins s σ H xs us Q I rs q
def Ca1 (X : Cx) (f : Value) (g : LV → Option LV) : Prop :=
  ∀ (own : Addr → Option Tag) (ρ : Rho) (Φ H : Hp) (x : V) (l r : LV), g l = some r → LvR X.K own ρ Φ H x l → Same Φ H → ∀ Q : VK, (∀ v H', Res X.K ρ Φ H r v H' → Q v H') → SCall X f [x] H Q
theorem un_run {g : LV → Option LV} {R : V → Hp → VK → Prop} (hg : ∀ (own : Addr → Option Tag) (ρ : Rho) (Φ H : Hp) (x : V) (l r : LV), g l = some r → LvR X.K own ρ Φ H x l → Same Φ H → ∀ Q : VK, (∀ v H', Res X.K ρ Φ H r v H' → Q v H') → R x H Q)
    (ha : DE X pv a ma) {st st' : S} {o : Opd} (e : mUn g ma st = some (o, st')) : Kp st st' ∧
    ∀ own ρ Φ Ψ ts σ H, Stt X.K pv own ρ Φ Ψ ts st σ H → ∀ Q : VK, (∀ own' ρ' Φ' H' v, Mon ρ Φ ρ' Φ' → Stt X.K pv own' ρ' Φ' Ψ ((v, o) :: ts) st' σ H' → Q v H') → SE X a σ H fun x H1 => R x H1 Q := by
  obtain ⟨⟨oa, s1⟩, e1, e⟩ := bind_some' e
  obtain ⟨x, e2, e⟩ := bind_some' e
  obtain ⟨r, e3, e⟩ := bind_some' e
  cases e
  obtain ⟨k1, h1⟩ := ha _ _ _ e1
  refine ⟨k1, fun own ρ Φ Ψ ts σ H z Q q => h1 own ρ Φ Ψ ts σ H z _ fun own1 ρ1 Φ1 H1 v m1 z1 => ?_⟩
  refine hg own1 ρ1 Φ1 H1 v x r e3 (z1.top e2) z1.phi Q fun w H2 rs => ?_
  obtain ⟨own2, Φ2, m2, z2⟩ := z1.drop.res rs
  exact q own2 ρ1 Φ2 H2 w (m1.trans m2) z2
theorem d_call1 {id : String} {x : Str} {p : Pos} {g : LV → Option LV} (hg : Ca1 X (.builtin id) g) (ha : DE X pv a ma) (hm : X.mg x = none) (hv : bootBuiltins x = some (.builtin id)) (gl : Gl X x := by rfl) (hn : x ≠ "__name__" := by decide) (hdb : (x == ("__debug__" : Str)) = false := by decide)
    (hs : starEach [a] X.env = (false, eval a X.env) :: starEach [] X.env := by rfl) (hpl : (backTo pos (starEach ([] : List Expr) X.env)).any (·.1) = false := by rfl) : DE X pv (.Call (.Name x p) [a] [] pos) (mUn g ma) := by
  intro st o st' e
  obtain ⟨k, h⟩ := un_run (R := fun x H Q => SCall X (.builtin id) [x] H Q) hg ha e
  exact ⟨k, fun own ρ Φ Ψ ts σ H z Q q => se_of (pe_callB callR_SCall gl hm hv (pa_cons pe_SE pa_nil hs) hn hdb hs hpl) (h own ρ Φ Ψ ts σ H z Q q)⟩
theorem d_callT {T : String} {x : Str} {p : Pos} {g : LV → Option LV} (hg : Ca1 X (.type T) g) (ha : DE X pv a ma) (hm : X.mg x = none) (hv : bootBuiltins x = some (.type T)) (gl : Gl X x := by rfl) (hn : x ≠ "__name__" := by decide) (hdb : (x == ("__debug__" : Str)) = false := by decide)
    (hs : starEach [a] X.env = (false, eval a X.env) :: starEach [] X.env := by rfl) (hpl : (backTo pos (starEach ([] : List Expr) X.env)).any (·.1) = false := by rfl) : DE X pv (.Call (.Name x p) [a] [] pos) (mUn g ma) := by
  intro st o st' e
  obtain ⟨k, h⟩ := un_run (R := fun x H Q => SCall X (.type T) [x] H Q) hg ha e
  exact ⟨k, fun own ρ Φ Ψ ts σ H z Q q => se_of (pe_callTy callR_SCall gl hm hv (pa_cons pe_SE pa_nil hs) hn hdb hs hpl) (h own ρ Φ Ψ ts σ H z Q q)⟩
def gLen : LV → Option LV
  | .sh (.str z) => if z.length ≤ 16777216 then some (.int z.length) else none
  | .dk es => some (.int es.length)
  | l => l.seq?.bind fun ds => some (.int ds.length)
theorem ca_len : Ca1 X (.builtin "len") gLen := by
  intro own ρ Φ H x l r e hx p Q q
  have seqs : (l.seq?.bind fun ds => some (LV.int ds.length)) = some r → SCall X (.builtin "len") [x] H Q := fun e => by
    obtain ⟨ds, e1, e⟩ := bind_some' e
    cases e
    obtain ⟨a, vs, rfl, h1, h2⟩ := hx.seq e1 p
    exact scall_of call_len_seq ⟨a, vs, rfl, h1, by rw [h2.length]; exact q _ _ (.same (.int _))⟩
  unfold gLen at e
  split at e
  · rename_i zz
    split at e
    · rename_i hz
      cases e
      have ex := lv_str hx
      subst ex
      exact scall_of call_len ⟨_, _, rfl, ⟨by rw [sizeLine_eq]; exact hz, rfl⟩, q _ _ (.same (.int _))⟩
    · cases e
  · cases e
    obtain ⟨t, hx⟩ := hx
    cases hx with
    | ow h1 h2 h3 =>
    cases h2 with
    | dk h2 => exact scall_of call_lenD ⟨_, _, rfl, h1, by rw [kvd_len h2]; exact q _ _ (.same (.int _))⟩
  · exact seqs e
def gInt : LV → Option LV
  | .sh (.int i) => some (.int i)
  | .sh (.bool b) => some (.int (if b then 1 else 0))
  | _ => none
theorem ca_int : Ca1 X (.type "int") gInt := by
  intro own ρ Φ H x l r e hx p Q q
  unfold gInt at e
  split at e
  · cases e
    have ex := lv_int hx
    subst ex
    exact scall_of call_int1 (.inl ⟨_, rfl, q _ _ (.same (.int _))⟩)
  · cases e
    have ex := lv_bl hx
    subst ex
    exact scall_of call_int1 (.inr ⟨_, rfl, q _ _ (.same (.int _))⟩)
  · cases e
def gList : LV → Option LV := fun l => l.seq?.bind fun ds => some (.lst ds)
theorem ca_list : Ca1 X (.type "list") gList := by
  intro own ρ Φ H x l r e hx p Q q
  obtain ⟨ds, e1, e⟩ := bind_some' e
  cases e
  obtain ⟨a, vs, rfl, h1, h2⟩ := hx.seq e1 p
  exact scall_of call_list_of ⟨a, vs, rfl, h1, fun l nl => q _ _ (.new nl (.lst h2))⟩
def gTuple : LV → Option LV := fun l => l.seq?.bind fun ds => some (.sh (.tuple ds))
theorem ca_tuple : Ca1 X (.type "tuple") gTuple := by
  intro own ρ Φ H x l r e hx p Q q
  obtain ⟨ds, e1, e⟩ := bind_some' e
  cases e
  rcases seq_of e1 with e2 | e2
  · obtain ⟨a, vs, rfl, h1, h2⟩ := hx.rd e2 p
    exact scall_of call_tuple_of ⟨a, vs, rfl, .inl ⟨h1, fun l nl => q _ _ (.tup nl h2)⟩⟩
  · obtain ⟨a, vs, ex, h1, h2⟩ := hx.tup e2 p
    have el := tup_eq e2
    subst el
    subst ex
    exact scall_of call_tuple_of ⟨a, vs, rfl, .inr ⟨h1, q _ _ (.same (LvR.sh hx))⟩⟩
/-- a list of ints -/
def ints? : List PyData → Option (List Int)
  | [] => some []
  | .int i :: ds => (ints? ds).bind fun ns => some (i :: ns)
  | _ => none
theorem ints_eq : ∀ {ds : List PyData} {ns : List Int}, ints? ds = some ns → ds = ns.map PyData.int
  | [], _, h => by cases h; rfl
  | .int i :: ds, _, h => by
    obtain ⟨ns, h1, h⟩ := bind_some' h
    cases h
    rw [ints_eq h1]
    rfl
  | .none :: _, _, h => by cases h
  | .bool _ :: _, _, h => by cases h
  | .str _ :: _, _, h => by cases h
  | .list _ :: _, _, h => by cases h
  | .tuple _ :: _, _, h => by cases h
  | .dict _ :: _, _, h => by cases h
theorem ints_map : ∀ ns : List Int, ints? (ns.map PyData.int) = some ns
  | [] => rfl
  | n :: ns => by
    show (ints? (ns.map PyData.int)).bind _ = _
    rw [ints_map ns]
    rfl
def bools? : List PyData → Option (List Bool)
  | [] => some []
  | .bool i :: ds => (bools? ds).bind fun ns => some (i :: ns)
  | _ => none
theorem bools_eq : ∀ {ds : List PyData} {ns : List Bool}, bools? ds = some ns → ds = ns.map PyData.bool
  | [], _, h => by cases h; rfl
  | .bool i :: ds, _, h => by
    obtain ⟨ns, h1, h⟩ := bind_some' h
    cases h
    rw [bools_eq h1]
    rfl
  | .none :: _, _, h => by cases h
  | .int _ :: _, _, h => by cases h
  | .str _ :: _, _, h => by cases h
  | .list _ :: _, _, h => by cases h
  | .tuple _ :: _, _, h => by cases h
  | .dict _ :: _, _, h => by cases h
theorem bools_map : ∀ ns : List Bool, bools? (ns.map PyData.bool) = some ns
  | [] => rfl
  | n :: ns => by
    show (bools? (ns.map PyData.bool)).bind _ = _
    rw [bools_map ns]
    rfl
theorem LvR.ints {own : Addr → Option Tag} {ρ : Rho} {Φ H : Hp} {x : V} {l : LV} {ds : List PyData} {ns : List Int} (hx : LvR X.K own ρ Φ H x l) (e1 : l.rd? = some ds) (e2 : ints? ds = some ns) (p : Same Φ H) : ∃ a, x = .ref a ∧ SqL X.K H a (ns.map V.int) := by
  obtain ⟨a, vs, rfl, h1, h2⟩ := hx.rd e1 p
  have e := ints_eq e2
  subst e
  rw [RpA.of_ints ns h2] at h1
  exact ⟨a, rfl, h1⟩
theorem LvR.bools {own : Addr → Option Tag} {ρ : Rho} {Φ H : Hp} {x : V} {l : LV} {ds : List PyData} {ns : List Bool} (hx : LvR X.K own ρ Φ H x l) (e1 : l.rd? = some ds) (e2 : bools? ds = some ns) (p : Same Φ H) : ∃ a, x = .ref a ∧ SqL X.K H a (ns.map V.bl) := by
  obtain ⟨a, vs, rfl, h1, h2⟩ := hx.rd e1 p
  have e := bools_eq e2
  subst e
  rw [RpA.bools ns h2] at h1
  exact ⟨a, rfl, h1⟩
def gSum : LV → Option LV := fun l => l.rd?.bind fun ds => (ints? ds).bind fun ns => some (.int ns.sum)
theorem ca_sum (hc : X.calm = true) : Ca1 X (.builtin "sum") gSum := by
  intro own ρ Φ H x l r e hx p Q q
  obtain ⟨ds, e1, e⟩ := bind_some' e
  obtain ⟨ns, e2, e⟩ := bind_some' e
  cases e
  obtain ⟨a, rfl, h1⟩ := hx.ints e1 e2 p
  exact scall_of (cr_sum hc) ⟨a, ns, rfl, h1, q _ _ (.same (.int _))⟩
/-- the greatest of a list of ints that is not empty -/
def maxI : List Int → Option Int
  | [] => none
  | n :: ns => some (ns.foldl max n)
theorem foldl_max (ns : List Int) : ∀ n : Int, n ≤ ns.foldl max n ∧ (∀ m ∈ ns, m ≤ ns.foldl max n) ∧ (ns.foldl max n = n ∨ ns.foldl max n ∈ ns) := by
  induction ns with
  | nil => exact fun n => ⟨Int.le_refl _, (fun m h => by cases h), .inl rfl⟩
  | cons a ns ih =>
    intro n
    obtain ⟨h1, h2, h3⟩ := ih (max n a)
    refine ⟨by rw [List.foldl_cons]; omega, fun m hm => ?_, ?_⟩
    · rcases List.mem_cons.mp hm with rfl | hm
      · rw [List.foldl_cons]; omega
      · exact h2 m hm
    · rw [List.foldl_cons]
      rcases h3 with h3 | h3
      · rw [h3]
        by_cases h : n ≤ a
        · right; rw [Int.max_eq_right h]; exact List.mem_cons_self
        · left; exact Int.max_eq_left (by omega)
      · exact .inr (List.mem_cons_of_mem _ h3)
theorem maxI_uniq {ns : List Int} {M m : Int} (e : maxI ns = some M) (hm : m ∈ ns) (hl : ∀ y, y ∈ ns → y ≤ m) : m = M := by
  cases ns with
  | nil => cases e
  | cons n ns =>
    have e' : ns.foldl max n = M := Option.some.inj e
    obtain ⟨h1, h2, h3⟩ := foldl_max ns n
    rw [e'] at h1 h2 h3
    have a1 : m ≤ M := by
      rcases List.mem_cons.mp hm with rfl | hm
      · exact h1
      · exact h2 m hm
    have a2 : M ≤ m := by
      rcases h3 with h3 | h3
      · rw [h3]; exact hl n List.mem_cons_self
      · exact hl M (List.mem_cons_of_mem _ h3)
    omega
def gMax : LV → Option LV := fun l => l.rd?.bind fun ds => (ints? ds).bind fun ns => (maxI ns).bind fun m => some (.int m)
theorem ca_max (hc : X.calm = true) : Ca1 X (.builtin "max") gMax := by
  intro own ρ Φ H x l r e hx p Q q
  obtain ⟨ds, e1, e⟩ := bind_some' e
  obtain ⟨ns, e2, e⟩ := bind_some' e
  obtain ⟨M, e3, e⟩ := bind_some' e
  cases e
  obtain ⟨a, rfl, h1⟩ := hx.ints e1 e2 p
  refine scall_of (cr_max hc) ⟨a, ns, rfl, h1, ?_, fun m hm hl => ?_⟩
  · cases ns with
    | nil => cases e3
    | cons => simp
  · rw [maxI_uniq e3 hm hl]
    exact q _ _ (.same (.int _))
def gAll : LV → Option LV := fun l => l.rd?.bind fun ds => (bools? ds).bind fun ns => some (.bl (ns.all id))
theorem ca_all (hc : X.calm = true) : Ca1 X (.builtin "all") gAll := by
  intro own ρ Φ H x l r e hx p Q q
  obtain ⟨ds, e1, e⟩ := bind_some' e
  obtain ⟨ns, e2, e⟩ := bind_some' e
  cases e
  obtain ⟨a, rfl, h1⟩ := hx.bools e1 e2 p
  exact scall_of (cr_all hc) ⟨a, ns, rfl, h1, q _ _ (.same (.bl _))⟩
def gAny : LV → Option LV := fun l => l.rd?.bind fun ds => (bools? ds).bind fun ns => some (.bl (ns.any id))
theorem ca_any (hc : X.calm = true) : Ca1 X (.builtin "any") gAny := by
  intro own ρ Φ H x l r e hx p Q q
  obtain ⟨ds, e1, e⟩ := bind_some' e
  obtain ⟨ns, e2, e⟩ := bind_some' e
  cases e
  obtain ⟨a, rfl, h1⟩ := hx.bools e1 e2 p
  exact scall_of (cr_any hc) ⟨a, ns, rfl, h1, q _ _ (.same (.bl _))⟩
/-- sorted ints -/
def isort (ns : List Int) : List Int := ns.mergeSort (fun a b => decide (a ≤ b))
theorem isort_perm (ns : List Int) : (isort ns).Perm ns := List.mergeSort_perm ns _
theorem isort_sorted (ns : List Int) : (isort ns).Pairwise (· ≤ ·) := by
  have h := List.pairwise_mergeSort (le := fun a b : Int => decide (a ≤ b)) (fun a b c h1 h2 => by simp only [decide_eq_true_eq] at *; omega) (fun a b => by simp only [Bool.or_eq_true, decide_eq_true_eq]; omega) ns
  exact h.imp fun h => of_decide_eq_true h
theorem sorted_uniq : ∀ {l1 l2 : List Int}, l1.Perm l2 → l1.Pairwise (· ≤ ·) → l2.Pairwise (· ≤ ·) → l1 = l2 := fun h h1 h2 =>
  h.eq_of_pairwise (le := (· ≤ ·)) (fun a b _ _ h1 h2 => Int.le_antisymm h1 h2) h1 h2
def gSorted : LV → Option LV := fun l => l.rd?.bind fun ds => (ints? ds).bind fun ns => some (.lst ((isort ns).map .int))
theorem ca_sorted : Ca1 X (.builtin "sorted") gSorted := by
  intro own ρ Φ H x l r e hx p Q q
  obtain ⟨ds, e1, e⟩ := bind_some' e
  obtain ⟨ns, e2, e⟩ := bind_some' e
  cases e
  obtain ⟨a, rfl, h1⟩ := hx.ints e1 e2 p
  refine scall_of cr_sortedI ⟨a, ns, rfl, h1, fun ns' p' hp hs np => ?_⟩
  have e : ns' = isort ns := sorted_uniq (hp.trans (isort_perm ns).symm) hs (isort_sorted ns)
  subst e
  exact q _ _ (.new np (.lst (RpA.ints _)))
end
end Dn
set_option Elab.async false
set_option linter.all false
set_option maxRecDepth 100000
set_option maxHeartbeats 4000000
/-! Den, part 5: calls of the program's own defs. -/
namespace Dn
open PySem PySem.Spec PyProof.Rows L2

def mAnil : MA := fun st => some ([], st)
def mAcons (m : ME) (ms : MA) : MA := fun st => (m st).bind fun p => (ms p.2).bind fun q => some (p.1 :: q.1, q.2)
section
variable {X : Cx} {pv : PV} {a : Expr}
theorem d_anil : DA X pv [] mAnil := by
  intro st o st' e
  cases e
  exact ⟨Kp.refl _, rfl, fun own ρ Φ Ψ ts σ H z Q q => sa_of pa_nil (q own ρ Φ H [] (Mon.refl _ _) rfl z)⟩
theorem d_acons {es : List Expr} {m : ME} {ms : MA} (h : DE X pv a m) (hs : DA X pv es ms) (hst : starEach (a :: es) X.env = (false, eval a X.env) :: starEach es X.env := by rfl) : DA X pv (a :: es) (mAcons m ms) := by
  intro st o st' e
  obtain ⟨⟨o1, s1⟩, e1, e⟩ := bind_some' e
  obtain ⟨⟨os, s2⟩, e2, e⟩ := bind_some' e
  cases e
  obtain ⟨k1, h1⟩ := h _ _ _ e1
  obtain ⟨k2, l2, h2⟩ := hs _ _ _ e2
  refine ⟨k1.trans k2, by rw [List.length_cons, List.length_cons, l2], fun own ρ Φ Ψ ts σ H z Q q => sa_of (pa_cons pe_SE pa_SA hst) (h1 own ρ Φ Ψ ts σ H z _ fun own' ρ' Φ' H' v m z' => ?_)⟩
  exact h2 _ _ _ _ _ _ _ z' _ fun own2 ρ2 Φ2 H2 vs m2 hl z2 => q own2 ρ2 Φ2 H2 (v :: vs) (m.trans m2) (by rw [List.length_cons, List.length_cons, hl]) z2
end

def resAll (st : S) : List Opd → Option (List LV)
  | [] => some []
  | o :: os => (resO st o).bind fun l => (resAll st os).bind fun ls => some (l :: ls)
theorem resAll_get {st : S} : ∀ {os : List Opd} {ls : List LV}, resAll st os = some ls → ls.length = os.length ∧ ∀ (j : Nat) (l : LV), ls[j]? = some l → ∃ o, os[j]? = some o ∧ resO st o = some l
  | [], _, h => by cases h; exact ⟨rfl, fun j l e => by simp at e⟩
  | o :: os, _, h => by
    obtain ⟨l1, e1, h⟩ := bind_some' h
    obtain ⟨ls1, e2, h⟩ := bind_some' h
    cases h
    obtain ⟨h1, h2⟩ := resAll_get e2
    refine ⟨by rw [List.length_cons, List.length_cons, h1], fun j l e => ?_⟩
    cases j with
    | zero => simp at e; subst e; exact ⟨o, rfl, e1⟩
    | succ j => exact h2 j l (by simpa using e)
def idxOf : List Opd → Nat → Option Nat
  | [], _ => none
  | .slot k :: os, i => if k = i then some 0 else (idxOf os i).map (· + 1)
  | .lv _ :: os, i => (idxOf os i).map (· + 1)
def dist : List Opd → Bool
  | [] => true
  | .slot i :: os => (idxOf os i).isNone && dist os
  | .lv _ :: os => dist os
theorem idxOf_get : ∀ {os : List Opd} {i j : Nat}, idxOf os i = some j → os[j]? = some (.slot i)
  | .slot k :: os, i, j, h => by
    unfold idxOf at h
    by_cases hk : k = i
    · rw [if_pos hk] at h; cases h; subst hk; rfl
    · rw [if_neg hk] at h
      cases e : idxOf os i with
      | none => rw [e] at h; cases h
      | some j' => rw [e] at h; cases h; simpa using idxOf_get e
  | .lv _ :: os, i, j, h => by
    unfold idxOf at h
    cases e : idxOf os i with
    | none => rw [e] at h; cases h
    | some j' => rw [e] at h; cases h; simpa using idxOf_get e
theorem dist_idx : ∀ {os : List Opd} {i j : Nat}, dist os = true → os[j]? = some (.slot i) → idxOf os i = some j
  | .slot k :: os, i, j, h, e => by
    simp only [dist, Bool.and_eq_true] at h
    cases j with
    | zero =>
      simp at e
      subst e
      simp [idxOf]
    | succ j =>
      have e' : os[j]? = some (.slot i) := by simpa using e
      have ih := dist_idx h.2 e'
      have hk : k ≠ i := fun q => by
        subst q
        rw [ih] at h
        simp at h
      simp [idxOf, hk, ih]
  | .lv _ :: os, i, j, h, e => by
    simp only [dist] at h
    cases j with
    | zero => simp at e
    | succ j =>
      have e' : os[j]? = some (.slot i) := by simpa using e
      simp [idxOf, dist_idx h e']
  | [], _, _, _, e => by simp at e
def setBack : List Opd → List (Option LV) → List (Option Sl) → Option (List (Option Sl))
  | [], _, ls => some ls
  | .lv _ :: os, as, ls => setBack os as.tail ls
  | .slot i :: os, as, ls => match ls[i]? with
    | some (some x) => if x.lv.isOwn && !x.lv.isRo then (match as.head? with
      | some (some l) => setBack os as.tail (ls.set i (some { x with lv := l }))
      | _ => none) else setBack os as.tail ls
    | _ => none
theorem setBack_get : ∀ {os : List Opd} {as : List (Option LV)} {ls ls' : List (Option Sl)}, setBack os as ls = some ls' → dist os = true →
    ls'.length = ls.length ∧ ∀ k : Nat, (idxOf os k = none → ls'[k]? = ls[k]?) ∧ ∀ j x, idxOf os k = some j → ls[k]? = some (some x) →
      ((x.lv.isOwn && !x.lv.isRo) = true → ∃ l, as[j]? = some (some l) ∧ ls'[k]? = some (some { x with lv := l })) ∧ ((x.lv.isOwn && !x.lv.isRo) = false → ls'[k]? = ls[k]?)
  | [], as, ls, ls', h, _ => by
    cases h
    exact ⟨rfl, fun k => ⟨fun _ => rfl, fun j x e => by cases e⟩⟩
  | .lv _ :: os, as, ls, ls', h, d => by
    obtain ⟨h1, h2⟩ := setBack_get (os := os) h d
    refine ⟨h1, fun k => ⟨fun e => (h2 k).1 (by
      unfold idxOf at e
      cases q : idxOf os k with
      | none => rfl
      | some j => rw [q] at e; cases e), fun j x e ex => ?_⟩⟩
    unfold idxOf at e
    cases q : idxOf os k with
    | none => rw [q] at e; cases e
    | some j' =>
      rw [q] at e
      cases e
      obtain ⟨g1, g2⟩ := (h2 k).2 j' x q ex
      refine ⟨fun c => ?_, g2⟩
      obtain ⟨l, g3, g4⟩ := g1 c
      exact ⟨l, by cases as with | nil => simp at g3 | cons a as => simpa using g3, g4⟩
  | .slot i :: os, as, ls, ls', h, d => by
    simp only [dist, Bool.and_eq_true] at d
    unfold setBack at h
    split at h
    · rename_i x hx
      by_cases c : (x.lv.isOwn && !x.lv.isRo) = true
      · rw [if_pos c] at h
        split at h
        · rename_i l hl
          obtain ⟨h1, h2⟩ := setBack_get (os := os) h d.2
          refine ⟨by rw [h1, List.length_set], fun k => ?_⟩
          have hi : i < ls.length := (List.getElem?_eq_some_iff.mp hx).1
          by_cases hk : i = k
          · subst hk
            have en : idxOf os i = none := by simpa using d.1
            have e0 : idxOf (.slot i :: os) i = some 0 := by simp [idxOf]
            refine ⟨(fun e => by rw [e0] at e; cases e), fun j x' e ex => ?_⟩
            rw [e0] at e
            cases e
            rw [hx] at ex
            cases ex
            refine ⟨fun _ => ⟨l, ?_, ?_⟩, fun c' => by rw [c] at c'; cases c'⟩
            · cases as with
              | nil => simp at hl
              | cons a as => simpa using hl
            · rw [(h2 i).1 en, List.getElem?_set_self hi]
          · have e0 : idxOf (.slot i :: os) k = (idxOf os k).map (· + 1) := by simp [idxOf, hk]
            have es : (ls.set i (some { x with lv := l }))[k]? = ls[k]? := List.getElem?_set_ne hk
            refine ⟨fun e => ?_, fun j x' e ex => ?_⟩
            · rw [e0] at e
              cases q : idxOf os k with
              | none => rw [(h2 k).1 q, es]
              | some j => rw [q] at e; cases e
            · rw [e0] at e
              cases q : idxOf os k with
              | none => rw [q] at e; cases e
              | some j' =>
                rw [q] at e
                cases e
                obtain ⟨g1, g2⟩ := (h2 k).2 j' x' q (by rw [es]; exact ex)
                refine ⟨fun c => ?_, fun c => by rw [g2 c, es]⟩
                obtain ⟨l', g3, g4⟩ := g1 c
                exact ⟨l', by cases as with | nil => simp at g3 | cons a as => simpa using g3, g4⟩
        · cases h
      · rw [if_neg c] at h
        have c' : (x.lv.isOwn && !x.lv.isRo) = false := by simpa using c
        obtain ⟨h1, h2⟩ := setBack_get (os := os) h d.2
        refine ⟨h1, fun k => ?_⟩
        by_cases hk : i = k
        · subst hk
          have en : idxOf os i = none := by simpa using d.1
          have e0 : idxOf (.slot i :: os) i = some 0 := by simp [idxOf]
          refine ⟨(fun e => by rw [e0] at e; cases e), fun j x' e ex => ?_⟩
          rw [hx] at ex
          cases ex
          exact ⟨(fun q => by rw [c'] at q; cases q), fun _ => (h2 i).1 en⟩
        · have e0 : idxOf (.slot i :: os) k = (idxOf os k).map (· + 1) := by simp [idxOf, hk]
          refine ⟨fun e => ?_, fun j x' e ex => ?_⟩
          · rw [e0] at e
            cases q : idxOf os k with
            | none => exact (h2 k).1 q
            | some j => rw [q] at e; cases e
          · rw [e0] at e
            cases q : idxOf os k with
            | none => rw [q] at e; cases e
            | some j' =>
              rw [q] at e
              cases e
              obtain ⟨g1, g2⟩ := (h2 k).2 j' x' q ex
              refine ⟨fun c => ?_, g2⟩
              obtain ⟨l', g3, g4⟩ := g1 c
              exact ⟨l', by cases as with | nil => simp at g3 | cons a as => simpa using g3, g4⟩
    · cases h

/-! ### into the callee and back -/
def enterOwn (n0 : Nat) (os : List Opd) (own : Addr → Option Tag) : Addr → Option Tag := fun a => match own a with
  | some (.tmp m) => if n0 ≤ m then some (.slot (m - n0)) else some .frame
  | some (.slot i) => match idxOf os i with
    | some j => some (.slot j)
    | none => some .frame
  | t => t
def leaveOwn (n0 : Nat) (os : List Opd) (own own' : Addr → Option Tag) (Ψc : Hp) : Addr → Option Tag := fun a => match Ψc a with
  | some _ => own a
  | none => match own' a with
    | some (.slot j) => match os[j]? with
      | some (.slot i) => some (.slot i)
      | _ => none
    | some (.tmp _) => some (.tmp n0)
    | some .frame => none
    | t => t
section
variable {K : PySem.W.Frag} {pv : PV} {own own' : Addr → Option Tag} {ρ ρ' : Rho} {Φ Φ' Ψ H H' : Hp} {ts : List (V × Opd)} {st : S} {σ : L2.St} {os : List Opd} {vs : List V}
theorem enter_tmp {n0 m : Nat} {a : Addr} (e : own a = some (.tmp m)) (h : n0 ≤ m) : enterOwn n0 os own a = some (.slot (m - n0)) := by
  unfold enterOwn; rw [e]; exact if_pos h
theorem enter_low {n0 m : Nat} {a : Addr} (e : own a = some (.tmp m)) (h : m < n0) : enterOwn n0 os own a = some .frame := by
  unfold enterOwn; rw [e]; exact if_neg (by omega)
theorem enter_slot {n0 i j : Nat} {a : Addr} (e : own a = some (.slot i)) (h : idxOf os i = some j) : enterOwn n0 os own a = some (.slot j) := by
  unfold enterOwn; rw [e]; simp only [h]
theorem enter_other {n0 i : Nat} {a : Addr} (e : own a = some (.slot i)) (h : idxOf os i = none) : enterOwn n0 os own a = some .frame := by
  unfold enterOwn; rw [e]; simp only [h]
theorem enter_obj {n0 : Nat} {t : Tag} {a : Addr} (e : own a = some t) (h : ∀ i, t ≠ .slot i) (h2 : ∀ i, t ≠ .tmp i) : enterOwn n0 os own a = some t := by
  unfold enterOwn; rw [e]
  cases t <;> first | rfl | exact absurd rfl (h _) | exact absurd rfl (h2 _)
theorem enter_some {n0 : Nat} {a : Addr} {t : Tag} (e : enterOwn n0 os own a = some t) : ∃ t', own a = some t' ∧ (t = .tab → t' = .tab) := by
  cases q : own a with
  | none => unfold enterOwn at e; rw [q] at e; cases e
  | some t' =>
    refine ⟨t', rfl, fun ht => ?_⟩
    subst ht
    unfold enterOwn at e
    rw [q] at e
    cases t' <;> simp only at e <;> first | (split at e <;> cases e; done) | (cases e; done) | rfl
theorem ts_split : ∀ {vs : List V} {os : List Opd} {ts : List (V × Opd)} {ls : List (Option Sl)}, vs.length = os.length → TsOk K own ρ Φ H ls σ (pushTs vs os ts) → TsOk K own ρ Φ H ls σ ts ∧
    ∀ (j : Nat) (v : V) (o : Opd), vs[j]? = some v → os[j]? = some o → (∀ l, o = .lv l → LvOk K own ρ Φ H (.tmp (ts.length + j)) v l) ∧ (∀ i, o = .slot i → σ[i]? = some (some v) ∧ ∃ x, ls[i]? = some (some x) ∧ x.c = false)
  | [], [], ts, ls, _, h => ⟨h, fun j v o e => by simp at e⟩
  | v :: vs, o :: os, ts, ls, hl, h => by
    have hl' : vs.length = os.length := by simpa using hl
    obtain ⟨h1, h2⟩ := ts_split (ts := (v, o) :: ts) hl' h
    refine ⟨tsOk_tail h1, fun j w o' e1 e2 => ?_⟩
    cases j with
    | zero =>
      simp at e1 e2
      subst e1 e2
      cases o with
      | lv l => exact ⟨fun l' q => by cases q; exact h1.1, fun i q => by cases q⟩
      | slot i => exact ⟨fun l' q => (by cases q), fun i' q => by cases q; exact h1.1⟩
    | succ j =>
      have := h2 j w o' (by simpa using e1) (by simpa using e2)
      simp only [List.length_cons] at this
      rw [show ts.length + 1 + j = ts.length + (j + 1) by omega] at this
      exact this
  | [], _ :: _, _, _, hl, _ => by simp at hl
  | _ :: _, [], _, _, hl, _ => by simp at hl
abbrev entSl (l : LV) : Option Sl := some ⟨l, l.isOwn, false⟩
/-- a list that is handed over to be read -/
def roOf : LV → Option LV
  | .lst ds => some (.rv ds)
  | .ro ds => some (.rv ds)
  | .rv ds => some (.rv ds)
  | .sh (.list ds) => some (.rv ds)
  | .sh d => some (.sh d)
  | _ => none
theorem LvOk.view {t : Tag} {v : V} {l0 l : LV} (h : LvOk K own ρ Φ H t v l0) (e : roOf l0 = some l) : LvOk K own ρ Φ H t v l := by
  unfold roOf at e
  split at e
  · cases e; cases h with
    | ow h1 h2 h3 => cases h2 with | lst r => exact .ow h1 (.rv r) h3
  · cases e; cases h with
    | ow h1 h2 h3 => cases h2 with | ro r => exact .ow h1 (.rv r) h3
  · cases e; exact h
  · cases e; cases h with
    | sh r => cases r with | lst h1 h2 => exact .rp h1 h2
    | ow h1 h2 h3 => cases h2
  · cases e; exact h
  · cases e
theorem roOf_cases {l0 l : LV} (e : roOf l0 = some l) : (∃ ds, l = .rv ds) ∨ ∃ d, l = .sh d ∧ l0 = .sh d := by
  unfold roOf at e
  split at e <;> first | (cases e; exact .inl ⟨_, rfl⟩) | (cases e; exact .inr ⟨_, rfl, rfl⟩) | cases e
/-- the operands os, of which only om are lent; rs: what the callee gets -/
structure Lent (st : S) (os om : List Opd) (rs : List LV) : Prop where
  len : om.length = os.length
  lenr : rs.length = os.length
  sub : ∀ (j k : Nat), om[j]? = some (.slot k) → os[j]? = some (.slot k)
  got : ∀ (j : Nat) (l : LV), rs[j]? = some l → ∃ o l0, os[j]? = some o ∧ resO st o = some l0 ∧ ((om[j]? = some o ∧ l = l0) ∨ (roOf l0 = some l ∧ ∀ k, o = .slot k → idxOf om k = none))
  own : ∀ (j k : Nat) (x : Sl), om[j]? = some (.slot k) → st.ls[k]? = some (some x) → rs[j]? = some x.lv ∧ x.lv.isRv = false
  dst : dist om = true
theorem Stt.enter {om : List Opd} (z : Stt K pv own ρ Φ Ψ (pushTs vs os ts) st σ H) (hl : vs.length = os.length) {rs : List LV} (L : Lent st os om rs) :
    Stt K { pv with vs := vs } (enterOwn ts.length om own) ρ Φ (fun a => if enterOwn ts.length om own a = some .frame then H a else none) [] ⟨rs.map entSl⟩ (vs.map some) H := by
  obtain ⟨hts, harg⟩ := ts_split hl z.temps
  have tk := z.tabsK (own' := enterOwn ts.length om own) (H' := H) (fun t a o ht e q => ⟨q, enter_obj e (by rcases ht with rfl | rfl | rfl <;> exact fun _ q => by cases q) (by rcases ht with rfl | rfl | rfl <;> exact fun _ q => by cases q)⟩) (fun a e => by
    obtain ⟨t', h1, h2⟩ := enter_some e
    rw [h1, h2 rfl])
  have kf : ∀ a o, own a = some .frame → H a = some o → H a = some o ∧ enterOwn ts.length om own a = some .frame := fun a o e q => ⟨q, enter_obj e (fun _ q => by cases q) (fun _ q => by cases q)⟩
  refine { phi := z.phi, psi := fun a u e => ?_, dPhi := fun a t e => ?_, dPsi := fun a u e => ?_, dom := fun a t e => ?_, len := ?_, slots := fun i x e => ?_, temps := trivial, tabs := tk.1, tabsIn := tk.2.1, codsIn := tk.2.2.1, rcl := z.rcl, cach := tk.2.2.2 }
  · try simp only at e
    split at e
    · exact e
    · cases e
  · obtain ⟨t', h1, _⟩ := enter_some e
    exact z.dPhi a t' h1
  · try simp only at e
    split at e
    · assumption
    · cases e
  · obtain ⟨t', h1, _⟩ := enter_some e
    exact z.dom a t' h1
  · simp [L.lenr, hl]
  · have e : (rs.map entSl)[i]? = some (some x) := e
    rw [List.getElem?_map] at e
    cases q : rs[i]? with
    | none => rw [q] at e; cases e
    | some l =>
      rw [q] at e
      cases e
      obtain ⟨o, l0, ho, hro, hc⟩ := L.got i l q
      have hi : i < vs.length := by rw [hl]; exact (List.getElem?_eq_some_iff.mp ho).1
      have hv : vs[i]? = some vs[i] := List.getElem?_eq_getElem hi
      refine ⟨vs[i], by rw [List.getElem?_map, hv]; rfl, ?_, fun _ => hv⟩
      obtain ⟨g1, g2⟩ := harg i _ o hv ho
      cases o with
      | lv l' =>
        cases hro
        have f2 : LvOk K (enterOwn ts.length om own) ρ Φ H (.slot i) vs[i] l0 := (g1 l0 rfl).mono (Mon.refl _ _) (fun a u e h => ⟨h, by rw [enter_tmp e (Nat.le_add_right _ _)]; congr 2; omega⟩) kf
        rcases hc with ⟨_, rfl⟩ | ⟨hc, _⟩
        · exact f2
        · exact f2.view hc
      | slot k =>
        obtain ⟨hs, x, hx, _⟩ := g2 k rfl
        simp only [resO, hx, Option.bind_some, Option.map_some] at hro
        cases hro
        obtain ⟨w, f1, f2, _⟩ := z.slots k x hx
        rw [hs] at f1
        cases f1
        rcases hc with ⟨ho', rfl⟩ | ⟨hc, hk⟩
        · exact f2.mono (Mon.refl _ _) (fun a u e h => ⟨h, enter_slot e (dist_idx L.dst ho')⟩) kf
        · have f3 := f2.view hc
          rcases roOf_cases hc with ⟨ds, rfl⟩ | ⟨d, rfl, _⟩
          · generalize vs[i] = w at f3
            cases f3 with
            | ow h1 h2 h3 => cases h2 with | rv r => exact .rf h1 (enter_other h3 (hk k rfl)) r
            | rf h1 h2 h3 => exact .rf h1 (kf _ _ h2 h1).2 h3
            | rp h1 h2 => exact .rp h1 h2
          · exact .sh (LvR.sh ⟨_, f3⟩)
abbrev retSl (o : Option LV) : Option Sl := o.map fun l => ⟨l, true, false⟩
theorem leave_psi {n0 : Nat} {Ψc : Hp} {a : Addr} {u : HO} (h : Ψc a = some u) : leaveOwn n0 os own own' Ψc a = own a := by unfold leaveOwn; rw [h]
theorem leave_not {n0 : Nat} {Ψc : Hp} {a : Addr} (h : Ψc a = none) {t : Tag} (e : own' a = some t) : leaveOwn n0 os own own' Ψc a = (match t with
    | .slot j => match os[j]? with
      | some (.slot i) => some (.slot i)
      | _ => none
    | .tmp _ => some (.tmp n0)
    | .frame => none
    | t => some t) := by
  unfold leaveOwn
  rw [h]
  simp only [e]
  cases t <;> rfl
theorem Stt.leave (z : Stt K pv own ρ Φ Ψ (pushTs vs os ts) st σ H) {om : List Opd} (hl : vs.length = os.length) {ls : List LV} (L : Lent st os om ls) {v : V} {r : LV} {as' : List (Option LV)} {ls' : List (Option Sl)}
    (zc : Stt K { pv with vs := vs } own' ρ' Φ' (fun a => if enterOwn ts.length om own a = some .frame then H a else none) [(v, .lv r)] ⟨as'.map retSl⟩ (vs.map some) H') (m : Mon ρ Φ ρ' Φ') (hro : ∀ (j : Nat) (l : LV), ls[j]? = some l → l.isRo = true → l.isRv = false → as'[j]? = some (some l)) (hrr : r.isRv = false) (has : ∀ (j : Nat) (l : LV), as'[j]? = some (some l) → l.isRv = false)
    (hb : setBack om as' st.ls = some ls') : ∃ own'', Stt K pv own'' ρ' Φ' Ψ ((v, .lv r) :: ts) ⟨ls'⟩ σ H' := by
  obtain ⟨hts, harg⟩ := ts_split hl z.temps
  obtain ⟨hb1, hb2⟩ := setBack_get hb L.dst
  have hΨ : ∀ a u, own a ≠ none → enterOwn ts.length om own a = some .frame → H a = some u → (fun a => if enterOwn ts.length om own a = some .frame then H a else none) a = some u := fun a u _ e h => by
    simp only
    rw [if_pos e]
    exact h
  generalize hPs : (fun a => if enterOwn ts.length om own a = some .frame then H a else none) = Ψc at zc hΨ
  have notΨ : ∀ a t, own' a = some t → t ≠ .frame → Ψc a = none := fun a t e n => by
    cases q : Ψc a with
    | none => rfl
    | some u =>
      have := zc.dPsi a u q
      rw [e] at this
      exact absurd (Option.some.inj this) n
  have psiOwn : ∀ a u, Ψc a = some u → ∃ t, own a = some t := fun a u e => by
    rw [← hPs] at e
    simp only at e
    split at e
    · rename_i h
      obtain ⟨t, h1, _⟩ := enter_some h
      exact ⟨t, h1⟩
    · cases e
  -- what stands in the frame stands still
  have fr : ∀ (t : Tag) (a : Addr) (u : HO), own a = some t → enterOwn ts.length om own a = some .frame → H a = some u → H' a = some u ∧ leaveOwn ts.length om own own' Ψc a = some t := fun t a u e en h => by
    have q := hΨ a u (by rw [e]; exact fun z => by cases z) en h
    exact ⟨zc.psi a u q, by rw [leave_psi q]; exact e⟩
  have back : ∀ a t, leaveOwn ts.length om own own' Ψc a = some t → (∃ u, Ψc a = some u) ∨ ∃ t', own' a = some t' ∧ (t = .tab → t' = .tab) := fun a t e => by
    cases q : Ψc a with
    | some u => exact .inl ⟨u, rfl⟩
    | none =>
      refine .inr ?_
      cases q2 : own' a with
      | none =>
        unfold leaveOwn at e
        rw [q] at e
        simp only [q2] at e
        cases e
      | some t' =>
        refine ⟨t', rfl, fun ht => ?_⟩
        subst ht
        rw [leave_not q q2] at e
        cases t' <;> simp only at e <;> first | (split at e <;> cases e; done) | (cases e; done) | rfl
  have kt : ∀ (t : Tag) (b : Addr), (∀ i, t ≠ .slot i) → (∀ i, t ≠ .tmp i) → t ≠ .frame → own' b = some t → leaveOwn ts.length om own own' Ψc b = some t := fun t b n1 n2 n3 e1 => by
      rw [leave_not (notΨ b _ e1 n3) e1]
      cases t <;> first | rfl | exact absurd rfl (n1 _) | exact absurd rfl (n2 _) | exact absurd rfl n3
  have kf : ∀ a o, own' a = some .frame → H' a = some o → True := fun _ _ _ _ => trivial
  have tk := zc.tabsK (own' := leaveOwn ts.length om own own' Ψc) (H' := H') (fun t a o ht e q => ⟨q, kt t a (by rcases ht with rfl | rfl | rfl <;> exact fun _ q => by cases q) (by rcases ht with rfl | rfl | rfl <;> exact fun _ q => by cases q) (by rcases ht with rfl | rfl | rfl <;> exact fun q => by cases q) e⟩) (fun a e => by
    cases q : Ψc a with
    | some u =>
      rw [leave_psi q] at e
      rw [← hPs] at q
      simp only at q
      rw [enter_obj e (fun _ q => by cases q) (fun _ q => by cases q)] at q
      rw [if_neg (fun q => by cases q)] at q
      cases q
    | none =>
      rcases back a _ e with ⟨u, q2⟩ | ⟨t', q2, h⟩
      · rw [q] at q2; cases q2
      · rw [q2, h rfl])
  refine ⟨leaveOwn ts.length om own own' Ψc, { phi := zc.phi, psi := fun a u e => ?_, dPhi := fun a t e => ?_, dPsi := fun a u e => ?_, dom := fun a t e => ?_, len := by rw [hb1]; exact z.len, slots := fun k x e => ?_, temps := ?_, tabs := tk.1, tabsIn := tk.2.1, codsIn := tk.2.2.1, rcl := zc.rcl, cach := tk.2.2.2 }⟩
  · have e1 := z.dPsi a u e
    exact (fr _ a u e1 (enter_obj e1 (fun _ q => by cases q) (fun _ q => by cases q)) (z.psi a u e)).1
  · rcases back a t e with ⟨u, q⟩ | ⟨t', q, _⟩
    · exact zc.dPhi a _ (zc.dPsi a u q)
    · exact zc.dPhi a _ q
  · have e1 := z.dPsi a u e
    exact (fr _ a u e1 (enter_obj e1 (fun _ q => by cases q) (fun _ q => by cases q)) (z.psi a u e)).2
  · rcases back a t e with ⟨u, q⟩ | ⟨t', q, _⟩
    · exact ⟨u, zc.psi a u q⟩
    · exact zc.dom a _ q
  · -- the slots
    have e : ls'[k]? = some (some x) := e
    have whole : ∀ x0, st.ls[k]? = some (some x0) → ls'[k]? = st.ls[k]? → ∃ w, σ[k]? = some (some w) ∧ (x0.lv.isOwn = true → ∀ j, idxOf om k ≠ some j) → True := fun _ _ _ => ⟨.non, fun _ => trivial⟩
    cases hk : idxOf om k with
    | none =>
      rw [(hb2 k).1 hk] at e
      obtain ⟨w, h1, h2, h3⟩ := z.slots k x e
      exact ⟨w, h1, h2.mono m (fun a o e1 h => fr _ a o e1 (enter_other e1 hk) h) (fun a o e1 h => fr _ a o e1 (enter_obj e1 (fun _ q => by cases q) (fun _ q => by cases q)) h), h3⟩
    | some j =>
      have hom := idxOf_get hk
      have ho := L.sub j k hom
      have hj : j < vs.length := by rw [hl]; exact (List.getElem?_eq_some_iff.mp ho).1
      have hv : vs[j]? = some vs[j] := List.getElem?_eq_getElem hj
      obtain ⟨hs, x0, hx0, _⟩ := (harg j _ _ hv ho).2 k rfl
      obtain ⟨w, h1, h2, h3⟩ := z.slots k x0 hx0
      have ew : w = vs[j] := by
        rw [hs] at h1
        exact (Option.some.inj (Option.some.inj h1)).symm
      subst ew
      obtain ⟨g1, g2⟩ := (hb2 k).2 j x0 hk hx0
      -- what the callee tells of its slot
      have told : ∀ l, as'[j]? = some (some l) → LvOk K (leaveOwn ts.length om own own' Ψc) ρ' Φ' H' (.slot k) vs[j] l := fun l hl' => by
        obtain ⟨w, f1, f2, _⟩ := zc.slots j ⟨l, true, false⟩ (by
          show (as'.map retSl)[j]? = _
          rw [List.getElem?_map, hl']
          rfl)
        have ew : w = vs[j] := by
          rw [List.getElem?_map, hv] at f1
          exact (Option.some.inj (Option.some.inj f1)).symm
        subst ew
        exact f2.mono' (has j l hl') (Mon.refl _ _) fun a o e1 h => ⟨h, by rw [leave_not (notΨ a _ e1 (fun q => by cases q)) e1]; simp only [hom]⟩
      by_cases c : (x0.lv.isOwn && !x0.lv.isRo) = true
      · obtain ⟨l, g3, g4⟩ := g1 c
        rw [g4] at e
        cases e
        exact ⟨_, hs, told l g3, h3⟩
      · have c' : (x0.lv.isOwn && !x0.lv.isRo) = false := by simpa using c
        have ex : x0 = x := by
          rw [g2 c', hx0] at e
          exact Option.some.inj (Option.some.inj e)
        rw [← ex]
        clear e ex
        refine ⟨_, hs, ?_, h3⟩
        by_cases hro' : x0.lv.isRo = true
        · obtain ⟨hlj, hnr⟩ := L.own j k x0 hom hx0
          exact told _ (hro j _ hlj hro' hnr)
        · have : x0.lv.isOwn = false := by
            cases q : x0.lv.isOwn with
            | false => rfl
            | true => rw [q] at c'; simp at c'; exact absurd c' hro'
          obtain ⟨lv0, p0, c0⟩ := x0
          cases lv0 <;> simp [LV.isOwn] at this
          exact .sh ((LvR.sh ⟨_, h2⟩).mono m)
  · -- the temporaries
    obtain ⟨hres, _⟩ := zc.temps
    refine ⟨hres.mono' hrr (Mon.refl _ _) fun a o e1 h => ⟨h, by rw [leave_not (notΨ a _ e1 (fun q => by cases q)) e1]⟩, ?_⟩
    have go : ∀ {us : List (V × Opd)}, us.length ≤ ts.length → TsOk K own ρ Φ H st.ls σ us → TsOk K (leaveOwn ts.length om own own' Ψc) ρ' Φ' H' ls' σ us := by
      intro us
      induction us with
      | nil => exact fun _ _ => trivial
      | cons q us ih =>
        intro hn
        simp only [List.length_cons] at hn
        obtain ⟨w, o⟩ := q
        cases o with
        | lv l => exact fun h => ⟨h.1.mono m (fun a o e1 h => fr _ a o e1 (enter_low e1 (by omega)) h) (fun a o e1 h => fr _ a o e1 (enter_obj e1 (fun _ q => by cases q) (fun _ q => by cases q)) h), ih (by omega) h.2⟩
        | slot i =>
          intro h
          refine ⟨⟨h.1.1, ?_⟩, ih (by omega) h.2⟩
          obtain ⟨y, e1, e2⟩ := h.1.2
          cases hk : idxOf om i with
          | none => exact ⟨y, by rw [(hb2 i).1 hk]; exact e1, e2⟩
          | some j =>
            obtain ⟨g1, g2⟩ := (hb2 i).2 j y hk e1
            by_cases c : (y.lv.isOwn && !y.lv.isRo) = true
            · obtain ⟨l, _, g4⟩ := g1 c
              exact ⟨_, g4, e2⟩
            · exact ⟨y, by rw [g2 (by simpa using c)]; exact e1, e2⟩
    exact go (Nat.le_refl _) hts
end

/-! ### the promise of a def -/
abbrev MD := List LV → Option (LV × List (Option LV))
def spD (K : PySem.W.Frag) (g : GV) (n : Nat) (F : MD) : Sp := fun vs H Q _ => vs.length = n ∧ ∃ cd own ρ Φ Ψ ls r as', F ls = some (r, as') ∧ Stt K ⟨vs, cd, g⟩ own ρ Φ Ψ [] ⟨ls.map entSl⟩ (vs.map some) H ∧
  ∀ own' ρ' Φ' H' v, Mon ρ Φ ρ' Φ' → Stt K ⟨vs, cd, g⟩ own' ρ' Φ' Ψ [(v, .lv r)] ⟨as'.map retSl⟩ (vs.map some) H' → Q v H'
def RoKp (F : MD) : Prop := ∀ ls r as', F ls = some (r, as') → (∀ (j : Nat) (l : LV), ls[j]? = some l → l.isRo = true → l.isRv = false → as'[j]? = some (some l)) ∧ r.isRv = false ∧ ∀ (j : Nat) (l : LV), as'[j]? = some (some l) → l.isRv = false
structure FD (P : Program) (w : World) (K : PySem.W.Frag) (mg : Str → Option Value) (base : Heap) (g : GV) (k : Nat) (f : Addr) (fd : FuncData) (ps : List Str) (F : MD) : Prop where
  ok : FnOk P w K mg base CX0 k f fd ps (spD K g ps.length F)
  ro : ∀ (A : Around) (s : Shared), Room k A → RoKp F
/-- which operands are lent -/
def maskO : List Bool → List Opd → List Opd
  | true :: ms, _ :: os => .lv .non :: maskO ms os
  | false :: ms, o :: os => o :: maskO ms os
  | [], os => os
  | _ :: _, [] => []
/-- what the callee gets -/
def maskL : List Bool → List LV → Option (List LV)
  | true :: ms, l :: ls => (roOf l).bind fun r => (maskL ms ls).bind fun rs => some (r :: rs)
  | false :: ms, l :: ls => if l.isRv then none else (maskL ms ls).bind fun rs => some (l :: rs)
  | [], ls => if ls.all (fun l => !l.isRv) then some ls else none
  | _ :: _, [] => some []
/-- what is only read is not lent beside -/
def maskD (om : List Opd) : List Bool → List Opd → Bool
  | true :: ms, .slot k :: os => (idxOf om k).isNone && maskD om ms os
  | _ :: ms, _ :: os => maskD om ms os
  | _, _ => true
theorem lent_of {st : S} {om : List Opd} : ∀ {mk : List Bool} {os : List Opd} {ls rs : List LV}, resAll st os = some ls → maskL mk ls = some rs → maskD om mk os = true → (maskO mk os).length = os.length ∧ rs.length = os.length ∧
    (∀ (j k : Nat), (maskO mk os)[j]? = some (.slot k) → os[j]? = some (.slot k)) ∧
    (∀ (j : Nat) (l : LV), rs[j]? = some l → ∃ o l0, os[j]? = some o ∧ resO st o = some l0 ∧ (((maskO mk os)[j]? = some o ∧ l = l0) ∨ (roOf l0 = some l ∧ ∀ k, o = .slot k → idxOf om k = none))) ∧
    ∀ (j k : Nat) (x : Sl), (maskO mk os)[j]? = some (.slot k) → st.ls[k]? = some (some x) → rs[j]? = some x.lv ∧ x.lv.isRv = false
  | [], os, ls, rs, e, m, _ => by
    unfold maskL at m
    split at m
    · rename_i hall
      cases m
      obtain ⟨h1, h2⟩ := resAll_get e
      have nr : ∀ (j : Nat) (l : LV), ls[j]? = some l → l.isRv = false := fun j l h => by
        have := List.all_eq_true.mp hall l (List.mem_of_getElem? h)
        simpa using this
      refine ⟨rfl, h1, fun j k h => h, fun j l h => ?_, fun j k x h hx => ?_⟩
      · obtain ⟨o, g1, g2⟩ := h2 j l h
        exact ⟨o, l, g1, g2, .inl ⟨g1, rfl⟩⟩
      · have h : os[j]? = some (.slot k) := h
        have hj : j < ls.length := by rw [h1]; exact (List.getElem?_eq_some_iff.mp h).1
        obtain ⟨o, g1, g2⟩ := h2 j _ (List.getElem?_eq_getElem hj)
        rw [h] at g1
        cases g1
        simp only [resO, hx, Option.bind_some, Option.map_some] at g2
        have g3 : ls[j]? = some x.lv := by rw [List.getElem?_eq_getElem hj]; exact g2.symm
        exact ⟨g3, nr j _ g3⟩
    · cases m
  | b :: mk, [], ls, rs, e, m, _ => by
    cases e
    cases b <;> (cases m; exact ⟨rfl, rfl, fun j k h => by simp [maskO] at h, fun j l h => by simp at h, fun j k x h => by simp [maskO] at h⟩)
  | true :: mk, o :: os, ls, rs, e, m, d => by
    obtain ⟨l1, e1, e⟩ := bind_some' e
    obtain ⟨ls1, e2, e⟩ := bind_some' e
    cases e
    obtain ⟨r1, e3, m⟩ := bind_some' m
    obtain ⟨rs1, e4, m⟩ := bind_some' m
    cases m
    have d' : maskD om mk os = true ∧ ∀ k, o = .slot k → idxOf om k = none := by
      cases o with
      | lv l => exact ⟨d, fun k h => by cases h⟩
      | slot k =>
        simp only [maskD, Bool.and_eq_true] at d
        exact ⟨d.2, fun k' h => by cases h; simpa using d.1⟩
    obtain ⟨h1, h2, h3, h4, h5⟩ := lent_of e2 e4 d'.1
    refine ⟨by simp [maskO, h1], by simp [h2], fun j k h => ?_, fun j l h => ?_, fun j k x h hx => ?_⟩
    · cases j with
      | zero => simp [maskO] at h
      | succ j => exact h3 j k (by simpa [maskO] using h)
    · cases j with
      | zero => simp at h; subst h; exact ⟨o, l1, rfl, e1, .inr ⟨e3, d'.2⟩⟩
      | succ j => exact h4 j l (by simpa using h)
    · cases j with
      | zero => simp [maskO] at h
      | succ j => exact h5 j k x (by simpa [maskO] using h) hx
  | false :: mk, o :: os, ls, rs, e, m, d => by
    obtain ⟨l1, e1, e⟩ := bind_some' e
    obtain ⟨ls1, e2, e⟩ := bind_some' e
    cases e
    unfold maskL at m
    split at m
    · cases m
    · rename_i hnr
      obtain ⟨rs1, e4, m⟩ := bind_some' m
      cases m
      have d' : maskD om mk os = true := by cases o <;> exact d
      obtain ⟨h1, h2, h3, h4, h5⟩ := lent_of e2 e4 d'
      refine ⟨by simp [maskO, h1], by simp [h2], fun j k h => ?_, fun j l h => ?_, fun j k x h hx => ?_⟩
      · cases j with
        | zero => simp [maskO] at h; simp [h]
        | succ j => exact h3 j k (by simpa [maskO] using h)
      · cases j with
        | zero => simp at h; subst h; exact ⟨o, l1, rfl, e1, .inl ⟨rfl, rfl⟩⟩
        | succ j => exact h4 j l (by simpa using h)
      · cases j with
        | zero =>
          simp [maskO] at h
          subst h
          simp only [resO, hx, Option.bind_some, Option.map_some] at e1
          cases e1
          exact ⟨rfl, by simpa using hnr⟩
        | succ j => exact h5 j k x (by simpa [maskO] using h) hx
theorem Lent.mk' {st : S} {mk : List Bool} {os : List Opd} {ls rs : List LV} (e : resAll st os = some ls) (m : maskL mk ls = some rs) (d : maskD (maskO mk os) mk os = true) (hd : dist (maskO mk os) = true) : Lent st os (maskO mk os) rs := by
  obtain ⟨h1, h2, h3, h4, h5⟩ := lent_of e m d
  exact ⟨h1, h2, h3, h4, h5, hd⟩
/-- a call; the operands of the mask are lent to be read -/
def mCall (mk : List Bool) (F : MD) (ma : MA) : ME := fun st => (ma st).bind fun p => (resAll p.2 p.1).bind fun ls => (maskL mk ls).bind fun rs => if maskD (maskO mk p.1) mk p.1 && dist (maskO mk p.1) then
  (F rs).bind fun r => (setBack (maskO mk p.1) r.2 p.2.ls).bind fun ls' => some (.lv r.1, ⟨ls'⟩) else none
theorem mCall_kp {as' : List (Option LV)} {st : S} {os : List Opd} {ls' : List (Option Sl)} (hd : dist os = true) (h2 : setBack os as' st.ls = some ls') : Kp st ⟨ls'⟩ := by
  obtain ⟨hb1, hb2⟩ := setBack_get h2 hd
  refine ⟨hb1, fun k x e ro => ?_⟩
  cases hk : idxOf os k with
  | none =>
    show ls'[k]? = _
    rw [(hb2 k).1 hk]
    exact e
  | some j =>
    obtain ⟨_, g2⟩ := (hb2 k).2 j x hk e
    show ls'[k]? = _
    rw [g2 (by rw [ro]; simp)]
    exact e
section
variable {X : Cx} {pv : PV} {a : Expr} {pos : Pos}
theorem call_run {mk : List Bool} {es : List Expr} {ma : MA} {n : Nat} {F : MD} (hF : RoKp F) (hn : es.length = n) (ha : DA X pv es ma) {st st' : S} {o : Opd} (e : mCall mk F ma st = some (o, st')) : Kp st st' ∧
    ∀ own ρ Φ Ψ ts σ H, Stt X.K pv own ρ Φ Ψ ts st σ H → ∀ Q : VK, (∀ own' ρ' Φ' H' v, Mon ρ Φ ρ' Φ' → Stt X.K pv own' ρ' Φ' Ψ ((v, o) :: ts) st' σ H' → Q v H') →
      SA X es σ H fun vs H1 => ∀ E, spD X.K pv.g n F (vs ++ []) H1 Q E := by
  obtain ⟨⟨os, s1⟩, e1, e⟩ := bind_some' e
  obtain ⟨ls, e2, e⟩ := bind_some' e
  obtain ⟨rs, e5, e⟩ := bind_some' e
  split at e
  · rename_i hd
    rw [Bool.and_eq_true] at hd
    obtain ⟨r, e3, e⟩ := bind_some' e
    obtain ⟨ls', e4, e⟩ := bind_some' e
    cases e
    obtain ⟨k1, l1, h1⟩ := ha _ _ _ e1
    refine ⟨k1.trans (mCall_kp hd.2 e4), fun own ρ Φ Ψ ts σ H z Q q => h1 own ρ Φ Ψ ts σ H z _ fun own1 ρ1 Φ1 H1 vs m1 hl z1 E => ?_⟩
    rw [List.append_nil]
    have LT := Lent.mk' e2 e5 hd.1 hd.2
    refine ⟨by rw [hl]; exact l1.trans hn, pv.cd, _, ρ1, Φ1, _, rs, r.1, r.2, e3, z1.enter hl LT, fun own2 ρ2 Φ2 H2 v m2 z2 => ?_⟩
    obtain ⟨f1, f2, f3⟩ := hF _ _ _ e3
    obtain ⟨own3, z3⟩ := z1.leave hl LT z2 m2 f1 f2 f3 e4
    exact q own3 ρ2 Φ2 H2 v (m1.trans m2) z3
  · cases e
theorem d_call {mk : List Bool} {e : Expr} {es : List Expr} {ma : MA} {k : Nat} {f : Addr} {fd : FuncData} {ps : List Str} {F : MD} {x : Str} {p : Pos} (G : FD X.prog X.w X.K X.mg X.base pv.g k f fd ps F) (hr : Room k X.A) (hm : X.mg x = some (.ref f)) (hk : PySem.W.keepIn X.K (.ref f) = true) (hb : Binds X.K fd ps [])
    (ha : DA X pv (e :: es) ma) (hn : (e :: es).length = ps.length := by rfl) (gl : Gl X x := by rfl) (hdb : (x == ("__debug__" : Str)) = false := by decide)
    (he : starEach (e :: es) X.env = (false, eval e X.env) :: starEach es X.env := by rfl) (hpl : (backTo pos (starEach es X.env)).any (·.1) = false := by rfl) : DE X pv (.Call (.Name x p) (e :: es) [] pos) (mCall mk F ma) := by
  intro st o st' e'
  obtain ⟨kp, h⟩ := call_run (G.ro X.A X.s_0 hr) hn ha e'
  refine ⟨kp, fun own ρ Φ Ψ ts σ H z Q q => se_of (pe_call (E := E0) G.ok hr gl hm hk hb .nil pass0 pa_SA hdb he hpl) ?_⟩
  exact fun pos pins s I => wpAny_mono (h own ρ Φ Ψ ts σ H z Q q pos pins s I) (fun us s' ⟨vs, H', I', r, g⟩ => ⟨vs, H', I', r, g E0⟩) fun _ _ x => x
theorem d_call0 {k : Nat} {f : Addr} {fd : FuncData} {F : MD} {x : Str} {p : Pos} (G : FD X.prog X.w X.K X.mg X.base pv.g k f fd [] F) (hr : Room k X.A) (hm : X.mg x = some (.ref f)) (hk : PySem.W.keepIn X.K (.ref f) = true) (hb : Binds X.K fd [] [])
    (gl : Gl X x := by rfl) (hdb : (x == ("__debug__" : Str)) = false := by decide) : DE X pv (.Call (.Name x p) [] [] pos) (mCall [] F mAnil) := by
  intro st o st' e'
  obtain ⟨⟨os, s1⟩, e1, e⟩ := bind_some' e'
  cases e1
  obtain ⟨ls, e2, e⟩ := bind_some' e
  cases e2
  obtain ⟨rs, e5, e⟩ := bind_some' e
  cases e5
  obtain ⟨r, e3, e⟩ := bind_some' e
  obtain ⟨ls', e4, e⟩ := bind_some' e
  cases e
  have LT : Lent st [] [] [] := ⟨rfl, rfl, fun j k h => by simp at h, fun j l h => by simp at h, fun j k x h => by simp at h, rfl⟩
  obtain ⟨f1, f2, f3⟩ := G.ro X.A X.s_0 hr _ _ _ e3
  refine ⟨mCall_kp (os := []) rfl e4, fun own ρ Φ Ψ ts σ H z Q q => se_of (pe_call0 (E := E0) G.ok hr gl hm hk hb .nil pass0 hdb) ?_⟩
  show spD X.K pv.g 0 F ([] ++ []) H Q E0
  have z1 : Stt X.K pv own ρ Φ Ψ (pushTs [] [] ts) st σ H := z
  refine ⟨rfl, pv.cd, _, ρ, Φ, _, [], r.1, r.2, e3, z1.enter rfl LT, fun own2 ρ2 Φ2 H2 v m2 z2 => ?_⟩
  obtain ⟨own3, z3⟩ := z1.leave rfl LT z2 m2 f1 f2 f3 e4
  exact q own3 ρ2 Φ2 H2 v m2 z3
end
end Dn
set_option Elab.async false
set_option linter.all false
set_option maxRecDepth 100000
set_option maxHeartbeats 4000000
/-! Den, part 6: targets, what is walked, comprehensions. -/
namespace Dn
open PySem PySem.Spec PyProof.Rows L2

/-! ### targets -/
def SG (X : Cx) (tg : Expr) : TG := fun v σ H Q => ∀ (pins : List (Addr × Obj)) (s : Shared) (u : Value), Inv X pins σ H s → RelV v u → wpAny (model X.prog X.w) X.A (assign tg X.env u) (fun _ s' => ∃ σ' H', Inv X pins σ' H' s' ∧ Q σ' H') X.xe s
def SGs (X : Cx) (ts : List Expr) : TGs := fun vs σ H Q => ∀ (pins : List (Addr × Obj)) (s : Shared) (us : List Value), Inv X pins σ H s → Vals vs us → wpAny (model X.prog X.w) X.A (assignInOrder ((assignEach ts X.env).map (·.2)) us) (fun _ s' => ∃ σ' H', Inv X pins σ' H' s' ∧ Q σ' H') X.xe s
theorem pg_SG {X : Cx} {tg : Expr} : PG X tg (SG X tg) := ⟨fun pins s _ _ _ u _ I r h => h pins s u I r⟩
theorem pgs_SGs {X : Cx} {ts : List Expr} : PGs X ts (SGs X ts) := ⟨fun pins s _ _ _ us _ I r h => h pins s us I r⟩
theorem sg_of {X : Cx} {tg : Expr} {t : TG} (p : PG X tg t) {v : V} {σ : L2.St} {H : Hp} {Q : L2.St → Hp → Prop} (h : t v σ H Q) : SG X tg v σ H Q := fun pins s u I r => p.run pins s σ H v u Q I r h
theorem sgs_of {X : Cx} {ts : List Expr} {t : TGs} (p : PGs X ts t) {vs : List V} {σ : L2.St} {H : Hp} {Q : L2.St → Hp → Prop} (h : t vs σ H Q) : SGs X ts vs σ H Q := fun pins s us I r => p.run pins s σ H vs us Q I r h
/-- c: a comprehension's own names, at vs -/
abbrev MG := PyData → S → Option S
abbrev MGs := List PyData → S → Option S
def DG (X : Cx) (pv : PV) (c : Bool) (vs : List Nat) (tg : Expr) (g : MG) : Prop := ∀ d st st', g d st = some st' → Kp st st' ∧ ∀ own ρ Φ Ψ ts σ H x, Stt X.K pv own ρ Φ Ψ ts st σ H → (c = false → Pins ts st) → Rp X.K ρ Φ x d →
  ∀ Q : L2.St → Hp → Prop, (∀ own' σ', Stt X.K pv own' ρ Φ Ψ ts st' σ' H → (c = true → wipe σ' vs = wipe σ vs) → Q σ' H) → SG X tg x σ H Q
def DGs (X : Cx) (pv : PV) (c : Bool) (vs : List Nat) (tgs : List Expr) (g : MGs) : Prop := ∀ ds st st', g ds st = some st' → Kp st st' ∧ ∀ own ρ Φ Ψ ts σ H xs, Stt X.K pv own ρ Φ Ψ ts st σ H → (c = false → Pins ts st) → RpA X.K ρ Φ xs ds →
  ∀ Q : L2.St → Hp → Prop, (∀ own' σ', Stt X.K pv own' ρ Φ Ψ ts st' σ' H → (c = true → wipe σ' vs = wipe σ vs) → Q σ' H) → SGs X tgs xs σ H Q
/-- a store to a slot -/
def setS (c : Bool) (k : Nat) (l : LV) (st : S) : Option S := match st.ls[k]? with
  | some none => some { st with ls := st.ls.set k (some ⟨l, false, c⟩) }
  | some (some x) => if c || x.p || x.lv.isRo then none else some { st with ls := st.ls.set k (some ⟨l, false, c⟩) }
  | none => none
theorem setS_some {c : Bool} {k : Nat} {l : LV} {st st' : S} (h : setS c k l st = some st') : st' = { st with ls := st.ls.set k (some ⟨l, false, c⟩) } ∧ k < st.ls.length ∧ (∀ x, st.ls[k]? = some (some x) → c = false ∧ x.lv.isRo = false) := by
  unfold setS at h
  split at h
  · rename_i e
    cases h
    exact ⟨rfl, (List.getElem?_eq_some_iff.mp e).1, fun x q => by rw [e] at q; cases q⟩
  · rename_i x e
    split at h
    · cases h
    · rename_i hc
      cases h
      refine ⟨rfl, (List.getElem?_eq_some_iff.mp e).1, fun x' q => ?_⟩
      rw [e] at q
      cases q
      simp only [Bool.or_eq_true, not_or, Bool.not_eq_true] at hc
      exact ⟨hc.1.1, hc.2⟩
  · cases h
theorem setS_kp {c : Bool} {k : Nat} {l : LV} {st st' : S} (h : setS c k l st = some st') : Kp st st' := by
  obtain ⟨rfl, hk, hx⟩ := setS_some h
  refine ⟨by show (st.ls.set k _).length = _; rw [List.length_set], fun j x e r => ?_⟩
  by_cases hj : k = j
  · subst hj
    have := (hx x e).2
    rw [r] at this
    cases this
  · show (st.ls.set k _)[j]? = _
    rw [List.getElem?_set_ne hj]
    exact e
theorem wipe_set {σ : L2.St} {k : Nat} {y : Option V} : ∀ {vs : List Nat}, k ∈ vs → wipe (σ.set k y) vs = wipe σ vs
  | [], h => by cases h
  | v :: vs, h => by
    unfold wipe
    by_cases hv : k ∈ vs
    · rw [wipe_set hv]
    · have e : k = v := by
        rcases List.mem_cons.mp h with e | e
        · exact e
        · exact absurd e hv
      subst e
      have go : ∀ {us : List Nat}, k ∉ us → wipe (σ.set k y) us = (wipe σ us).set k y := by
        intro us
        induction us with
        | nil => exact fun _ => rfl
        | cons u us ih =>
          intro hu
          simp only [List.mem_cons, not_or] at hu
          unfold wipe
          rw [ih hu.2, List.set_comm _ _ hu.1]
      rw [go hv, List.set_set]
section
variable {K : PySem.W.Frag} {pv : PV} {own own' : Addr → Option Tag} {ρ ρ' : Rho} {Φ Φ' Ψ H H' : Hp} {ts : List (V × Opd)} {st st' : S} {σ : L2.St}
theorem ts_slot {w : V} {k : Nat} {ls : List (Option Sl)} : ∀ {ts : List (V × Opd)}, TsOk K own ρ Φ H ls σ ts → (w, Opd.slot k) ∈ ts → σ[k]? = some (some w) ∧ ∃ x, ls[k]? = some (some x) ∧ x.c = false
  | (v, .lv l) :: ts, h, hm => by
    rcases List.mem_cons.mp hm with e | e
    · cases e
    · exact ts_slot h.2 e
  | (v, .slot i) :: ts, h, hm => by
    rcases List.mem_cons.mp hm with e | e
    · cases e; exact h.1
    · exact ts_slot h.2 e
theorem ts_lv {w : V} {l : LV} {ls : List (Option Sl)} : ∀ {ts : List (V × Opd)}, TsOk K own ρ Φ H ls σ ts → (w, Opd.lv l) ∈ ts → LvR K own ρ Φ H w l
  | (v, .lv l') :: ts, h, hm => by
    rcases List.mem_cons.mp hm with e | e
    · cases e; exact ⟨_, h.1⟩
    · exact ts_lv h.2 e
  | (v, .slot i) :: ts, h, hm => by
    rcases List.mem_cons.mp hm with e | e
    · cases e
    · exact ts_lv h.2 e
theorem Stt.mem {w : V} {o : Opd} {l : LV} (z : Stt K pv own ρ Φ Ψ ts st σ H) (h : (w, o) ∈ ts) (e : resO st o = some l) : LvR K own ρ Φ H w l := by
  cases o with
  | lv l' => cases e; exact ts_lv z.temps h
  | slot i =>
    obtain ⟨h1, x, h2, _⟩ := ts_slot z.temps h
    obtain ⟨v, g1, g2, _⟩ := z.slots i x h2
    rw [h1] at g1
    cases g1
    simp only [resO, h2, Option.bind_some, Option.map_some] at e
    cases e
    exact ⟨_, g2⟩
theorem Stt.setG {c : Bool} {k : Nat} {l : LV} {v : V} (z : Stt K pv own ρ Φ Ψ ((v, .lv l) :: ts) st σ H) (hp : c = false → Pins ts st) (h : setS c k l st = some st') : ∃ own', Stt K pv own' ρ Φ Ψ ts st' (σ.set k (some v)) H := by
  obtain ⟨rfl, hk, hx⟩ := setS_some h
  refine z.store hk fun w hw => ?_
  obtain ⟨_, x, e, _⟩ := ts_slot (tsOk_tail z.temps) hw
  obtain ⟨hc, hr⟩ := hx x e
  obtain ⟨x', e', r⟩ := hp hc w k hw
  rw [e] at e'
  cases e'
  rw [hr] at r
  cases r
end
def mGn (c : Bool) (k : Nat) : MG := fun d => setS c k (.sh d)
def mGnil : MGs := fun ds st => match ds with
  | [] => some st
  | _ => none
def mGcons (g : MG) (gs : MGs) : MGs := fun ds st => match ds with
  | d :: ds => (g d st).bind fun s1 => gs ds s1
  | [] => none
def mGt (gs : MGs) : MG := fun d st => match d with
  | .tuple ds => gs ds st
  | _ => none
section
variable {X : Cx} {pv : PV} {c : Bool} {vs : List Nat} {pos : Pos}
theorem dg_n (k : Nat) {x : Str} (hN : X.N.Nodup) (hi : X.N[k]? = some x := by rfl) (hx : Loc X.env.scope x := by first | exact Or.inl rfl | exact Or.inr rfl) (hv : c = true → k ∈ vs := by first | (intro h; cases h; done) | exact fun _ => by decide)
    (hf : X.fn x = true ∨ X.env.scope.names.lookup x = some .local := by first | exact .inl rfl | exact .inr rfl) : DG X pv c vs (.Name x pos) (mGn c k) := by
  intro d st st' e
  refine ⟨setS_kp e, fun own ρ Φ Ψ ts σ H y z hp r Q q => sg_of (pg_name hN hi hx hf) ?_⟩
  obtain ⟨own', z'⟩ := (z.push r).setG hp e
  exact q own' _ z' fun h => wipe_set (hv h)
theorem dg_nil : DGs X pv c vs [] mGnil := by
  intro ds st st' e
  unfold mGnil at e
  split at e
  · cases e
    refine ⟨Kp.refl _, fun own ρ Φ Ψ ts σ H xs z hp r Q q => sgs_of pgs_nil ?_⟩
    cases r
    exact ⟨rfl, q own σ z fun _ => rfl⟩
  · cases e
theorem dg_cons {a : Expr} {as : List Expr} {g : MG} {gs : MGs} (h1 : DG X pv c vs a g) (h2 : DGs X pv c vs as gs) (hs : (assignEach (a :: as) X.env).map (·.2) = assign a X.env :: (assignEach as X.env).map (·.2) := by rfl) : DGs X pv c vs (a :: as) (mGcons g gs) := by
  intro ds st st' e
  unfold mGcons at e
  split at e
  · obtain ⟨s1, e1, e⟩ := bind_some' e
    obtain ⟨k1, g1⟩ := h1 _ _ _ e1
    obtain ⟨k2, g2⟩ := h2 _ _ _ e
    refine ⟨k1.trans k2, fun own ρ Φ Ψ ts σ H xs z hp r Q q => sgs_of (pgs_cons pg_SG pgs_SGs hs) ?_⟩
    cases r with
    | @cons v vs' _ _ r rs =>
    refine ⟨v, vs', rfl, g1 own ρ Φ Ψ ts σ H v z hp r _ fun own' σ' z' w1 => g2 own' ρ Φ Ψ ts σ' H vs' z' (fun hc => (hp hc).kp k1) rs Q fun own2 σ2 z2 w2 => q own2 σ2 z2 fun hc => (w2 hc).trans (w1 hc)⟩
  · cases e
theorem dg_t {as : List Expr} {gs : MGs} {k : Nat} (hc : X.calm = true) (h : DGs X pv c vs as gs) {n : Nat} (hn : (assignEach as X.env).length = n := by rfl) (hst : (assignEach as X.env).findIdx? (·.1) = none := by rfl)
    (hlen : ∀ ds st st', gs ds st = some st' → ds.length = n) : DG X pv c vs (.Tuple as k pos) (mGt gs) := by
  intro d st st' e
  unfold mGt at e
  split at e
  · rename_i ds
    obtain ⟨k1, g1⟩ := h _ _ _ e
    refine ⟨k1, fun own ρ Φ Ψ ts σ H y z hp r Q q => sg_of (pg_tup hc pgs_SGs hn hst) ?_⟩
    cases r with
    | @tup a xs _ ha ra => exact ⟨a, xs, rfl, .inl (.inl (z.phi _ _ ha)), by rw [ra.length]; exact hlen _ _ _ e, g1 own ρ Φ Ψ ts σ H xs z hp ra Q q⟩
  · cases e
theorem len_nil {ds : List PyData} {st st' : S} (h : mGnil ds st = some st') : ds.length = 0 := by
  unfold mGnil at h
  split at h
  · rfl
  · cases h
theorem len_cons {g : MG} {gs : MGs} {n : Nat} (ih : ∀ ds st st', gs ds st = some st' → ds.length = n) : ∀ ds st st', mGcons g gs ds st = some st' → ds.length = n + 1 := by
  intro ds st st' h
  unfold mGcons at h
  split at h
  · obtain ⟨s1, e1, h⟩ := bind_some' h
    rw [List.length_cons, ih _ _ _ h]
  · cases h
theorem len2 {g1 g2 : MG} : ∀ ds st st', mGcons g1 (mGcons g2 mGnil) ds st = some st' → ds.length = 2 := len_cons (len_cons fun _ _ _ => len_nil)
theorem len3 {g1 g2 g3 : MG} : ∀ ds st st', mGcons g1 (mGcons g2 (mGcons g3 mGnil)) ds st = some st' → ds.length = 3 := len_cons len2
theorem len4 {g1 g2 g3 g4 : MG} : ∀ ds st st', mGcons g1 (mGcons g2 (mGcons g3 (mGcons g4 mGnil))) ds st = some st' → ds.length = 4 := len_cons len3
end

/-! ### what is walked -/
def SI (X : Cx) (tg iter : Expr) : TI := fun σ H R => ∀ (pins : List (Addr × Obj)) (s : Shared), Inv X pins σ H s → wpAny (model X.prog X.w) X.A (eval iter X.env) (fun v s1 => wpAny (model X.prog X.w) X.A (pyIter v) (PIE X pins σ tg R) X.xe s1) X.xe s
theorem pi_SI {X : Cx} {tg iter : Expr} : PI X tg iter (SI X tg iter) := ⟨fun pins s _ _ _ I h => h pins s I⟩
theorem si_of {X : Cx} {tg iter : Expr} {wi : TI} (p : PI X tg iter wi) {σ : L2.St} {H : Hp} {R : It → Hp → Prop} (h : wi σ H R) : SI X tg iter σ H R := fun pins s I => p.run pins s σ H R I h
structure Itm where
  items : List PyData
  os : List Opd
  lock : List Nat
abbrev MI := S → Option (Itm × S)
/-- the walk J gives the items, while its operands stand among the temporaries -/
def PinOk (st : S) (o : Opd) (ds : List PyData) : Prop := ∃ l, resO st o = some l ∧ l.seq? = some ds ∧ (∀ i, o = .slot i → l.isRo = true)
def ItOk (K : PySem.W.Frag) (J : It) (items : List PyData) (ps : List (V × Opd)) (st0 : S) : Prop := ∀ (pv : PV) (i : Nat) own ρ Φ Ψ ts st σ H, Stt K pv own ρ Φ Ψ ts st σ H → (∀ p ∈ ps, p ∈ ts) → Kp st0 st →
  (∀ d, items[i]? = some d → J.go i H ∧ ∀ x H', J.yld i H x H' → ∃ own' Φ', Mon ρ Φ ρ Φ' ∧ Stt K pv own' ρ Φ' Ψ ts st σ H' ∧ Rp K ρ Φ' x d) ∧ (items.length ≤ i → J.stop i H)
def DI (X : Cx) (pv : PV) (tg iter : Expr) (mi : MI) : Prop := ∀ st it st', mi st = some (it, st') → Kp st st' ∧ (∀ i ∈ it.lock, (∃ ds p c, st'.ls[i]? = some (some ⟨.ro ds, p, c⟩)) ∧ ∀ x, st.ls[i]? = some (some x) → x.lv.isRo = false) ∧ (∀ i, Opd.slot i ∈ it.os → ∃ x, st'.ls[i]? = some (some x) ∧ x.lv.isRo = true) ∧
  ∀ own ρ Φ Ψ ts σ H, Stt X.K pv own ρ Φ Ψ ts st σ H → ∀ R : It → Hp → Prop, (∀ own' ρ' Φ' H' ps J, Mon ρ Φ ρ' Φ' → ps.map (·.2) = it.os → Stt X.K pv own' ρ' Φ' Ψ (ps ++ ts) st' σ H' → ItOk X.K J it.items ps st' → R J H') → SI X tg iter σ H R
/-- an operand is pinned: a list of one's own at a slot is locked, another one is given up -/
def pinO (o : Opd) (st : S) : Option (Itm × S) := match o with
  | .lv (.sh (.list ds)) => some (⟨ds, [o], []⟩, st)
  | .lv (.sh (.tuple ds)) => some (⟨ds, [o], []⟩, st)
  | .lv (.lst ds) => some (⟨ds, [.lv (.sh (.list ds))], []⟩, st)
  | .slot i => match st.ls[i]? with
    | some (some ⟨.lst ds, p, c⟩) => some (⟨ds, [o], [i]⟩, { st with ls := st.ls.set i (some ⟨.ro ds, p, c⟩) })
    | some (some ⟨.ro ds, _, _⟩) => some (⟨ds, [o], []⟩, st)
    | some (some ⟨.rv ds, _, _⟩) => some (⟨ds, [o], []⟩, st)
    | some (some ⟨.scr ds, _, _⟩) => some (⟨ds, [o], []⟩, st)
    | _ => none
  | _ => none
section
variable {K : PySem.W.Frag} {pv : PV} {own own' : Addr → Option Tag} {ρ ρ' : Rho} {Φ Φ' Ψ H H' : Hp} {ts : List (V × Opd)} {st st' : S} {σ : L2.St}
theorem resO_slot {i : Nat} {x : Sl} (h : st.ls[i]? = some (some x)) : resO st (.slot i) = some x.lv := by
  simp only [resO, h, Option.bind_some, Option.map_some]
theorem pinO_ok {o : Opd} {it : Itm} (e : pinO o st = some (it, st')) : Kp st st' ∧ (∀ i ∈ it.lock, (∃ ds p c, st'.ls[i]? = some (some ⟨.ro ds, p, c⟩)) ∧ ∀ x, st.ls[i]? = some (some x) → x.lv.isRo = false) ∧ (∀ i, Opd.slot i ∈ it.os → ∃ x, st'.ls[i]? = some (some x) ∧ x.lv.isRo = true) ∧
    ∃ o', it.os = [o'] ∧ PinOk st' o' it.items ∧ ∀ {v own ρ Φ Ψ ts σ H}, Stt K pv own ρ Φ Ψ ((v, o) :: ts) st σ H → ∃ own' Φ', Mon ρ Φ ρ Φ' ∧ Stt K pv own' ρ Φ' Ψ ((v, o') :: ts) st' σ H := by
  have none_in : ∀ {d : PyData}, ∀ i, Opd.slot i ∈ [Opd.lv (.sh d)] → ∃ x, st'.ls[i]? = some (some x) ∧ x.lv.isRo = true := fun i h => by simp at h
  unfold pinO at e
  split at e
  · cases e
    exact ⟨Kp.refl _, (fun i h => by cases h), none_in, _, rfl, ⟨_, rfl, rfl, fun _ h => by cases h⟩, fun z => ⟨_, _, Mon.refl _ _, z⟩⟩
  · cases e
    exact ⟨Kp.refl _, (fun i h => by cases h), none_in, _, rfl, ⟨_, rfl, rfl, fun _ h => by cases h⟩, fun z => ⟨_, _, Mon.refl _ _, z⟩⟩
  · cases e
    exact ⟨Kp.refl _, (fun i h => by cases h), none_in, _, rfl, ⟨_, rfl, rfl, fun _ h => by cases h⟩, fun z => z.freezeT⟩
  · rename_i i
    split at e
    · rename_i ds p c h
      cases e
      have hi := (List.getElem?_eq_some_iff.mp h).1
      have hs : (st.ls.set i (some ⟨.ro ds, p, c⟩))[i]? = some (some ⟨.ro ds, p, c⟩) := List.getElem?_set_self hi
      refine ⟨set_kp h rfl, fun j hj => ?_, fun j hj => ?_, _, rfl, ⟨.ro ds, resO_slot (st := ⟨st.ls.set i (some ⟨.ro ds, p, c⟩)⟩) hs, rfl, fun _ _ => rfl⟩, fun z => ⟨_, _, Mon.refl _ _, z.asS h (fun o r => by cases r with | lst r => exact .ro r) (fun d q => by cases q) (fun d q => by cases q)⟩⟩
      · have : j = i := by simpa using hj
        subst this
        exact ⟨⟨ds, p, c, hs⟩, fun x q => by rw [h] at q; cases q; rfl⟩
      · have : j = i := by simpa using hj
        subst this
        exact ⟨_, hs, rfl⟩
    · rename_i ds p c h
      cases e
      refine ⟨Kp.refl _, (fun i h => by cases h), fun j hj => ?_, _, rfl, ⟨.ro ds, resO_slot h, rfl, fun _ _ => rfl⟩, fun z => ⟨_, _, Mon.refl _ _, z⟩⟩
      have : j = i := by simpa using hj
      subst this
      exact ⟨_, h, rfl⟩
    · rename_i ds p c h
      cases e
      refine ⟨Kp.refl _, (fun i h => by cases h), fun j hj => ?_, _, rfl, ⟨.rv ds, resO_slot h, rfl, fun _ _ => rfl⟩, fun z => ⟨_, _, Mon.refl _ _, z⟩⟩
      have : j = i := by simpa using hj
      subst this
      exact ⟨_, h, rfl⟩
    · rename_i ds p c h
      cases e
      refine ⟨Kp.refl _, (fun i h => by cases h), fun j hj => ?_, _, rfl, ⟨.scr ds, resO_slot h, rfl, fun _ _ => rfl⟩, fun z => ⟨_, _, Mon.refl _ _, z⟩⟩
      have : j = i := by simpa using hj
      subst this
      exact ⟨_, h, rfl⟩
    · cases e
  · cases e
theorem PinOk.kp {o : Opd} {ds : List PyData} {st0 : S} (h : PinOk st0 o ds) (k : Kp st0 st) : PinOk st o ds := by
  obtain ⟨l, h1, h2, h3⟩ := h
  cases o with
  | lv l' => exact ⟨l, h1, h2, h3⟩
  | slot i =>
    cases q : st0.ls[i]? with
    | none => simp [resO, q] at h1
    | some x =>
      cases x with
      | none => simp [resO, q] at h1
      | some x =>
        have e : x.lv = l := by simpa [resO, q] using h1
        subst e
        exact ⟨_, resO_slot (k.ro i x q (h3 i rfl)), h2, h3⟩
/-- a pinned sequence, read now -/
theorem Stt.pinned {o : Opd} {ds : List PyData} {v : V} (z : Stt K pv own ρ Φ Ψ ts st σ H) (h : (v, o) ∈ ts) (p : PinOk st o ds) : ∃ a vs, v = .ref a ∧ (SqL K H a vs ∨ SqT K H a vs) ∧ RpA K ρ Φ vs ds := by
  obtain ⟨l, h1, h2, _⟩ := p
  exact (z.mem h h1).seq h2 z.phi
end
/-- kinds of pinned operands: a list or a tuple -/
def pinL (o : Opd) : Bool := match o with
  | .lv (.sh (.tuple _)) => false
  | _ => true
section
variable {K : PySem.W.Frag} {pv : PV}
theorem Stt.pinnedL {own : Addr → Option Tag} {ρ : Rho} {Φ Ψ H : Hp} {ts : List (V × Opd)} {st : S} {σ : L2.St} {o : Opd} {ds : List PyData} {v : V} (z : Stt K pv own ρ Φ Ψ ts st σ H) (h : (v, o) ∈ ts) (p : PinOk st o ds) (hl : pinL o = true) : ∃ a vs, v = .ref a ∧ SqL K H a vs ∧ RpA K ρ Φ vs ds := by
  obtain ⟨l, h1, h2, h3⟩ := p
  have e : l.rd? = some ds := by
    rcases seq_of h2 with e | e
    · exact e
    · have el := tup_eq e
      subst el
      cases o with
      | lv l' => cases h1; simp [pinL] at hl
      | slot i => have := h3 i rfl; cases this
  exact (z.mem h h1).rd e z.phi
theorem Stt.pinnedT {own : Addr → Option Tag} {ρ : Rho} {Φ Ψ H : Hp} {ts : List (V × Opd)} {st : S} {σ : L2.St} {o : Opd} {ds : List PyData} {v : V} (z : Stt K pv own ρ Φ Ψ ts st σ H) (h : (v, o) ∈ ts) (p : PinOk st o ds) (hl : pinL o = false) : ∃ a vs, v = .ref a ∧ SqT K H a vs ∧ RpA K ρ Φ vs ds := by
  obtain ⟨l, h1, h2, h3⟩ := p
  cases o with
  | lv l' =>
    cases h1
    cases l with
    | sh d =>
      cases d <;> first | (simp [pinL] at hl; done) | skip
      exact (z.mem h rfl).tup h2 z.phi
    | _ => simp [pinL] at hl
  | slot i => simp [pinL] at hl
theorem itok_list {a : Addr} {ds : List PyData} {o : Opd} {st0 : S} (p : PinOk st0 o ds) (hl : pinL o = true) : ItOk K (Itl K a) ds [(.ref a, o)] st0 := by
  intro pv i own ρ Φ Ψ ts st σ H z hm kp
  obtain ⟨a', vs, ea, h1, h2⟩ := z.pinnedL (hm _ List.mem_cons_self) (p.kp kp) hl
  cases ea
  refine ⟨fun d e => ?_, fun e => ⟨vs, h1, by rw [h2.length]; exact e⟩⟩
  obtain ⟨x, g1, g2⟩ := h2.get e
  refine ⟨⟨vs, x, h1, g1⟩, fun y H' hy => ?_⟩
  obtain ⟨rfl, hy⟩ := hy
  have := hy vs h1
  rw [g1] at this
  cases this
  exact ⟨own, Φ, Mon.refl _ _, z, g2⟩
theorem itok_tup {a : Addr} {ds : List PyData} {o : Opd} {st0 : S} (p : PinOk st0 o ds) (hl : pinL o = false) : ItOk K (Itt K a) ds [(.ref a, o)] st0 := by
  intro pv i own ρ Φ Ψ ts st σ H z hm kp
  obtain ⟨a', vs, ea, h1, h2⟩ := z.pinnedT (hm _ List.mem_cons_self) (p.kp kp) hl
  cases ea
  refine ⟨fun d e => ?_, fun e => ⟨vs, h1, by rw [h2.length]; exact e⟩⟩
  obtain ⟨x, g1, g2⟩ := h2.get e
  refine ⟨⟨vs, x, h1, g1⟩, fun y H' hy => ?_⟩
  obtain ⟨rfl, hy⟩ := hy
  have := hy vs h1
  rw [g1] at this
  cases this
  exact ⟨own, Φ, Mon.refl _ _, z, g2⟩
def rangeD (lo : Int) (n : Nat) : List PyData := (List.range n).map fun i : Nat => .int (lo + (i : Int))
theorem rangeD_len (lo : Int) (n : Nat) : (rangeD lo n).length = n := by simp [rangeD]
theorem rangeD_get {lo : Int} {n i : Nat} {d : PyData} (h : (rangeD lo n)[i]? = some d) : i < n ∧ d = .int (lo + i) := by
  unfold rangeD at h
  rw [List.getElem?_map] at h
  cases q : (List.range n)[i]? with
  | none => rw [q] at h; cases h
  | some j =>
    rw [q] at h
    obtain ⟨h1, h2⟩ := List.getElem?_eq_some_iff.mp q
    rw [List.getElem_range] at h2
    rw [List.length_range] at h1
    subst h2
    exact ⟨h1, (Option.some.inj h).symm⟩
theorem itok_range {lo : Int} {n : Nat} {st0 : S} : ItOk K (Itr lo n) (rangeD lo n) [] st0 := by
  intro pv i own ρ Φ Ψ ts st σ H z hm kp
  refine ⟨fun d e => ?_, fun e => by rw [rangeD_len] at e; exact e⟩
  obtain ⟨h1, rfl⟩ := rangeD_get e
  refine ⟨h1, fun y H' hy => ?_⟩
  obtain ⟨rfl, rfl⟩ := hy
  exact ⟨own, Φ, Mon.refl _ _, z, .int _⟩
/-- enumerate(list): new pairs -/
def enumD (ds : List PyData) : List PyData := (List.range ds.length).map fun i => .tuple [.int (i : Nat), ds.getD i .none]
theorem enumD_len (ds : List PyData) : (enumD ds).length = ds.length := by simp [enumD]
theorem enumD_get {ds : List PyData} {i : Nat} {d : PyData} (h : (enumD ds)[i]? = some d) : ∃ e, ds[i]? = some e ∧ d = .tuple [.int (i : Nat), e] := by
  unfold enumD at h
  rw [List.getElem?_map] at h
  cases q : (List.range ds.length)[i]? with
  | none => rw [q] at h; cases h
  | some j =>
    rw [q] at h
    obtain ⟨h1, h2⟩ := List.getElem?_eq_some_iff.mp q
    rw [List.getElem_range] at h2
    rw [List.length_range] at h1
    subst h2
    refine ⟨ds[i], List.getElem?_eq_getElem h1, ?_⟩
    rw [← Option.some.inj h]
    simp [h1]
theorem itok_enum {a : Addr} {ds : List PyData} {o : Opd} {st0 : S} (p : PinOk st0 o ds) (hl : pinL o = true) : ItOk K (Ite K a) (enumD ds) [(.ref a, o)] st0 := by
  intro pv i own ρ Φ Ψ ts st σ H z hm kp
  obtain ⟨a', vs, ea, h1, h2⟩ := z.pinnedL (hm _ List.mem_cons_self) (p.kp kp) hl
  cases ea
  refine ⟨fun d e => ?_, fun e => ⟨vs, h1, by rw [h2.length, ← enumD_len]; exact e⟩⟩
  obtain ⟨d', e1, rfl⟩ := enumD_get e
  obtain ⟨x, g1, g2⟩ := h2.get e1
  refine ⟨⟨vs, x, h1, g1⟩, fun y H' hy => ?_⟩
  obtain ⟨T, x', rfl, nT, rfl, hy⟩ := hy
  have := hy vs h1
  rw [g1] at this
  cases this
  obtain ⟨own', Φ', m, z'⟩ := z.res (.tup (ds := [.int (i : Nat), d']) nT (.cons (.int _) (.cons g2 .nil)))
  exact ⟨own', Φ', m, z'.drop, LvR.sh (z'.top rfl)⟩
def zipD (ds es : List PyData) : List PyData := (ds.zip es).map fun p => .tuple [p.1, p.2]
theorem zipD_get {ds es : List PyData} {i : Nat} {d : PyData} (h : (zipD ds es)[i]? = some d) : ∃ a b, ds[i]? = some a ∧ es[i]? = some b ∧ d = .tuple [a, b] := by
  unfold zipD at h
  rw [List.getElem?_map] at h
  cases q : (ds.zip es)[i]? with
  | none => rw [q] at h; cases h
  | some p =>
    rw [q] at h
    obtain ⟨h1, h2⟩ := List.getElem?_zip_eq_some.mp q
    exact ⟨p.1, p.2, h1, h2, (Option.some.inj h).symm⟩
theorem zipD_len (ds es : List PyData) : (zipD ds es).length = min ds.length es.length := by simp [zipD]
theorem itok_zip {a b : Addr} {ds es : List PyData} {o o2 : Opd} {st0 : S} (p : PinOk st0 o ds) (hl : pinL o = true) (p2 : PinOk st0 o2 es) (hl2 : pinL o2 = true) : ItOk K (Itz K a b) (zipD ds es) [(.ref b, o2), (.ref a, o)] st0 := by
  intro pv i own ρ Φ Ψ ts st σ H z hm kp
  obtain ⟨a', vs, ea, h1, h2⟩ := z.pinnedL (hm _ (List.mem_cons_of_mem _ List.mem_cons_self)) (p.kp kp) hl
  cases ea
  obtain ⟨b', ws, eb, f1, f2⟩ := z.pinnedL (hm _ List.mem_cons_self) (p2.kp kp) hl2
  cases eb
  refine ⟨fun d e => ?_, fun e => ⟨vs, ws, h1, f1, by rw [h2.length, f2.length]; rw [zipD_len] at e; omega⟩⟩
  obtain ⟨d1, d2, e1, e2, rfl⟩ := zipD_get e
  obtain ⟨x, g1, g2⟩ := h2.get e1
  obtain ⟨w, k1, k2⟩ := f2.get e2
  refine ⟨⟨vs, ws, x, w, h1, f1, g1, k1⟩, fun y H' hy => ?_⟩
  obtain ⟨T, x', w', rfl, nT, rfl, hy, hw⟩ := hy
  have q1 := hy vs h1
  rw [g1] at q1
  cases q1
  have q2 := hw ws f1
  rw [k1] at q2
  cases q2
  obtain ⟨own', Φ', m, z'⟩ := z.res (.tup (ds := [d1, d2]) nT (.cons g2 (.cons k2 .nil)))
  exact ⟨own', Φ', m, z'.drop, LvR.sh (z'.top rfl)⟩
end
def mIt (ma : ME) : MI := fun st => (ma st).bind fun p => pinO p.1 p.2
def intO (st : S) (o : Opd) : Option Int := (resO st o).bind fun l => match l with
  | .sh (.int i) => some i
  | _ => none
def small62 (i : Int) : Bool := decide (-1000000000000000000 ≤ i ∧ i ≤ 1000000000000000000)
def mRng1 (ma : ME) : MI := fun st => (ma st).bind fun p => (intO p.2 p.1).bind fun j => if small62 j then some (⟨rangeD 0 j.toNat, [], []⟩, p.2) else none
def mRng2 (ma mb : ME) : MI := fun st => (ma st).bind fun p => (mb p.2).bind fun q => (intO q.2 p.1).bind fun i => (intO q.2 q.1).bind fun j => if small62 i && small62 j then some (⟨rangeD i (j - i).toNat, [], []⟩, q.2) else none
def mEnum (ma : ME) : MI := fun st => (ma st).bind fun p => (pinO p.1 p.2).bind fun it => if it.1.os.all pinL then some ({ it.1 with items := enumD it.1.items }, it.2) else none
def mZip (ma mb : ME) : MI := fun st => (ma st).bind fun p => (pinO p.1 p.2).bind fun it => (mb it.2).bind fun q => (pinO q.1 q.2).bind fun it2 => if it.1.os.all pinL && it2.1.os.all pinL then some (⟨zipD it.1.items it2.1.items, it2.1.os ++ it.1.os, it2.1.lock ++ it.1.lock⟩, it2.2) else none
theorem intO_some {st : S} {o : Opd} {i : Int} (h : intO st o = some i) : resO st o = some (.sh (.int i)) := by
  unfold intO at h
  obtain ⟨l, h1, h⟩ := bind_some' h
  split at h
  · cases h; exact h1
  · cases h
section
variable {X : Cx} {pv : PV} {a b tg : Expr} {ma mb : ME} {pos p : Pos}
theorem d_it (ha : DE X pv a ma) : DI X pv tg a (mIt ma) := by
  intro st it st' e
  obtain ⟨⟨o, s1⟩, e1, e⟩ := bind_some' e
  obtain ⟨k1, h1⟩ := ha _ _ _ e1
  obtain ⟨k2, l2, ro, o', eo, hp, hz⟩ := pinO_ok (K := X.K) (pv := pv) e
  refine ⟨k1.trans k2, fun i hi => ⟨(l2 i hi).1, fun x hx => ?_⟩, ro, fun own ρ Φ Ψ ts σ H z R q => ?_⟩
  · cases hr : x.lv.isRo with
    | false => rfl
    | true =>
      have := (l2 i hi).2 x (k1.ro i x hx hr)
      rw [hr] at this
      exact this
  · by_cases hl : pinL o' = true
    · refine si_of (pi_list pe_SE) (h1 own ρ Φ Ψ ts σ H z _ fun own1 ρ1 Φ1 H1 v m1 z1 => ?_)
      obtain ⟨own2, Φ2, m2, z2⟩ := hz z1
      obtain ⟨a', vs, rfl, g1, g2⟩ := z2.pinnedL List.mem_cons_self hp hl
      exact ⟨a', rfl, ⟨vs, g1⟩, q own2 ρ1 Φ2 H1 [(.ref a', o')] _ (m1.trans m2) (by rw [eo]; rfl) z2 (itok_list hp hl)⟩
    · have hl : pinL o' = false := by simpa using hl
      refine si_of (pi_tup pe_SE) (h1 own ρ Φ Ψ ts σ H z _ fun own1 ρ1 Φ1 H1 v m1 z1 => ?_)
      obtain ⟨own2, Φ2, m2, z2⟩ := hz z1
      obtain ⟨a', vs, rfl, g1, g2⟩ := z2.pinnedT List.mem_cons_self hp hl
      exact ⟨a', rfl, ⟨vs, g1⟩, q own2 ρ1 Φ2 H1 [(.ref a', o')] _ (m1.trans m2) (by rw [eo]; rfl) z2 (itok_tup hp hl)⟩
theorem d_rng1 (ha : DE X pv a ma) (hm : X.mg "range" = none) (hg : Gl X "range" := by rfl) (hs : starEach [a] X.env = [(false, eval a X.env)] := by rfl) : DI X pv tg (.Call (.Name "range" p) [a] [] pos) (mRng1 ma) := by
  intro st it st' e
  obtain ⟨⟨o, s1⟩, e1, e⟩ := bind_some' e
  obtain ⟨j, e2, e⟩ := bind_some' e
  split at e
  · rename_i hj
    cases e
    obtain ⟨k1, h1⟩ := ha _ _ _ e1
    have hj := of_decide_eq_true hj
    refine ⟨k1, (fun i hi => by cases hi), (fun i hi => by cases hi), fun own ρ Φ Ψ ts σ H z R q => ?_⟩
    refine si_of (pi_range1 hg hm (pa_cons pe_SE pa_nil hs) hs) (h1 own ρ Φ Ψ ts σ H z _ fun own1 ρ1 Φ1 H1 v m1 z1 => ?_)
    refine ⟨j, by rw [lv_int (z1.top (intO_some e2))], by omega, by omega, ?_⟩
    exact q own1 ρ1 Φ1 H1 [] _ m1 rfl z1.drop itok_range
  · cases e
theorem d_rng2 (ha : DE X pv a ma) (hb : DE X pv b mb) (hm : X.mg "range" = none) (hg : Gl X "range" := by rfl) (hs : starEach [a, b] X.env = [(false, eval a X.env), (false, eval b X.env)] := by rfl)
    (hs1 : starEach [a, b] X.env = (false, eval a X.env) :: starEach [b] X.env := by rfl) (hs2 : starEach [b] X.env = (false, eval b X.env) :: starEach [] X.env := by rfl) : DI X pv tg (.Call (.Name "range" p) [a, b] [] pos) (mRng2 ma mb) := by
  intro st it st' e
  obtain ⟨⟨o, s1⟩, e1, e⟩ := bind_some' e
  obtain ⟨⟨o2, s2⟩, e2, e⟩ := bind_some' e
  obtain ⟨i, e3, e⟩ := bind_some' e
  obtain ⟨j, e4, e⟩ := bind_some' e
  split at e
  · rename_i hj
    cases e
    obtain ⟨k1, h1⟩ := ha _ _ _ e1
    obtain ⟨k2, h2⟩ := hb _ _ _ e2
    rw [Bool.and_eq_true] at hj
    have hi := of_decide_eq_true hj.1
    have hj := of_decide_eq_true hj.2
    refine ⟨k1.trans k2, (fun i hi => by cases hi), (fun i hi => by cases hi), fun own ρ Φ Ψ ts σ H z R q => ?_⟩
    refine si_of (pi_range2 hg hm (pa_cons pe_SE (pa_cons pe_SE pa_nil hs2) hs1) hs hs2) (h1 own ρ Φ Ψ ts σ H z _ fun own1 ρ1 Φ1 H1 v m1 z1 => h2 own1 ρ1 Φ1 Ψ _ σ H1 z1 _ fun own2 ρ2 Φ2 H2 u m2 z2 => ?_)
    refine ⟨i, j, by rw [lv_int (z2.top (intO_some e4)), lv_int (z2.drop.top (intO_some e3))], ⟨by omega, by omega, by omega, by omega⟩, ?_⟩
    exact q own2 ρ2 Φ2 H2 [] _ (m1.trans m2) rfl z2.drop.drop itok_range
  · cases e
theorem d_enum {elts : List Expr} {kk : Nat} {tpos : Pos} (ha : DE X pv a ma) (hm : X.mg "enumerate" = none) (hg : Gl X "enumerate" := by rfl) (hs : starEach [a] X.env = [(false, eval a X.env)] := by rfl) : DI X pv (.Tuple elts kk tpos) (.Call (.Name "enumerate" p) [a] [] pos) (mEnum ma) := by
  intro st it st' e
  obtain ⟨⟨o, s1⟩, e1, e⟩ := bind_some' e
  obtain ⟨⟨it1, s2⟩, e2, e⟩ := bind_some' e
  split at e
  · rename_i hl
    cases e
    obtain ⟨k1, h1⟩ := ha _ _ _ e1
    obtain ⟨k2, l2, ro, o', eo, hp, hz⟩ := pinO_ok (K := X.K) (pv := pv) e2
    have hl : pinL o' = true := by
      simp only [eo, List.all_cons, List.all_nil, Bool.and_true] at hl
      exact hl
    refine ⟨k1.trans k2, fun i hi => ⟨(l2 i hi).1, fun x hx => ?_⟩, ro, fun own ρ Φ Ψ ts σ H z R q => ?_⟩
    · cases hr : x.lv.isRo with
      | false => rfl
      | true =>
        have := (l2 i hi).2 x (k1.ro i x hx hr)
        rw [hr] at this
        exact this
    · refine si_of (pi_enum hg hm (pa_cons pe_SE pa_nil hs) hs) (h1 own ρ Φ Ψ ts σ H z _ fun own1 ρ1 Φ1 H1 v m1 z1 => ?_)
      obtain ⟨own2, Φ2, m2, z2⟩ := hz z1
      obtain ⟨a', vs, rfl, g1, g2⟩ := z2.pinnedL List.mem_cons_self hp hl
      exact ⟨a', vs, rfl, g1, q own2 ρ1 Φ2 H1 [(.ref a', o')] _ (m1.trans m2) (by rw [eo]; rfl) z2 (itok_enum hp hl)⟩
  · cases e
end

/-! ### list comprehensions -/
def wipeL : List Nat → List (Option Sl) → List (Option Sl)
  | [], ls => ls
  | v :: vs, ls => (wipeL vs ls).set v none
def wipeS (vs : List Nat) (st : S) : S := { st with ls := wipeL vs st.ls }
def freshS (vs : List Nat) (st : S) : Bool := vs.all fun k => match st.ls[k]? with
  | some none => true
  | _ => false
theorem wipeL_get {i : Nat} {x : Sl} : ∀ {vs : List Nat} {ls : List (Option Sl)}, (wipeL vs ls)[i]? = some (some x) → ls[i]? = some (some x) ∧ i ∉ vs
  | [], _, h => ⟨h, by simp⟩
  | v :: vs, ls, h => by
    unfold wipeL at h
    rcases set_get h with ⟨_, e⟩ | ⟨hi, h⟩
    · cases e
    · obtain ⟨h1, h2⟩ := wipeL_get h
      exact ⟨h1, by simp only [List.mem_cons, not_or]; exact ⟨hi, h2⟩⟩
theorem wipeL_out {i : Nat} : ∀ {vs : List Nat} {ls : List (Option Sl)}, i ∉ vs → (wipeL vs ls)[i]? = ls[i]?
  | [], _, _ => rfl
  | v :: vs, ls, h => by
    simp only [List.mem_cons, not_or] at h
    unfold wipeL
    rw [List.getElem?_set_ne (Ne.symm h.1), wipeL_out h.2]
theorem wipeL_len : ∀ (vs : List Nat) (ls : List (Option Sl)), (wipeL vs ls).length = ls.length
  | [], _ => rfl
  | v :: vs, ls => by unfold wipeL; rw [List.length_set, wipeL_len vs ls]
theorem wipeL_kp {vs : List Nat} {st st' : S} (h : freshS vs st = true) (k : Kp st st') : Kp st (wipeS vs st') := by
  refine ⟨by show (wipeL vs st'.ls).length = _; rw [wipeL_len]; exact k.len, fun i x e r => ?_⟩
  have := k.ro i x e r
  show (wipeL vs st'.ls)[i]? = _
  rw [wipeL_out]
  · exact this
  · intro hi
    have q := List.all_eq_true.mp h i hi
    rw [e] at q
    cases q
section
variable {K : PySem.W.Frag} {pv : PV} {own own' : Addr → Option Tag} {ρ ρ' : Rho} {Φ Φ' Ψ H H' : Hp} {ts : List (V × Opd)} {st st' : S} {σ : L2.St} {vs : List Nat}
/-- the comprehension's own slots are forgotten on both sides; no temporary speaks of them -/
theorem Stt.wiped (z : Stt K pv own ρ Φ Ψ ts st σ H) (hts : ∀ w i, (w, Opd.slot i) ∈ ts → i ∉ vs) : Stt K pv own ρ Φ Ψ ts (wipeS vs st) (wipe σ vs) H :=
  { z with
    len := by
      show (wipeL vs st.ls).length = _
      rw [wipeL_len, wipe_length]
      exact z.len
    slots := fun i x e => by
      obtain ⟨e1, hi⟩ := wipeL_get e
      obtain ⟨v, h1, h2, h3⟩ := z.slots i x e1
      exact ⟨v, by rw [wipe_out hi]; exact h1, h2, h3⟩
    temps := by
      have go : ∀ {us : List (V × Opd)}, (∀ w i, (w, Opd.slot i) ∈ us → i ∉ vs) → TsOk K own ρ Φ H st.ls σ us → TsOk K own ρ Φ H (wipeL vs st.ls) (wipe σ vs) us := by
        intro us
        induction us with
        | nil => exact fun _ _ => trivial
        | cons q us ih =>
          obtain ⟨w, o⟩ := q
          intro hs h
          cases o with
          | lv l => exact ⟨h.1, ih (fun w i hw => hs w i (List.mem_cons_of_mem _ hw)) h.2⟩
          | slot i =>
            have hi := hs w i List.mem_cons_self
            exact ⟨⟨by rw [wipe_out hi]; exact h.1.1, by rw [wipeL_out hi]; exact h.1.2⟩, ih (fun w i hw => hs w i (List.mem_cons_of_mem _ hw)) h.2⟩
      exact go hts z.temps }
/-- back to the slots of the def: what is told of the wiped ones is told of them -/
theorem Stt.unwiped (z : Stt K pv own ρ Φ Ψ ts st (wipe σ vs) H) (hl : σ.length = (wipe σ vs).length) : Stt K pv own ρ Φ Ψ ts st σ H :=
  { z with
    len := z.len.trans hl.symm
    slots := fun i x e => by
      obtain ⟨v, h1, h2, h3⟩ := z.slots i x e
      exact ⟨v, (wipe_some h1).1, h2, h3⟩
    temps := by
      have go : ∀ {us : List (V × Opd)}, TsOk K own ρ Φ H st.ls (wipe σ vs) us → TsOk K own ρ Φ H st.ls σ us := by
        intro us
        induction us with
        | nil => exact fun _ => trivial
        | cons q us ih =>
          obtain ⟨w, o⟩ := q
          intro h
          cases o with
          | lv l => exact ⟨h.1, ih h.2⟩
          | slot i => exact ⟨⟨(wipe_some h.1.1).1, h.1.2⟩, ih h.2⟩
      exact go z.temps }
theorem fresh_ts (h : freshS vs st = true) (z : Stt K pv own ρ Φ Ψ ts st σ H) : ∀ w i, (w, Opd.slot i) ∈ ts → i ∉ vs := fun w i hm hi => by
  obtain ⟨_, x, e, _⟩ := ts_slot z.temps hm
  have q := List.all_eq_true.mp h i hi
  rw [e] at q
  cases q
end
def unlock : List Nat → S → S
  | [], st => st
  | i :: is, st => unlock is (match st.ls[i]? with
    | some (some ⟨.ro ds, p, c⟩) => { st with ls := st.ls.set i (some ⟨.lst ds, p, c⟩) }
    | _ => st)
section
variable {K : PySem.W.Frag} {pv : PV} {own own' : Addr → Option Tag} {ρ ρ' : Rho} {Φ Φ' Ψ H H' : Hp} {ts : List (V × Opd)} {st st' : S} {σ : L2.St} {vs : List Nat}
theorem Stt.unlock : ∀ (is : List Nat) {st : S}, Stt K pv own ρ Φ Ψ ts st σ H → Stt K pv own ρ Φ Ψ ts (unlock is st) σ H
  | [], _, z => z
  | i :: is, st, z => by
    unfold Dn.unlock
    refine Stt.unlock is ?_
    split
    · rename_i ds p c h
      exact z.asS h (fun o r => by cases r with | ro r => exact .lst r) (fun d q => by cases q) (fun d q => by cases q)
    · exact z
theorem unlock_kp {st0 : S} : ∀ (is : List Nat) {st : S}, (∀ i ∈ is, ∀ x, st0.ls[i]? = some (some x) → x.lv.isRo = false) → Kp st0 st → Kp st0 (unlock is st)
  | [], _, _, k => k
  | i :: is, st, h, k => by
    unfold Dn.unlock
    refine unlock_kp is (fun j hj => h j (List.mem_cons_of_mem _ hj)) ?_
    split
    · rename_i ds p c e
      refine ⟨by show (st.ls.set i _).length = _; rw [List.length_set]; exact k.len, fun j x ex r => ?_⟩
      by_cases hj : i = j
      · subst hj
        have := h i List.mem_cons_self x ex
        rw [r] at this
        cases this
      · show (st.ls.set i _)[j]? = _
        rw [List.getElem?_set_ne hj]
        exact k.ro j x ex r
    · exact k
theorem Stt.drops : ∀ (ps : List (V × Opd)), Stt K pv own ρ Φ Ψ (ps ++ ts) st σ H → Stt K pv own ρ Φ Ψ ts st σ H
  | [], z => z
  | (v, o) :: ps, z => Stt.drops ps (Stt.drop z)
theorem Stt.dropsUnder {v : V} {l : LV} : ∀ (ps : List (V × Opd)) {own : Addr → Option Tag}, Stt K pv own ρ Φ Ψ ((v, .lv l) :: (ps ++ ts)) st σ H → ∃ own', Stt K pv own' ρ Φ Ψ ((v, .lv l) :: ts) st σ H
  | [], own, z => ⟨own, z⟩
  | (w, o) :: ps, own, z => by
    obtain ⟨own1, z1⟩ := Stt.drop1 z
    exact Stt.dropsUnder ps z1
end
def lcLoop (vs : List Nat) (g : MG) (mt : MT) (me : MF) : List PyData → List PyData → S → Option (List PyData × S)
  | [], acc, st => some (acc, st)
  | d :: ds, acc, st => (g d st).bind fun s1 => (mt s1).bind fun p => if p.1 then (me p.2).bind fun q => if acc.length < 16777216 then lcLoop vs g mt me ds (acc ++ [q.1]) (wipeS vs q.2) else none else lcLoop vs g mt me ds acc (wipeS vs p.2)
def mLc (vs : List Nat) (mi : MI) (g : MG) (mt : MT) (me : MF) : ME := fun st => (mi st).bind fun it => if freshS vs it.2 then (lcLoop vs g mt me it.1.items [] (wipeS vs it.2)).bind fun r => some (.lv (.lst r.1), unlock it.1.lock r.2) else none
/-- no test -/
def mYes : MT := fun st => some (true, st)
def SPT (X : Cx) (ifs : List Expr) : TT := fun σ H Q => ∀ (pins : List (Addr × Obj)) (s : Shared), Inv X pins σ H s →
    wpAny (model X.prog X.w) X.A (forIn ifs true fun c r => if r = true then do let ok ← isTrue c X.env (eval c X.env); pure (ForInStep.yield ok) else pure (ForInStep.yield r)) (TP X pins σ Q) X.xe s
theorem pts_SPT {X : Cx} {ifs : List Expr} : PTs X ifs (SPT X ifs) := ⟨fun pins s _ _ _ I h => h pins s I⟩
def DTs (X : Cx) (pv : PV) (ifs : List Expr) (m : MT) : Prop := ∀ st b st', m st = some (b, st') → Kp st st' ∧
  ∀ own ρ Φ Ψ ts σ H, Stt X.K pv own ρ Φ Ψ ts st σ H → ∀ Q : Bool → Hp → Prop, (∀ own' ρ' Φ' H', Mon ρ Φ ρ' Φ' → Stt X.K pv own' ρ' Φ' Ψ ts st' σ H' → Q b H') → SPT X ifs σ H Q
section
variable {X : Cx} {pv : PV}
theorem dts_nil : DTs X pv [] mYes := by
  intro st b st' e
  cases e
  exact ⟨Kp.refl _, fun own ρ Φ Ψ ts σ H z Q q pins s I => pts_nil.run pins s σ H Q I (q own ρ Φ H (Mon.refl _ _) z)⟩
theorem dts_one {c : Expr} {m : MT} (h : DT X pv c m) : DTs X pv [c] m := by
  intro st b st' e
  obtain ⟨k, h⟩ := h _ _ _ e
  exact ⟨k, fun own ρ Φ Ψ ts σ H z Q q pins s I => (pts_one pt_ST).run pins s σ H Q I (h own ρ Φ Ψ ts σ H z Q q)⟩
theorem wipe_again {σ : L2.St} {u : Nat} : ∀ {ws : List Nat}, u ∈ ws → (wipe σ ws).set u none = wipe σ ws
  | [], h => by cases h
  | w :: ws, h => by
    show ((wipe σ ws).set w none).set u none = (wipe σ ws).set w none
    by_cases hw : u = w
    · subst hw; rw [List.set_set]
    · have hu : u ∈ ws := by
        rcases List.mem_cons.mp h with e | e
        · exact absurd e hw
        · exact e
      rw [List.set_comm _ _ (Ne.symm hw), wipe_again hu]
theorem wipe_idem (σ : L2.St) (vs : List Nat) : wipe (wipe σ vs) vs = wipe σ vs := by
  have go : ∀ (us : List Nat), (∀ u ∈ us, u ∈ vs) → wipe (wipe σ vs) us = wipe σ vs := by
    intro us
    induction us with
    | nil => exact fun _ => rfl
    | cons u us ih =>
      intro hu
      show (wipe (wipe σ vs) us).set u none = _
      rw [ih (fun w hw => hu w (List.mem_cons_of_mem _ hw))]
      exact wipe_again (hu u List.mem_cons_self)
  exact go vs fun _ h => h
/-- one run of the loop of a comprehension, from the turn i on -/
theorem lc_run {vs : List Nat} {g : MG} {mt : MT} {me : MF} {gS : TG} {tS : TT} {eS : TE} {its : List PyData} {J : It}
    (hg : ∀ d st st', g d st = some st' → Kp st st' ∧ ∀ own ρ Φ Ψ ts σ H x, Stt X.K pv own ρ Φ Ψ ts st σ H → Rp X.K ρ Φ x d → ∀ Q : L2.St → Hp → Prop, (∀ own' σ', Stt X.K pv own' ρ Φ Ψ ts st' σ' H → wipe σ' vs = wipe σ vs → Q σ' H) → gS x σ H Q)
    (ht : ∀ st b st', mt st = some (b, st') → Kp st st' ∧ ∀ own ρ Φ Ψ ts σ H, Stt X.K pv own ρ Φ Ψ ts st σ H → ∀ Q : Bool → Hp → Prop, (∀ own' ρ' Φ' H', Mon ρ Φ ρ' Φ' → Stt X.K pv own' ρ' Φ' Ψ ts st' σ H' → Q b H') → tS σ H Q)
    (he : ∀ st d st', me st = some (d, st') → Kp st st' ∧ ∀ own ρ Φ Ψ ts σ H, Stt X.K pv own ρ Φ Ψ ts st σ H → ∀ Q : VK, (∀ own' ρ' Φ' H' v, Mon ρ Φ ρ' Φ' → Stt X.K pv own' ρ' Φ' Ψ ts st' σ H' → Rp X.K ρ' Φ' v d → Q v H') → eS σ H Q)
    {st0 : S} (h0 : freshS vs st0 = true) {ps : List (V × Opd)} (hJ : ItOk X.K J its ps st0) {ts : List (V × Opd)} (hps : ∀ p ∈ ps, p ∈ ts) (hsl : ∀ w i, (w, Opd.slot i) ∈ ts → i ∉ vs) {Ψ : Hp} {σ : L2.St} {D : Addr} {Q : Hp → Prop} {ρ0 : Rho} {Φ0 : Hp} {out : List PyData} {stE : S}
    (q : ∀ own ρ Φ H, Mon ρ0 Φ0 ρ Φ → Stt X.K pv own ρ Φ Ψ ((.ref D, .lv (.lst out)) :: ts) stE (wipe σ vs) H → Q H) :
    ∃ W : Nat → Nat → Hp → Prop, (∀ m H, (∃ own ρ Φ acc st, Mon ρ0 Φ0 ρ Φ ∧ Stt X.K pv own ρ Φ Ψ ((.ref D, .lv (.lst acc)) :: ts) st (wipe σ vs) H ∧ Kp st0 st ∧ lcLoop vs g mt me its acc st = some (out, stE)) → m = its.length → W 0 m H) ∧ ∀ i m H, W i m H →
      (J.stop i H ∧ Q H) ∨ (J.go i H ∧ ∃ Nx : Hp → Prop, (∀ H', Nx H' → ∃ m', m' < m ∧ W (i + 1) m' H') ∧ ∀ x H', J.yld i H x H' → gS x (wipe σ vs) H' fun σ2 H2 => wipe σ2 vs = wipe σ vs ∧ tS σ2 H2 fun b H3 =>
        if b = true then eS σ2 H3 fun y H4 => ∃ acc, H4 D = some (.lst acc) ∧ acc.length < sizeLine ∧ Nx (upd H4 D (.lst (acc ++ [y]))) else Nx H3) := by
  refine ⟨fun i m H => m = its.length - i ∧ ∃ own ρ Φ acc st, Mon ρ0 Φ0 ρ Φ ∧ Stt X.K pv own ρ Φ Ψ ((.ref D, .lv (.lst acc)) :: ts) st (wipe σ vs) H ∧ Kp st0 st ∧ lcLoop vs g mt me (its.drop i) acc st = some (out, stE), fun m H h hm => ⟨by simpa using hm, h⟩, ?_⟩
  rintro i m H ⟨rfl, own, ρ, Φ, acc, st, m0, z, kp, e⟩
  have hps' : ∀ p ∈ ps, p ∈ (V.ref D, Opd.lv (.lst acc)) :: ts := fun p hp => List.mem_cons_of_mem _ (hps p hp)
  obtain ⟨j1, j2⟩ := hJ pv i own ρ Φ Ψ _ st _ H z hps' kp
  by_cases hi : i < its.length
  · refine .inr ?_
    have ed : its[i]? = some its[i] := List.getElem?_eq_getElem hi
    have edrop : its.drop i = its[i] :: its.drop (i + 1) := List.drop_eq_getElem_cons hi
    rw [edrop] at e
    obtain ⟨s1, e1, e⟩ := bind_some' e
    obtain ⟨⟨b, s2⟩, e2, e⟩ := bind_some' e
    obtain ⟨go, yl⟩ := j1 _ ed
    refine ⟨go, fun H' => ∃ own ρ Φ acc st, Mon ρ0 Φ0 ρ Φ ∧ Stt X.K pv own ρ Φ Ψ ((.ref D, .lv (.lst acc)) :: ts) st (wipe σ vs) H' ∧ Kp st0 st ∧ lcLoop vs g mt me (its.drop (i + 1)) acc st = some (out, stE), fun H' n => ⟨its.length - (i + 1), by omega, rfl, n⟩, fun x H' hy => ?_⟩
    obtain ⟨own1, Φ1, m1, z1, r1⟩ := yl x H' hy
    obtain ⟨k1, g1⟩ := hg _ _ _ e1
    refine g1 own1 ρ Φ1 Ψ _ _ H' x z1 r1 _ fun own2 σ2 z2 w2 => ?_
    have ew : wipe (wipe σ vs) vs = wipe σ vs := wipe_idem σ vs
    rw [ew] at w2
    refine ⟨w2, ?_⟩
    obtain ⟨k2, t2⟩ := ht _ _ _ e2
    refine t2 own2 ρ Φ1 Ψ _ σ2 H' z2 _ fun own3 ρ3 Φ3 H3 m3 z3 => ?_
    have hsl' : ∀ (l : LV) (us : List (V × Opd)), us = (V.ref D, Opd.lv l) :: ts → ∀ w i, (w, Opd.slot i) ∈ us → i ∉ vs := fun l us hu w i hw => by
      subst hu
      rcases List.mem_cons.mp hw with e | e
      · cases e
      · exact hsl w i e
    cases b with
    | true =>
      simp only [if_true] at e ⊢
      obtain ⟨⟨d, s3⟩, e3, e⟩ := bind_some' e
      split at e
      · rename_i hz
        obtain ⟨k3, h3⟩ := he _ _ _ e3
        refine h3 own3 ρ3 Φ3 Ψ _ σ2 H3 z3 _ fun own4 ρ4 Φ4 H4 y m4 z4 r4 => ?_
        obtain ⟨hD, _⟩ := z4.temps
        cases hD with
        | ow f1 f2 f3 =>
        cases f2 with
        | @lst ws _ f2 =>
        refine ⟨_, f1, by rw [sizeLine_eq, f2.length]; exact hz, own4, ρ4, Φ4, acc ++ [d], wipeS vs s3, ((m0.trans m1).trans m3).trans m4, ?_, wipeL_kp h0 (((kp.trans k1).trans k2).trans k3), e⟩
        -- the list has grown
        have zz : Stt X.K pv own4 ρ4 Φ4 Ψ ((.ref D, .lv (.lst (acc ++ [d]))) :: ts) s3 σ2 (upd H4 D (.lst (ws ++ [y]))) := by
          have ne : ∀ t b, t ≠ Tag.tmp ts.length → own4 b = some t → b ≠ D := fun t b n e z => by
            rw [z, f3] at e
            exact n (Option.some.inj e).symm
          have k : ∀ (t : Tag) (b : Addr) (u : HO), t ≠ .tmp ts.length → own4 b = some t → H4 b = some u → upd H4 D (.lst (ws ++ [y])) b = some u ∧ own4 b = some t := fun t b u n e h => ⟨by rw [upd_ne (ne t b n e)]; exact h, e⟩
          have tk := z4.tabsK (own' := own4) (H' := upd H4 D (.lst (ws ++ [y]))) (fun t b u ht e q => k t b u (by rcases ht with rfl | rfl | rfl <;> exact fun q => by cases q) e q) (fun b e => e)
          refine { phi := fun b u e => ?_, psi := fun b u e => (k _ b u (fun q => by cases q) (z4.dPsi b u e) (z4.psi b u e)).1, dPhi := z4.dPhi, dPsi := z4.dPsi, dom := fun b t e => ?_, len := z4.len, slots := fun i x e => ?_, temps := ?_, tabs := tk.1, tabsIn := tk.2.1, codsIn := tk.2.2.1, rcl := z4.rcl, cach := tk.2.2.2 }
          · have hb : b ≠ D := fun z => by rw [z, z4.dPhi D _ f3] at e; cases e
            rw [upd_ne hb]; exact z4.phi b u e
          · by_cases hb : b = D
            · rw [hb]; exact ⟨_, upd_same⟩
            · rw [upd_ne hb]; exact z4.dom b t e
          · obtain ⟨v, h1, h2, h3⟩ := z4.slots i x e
            exact ⟨v, h1, h2.mono (Mon.refl _ _) (fun a o => k _ a o (fun q => by cases q)) (fun a o => k _ a o (fun q => by cases q)), h3⟩
          · refine ⟨.ow upd_same (.lst (f2.append (.cons r4 .nil))) f3, ?_⟩
            exact TsOk.tagNe _ _ _ (Mon.refl _ _) ts.length (fun j a o hj => k _ a o (fun q => by have := Tag.tmp.inj q; omega)) (fun a o => k _ a o (fun q => by cases q)) (Nat.le_refl _) (tsOk_tail z4.temps)
        have zw := zz.wiped (vs := vs) (hsl' _ _ rfl)
        rw [w2] at zw
        exact zw
      · cases e
    | false =>
      simp only [Bool.false_eq_true, if_false] at e ⊢
      have zw := z3.wiped (vs := vs) (hsl' _ _ rfl)
      rw [w2] at zw
      exact ⟨own3, ρ3, Φ3, acc, wipeS vs s2, (m0.trans m1).trans m3, zw, wipeL_kp h0 ((kp.trans k1).trans k2), e⟩
  · refine .inl ⟨j2 (by omega), ?_⟩
    rw [List.drop_eq_nil_of_le (by omega)] at e
    cases e
    exact q own ρ Φ H m0 z
theorem lcLoop_kp {vs : List Nat} {g : MG} {mt : MT} {me : MF} (hg : ∀ d st st', g d st = some st' → Kp st st') (ht : ∀ st b st', mt st = some (b, st') → Kp st st') (he : ∀ st d st', me st = some (d, st') → Kp st st') {st0 : S} (h0 : freshS vs st0 = true) :
    ∀ {ds acc : List PyData} {st : S} {out : List PyData} {stE : S}, Kp st0 st → lcLoop vs g mt me ds acc st = some (out, stE) → Kp st0 stE
  | [], acc, st, out, stE, k, e => by cases e; exact k
  | d :: ds, acc, st, out, stE, k, e => by
    obtain ⟨s1, e1, e⟩ := bind_some' e
    obtain ⟨⟨b, s2⟩, e2, e⟩ := bind_some' e
    have k2 := (k.trans (hg _ _ _ e1)).trans (ht _ _ _ e2)
    cases b with
    | true =>
      simp only [if_true] at e
      obtain ⟨⟨d, s3⟩, e3, e⟩ := bind_some' e
      split at e
      · exact lcLoop_kp hg ht he h0 (wipeL_kp h0 (k2.trans (he _ _ _ e3))) e
      · cases e
    | false =>
      simp only [Bool.false_eq_true, if_false] at e
      exact lcLoop_kp hg ht he h0 (wipeL_kp h0 k2) e
/-- the parts of a comprehension's derivation, for every block that it may run in -/
structure LcP (X : Cx) (pv : PV) (scope : Scope) (vs : List Nat) (tg : Expr) (ifs : List Expr) (elt : Expr) (g : MG) (mt : MT) (me : MF) : Prop where
  g : ∀ (s : Shared) (H : Hp) (C : Addr) (cl : List (Str × Addr)) (fp : List Addr), DG (X.blk s H scope (compEnvC scope cl C X.env) fp) pv true vs tg g
  t : ∀ (s : Shared) (H : Hp) (C : Addr) (cl : List (Str × Addr)) (fp : List Addr), DTs (X.blk s H scope (compEnvC scope cl C X.env) fp) pv ifs mt
  e : ∀ (s : Shared) (H : Hp) (C : Addr) (cl : List (Str × Addr)) (fp : List Addr), DF (X.blk s H scope (compEnvC scope cl C X.env) fp) pv elt me
theorem lc_all {elt tg iter : Expr} {ifs : List Expr} {scope : Scope} {own0 : List (Str × Nat)} {mi : MI} {g : MG} {mt : MT} {me : MF} (hi : DI X pv tg iter mi) (P : LcP X pv scope (own0.map (·.2)) tg ifs elt g mt me) {st st' : S} {o : Opd} (e : mLc (own0.map (·.2)) mi g mt me st = some (o, st')) : Kp st st' ∧
    ∀ own ρ Φ Ψ ts σ H, Stt X.K pv own ρ Φ Ψ ts st σ H → ∀ Q : VK, (∀ own' ρ' Φ' H' v, Mon ρ Φ ρ' Φ' → Stt X.K pv own' ρ' Φ' Ψ ((v, o) :: ts) st' σ H' → Q v H') →
      tLc (SI X tg iter) (fun x σ H Q => ∀ s0 H0 C cl fp, SG (X.blk s0 H0 scope (compEnvC scope cl C X.env) fp) tg x σ H Q) (fun σ H Q => ∀ s0 H0 C cl fp, SPT (X.blk s0 H0 scope (compEnvC scope cl C X.env) fp) ifs σ H Q)
        (fun σ H Q => ∀ s0 H0 C cl fp, SE (X.blk s0 H0 scope (compEnvC scope cl C X.env) fp) elt σ H Q) (own0.map (·.2)) σ H Q := by
  obtain ⟨⟨it, s1⟩, e1, e⟩ := bind_some' e
  split at e
  · rename_i hf
    obtain ⟨⟨out, stE⟩, e2, e⟩ := bind_some' e
    cases e
    obtain ⟨k1, hlock, hslot, h1⟩ := hi _ _ _ e1
    have g0 := fun d st st' e => (P.g X.s_0 X.H_0 0 [] [] d st st' e).1
    have t0 := fun st b st' e => (P.t X.s_0 X.H_0 0 [] [] st b st' e).1
    have e0 := fun st d st' e => (P.e X.s_0 X.H_0 0 [] [] st d st' e).1
    have kL : Kp s1 stE := lcLoop_kp g0 t0 e0 hf (wipeL_kp hf (Kp.refl _)) e2
    refine ⟨unlock_kp _ (fun i hi' => (hlock i hi').2) (k1.trans kL), fun own ρ Φ Ψ ts σ H z Q q => h1 own ρ Φ Ψ ts σ H z _ fun own1 ρ1 Φ1 H1 ps J m1 eps z1 hJ D nD => ?_⟩
    have z2 := z1.fresh nD (OwnO.lst (vs := []) (ds := []) .nil)
    have z3 := z2.wiped (vs := own0.map (·.2)) (fresh_ts hf z2)
    obtain ⟨W, hW, turn⟩ := lc_run (X := X) (pv := pv) (vs := own0.map (·.2)) (g := g) (mt := mt) (me := me) (its := it.items) (J := J)
      (gS := fun x σ H Q => ∀ s0 H0 C cl fp, SG (X.blk s0 H0 scope (compEnvC scope cl C X.env) fp) tg x σ H Q) (tS := fun σ H Q => ∀ s0 H0 C cl fp, SPT (X.blk s0 H0 scope (compEnvC scope cl C X.env) fp) ifs σ H Q) (eS := fun σ H Q => ∀ s0 H0 C cl fp, SE (X.blk s0 H0 scope (compEnvC scope cl C X.env) fp) elt σ H Q)
      (fun d st st' e => ⟨g0 d st st' e, fun own ρ Φ Ψ ts σ H x z r Q q s0 H0 C cl fp => (P.g s0 H0 C cl fp d st st' e).2 own ρ Φ Ψ ts σ H x z (fun h => by cases h) r Q (fun own' σ' z' w => q own' σ' z' (w rfl))⟩)
      (fun st b st' e => ⟨t0 st b st' e, fun own ρ Φ Ψ ts σ H z Q q s0 H0 C cl fp => (P.t s0 H0 C cl fp st b st' e).2 own ρ Φ Ψ ts σ H z Q q⟩)
      (fun st d st' e => ⟨e0 st d st' e, fun own ρ Φ Ψ ts σ H z Q q s0 H0 C cl fp => (P.e s0 H0 C cl fp st d st' e).2 own ρ Φ Ψ ts σ H z Q q⟩)
      (st0 := s1) hf hJ (ts := ps ++ ts) (fun p hp => List.mem_append_left _ hp) (fresh_ts hf z1) (Ψ := Ψ) (σ := σ) (D := D) (Q := fun H => Q (.ref D) H) (ρ0 := ρ1) (Φ0 := Φ1) (out := out) (stE := stE)
      (fun own2 ρ2 Φ2 H2 m2 z4 => by
        have z5 := z4.unwiped (wipe_length σ _).symm
        obtain ⟨own3, z6⟩ := Stt.dropsUnder ps z5
        exact q own3 ρ2 Φ2 H2 _ (m1.trans m2) (z6.unlock it.lock))
    exact ⟨W, ⟨it.items.length, hW _ _ ⟨_, ρ1, Φ1, [], wipeS (own0.map (·.2)) s1, Mon.refl _ _, z3, wipeL_kp hf (Kp.refl _), e2⟩ rfl⟩, turn⟩
  · cases e
theorem d_lc {elt tg iter : Expr} {ifs : List Expr} {scope : Scope} {own0 : List (Str × Nat)} {pos : Pos} {mi : MI} {g : MG} {mt : MT} {me : MF} (hc : X.calm = true) (hN : X.N.Nodup) (ok : BlkOk X.N X.env.scope scope own0) (hi : DI X pv tg iter mi) (P : LcP X pv scope (own0.map (·.2)) tg ifs elt g mt me)
    (hs : ∀ x, foldedSetIterable iter X.env x = pure x := by intro _; rfl) : DE X pv (.ListComp elt [⟨tg, iter, ifs, 0⟩] scope pos) (mLc (own0.map (·.2)) mi g mt me) := by
  intro st o st' e
  obtain ⟨k, h⟩ := lc_all hi P e
  exact ⟨k, fun own ρ Φ Ψ ts σ H z Q q => se_of (pe_lc (own := own0) hc hN pi_SI ok (fun s H C cl fp => ⟨fun pins s' σ H v u Q I r h => h s _ C cl fp pins s' u I r⟩) (fun s H C cl fp => ⟨fun pins s' σ H Q I h => h s _ C cl fp pins s' I⟩) (fun s H C cl fp => ⟨fun pins s' σ H Q I h => h s _ C cl fp pins s' I⟩) hs) (h own ρ Φ Ψ ts σ H z Q q)⟩
end
end Dn
set_option Elab.async false
set_option linter.all false
set_option maxRecDepth 100000
set_option maxHeartbeats 4000000
/-! Den, part 7: statements, bodies of defs. -/
namespace Dn
open PySem PySem.Spec PyProof.Rows L2

def mNx : MS := fun st => some (.nx, st)
def mSeq (m k : MS) : MS := fun st => (m st).bind fun p => match p.1 with
  | .nx => k p.2
  | f => some (f, p.2)
def mBk : MS := fun st => some (.bk, st)
def mCt : MS := fun st => some (.ct, st)
def mDrop (m : ME) : MS := fun st => (m st).bind fun p => some (.nx, p.2)
/-- what a statement takes: a temporary of its own stays its own, a slot's is given up -/
def own? (o : Opd) (st : S) : Option (LV × S) := match o with
  | .lv l => some (l, st)
  | .slot i => (frz (.slot i) st).bind fun p => some (.sh p.1, p.2)
/-- a local list that is handed back: it goes with the def -/
def mRet (m : ME) : MS := fun st => (m st).bind fun p => (own? p.1 p.2).bind fun q => some (.rt q.1, q.2)
def mRetN : MS := fun st => some (.rt .non, st)
def mIfS (mt : MT) (m k : MS) : MS := fun st => (mt st).bind fun p => if p.1 then m p.2 else k p.2
def mSet (k : Nat) (m : ME) : MS := fun st => (m st).bind fun p => (own? p.1 p.2).bind fun q => (setS false k q.1 q.2).bind fun s => some (.nx, s)
def mSetT (g : MG) (m : MF) : MS := fun st => (m st).bind fun p => (g p.1 p.2).bind fun s => some (.nx, s)
def mAug (k : Nat) (g : LV → LV → Option LV) (m : ME) : MS := fun st => (resO st (.slot k)).bind fun x => match x with
  | .sh d => (m st).bind fun p => (resO p.2 p.1).bind fun y => (g (.sh d) y).bind fun r => match r with
    | .sh d' => (setS false k (.sh d') p.2).bind fun s => some (.nx, s)
    | _ => none
  | _ => none
/-- a slot's own content is changed -/
def putS (i : Nat) (l : LV) (st : S) : Option S := match st.ls[i]? with
  | some (some x) => some { st with ls := st.ls.set i (some { x with lv := l }) }
  | _ => none
def mSetIx (i : Nat) (mi : ME) (me : MF) : MS := fun st => (me st).bind fun p => (resO p.2 (.slot i)).bind fun _ => (mi p.2).bind fun q => (resO q.2 (.slot i)).bind fun l => (resO q.2 q.1).bind fun k => match l with
  | .lst ds => (match k with
    | .sh (.int j) => (ixN ds.length j).bind fun n => (putS i (.lst (ds.set n p.1)) q.2).bind fun s => some (.nx, s)
    | _ => none)
  | l => (dPut l k p.1).bind fun l' => (putS i l' q.2).bind fun s => some (.nx, s)
def mApp (i : Nat) (me : MF) : MS := fun st => ((resO st (.slot i)).bind LV.rd?).bind fun _ => (me st).bind fun p => (resO p.2 (.slot i)).bind fun l => match l with
  | .lst ds => if ds.length < 16777216 then (putS i (.lst (ds ++ [p.1])) p.2).bind fun s => some (.nx, s) else none
  | _ => none
/-- xs += ys, the list one's own -/
def slotC (k : Nat) (st : S) : Option Unit := match st.ls[k]? with
  | some (some ⟨_, _, false⟩) => some ()
  | _ => none
def mExt (k : Nat) (m : ME) : MS := fun st => (slotC k st).bind fun _ => (m st).bind fun p => (resO p.2 (.slot k)).bind fun x => (resO p.2 p.1).bind fun y => match x with
  | .lst ds => (y.cat?).bind fun es => if ds.length + es.length ≤ 16777216 then (putS k (.lst (ds ++ es)) p.2).bind fun s => some (.nx, s) else none
  | _ => none
def forLoop (g : MG) (body : MS) : List PyData → S → Option (Fl × S)
  | [], st => some (.nx, st)
  | d :: ds, st => (g d st).bind fun s1 => (body s1).bind fun p => match p.1 with
    | .nx => forLoop g body ds p.2
    | .ct => forLoop g body ds p.2
    | .bk => some (.nx, p.2)
    | .rt l => some (.rt l, p.2)
def mFor (mi : MI) (g : MG) (body : MS) : MS := fun st => (mi st).bind fun it => (forLoop g body it.1.items it.2).bind fun r => some (r.1, unlock it.1.lock r.2)
def whileLoop (mt : MT) (body : MS) : Nat → S → Option (Fl × S)
  | 0, _ => none
  | n + 1, st => (mt st).bind fun t => if t.1 then (body t.2).bind fun p => match p.1 with
    | .nx => whileLoop mt body n p.2
    | .ct => whileLoop mt body n p.2
    | .bk => some (.nx, p.2)
    | .rt l => some (.rt l, p.2)
    else some (.nx, t.2)
def mWhile (n : Nat) (mt : MT) (body : MS) : MS := whileLoop mt body n
section
variable {X : Cx} {pv : PV} {a b : Expr} {ma mb : ME} {pos : Pos}
theorem own_ok {K : PySem.W.Frag} {own : Addr → Option Tag} {ρ : Rho} {Φ Ψ H : Hp} {ts : List (V × Opd)} {st st' : S} {σ : L2.St} {v : V} {o : Opd} {l : LV} (z : Stt K pv own ρ Φ Ψ ((v, o) :: ts) st σ H) (e : own? o st = some (l, st')) :
    ∃ own' Φ', Mon ρ Φ ρ Φ' ∧ Stt K pv own' ρ Φ' Ψ ((v, .lv l) :: ts) st' σ H := by
  cases o with
  | lv l' =>
    cases e
    exact ⟨own, Φ, Mon.refl _ _, z⟩
  | slot i =>
    obtain ⟨⟨d, s⟩, e1, e⟩ := bind_some' e
    cases e
    obtain ⟨own', Φ', m, z', r⟩ := z.frz e1
    exact ⟨own', Φ', m, z'.push r⟩
theorem own_kp {o : Opd} {l : LV} {st st' : S} (e : own? o st = some (l, st')) : Kp st st' := by
  cases o with
  | lv l' => cases e; exact Kp.refl _
  | slot i =>
    obtain ⟨⟨d, s⟩, e1, e⟩ := bind_some' e
    cases e
    exact frz_kp e1
theorem dss_nil : DSs X pv [] mNx := by
  intro st f st' e
  cases e
  exact ⟨Kp.refl _, fun own ρ Φ Ψ ts σ H z hp D q => sss_of pss_nil (q own ρ Φ σ H (Mon.refl _ _) z)⟩
theorem dss_cons {s : Stmt} {rest : List Stmt} {m k : MS} (h : DS X pv s m) (hk : DSs X pv rest k) : DSs X pv (s :: rest) (mSeq m k) := by
  intro st f st' e
  obtain ⟨⟨f1, s1⟩, e1, e⟩ := bind_some' e
  obtain ⟨k1, h1⟩ := h _ _ _ e1
  cases f1 with
  | nx =>
    obtain ⟨k2, h2⟩ := hk _ _ _ e
    refine ⟨k1.trans k2, fun own ρ Φ Ψ ts σ H z hp D q => sss_of (pss_cons ps_SS pss_SSs) (h1 own ρ Φ Ψ ts σ H z hp _ fun own' ρ' Φ' σ' H' m' z' => ?_)⟩
    exact h2 _ _ _ _ _ _ _ z' (hp.kp k1) D (q.mon m')
  | bk => cases e; exact ⟨k1, fun own ρ Φ Ψ ts σ H z hp D q => sss_of (pss_cons ps_SS pss_SSs) (h1 own ρ Φ Ψ ts σ H z hp _ q)⟩
  | ct => cases e; exact ⟨k1, fun own ρ Φ Ψ ts σ H z hp D q => sss_of (pss_cons ps_SS pss_SSs) (h1 own ρ Φ Ψ ts σ H z hp _ q)⟩
  | rt l => cases e; exact ⟨k1, fun own ρ Φ Ψ ts σ H z hp D q => sss_of (pss_cons ps_SS pss_SSs) (h1 own ρ Φ Ψ ts σ H z hp _ q)⟩
theorem dss_one {s : Stmt} {m : MS} (h : DS X pv s m) : DSs X pv [s] m := by
  intro st f st' e
  obtain ⟨k1, h1⟩ := h _ _ _ e
  exact ⟨k1, fun own ρ Φ Ψ ts σ H z hp D q => sss_of (pss_one ps_SS) (h1 own ρ Φ Ψ ts σ H z hp D q)⟩
theorem ds_pass : DS X pv (.Pass pos) mNx := by
  intro st f st' e
  cases e
  exact ⟨Kp.refl _, fun own ρ Φ Ψ ts σ H z hp D q => ss_of ps_pass (q own ρ Φ σ H (Mon.refl _ _) z)⟩
theorem ds_break : DS X pv (.Break pos) mBk := by
  intro st f st' e
  cases e
  exact ⟨Kp.refl _, fun own ρ Φ Ψ ts σ H z hp D q => ss_of ps_break (q own ρ Φ σ H (Mon.refl _ _) z)⟩
theorem ds_continue : DS X pv (.Continue pos) mCt := by
  intro st f st' e
  cases e
  exact ⟨Kp.refl _, fun own ρ Φ Ψ ts σ H z hp D q => ss_of ps_continue (q own ρ Φ σ H (Mon.refl _ _) z)⟩
theorem ds_expr (h : DE X pv a ma) (hs : swapsWith a none pos.line X.env = pure false := by rfl) : DS X pv (.Expr a pos) (mDrop ma) := by
  intro st f st' e
  obtain ⟨⟨o, s1⟩, e1, e⟩ := bind_some' e
  cases e
  obtain ⟨k1, h1⟩ := h _ _ _ e1
  exact ⟨k1, fun own ρ Φ Ψ ts σ H z hp D q => ss_of (ps_expr pe_SE hs) (h1 own ρ Φ Ψ ts σ H z _ fun own' ρ' Φ' H' v m z' => q own' ρ' Φ' σ H' m z'.drop)⟩
theorem ds_ret (h : DE X pv a ma) : DS X pv (.Return (some a) pos) (mRet ma) := by
  intro st f st' e
  obtain ⟨⟨o, s1⟩, e1, e⟩ := bind_some' e
  obtain ⟨⟨l, s2⟩, e2, e⟩ := bind_some' e
  cases e
  obtain ⟨k1, h1⟩ := h _ _ _ e1
  refine ⟨k1.trans (own_kp e2), fun own ρ Φ Ψ ts σ H z hp D q => ss_of (ps_ret pe_SE) (h1 own ρ Φ Ψ ts σ H z _ fun own' ρ' Φ' H' v m z' => ?_)⟩
  obtain ⟨own2, Φ2, m2, z2⟩ := own_ok z' e2
  exact q own2 ρ' Φ2 σ H' v (m.trans m2) z2
theorem ds_retN : DS X pv (.Return none pos) mRetN := by
  intro st f st' e
  cases e
  exact ⟨Kp.refl _, fun own ρ Φ Ψ ts σ H z hp D q => ss_of ps_retN (q own ρ Φ σ H _ (Mon.refl _ _) (z.push .non))⟩
theorem ds_if {c : Expr} {mt : MT} {s1 s2 : List Stmt} {m k : MS} (hc : DT X pv c mt) (h1 : DSs X pv s1 m) (h2 : DSs X pv s2 k) : DS X pv (.If c s1 s2 pos) (mIfS mt m k) := by
  intro st f st' e
  obtain ⟨⟨b, s1⟩, e1, e⟩ := bind_some' e
  obtain ⟨k1, g1⟩ := hc _ _ _ e1
  cases b with
  | true =>
    obtain ⟨k2, g2⟩ := h1 _ _ _ e
    refine ⟨k1.trans k2, fun own ρ Φ Ψ ts σ H z hp D q => ss_of (ps_if pt_ST pss_SSs pss_SSs) (g1 own ρ Φ Ψ ts σ H z _ fun own' ρ' Φ' H' m' z' => ?_)⟩
    show SSs X _ D σ H'
    exact g2 _ _ _ _ _ _ _ z' (hp.kp k1) D (q.mon m')
  | false =>
    obtain ⟨k2, g2⟩ := h2 _ _ _ e
    refine ⟨k1.trans k2, fun own ρ Φ Ψ ts σ H z hp D q => ss_of (ps_if pt_ST pss_SSs pss_SSs) (g1 own ρ Φ Ψ ts σ H z _ fun own' ρ' Φ' H' m' z' => ?_)⟩
    show SSs X _ D σ H'
    exact g2 _ _ _ _ _ _ _ z' (hp.kp k1) D (q.mon m')
theorem set_core {k : Nat} {st st' : S} {f : Fl} (h : DE X pv a ma) (e : mSet k ma st = some (f, st')) : Kp st st' ∧ f = .nx ∧ ∀ own ρ Φ Ψ ts σ H, Stt X.K pv own ρ Φ Ψ ts st σ H → Pins ts st → ∀ Q : L2.St → Hp → Prop,
    (∀ own' ρ' Φ' σ' H', Mon ρ Φ ρ' Φ' → Stt X.K pv own' ρ' Φ' Ψ ts st' σ' H' → Q σ' H') → SE X a σ H fun v H1 => Q (σ.set k (some v)) H1 := by
  obtain ⟨⟨o, s1⟩, e1, e⟩ := bind_some' e
  obtain ⟨⟨l, s2⟩, e2, e⟩ := bind_some' e
  obtain ⟨s3, e3, e⟩ := bind_some' e
  cases e
  obtain ⟨k1, h1⟩ := h _ _ _ e1
  have k2 := k1.trans (own_kp e2)
  refine ⟨k2.trans (setS_kp e3), rfl, fun own ρ Φ Ψ ts σ H z hp Q q => h1 own ρ Φ Ψ ts σ H z _ fun own' ρ' Φ' H' v m z' => ?_⟩
  obtain ⟨own2, Φ2, m2, z2⟩ := own_ok z' e2
  obtain ⟨own3, z3⟩ := z2.setG (fun _ => hp.kp k2) e3
  exact q own3 ρ' Φ2 _ H' (m.trans m2) z3
theorem ds_set (k : Nat) {x : Str} {pos' : Pos} (hN : X.N.Nodup) (h : DE X pv a ma) (hi : X.N[k]? = some x := by rfl) (hx : Loc X.env.scope x := by first | exact Or.inl rfl | exact Or.inr rfl) (hs : swapsWith a (some (.Name x pos')) pos.line X.env = pure false := by rfl)
    (hf : X.fn x = true ∨ X.env.scope.names.lookup x = some .local := by first | exact .inl rfl | exact .inr rfl) : DS X pv (.Assign [.Name x pos'] a pos) (mSet k ma) := by
  intro st f st' e
  obtain ⟨kp, rfl, h1⟩ := set_core h e
  exact ⟨kp, fun own ρ Φ Ψ ts σ H z hp D q => ss_of (ps_set hN hi hx pe_SE hs hf) (h1 own ρ Φ Ψ ts σ H z hp _ q)⟩
/-- name = [.. for ..], the name a local of the def -/
theorem ds_setLc (k : Nat) {x : Str} {py : Pos} {elt tg iter : Expr} {ifs : List Expr} {scope : Scope} {own0 : List (Str × Nat)} {lpos : Pos} {mi : MI} {g : MG} {mt : MT} {me : MF} (hc : X.calm = true) (hN : X.N.Nodup) (ok : BlkOk X.N X.env.scope scope own0) (hi : DI X pv tg iter mi) (P : LcP X pv scope (own0.map (·.2)) tg ifs elt g mt me)
    (hy : X.N[k]? = some x := by rfl) (hyl : X.env.scope.names.lookup x = some .local := by rfl) (hsw : swapsWith (.ListComp elt [⟨tg, iter, ifs, 0⟩] scope lpos) (some (.Name x py)) pos.line X.env = pure true := by exact sw_true rfl rfl rfl (by decide +kernel))
    (hs : ∀ x, foldedSetIterable iter X.env x = pure x := by intro _; rfl) : DS X pv (.Assign [.Name x py] (.ListComp elt [⟨tg, iter, ifs, 0⟩] scope lpos) pos) (mSet k (mLc (own0.map (·.2)) mi g mt me)) := by
  intro st f st' e
  obtain ⟨⟨o, s1⟩, e1, e⟩ := bind_some' e
  obtain ⟨⟨l, s2⟩, e2, e⟩ := bind_some' e
  obtain ⟨s3, e3, e⟩ := bind_some' e
  cases e
  obtain ⟨k1, h1⟩ := lc_all hi P e1
  have k2 := k1.trans (own_kp e2)
  refine ⟨k2.trans (setS_kp e3), fun own ρ Φ Ψ ts σ H z hp D q => ss_of (t := tAsg (tLc (SI X tg iter) (fun x σ H Q => ∀ s0 H0 C cl fp, SG (X.blk s0 H0 scope (compEnvC scope cl C X.env) fp) tg x σ H Q) (fun σ H Q => ∀ s0 H0 C cl fp, SPT (X.blk s0 H0 scope (compEnvC scope cl C X.env) fp) ifs σ H Q)
        (fun σ H Q => ∀ s0 H0 C cl fp, SE (X.blk s0 H0 scope (compEnvC scope cl C X.env) fp) elt σ H Q) (own0.map (·.2))) (gName k)) (ps_setLc (own := own0) hc hN hy hyl hsw pi_SI ok (fun s H C cl fp => ⟨fun pins s' σ H v u Q I r h => h s _ C cl fp pins s' u I r⟩) (fun s H C cl fp => ⟨fun pins s' σ H Q I h => h s _ C cl fp pins s' I⟩) (fun s H C cl fp => ⟨fun pins s' σ H Q I h => h s _ C cl fp pins s' I⟩) hs) ?_⟩
  refine h1 own ρ Φ Ψ ts σ H z _ fun own' ρ' Φ' H' v m z' => ?_
  obtain ⟨own2, Φ2, m2, z2⟩ := own_ok z' e2
  obtain ⟨own3, z3⟩ := z2.setG (fun _ => hp.kp k2) e3
  exact q own3 ρ' Φ2 _ H' (m.trans m2) z3
theorem ds_setT {tg : Expr} {mf : MF} {g : MG} (hg : DG X pv false [] tg g) (h : DF X pv a mf) (hs : swapsWithSole [tg] a pos.line X.env = pure false := by rfl) (hw : swappedStores [tg] a X.env = pure none := by rfl)
    (h1 : (assignEach [tg] X.env).map (·.2) = [assign tg X.env] := by rfl) : DS X pv (.Assign [tg] a pos) (mSetT g mf) := by
  intro st f st' e
  obtain ⟨⟨d, s1⟩, e1, e⟩ := bind_some' e
  obtain ⟨s2, e2, e⟩ := bind_some' e
  cases e
  obtain ⟨k1, h1'⟩ := h _ _ _ e1
  obtain ⟨k2, g2⟩ := hg _ _ _ e2
  refine ⟨k1.trans k2, fun own ρ Φ Ψ ts σ H z hp D q => ss_of (ps_asg pe_SE pg_SG hs hw h1) (h1' own ρ Φ Ψ ts σ H z _ fun own' ρ' Φ' H' v m z' r => ?_)⟩
  exact g2 _ _ _ _ _ _ _ v z' (fun _ => hp.kp k1) r _ fun own2 σ' z2 _ => q own2 ρ' Φ' σ' H' m z2
/-- name op= e, by an operation that gives a datum -/
def OpS (X : Cx) (f : Value → Value → Sem Value) (g : LV → LV → Option LV) : Prop :=
  ∀ (own : Addr → Option Tag) (ρ : Rho) (Φ H : Hp) (x y : V) (l1 l2 : LV) (d : PyData), g l1 l2 = some (.sh d) → LvR X.K own ρ Φ H x l1 → LvR X.K own ρ Φ H y l2 → Same Φ H → ∀ Q : VK, (∀ v H', Res X.K ρ Φ H (.sh d) v H' → Q v H') → SOp X f x y H Q
theorem ops_addI : OpS X (inplaceOp .Add) gAddI := by
  intro own ρ Φ H x y l1 l2 d e hx hy p Q q
  obtain ⟨i, j, rfl, rfl, _, e⟩ := gI_some e
  cases e
  rw [lv_int hx, lv_int hy]
  exact sop_of iop_add ⟨i, j, rfl, rfl, q _ _ (.same (.int _))⟩
theorem ops_sub : OpS X (inplaceOp .Sub) gSub := by
  intro own ρ Φ H x y l1 l2 d e hx hy p Q q
  obtain ⟨i, j, rfl, rfl, _, e⟩ := gI_some e
  cases e
  rw [lv_int hx, lv_int hy]
  exact sop_of iop_sub ⟨i, j, rfl, rfl, q _ _ (.same (.int _))⟩
theorem ops_mul : OpS X (inplaceOp .Mult) gMulI := by
  intro own ρ Φ H x y l1 l2 d e hx hy p Q q
  obtain ⟨i, j, rfl, rfl, c, e⟩ := gI_some e
  cases e
  rw [lv_int hx, lv_int hy]
  have h := of_decide_eq_true c
  have e : two64 = 2 ^ 64 := by decide
  rw [e] at h
  exact sop_of iop_mul ⟨i, j, rfl, rfl, h, q _ _ (.same (.int _))⟩
theorem pip_SOp {op : Operator} : PIp X op (SOp X (inplaceOp op)) := fun pins s σ _ _ _ v u _ I rx ry h => h pins s σ v u I rx ry
theorem resO_sl {st : S} {k : Nat} {l : LV} (h : resO st (.slot k) = some l) : ∃ x, st.ls[k]? = some (some x) ∧ x.lv = l := by
  cases q : st.ls[k]? with
  | none => simp [resO, q] at h
  | some w =>
    cases w with
    | none => simp [resO, q] at h
    | some w => exact ⟨w, rfl, by simpa [resO, q] using h⟩
theorem ds_aug (k : Nat) {x : Str} {op : Operator} {g : LV → LV → Option LV} {pos' : Pos} (hN : X.N.Nodup) (hg : OpS X (inplaceOp op) g) (h : DE X pv a ma) (hi : X.N[k]? = some x := by rfl) (hx : Loc X.env.scope x := by first | exact Or.inl rfl | exact Or.inr rfl)
    (hf : X.fn x = true ∨ X.env.scope.names.lookup x = some .local := by first | exact .inl rfl | exact .inr rfl) : DS X pv (.AugAssign (.Name x pos') op a pos) (mAug k g ma) := by
  intro st f st' e
  obtain ⟨lx, e0, e⟩ := bind_some' e
  obtain ⟨xs, hxs, rfl⟩ := resO_sl e0
  obtain ⟨lv, p0, c0⟩ := xs
  cases lv with
  | sh d =>
    simp only at e
    obtain ⟨⟨o, s1⟩, e1, e⟩ := bind_some' e
    obtain ⟨ly, e3, e⟩ := bind_some' e
    obtain ⟨r, e4, e⟩ := bind_some' e
    cases r with
    | sh d' =>
      simp only at e
      obtain ⟨s2, e5, e⟩ := bind_some' e
      cases e
      obtain ⟨k1, h1⟩ := h _ _ _ e1
      refine ⟨k1.trans (setS_kp e5), fun own ρ Φ Ψ ts σ H z hp D q => ?_⟩
      obtain ⟨v, hv, hl, _⟩ := z.slots k _ hxs
      refine ss_of (ps_aug hN hi hx pe_SE (pip_SOp (op := op)) hf) ⟨v, hv, h1 own ρ Φ Ψ _ σ H (z.push (LvR.sh ⟨_, hl⟩)) _ fun own' ρ' Φ' H' w m z' => ?_⟩
      refine hg own' ρ' Φ' H' v w _ ly d' e4 (z'.drop.top rfl) (z'.top e3) z'.phi _ fun u H2 rs => ?_
      obtain ⟨own2, Φ2, m2, z2⟩ := z'.drop.drop.res rs
      obtain ⟨own3, z3⟩ := z2.setG (fun _ => hp.kp k1) e5
      exact q own3 ρ' Φ2 _ H2 (m.trans m2) z3
    | _ => cases e
  | _ => cases e
theorem putS_some {i : Nat} {l : LV} {st st' : S} (h : putS i l st = some st') : ∃ x, st.ls[i]? = some (some x) ∧ st' = { st with ls := st.ls.set i (some { x with lv := l }) } := by
  unfold putS at h
  split at h
  · rename_i x hx
    cases h
    exact ⟨x, hx, rfl⟩
  · cases h
theorem set_self {σ : L2.St} {k : Nat} {v : V} (h : σ[k]? = some (some v)) : σ.set k (some v) = σ := by
  apply List.ext_getElem?
  intro i
  by_cases hi : k = i
  · subst hi
    rw [List.getElem?_set_self (List.getElem?_eq_some_iff.mp h).1, h]
  · rw [List.getElem?_set_ne hi]
theorem ds_ext (k : Nat) {x : Str} {pos' : Pos} (hN : X.N.Nodup) (h : DE X pv a ma) (hi : X.N[k]? = some x := by rfl) (hx : Loc X.env.scope x := by first | exact Or.inl rfl | exact Or.inr rfl)
    (hf : X.fn x = true ∨ X.env.scope.names.lookup x = some .local := by first | exact .inl rfl | exact .inr rfl) : DS X pv (.AugAssign (.Name x pos') .Add a pos) (mExt k ma) := by
  intro st f st' e
  obtain ⟨_, eC, e⟩ := bind_some' e
  obtain ⟨⟨o, s1⟩, e1, e⟩ := bind_some' e
  obtain ⟨lx, e0, e⟩ := bind_some' e
  obtain ⟨ly, e3, e⟩ := bind_some' e
  obtain ⟨xs, hxs, rfl⟩ := resO_sl e0
  obtain ⟨lv, p0, c0⟩ := xs
  obtain ⟨y0, hy0, hc0⟩ : ∃ y, st.ls[k]? = some (some y) ∧ y.c = false := by
    unfold slotC at eC
    split at eC
    · rename_i h
      exact ⟨_, h, rfl⟩
    · cases eC
  cases lv with
  | lst ds =>
    simp only at e
    obtain ⟨es, e4, e⟩ := bind_some' e
    split at e
    · rename_i hz
      obtain ⟨s2, e5, e⟩ := bind_some' e
      cases e
      obtain ⟨x', hx', rfl⟩ := putS_some e5
      rw [hxs] at hx'
      cases hx'
      obtain ⟨k1, h1⟩ := h _ _ _ e1
      refine ⟨k1.trans (set_kp hxs rfl), fun own ρ Φ Ψ ts σ H z hp D q => ?_⟩
      obtain ⟨v, hv, _, _⟩ := z.slots k _ hy0
      have z0 : Stt X.K pv own ρ Φ Ψ ((v, .slot k) :: ts) st σ H := { z with temps := ⟨⟨hv, _, hy0, hc0⟩, z.temps⟩ }
      refine ss_of (ps_aug hN hi hx pe_SE (pip_SOp (op := .Add)) hf) ⟨v, hv, h1 own ρ Φ Ψ _ σ H z0 _ fun own' ρ' Φ' H' w m z' => ?_⟩
      obtain ⟨v', hv', hl', hp'⟩ := z'.slots k _ hxs
      rw [hv] at hv'
      cases hv'
      cases hl' with
      | @ow av _ _ f1 f2 f3 =>
      cases f2 with
      | @lst vs _ f2 =>
      obtain ⟨b', ws, rfl, g1, g2⟩ := (z'.top e3).cat e4 z'.phi
      refine sop_of iop_ext ⟨av, b', vs, ws, rfl, rfl, f1, g1, by rw [sizeLine_eq, f2.length, g2.length]; exact hz, ?_⟩
      show D.nx (σ.set k (some (V.ref av))) _
      rw [set_self hv]
      exact q own' ρ' Φ' σ _ m (z'.drop.drop.mutS (v := .ref av) hxs hv hp' f3 (.lst (f2.append g2)))
    · cases e
  | _ => cases e
/-! ### stores into one's own list or dict -/
theorem ds_setIx (i : Nat) {mi : ME} {me : MF} {xo : Str} {po pos' : Pos} {ie : Expr} (hu : X.A.units + 65 < cLine) (hi : DE X pv ie mi) (he : DF X pv a me) (ho : X.N[i]? = some xo := by rfl) (hv : Vis X.env.scope xo := by first | exact Or.inl rfl | exact Or.inr (Or.inl rfl) | exact Or.inr (Or.inr rfl))
    (hd : (xo == ("__debug__" : Str)) = false := by decide) (hcd : (xo == ("__classdict__" : Str)) = false := by decide)
    (hs : swapsWith a (some (.Subscript (.Name xo po) ie pos')) pos.line X.env = pure false := by rfl)
    (hsa : ∀ v, assign (.Subscript (.Name xo po) ie pos') X.env v = (do let ov ← holding [v] (eval (.Name xo po) X.env); let iv ← holding [v, ov] (eval ie X.env); standAt pos'; holding [v, ov, iv] (setItem ov iv v); release [v, ov, iv] []) := by intros; rfl)
    (hw : swappedStores [.Subscript (.Name xo po) ie pos'] a X.env = pure none := by rfl) (hae : (assignEach [.Subscript (.Name xo po) ie pos'] X.env).map (·.2) = [assign (.Subscript (.Name xo po) ie pos') X.env] := by rfl) : DS X pv (.Assign [.Subscript (.Name xo po) ie pos'] a pos) (mSetIx i mi me) := by
  intro st f st' e
  obtain ⟨⟨d, s1⟩, e1, e⟩ := bind_some' e
  obtain ⟨l0, e0, e⟩ := bind_some' e
  obtain ⟨⟨oi, s2⟩, e2, e⟩ := bind_some' e
  obtain ⟨l, e3, e⟩ := bind_some' e
  obtain ⟨kk, e4, e⟩ := bind_some' e
  obtain ⟨x0, hx0, rfl⟩ := resO_sl e0
  obtain ⟨xs, hxs, rfl⟩ := resO_sl e3
  obtain ⟨k1, h1⟩ := he _ _ _ e1
  obtain ⟨k2, h2⟩ := hi _ _ _ e2
  -- the three parts, then what is left
  have parts : ∀ own ρ Φ Ψ ts σ H, Stt X.K pv own ρ Φ Ψ ts st σ H → ∀ R : V → V → V → Hp → Prop,
      (∀ own2 ρ2 Φ2 H2 v a u, Mon ρ Φ ρ2 Φ2 → Stt X.K pv own2 ρ2 Φ2 Ψ ts s2 σ H2 → Rp X.K ρ2 Φ2 v d → σ[i]? = some (some a) → LvOk X.K own2 ρ2 Φ2 H2 (.slot i) a xs.lv → (xs.p = true → pv.vs[i]? = some a) → LvR X.K own2 ρ2 Φ2 H2 u kk → R v a u H2) →
      SE X a σ H fun v H1 => tVar i σ H1 fun o H2 => SE X ie σ H2 fun u H3 => R v o u H3 := fun own ρ Φ Ψ ts σ H z R q =>
    h1 own ρ Φ Ψ ts σ H z _ fun own1 ρ1 Φ1 H1 v m1 z1 r1 => by
      obtain ⟨w, hw, _, _⟩ := z1.slots i x0 hx0
      refine ⟨w, hw, h2 own1 ρ1 Φ1 Ψ ts σ H1 z1 _ fun own2 ρ2 Φ2 H2 u m2 z2 => ?_⟩
      obtain ⟨w', hw', hl', hp'⟩ := z2.slots i xs hxs
      rw [hw] at hw'
      cases hw'
      exact q own2 ρ2 Φ2 H2 v w u (m1.trans m2) z2.drop (r1.mono m2) hw hl' hp' (z2.top e4)
  obtain ⟨lv, p0, c0⟩ := xs
  have dict : ∀ l' s', dPut lv kk d = some l' → putS i l' s2 = some s' → f = .nx → st' = s' → lv.isRo = false → Kp st st' ∧ ∀ own ρ Φ Ψ ts σ H, Stt X.K pv own ρ Φ Ψ ts st σ H → Pins ts st → ∀ D : Ends, Aft X.K pv ρ Φ Ψ ts st' D f → SS X (.Assign [.Subscript (.Name xo po) ie pos'] a pos) D σ H := by
    rintro l' s' e5 e6 rfl rfl hro
    obtain ⟨x', hx', rfl⟩ := putS_some e6
    rw [hxs] at hx'
    cases hx'
    refine ⟨(k1.trans k2).trans (set_kp hxs hro), fun own ρ Φ Ψ ts σ H z hp D q => ?_⟩
    refine ss_of (ps_dput (by omega) (pe_var ho hv hd hcd) pe_SE pe_SE hs) (parts own ρ Φ Ψ ts σ H z _ fun own2 ρ2 Φ2 H2 v w u m2 z2 rv hw hl' hp' hk => ?_)
    obtain ⟨a', o, o', rfl, g1, g2, g3, g4⟩ := dPut_ok hl' hk rv z2.phi e5
    exact ⟨a', _, rfl, g3, q own2 ρ2 Φ2 σ _ m2 (z2.mutS (v := .ref a') hxs hw hp' g2 g4)⟩
  cases lv with
  | lst ds =>
    simp only at e
    split at e
    · rename_i j
      obtain ⟨n, e5, e⟩ := bind_some' e
      obtain ⟨s3, e6, e⟩ := bind_some' e
      cases e
      obtain ⟨x', hx', rfl⟩ := putS_some e6
      rw [hxs] at hx'
      cases hx'
      refine ⟨(k1.trans k2).trans (set_kp hxs rfl), fun own ρ Φ Ψ ts σ H z hp D q => ?_⟩
      refine ss_of (ps_asg pe_SE (pg_sub (pe_var ho hv hd hcd) pe_SE set_list hsa) hs hw hae) (parts own ρ Φ Ψ ts σ H z (fun v o u H3 => rSetL o u v H3 fun H4 => D.nx σ H4) fun own2 ρ2 Φ2 H2 v w u m2 z2 rv hw hl' hp' hk => ?_)
      cases hl' with
      | @ow av _ _ f1 f2 f3 =>
      cases f2 with
      | @lst vs _ f2 =>
      exact ⟨av, vs, j, n, rfl, lv_int hk, f1, by rw [f2.length]; exact e5, q own2 ρ2 Φ2 σ _ m2 (z2.mutS (v := .ref av) hxs hw hp' f3 (.lst (f2.set rv n)))⟩
    · cases e
  | dk es =>
    simp only at e
    obtain ⟨l', e5, e⟩ := bind_some' e
    obtain ⟨s3, e6, e⟩ := bind_some' e
    cases e
    exact dict _ _ e5 e6 rfl rfl rfl
  | dt es =>
    simp only at e
    obtain ⟨l', e5, e⟩ := bind_some' e
    obtain ⟨s3, e6, e⟩ := bind_some' e
    cases e
    exact dict _ _ e5 e6 rfl rfl rfl
  | sh _ => simp [dPut] at e
  | ro _ => simp [dPut] at e
  | rv _ => simp [dPut] at e
  | scr _ => simp [dPut] at e
  | set _ => simp [dPut] at e
/-- xs.append(e) -/
theorem ds_app (i : Nat) {me : MF} {xo : Str} {po apos cpos : Pos} (he : DF X pv a me) (ho : X.N[i]? = some xo := by rfl) (hv : Vis X.env.scope xo := by first | exact Or.inl rfl | exact Or.inr (Or.inl rfl) | exact Or.inr (Or.inr rfl))
    (hd : (xo == ("__debug__" : Str)) = false := by decide) (hcd : (xo == ("__classdict__" : Str)) = false := by decide)
    (hbase : attributeBase (.Name xo po) "append" X.env (eval (.Name xo po) X.env) = eval (.Name xo po) X.env := by rfl)
    (hfew : ((backTo cpos (starEach [a] X.env)).all (fun x => !x.1) && (backToKw cpos (keywordEach [] X.env)).all (fun x => x.1.isSome)
      && decide ([a].length + ([] : List Keyword).length + (if ([] : List Keyword).isEmpty then 0 else 1) < 30)) = true := by rfl)
    (hline : (apos.endLine == cpos.line) = true := by rfl) (hs : starEach [a] X.env = (false, eval a X.env) :: starEach [] X.env := by rfl) (hplain : (backTo cpos (starEach [] X.env)).any (·.1) = false := by rfl)
    (hsw : swapsWith (.Call (.Attribute (.Name xo po) "append" apos) [a] [] cpos) none pos.line X.env = pure false := by rfl) : DS X pv (.Expr (.Call (.Attribute (.Name xo po) "append" apos) [a] [] cpos) pos) (mApp i me) := by
  intro st f st' e
  obtain ⟨rd0, er, e⟩ := bind_some' e
  obtain ⟨l0, e0, er⟩ := bind_some' er
  obtain ⟨⟨d, s1⟩, e1, e⟩ := bind_some' e
  obtain ⟨l, e3, e⟩ := bind_some' e
  obtain ⟨x0, hx0, rfl⟩ := resO_sl e0
  obtain ⟨xs, hxs, rfl⟩ := resO_sl e3
  obtain ⟨k1, h1⟩ := he _ _ _ e1
  obtain ⟨lv, p0, c0⟩ := xs
  cases lv with
  | lst ds =>
    simp only at e
    split at e
    · rename_i hz
      obtain ⟨s2, e5, e⟩ := bind_some' e
      cases e
      obtain ⟨x', hx', rfl⟩ := putS_some e5
      rw [hxs] at hx'
      cases hx'
      refine ⟨k1.trans (set_kp hxs rfl), fun own ρ Φ Ψ ts σ H z hp D q => ?_⟩
      refine ss_of (ps_expr (pe_bm PySem.F.plainAttrs_list PySem.F.slot_list_append PySem.F.type_list_append mt_append (pe_var ho hv hd hcd) (pa_cons pe_SE pa_nil hs) hbase hfew hline hs hplain) hsw) ?_
      obtain ⟨w, hw, hl0, _⟩ := z.slots i x0 hx0
      obtain ⟨a0, vs0, rfl, hq0, _⟩ := LvR.rd ⟨_, hl0⟩ er z.phi
      refine ⟨_, hw, .inl ⟨rfl, vs0, hq0⟩, h1 own ρ Φ Ψ ts σ H z _ fun own' ρ' Φ' H' v m z' rv => ?_⟩
      obtain ⟨w', hw', hl', hp'⟩ := z'.slots i _ hxs
      rw [hw] at hw'
      cases hw'
      cases hl' with
      | @ow av _ _ f1 f2 f3 =>
      cases f2 with
      | @lst vs _ f2 =>
      refine ⟨a0, vs, v, rfl, rfl, f1, by rw [sizeLine_eq, f2.length]; exact hz, ?_⟩
      exact q own' ρ' Φ' σ _ m (z'.mutS (v := .ref a0) hxs hw hp' f3 (.lst (f2.append (.cons rv .nil))))
    · cases e
  | _ => cases e

/-! ### loops -/
theorem for_run {tg iter : Expr} {body : List Stmt} {mi : MI} {g : MG} {mb : MS} (hi : DI X pv tg iter mi) (hg : DG X pv false [] tg g) (hb : DSs X pv body mb) {st st' : S} {f : Fl} (e : mFor mi g mb st = some (f, st')) : Kp st st' ∧
    ∀ own ρ Φ Ψ ts σ H, Stt X.K pv own ρ Φ Ψ ts st σ H → Pins ts st → ∀ D : Ends, Aft X.K pv ρ Φ Ψ ts st' D f → tFor (SI X tg iter) (SG X tg) (SSs X body) D σ H := by
  obtain ⟨⟨it, s1⟩, e1, e⟩ := bind_some' e
  obtain ⟨⟨fl, s2⟩, e2, e⟩ := bind_some' e
  cases e
  obtain ⟨k1, hlock, hslot, h1⟩ := hi _ _ _ e1
  have loopK : ∀ (ds : List PyData) (st : S), Kp s1 st → forLoop g mb ds st = some (fl, s2) → Kp s1 s2 := by
    intro ds
    induction ds with
    | nil => intro st k e; cases e; exact k
    | cons d ds ih =>
      intro st k e
      obtain ⟨s3, e3, e⟩ := bind_some' e
      obtain ⟨⟨f4, s4⟩, e4, e⟩ := bind_some' e
      have k4 := (k.trans (hg _ _ _ e3).1).trans (hb _ _ _ e4).1
      cases f4 with
      | nx => exact ih _ k4 e
      | ct => exact ih _ k4 e
      | bk => cases e; exact k4
      | rt l => cases e; exact k4
  refine ⟨unlock_kp _ (fun i hi' => (hlock i hi').2) (k1.trans (loopK _ _ (Kp.refl _) e2)), fun own ρ Φ Ψ ts σ H z hp D q => h1 own ρ Φ Ψ ts σ H z _ fun own1 ρ1 Φ1 H1 ps J m1 eps z1 hJ => ?_⟩
  have hp1 : Pins (ps ++ ts) s1 := fun w i hw => by
    rcases List.mem_append.mp hw with hw | hw
    · exact hslot i (by rw [← eps]; exact List.mem_map.mpr ⟨_, hw, rfl⟩)
    · exact (hp.kp k1) w i hw
  refine ⟨fun i m σ H => m = it.items.length - i ∧ ∃ own ρ Φ st, Mon ρ1 Φ1 ρ Φ ∧ Stt X.K pv own ρ Φ Ψ (ps ++ ts) st σ H ∧ Kp s1 st ∧ forLoop g mb (it.items.drop i) st = some (fl, s2), ⟨it.items.length, by simp, own1, ρ1, Φ1, s1, Mon.refl _ _, z1, Kp.refl _, e2⟩, ?_⟩
  rintro i m σ H ⟨rfl, own, ρ2, Φ2, st, m0, z, kp, e⟩
  obtain ⟨j1, j2⟩ := hJ _ i own ρ2 Φ2 Ψ _ st _ H z (fun p hp => List.mem_append_left _ hp) kp
  have stop : ∀ {own ρ2 Φ2 σ H}, Mon ρ1 Φ1 ρ2 Φ2 → Stt X.K pv own ρ2 Φ2 Ψ (ps ++ ts) s2 σ H → fl = .nx → D.nx σ H := fun m0 z efl => by
    subst efl
    exact q _ _ _ _ _ (m1.trans m0) ((Stt.drops ps z).unlock it.lock)
  by_cases hlt : i < it.items.length
  · refine .inr ?_
    have ed : it.items[i]? = some it.items[i] := List.getElem?_eq_getElem hlt
    have edrop : it.items.drop i = it.items[i] :: it.items.drop (i + 1) := List.drop_eq_getElem_cons hlt
    rw [edrop] at e
    obtain ⟨s3, e3, e⟩ := bind_some' e
    obtain ⟨⟨f4, s4⟩, e4, e⟩ := bind_some' e
    obtain ⟨go, yl⟩ := j1 _ ed
    refine ⟨go, fun σ' H' => ∃ own ρ Φ st, Mon ρ1 Φ1 ρ Φ ∧ Stt X.K pv own ρ Φ Ψ (ps ++ ts) st σ' H' ∧ Kp s1 st ∧ forLoop g mb (it.items.drop (i + 1)) st = some (fl, s2), fun σ' H' n => ⟨it.items.length - (i + 1), by omega, rfl, n⟩, fun x H' hy => ?_⟩
    obtain ⟨own3, Φ3, m3, z3, r3⟩ := yl x H' hy
    obtain ⟨k3, g3⟩ := hg _ _ _ e3
    obtain ⟨k4, g4⟩ := hb _ _ _ e4
    refine g3 own3 ρ2 Φ3 Ψ _ σ H' x z3 (fun _ => hp1.kp kp) r3 _ fun own4 σ4 z4 _ => ?_
    refine g4 own4 ρ2 Φ3 Ψ _ σ4 H' z4 ((hp1.kp kp).kp k3) _ ?_
    cases f4 with
    | nx => exact fun own5 ρ5 Φ5 σ5 H5 m5 z5 => ⟨own5, ρ5, Φ5, s4, (m0.trans m3).trans m5, z5, (kp.trans k3).trans k4, e⟩
    | ct => exact fun own5 ρ5 Φ5 σ5 H5 m5 z5 => ⟨own5, ρ5, Φ5, s4, (m0.trans m3).trans m5, z5, (kp.trans k3).trans k4, e⟩
    | bk =>
      cases e
      exact fun own5 ρ5 Φ5 σ5 H5 m5 z5 => stop ((m0.trans m3).trans m5) z5 rfl
    | rt l =>
      cases e
      intro own5 ρ5 Φ5 σ5 H5 v m5 z5
      obtain ⟨own6, z6⟩ := Stt.dropsUnder ps z5
      exact q own6 ρ5 Φ5 σ5 H5 v (m1.trans ((m0.trans m3).trans m5)) (z6.unlock it.lock)
  · refine .inl ⟨j2 (by omega), ?_⟩
    rw [List.drop_eq_nil_of_le (by omega)] at e
    cases e
    exact stop m0 z rfl
theorem ds_for {tg iter : Expr} {body : List Stmt} {mi : MI} {g : MG} {mb : MS} (hpo : PassesOwn (model X.prog X.w) X.A X.env X.xe) (hc : X.calm = true) (hi : DI X pv tg iter mi) (hg : DG X pv false [] tg g) (hb : DSs X pv body mb)
    (hs : ∀ x, foldedSetIterable iter X.env x = pure x := by intro _; rfl) : DS X pv (.For tg iter body [] pos) (mFor mi g mb) := by
  intro st f st' e
  obtain ⟨k, h⟩ := for_run hi hg hb e
  exact ⟨k, fun own ρ Φ Ψ ts σ H z hp D q => ss_of (ps_for hpo hc pi_SI pg_SG pss_SSs hs) (h own ρ Φ Ψ ts σ H z hp D q)⟩
theorem ds_while (n : Nat) {c : Expr} {body : List Stmt} {mt : MT} {mb : MS} (hpo : PassesOwn (model X.prog X.w) X.A X.env X.xe) (hc : DT X pv c mt) (hb : DSs X pv body mb) : DS X pv (.While c body [] pos) (mWhile n mt mb) := by
  intro st f st' e
  have loopK : ∀ (n : Nat) (st : S), whileLoop mt mb n st = some (f, st') → Kp st st' := by
    intro n
    induction n with
    | zero => intro st e; cases e
    | succ n ih =>
      intro st e
      obtain ⟨⟨b, s3⟩, e3, e⟩ := bind_some' e
      have k3 := (hc _ _ _ e3).1
      cases b with
      | true =>
        simp only [if_true] at e
        obtain ⟨⟨f4, s4⟩, e4, e⟩ := bind_some' e
        have k4 := k3.trans (hb _ _ _ e4).1
        cases f4 with
        | nx => exact k4.trans (ih _ e)
        | ct => exact k4.trans (ih _ e)
        | bk => cases e; exact k4
        | rt l => cases e; exact k4
      | false =>
        simp only [Bool.false_eq_true, if_false] at e
        cases e
        exact k3
  refine ⟨loopK n st e, fun own ρ Φ Ψ ts σ H z hp D q => ss_of (ps_while hpo pt_ST pss_SSs) ?_⟩
  refine ⟨fun m σ H => ∃ own ρ1 Φ1 st, Mon ρ Φ ρ1 Φ1 ∧ Stt X.K pv own ρ1 Φ1 Ψ ts st σ H ∧ Pins ts st ∧ whileLoop mt mb m st = some (f, st'), ⟨n, own, ρ, Φ, st, Mon.refl _ _, z, hp, e⟩, ?_⟩
  rintro m σ H ⟨own1, ρ1, Φ1, st1, m1, z1, hp1, e1⟩
  cases m with
  | zero => cases e1
  | succ m =>
    obtain ⟨⟨b, s3⟩, e3, e⟩ := bind_some' e1
    obtain ⟨k3, h3⟩ := hc _ _ _ e3
    refine h3 own1 ρ1 Φ1 Ψ ts σ H z1 _ fun own2 ρ2 Φ2 H2 m2 z2 => ?_
    cases b with
    | true =>
      simp only [if_true] at e ⊢
      obtain ⟨⟨f4, s4⟩, e4, e⟩ := bind_some' e
      obtain ⟨k4, h4⟩ := hb _ _ _ e4
      refine ⟨fun σ' H' => ∃ own ρ1 Φ1 st, Mon ρ Φ ρ1 Φ1 ∧ Stt X.K pv own ρ1 Φ1 Ψ ts st σ' H' ∧ Pins ts st ∧ whileLoop mt mb m st = some (f, st'), fun σ' H' hN => ⟨m, Nat.lt_succ_self m, hN⟩, ?_⟩
      refine h4 own2 ρ2 Φ2 Ψ ts σ H2 z2 (hp1.kp k3) _ ?_
      cases f4 with
      | nx => exact fun own5 ρ5 Φ5 σ5 H5 m5 z5 => ⟨own5, ρ5, Φ5, s4, (m1.trans m2).trans m5, z5, (hp1.kp k3).kp k4, e⟩
      | ct => exact fun own5 ρ5 Φ5 σ5 H5 m5 z5 => ⟨own5, ρ5, Φ5, s4, (m1.trans m2).trans m5, z5, (hp1.kp k3).kp k4, e⟩
      | bk =>
        cases e
        exact fun own5 ρ5 Φ5 σ5 H5 m5 z5 => q own5 ρ5 Φ5 σ5 H5 ((m1.trans m2).trans m5) z5
      | rt l =>
        cases e
        exact fun own5 ρ5 Φ5 σ5 H5 v m5 z5 => q own5 ρ5 Φ5 σ5 H5 v ((m1.trans m2).trans m5) z5
    | false =>
      simp only [Bool.false_eq_true, if_false] at e ⊢
      cases e
      exact q own2 ρ2 Φ2 σ H2 (m1.trans m2) z2
end

/-! ### the body of a def -/
def outSl : Option Sl → Option LV
  | some ⟨l, true, _⟩ => if l.isRv then none else some l
  | _ => none
def finR (r : LV) (as : List (Option LV)) : Option (LV × List (Option LV)) := if r.isRv then none else some (r, as)
def runD (n : Nat) (body : MS) : MD := fun ls => (body ⟨ls.map entSl ++ List.replicate (n - ls.length) none⟩).bind fun p => match p.1 with
  | .rt r => finR r ((p.2.ls.take ls.length).map outSl)
  | .nx => finR .non ((p.2.ls.take ls.length).map outSl)
  | _ => none
theorem runD_ro {n : Nat} {body : MS} (k : ∀ st f st', body st = some (f, st') → Kp st st') : RoKp (runD n body) := by
  intro ls r as' e
  obtain ⟨⟨f, s⟩, e1, e⟩ := bind_some' e
  have kk := k _ _ _ e1
  have a1 : as' = (s.ls.take ls.length).map outSl ∧ r.isRv = false := by
    cases f with
    | nx => cases e; exact ⟨rfl, rfl⟩
    | rt r' =>
      have e : finR r' _ = _ := e
      unfold finR at e
      split at e
      · cases e
      · rename_i hr
        cases e; exact ⟨rfl, by simpa using hr⟩
    | bk => cases e
    | ct => cases e
  obtain ⟨rfl, hrr⟩ := a1
  refine ⟨fun j l hj hr hv => ?_, hrr, fun j l h => ?_⟩
  · have hlt : j < ls.length := (List.getElem?_eq_some_iff.mp hj).1
    have ent : (ls.map entSl ++ List.replicate (n - ls.length) none)[j]? = some (some ⟨l, l.isOwn, false⟩) := by
      rw [List.getElem?_append_left (by simpa using hlt), List.getElem?_map, hj]
      rfl
    have fin := kk.ro j ⟨l, l.isOwn, false⟩ ent hr
    have ho : l.isOwn = true := by cases l <;> first | rfl | cases hr
    rw [List.getElem?_map, List.getElem?_take_of_lt hlt, fin, ho]
    show some (if l.isRv then none else some l) = _
    rw [hv]
    rfl
  · rw [List.getElem?_map] at h
    cases q : (s.ls.take ls.length)[j]? with
    | none => rw [q] at h; cases h
    | some x =>
      rw [q] at h
      have h : outSl x = some l := Option.some.inj h
      cases x with
      | none => cases h
      | some x =>
        obtain ⟨lv, p, c⟩ := x
        cases p with
        | false => cases h
        | true =>
          have h : (if lv.isRv then none else some lv) = some l := h
          split at h
          · cases h
          · rename_i hr
            cases h
            simpa using hr
section
variable {P : Program} {w : World} {K : PySem.W.Frag} {mg : Str → Option Value} {base : Heap}
/-- a def of the text; its code object -/
structure FunC (K : PySem.W.Frag) (x qual : Str) (st : Stmt) (f : Addr) (fd : FuncData) (cdv : Value) : Prop where
  ex : ∃ (oc : Value) (od : Option Addr) (kV doc pm : Value) (an : Option Addr) (ct : Value) (osl : Array (Option Value)),
    fd = PySem.W.fnOf x qual (defArgs st) (defBody st) (defScope st) .none kV doc pm an cdv ct ∧ K.lookup f = some ⟨oc, od, .func fd, osl⟩ ∧ PySem.W.codeIn K cdv qual = true
  kp : PySem.W.keepIn K (.ref f) = true
theorem FunC.ok {x qual : Str} {st : Stmt} {f : Addr} {fd : FuncData} {cdv : Value} {N ps : List Str} {k : Nat} {sp : Sp} (F : FunC K x qual st f fd cdv) (S : FnScope N ps (defScope st)) (len : ∀ vs H Q E, sp vs H Q E → vs.length = ps.length)
    (hbody : ∀ (A : Around) (outer : List Env) (s : Shared) (H : Hp) (vs : List V) (Q : VK) (E : XK), Room k (A.deeper (envOfC qual (defScope st) s.heap.objs.size f cdv)) → sp vs H Q E →
      ∃ t, PSs (cxOf CX0 P w K mg base N qual (defScope st) f cdv A outer s H E).nox (defBody st) t ∧ t { nx := fun _ H' => Q .non H', rt := Q } (start N vs) H) : FnOk P w K mg base CX0 (k + 1) f fd ps sp := by
  obtain ⟨oc, od, kV, doc, pm, an, ct, osl, rfl, lk, hcd⟩ := F.ex
  refine fn_of lk hcd S len fun A outer s H vs Q E hr hsp => ?_
  obtain ⟨t, h, q⟩ := hbody A outer s H vs Q E hr hsp
  exact ⟨t, h.nox, q⟩
theorem FunC.binds {x qual : Str} {st : Stmt} {f : Addr} {fd : FuncData} {cdv : Value} {ps : List Str} (F : FunC K x qual st f fd cdv)
    (h : ∀ (kV doc pm : Value) (an : Option Addr) (cdv ct : Value) (us : List Value), us.length = ps.length → bindArgs (PySem.W.fnOf x qual (defArgs st) (defBody st) (defScope st) .none kV doc pm an cdv ct) ⟨us, []⟩ = pure (ps.zip us)) : Binds K fd ps [] := by
  obtain ⟨oc, od, kV, doc, pm, an, ct, osl, rfl, lk, hcd⟩ := F.ex
  exact .all (h kV doc pm an cdv ct)
theorem funC_mk {x qual : Str} {st : Stmt} {f : Addr} {oc : Value} {od an : Option Addr} {osl : Array (Option Value)} {kV doc pm cdv ct : Value} (l : K.lookup f = some ⟨oc, od, .func (PySem.W.fnOf x qual (defArgs st) (defBody st) (defScope st) .none kV doc pm an cdv ct), osl⟩)
    (c : PySem.W.codeIn K cdv qual = true) (k : PySem.W.keepIn K (.ref f) = true) : FunC K x qual st f (PySem.W.fnOf x qual (defArgs st) (defBody st) (defScope st) .none kV doc pm an cdv ct) cdv := ⟨⟨oc, od, kV, doc, pm, an, ct, osl, rfl, l, c⟩, k⟩
theorem fd_of {x qual : Str} {st : Stmt} {f : Addr} {fd : FuncData} {N ps : List Str} {g : GV} {k : Nat} {cdv : Value} (F : FunC K x qual st f fd cdv) (Sc : FnScope N ps (defScope st)) (body : MS)
    (h : ∀ (cd : List (Addr × Addr)) (A : Around) (outer : List Env) (s : Shared) (H : Hp) (vs : List V) (E : XK), Room k (A.deeper (envOfC qual (defScope st) s.heap.objs.size f cdv)) → DSs (cxOf CX0 P w K mg base N qual (defScope st) f cdv A outer s H E).nox ⟨vs, cd, g⟩ (defBody st) body) :
    FD P w K mg base g (k + 1) f fd ps (runD N.length body) where
  ok := by
    refine F.ok Sc (fun vs H Q E hs => hs.1) (fun A outer s H vs Q E hr hs => ?_)
    obtain ⟨hl, cd, own, ρ, Φ, Ψ, ls, r, as', e, z, q⟩ := hs
    refine ⟨_, pss_SSs, ?_⟩
    obtain ⟨⟨fl, s1⟩, e1, e⟩ := bind_some' e
    obtain ⟨k1, h1⟩ := h cd A outer s H vs E hr _ _ _ e1
    have hlen : ls.length = vs.length := by
      have := z.len
      simpa using this
    -- the slots at the entry
    have z0 : Stt K ⟨vs, cd, g⟩ own ρ Φ Ψ [] ⟨ls.map entSl ++ List.replicate (N.length - ls.length) none⟩ (start N vs) H :=
      { z with
        len := by
          show (ls.map entSl ++ List.replicate (N.length - ls.length) none).length = (vs.map some ++ List.replicate (N.length - vs.length) none).length
          simp [hlen]
        slots := fun i y hy => by
          have hy : (ls.map entSl ++ List.replicate (N.length - ls.length) none)[i]? = some (some y) := hy
          by_cases hi : i < ls.length
          · rw [List.getElem?_append_left (by simpa using hi)] at hy
            obtain ⟨v, g1, g2⟩ := z.slots i y hy
            refine ⟨v, ?_, g2⟩
            show (vs.map some ++ List.replicate (N.length - vs.length) none)[i]? = _
            rw [List.getElem?_append_left (by simpa [← hlen] using hi)]
            exact g1
          · rw [List.getElem?_append_right (by simpa using hi)] at hy
            rw [List.getElem?_replicate] at hy
            split at hy <;> cases hy
        temps := trivial }
    refine h1 own ρ Φ Ψ [] (start N vs) H z0 (fun w i hw => by cases hw) _ ?_
    -- what is handed back
    have ret : ∀ {own' ρ' Φ' σ' H' v r}, Stt K ⟨vs, cd, g⟩ own' ρ' Φ' Ψ [(v, .lv r)] s1 σ' H' → Stt K ⟨vs, cd, g⟩ own' ρ' Φ' Ψ [(v, .lv r)] ⟨((s1.ls.take ls.length).map outSl).map retSl⟩ (vs.map some) H' := fun {own' ρ' Φ' σ' H' v r} z1 =>
      { z1 with
        len := by
          have h2 := k1.len
          simp only [List.length_append, List.length_map, List.length_replicate] at h2
          show (((s1.ls.take ls.length).map outSl).map retSl).length = (vs.map some).length
          simp only [List.length_map, List.length_take]
          omega
        slots := fun i y hy => by
          have hy : (((s1.ls.take ls.length).map outSl).map retSl)[i]? = some (some y) := hy
          rw [List.getElem?_map, List.getElem?_map] at hy
          cases q1 : (s1.ls.take ls.length)[i]? with
          | none => rw [q1] at hy; cases hy
          | some w =>
            rw [q1] at hy
            have hlt : i < ls.length := by
              have := (List.getElem?_eq_some_iff.mp q1).1
              simp at this
              omega
            rw [List.getElem?_take_of_lt hlt] at q1
            cases w with
            | none => cases hy
            | some w =>
              obtain ⟨lv, p0, c0⟩ := w
              cases p0 with
              | false => cases hy
              | true =>
                have hy : some (retSl (if lv.isRv then none else some lv)) = some (some y) := hy
                split at hy
                · cases hy
                · cases hy
                  obtain ⟨v, g1, g2, g3⟩ := z1.slots i _ q1
                  have g4 := g3 rfl
                  exact ⟨v, by rw [List.getElem?_map, g4]; rfl, g2, fun _ => g4⟩
        temps := by
          obtain ⟨h1, _⟩ := z1.temps
          exact ⟨h1, trivial⟩ }
    cases fl with
    | nx => 
      cases e
      exact fun own' ρ' Φ' σ' H' m z1 => q own' ρ' Φ' H' .non m (ret (z1.push .non))
    | rt r' =>
      have e : finR r' _ = _ := e
      unfold finR at e
      split at e
      · cases e
      · cases e
        exact fun own' ρ' Φ' σ' H' v m z1 => q own' ρ' Φ' H' v m (ret z1)
    | bk => cases e
    | ct => cases e
  ro := fun A s hr => by
    refine runD_ro fun st0 f' st' e => ?_
    have hr' : Room k (A.deeper (envOfC qual (defScope st) s.heap.objs.size f cdv)) := hr.deeper _
    exact (h [] A [] s (fun _ => none) [] (fun _ _ _ => False) hr' st0 f' st' e).1
end
/-! ### slots that nobody reads any more -/
def clrL : List Nat → List (Option Sl) → List (Option Sl)
  | [], ls => ls
  | k :: ks, ls => clrL ks (match ls[k]? with
    | some (some x) => if x.lv.isRo then ls else ls.set k none
    | _ => ls)
/-- behind m the slots ks are forgotten -/
def mClr (ks : List Nat) (m : MS) : MS := fun st => (m st).bind fun p => some (p.1, ⟨clrL ks p.2.ls⟩)
theorem clr_kp : ∀ (ks : List Nat) {st0 st : S}, Kp st0 st → Kp st0 ⟨clrL ks st.ls⟩
  | [], _, _, k => k
  | c :: ks, st0, st, k => by
    unfold clrL
    split
    · rename_i x hx
      split
      · exact clr_kp ks k
      · rename_i hr
        refine clr_kp ks (st := ⟨st.ls.set c none⟩) (k.trans (set_kp hx (by simpa using hr)))
    · exact clr_kp ks k
theorem Stt.clr1 {K : PySem.W.Frag} {pv : PV} {own : Addr → Option Tag} {ρ : Rho} {Φ Ψ H : Hp} {ts : List (V × Opd)} {st : S} {σ : L2.St} {k : Nat} (z : Stt K pv own ρ Φ Ψ ts st σ H) (h : ∀ w, (w, Opd.slot k) ∉ ts) : Stt K pv own ρ Φ Ψ ts ⟨st.ls.set k none⟩ σ H :=
  { z with
    len := by show (st.ls.set k none).length = _; rw [List.length_set]; exact z.len
    slots := fun i x e => by
      have e : (st.ls.set k none)[i]? = some (some x) := e
      rcases set_get e with ⟨_, e⟩ | ⟨_, e⟩
      · cases e
      · exact z.slots i x e
    temps := by
      have go : ∀ {us : List (V × Opd)}, (∀ w, (w, Opd.slot k) ∉ us) → TsOk K own ρ Φ H st.ls σ us → TsOk K own ρ Φ H (st.ls.set k none) σ us := by
        intro us
        induction us with
        | nil => exact fun _ _ => trivial
        | cons q us ih =>
          obtain ⟨w, o⟩ := q
          intro hs
          cases o with
          | lv l => exact fun h => ⟨h.1, ih (fun w hw => hs w (List.mem_cons_of_mem _ hw)) h.2⟩
          | slot j =>
            intro h
            refine ⟨⟨h.1.1, ?_⟩, ih (fun w hw => hs w (List.mem_cons_of_mem _ hw)) h.2⟩
            obtain ⟨y, e1, e2⟩ := h.1.2
            have hj : k ≠ j := fun q => by subst q; exact hs w List.mem_cons_self
            exact ⟨y, by rw [List.getElem?_set_ne hj]; exact e1, e2⟩
      exact go h z.temps }
theorem Stt.clr {K : PySem.W.Frag} {pv : PV} {own : Addr → Option Tag} {ρ : Rho} {Φ Ψ H : Hp} {ts : List (V × Opd)} {σ : L2.St} : ∀ (ks : List Nat) {st : S}, Stt K pv own ρ Φ Ψ ts st σ H → Pins ts st → Stt K pv own ρ Φ Ψ ts ⟨clrL ks st.ls⟩ σ H
  | [], _, z, _ => z
  | k :: ks, st, z, hp => by
    unfold clrL
    split
    · rename_i x hx
      split
      · exact Stt.clr ks z hp
      · rename_i hr
        have hk : ∀ w, (w, Opd.slot k) ∉ ts := fun w hw => by
          obtain ⟨y, e1, e2⟩ := hp w k hw
          rw [hx] at e1
          cases e1
          exact hr e2
        refine Stt.clr ks (st := ⟨st.ls.set k none⟩) (z.clr1 hk) (hp.kp (set_kp hx (by simpa using hr)))
    · exact Stt.clr ks z hp
section
variable {X : Cx} {pv : PV}
theorem clr_aft {ρ : Rho} {Φ Ψ : Hp} {ts : List (V × Opd)} {st' : S} {D : Ends} {f : Fl} {ks : List Nat} (hp : Pins ts st') (h : Aft X.K pv ρ Φ Ψ ts ⟨clrL ks st'.ls⟩ D f) : Aft X.K pv ρ Φ Ψ ts st' D f := by
  cases f with
  | nx => exact fun own' ρ' Φ' σ' H' m z => h own' ρ' Φ' σ' H' m (z.clr ks hp)
  | bk => exact fun own' ρ' Φ' σ' H' m z => h own' ρ' Φ' σ' H' m (z.clr ks hp)
  | ct => exact fun own' ρ' Φ' σ' H' m z => h own' ρ' Φ' σ' H' m (z.clr ks hp)
  | rt l => exact fun own' ρ' Φ' σ' H' v m z => h own' ρ' Φ' σ' H' v m (z.clr ks fun w i hw => by
      rcases List.mem_cons.mp hw with e | e
      · cases e
      · exact hp w i e)
theorem dss_clr {s : List Stmt} {m : MS} (ks : List Nat) (h : DSs X pv s m) : DSs X pv s (mClr ks m) := by
  intro st f st' e
  obtain ⟨⟨f1, s1⟩, e1, e⟩ := bind_some' e
  cases e
  obtain ⟨kp, h1⟩ := h _ _ _ e1
  exact ⟨clr_kp ks kp, fun own ρ Φ Ψ ts σ H z hp D q => h1 own ρ Φ Ψ ts σ H z hp D (clr_aft (hp.kp kp) q)⟩
theorem ds_clr {s : Stmt} {m : MS} (ks : List Nat) (h : DS X pv s m) : DS X pv s (mClr ks m) := by
  intro st f st' e
  obtain ⟨⟨f1, s1⟩, e1, e⟩ := bind_some' e
  cases e
  obtain ⟨kp, h1⟩ := h _ _ _ e1
  exact ⟨clr_kp ks kp, fun own ρ Φ Ψ ts σ H z hp D q => h1 own ρ Φ Ψ ts σ H z hp D (clr_aft (hp.kp kp) q)⟩
end
end Dn
set_option Elab.async false
set_option linter.all false
set_option maxRecDepth 100000
set_option maxHeartbeats 4000000
/-! Den, part 8: odds and ends that the printer asks for. -/
namespace Dn
open PySem PySem.Spec PyProof.Rows L2

/-- a construct that is never reached -/
def mNone : ME := fun _ => none
def mTNone : MT := fun _ => none
def mSNone : MS := fun _ => none
theorem hu65 {k : Nat} {A : Around} (hr : Room k A) : A.units + 65 < cLine := by
  have h := hr.un
  unfold cLine at *
  omega
theorem bb_len : bootBuiltins "len" = some (.builtin "len") := by decide +kernel
theorem bb_sum : bootBuiltins "sum" = some (.builtin "sum") := by decide +kernel
theorem bb_max : bootBuiltins "max" = some (.builtin "max") := by decide +kernel
theorem bb_min : bootBuiltins "min" = some (.builtin "min") := by decide +kernel
theorem bb_all : bootBuiltins "all" = some (.builtin "all") := by decide +kernel
theorem bb_any : bootBuiltins "any" = some (.builtin "any") := by decide +kernel
theorem bb_sorted : bootBuiltins "sorted" = some (.builtin "sorted") := by decide +kernel
theorem bb_isinstance : bootBuiltins "isinstance" = some (.builtin "isinstance") := by decide +kernel
theorem bb_int : bootBuiltins "int" = some (.type "int") := by decide +kernel
theorem bb_bool : bootBuiltins "bool" = some (.type "bool") := by decide +kernel
theorem bb_str : bootBuiltins "str" = some (.type "str") := by decide +kernel
theorem bb_list : bootBuiltins "list" = some (.type "list") := by decide +kernel
theorem bb_tuple : bootBuiltins "tuple" = some (.type "tuple") := by decide +kernel
section
variable {X : Cx} {pv : PV} {e a b : Expr} {s : Stmt} {ma mb : ME} {pos : Pos}
theorem d_none : DE X pv e mNone := fun _ _ _ h => nomatch h
theorem dt_none : DT X pv e mTNone := fun _ _ _ h => nomatch h
theorem ds_none : DS X pv s mSNone := fun _ _ _ h => nomatch h

/-! ### slices -/
abbrev MP := S → Option (Option Int × S)
def mNoP : MP := fun st => some (none, st)
def toI : Opd → Option Int
  | .lv (.sh (.int i)) => some i
  | _ => none
theorem toI_some {o : Opd} {i : Int} (h : toI o = some i) : o = .lv (.sh (.int i)) := by
  unfold toI at h
  split at h
  · cases h; rfl
  · cases h
def mPart (m : ME) : MP := fun st => (m st).bind fun p => (toI p.1).bind fun i => some (some i, p.2)
def SPo (X : Cx) (e : Option Expr) : TO := fun σ H Q => ∀ (pins : List (Addr × Obj)) (s : Shared), Inv X pins σ H s →
  wpAny (model X.prog X.w) X.A (evalPart e X.env) (fun u s' => ∃ o H', Inv X pins σ H' s' ∧ IsPart u o ∧ Q o H') X.xe s
theorem po_SPo {e : Option Expr} : PO X e (SPo X e) := ⟨fun pins s _ _ _ I h => h pins s I⟩
theorem spo_of {e : Option Expr} {t : TO} (p : PO X e t) {σ : L2.St} {H : Hp} {Q : Option Int → Hp → Prop} (h : t σ H Q) : SPo X e σ H Q := fun pins s I => p.run pins s σ H Q I h
def DP (X : Cx) (pv : PV) (e : Option Expr) (m : MP) : Prop := ∀ st o st', m st = some (o, st') → Kp st st' ∧
  ∀ own ρ Φ Ψ ts σ H, Stt X.K pv own ρ Φ Ψ ts st σ H → ∀ Q : Option Int → Hp → Prop, (∀ own' ρ' Φ' H', Mon ρ Φ ρ' Φ' → Stt X.K pv own' ρ' Φ' Ψ ts st' σ H' → Q o H') → SPo X e σ H Q
theorem d_nop : DP X pv none mNoP := by
  intro st o st' e
  cases e
  exact ⟨Kp.refl _, fun own ρ Φ Ψ ts σ H z Q q => spo_of po_none (q own ρ Φ H (Mon.refl _ _) z)⟩
theorem d_part (ha : DE X pv a ma) : DP X pv (some a) (mPart ma) := by
  intro st o st' e
  obtain ⟨⟨o1, s1⟩, e1, e⟩ := bind_some' e
  obtain ⟨i, e2, e⟩ := bind_some' e
  cases e
  have eo := toI_some e2
  simp only at eo
  subst eo
  obtain ⟨k1, h1⟩ := ha _ _ _ e1
  exact ⟨k1, fun own ρ Φ Ψ ts σ H z Q q => spo_of (po_some pe_SE) (h1 own ρ Φ Ψ ts σ H z _ fun own' ρ' Φ' H' v m z' => ⟨i, lv_int (z'.top rfl), q own' ρ' Φ' H' m z'.drop⟩)⟩
def cutD (ds : List PyData) (lo hi : Option Int) : List PyData := (ds.drop (HT.sIx ds.length 0 lo)).take (HT.sIx ds.length ds.length hi - HT.sIx ds.length 0 lo)
theorem RpA.cut {K : PySem.W.Frag} {ρ : Rho} {Φ : Hp} {vs : List V} {ds : List PyData} (r : RpA K ρ Φ vs ds) (lo hi : Option Int) : RpA K ρ Φ (cutV vs lo hi) (cutD ds lo hi) := by
  unfold cutV cutD
  rw [r.length]
  exact (r.drop _).take _
def gSl (x : LV) (lo hi : Option Int) : Option LV := match x.rd? with
  | some ds => some (.lst (cutD ds lo hi))
  | none => match x.tup? with
    | some ds => some (.sh (.tuple (cutD ds lo hi)))
    | none => match x with
      | .sh (.str z) => if z.length ≤ 16777216 then some (.sh (.str (cutS z lo hi))) else none
      | _ => none
def mSl (ma : ME) (ml mh : MP) : ME := fun st => (ma st).bind fun p => (ml p.2).bind fun l => (mh l.2).bind fun h => (resO h.2 p.1).bind fun x => (gSl x l.1 h.1).bind fun r => some (.lv r, h.2)
theorem d_sl {lo hi : Option Expr} {ml mh : MP} {p2 : Pos} (ha : DE X pv a ma) (hl : DP X pv lo ml) (hh : DP X pv hi mh) : DE X pv (.Subscript a (.Slice lo hi none p2) pos) (mSl ma ml mh) := by
  intro st o st' e
  obtain ⟨⟨oa, s1⟩, e1, e⟩ := bind_some' e
  obtain ⟨⟨l, s2⟩, e2, e⟩ := bind_some' e
  obtain ⟨⟨h, s3⟩, e3, e⟩ := bind_some' e
  obtain ⟨x, e4, e⟩ := bind_some' e
  obtain ⟨r, e5, e⟩ := bind_some' e
  cases e
  obtain ⟨k1, h1⟩ := ha _ _ _ e1
  obtain ⟨k2, h2⟩ := hl _ _ _ e2
  obtain ⟨k3, h3⟩ := hh _ _ _ e3
  have both : ∀ own ρ Φ Ψ ts σ H, Stt X.K pv own ρ Φ Ψ ts st σ H → ∀ R : V → Option Int → Option Int → Hp → Prop, (∀ own2 ρ2 Φ2 H2 v, Mon ρ Φ ρ2 Φ2 → Stt X.K pv own2 ρ2 Φ2 Ψ ts s3 σ H2 → LvR X.K own2 ρ2 Φ2 H2 v x → R v l h H2) →
      SE X a σ H fun x H1 => SPo X lo σ H1 fun l H2 => SPo X hi σ H2 fun h H3 => R x l h H3 := fun own ρ Φ Ψ ts σ H z R q =>
    h1 own ρ Φ Ψ ts σ H z _ fun own1 ρ1 Φ1 H1 v m1 z1 => h2 own1 ρ1 Φ1 Ψ _ σ H1 z1 _ fun own2 ρ2 Φ2 H2 m2 z2 => h3 own2 ρ2 Φ2 Ψ _ σ H2 z2 _ fun own3 ρ3 Φ3 H3 m3 z3 =>
      q own3 ρ3 Φ3 H3 v ((m1.trans m2).trans m3) z3.drop (z3.top e4)
  refine ⟨(k1.trans k2).trans k3, fun own ρ Φ Ψ ts σ H z Q q => ?_⟩
  have push : ∀ {own2 : Addr → Option Tag} {ρ2 : Rho} {Φ2 H2 H3 : Hp} {w : V} {l : LV}, l = r → Mon ρ Φ ρ2 Φ2 → Stt X.K pv own2 ρ2 Φ2 Ψ ts s3 σ H2 → Res X.K ρ2 Φ2 H2 l w H3 → Q w H3 := fun el m z2 rs => by
    subst el
    obtain ⟨own4, Φ4, m4, z4⟩ := z2.res rs
    exact q own4 _ Φ4 _ _ (m.trans m4) z4
  unfold gSl at e5
  split at e5
  · rename_i ds hrd
    refine se_of (pe_slice sl_list pe_SE po_SPo po_SPo) (both own ρ Φ Ψ ts σ H z _ fun own2 ρ2 Φ2 H2 v m2 z2 hv => ?_)
    obtain ⟨a', vs, rfl, g1, g2⟩ := hv.rd hrd z2.phi
    exact ⟨a', vs, rfl, g1, fun p np => push (Option.some.inj e5) m2 z2 (.new np (.lst (g2.cut _ _)))⟩
  · split at e5
    · rename_i ds hrd
      refine se_of (pe_slice sl_tupA pe_SE po_SPo po_SPo) (both own ρ Φ Ψ ts σ H z _ fun own2 ρ2 Φ2 H2 v m2 z2 hv => ?_)
      have ex := tup_eq hrd
      obtain ⟨a', vs, rfl, g1, g2⟩ := hv.tup hrd z2.phi
      refine ⟨a', vs, rfl, g1, fun hw => push (Option.some.inj e5) m2 z2 ?_, fun _ p np => push (Option.some.inj e5) m2 z2 (.tup np (g2.cut _ _))⟩
      have ec : cutD ds l h = ds := by
        unfold cutD
        rw [g2.length] at hw
        rw [hw.1, hw.2]
        simp
      rw [ec]
      subst ex
      exact .same (LvR.sh hv)
    · split at e5
      · rename_i zz _ _
        split at e5
        · rename_i hz
          refine se_of (pe_slice sl_str pe_SE po_SPo po_SPo) (both own ρ Φ Ψ ts σ H z _ fun own2 ρ2 Φ2 H2 v m2 z2 hv => ?_)
          exact ⟨zz, lv_str hv, by rw [sizeLine_eq]; exact hz, push (Option.some.inj e5) m2 z2 (.same (.str _))⟩
        · cases e5
      · cases e5
end

/-! ### calls of built-ins with two arguments -/
def Ca2 (X : Cx) (f : Value) (g : LV → LV → Option LV) : Prop :=
  ∀ (own : Addr → Option Tag) (ρ : Rho) (Φ H : Hp) (x y : V) (l1 l2 r : LV), g l1 l2 = some r → LvR X.K own ρ Φ H x l1 → LvR X.K own ρ Φ H y l2 → Same Φ H → ∀ Q : VK, (∀ v H', Res X.K ρ Φ H r v H' → Q v H') → SCall X f [x, y] H Q
section
variable {X : Cx} {pv : PV} {a b : Expr} {ma mb : ME} {pos : Pos}
theorem d_call2 {id : String} {x : Str} {p : Pos} {g : LV → LV → Option LV} (hg : Ca2 X (.builtin id) g) (ha : DE X pv a ma) (hb : DE X pv b mb) (hm : X.mg x = none) (hv : bootBuiltins x = some (.builtin id)) (gl : Gl X x := by rfl) (hn : x ≠ "__name__" := by decide) (hdb : (x == ("__debug__" : Str)) = false := by decide)
    (hs : starEach [a, b] X.env = (false, eval a X.env) :: starEach [b] X.env := by rfl) (hs2 : starEach [b] X.env = (false, eval b X.env) :: starEach [] X.env := by rfl) (hpl : (backTo pos (starEach [b] X.env)).any (·.1) = false := by rfl) : DE X pv (.Call (.Name x p) [a, b] [] pos) (mBin g ma mb) := by
  intro st o st' e
  obtain ⟨⟨oa, s1⟩, e1, e⟩ := bind_some' e
  obtain ⟨⟨ob, s2⟩, e2, e⟩ := bind_some' e
  obtain ⟨lx, e3, e⟩ := bind_some' e
  obtain ⟨ly, e4, e⟩ := bind_some' e
  obtain ⟨r, e5, e⟩ := bind_some' e
  cases e
  obtain ⟨k1, h1⟩ := ha _ _ _ e1
  obtain ⟨k2, h2⟩ := hb _ _ _ e2
  refine ⟨k1.trans k2, fun own ρ Φ Ψ ts σ H z Q q => se_of (pe_callB callR_SCall gl hm hv (pa_cons pe_SE (pa_cons pe_SE pa_nil hs2) hs) hn hdb hs hpl) (h1 own ρ Φ Ψ ts σ H z _ fun own1 ρ1 Φ1 H1 v m1 z1 => h2 own1 ρ1 Φ1 Ψ _ σ H1 z1 _ fun own2 ρ2 Φ2 H2 u m2 z2 => ?_)⟩
  refine hg own2 ρ2 Φ2 H2 v u lx ly r e5 (z2.drop.top e3) (z2.top e4) z2.phi Q fun w H3 rs => ?_
  obtain ⟨own3, Φ3, m3, z3⟩ := z2.drop.drop.res rs
  exact q own3 ρ2 Φ3 H3 w ((m1.trans m2).trans m3) z3
def gMin2 : LV → LV → Option LV
  | .sh (.int i), .sh (.int j) => some (.int (if j < i then j else i))
  | _, _ => none
theorem ca_min2 (hc : X.calm = true) : Ca2 X (.builtin "min") gMin2 := by
  intro own ρ Φ H x y l1 l2 r e hx hy p Q q
  unfold gMin2 at e
  split at e
  · cases e
    exact scall_of (call_min2 hc) ⟨_, _, by rw [lv_int hx, lv_int hy], q _ _ (.same (.int _))⟩
  · cases e
theorem d_min2 (hm : X.mg "min" = none) {p : Pos} (ha : DE X pv a ma) (hb : DE X pv b mb) (hc : X.calm = true := by rfl) (gl : Gl X "min" := by rfl)
    (hs : starEach [a, b] X.env = (false, eval a X.env) :: starEach [b] X.env := by rfl) (hs2 : starEach [b] X.env = (false, eval b X.env) :: starEach [] X.env := by rfl) (hpl : (backTo pos (starEach [b] X.env)).any (·.1) = false := by rfl) : DE X pv (.Call (.Name "min" p) [a, b] [] pos) (mBin gMin2 ma mb) :=
  d_call2 (ca_min2 hc) ha hb hm bb_min gl (by decide) (by decide) hs hs2 hpl

/-! ### isinstance(x, T), T a built-in type -/
def typN : LV → Option String
  | .sh .none => some "NoneType"
  | .sh (.bool _) => some "bool"
  | .sh (.int _) => some "int"
  | .sh (.str _) => some "str"
  | .sh (.list _) => some "list"
  | .sh (.tuple _) => some "tuple"
  | .lst _ => some "list"
  | .ro _ => some "list"
  | .rv _ => some "list"
  | .scr _ => some "list"
  | .dk _ => some "dict"
  | .dt _ => some "dict"
  | _ => none
theorem typN_ok {K : PySem.W.Frag} {own : Addr → Option Tag} {ρ : Rho} {Φ H : Hp} {v : V} {l : LV} {n : String} (h : LvR K own ρ Φ H v l) (p : Same Φ H) (e : typN l = some n) : TyX K H v (.type n) := by
  obtain ⟨t, h⟩ := h
  cases h with
  | @sh _ d r =>
    cases r <;> simp only [typN, Option.some.injEq, reduceCtorEq] at e <;> subst e
    · exact .base .non
    · exact .base (.bl _)
    · exact .base (.int _)
    · exact .base (.str _)
    · rename_i h1 _; exact .base (.lst (p _ _ h1))
    · rename_i h1 _; exact .base (.tup (p _ _ h1))
  | ow h1 h2 h3 =>
    cases h2 <;> simp only [typN, Option.some.injEq, reduceCtorEq] at e <;> subst e
    · exact .base (.lst h1)
    · exact .base (.lst h1)
    · exact .base (.frz h1)
    · exact .base (.lst h1)
    · exact .base (.lst h1)
    · exact .base (.dK h1)
    · exact .base (.dT h1)
  | rf h1 _ _ =>
    simp only [typN, Option.some.injEq] at e
    subst e
    exact .base (.lst h1)
  | rp h1 _ =>
    simp only [typN, Option.some.injEq] at e
    subst e
    exact .base (.lst (p _ _ h1))
  | kl h1 h2 =>
    simp only [typN, Option.some.injEq] at e
    subst e
    rcases h1 (fun _ => none) with (q | ⟨_, q⟩) | ⟨o, its, n, q1, q2, _⟩
    · cases q
    · cases q
    · exact .kList q1 q2
def gIsi (T : String) (l : LV) : Option LV := (typN l).bind fun n => (kitB n T).bind fun b => some (.bl b)
theorem d_isi {T : String} {p p2 : Pos} {x : Str} (hm : X.mg "isinstance" = none) (hm2 : X.mg x = none) (ha : DE X pv a ma) (hT : bootBuiltins x = some (.type T)) (gl : Gl X "isinstance" := by rfl) (gl2 : Gl X x := by rfl) (hn : x ≠ "__name__" := by decide) (hd : (x == ("__debug__" : Str)) = false := by decide)
    (hs : starEach [a, .Name x p2] X.env = (false, eval a X.env) :: starEach [.Name x p2] X.env := by rfl) (hs2 : starEach [.Name x p2] X.env = (false, eval (.Name x p2) X.env) :: starEach [] X.env := by rfl) (hpl : (backTo pos (starEach [.Name x p2] X.env)).any (·.1) = false := by rfl) : DE X pv (.Call (.Name "isinstance" p) [a, .Name x p2] [] pos) (mUn (gIsi T) ma) := by
  intro st o st' e
  obtain ⟨⟨oa, s1⟩, e1, e⟩ := bind_some' e
  obtain ⟨lx, e2, e⟩ := bind_some' e
  obtain ⟨r, e3, e⟩ := bind_some' e
  cases e
  obtain ⟨n, e4, e3⟩ := bind_some' e3
  obtain ⟨y, e5, e3⟩ := bind_some' e3
  cases e3
  obtain ⟨k1, h1⟩ := ha _ _ _ e1
  refine ⟨k1, fun own ρ Φ Ψ ts σ H z Q q => se_of (pe_callB call_isi gl hm bb_isinstance (pa_cons pe_SE (pa_cons (pe_bltn (v := .ty T) gl2 hm2 hT rfl hn hd) pa_nil hs2) hs) (by decide) (by decide) hs hpl) (h1 own ρ Φ Ψ ts σ H z _ fun own1 ρ1 Φ1 H1 v m1 z1 => ?_)⟩
  exact ⟨v, .ty T, .type n, .type T, y, rfl, .ty T, typN_ok (z1.top e2) z1.phi e4, kit_ty e5, q own1 ρ1 Φ1 H1 _ m1 (z1.drop.push (.bl y))⟩
theorem d_isi_int {p p2 : Pos} (hm : X.mg "isinstance" = none) (hm2 : X.mg "int" = none) (ha : DE X pv a ma) (gl : Gl X "isinstance" := by rfl) (gl2 : Gl X "int" := by rfl)
    (hs : starEach [a, .Name "int" p2] X.env = (false, eval a X.env) :: starEach [.Name "int" p2] X.env := by rfl) (hs2 : starEach [.Name "int" p2] X.env = (false, eval (.Name "int" p2) X.env) :: starEach [] X.env := by rfl) (hpl : (backTo pos (starEach [.Name "int" p2] X.env)).any (·.1) = false := by rfl) : DE X pv (.Call (.Name "isinstance" p) [a, .Name "int" p2] [] pos) (mUn (gIsi "int") ma) := d_isi hm hm2 ha bb_int gl gl2 (by decide) (by decide) hs hs2 hpl
theorem d_isi_bool {p p2 : Pos} (hm : X.mg "isinstance" = none) (hm2 : X.mg "bool" = none) (ha : DE X pv a ma) (gl : Gl X "isinstance" := by rfl) (gl2 : Gl X "bool" := by rfl)
    (hs : starEach [a, .Name "bool" p2] X.env = (false, eval a X.env) :: starEach [.Name "bool" p2] X.env := by rfl) (hs2 : starEach [.Name "bool" p2] X.env = (false, eval (.Name "bool" p2) X.env) :: starEach [] X.env := by rfl) (hpl : (backTo pos (starEach [.Name "bool" p2] X.env)).any (·.1) = false := by rfl) : DE X pv (.Call (.Name "isinstance" p) [a, .Name "bool" p2] [] pos) (mUn (gIsi "bool") ma) := d_isi hm hm2 ha bb_bool gl gl2 (by decide) (by decide) hs hs2 hpl

/-! ### list(range(n)) -/
theorem rgV_rp {K : PySem.W.Frag} {ρ : Rho} {Φ : Hp} (lo hi : Int) : RpA K ρ Φ (rgV lo hi) (rangeD lo (hi - lo).toNat) := by
  have h := RpA.ints (K := K) (ρ := ρ) (Φ := Φ) ((List.range (hi - lo).toNat).map fun i : Nat => lo + (i : Int))
  rw [List.map_map, List.map_map] at h
  exact h
def rgOk (i j : Int) : Bool := decide (0 ≤ i ∧ i ≤ 16777216 ∧ 0 ≤ j ∧ j ≤ 16777216)
def mLRg1 (ma : ME) : ME := fun st => (ma st).bind fun p => (intO p.2 p.1).bind fun j => if rgOk 0 j then some (.lv (.lst (rangeD 0 j.toNat)), p.2) else none
theorem d_lrg1 {p p2 pos2 : Pos} (hm : X.mg "list" = none) (hm2 : X.mg "range" = none) (ha : DE X pv a ma) (hc : X.calm = true := by rfl) (gl : Gl X "list" := by rfl) (gl2 : Gl X "range" := by rfl)
    (hs : starEach [a] X.env = (false, eval a X.env) :: starEach [] X.env := by rfl)
    (hs2 : starEach [.Call (.Name "range" p2) [a] [] pos2] X.env = (false, eval (.Call (.Name "range" p2) [a] [] pos2) X.env) :: starEach [] X.env := by rfl) :
    DE X pv (.Call (.Name "list" p) [.Call (.Name "range" p2) [a] [] pos2] [] pos) (mLRg1 ma) := by
  intro st o st' e
  obtain ⟨⟨o1, s1⟩, e1, e⟩ := bind_some' e
  obtain ⟨j, e2, e⟩ := bind_some' e
  split at e
  · rename_i hj
    cases e
    have hj := of_decide_eq_true hj
    obtain ⟨k1, h1⟩ := ha _ _ _ e1
    refine ⟨k1, fun own ρ Φ Ψ ts σ H z Q q => se_of (pe_listRg hc gl hm (prg_1 gl2 hm2 pe_SE hs) hs2) (h1 own ρ Φ Ψ ts σ H z _ fun own1 ρ1 Φ1 H1 v m1 z1 => ?_)⟩
    refine ⟨j, lv_int (z1.top (intO_some e2)), RgOk.of_le (by omega) (by omega) (by omega) (by omega), fun c hcn => ?_⟩
    have r : RpA X.K ρ1 Φ1 (rgV 0 j) (rangeD 0 j.toNat) := by
      have r := rgV_rp (K := X.K) (ρ := ρ1) (Φ := Φ1) 0 j
      rwa [Int.sub_zero] at r
    obtain ⟨own2, Φ2, m2, z2⟩ := z1.drop.res (.new hcn (.lst r))
    exact q own2 ρ1 Φ2 _ _ (m1.trans m2) z2
  · cases e
end
/-! ### k in d, a dict -/
def gInD (neg : Bool) : LV → LV → Option LV := fun a b => (dGet b a).bind fun r => some (.bl (neg != r.isSome))
theorem opd_inD {X : Cx} (hu : X.A.units + 65 < cLine) (neg : Bool) : OpD X (compareOp (if neg then .NotIn else .In)) (gInD neg) := by
  intro own ρ Φ H x y l1 l2 r e hx hy p Q q
  unfold gInD at e
  obtain ⟨o, e1, e⟩ := bind_some' e
  cases e
  obtain ⟨a, ov, rfl, g1, g2, g3⟩ := dGet_ok hy hx p e1
  have es : ov.isSome = o.isSome := by
    cases o with
    | none => rw [g3 rfl]; rfl
    | some d =>
      obtain ⟨v, h, _⟩ := g2 d rfl
      rw [h]
      rfl
  intro pins s σ v u I rx ry
  obtain rfl : u = Value.ref a := ry
  cases neg with
  | false => exact d_in (by omega) I g1 rx fun s3 I3 => ⟨.bl ov.isSome, H, I3, rfl, q _ _ (by rw [es]; simpa using Res.same (Rp.bl _))⟩
  | true => exact d_notIn (by omega) I g1 rx fun s3 I3 => ⟨.bl (!ov.isSome), H, I3, rfl, q _ _ (by rw [es]; simpa using Res.same (Rp.bl _))⟩
theorem opd_dIn {X : Cx} (hu : X.A.units + 65 < cLine) : OpD X (compareOp .In) (gInD false) := opd_inD hu false
theorem opd_dNotIn {X : Cx} (hu : X.A.units + 65 < cLine) : OpD X (compareOp .NotIn) (gInD true) := opd_inD hu true
end Dn
set_option Elab.async false
set_option linter.all false
set_option maxRecDepth 100000
set_option maxHeartbeats 4000000
/-! list(reversed(xs)), xs a list: at the library's level, then for Den. -/
namespace Dn
open PySem PySem.Spec PyProof.Rows L2

section
variable {prog : Program} {w : World} {A : Around} {E : Value → Shared → Prop} {s : Shared}
/-- a reverse iterator tells no length -/
theorem hint_rev {c l : Addr} {i : Int} {Q : Bool → Shared → Prop} (hit : s.heap.IsRevIter c l i) (h : Q false s) : wpAny (model prog w) A (Builtin.List.listLengthHint (.ref c)) Q E s := by
  have hT := Heap.IsRevIter.typeIs hit
  unfold Builtin.List.listLengthHint
  refine wpAny_bind (wpAny_specialOf hT RT.nolen_lri ?_)
  refine wpAny_bind (m := specialOf (Value.ref c) (Str.ofString "__length_hint__")) (wpAny_specialOf hT RT.hint_lri ?_)
  generalize hg : ("list_reverseiterator.__length_hint__" : String) = nm
  wp_delta
  rw [show splitId nm = some ("list_reverseiterator", "__length_hint__") by subst hg; decide +kernel]
  subst hg
  exact wpAny_bind (wpAny_isInstance (b := true) hT (by rw [isSubtype_type]; kernel_rfl) (wpAny_pure h))
/-- c is not the list that is filled -/
theorem ext_rev {R : Result → Shared → Prop} {c l L : Addr} {items : Array Value} {c0 : Nat} {res : Value} (hh : A.handled = none) (hit : s.heap.IsRevIter c l ((items.size : Int) - 1)) (hl : s.heap.IsList l items) (hLc : L ≠ c) (hLl : L ≠ l) (hlc : l ≠ c) (hn : items.size ≤ sizeLine)
    (hL : s.heap.get? L = some { cls := .type "list", data := .seq #[] c0 })
    (hR : ∀ h' tk acc c1, (∀ b o, b ≠ L → b ≠ c → s.heap.get? b = some o → h'.get? b = some o) → h'.get? L = some { cls := .type "list", dict := none, data := .seq acc c1, slots := #[] } → ItemsOf (fun i v => items[items.size - 1 - i]? = some v) acc items.size → R (.ok (.ret res)) { s with heap := h', toks := tk }) :
    wpAny (model prog w) A.in1 (Builtin.List.listExtendWith (.ref L) (.ref c) res)
      (fun fin t => match fin with | .done f => R (.ok f) t | .again d => d.quiet = true ∧ codeAny (model prog w) A d R t) (fun e t => R (.error e) t) s := by
  have W := (Walks.listRev (prog := prog) (w := w) (A := A.in1) hh c l hlc items).toS
  have hT := Heap.IsRevIter.typeIs hit
  have same : Builtin.List.listSameRef (.ref L) (.ref c) = false := by simp [Builtin.List.listSameRef, hLc]
  have out : L ∉ [c, l] := by simp only [List.mem_cons, List.not_mem_nil, or_false, not_or]; exact ⟨hLc, hLl⟩
  unfold Builtin.List.listExtendWith
  refine wpAny_bind (wpAny_typeOf hT ?_)
  rw [if_neg (by rw [same]; decide)]
  refine wpAny_bind (wpAny_pyIter_revIter hit ?_)
  refine wpAny_bind (wpAny_holding (hint_rev hit ?_))
  rw [if_neg (by decide)]
  have e0 : ((items.size : Nat) : Int) - 1 - ((0 : Nat) : Int) = (items.size : Int) - 1 := by omega
  refine wpAny_pure ⟨plainId_quiet F.plain_extend_loop _, codeAny_extend_loopS W hn _ out _ items.size 0 _ _ c0 rfl (Nat.zero_le _) ⟨Nat.zero_le _, by rw [e0]; exact hit, hl⟩ hL (ItemsOf.nil _) fun t acc c1 hm hL' ha => ?_⟩
  rw [Moved.eq_with hm]
  refine hR t.heap t.toks acc c1 (fun b o n1 n2 e => hm.heap b o (fun hb => ?_) e) hL' ha
  rcases List.mem_cons.mp hb with q | hb
  · exact n1 q
  · exact n2 (List.mem_singleton.mp hb)
theorem call_list_rev {Q : Value → Shared → Prop} {c l : Addr} {items : Array Value} (hh : A.handled = none) (hit : s.heap.IsRevIter c l ((items.size : Int) - 1)) (hl : s.heap.IsList l items) (hlc : l ≠ c) (hn : items.size ≤ sizeLine)
    (hQ : ∀ h' tk acc c1, (∀ b o, b ≠ c → s.heap.get? b = some o → h'.get? b = some o) → h'.get? s.heap.objs.size = some { cls := .type "list", dict := none, data := .seq acc c1, slots := #[] } → ItemsOf (fun i v => items[items.size - 1 - i]? = some v) acc items.size → Q (.ref s.heap.objs.size) { s with heap := h', toks := tk }) :
    wpAny (model prog w) A (call (.type "list") [.ref c]) Q E s := by
  obtain ⟨oc, hoc, _⟩ := id hit
  obtain ⟨ol, hol, _⟩ := id hl
  have n1 : s.heap.objs.size ≠ c := Nat.ne_of_gt (Heap.lt_size hoc)
  have n2 : s.heap.objs.size ≠ l := Nat.ne_of_gt (Heap.lt_size hol)
  refine callType_codes (Q₁ := fun v t => v = .ref s.heap.objs.size ∧ t = { s with heap := s.heap.push { cls := .type "list", data := .seq #[] } }) PySem.F.called_list (PySem.F.typeCall_list_1 _) PySem.F.entry_list_init (code_list_new _ ⟨rfl, rfl⟩) fun v t hv => ?_
  obtain ⟨rfl, rfl⟩ := hv
  have g0 : (s.heap.push { cls := .type "list", data := .seq #[] }).get? s.heap.objs.size = some { cls := .type "list", data := .seq #[] } := Heap.get?_push_size _ rfl
  refine ⟨⟨_, g0, rfl⟩, PySem.F.args_list_init_2 _ _, ?_⟩
  show wpAny _ _ (Builtin.List.listItems (.ref s.heap.objs.size) >>= fun old => Builtin.List.listUpdate (.ref s.heap.objs.size) (fun _ => #[]) >>= fun _ => letGo old.toList.reverse >>= fun _ => Builtin.List.listExtendWith (.ref s.heap.objs.size) (.ref c) .none) _ _ _
  refine wpAny_bind ?_
  unfold Builtin.List.listItems
  refine wpAny_bind (wpAny_seqItems g0 rfl (wpAny_pure ?_))
  show wpAny _ _ (updateSeq s.heap.objs.size (fun _ => #[]) >>= fun _ => letGo (#[] : Array Value).toList.reverse >>= fun _ => Builtin.List.listExtendWith (.ref s.heap.objs.size) (.ref c) .none) _ _ _
  refine wpAny_bind (wpAny_updateSeq g0 rfl ?_)
  have g1 := Heap.get?_update_self (Obj.mapSeq fun _ => (#[] : Array Value)) g0 rfl
  have kp : ∀ b o, b ≠ s.heap.objs.size → s.heap.get? b = some o → ((s.heap.push { cls := .type "list", data := .seq #[] }).update s.heap.objs.size (Obj.mapSeq fun _ => (#[] : Array Value))).get? b = some o :=
    fun b o hb e => (Heap.get?_update_other _ _ (Ne.symm hb)).trans (Heap.get?_push_of_some _ e)
  refine wpAny_bind (wpAny_letGo ?_)
  refine ext_rev (A := A.in1) hh (hit.at fun o e => kp _ o n1.symm e) ?_ n1 n2 hlc hn g1 fun h' tk acc c1 hk hL ha => ?_
  · obtain ⟨o, ho, hr⟩ := hl
    exact ⟨o, kp _ o n2.symm ho, hr⟩
  · exact ⟨rfl, hQ h' tk acc c1 (fun b o hb e => hk b o (Nat.ne_of_lt (Heap.lt_size e)) hb (kp b o (Nat.ne_of_lt (Heap.lt_size e)) e)) hL ha⟩
end

def tLstRev (K : PySem.W.Frag) (te : TE) : TE := fun σ H Q => te σ H fun v H1 => ∃ (a : Addr) (xs : List V), v = .ref a ∧ SqL K H1 a xs ∧ ∀ q, H1 q = none → Q (.ref q) (upd H1 q (.lst xs.reverse))
section
variable {X : Cx} {e : Expr} {te : TE} {p p2 pos pos2 : Pos}
theorem pe_lrev (hc : X.calm = true) (gl : Gl X "list") (hm : X.mg "list" = none) (gl2 : Gl X "reversed") (hm2 : X.mg "reversed" = none) (he : PE X e te) (hs : starEach [e] X.env = (false, eval e X.env) :: starEach [] X.env)
    (hs2 : starEach [.Call (.Name "reversed" p2) [e] [] pos2] X.env = (false, eval (.Call (.Name "reversed" p2) [e] [] pos2) X.env) :: starEach [] X.env) :
    PE X (.Call (.Name "list" p) [.Call (.Name "reversed" p2) [e] [] pos2] [] pos) (tLstRev X.K te) := by
  constructor
  intro pins s σ H Q I h
  refine Call_ (ld_blt I gl hm boot_list (PyProof.Rows.callWith_type1 (args_cons (Call_ (ld_blt I gl2 hm2 PyProof.Rows.boot_reversed (PyProof.Rows.callWith_type1 (args_cons (thn (he.run pins s σ H _ I h) fun u s1 ⟨v, H1, J, rv, q1⟩ => args_nil ?_) hs) hs rfl))) hs2) hs2 rfl))
  obtain ⟨a, xs, ev, hq, q⟩ := q1
  subst ev
  obtain rfl : u = Value.ref a := rv
  obtain ⟨its, vr, pl, sz⟩ := J.list hq
  have la := pl.isList
  refine call_reversed_list la (args_nil ?_)
  obtain ⟨oa, hoa, _⟩ := id la
  have ne : a ≠ s1.heap.objs.size := Nat.ne_of_lt (Heap.lt_size hoa)
  have size : its.toArray.size ≤ sizeLine := by rw [List.size_toArray, ← vr.length]; exact sz
  have J2 : Inv X pins σ H1 { s1 with heap := s1.heap.push (revObj a ((its.toArray.size : Int) - 1)) } := J.kept (t' := s1.toks) fun b o e => Heap.get?_push_of_some _ e
  have fp := J.fpOk (H' := H1) (b := s1.heap.objs.size) (Nat.le_refl _) (J.hok.fresh (Nat.le_refl _))
  refine call_list_rev (s := { s1 with heap := s1.heap.push (revObj a ((its.toArray.size : Int) - 1)) }) (J.ok.hd hc) ⟨_, Heap.get?_push_size _ rfl, rfl, rfl⟩ (la.push _) ne size fun h' tk acc c1 hk hL hi => ?_
  refine ⟨.ref (s1.heap.push (revObj a ((its.toArray.size : Int) - 1))).objs.size, _, J2.turnedNew (t' := tk) (ch := [s1.heap.objs.size]) (T := (s1.heap.push (revObj a ((its.toArray.size : Int) - 1))).objs.size) (ob := .lst xs.reverse) (fun b o hb e => hk b o (fun z => hb (by rw [z]; exact List.mem_singleton.mpr rfl)) e) (fun b hb => by rw [List.mem_singleton.mp hb]; exact fp) (Nat.le_refl _) ?_, rfl, q _ (J2.hok.fresh (Nat.le_refl _))⟩
  show ObjOk X.prog X.w _ _ _ (.lst xs.reverse)
  refine ⟨by rw [List.length_reverse]; exact sz, acc.toList, c1, RT.vals_rev vr hi, ?_⟩
  rw [Array.toArray_toList]
  exact hL
end
def gRev : LV → Option LV := fun l => l.rd?.bind fun ds => some (.lst ds.reverse)
section
variable {X : Cx} {pv : PV} {a : Expr} {ma : ME} {p p2 pos pos2 : Pos}
theorem d_lrev (hm : X.mg "list" = none) (hm2 : X.mg "reversed" = none) (ha : DE X pv a ma) (hc : X.calm = true := by rfl) (gl : Gl X "list" := by rfl) (gl2 : Gl X "reversed" := by rfl)
    (hs : starEach [a] X.env = (false, eval a X.env) :: starEach [] X.env := by rfl)
    (hs2 : starEach [.Call (.Name "reversed" p2) [a] [] pos2] X.env = (false, eval (.Call (.Name "reversed" p2) [a] [] pos2) X.env) :: starEach [] X.env := by rfl) :
    DE X pv (.Call (.Name "list" p) [.Call (.Name "reversed" p2) [a] [] pos2] [] pos) (mUn gRev ma) := by
  intro st o st' e
  obtain ⟨⟨o1, s1⟩, e1, e⟩ := bind_some' e
  obtain ⟨l, e2, e⟩ := bind_some' e
  obtain ⟨r, e3, e⟩ := bind_some' e
  cases e
  obtain ⟨ds, e4, e3⟩ := bind_some' e3
  cases e3
  obtain ⟨k1, h1⟩ := ha _ _ _ e1
  refine ⟨k1, fun own ρ Φ Ψ ts σ H z Q q => se_of (pe_lrev hc gl hm gl2 hm2 pe_SE hs hs2) (h1 own ρ Φ Ψ ts σ H z _ fun own1 ρ1 Φ1 H1 v m1 z1 => ?_)⟩
  obtain ⟨c, vs, rfl, g1, g2⟩ := (z1.top e2).rd e4 z1.phi
  refine ⟨c, vs, rfl, g1, fun d hd => ?_⟩
  obtain ⟨own2, Φ2, m2, z2⟩ := z1.drop.res (.new hd (.lst g2.reverse))
  exact q own2 ρ1 Φ2 _ _ (m1.trans m2) z2

/-! ### empty dicts -/
def mDk : ME := fun st => some (.lv (.dk []), st)
def mDt : ME := fun st => some (.lv (.dt []), st)
theorem d_dk : DE X pv (.Dict [] [] pos) mDk := by
  intro st o st' e
  cases e
  exact ⟨Kp.refl _, fun own ρ Φ Ψ ts σ H z Q q => se_of pe_dnewK fun c hc => q _ ρ Φ _ _ (Mon.refl _ _) (z.fresh hc (.dk .nil))⟩
theorem d_dt : DE X pv (.Dict [] [] pos) mDt := by
  intro st o st' e
  cases e
  exact ⟨Kp.refl _, fun own ρ Φ Ψ ts σ H z Q q => se_of pe_dnewT fun c hc => q _ ρ Φ _ _ (Mon.refl _ _) (z.fresh hc (.dt .nil))⟩
end
theorem FD.mono {P : Program} {w : World} {K : PySem.W.Frag} {mg : Str → Option Value} {base : Heap} {g : GV} {j k : Nat} {f : Addr} {fd : FuncData} {ps : List Str} {F : MD} (h : FD P w K mg base g j f fd ps F) (hk : j ≤ k) : FD P w K mg base g k f fd ps F :=
  ⟨h.ok.mono hk, fun A s r => h.ro A s (r.mono hk)⟩

/-! ### zip of two lists -/
section
variable {X : Cx} {pv : PV} {a b tg : Expr} {ma mb : ME} {pos p : Pos}
theorem d_zip {elts : List Expr} {kk : Nat} {tpos : Pos} (ha : DE X pv a ma) (hb : DE X pv b mb) (hm : X.mg "zip" = none) (hg : Gl X "zip" := by rfl)
    (hs : starEach [a, b] X.env = (false, eval a X.env) :: starEach [b] X.env := by rfl) (hs2 : starEach [b] X.env = (false, eval b X.env) :: starEach [] X.env := by rfl) (hpl : (backTo pos (starEach [b] X.env)).any (·.1) = false := by rfl) : DI X pv (.Tuple elts kk tpos) (.Call (.Name "zip" p) [a, b] [] pos) (mZip ma mb) := by
  intro st it st' e
  obtain ⟨⟨o, s1⟩, e1, e⟩ := bind_some' e
  obtain ⟨⟨it1, s2⟩, e2, e⟩ := bind_some' e
  obtain ⟨⟨o2, s3⟩, e3, e⟩ := bind_some' e
  obtain ⟨⟨it2, s4⟩, e4, e⟩ := bind_some' e
  split at e
  · rename_i hl
    cases e
    obtain ⟨k1, h1⟩ := ha _ _ _ e1
    obtain ⟨k2, l2, ro, o', eo, hp, hz⟩ := pinO_ok (K := X.K) (pv := pv) e2
    obtain ⟨k3, h3⟩ := hb _ _ _ e3
    obtain ⟨k4, l4, ro4, o4, eo4, hp4, hz4⟩ := pinO_ok (K := X.K) (pv := pv) e4
    simp only [eo, eo4, List.all_cons, List.all_nil, Bool.and_true, Bool.and_eq_true] at hl
    have nro : ∀ (j : Nat) (u t : S), Kp u t → (∀ x, t.ls[j]? = some (some x) → x.lv.isRo = false) → ∀ x, u.ls[j]? = some (some x) → x.lv.isRo = false := fun j u t k h x hx => by
      cases hr : x.lv.isRo with
      | false => rfl
      | true =>
        have q := h x (k.ro j x hx hr)
        rw [hr] at q
        exact q
    refine ⟨((k1.trans k2).trans k3).trans k4, fun i hi => ?_, fun i hi => ?_, fun own ρ Φ Ψ ts σ H z R q => ?_⟩
    · rcases List.mem_append.mp hi with hi | hi
      · exact ⟨(l4 i hi).1, nro i _ _ ((k1.trans k2).trans k3) (l4 i hi).2⟩
      · obtain ⟨⟨ds, pp, cc, g⟩, g2⟩ := l2 i hi
        exact ⟨⟨ds, pp, cc, (k3.trans k4).ro i _ g rfl⟩, nro i _ _ k1 g2⟩
    · rcases List.mem_append.mp hi with hi | hi
      · exact ro4 i hi
      · obtain ⟨x, g1, g2⟩ := ro i hi
        exact ⟨x, (k3.trans k4).ro i x g1 g2, g2⟩
    · refine si_of (pi_zip hg hm (pa_cons pe_SE (pa_cons pe_SE pa_nil hs2) hs) hs hpl) (h1 own ρ Φ Ψ ts σ H z _ fun own1 ρ1 Φ1 H1 v m1 z1 => ?_)
      obtain ⟨own2, Φ2, m2, z2⟩ := hz z1
      refine h3 own2 ρ1 Φ2 Ψ _ σ H1 z2 _ fun own3 ρ3 Φ3 H3 u m3 z3 => ?_
      obtain ⟨own4, Φ4, m4, z4⟩ := hz4 z3
      obtain ⟨a', vs, rfl, g1, g2⟩ := z4.pinnedL (List.mem_cons_of_mem _ List.mem_cons_self) (hp.kp (k3.trans k4)) hl.1
      obtain ⟨b', ws, rfl, f1, f2⟩ := z4.pinnedL List.mem_cons_self hp4 hl.2
      exact ⟨a', b', vs, ws, rfl, g1, f1, q own4 ρ3 Φ4 H3 [(.ref b', o4), (.ref a', o')] _ (((m1.trans m2).trans m3).trans m4) (by simp [eo, eo4]) z4 (itok_zip (hp.kp (k3.trans k4)) hl.1 hp4 hl.2)⟩
  · cases e
end
theorem blkOk_of (N : List Str) (S : Scope) {N' : List Str} {S' scope : Scope} {own : List (Str × Nat)} (h : blkC N S scope own = true) (hN : N' = N := by rfl) (hS : S' = S := by rfl) : BlkOk N' S' scope own := by
  subst hN hS
  exact blkOk_by h
theorem relab_cf {env : Env} {x : Str} : ∀ {names : List (Str × NameKind)}, (names.lookup x = some .cell ∨ names.lookup x = some .free) →
    ((names.map fun (n, k) => if (k == NameKind.free && env.scope.kind == .function && env.kindOf n == some .cell) then (n, NameKind.cell) else (n, k)).lookup x = some .cell ∨
      (names.map fun (n, k) => if (k == NameKind.free && env.scope.kind == .function && env.kindOf n == some .cell) then (n, NameKind.cell) else (n, k)).lookup x = some .free)
  | [], h => by simp at h
  | (n, k) :: names, h => by
    rw [List.map_cons]
    by_cases hn : x = n
    · subst hn
      simp only [List.lookup_cons, beq_self_eq_true] at h
      by_cases hc : (k == NameKind.free && env.scope.kind == .function && env.kindOf x == some .cell) = true
      · simp only [hc, if_true, List.lookup_cons, beq_self_eq_true]
        simp
      · simp only [hc, if_false, List.lookup_cons, beq_self_eq_true, Bool.false_eq_true]
        exact h
    · have hb : (x == n) = false := by simpa using hn
      simp only [List.lookup_cons, hb] at h
      by_cases hc : (k == NameKind.free && env.scope.kind == .function && env.kindOf n == some .cell) = true
      · simp only [hc, if_true, List.lookup_cons, hb]
        exact relab_cf h
      · simp only [hc, if_false, List.lookup_cons, hb, Bool.false_eq_true]
        exact relab_cf h
theorem blkC_relabel {N : List Str} {sc scope : Scope} {own : List (Str × Nat)} {env : Env} (h : blkC N sc scope own = true) : blkC N (relabel sc env) scope own = true := by
  unfold blkC at *
  simp only [Bool.and_eq_true, List.all_eq_true] at *
  refine ⟨h.1, fun y hy => ?_⟩
  have h2 := h.2 y hy
  obtain ⟨x, kd⟩ := y
  cases kd <;> first | exact h2 | skip
  have q : sc.names.lookup x = some .cell ∨ sc.names.lookup x = some .free := by
    revert h2
    show (match sc.names.lookup x with | some .cell => true | some .free => true | _ => false) = true → _
    split
    · exact fun _ => .inl (by assumption)
    · exact fun _ => .inr (by assumption)
    · exact fun z => by cases z
  show (match (relabel sc env).names.lookup x with | some .cell => true | some .free => true | _ => false) = true
  rcases relab_cf (env := env) q with q | q
  · rw [show (relabel sc env).names.lookup x = _ from q]
  · rw [show (relabel sc env).names.lookup x = _ from q]
theorem blkOk_in (N : List Str) {X : Cx} {s0 : Shared} {H0 : Hp} {sc scope : Scope} {cl : List (Str × Addr)} {C : Addr} {fp : List Addr} {own : List (Str × Nat)} (h : blkC N sc scope own = true) (hN : X.N = N := by rfl) :
    BlkOk (X.blk s0 H0 sc (compEnvC sc cl C X.env) fp).N (X.blk s0 H0 sc (compEnvC sc cl C X.env) fp).env.scope scope own := by
  subst hN
  exact blkOk_by (blkC_relabel h)
end Dn
set_option Elab.async false
set_option linter.all false
set_option maxRecDepth 100000
set_option maxHeartbeats 4000000
/-! Den, part 10: the ends. -/
namespace Dn
open PySem PySem.Spec PyProof.Rows L2
theorem FD.zero {P : Program} {w : World} {K : PySem.W.Frag} {mg : Str → Option Value} {base : Heap} {g : GV} {k : Nat} {f : Addr} {fd : FuncData} {ps : List Str} : FD P w K mg base g k f fd ps (fun _ => none) where
  ok := ⟨fun vs H Q E h => h.1, fun A outer s H args us vs Q E hr he hb hv hs => by
    obtain ⟨_, cd, own, ρ, Φ, Ψ, ls, r, as', e, _⟩ := hs
    cases e⟩
  ro := fun A s hr ls r as' e => by cases e
theorem tabO_nil {own : Addr → Option Tag} {H : Hp} {a : Addr} (h : H a = some (.tbl #[])) : TabO own H a := ⟨_, h, trivial, fun pos cv h => by cases h⟩
/-- the promise of a law, from what it computes, with the tables of code objects that the law's defs write -/
theorem law_spT {K : PySem.W.Frag} {F : MD} {H : Hp} {a : Addr} {ns : List Int} {cs : List (Addr × Addr)} {rk : PyData → List Int → Option Int} {cl : Str → Option Addr} {E : XK} (hF : ∃ as', F [.scr (ns.map PyData.int)] = some (.bl true, as')) (hT : ∀ p ∈ cs, H p.2 = some (.tbl #[])) (hS : SqL K H a (ns.map V.int)) :
    spD K ⟨cs.map (·.2), rk, cl⟩ 1 F [.ref a] H (fun v _ => v = .bl true) E := by
  obtain ⟨as', e⟩ := hF
  have fin : ∀ {own' ρ' Φ' Ψ H' v}, Stt K ⟨[.ref a], [], ⟨cs.map (·.2), rk, cl⟩⟩ own' ρ' Φ' Ψ [(v, .lv (.bl true))] ⟨as'.map retSl⟩ ([.ref a].map some) H' → v = .bl true := fun z => lv_bl (z.top (l := .sh (.bool true)) rfl)
  have tbl : ∀ b, b ∈ cs.map (·.2) → H b = some (.tbl #[]) := fun b hb => by
    obtain ⟨p, hp, e⟩ := List.mem_map.mp hb
    rw [← e]
    exact hT p hp
  -- the script is an object of its own at a
  have ownd : ∀ o : HO, H a = some o → OwnO K ⟨cl, fun _ => none⟩ (fun _ => none) o (.scr (ns.map PyData.int)) → spD K ⟨cs.map (·.2), rk, cl⟩ 1 F [.ref a] H (fun v _ => v = .bl true) E := fun o ho hoo => by
    have na : a ∉ cs.map (·.2) := fun hb => by
      rw [tbl a hb] at ho
      cases ho
      cases hoo
    refine ⟨rfl, [], fun b => if b = a then some (.slot 0) else if b ∈ cs.map (·.2) then some .tab else none, ⟨cl, fun _ => none⟩, fun _ => none, fun _ => none, _, _, _, e, ?_, fun own' ρ' Φ' H' v m z => fin z⟩
    refine { phi := (fun b u q => nomatch q), psi := (fun b u q => nomatch q), dPhi := fun _ _ _ => rfl, dPsi := (fun b u q => nomatch q), dom := fun b t q => ?_, len := rfl, slots := fun i x q => ?_, temps := trivial, tabs := fun b q => ?_, tabsIn := fun b h => ?_, codsIn := (fun q h => nomatch h), rcl := rfl, cach := (fun a d h => nomatch h) }
    · by_cases hb : b = a
      · rw [hb]; exact ⟨_, ho⟩
      · by_cases hc : b ∈ cs.map (·.2)
        · exact ⟨_, tbl b hc⟩
        · simp only [hb, hc, if_false] at q; cases q
    · match i, q with
      | 0, q =>
        cases q
        exact ⟨.ref a, rfl, .ow ho hoo (if_pos rfl), fun _ => rfl⟩
      | i + 1, q => simp at q
    · by_cases hb : b = a
      · simp only [hb, if_true] at q; cases q
      · by_cases hc : b ∈ cs.map (·.2)
        · exact tabO_nil (tbl b hc)
        · simp only [hb, hc, if_false] at q; cases q
    · have hb : ¬ b = a := fun z => na (by rw [← z]; exact h)
      show (if b = a then _ else if b ∈ cs.map (·.2) then some Tag.tab else none) = _
      rw [if_neg hb, if_pos h]
  rcases hS with (h | ⟨o, h⟩) | h
  · exact ownd _ h (.scl (RpA.ints ns))
  · exact ownd _ h (.scr (RpA.ints ns))
  · refine ⟨rfl, [], fun b => if b ∈ cs.map (·.2) then some .tab else none, ⟨cl, fun _ => none⟩, fun _ => none, fun _ => none, _, _, _, e, ?_, fun own' ρ' Φ' H' v m z => fin z⟩
    refine { phi := (fun b u q => nomatch q), psi := (fun b u q => nomatch q), dPhi := fun _ _ _ => rfl, dPsi := (fun b u q => nomatch q), dom := fun b t q => ?_, len := rfl, slots := fun i x q => ?_, temps := trivial, tabs := fun b q => ?_, tabsIn := fun b h => if_pos h, codsIn := (fun q h => nomatch h), rcl := rfl, cach := (fun a d h => nomatch h) }
    · by_cases hc : b ∈ cs.map (·.2)
      · exact ⟨_, tbl b hc⟩
      · simp only [hc, if_false] at q; cases q
    · match i, q with
      | 0, q =>
        cases q
        exact ⟨.ref a, rfl, .kl (fun H => .inr h) (RpA.ints ns), fun _ => rfl⟩
      | i + 1, q => simp at q
    · by_cases hc : b ∈ cs.map (·.2)
      · exact tabO_nil (tbl b hc)
      · simp only [hc, if_false] at q; cases q
/-- the written part without some objects -/
def hid (bad : List Addr) (K : PySem.W.Frag) : PySem.W.Frag := K.filter fun q => !bad.contains q.1
theorem hid_in {bad : List Addr} {K : PySem.W.Frag} {a : Addr} (h : bad.contains a = true) : (hid bad K).lookup a = none := by
  unfold hid
  induction K with
  | nil => rfl
  | cons q K ih =>
    rw [List.filter_cons]
    split
    · rename_i hq
      have : (a == q.1) = false := by
        apply beq_false_of_ne
        intro e
        rw [e] at h
        rw [h] at hq
        cases hq
      rw [List.lookup_cons, this]
      exact ih
    · exact ih
theorem hid_out {bad : List Addr} {K : PySem.W.Frag} {a : Addr} (h : bad.contains a = false) : (hid bad K).lookup a = K.lookup a := by
  unfold hid
  induction K with
  | nil => rfl
  | cons q K ih =>
    rw [List.filter_cons]
    by_cases e : a = q.1
    · have : (!bad.contains q.1) = true := by rw [← e, h]; rfl
      rw [if_pos this, List.lookup_cons, List.lookup_cons]
      have e2 : (a == q.1) = true := beq_iff_eq.mpr e
      rw [e2]
    · have e2 : (a == q.1) = false := beq_false_of_ne e
      split
      · rw [List.lookup_cons, List.lookup_cons, e2]
        exact ih
      · rw [List.lookup_cons, e2]
        exact ih
theorem hid_In {bad : List Addr} {K : PySem.W.Frag} {h : Heap} (X : K.In h) : (hid bad K).In h := fun a o e => by
  cases q : bad.contains a with
  | true => rw [hid_in q] at e; cases e
  | false => rw [hid_out q] at e; exact X a o e
theorem hid_ns {bad : List Addr} {K : PySem.W.Frag} {x : Str} (h : bad.contains mainGlobals = false) : PySem.W.nsIn (hid bad K) mainGlobals x = PySem.W.nsIn K mainGlobals x := by
  unfold PySem.W.nsIn
  rw [hid_out h]
theorem hid_code {bad : List Addr} {K : PySem.W.Frag} {c : Addr} {x : Str} (h : bad.contains c = false) (e : PySem.W.codeIn K (.ref c) x = true) : PySem.W.codeIn (hid bad K) (.ref c) x = true := by
  unfold PySem.W.codeIn at e ⊢
  simp only at e ⊢
  rw [hid_out h]
  exact e
theorem hid_keep {bad : List Addr} {K : PySem.W.Frag} {f : Addr} {oc : Value} {od : Option Addr} {fd : FuncData} {sl : Array (Option Value)} (h : bad.contains f = false) (l : K.lookup f = some ⟨oc, od, .func fd, sl⟩) : PySem.W.keepIn (hid bad K) (.ref f) = true := by
  unfold PySem.W.keepIn
  simp only
  rw [hid_out h, l]
/-- a def of the text, its code object written too -/
theorem fun_hid {bad : List Addr} {K : PySem.W.Frag} {x qual : Str} {st : Stmt} {f c : Addr} {oc : Value} {od an : Option Addr} {osl : Array (Option Value)} {kV doc pm ct : Value} (l : K.lookup f = some ⟨oc, od, .func (PySem.W.fnOf x qual (defArgs st) (defBody st) (defScope st) .none kV doc pm an (.ref c) ct), osl⟩)
    (e : PySem.W.codeIn K (.ref c) qual = true) (hf : bad.contains f = false) (hc : bad.contains c = false) : FunC (hid bad K) x qual st f (PySem.W.fnOf x qual (defArgs st) (defBody st) (defScope st) .none kV doc pm an (.ref c) ct) (.ref c) :=
  funC_mk (by rw [hid_out hf]; exact l) (hid_code hc e) (hid_keep hf l)
def codeFlds (vs : Array Value) : Bool := (match vs.getD 18 .none with | .str _ _ => true | _ => false) && (match vs.getD 7 .none with | .int _ _ => true | _ => false) &&
      (match vs.getD 9 .none with | .bool _ => true | _ => false) && (match vs.getD 10 .none with | .int _ _ => true | _ => false)
theorem codeHd_of {K : PySem.W.Frag} {h : Heap} {c P : Addr} {od : Option Addr} {vs : Array Value} {sl : Array (Option Value)} (X : K.In h) (l : K.lookup c = some ⟨.type "code", od, .fields vs, sl⟩) (e1 : (vs[11]? : Option Value) = some (.ref P)) (e2 : codeFlds vs = true) (ne : (c == P) = false) : PySem.W.CodeHd h c P := by
  unfold codeFlds at e2
  simp only [Bool.and_eq_true] at e2
  obtain ⟨⟨⟨e2, e3⟩, e4⟩, e5⟩ := e2
  split at e2
  · rename_i f tf h18
    split at e3
    · rename_i fl tg h7
      split at e4
      · rename_i b h9
        split at e5
        · rename_i n tt h10
          exact ⟨_, vs, f, tf, fl, tg, b, n, tt, X _ _ l, rfl, rfl, e1, by rw [Array.getD_eq_getD_getElem?, e1]; rfl, h18, h7, h9, h10, fun q => by rw [q] at ne; simp at ne⟩
        · cases e5
      · cases e4
    · cases e3
  · cases e2
theorem gtab {base : Heap} {mg : Str → Option Value} {c P : Addr} (x : LamX.TabB base mg c P) : GxR.TabB base mg c P := ⟨x.code, x.bm, x.gP⟩
end Dn
set_option Elab.async false
set_option linter.all false
set_option maxRecDepth 100000
set_option maxHeartbeats 4000000
/-! Den, part 11: how the pure machine is run by simp, from the left, what is still to be done kept folded. -/
namespace Dn
open PySem PySem.Spec PyProof.Rows L2
/-! statements -/
def kSeq : Option (Fl × S) → MS → Option (Fl × S)
  | some (.nx, s), k => k s
  | some (f, s), _ => some (f, s)
  | none, _ => none
theorem r_seq (m k : MS) (st : S) : mSeq m k st = kSeq (m st) k := by
  show (m st).bind _ = _
  cases m st with
  | none => rfl
  | some p => obtain ⟨f, s⟩ := p; cases f <;> rfl
theorem r_seqN (s : S) (k : MS) : kSeq (some (.nx, s)) k = k s := rfl
theorem r_seqB (s : S) (k : MS) : kSeq (some (.bk, s)) k = some (.bk, s) := rfl
theorem r_seqC (s : S) (k : MS) : kSeq (some (.ct, s)) k = some (.ct, s) := rfl
theorem r_seqR (l : LV) (s : S) (k : MS) : kSeq (some (.rt l, s)) k = some (.rt l, s) := rfl
theorem r_nx (st : S) : mNx st = some (.nx, st) := rfl
theorem r_bk (st : S) : mBk st = some (.bk, st) := rfl
theorem r_ct (st : S) : mCt st = some (.ct, st) := rfl
theorem r_retN (st : S) : mRetN st = some (.rt .non, st) := rfl
def kNx : Option S → Option (Fl × S)
  | some s => some (.nx, s)
  | none => none
theorem r_kNx (s : S) : kNx (some s) = some (.nx, s) := rfl
def kDrop : Option (Opd × S) → Option (Fl × S)
  | some p => some (.nx, p.2)
  | none => none
theorem r_drop (m : ME) (st : S) : mDrop m st = kDrop (m st) := by
  show (m st).bind _ = _
  cases m st <;> rfl
theorem r_kDrop (o : Opd) (s : S) : kDrop (some (o, s)) = some (.nx, s) := rfl
def kOwn : Option (Opd × S) → Option (LV × S)
  | some p => own? p.1 p.2
  | none => none
theorem r_kOwnL (l : LV) (s : S) : kOwn (some (.lv l, s)) = some (l, s) := rfl
def kSh : Option (PyData × S) → Option (LV × S)
  | some p => some (.sh p.1, p.2)
  | none => none
theorem r_kSh (d : PyData) (s : S) : kSh (some (d, s)) = some (.sh d, s) := rfl
theorem r_kOwnS (i : Nat) (s : S) : kOwn (some (.slot i, s)) = kSh (frz (.slot i) s) := by
  show (frz (.slot i) s).bind _ = _
  cases frz (.slot i) s <;> rfl
def kRet : Option (LV × S) → Option (Fl × S)
  | some p => some (.rt p.1, p.2)
  | none => none
theorem r_kRet (l : LV) (s : S) : kRet (some (l, s)) = some (.rt l, s) := rfl
theorem r_ret (m : ME) (st : S) : mRet m st = kRet (kOwn (m st)) := by
  show (m st).bind (fun p => (own? p.1 p.2).bind _) = _
  cases m st with
  | none => rfl
  | some p =>
    show (own? p.1 p.2).bind _ = kRet (own? p.1 p.2)
    cases own? p.1 p.2 <;> rfl
def kIfS : Option (Bool × S) → MS → MS → Option (Fl × S)
  | some (true, s), m, _ => m s
  | some (false, s), _, k => k s
  | none, _, _ => none
theorem r_ifS (mt : MT) (m k : MS) (st : S) : mIfS mt m k st = kIfS (mt st) m k := by
  show (mt st).bind _ = _
  cases mt st with
  | none => rfl
  | some p => obtain ⟨b, s⟩ := p; cases b <;> rfl
theorem r_ifT (s : S) (m k : MS) : kIfS (some (true, s)) m k = m s := rfl
theorem r_ifF (s : S) (m k : MS) : kIfS (some (false, s)) m k = k s := rfl
def kSet (k : Nat) : Option (LV × S) → Option (Fl × S)
  | some p => kNx (setS false k p.1 p.2)
  | none => none
theorem r_set (k : Nat) (m : ME) (st : S) : mSet k m st = kSet k (kOwn (m st)) := by
  show (m st).bind (fun p => (own? p.1 p.2).bind _) = _
  cases m st with
  | none => rfl
  | some p =>
    show (own? p.1 p.2).bind _ = kSet k (own? p.1 p.2)
    cases own? p.1 p.2 with
    | none => rfl
    | some q =>
      show (setS false k q.1 q.2).bind _ = kNx (setS false k q.1 q.2)
      cases setS false k q.1 q.2 <;> rfl
theorem r_kSet (k : Nat) (l : LV) (s : S) : kSet k (some (l, s)) = kNx (setS false k l s) := rfl
/-- a store, by what stands there -/
def kSlot (c : Bool) (k : Nat) (l : LV) (ls : List (Option Sl)) : Option (Option Sl) → Option S
  | some none => some ⟨ls.set k (some ⟨l, false, c⟩)⟩
  | some (some x) => if c || x.p || x.lv.isRo then none else some ⟨ls.set k (some ⟨l, false, c⟩)⟩
  | none => none
theorem r_setS (c : Bool) (k : Nat) (l : LV) (ls : List (Option Sl)) : setS c k l ⟨ls⟩ = kSlot c k l ls ls[k]? := by
  unfold setS
  show (match ls[k]? with | some none => _ | some (some x) => _ | none => none) = _
  cases ls[k]? with
  | none => rfl
  | some x => cases x <;> rfl
theorem r_slotN (c : Bool) (k : Nat) (l : LV) (ls : List (Option Sl)) : kSlot c k l ls (some none) = some ⟨ls.set k (some ⟨l, false, c⟩)⟩ := rfl
theorem r_slotS (k : Nat) (l : LV) (ls : List (Option Sl)) (lv : LV) (cc : Bool) : kSlot false k l ls (some (some ⟨lv, false, cc⟩)) = if lv.isRo then none else some ⟨ls.set k (some ⟨l, false, false⟩)⟩ := rfl
theorem ro_sh (d : PyData) : (LV.sh d).isRo = false := rfl
theorem ro_lst (ds : List PyData) : (LV.lst ds).isRo = false := rfl
theorem ro_dk (ds : List (Key × PyData)) : (LV.dk ds).isRo = false := rfl
theorem ro_dt (ds : List (List Key × PyData)) : (LV.dt ds).isRo = false := rfl
theorem ro_set (ds : List Int) : (LV.set ds).isRo = false := rfl
theorem ro_ro (ds : List PyData) : (LV.ro ds).isRo = true := rfl
theorem ro_scr (ds : List PyData) : (LV.scr ds).isRo = true := rfl
theorem own_sh (d : PyData) : (LV.sh d).isOwn = false := rfl
theorem own_lst (ds : List PyData) : (LV.lst ds).isOwn = true := rfl
theorem own_dk (ds : List (Key × PyData)) : (LV.dk ds).isOwn = true := rfl
theorem own_dt (ds : List (List Key × PyData)) : (LV.dt ds).isOwn = true := rfl
theorem own_set (ds : List Int) : (LV.set ds).isOwn = true := rfl
theorem own_ro (ds : List PyData) : (LV.ro ds).isOwn = true := rfl
theorem ro_rv (ds : List PyData) : (LV.rv ds).isRo = true := rfl
theorem own_rv (ds : List PyData) : (LV.rv ds).isOwn = true := rfl
theorem rv_sh (d : PyData) : (LV.sh d).isRv = false := rfl
theorem rv_lst (ds : List PyData) : (LV.lst ds).isRv = false := rfl
theorem rv_ro (ds : List PyData) : (LV.ro ds).isRv = false := rfl
theorem rv_scr (ds : List PyData) : (LV.scr ds).isRv = false := rfl
theorem rv_rv (ds : List PyData) : (LV.rv ds).isRv = true := rfl
theorem rv_dk (ds : List (Key × PyData)) : (LV.dk ds).isRv = false := rfl
theorem rv_dt (ds : List (List Key × PyData)) : (LV.dt ds).isRv = false := rfl
theorem rv_set (ds : List Int) : (LV.set ds).isRv = false := rfl
theorem own_scr (ds : List PyData) : (LV.scr ds).isOwn = true := rfl
def kTg (g : MG) : Option (PyData × S) → Option (Fl × S)
  | some p => kNx (g p.1 p.2)
  | none => none
theorem r_setT (g : MG) (m : MF) (st : S) : mSetT g m st = kTg g (m st) := by
  show (m st).bind _ = _
  cases m st with
  | none => rfl
  | some p =>
    show (g p.1 p.2).bind _ = kNx (g p.1 p.2)
    cases g p.1 p.2 <;> rfl
theorem r_kTg (g : MG) (d : PyData) (s : S) : kTg g (some (d, s)) = kNx (g d s) := rfl
/-! operands -/
theorem r_c (d : PyData) (st : S) : mC d st = some (.lv (.sh d), st) := rfl
/-- a name, by what stands there -/
def kName (i : Nat) (st : S) : Option (Option Sl) → Option (Opd × S)
  | some (some ⟨.sh d, _, _⟩) => some (.lv (.sh d), st)
  | some (some ⟨_, _, false⟩) => some (.slot i, st)
  | _ => none
theorem r_name (i : Nat) (ls : List (Option Sl)) : mName i ⟨ls⟩ = kName i ⟨ls⟩ ls[i]? := rfl
theorem r_nameS (i : Nat) (st : S) (d : PyData) (p c : Bool) : kName i st (some (some ⟨.sh d, p, c⟩)) = some (.lv (.sh d), st) := rfl
theorem r_nameL (i : Nat) (st : S) (ds : List PyData) (p : Bool) : kName i st (some (some ⟨.lst ds, p, false⟩)) = some (.slot i, st) := rfl
theorem r_nameR (i : Nat) (st : S) (ds : List PyData) (p : Bool) : kName i st (some (some ⟨.ro ds, p, false⟩)) = some (.slot i, st) := rfl
theorem r_nameV (i : Nat) (st : S) (ds : List PyData) (p : Bool) : kName i st (some (some ⟨.rv ds, p, false⟩)) = some (.slot i, st) := rfl
theorem r_nameX (i : Nat) (st : S) (ds : List PyData) (p : Bool) : kName i st (some (some ⟨.scr ds, p, false⟩)) = some (.slot i, st) := rfl
theorem r_nameK (i : Nat) (st : S) (ds : List (Key × PyData)) (p : Bool) : kName i st (some (some ⟨.dk ds, p, false⟩)) = some (.slot i, st) := rfl
theorem r_nameT (i : Nat) (st : S) (ds : List (List Key × PyData)) (p : Bool) : kName i st (some (some ⟨.dt ds, p, false⟩)) = some (.slot i, st) := rfl
theorem r_nameU (i : Nat) (st : S) (ds : List Int) (p : Bool) : kName i st (some (some ⟨.set ds, p, false⟩)) = some (.slot i, st) := rfl
def kFrz : Option (Opd × S) → Option (PyData × S)
  | some p => frz p.1 p.2
  | none => none
theorem r_frz (m : ME) (st : S) : mFrz m st = kFrz (m st) := by
  show (m st).bind _ = _
  cases m st <;> rfl
theorem r_frzS (d : PyData) (s : S) : kFrz (some (.lv (.sh d), s)) = some (d, s) := rfl
theorem r_frzL (ds : List PyData) (s : S) : kFrz (some (.lv (.lst ds), s)) = some (.list ds, s) := rfl
theorem r_frzI (i : Nat) (s : S) : kFrz (some (.slot i, s)) = frz (.slot i) s := rfl
def kFrzS (i : Nat) (ls : List (Option Sl)) : Option (Option Sl) → Option (PyData × S)
  | some (some ⟨.sh d, _, _⟩) => some (d, ⟨ls⟩)
  | some (some ⟨.lst ds, p, c⟩) => some (.list ds, ⟨ls.set i (some ⟨.sh (.list ds), p, c⟩)⟩)
  | _ => none
theorem r_frzO (i : Nat) (ls : List (Option Sl)) : frz (.slot i) ⟨ls⟩ = kFrzS i ls ls[i]? := rfl
theorem r_frzOS (i : Nat) (ls : List (Option Sl)) (d : PyData) (p c : Bool) : kFrzS i ls (some (some ⟨.sh d, p, c⟩)) = some (d, ⟨ls⟩) := rfl
theorem r_frzOL (i : Nat) (ls : List (Option Sl)) (ds : List PyData) (p c : Bool) : kFrzS i ls (some (some ⟨.lst ds, p, c⟩)) = some (.list ds, ⟨ls.set i (some ⟨.sh (.list ds), p, c⟩)⟩) := rfl
def kMSh : Option (PyData × S) → Option (Opd × S)
  | some p => some (.lv (.sh p.1), p.2)
  | none => none
theorem r_sh (m : MF) (st : S) : mSh m st = kMSh (m st) := by
  show (m st).bind _ = _
  cases m st <;> rfl
theorem r_kMSh (d : PyData) (s : S) : kMSh (some (d, s)) = some (.lv (.sh d), s) := rfl
theorem r_resL (l : LV) (s : S) : resO s (.lv l) = some l := rfl
def kRes : Option (Option Sl) → Option LV
  | some (some x) => some x.lv
  | _ => none
theorem r_resS (i : Nat) (ls : List (Option Sl)) : resO ⟨ls⟩ (.slot i) = kRes ls[i]? := by
  show ls[i]?.bind _ = _
  cases ls[i]? with
  | none => rfl
  | some x => cases x <;> rfl
theorem r_kRes (x : Sl) : kRes (some (some x)) = some x.lv := rfl
/-! two operands -/
def kBin1 (g : LV → LV → Option LV) (mb : ME) : Option (Opd × S) → Option (Opd × S)
  | some p => match mb p.2 with
    | some q => match resO q.2 p.1, resO q.2 q.1 with
      | some x, some y => (g x y).bind fun r => some (.lv r, q.2)
      | _, _ => none
    | none => none
  | none => none
def kBin2 (g : LV → LV → Option LV) (o : Opd) : Option (Opd × S) → Option (Opd × S)
  | some q => match resO q.2 o, resO q.2 q.1 with
    | some x, some y => (g x y).bind fun r => some (.lv r, q.2)
    | _, _ => none
  | none => none
def kOp (s : S) : Option LV → Option (Opd × S)
  | some r => some (.lv r, s)
  | none => none
def kBin3 (g : LV → LV → Option LV) (s : S) : Option LV → Option LV → Option (Opd × S)
  | some x, some y => kOp s (g x y)
  | _, _ => none
theorem r_bin (g : LV → LV → Option LV) (ma mb : ME) (st : S) : mBin g ma mb st = kBin1 g mb (ma st) := by
  unfold mBin
  cases ma st with
  | none => rfl
  | some p =>
    simp only [Option.bind_some, kBin1]
    cases mb p.2 with
    | none => rfl
    | some q =>
      simp only [Option.bind_some]
      cases resO q.2 p.1 with
      | none => rfl
      | some x => cases resO q.2 q.1 <;> rfl
theorem r_bin1 (g : LV → LV → Option LV) (mb : ME) (o : Opd) (s : S) : kBin1 g mb (some (o, s)) = kBin2 g o (mb s) := by
  show (match mb s with | some q => _ | none => none) = kBin2 g o (mb s)
  cases mb s <;> rfl
theorem r_bin2 (g : LV → LV → Option LV) (o o2 : Opd) (s : S) : kBin2 g o (some (o2, s)) = kBin3 g s (resO s o) (resO s o2) := by
  show (match resO s o, resO s o2 with | some x, some y => _ | _, _ => none) = kBin3 g s (resO s o) (resO s o2)
  cases resO s o with
  | none => rfl
  | some x =>
    cases resO s o2 with
    | none => rfl
    | some y =>
      show (g x y).bind _ = kOp s (g x y)
      cases g x y <;> rfl
theorem r_bin3 (g : LV → LV → Option LV) (s : S) (x y : LV) : kBin3 g s (some x) (some y) = kOp s (g x y) := rfl
theorem r_kOp (s : S) (r : LV) : kOp s (some r) = some (.lv r, s) := rfl
def kUn2 (g : LV → Option LV) (s : S) : Option LV → Option (Opd × S)
  | some x => kOp s (g x)
  | none => none
def kUn1 (g : LV → Option LV) : Option (Opd × S) → Option (Opd × S)
  | some p => kUn2 g p.2 (resO p.2 p.1)
  | none => none
theorem r_un (g : LV → Option LV) (ma : ME) (st : S) : mUn g ma st = kUn1 g (ma st) := by
  unfold mUn
  cases ma st with
  | none => rfl
  | some p =>
    simp only [Option.bind_some, kUn1]
    cases resO p.2 p.1 with
    | none => rfl
    | some x =>
      simp only [Option.bind_some, kUn2]
      cases g x <;> rfl
theorem r_un1 (g : LV → Option LV) (o : Opd) (s : S) : kUn1 g (some (o, s)) = kUn2 g s (resO s o) := rfl
theorem r_un2 (g : LV → Option LV) (s : S) (x : LV) : kUn2 g s (some x) = kOp s (g x) := rfl
theorem r_ix (ma mb : ME) : mIx ma mb = mBin gIx ma mb := rfl
/-! tests -/
def kTst : Option (Opd × S) → Option (Bool × S)
  | some (.lv (.sh (.bool b)), s) => some (b, s)
  | _ => none
theorem r_tst (m : ME) (st : S) : mTst m st = kTst (m st) := by
  show (m st).bind (fun p => (toB p.1).bind fun b => some (b, p.2)) = _
  cases m st with
  | none => rfl
  | some p =>
    obtain ⟨o, s⟩ := p
    cases o with
    | slot i => rfl
    | lv l =>
      cases l with
      | sh d => cases d <;> rfl
      | _ => rfl
theorem r_kTst (b : Bool) (s : S) : kTst (some (.lv (.sh (.bool b)), s)) = some (b, s) := rfl
def kTand : Option (Bool × S) → MT → Option (Bool × S)
  | some (true, s), mb => mb s
  | some (false, s), _ => some (false, s)
  | none, _ => none
theorem r_tand (ma mb : MT) (st : S) : mTand ma mb st = kTand (ma st) mb := by
  show (ma st).bind _ = _
  cases ma st with
  | none => rfl
  | some p => obtain ⟨b, s⟩ := p; cases b <;> rfl
theorem r_tandT (s : S) (mb : MT) : kTand (some (true, s)) mb = mb s := rfl
theorem r_tandF (s : S) (mb : MT) : kTand (some (false, s)) mb = some (false, s) := rfl
def kTor : Option (Bool × S) → MT → Option (Bool × S)
  | some (true, s), _ => some (true, s)
  | some (false, s), mb => mb s
  | none, _ => none
theorem r_tor (ma mb : MT) (st : S) : mTor ma mb st = kTor (ma st) mb := by
  show (ma st).bind _ = _
  cases ma st with
  | none => rfl
  | some p => obtain ⟨b, s⟩ := p; cases b <;> rfl
theorem r_torT (s : S) (mb : MT) : kTor (some (true, s)) mb = some (true, s) := rfl
theorem r_torF (s : S) (mb : MT) : kTor (some (false, s)) mb = mb s := rfl
def kTnot : Option (Bool × S) → Option (Bool × S)
  | some p => some (!p.1, p.2)
  | none => none
theorem r_tnot (ma : MT) (st : S) : mTnot ma st = kTnot (ma st) := by
  show (ma st).bind _ = _
  cases ma st <;> rfl
theorem r_kTnot (b : Bool) (s : S) : kTnot (some (b, s)) = some (!b, s) := rfl
def kTru : Option (Opd × S) → Option (Bool × S)
  | some p => (resO p.2 p.1).bind fun l => (truth? l).bind fun b => some (b, p.2)
  | none => none
def kTru3 (s : S) : Option Bool → Option (Bool × S)
  | some b => some (b, s)
  | none => none
def kTru2 (s : S) : Option LV → Option (Bool × S)
  | some l => kTru3 s (truth? l)
  | none => none
theorem r_tru (m : ME) (st : S) : mTru m st = kTru (m st) := by
  show (m st).bind _ = _
  cases m st <;> rfl
theorem r_kTru (o : Opd) (s : S) : kTru (some (o, s)) = kTru2 s (resO s o) := by
  show (resO s o).bind _ = kTru2 s (resO s o)
  cases resO s o with
  | none => rfl
  | some l =>
    show (truth? l).bind _ = kTru3 s (truth? l)
    cases truth? l <;> rfl
theorem r_kTru2 (s : S) (l : LV) : kTru2 s (some l) = kTru3 s (truth? l) := rfl
theorem r_kTru3 (s : S) (b : Bool) : kTru3 s (some b) = some (b, s) := rfl
theorem r_yes (st : S) : mYes st = some (true, st) := rfl
def kAndV : Option (Opd × S) → ME → Option (Opd × S)
  | some p, mb => (toB p.1).bind fun b => if b then mb p.2 else some (.lv (.bl false), p.2)
  | none, _ => none
theorem r_andV (ma mb : ME) (st : S) : mAndV ma mb st = kAndV (ma st) mb := by
  show (ma st).bind _ = _
  cases ma st <;> rfl
theorem r_andT (s : S) (mb : ME) : kAndV (some (.lv (.sh (.bool true)), s)) mb = mb s := rfl
theorem r_andF (s : S) (mb : ME) : kAndV (some (.lv (.sh (.bool false)), s)) mb = some (.lv (.sh (.bool false)), s) := rfl
def kOrV : Option (Opd × S) → ME → Option (Opd × S)
  | some p, mb => (toB p.1).bind fun b => if b then some (.lv (.bl true), p.2) else mb p.2
  | none, _ => none
theorem r_orV (ma mb : ME) (st : S) : mOrV ma mb st = kOrV (ma st) mb := by
  show (ma st).bind _ = _
  cases ma st <;> rfl
theorem r_orT (s : S) (mb : ME) : kOrV (some (.lv (.sh (.bool true)), s)) mb = some (.lv (.sh (.bool true)), s) := rfl
theorem r_orF (s : S) (mb : ME) : kOrV (some (.lv (.sh (.bool false)), s)) mb = mb s := rfl
def kNotV : Option (Opd × S) → Option (Opd × S)
  | some p => (toB p.1).bind fun b => some (.lv (.bl (!b)), p.2)
  | none => none
theorem r_notV (ma : ME) (st : S) : mNotV ma st = kNotV (ma st) := by
  show (ma st).bind _ = _
  cases ma st <;> rfl
theorem r_kNotV (b : Bool) (s : S) : kNotV (some (.lv (.sh (.bool b)), s)) = some (.lv (.sh (.bool (!b))), s) := rfl
def kIf : Option (Bool × S) → ME → ME → Option (Opd × S)
  | some (true, s), m, _ => m s
  | some (false, s), _, k => k s
  | none, _, _ => none
theorem r_if (mt : MT) (m k : ME) (st : S) : mIf mt m k st = kIf (mt st) m k := by
  show (mt st).bind _ = _
  cases mt st with
  | none => rfl
  | some p => obtain ⟨b, s⟩ := p; cases b <;> rfl
theorem r_ifeT (s : S) (m k : ME) : kIf (some (true, s)) m k = m s := rfl
theorem r_ifeF (s : S) (m k : ME) : kIf (some (false, s)) m k = k s := rfl
/-! displays, arguments -/
def kFc1 : Option (PyData × S) → MFA → Option (List PyData × S)
  | some p, ms => (ms p.2).bind fun q => some (p.1 :: q.1, q.2)
  | none, _ => none
def kFc2 (d : PyData) : Option (List PyData × S) → Option (List PyData × S)
  | some q => some (d :: q.1, q.2)
  | none => none
theorem r_fnil (st : S) : mFnil st = some ([], st) := rfl
theorem r_fcons (m : MF) (ms : MFA) (st : S) : mFcons m ms st = kFc1 (m st) ms := by
  show (m st).bind _ = _
  cases m st <;> rfl
theorem r_fc1 (d : PyData) (s : S) (ms : MFA) : kFc1 (some (d, s)) ms = kFc2 d (ms s) := by
  show (ms s).bind _ = kFc2 d (ms s)
  cases ms s <;> rfl
theorem r_fc2 (d : PyData) (ds : List PyData) (s : S) : kFc2 d (some (ds, s)) = some (d :: ds, s) := rfl
def kTup : Option (List PyData × S) → Option (Opd × S)
  | some p => if p.1.length ≤ 16777216 then some (.lv (.sh (.tuple p.1)), p.2) else none
  | none => none
def kLst : Option (List PyData × S) → Option (Opd × S)
  | some p => if p.1.length ≤ 16777216 then some (.lv (.lst p.1), p.2) else none
  | none => none
theorem r_tup (ms : MFA) (st : S) : mTup ms st = kTup (ms st) := by
  show (ms st).bind _ = _
  cases ms st <;> rfl
theorem r_lst (ms : MFA) (st : S) : mLst ms st = kLst (ms st) := by
  show (ms st).bind _ = _
  cases ms st <;> rfl
theorem r_kTup (ds : List PyData) (s : S) : kTup (some (ds, s)) = if ds.length ≤ 16777216 then some (.lv (.sh (.tuple ds)), s) else none := rfl
theorem r_kLst (ds : List PyData) (s : S) : kLst (some (ds, s)) = if ds.length ≤ 16777216 then some (.lv (.lst ds), s) else none := rfl
def kAc1 : Option (Opd × S) → MA → Option (List Opd × S)
  | some p, ms => (ms p.2).bind fun q => some (p.1 :: q.1, q.2)
  | none, _ => none
def kAc2 (o : Opd) : Option (List Opd × S) → Option (List Opd × S)
  | some q => some (o :: q.1, q.2)
  | none => none
theorem r_anil (st : S) : mAnil st = some ([], st) := rfl
theorem r_acons (m : ME) (ms : MA) (st : S) : mAcons m ms st = kAc1 (m st) ms := by
  show (m st).bind _ = _
  cases m st <;> rfl
theorem r_ac1 (o : Opd) (s : S) (ms : MA) : kAc1 (some (o, s)) ms = kAc2 o (ms s) := by
  show (ms s).bind _ = kAc2 o (ms s)
  cases ms s <;> rfl
theorem r_ac2 (o : Opd) (os : List Opd) (s : S) : kAc2 o (some (os, s)) = some (o :: os, s) := rfl
def kLs (l : LV) : Option (List (Option Sl)) → Option (Opd × S)
  | some ls => some (.lv l, ⟨ls⟩)
  | none => none
def kBack (om : List Opd) (s : S) : Option (LV × List (Option LV)) → Option (Opd × S)
  | some r => kLs r.1 (setBack om r.2 s.ls)
  | none => none
def kGo (mk : List Bool) (F : MD) (os : List Opd) (s : S) : Option (List LV) → Option (Opd × S)
  | some rs => if maskD (maskO mk os) mk os && dist (maskO mk os) then kBack (maskO mk os) s (F rs) else none
  | none => none
def kGo0 (mk : List Bool) (F : MD) (os : List Opd) (s : S) : Option (List LV) → Option (Opd × S)
  | some ls => kGo mk F os s (maskL mk ls)
  | none => none
def kCall (mk : List Bool) (F : MD) : Option (List Opd × S) → Option (Opd × S)
  | some p => kGo0 mk F p.1 p.2 (resAll p.2 p.1)
  | none => none
theorem r_call (mk : List Bool) (F : MD) (ma : MA) (st : S) : mCall mk F ma st = kCall mk F (ma st) := by
  unfold mCall
  cases ma st with
  | none => rfl
  | some p =>
    simp only [Option.bind_some, kCall]
    cases resAll p.2 p.1 with
    | none => rfl
    | some ls =>
      simp only [Option.bind_some, kGo0]
      cases maskL mk ls with
      | none => rfl
      | some rs =>
        simp only [Option.bind_some, kGo]
        split
        · cases F rs with
          | none => rfl
          | some r =>
            simp only [Option.bind_some, kBack]
            cases setBack (maskO mk p.1) r.2 p.2.ls <;> rfl
        · rfl
theorem r_kCall (mk : List Bool) (F : MD) (os : List Opd) (s : S) : kCall mk F (some (os, s)) = kGo0 mk F os s (resAll s os) := rfl
theorem r_kGo0 (mk : List Bool) (F : MD) (os : List Opd) (s : S) (ls : List LV) : kGo0 mk F os s (some ls) = kGo mk F os s (maskL mk ls) := rfl
theorem r_kGo (mk : List Bool) (F : MD) (os : List Opd) (s : S) (rs : List LV) : kGo mk F os s (some rs) = if maskD (maskO mk os) mk os && dist (maskO mk os) then kBack (maskO mk os) s (F rs) else none := rfl
theorem r_kBack (om : List Opd) (s : S) (l : LV) (as : List (Option LV)) : kBack om s (some (l, as)) = kLs l (setBack om as s.ls) := rfl
theorem r_kLs (l : LV) (ls : List (Option Sl)) : kLs l (some ls) = some (.lv l, ⟨ls⟩) := rfl
theorem r_roL (ds : List PyData) : roOf (.lst ds) = some (.rv ds) := rfl
theorem r_roO (ds : List PyData) : roOf (.ro ds) = some (.rv ds) := rfl
theorem r_roV (ds : List PyData) : roOf (.rv ds) = some (.rv ds) := rfl
theorem r_roSL (ds : List PyData) : roOf (.sh (.list ds)) = some (.rv ds) := rfl
theorem r_roST (ds : List PyData) : roOf (.sh (.tuple ds)) = some (.sh (.tuple ds)) := rfl
theorem r_roSI (i : Int) : roOf (.sh (.int i)) = some (.sh (.int i)) := rfl
theorem r_roSB (b : Bool) : roOf (.sh (.bool b)) = some (.sh (.bool b)) := rfl
theorem r_roSS (x : Str) : roOf (.sh (.str x)) = some (.sh (.str x)) := rfl
theorem r_roSN : roOf (.sh .none) = some (.sh .none) := rfl
theorem r_roSD (kvs : List (PyData × PyData)) : roOf (.sh (.dict kvs)) = some (.sh (.dict kvs)) := rfl
def kMk2 (r : LV) : Option (List LV) → Option (List LV)
  | some rs => some (r :: rs)
  | none => none
def kMk1 (ms : List Bool) (ls : List LV) : Option LV → Option (List LV)
  | some r => kMk2 r (maskL ms ls)
  | none => none
theorem r_mk0 : maskL [] [] = some [] := rfl
theorem r_mkT (ms : List Bool) (l : LV) (ls : List LV) : maskL (true :: ms) (l :: ls) = kMk1 ms ls (roOf l) := by
  show (roOf l).bind _ = _
  cases roOf l with
  | none => rfl
  | some r =>
    show (maskL ms ls).bind _ = kMk2 r (maskL ms ls)
    cases maskL ms ls <;> rfl
theorem r_mkF (ms : List Bool) (l : LV) (ls : List LV) : maskL (false :: ms) (l :: ls) = if l.isRv then none else kMk2 l (maskL ms ls) := by
  show (if l.isRv then none else (maskL ms ls).bind _) = _
  split
  · rfl
  · cases maskL ms ls <;> rfl
theorem r_kMk1 (ms : List Bool) (ls : List LV) (r : LV) : kMk1 ms ls (some r) = kMk2 r (maskL ms ls) := rfl
theorem r_kMk2 (r : LV) (rs : List LV) : kMk2 r (some rs) = some (r :: rs) := rfl
theorem r_mo0 (os : List Opd) : maskO [] os = os := by cases os <;> rfl
theorem r_moT (ms : List Bool) (o : Opd) (os : List Opd) : maskO (true :: ms) (o :: os) = .lv .non :: maskO ms os := rfl
theorem r_moF (ms : List Bool) (o : Opd) (os : List Opd) : maskO (false :: ms) (o :: os) = o :: maskO ms os := rfl
theorem r_md0 (om os : List Opd) : maskD om [] os = true := by cases os <;> rfl
theorem r_mdT (om os : List Opd) (ms : List Bool) (k : Nat) : maskD om (true :: ms) (.slot k :: os) = ((idxOf om k).isNone && maskD om ms os) := rfl
theorem r_mdL (om os : List Opd) (ms : List Bool) (l : LV) : maskD om (true :: ms) (.lv l :: os) = maskD om ms os := rfl
theorem r_mdF (om os : List Opd) (ms : List Bool) (o : Opd) : maskD om (false :: ms) (o :: os) = maskD om ms os := by cases o <;> rfl
def kRa2 (l : LV) : Option (List LV) → Option (List LV)
  | some ls => some (l :: ls)
  | none => none
def kRa1 (st : S) (os : List Opd) : Option LV → Option (List LV)
  | some l => kRa2 l (resAll st os)
  | none => none
theorem r_ran (st : S) : resAll st [] = some [] := rfl
theorem r_rac (st : S) (o : Opd) (os : List Opd) : resAll st (o :: os) = kRa1 st os (resO st o) := by
  show (resO st o).bind (fun l => (resAll st os).bind fun ls => some (l :: ls)) = _
  cases resO st o with
  | none => rfl
  | some l =>
    show (resAll st os).bind _ = kRa2 l (resAll st os)
    cases resAll st os <;> rfl
theorem r_ra1 (st : S) (os : List Opd) (l : LV) : kRa1 st os (some l) = kRa2 l (resAll st os) := rfl
theorem r_ra2 (l : LV) (ls : List LV) : kRa2 l (some ls) = some (l :: ls) := rfl
theorem r_sbn (as : List (Option LV)) (ls : List (Option Sl)) : setBack [] as ls = some ls := rfl
theorem r_sbl (l : LV) (os : List Opd) (a : Option LV) (as : List (Option LV)) (ls : List (Option Sl)) : setBack (.lv l :: os) (a :: as) ls = setBack os as ls := rfl
def kSb (i : Nat) (os : List Opd) (a : Option LV) (as : List (Option LV)) (ls : List (Option Sl)) : Option (Option Sl) → Option (List (Option Sl))
  | some (some x) => if x.lv.isOwn && !x.lv.isRo then (match a with
      | some l => setBack os as (ls.set i (some { x with lv := l }))
      | _ => none) else setBack os as ls
  | _ => none
theorem r_sbs (i : Nat) (os : List Opd) (a : Option LV) (as : List (Option LV)) (ls : List (Option Sl)) : setBack (.slot i :: os) (a :: as) ls = kSb i os a as ls ls[i]? := by
  show (match ls[i]? with | some (some x) => _ | _ => none) = _
  cases ls[i]? with
  | none => rfl
  | some x =>
    cases x with
    | none => rfl
    | some x =>
      show (if (x.lv.isOwn && !x.lv.isRo) = true then (match some a with | some (some l) => _ | _ => none) else _) = _
      cases a <;> rfl
theorem r_sbL (i : Nat) (os : List Opd) (l : LV) (as : List (Option LV)) (ls : List (Option Sl)) (ds : List PyData) (p c : Bool) : kSb i os (some l) as ls (some (some ⟨.lst ds, p, c⟩)) = setBack os as (ls.set i (some ⟨l, p, c⟩)) := rfl
theorem r_sbK (i : Nat) (os : List Opd) (l : LV) (as : List (Option LV)) (ls : List (Option Sl)) (ds : List (Key × PyData)) (p c : Bool) : kSb i os (some l) as ls (some (some ⟨.dk ds, p, c⟩)) = setBack os as (ls.set i (some ⟨l, p, c⟩)) := rfl
theorem r_sbT (i : Nat) (os : List Opd) (l : LV) (as : List (Option LV)) (ls : List (Option Sl)) (ds : List (List Key × PyData)) (p c : Bool) : kSb i os (some l) as ls (some (some ⟨.dt ds, p, c⟩)) = setBack os as (ls.set i (some ⟨l, p, c⟩)) := rfl
theorem r_sbU (i : Nat) (os : List Opd) (l : LV) (as : List (Option LV)) (ls : List (Option Sl)) (ds : List Int) (p c : Bool) : kSb i os (some l) as ls (some (some ⟨.set ds, p, c⟩)) = setBack os as (ls.set i (some ⟨l, p, c⟩)) := rfl
theorem r_sbS (i : Nat) (os : List Opd) (a : Option LV) (as : List (Option LV)) (ls : List (Option Sl)) (d : PyData) (p c : Bool) : kSb i os a as ls (some (some ⟨.sh d, p, c⟩)) = setBack os as ls := rfl
theorem r_sbR (i : Nat) (os : List Opd) (a : Option LV) (as : List (Option LV)) (ls : List (Option Sl)) (ds : List PyData) (p c : Bool) : kSb i os a as ls (some (some ⟨.ro ds, p, c⟩)) = setBack os as ls := rfl
theorem r_sbV (i : Nat) (os : List Opd) (a : Option LV) (as : List (Option LV)) (ls : List (Option Sl)) (ds : List PyData) (p c : Bool) : kSb i os a as ls (some (some ⟨.rv ds, p, c⟩)) = setBack os as ls := rfl
theorem r_sbX (i : Nat) (os : List Opd) (a : Option LV) (as : List (Option LV)) (ls : List (Option Sl)) (ds : List PyData) (p c : Bool) : kSb i os a as ls (some (some ⟨.scr ds, p, c⟩)) = setBack os as ls := rfl
theorem r_dn : dist [] = true := rfl
theorem r_dl (l : LV) (os : List Opd) : dist (.lv l :: os) = dist os := rfl
theorem r_ds (i : Nat) (os : List Opd) : dist (.slot i :: os) = ((idxOf os i).isNone && dist os) := rfl
theorem r_in (i : Nat) : idxOf [] i = none := rfl
theorem r_il (l : LV) (os : List Opd) (i : Nat) : idxOf (.lv l :: os) i = (idxOf os i).map (· + 1) := rfl
theorem r_is (k : Nat) (os : List Opd) (i : Nat) : idxOf (.slot k :: os) i = if k = i then some 0 else (idxOf os i).map (· + 1) := rfl
/-! stores into a slot's own things -/
def kPut (i : Nat) (l : LV) (ls : List (Option Sl)) : Option (Option Sl) → Option (Fl × S)
  | some (some x) => some (.nx, ⟨ls.set i (some { x with lv := l })⟩)
  | _ => none
def kPut0 (i : Nat) (l : LV) : S → Option (Fl × S) := fun s => kPut i l s.ls s.ls[i]?
theorem kPut0_eq (i : Nat) (l : LV) (s : S) : ((putS i l s).bind fun s => some (Fl.nx, s)) = kPut0 i l s := by
  unfold putS kPut0
  cases s.ls[i]? with
  | none => rfl
  | some x => cases x <;> rfl
theorem r_kPut0 (i : Nat) (l : LV) (ls : List (Option Sl)) : kPut0 i l ⟨ls⟩ = kPut i l ls ls[i]? := rfl
theorem r_kPut (i : Nat) (l lv : LV) (p c : Bool) (ls : List (Option Sl)) : kPut i l ls (some (some ⟨lv, p, c⟩)) = some (.nx, ⟨ls.set i (some ⟨l, p, c⟩)⟩) := rfl
def kSx5 (i : Nat) (s : S) : Option LV → Option (Fl × S)
  | some l => kPut0 i l s
  | none => none
/-- what a store makes -/
def stIx (d : PyData) : LV → LV → Option LV
  | .lst ds, .sh (.int j) => (ixN ds.length j).bind fun n => some (.lst (ds.set n d))
  | .lst _, _ => none
  | l, k => dPut l k d
def kSx4 (i : Nat) (d : PyData) (s : S) : Option LV → Option LV → Option (Fl × S)
  | some l, some k => kSx5 i s (stIx d l k)
  | _, _ => none
def kSx3 (i : Nat) (d : PyData) : Option (Opd × S) → Option (Fl × S)
  | some q => kSx4 i d q.2 (resO q.2 (.slot i)) (resO q.2 q.1)
  | none => none
def kSx2 (i : Nat) (mi : ME) (d : PyData) (s : S) : Option LV → Option (Fl × S)
  | some _ => kSx3 i d (mi s)
  | none => none
def kSx1 (i : Nat) (mi : ME) : Option (PyData × S) → Option (Fl × S)
  | some p => kSx2 i mi p.1 p.2 (resO p.2 (.slot i))
  | none => none
theorem r_setIx (i : Nat) (mi : ME) (me : MF) (st : S) : mSetIx i mi me st = kSx1 i mi (me st) := by
  unfold mSetIx
  cases me st with
  | none => rfl
  | some p =>
    simp only [Option.bind_some, kSx1]
    cases resO p.2 (.slot i) with
    | none => rfl
    | some l0 =>
      simp only [Option.bind_some, kSx2]
      cases mi p.2 with
      | none => rfl
      | some q =>
        simp only [Option.bind_some, kSx3]
        cases resO q.2 (.slot i) with
        | none => rfl
        | some l =>
          simp only [Option.bind_some]
          cases resO q.2 q.1 with
          | none => rfl
          | some k =>
            simp only [Option.bind_some, kSx4]
            cases l with
            | lst ds =>
              cases k with
              | sh e =>
                cases e with
                | int j =>
                  simp only [stIx]
                  cases ixN ds.length j with
                  | none => rfl
                  | some n => exact kPut0_eq _ _ _
                | _ => rfl
              | _ => rfl
            | _ =>
              simp only [stIx]
              cases dPut _ k p.1 with
              | none => rfl
              | some l' => exact kPut0_eq _ _ _
theorem r_sx1 (i : Nat) (mi : ME) (d : PyData) (s : S) : kSx1 i mi (some (d, s)) = kSx2 i mi d s (resO s (.slot i)) := rfl
theorem r_sx2 (i : Nat) (mi : ME) (d : PyData) (s : S) (l : LV) : kSx2 i mi d s (some l) = kSx3 i d (mi s) := rfl
theorem r_sx3 (i : Nat) (d : PyData) (o : Opd) (s : S) : kSx3 i d (some (o, s)) = kSx4 i d s (resO s (.slot i)) (resO s o) := rfl
theorem r_sx4 (i : Nat) (d : PyData) (s : S) (l k : LV) : kSx4 i d s (some l) (some k) = kSx5 i s (stIx d l k) := rfl
theorem r_sx5 (i : Nat) (s : S) (l : LV) : kSx5 i s (some l) = kPut0 i l s := rfl
theorem r_stIx (d : PyData) (ds : List PyData) (j : Int) : stIx d (.lst ds) (.sh (.int j)) = (ixN ds.length j).bind fun n => some (.lst (ds.set n d)) := rfl
def kAp2 (i : Nat) (d : PyData) (s : S) : Option LV → Option (Fl × S)
  | some (.lst ds) => if ds.length < 16777216 then kPut0 i (.lst (ds ++ [d])) s else none
  | _ => none
def kAp1 (i : Nat) : Option (PyData × S) → Option (Fl × S)
  | some p => kAp2 i p.1 p.2 (resO p.2 (.slot i))
  | none => none
def kAp0 (i : Nat) (me : MF) (st : S) : Option LV → Option (Fl × S)
  | some l => l.rd?.bind fun _ => kAp1 i (me st)
  | none => none
theorem r_app (i : Nat) (me : MF) (st : S) : mApp i me st = kAp0 i me st (resO st (.slot i)) := by
  unfold mApp
  cases resO st (.slot i) with
  | none => rfl
  | some l =>
    simp only [Option.bind_some, kAp0]
    cases l.rd? with
    | none => rfl
    | some ds =>
      simp only [Option.bind_some]
      cases me st with
      | none => rfl
      | some p =>
        simp only [Option.bind_some, kAp1]
        cases resO p.2 (.slot i) with
        | none => rfl
        | some l =>
          cases l <;> simp only [Option.bind_some, kAp2]
          split
          · exact kPut0_eq _ _ _
          · rfl
theorem r_ap0 (i : Nat) (me : MF) (st : S) (ds : List PyData) : kAp0 i me st (some (.lst ds)) = kAp1 i (me st) := rfl
theorem r_ap1 (i : Nat) (d : PyData) (s : S) : kAp1 i (some (d, s)) = kAp2 i d s (resO s (.slot i)) := rfl
theorem r_ap2 (i : Nat) (d : PyData) (s : S) (ds : List PyData) : kAp2 i d s (some (.lst ds)) = if ds.length < 16777216 then kPut0 i (.lst (ds ++ [d])) s else none := rfl
def kAu3 (k : Nat) (s : S) : Option LV → Option (Fl × S)
  | some (.sh d) => kNx (setS false k (.sh d) s)
  | _ => none
def kAu2 (k : Nat) (g : LV → LV → Option LV) (d : PyData) (s : S) : Option LV → Option (Fl × S)
  | some y => kAu3 k s (g (.sh d) y)
  | none => none
def kAu1 (k : Nat) (g : LV → LV → Option LV) (d : PyData) : Option (Opd × S) → Option (Fl × S)
  | some p => kAu2 k g d p.2 (resO p.2 p.1)
  | none => none
def kAu0 (k : Nat) (g : LV → LV → Option LV) (m : ME) (st : S) : Option LV → Option (Fl × S)
  | some (.sh d) => kAu1 k g d (m st)
  | _ => none
theorem r_aug (k : Nat) (g : LV → LV → Option LV) (m : ME) (st : S) : mAug k g m st = kAu0 k g m st (resO st (.slot k)) := by
  unfold mAug
  cases resO st (.slot k) with
  | none => rfl
  | some l =>
    cases l <;> simp only [Option.bind_some, kAu0]
    cases m st with
    | none => rfl
    | some p =>
      simp only [Option.bind_some, kAu1]
      cases resO p.2 p.1 with
      | none => rfl
      | some y =>
        simp only [Option.bind_some, kAu2]
        cases g _ y with
        | none => rfl
        | some r =>
          cases r <;> simp only [Option.bind_some, kAu3]
          cases setS false k _ p.2 <;> rfl
theorem r_au0 (k : Nat) (g : LV → LV → Option LV) (m : ME) (st : S) (d : PyData) : kAu0 k g m st (some (.sh d)) = kAu1 k g d (m st) := rfl
theorem r_au1 (k : Nat) (g : LV → LV → Option LV) (d : PyData) (o : Opd) (s : S) : kAu1 k g d (some (o, s)) = kAu2 k g d s (resO s o) := rfl
theorem r_au2 (k : Nat) (g : LV → LV → Option LV) (d : PyData) (s : S) (y : LV) : kAu2 k g d s (some y) = kAu3 k s (g (.sh d) y) := rfl
theorem r_au3 (k : Nat) (d : PyData) (s : S) : kAu3 k s (some (.sh d)) = kNx (setS false k (.sh d) s) := rfl
/-! targets -/
theorem r_gn (c : Bool) (k : Nat) (d : PyData) (st : S) : mGn c k d st = setS c k (.sh d) st := rfl
theorem r_gt (gs : MGs) (ds : List PyData) (st : S) : mGt gs (.tuple ds) st = gs ds st := rfl
def kGc (gs : MGs) (ds : List PyData) : Option S → Option S
  | some s => gs ds s
  | none => none
theorem r_gcons (g : MG) (gs : MGs) (d : PyData) (ds : List PyData) (st : S) : mGcons g gs (d :: ds) st = kGc gs ds (g d st) := by
  show (g d st).bind _ = _
  cases g d st <;> rfl
theorem r_kGc (gs : MGs) (ds : List PyData) (s : S) : kGc gs ds (some s) = gs ds s := rfl
theorem r_gnil (st : S) : mGnil [] st = some st := rfl
/-! walks -/
def kIt : Option (Opd × S) → Option (Itm × S)
  | some p => pinO p.1 p.2
  | none => none
theorem r_it (m : ME) (st : S) : mIt m st = kIt (m st) := by
  show (m st).bind _ = _
  cases m st <;> rfl
theorem r_itL (ds : List PyData) (s : S) : kIt (some (.lv (.sh (.list ds)), s)) = some (⟨ds, [.lv (.sh (.list ds))], []⟩, s) := rfl
theorem r_itT (ds : List PyData) (s : S) : kIt (some (.lv (.sh (.tuple ds)), s)) = some (⟨ds, [.lv (.sh (.tuple ds))], []⟩, s) := rfl
theorem r_itO (ds : List PyData) (s : S) : kIt (some (.lv (.lst ds), s)) = some (⟨ds, [.lv (.sh (.list ds))], []⟩, s) := rfl
def kPin (i : Nat) (ls : List (Option Sl)) : Option (Option Sl) → Option (Itm × S)
  | some (some ⟨.lst ds, p, c⟩) => some (⟨ds, [.slot i], [i]⟩, ⟨ls.set i (some ⟨.ro ds, p, c⟩)⟩)
  | some (some ⟨.ro ds, _, _⟩) => some (⟨ds, [.slot i], []⟩, ⟨ls⟩)
  | some (some ⟨.rv ds, _, _⟩) => some (⟨ds, [.slot i], []⟩, ⟨ls⟩)
  | some (some ⟨.scr ds, _, _⟩) => some (⟨ds, [.slot i], []⟩, ⟨ls⟩)
  | _ => none
theorem r_itS (i : Nat) (ls : List (Option Sl)) : kIt (some (.slot i, ⟨ls⟩)) = kPin i ls ls[i]? := rfl
theorem r_pinL (i : Nat) (ls : List (Option Sl)) (ds : List PyData) (p c : Bool) : kPin i ls (some (some ⟨.lst ds, p, c⟩)) = some (⟨ds, [.slot i], [i]⟩, ⟨ls.set i (some ⟨.ro ds, p, c⟩)⟩) := rfl
theorem r_pinR (i : Nat) (ls : List (Option Sl)) (ds : List PyData) (p c : Bool) : kPin i ls (some (some ⟨.ro ds, p, c⟩)) = some (⟨ds, [.slot i], []⟩, ⟨ls⟩) := rfl
theorem r_pinV (i : Nat) (ls : List (Option Sl)) (ds : List PyData) (p c : Bool) : kPin i ls (some (some ⟨.rv ds, p, c⟩)) = some (⟨ds, [.slot i], []⟩, ⟨ls⟩) := rfl
theorem r_pinX (i : Nat) (ls : List (Option Sl)) (ds : List PyData) (p c : Bool) : kPin i ls (some (some ⟨.scr ds, p, c⟩)) = some (⟨ds, [.slot i], []⟩, ⟨ls⟩) := rfl
def kR2 (s : S) : Option Int → Option (Itm × S)
  | some j => if small62 j then some (⟨rangeD 0 j.toNat, [], []⟩, s) else none
  | none => none
def kR1 : Option (Opd × S) → Option (Itm × S)
  | some p => kR2 p.2 (intO p.2 p.1)
  | none => none
theorem r_rng1 (m : ME) (st : S) : mRng1 m st = kR1 (m st) := by
  unfold mRng1
  cases m st with
  | none => rfl
  | some p =>
    simp only [Option.bind_some, kR1]
    cases intO p.2 p.1 <;> rfl
theorem r_kR1 (j : Int) (s : S) : kR1 (some (.lv (.sh (.int j)), s)) = if small62 j then some (⟨rangeD 0 j.toNat, [], []⟩, s) else none := rfl
def kQ2 (o : Opd) : Option (Opd × S) → Option (Itm × S)
  | some q => (intO q.2 o).bind fun i => (intO q.2 q.1).bind fun j => if small62 i && small62 j then some (⟨rangeD i (j - i).toNat, [], []⟩, q.2) else none
  | none => none
def kQ1 (mb : ME) : Option (Opd × S) → Option (Itm × S)
  | some p => kQ2 p.1 (mb p.2)
  | none => none
theorem r_rng2 (ma mb : ME) (st : S) : mRng2 ma mb st = kQ1 mb (ma st) := by
  unfold mRng2
  cases ma st with
  | none => rfl
  | some p =>
    simp only [Option.bind_some, kQ1]
    cases mb p.2 <;> rfl
theorem r_kQ1 (mb : ME) (o : Opd) (s : S) : kQ1 mb (some (o, s)) = kQ2 o (mb s) := rfl
theorem r_kQ2 (i j : Int) (s : S) : kQ2 (.lv (.sh (.int i))) (some (.lv (.sh (.int j)), s)) = if small62 i && small62 j then some (⟨rangeD i (j - i).toNat, [], []⟩, s) else none := rfl
/-! loops -/
def kUnl (is : List Nat) : Option (Fl × S) → Option (Fl × S)
  | some r => some (r.1, unlock is r.2)
  | none => none
def kFor (g : MG) (body : MS) : Option (Itm × S) → Option (Fl × S)
  | some it => kUnl it.1.lock (forLoop g body it.1.items it.2)
  | none => none
theorem r_for (mi : MI) (g : MG) (body : MS) (st : S) : mFor mi g body st = kFor g body (mi st) := by
  unfold mFor
  cases mi st with
  | none => rfl
  | some it =>
    simp only [Option.bind_some, kFor]
    cases forLoop g body it.1.items it.2 <;> rfl
theorem r_kFor (g : MG) (body : MS) (ds : List PyData) (o : List Opd) (is : List Nat) (s : S) : kFor g body (some (⟨ds, o, is⟩, s)) = kUnl is (forLoop g body ds s) := rfl
theorem r_kUnl (is : List Nat) (f : Fl) (s : S) : kUnl is (some (f, s)) = some (f, unlock is s) := rfl
theorem r_unl0 (s : S) : unlock [] s = s := rfl
def kUnS (is : List Nat) (i : Nat) (ls : List (Option Sl)) : Option (Option Sl) → S
  | some (some ⟨.ro ds, p, c⟩) => unlock is ⟨ls.set i (some ⟨.lst ds, p, c⟩)⟩
  | _ => unlock is ⟨ls⟩
theorem r_unl1 (i : Nat) (is : List Nat) (ls : List (Option Sl)) : unlock (i :: is) ⟨ls⟩ = kUnS is i ls ls[i]? := by
  show unlock is (match ls[i]? with | some (some ⟨.ro ds, p, c⟩) => _ | _ => _) = _
  cases ls[i]? with
  | none => rfl
  | some x =>
    cases x with
    | none => rfl
    | some x => obtain ⟨lv, p, c⟩ := x; cases lv <;> rfl
theorem r_unS (is : List Nat) (i : Nat) (ls : List (Option Sl)) (ds : List PyData) (p c : Bool) : kUnS is i ls (some (some ⟨.ro ds, p, c⟩)) = unlock is ⟨ls.set i (some ⟨.lst ds, p, c⟩)⟩ := rfl
def kLc2 (is : List Nat) : Option (List PyData × S) → Option (Opd × S)
  | some r => some (.lv (.lst r.1), unlock is r.2)
  | none => none
def kLc1 (vs : List Nat) (g : MG) (mt : MT) (me : MF) : Option (Itm × S) → Option (Opd × S)
  | some it => if freshS vs it.2 then kLc2 it.1.lock (lcLoop vs g mt me it.1.items [] (wipeS vs it.2)) else none
  | none => none
theorem r_lc (vs : List Nat) (mi : MI) (g : MG) (mt : MT) (me : MF) (st : S) : mLc vs mi g mt me st = kLc1 vs g mt me (mi st) := by
  unfold mLc
  cases mi st with
  | none => rfl
  | some it =>
    simp only [Option.bind_some, kLc1]
    cases lcLoop vs g mt me it.1.items [] (wipeS vs it.2) <;> rfl
theorem r_lc1 (vs : List Nat) (g : MG) (mt : MT) (me : MF) (ds : List PyData) (o : List Opd) (is : List Nat) (s : S) : kLc1 vs g mt me (some (⟨ds, o, is⟩, s)) = if freshS vs s then kLc2 is (lcLoop vs g mt me ds [] (wipeS vs s)) else none := rfl
theorem r_lc2 (is : List Nat) (ds : List PyData) (s : S) : kLc2 is (some (ds, s)) = some (.lv (.lst ds), unlock is s) := rfl
theorem r_wn (ls : List (Option Sl)) : wipeL [] ls = ls := rfl
theorem r_wc (v : Nat) (vs : List Nat) (ls : List (Option Sl)) : wipeL (v :: vs) ls = (wipeL vs ls).set v none := rfl
theorem r_wS (vs : List Nat) (ls : List (Option Sl)) : wipeS vs ⟨ls⟩ = ⟨wipeL vs ls⟩ := rfl
def isF : Option (Option Sl) → Bool
  | some none => true
  | _ => false
theorem r_fn (s : S) : freshS [] s = true := rfl
theorem r_fc (v : Nat) (vs : List Nat) (ls : List (Option Sl)) : freshS (v :: vs) ⟨ls⟩ = (isF ls[v]? && freshS vs ⟨ls⟩) := rfl
theorem r_isF : isF (some none) = true := rfl
/-! slots that are forgotten -/
def kClr (ks : List Nat) : Option (Fl × S) → Option (Fl × S)
  | some (f, s) => some (f, ⟨clrL ks s.ls⟩)
  | none => none
theorem r_clr (ks : List Nat) (m : MS) (st : S) : mClr ks m st = kClr ks (m st) := by
  show (m st).bind _ = _
  cases m st <;> rfl
theorem r_kClr (ks : List Nat) (f : Fl) (ls : List (Option Sl)) : kClr ks (some (f, ⟨ls⟩)) = some (f, ⟨clrL ks ls⟩) := rfl
def kCl (k : Nat) (ls : List (Option Sl)) : Option (Option Sl) → List (Option Sl)
  | some (some x) => if x.lv.isRo then ls else ls.set k none
  | _ => ls
theorem r_cl0 (ls : List (Option Sl)) : clrL [] ls = ls := rfl
theorem r_clk (k : Nat) (ks : List Nat) (ls : List (Option Sl)) : clrL (k :: ks) ls = clrL ks (kCl k ls ls[k]?) := by
  show clrL ks (match ls[k]? with | some (some x) => _ | _ => _) = _
  cases ls[k]? with
  | none => rfl
  | some x => cases x <;> rfl
theorem r_kClN (k : Nat) (ls : List (Option Sl)) : kCl k ls (some none) = ls := rfl
theorem r_kClS (k : Nat) (ls : List (Option Sl)) (x : Sl) : kCl k ls (some (some x)) = if x.lv.isRo then ls else ls.set k none := rfl
/-! the body of a def -/
def kOut (n : Nat) : Option (Fl × S) → Option (LV × List (Option LV))
  | some (.rt r, s) => finR r ((s.ls.take n).map outSl)
  | some (.nx, s) => finR .non ((s.ls.take n).map outSl)
  | _ => none
theorem r_run (n : Nat) (body : MS) (ls : List LV) : runD n body ls = kOut ls.length (body ⟨ls.map entSl ++ List.replicate (n - ls.length) none⟩) := by
  unfold runD
  cases body ⟨ls.map entSl ++ List.replicate (n - ls.length) none⟩ with
  | none => rfl
  | some p => obtain ⟨f, s⟩ := p; cases f <;> rfl
theorem r_outR (n : Nat) (r : LV) (ls : List (Option Sl)) : kOut n (some (.rt r, ⟨ls⟩)) = finR r ((ls.take n).map outSl) := rfl
theorem r_outN (n : Nat) (ls : List (Option Sl)) : kOut n (some (.nx, ⟨ls⟩)) = finR .non ((ls.take n).map outSl) := rfl
theorem r_finS (d : PyData) (as : List (Option LV)) : finR (.sh d) as = some (.sh d, as) := rfl
theorem r_finL (ds : List PyData) (as : List (Option LV)) : finR (.lst ds) as = some (.lst ds, as) := rfl
theorem r_finK (ds : List (Key × PyData)) (as : List (Option LV)) : finR (.dk ds) as = some (.dk ds, as) := rfl
theorem r_finT (ds : List (List Key × PyData)) (as : List (Option LV)) : finR (.dt ds) as = some (.dt ds, as) := rfl
theorem r_finE (ds : List Int) (as : List (Option LV)) : finR (.set ds) as = some (.set ds, as) := rfl
theorem r_ouT (l : LV) (c : Bool) : outSl (some ⟨l, true, c⟩) = if l.isRv then none else some l := rfl
theorem r_ouF (l : LV) (c : Bool) : outSl (some ⟨l, false, c⟩) = none := rfl
theorem r_ouN : outSl none = none := rfl
end Dn
set_option Elab.async false
set_option linter.all false
set_option maxRecDepth 100000
set_option maxHeartbeats 4000000
/-! Den, part 12: operations on given data; loops. -/
namespace Dn
open PySem PySem.Spec PyProof.Rows L2
def kIx : Option PyData → Option LV
  | some d => some (.sh d)
  | none => none
theorem r_kIx (d : PyData) : kIx (some d) = some (.sh d) := rfl
theorem v_addI (i j : Int) : gAdd (.sh (.int i)) (.sh (.int j)) = some (.sh (.int (i + j))) := rfl
theorem v_addI' (i j : Int) : gAddI (.sh (.int i)) (.sh (.int j)) = some (.sh (.int (i + j))) := rfl
theorem v_addT (xs ys : List PyData) : gAdd (.sh (.tuple xs)) (.sh (.tuple ys)) = if xs.length + ys.length ≤ 16777216 then some (.sh (.tuple (xs ++ ys))) else none := by
  show (Option.orElse (if xs.length + ys.length ≤ 16777216 then some (LV.sh (.tuple (xs ++ ys))) else none) fun _ => none) = _
  split <;> rfl
theorem v_addLAA (xs ys : List PyData) : gAdd (.sh (.list xs)) (.sh (.list ys)) = if xs.length + ys.length ≤ 16777216 then some (.lst (xs ++ ys)) else none := by
  show (Option.orElse (if xs.length + ys.length ≤ 16777216 then some (LV.lst (xs ++ ys)) else none) fun _ => none) = _
  split <;> rfl
theorem v_addLAB (xs ys : List PyData) : gAdd (.sh (.list xs)) (.lst ys) = if xs.length + ys.length ≤ 16777216 then some (.lst (xs ++ ys)) else none := by
  show (Option.orElse (if xs.length + ys.length ≤ 16777216 then some (LV.lst (xs ++ ys)) else none) fun _ => none) = _
  split <;> rfl
theorem v_addLAC (xs ys : List PyData) : gAdd (.sh (.list xs)) (.ro ys) = if xs.length + ys.length ≤ 16777216 then some (.lst (xs ++ ys)) else none := by
  show (Option.orElse (if xs.length + ys.length ≤ 16777216 then some (LV.lst (xs ++ ys)) else none) fun _ => none) = _
  split <;> rfl
theorem v_addLAV (xs ys : List PyData) : gAdd (.sh (.list xs)) (.rv ys) = if xs.length + ys.length ≤ 16777216 then some (.lst (xs ++ ys)) else none := by
  show (Option.orElse (if xs.length + ys.length ≤ 16777216 then some (LV.lst (xs ++ ys)) else none) fun _ => none) = _
  split <;> rfl
theorem v_addLBA (xs ys : List PyData) : gAdd (.lst xs) (.sh (.list ys)) = if xs.length + ys.length ≤ 16777216 then some (.lst (xs ++ ys)) else none := by
  show (Option.orElse (if xs.length + ys.length ≤ 16777216 then some (LV.lst (xs ++ ys)) else none) fun _ => none) = _
  split <;> rfl
theorem v_addLBB (xs ys : List PyData) : gAdd (.lst xs) (.lst ys) = if xs.length + ys.length ≤ 16777216 then some (.lst (xs ++ ys)) else none := by
  show (Option.orElse (if xs.length + ys.length ≤ 16777216 then some (LV.lst (xs ++ ys)) else none) fun _ => none) = _
  split <;> rfl
theorem v_addLBC (xs ys : List PyData) : gAdd (.lst xs) (.ro ys) = if xs.length + ys.length ≤ 16777216 then some (.lst (xs ++ ys)) else none := by
  show (Option.orElse (if xs.length + ys.length ≤ 16777216 then some (LV.lst (xs ++ ys)) else none) fun _ => none) = _
  split <;> rfl
theorem v_addLBV (xs ys : List PyData) : gAdd (.lst xs) (.rv ys) = if xs.length + ys.length ≤ 16777216 then some (.lst (xs ++ ys)) else none := by
  show (Option.orElse (if xs.length + ys.length ≤ 16777216 then some (LV.lst (xs ++ ys)) else none) fun _ => none) = _
  split <;> rfl
theorem v_addLCA (xs ys : List PyData) : gAdd (.ro xs) (.sh (.list ys)) = if xs.length + ys.length ≤ 16777216 then some (.lst (xs ++ ys)) else none := by
  show (Option.orElse (if xs.length + ys.length ≤ 16777216 then some (LV.lst (xs ++ ys)) else none) fun _ => none) = _
  split <;> rfl
theorem v_addLCB (xs ys : List PyData) : gAdd (.ro xs) (.lst ys) = if xs.length + ys.length ≤ 16777216 then some (.lst (xs ++ ys)) else none := by
  show (Option.orElse (if xs.length + ys.length ≤ 16777216 then some (LV.lst (xs ++ ys)) else none) fun _ => none) = _
  split <;> rfl
theorem v_addLCC (xs ys : List PyData) : gAdd (.ro xs) (.ro ys) = if xs.length + ys.length ≤ 16777216 then some (.lst (xs ++ ys)) else none := by
  show (Option.orElse (if xs.length + ys.length ≤ 16777216 then some (LV.lst (xs ++ ys)) else none) fun _ => none) = _
  split <;> rfl
theorem v_addLCV (xs ys : List PyData) : gAdd (.ro xs) (.rv ys) = if xs.length + ys.length ≤ 16777216 then some (.lst (xs ++ ys)) else none := by
  show (Option.orElse (if xs.length + ys.length ≤ 16777216 then some (LV.lst (xs ++ ys)) else none) fun _ => none) = _
  split <;> rfl
theorem v_addLVA (xs ys : List PyData) : gAdd (.rv xs) (.sh (.list ys)) = if xs.length + ys.length ≤ 16777216 then some (.lst (xs ++ ys)) else none := by
  show (Option.orElse (if xs.length + ys.length ≤ 16777216 then some (LV.lst (xs ++ ys)) else none) fun _ => none) = _
  split <;> rfl
theorem v_addLVB (xs ys : List PyData) : gAdd (.rv xs) (.lst ys) = if xs.length + ys.length ≤ 16777216 then some (.lst (xs ++ ys)) else none := by
  show (Option.orElse (if xs.length + ys.length ≤ 16777216 then some (LV.lst (xs ++ ys)) else none) fun _ => none) = _
  split <;> rfl
theorem v_addLVC (xs ys : List PyData) : gAdd (.rv xs) (.ro ys) = if xs.length + ys.length ≤ 16777216 then some (.lst (xs ++ ys)) else none := by
  show (Option.orElse (if xs.length + ys.length ≤ 16777216 then some (LV.lst (xs ++ ys)) else none) fun _ => none) = _
  split <;> rfl
theorem v_addLVV (xs ys : List PyData) : gAdd (.rv xs) (.rv ys) = if xs.length + ys.length ≤ 16777216 then some (.lst (xs ++ ys)) else none := by
  show (Option.orElse (if xs.length + ys.length ≤ 16777216 then some (LV.lst (xs ++ ys)) else none) fun _ => none) = _
  split <;> rfl
theorem v_sub (i j : Int) : gSub (.sh (.int i)) (.sh (.int j)) = some (.sh (.int (i - j))) := rfl
theorem v_mulI (i j : Int) (h : (-two64 < i ∧ i < two64) ∨ (-two64 < j ∧ j < two64)) : gMul (.sh (.int i)) (.sh (.int j)) = some (.sh (.int (i * j))) := by
  show ((if decide _ = true then _ else none : Option LV).orElse _) = _
  rw [if_pos (decide_eq_true h)]
  rfl
theorem v_mulI' (i j : Int) (h : (-two64 < i ∧ i < two64) ∨ (-two64 < j ∧ j < two64)) : gMulI (.sh (.int i)) (.sh (.int j)) = some (.sh (.int (i * j))) := by
  show (if decide _ = true then _ else none : Option LV) = _
  rw [if_pos (decide_eq_true h)]
theorem v_mulR (i j : Int) (h : decide (-two64 < j) = true) (h2 : decide (j < two64) = true) : gMul (.sh (.int i)) (.sh (.int j)) = some (.sh (.int (i * j))) := v_mulI i j (.inr ⟨of_decide_eq_true h, of_decide_eq_true h2⟩)
theorem v_mulF (i j : Int) (h : decide (-two64 < i) = true) (h2 : decide (i < two64) = true) : gMul (.sh (.int i)) (.sh (.int j)) = some (.sh (.int (i * j))) := v_mulI i j (.inl ⟨of_decide_eq_true h, of_decide_eq_true h2⟩)
theorem v_mulL (ds : List PyData) (k : Int) (h : -1000000000 ≤ k ∧ k ≤ 1000000000 ∧ ds.length * k.toNat ≤ 16777216) : gMul (.lst ds) (.sh (.int k)) = some (.lst (List.replicate k.toNat ds).flatten) := by
  show (if -1000000000 ≤ k ∧ k ≤ 1000000000 ∧ ds.length * k.toNat ≤ 16777216 then some (LV.lst (List.replicate k.toNat ds).flatten) else none) = _
  rw [if_pos h]
theorem v_fdiv (i j : Int) (h0 : 0 < j) (h1 : j < 1073741824) : gFdiv (.sh (.int i)) (.sh (.int j)) = some (.sh (.int (i / j))) := by
  show (if (decide _ && decide _) = true then _ else none : Option LV) = _
  rw [if_pos (by simp [h0, h1])]
theorem v_mod (i j : Int) (h0 : 0 < j) : gMod (.sh (.int i)) (.sh (.int j)) = some (.sh (.int (i % j))) := by
  show (if decide _ = true then _ else none : Option LV) = _
  rw [if_pos (decide_eq_true h0)]
theorem v_pow (i j : Int) (h0 : 0 ≤ j) (h1 : j ≤ 1000000) (h2 : i.natAbs < 18446744073709551616) : gPow (.sh (.int i)) (.sh (.int j)) = some (.sh (.int (i ^ j.toNat))) := by
  show (if (decide _ && decide _ && decide _) = true then _ else none : Option LV) = _
  rw [if_pos (by simp [h0, h1, h2])]
theorem v_pow18 : gPow (.sh (.int 10)) (.sh (.int 18)) = some (.sh (.int 1000000000000000000)) := rfl
theorem v_lt (i j : Int) : gLt (.sh (.int i)) (.sh (.int j)) = some (.sh (.bool (decide (i < j)))) := rfl
theorem v_le (i j : Int) : gLe (.sh (.int i)) (.sh (.int j)) = some (.sh (.bool (decide (i ≤ j)))) := rfl
theorem v_gt (i j : Int) : gGt (.sh (.int i)) (.sh (.int j)) = some (.sh (.bool (decide (j < i)))) := rfl
theorem v_ge (i j : Int) : gGe (.sh (.int i)) (.sh (.int j)) = some (.sh (.bool (decide (j ≤ i)))) := rfl
theorem v_neg (i : Int) : gNeg (.sh (.int i)) = some (.sh (.int (-i))) := rfl
theorem v_int (i : Int) : gInt (.sh (.int i)) = some (.sh (.int i)) := rfl
theorem v_intB (b : Bool) : gInt (.sh (.bool b)) = some (.sh (.int (if b then 1 else 0))) := rfl
theorem v_min (i j : Int) : gMin2 (.sh (.int i)) (.sh (.int j)) = some (.sh (.int (if j < i then j else i))) := rfl
theorem v_eqI (i j : Int) : gEq (.sh (.int i)) (.sh (.int j)) = some (.sh (.bool (i == j))) := rfl
theorem v_neI (i j : Int) : gNe (.sh (.int i)) (.sh (.int j)) = some (.sh (.bool (!(i == j)))) := rfl
theorem v_eq (l1 l2 : LV) {d e : PyData} (h1 : l1.toD? = some d) (h2 : l2.toD? = some e) (s1 : SeqAt.shaped d = true) (s2 : SeqAt.shaped e = true) : gEq l1 l2 = some (.sh (.bool (PyData.eqv d e))) := by
  simp [gEq, h1, h2, s1, s2]
theorem v_ne (l1 l2 : LV) {d e : PyData} (h1 : l1.toD? = some d) (h2 : l2.toD? = some e) (s1 : SeqAt.shaped d = true) (s2 : SeqAt.shaped e = true) : gNe l1 l2 = some (.sh (.bool (!PyData.eqv d e))) := by
  simp [gNe, h1, h2, s1, s2]
theorem v_isNN (b : Bool) : gIsN b (.sh .none) (.sh .none) = some (.sh (.bool (!b))) := rfl
theorem v_isIN (b : Bool) (i : Int) : gIsN b (.sh (.int i)) (.sh .none) = some (.sh (.bool b)) := rfl
theorem v_isTN (b : Bool) (ds : List PyData) : gIsN b (.sh (.tuple ds)) (.sh .none) = some (.sh (.bool b)) := rfl
theorem v_isLN (b : Bool) (ds : List PyData) : gIsN b (.sh (.list ds)) (.sh .none) = some (.sh (.bool b)) := rfl
theorem v_isVN (b : Bool) (ds : List PyData) : gIsN b (.rv ds) (.sh .none) = some (.sh (.bool b)) := rfl
theorem v_isON (b : Bool) (ds : List PyData) : gIsN b (.lst ds) (.sh .none) = some (.sh (.bool b)) := rfl
theorem v_ixA (ds : List PyData) (i : Int) : gIx (.sh (.list ds)) (.sh (.int i)) = kIx (L2.atI ds i) := by
  have e : ixSeq (.sh (.list ds)) (.sh (.int i)) = kIx (L2.atI ds i) := by
    show (L2.atI ds i).bind _ = _
    cases L2.atI ds i <;> rfl
  unfold gIx
  rw [e]
  cases L2.atI ds i <;> rfl
theorem v_lenA (ds : List PyData) : gLen (.sh (.list ds)) = some (.sh (.int ds.length)) := rfl
theorem v_listA (ds : List PyData) : gList (.sh (.list ds)) = some (.lst ds) := rfl
theorem v_truA (ds : List PyData) : truth? (.sh (.list ds)) = some (!ds.isEmpty) := rfl
theorem v_tupleA (ds : List PyData) : gTuple (.sh (.list ds)) = some (.sh (.tuple ds)) := rfl
theorem v_revA (ds : List PyData) : gRev (.sh (.list ds)) = some (.lst ds.reverse) := rfl
theorem v_slA (ds : List PyData) (lo hi : Option Int) : gSl (.sh (.list ds)) lo hi = some (.lst (cutD ds lo hi)) := rfl
theorem v_inA (b : Bool) (ns : List Int) (i : Int) (hs : SeqAt.shaped (.list (ns.map PyData.int)) = true) : gIn b (.sh (.int i)) (.sh (.list (ns.map PyData.int))) = some (.sh (.bool (b != decide (i ∈ ns)))) := by
  have e : ((ns.map PyData.int).any fun z => PyData.eqv z (.int i)) = decide (i ∈ ns) := by
    rw [List.any_map]
    show (ns.any fun z => z == i) = _
    rw [Bool.eq_iff_iff]
    simp
  show (if (SeqAt.shaped (.int i) && SeqAt.shaped (.list (ns.map PyData.int))) = true then some (LV.bl (b != ((ns.map PyData.int).any fun z => PyData.eqv z (.int i)))) else none) = _
  rw [hs, e]
  rfl
theorem v_ixB (ds : List PyData) (i : Int) : gIx (.lst ds) (.sh (.int i)) = kIx (L2.atI ds i) := by
  have e : ixSeq (.lst ds) (.sh (.int i)) = kIx (L2.atI ds i) := by
    show (L2.atI ds i).bind _ = _
    cases L2.atI ds i <;> rfl
  unfold gIx
  rw [e]
  cases L2.atI ds i <;> rfl
theorem v_lenB (ds : List PyData) : gLen (.lst ds) = some (.sh (.int ds.length)) := rfl
theorem v_listB (ds : List PyData) : gList (.lst ds) = some (.lst ds) := rfl
theorem v_truB (ds : List PyData) : truth? (.lst ds) = some (!ds.isEmpty) := rfl
theorem v_tupleB (ds : List PyData) : gTuple (.lst ds) = some (.sh (.tuple ds)) := rfl
theorem v_revB (ds : List PyData) : gRev (.lst ds) = some (.lst ds.reverse) := rfl
theorem v_slB (ds : List PyData) (lo hi : Option Int) : gSl (.lst ds) lo hi = some (.lst (cutD ds lo hi)) := rfl
theorem v_inB (b : Bool) (ns : List Int) (i : Int) (hs : SeqAt.shaped (.list (ns.map PyData.int)) = true) : gIn b (.sh (.int i)) (.lst (ns.map PyData.int)) = some (.sh (.bool (b != decide (i ∈ ns)))) := by
  have e : ((ns.map PyData.int).any fun z => PyData.eqv z (.int i)) = decide (i ∈ ns) := by
    rw [List.any_map]
    show (ns.any fun z => z == i) = _
    rw [Bool.eq_iff_iff]
    simp
  show (if (SeqAt.shaped (.int i) && SeqAt.shaped (.list (ns.map PyData.int))) = true then some (LV.bl (b != ((ns.map PyData.int).any fun z => PyData.eqv z (.int i)))) else none) = _
  rw [hs, e]
  rfl
theorem v_ixC (ds : List PyData) (i : Int) : gIx (.ro ds) (.sh (.int i)) = kIx (L2.atI ds i) := by
  have e : ixSeq (.ro ds) (.sh (.int i)) = kIx (L2.atI ds i) := by
    show (L2.atI ds i).bind _ = _
    cases L2.atI ds i <;> rfl
  unfold gIx
  rw [e]
  cases L2.atI ds i <;> rfl
theorem v_lenC (ds : List PyData) : gLen (.ro ds) = some (.sh (.int ds.length)) := rfl
theorem v_listC (ds : List PyData) : gList (.ro ds) = some (.lst ds) := rfl
theorem v_truC (ds : List PyData) : truth? (.ro ds) = some (!ds.isEmpty) := rfl
theorem v_tupleC (ds : List PyData) : gTuple (.ro ds) = some (.sh (.tuple ds)) := rfl
theorem v_revC (ds : List PyData) : gRev (.ro ds) = some (.lst ds.reverse) := rfl
theorem v_slC (ds : List PyData) (lo hi : Option Int) : gSl (.ro ds) lo hi = some (.lst (cutD ds lo hi)) := rfl
theorem v_inC (b : Bool) (ns : List Int) (i : Int) (hs : SeqAt.shaped (.list (ns.map PyData.int)) = true) : gIn b (.sh (.int i)) (.ro (ns.map PyData.int)) = some (.sh (.bool (b != decide (i ∈ ns)))) := by
  have e : ((ns.map PyData.int).any fun z => PyData.eqv z (.int i)) = decide (i ∈ ns) := by
    rw [List.any_map]
    show (ns.any fun z => z == i) = _
    rw [Bool.eq_iff_iff]
    simp
  show (if (SeqAt.shaped (.int i) && SeqAt.shaped (.list (ns.map PyData.int))) = true then some (LV.bl (b != ((ns.map PyData.int).any fun z => PyData.eqv z (.int i)))) else none) = _
  rw [hs, e]
  rfl
theorem v_ixV (ds : List PyData) (i : Int) : gIx (.rv ds) (.sh (.int i)) = kIx (L2.atI ds i) := by
  have e : ixSeq (.rv ds) (.sh (.int i)) = kIx (L2.atI ds i) := by
    show (L2.atI ds i).bind _ = _
    cases L2.atI ds i <;> rfl
  unfold gIx
  rw [e]
  cases L2.atI ds i <;> rfl
theorem v_lenV (ds : List PyData) : gLen (.rv ds) = some (.sh (.int ds.length)) := rfl
theorem v_listV (ds : List PyData) : gList (.rv ds) = some (.lst ds) := rfl
theorem v_truV (ds : List PyData) : truth? (.rv ds) = some (!ds.isEmpty) := rfl
theorem v_tupleV (ds : List PyData) : gTuple (.rv ds) = some (.sh (.tuple ds)) := rfl
theorem v_revV (ds : List PyData) : gRev (.rv ds) = some (.lst ds.reverse) := rfl
theorem v_slV (ds : List PyData) (lo hi : Option Int) : gSl (.rv ds) lo hi = some (.lst (cutD ds lo hi)) := rfl
theorem v_inV (b : Bool) (ns : List Int) (i : Int) (hs : SeqAt.shaped (.list (ns.map PyData.int)) = true) : gIn b (.sh (.int i)) (.rv (ns.map PyData.int)) = some (.sh (.bool (b != decide (i ∈ ns)))) := by
  have e : ((ns.map PyData.int).any fun z => PyData.eqv z (.int i)) = decide (i ∈ ns) := by
    rw [List.any_map]
    show (ns.any fun z => z == i) = _
    rw [Bool.eq_iff_iff]
    simp
  show (if (SeqAt.shaped (.int i) && SeqAt.shaped (.list (ns.map PyData.int))) = true then some (LV.bl (b != ((ns.map PyData.int).any fun z => PyData.eqv z (.int i)))) else none) = _
  rw [hs, e]
  rfl
theorem v_ixX (ds : List PyData) (i : Int) : gIx (.scr ds) (.sh (.int i)) = kIx (L2.atI ds i) := by
  have e : ixSeq (.scr ds) (.sh (.int i)) = kIx (L2.atI ds i) := by
    show (L2.atI ds i).bind _ = _
    cases L2.atI ds i <;> rfl
  unfold gIx
  rw [e]
  cases L2.atI ds i <;> rfl
theorem v_lenX (ds : List PyData) : gLen (.scr ds) = some (.sh (.int ds.length)) := rfl
theorem v_listX (ds : List PyData) : gList (.scr ds) = some (.lst ds) := rfl
theorem v_truX (ds : List PyData) : truth? (.scr ds) = some (!ds.isEmpty) := rfl
theorem v_tupleX (ds : List PyData) : gTuple (.scr ds) = some (.sh (.tuple ds)) := rfl
theorem v_revX (ds : List PyData) : gRev (.scr ds) = some (.lst ds.reverse) := rfl
theorem v_slX (ds : List PyData) (lo hi : Option Int) : gSl (.scr ds) lo hi = some (.lst (cutD ds lo hi)) := rfl
theorem v_inX (b : Bool) (ns : List Int) (i : Int) (hs : SeqAt.shaped (.list (ns.map PyData.int)) = true) : gIn b (.sh (.int i)) (.scr (ns.map PyData.int)) = some (.sh (.bool (b != decide (i ∈ ns)))) := by
  have e : ((ns.map PyData.int).any fun z => PyData.eqv z (.int i)) = decide (i ∈ ns) := by
    rw [List.any_map]
    show (ns.any fun z => z == i) = _
    rw [Bool.eq_iff_iff]
    simp
  show (if (SeqAt.shaped (.int i) && SeqAt.shaped (.list (ns.map PyData.int))) = true then some (LV.bl (b != ((ns.map PyData.int).any fun z => PyData.eqv z (.int i)))) else none) = _
  rw [hs, e]
  rfl
theorem v_ixT (ds : List PyData) (i : Int) : gIx (.sh (.tuple ds)) (.sh (.int i)) = kIx (L2.atI ds i) := by
  have e : ixSeq (.sh (.tuple ds)) (.sh (.int i)) = kIx (L2.atI ds i) := by
    show (L2.atI ds i).bind _ = _
    cases L2.atI ds i <;> rfl
  unfold gIx
  rw [e]
  cases L2.atI ds i <;> rfl
theorem v_lenT (ds : List PyData) : gLen (.sh (.tuple ds)) = some (.sh (.int ds.length)) := rfl
theorem v_listT (ds : List PyData) : gList (.sh (.tuple ds)) = some (.lst ds) := rfl
theorem v_truT (ds : List PyData) : truth? (.sh (.tuple ds)) = some (!ds.isEmpty) := rfl
theorem v_inT (b : Bool) (ns : List Int) (i : Int) (hs : SeqAt.shaped (.list (ns.map PyData.int)) = true) : gIn b (.sh (.int i)) (.sh (.tuple (ns.map PyData.int))) = some (.sh (.bool (b != decide (i ∈ ns)))) := by
  have e : ((ns.map PyData.int).any fun z => PyData.eqv z (.int i)) = decide (i ∈ ns) := by
    rw [List.any_map]
    show (ns.any fun z => z == i) = _
    rw [Bool.eq_iff_iff]
    simp
  show (if (SeqAt.shaped (.int i) && SeqAt.shaped (.list (ns.map PyData.int))) = true then some (LV.bl (b != ((ns.map PyData.int).any fun z => PyData.eqv z (.int i)))) else none) = _
  rw [hs, e]
  rfl
theorem v_tupleT (ds : List PyData) : gTuple (.sh (.tuple ds)) = some (.sh (.tuple ds)) := rfl
theorem v_slT (ds : List PyData) (lo hi : Option Int) : gSl (.sh (.tuple ds)) lo hi = some (.sh (.tuple (cutD ds lo hi))) := rfl
theorem v_truI (i : Int) : truth? (.sh (.int i)) = some (i != 0) := rfl
theorem v_truBl (b : Bool) : truth? (.sh (.bool b)) = some b := rfl
theorem v_truN : truth? (.sh .none) = some false := rfl
theorem canLay_ints : ∀ ns : List Int, PyData.canLayAll0 (ns.map PyData.int) = true
  | [] => rfl
  | n :: ns => by
    show (true && PyData.canLayAll0 (ns.map PyData.int)) = true
    rw [canLay_ints ns]
    rfl
theorem depth_ints : ∀ ns : List Int, PyData.depthAll (ns.map PyData.int) = 0
  | [] => rfl
  | n :: ns => by
    show max 0 (PyData.depthAll (ns.map PyData.int)) = 0
    rw [depth_ints ns]
    rfl
theorem sh_ints (ns : List Int) : SeqAt.shaped (.list (ns.map PyData.int)) = true := by
  show (PyData.canLayAll0 (ns.map PyData.int) && decide (PyData.depthAll (ns.map PyData.int) + 1 ≤ 64)) = true
  rw [canLay_ints, depth_ints]
  rfl
theorem sh_intsT (ns : List Int) : SeqAt.shaped (.tuple (ns.map PyData.int)) = true := sh_ints ns
theorem sh_int (i : Int) : SeqAt.shaped (.int i) = true := rfl
/-- a place counted from the left -/
theorem at_nat (ds : List PyData) (i : Nat) : L2.atI ds (i : Int) = ds[i]? := by
  show (ixN ds.length (i : Int)).bind _ = _
  unfold ixN
  rw [if_pos (Int.natCast_nonneg i)]
  by_cases h : (i : Int) < ds.length
  · rw [if_pos h]
    rfl
  · rw [if_neg h, List.getElem?_eq_none (by omega)]
    rfl
theorem at_pos (ds : List PyData) (i : Int) (h : 0 ≤ i) : L2.atI ds i = ds[i.toNat]? := by
  have := at_nat ds i.toNat
  rwa [Int.toNat_of_nonneg h] at this
theorem atI_0 (ds : List PyData) : L2.atI ds 0 = ds[0]? := at_nat ds 0
theorem atI_1 (ds : List PyData) : L2.atI ds 1 = ds[1]? := at_nat ds 1
theorem atI_2 (ds : List PyData) : L2.atI ds 2 = ds[2]? := at_nat ds 2
theorem atI_3 (ds : List PyData) : L2.atI ds 3 = ds[3]? := at_nat ds 3
theorem atI_4 (ds : List PyData) : L2.atI ds 4 = ds[4]? := at_nat ds 4
theorem atI_5 (ds : List PyData) : L2.atI ds 5 = ds[5]? := at_nat ds 5
theorem ixN_nat (n i : Nat) (h : i < n) : ixN n (i : Int) = some i := by
  unfold ixN
  rw [if_pos (Int.natCast_nonneg i), if_pos (by omega)]
  rfl
theorem ixN_0 (n : Nat) : ixN (n + 1) 0 = some 0 := ixN_nat (n + 1) 0 (by omega)
theorem ixN_1 (n : Nat) : ixN (n + 2) 1 = some 1 := ixN_nat (n + 2) 1 (by omega)
theorem ixN_2 (n : Nat) : ixN (n + 3) 2 = some 2 := ixN_nat (n + 3) 2 (by omega)
theorem ixN_3 (n : Nat) : ixN (n + 4) 3 = some 3 := ixN_nat (n + 4) 3 (by omega)
/-! naturals, lists of naturals -/
def di (i : Nat) : PyData := .int (i : Int)
def dl (l : List Nat) : List PyData := l.map di
theorem dl_len (l : List Nat) : (dl l).length = l.length := List.length_map _
theorem dl_nil : dl [] = [] := rfl
theorem dl_cons (a : Nat) (l : List Nat) : dl (a :: l) = .int (a : Int) :: dl l := rfl
theorem dl_app (a b : List Nat) : dl (a ++ b) = dl a ++ dl b := List.map_append
theorem dl_rev (l : List Nat) : (dl l).reverse = dl l.reverse := by unfold dl; rw [List.map_reverse]
theorem dl_ints (l : List Nat) : dl l = (l.map fun i : Nat => (i : Int)).map PyData.int := by unfold dl; rw [List.map_map]; rfl
theorem dl_get (l : List Nat) (i : Nat) : (dl l)[i]? = l[i]?.map di := List.getElem?_map
theorem dl_one (a : Nat) : [PyData.int (a : Int)] = dl [a] := rfl
theorem range_dl (n : Nat) : rangeD 0 n = dl (List.range n) := by
  unfold rangeD dl di
  exact List.map_congr_left fun i _ => by simp
theorem sh_dl (l : List Nat) : SeqAt.shaped (.list (dl l)) = true := by rw [dl_ints]; exact sh_ints _
theorem sh_dlT (l : List Nat) : SeqAt.shaped (.tuple (dl l)) = true := sh_dl l
theorem memNI (l : List Nat) (e : Nat) : decide ((e : Int) ∈ (l.map fun i : Nat => (i : Int))) = decide (e ∈ l) := by
  rw [Bool.eq_iff_iff]
  simp only [decide_eq_true_eq, List.mem_map]
  exact ⟨fun ⟨a, ha, h⟩ => by have : a = e := by omega
                              rwa [← this], fun h => ⟨e, h, rfl⟩⟩
theorem v_inNA (b : Bool) (l : List Nat) (e : Nat) : gIn b (.sh (.int (e : Int))) (.sh (.list (dl l))) = some (.sh (.bool (b != decide (e ∈ l)))) := by
  rw [dl_ints, v_inA b _ _ (sh_ints _), memNI]
theorem v_inNB (b : Bool) (l : List Nat) (e : Nat) : gIn b (.sh (.int (e : Int))) (.lst (dl l)) = some (.sh (.bool (b != decide (e ∈ l)))) := by
  rw [dl_ints, v_inB b _ _ (sh_ints _), memNI]
theorem v_inNC (b : Bool) (l : List Nat) (e : Nat) : gIn b (.sh (.int (e : Int))) (.ro (dl l)) = some (.sh (.bool (b != decide (e ∈ l)))) := by
  rw [dl_ints, v_inC b _ _ (sh_ints _), memNI]
theorem v_inNV (b : Bool) (l : List Nat) (e : Nat) : gIn b (.sh (.int (e : Int))) (.rv (dl l)) = some (.sh (.bool (b != decide (e ∈ l)))) := by
  rw [dl_ints, v_inV b _ _ (sh_ints _), memNI]
theorem v_inNX (b : Bool) (l : List Nat) (e : Nat) : gIn b (.sh (.int (e : Int))) (.scr (dl l)) = some (.sh (.bool (b != decide (e ∈ l)))) := by
  rw [dl_ints, v_inX b _ _ (sh_ints _), memNI]
theorem v_inNT (b : Bool) (l : List Nat) (e : Nat) : gIn b (.sh (.int (e : Int))) (.sh (.tuple (dl l))) = some (.sh (.bool (b != decide (e ∈ l)))) := by
  rw [dl_ints, v_inT b _ _ (sh_ints _), memNI]
theorem at_dl {l : List Nat} {i x : Nat} (h : l[i]? = some x) : L2.atI (dl l) (i : Int) = some (.int (x : Int)) := by
  rw [at_nat, dl_get, h]
  rfl
/-! slots in short -/
abbrev sS (d : PyData) : Option Sl := some ⟨.sh d, false, false⟩
abbrev sL (ds : List PyData) : Option Sl := some ⟨.lst ds, false, false⟩
abbrev sV (ds : List PyData) : Option Sl := some ⟨.rv ds, true, false⟩
abbrev sM (ds : List PyData) : Option Sl := some ⟨.lst ds, true, false⟩
/-! loops -/
theorem for_nil (g : MG) (body : MS) (st : S) : forLoop g body [] st = some (.nx, st) := rfl
def kLoop (g : MG) (body : MS) (ds : List PyData) : Option (Fl × S) → Option (Fl × S)
  | some (.nx, s) => forLoop g body ds s
  | some (.ct, s) => forLoop g body ds s
  | some (.bk, s) => some (.nx, s)
  | some (.rt l, s) => some (.rt l, s)
  | none => none
def kBody (body : MS) : Option S → Option (Fl × S)
  | some s => body s
  | none => none
theorem for_cons (g : MG) (body : MS) (d : PyData) (ds : List PyData) (st : S) : forLoop g body (d :: ds) st = kLoop g body ds (kBody body (g d st)) := by
  show (g d st).bind _ = _
  cases g d st with
  | none => rfl
  | some s1 =>
    show (body s1).bind _ = kLoop g body ds (body s1)
    cases body s1 with
    | none => rfl
    | some p => obtain ⟨f, s⟩ := p; cases f <;> rfl
theorem r_kBody (body : MS) (s : S) : kBody body (some s) = body s := rfl
theorem r_loopN (g : MG) (body : MS) (ds : List PyData) (s : S) : kLoop g body ds (some (.nx, s)) = forLoop g body ds s := rfl
theorem r_loopC (g : MG) (body : MS) (ds : List PyData) (s : S) : kLoop g body ds (some (.ct, s)) = forLoop g body ds s := rfl
theorem r_loopB (g : MG) (body : MS) (ds : List PyData) (s : S) : kLoop g body ds (some (.bk, s)) = some (.nx, s) := rfl
theorem r_loopR (g : MG) (body : MS) (ds : List PyData) (l : LV) (s : S) : kLoop g body ds (some (.rt l, s)) = some (.rt l, s) := rfl
/-- a loop that goes through -/
theorem for_ex {g : MG} {body : MS} {items : List PyData} {st : S} (P : Nat → S → Prop) (h0 : P 0 st)
    (hs : ∀ (i : Nat) (d : PyData) (s : S), items[i]? = some d → P i s → ∃ f s', kBody body (g d s) = some (f, s') ∧ (f = .nx ∨ f = .ct) ∧ P (i + 1) s') : ∃ s', forLoop g body items st = some (.nx, s') ∧ P items.length s' := by
  have go : ∀ (k : Nat) (ds : List PyData) (s : S), items.drop k = ds → k ≤ items.length → P k s → ∃ s', forLoop g body ds s = some (.nx, s') ∧ P items.length s' := by
    intro k ds
    induction ds generalizing k with
    | nil =>
      intro s hd hk hp
      have : k = items.length := by
        have := congrArg List.length hd
        simp at this
        omega
      subst this
      exact ⟨s, rfl, hp⟩
    | cons d ds ih =>
      intro s hd hk hp
      have hlt : k < items.length := by
        rcases Nat.lt_or_ge k items.length with h | h
        · exact h
        · rw [List.drop_eq_nil_of_le h] at hd; cases hd
      have e := List.drop_eq_getElem_cons hlt
      rw [hd] at e
      cases e
      obtain ⟨f, s', e1, hf, hp'⟩ := hs k _ s (List.getElem?_eq_getElem hlt) hp
      obtain ⟨s2, e2, h2⟩ := ih (k + 1) s' rfl hlt hp'
      refine ⟨s2, ?_, h2⟩
      rw [for_cons, e1]
      rcases hf with rfl | rfl
      · exact e2
      · exact e2
  exact go 0 items st rfl (Nat.zero_le _) h0
/-- a loop that may end early: R tells of what is given back -/
theorem for_exR {g : MG} {body : MS} {items : List PyData} {st : S} (P : Nat → S → Prop) (R : Fl → S → Prop) (h0 : P 0 st)
    (hs : ∀ (i : Nat) (d : PyData) (s : S), items[i]? = some d → P i s → ∃ f s', kBody body (g d s) = some (f, s') ∧ (match f with | .nx => P (i + 1) s' | .ct => P (i + 1) s' | .bk => R .nx s' | .rt l => R (.rt l) s'))
    (hend : ∀ s, P items.length s → R .nx s) : ∃ f s', forLoop g body items st = some (f, s') ∧ R f s' := by
  have go : ∀ (k : Nat) (ds : List PyData) (s : S), items.drop k = ds → k ≤ items.length → P k s → ∃ f s', forLoop g body ds s = some (f, s') ∧ R f s' := by
    intro k ds
    induction ds generalizing k with
    | nil =>
      intro s hd hk hp
      have : k = items.length := by
        have := congrArg List.length hd
        simp at this
        omega
      subst this
      exact ⟨.nx, s, rfl, hend s hp⟩
    | cons d ds ih =>
      intro s hd hk hp
      have hlt : k < items.length := by
        rcases Nat.lt_or_ge k items.length with h | h
        · exact h
        · rw [List.drop_eq_nil_of_le h] at hd; cases hd
      have e := List.drop_eq_getElem_cons hlt
      rw [hd] at e
      cases e
      obtain ⟨f, s', e1, hp'⟩ := hs k _ s (List.getElem?_eq_getElem hlt) hp
      rw [for_cons, e1]
      cases f with
      | nx => exact ih (k + 1) s' rfl hlt hp'
      | ct => exact ih (k + 1) s' rfl hlt hp'
      | bk => exact ⟨.nx, s', rfl, hp'⟩
      | rt l => exact ⟨.rt l, s', rfl, hp'⟩
  exact go 0 items st rfl (Nat.zero_le _) h0
def kLcE (vs : List Nat) (g : MG) (mt : MT) (me : MF) (ds acc : List PyData) : Option (PyData × S) → Option (List PyData × S)
  | some q => if acc.length < 16777216 then lcLoop vs g mt me ds (acc ++ [q.1]) (wipeS vs q.2) else none
  | none => none
def kLcT (vs : List Nat) (g : MG) (mt : MT) (me : MF) (ds acc : List PyData) : Option (Bool × S) → Option (List PyData × S)
  | some (true, s) => kLcE vs g mt me ds acc (me s)
  | some (false, s) => lcLoop vs g mt me ds acc (wipeS vs s)
  | none => none
def kLcG (vs : List Nat) (g : MG) (mt : MT) (me : MF) (ds acc : List PyData) : Option S → Option (List PyData × S)
  | some s => kLcT vs g mt me ds acc (mt s)
  | none => none
theorem lc_cons (vs : List Nat) (g : MG) (mt : MT) (me : MF) (d : PyData) (ds acc : List PyData) (st : S) : lcLoop vs g mt me (d :: ds) acc st = kLcG vs g mt me ds acc (g d st) := by
  show (g d st).bind _ = _
  cases g d st with
  | none => rfl
  | some s1 =>
    show (mt s1).bind _ = kLcT vs g mt me ds acc (mt s1)
    cases mt s1 with
    | none => rfl
    | some p =>
      obtain ⟨b, s⟩ := p
      cases b with
      | false => rfl
      | true =>
        show (me s).bind _ = kLcE vs g mt me ds acc (me s)
        cases me s <;> rfl
/-- one turn of a comprehension: what is added, the state behind it -/
def lcTurn (vs : List Nat) (g : MG) (mt : MT) (me : MF) (d : PyData) (st : S) : Option (Option PyData × S) := (g d st).bind fun s1 => (mt s1).bind fun p => if p.1 then (me p.2).bind fun q => some (some q.1, wipeS vs q.2) else some (none, wipeS vs p.2)
def kT2 (vs : List Nat) : Option (PyData × S) → Option (Option PyData × S)
  | some q => some (some q.1, wipeS vs q.2)
  | none => none
def kT1 (vs : List Nat) (me : MF) : Option (Bool × S) → Option (Option PyData × S)
  | some (true, s) => kT2 vs (me s)
  | some (false, s) => some (none, wipeS vs s)
  | none => none
def kT0 (vs : List Nat) (mt : MT) (me : MF) : Option S → Option (Option PyData × S)
  | some s => kT1 vs me (mt s)
  | none => none
theorem r_turn (vs : List Nat) (g : MG) (mt : MT) (me : MF) (d : PyData) (st : S) : lcTurn vs g mt me d st = kT0 vs mt me (g d st) := by
  unfold lcTurn
  cases g d st with
  | none => rfl
  | some s1 =>
    simp only [Option.bind_some, kT0]
    cases mt s1 with
    | none => rfl
    | some p =>
      obtain ⟨b, s⟩ := p
      cases b with
      | false => rfl
      | true =>
        simp only [Option.bind_some, kT1, if_true]
        cases me s <;> rfl
theorem r_kT0 (vs : List Nat) (mt : MT) (me : MF) (s : S) : kT0 vs mt me (some s) = kT1 vs me (mt s) := rfl
theorem r_kT1 (vs : List Nat) (me : MF) (s : S) : kT1 vs me (some (true, s)) = kT2 vs (me s) := rfl
theorem r_kT1F (vs : List Nat) (me : MF) (s : S) : kT1 vs me (some (false, s)) = some (none, wipeS vs s) := rfl
theorem r_kT2 (vs : List Nat) (d : PyData) (s : S) : kT2 vs (some (d, s)) = some (some d, wipeS vs s) := rfl
/-- a comprehension, turn by turn -/
theorem lc_ex {vs : List Nat} {g : MG} {mt : MT} {me : MF} {items : List PyData} {st : S} (P : Nat → List PyData → S → Prop) (hz : items.length ≤ 16777216) (h0 : P 0 [] st)
    (hs : ∀ (i : Nat) (d : PyData) (acc : List PyData) (s : S), items[i]? = some d → P i acc s → ∃ o s', lcTurn vs g mt me d s = some (o, s') ∧ P (i + 1) (acc ++ o.toList) s') :
    ∃ out s', lcLoop vs g mt me items [] st = some (out, s') ∧ P items.length out s' := by
  have go : ∀ (k : Nat) (ds acc : List PyData) (s : S), items.drop k = ds → k ≤ items.length → acc.length ≤ k → P k acc s → ∃ out s', lcLoop vs g mt me ds acc s = some (out, s') ∧ P items.length out s' := by
    intro k ds
    induction ds generalizing k with
    | nil =>
      intro acc s hd hk ha hp
      have : k = items.length := by
        have := congrArg List.length hd
        simp at this
        omega
      subst this
      exact ⟨acc, s, rfl, hp⟩
    | cons d ds ih =>
      intro acc s hd hk ha hp
      have hlt : k < items.length := by
        rcases Nat.lt_or_ge k items.length with h | h
        · exact h
        · rw [List.drop_eq_nil_of_le h] at hd; cases hd
      have e := List.drop_eq_getElem_cons hlt
      rw [hd] at e
      cases e
      obtain ⟨o, s', e1, hp'⟩ := hs k _ acc s (List.getElem?_eq_getElem hlt) hp
      rw [lc_cons]
      rw [r_turn] at e1
      cases eg : g items[k] s with
      | none => rw [eg] at e1; cases e1
      | some s1 =>
        rw [eg] at e1
        simp only [kLcG]
        rw [r_kT0] at e1
        cases et : mt s1 with
        | none => rw [et] at e1; cases e1
        | some p =>
          rw [et] at e1
          obtain ⟨b, s2⟩ := p
          cases b with
          | false =>
            rw [r_kT1F] at e1
            cases e1
            refine ih (k + 1) acc _ rfl hlt (by omega) ?_
            simpa using hp'
          | true =>
            rw [r_kT1] at e1
            simp only [kLcT]
            cases ee : me s2 with
            | none => rw [ee] at e1; cases e1
            | some q =>
              rw [ee] at e1
              obtain ⟨x, s3⟩ := q
              rw [r_kT2] at e1
              cases e1
              simp only [kLcE]
              rw [if_pos (by omega)]
              exact ih (k + 1) _ _ rfl hlt (by simp; omega) hp'
  exact go 0 items [] st rfl (Nat.zero_le _) (Nat.le_refl _) h0
/-- a comprehension that leaves the state as it was -/
theorem lc_fm {vs : List Nat} {g : MG} {mt : MT} {me : MF} {items : List PyData} {st : S} (f : PyData → Option PyData) (hz : items.length ≤ 16777216) (hs : ∀ d ∈ items, lcTurn vs g mt me d st = some (f d, st)) :
    lcLoop vs g mt me items [] st = some (items.filterMap f, st) := by
  obtain ⟨out, s', e, h1, h2⟩ := lc_ex (vs := vs) (g := g) (mt := mt) (me := me) (items := items) (st := st) (fun k acc s => s = st ∧ acc = (items.take k).filterMap f) hz ⟨rfl, rfl⟩ (fun i d acc s hi hp => by
    obtain ⟨rfl, rfl⟩ := hp
    refine ⟨f d, s, hs d (List.mem_of_getElem? hi), rfl, ?_⟩
    have hlt := (List.getElem?_eq_some_iff.mp hi).1
    have hd := (List.getElem?_eq_some_iff.mp hi).2
    rw [List.take_succ, hi]
    simp only [Option.toList_some, List.filterMap_append, List.filterMap_cons, List.filterMap_nil]
    cases f d <;> rfl)
  rw [e, h1, h2, List.take_length]
theorem lc_map {vs : List Nat} {g : MG} {mt : MT} {me : MF} {items : List PyData} {st : S} (f : PyData → PyData) (hz : items.length ≤ 16777216) (hs : ∀ d ∈ items, lcTurn vs g mt me d st = some (some (f d), st)) :
    lcLoop vs g mt me items [] st = some (items.map f, st) := by
  rw [lc_fm (fun d => some (f d)) hz hs]
  congr 2
  induction items with
  | nil => rfl
  | cons d ds ih => simp
/-- a loop that computes step by step -/
theorem for_fold {α σ : Type} {g : MG} {body : MS} (e : α → PyData) (enc : σ → S) (f : σ → α → σ) (P : List α → σ → Prop) {xs : List α} {s0 : σ} (h0 : P [] s0)
    (hs : ∀ (pre : List α) (a : α) (post : List α) (s : σ), xs = pre ++ a :: post → P pre s → (∃ fl, (fl = .nx ∨ fl = .ct) ∧ kBody body (g (e a) (enc s)) = some (fl, enc (f s a))) ∧ P (pre ++ [a]) (f s a)) :
    forLoop g body (xs.map e) (enc s0) = some (.nx, enc (xs.foldl f s0)) ∧ P xs (xs.foldl f s0) := by
  have go : ∀ (post pre : List α) (s : σ), xs = pre ++ post → P pre s → forLoop g body (post.map e) (enc s) = some (.nx, enc (post.foldl f s)) ∧ P xs (post.foldl f s) := by
    intro post
    induction post with
    | nil => intro pre s hx hp; rw [List.append_nil] at hx; subst hx; exact ⟨rfl, hp⟩
    | cons a post ih =>
      intro pre s hx hp
      obtain ⟨⟨fl, hf, e1⟩, hp'⟩ := hs pre a post s hx hp
      obtain ⟨e2, h2⟩ := ih (pre ++ [a]) (f s a) (by rw [hx]; simp) hp'
      refine ⟨?_, h2⟩
      rw [List.map_cons, for_cons, e1]
      rcases hf with rfl | rfl
      · exact e2
      · exact e2
  exact go xs [] s0 rfl h0
/-- .. whatever stands there -/
theorem for_foldA {α σ : Type} {g : MG} {body : MS} (e : α → PyData) (enc : σ → S) (f : σ → α → σ) {xs : List α} {s0 : σ}
    (hs : ∀ (a : α) (s : σ), a ∈ xs → kBody body (g (e a) (enc s)) = some (.nx, enc (f s a))) : forLoop g body (xs.map e) (enc s0) = some (.nx, enc (xs.foldl f s0)) :=
  (for_fold e enc f (fun _ _ => True) trivial (fun pre a post s hx _ => ⟨⟨.nx, .inl rfl, hs a s (by rw [hx]; simp)⟩, trivial⟩)).1
/-- a loop that goes back at the first item that p finds -/
def orNx {α : Type} (st : S) (r : α → Fl × S) : Option α → Fl × S
  | some a => r a
  | none => (.nx, st)
theorem for_find {α : Type} {g : MG} {body : MS} (e : α → PyData) {st : S} (p : α → Bool) (r : α → Fl × S) {xs : List α} (hr : ∀ a, ∃ l, (r a).1 = .rt l)
    (hs : ∀ a, a ∈ xs → kBody body (g (e a) st) = if p a then some (r a) else some (.nx, st)) : forLoop g body (xs.map e) st = some (orNx st r (xs.find? p)) := by
  induction xs with
  | nil => rfl
  | cons a xs ih =>
    rw [List.map_cons, for_cons, hs a List.mem_cons_self, List.find?_cons]
    by_cases h : p a = true
    · rw [if_pos h]
      obtain ⟨l, hl⟩ := hr a
      simp only [h, orNx]
      generalize r a = q at hl ⊢
      obtain ⟨fl, s⟩ := q
      cases hl
      rfl
    · have h' : p a = false := by simpa using h
      rw [if_neg h]
      simp only [h']
      exact ih fun b hb => hs b (List.mem_cons_of_mem _ hb)
/-- comprehensions over encoded lists -/
theorem lc_fmE {α β : Type} {vs : List Nat} {g : MG} {mt : MT} {me : MF} (e : α → PyData) (e' : β → PyData) (f : α → Option β) {xs : List α} {st : S} (hz : xs.length ≤ 16777216) (hs : ∀ a ∈ xs, lcTurn vs g mt me (e a) st = some ((f a).map e', st)) :
    lcLoop vs g mt me (xs.map e) [] st = some ((xs.filterMap f).map e', st) := by
  obtain ⟨out, s', e1, h1, h2⟩ := lc_ex (vs := vs) (g := g) (mt := mt) (me := me) (items := xs.map e) (st := st) (fun k acc s => s = st ∧ acc = ((xs.take k).filterMap f).map e') (by simpa using hz) ⟨rfl, rfl⟩ (fun i d acc s hi hp => by
    obtain ⟨rfl, rfl⟩ := hp
    rw [List.getElem?_map] at hi
    obtain ⟨a, ha, rfl⟩ := Option.map_eq_some_iff.mp hi
    refine ⟨_, _, hs a (List.mem_of_getElem? ha), rfl, ?_⟩
    rw [List.take_succ, ha]
    simp only [Option.toList_some, List.filterMap_append, List.filterMap_cons, List.filterMap_nil, List.map_append]
    cases f a <;> rfl)
  rw [e1, h1, h2]
  simp
theorem lc_mapE {α β : Type} {vs : List Nat} {g : MG} {mt : MT} {me : MF} (e : α → PyData) (e' : β → PyData) (f : α → β) {xs : List α} {st : S} (hz : xs.length ≤ 16777216) (hs : ∀ a ∈ xs, lcTurn vs g mt me (e a) st = some (some (e' (f a)), st)) :
    lcLoop vs g mt me (xs.map e) [] st = some ((xs.map f).map e', st) := by
  rw [lc_fmE e e' (fun a => some (f a)) hz (fun a ha => hs a ha)]
  simp
theorem lc_filE {α : Type} {vs : List Nat} {g : MG} {mt : MT} {me : MF} (e : α → PyData) (p : α → Bool) {xs : List α} {st : S} (hz : xs.length ≤ 16777216) (hs : ∀ a ∈ xs, lcTurn vs g mt me (e a) st = some (if p a then some (e a) else none, st)) :
    lcLoop vs g mt me (xs.map e) [] st = some ((xs.filter p).map e, st) := by
  rw [lc_fmE e e (fun a => if p a then some a else none) hz (fun a ha => by rw [hs a ha]; cases p a <;> rfl)]
  congr 3
  induction xs with
  | nil => rfl
  | cons a xs ih =>
    rw [List.filterMap_cons, List.filter_cons]
    cases p a <;> simp [ih (by simp at hz; omega) (fun b hb => hs b (List.mem_cons_of_mem _ hb))]
/-- a comprehension whose turns change the state -/
theorem lc_stE {α β σ : Type} {vs : List Nat} {g : MG} {mt : MT} {me : MF} (e : α → PyData) (e' : β → PyData) (enc : σ → S) (P : List β → σ → Prop) {xs : List α} {s0 : σ} (hz : xs.length ≤ 16777216) (h0 : P [] s0)
    (hs : ∀ (a : α) (out : List β) (s : σ), a ∈ xs → P out s → ∃ (b : Option β) (s' : σ), lcTurn vs g mt me (e a) (enc s) = some (b.map e', enc s') ∧ P (out ++ b.toList) s') : ∃ (out : List β) (s' : σ), lcLoop vs g mt me (xs.map e) [] (enc s0) = some (out.map e', enc s') ∧ P out s' := by
  obtain ⟨out, s', e1, o2, t, rfl, rfl, hp⟩ := lc_ex (vs := vs) (g := g) (mt := mt) (me := me) (items := xs.map e) (st := enc s0) (fun _ acc s => ∃ (o2 : List β) (t : σ), acc = o2.map e' ∧ s = enc t ∧ P o2 t) (by simpa using hz) ⟨[], s0, rfl, rfl, h0⟩ (fun i d acc s hi hp => by
    obtain ⟨o2, t, rfl, rfl, hp⟩ := hp
    rw [List.getElem?_map] at hi
    obtain ⟨a, ha, rfl⟩ := Option.map_eq_some_iff.mp hi
    obtain ⟨b, t', e1, hp'⟩ := hs a o2 t (List.mem_of_getElem? ha) hp
    exact ⟨_, _, e1, o2 ++ b.toList, t', by cases b <;> simp, rfl, hp'⟩)
  exact ⟨o2, t, e1, hp⟩
/-! the same over lists of naturals -/
theorem lc_filN {vs : List Nat} {g : MG} {mt : MT} {me : MF} (p : Nat → Bool) {l : List Nat} {st : S} (hz : l.length ≤ 16777216) (hs : ∀ a ∈ l, lcTurn vs g mt me (.int (a : Int)) st = some (if p a then some (.int (a : Int)) else none, st)) :
    lcLoop vs g mt me (dl l) [] st = some (dl (l.filter p), st) := lc_filE di p hz hs
theorem lc_mapN {vs : List Nat} {g : MG} {mt : MT} {me : MF} (f : Nat → PyData) {l : List Nat} {st : S} (hz : l.length ≤ 16777216) (hs : ∀ a ∈ l, lcTurn vs g mt me (.int (a : Int)) st = some (some (f a), st)) :
    lcLoop vs g mt me (dl l) [] st = some (l.map f, st) := by
  have := lc_mapE (vs := vs) (g := g) (mt := mt) (me := me) di id f hz hs
  rwa [List.map_id] at this
theorem lc_mapNN {vs : List Nat} {g : MG} {mt : MT} {me : MF} (f : Nat → Nat) {l : List Nat} {st : S} (hz : l.length ≤ 16777216) (hs : ∀ a ∈ l, lcTurn vs g mt me (.int (a : Int)) st = some (some (.int (f a : Nat)), st)) :
    lcLoop vs g mt me (dl l) [] st = some (dl (l.map f), st) := lc_mapE di di f hz hs
theorem lc_fmN {vs : List Nat} {g : MG} {mt : MT} {me : MF} (f : Nat → Option PyData) {l : List Nat} {st : S} (hz : l.length ≤ 16777216) (hs : ∀ a ∈ l, lcTurn vs g mt me (.int (a : Int)) st = some (f a, st)) :
    lcLoop vs g mt me (dl l) [] st = some (l.filterMap f, st) := by
  have := lc_fmE (vs := vs) (g := g) (mt := mt) (me := me) di id f hz (fun a ha => by rw [Option.map_id]; exact hs a ha)
  rwa [List.map_id] at this
theorem for_foldN {σ : Type} {g : MG} {body : MS} (enc : σ → S) (f : σ → Nat → σ) (P : List Nat → σ → Prop) {xs : List Nat} {s0 : σ} (h0 : P [] s0)
    (hs : ∀ (pre : List Nat) (a : Nat) (post : List Nat) (s : σ), xs = pre ++ a :: post → P pre s → (∃ fl, (fl = .nx ∨ fl = .ct) ∧ kBody body (g (.int (a : Int)) (enc s)) = some (fl, enc (f s a))) ∧ P (pre ++ [a]) (f s a)) :
    forLoop g body (dl xs) (enc s0) = some (.nx, enc (xs.foldl f s0)) ∧ P xs (xs.foldl f s0) := for_fold di enc f P h0 hs
theorem for_foldAN {σ : Type} {g : MG} {body : MS} (enc : σ → S) (f : σ → Nat → σ) {xs : List Nat} {s0 : σ}
    (hs : ∀ (a : Nat) (s : σ), a ∈ xs → kBody body (g (.int (a : Int)) (enc s)) = some (.nx, enc (f s a))) : forLoop g body (dl xs) (enc s0) = some (.nx, enc (xs.foldl f s0)) := for_foldA di enc f hs
theorem for_findN {g : MG} {body : MS} {st : S} (p : Nat → Bool) (r : Nat → Fl × S) {xs : List Nat} (hr : ∀ a, ∃ l, (r a).1 = .rt l)
    (hs : ∀ a, a ∈ xs → kBody body (g (.int (a : Int)) st) = if p a then some (r a) else some (.nx, st)) : forLoop g body (dl xs) st = some (orNx st r (xs.find? p)) := for_find di p r hr hs
/-- a loop of which something is told -/
theorem for_inv {α σ : Type} {g : MG} {body : MS} (e : α → PyData) (enc : σ → S) (P : List α → σ → Prop) {xs : List α} {s0 : σ} (h0 : P [] s0)
    (hs : ∀ (pre : List α) (a : α) (post : List α) (s : σ), xs = pre ++ a :: post → P pre s → ∃ fl s', (fl = .nx ∨ fl = .ct) ∧ kBody body (g (e a) (enc s)) = some (fl, enc s') ∧ P (pre ++ [a]) s') :
    ∃ s', forLoop g body (xs.map e) (enc s0) = some (.nx, enc s') ∧ P xs s' := by
  have go : ∀ (post pre : List α) (s : σ), xs = pre ++ post → P pre s → ∃ s', forLoop g body (post.map e) (enc s) = some (.nx, enc s') ∧ P xs s' := by
    intro post
    induction post with
    | nil => intro pre s hx hp; rw [List.append_nil] at hx; subst hx; exact ⟨s, rfl, hp⟩
    | cons a post ih =>
      intro pre s hx hp
      obtain ⟨fl, s', hf, e1, hp'⟩ := hs pre a post s hx hp
      obtain ⟨s2, e2, h2⟩ := ih (pre ++ [a]) s' (by rw [hx]; simp) hp'
      refine ⟨s2, ?_, h2⟩
      rw [List.map_cons, for_cons, e1]
      rcases hf with rfl | rfl
      · exact e2
      · exact e2
  exact go xs [] s0 rfl h0
theorem for_invN {σ : Type} {g : MG} {body : MS} (enc : σ → S) (P : List Nat → σ → Prop) {xs : List Nat} {s0 : σ} (h0 : P [] s0)
    (hs : ∀ (pre : List Nat) (a : Nat) (post : List Nat) (s : σ), xs = pre ++ a :: post → P pre s → ∃ fl s', (fl = .nx ∨ fl = .ct) ∧ kBody body (g (.int (a : Int)) (enc s)) = some (fl, enc s') ∧ P (pre ++ [a]) s') :
    ∃ s', forLoop g body (dl xs) (enc s0) = some (.nx, enc s') ∧ P xs s' := for_inv di enc P h0 hs
/-- a slot that may be set -/
def Fre (x : Option Sl) : Prop := x = none ∨ ∃ l c, x = some ⟨l, false, c⟩ ∧ l.isRo = false
theorem fre_none : Fre none := .inl rfl
theorem fre_sh {d : PyData} {c : Bool} : Fre (some ⟨.sh d, false, c⟩) := .inr ⟨_, _, rfl, rfl⟩
theorem fre_lst {d : List PyData} {c : Bool} : Fre (some ⟨.lst d, false, c⟩) := .inr ⟨_, _, rfl, rfl⟩
theorem r_slotG (k : Nat) (l : LV) (ls : List (Option Sl)) {x : Option Sl} (h : Fre x) : kSlot false k l ls (some x) = some ⟨ls.set k (some ⟨l, false, false⟩)⟩ := by
  rcases h with rfl | ⟨l', c, rfl, hr⟩
  · rfl
  · show (if l'.isRo then none else _) = _
    rw [hr]
    rfl
theorem v_ixKi (es : List (Key × PyData)) (j : Int) : gIx (.dk es) (.sh (.int j)) = kIx (getK es (.inl j)) := by
  show (match ixSeq (.dk es) (.sh (.int j)) with | some r => some r | none => _) = _
  show (match ixDict (.dk es) (.sh (.int j)) with | some r => some r | none => ixStr (.dk es) (.sh (.int j))) = _
  have e : ixDict (.dk es) (.sh (.int j)) = kIx (getK es (.inl j)) := by
    show (getK es (.inl j)).bind _ = _
    cases getK es (.inl j) <;> rfl
  rw [e]
  cases getK es (.inl j) <;> rfl
theorem v_inDKi (b : Bool) (es : List (Key × PyData)) (j : Int) : gInD b (.sh (.int j)) (.dk es) = some (.sh (.bool (b != (getK es (.inl j)).isSome))) := rfl
theorem r_stIxK (d : PyData) (es : List (Key × PyData)) (j : Int) : stIx d (.dk es) (.sh (.int j)) = if es.length < 16777216 then some (.dk (putKD es (.inl j) d)) else none := rfl
/-- a dict whose keys are 0 .. n - 1 -/
def dkN (n : Nat) (c : Nat → PyData) : List (Key × PyData) := (List.range n).map fun v => (.inl ((v : Nat) : Int), c v)
theorem dkN_len (n : Nat) (c : Nat → PyData) : (dkN n c).length = n := by simp [dkN]
theorem dkN_get {n v : Nat} (c : Nat → PyData) (h : v < n) : getK (dkN n c) (.inl (v : Int)) = some (c v) := by
  unfold getK dkN
  have go : ∀ l : List Nat, v ∈ l → ((l.map fun v => ((Sum.inl ((v : Nat) : Int) : Key), c v)).find? fun kv => decide (kv.1 = .inl (v : Int))) = some (.inl (v : Int), c v) := by
    intro l
    induction l with
    | nil => exact fun h => by cases h
    | cons a l ih =>
      intro hm
      rw [List.map_cons, List.find?_cons]
      by_cases ha : a = v
      · subst ha
        simp
      · have : decide ((Sum.inl ((a : Nat) : Int) : Key) = .inl (v : Int)) = false := by
          apply decide_eq_false
          intro q
          have q2 := Sum.inl.inj q
          omega
        simp only [this]
        refine ih ?_
        rcases List.mem_cons.mp hm with q | q
        · exact absurd q.symm ha
        · exact q
  rw [go _ (List.mem_range.mpr h)]
  rfl
theorem dkN_any (n v : Nat) (c : Nat → PyData) : ((dkN n c).any fun kv => decide (kv.1 = (.inl (v : Int) : Key))) = decide (v < n) := by
  rw [Bool.eq_iff_iff]
  simp only [dkN, List.any_map, List.any_eq_true, List.mem_range, Function.comp, decide_eq_true_eq]
  constructor
  · rintro ⟨x, hx, q⟩
    have := Sum.inl.inj q
    omega
  · exact fun h => ⟨v, h, rfl⟩
theorem dkN_put {n v : Nat} (c : Nat → PyData) (d : PyData) (h : v < n) : putKD (dkN n c) (.inl (v : Int)) d = dkN n (fun u => if u = v then d else c u) := by
  unfold putKD
  rw [dkN_any, if_pos (decide_eq_true h)]
  unfold dkN
  rw [List.map_map]
  refine List.map_congr_left fun u _ => ?_
  show (if (Sum.inl ((u : Nat) : Int) : Key) = .inl (v : Int) then _ else _) = _
  by_cases hu : u = v
  · subst hu
    simp
  · have : ¬ ((Sum.inl ((u : Nat) : Int) : Key) = .inl (v : Int)) := fun q => by
      have := Sum.inl.inj q
      omega
    rw [if_neg this]
    show _ = (Sum.inl ((u : Nat) : Int), if u = v then d else c u)
    rw [if_neg hu]
theorem dkN_new (n : Nat) (c : Nat → PyData) (d : PyData) : putKD (dkN n c) (.inl (n : Int)) d = dkN (n + 1) (fun u => if u = n then d else c u) := by
  unfold putKD
  rw [dkN_any, if_neg (by simp)]
  unfold dkN
  rw [List.range_succ, List.map_append]
  congr 1
  · refine List.map_congr_left fun u hu => ?_
    have := List.mem_range.mp hu
    show _ = (Sum.inl ((u : Nat) : Int), if u = n then d else c u)
    rw [if_neg (by omega)]
  · simp
end Dn
set_option Elab.async false
set_option linter.all false
namespace Dn
open PySem PySem.Spec PyProof.Rows L2
open PySem.Challenge in
/-- the end of a walk whose written part hides the table objects -/
theorem walk_hid {l : PySem.W.OpenLaw} {n k : Nat} {q : Program} {loose : List Str} {XP : (Str → Option Value) → Heap → Prop} {YP : World → Heap → Prop} {d : DefRec} {K : Params → PySem.W.Frag} {CX : World → CXT} {x : Str} (bad : List Addr)
    (hn : l.most = some n) (hn2 : n ≤ sizeLine) (hdf : d.params.defaults = []) (hr : Room k callerA) (hY : ∀ (w : World) (h : Heap), YP w h → (K w.params).In h)
    (F : ∀ (w : World) (mg : Str → Option Value) (fa : Addr) (h : Heap), YP w h → (K w.params).In h → h.Ns mainGlobals mg → mg d.name = some (.ref fa) → LamX.LawAtS l w (hid bad (K w.params)) (CX w) k n x mg fa h)
    (hCX : ∀ (w : World) (H : Hp) (s : Shared) (e : Value) (s' : Shared), CX w [] H s (fun _ _ _ => False) e s' → False) :
    PySem.W.WalkO q loose XP YP l.row.toRowW d [] (fun f vs => PySem.call f vs) :=
  LamX.walk_ofTs (K := fun p => hid bad (K p)) hn hn2 hdf hr (fun w h Y => hid_In (hY w h Y)) (fun w mg fa h Y _ G e => F w mg fa h Y (hY w h Y) G e) hCX
end Dn
set_option Elab.async false
set_option linter.all false
set_option maxRecDepth 100000
set_option maxHeartbeats 4000000
/-! Den, generators, part 1: the context in which a generator expression's turns run. -/
namespace Dn
open PySem PySem.Spec PyProof.Rows L2
/-- the names that the generator's frame has: captured ones and new cells -/
abbrev gCells (X : Cx) (scope : Scope) (n : Nat) : List (Str × Addr) := cellsFrom (n + 1) scope.names (cloFrom X.env.cells scope.names [])
/-- the context of a generator's turns; A' is what is around them, gs what stood at the start -/
abbrev gCx (X : Cx) (A' : Around) (s : Shared) (H : Hp) (scope : Scope) (genv : Env) (fp : List Addr) : Cx :=
  { X with A := A', s_0 := s, H_0 := H, env := genv, outer := X.stack, stack := genv :: X.stack, ex := fp, fn := fun x => scope.names.lookup x == some .cell, pn := [], xe := fun _ _ => False }
section
variable {X : Cx} {pins : List (Addr × Obj)} {σ : L2.St} {H : Hp} {s : Shared}
theorem gen_start {A' : Around} {scope : Scope} {own : List (Str × Nat)} {fp : List Addr} {code : Value} {h1 : Heap} {g1 : Array GenState} {d1 : Drawn} {t1 : Nat} {m : Str → Option Value} (I : Inv X pins σ H s) (ok : BlkOk X.N X.env.scope scope own) (hN : X.N.Nodup)
    (hfp : ∀ b ∈ fp, FpOk X pins H b ∧ b < s.heap.objs.size) (hA : A'.frames = some (genEnv scope (gCells X scope s.heap.objs.size) s.heap.objs.size code builtinsNs X.env :: X.stack)) (hA2 : X.calm = true → A'.handled = none)
    (kp : ∀ b o, s.heap.get? b = some o → h1.get? b = some o) (hns : h1.Ns s.heap.objs.size m)
    (hcl : ∀ b o, b ≠ s.heap.objs.size → (pushCells (s.heap.push { cls := .type "frame", data := .dict #[] }) scope.names).get? b = some o → h1.get? b = some o) (hb1 : AllBare g1) :
    Inv (gCx X A' s H scope (genEnv scope (gCells X scope s.heap.objs.size) s.heap.objs.size code builtinsNs X.env) fp) [] (wipe σ (own.map (·.2))) H { s with heap := h1, gens := g1, drawn := d1, toks := t1 } := by
  have capt : ∀ y ∈ scope.names, y.2 = .free → ∃ c, X.env.cells.lookup y.1 = some c := fun y hy e => (ok.free y hy e).elim (fun k => I.ok.has _ (.inl k)) (fun k => I.ok.has _ (.inr k))
  generalize hge : genEnv scope (gCells X scope s.heap.objs.size) s.heap.objs.size code builtinsNs X.env = ge at hA
  have locE : ge.locals = s.heap.objs.size := by subst hge; rfl
  have celE : ge.cells = cellsFrom (s.heap.push { cls := .type "frame", data := .dict #[] }).objs.size scope.names (cloFrom X.env.cells scope.names []) := by
    subst hge
    rw [Heap.size_push]
    rfl
  have scE : ge.scope = scope := by subst hge; rfl
  have old : ∀ {y c}, (y, c) ∈ cloFrom X.env.cells scope.names [] → X.env.cells.lookup y = some c ∧ c < s.heap.objs.size := fun {y c} q => by
    rcases cloFrom_mem q with q | ⟨h1, rfl⟩
    · cases q
    · obtain ⟨c, e⟩ := capt _ h1 rfl
      rw [e]
      exact ⟨rfl, let ⟨w, z⟩ := I.cell _ _ e; z.lt⟩
  have fresh : ∀ {c v}, s.heap.objs.size + 1 ≤ c → CellAt (pushCells (s.heap.push { cls := .type "frame", data := .dict #[] }) scope.names) c v → CellAt h1 c v := fun {c v} hc ⟨o, e1, e2⟩ =>
    ⟨o, hcl _ _ (Nat.ne_of_gt hc) e1, e2⟩
  have which : ∀ {y c}, ge.cells.lookup y = some c → (X.env.cells.lookup y = some c ∧ c < s.heap.objs.size) ∨ (s.heap.objs.size + 1 ≤ c ∧ CellAt h1 c none) := fun {y c} e => by
    rw [celE] at e
    rcases cells_mem (PySem.mem_of_lookup e) with q | ⟨_, q2, q3⟩
    · exact .inl (old q)
    · rw [Heap.size_push] at q2
      exact .inr ⟨q2, fresh q2 q3⟩
  have seen : ∀ {y}, scope.names.lookup y = some .free → ∃ c, ge.cells.lookup y = some c ∧ X.env.cells.lookup y = some c := fun {y} hl => by
    obtain ⟨c, e⟩ := mem_lookup (cells_acc (names := scope.names) (n := (s.heap.push { cls := .type "frame", data := .dict #[] }).objs.size) (cloFrom_has (cells := X.env.cells) (acc := []) (PySem.mem_of_lookup hl)))
    rw [← celE] at e
    refine ⟨c, e, ?_⟩
    rw [celE] at e
    rcases cells_mem (PySem.mem_of_lookup e) with q | ⟨q, _, _⟩
    · exact (old q).1
    · have := ok.uniq _ q
      rw [hl] at this
      cases this
  have okG : (gCx X A' s H scope ge fp).Ok := {
    mod := I.ok.mod
    kind := by show ge.scope.kind = _; rw [scE]; exact ok.kind
    glob := by show ge.globals = _; rw [← hge]; exact I.ok.glob
    blt := by show ge.builtins = _; rw [← hge]; rfl
    above := by show s.heap.objs.size ≤ ge.locals; rw [locE]; exact Nat.le_refl _
    inj := fun y z c e1 e2 => by
      have e1 : ge.cells.lookup y = some c := e1
      have e2 : ge.cells.lookup z = some c := e2
      rw [celE] at e1 e2
      refine cells_inj (fun p hp => ?_) (fun y z c a b => I.ok.inj y z c (old a).1 (old b).1) (PySem.mem_of_lookup e1) (PySem.mem_of_lookup e2)
      have := (old (y := p.1) (c := p.2) hp).2
      rw [Heap.size_push]
      exact Nat.lt_succ_of_lt this
    has := fun y hy => by
      show ∃ c, ge.cells.lookup y = some c
      have hy : ge.scope.names.lookup y = some .cell ∨ ge.scope.names.lookup y = some .free := hy
      rw [scE] at hy
      rcases hy with e | e
      · obtain ⟨c, q⟩ := cells_has (n := (s.heap.push { cls := .type "frame", data := .dict #[] }).objs.size) (acc := cloFrom X.env.cells scope.names []) (PySem.mem_of_lookup e)
        obtain ⟨c', e'⟩ := mem_lookup q
        exact ⟨c', by rw [celE]; exact e'⟩
      · obtain ⟨c, q, _⟩ := seen e
        exact ⟨c, q⟩
    cab := fun y c z e => by
      have z : scope.names.lookup y = some .cell := by
        have z : (scope.names.lookup y == some NameKind.cell) = true := z
        simpa using z
      have e : ge.cells.lookup y = some c := e
      rw [celE] at e
      rcases cells_mem (PySem.mem_of_lookup e) with q | ⟨_, q, _⟩
      · rcases cloFrom_mem q with q | ⟨q, _⟩
        · cases q
        · have := ok.uniq _ q
          rw [z] at this
          cases this
      · rw [Heap.size_push] at q
        exact Nat.le_of_succ_le q
    hd := hA2
    frames := hA
    stk := .inr ⟨rfl, by show ge.frame = some ge.locals; rw [← hge]; rfl⟩
    exf := fun b hb => ⟨by show b ≠ ge.locals; rw [locE]; exact Nat.ne_of_lt (hfp b hb).2, fun y c e z => by
      have e : ge.cells.lookup y = some c := e
      rcases which e with ⟨q, _⟩ | ⟨q, _⟩
      · exact (hfp b hb).1.2.2.2.2.1 y c q z
      · have := (hfp b hb).2
        rw [z] at q
        exact absurd (Nat.lt_of_lt_of_le this (Nat.le_of_succ_le q)) (Nat.lt_irrefl _)⟩
    bs := I.bs
    bsz := Nat.le_trans I.ok.bsz I.sz
    noex := fun b o e hb => by
      rcases (hfp b hb).1.2.2.2.1 with z | z
      · exact I.ok.noex b o e z
      · have q1 := Heap.lt_size e
        have q2 := I.ok.bsz
        exact absurd (Nat.lt_of_lt_of_le q1 (Nat.le_trans q2 z)) (Nat.lt_irrefl _)
    exfs := fun b hb z => by
      rcases List.mem_cons.mp (I.stkSub b z) with z | z
      · exact (hfp b hb).1.2.1 z
      · exact (hfp b hb).1.2.2.1 z
    funs := I.stack
    frf := I.stkFree }
  refine ⟨okG, rfl, hb1, Un.kept kp, ⟨m, by show Heap.Ns _ ge.locals _; rw [locE]; exact hns, fun i y v e1 e2 e3 => ?_⟩, fun y c e => ?_, ?_, fun y c e => ?_, fun p hp => ?_, I.hok.kept kp, by rw [wipe_length]; exact I.len⟩
  · obtain ⟨e2, hne⟩ := wipe_some e2
    have e3 : Vis ge.scope y := e3
    rw [scE] at e3
    have no : ∀ k, scope.names.lookup y = some k → (k = .local ∨ k = .cell) → False := fun k q hk => by
      rcases ok.own _ (PySem.mem_of_lookup q) hk with e' | e'
      · obtain ⟨p, hp, hpy⟩ := List.mem_map.mp e'
        have e4 := ok.ix p hp
        rw [show p.1 = y from hpy] at e4
        exact hne (List.mem_map.mpr ⟨p, hp, nodup_ix hN e4 e1⟩)
      · exact e' (List.mem_of_getElem? e1)
    rcases e3 with e3 | e3 | e3
    · exact (no _ e3 (.inl rfl)).elim
    · exact (no _ e3 (.inr rfl)).elim
    · obtain ⟨m0, hn, hl⟩ := I.loc
      have up : X.env.scope.names.lookup y = some .cell ∨ X.env.scope.names.lookup y = some .free := ok.free _ (PySem.mem_of_lookup e3) rfl
      obtain ⟨u, r, q⟩ := hl i y v e1 e2 (.inr up)
      refine ⟨u, r, .inr ⟨.inr (by show ge.scope.names.lookup y = _; rw [scE]; exact e3), ?_⟩⟩
      obtain ⟨c, h3, h4⟩ := seen e3
      rcases q with ⟨k, _⟩ | ⟨_, c', e', z⟩
      · have k : X.env.scope.names.lookup y = some .local := k
        rcases up with up | up <;> rw [up] at k <;> cases k
      · rw [h4] at e'
        cases e'
        exact ⟨c, h3, z.keeps kp⟩
  · have e : ge.cells.lookup y = some c := e
    rcases which e with ⟨q, _⟩ | ⟨_, z⟩
    · obtain ⟨u, z⟩ := I.cell y c q
      exact ⟨u, z.keeps kp⟩
    · exact ⟨_, z⟩
  · show H ge.locals = none
    rw [locE]
    exact I.hok.fresh (Nat.le_refl _)
  · have e : ge.cells.lookup y = some c := e
    rcases which e with ⟨q, _⟩ | ⟨q, _⟩
    · exact I.freeC y c q
    · exact I.hok.fresh (Nat.le_of_succ_le q)
  · exact absurd (show p ∈ ([] : List (Addr × Obj)) ++ [] from hp) (by simp)
end
end Dn
set_option Elab.async false
set_option linter.all false
set_option maxRecDepth 100000
set_option maxHeartbeats 4000000
/-! Den, generators, part 2: the turns. -/
namespace Dn
open PySem PySem.Spec PyProof.Rows L2
abbrev gLoop (elt tg iter : Expr) (ifs : List Expr) (scope : Scope) (pos : Pos) (it : Addr) (env : Env) : Code := .compLoop (.GeneratorExp elt [⟨tg, iter, ifs, 0⟩] scope pos) 0 (.ref it) .none env
/-- what a generator promises: W j i H: j things given, i turns made -/
structure GWay (X : Cx) (tg : Expr) (ifs : List Expr) (elt : Expr) (vs : List Nat) (σw : L2.St) (J : It) (g : TG) (tt : TT) (te : TE) (N : Nat) (Val : Nat → V → Prop) (W Y : Nat → Nat → Hp → Prop) (Fin : Nat → Hp → Prop) : Prop where
  le : ∀ j i H, W j i H → j ≤ i ∧ i ≤ N
  step : ∀ j i H, W j i H → (J.stop i H ∧ Fin j H) ∨ (J.go i H ∧ i < N ∧ ∀ x H', J.yld i H x H' → g x σw H' fun σ2 H2 => wipe σ2 vs = σw ∧ tt σ2 H2 fun b H3 => if b = true then te σ2 H3 fun y H4 => Val j y ∧ Y (j + 1) (i + 1) H4 else W j (i + 1) H3)
/-- ready for the next turn -/
def GRdy (X : Cx) (fp Sl : List Addr) (σw : L2.St) (tn : Nat → Heap → Prop) (W : Nat → Nat → Hp → Prop) (j : Nat) (s : Shared) : Prop :=
  ∃ i H, Inv X (pinsAt Sl s.heap) σw H s ∧ tn i s.heap ∧ (∀ b ∈ fp, H b = none) ∧ W j i H
def GR (X : Cx) (Sl : List Addr) (σw : L2.St) (N : Nat) (Fin : Nat → Hp → Prop) : GenEnd := fun n s0 r s1 => r = .ok .next ∧ s0.gens.size ≤ s1.gens.size ∧ ∃ H, Inv X (pinsAt Sl s0.heap) σw H s1 ∧ Fin (N + 1 - n) H
def GY (X : Cx) (fp Sl : List Addr) (σw : L2.St) (tn : Nat → Heap → Prop) (N : Nat) (Val : Nat → V → Prop) (W Y : Nat → Nat → Hp → Prop) : Protocol := fun m s0 v s1 kap => s0.gens.size ≤ s1.gens.size ∧
  ∃ y i H, RelV y v ∧ Val (N - m) y ∧ Y (N - m + 1) i H ∧ Inv X (pinsAt Sl s0.heap) σw H s1 ∧ tn i s1.heap ∧ (∀ b ∈ fp, H b = none) ∧ ∀ s2, GRdy X fp Sl σw tn W (N - m + 1) s2 → kap (.send .none) s2
section
variable {X : Cx} {A1 : Around} {elt tg iter : Expr} {ifs : List Expr} {scope : Scope} {pos : Pos} {it : Addr} {fp Sl : List Addr} {tn : Nat → Heap → Prop} {J : It} {g : TG} {tt : TT} {te : TE} {vs : List Nat} {σw : L2.St} {N : Nat} {Val : Nat → V → Prop} {W Y : Nat → Nat → Hp → Prop} {Fin : Nat → Hp → Prop}
theorem pinsAt_same {Sl : List Addr} {h h' : Heap} (k : ∀ b ∈ Sl, h'.get? b = h.get? b) : pinsAt Sl h' = pinsAt Sl h := by
  unfold pinsAt
  induction Sl with
  | nil => rfl
  | cons a l ih =>
    rw [List.filterMap_cons, List.filterMap_cons, k a List.mem_cons_self, ih fun b hb => k b (List.mem_cons_of_mem _ hb)]
theorem seg_turns (hA : X.A = A1.over (gLoop elt tg iter ifs scope pos it X.env) []) (hc : X.calm = true) (hxe : ∀ e s, ¬ X.xe e s) (hco : X.env.scope.isCoroutine = false) (hpn : X.pn = []) (hex : X.ex = fp)
    (T : Turn X.prog X.w X.K tg J fp it tn) (pg : PG X tg g) (pt : PTs X ifs tt) (pe : PE X elt te) (hSf : ∀ b ∈ Sl, b ∉ fp) (hσ : wipe σw vs = σw) (G : GWay X tg ifs elt vs σw J g tt te N Val W Y Fin) :
    ∀ (q j : Nat), N + 1 - j = q → ∀ (k i : Nat) (s0 s : Shared) (H : Hp), N - i = k → Inv X (pinsAt Sl s0.heap) σw H s → tn i s.heap → (∀ b ∈ fp, H b = none) → W j i H → s0.gens.size ≤ s.gens.size →
      Seg (model X.prog X.w) A1 (GR X Sl σw N Fin) (GY X fp Sl σw tn N Val W Y) (N + 1 - j) s0 (gLoop elt tg iter ifs scope pos it X.env) ((model X.prog X.w).den (gLoop elt tg iter ifs scope pos it X.env)) [] s := by
  have stat : ∀ {s0 : Shared} {σ' : L2.St} {H' : Hp} {s' : Shared}, Inv X (pinsAt Sl s0.heap) σ' H' s' → (∀ b ∈ fp, H' b = none) → ∀ b ∈ fp, FpOk X (pinsAt Sl s0.heap) H' b := fun {s0 σ' H' s'} I n b hb => by
    have hbx : b ∈ X.ex := by rw [hex]; exact hb
    refine ⟨n b hb, (I.ok.exf b hbx).1, I.ok.exfs b hbx, .inl hbx, fun x c e => (I.ok.exf b hbx).2 x c e, fun p hp q => ?_⟩
    rw [hpn, List.nil_append] at hp
    exact hSf _ (of_pinsAt hp).1 (by rw [q]; exact hb)
  intro q
  induction q with
  | zero =>
    intro j hj k i s0 s H hk I st n w hgs
    have := G.le j i H w
    omega
  | succ q outer =>
  intro j hj k
  induction k with
  | zero =>
    intro i s0 s H hk I st n w hgs
    rcases G.step j i H w with ⟨stop, fin⟩ | ⟨_, hlt, _⟩
    · show Seg _ A1 _ _ _ s0 _ ((compTurn (.GeneratorExp elt [⟨tg, iter, ifs, 0⟩] scope pos) 0 (.ref it) .none X.env).onRaise (leaving X.env)) [] s
      rw [compTurn_gen, Sem.onRaise_eq_wrap]
      refine seg_bind_wrap (wpAny_standAt ?_)
      refine seg_bind_wrap ?_
      rw [← hA]
      refine GenW.wpAny_gsz hgs (thnF (T.done X rfl rfl rfl hc i _ s σw H (fun _ _ => False) I (stat I n) st stop) fun r s1 h1 hg1 => ?_)
      obtain ⟨hr, I1⟩ := h1
      subst hr
      have le := (G.le j i H w)
      exact seg_end (.ok .next) ⟨rfl, hg1, H, I1, by rw [show N + 1 - (N + 1 - j) = j by omega]; exact fin⟩
    · omega
  | succ k ih =>
    intro i s0 s H hk I st n w hgs
    have le := G.le j i H w
    show Seg _ A1 _ _ _ s0 _ ((compTurn (.GeneratorExp elt [⟨tg, iter, ifs, 0⟩] scope pos) 0 (.ref it) .none X.env).onRaise (leaving X.env)) [] s
    rw [compTurn_gen, Sem.onRaise_eq_wrap]
    refine seg_bind_wrap (wpAny_standAt ?_)
    refine seg_bind_wrap ?_
    rw [← hA]
    rcases G.step j i H w with ⟨stop, fin⟩ | ⟨go, hlt, step⟩
    · refine GenW.wpAny_gsz hgs (thnF (T.done X rfl rfl rfl hc i _ s σw H (fun _ _ => False) I (stat I n) st stop) fun r s1 h1 hg1 => ?_)
      obtain ⟨hr, I1⟩ := h1
      subst hr
      exact seg_end (.ok .next) ⟨rfl, hg1, H, I1, by rw [show N + 1 - (N + 1 - j) = j by omega]; exact fin⟩
    · refine GenW.wpAny_gsz hgs (thnF (T.item X rfl rfl rfl hc i _ s σw H (fun _ _ => False) I (stat I n) st go) fun r s1 h1 hg1 => ?_)
      obtain ⟨u, hr, h1⟩ := h1
      subst hr
      refine seg_bind_wrap ?_
      rw [← hA]
      refine GenW.wpAny_gsz hg1 (thnF h1 fun _ s2 h2 hg2 => ?_)
      obtain ⟨x, H2, I2, r2, y2, st2, n2⟩ := h2
      have I2' := I2.pinned (stat I2 n2) (T.obj _ _ st2)
      refine seg_bind_wrap ?_
      rw [← hA]
      refine GenW.wpAny_gsz hg2 (wpAny_mono (pg.run _ s2 _ H2 x u _ I2' r2 (step x H2 y2)) (fun _ s3 h3 hg3 => ?_) fun e s' z => absurd z (hxe e s'))
      obtain ⟨σ3, H3, I3, hw3, q3⟩ := h3
      refine seg_bind_wrap ?_
      rw [← hA]
      refine GenW.wpAny_gsz hg3 (wpAny_mono (pt.run _ s3 σ3 H3 _ I3 q3) (fun ok s4 h4 hg4 => ?_) fun e s' z => absurd z (hxe e s'))
      obtain ⟨H4, I4, q4⟩ := h4
      have hl : σw.length = σ3.length := by rw [← hw3, wipe_length]
      -- what a turn leaves
      have back : ∀ {s' : Shared} {H' : Hp}, Inv X (pinsAt Sl s0.heap ++ pinsAt fp s2.heap) σ3 H' s' → Inv X (pinsAt Sl s0.heap) σw H' s' ∧ tn (i + 1) s'.heap ∧ ∀ b ∈ fp, H' b = none := fun {s' H'} I' => by
        have pin' : ∀ b ∈ fp, ∀ o, s2.heap.get? b = some o → s'.heap.get? b = some o ∧ H' b = none := fun b hb o e =>
          let z := I'.pin (b, o) (List.mem_append_right _ (List.mem_append_right _ (mem_pinsAt hb e)))
          ⟨z.1, z.2.1⟩
        refine ⟨I'.unpinned.weak hl fun a v e => ?_, T.keep _ _ _ st2 fun b hb o e => (pin' b hb o e).1, fun b hb => ?_⟩
        · rw [← hw3] at e
          exact (wipe_some e).1
        · obtain ⟨o, e, _⟩ := T.obj _ _ st2 b hb
          exact (pin' b hb o e).2
      cases ok with
      | false =>
        simp only [Bool.false_eq_true, if_false] at q4 ⊢
        obtain ⟨I5, st5, n5⟩ := back I4
        exact seg_again rfl (ih (i + 1) s0 s4 H4 (by omega) I5 st5 n5 q4 hg4)
      | true =>
        simp only [if_true] at q4 ⊢
        have hy : ∀ v, yieldOut X.env v = yieldValue v := fun v => by simp only [yieldOut, hco, Bool.false_eq_true, if_false]
        simp only [hy]
        rw [Sem.bind_eq_wrap', Sem.bind_eq_wrap', Sem.wrap_wrap, Sem.wrap_wrap]
        refine seg_wrap ?_
        rw [← hA]
        refine GenW.wpAny_gsz hg4 (wpAny_mono (pe.run _ s4 σ3 H4 _ I4 q4) (fun v s5 h5 hg5 => ?_) fun e s' z => absurd z (hxe e s'))
        obtain ⟨y, H5, I5, r5, val, w5⟩ := h5
        obtain ⟨I6, st6, n6⟩ := back I5
        have en : N + 1 - j = (N - j) + 1 := by omega
        have ej : N - (N - j) = j := by omega
        rw [en]
        refine seg_at (seg_yield rfl rfl rfl ?_)
        refine ⟨hg5, y, i + 1, H5, r5, by rw [ej]; exact val, by rw [ej]; exact w5, I6, st6, n6, fun s'' hr => ?_⟩
        rw [ej] at hr
        obtain ⟨i2, Hn, In, stn, nn, wn⟩ := hr
        have en2 : N + 1 - (j + 1) = N - j := by omega
        have := outer (j + 1) (by omega) _ i2 s'' s'' Hn rfl In stn nn wn (Nat.le_refl _)
        rw [en2] at this
        exact seg_again rfl this
end
end Dn
set_option Elab.async false
set_option linter.all false
set_option maxRecDepth 100000
set_option maxHeartbeats 4000000
/-! Den, generators, part 3: next. -/
namespace Dn
open PySem PySem.Spec PyProof.Rows L2
theorem inv_gens {X : Cx} {pins : List (Addr × Obj)} {σ : L2.St} {H : Hp} {s : Shared} {g' : Array GenState} (I : Inv X pins σ H s) (hb : AllBare g') : Inv X pins σ H { s with gens := g' } :=
  ⟨I.ok, I.os, hb, I.base, I.loc, I.cell, I.free, I.freeC, I.pin, I.hok, I.len⟩
theorem bare_set {gens : Array GenState} {i : Nat} {x : GenState} (h : AllBare gens) (hx : x.bare = true) : AllBare (gens.setIfInBounds i x) := by
  intro y hy
  rcases Array.mem_or_eq_of_mem_setIfInBounds hy with q | q
  · exact h y q
  · rw [q]; exact hx
section
variable {X : Cx} {A1 : Around} {fp Sl : List Addr} {tn : Nat → Heap → Prop} {σw : L2.St} {N : Nat} {Val : Nat → V → Prop} {W Y : Nat → Nat → Hp → Prop} {Fin : Nat → Hp → Prop} {a : Addr} {gn : Nat}
/-- the generator a, number gn, has given j things and sleeps -/
structure GAt (X : Cx) (A1 : Around) (fp Sl : List Addr) (tn : Nat → Heap → Prop) (σw : L2.St) (N : Nat) (Val : Nat → V → Prop) (W Y : Nat → Nat → Hp → Prop) (Fin : Nat → Hp → Prop) (a : Addr) (gn : Nat) (j : Nat) (s : Shared) : Prop where
  gen : s.heap.IsGen a gn
  rdy : GRdy X fp Sl σw tn W j s
  ex : ∀ b ∈ Sl, ∃ o, s.heap.get? b = some o
  go : ∃ gs, s.gens[gn]? = some gs ∧ ∀ s2, GRdy X fp Sl σw tn W j s2 → gs.Goes (model X.prog X.w) A1 (GR X Sl σw N Fin) (GY X fp Sl σw tn N Val W Y) (N + 1 - j) (.send .none) s2
theorem pins_keep {pn : List (Addr × Obj)} (hpn : X.pn = pn) {s s' : Shared} {H : Hp} (ex : ∀ b ∈ Sl, ∃ o, s.heap.get? b = some o) (I : Inv X (pinsAt Sl s.heap) σw H s') : pinsAt Sl s'.heap = pinsAt Sl s.heap ∧ ∀ b ∈ Sl, ∀ o, s.heap.get? b = some o → s'.heap.get? b = some o := by
  have k : ∀ b ∈ Sl, ∀ o, s.heap.get? b = some o → s'.heap.get? b = some o := fun b hb o e => (I.pin (b, o) (List.mem_append_right _ (mem_pinsAt hb e))).1
  refine ⟨pinsAt_same fun b hb => ?_, k⟩
  obtain ⟨o, e⟩ := ex b hb
  rw [e, k b hb o e]
theorem gen_next {A : Around} {Q : Option Value → Shared → Prop} {E : Value → Shared → Prop} {s : Shared} {j : Nat} (hA1 : A1 = A.in1) (hh : A.handled = none) (hroom : A.depth < recursionLimit) (hle : ∀ i H, W j i H → j ≤ N) (ha : a ∈ Sl) (st : GAt X A1 fp Sl tn σw N Val W Y Fin a gn j s)
    (hv : ∀ v y i H s', RelV y v → Val j y → Y (j + 1) i H → Inv X (pinsAt Sl s.heap) σw H s' → (W (j + 1) i H → GAt X A1 fp Sl tn σw N Val W Y Fin a gn (j + 1) s') → Q (some v) s')
    (he : ∀ H s', Inv X (pinsAt Sl s.heap) σw H s' → Fin j H → Q none s') : wpAny (model X.prog X.w) A (pyNext (.ref a)) Q E s := by
  obtain ⟨gs, hgs, hgo⟩ := st.go
  obtain ⟨i0, H0, I0, st0, n0, w0⟩ := st.rdy
  have hj := hle _ _ w0
  have hgn : gn < s.gens.size := by
    rcases Nat.lt_or_ge gn s.gens.size with h | h
    · exact h
    · rw [Array.getElem?_eq_none h] at hgs; cases hgs
  have rdy0 : GRdy X fp Sl σw tn W j (s.setGen gn .running) := ⟨i0, H0, inv_gens I0 (bare_set I0.bare rfl), st0, n0, w0⟩
  have hg0 := hgo _ rdy0
  subst hA1
  refine wpAny_pyNext_genexpQ (P := fun n s₀ s₁ => s₀.gens.size ≤ s₁.gens.size ∧ ∃ H, Inv X (pinsAt Sl s₀.heap) σw H s₁ ∧ Fin (N + 1 - n) H) hh I0.nolimit hroom st.gen hgs hg0 (fun v s1 gs' hb hy => ?_) fun s1 h1 h' hk => ?_
  · obtain ⟨hsz, y, i, H, ry, val, w1, I1, st1, n1, kap⟩ := hy
    have e1 : N + 1 - j - 1 = N - j := by omega
    have e2 : N - (N - j) = j := by omega
    rw [e1, e2] at val w1 kap
    have I1 : Inv X (pinsAt Sl s.heap) σw H s1 := I1
    obtain ⟨pk, kk⟩ := pins_keep (pn := X.pn) rfl st.ex I1
    have I2 : Inv X (pinsAt Sl s.heap) σw H (s1.setGen gn gs') := inv_gens I1 (bare_set I1.bare hb)
    have sz1 : gn < s1.gens.size := by
      have q : (s.setGen gn .running).gens.size = s.gens.size := GenW.setGen_size s gn .running
      omega
    refine hv v y i H _ ry val w1 I2 fun w1 => ⟨?_, ⟨i, H, ?_, st1, n1, w1⟩, fun b hb => ?_, gs', ?_, fun s2 hr => ?_⟩
    · obtain ⟨o, nm, qn, ho, r⟩ := st.gen
      exact ⟨o, nm, qn, kk a ha o ho, r⟩
    · show Inv X (pinsAt Sl s1.heap) σw H _
      rw [pk]
      exact I2
    · obtain ⟨o, e⟩ := st.ex b hb
      exact ⟨o, kk b hb o e⟩
    · simp [Shared.setGen, sz1]
    · have e3 : N + 1 - j = (N - j) + 1 := by omega
      have q := kap s2 hr
      rw [e3] at q
      have e4 : N + 1 - (j + 1) = N - j := by omega
      rw [e4]
      exact q
  · obtain ⟨_, H, I1, fin⟩ := h1
    have e2 : N + 1 - (N + 1 - j) = j := by omega
    rw [e2] at fin
    have I1 : Inv X (pinsAt Sl s.heap) σw H s1 := I1
    have I2 : Inv X (pinsAt Sl s.heap) σw H (s1.setGen gn .finished) := inv_gens I1 (bare_set I1.bare rfl)
    exact he H _ (I2.kept (t' := (s1.setGen gn .finished).toks) hk) fin
end
end Dn
set_option Elab.async false
set_option linter.all false
set_option maxRecDepth 100000
set_option maxHeartbeats 4000000
/-! Den, generators, part 4: making one. -/
namespace Dn
open PySem PySem.Spec PyProof.Rows L2
section
variable {M : Model} {A : Around} {E : Value → Shared → Prop}
/-- the frame of a generator: its own cells, the walked thing at .0 -/
theorem newEnv_gen {s : Shared} {scope : Scope} {globals bi it : Addr} {cl : List (Str × Addr)} {qual : Str} {code : Value} {Q : Env → Shared → Prop} (hk : scope.kind = .function) (h0 : scope.names.lookup (".0" : Str) = some NameKind.local)
    (h : ∀ h1, h1.Ns s.heap.objs.size (fun y => if y = (".0" : Str) then some (Value.ref it) else none) → Heap.SameBut s.heap.objs.size (pushCells (s.heap.push { cls := .type "frame", data := .dict #[] }) scope.names) h1 →
      Q (newEnv scope s.heap.objs.size globals (cellsFrom (s.heap.objs.size + 1) scope.names cl) qual none code none bi) { s with heap := h1, toks := s.toks + 1 }) :
    wpAny M A (newFunctionEnv scope globals cl [(".0", .ref it)] qual none code none bi) Q E s := by
  simp only [newFunctionEnv, Option.isSome_none, Bool.false_eq_true, if_false]
  refine wpAny_bind (wpAny_alloc ?_)
  refine wpAny_bind (wpAny_layCells _ (fun n k c => rfl) scope.names cl _ _ ?_)
  rw [show ({ s with heap := s.heap.push { cls := .type "frame", data := .dict #[] } } : Shared).heap.objs.size = s.heap.objs.size + 1 from Heap.size_push ..]
  simp only [List.forIn_cons, List.forIn_nil]
  have nn : (pushCells (s.heap.push { cls := .type "frame", data := .dict #[] }) scope.names).Ns s.heap.objs.size (fun _ => none) := Heap.Ns.keeps (Heap.Ns.new ..) fun b o e => pushCells_keeps _ _ _ _ e
  refine wpAny_bind (wpAny_bind (wpAny_bind (wpAny_storeName_local (env := newEnv scope s.heap.objs.size globals (cellsFrom (s.heap.objs.size + 1) scope.names cl) qual none code none bi) (m := fun _ => none) h0 nn (fun h1 hn hs => ?_) (by show (scope.kind == .class || (scope.kind == .module && _)) = false; rw [hk]; rfl))))
  exact wpAny_pure (wpAny_pure (wpAny_pure (h h1 hn hs)))
end
section
variable {X : Cx} {pins : List (Addr × Obj)} {σ : L2.St} {H : Hp} {s : Shared}
/-- the object of a generator -/
def genObj (n : Nat) (t : Nat) (q : Str) : Obj := { cls := .type "generator", data := .fields #[.int n 0, .str "<genexpr>" (t + 1), .str q (t + 1 + 1)] }
open PySem.W (CodeHd)
/-- the table at P tells the code object of a place -/
inductive TabS (P : Addr) (ps : Array Value) (pos : Pos) (H1 : Hp) : Value → Hp → Prop
  | hit {cv : Value} : codeAmong pos ps.toList = some cv → TabS P ps pos H1 cv H1
  | new {c' P' : Addr} : codeAmong pos ps.toList = none → H1 c' = none → H1 P' = none → c' ≠ P' → TriplesOk (ps ++ #[rawInt pos.line, rawInt pos.col, .ref c']).toList →
      TabS P ps pos H1 (.ref c') (upd (upd (upd H1 P (.tbl (ps ++ #[rawInt pos.line, rawInt pos.col, .ref c']))) P' (.tbl #[])) c' (.ext fun h => CodeHd h c' P'))
/-- where the running code object comes from -/
def CodeSrc (X : Cx) (c P : Addr) (H1 : Hp) : Prop := GxR.TabB X.base X.mg c P ∨ ((∃ c0 P0, GxR.TabB X.base X.mg c0 P0) ∧ H1 c = some (.ext fun h => CodeHd h c P))
theorem src_ok {c P : Addr} {ps : Array Value} (h : CodeSrc X c P H) (I : Inv X pins σ H s) (hP : H P = some (.tbl ps)) : CodeHd s.heap c P ∧ X.base.BuiltinsAt X.mg P ∧ mainGlobals ≠ P := by
  rcases h with TB | ⟨⟨c0, P0, TB⟩, h⟩
  · exact ⟨TB.code.keeps fun b u e => I.bk b u e, TB.bm, TB.gP⟩
  · obtain ⟨bm, ob, e1, e2, e3, e4, e5, e6⟩ := TB.bm
    have ne : ∀ b o, X.base.get? b = some o → b ≠ P := fun b o e z => by
      have := (I.bs b o e).2
      rw [z, hP] at this
      cases this
    refine ⟨(I.hok c _ h).1, ⟨bm, ob, e1, e2, e3, ne _ _ e5, e5, e6⟩, ?_⟩
    obtain ⟨o, _, _, ho, _⟩ := I.mod.glob
    exact ne _ _ ho
/-- the table has grown by a new code object -/
theorem inv_tab3 {P c' P' : Addr} {ps more : Array Value} {h' : Heap} {g' : Array GenState} {d' : Drawn} {t' : Nat} (I : Inv X pins σ H s) (hP : H P = some (.tbl ps)) (k : ∀ b o, b ≠ P → s.heap.get? b = some o → h'.get? b = some o)
    (hm : h'.get? P = some { cls := .none, data := .fields (ps ++ more) }) (hg : AllBare g') (hc : s.heap.objs.size ≤ c') (hP' : s.heap.objs.size ≤ P') (ne : c' ≠ P') (cd : CodeHd h' c' P') (tb : h'.get? P' = some { cls := .none, data := .fields #[] }) :
    Inv X pins σ (upd (upd (upd H P (.tbl (ps ++ more))) P' (.tbl #[])) c' (.ext fun h => CodeHd h c' P')) { s with heap := h', gens := g', drawn := d', toks := t' } := by
  have nC : H c' = none := I.hok.fresh hc
  have nT : H P' = none := I.hok.fresh hP'
  have nPc : P ≠ c' := ne_of_none hP nC
  have nPT : P ≠ P' := ne_of_none hP nT
  generalize hH2 : upd (upd (upd H P (.tbl (ps ++ more))) P' (.tbl #[])) c' (.ext fun h => CodeHd h c' P') = H2
  have at_ : ∀ b, b ≠ P → b ≠ P' → b ≠ c' → H2 b = H b := fun b h1 h2 h3 => by rw [← hH2, upd_ne h3, upd_ne h2, upd_ne h1]
  have atP : H2 P = some (.tbl (ps ++ more)) := by rw [← hH2, upd_ne nPc, upd_ne nPT, upd_same]
  have atT : H2 P' = some (.tbl #[]) := by rw [← hH2, upd_ne (Ne.symm ne), upd_same]
  have atC : H2 c' = some (.ext fun h => CodeHd h c' P') := by rw [← hH2, upd_same]
  have nP : ∀ b u, H b = some u → (∀ q, u ≠ .tbl q) → b ≠ P := fun b u e q z => by
    rw [z, hP] at e
    exact q ps (Option.some.inj e).symm
  have nN : ∀ b, H b = none → b ≠ P := fun b e z => by
    rw [z, hP] at e
    cases e
  have lt' : ∀ b o, s.heap.get? b = some o → b ≠ c' ∧ b ≠ P' := fun b o e => ⟨fun z => by
    rw [z] at e
    exact Nat.lt_irrefl _ (Nat.lt_of_lt_of_le (Heap.lt_size e) hc), fun z => by
    rw [z] at e
    exact Nat.lt_irrefl _ (Nat.lt_of_lt_of_le (Heap.lt_size e) hP')⟩
  have sm : ∀ b u, H b = some u → b ≠ P' ∧ b ≠ c' := fun b u e => ⟨ne_of_none e nT, ne_of_none e nC⟩
  refine I.step (g' := g') (d' := d') (ch := []) (fun b hb => absurd hb (by simp)) (fun b o _ _ _ e n => k b o (nN b n) e) (fun b o _ _ _ e n => ⟨o.slots, k b o (nN b n) e⟩)
    (fun b o _ e n => by rw [at_ b (nN b n) (lt' b o e).2 (lt' b o e).1]; exact n) (fun b o _ e => ?_) (fun b xs e => by rw [at_ b (nP b _ e (fun q z => by cases z)) (sm b _ e).1 (sm b _ e).2]; exact e) (fun b o u e => by rw [at_ b (nP b _ e (fun q z => by cases z)) (sm b _ e).1 (sm b _ e).2]; exact e) (fun b qs e => ?_) (fun m hn => ?_) (fun b u e => ?_) hg
  · by_cases hb : b = P
    · rw [hb]
      exact ⟨_, hm⟩
    · exact ⟨o, k b o hb e⟩
  · by_cases hb : b = P
    · rw [hb, hP] at e
      cases e
      rw [hb, atP]
      exact ⟨more, rfl⟩
    · rw [at_ b hb (sm b _ e).1 (sm b _ e).2, e]
      exact ⟨#[], by simp⟩
  · obtain ⟨ob, es, ep, ho, r⟩ := hn
    exact ⟨ob, es, ep, k _ ob (nN _ I.free) ho, r⟩
  · by_cases hb : b = c'
    · rw [hb, atC] at e
      cases e
      rw [hb]
      refine ⟨cd, ?_, fun h1 h2 ⟨o, vs, f, tf, fl, tg, b, n, tt, e, r⟩ st => ⟨o, vs, f, tf, fl, tg, b, n, tt, st _ e, r⟩⟩
      obtain ⟨o, _, _, _, _, _, _, _, _, e, _⟩ := cd
      exact ⟨o, e⟩
    · by_cases hb2 : b = P
      · rw [hb2, atP] at e
        cases e
        rw [hb2]
        exact hm
      · by_cases hb3 : b = P'
        · rw [hb3, atT] at e
          cases e
          rw [hb3]
          exact tb
        · rw [at_ b hb2 hb3 hb] at e
          refine (I.hok b u e).stay (fun d v hd q => k d v ?_ q) (fun d q => by rw [at_ d (nP d _ q (fun q z => by cases z)) (sm d _ q).1 (sm d _ q).2]; exact q) fun d xs q => by rw [at_ d (nP d _ q (fun q z => by cases z)) (sm d _ q).1 (sm d _ q).2]; exact q
          rcases hd with z | z
          · rw [z]
            exact hb2
          · exact nP d _ z (fun q z => by cases z)
/-- what is known once a generator stands there -/
structure GMd (X : Cx) (pins : List (Addr × Obj)) (σ : L2.St) (tg : Expr) (elt iter : Expr) (ifs : List Expr) (scope : Scope) (own : List (Str × Nat)) (pos : Pos) (J : It) (code : Value) (H2 : Hp) (ga : Addr) (s5 : Shared) : Prop where
  ex : ∃ (it : Addr) (fp : List Addr) (tn : Nat → Heap → Prop) (s4 : Shared) (gn : Nat), Turn X.prog X.w X.K tg J fp it tn ∧ tn 0 s5.heap ∧ (∀ b ∈ fp, FpOk X pins H2 b ∧ b < s4.heap.objs.size) ∧
    Inv X pins σ H2 s4 ∧ (∀ b o, s4.heap.get? b = some o → s5.heap.get? b = some o) ∧ s5.heap.IsGen ga gn ∧ s4.heap.objs.size < ga ∧ (∃ o, s5.heap.get? ga = some o ∧ ∀ v, o.data ≠ .cell v) ∧ ga < s5.heap.objs.size ∧ (s5.os = s4.os) ∧
    s5.gens[gn]? = some (.fresh (.compStart (.GeneratorExp elt [⟨tg, iter, ifs, 0⟩] scope pos) 0 (.ref it) .none (genEnv scope (gCells X scope s4.heap.objs.size) s4.heap.objs.size code builtinsNs X.env))) ∧
    ∀ A' : Around, A'.frames = some (genEnv scope (gCells X scope s4.heap.objs.size) s4.heap.objs.size code builtinsNs X.env :: X.stack) → (X.calm = true → A'.handled = none) →
      Inv (gCx X A' s4 H2 scope (genEnv scope (gCells X scope s4.heap.objs.size) s4.heap.objs.size code builtinsNs X.env) fp) [] (wipe σ (own.map (·.2))) H2 s5
theorem gen_make {c P : Addr} {elt tg iter : Expr} {ifs : List Expr} {scope : Scope} {own : List (Str × Nat)} {pos : Pos} {wi : TI} {k : Nat} {R : It → Array Value → Hp → Prop} {Q' : Value → Shared → Prop}
    (hr : Room k X.A) (hcode : X.env.code = .ref c) (ok : BlkOk X.N X.env.scope scope own) (hN : X.N.Nodup) (hco : scope.isCoroutine = false) (hdot : scope.names.lookup (".0" : Str) = some NameKind.local)
    (hi : PI X tg iter wi) (hs : ∀ v, genFold iter X.env v = pure v) (I : Inv X pins σ H s) (h : wi σ H fun J H1 => ∃ ps : Array Value, H1 P = some (.tbl ps) ∧ TriplesOk ps.toList ∧ CodeSrc X c P H1 ∧ R J ps H1)
    (hQ : ∀ J ps H1 code H2 ga s5, R J ps H1 → TabS P ps pos H1 code H2 → GMd X pins σ tg elt iter ifs scope own pos J code H2 ga s5 → Q' (.ref ga) s5) :
    wpAny (model X.prog X.w) X.A (eval (.GeneratorExp elt [⟨tg, iter, ifs, 0⟩] scope pos) X.env) Q' X.xe s := by
  have capt : ∀ y ∈ scope.names, y.2 = .free → ∃ c, X.env.cells.lookup y.1 = some c := fun y hy e => (ok.free y hy e).elim (fun k => I.ok.has _ (.inl k)) (fun k => I.ok.has _ (.inr k))
  rw [eval_GeneratorExp1 _ _ _ _ _ _ _ hco, closure_ok capt]
  refine wpAny_bind (thn (hi.run pins s σ H _ I h) fun xv s1 hx => ?_)
  refine wpAny_bind (wpAny_standAt ?_)
  refine wpAny_bind (wpAny_of_eq (hs xv) ?_)
  refine wpAny_bind (wpAny_holding (thn hx fun itv s2 h2 => ?_))
  obtain ⟨it, fp, tn, J, H2, e, I2, T, st2, f2, ps, hP, ht, src, q⟩ := h2
  subst e
  refine wpAny_bind (wpAny_enterFrame I2.nolimit (by have := hr.dp; omega) ?_)
  refine wpAny_bind (wpAny_pure ?_)
  have hPs : s2.heap.get? P = some { cls := .none, data := .fields ps } := I2.hok P _ hP
  obtain ⟨cd, bmA, gP⟩ := src_ok src I2 hP
  -- behind the code object
  have cont : ∀ (code : Value) (h3 : Heap) (tk : Nat) (H3 : Hp), Heap.ExtBut P s2.heap h3 → s2.heap.objs.size ≤ h3.objs.size → TabS P ps pos H2 code H3 → Inv X pins σ H3 { s2 with heap := h3, toks := tk } → (∀ b, b < s2.heap.objs.size → H2 b = none → H3 b = none) →
      wpAny (model X.prog X.w) X.A (do
        let bi ← builtinsFor X.env.globals X.env.builtins
        let cenv ← newFunctionEnv scope X.env.globals (cloFrom X.env.cells scope.names []) [(".0", .ref it)] (X.env.qual ++ "<genexpr>.") none code none bi
        newGenerator (.compStart (.GeneratorExp elt [⟨tg, iter, ifs, 0⟩] scope pos) 0 (.ref it) .none cenv) "<genexpr>" (X.env.qual ++ "<genexpr>")) Q' X.xe { s2 with heap := h3, toks := tk } := by
    intro code h3 tk H3 hx3 hsz TS I3 same
    obtain ⟨bm, ob, e1, e2, e3, e4, e5, e6, e7, e8⟩ := bmA
    refine wpAny_bind (wpAny_builtinsFor (m := X.mg) (by rw [I2.ok.glob]; exact (I2.mod.glob.keeps I2.bk).extBut hx3 gP) e1 e2 (hx3 _ _ e4 (I2.bk _ _ e5)) e6 e7 e8 ?_)
    refine wpAny_bind (newEnv_gen ok.kind hdot fun h1 hn hsb => ?_)
    simp only [newGenerator, newFields]
    refine wpAny_bind (wpAny_newGen (wpAny_bind (wpAny_mkText (wpAny_bind (wpAny_mkText (wpAny_newObj_type ?_ (by size_fits)))))))
    have kp1 : ∀ b o, h3.get? b = some o → h1.get? b = some o := fun b o e => hsb.extBut b o (Nat.ne_of_lt (Heap.lt_size e)) (pushCells_keeps _ _ _ _ (Heap.get?_push_of_some _ e))
    have neP : ∀ b, H2 b = none → b ≠ P := fun b e z => by rw [z, hP] at e; cases e
    have there : ∀ b ∈ fp, ∃ o, s2.heap.get? b = some o := fun b hb => let ⟨o, e, _⟩ := T.obj _ _ st2 b hb; ⟨o, e⟩
    have f4 : ∀ b ∈ fp, FpOk X pins H3 b ∧ b < h3.objs.size := fun b hb => by
      obtain ⟨o, e⟩ := there b hb
      exact ⟨⟨same b (Heap.lt_size e) (f2 b hb).1, (f2 b hb).2⟩, Nat.lt_of_lt_of_le (Heap.lt_size e) hsz⟩
    have szE : h1.objs.size = (pushCells (h3.push { cls := .type "frame", data := .dict #[] }) scope.names).objs.size := hsb.1
    have szG : h3.objs.size < h1.objs.size := by
      have q := pushCells_size scope.names (h3.push { cls := .type "frame", data := .dict #[] })
      rw [Heap.size_push] at q
      rw [szE]
      exact q
    have kp5 : ∀ (o5 : Obj) b o, h3.get? b = some o → (h1.push o5).get? b = some o := fun o5 b o e => Heap.get?_push_of_some _ (kp1 b o e)
    refine hQ J ps H2 code H3 h1.objs.size _ q TS ⟨it, fp, tn, { s2 with heap := h3, toks := tk }, s2.gens.size, T, ?_, f4, I3, fun b o e => kp5 _ b o e, ⟨_, _, _, Heap.get?_push_size _ rfl, rfl, rfl, rfl⟩, szG, ⟨_, Heap.get?_push_size _ rfl, fun v z => by cases z⟩, by rw [Heap.size_push]; exact Nat.lt_succ_self _, rfl, Array.getElem?_push_size .., fun A' hA hA2 => ?_⟩
    · refine T.keep _ _ _ st2 fun b hb o e => kp5 _ b o (hx3 b o (neP b (f2 b hb).1) e)
    · exact gen_start (s := { s2 with heap := h3, toks := tk }) I3 ok hN f4 hA hA2 (kp5 _) (hn.push _) (fun b o hb e => Heap.get?_push_of_some _ (hsb.extBut b o hb e)) (I2.bare.push rfl)
  cases hf : codeAmong pos ps.toList with
  | none =>
    refine wpAny_bind (wpAny_genexprCodeX hcode (cd.code hPs ht) (cd.tab hPs) hf fun c' h' tk hx hge hlt hco' _ htab' hnew => ?_)
    obtain ⟨o1, vs, f1, tf, fl, tg', inF, tx, tt, op, _, _, _, _, _, _, _, _, _, htr, _⟩ := hco'
    obtain ⟨P', hP', ic, tc⟩ := hnew
    have cd' : CodeHd h' c' P' := .of ic tc
    have ne : c' ≠ P' := by obtain ⟨_, _, _, _, _, _, _, _, _, _, _, _, _, _, _, _, _, _, r⟩ := cd'; exact r
    refine cont _ h' tk _ hx (Nat.le_trans hge (Nat.le_of_lt hlt)) (.new hf (I2.hok.fresh hge) (I2.hok.fresh hP') ne htr) (inv_tab3 (g' := s2.gens) (d' := s2.drawn) (t' := tk) I2 hP (fun b o hb e => hx b o hb e) htab'.2 I2.bare hge hP' ne cd' tc.2) fun b hb hn => ?_
    have n1 : b ≠ P := fun z => by rw [z, hP] at hn; cases hn
    rw [upd_ne (fun z => by rw [z] at hb; exact absurd (Nat.lt_of_lt_of_le hb hge) (Nat.lt_irrefl _)), upd_ne (fun z => by rw [z] at hb; exact absurd (Nat.lt_of_lt_of_le hb hP') (Nat.lt_irrefl _)), upd_ne n1]
    exact hn
  | some cv =>
    refine wpAny_bind (wpAny_genexprCode_hit hcode (cd.code hPs ht) hf ?_)
    exact cont cv s2.heap s2.toks H2 (Heap.ExtBut.refl _ _) (Nat.le_refl _) (.hit hf) I2 fun _ _ h => h
end
end Dn
set_option Elab.async false
set_option linter.all false
set_option maxRecDepth 100000
set_option maxHeartbeats 4000000
/-! Den, generators, part 5: the first turn. -/
namespace Dn
open PySem PySem.Spec PyProof.Rows L2
section
variable {X : Cx} {A1 : Around} {elt tg iter : Expr} {ifs : List Expr} {scope : Scope} {pos : Pos} {it : Addr} {fp Sl : List Addr} {tn : Nat → Heap → Prop} {J : It} {g : TG} {tt : TT} {te : TE} {vs : List Nat} {σw : L2.St} {N : Nat} {Val : Nat → V → Prop} {W Y : Nat → Nat → Hp → Prop} {Fin : Nat → Hp → Prop}
theorem seg_first (hA : X.A = A1.over (gLoop elt tg iter ifs scope pos it X.env) []) (hc : X.calm = true) (hxe : ∀ e s, ¬ X.xe e s) (hco : X.env.scope.isCoroutine = false) (hpn : X.pn = []) (hex : X.ex = fp)
    (T : Turn X.prog X.w X.K tg J fp it tn) (pg : PG X tg g) (pt : PTs X ifs tt) (pe : PE X elt te) (hSf : ∀ b ∈ Sl, b ∉ fp) (hσ : wipe σw vs = σw) (G : GWay X tg ifs elt vs σw J g tt te N Val W Y Fin)
    {j i : Nat} {s0 : Shared} {H : Hp} (I : Inv X (pinsAt Sl s0.heap) σw H s0) (st : tn i s0.heap) (n : ∀ b ∈ fp, H b = none) (w : W j i H) :
      Seg (model X.prog X.w) A1 (GR X Sl σw N Fin) (GY X fp Sl σw tn N Val W Y) (N + 1 - j) s0 (.compStart (.GeneratorExp elt [⟨tg, iter, ifs, 0⟩] scope pos) 0 (.ref it) .none X.env) ((model X.prog X.w).den (.compStart (.GeneratorExp elt [⟨tg, iter, ifs, 0⟩] scope pos) 0 (.ref it) .none X.env)) [] s0 := by
  have loop := seg_turns hA hc hxe hco hpn hex T pg pt pe hSf hσ G _ j rfl _ i s0 s0 H rfl I st n w (Nat.le_refl _)
  show Seg _ A1 _ _ _ s0 _ ((compStart (.GeneratorExp elt [⟨tg, iter, ifs, 0⟩] scope pos) 0 (.ref it) .none X.env).onRaise (leaving X.env)) [] s0
  unfold compStart
  rw [Sem.onRaise_eq_wrap]
  show Seg _ A1 _ _ _ s0 _ ((ask >>= _).wrap _ _ _ _) [] s0
  refine seg_bind_wrap (wpAny_askSetting ?_)
  split
  · exact seg_again rfl loop
  · first
      | exact seg_bind_wrap (wpAny_rule (seg_bind_wrap (wpAny_standAt (seg_bind_wrap (T.self _ i s0 _ _ st (seg_again rfl loop))))))
      | (refine seg_bind_wrap (wpAny_rule ?_); show Seg _ A1 _ _ _ s0 _ ((standAt iter.pos >>= _).wrap _ _ _ _) [] s0; exact seg_bind_wrap (wpAny_standAt (seg_bind_wrap (T.self _ i s0 _ _ st (seg_again rfl loop)))))
theorem gat_first {ga : Addr} {gn : Nat} (hA : X.A = A1.over (gLoop elt tg iter ifs scope pos it X.env) []) (hc : X.calm = true) (hxe : ∀ e s, ¬ X.xe e s) (hco : X.env.scope.isCoroutine = false) (hpn : X.pn = []) (hex : X.ex = fp)
    (T : Turn X.prog X.w X.K tg J fp it tn) (pg : PG X tg g) (pt : PTs X ifs tt) (pe : PE X elt te) (hSf : ∀ b ∈ Sl, b ∉ fp) (hσ : wipe σw vs = σw) (G : GWay X tg ifs elt vs σw J g tt te N Val W Y Fin)
    {s : Shared} {H : Hp} (I : Inv X (pinsAt Sl s.heap) σw H s) (st : tn 0 s.heap) (n : ∀ b ∈ fp, H b = none) (w : W 0 0 H) (hg : s.heap.IsGen ga gn) (ex : ∀ b ∈ Sl, ∃ o, s.heap.get? b = some o)
    (hgs : s.gens[gn]? = some (.fresh (.compStart (.GeneratorExp elt [⟨tg, iter, ifs, 0⟩] scope pos) 0 (.ref it) .none X.env))) : GAt X A1 fp Sl tn σw N Val W Y Fin ga gn 0 s :=
  ⟨hg, ⟨0, H, I, st, n, w⟩, ex, _, hgs, fun s2 hr => by
    obtain ⟨i2, H2, I2, st2, n2, w2⟩ := hr
    exact ⟨rfl, seg_first hA hc hxe hco hpn hex T pg pt pe hSf hσ G I2 st2 n2 w2⟩⟩
end
end Dn
set_option Elab.async false
set_option linter.all false
set_option maxRecDepth 100000
set_option maxHeartbeats 4000000
/-! Den, generators, part 6: sum, any, all. -/
namespace Dn
open PySem PySem.Spec PyProof.Rows L2
section
variable {X : Cx} {A1 : Around} {fp Sl : List Addr} {tn : Nat → Heap → Prop} {σw : L2.St} {N : Nat} {Val : Nat → V → Prop} {W Y : Nat → Nat → Hp → Prop} {Fin : Nat → Hp → Prop} {ga : Addr} {gn : Nat}
/-- one pinned object gets other content -/
theorem inv_put {S : Addr} {o' : Obj} {H : Hp} {s : Shared} {h' : Heap} {tk : Nat} (hpn : X.pn = []) (hS : S ∈ Sl) (ex : ∀ b ∈ Sl, ∃ o, s.heap.get? b = some o) (hS0 : X.s_0.heap.objs.size ≤ S) (I : Inv X (pinsAt Sl s.heap) σw H s)
    (k : ∀ b o, b ≠ S → s.heap.get? b = some o → h'.get? b = some o) (ho' : h'.get? S = some o') (hd : ∀ v, o'.data ≠ .cell v) : Inv X (pinsAt Sl h') σw H { s with heap := h', toks := tk } := by
  obtain ⟨o, eo⟩ := ex S hS
  obtain ⟨p1, p2, p3, p4, p5⟩ := I.pin (S, o) (List.mem_append_right _ (mem_pinsAt hS eo))
  have I0 : Inv X [] σw H s := I.pins_of fun p hp => by cases hp
  have nc : ∀ x c, X.env.cells.lookup x = some c → c ≠ S := fun x c e z => by
    obtain ⟨v, q⟩ := I.cell x c e
    rw [z] at q
    obtain ⟨o2, e2, d2⟩ := q
    rw [eo] at e2
    cases e2
    exact p5 v d2
  have I1 : Inv X [] σw H { s with heap := h', toks := tk } := I0.turned (t' := tk) (it := S) k p2 p3 (.inr hS0) nc (fun p hp => by rw [hpn] at hp; cases hp)
  refine I1.pins_of fun p hp => ?_
  obtain ⟨q1, q2⟩ := of_pinsAt hp
  by_cases hb : p.1 = S
  · rw [hb] at q2
    rw [ho'] at q2
    cases q2
    rw [hb]
    exact ⟨ho', p2, p3, p4, hd⟩
  · obtain ⟨o2, e2⟩ := ex p.1 q1
    have e3 := k p.1 o2 hb e2
    obtain ⟨r1, r2, r3, r4, r5⟩ := I.pin (p.1, o2) (List.mem_append_right _ (mem_pinsAt q1 e2))
    rw [e3] at q2
    have e4 : o2 = p.2 := Option.some.inj q2
    rw [← e4]
    exact ⟨e3, r2, r3, r4, r5⟩
theorem gat_put {j : Nat} {S : Addr} {o' : Obj} {s : Shared} {h' : Heap} {tk : Nat} (hpn : X.pn = []) (hS : S ∈ Sl) (hSa : S ≠ ga) (hS0 : X.s_0.heap.objs.size ≤ S) (hfx : X.ex = fp) (T : ∀ i h h', tn i h → (∀ b ∈ fp, ∀ o, h.get? b = some o → h'.get? b = some o) → tn i h') (hSf : S ∉ fp)
    (st : GAt X A1 fp Sl tn σw N Val W Y Fin ga gn j s) (k : ∀ b o, b ≠ S → s.heap.get? b = some o → h'.get? b = some o) (ho' : h'.get? S = some o') (hd : ∀ v, o'.data ≠ .cell v) : GAt X A1 fp Sl tn σw N Val W Y Fin ga gn j { s with heap := h', toks := tk } := by
  obtain ⟨i, H, I, s1, n1, w1⟩ := st.rdy
  refine ⟨?_, ⟨i, H, inv_put hpn hS st.ex hS0 I k ho' hd, T _ _ _ s1 fun b hb o e => k b o (fun z => hSf (z ▸ hb)) e, n1, w1⟩, fun b hb => ?_, st.go⟩
  · obtain ⟨o, nm, qn, ho, r⟩ := st.gen
    exact ⟨o, nm, qn, k _ _ (Ne.symm hSa) ho, r⟩
  · by_cases hb2 : b = S
    · rw [hb2]; exact ⟨o', ho'⟩
    · obtain ⟨o, e⟩ := st.ex b hb
      exact ⟨o, k b o hb2 e⟩
end
/-- what a consumer asks of the world around it -/
structure GEnv (X : Cx) (A1 : Around) (fp Sl : List Addr) (tn : Nat → Heap → Prop) (N : Nat) (W : Nat → Nat → Hp → Prop) (ga : Addr) : Prop where
  pn : X.pn = []
  ex : X.ex = fp
  keep : ∀ i h h', tn i h → (∀ b ∈ fp, ∀ o, h.get? b = some o → h'.get? b = some o) → tn i h'
  le : ∀ j i H, W j i H → j ≤ N
  mem : ga ∈ Sl
section
variable {X : Cx} {A : Around} {R : Result → Shared → Prop} {fp Sl : List Addr} {tn : Nat → Heap → Prop} {σw : L2.St} {N : Nat} {Val : Nat → V → Prop} {W Y : Nat → Nat → Hp → Prop} {Fin : Nat → Hp → Prop} {ga S : Addr} {gn : Nat}
theorem gsum_loop (B : GEnv X A.in1.in1 fp Sl tn N W ga) (hh : A.in1.handled = none) (hroom : A.in1.depth < recursionLimit) (hS : S ∈ Sl) (hSa : S ≠ ga) (hS0 : X.s_0.heap.objs.size ≤ S) (hSf : S ∉ fp) (val : Nat → Int) (hval : ∀ j y, Val j y → y = .int (val j)) (hYW : ∀ j i H, Y j i H → W j i H) :
    ∀ (n j : Nat) (s : Shared) (tA : Tok) (c : Nat) (st : Int), N + 1 - j = n → (st = 0 ∨ st = 2) → GAt X A.in1.in1 fp Sl tn σw N Val W Y Fin ga gn j s → s.heap.get? S = some { cls := .type "list", dict := none, data := .seq #[.int (preSum val j) tA] c, slots := #[] } →
      (∀ j2 H s' t', Fin j2 H → Inv X (pinsAt Sl s'.heap) σw H s' → R (.ok (.ret (.int (preSum val j2) t'))) s') → codeAny (model X.prog X.w) A (.builtin "sum.loop" ⟨[.ref ga, .ref S, rawInt st, rawInt 0], []⟩) R s := by
  intro n
  induction n with
  | zero =>
    intro j s tA c st hn _ g _ _
    obtain ⟨i, H, _, _, _, w⟩ := g.rdy
    have := B.le j i H w
    omega
  | succ n ih =>
    intro j s tA c st hn hst g hs hR
    refine codeAny_builtin F.entry_sum_loop ?_
    rw [Around.under_plainId F.plain_sum_loop _]
    show wpAny _ A.in1 (seqItems? (.ref S) >>= _) _ _ s
    refine wpAny_bind (wpAny_seqItems hs rfl ?_)
    show wpAny _ A.in1 (tryCatch (pyNext (.ref ga)) _ >>= _) _ _ s
    refine wpAny_bind (wpAny_tryCatch (gen_next rfl hh hroom (fun i H w => B.le j i H w) B.mem g (fun v y i H s' ry hv w I' g' => ?_) fun H s' I' fin => ?_))
    · have ey := hval j y hv
      subst ey
      obtain ⟨t, rfl⟩ := ry
      have hs' : s'.heap.get? S = some { cls := .type "list", dict := none, data := .seq #[.int (preSum val j) tA] c, slots := #[] } := (I'.pin (S, _) (List.mem_append_right _ (mem_pinsAt hS hs))).1
      have up1 : ∀ (f : Array Value → Array Value) (b : Addr) (o : Obj), b ≠ S → s'.heap.get? b = some o → (s'.heap.update S (Obj.mapSeq f)).get? b = some o := fun f b o hb e => (Heap.get?_update_other _ _ (Ne.symm hb)).trans e
      rcases hst with rfl | rfl
      · show wpAny _ A.in1 (if (_ : Bool) = true then (mkInt (preSum val j + val j) >>= _) else _) _ _ _
        split
        · refine wpAny_bind (wpAny_mkInt ?_)
          show wpAny _ A.in1 (updateSeq S (fun _ => #[.int (preSum val j + val j) s'.toks]) >>= _) _ _ _
          refine wpAny_bind ?_
          refine wpAny_updateSeq hs' rfl (wpAny_pure ⟨plainId_quiet F.plain_sum_loop _, ?_⟩)
          have hsn := Heap.get?_update_self (Obj.mapSeq fun _ => #[Value.int (preSum val j + val j) s'.toks]) hs' rfl
          exact ih (j + 1) _ s'.toks _ 0 (by omega) (.inl rfl) (gat_put (s := s') (tk := s'.toks + 1) B.pn hS hSa hS0 B.ex B.keep hSf (g' (hYW _ _ _ w)) (up1 _) hsn fun v z => by cases z) hsn hR
        · refine wpAny_bind (wpAny_rule ?_)
          refine wpAny_bind (wpAny_attempt (wpAny_holding (wpAny_add_int ?_)))
          show wpAny _ A.in1 (updateSeq S (fun _ => #[.int (preSum val j + val j) s'.toks]) >>= _) _ _ _
          refine wpAny_bind (wpAny_updateSeq hs' rfl ?_)
          have hsn := Heap.get?_update_self (Obj.mapSeq fun _ => #[Value.int (preSum val j + val j) s'.toks]) hs' rfl
          refine wpAny_bind (wpAny_letGo ?_)
          refine wpAny_bind (wpAny_updateSeq hsn rfl (wpAny_pure ⟨plainId_quiet F.plain_sum_loop _, ?_⟩))
          have hsm := Heap.get?_update_self (Obj.mapSeq fun _ => #[Value.int (preSum val j + val j) s'.toks]) hsn rfl
          exact ih (j + 1) _ s'.toks _ 2 (by omega) (.inr rfl) (gat_put (s := s') (tk := s'.toks + 1) B.pn hS hSa hS0 B.ex B.keep hSf (g' (hYW _ _ _ w)) (fun b o hb e => (Heap.get?_update_other _ _ (Ne.symm hb)).trans (up1 _ b o hb e)) hsm fun v z => by cases z) hsm hR
      · show wpAny _ A.in1 ((holding [Value.int (val j) t] (binaryOp .Add (.int (preSum val j) tA) (.int (val j) t))).attempt >>= _) _ _ _
        refine wpAny_bind (wpAny_attempt (wpAny_holding (wpAny_add_int ?_)))
        show wpAny _ A.in1 (updateSeq S (fun _ => #[.int (preSum val j + val j) s'.toks]) >>= _) _ _ _
        refine wpAny_bind (wpAny_updateSeq hs' rfl ?_)
        have hsn := Heap.get?_update_self (Obj.mapSeq fun _ => #[Value.int (preSum val j + val j) s'.toks]) hs' rfl
        refine wpAny_bind (wpAny_letGo ?_)
        refine wpAny_bind (wpAny_updateSeq hsn rfl (wpAny_pure ⟨plainId_quiet F.plain_sum_loop _, ?_⟩))
        have hsm := Heap.get?_update_self (Obj.mapSeq fun _ => #[Value.int (preSum val j + val j) s'.toks]) hsn rfl
        exact ih (j + 1) _ s'.toks _ 2 (by omega) (.inr rfl) (gat_put (s := s') (tk := s'.toks + 1) B.pn hS hSa hS0 B.ex B.keep hSf (g' (hYW _ _ _ w)) (fun b o hb e => (Heap.get?_update_other _ _ (Ne.symm hb)).trans (up1 _ b o hb e)) hsm fun v z => by cases z) hsm hR
    · obtain ⟨pk, _⟩ := pins_keep (pn := X.pn) rfl g.ex I'
      refine wpAny_pure (hR j H s' tA fin ?_)
      rw [pk]
      exact I'
end
end Dn
set_option Elab.async false
set_option linter.all false
set_option maxRecDepth 100000
set_option maxHeartbeats 4000000
/-! Den, generators, part 7: any, all. -/
namespace Dn
open PySem PySem.Spec PyProof.Rows L2
section
variable {X : Cx} {A : Around} {R : Result → Shared → Prop} {fp Sl : List Addr} {tn : Nat → Heap → Prop} {σw : L2.St} {N : Nat} {Val : Nat → V → Prop} {W Y : Nat → Nat → Hp → Prop} {Fin : Nat → Hp → Prop} {ga : Addr} {gn : Nat}
/-- what stands when a truth value has ended it: behind the thing j -/
def GMid (X : Cx) (Sl : List Addr) (σw : L2.St) (W : Nat → Nat → Hp → Prop) (j : Nat) (s : Shared) : Prop := ∃ i H, W j i H ∧ Inv X (pinsAt Sl s.heap) σw H s
theorem gany_loop (B : GEnv X A.in1.in1 fp Sl tn N W ga) (hh : A.in1.handled = none) (hroom : A.in1.depth < recursionLimit) (tr : Nat → Bool) (hval : ∀ j y, Val j y → y = .bl (tr j)) (hYW : ∀ j i H, tr j = false → Y (j + 1) i H → W (j + 1) i H) :
    ∀ (n j : Nat) (s : Shared), N + 1 - j = n → GAt X A.in1.in1 fp Sl tn σw N Val W Y Fin ga gn j s → (∀ a, a < j → tr a = false) →
      (∀ j2 s', tr j2 = true → (∀ a, a < j2 → tr a = false) → GMid X Sl σw Y (j2 + 1) s' → R (.ok (.ret (.bool true))) s') → (∀ j2 H s', (∀ a, a < j2 → tr a = false) → Fin j2 H → Inv X (pinsAt Sl s'.heap) σw H s' → R (.ok (.ret (.bool false))) s') →
      codeAny (model X.prog X.w) A (.builtin "any.loop" ⟨[.ref ga], []⟩) R s := by
  intro n
  induction n with
  | zero =>
    intro j s hn g _ _ _
    obtain ⟨i, H, _, _, _, w⟩ := g.rdy
    have := B.le j i H w
    omega
  | succ n ih =>
    intro j s hn g hb hT hF
    refine codeAny_builtin F.entry_any_loop ?_
    rw [Around.under_plainId F.plain_any_loop _]
    show wpAny _ A.in1 (pyNext (.ref ga) >>= _) _ _ s
    refine wpAny_bind (gen_next rfl hh hroom (fun i H w => B.le j i H w) B.mem g (fun v y i H s' ry hv w I' g' => ?_) fun H s' I' fin => ?_)
    · have ey := hval j y hv
      subst ey
      obtain rfl : v = Value.bool (tr j) := ry
      obtain ⟨pk, _⟩ := pins_keep (pn := X.pn) rfl g.ex I'
      refine wpAny_bind (wpAny_holding (wpAny_truthy_bool ?_))
      refine wpAny_bind (wpAny_letGo ?_)
      cases ht : tr j with
      | false =>
        simp only [Bool.false_eq_true, if_false]
        refine wpAny_pure ⟨plainId_quiet F.plain_any_loop _, ih (j + 1) s' (by omega) (g' (hYW _ _ _ ht w)) (fun a ha => ?_) hT hF⟩
        rcases Nat.lt_or_ge a j with h | h
        · exact hb a h
        · rw [show a = j by omega]; exact ht
      | true =>
        simp only [if_true]
        refine wpAny_bind (wpAny_rule (wpAny_pure ?_))
        exact hT j s' ht hb ⟨i, H, w, by rw [pk]; exact I'⟩
    · obtain ⟨pk, _⟩ := pins_keep (pn := X.pn) rfl g.ex I'
      refine wpAny_bind (wpAny_rule (wpAny_pure ?_))
      exact hF j H s' hb fin (by rw [pk]; exact I')
theorem gall_loop (B : GEnv X A.in1.in1 fp Sl tn N W ga) (hh : A.in1.handled = none) (hroom : A.in1.depth < recursionLimit) (tr : Nat → Bool) (hval : ∀ j y, Val j y → y = .bl (tr j)) (hYW : ∀ j i H, tr j = true → Y (j + 1) i H → W (j + 1) i H) :
    ∀ (n j : Nat) (s : Shared), N + 1 - j = n → GAt X A.in1.in1 fp Sl tn σw N Val W Y Fin ga gn j s → (∀ a, a < j → tr a = true) →
      (∀ j2 s', tr j2 = false → (∀ a, a < j2 → tr a = true) → GMid X Sl σw Y (j2 + 1) s' → R (.ok (.ret (.bool false))) s') → (∀ j2 H s', (∀ a, a < j2 → tr a = true) → Fin j2 H → Inv X (pinsAt Sl s'.heap) σw H s' → R (.ok (.ret (.bool true))) s') →
      codeAny (model X.prog X.w) A (.builtin "all.loop" ⟨[.ref ga], []⟩) R s := by
  intro n
  induction n with
  | zero =>
    intro j s hn g _ _ _
    obtain ⟨i, H, _, _, _, w⟩ := g.rdy
    have := B.le j i H w
    omega
  | succ n ih =>
    intro j s hn g hb hT hF
    refine codeAny_builtin F.entry_all_loop ?_
    rw [Around.under_plainId F.plain_all_loop _]
    show wpAny _ A.in1 (pyNext (.ref ga) >>= _) _ _ s
    refine wpAny_bind (gen_next rfl hh hroom (fun i H w => B.le j i H w) B.mem g (fun v y i H s' ry hv w I' g' => ?_) fun H s' I' fin => ?_)
    · have ey := hval j y hv
      subst ey
      obtain rfl : v = Value.bool (tr j) := ry
      obtain ⟨pk, _⟩ := pins_keep (pn := X.pn) rfl g.ex I'
      refine wpAny_bind (wpAny_holding (wpAny_truthy_bool ?_))
      refine wpAny_bind (wpAny_letGo ?_)
      cases ht : tr j with
      | true =>
        simp only [if_true]
        refine wpAny_pure ⟨plainId_quiet F.plain_all_loop _, ih (j + 1) s' (by omega) (g' (hYW _ _ _ ht w)) (fun a ha => ?_) hT hF⟩
        rcases Nat.lt_or_ge a j with h | h
        · exact hb a h
        · rw [show a = j by omega]; exact ht
      | false =>
        simp only [Bool.false_eq_true, if_false]
        refine wpAny_bind (wpAny_rule (wpAny_pure ?_))
        exact hT j s' ht hb ⟨i, H, w, by rw [pk]; exact I'⟩
    · obtain ⟨pk, _⟩ := pins_keep (pn := X.pn) rfl g.ex I'
      refine wpAny_bind (wpAny_rule (wpAny_pure ?_))
      exact hF j H s' hb fin (by rw [pk]; exact I')
end
end Dn
set_option Elab.async false
set_option linter.all false
set_option maxRecDepth 100000
set_option maxHeartbeats 4000000
/-! Den, generators, part 8: the calls. -/
namespace Dn
open PySem PySem.Spec PyProof.Rows L2
section
variable {X : Cx} {pins : List (Addr × Obj)} {σ : L2.St} {elt tg iter : Expr} {ifs : List Expr} {scope : Scope} {pos : Pos}
/-- what is around a turn -/
theorem around_turn {A : Around} {k : Nat} {st : List Env} {it : Addr} {genv : Env} (hr : Room (k + 1) A) (hf : A.frames = some st) :
    ((A.in1.in1).over (gLoop elt tg iter ifs scope pos it genv) []).frames = some (genv :: st) ∧ ((A.in1.in1).over (gLoop elt tg iter ifs scope pos it genv) []).handled = none ∧ Room k ((A.in1.in1).over (gLoop elt tg iter ifs scope pos it genv) []) := by
  have e1 : (gLoop elt tg iter ifs scope pos it genv).envs = [genv] := rfl
  have e2 : (gLoop elt tg iter ifs scope pos it genv).weight = 1 := rfl
  have e3 : (gLoop elt tg iter ifs scope pos it genv).cUnits = 3 := rfl
  refine ⟨?_, ?_, ?_⟩
  · show pushEnvs (gLoop elt tg iter ifs scope pos it genv).envs (pushEnvs [] A.frames) = _
    rw [e1, hf]
    rfl
  · exact hr.hd
  · refine ⟨hr.hd, ?_, ?_⟩
    · have := hr.dp
      show A.depth + 0 + (gLoop elt tg iter ifs scope pos it genv).weight + 3 * k + 5 < _
      rw [e2]
      omega
    · have := hr.un
      show A.units + 1 + 1 + 0 + (gLoop elt tg iter ifs scope pos it genv).cUnits + 16 * k + 200 < _
      omega
end
section
variable {X : Cx} {pins : List (Addr × Obj)} {σ : L2.St} {H : Hp} {s : Shared} {elt tg iter : Expr} {ifs : List Expr} {scope : Scope} {pos : Pos} {own : List (Str × Nat)}
/-- back in the def's context -/
theorem gen_leave {X' : Cx} {s4 s' : Shared} {H4 H' : Hp} {σ' : L2.St} {pins' : List (Addr × Obj)} {fp : List Addr} (I4 : Inv X pins σ H4 s4) (I' : Inv X' pins' σ' H' s') (e1 : X'.s_0 = s4) (e2 : X'.H_0 = H4) (e3 : X'.outer = X.stack) (e4 : X'.ex = fp) (e5 : X'.prog = X.prog) (e6 : X'.w = X.w)
    (f4 : ∀ b ∈ fp, FpOk X pins H4 b) : Inv X pins σ H' s' := by
  have u := I'.base
  have hk := I'.hok
  have os := I'.os
  unfold Cx.fs at u
  rw [e1, e2, e3, e4] at u
  rw [e5, e6] at hk
  rw [e1] at os
  exact I4.call' (ch := fp) os u hk I'.bare fun b hb => ⟨(f4 b hb).2.2.2.1, (f4 b hb).2.1, (f4 b hb).2.2.2.2.1, (f4 b hb).2.2.2.2.2⟩
/-- what the parts of a generator expression are in any of its contexts -/
structure GParts (X : Cx) (scope : Scope) (own : List (Str × Nat)) (tg : Expr) (ifs : List Expr) (elt : Expr) (k : Nat) (code : Value) (g : TG) (tt : TT) (te : TE) : Prop where
  g : ∀ (A' : Around) (s : Shared) (H : Hp) (C : Addr) (cl : List (Str × Addr)) (fp : List Addr), Room k A' → PG (gCx X A' s H scope (genEnv scope cl C code builtinsNs X.env) fp) tg g
  t : ∀ (A' : Around) (s : Shared) (H : Hp) (C : Addr) (cl : List (Str × Addr)) (fp : List Addr), Room k A' → PTs (gCx X A' s H scope (genEnv scope cl C code builtinsNs X.env) fp) ifs tt
  e : ∀ (A' : Around) (s : Shared) (H : Hp) (C : Addr) (cl : List (Str × Addr)) (fp : List Addr), Room k A' → PE (gCx X A' s H scope (genEnv scope cl C code builtinsNs X.env) fp) elt te
/-- sum of a generator expression -/
def tGSum (X : Cx) (c P : Addr) (pos : Pos) (tg : Expr) (ifs : List Expr) (elt : Expr) (vs : List Nat) (wi : TI) (g : Value → TG) (tt : Value → TT) (te : Value → TE) : TE := fun σ H Q => wi σ H fun J H1 => ∃ ps : Array Value, H1 P = some (.tbl ps) ∧ TriplesOk ps.toList ∧ CodeSrc X c P H1 ∧ ∀ code H2, TabS P ps pos H1 code H2 →
  ∃ (N : Nat) (Val : Nat → V → Prop) (W : Nat → Nat → Hp → Prop) (Fin : Nat → Hp → Prop) (val : Nat → Int), GWay X tg ifs elt vs (wipe σ vs) J (g code) (tt code) (te code) N Val W W Fin ∧ W 0 0 H2 ∧ (∀ j y, Val j y → y = .int (val j)) ∧ ∀ j H2, Fin j H2 → Q (.int (preSum val j)) H2
theorem gway_any {X X' : Cx} {vs : List Nat} {σw : L2.St} {J : It} {g : TG} {tt : TT} {te : TE} {N : Nat} {Val : Nat → V → Prop} {W Y : Nat → Nat → Hp → Prop} {Fin : Nat → Hp → Prop} (G : GWay X tg ifs elt vs σw J g tt te N Val W Y Fin) : GWay X' tg ifs elt vs σw J g tt te N Val W Y Fin := ⟨G.le, G.step⟩
theorem gsum_at {J : It} {code : Value} {H2 : Hp} {ga : Addr} {Q : VK} {k : Nat} {g : TG} {tt : TT} {te : TE} {N : Nat} {Val : Nat → V → Prop} {W : Nat → Nat → Hp → Prop} {Fin : Nat → Hp → Prop} {val : Nat → Int}
    (hr : Room (k + 1) X.A) (hc : X.calm = true) (hst : X.A.frames = some X.stack) (hco : scope.isCoroutine = false) (M : GMd X pins σ tg elt iter ifs scope own pos J code H2 ga s) (Pt : GParts X scope own tg ifs elt k code g tt te)
    (hidem : wipe (wipe σ (own.map (·.2))) (own.map (·.2)) = wipe σ (own.map (·.2)))
    (G : GWay X tg ifs elt (own.map (·.2)) (wipe σ (own.map (·.2))) J g tt te N Val W W Fin) (w0 : W 0 0 H2) (hval : ∀ j y, Val j y → y = .int (val j)) (hQ : ∀ j H2, Fin j H2 → Q (.int (preSum val j)) H2) :
    wpAny (model X.prog X.w) X.A (call (.builtin "sum") [.ref ga]) (EP X pins σ Q) X.xe s := by
  obtain ⟨it, fp, tn, s4, gn, T, st0, f4, I4, kp, hgen, hlt, ⟨go, hgo, hgd⟩, hgs5, hos, hgens, mk⟩ := M.ex
  obtain ⟨a1, a2, a3⟩ := around_turn (elt := elt) (tg := tg) (iter := iter) (ifs := ifs) (scope := scope) (pos := pos) (it := it) (genv := genEnv scope (gCells X scope s4.heap.objs.size) s4.heap.objs.size code builtinsNs X.env) hr hst
  have I5 := mk _ a1 fun _ => a2
  refine call_function_tree PySem.F.kind_sum PySem.F.plain_sum PySem.F.entry_sum (PySem.F.args_sum1 _) ?_
  unfold Builtin.«sum»
  simp only [List.length_cons, List.length_nil]
  rw [if_neg (by decide)]
  refine wpAny_bind (wpAny_of_eq (show Builtin.Builtins.bindParams "sum" ["start"] 0 { } = pure [none] from rfl) ?_)
  refine wpAny_bind (wpAny_pyIter_gen hgen ?_)
  refine wpAny_bind (wpAny_mkInt ?_)
  refine wpAny_bind (wpAny_pure ?_)
  simp only [List.forIn_cons, List.forIn_nil]
  refine wpAny_bind (wpAny_bind (wpAny_bind (wpAny_isInstance (T := "int") (b := false) (typeIs_int _ _ _) PySem.sub_int_str ?_)))
  simp only [Bool.false_eq_true, if_false]
  refine wpAny_pure (wpAny_bind (wpAny_bind (wpAny_isInstance (T := "int") (b := false) (typeIs_int _ _ _) PySem.sub_int_bytes ?_)))
  simp only [Bool.false_eq_true, if_false]
  refine wpAny_pure (wpAny_bind (wpAny_bind (wpAny_isInstance (T := "int") (b := false) (typeIs_int _ _ _) PySem.sub_int_bytearray ?_)))
  simp only [Bool.false_eq_true, if_false]
  refine wpAny_pure (wpAny_pure ?_)
  refine wpAny_bind (wpAny_newObj_type ?_)
  generalize hX' : gCx X ((X.A.in1.in1).over (gLoop elt tg iter ifs scope pos it (genEnv scope (gCells X scope s4.heap.objs.size) s4.heap.objs.size code builtinsNs X.env)) []) s4 H2 scope (genEnv scope (gCells X scope s4.heap.objs.size) s4.heap.objs.size code builtinsNs X.env) fp = X' at I5
  have x1 : X'.s_0 = s4 := by rw [← hX']
  have x2 : X'.H_0 = H2 := by rw [← hX']
  have x3 : X'.outer = X.stack := by rw [← hX']
  have x4 : X'.ex = fp := by rw [← hX']
  have x5 : X'.prog = X.prog := by rw [← hX']
  have x6 : X'.w = X.w := by rw [← hX']
  have x7 : X'.pn = [] := by rw [← hX']
  have x8 : X'.env.locals = s4.heap.objs.size := by rw [← hX']; rfl
  -- the accumulator
  generalize hs6 : ({ s with heap := s.heap.push { cls := .type "list", data := .seq ([Value.int 0 s.toks] : List Value).toArray }, toks := s.toks + 1 } : Shared) = s6
  have h6 : s6.heap = s.heap.push { cls := .type "list", data := .seq ([Value.int 0 s.toks] : List Value).toArray } := by rw [← hs6]
  have g6 : s6.gens = s.gens := by rw [← hs6]
  have kp6 : ∀ b o, s.heap.get? b = some o → s6.heap.get? b = some o := fun b o e => by rw [h6]; exact Heap.get?_push_of_some _ e
  have hS6 : s6.heap.get? s.heap.objs.size = some { cls := .type "list", data := .seq ([Value.int 0 s.toks] : List Value).toArray } := by rw [h6]; exact Heap.get?_push_size _ rfl
  have I6 : Inv X' [] (wipe σ (own.map (·.2))) H2 s6 := by
    rw [← hs6]
    exact I5.kept (t' := s.toks + 1) fun b o e => Heap.get?_push_of_some _ e
  have big : s4.heap.objs.size < s.heap.objs.size := Nat.lt_trans hlt hgs5
  have ex6 : ∀ b ∈ [ga, s.heap.objs.size], ∃ o, s6.heap.get? b = some o := fun b hb => by
    rcases List.mem_cons.mp hb with e | hb
    · rw [e]; exact ⟨go, kp6 _ _ hgo⟩
    · rw [List.mem_singleton.mp hb]; exact ⟨_, hS6⟩
  have lts : ∀ b ∈ [ga, s.heap.objs.size], s4.heap.objs.size < b := fun b hb => by
    rcases List.mem_cons.mp hb with e | hb
    · rw [e]; exact hlt
    · rw [List.mem_singleton.mp hb]; exact big
  have I7 : Inv X' (pinsAt [ga, s.heap.objs.size] s6.heap) (wipe σ (own.map (·.2))) H2 s6 := I6.pins_of fun p hp => by
    obtain ⟨q1, q2⟩ := of_pinsAt hp
    have q3 := lts _ q1
    refine ⟨q2, I4.hok.fresh (Nat.le_of_lt q3), by rw [x8]; exact Nat.ne_of_gt q3, fun z => ?_, fun v => ?_⟩
    · unfold Cx.fs at z
      rw [x3] at z
      rcases List.mem_cons.mp (I4.stkSub _ z) with z | z
      · have := I4.lt
        rw [z] at q3
        exact absurd (Nat.lt_trans this q3) (Nat.lt_irrefl _)
      · exact I4.nofs (Nat.le_of_lt q3) z
    · rcases List.mem_cons.mp q1 with e | hb
      · rw [e, kp6 _ _ hgo] at q2
        rw [← Option.some.inj q2]
        exact hgd v
      · rw [List.mem_singleton.mp hb, hS6] at q2
        rw [← Option.some.inj q2]
        intro z
        cases z
  have nSf : ∀ b ∈ [ga, s.heap.objs.size], b ∉ fp := fun b hb z => absurd (Nat.lt_trans (lts b hb) (f4 b z).2) (Nat.lt_irrefl _)
  have x9 : X'.K = X.K := by rw [← hX']
  have x10 : X'.env = genEnv scope (gCells X scope s4.heap.objs.size) s4.heap.objs.size code builtinsNs X.env := by rw [← hX']
  have x11 : X'.A = (X.A.in1.in1).over (gLoop elt tg iter ifs scope pos it X'.env) [] := by rw [x10, ← hX']
  have x12 : ∀ e s, ¬ X'.xe e s := by rw [← hX']; exact fun _ _ z => z
  have x13 : X'.calm = true := by rw [← hX']; exact hc
  have T' : Turn X'.prog X'.w X'.K tg J fp it tn := by rw [x5, x6, x9]; exact T
  have pg : PG X' tg g := by rw [← hX']; exact Pt.g _ _ _ _ _ _ a3
  have pt : PTs X' ifs tt := by rw [← hX']; exact Pt.t _ _ _ _ _ _ a3
  have pe : PE X' elt te := by rw [← hX']; exact Pt.e _ _ _ _ _ _ a3
  have gat := gat_first (X := X') (A1 := X.A.in1.in1) (Sl := [ga, s.heap.objs.size]) (ga := ga) (gn := gn) (Val := Val) (Fin := Fin) x11 x13 x12 (by rw [x10]; exact hco) x7 x4 T' pg pt pe nSf hidem (gway_any G) I7 (T.keep _ _ _ st0 fun b _ o e => kp6 b o e) (fun b hb => (f4 b hb).1.1) w0
    (by obtain ⟨o, nm, qn, ho, r⟩ := hgen; exact ⟨o, nm, qn, kp6 _ _ ho, r⟩) ex6 (by rw [g6, x10]; exact hgens)
  have B : GEnv X' X.A.in1.in1 fp [ga, s.heap.objs.size] tn N W ga := ⟨x7, x4, T.keep, fun j i H w => Nat.le_trans (G.le j i H w).1 (G.le j i H w).2, List.mem_cons_self⟩
  refine wpAny_pure ⟨plainId_quiet PySem.F.plain_sum_loop _, ?_⟩
  rw [← x5, ← x6]
  refine gsum_loop (X := X') B hr.hd (by have := hr.dp; show X.A.depth < _; omega) (List.mem_cons_of_mem _ List.mem_cons_self) (Nat.ne_of_gt hgs5) (by rw [x1]; exact Nat.le_of_lt big) (nSf _ (List.mem_cons_of_mem _ List.mem_cons_self)) val hval (fun _ _ _ h => h) _ 0 s6 s.toks 0 0 rfl (.inl rfl) gat hS6 fun j2 H2 s' t' fin I' => ?_
  exact ⟨.int (preSum val j2), H2, gen_leave I4 I' x1 x2 x3 x4 x5 x6 (fun b hb => (f4 b hb).1), ⟨t', rfl⟩, hQ j2 H2 fin⟩
end
end Dn
set_option Elab.async false
set_option linter.all false
set_option maxRecDepth 100000
set_option maxHeartbeats 4000000
/-! Den, generators, part 9: sum( .. for .. ), the expression. -/
namespace Dn
open PySem PySem.Spec PyProof.Rows L2
section
variable {X : Cx}
theorem pe_gsum {c P : Addr} {elt tg iter : Expr} {ifs : List Expr} {scope : Scope} {own : List (Str × Nat)} {p pos gpos : Pos} {wi : TI} {k : Nat} {g : Value → TG} {tt : Value → TT} {te : Value → TE}
    (hr : Room (k + 1) X.A) (hcl : X.calm = true) (hg : Gl X "sum") (hm : X.mg "sum" = none) (hcode : X.env.code = .ref c) (ok : BlkOk X.N X.env.scope scope own) (hN : X.N.Nodup) (hco : scope.isCoroutine = false) (hdot : scope.names.lookup (".0" : Str) = some NameKind.local)
    (hi : PI X tg iter wi) (hs : ∀ v, genFold iter X.env v = pure v) (Pt : ∀ code, GParts X scope own tg ifs elt k code (g code) (tt code) (te code))
    (he : starEach [.GeneratorExp elt [⟨tg, iter, ifs, 0⟩] scope gpos] X.env = (false, eval (.GeneratorExp elt [⟨tg, iter, ifs, 0⟩] scope gpos) X.env) :: starEach [] X.env := by rfl) :
    PE X (.Call (.Name "sum" p) [.GeneratorExp elt [⟨tg, iter, ifs, 0⟩] scope gpos] [] pos) (tGSum X c P gpos tg ifs elt (own.map (·.2)) wi g tt te) := by
  refine ⟨fun pins s σ H Q I h => ?_⟩
  refine wpAny_Call_Name_kw (ld_blt I hg hm boot_sum ?_)
  refine PyProof.Rows.callWith_builtin1 ?_ he (by rfl)
  rw [he]
  show wpAny _ _ (spliced ((false, eval (.GeneratorExp elt [⟨tg, iter, ifs, 0⟩] scope gpos) X.env) :: backTo pos (starEach [] X.env))) _ _ s
  refine Calls.spliced_cons (gen_make (P := P) (R := fun J ps H1 => ∀ code H2, TabS P ps gpos H1 code H2 → ∃ (N : Nat) (Val : Nat → V → Prop) (W : Nat → Nat → Hp → Prop) (Fin : Nat → Hp → Prop) (val : Nat → Int), GWay X tg ifs elt (own.map (fun q : Str × Nat => q.2)) (wipe σ (own.map (fun q : Str × Nat => q.2))) J (g code) (tt code) (te code) N Val W W Fin ∧ W 0 0 H2 ∧ (∀ j y, Val j y → y = .int (val j)) ∧ ∀ j H2, Fin j H2 → Q (.int (preSum val j)) H2) hr hcode ok hN hco hdot hi hs I h fun J ps H1 code H2 ga s5 hR TS M => ?_)
  refine Calls.spliced_nil ?_
  obtain ⟨N, Val, W, Fin, val, G, w0, hval, hQ⟩ := hR code H2 TS
  exact gsum_at hr hcl I.ok.frames hco M (Pt code) (wipe_idem _ _) G w0 hval hQ
end
end Dn
set_option Elab.async false
set_option linter.all false
set_option maxRecDepth 100000
set_option maxHeartbeats 4000000
/-! Den, generators, part 10: any( .. for .. ), all( .. for .. ). -/
namespace Dn
open PySem PySem.Spec PyProof.Rows L2
section
variable {X : Cx} {pins : List (Addr × Obj)} {σ : L2.St} {H : Hp} {s : Shared} {elt tg iter : Expr} {ifs : List Expr} {scope : Scope} {pos : Pos} {own : List (Str × Nat)}
/-- a made generator as its consumer meets it -/
theorem gat_of {J : It} {code : Value} {H2 : Hp} {ga : Addr} {k : Nat} {g : TG} {tt : TT} {te : TE} {N : Nat} {Val : Nat → V → Prop} {W Y : Nat → Nat → Hp → Prop} {Fin : Nat → Hp → Prop}
    (hr : Room (k + 1) X.A) (hc : X.calm = true) (hst : X.A.frames = some X.stack) (hco : scope.isCoroutine = false) (M : GMd X pins σ tg elt iter ifs scope own pos J code H2 ga s) (Pt : GParts X scope own tg ifs elt k code g tt te)
    (G : GWay X tg ifs elt (own.map (·.2)) (wipe σ (own.map (·.2))) J g tt te N Val W Y Fin) (w0 : W 0 0 H2) :
    ∃ (X' : Cx) (fp : List Addr) (tn : Nat → Heap → Prop) (gn : Nat), X'.prog = X.prog ∧ X'.w = X.w ∧ s.heap.IsGen ga gn ∧ GEnv X' X.A.in1.in1 fp [ga] tn N W ga ∧ GAt X' X.A.in1.in1 fp [ga] tn (wipe σ (own.map (·.2))) N Val W Y Fin ga gn 0 s ∧
      ∀ (pins' : List (Addr × Obj)) (σ' : L2.St) (H' : Hp) (s' : Shared), Inv X' pins' σ' H' s' → Inv X pins σ H' s' := by
  obtain ⟨it, fp, tn, s4, gn, T, st0, f4, I4, kp, hgen, hlt, ⟨go, hgo, hgd⟩, hgs5, hos, hgens, mk⟩ := M.ex
  obtain ⟨a1, a2, a3⟩ := around_turn (elt := elt) (tg := tg) (iter := iter) (ifs := ifs) (scope := scope) (pos := pos) (it := it) (genv := genEnv scope (gCells X scope s4.heap.objs.size) s4.heap.objs.size code builtinsNs X.env) hr hst
  have I5 := mk _ a1 fun _ => a2
  generalize hX' : gCx X ((X.A.in1.in1).over (gLoop elt tg iter ifs scope pos it (genEnv scope (gCells X scope s4.heap.objs.size) s4.heap.objs.size code builtinsNs X.env)) []) s4 H2 scope (genEnv scope (gCells X scope s4.heap.objs.size) s4.heap.objs.size code builtinsNs X.env) fp = X' at I5
  have x1 : X'.s_0 = s4 := by rw [← hX']
  have x2 : X'.H_0 = H2 := by rw [← hX']
  have x3 : X'.outer = X.stack := by rw [← hX']
  have x4 : X'.ex = fp := by rw [← hX']
  have x5 : X'.prog = X.prog := by rw [← hX']
  have x6 : X'.w = X.w := by rw [← hX']
  have x7 : X'.pn = [] := by rw [← hX']
  have x8 : X'.env.locals = s4.heap.objs.size := by rw [← hX']; rfl
  have ex6 : ∀ b ∈ [ga], ∃ o, s.heap.get? b = some o := fun b hb => by rw [List.mem_singleton.mp hb]; exact ⟨go, hgo⟩
  have lts : ∀ b ∈ [ga], s4.heap.objs.size < b := fun b hb => by rw [List.mem_singleton.mp hb]; exact hlt
  have I7 : Inv X' (pinsAt [ga] s.heap) (wipe σ (own.map (·.2))) H2 s := I5.pins_of fun p hp => by
    obtain ⟨q1, q2⟩ := of_pinsAt hp
    have q3 := lts _ q1
    refine ⟨q2, I4.hok.fresh (Nat.le_of_lt q3), by rw [x8]; exact Nat.ne_of_gt q3, fun z => ?_, fun v => ?_⟩
    · unfold Cx.fs at z
      rw [x3] at z
      rcases List.mem_cons.mp (I4.stkSub _ z) with z | z
      · have := I4.lt
        rw [z] at q3
        exact absurd (Nat.lt_trans this q3) (Nat.lt_irrefl _)
      · exact I4.nofs (Nat.le_of_lt q3) z
    · rw [List.mem_singleton.mp q1, hgo] at q2
      rw [← Option.some.inj q2]
      exact hgd v
  have nSf : ∀ b ∈ [ga], b ∉ fp := fun b hb z => absurd (Nat.lt_trans (lts b hb) (f4 b z).2) (Nat.lt_irrefl _)
  have x9 : X'.K = X.K := by rw [← hX']
  have x10 : X'.env = genEnv scope (gCells X scope s4.heap.objs.size) s4.heap.objs.size code builtinsNs X.env := by rw [← hX']
  have x11 : X'.A = (X.A.in1.in1).over (gLoop elt tg iter ifs scope pos it X'.env) [] := by rw [x10, ← hX']
  have x12 : ∀ e s, ¬ X'.xe e s := by rw [← hX']; exact fun _ _ z => z
  have x13 : X'.calm = true := by rw [← hX']; exact hc
  have T' : Turn X'.prog X'.w X'.K tg J fp it tn := by rw [x5, x6, x9]; exact T
  have pg : PG X' tg g := by rw [← hX']; exact Pt.g _ _ _ _ _ _ a3
  have pt : PTs X' ifs tt := by rw [← hX']; exact Pt.t _ _ _ _ _ _ a3
  have pe : PE X' elt te := by rw [← hX']; exact Pt.e _ _ _ _ _ _ a3
  have gat := gat_first (X := X') (A1 := X.A.in1.in1) (Sl := [ga]) (ga := ga) (gn := gn) (Val := Val) (Fin := Fin) x11 x13 x12 (by rw [x10]; exact hco) x7 x4 T' pg pt pe nSf (wipe_idem _ _) (gway_any G) I7 st0 (fun b hb => (f4 b hb).1.1) w0
    hgen ex6 (by rw [x10]; exact hgens)
  have B : GEnv X' X.A.in1.in1 fp [ga] tn N W ga := ⟨x7, x4, T.keep, fun j i H w => Nat.le_trans (G.le j i H w).1 (G.le j i H w).2, List.mem_cons_self⟩
  exact ⟨X', fp, tn, gn, x5, x6, hgen, B, gat, fun pins' σ' H' s' I' => gen_leave I4 I' x1 x2 x3 x4 x5 x6 fun b hb => (f4 b hb).1⟩
/-- any of a generator expression: the first true thing ends it -/
theorem gany_at {J : It} {code : Value} {H2 : Hp} {ga : Addr} {Q : VK} {k : Nat} {g : TG} {tt : TT} {te : TE} {N : Nat} {Val : Nat → V → Prop} {W Y : Nat → Nat → Hp → Prop} {Fin : Nat → Hp → Prop} {tr : Nat → Bool}
    (hr : Room (k + 1) X.A) (hc : X.calm = true) (hst : X.A.frames = some X.stack) (hco : scope.isCoroutine = false) (M : GMd X pins σ tg elt iter ifs scope own pos J code H2 ga s) (Pt : GParts X scope own tg ifs elt k code g tt te)
    (G : GWay X tg ifs elt (own.map (·.2)) (wipe σ (own.map (·.2))) J g tt te N Val W Y Fin) (w0 : W 0 0 H2) (hval : ∀ j y, Val j y → y = .bl (tr j)) (hYW : ∀ j i H, tr j = false → Y (j + 1) i H → W (j + 1) i H)
    (hT : ∀ j i H2, tr j = true → (∀ a, a < j → tr a = false) → Y (j + 1) i H2 → Q (.bl true) H2) (hF : ∀ j H2, (∀ a, a < j → tr a = false) → Fin j H2 → Q (.bl false) H2) :
    wpAny (model X.prog X.w) X.A (call (.builtin "any") [.ref ga]) (EP X pins σ Q) X.xe s := by
  obtain ⟨X', fp, tn, gn, x5, x6, hgen, B, gat, back⟩ := gat_of hr hc hst hco M Pt G w0
  refine call_function_tree PySem.F.kind_any PySem.F.plain_any PySem.F.entry_any (PySem.F.args_any1 _) ?_
  unfold Builtin.«any»
  refine wpAny_bind (m := PySem.oneArg "any" _) (wpAny_pure ?_)
  refine wpAny_bind (wpAny_pyIter_gen hgen ?_)
  refine wpAny_pure ⟨plainId_quiet PySem.F.plain_any_loop _, ?_⟩
  rw [← x5, ← x6]
  refine gany_loop (X := X') B hr.hd (by have := hr.dp; show X.A.depth < _; omega) tr hval hYW _ 0 s rfl gat (fun a ha => absurd ha (Nat.not_lt_zero a)) (fun j2 s' h1 h2 hm => ?_) fun j2 H2 s' h2 fin I' => ?_
  · obtain ⟨i, H2, w, I'⟩ := hm
    exact ⟨.bl true, H2, back _ _ _ _ I', rfl, hT j2 i H2 h1 h2 w⟩
  · exact ⟨.bl false, H2, back _ _ _ _ I', rfl, hF j2 H2 h2 fin⟩
theorem gall_at {J : It} {code : Value} {H2 : Hp} {ga : Addr} {Q : VK} {k : Nat} {g : TG} {tt : TT} {te : TE} {N : Nat} {Val : Nat → V → Prop} {W Y : Nat → Nat → Hp → Prop} {Fin : Nat → Hp → Prop} {tr : Nat → Bool}
    (hr : Room (k + 1) X.A) (hc : X.calm = true) (hst : X.A.frames = some X.stack) (hco : scope.isCoroutine = false) (M : GMd X pins σ tg elt iter ifs scope own pos J code H2 ga s) (Pt : GParts X scope own tg ifs elt k code g tt te)
    (G : GWay X tg ifs elt (own.map (·.2)) (wipe σ (own.map (·.2))) J g tt te N Val W Y Fin) (w0 : W 0 0 H2) (hval : ∀ j y, Val j y → y = .bl (tr j)) (hYW : ∀ j i H, tr j = true → Y (j + 1) i H → W (j + 1) i H)
    (hT : ∀ j i H2, tr j = false → (∀ a, a < j → tr a = true) → Y (j + 1) i H2 → Q (.bl false) H2) (hF : ∀ j H2, (∀ a, a < j → tr a = true) → Fin j H2 → Q (.bl true) H2) :
    wpAny (model X.prog X.w) X.A (call (.builtin "all") [.ref ga]) (EP X pins σ Q) X.xe s := by
  obtain ⟨X', fp, tn, gn, x5, x6, hgen, B, gat, back⟩ := gat_of hr hc hst hco M Pt G w0
  refine call_function_tree PySem.F.kind_all PySem.F.plain_all PySem.F.entry_all (PySem.F.args_all1 _) ?_
  unfold Builtin.«all»
  refine wpAny_bind (m := PySem.oneArg "all" _) (wpAny_pure ?_)
  refine wpAny_bind (wpAny_pyIter_gen hgen ?_)
  refine wpAny_pure ⟨plainId_quiet PySem.F.plain_all_loop _, ?_⟩
  rw [← x5, ← x6]
  refine gall_loop (X := X') B hr.hd (by have := hr.dp; show X.A.depth < _; omega) tr hval hYW _ 0 s rfl gat (fun a ha => absurd ha (Nat.not_lt_zero a)) (fun j2 s' h1 h2 hm => ?_) fun j2 H2 s' h2 fin I' => ?_
  · obtain ⟨i, H2, w, I'⟩ := hm
    exact ⟨.bl false, H2, back _ _ _ _ I', rfl, hT j2 i H2 h1 h2 w⟩
  · exact ⟨.bl true, H2, back _ _ _ _ I', rfl, hF j2 H2 h2 fin⟩
end
end Dn
set_option Elab.async false
set_option linter.all false
set_option maxRecDepth 100000
set_option maxHeartbeats 4000000
/-! Den, generators, part 11: any( .. for .. ), all( .. for .. ), the expressions. -/
namespace Dn
open PySem PySem.Spec PyProof.Rows L2
section
variable {X : Cx}
def tGAny (X : Cx) (c P : Addr) (pos : Pos) (tg : Expr) (ifs : List Expr) (elt : Expr) (vs : List Nat) (wi : TI) (g : Value → TG) (tt : Value → TT) (te : Value → TE) : TE := fun σ H Q => wi σ H fun J H1 => ∃ ps : Array Value, H1 P = some (.tbl ps) ∧ TriplesOk ps.toList ∧ CodeSrc X c P H1 ∧ ∀ code H2, TabS P ps pos H1 code H2 →
  ∃ (N : Nat) (Val : Nat → V → Prop) (W Y : Nat → Nat → Hp → Prop) (Fin : Nat → Hp → Prop) (tr : Nat → Bool), GWay X tg ifs elt vs (wipe σ vs) J (g code) (tt code) (te code) N Val W Y Fin ∧ W 0 0 H2 ∧ (∀ j y, Val j y → y = .bl (tr j)) ∧ (∀ j i H, tr j = false → Y (j + 1) i H → W (j + 1) i H) ∧
    (∀ j i H2, tr j = true → (∀ a, a < j → tr a = false) → Y (j + 1) i H2 → Q (.bl true) H2) ∧ (∀ j H2, (∀ a, a < j → tr a = false) → Fin j H2 → Q (.bl false) H2)
theorem pe_gany {c P : Addr} {elt tg iter : Expr} {ifs : List Expr} {scope : Scope} {own : List (Str × Nat)} {p pos gpos : Pos} {wi : TI} {k : Nat} {g : Value → TG} {tt : Value → TT} {te : Value → TE}
    (hr : Room (k + 1) X.A) (hcl : X.calm = true) (hg : Gl X "any") (hm : X.mg "any" = none) (hcode : X.env.code = .ref c) (ok : BlkOk X.N X.env.scope scope own) (hN : X.N.Nodup) (hco : scope.isCoroutine = false) (hdot : scope.names.lookup (".0" : Str) = some NameKind.local)
    (hi : PI X tg iter wi) (hs : ∀ v, genFold iter X.env v = pure v) (Pt : ∀ code, GParts X scope own tg ifs elt k code (g code) (tt code) (te code)) (hv : bootBuiltins "any" = some (.builtin "any"))
    (he : starEach [.GeneratorExp elt [⟨tg, iter, ifs, 0⟩] scope gpos] X.env = (false, eval (.GeneratorExp elt [⟨tg, iter, ifs, 0⟩] scope gpos) X.env) :: starEach [] X.env := by rfl) :
    PE X (.Call (.Name "any" p) [.GeneratorExp elt [⟨tg, iter, ifs, 0⟩] scope gpos] [] pos) (tGAny X c P gpos tg ifs elt (own.map (·.2)) wi g tt te) := by
  refine ⟨fun pins s σ H Q I h => ?_⟩
  refine wpAny_Call_Name_kw (ld_blt I hg hm hv ?_)
  refine PyProof.Rows.callWith_builtin1 ?_ he (by rfl)
  rw [he]
  show wpAny _ _ (spliced ((false, eval (.GeneratorExp elt [⟨tg, iter, ifs, 0⟩] scope gpos) X.env) :: backTo pos (starEach [] X.env))) _ _ s
  refine Calls.spliced_cons (gen_make (P := P) (R := fun J ps H1 => ∀ code H2, TabS P ps gpos H1 code H2 → ∃ (N : Nat) (Val : Nat → V → Prop) (W Y : Nat → Nat → Hp → Prop) (Fin : Nat → Hp → Prop) (tr : Nat → Bool), GWay X tg ifs elt (own.map (fun q : Str × Nat => q.2)) (wipe σ (own.map (fun q : Str × Nat => q.2))) J (g code) (tt code) (te code) N Val W Y Fin ∧ W 0 0 H2 ∧ (∀ j y, Val j y → y = .bl (tr j)) ∧ (∀ j i H, tr j = false → Y (j + 1) i H → W (j + 1) i H) ∧
    (∀ j i H2, tr j = true → (∀ a, a < j → tr a = false) → Y (j + 1) i H2 → Q (.bl true) H2) ∧ (∀ j H2, (∀ a, a < j → tr a = false) → Fin j H2 → Q (.bl false) H2)) hr hcode ok hN hco hdot hi hs I h fun J ps H1 code H2 ga s5 hR TS M => ?_)
  refine Calls.spliced_nil ?_
  obtain ⟨N, Val, W, Y, Fin, tr, G, w0, hval, hYW, hT, hF⟩ := hR code H2 TS
  exact gany_at hr hcl I.ok.frames hco M (Pt code) G w0 hval hYW hT hF
def tGAll (X : Cx) (c P : Addr) (pos : Pos) (tg : Expr) (ifs : List Expr) (elt : Expr) (vs : List Nat) (wi : TI) (g : Value → TG) (tt : Value → TT) (te : Value → TE) : TE := fun σ H Q => wi σ H fun J H1 => ∃ ps : Array Value, H1 P = some (.tbl ps) ∧ TriplesOk ps.toList ∧ CodeSrc X c P H1 ∧ ∀ code H2, TabS P ps pos H1 code H2 →
  ∃ (N : Nat) (Val : Nat → V → Prop) (W Y : Nat → Nat → Hp → Prop) (Fin : Nat → Hp → Prop) (tr : Nat → Bool), GWay X tg ifs elt vs (wipe σ vs) J (g code) (tt code) (te code) N Val W Y Fin ∧ W 0 0 H2 ∧ (∀ j y, Val j y → y = .bl (tr j)) ∧ (∀ j i H, tr j = true → Y (j + 1) i H → W (j + 1) i H) ∧
    (∀ j i H2, tr j = false → (∀ a, a < j → tr a = true) → Y (j + 1) i H2 → Q (.bl false) H2) ∧ (∀ j H2, (∀ a, a < j → tr a = true) → Fin j H2 → Q (.bl true) H2)
theorem pe_gall {c P : Addr} {elt tg iter : Expr} {ifs : List Expr} {scope : Scope} {own : List (Str × Nat)} {p pos gpos : Pos} {wi : TI} {k : Nat} {g : Value → TG} {tt : Value → TT} {te : Value → TE}
    (hr : Room (k + 1) X.A) (hcl : X.calm = true) (hg : Gl X "all") (hm : X.mg "all" = none) (hcode : X.env.code = .ref c) (ok : BlkOk X.N X.env.scope scope own) (hN : X.N.Nodup) (hco : scope.isCoroutine = false) (hdot : scope.names.lookup (".0" : Str) = some NameKind.local)
    (hi : PI X tg iter wi) (hs : ∀ v, genFold iter X.env v = pure v) (Pt : ∀ code, GParts X scope own tg ifs elt k code (g code) (tt code) (te code)) (hv : bootBuiltins "all" = some (.builtin "all"))
    (he : starEach [.GeneratorExp elt [⟨tg, iter, ifs, 0⟩] scope gpos] X.env = (false, eval (.GeneratorExp elt [⟨tg, iter, ifs, 0⟩] scope gpos) X.env) :: starEach [] X.env := by rfl) :
    PE X (.Call (.Name "all" p) [.GeneratorExp elt [⟨tg, iter, ifs, 0⟩] scope gpos] [] pos) (tGAll X c P gpos tg ifs elt (own.map (·.2)) wi g tt te) := by
  refine ⟨fun pins s σ H Q I h => ?_⟩
  refine wpAny_Call_Name_kw (ld_blt I hg hm hv ?_)
  refine PyProof.Rows.callWith_builtin1 ?_ he (by rfl)
  rw [he]
  show wpAny _ _ (spliced ((false, eval (.GeneratorExp elt [⟨tg, iter, ifs, 0⟩] scope gpos) X.env) :: backTo pos (starEach [] X.env))) _ _ s
  refine Calls.spliced_cons (gen_make (P := P) (R := fun J ps H1 => ∀ code H2, TabS P ps gpos H1 code H2 → ∃ (N : Nat) (Val : Nat → V → Prop) (W Y : Nat → Nat → Hp → Prop) (Fin : Nat → Hp → Prop) (tr : Nat → Bool), GWay X tg ifs elt (own.map (fun q : Str × Nat => q.2)) (wipe σ (own.map (fun q : Str × Nat => q.2))) J (g code) (tt code) (te code) N Val W Y Fin ∧ W 0 0 H2 ∧ (∀ j y, Val j y → y = .bl (tr j)) ∧ (∀ j i H, tr j = true → Y (j + 1) i H → W (j + 1) i H) ∧
    (∀ j i H2, tr j = false → (∀ a, a < j → tr a = true) → Y (j + 1) i H2 → Q (.bl false) H2) ∧ (∀ j H2, (∀ a, a < j → tr a = true) → Fin j H2 → Q (.bl true) H2)) hr hcode ok hN hco hdot hi hs I h fun J ps H1 code H2 ga s5 hR TS M => ?_)
  refine Calls.spliced_nil ?_
  obtain ⟨N, Val, W, Y, Fin, tr, G, w0, hval, hYW, hT, hF⟩ := hR code H2 TS
  exact gall_at hr hcl I.ok.frames hco M (Pt code) G w0 hval hYW hT hF
end
end Dn
set_option Elab.async false
set_option linter.all false
set_option maxRecDepth 100000
set_option maxHeartbeats 4000000
/-! Den, generators, part 12: the promise out of the pure loop. -/
namespace Dn
open PySem PySem.Spec PyProof.Rows L2
section
variable {K : PySem.W.Frag} {pv : PV} {own : Addr → Option Tag} {ρ : Rho} {Φ Ψ H : Hp} {ts : List (V × Opd)} {st : S} {σ : L2.St}
theorem tab_last {pos pos' : Pos} {c cv : Value} (l : List Value) (h : TriplesOk l) (e : codeAmong pos' (l ++ [rawInt pos.line, rawInt pos.col, c]) = some cv) : codeAmong pos' l = some cv ∨ cv = c := by
  fun_induction TriplesOk l with
  | case1 =>
    simp only [List.nil_append, rawInt, codeAmong] at e
    split at e
    · exact .inr (Option.some.inj e).symm
    · cases e
  | case2 a t b u x rest ih =>
    simp only [List.cons_append, codeAmong] at e ⊢
    split at e
    · rename_i hc; rw [if_pos hc]; exact .inl e
    · rename_i hc; rw [if_neg hc]; exact ih h e
  | case3 l h1 h2 => exact h.elim
/-- .. by one more code object that is known -/
theorem Stt.cdUp {c P : Addr} (z : Stt K pv own ρ Φ Ψ ts st σ H) (h : CodO own H c P) : Stt K { pv with cd := (c, P) :: pv.cd } own ρ Φ Ψ ts st σ H :=
  { z with
    codsIn := fun q hq => by
      rcases List.mem_cons.mp hq with e | hq
      · rw [e]; exact h
      · exact z.codsIn q hq }
theorem Stt.cdDown {c P : Addr} (z : Stt K { pv with cd := (c, P) :: pv.cd } own ρ Φ Ψ ts st σ H) : Stt K pv own ρ Φ Ψ ts st σ H :=
  { z with codsIn := fun q hq => z.codsIn q (List.mem_cons_of_mem _ hq) }
/-- a place's code object is asked for -/
theorem Stt.tabS {P : Addr} {ps : Array Value} {pos : Pos} {code : Value} {H2 : Hp} (z : Stt K pv own ρ Φ Ψ ts st σ H) (hP : own P = some .tab) (hq : H P = some (.tbl ps)) (T : TabS P ps pos H code H2) :
    ∃ c' P' own', code = .ref c' ∧ Stt K { pv with cd := (c', P') :: pv.cd } own' ρ Φ Ψ ts st σ H2 := by
  cases T with
  | hit h =>
    obtain ⟨qs, h1, h2, h3⟩ := z.tabs P hP
    rw [hq] at h1
    cases h1
    obtain ⟨c', P', e, co⟩ := h3 _ _ h
    exact ⟨c', P', own, e, z.cdUp co⟩
  | @new c' P' hn nc nP ne htr =>
    have oc : own c' = none := z.none_own nc
    have oP : own P' = none := z.none_own nP
    have nPc : P ≠ c' := ne_of_none hq nc
    have nPP : P ≠ P' := ne_of_none hq nP
    generalize hH2 : upd (upd (upd H P (.tbl (ps ++ #[rawInt pos.line, rawInt pos.col, .ref c']))) P' (.tbl #[])) c' (.ext fun h => PySem.W.CodeHd h c' P') = H2
    have at_ : ∀ b, b ≠ P → b ≠ P' → b ≠ c' → H2 b = H b := fun b h1 h2 h3 => by rw [← hH2, upd_ne h3, upd_ne h2, upd_ne h1]
    have atP : H2 P = some (.tbl (ps ++ #[rawInt pos.line, rawInt pos.col, .ref c'])) := by rw [← hH2, upd_ne nPc, upd_ne nPP, upd_same]
    have atT : H2 P' = some (.tbl #[]) := by rw [← hH2, upd_ne (Ne.symm ne), upd_same]
    have atC : H2 c' = some (.ext fun h => PySem.W.CodeHd h c' P') := by rw [← hH2, upd_same]
    let own2 : Addr → Option Tag := setOwn (setOwn own c' .cod) P' .tab
    have w1 : own2 c' = some .cod := by show setOwn _ _ _ _ = _; rw [setOwn_ne ne, setOwn_same]
    have w2 : own2 P' = some .tab := setOwn_same
    have w3 : ∀ a, a ≠ c' → a ≠ P' → own2 a = own a := fun a h1 h2 => by show setOwn _ _ _ _ = _; rw [setOwn_ne h2, setOwn_ne h1]
    have k : ∀ (t : Tag) (b : Addr) (u : HO), t ≠ .tab → own b = some t → H b = some u → H2 b = some u ∧ own2 b = some t := fun t b u n e h => by
      have n1 : b ≠ P := fun z => by rw [z, hP] at e; exact n (Option.some.inj e).symm
      have n2 : b ≠ P' := ne_of_none h nP
      have n3 : b ≠ c' := ne_of_none h nc
      exact ⟨by rw [at_ b n1 n2 n3]; exact h, by rw [w3 b n3 n2]; exact e⟩
    have kt : ∀ b, own b = some .tab → own2 b = some .tab := fun b e => by
      obtain ⟨o, h⟩ := z.dom b _ e
      rw [w3 b (ne_of_none h nc) (ne_of_none h nP)]; exact e
    have kc : ∀ a o, own a = some .cod → H a = some o → H2 a = some o ∧ own2 a = some .cod := fun a o => k .cod a o (fun q => by cases q)
    have back : ∀ b t, own2 b = some t → (b = c' ∧ t = .cod) ∨ (b = P' ∧ t = .tab) ∨ (b ≠ c' ∧ b ≠ P' ∧ own b = some t) := fun b t e => by
      by_cases h1 : b = P'
      · rw [h1, w2] at e; exact .inr (.inl ⟨h1, (Option.some.inj e).symm⟩)
      · by_cases h2 : b = c'
        · rw [h2, w1] at e; exact .inl ⟨h2, (Option.some.inj e).symm⟩
        · rw [w3 b h2 h1] at e; exact .inr (.inr ⟨h2, h1, e⟩)
    have new : CodO own2 H2 c' P' := ⟨atC, w1, w2⟩
    have fr : ∀ a o, own a = some .frame → H a = some o → H2 a = some o ∧ own2 a = some .frame := fun a o => k .frame a o (fun q => by cases q)
    refine ⟨c', P', own2, rfl, Stt.cdUp { phi := fun b u e => ?_, psi := fun b u e => (k _ b u (fun q => by cases q) (z.dPsi b u e) (z.psi b u e)).1, dPhi := fun b t e => ?_, dPsi := fun b u e => (k _ b u (fun q => by cases q) (z.dPsi b u e) (z.psi b u e)).2, dom := fun b t e => ?_, len := z.len, slots := fun i x e => ?_, temps := z.temps.mono (Mon.refl _ _) (fun j a o => k _ a o (fun q => by cases q)) fr, tabs := fun b e => ?_, tabsIn := fun b h => kt b (z.tabsIn b h), codsIn := fun q h => (z.codsIn q h).mono kc kt, rcl := z.rcl, cach := fun a d h => ?_ } new⟩
    · have hb : b ≠ P := fun w => by rw [w, z.dPhi P _ hP] at e; cases e
      have h := z.phi b u e
      rw [at_ b hb (ne_of_none h nP) (ne_of_none h nc)]; exact h
    · rcases back b t e with ⟨rfl, _⟩ | ⟨rfl, _⟩ | ⟨_, _, e⟩
      · exact z.phi_none nc
      · exact z.phi_none nP
      · exact z.dPhi b t e
    · rcases back b t e with ⟨rfl, _⟩ | ⟨rfl, _⟩ | ⟨h1, h2, e⟩
      · exact ⟨_, atC⟩
      · exact ⟨_, atT⟩
      · by_cases hb : b = P
        · rw [hb]; exact ⟨_, atP⟩
        · rw [at_ b hb h2 h1]; exact z.dom b t e
    · obtain ⟨v, h1, h2, h3⟩ := z.slots i x e
      exact ⟨v, h1, h2.mono (Mon.refl _ _) (fun a o => k _ a o (fun q => by cases q)) fr, h3⟩
    · rcases back b _ e with ⟨_, q⟩ | ⟨rfl, _⟩ | ⟨h1, h2, e⟩
      · cases q
      · exact tabO_nil atT
      · by_cases hb : b = P
        · subst hb
          obtain ⟨qs, g1, g2, g3⟩ := z.tabs b hP
          rw [hq] at g1
          cases g1
          refine ⟨_, atP, htr, fun pos' cv h => ?_⟩
          rcases tab_last _ g2 (by simpa using h) with q | q
          · obtain ⟨c2, P2, e2, co⟩ := g3 _ _ q
            exact ⟨c2, P2, e2, co.mono kc kt⟩
          · exact ⟨c', P', q, new⟩
        · exact (z.tabs b e).mono (fun ps' q => by rw [at_ b hb h2 h1]; exact q) kc kt
    · obtain ⟨h1, kvs, h2, h3⟩ := z.cach a d h
      exact ⟨(k _ a _ (fun q => by cases q) h1 h2).2, kvs, (k _ a _ (fun q => by cases q) h1 h2).1, h3⟩
end
theorem lcLoop_pre {vs : List Nat} {g : MG} {mt : MT} {me : MF} : ∀ {ds acc : List PyData} {st : S} {out : List PyData} {stE : S}, lcLoop vs g mt me ds acc st = some (out, stE) → ∃ l, out = acc ++ l
  | [], acc, st, out, stE, e => by cases e; exact ⟨[], by simp⟩
  | d :: ds, acc, st, out, stE, e => by
    obtain ⟨s1, e1, e⟩ := bind_some' e
    obtain ⟨⟨b, s2⟩, e2, e⟩ := bind_some' e
    cases b with
    | true =>
      simp only [if_true] at e
      obtain ⟨⟨d, s3⟩, e3, e⟩ := bind_some' e
      split at e
      · obtain ⟨l, h⟩ := lcLoop_pre e
        exact ⟨d :: l, by rw [h]; simp⟩
      · cases e
    | false =>
      simp only [Bool.false_eq_true, if_false] at e
      exact lcLoop_pre e
section
variable {X : Cx} {pv : PV}
/-- the promise of a generator out of the loop of a comprehension -/
theorem gw_run {elt tg : Expr} {ifs : List Expr} {vs : List Nat} {g : MG} {mt : MT} {me : MF} {gS : TG} {tS : TT} {eS : TE} {its : List PyData} {J : It}
    (hg : ∀ d st st', g d st = some st' → Kp st st' ∧ ∀ own ρ Φ Ψ ts σ H x, Stt X.K pv own ρ Φ Ψ ts st σ H → Rp X.K ρ Φ x d → ∀ Q : L2.St → Hp → Prop, (∀ own' σ', Stt X.K pv own' ρ Φ Ψ ts st' σ' H → wipe σ' vs = wipe σ vs → Q σ' H) → gS x σ H Q)
    (ht : ∀ st b st', mt st = some (b, st') → Kp st st' ∧ ∀ own ρ Φ Ψ ts σ H, Stt X.K pv own ρ Φ Ψ ts st σ H → ∀ Q : Bool → Hp → Prop, (∀ own' ρ' Φ' H', Mon ρ Φ ρ' Φ' → Stt X.K pv own' ρ' Φ' Ψ ts st' σ H' → Q b H') → tS σ H Q)
    (he : ∀ st d st', me st = some (d, st') → Kp st st' ∧ ∀ own ρ Φ Ψ ts σ H, Stt X.K pv own ρ Φ Ψ ts st σ H → ∀ Q : VK, (∀ own' ρ' Φ' H' v, Mon ρ Φ ρ' Φ' → Stt X.K pv own' ρ' Φ' Ψ ts st' σ H' → Rp X.K ρ' Φ' v d → Q v H') → eS σ H Q)
    {st0 : S} (h0 : freshS vs st0 = true) {ps : List (V × Opd)} (hJ : ItOk X.K J its ps st0) {ts : List (V × Opd)} (hps : ∀ p ∈ ps, p ∈ ts) (hsl : ∀ w i, (w, Opd.slot i) ∈ ts → i ∉ vs) {Ψ : Hp} {σ : L2.St} {ρ0 : Rho} {Φ0 : Hp} {out : List PyData} {stE : S} :
    GWay X tg ifs elt vs (wipe σ vs) J gS tS eS its.length (fun j y => ∃ d ρ Φ, out[j]? = some d ∧ Mon ρ0 Φ0 ρ Φ ∧ Rp X.K ρ Φ y d)
      (fun j i H => j ≤ i ∧ i ≤ its.length ∧ ∃ own ρ Φ acc st, acc.length = j ∧ Mon ρ0 Φ0 ρ Φ ∧ Stt X.K pv own ρ Φ Ψ ts st (wipe σ vs) H ∧ Kp st0 st ∧ lcLoop vs g mt me (its.drop i) acc st = some (out, stE))
      (fun j i H => j ≤ i ∧ i ≤ its.length ∧ ∃ own ρ Φ acc st, acc.length = j ∧ Mon ρ0 Φ0 ρ Φ ∧ Stt X.K pv own ρ Φ Ψ ts st (wipe σ vs) H ∧ Kp st0 st ∧ lcLoop vs g mt me (its.drop i) acc st = some (out, stE))
      (fun j H => j = out.length ∧ ∃ own ρ Φ, Mon ρ0 Φ0 ρ Φ ∧ Stt X.K pv own ρ Φ Ψ ts stE (wipe σ vs) H) := by
  refine ⟨fun j i H w => ⟨w.1, w.2.1⟩, ?_⟩
  rintro j i H ⟨hji, hiN, own, ρ, Φ, acc, st, hj, m0, z, kp, e⟩
  obtain ⟨j1, j2⟩ := hJ pv i own ρ Φ Ψ _ st _ H z hps kp
  by_cases hi : i < its.length
  · refine .inr ?_
    have ed : its[i]? = some its[i] := List.getElem?_eq_getElem hi
    have edrop : its.drop i = its[i] :: its.drop (i + 1) := List.drop_eq_getElem_cons hi
    rw [edrop] at e
    obtain ⟨s1, e1, e⟩ := bind_some' e
    obtain ⟨⟨b, s2⟩, e2, e⟩ := bind_some' e
    obtain ⟨go, yl⟩ := j1 _ ed
    refine ⟨go, hi, fun x H' hy => ?_⟩
    obtain ⟨own1, Φ1, m1, z1, r1⟩ := yl x H' hy
    obtain ⟨k1, g1⟩ := hg _ _ _ e1
    refine g1 own1 ρ Φ1 Ψ _ _ H' x z1 r1 _ fun own2 σ2 z2 w2 => ?_
    have ew : wipe (wipe σ vs) vs = wipe σ vs := wipe_idem σ vs
    rw [ew] at w2
    refine ⟨w2, ?_⟩
    obtain ⟨k2, t2⟩ := ht _ _ _ e2
    refine t2 own2 ρ Φ1 Ψ _ σ2 H' z2 _ fun own3 ρ3 Φ3 H3 m3 z3 => ?_
    cases b with
    | true =>
      simp only [if_true] at e ⊢
      obtain ⟨⟨d, s3⟩, e3, e⟩ := bind_some' e
      split at e
      · rename_i hz
        obtain ⟨k3, h3⟩ := he _ _ _ e3
        refine h3 own3 ρ3 Φ3 Ψ _ σ2 H3 z3 _ fun own4 ρ4 Φ4 H4 y m4 z4 r4 => ?_
        have mm : Mon ρ0 Φ0 ρ4 Φ4 := ((m0.trans m1).trans m3).trans m4
        obtain ⟨l, hl⟩ := lcLoop_pre e
        refine ⟨⟨d, ρ4, Φ4, by rw [hl, ← hj]; simp, mm, r4⟩, by omega, hi, own4, ρ4, Φ4, acc ++ [d], wipeS vs s3, by simp [hj], mm, ?_, wipeL_kp h0 (((kp.trans k1).trans k2).trans k3), e⟩
        have zw := z4.wiped (vs := vs) hsl
        rw [w2] at zw
        exact zw
      · cases e
    | false =>
      simp only [Bool.false_eq_true, if_false] at e ⊢
      have zw := z3.wiped (vs := vs) hsl
      rw [w2] at zw
      exact ⟨by omega, hi, own3, ρ3, Φ3, acc, wipeS vs s2, hj, (m0.trans m1).trans m3, zw, wipeL_kp h0 ((kp.trans k1).trans k2), e⟩
  · refine .inl ⟨j2 (by omega), ?_⟩
    rw [List.drop_eq_nil_of_le (by omega)] at e
    cases e
    exact ⟨hj.symm, own, ρ, Φ, m0, z⟩
end
end Dn
set_option Elab.async false
set_option linter.all false
set_option maxRecDepth 100000
set_option maxHeartbeats 4000000
/-! Den, generators, part 13: sum( .. for .. ) as a pure function. -/
namespace Dn
open PySem PySem.Spec PyProof.Rows L2
def sumG : List PyData → Option Int
  | [] => some 0
  | .int n :: l => (sumG l).map (n + ·)
  | _ :: _ => none
def valAt (ds : List PyData) (j : Nat) : Int := match ds[j]? with
  | some (.int n) => n
  | _ => 0
theorem preSum_valAt (d : PyData) (ds : List PyData) : ∀ j, preSum (valAt (d :: ds)) (j + 1) = valAt (d :: ds) 0 + preSum (valAt ds) j
  | 0 => by simp [preSum]
  | j + 1 => by
    show preSum (valAt (d :: ds)) (j + 1) + valAt (d :: ds) (j + 1) = _
    rw [preSum_valAt d ds j]
    show _ + valAt (d :: ds) (j + 1) = _ + (preSum (valAt ds) j + valAt ds j)
    have : valAt (d :: ds) (j + 1) = valAt ds j := rfl
    rw [this]; omega
theorem sumG_ok : ∀ {ds : List PyData} {n : Int}, sumG ds = some n → preSum (valAt ds) ds.length = n ∧ ∀ (j : Nat) (d : PyData), ds[j]? = some d → d = PyData.int (valAt ds j)
  | [], n, e => by cases e; exact ⟨rfl, fun j d h => by cases h⟩
  | d :: ds, n, e => by
    cases d with
    | int m =>
      have e' : (sumG ds).map (m + ·) = some n := e
      obtain ⟨t, ht, rfl⟩ := Option.map_eq_some_iff.mp e'
      obtain ⟨h1, h2⟩ := sumG_ok ht
      refine ⟨by rw [List.length_cons, preSum_valAt, h1]; rfl, fun j d h => ?_⟩
      cases j with
      | zero => simp at h; rw [← h]; rfl
      | succ j => exact h2 j d (by simpa using h)
    | _ => cases e
def mGSum (vs : List Nat) (mi : MI) (g : MG) (mt : MT) (me : MF) : ME := fun st => (mi st).bind fun it => if freshS vs it.2 then (lcLoop vs g mt me it.1.items [] (wipeS vs it.2)).bind fun r => (sumG r.1).bind fun n => some (.lv (.sh (.int n)), unlock it.1.lock r.2) else none
/-- where the running code object comes from -/
inductive SrcD (X : Cx) (pv : PV) (c P : Addr) : Prop
  | base : GxR.TabB X.base X.mg c P → P ∈ pv.g.tb → SrcD X pv c P
  | inner {c0 P0 : Addr} : GxR.TabB X.base X.mg c0 P0 → (c, P) ∈ pv.cd → SrcD X pv c P
theorem SrcD.ok {X : Cx} {pv : PV} {c P : Addr} {own : Addr → Option Tag} {ρ : Rho} {Φ Ψ H : Hp} {ts : List (V × Opd)} {st : S} {σ : L2.St} (h : SrcD X pv c P) (z : Stt X.K pv own ρ Φ Ψ ts st σ H) : own P = some .tab ∧ CodeSrc X c P H := by
  cases h with
  | base h1 h2 => exact ⟨z.tabsIn P h2, .inl h1⟩
  | inner h1 h2 =>
    obtain ⟨g1, g2, g3⟩ := z.codsIn _ h2
    exact ⟨g3, .inr ⟨⟨_, _, h1⟩, g1⟩⟩
/-- the parts of a generator expression, in any context of its turns -/
structure GcP (X : Cx) (pv : PV) (scope : Scope) (vs : List Nat) (tg : Expr) (ifs : List Expr) (elt : Expr) (k : Nat) (g : MG) (mt : MT) (me : MF) : Prop where
  g : ∀ (A' : Around) (s : Shared) (H : Hp) (C : Addr) (cl : List (Str × Addr)) (fp : List Addr) (c' P' : Addr), Room k A' → DG (gCx X A' s H scope (genEnv scope cl C (.ref c') builtinsNs X.env) fp) { pv with cd := (c', P') :: pv.cd } true vs tg g
  t : ∀ (A' : Around) (s : Shared) (H : Hp) (C : Addr) (cl : List (Str × Addr)) (fp : List Addr) (c' P' : Addr), Room k A' → DTs (gCx X A' s H scope (genEnv scope cl C (.ref c') builtinsNs X.env) fp) { pv with cd := (c', P') :: pv.cd } ifs mt
  e : ∀ (A' : Around) (s : Shared) (H : Hp) (C : Addr) (cl : List (Str × Addr)) (fp : List Addr) (c' P' : Addr), Room k A' → DF (gCx X A' s H scope (genEnv scope cl C (.ref c') builtinsNs X.env) fp) { pv with cd := (c', P') :: pv.cd } elt me
abbrev gS (X : Cx) (scope : Scope) (k : Nat) (tg : Expr) (code : Value) : TG := fun x σ H Q => ∀ (A' : Around) (s0 : Shared) (H0 : Hp) (C : Addr) (cl : List (Str × Addr)) (fp : List Addr), Room k A' → SG (gCx X A' s0 H0 scope (genEnv scope cl C code builtinsNs X.env) fp) tg x σ H Q
abbrev gSt (X : Cx) (scope : Scope) (k : Nat) (ifs : List Expr) (code : Value) : TT := fun σ H Q => ∀ (A' : Around) (s0 : Shared) (H0 : Hp) (C : Addr) (cl : List (Str × Addr)) (fp : List Addr), Room k A' → SPT (gCx X A' s0 H0 scope (genEnv scope cl C code builtinsNs X.env) fp) ifs σ H Q
abbrev gSe (X : Cx) (scope : Scope) (k : Nat) (elt : Expr) (code : Value) : TE := fun σ H Q => ∀ (A' : Around) (s0 : Shared) (H0 : Hp) (C : Addr) (cl : List (Str × Addr)) (fp : List Addr), Room k A' → SE (gCx X A' s0 H0 scope (genEnv scope cl C code builtinsNs X.env) fp) elt σ H Q
section
variable {X : Cx} {pv : PV} {tg elt iter : Expr} {ifs : List Expr} {scope : Scope} {own0 : List (Str × Nat)} {k : Nat}
theorem gparts (code : Value) : GParts X scope own0 tg ifs elt k code (gS X scope k tg code) (gSt X scope k ifs code) (gSe X scope k elt code) :=
  ⟨fun A' s H C cl fp hr => ⟨fun pins s' σ H v u Q I r h => h A' s _ C cl fp hr pins s' u I r⟩, fun A' s H C cl fp hr => ⟨fun pins s' σ H Q I h => h A' s _ C cl fp hr pins s' I⟩, fun A' s H C cl fp hr => ⟨fun pins s' σ H Q I h => h A' s _ C cl fp hr pins s' I⟩⟩
/-- a generator's turns, as gw_run and gw_runQ ask -/
theorem GcP.rg {vs : List Nat} {g : MG} {mt : MT} {me : MF} (G : GcP X pv scope vs tg ifs elt k g mt me) (hr : Room k X.A) (c' P' : Addr) : ∀ d st st', g d st = some st' → Kp st st' ∧ ∀ own ρ Φ Ψ ts σ H x, Stt X.K { pv with cd := (c', P') :: pv.cd } own ρ Φ Ψ ts st σ H → Rp X.K ρ Φ x d → ∀ Q : L2.St → Hp → Prop, (∀ own' σ', Stt X.K { pv with cd := (c', P') :: pv.cd } own' ρ Φ Ψ ts st' σ' H → wipe σ' vs = wipe σ vs → Q σ' H) → gS X scope k tg (.ref c') x σ H Q :=
  fun d st st' e => ⟨(G.g X.A X.s_0 X.H_0 0 [] [] c' P' hr d st st' e).1, fun own ρ Φ Ψ ts σ H x z r Q q A' s0 H0 C cl fp hr' => (G.g A' s0 H0 C cl fp c' P' hr' d st st' e).2 own ρ Φ Ψ ts σ H x z (fun h => by cases h) r Q (fun own' σ' z' w => q own' σ' z' (w rfl))⟩
theorem GcP.rt {vs : List Nat} {g : MG} {mt : MT} {me : MF} (G : GcP X pv scope vs tg ifs elt k g mt me) (hr : Room k X.A) (c' P' : Addr) : ∀ st b st', mt st = some (b, st') → Kp st st' ∧ ∀ own ρ Φ Ψ ts σ H, Stt X.K { pv with cd := (c', P') :: pv.cd } own ρ Φ Ψ ts st σ H → ∀ Q : Bool → Hp → Prop, (∀ own' ρ' Φ' H', Mon ρ Φ ρ' Φ' → Stt X.K { pv with cd := (c', P') :: pv.cd } own' ρ' Φ' Ψ ts st' σ H' → Q b H') → gSt X scope k ifs (.ref c') σ H Q :=
  fun st b st' e => ⟨(G.t X.A X.s_0 X.H_0 0 [] [] c' P' hr st b st' e).1, fun own ρ Φ Ψ ts σ H z Q q A' s0 H0 C cl fp hr' => (G.t A' s0 H0 C cl fp c' P' hr' st b st' e).2 own ρ Φ Ψ ts σ H z Q q⟩
theorem GcP.re {vs : List Nat} {g : MG} {mt : MT} {me : MF} (G : GcP X pv scope vs tg ifs elt k g mt me) (hr : Room k X.A) (c' P' : Addr) : ∀ st d st', me st = some (d, st') → Kp st st' ∧ ∀ own ρ Φ Ψ ts σ H, Stt X.K { pv with cd := (c', P') :: pv.cd } own ρ Φ Ψ ts st σ H → ∀ Q : VK, (∀ own' ρ' Φ' H' v, Mon ρ Φ ρ' Φ' → Stt X.K { pv with cd := (c', P') :: pv.cd } own' ρ' Φ' Ψ ts st' σ H' → Rp X.K ρ' Φ' v d → Q v H') → gSe X scope k elt (.ref c') σ H Q :=
  fun st d st' e => ⟨(G.e X.A X.s_0 X.H_0 0 [] [] c' P' hr st d st' e).1, fun own ρ Φ Ψ ts σ H z Q q A' s0 H0 C cl fp hr' => (G.e A' s0 H0 C cl fp c' P' hr' st d st' e).2 own ρ Φ Ψ ts σ H z Q q⟩
theorem d_gsum {c P : Addr} {p pos gpos : Pos} {mi : MI} {g : MG} {mt : MT} {me : MF}
    (hr : Room (k + 1) X.A) (hm : X.mg "sum" = none) (src : SrcD X pv c P) (hcode : X.env.code = .ref c) (ok : BlkOk X.N X.env.scope scope own0) (hN : X.N.Nodup)
    (hi : DI X pv tg iter mi) (G : GcP X pv scope (own0.map (·.2)) tg ifs elt k g mt me) (hcl : X.calm = true := by rfl) (hg : Gl X "sum" := by rfl) (hco : scope.isCoroutine = false := by rfl) (hdot : scope.names.lookup (".0" : Str) = some NameKind.local := by rfl)
    (hs : ∀ v, genFold iter X.env v = pure v := by intro _; rfl) (he : starEach [.GeneratorExp elt [⟨tg, iter, ifs, 0⟩] scope gpos] X.env = (false, eval (.GeneratorExp elt [⟨tg, iter, ifs, 0⟩] scope gpos) X.env) :: starEach [] X.env := by rfl) :
    DE X pv (.Call (.Name "sum" p) [.GeneratorExp elt [⟨tg, iter, ifs, 0⟩] scope gpos] [] pos) (mGSum (own0.map (·.2)) mi g mt me) := by
  intro st o st' e
  obtain ⟨⟨it, s1⟩, e1, e⟩ := bind_some' e
  split at e
  · rename_i hf
    obtain ⟨⟨out, stE⟩, e2, e⟩ := bind_some' e
    obtain ⟨n, e3, e⟩ := bind_some' e
    cases e
    obtain ⟨k1, hlock, hslot, h1⟩ := hi _ _ _ e1
    have hr0 : Room k X.A := ⟨hr.hd, by have := hr.dp; omega, by have := hr.un; omega⟩
    have kL : Kp s1 stE := lcLoop_kp (fun d st st' e => (G.rg hr0 0 0 d st st' e).1) (fun st b st' e => (G.rt hr0 0 0 st b st' e).1) (fun st d st' e => (G.re hr0 0 0 st d st' e).1) hf (wipeL_kp hf (Kp.refl _)) e2
    obtain ⟨hsum, hint⟩ := sumG_ok e3
    refine ⟨unlock_kp _ (fun i hi' => (hlock i hi').2) (k1.trans kL), fun own ρ Φ Ψ ts σ H z Q q => se_of (pe_gsum (P := P) hr hcl hg hm hcode ok hN hco hdot pi_SI hs (gparts (X := X) (own0 := own0)) he) (h1 own ρ Φ Ψ ts σ H z _ fun own1 ρ1 Φ1 H1 ps J m1 eps z1 hJ => ?_)⟩
    obtain ⟨hP, hsrc⟩ := src.ok z1
    obtain ⟨qs, hq, hqt, _⟩ := z1.tabs P hP
    refine ⟨qs, hq, hqt, hsrc, fun code H2 TS => ?_⟩
    obtain ⟨c', P', own2, rfl, z2⟩ := z1.tabS hP hq TS
    have e2' : lcLoop (own0.map (·.2)) g mt me (it.items.drop 0) [] (wipeS (own0.map (·.2)) s1) = some (out, stE) := e2
    have z3 := z2.wiped (vs := own0.map (·.2)) (fresh_ts hf z2)
    refine ⟨_, _, _, _, valAt out, gw_run (X := X) (pv := { pv with cd := (c', P') :: pv.cd }) (vs := own0.map (·.2)) (g := g) (mt := mt) (me := me) (its := it.items) (J := J) (gS := gS X scope k tg (.ref c')) (tS := gSt X scope k ifs (.ref c')) (eS := gSe X scope k elt (.ref c'))
      (G.rg hr0 c' P') (G.rt hr0 c' P') (G.re hr0 c' P')
      (st0 := s1) hf hJ (ts := ps ++ ts) (fun p hp => List.mem_append_left _ hp) (fresh_ts hf z1) (Ψ := Ψ) (σ := σ) (ρ0 := ρ1) (Φ0 := Φ1) (out := out) (stE := stE), ⟨Nat.le_refl _, Nat.zero_le _, own2, ρ1, Φ1, [], _, rfl, Mon.refl _ _, z3, wipeL_kp hf (Kp.refl _), e2'⟩, fun j y hy => ?_, fun j H2 hf2 => ?_⟩
    · obtain ⟨d, ρ, Φ, hd, _, r⟩ := hy
      rw [hint j d hd] at r
      cases r
      rfl
    · obtain ⟨rfl, own2, ρ2, Φ2, m2, z4⟩ := hf2
      rw [hsum]
      have z5 := (z4.unwiped (wipe_length σ _).symm).cdDown
      exact q own2 ρ2 Φ2 H2 _ (m1.trans m2) (((Stt.drops ps z5).unlock it.lock).push (.int n))
  · cases e
end
end Dn
set_option Elab.async false
set_option linter.all false
set_option maxRecDepth 100000
set_option maxHeartbeats 4000000
/-! Den, generators, part 14: any( .. for .. ), all( .. for .. ) as pure functions. -/
namespace Dn
open PySem PySem.Spec PyProof.Rows L2
/-- the loop that stops at the first b0; n: the things given so far -/
def qLoop (b0 : Bool) (vs : List Nat) (g : MG) (mt : MT) (me : MF) : List PyData → Nat → S → Option (Nat × Bool × S)
  | [], n, st => some (n, !b0, st)
  | d :: ds, n, st => (g d st).bind fun s1 => (mt s1).bind fun p => if p.1 then (me p.2).bind fun q => (match q.1 with
      | .bool r => if r = b0 then some (n, b0, wipeS vs q.2) else qLoop b0 vs g mt me ds (n + 1) (wipeS vs q.2)
      | _ => none) else qLoop b0 vs g mt me ds n (wipeS vs p.2)
theorem qLoop_ge {b0 : Bool} {vs : List Nat} {g : MG} {mt : MT} {me : MF} : ∀ {ds : List PyData} {n : Nat} {st : S} {m : Nat} {b : Bool} {sF : S}, qLoop b0 vs g mt me ds n st = some (m, b, sF) → n ≤ m
  | [], n, st, m, b, sF, e => by cases e; exact Nat.le_refl _
  | d :: ds, n, st, m, b, sF, e => by
    obtain ⟨s1, e1, e⟩ := bind_some' e
    obtain ⟨⟨c, s2⟩, e2, e⟩ := bind_some' e
    cases c with
    | true =>
      simp only [if_true] at e
      obtain ⟨⟨d, s3⟩, e3, e⟩ := bind_some' e
      cases d with
      | bool r =>
        simp only at e
        split at e
        · cases e; exact Nat.le_refl _
        · exact Nat.le_of_succ_le (qLoop_ge e)
      | _ => cases e
    | false =>
      simp only [Bool.false_eq_true, if_false] at e
      exact qLoop_ge e
section
variable {X : Cx} {pv : PV}
/-- the promise of a generator out of the loop of a comprehension -/
theorem gw_runQ {b0 b : Bool} {nS : Nat} {sF : S} {elt tg : Expr} {ifs : List Expr} {vs : List Nat} {g : MG} {mt : MT} {me : MF} {gS : TG} {tS : TT} {eS : TE} {its : List PyData} {J : It}
    (hg : ∀ d st st', g d st = some st' → Kp st st' ∧ ∀ own ρ Φ Ψ ts σ H x, Stt X.K pv own ρ Φ Ψ ts st σ H → Rp X.K ρ Φ x d → ∀ Q : L2.St → Hp → Prop, (∀ own' σ', Stt X.K pv own' ρ Φ Ψ ts st' σ' H → wipe σ' vs = wipe σ vs → Q σ' H) → gS x σ H Q)
    (ht : ∀ st b st', mt st = some (b, st') → Kp st st' ∧ ∀ own ρ Φ Ψ ts σ H, Stt X.K pv own ρ Φ Ψ ts st σ H → ∀ Q : Bool → Hp → Prop, (∀ own' ρ' Φ' H', Mon ρ Φ ρ' Φ' → Stt X.K pv own' ρ' Φ' Ψ ts st' σ H' → Q b H') → tS σ H Q)
    (he : ∀ st d st', me st = some (d, st') → Kp st st' ∧ ∀ own ρ Φ Ψ ts σ H, Stt X.K pv own ρ Φ Ψ ts st σ H → ∀ Q : VK, (∀ own' ρ' Φ' H' v, Mon ρ Φ ρ' Φ' → Stt X.K pv own' ρ' Φ' Ψ ts st' σ H' → Rp X.K ρ' Φ' v d → Q v H') → eS σ H Q)
    {st0 : S} (h0 : freshS vs st0 = true) {ps : List (V × Opd)} (hJ : ItOk X.K J its ps st0) {ts : List (V × Opd)} (hps : ∀ p ∈ ps, p ∈ ts) (hsl : ∀ w i, (w, Opd.slot i) ∈ ts → i ∉ vs) {Ψ : Hp} {σ : L2.St} {ρ0 : Rho} {Φ0 : Hp} :
    GWay X tg ifs elt vs (wipe σ vs) J gS tS eS its.length (fun j y => y = .bl (if b = b0 ∧ j = nS then b0 else !b0))
      (fun j i H => j ≤ i ∧ i ≤ its.length ∧ ∃ own ρ Φ st, Mon ρ0 Φ0 ρ Φ ∧ Stt X.K pv own ρ Φ Ψ ts st (wipe σ vs) H ∧ Kp st0 st ∧ qLoop b0 vs g mt me (its.drop i) j st = some (nS, b, sF))
      (fun j i H => if b = b0 ∧ j = nS + 1 then ∃ own ρ Φ, Mon ρ0 Φ0 ρ Φ ∧ Stt X.K pv own ρ Φ Ψ ts sF (wipe σ vs) H else j ≤ i ∧ i ≤ its.length ∧ ∃ own ρ Φ st, Mon ρ0 Φ0 ρ Φ ∧ Stt X.K pv own ρ Φ Ψ ts st (wipe σ vs) H ∧ Kp st0 st ∧ qLoop b0 vs g mt me (its.drop i) j st = some (nS, b, sF))
      (fun j H => b = !b0 ∧ ∃ own ρ Φ, Mon ρ0 Φ0 ρ Φ ∧ Stt X.K pv own ρ Φ Ψ ts sF (wipe σ vs) H) := by
  refine ⟨fun j i H w => ⟨w.1, w.2.1⟩, ?_⟩
  rintro j i H ⟨hji, hiN, own, ρ, Φ, st, m0, z, kp, e⟩
  obtain ⟨j1, j2⟩ := hJ pv i own ρ Φ Ψ _ st _ H z hps kp
  by_cases hi : i < its.length
  · refine .inr ?_
    have ed : its[i]? = some its[i] := List.getElem?_eq_getElem hi
    have edrop : its.drop i = its[i] :: its.drop (i + 1) := List.drop_eq_getElem_cons hi
    rw [edrop] at e
    obtain ⟨s1, e1, e⟩ := bind_some' e
    obtain ⟨⟨b, s2⟩, e2, e⟩ := bind_some' e
    obtain ⟨go, yl⟩ := j1 _ ed
    refine ⟨go, hi, fun x H' hy => ?_⟩
    obtain ⟨own1, Φ1, m1, z1, r1⟩ := yl x H' hy
    obtain ⟨k1, g1⟩ := hg _ _ _ e1
    refine g1 own1 ρ Φ1 Ψ _ _ H' x z1 r1 _ fun own2 σ2 z2 w2 => ?_
    have ew : wipe (wipe σ vs) vs = wipe σ vs := wipe_idem σ vs
    rw [ew] at w2
    refine ⟨w2, ?_⟩
    obtain ⟨k2, t2⟩ := ht _ _ _ e2
    refine t2 own2 ρ Φ1 Ψ _ σ2 H' z2 _ fun own3 ρ3 Φ3 H3 m3 z3 => ?_
    cases b with
    | true =>
      simp only [if_true] at e ⊢
      obtain ⟨⟨d, s3⟩, e3, e⟩ := bind_some' e
      obtain ⟨k3, h3⟩ := he _ _ _ e3
      refine h3 own3 ρ3 Φ3 Ψ _ σ2 H3 z3 _ fun own4 ρ4 Φ4 H4 y m4 z4 r4 => ?_
      have mm : Mon ρ0 Φ0 ρ4 Φ4 := ((m0.trans m1).trans m3).trans m4
      have zw := z4.wiped (vs := vs) hsl
      rw [w2] at zw
      cases d with
      | bool r =>
        cases r4
        simp only at e
        split at e
        · rename_i hr
          cases e
          refine ⟨by rw [hr, if_pos ⟨rfl, rfl⟩], ?_⟩
          rw [if_pos ⟨rfl, rfl⟩]
          exact ⟨own4, ρ4, Φ4, mm, zw⟩
        · rename_i hr
          have ge := qLoop_ge e
          have hr' : r = !b0 := by cases r <;> cases b0 <;> simp_all
          refine ⟨by rw [if_neg (fun h => by have := h.2; omega), hr'], ?_⟩
          by_cases hh : b = b0 ∧ j + 1 = nS + 1
          · have := hh.2; omega
          · rw [if_neg hh]
            exact ⟨by omega, hi, own4, ρ4, Φ4, _, mm, zw, wipeL_kp h0 (((kp.trans k1).trans k2).trans k3), e⟩
      | _ => cases e
    | false =>
      simp only [Bool.false_eq_true, if_false] at e ⊢
      have zw := z3.wiped (vs := vs) hsl
      rw [w2] at zw
      exact ⟨by omega, hi, own3, ρ3, Φ3, wipeS vs s2, (m0.trans m1).trans m3, zw, wipeL_kp h0 ((kp.trans k1).trans k2), e⟩
  · refine .inl ⟨j2 (by omega), ?_⟩
    rw [List.drop_eq_nil_of_le (by omega)] at e
    cases e
    exact ⟨rfl, own, ρ, Φ, m0, z⟩
end
end Dn
set_option Elab.async false
set_option linter.all false
set_option maxRecDepth 100000
set_option maxHeartbeats 4000000
/-! Den, generators, part 15: any, all as pure functions. -/
namespace Dn
open PySem PySem.Spec PyProof.Rows L2
theorem qLoop_kp {b0 : Bool} {vs : List Nat} {g : MG} {mt : MT} {me : MF} (hg : ∀ d st st', g d st = some st' → Kp st st') (ht : ∀ st b st', mt st = some (b, st') → Kp st st') (he : ∀ st d st', me st = some (d, st') → Kp st st') {st0 : S} (h0 : freshS vs st0 = true) :
    ∀ {ds : List PyData} {n : Nat} {st : S} {m : Nat} {b : Bool} {sF : S}, Kp st0 st → qLoop b0 vs g mt me ds n st = some (m, b, sF) → Kp st0 sF
  | [], n, st, m, b, sF, k, e => by cases e; exact k
  | d :: ds, n, st, m, b, sF, k, e => by
    obtain ⟨s1, e1, e⟩ := bind_some' e
    obtain ⟨⟨c, s2⟩, e2, e⟩ := bind_some' e
    have k2 := (k.trans (hg _ _ _ e1)).trans (ht _ _ _ e2)
    cases c with
    | true =>
      simp only [if_true] at e
      obtain ⟨⟨d, s3⟩, e3, e⟩ := bind_some' e
      have k3 := wipeL_kp h0 (k2.trans (he _ _ _ e3))
      cases d with
      | bool r =>
        simp only at e
        split at e
        · cases e; exact k3
        · exact qLoop_kp hg ht he h0 k3 e
      | _ => cases e
    | false =>
      simp only [Bool.false_eq_true, if_false] at e
      exact qLoop_kp hg ht he h0 (wipeL_kp h0 k2) e
section
variable {X : Cx} {pv : PV} {tg elt iter : Expr} {ifs : List Expr} {scope : Scope} {own0 : List (Str × Nat)} {k : Nat}
def mGAny (vs : List Nat) (mi : MI) (g : MG) (mt : MT) (me : MF) : ME := fun st => (mi st).bind fun it => if freshS vs it.2 then (qLoop true vs g mt me it.1.items 0 (wipeS vs it.2)).bind fun r => some (.lv (.sh (.bool r.2.1)), unlock it.1.lock r.2.2) else none
theorem d_gany {c P : Addr} {p pos gpos : Pos} {mi : MI} {g : MG} {mt : MT} {me : MF}
    (hr : Room (k + 1) X.A) (hm : X.mg "any" = none) (src : SrcD X pv c P) (hcode : X.env.code = .ref c) (ok : BlkOk X.N X.env.scope scope own0) (hN : X.N.Nodup)
    (hi : DI X pv tg iter mi) (G : GcP X pv scope (own0.map (·.2)) tg ifs elt k g mt me) (hcl : X.calm = true := by rfl) (hg : Gl X "any" := by rfl) (hco : scope.isCoroutine = false := by rfl) (hdot : scope.names.lookup (".0" : Str) = some NameKind.local := by rfl)
    (hs : ∀ v, genFold iter X.env v = pure v := by intro _; rfl) (he : starEach [.GeneratorExp elt [⟨tg, iter, ifs, 0⟩] scope gpos] X.env = (false, eval (.GeneratorExp elt [⟨tg, iter, ifs, 0⟩] scope gpos) X.env) :: starEach [] X.env := by rfl) :
    DE X pv (.Call (.Name "any" p) [.GeneratorExp elt [⟨tg, iter, ifs, 0⟩] scope gpos] [] pos) (mGAny (own0.map (·.2)) mi g mt me) := by
  intro st o st' e
  obtain ⟨⟨it, s1⟩, e1, e⟩ := bind_some' e
  split at e
  · rename_i hf
    obtain ⟨⟨nS, b, sF⟩, e2, e⟩ := bind_some' e
    cases e
    obtain ⟨k1, hlock, hslot, h1⟩ := hi _ _ _ e1
    have hr0 : Room k X.A := ⟨hr.hd, by have := hr.dp; omega, by have := hr.un; omega⟩
    have kL : Kp s1 sF := qLoop_kp (fun d st st' e => (G.rg hr0 0 0 d st st' e).1) (fun st b st' e => (G.rt hr0 0 0 st b st' e).1) (fun st d st' e => (G.re hr0 0 0 st d st' e).1) hf (wipeL_kp hf (Kp.refl _)) e2
    refine ⟨unlock_kp _ (fun i hi' => (hlock i hi').2) (k1.trans kL), fun own ρ Φ Ψ ts σ H z Q q => se_of (pe_gany (P := P) hr hcl hg hm hcode ok hN hco hdot pi_SI hs (gparts (X := X) (own0 := own0)) bb_any he) (h1 own ρ Φ Ψ ts σ H z _ fun own1 ρ1 Φ1 H1 ps J m1 eps z1 hJ => ?_)⟩
    obtain ⟨hP, hsrc⟩ := src.ok z1
    obtain ⟨qs, hq, hqt, _⟩ := z1.tabs P hP
    refine ⟨qs, hq, hqt, hsrc, fun code H2 TS => ?_⟩
    obtain ⟨c', P', own2, rfl, z2⟩ := z1.tabS hP hq TS
    have e2' : qLoop true (own0.map (·.2)) g mt me (it.items.drop 0) 0 (wipeS (own0.map (·.2)) s1) = some (nS, b, sF) := e2
    have z3 := z2.wiped (vs := own0.map (·.2)) (fresh_ts hf z2)
    refine ⟨_, _, _, _, _, fun j => if b = true ∧ j = nS then true else !true, gw_runQ (b0 := true) (b := b) (nS := nS) (sF := sF) (X := X) (pv := { pv with cd := (c', P') :: pv.cd }) (vs := own0.map (·.2)) (g := g) (mt := mt) (me := me) (its := it.items) (J := J) (gS := gS X scope k tg (.ref c')) (tS := gSt X scope k ifs (.ref c')) (eS := gSe X scope k elt (.ref c'))
      (G.rg hr0 c' P') (G.rt hr0 c' P') (G.re hr0 c' P')
      (st0 := s1) hf hJ (ts := ps ++ ts) (fun p hp => List.mem_append_left _ hp) (fresh_ts hf z1) (Ψ := Ψ) (σ := σ) (ρ0 := ρ1) (Φ0 := Φ1), ⟨Nat.le_refl _, Nat.zero_le _, own2, ρ1, Φ1, _, Mon.refl _ _, z3, wipeL_kp hf (Kp.refl _), e2'⟩, fun j y hy => hy, fun j i H hj hy => ?_, fun j i H2 hj _ hy => ?_, fun j H2 _ hf2 => ?_⟩
    · have nh : ¬ (b = true ∧ j + 1 = nS + 1) := fun h => by simp only at hj; rw [if_pos ⟨h.1, by omega⟩] at hj; cases hj
      simp only [if_neg nh] at hy
      exact hy
    · have hh : b = true ∧ j = nS := by
        by_cases h : b = true ∧ j = nS
        · exact h
        · simp only at hj; rw [if_neg h] at hj; cases hj
      simp only [if_pos (show b = true ∧ j + 1 = nS + 1 from ⟨hh.1, by omega⟩)] at hy
      obtain ⟨own2, ρ2, Φ2, m2, z4⟩ := hy
      have z5 := (z4.unwiped (wipe_length σ _).symm).cdDown
      have := hh.1
      subst this
      exact q own2 ρ2 Φ2 H2 _ (m1.trans m2) (((Stt.drops ps z5).unlock it.lock).push (.bl _))
    · obtain ⟨hb, own2, ρ2, Φ2, m2, z4⟩ := hf2
      have z5 := (z4.unwiped (wipe_length σ _).symm).cdDown
      subst hb
      exact q own2 ρ2 Φ2 H2 _ (m1.trans m2) (((Stt.drops ps z5).unlock it.lock).push (.bl _))
  · cases e
def mGAll (vs : List Nat) (mi : MI) (g : MG) (mt : MT) (me : MF) : ME := fun st => (mi st).bind fun it => if freshS vs it.2 then (qLoop false vs g mt me it.1.items 0 (wipeS vs it.2)).bind fun r => some (.lv (.sh (.bool r.2.1)), unlock it.1.lock r.2.2) else none
theorem d_gall {c P : Addr} {p pos gpos : Pos} {mi : MI} {g : MG} {mt : MT} {me : MF}
    (hr : Room (k + 1) X.A) (hm : X.mg "all" = none) (src : SrcD X pv c P) (hcode : X.env.code = .ref c) (ok : BlkOk X.N X.env.scope scope own0) (hN : X.N.Nodup)
    (hi : DI X pv tg iter mi) (G : GcP X pv scope (own0.map (·.2)) tg ifs elt k g mt me) (hcl : X.calm = true := by rfl) (hg : Gl X "all" := by rfl) (hco : scope.isCoroutine = false := by rfl) (hdot : scope.names.lookup (".0" : Str) = some NameKind.local := by rfl)
    (hs : ∀ v, genFold iter X.env v = pure v := by intro _; rfl) (he : starEach [.GeneratorExp elt [⟨tg, iter, ifs, 0⟩] scope gpos] X.env = (false, eval (.GeneratorExp elt [⟨tg, iter, ifs, 0⟩] scope gpos) X.env) :: starEach [] X.env := by rfl) :
    DE X pv (.Call (.Name "all" p) [.GeneratorExp elt [⟨tg, iter, ifs, 0⟩] scope gpos] [] pos) (mGAll (own0.map (·.2)) mi g mt me) := by
  intro st o st' e
  obtain ⟨⟨it, s1⟩, e1, e⟩ := bind_some' e
  split at e
  · rename_i hf
    obtain ⟨⟨nS, b, sF⟩, e2, e⟩ := bind_some' e
    cases e
    obtain ⟨k1, hlock, hslot, h1⟩ := hi _ _ _ e1
    have hr0 : Room k X.A := ⟨hr.hd, by have := hr.dp; omega, by have := hr.un; omega⟩
    have kL : Kp s1 sF := qLoop_kp (fun d st st' e => (G.rg hr0 0 0 d st st' e).1) (fun st b st' e => (G.rt hr0 0 0 st b st' e).1) (fun st d st' e => (G.re hr0 0 0 st d st' e).1) hf (wipeL_kp hf (Kp.refl _)) e2
    refine ⟨unlock_kp _ (fun i hi' => (hlock i hi').2) (k1.trans kL), fun own ρ Φ Ψ ts σ H z Q q => se_of (pe_gall (P := P) hr hcl hg hm hcode ok hN hco hdot pi_SI hs (gparts (X := X) (own0 := own0)) bb_all he) (h1 own ρ Φ Ψ ts σ H z _ fun own1 ρ1 Φ1 H1 ps J m1 eps z1 hJ => ?_)⟩
    obtain ⟨hP, hsrc⟩ := src.ok z1
    obtain ⟨qs, hq, hqt, _⟩ := z1.tabs P hP
    refine ⟨qs, hq, hqt, hsrc, fun code H2 TS => ?_⟩
    obtain ⟨c', P', own2, rfl, z2⟩ := z1.tabS hP hq TS
    have e2' : qLoop false (own0.map (·.2)) g mt me (it.items.drop 0) 0 (wipeS (own0.map (·.2)) s1) = some (nS, b, sF) := e2
    have z3 := z2.wiped (vs := own0.map (·.2)) (fresh_ts hf z2)
    refine ⟨_, _, _, _, _, fun j => if b = false ∧ j = nS then false else !false, gw_runQ (b0 := false) (b := b) (nS := nS) (sF := sF) (X := X) (pv := { pv with cd := (c', P') :: pv.cd }) (vs := own0.map (·.2)) (g := g) (mt := mt) (me := me) (its := it.items) (J := J) (gS := gS X scope k tg (.ref c')) (tS := gSt X scope k ifs (.ref c')) (eS := gSe X scope k elt (.ref c'))
      (G.rg hr0 c' P') (G.rt hr0 c' P') (G.re hr0 c' P')
      (st0 := s1) hf hJ (ts := ps ++ ts) (fun p hp => List.mem_append_left _ hp) (fresh_ts hf z1) (Ψ := Ψ) (σ := σ) (ρ0 := ρ1) (Φ0 := Φ1), ⟨Nat.le_refl _, Nat.zero_le _, own2, ρ1, Φ1, _, Mon.refl _ _, z3, wipeL_kp hf (Kp.refl _), e2'⟩, fun j y hy => hy, fun j i H hj hy => ?_, fun j i H2 hj _ hy => ?_, fun j H2 _ hf2 => ?_⟩
    · have nh : ¬ (b = false ∧ j + 1 = nS + 1) := fun h => by simp only at hj; rw [if_pos ⟨h.1, by omega⟩] at hj; cases hj
      simp only [if_neg nh] at hy
      exact hy
    · have hh : b = false ∧ j = nS := by
        by_cases h : b = false ∧ j = nS
        · exact h
        · simp only at hj; rw [if_neg h] at hj; cases hj
      simp only [if_pos (show b = false ∧ j + 1 = nS + 1 from ⟨hh.1, by omega⟩)] at hy
      obtain ⟨own2, ρ2, Φ2, m2, z4⟩ := hy
      have z5 := (z4.unwiped (wipe_length σ _).symm).cdDown
      have := hh.1
      subst this
      exact q own2 ρ2 Φ2 H2 _ (m1.trans m2) (((Stt.drops ps z5).unlock it.lock).push (.bl _))
    · obtain ⟨hb, own2, ρ2, Φ2, m2, z4⟩ := hf2
      have z5 := (z4.unwiped (wipe_length σ _).symm).cdDown
      subst hb
      exact q own2 ρ2 Φ2 H2 _ (m1.trans m2) (((Stt.drops ps z5).unlock it.lock).push (.bl _))
  · cases e
end
end Dn
set_option Elab.async false
set_option linter.all false
set_option maxRecDepth 100000
set_option maxHeartbeats 4000000
/-! Den, generators, part 16: how they are run. -/
namespace Dn
open PySem PySem.Spec PyProof.Rows L2
def kGs3 (is : List Nat) (s : S) : Option Int → Option (Opd × S)
  | some n => some (.lv (.sh (.int n)), unlock is s)
  | none => none
def kGs2 (is : List Nat) : Option (List PyData × S) → Option (Opd × S)
  | some r => kGs3 is r.2 (sumG r.1)
  | none => none
def kGs1 (vs : List Nat) (g : MG) (mt : MT) (me : MF) : Option (Itm × S) → Option (Opd × S)
  | some it => if freshS vs it.2 then kGs2 it.1.lock (lcLoop vs g mt me it.1.items [] (wipeS vs it.2)) else none
  | none => none
theorem r_gsum (vs : List Nat) (mi : MI) (g : MG) (mt : MT) (me : MF) (st : S) : mGSum vs mi g mt me st = kGs1 vs g mt me (mi st) := by
  unfold mGSum
  cases mi st with
  | none => rfl
  | some it =>
    simp only [Option.bind_some, kGs1]
    split
    · cases lcLoop vs g mt me it.1.items [] (wipeS vs it.2) with
      | none => rfl
      | some r =>
        simp only [Option.bind_some, kGs2]
        cases sumG r.1 <;> rfl
    · rfl
theorem r_gs1 (vs : List Nat) (g : MG) (mt : MT) (me : MF) (ds : List PyData) (o : List Opd) (is : List Nat) (s : S) : kGs1 vs g mt me (some (⟨ds, o, is⟩, s)) = if freshS vs s then kGs2 is (lcLoop vs g mt me ds [] (wipeS vs s)) else none := rfl
theorem r_gs2 (is : List Nat) (ds : List PyData) (s : S) : kGs2 is (some (ds, s)) = kGs3 is s (sumG ds) := rfl
theorem r_gs3 (is : List Nat) (n : Int) (s : S) : kGs3 is s (some n) = some (.lv (.sh (.int n)), unlock is s) := rfl
theorem sumG_ints : ∀ ns : List Int, sumG (ns.map PyData.int) = some ns.sum
  | [] => rfl
  | n :: ns => by
    show (sumG (ns.map PyData.int)).map (n + ·) = _
    rw [sumG_ints ns]
    rfl
theorem sum_nat : ∀ l : List Nat, (l.map fun i : Nat => (i : Int)).sum = (l.sum : Nat)
  | [] => rfl
  | a :: l => by rw [List.map_cons, List.sum_cons, List.sum_cons, sum_nat l]; simp
theorem sumG_dl (l : List Nat) : sumG (dl l) = some ((l.sum : Nat) : Int) := by rw [dl_ints, sumG_ints, sum_nat]
/-- as many ones as there are -/
theorem sumG_ones {α : Type} (l : List α) : sumG (l.map fun _ => PyData.int 1) = some (l.length : Int) := by
  induction l with
  | nil => rfl
  | cons a l ih =>
    show (sumG (l.map fun _ => PyData.int 1)).map (1 + ·) = _
    rw [ih]
    simp
    omega
/-- any, all: the answer, the state behind it -/
def qRes (b0 : Bool) (vs : List Nat) (g : MG) (mt : MT) (me : MF) (ds : List PyData) (st : S) : Option (Bool × S) := (qLoop b0 vs g mt me ds 0 st).map (·.2)
def kGq2 (is : List Nat) : Option (Bool × S) → Option (Opd × S)
  | some r => some (.lv (.sh (.bool r.1)), unlock is r.2)
  | none => none
def kGq1 (b0 : Bool) (vs : List Nat) (g : MG) (mt : MT) (me : MF) : Option (Itm × S) → Option (Opd × S)
  | some it => if freshS vs it.2 then kGq2 it.1.lock (qRes b0 vs g mt me it.1.items (wipeS vs it.2)) else none
  | none => none
theorem r_gany (vs : List Nat) (mi : MI) (g : MG) (mt : MT) (me : MF) (st : S) : mGAny vs mi g mt me st = kGq1 true vs g mt me (mi st) := by
  unfold mGAny
  cases mi st with
  | none => rfl
  | some it =>
    simp only [Option.bind_some, kGq1, qRes]
    split
    · cases qLoop true vs g mt me it.1.items 0 (wipeS vs it.2) <;> rfl
    · rfl
theorem r_gall (vs : List Nat) (mi : MI) (g : MG) (mt : MT) (me : MF) (st : S) : mGAll vs mi g mt me st = kGq1 false vs g mt me (mi st) := by
  unfold mGAll
  cases mi st with
  | none => rfl
  | some it =>
    simp only [Option.bind_some, kGq1, qRes]
    split
    · cases qLoop false vs g mt me it.1.items 0 (wipeS vs it.2) <;> rfl
    · rfl
theorem r_gq1 (b0 : Bool) (vs : List Nat) (g : MG) (mt : MT) (me : MF) (ds : List PyData) (o : List Opd) (is : List Nat) (s : S) : kGq1 b0 vs g mt me (some (⟨ds, o, is⟩, s)) = if freshS vs s then kGq2 is (qRes b0 vs g mt me ds (wipeS vs s)) else none := rfl
theorem r_gq2 (is : List Nat) (b : Bool) (s : S) : kGq2 is (some (b, s)) = some (.lv (.sh (.bool b)), unlock is s) := rfl
def kQs (b0 : Bool) (vs : List Nat) (g : MG) (mt : MT) (me : MF) (ds : List PyData) (n : Nat) (s' : S) : Option Bool → Option (Nat × Bool × S)
  | none => qLoop b0 vs g mt me ds n s'
  | some r => if r = b0 then some (n, b0, s') else qLoop b0 vs g mt me ds (n + 1) s'
theorem qLoop_turn {b0 : Bool} {vs : List Nat} {g : MG} {mt : MT} {me : MF} (d : PyData) (ds : List PyData) (n : Nat) (st : S) {o : Option Bool} {s' : S} (h : lcTurn vs g mt me d st = some (o.map PyData.bool, s')) :
    qLoop b0 vs g mt me (d :: ds) n st = kQs b0 vs g mt me ds n s' o := by
  unfold lcTurn at h
  show (g d st).bind _ = _
  cases e1 : g d st with
  | none => rw [e1] at h; cases h
  | some s1 =>
    rw [e1] at h
    simp only [Option.bind_some] at h ⊢
    cases e2 : mt s1 with
    | none => rw [e2] at h; cases h
    | some p =>
      obtain ⟨b, s2⟩ := p
      rw [e2] at h
      simp only [Option.bind_some] at h ⊢
      cases b with
      | false =>
        simp only [Bool.false_eq_true, if_false] at h ⊢
        cases o with
        | none => cases h; rfl
        | some r => cases h
      | true =>
        simp only [if_true] at h ⊢
        cases e3 : me s2 with
        | none => rw [e3] at h; cases h
        | some q =>
          obtain ⟨x, s3⟩ := q
          rw [e3] at h
          cases o with
          | none => cases h
          | some r => cases h; rfl
theorem qLoop_pure {α : Type} {b0 : Bool} {vs : List Nat} {g : MG} {mt : MT} {me : MF} (e : α → PyData) (r : α → Option Bool) {st : S} : ∀ {xs : List α} {n : Nat}, (∀ a ∈ xs, lcTurn vs g mt me (e a) st = some ((r a).map PyData.bool, st)) →
    ∃ m, qLoop b0 vs g mt me (xs.map e) n st = some (m, (if xs.any (fun a => r a == some b0) then b0 else !b0), st)
  | [], n, _ => ⟨n, rfl⟩
  | a :: xs, n, hs => by
    rw [List.map_cons, qLoop_turn _ _ _ _ (hs a List.mem_cons_self), List.any_cons]
    obtain ⟨m, h⟩ := qLoop_pure e r (b0 := b0) (n := n) fun b hb => hs b (List.mem_cons_of_mem _ hb)
    obtain ⟨m', h'⟩ := qLoop_pure e r (b0 := b0) (n := n + 1) fun b hb => hs b (List.mem_cons_of_mem _ hb)
    cases hr : r a with
    | none => exact ⟨m, by simpa [kQs] using h⟩
    | some c =>
      by_cases hc : c = b0
      · exact ⟨n, by simp [kQs, hc]⟩
      · have : (some c == some b0) = false := by simp [hc]
        simp only [this, Bool.false_or, kQs, if_neg hc]
        exact ⟨m', h'⟩
theorem q_anyE {α : Type} {vs : List Nat} {g : MG} {mt : MT} {me : MF} (e : α → PyData) (p : α → Bool) {xs : List α} {st : S} (hs : ∀ a ∈ xs, lcTurn vs g mt me (e a) st = some (some (.bool (p a)), st)) : qRes true vs g mt me (xs.map e) st = some (xs.any p, st) := by
  obtain ⟨m, h⟩ := qLoop_pure (b0 := true) (n := 0) e (fun a => some (p a)) hs
  unfold qRes
  rw [h]
  have : (fun a => (some (p a) == some true)) = p := by funext a; cases p a <;> rfl
  rw [this]
  cases xs.any p <;> rfl
theorem q_allE {α : Type} {vs : List Nat} {g : MG} {mt : MT} {me : MF} (e : α → PyData) (p : α → Bool) {xs : List α} {st : S} (hs : ∀ a ∈ xs, lcTurn vs g mt me (e a) st = some (some (.bool (p a)), st)) : qRes false vs g mt me (xs.map e) st = some (xs.all p, st) := by
  obtain ⟨m, h⟩ := qLoop_pure (b0 := false) (n := 0) e (fun a => some (p a)) hs
  unfold qRes
  rw [h]
  have : xs.any (fun a => (some (p a) == some false)) = !xs.all p := by
    rw [List.not_all_eq_any_not]
    congr 1
    funext a
    cases p a <;> rfl
  rw [this]
  cases xs.all p <;> rfl
theorem q_anyN {vs : List Nat} {g : MG} {mt : MT} {me : MF} (p : Nat → Bool) {l : List Nat} {st : S} (hs : ∀ a ∈ l, lcTurn vs g mt me (.int (a : Int)) st = some (some (.bool (p a)), st)) : qRes true vs g mt me (dl l) st = some (l.any p, st) := q_anyE di p hs
theorem q_allN {vs : List Nat} {g : MG} {mt : MT} {me : MF} (p : Nat → Bool) {l : List Nat} {st : S} (hs : ∀ a ∈ l, lcTurn vs g mt me (.int (a : Int)) st = some (some (.bool (p a)), st)) : qRes false vs g mt me (dl l) st = some (l.all p, st) := q_allE di p hs
end Dn
set_option Elab.async false
set_option linter.all false
set_option maxRecDepth 100000
set_option maxHeartbeats 8000000
/-! the pure functions of the defs -/
namespace Bd
open PySem PySem.Spec PyProof.Rows L2 Dn
def b_size_of_kind : MS :=
  (mSeq (mIfS (mTst (mBin gEq (mIx (mName 0) (mC (.int 0))) (mC (.str "vectors")))) (mRet (mUn gLen (mIx (mName 0) (mC (.int 3))))) mNx)
    (mSeq (mIfS (mTst (mBin (gIn false) (mIx (mName 0) (mC (.int 0))) (mTup (mFcons (mFrz (mC (.str "graph"))) (mFcons (mFrz (mC (.str "choices"))) mFnil))))) (mRet (mUn gLen (mIx (mName 0) (mC (.int 2))))) mNx)
    (mRet (mIx (mName 0) (mC (.int 1))))))
def F_size_of_kind : MD := runD 1 b_size_of_kind
def b_size_of_line : MS :=
  (mSeq (mSet 2 (mIx (mName 0) (mC (.int 0))))
    (mSeq (mIfS (mTst (mBin (gIn false) (mName 2) mNone)) (mRet (mCall [true] F_size_of_kind (mAcons (mName 0) mAnil))) mNx)
    (mSeq (mIfS (mTst (mBin (gIn false) (mName 2) (mTup (mFcons (mFrz (mC (.str "delete"))) (mFcons (mFrz (mC (.str "contract"))) mFnil))))) (mRet (mBin gSub (mIx (mName 1) (mIx (mName 0) (mC (.int 1)))) (mC (.int 1)))) mNx)
    (mSeq (mIfS (mTst (mBin gEq (mName 2) (mC (.str "sum")))) (mRet (mBin gAdd (mIx (mName 1) (mIx (mName 0) (mC (.int 1)))) (mIx (mName 1) (mIx (mName 0) (mC (.int 2)))))) mNx)
    (mRet (mIx (mName 1) (mIx (mName 0) (mC (.int 1)))))))))
def F_size_of_line : MD := runD 3 b_size_of_line
def lb_sizes_of_1 : MS := (mClr [2] (mApp 1 (mFrz (mCall [true, true] F_size_of_line (mAcons (mName 2) (mAcons (mName 1) mAnil))))))
def b_sizes_of : MS :=
  (mSeq (mSet 1 (mLst mFnil))
    (mSeq (mFor (mIt (mName 0)) (mGn false 2) lb_sizes_of_1)
    (mRet (mName 1))))
def F_sizes_of : MD := runD 3 b_sizes_of
def b_size : MS :=
  (mRet (mIx (mCall [true] F_sizes_of (mAcons (mName 0) mAnil)) (mUn gNeg (mC (.int 1)))))
def F_size : MD := runD 1 b_size
def b__law_draw : MS :=
  (mSeq (mIfS (mTst (mBin gLt (mIx (mName 0) (mC (.int 0))) (mName 1))) (mSeq (mSet 2 (mIx (mName 0) (mC (.int 1))))
    (mSeq (mSetIx 0 (mC (.int 1)) (mFrz (mBin gAdd (mName 2) (mC (.int 1)))))
    (mSeq (mSet 3 (mC (.int 0)))
    (mSeq (mIfS (mTst (mBin gLt (mName 2) (mUn gLen (mIx (mName 0) (mC (.int 2)))))) (mSet 3 (mIx (mIx (mName 0) (mC (.int 2))) (mName 2))) mNx)
    (mIfS (mTst (mBin gGe (mName 3) (mBin gPow (mC (.int 10)) (mC (.int 18))))) (mSetIx 0 (mC (.int 0)) (mFrz (mName 3))) (mSeq (mSetIx 0 (mC (.int 3)) (mFrz (mBin gMod (mUn gInt (mBin gMul (mBin gAdd (mBin gAdd (mBin gAdd (mIx (mName 0) (mC (.int 3))) (mBin gMod (mUn gInt (mName 3)) (mC (.int 2147483629)))) (mName 2)) (mC (.int 1))) (mC (.int 48271)))) (mC (.int 2147483647)))))
    (mSeq (mSet 4 (mBin gMod (mUn gInt (mBin gAdd (mBin gMul (mIx (mName 0) (mC (.int 3))) (mC (.int 69621))) (mC (.int 11)))) (mC (.int 2147483629))))
    (mSetIx 0 (mC (.int 0)) (mFrz (mBin gAdd (mBin gMul (mName 4) (mC (.int 2147483647))) (mBin gMod (mUn gInt (mBin gAdd (mBin gMul (mName 4) (mC (.int 30011))) (mIx (mName 0) (mC (.int 3))))) (mC (.int 2147483587))))))))))))) mNx)
    (mSeq (mSet 5 (mBin gMod (mUn gInt (mIx (mName 0) (mC (.int 0)))) (mName 1)))
    (mSeq (mSetIx 0 (mC (.int 0)) (mFrz (mBin gFdiv (mIx (mName 0) (mC (.int 0))) (mName 1))))
    (mRet (mName 5)))))
def F__law_draw : MD := runD 6 b__law_draw
def b__law_powers : MS :=
  (mRet (mLst (mFcons (mFrz (mC (.int 1))) (mFcons (mFrz (mC (.int 2))) (mFcons (mFrz (mC (.int 4))) (mFcons (mFrz (mC (.int 8))) (mFcons (mFrz (mC (.int 16))) (mFcons (mFrz (mC (.int 32))) (mFcons (mFrz (mC (.int 64))) (mFcons (mFrz (mC (.int 128))) (mFcons (mFrz (mC (.int 256))) (mFcons (mFrz (mC (.int 512))) (mFcons (mFrz (mC (.int 1024))) (mFcons (mFrz (mC (.int 2048))) (mFcons (mFrz (mC (.int 4096))) (mFcons (mFrz (mC (.int 8192))) (mFcons (mFrz (mC (.int 16384))) mFnil)))))))))))))))))
def F__law_powers : MD := runD 0 b__law_powers
def le__law_code_1 : MF := (mFrz (mIx (mName 1) (mName 2)))
def b__law_code : MS :=
  (mSeq (mSet 1 (mCall [] F__law_powers mAnil))
    (mRet (mUn gSum (mLc [2] (mIt (mName 0)) (mGn true 2) mYes le__law_code_1))))
def F__law_code : MD := runD 3 b__law_code
def lt__law_choices_2 : MT := (mTst (mBin gEq (mCall [false, true] F__law_draw (mAcons (mName 0) (mAcons (mC (.int 3)) mAnil))) (mC (.int 1))))
def le__law_choices_2 : MF := (mFrz (mName 5))
def lb__law_choices_1 : MS := (mClr [4] (mApp 3 (mFrz (mUn gTuple (mLc [5] (mRng1 (mName 2)) (mGn true 5) lt__law_choices_2 le__law_choices_2)))))
def b__law_choices : MS :=
  (mSeq (mSet 2 (mCall [false, true] F__law_draw (mAcons (mName 0) (mAcons (mC (.int 6)) mAnil))))
    (mSeq (mSet 3 (mLst mFnil))
    (mSeq (mFor (mRng1 (mCall [false, true] F__law_draw (mAcons (mName 0) (mAcons (mBin gAdd (mName 1) (mC (.int 1))) mAnil)))) (mGn false 4) lb__law_choices_1)
    (mRet (mTup (mFcons (mFrz (mC (.str "choices"))) (mFcons (mFrz (mName 2)) (mFcons (mFrz (mUn gTuple (mName 3))) mFnil))))))))
def F__law_choices : MD := runD 6 b__law_choices
def b__law_size : MS :=
  (mSeq (mSet 2 (mIx (mName 0) (mC (.int 0))))
    (mSeq (mIfS (mTst (mBin gEq (mName 2) (mC (.str "vectors")))) (mRet (mUn gLen (mIx (mName 0) (mC (.int 3))))) mNx)
    (mSeq (mIfS (mTor (mTst (mBin gEq (mName 2) (mC (.str "graph")))) (mTst (mBin gEq (mName 2) (mC (.str "choices"))))) (mRet (mUn gLen (mIx (mName 0) (mC (.int 2))))) mNx)
    (mSeq (mIfS (mTst (mBin (gIn false) (mName 2) (mLst (mFcons (mFrz (mC (.str "bounds"))) (mFcons (mFrz (mC (.str "uniform"))) (mFcons (mFrz (mC (.str "bases"))) mFnil)))))) (mRet (mIx (mName 0) (mC (.int 1)))) mNx)
    (mSeq (mIfS (mTst (mBin gEq (mName 2) (mC (.str "sum")))) (mRet (mBin gAdd (mIx (mName 1) (mIx (mName 0) (mC (.int 1)))) (mIx (mName 1) (mIx (mName 0) (mC (.int 2)))))) mNx)
    (mRet (mBin gSub (mIx (mName 1) (mIx (mName 0) (mC (.int 1)))) (mUn gInt (mBin (gIn false) (mName 2) (mLst (mFcons (mFrz (mC (.str "delete"))) (mFcons (mFrz (mC (.str "contract"))) mFnil))))))))))))
def F__law_size : MD := runD 3 b__law_size
def lb__law_forest_1 : MS := (mClr [3] (mSetIx 2 (mName 3) (mFrz (mLst (mFcons (mFrz (mName 3)) mFnil)))))
def lb__law_forest_3 : MS := (mClr [3] (mSetIx 2 (mName 3) (mFrz (mName 7))))
def lb__law_forest_2 : MS := (mClr [3, 4, 5, 6, 7] (mSeq (mSetT (mGt (mGcons (mGn false 5) (mGcons (mGn false 6) mGnil))) (mFrz (mIx (mIx (mName 0) (mC (.int 2))) (mName 4))))
    (mSeq (mIfS (mTst (mBin (gIn false) (mName 6) (mIx (mName 2) (mName 5)))) (mRet (mC (.bool false))) mNx)
    (mSeq (mSet 7 (mBin gAdd (mIx (mName 2) (mName 5)) (mIx (mName 2) (mName 6))))
    (mFor (mIt (mSh (mFrz (mName 7)))) (mGn false 3) lb__law_forest_3)))))
def b__law_forest : MS :=
  (mSeq (mSet 2 mDk)
    (mSeq (mFor (mRng1 (mIx (mName 0) (mC (.int 1)))) (mGn false 3) lb__law_forest_1)
    (mSeq (mFor (mIt (mName 1)) (mGn false 4) lb__law_forest_2)
    (mRet (mC (.bool true))))))
def F__law_forest : MD := runD 8 b__law_forest
def lb__law_given_1 (Y__law_given : MD) : MS := (mClr [3] (mIfS (mTand (mTst (mBin (gIn true) (mName 3) (mName 2))) (mTru (mCall [true, true, true] Y__law_given (mAcons (mName 0) (mAcons (mSl (mName 1) (mPart (mC (.int 1))) mNoP) (mAcons (mBin gAdd (mName 2) (mLst (mFcons (mFrz (mName 3)) mFnil))) mAnil)))))) (mRet (mC (.bool true))) mNx))
def b__law_given (Y__law_given : MD) : MS :=
  (mSeq (mIfS (mTst (mBin gEq (mUn gLen (mName 1)) (mC (.int 0)))) (mRet (mC (.bool true))) mNx)
    (mSeq (mFor (mIt (mIx (mIx (mName 0) (mC (.int 2))) (mIx (mName 1) (mC (.int 0))))) (mGn false 3) (lb__law_given_1 Y__law_given))
    (mRet (mC (.bool false)))))
def R__law_given : Nat → MD
  | 0 => fun _ => none
  | n + 1 => runD 4 (b__law_given (R__law_given n))
def F__law_given : MD := R__law_given 60
def le_graph_rank_2 : MF := (mFrz (mIf (mTst (mBin gEq (mName 9) (mName 7))) (mName 8) (mName 9)))
def lb_graph_rank_1 : MS := (mClr [4, 5, 6, 7, 8] (mSeq (mSetT (mGt (mGcons (mGn false 5) (mGcons (mGn false 6) mGnil))) (mFrz (mIx (mIx (mName 0) (mC (.int 2))) (mName 4))))
    (mIfS (mTst (mBin gNe (mIx (mName 2) (mName 5)) (mIx (mName 2) (mName 6)))) (mSeq (mAug 3 gAddI (mC (.int 1)))
    (mSeq (mSet 7 (mIx (mName 2) (mName 5)))
    (mSeq (mSet 8 (mIx (mName 2) (mName 6)))
    (mSet 2 (mLc [9] (mIt (mName 2)) (mGn true 9) mYes le_graph_rank_2))))) mNx)))
def b_graph_rank : MS :=
  (mSeq (mSet 2 (mLRg1 (mIx (mName 0) (mC (.int 1)))))
    (mSeq (mSet 3 (mC (.int 0)))
    (mSeq (mClr [2] (mFor (mIt (mName 1)) (mGn false 4) lb_graph_rank_1))
    (mRet (mName 3)))))
def F_graph_rank : MD := runD 10 b_graph_rank
def lb_inverse_1 : MS := (mClr [2] (mIfS (mTst (mBin gEq (mBin gMod (mBin gMul (mName 0) (mName 2)) (mName 1)) (mC (.int 1)))) (mRet (mName 2)) mNx))
def b_inverse : MS :=
  (mSeq (mFor (mRng2 (mC (.int 1)) (mName 1)) (mGn false 2) lb_inverse_1)
    (mRet (mC (.int 0))))
def F_inverse : MD := runD 3 b_inverse
def le_reduced_2 : MF := (mFrz (mBin gMod (mBin gSub (mName 7) (mBin gMul (mName 6) (mName 8))) (mName 2)))
def lb_reduced_1 : MS := (mClr [4, 5, 6] (mSeq (mSet 6 (mIx (mName 3) (mName 4)))
    (mSet 3 (mLc [7, 8] (mZip (mName 3) (mName 5)) (mGt (mGcons (mGn true 7) (mGcons (mGn true 8) mGnil))) mYes le_reduced_2))))
def b_reduced : MS :=
  (mSeq (mSet 3 (mUn gList (mName 0)))
    (mSeq (mFor (mIt (mName 1)) (mGt (mGcons (mGn false 4) (mGcons (mGn false 5) mGnil))) lb_reduced_1)
    (mRet (mName 3))))
def F_reduced : MD := runD 9 b_reduced
def lt_vectors_rank_2 : MT := (mTst (mBin gNe (mName 9) (mC (.int 0))))
def le_vectors_rank_2 : MF := (mFrz (mName 8))
def le_vectors_rank_3 : MF := (mFrz (mBin gMod (mBin gMul (mName 9) (mName 7)) (mName 2)))
def lb_vectors_rank_1 : MS := (mClr [4, 5, 6, 7] (mSeq (mSet 5 (mCall [true, true, true] F_reduced (mAcons (mIx (mIx (mName 0) (mC (.int 3))) (mName 4)) (mAcons (mName 3) (mAcons (mName 2) mAnil)))))
    (mSeq (mSet 6 (mLc [8, 9] (mEnum (mName 5)) (mGt (mGcons (mGn true 8) (mGcons (mGn true 9) mGnil))) lt_vectors_rank_2 le_vectors_rank_2))
    (mIfS (mTru (mName 6)) (mSeq (mSet 7 (mCall [true, true] F_inverse (mAcons (mIx (mName 5) (mIx (mName 6) (mC (.int 0)))) (mAcons (mName 2) mAnil))))
    (mApp 3 (mFrz (mTup (mFcons (mFrz (mIx (mName 6) (mC (.int 0)))) (mFcons (mFrz (mLc [9] (mIt (mName 5)) (mGn true 9) mYes le_vectors_rank_3)) mFnil)))))) mNx))))
def b_vectors_rank : MS :=
  (mSeq (mSet 2 (mIx (mName 0) (mC (.int 1))))
    (mSeq (mSet 3 (mLst mFnil))
    (mSeq (mFor (mIt (mName 1)) (mGn false 4) lb_vectors_rank_1)
    (mRet (mUn gLen (mName 3))))))
def F_vectors_rank : MD := runD 10 b_vectors_rank
def lb_find_thing_1 (Y_find_thing : MD) : MS := (mClr [4] (mIfS (mTst (mBin (gIn true) (mName 4) (mName 3))) (mSeq (mApp 3 (mFrz (mName 4)))
    (mIfS (mTor (mTst (mBin (gInD true) (mName 4) (mName 2))) (mTru (mCall [true, false, false, false] Y_find_thing (mAcons (mName 0) (mAcons (mSh (mFrz (mIx (mName 2) (mName 4)))) (mAcons (mName 2) (mAcons (mName 3) mAnil))))))) (mSeq (mSetIx 2 (mName 4) (mFrz (mName 1)))
    (mRet (mC (.bool true)))) mNx)) mNx))
def b_find_thing (Y_find_thing : MD) : MS :=
  (mSeq (mFor (mIt (mIx (mIx (mName 0) (mC (.int 2))) (mName 1))) (mGn false 4) (lb_find_thing_1 Y_find_thing))
    (mRet (mC (.bool false))))
def R_find_thing : Nat → MD
  | 0 => fun _ => none
  | n + 1 => runD 5 (b_find_thing (R_find_thing n))
def F_find_thing : MD := R_find_thing 60
def lt_choices_rank_1 : MT := (mTru (mCall [true, false, false, false] F_find_thing (mAcons (mName 0) (mAcons (mSh (mFrz (mName 3))) (mAcons (mName 2) (mAcons (mLst mFnil) mAnil))))))
def le_choices_rank_1 : MF := (mFrz (mC (.int 1)))
def b_choices_rank : MS :=
  (mSeq (mSet 2 mDk)
    (mRet (mGSum [3] (mIt (mName 1)) (mGn true 3) lt_choices_rank_1 le_choices_rank_1)))
def F_choices_rank : MD := runD 4 b_choices_rank
def lt_bounds_rank_3 : MT := (mTst (mBin (gIn false) (mName 7) (mName 5)))
def le_bounds_rank_3 : MF := (mFrz (mC (.int 1)))
def le_bounds_rank_2 : MF := (mFrz (mGSum [7] (mIt (mName 2)) (mGn true 7) lt_bounds_rank_3 le_bounds_rank_3))
def le_bounds_rank_4 : MF := (mFrz (mOrV (mBin (gIn true) (mName 3) (mIx (mName 8) (mC (.int 0)))) (mBin gLt (mName 9) (mIx (mName 8) (mC (.int 1))))))
def lb_bounds_rank_1 : MS := (mClr [3, 4] (mSeq (mSet 4 (mLc [5, 6] (mIt (mIx (mName 0) (mC (.int 2)))) (mGt (mGcons (mGn true 5) (mGcons (mGn true 6) mGnil))) mYes le_bounds_rank_2))
    (mIfS (mTru (mGAll [8, 9] (mZip (mIx (mName 0) (mC (.int 2))) (mName 4)) (mGt (mGcons (mGn true 8) (mGcons (mGn true 9) mGnil))) mYes le_bounds_rank_4)) (mApp 2 (mFrz (mName 3))) mNx)))
def b_bounds_rank : MS :=
  (mSeq (mSet 2 (mLst mFnil))
    (mSeq (mFor (mIt (mName 1)) (mGn false 3) lb_bounds_rank_1)
    (mRet (mUn gLen (mName 2)))))
def F_bounds_rank : MD := runD 10 b_bounds_rank
def b_bases_rank : MS :=
  (mRet mNone)
def F_bases_rank : MD := runD 4 b_bases_rank
def b_rank_of_kind : MS :=
  (mSeq (mSet 2 (mIx (mName 0) (mC (.int 0))))
    (mSeq (mIfS (mTst (mBin gEq (mName 2) (mC (.str "graph")))) (mRet (mCall [true, true] F_graph_rank (mAcons (mName 0) (mAcons (mName 1) mAnil)))) mNx)
    (mSeq (mIfS (mTst (mBin gEq (mName 2) (mC (.str "vectors")))) (mRet (mCall [true, true] F_vectors_rank (mAcons (mName 0) (mAcons (mName 1) mAnil)))) mNx)
    (mSeq (mIfS (mTst (mBin gEq (mName 2) (mC (.str "choices")))) (mRet (mCall [true, true] F_choices_rank (mAcons (mName 0) (mAcons (mName 1) mAnil)))) mNx)
    (mSeq (mIfS (mTst (mBin gEq (mName 2) (mC (.str "bounds")))) (mRet (mCall [true, true] F_bounds_rank (mAcons (mName 0) (mAcons (mName 1) mAnil)))) mNx)
    (mSeq (mIfS (mTst (mBin gEq (mName 2) (mC (.str "uniform")))) (mRet (mBin gMin2 (mUn gLen (mName 1)) (mIx (mName 0) (mC (.int 2))))) mNx)
    (mRet (mCall [true, true] F_bases_rank (mAcons (mName 0) (mAcons (mName 1) mAnil))))))))))
def F_rank_of_kind : MD := runD 3 b_rank_of_kind
def lt__law_members__2_1 : MT := (mTst (mBin gEq (mBin gMod (mUn gInt (mBin gFdiv (mUn gInt (mName 0)) (mIx (mName 2) (mName 3)))) (mC (.int 2))) (mC (.int 1))))
def le__law_members__2_1 : MF := (mFrz (mName 3))
def b__law_members__2 : MS :=
  (mSeq (mSet 2 (mCall [] F__law_powers mAnil))
    (mRet (mLc [3] (mRng1 (mName 1)) (mGn true 3) lt__law_members__2_1 le__law_members__2_1)))
def F__law_members__2 : MD := runD 4 b__law_members__2
def le__law_every__2_1 : MF := (mFrz (mCall [true, true] F__law_members__2 (mAcons (mName 2) (mAcons (mName 0) mAnil))))
def b__law_every__2 : MS :=
  (mSeq (mSet 1 (mCall [] F__law_powers mAnil))
    (mRet (mLc [2] (mRng1 (mIx (mName 1) (mName 0))) (mGn true 2) mYes le__law_every__2_1)))
def F__law_every__2 : MD := runD 3 b__law_every__2
def le__law_sums__2_4 : MF := (mFrz (mBin gMod (mUn gInt (mBin gAdd (mIx (mName 6) (mName 7)) (mBin gMul (mName 5) (mIx (mIx (mIx (mName 0) (mC (.int 3))) (mName 3)) (mName 7))))) (mIx (mName 0) (mC (.int 1)))))
def lb__law_sums__2_3 : MS := (mClr [6] (mApp 4 (mFrz (mUn gTuple (mLc [7] (mRng1 (mIx (mName 0) (mC (.int 2)))) (mGn true 7) mYes le__law_sums__2_4)))))
def lb__law_sums__2_2 : MS := (mClr [5, 6] (mFor (mIt (mName 2)) (mGn false 6) lb__law_sums__2_3))
def lb__law_sums__2_1 : MS := (mClr [3, 4, 5, 6] (mSeq (mSet 4 (mLst mFnil))
    (mSeq (mFor (mRng1 (mIx (mName 0) (mC (.int 1)))) (mGn false 5) lb__law_sums__2_2)
    (mSet 2 (mUn gSorted mNone)))))
def b__law_sums__2 : MS :=
  (mSeq (mSet 2 (mLst (mFcons (mFrz (mUn gTuple (mBin gMul (mLst (mFcons (mFrz (mC (.int 0))) mFnil)) (mIx (mName 0) (mC (.int 2)))))) mFnil)))
    (mSeq (mFor (mIt (mName 1)) (mGn false 3) lb__law_sums__2_1)
    (mRet (mUn gLen (mName 2)))))
def F__law_sums__2 : MD := runD 8 b__law_sums__2
def lt__law_is_free__2_2 : MT := (mTst (mBin (gIn false) (mName 5) (mIx (mName 4) (mC (.int 0)))))
def le__law_is_free__2_2 : MF := (mFrz (mName 5))
def le__law_is_free__2_1 : MF := (mFrz (mBin gLe (mUn gLen (mLc [5] (mIt (mName 1)) (mGn true 5) lt__law_is_free__2_2 le__law_is_free__2_2)) (mIx (mName 4) (mC (.int 1)))))
def le__law_is_free__2_4 : MF := (mFrz (mBin (gIn false) (mName 5) (mName 3)))
def lb__law_is_free__2_3 : MS := (mClr [3] (mIfS (mTru (mUn gAll (mLc [5] (mIt (mName 1)) (mGn true 5) mYes le__law_is_free__2_4))) (mRet (mC (.bool true))) mNx))
def b__law_is_free__2 : MS :=
  (mSeq (mSet 2 (mIx (mName 0) (mC (.int 0))))
    (mSeq (mIfS (mTst (mBin gEq (mName 2) (mC (.str "graph")))) (mRet (mCall [true, true] F__law_forest (mAcons (mName 0) (mAcons (mName 1) mAnil)))) mNx)
    (mSeq (mIfS (mTst (mBin gEq (mName 2) (mC (.str "vectors")))) (mRet (mBin gEq (mCall [true, true] F__law_sums__2 (mAcons (mName 0) (mAcons (mName 1) mAnil))) (mIx (mLst (mFcons (mFrz (mC (.int 1))) (mFcons (mFrz (mIx (mName 0) (mC (.int 1)))) (mFcons (mFrz (mBin gPow (mIx (mName 0) (mC (.int 1))) (mC (.int 2)))) (mFcons (mFrz (mBin gPow (mIx (mName 0) (mC (.int 1))) (mC (.int 3)))) (mFcons (mFrz (mBin gPow (mIx (mName 0) (mC (.int 1))) (mC (.int 4)))) (mFcons (mFrz (mBin gPow (mIx (mName 0) (mC (.int 1))) (mC (.int 5)))) (mFcons (mFrz (mBin gPow (mIx (mName 0) (mC (.int 1))) (mC (.int 6)))) mFnil)))))))) (mUn gLen (mName 1))))) mNx)
    (mSeq (mIfS (mTst (mBin gEq (mName 2) (mC (.str "choices")))) (mRet (mCall [true, true, true] F__law_given (mAcons (mName 0) (mAcons (mName 1) (mAcons (mLst mFnil) mAnil))))) mNx)
    (mSeq (mIfS (mTst (mBin gEq (mName 2) (mC (.str "bounds")))) (mRet (mUn gAll (mLc [4] (mIt (mIx (mName 0) (mC (.int 2)))) (mGn true 4) mYes le__law_is_free__2_1))) mNx)
    (mSeq (mIfS (mTst (mBin gEq (mName 2) (mC (.str "uniform")))) (mRet (mBin gLe (mUn gLen (mName 1)) (mIx (mName 0) (mC (.int 2))))) mNx)
    (mSeq (mFor (mIt (mIx (mName 0) (mC (.int 2)))) (mGn false 3) lb__law_is_free__2_3)
    (mRet (mC (.bool false))))))))))
def F__law_is_free__2 : MD := runD 6 b__law_is_free__2
def le__law_ranks__2_2 : MF := (mFrz (mIx (mName 3) (mBin gSub (mName 4) (mIx (mName 2) (mName 6)))))
def lb__law_ranks__2_1 : MS := (mClr [4, 5] (mSeq (mSet 5 (mCall [true, true] F__law_members__2 (mAcons (mName 4) (mAcons (mName 1) mAnil))))
    (mIfS (mTru (mIx (mName 0) (mName 4))) (mApp 3 (mFrz (mUn gLen (mName 5)))) (mApp 3 (mFrz (mUn gMax (mLc [6] (mIt (mName 5)) (mGn true 6) mYes le__law_ranks__2_2)))))))
def b__law_ranks__2 : MS :=
  (mSeq (mSet 2 (mCall [] F__law_powers mAnil))
    (mSeq (mSet 3 (mLst mFnil))
    (mSeq (mFor (mRng1 (mIx (mName 2) (mName 1))) (mGn false 4) lb__law_ranks__2_1)
    (mRet (mName 3)))))
def F__law_ranks__2 : MD := runD 7 b__law_ranks__2
def le__law_made_free__2_1 : MF := (mFrz (mBin gAdd (mName 14) (mUn gInt (mBin gGe (mName 14) (mIx (mName 0) (mC (.int 2)))))))
def lt__law_made_free__2_2 : MT := (mTst (mBin gLt (mName 14) (mName 6)))
def le__law_made_free__2_2 : MF := (mFrz (mName 14))
def lt__law_made_free__2_3 : MT := (mTst (mBin gGe (mName 14) (mName 6)))
def le__law_made_free__2_3 : MF := (mFrz (mBin gSub (mName 14) (mName 6)))
def le__law_made_free__2_5 : MF := (mFrz (mIx (mName 1) (mName 15)))
def lb__law_made_free__2_4 : MS := (mClr [12, 13] (mSeq (mSet 13 (mLc [15] (mIt (mCall [true, true] F__law_members__2 (mAcons (mName 12) (mAcons (mUn gLen (mName 1)) mAnil)))) (mGn true 15) mYes le__law_made_free__2_5))
    (mIfS (mTand (mTru (mIx (mName 7) (mCall [true] F__law_code (mAcons (mName 13) mAnil)))) (mTru (mIx (mName 10) (mBin gSub (mCall [true] F__law_code (mAcons (mName 1) mAnil)) (mCall [true] F__law_code (mAcons (mName 13) mAnil)))))) (mRet (mC (.bool true))) mNx)))
def b__law_made_free__2 : MS :=
  (mSeq (mSet 4 (mCall [] F__law_powers mAnil))
    (mSeq (mSet 5 (mIx (mName 0) (mC (.int 0))))
    (mSeq (mSet 6 (mIx (mName 3) (mIx (mName 0) (mC (.int 1)))))
    (mSeq (mSet 7 (mIx (mName 2) (mIx (mName 0) (mC (.int 1)))))
    (mSeq (mIfS (mTst (mBin gEq (mName 5) (mC (.str "dual")))) (mSeq (mSet 8 (mCall [true, true] F__law_ranks__2 (mAcons (mName 7) (mAcons (mName 6) mAnil))))
    (mRet (mBin gEq (mIx (mName 8) (mBin gSub (mBin gSub (mIx (mName 4) (mName 6)) (mC (.int 1))) (mCall [true] F__law_code (mAcons (mName 1) mAnil)))) (mIx (mName 8) (mBin gSub (mIx (mName 4) (mName 6)) (mC (.int 1))))))) mNx)
    (mSeq (mIfS (mTst (mBin gEq (mName 5) (mC (.str "truncate")))) (mRet (mAndV (mIx (mName 7) (mCall [true] F__law_code (mAcons (mName 1) mAnil))) (mBin gLe (mUn gLen (mName 1)) (mIx (mName 0) (mC (.int 2)))))) mNx)
    (mSeq (mIfS (mTor (mTst (mBin gEq (mName 5) (mC (.str "delete")))) (mTst (mBin gEq (mName 5) (mC (.str "contract"))))) (mSeq (mSet 9 (mLc [14] (mIt (mName 1)) (mGn true 14) mYes le__law_made_free__2_1))
    (mSeq (mIfS (mTand (mTst (mBin gEq (mName 5) (mC (.str "contract")))) (mTru (mIx (mName 7) (mIx (mName 4) (mIx (mName 0) (mC (.int 2))))))) (mRet (mIx (mName 7) (mCall [true] F__law_code (mAcons (mBin gAdd (mName 9) (mLst (mFcons (mFrz (mIx (mName 0) (mC (.int 2)))) mFnil))) mAnil)))) mNx)
    (mRet (mIx (mName 7) (mCall [true] F__law_code (mAcons (mName 9) mAnil)))))) mNx)
    (mSeq (mSet 10 (mIx (mName 2) (mIx (mName 0) (mC (.int 2)))))
    (mSeq (mIfS (mTst (mBin gEq (mName 5) (mC (.str "sum")))) (mSeq (mSet 11 (mLc [14] (mIt (mName 1)) (mGn true 14) lt__law_made_free__2_2 le__law_made_free__2_2))
    (mRet (mAndV (mIx (mName 7) (mCall [true] F__law_code (mAcons (mName 11) mAnil))) (mIx (mName 10) (mCall [true] F__law_code (mAcons (mLc [14] (mIt (mName 1)) (mGn true 14) lt__law_made_free__2_3 le__law_made_free__2_3) mAnil)))))) mNx)
    (mSeq (mFor (mRng1 (mIx (mName 4) (mUn gLen (mName 1)))) (mGn false 12) lb__law_made_free__2_4)
    (mRet (mC (.bool false)))))))))))))
def F__law_made_free__2 : MD := runD 16 b__law_made_free__2
def le__law_free__2_1 : MF := (mFrz (mIx (mName 5) (mC (.int 0))))
def le__law_free__2_2 : MF := (mFrz (mIx (mName 5) (mC (.int 1))))
def le__law_free__2_3 : MF := (mFrz (mCall [true, true] F__law_is_free__2 (mAcons (mName 0) (mAcons (mName 6) mAnil))))
def le__law_free__2_4 : MF := (mFrz (mCall [true, true, true, true] F__law_made_free__2 (mAcons (mName 0) (mAcons (mName 6) (mAcons (mName 3) (mAcons (mName 2) mAnil))))))
def b__law_free__2 : MS :=
  (mSeq (mSet 2 (mLc [5] (mIt (mName 1)) (mGn true 5) mYes le__law_free__2_1))
    (mSeq (mSet 3 (mLc [5] (mIt (mName 1)) (mGn true 5) mYes le__law_free__2_2))
    (mSeq (mSet 4 (mCall [true] F__law_every__2 (mAcons (mCall [true, true] F__law_size (mAcons (mName 0) (mAcons (mName 2) mAnil))) mAnil)))
    (mSeq (mIfS (mTst (mBin (gIn false) (mIx (mName 0) (mC (.int 0))) (mLst (mFcons (mFrz (mC (.str "graph"))) (mFcons (mFrz (mC (.str "vectors"))) (mFcons (mFrz (mC (.str "choices"))) (mFcons (mFrz (mC (.str "bounds"))) (mFcons (mFrz (mC (.str "uniform"))) (mFcons (mFrz (mC (.str "bases"))) mFnil))))))))) (mRet (mLc [6] (mIt (mName 4)) (mGn true 6) mYes le__law_free__2_3)) mNx)
    (mRet (mLc [6] (mIt (mName 4)) (mGn true 6) mYes le__law_free__2_4))))))
def F__law_free__2 : MD := runD 7 b__law_free__2
def b__law_is_integer : MS :=
  (mRet (mAndV (mUn (gIsi "int") (mName 0)) (mNotV (mUn (gIsi "bool") (mName 0)))))
def F__law_is_integer : MD := runD 1 b__law_is_integer
def le__law_rank_in_2 : MF := (mFrz (mIx (mName 1) (mName 4)))
def lb__law_rank_in_1 : MS := (mClr [3] (mIfS (mTand (mTst (mBin gGt (mUn gLen (mName 3)) (mName 2))) (mTru (mCall [true, true] F__law_is_free__2 (mAcons (mName 0) (mAcons (mLc [4] (mIt (mName 3)) (mGn true 4) mYes le__law_rank_in_2) mAnil))))) (mSet 2 (mUn gLen (mName 3))) mNx))
def b__law_rank_in : MS :=
  (mSeq (mSet 2 (mC (.int 0)))
    (mSeq (mFor (mIt (mCall [true] F__law_every__2 (mAcons (mUn gLen (mName 1)) mAnil))) (mGn false 3) lb__law_rank_in_1)
    (mRet (mName 2))))
def F__law_rank_in : MD := runD 5 b__law_rank_in
def lb__law_few_of_1 : MS := (mClr [4, 5] (mIfS (mTst (mBin gGt (mName 1) (mC (.int 0)))) (mSeq (mSet 5 (mCall [false, true] F__law_draw (mAcons (mName 0) (mAcons (mName 1) mAnil))))
    (mIfS (mTst (mBin (gIn true) (mName 5) (mName 3))) (mApp 3 (mFrz (mName 5))) mNx)) mNx))
def b__law_few_of : MS :=
  (mSeq (mSet 3 (mLst mFnil))
    (mSeq (mFor (mRng1 (mName 2)) (mGn false 4) lb__law_few_of_1)
    (mRet (mName 3))))
def F__law_few_of : MD := runD 6 b__law_few_of
def lb__law_fits_large_1 : MS := (mClr [4, 5] (mSeq (mSet 5 (mCall [false, true, true] F__law_few_of (mAcons (mName 0) (mAcons (mName 3) (mAcons (mName 2) mAnil)))))
    (mIfS (mTst (mBin gNe (mCall [true, true] F_rank_of_kind (mAcons (mName 1) (mAcons (mUn gList (mName 5)) mAnil))) (mCall [true, true] F__law_rank_in (mAcons (mName 1) (mAcons (mName 5) mAnil))))) (mRet (mC (.bool false))) mNx)))
def b__law_fits_large : MS :=
  (mSeq (mSet 3 (mCall [true, true] F__law_size (mAcons (mName 1) (mAcons (mLst mFnil) mAnil))))
    (mSeq (mFor (mRng1 (mC (.int 3))) (mGn false 4) lb__law_fits_large_1)
    (mRet (mC (.bool true)))))
def F__law_fits_large : MD := runD 6 b__law_fits_large
def lt__law_large__3_2 : MT := (mTst (mBin gEq (mCall [false, true] F__law_draw (mAcons (mName 0) (mAcons (mC (.int 6)) mAnil))) (mC (.int 1))))
def le__law_large__3_2 : MF := (mFrz (mName 4))
def le__law_large__3_1 : MF := (mFrz (mUn gTuple (mLc [4] (mRng1 (mName 1)) (mGn true 4) lt__law_large__3_2 le__law_large__3_2)))
def b__law_large__3 : MS :=
  (mSeq (mSet 1 (mCall [false, true] F__law_draw (mAcons (mName 0) (mAcons (mC (.int 15)) mAnil))))
    (mSeq (mSet 2 (mLc [3] (mRng1 (mC (.int 14))) (mGn true 3) mYes le__law_large__3_1))
    (mRet (mTup (mFcons (mFrz (mC (.str "choices"))) (mFcons (mFrz (mName 1)) (mFcons (mFrz (mUn gTuple (mName 2))) mFnil)))))))
def F__law_large__3 : MD := runD 5 b__law_large__3
def lb_law__6_1 : MS := (mClr [6, 7, 8] (mSeq (mSet 7 (mUn gList (mName 6)))
    (mSeq (mIfS (mTst (mBin gEq (mName 5) (mC (.int 1)))) (mSet 7 (mUn gRev (mName 6))) mNx)
    (mSeq (mSet 8 (mCall [true, true] F_rank_of_kind (mAcons (mName 2) (mAcons (mName 7) mAnil))))
    (mIfS (mTor (mTnot (mTru (mCall [true] F__law_is_integer (mAcons (mName 8) mAnil)))) (mTst (mBin gNe (mName 8) (mIx (mName 4) (mCall [true] F__law_code (mAcons (mName 6) mAnil)))))) (mRet (mC (.bool false))) mNx)))))
def b_law__6 : MS :=
  (mSeq (mSet 1 (mLst (mFcons (mFrz (mC (.int 0))) (mFcons (mFrz (mC (.int 0))) (mFcons (mFrz (mUn gList (mName 0))) (mFcons (mFrz (mC (.int 1))) mFnil))))))
    (mSeq (mSet 2 (mCall [false, true] F__law_choices (mAcons (mName 1) (mAcons (mC (.int 6)) mAnil))))
    (mSeq (mSet 3 (mCall [true, true] F__law_size (mAcons (mName 2) (mAcons (mLst mFnil) mAnil))))
    (mSeq (mSet 4 (mCall [true, true] F__law_ranks__2 (mAcons (mCall [true, true] F__law_free__2 (mAcons (mName 2) (mAcons (mLst mFnil) mAnil))) (mAcons (mName 3) mAnil))))
    (mSeq (mSet 5 (mCall [false, true] F__law_draw (mAcons (mName 1) (mAcons (mC (.int 2)) mAnil))))
    (mSeq (mFor (mIt (mCall [true] F__law_every__2 (mAcons (mName 3) mAnil))) (mGn false 6) lb_law__6_1)
    (mRet (mCall [false, true, true] F__law_fits_large (mAcons (mName 1) (mAcons (mCall [false] F__law_large__3 (mAcons (mName 1) mAnil)) (mAcons (mC (.int 6)) mAnil)))))))))))
def F_law__6 : MD := runD 9 b_law__6
end Bd
set_option Elab.async false
set_option linter.all false
set_option maxRecDepth 100000
set_option maxHeartbeats 8000000
namespace K10
open PySem PySem.Spec PyProof.Rows L2 Dn Bd
def topS (i : Nat) : Stmt := PySem.Challenge.pw_bestsets_k10_ranks_of_choices.main.body.getD i (.Pass ⟨0, 0, 0, 0⟩)
section
variable {P : Program} {w : World} {K : PySem.W.Frag} {mg : Str → Option Value} {base : Heap} {gv : GV}
abbrev s_graph_rank : Stmt := topS 1
abbrev n_graph_rank : List Str := ["line", "members", "roots", "rank", "element", "one", "two", "old", "new", "root"]
theorem sc_graph_rank : FnScope ["line", "members", "roots", "rank", "element", "one", "two", "old", "new", "root"] ["line", "members"] (defScope s_graph_rank) := ⟨rfl, rfl, rfl, by decide +kernel, rfl, by decide +kernel, by decide +kernel⟩
theorem fd_graph_rank {f : Addr} {fd : FuncData} {cd_x : Value} {k : Nat} (F : FunC K "graph_rank" "graph_rank" s_graph_rank f fd cd_x) (z_list : mg "list" = none) (z_range : mg "range" = none) :
    FD P w K mg base gv (k + 1) f fd ["line", "members"] (runD 10 (b_graph_rank)) :=
  fd_of (k := k) F sc_graph_rank _ fun cd A outer s H vs E hr => have hu := hu65 hr; (dss_cons (ds_set 2 sc_graph_rank.nd (d_lrg1 z_list z_range (d_ix hu (d_name 0) d_int)))
    (dss_cons (ds_set 3 sc_graph_rank.nd d_int)
    (dss_cons (ds_clr [2] (ds_for PassesOwn.never rfl (d_it (d_name 1)) (dg_n 4 sc_graph_rank.nd) (dss_clr [4, 5, 6, 7, 8] (dss_cons (ds_setT (dg_t rfl (dg_cons (dg_n 5 sc_graph_rank.nd) (dg_cons (dg_n 6 sc_graph_rank.nd) dg_nil)) (hlen := len2)) (d_frz (d_ix hu (d_ix hu (d_name 0) d_int) (d_name 4))))
    (dss_one (ds_if (d_tcmp (opd_ne hu) (d_ix hu (d_name 2) (d_name 5)) (d_ix hu (d_name 2) (d_name 6))) (dss_cons (ds_aug 3 sc_graph_rank.nd ops_addI d_int)
    (dss_cons (ds_set 7 sc_graph_rank.nd (d_ix hu (d_name 2) (d_name 5)))
    (dss_cons (ds_set 8 sc_graph_rank.nd (d_ix hu (d_name 2) (d_name 6)))
    (dss_one (ds_setLc 2 (own0 := [("root", 9)]) rfl sc_graph_rank.nd (blkOk_of n_graph_rank (defScope s_graph_rank) (own := [("root", 9)]) (by decide +kernel)) (d_it (d_name 2)) ⟨fun _ _ _ _ _ => (dg_n 9 sc_graph_rank.nd), fun _ _ _ _ _ => dts_nil, fun _ _ _ _ _ => (d_frz (d_if (d_tcmp (opd_eq hu) (d_name 9) (d_name 7)) (d_name 8) (d_name 9)))⟩))))) dss_nil))))))
    (dss_one (ds_ret (d_name 3))))))
abbrev s_inverse : Stmt := topS 2
abbrev n_inverse : List Str := ["number", "prime", "candidate"]
theorem sc_inverse : FnScope ["number", "prime", "candidate"] ["number", "prime"] (defScope s_inverse) := ⟨rfl, rfl, rfl, by decide +kernel, rfl, by decide +kernel, by decide +kernel⟩
theorem fd_inverse {f : Addr} {fd : FuncData} {cd_x : Value} {k : Nat} (F : FunC K "inverse" "inverse" s_inverse f fd cd_x) (z_range : mg "range" = none) :
    FD P w K mg base gv (k + 1) f fd ["number", "prime"] (runD 3 (b_inverse)) :=
  fd_of (k := k) F sc_inverse _ fun cd A outer s H vs E hr => have hu := hu65 hr; (dss_cons (ds_for PassesOwn.never rfl (d_rng2 d_int (d_name 1) z_range) (dg_n 2 sc_inverse.nd) (dss_clr [2] (dss_one (ds_if (d_tcmp (opd_eq hu) (d_bin opd_mod (d_bin opd_mul (d_name 0) (d_name 2)) (d_name 1)) d_int) (dss_one (ds_ret (d_name 2))) dss_nil))))
    (dss_one (ds_ret d_int)))
abbrev s_reduced : Stmt := topS 3
abbrev n_reduced : List Str := ["vector", "rows", "prime", "result", "place", "row", "factor", "one", "two"]
theorem sc_reduced : FnScope ["vector", "rows", "prime", "result", "place", "row", "factor", "one", "two"] ["vector", "rows", "prime"] (defScope s_reduced) := ⟨rfl, rfl, rfl, by decide +kernel, rfl, by decide +kernel, by decide +kernel⟩
theorem fd_reduced {f : Addr} {fd : FuncData} {cd_x : Value} {k : Nat} (F : FunC K "reduced" "reduced" s_reduced f fd cd_x) (z_list : mg "list" = none) (z_zip : mg "zip" = none) :
    FD P w K mg base gv (k + 1) f fd ["vector", "rows", "prime"] (runD 9 (b_reduced)) :=
  fd_of (k := k) F sc_reduced _ fun cd A outer s H vs E hr => have hu := hu65 hr; (dss_cons (ds_set 3 sc_reduced.nd (d_callT ca_list (d_name 0) z_list bb_list))
    (dss_cons (ds_for PassesOwn.never rfl (d_it (d_name 1)) (dg_t rfl (dg_cons (dg_n 4 sc_reduced.nd) (dg_cons (dg_n 5 sc_reduced.nd) dg_nil)) (hlen := len2)) (dss_clr [4, 5, 6] (dss_cons (ds_set 6 sc_reduced.nd (d_ix hu (d_name 3) (d_name 4)))
    (dss_one (ds_setLc 3 (own0 := [("one", 7), ("two", 8)]) rfl sc_reduced.nd (blkOk_of n_reduced (defScope s_reduced) (own := [("one", 7), ("two", 8)]) (by decide +kernel)) (d_zip (d_name 3) (d_name 5) z_zip) ⟨fun _ _ _ _ _ => (dg_t rfl (dg_cons (dg_n 7 sc_reduced.nd) (dg_cons (dg_n 8 sc_reduced.nd) dg_nil)) (hlen := len2)), fun _ _ _ _ _ => dts_nil, fun _ _ _ _ _ => (d_frz (d_bin opd_mod (d_bin opd_sub (d_name 7) (d_bin opd_mul (d_name 6) (d_name 8))) (d_name 2)))⟩)))))
    (dss_one (ds_ret (d_name 3)))))
abbrev s_vectors_rank : Stmt := topS 4
abbrev n_vectors_rank : List Str := ["line", "members", "prime", "rows", "element", "rest", "places", "factor", "place", "entry"]
theorem sc_vectors_rank : FnScope ["line", "members", "prime", "rows", "element", "rest", "places", "factor", "place", "entry"] ["line", "members"] (defScope s_vectors_rank) := ⟨rfl, rfl, rfl, by decide +kernel, rfl, by decide +kernel, by decide +kernel⟩
theorem fd_vectors_rank {f : Addr} {fd : FuncData} {cd_x : Value} {k : Nat} (F : FunC K "vectors_rank" "vectors_rank" s_vectors_rank f fd cd_x)
    {f_reduced : Addr} {fd_reduced : FuncData} (G_reduced : FD P w K mg base gv k f_reduced fd_reduced ["vector", "rows", "prime"] F_reduced) (g_reduced : mg "reduced" = some (.ref f_reduced)) (kp_reduced : PySem.W.keepIn K (.ref f_reduced) = true) (bi_reduced : Binds K fd_reduced ["vector", "rows", "prime"] [])
    {f_inverse : Addr} {fd_inverse : FuncData} (G_inverse : FD P w K mg base gv k f_inverse fd_inverse ["number", "prime"] F_inverse) (g_inverse : mg "inverse" = some (.ref f_inverse)) (kp_inverse : PySem.W.keepIn K (.ref f_inverse) = true) (bi_inverse : Binds K fd_inverse ["number", "prime"] []) (z_enumerate : mg "enumerate" = none) (z_len : mg "len" = none) :
    FD P w K mg base gv (k + 1) f fd ["line", "members"] (runD 10 (b_vectors_rank)) :=
  fd_of (k := k) F sc_vectors_rank _ fun cd A outer s H vs E hr => have hu := hu65 hr; (dss_cons (ds_set 2 sc_vectors_rank.nd (d_ix hu (d_name 0) d_int))
    (dss_cons (ds_set 3 sc_vectors_rank.nd (d_lst d_fnil))
    (dss_cons (ds_for PassesOwn.never rfl (d_it (d_name 1)) (dg_n 4 sc_vectors_rank.nd) (dss_clr [4, 5, 6, 7] (dss_cons (ds_set 5 sc_vectors_rank.nd (d_call (mk := [true, true, true]) G_reduced hr g_reduced kp_reduced bi_reduced (d_acons (d_ix hu (d_ix hu (d_name 0) d_int) (d_name 4)) (d_acons (d_name 3) (d_acons (d_name 2) d_anil)))))
    (dss_cons (ds_setLc 6 (own0 := [("place", 8), ("entry", 9)]) rfl sc_vectors_rank.nd (blkOk_of n_vectors_rank (defScope s_vectors_rank) (own := [("place", 8), ("entry", 9)]) (by decide +kernel)) (d_enum (d_name 5) z_enumerate) ⟨fun _ _ _ _ _ => (dg_t rfl (dg_cons (dg_n 8 sc_vectors_rank.nd) (dg_cons (dg_n 9 sc_vectors_rank.nd) dg_nil)) (hlen := len2)), fun _ _ _ _ _ => (dts_one (d_tcmp (opd_ne hu) (d_name 9) d_int)), fun _ _ _ _ _ => (d_frz (d_name 8))⟩)
    (dss_one (ds_if (d_truth (d_name 6)) (dss_cons (ds_set 7 sc_vectors_rank.nd (d_call (mk := [true, true]) G_inverse hr g_inverse kp_inverse bi_inverse (d_acons (d_ix hu (d_name 5) (d_ix hu (d_name 6) d_int)) (d_acons (d_name 2) d_anil))))
    (dss_one (ds_app 3 (d_frz (d_tup (d_fcons (d_frz (d_ix hu (d_name 6) d_int)) (d_fcons (d_frz (d_lc (own0 := [("entry", 9)]) rfl sc_vectors_rank.nd (blkOk_of n_vectors_rank (defScope s_vectors_rank) (own := [("entry", 9)]) (by decide +kernel)) (d_it (d_name 5)) ⟨fun _ _ _ _ _ => (dg_n 9 sc_vectors_rank.nd), fun _ _ _ _ _ => dts_nil, fun _ _ _ _ _ => (d_frz (d_bin opd_mod (d_bin opd_mul (d_name 9) (d_name 7)) (d_name 2)))⟩)) d_fnil))))))) dss_nil))))))
    (dss_one (ds_ret (d_call1 (ca_len) (d_name 3) z_len bb_len))))))
abbrev s_find_thing : Stmt := topS 5
abbrev n_find_thing : List Str := ["line", "element", "owners", "seen", "thing"]
theorem sc_find_thing : FnScope ["line", "element", "owners", "seen", "thing"] ["line", "element", "owners", "seen"] (defScope s_find_thing) := ⟨rfl, rfl, rfl, by decide +kernel, rfl, by decide +kernel, by decide +kernel⟩
theorem fd_find_thing {f : Addr} {fd : FuncData} {cd_x : Value} {k : Nat} (F : FunC K "find_thing" "find_thing" s_find_thing f fd cd_x)
    {f_find_thing : Addr} {fd_find_thing : FuncData} {Y_find_thing : MD} (G_find_thing : FD P w K mg base gv k f_find_thing fd_find_thing ["line", "element", "owners", "seen"] Y_find_thing) (g_find_thing : mg "find_thing" = some (.ref f_find_thing)) (kp_find_thing : PySem.W.keepIn K (.ref f_find_thing) = true) (bi_find_thing : Binds K fd_find_thing ["line", "element", "owners", "seen"] []) :
    FD P w K mg base gv (k + 1) f fd ["line", "element", "owners", "seen"] (runD 5 (b_find_thing Y_find_thing)) :=
  fd_of (k := k) F sc_find_thing _ fun cd A outer s H vs E hr => have hu := hu65 hr; (dss_cons (ds_for PassesOwn.never rfl (d_it (d_ix hu (d_ix hu (d_name 0) d_int) (d_name 1))) (dg_n 4 sc_find_thing.nd) (dss_clr [4] (dss_one (ds_if (d_tcmp (opd_notIn hu) (d_name 4) (d_name 3)) (dss_cons (ds_app 3 (d_frz (d_name 4)))
    (dss_one (ds_if (d_tw (d_wor (d_tcmp (opd_dNotIn hu) (d_name 4) (d_name 2)) (d_wor1 (d_truth (d_call (mk := [true, false, false, false]) G_find_thing hr g_find_thing kp_find_thing bi_find_thing (d_acons (d_name 0) (d_acons (d_sh (d_frz (d_ix hu (d_name 2) (d_name 4)))) (d_acons (d_name 2) (d_acons (d_name 3) d_anil))))))))) (dss_cons (ds_setIx 2 hu (d_name 4) (d_frz (d_name 1)))
    (dss_one (ds_ret d_bl))) dss_nil))) dss_nil))))
    (dss_one (ds_ret d_bl)))
abbrev s_choices_rank : Stmt := topS 6
abbrev n_choices_rank : List Str := ["line", "members", "owners", "element"]
theorem sc_choices_rank : FnScope ["line", "members", "owners", "element"] ["line", "members"] (defScope s_choices_rank) := ⟨rfl, rfl, rfl, by decide +kernel, rfl, by decide +kernel, by decide +kernel⟩
theorem fd_choices_rank {f : Addr} {fd : FuncData} {cd_x P_x : Addr} {k : Nat} (F : FunC K "choices_rank" "choices_rank" s_choices_rank f fd (.ref cd_x))
    {f_find_thing : Addr} {fd_find_thing : FuncData} (G_find_thing : FD P w K mg base gv k f_find_thing fd_find_thing ["line", "element", "owners", "seen"] F_find_thing) (g_find_thing : mg "find_thing" = some (.ref f_find_thing)) (kp_find_thing : PySem.W.keepIn K (.ref f_find_thing) = true) (bi_find_thing : Binds K fd_find_thing ["line", "element", "owners", "seen"] []) (z_sum : mg "sum" = none) (TB_x : GxR.TabB base mg cd_x P_x) (hP_x : P_x ∈ gv.tb) :
    FD P w K mg base gv (k + 1 + 1) f fd ["line", "members"] (runD 4 (b_choices_rank)) :=
  fd_of (k := k + 1) F sc_choices_rank _ fun cd A outer s H vs E hr => have hu := hu65 hr; (dss_cons (ds_set 2 sc_choices_rank.nd d_dk)
    (dss_one (ds_ret (d_gsum (k := k) (own0 := [("element", 3)]) hr z_sum (.base TB_x hP_x) rfl (blkOk_of n_choices_rank (defScope s_choices_rank) (own := [("element", 3)]) (by decide +kernel)) sc_choices_rank.nd (d_it (d_name 1)) ⟨fun _ _ _ _ _ _ _ _ hr => have hu := hu65 hr; (dg_n 3 sc_choices_rank.nd), fun _ _ _ _ _ _ _ _ hr => have hu := hu65 hr; (dts_one (d_truth (d_call (mk := [true, false, false, false]) G_find_thing hr g_find_thing kp_find_thing bi_find_thing (d_acons (d_name 0) (d_acons (d_sh (d_frz (d_name 3))) (d_acons (d_name 2) (d_acons (d_lst d_fnil) d_anil))))))), fun _ _ _ _ _ _ _ _ hr => have hu := hu65 hr; (d_frz d_int)⟩))))
abbrev s_bounds_rank : Stmt := topS 7
abbrev n_bounds_rank : List Str := ["line", "members", "taken", "element", "counts", "group", "_", "one", "pair", "count"]
theorem sc_bounds_rank : FnScope ["line", "members", "taken", "element", "counts", "group", "_", "one", "pair", "count"] ["line", "members"] (defScope s_bounds_rank) := ⟨rfl, rfl, rfl, by decide +kernel, rfl, by decide +kernel, by decide +kernel⟩
theorem fd_bounds_rank {f : Addr} {fd : FuncData} {cd_x P_x : Addr} {k : Nat} (F : FunC K "bounds_rank" "bounds_rank" s_bounds_rank f fd (.ref cd_x)) (z_sum : mg "sum" = none) (z_all : mg "all" = none) (z_zip : mg "zip" = none) (z_len : mg "len" = none) (TB_x : GxR.TabB base mg cd_x P_x) (hP_x : P_x ∈ gv.tb) :
    FD P w K mg base gv (k + 1 + 1) f fd ["line", "members"] (runD 10 (b_bounds_rank)) :=
  fd_of (k := k + 1) F sc_bounds_rank _ fun cd A outer s H vs E hr => have hu := hu65 hr; (dss_cons (ds_set 2 sc_bounds_rank.nd (d_lst d_fnil))
    (dss_cons (ds_for PassesOwn.never rfl (d_it (d_name 1)) (dg_n 3 sc_bounds_rank.nd) (dss_clr [3, 4] (dss_cons (ds_setLc 4 (own0 := [("group", 5), ("_", 6)]) rfl sc_bounds_rank.nd (blkOk_of n_bounds_rank (defScope s_bounds_rank) (own := [("group", 5), ("_", 6)]) (by decide +kernel)) (d_it (d_ix hu (d_name 0) d_int)) ⟨fun _ _ _ _ _ => (dg_t rfl (dg_cons (dg_n 5 sc_bounds_rank.nd) (dg_cons (dg_n 6 sc_bounds_rank.nd) dg_nil)) (hlen := len2)), fun _ _ _ _ _ => dts_nil, fun _ _ _ _ _ => (d_frz (d_gsum (k := k) (own0 := [("one", 7)]) hr z_sum (.base TB_x hP_x) rfl (blkOk_in n_bounds_rank (own := [("one", 7)]) (by decide +kernel)) sc_bounds_rank.nd (d_it (d_name 2)) ⟨fun _ _ _ _ _ _ _ _ hr => have hu := hu65 hr; (dg_n 7 sc_bounds_rank.nd), fun _ _ _ _ _ _ _ _ hr => have hu := hu65 hr; (dts_one (d_tcmp (opd_in hu) (d_name 7) (d_name 5))), fun _ _ _ _ _ _ _ _ hr => have hu := hu65 hr; (d_frz d_int)⟩))⟩)
    (dss_one (ds_if (d_truth (d_gall (k := k) (own0 := [("pair", 8), ("count", 9)]) hr z_all (.base TB_x hP_x) rfl (blkOk_of n_bounds_rank (defScope s_bounds_rank) (own := [("pair", 8), ("count", 9)]) (by decide +kernel)) sc_bounds_rank.nd (d_zip (d_ix hu (d_name 0) d_int) (d_name 4) z_zip) ⟨fun _ _ _ _ _ _ _ _ hr => have hu := hu65 hr; (dg_t rfl (dg_cons (dg_n 8 sc_bounds_rank.nd) (dg_cons (dg_n 9 sc_bounds_rank.nd) dg_nil)) (hlen := len2)), fun _ _ _ _ _ _ _ _ hr => have hu := hu65 hr; dts_nil, fun _ _ _ _ _ _ _ _ hr => have hu := hu65 hr; (d_frz (d_or (d_cmp (opd_notIn hu) (d_name 3) (d_ix hu (d_name 8) d_int)) (d_one (d_cmp opd_lt (d_name 9) (d_ix hu (d_name 8) d_int)))))⟩)) (dss_one (ds_app 2 (d_frz (d_name 3)))) dss_nil)))))
    (dss_one (ds_ret (d_call1 (ca_len) (d_name 2) z_len bb_len)))))
abbrev s_bases_rank : Stmt := topS 8
abbrev n_bases_rank : List Str := ["line", "members", "base", "element"]
theorem sc_bases_rank : FnScope ["line", "members", "base", "element"] ["line", "members"] (defScope s_bases_rank) := ⟨rfl, rfl, rfl, by decide +kernel, rfl, by decide +kernel, by decide +kernel⟩
theorem fd_bases_rank {f : Addr} {fd : FuncData} {cd_x P_x : Addr} {k : Nat} (F : FunC K "bases_rank" "bases_rank" s_bases_rank f fd (.ref cd_x)) (TB_x : GxR.TabB base mg cd_x P_x) (hP_x : P_x ∈ gv.tb) :
    FD P w K mg base gv (k + 2 + 1) f fd ["line", "members"] (runD 4 (b_bases_rank)) :=
  fd_of (k := k + 2) F sc_bases_rank _ fun cd A outer s H vs E hr => have hu := hu65 hr; (dss_one (ds_ret d_none))
abbrev s_rank_of_kind : Stmt := topS 9
abbrev n_rank_of_kind : List Str := ["line", "members", "name"]
theorem sc_rank_of_kind : FnScope ["line", "members", "name"] ["line", "members"] (defScope s_rank_of_kind) := ⟨rfl, rfl, rfl, by decide +kernel, rfl, by decide +kernel, by decide +kernel⟩
theorem fd_rank_of_kind {f : Addr} {fd : FuncData} {cd_x : Value} {k : Nat} (F : FunC K "rank_of_kind" "rank_of_kind" s_rank_of_kind f fd cd_x)
    {f_graph_rank : Addr} {fd_graph_rank : FuncData} (G_graph_rank : FD P w K mg base gv k f_graph_rank fd_graph_rank ["line", "members"] F_graph_rank) (g_graph_rank : mg "graph_rank" = some (.ref f_graph_rank)) (kp_graph_rank : PySem.W.keepIn K (.ref f_graph_rank) = true) (bi_graph_rank : Binds K fd_graph_rank ["line", "members"] [])
    {f_vectors_rank : Addr} {fd_vectors_rank : FuncData} (G_vectors_rank : FD P w K mg base gv k f_vectors_rank fd_vectors_rank ["line", "members"] F_vectors_rank) (g_vectors_rank : mg "vectors_rank" = some (.ref f_vectors_rank)) (kp_vectors_rank : PySem.W.keepIn K (.ref f_vectors_rank) = true) (bi_vectors_rank : Binds K fd_vectors_rank ["line", "members"] [])
    {f_choices_rank : Addr} {fd_choices_rank : FuncData} (G_choices_rank : FD P w K mg base gv k f_choices_rank fd_choices_rank ["line", "members"] F_choices_rank) (g_choices_rank : mg "choices_rank" = some (.ref f_choices_rank)) (kp_choices_rank : PySem.W.keepIn K (.ref f_choices_rank) = true) (bi_choices_rank : Binds K fd_choices_rank ["line", "members"] [])
    {f_bounds_rank : Addr} {fd_bounds_rank : FuncData} (G_bounds_rank : FD P w K mg base gv k f_bounds_rank fd_bounds_rank ["line", "members"] F_bounds_rank) (g_bounds_rank : mg "bounds_rank" = some (.ref f_bounds_rank)) (kp_bounds_rank : PySem.W.keepIn K (.ref f_bounds_rank) = true) (bi_bounds_rank : Binds K fd_bounds_rank ["line", "members"] [])
    {f_bases_rank : Addr} {fd_bases_rank : FuncData} (G_bases_rank : FD P w K mg base gv k f_bases_rank fd_bases_rank ["line", "members"] F_bases_rank) (g_bases_rank : mg "bases_rank" = some (.ref f_bases_rank)) (kp_bases_rank : PySem.W.keepIn K (.ref f_bases_rank) = true) (bi_bases_rank : Binds K fd_bases_rank ["line", "members"] []) (z_len : mg "len" = none) (z_min : mg "min" = none) :
    FD P w K mg base gv (k + 1) f fd ["line", "members"] (runD 3 (b_rank_of_kind)) :=
  fd_of (k := k) F sc_rank_of_kind _ fun cd A outer s H vs E hr => have hu := hu65 hr; (dss_cons (ds_set 2 sc_rank_of_kind.nd (d_ix hu (d_name 0) d_int))
    (dss_cons (ds_if (d_tcmp (opd_eq hu) (d_name 2) d_str) (dss_one (ds_ret (d_call (mk := [true, true]) G_graph_rank hr g_graph_rank kp_graph_rank bi_graph_rank (d_acons (d_name 0) (d_acons (d_name 1) d_anil))))) dss_nil)
    (dss_cons (ds_if (d_tcmp (opd_eq hu) (d_name 2) d_str) (dss_one (ds_ret (d_call (mk := [true, true]) G_vectors_rank hr g_vectors_rank kp_vectors_rank bi_vectors_rank (d_acons (d_name 0) (d_acons (d_name 1) d_anil))))) dss_nil)
    (dss_cons (ds_if (d_tcmp (opd_eq hu) (d_name 2) d_str) (dss_one (ds_ret (d_call (mk := [true, true]) G_choices_rank hr g_choices_rank kp_choices_rank bi_choices_rank (d_acons (d_name 0) (d_acons (d_name 1) d_anil))))) dss_nil)
    (dss_cons (ds_if (d_tcmp (opd_eq hu) (d_name 2) d_str) (dss_one (ds_ret (d_call (mk := [true, true]) G_bounds_rank hr g_bounds_rank kp_bounds_rank bi_bounds_rank (d_acons (d_name 0) (d_acons (d_name 1) d_anil))))) dss_nil)
    (dss_cons (ds_if (d_tcmp (opd_eq hu) (d_name 2) d_str) (dss_one (ds_ret (d_min2 z_min (d_call1 (ca_len) (d_name 1) z_len bb_len) (d_ix hu (d_name 0) d_int)))) dss_nil)
    (dss_one (ds_ret (d_call (mk := [true, true]) G_bases_rank hr g_bases_rank kp_bases_rank bi_bases_rank (d_acons (d_name 0) (d_acons (d_name 1) d_anil)))))))))))
abbrev s__law_draw : Stmt := topS 11
abbrev n__law_draw : List Str := ["_law_state", "_law_limit", "_law_position", "_law_cell", "_law_mixed", "_law_digit"]
theorem sc__law_draw : FnScope ["_law_state", "_law_limit", "_law_position", "_law_cell", "_law_mixed", "_law_digit"] ["_law_state", "_law_limit"] (defScope s__law_draw) := ⟨rfl, rfl, rfl, by decide +kernel, rfl, by decide +kernel, by decide +kernel⟩
theorem fd__law_draw {f : Addr} {fd : FuncData} {cd_x : Value} {k : Nat} (F : FunC K "_law_draw" "_law_draw" s__law_draw f fd cd_x) (z_len : mg "len" = none) (z_int : mg "int" = none) :
    FD P w K mg base gv (k + 1) f fd ["_law_state", "_law_limit"] (runD 6 (b__law_draw)) :=
  fd_of (k := k) F sc__law_draw _ fun cd A outer s H vs E hr => have hu := hu65 hr; (dss_cons (ds_if (d_tcmp opd_lt (d_ix hu (d_name 0) d_int) (d_name 1)) (dss_cons (ds_set 2 sc__law_draw.nd (d_ix hu (d_name 0) d_int))
    (dss_cons (ds_setIx 0 hu d_int (d_frz (d_bin opd_add (d_name 2) d_int)))
    (dss_cons (ds_set 3 sc__law_draw.nd d_int)
    (dss_cons (ds_if (d_tcmp opd_lt (d_name 2) (d_call1 (ca_len) (d_ix hu (d_name 0) d_int) z_len bb_len)) (dss_one (ds_set 3 sc__law_draw.nd (d_ix hu (d_ix hu (d_name 0) d_int) (d_name 2)))) dss_nil)
    (dss_one (ds_if (d_tcmp opd_ge (d_name 3) (d_bin opd_pow d_int d_int)) (dss_one (ds_setIx 0 hu d_int (d_frz (d_name 3)))) (dss_cons (ds_setIx 0 hu d_int (d_frz (d_bin opd_mod (d_callT ca_int (d_bin opd_mul (d_bin opd_add (d_bin opd_add (d_bin opd_add (d_ix hu (d_name 0) d_int) (d_bin opd_mod (d_callT ca_int (d_name 3) z_int bb_int) d_int)) (d_name 2)) d_int) d_int) z_int bb_int) d_int)))
    (dss_cons (ds_set 4 sc__law_draw.nd (d_bin opd_mod (d_callT ca_int (d_bin opd_add (d_bin opd_mul (d_ix hu (d_name 0) d_int) d_int) d_int) z_int bb_int) d_int))
    (dss_one (ds_setIx 0 hu d_int (d_frz (d_bin opd_add (d_bin opd_mul (d_name 4) d_int) (d_bin opd_mod (d_callT ca_int (d_bin opd_add (d_bin opd_mul (d_name 4) d_int) (d_ix hu (d_name 0) d_int)) z_int bb_int) d_int))))))))))))) dss_nil)
    (dss_cons (ds_set 5 sc__law_draw.nd (d_bin opd_mod (d_callT ca_int (d_ix hu (d_name 0) d_int) z_int bb_int) (d_name 1)))
    (dss_cons (ds_setIx 0 hu d_int (d_frz (d_bin opd_fdiv (d_ix hu (d_name 0) d_int) (d_name 1))))
    (dss_one (ds_ret (d_name 5))))))
abbrev s__law_powers : Stmt := topS 12
abbrev n__law_powers : List Str := []
theorem sc__law_powers : FnScope [] [] (defScope s__law_powers) := ⟨rfl, rfl, rfl, by decide +kernel, rfl, by decide +kernel, by decide +kernel⟩
theorem fd__law_powers {f : Addr} {fd : FuncData} {cd_x : Value} {k : Nat} (F : FunC K "_law_powers" "_law_powers" s__law_powers f fd cd_x) :
    FD P w K mg base gv (k + 1) f fd [] (runD 0 (b__law_powers)) :=
  fd_of (k := k) F sc__law_powers _ fun cd A outer s H vs E hr => have hu := hu65 hr; (dss_one (ds_ret (d_lst (d_fcons (d_frz d_int) (d_fcons (d_frz d_int) (d_fcons (d_frz d_int) (d_fcons (d_frz d_int) (d_fcons (d_frz d_int) (d_fcons (d_frz d_int) (d_fcons (d_frz d_int) (d_fcons (d_frz d_int) (d_fcons (d_frz d_int) (d_fcons (d_frz d_int) (d_fcons (d_frz d_int) (d_fcons (d_frz d_int) (d_fcons (d_frz d_int) (d_fcons (d_frz d_int) (d_fcons (d_frz d_int) d_fnil))))))))))))))))))
abbrev s__law_code : Stmt := topS 13
abbrev n__law_code : List Str := ["_law_those", "_law_powers_here", "_law_e"]
theorem sc__law_code : FnScope ["_law_those", "_law_powers_here", "_law_e"] ["_law_those"] (defScope s__law_code) := ⟨rfl, rfl, rfl, by decide +kernel, rfl, by decide +kernel, by decide +kernel⟩
theorem fd__law_code {f : Addr} {fd : FuncData} {cd_x : Value} {k : Nat} (F : FunC K "_law_code" "_law_code" s__law_code f fd cd_x)
    {f__law_powers : Addr} {fd__law_powers : FuncData} (G__law_powers : FD P w K mg base gv k f__law_powers fd__law_powers [] F__law_powers) (g__law_powers : mg "_law_powers" = some (.ref f__law_powers)) (kp__law_powers : PySem.W.keepIn K (.ref f__law_powers) = true) (bi__law_powers : Binds K fd__law_powers [] []) (z_sum : mg "sum" = none) :
    FD P w K mg base gv (k + 1) f fd ["_law_those"] (runD 3 (b__law_code)) :=
  fd_of (k := k) F sc__law_code _ fun cd A outer s H vs E hr => have hu := hu65 hr; (dss_cons (ds_set 1 sc__law_code.nd (d_call0 G__law_powers hr g__law_powers kp__law_powers bi__law_powers))
    (dss_one (ds_ret (d_call1 (ca_sum rfl) (d_lc (own0 := [("_law_e", 2)]) rfl sc__law_code.nd (blkOk_of n__law_code (defScope s__law_code) (own := [("_law_e", 2)]) (by decide +kernel)) (d_it (d_name 0)) ⟨fun _ _ _ _ _ => (dg_n 2 sc__law_code.nd), fun _ _ _ _ _ => dts_nil, fun _ _ _ _ _ => (d_frz (d_ix hu (d_name 1) (d_name 2)))⟩) z_sum bb_sum))))
abbrev s__law_members : Stmt := topS 14
abbrev n__law_members : List Str := ["_law_code_here", "_law_size_here", "_law_powers_here", "_law_e"]
theorem sc__law_members : FnScope ["_law_code_here", "_law_size_here", "_law_powers_here", "_law_e"] ["_law_code_here", "_law_size_here"] (defScope s__law_members) := ⟨rfl, rfl, rfl, by decide +kernel, rfl, by decide +kernel, by decide +kernel⟩
theorem fd__law_members {f : Addr} {fd : FuncData} {cd_x : Value} {k : Nat} (F : FunC K "_law_members" "_law_members" s__law_members f fd cd_x)
    {f__law_powers : Addr} {fd__law_powers : FuncData} (G__law_powers : FD P w K mg base gv k f__law_powers fd__law_powers [] F__law_powers) (g__law_powers : mg "_law_powers" = some (.ref f__law_powers)) (kp__law_powers : PySem.W.keepIn K (.ref f__law_powers) = true) (bi__law_powers : Binds K fd__law_powers [] []) (z_range : mg "range" = none) (z_int : mg "int" = none) :
    FD P w K mg base gv (k + 1) f fd ["_law_code_here", "_law_size_here"] (runD 4 (b__law_members__2)) :=
  fd_of (k := k) F sc__law_members _ fun cd A outer s H vs E hr => have hu := hu65 hr; (dss_cons (ds_set 2 sc__law_members.nd (d_call0 G__law_powers hr g__law_powers kp__law_powers bi__law_powers))
    (dss_one (ds_ret (d_lc (own0 := [("_law_e", 3)]) rfl sc__law_members.nd (blkOk_of n__law_members (defScope s__law_members) (own := [("_law_e", 3)]) (by decide +kernel)) (d_rng1 (d_name 1) z_range) ⟨fun _ _ _ _ _ => (dg_n 3 sc__law_members.nd), fun _ _ _ _ _ => (dts_one (d_tcmp (opd_eq hu) (d_bin opd_mod (d_callT ca_int (d_bin opd_fdiv (d_callT ca_int (d_name 0) z_int bb_int) (d_ix hu (d_name 2) (d_name 3))) z_int bb_int) d_int) d_int)), fun _ _ _ _ _ => (d_frz (d_name 3))⟩))))
abbrev s__law_every : Stmt := topS 15
abbrev n__law_every : List Str := ["_law_size_here", "_law_powers_here", "_law_code_here"]
theorem sc__law_every : FnScope ["_law_size_here", "_law_powers_here", "_law_code_here"] ["_law_size_here"] (defScope s__law_every) := ⟨rfl, rfl, rfl, by decide +kernel, rfl, by decide +kernel, by decide +kernel⟩
theorem fd__law_every {f : Addr} {fd : FuncData} {cd_x : Value} {k : Nat} (F : FunC K "_law_every" "_law_every" s__law_every f fd cd_x)
    {f__law_powers : Addr} {fd__law_powers : FuncData} (G__law_powers : FD P w K mg base gv k f__law_powers fd__law_powers [] F__law_powers) (g__law_powers : mg "_law_powers" = some (.ref f__law_powers)) (kp__law_powers : PySem.W.keepIn K (.ref f__law_powers) = true) (bi__law_powers : Binds K fd__law_powers [] [])
    {f__law_members : Addr} {fd__law_members : FuncData} (G__law_members : FD P w K mg base gv k f__law_members fd__law_members ["_law_code_here", "_law_size_here"] F__law_members__2) (g__law_members : mg "_law_members" = some (.ref f__law_members)) (kp__law_members : PySem.W.keepIn K (.ref f__law_members) = true) (bi__law_members : Binds K fd__law_members ["_law_code_here", "_law_size_here"] []) (z_range : mg "range" = none) :
    FD P w K mg base gv (k + 1) f fd ["_law_size_here"] (runD 3 (b__law_every__2)) :=
  fd_of (k := k) F sc__law_every _ fun cd A outer s H vs E hr => have hu := hu65 hr; (dss_cons (ds_set 1 sc__law_every.nd (d_call0 G__law_powers hr g__law_powers kp__law_powers bi__law_powers))
    (dss_one (ds_ret (d_lc (own0 := [("_law_code_here", 2)]) rfl sc__law_every.nd (blkOk_of n__law_every (defScope s__law_every) (own := [("_law_code_here", 2)]) (by decide +kernel)) (d_rng1 (d_ix hu (d_name 1) (d_name 0)) z_range) ⟨fun _ _ _ _ _ => (dg_n 2 sc__law_every.nd), fun _ _ _ _ _ => dts_nil, fun _ _ _ _ _ => (d_frz (d_call (mk := [true, true]) G__law_members hr g__law_members kp__law_members bi__law_members (d_acons (d_name 2) (d_acons (d_name 0) d_anil))))⟩))))
abbrev s__law_choices : Stmt := topS 16
abbrev n__law_choices : List Str := ["_law_state", "_law_most", "_law_things", "_law_rows", "_law_k", "_law_thing"]
theorem sc__law_choices : FnScope ["_law_state", "_law_most", "_law_things", "_law_rows", "_law_k", "_law_thing"] ["_law_state", "_law_most"] (defScope s__law_choices) := ⟨rfl, rfl, rfl, by decide +kernel, rfl, by decide +kernel, by decide +kernel⟩
theorem fd__law_choices {f : Addr} {fd : FuncData} {cd_x : Value} {k : Nat} (F : FunC K "_law_choices" "_law_choices" s__law_choices f fd cd_x)
    {f__law_draw : Addr} {fd__law_draw : FuncData} (G__law_draw : FD P w K mg base gv k f__law_draw fd__law_draw ["_law_state", "_law_limit"] F__law_draw) (g__law_draw : mg "_law_draw" = some (.ref f__law_draw)) (kp__law_draw : PySem.W.keepIn K (.ref f__law_draw) = true) (bi__law_draw : Binds K fd__law_draw ["_law_state", "_law_limit"] []) (z_range : mg "range" = none) (z_tuple : mg "tuple" = none) :
    FD P w K mg base gv (k + 1) f fd ["_law_state", "_law_most"] (runD 6 (b__law_choices)) :=
  fd_of (k := k) F sc__law_choices _ fun cd A outer s H vs E hr => have hu := hu65 hr; (dss_cons (ds_set 2 sc__law_choices.nd (d_call (mk := [false, true]) G__law_draw hr g__law_draw kp__law_draw bi__law_draw (d_acons (d_name 0) (d_acons d_int d_anil))))
    (dss_cons (ds_set 3 sc__law_choices.nd (d_lst d_fnil))
    (dss_cons (ds_for PassesOwn.never rfl (d_rng1 (d_call (mk := [false, true]) G__law_draw hr g__law_draw kp__law_draw bi__law_draw (d_acons (d_name 0) (d_acons (d_bin opd_add (d_name 1) d_int) d_anil))) z_range) (dg_n 4 sc__law_choices.nd) (dss_clr [4] (dss_one (ds_app 3 (d_frz (d_callT ca_tuple (d_lc (own0 := [("_law_thing", 5)]) rfl sc__law_choices.nd (blkOk_of n__law_choices (defScope s__law_choices) (own := [("_law_thing", 5)]) (by decide +kernel)) (d_rng1 (d_name 2) z_range) ⟨fun _ _ _ _ _ => (dg_n 5 sc__law_choices.nd), fun _ _ _ _ _ => (dts_one (d_tcmp (opd_eq hu) (d_call (mk := [false, true]) G__law_draw hr g__law_draw kp__law_draw bi__law_draw (d_acons (d_name 0) (d_acons d_int d_anil))) d_int)), fun _ _ _ _ _ => (d_frz (d_name 5))⟩) z_tuple bb_tuple))))))
    (dss_one (ds_ret (d_tup (d_fcons (d_frz d_str) (d_fcons (d_frz (d_name 2)) (d_fcons (d_frz (d_callT ca_tuple (d_name 3) z_tuple bb_tuple)) d_fnil)))))))))
abbrev s__law_size : Stmt := topS 17
abbrev n__law_size : List Str := ["_law_line", "_law_sizes", "_law_name"]
theorem sc__law_size : FnScope ["_law_line", "_law_sizes", "_law_name"] ["_law_line", "_law_sizes"] (defScope s__law_size) := ⟨rfl, rfl, rfl, by decide +kernel, rfl, by decide +kernel, by decide +kernel⟩
theorem fd__law_size {f : Addr} {fd : FuncData} {cd_x : Value} {k : Nat} (F : FunC K "_law_size" "_law_size" s__law_size f fd cd_x) (z_len : mg "len" = none) (z_int : mg "int" = none) :
    FD P w K mg base gv (k + 1) f fd ["_law_line", "_law_sizes"] (runD 3 (b__law_size)) :=
  fd_of (k := k) F sc__law_size _ fun cd A outer s H vs E hr => have hu := hu65 hr; (dss_cons (ds_set 2 sc__law_size.nd (d_ix hu (d_name 0) d_int))
    (dss_cons (ds_if (d_tcmp (opd_eq hu) (d_name 2) d_str) (dss_one (ds_ret (d_call1 (ca_len) (d_ix hu (d_name 0) d_int) z_len bb_len))) dss_nil)
    (dss_cons (ds_if (d_tw (d_wor (d_tcmp (opd_eq hu) (d_name 2) d_str) (d_wor1 (d_tcmp (opd_eq hu) (d_name 2) d_str)))) (dss_one (ds_ret (d_call1 (ca_len) (d_ix hu (d_name 0) d_int) z_len bb_len))) dss_nil)
    (dss_cons (ds_if (d_tcmp (opd_in hu) (d_name 2) (d_lst (d_fcons (d_frz d_str) (d_fcons (d_frz d_str) (d_fcons (d_frz d_str) d_fnil))))) (dss_one (ds_ret (d_ix hu (d_name 0) d_int))) dss_nil)
    (dss_cons (ds_if (d_tcmp (opd_eq hu) (d_name 2) d_str) (dss_one (ds_ret (d_bin opd_add (d_ix hu (d_name 1) (d_ix hu (d_name 0) d_int)) (d_ix hu (d_name 1) (d_ix hu (d_name 0) d_int))))) dss_nil)
    (dss_one (ds_ret (d_bin opd_sub (d_ix hu (d_name 1) (d_ix hu (d_name 0) d_int)) (d_callT ca_int (d_cmp (opd_in hu) (d_name 2) (d_lst (d_fcons (d_frz d_str) (d_fcons (d_frz d_str) d_fnil)))) z_int bb_int)))))))))
abbrev s__law_sums : Stmt := topS 18
abbrev n__law_sums : List Str := ["_law_line", "_law_those", "_law_found", "_law_e", "_law_made", "_law_factor", "_law_one", "_law_k"]
theorem sc__law_sums : FnScope ["_law_line", "_law_those", "_law_found", "_law_e", "_law_made", "_law_factor", "_law_one", "_law_k"] ["_law_line", "_law_those"] (defScope s__law_sums) := ⟨rfl, rfl, rfl, by decide +kernel, rfl, by decide +kernel, by decide +kernel⟩
theorem fd__law_sums {f : Addr} {fd : FuncData} {cd_x : Value} {k : Nat} (F : FunC K "_law_sums" "_law_sums" s__law_sums f fd cd_x) (z_tuple : mg "tuple" = none) (z_range : mg "range" = none) (z_int : mg "int" = none) (z_sorted : mg "sorted" = none) (z_len : mg "len" = none) :
    FD P w K mg base gv (k + 1) f fd ["_law_line", "_law_those"] (runD 8 (b__law_sums__2)) :=
  fd_of (k := k) F sc__law_sums _ fun cd A outer s H vs E hr => have hu := hu65 hr; (dss_cons (ds_set 2 sc__law_sums.nd (d_lst (d_fcons (d_frz (d_callT ca_tuple (d_bin opd_mul (d_lst (d_fcons (d_frz d_int) d_fnil)) (d_ix hu (d_name 0) d_int)) z_tuple bb_tuple)) d_fnil)))
    (dss_cons (ds_for PassesOwn.never rfl (d_it (d_name 1)) (dg_n 3 sc__law_sums.nd) (dss_clr [3, 4, 5, 6] (dss_cons (ds_set 4 sc__law_sums.nd (d_lst d_fnil))
    (dss_cons (ds_for PassesOwn.never rfl (d_rng1 (d_ix hu (d_name 0) d_int) z_range) (dg_n 5 sc__law_sums.nd) (dss_clr [5, 6] (dss_one (ds_for PassesOwn.never rfl (d_it (d_name 2)) (dg_n 6 sc__law_sums.nd) (dss_clr [6] (dss_one (ds_app 4 (d_frz (d_callT ca_tuple (d_lc (own0 := [("_law_k", 7)]) rfl sc__law_sums.nd (blkOk_of n__law_sums (defScope s__law_sums) (own := [("_law_k", 7)]) (by decide +kernel)) (d_rng1 (d_ix hu (d_name 0) d_int) z_range) ⟨fun _ _ _ _ _ => (dg_n 7 sc__law_sums.nd), fun _ _ _ _ _ => dts_nil, fun _ _ _ _ _ => (d_frz (d_bin opd_mod (d_callT ca_int (d_bin opd_add (d_ix hu (d_name 6) (d_name 7)) (d_bin opd_mul (d_name 5) (d_ix hu (d_ix hu (d_ix hu (d_name 0) d_int) (d_name 3)) (d_name 7)))) z_int bb_int) (d_ix hu (d_name 0) d_int)))⟩) z_tuple bb_tuple)))))))))
    (dss_one (ds_set 2 sc__law_sums.nd (d_call1 (ca_sorted) d_none z_sorted bb_sorted)))))))
    (dss_one (ds_ret (d_call1 (ca_len) (d_name 2) z_len bb_len)))))
abbrev s__law_forest : Stmt := topS 19
abbrev n__law_forest : List Str := ["_law_line", "_law_those", "_law_near", "_law_v", "_law_e", "_law_one", "_law_two", "_law_both"]
theorem sc__law_forest : FnScope ["_law_line", "_law_those", "_law_near", "_law_v", "_law_e", "_law_one", "_law_two", "_law_both"] ["_law_line", "_law_those"] (defScope s__law_forest) := ⟨rfl, rfl, rfl, by decide +kernel, rfl, by decide +kernel, by decide +kernel⟩
theorem fd__law_forest {f : Addr} {fd : FuncData} {cd_x : Value} {k : Nat} (F : FunC K "_law_forest" "_law_forest" s__law_forest f fd cd_x) (z_range : mg "range" = none) :
    FD P w K mg base gv (k + 1) f fd ["_law_line", "_law_those"] (runD 8 (b__law_forest)) :=
  fd_of (k := k) F sc__law_forest _ fun cd A outer s H vs E hr => have hu := hu65 hr; (dss_cons (ds_set 2 sc__law_forest.nd d_dk)
    (dss_cons (ds_for PassesOwn.never rfl (d_rng1 (d_ix hu (d_name 0) d_int) z_range) (dg_n 3 sc__law_forest.nd) (dss_clr [3] (dss_one (ds_setIx 2 hu (d_name 3) (d_frz (d_lst (d_fcons (d_frz (d_name 3)) d_fnil)))))))
    (dss_cons (ds_for PassesOwn.never rfl (d_it (d_name 1)) (dg_n 4 sc__law_forest.nd) (dss_clr [3, 4, 5, 6, 7] (dss_cons (ds_setT (dg_t rfl (dg_cons (dg_n 5 sc__law_forest.nd) (dg_cons (dg_n 6 sc__law_forest.nd) dg_nil)) (hlen := len2)) (d_frz (d_ix hu (d_ix hu (d_name 0) d_int) (d_name 4))))
    (dss_cons (ds_if (d_tcmp (opd_in hu) (d_name 6) (d_ix hu (d_name 2) (d_name 5))) (dss_one (ds_ret d_bl)) dss_nil)
    (dss_cons (ds_set 7 sc__law_forest.nd (d_bin opd_add (d_ix hu (d_name 2) (d_name 5)) (d_ix hu (d_name 2) (d_name 6))))
    (dss_one (ds_for PassesOwn.never rfl (d_it (d_sh (d_frz (d_name 7)))) (dg_n 3 sc__law_forest.nd) (dss_clr [3] (dss_one (ds_setIx 2 hu (d_name 3) (d_frz (d_name 7))))))))))))
    (dss_one (ds_ret d_bl)))))
abbrev s__law_given : Stmt := topS 20
abbrev n__law_given : List Str := ["_law_line", "_law_those", "_law_taken", "_law_thing"]
theorem sc__law_given : FnScope ["_law_line", "_law_those", "_law_taken", "_law_thing"] ["_law_line", "_law_those", "_law_taken"] (defScope s__law_given) := ⟨rfl, rfl, rfl, by decide +kernel, rfl, by decide +kernel, by decide +kernel⟩
theorem fd__law_given {f : Addr} {fd : FuncData} {cd_x : Value} {k : Nat} (F : FunC K "_law_given" "_law_given" s__law_given f fd cd_x)
    {f__law_given : Addr} {fd__law_given : FuncData} {Y__law_given : MD} (G__law_given : FD P w K mg base gv k f__law_given fd__law_given ["_law_line", "_law_those", "_law_taken"] Y__law_given) (g__law_given : mg "_law_given" = some (.ref f__law_given)) (kp__law_given : PySem.W.keepIn K (.ref f__law_given) = true) (bi__law_given : Binds K fd__law_given ["_law_line", "_law_those", "_law_taken"] []) (z_len : mg "len" = none) :
    FD P w K mg base gv (k + 1) f fd ["_law_line", "_law_those", "_law_taken"] (runD 4 (b__law_given Y__law_given)) :=
  fd_of (k := k) F sc__law_given _ fun cd A outer s H vs E hr => have hu := hu65 hr; (dss_cons (ds_if (d_tcmp (opd_eq hu) (d_call1 (ca_len) (d_name 1) z_len bb_len) d_int) (dss_one (ds_ret d_bl)) dss_nil)
    (dss_cons (ds_for PassesOwn.never rfl (d_it (d_ix hu (d_ix hu (d_name 0) d_int) (d_ix hu (d_name 1) d_int))) (dg_n 3 sc__law_given.nd) (dss_clr [3] (dss_one (ds_if (d_tw (d_wand (d_tcmp (opd_notIn hu) (d_name 3) (d_name 2)) (d_wand1 (d_truth (d_call (mk := [true, true, true]) G__law_given hr g__law_given kp__law_given bi__law_given (d_acons (d_name 0) (d_acons (d_sl (d_name 1) (d_part d_int) d_nop) (d_acons (d_bin opd_add (d_name 2) (d_lst (d_fcons (d_frz (d_name 3)) d_fnil))) d_anil)))))))) (dss_one (ds_ret d_bl)) dss_nil))))
    (dss_one (ds_ret d_bl))))
abbrev s__law_is_free : Stmt := topS 21
abbrev n__law_is_free : List Str := ["_law_line", "_law_those", "_law_name", "_law_base", "_law_pair", "_law_e"]
theorem sc__law_is_free : FnScope ["_law_line", "_law_those", "_law_name", "_law_base", "_law_pair", "_law_e"] ["_law_line", "_law_those"] (defScope s__law_is_free) := ⟨rfl, rfl, rfl, by decide +kernel, rfl, by decide +kernel, by decide +kernel⟩
theorem fd__law_is_free {f : Addr} {fd : FuncData} {cd_x : Value} {k : Nat} (F : FunC K "_law_is_free" "_law_is_free" s__law_is_free f fd cd_x)
    {f__law_forest : Addr} {fd__law_forest : FuncData} (G__law_forest : FD P w K mg base gv k f__law_forest fd__law_forest ["_law_line", "_law_those"] F__law_forest) (g__law_forest : mg "_law_forest" = some (.ref f__law_forest)) (kp__law_forest : PySem.W.keepIn K (.ref f__law_forest) = true) (bi__law_forest : Binds K fd__law_forest ["_law_line", "_law_those"] [])
    {f__law_sums : Addr} {fd__law_sums : FuncData} (G__law_sums : FD P w K mg base gv k f__law_sums fd__law_sums ["_law_line", "_law_those"] F__law_sums__2) (g__law_sums : mg "_law_sums" = some (.ref f__law_sums)) (kp__law_sums : PySem.W.keepIn K (.ref f__law_sums) = true) (bi__law_sums : Binds K fd__law_sums ["_law_line", "_law_those"] [])
    {f__law_given : Addr} {fd__law_given : FuncData} (G__law_given : FD P w K mg base gv k f__law_given fd__law_given ["_law_line", "_law_those", "_law_taken"] F__law_given) (g__law_given : mg "_law_given" = some (.ref f__law_given)) (kp__law_given : PySem.W.keepIn K (.ref f__law_given) = true) (bi__law_given : Binds K fd__law_given ["_law_line", "_law_those", "_law_taken"] []) (z_len : mg "len" = none) (z_all : mg "all" = none) :
    FD P w K mg base gv (k + 1) f fd ["_law_line", "_law_those"] (runD 6 (b__law_is_free__2)) :=
  fd_of (k := k) F sc__law_is_free _ fun cd A outer s H vs E hr => have hu := hu65 hr; (dss_cons (ds_set 2 sc__law_is_free.nd (d_ix hu (d_name 0) d_int))
    (dss_cons (ds_if (d_tcmp (opd_eq hu) (d_name 2) d_str) (dss_one (ds_ret (d_call (mk := [true, true]) G__law_forest hr g__law_forest kp__law_forest bi__law_forest (d_acons (d_name 0) (d_acons (d_name 1) d_anil))))) dss_nil)
    (dss_cons (ds_if (d_tcmp (opd_eq hu) (d_name 2) d_str) (dss_one (ds_ret (d_cmp (opd_eq hu) (d_call (mk := [true, true]) G__law_sums hr g__law_sums kp__law_sums bi__law_sums (d_acons (d_name 0) (d_acons (d_name 1) d_anil))) (d_ix hu (d_lst (d_fcons (d_frz d_int) (d_fcons (d_frz (d_ix hu (d_name 0) d_int)) (d_fcons (d_frz (d_bin opd_pow (d_ix hu (d_name 0) d_int) d_int)) (d_fcons (d_frz (d_bin opd_pow (d_ix hu (d_name 0) d_int) d_int)) (d_fcons (d_frz (d_bin opd_pow (d_ix hu (d_name 0) d_int) d_int)) (d_fcons (d_frz (d_bin opd_pow (d_ix hu (d_name 0) d_int) d_int)) (d_fcons (d_frz (d_bin opd_pow (d_ix hu (d_name 0) d_int) d_int)) d_fnil)))))))) (d_call1 (ca_len) (d_name 1) z_len bb_len))))) dss_nil)
    (dss_cons (ds_if (d_tcmp (opd_eq hu) (d_name 2) d_str) (dss_one (ds_ret (d_call (mk := [true, true, true]) G__law_given hr g__law_given kp__law_given bi__law_given (d_acons (d_name 0) (d_acons (d_name 1) (d_acons (d_lst d_fnil) d_anil)))))) dss_nil)
    (dss_cons (ds_if (d_tcmp (opd_eq hu) (d_name 2) d_str) (dss_one (ds_ret (d_call1 (ca_all rfl) (d_lc (own0 := [("_law_pair", 4)]) rfl sc__law_is_free.nd (blkOk_of n__law_is_free (defScope s__law_is_free) (own := [("_law_pair", 4)]) (by decide +kernel)) (d_it (d_ix hu (d_name 0) d_int)) ⟨fun _ _ _ _ _ => (dg_n 4 sc__law_is_free.nd), fun _ _ _ _ _ => dts_nil, fun _ _ _ _ _ => (d_frz (d_cmp opd_le (d_call1 (ca_len) (d_lc (own0 := [("_law_e", 5)]) rfl sc__law_is_free.nd (blkOk_in n__law_is_free (own := [("_law_e", 5)]) (by decide +kernel)) (d_it (d_name 1)) ⟨fun _ _ _ _ _ => (dg_n 5 sc__law_is_free.nd), fun _ _ _ _ _ => (dts_one (d_tcmp (opd_in hu) (d_name 5) (d_ix hu (d_name 4) d_int))), fun _ _ _ _ _ => (d_frz (d_name 5))⟩) z_len bb_len) (d_ix hu (d_name 4) d_int)))⟩) z_all bb_all))) dss_nil)
    (dss_cons (ds_if (d_tcmp (opd_eq hu) (d_name 2) d_str) (dss_one (ds_ret (d_cmp opd_le (d_call1 (ca_len) (d_name 1) z_len bb_len) (d_ix hu (d_name 0) d_int)))) dss_nil)
    (dss_cons (ds_for PassesOwn.never rfl (d_it (d_ix hu (d_name 0) d_int)) (dg_n 3 sc__law_is_free.nd) (dss_clr [3] (dss_one (ds_if (d_truth (d_call1 (ca_all rfl) (d_lc (own0 := [("_law_e", 5)]) rfl sc__law_is_free.nd (blkOk_of n__law_is_free (defScope s__law_is_free) (own := [("_law_e", 5)]) (by decide +kernel)) (d_it (d_name 1)) ⟨fun _ _ _ _ _ => (dg_n 5 sc__law_is_free.nd), fun _ _ _ _ _ => dts_nil, fun _ _ _ _ _ => (d_frz (d_cmp (opd_in hu) (d_name 5) (d_name 3)))⟩) z_all bb_all)) (dss_one (ds_ret d_bl)) dss_nil))))
    (dss_one (ds_ret d_bl)))))))))
abbrev s__law_ranks : Stmt := topS 22
abbrev n__law_ranks : List Str := ["_law_free_here", "_law_size_here", "_law_powers_here", "_law_ranks_here", "_law_code_here", "_law_members_here", "_law_e"]
theorem sc__law_ranks : FnScope ["_law_free_here", "_law_size_here", "_law_powers_here", "_law_ranks_here", "_law_code_here", "_law_members_here", "_law_e"] ["_law_free_here", "_law_size_here"] (defScope s__law_ranks) := ⟨rfl, rfl, rfl, by decide +kernel, rfl, by decide +kernel, by decide +kernel⟩
theorem fd__law_ranks {f : Addr} {fd : FuncData} {cd_x : Value} {k : Nat} (F : FunC K "_law_ranks" "_law_ranks" s__law_ranks f fd cd_x)
    {f__law_powers : Addr} {fd__law_powers : FuncData} (G__law_powers : FD P w K mg base gv k f__law_powers fd__law_powers [] F__law_powers) (g__law_powers : mg "_law_powers" = some (.ref f__law_powers)) (kp__law_powers : PySem.W.keepIn K (.ref f__law_powers) = true) (bi__law_powers : Binds K fd__law_powers [] [])
    {f__law_members : Addr} {fd__law_members : FuncData} (G__law_members : FD P w K mg base gv k f__law_members fd__law_members ["_law_code_here", "_law_size_here"] F__law_members__2) (g__law_members : mg "_law_members" = some (.ref f__law_members)) (kp__law_members : PySem.W.keepIn K (.ref f__law_members) = true) (bi__law_members : Binds K fd__law_members ["_law_code_here", "_law_size_here"] []) (z_len : mg "len" = none) (z_max : mg "max" = none) (z_range : mg "range" = none) :
    FD P w K mg base gv (k + 1) f fd ["_law_free_here", "_law_size_here"] (runD 7 (b__law_ranks__2)) :=
  fd_of (k := k) F sc__law_ranks _ fun cd A outer s H vs E hr => have hu := hu65 hr; (dss_cons (ds_set 2 sc__law_ranks.nd (d_call0 G__law_powers hr g__law_powers kp__law_powers bi__law_powers))
    (dss_cons (ds_set 3 sc__law_ranks.nd (d_lst d_fnil))
    (dss_cons (ds_for PassesOwn.never rfl (d_rng1 (d_ix hu (d_name 2) (d_name 1)) z_range) (dg_n 4 sc__law_ranks.nd) (dss_clr [4, 5] (dss_cons (ds_set 5 sc__law_ranks.nd (d_call (mk := [true, true]) G__law_members hr g__law_members kp__law_members bi__law_members (d_acons (d_name 4) (d_acons (d_name 1) d_anil))))
    (dss_one (ds_if (d_truth (d_ix hu (d_name 0) (d_name 4))) (dss_one (ds_app 3 (d_frz (d_call1 (ca_len) (d_name 5) z_len bb_len)))) (dss_one (ds_app 3 (d_frz (d_call1 (ca_max rfl) (d_lc (own0 := [("_law_e", 6)]) rfl sc__law_ranks.nd (blkOk_of n__law_ranks (defScope s__law_ranks) (own := [("_law_e", 6)]) (by decide +kernel)) (d_it (d_name 5)) ⟨fun _ _ _ _ _ => (dg_n 6 sc__law_ranks.nd), fun _ _ _ _ _ => dts_nil, fun _ _ _ _ _ => (d_frz (d_ix hu (d_name 3) (d_bin opd_sub (d_name 4) (d_ix hu (d_name 2) (d_name 6)))))⟩) z_max bb_max)))))))))
    (dss_one (ds_ret (d_name 3))))))
abbrev s__law_made_free : Stmt := topS 23
abbrev n__law_made_free : List Str := ["_law_line", "_law_members_here", "_law_frees", "_law_sizes", "_law_powers_here", "_law_name", "_law_size_here", "_law_one", "_law_ranks_here", "_law_inside", "_law_two", "_law_first", "_law_code_here", "_law_part", "_law_e", "_law_k"]
theorem sc__law_made_free : FnScope ["_law_line", "_law_members_here", "_law_frees", "_law_sizes", "_law_powers_here", "_law_name", "_law_size_here", "_law_one", "_law_ranks_here", "_law_inside", "_law_two", "_law_first", "_law_code_here", "_law_part", "_law_e", "_law_k"] ["_law_line", "_law_members_here", "_law_frees", "_law_sizes"] (defScope s__law_made_free) := ⟨rfl, rfl, rfl, by decide +kernel, rfl, by decide +kernel, by decide +kernel⟩
theorem fd__law_made_free {f : Addr} {fd : FuncData} {cd_x : Value} {k : Nat} (F : FunC K "_law_made_free" "_law_made_free" s__law_made_free f fd cd_x)
    {f__law_powers : Addr} {fd__law_powers : FuncData} (G__law_powers : FD P w K mg base gv k f__law_powers fd__law_powers [] F__law_powers) (g__law_powers : mg "_law_powers" = some (.ref f__law_powers)) (kp__law_powers : PySem.W.keepIn K (.ref f__law_powers) = true) (bi__law_powers : Binds K fd__law_powers [] [])
    {f__law_ranks : Addr} {fd__law_ranks : FuncData} (G__law_ranks : FD P w K mg base gv k f__law_ranks fd__law_ranks ["_law_free_here", "_law_size_here"] F__law_ranks__2) (g__law_ranks : mg "_law_ranks" = some (.ref f__law_ranks)) (kp__law_ranks : PySem.W.keepIn K (.ref f__law_ranks) = true) (bi__law_ranks : Binds K fd__law_ranks ["_law_free_here", "_law_size_here"] [])
    {f__law_code : Addr} {fd__law_code : FuncData} (G__law_code : FD P w K mg base gv k f__law_code fd__law_code ["_law_those"] F__law_code) (g__law_code : mg "_law_code" = some (.ref f__law_code)) (kp__law_code : PySem.W.keepIn K (.ref f__law_code) = true) (bi__law_code : Binds K fd__law_code ["_law_those"] [])
    {f__law_members : Addr} {fd__law_members : FuncData} (G__law_members : FD P w K mg base gv k f__law_members fd__law_members ["_law_code_here", "_law_size_here"] F__law_members__2) (g__law_members : mg "_law_members" = some (.ref f__law_members)) (kp__law_members : PySem.W.keepIn K (.ref f__law_members) = true) (bi__law_members : Binds K fd__law_members ["_law_code_here", "_law_size_here"] []) (z_len : mg "len" = none) (z_int : mg "int" = none) (z_range : mg "range" = none) :
    FD P w K mg base gv (k + 1) f fd ["_law_line", "_law_members_here", "_law_frees", "_law_sizes"] (runD 16 (b__law_made_free__2)) :=
  fd_of (k := k) F sc__law_made_free _ fun cd A outer s H vs E hr => have hu := hu65 hr; (dss_cons (ds_set 4 sc__law_made_free.nd (d_call0 G__law_powers hr g__law_powers kp__law_powers bi__law_powers))
    (dss_cons (ds_set 5 sc__law_made_free.nd (d_ix hu (d_name 0) d_int))
    (dss_cons (ds_set 6 sc__law_made_free.nd (d_ix hu (d_name 3) (d_ix hu (d_name 0) d_int)))
    (dss_cons (ds_set 7 sc__law_made_free.nd (d_ix hu (d_name 2) (d_ix hu (d_name 0) d_int)))
    (dss_cons (ds_if (d_tcmp (opd_eq hu) (d_name 5) d_str) (dss_cons (ds_set 8 sc__law_made_free.nd (d_call (mk := [true, true]) G__law_ranks hr g__law_ranks kp__law_ranks bi__law_ranks (d_acons (d_name 7) (d_acons (d_name 6) d_anil))))
    (dss_one (ds_ret (d_cmp (opd_eq hu) (d_ix hu (d_name 8) (d_bin opd_sub (d_bin opd_sub (d_ix hu (d_name 4) (d_name 6)) d_int) (d_call (mk := [true]) G__law_code hr g__law_code kp__law_code bi__law_code (d_acons (d_name 1) d_anil)))) (d_ix hu (d_name 8) (d_bin opd_sub (d_ix hu (d_name 4) (d_name 6)) d_int)))))) dss_nil)
    (dss_cons (ds_if (d_tcmp (opd_eq hu) (d_name 5) d_str) (dss_one (ds_ret (d_and (d_ix hu (d_name 7) (d_call (mk := [true]) G__law_code hr g__law_code kp__law_code bi__law_code (d_acons (d_name 1) d_anil))) (d_one (d_cmp opd_le (d_call1 (ca_len) (d_name 1) z_len bb_len) (d_ix hu (d_name 0) d_int)))))) dss_nil)
    (dss_cons (ds_if (d_tw (d_wor (d_tcmp (opd_eq hu) (d_name 5) d_str) (d_wor1 (d_tcmp (opd_eq hu) (d_name 5) d_str)))) (dss_cons (ds_setLc 9 (own0 := [("_law_e", 14)]) rfl sc__law_made_free.nd (blkOk_of n__law_made_free (defScope s__law_made_free) (own := [("_law_e", 14)]) (by decide +kernel)) (d_it (d_name 1)) ⟨fun _ _ _ _ _ => (dg_n 14 sc__law_made_free.nd), fun _ _ _ _ _ => dts_nil, fun _ _ _ _ _ => (d_frz (d_bin opd_add (d_name 14) (d_callT ca_int (d_cmp opd_ge (d_name 14) (d_ix hu (d_name 0) d_int)) z_int bb_int)))⟩)
    (dss_cons (ds_if (d_tw (d_wand (d_tcmp (opd_eq hu) (d_name 5) d_str) (d_wand1 (d_truth (d_ix hu (d_name 7) (d_ix hu (d_name 4) (d_ix hu (d_name 0) d_int))))))) (dss_one (ds_ret (d_ix hu (d_name 7) (d_call (mk := [true]) G__law_code hr g__law_code kp__law_code bi__law_code (d_acons (d_bin opd_add (d_name 9) (d_lst (d_fcons (d_frz (d_ix hu (d_name 0) d_int)) d_fnil))) d_anil))))) dss_nil)
    (dss_one (ds_ret (d_ix hu (d_name 7) (d_call (mk := [true]) G__law_code hr g__law_code kp__law_code bi__law_code (d_acons (d_name 9) d_anil))))))) dss_nil)
    (dss_cons (ds_set 10 sc__law_made_free.nd (d_ix hu (d_name 2) (d_ix hu (d_name 0) d_int)))
    (dss_cons (ds_if (d_tcmp (opd_eq hu) (d_name 5) d_str) (dss_cons (ds_setLc 11 (own0 := [("_law_e", 14)]) rfl sc__law_made_free.nd (blkOk_of n__law_made_free (defScope s__law_made_free) (own := [("_law_e", 14)]) (by decide +kernel)) (d_it (d_name 1)) ⟨fun _ _ _ _ _ => (dg_n 14 sc__law_made_free.nd), fun _ _ _ _ _ => (dts_one (d_tcmp opd_lt (d_name 14) (d_name 6))), fun _ _ _ _ _ => (d_frz (d_name 14))⟩)
    (dss_one (ds_ret (d_and (d_ix hu (d_name 7) (d_call (mk := [true]) G__law_code hr g__law_code kp__law_code bi__law_code (d_acons (d_name 11) d_anil))) (d_one (d_ix hu (d_name 10) (d_call (mk := [true]) G__law_code hr g__law_code kp__law_code bi__law_code (d_acons (d_lc (own0 := [("_law_e", 14)]) rfl sc__law_made_free.nd (blkOk_of n__law_made_free (defScope s__law_made_free) (own := [("_law_e", 14)]) (by decide +kernel)) (d_it (d_name 1)) ⟨fun _ _ _ _ _ => (dg_n 14 sc__law_made_free.nd), fun _ _ _ _ _ => (dts_one (d_tcmp opd_ge (d_name 14) (d_name 6))), fun _ _ _ _ _ => (d_frz (d_bin opd_sub (d_name 14) (d_name 6)))⟩) d_anil)))))))) dss_nil)
    (dss_cons (ds_for PassesOwn.never rfl (d_rng1 (d_ix hu (d_name 4) (d_call1 (ca_len) (d_name 1) z_len bb_len)) z_range) (dg_n 12 sc__law_made_free.nd) (dss_clr [12, 13] (dss_cons (ds_setLc 13 (own0 := [("_law_k", 15)]) rfl sc__law_made_free.nd (blkOk_of n__law_made_free (defScope s__law_made_free) (own := [("_law_k", 15)]) (by decide +kernel)) (d_it (d_call (mk := [true, true]) G__law_members hr g__law_members kp__law_members bi__law_members (d_acons (d_name 12) (d_acons (d_call1 (ca_len) (d_name 1) z_len bb_len) d_anil)))) ⟨fun _ _ _ _ _ => (dg_n 15 sc__law_made_free.nd), fun _ _ _ _ _ => dts_nil, fun _ _ _ _ _ => (d_frz (d_ix hu (d_name 1) (d_name 15)))⟩)
    (dss_one (ds_if (d_tw (d_wand (d_truth (d_ix hu (d_name 7) (d_call (mk := [true]) G__law_code hr g__law_code kp__law_code bi__law_code (d_acons (d_name 13) d_anil)))) (d_wand1 (d_truth (d_ix hu (d_name 10) (d_bin opd_sub (d_call (mk := [true]) G__law_code hr g__law_code kp__law_code bi__law_code (d_acons (d_name 1) d_anil)) (d_call (mk := [true]) G__law_code hr g__law_code kp__law_code bi__law_code (d_acons (d_name 13) d_anil)))))))) (dss_one (ds_ret d_bl)) dss_nil)))))
    (dss_one (ds_ret d_bl))))))))))))
abbrev s__law_free : Stmt := topS 24
abbrev n__law_free : List Str := ["_law_line", "_law_earlier", "_law_sizes", "_law_frees", "_law_every_here", "_law_pair", "_law_members_here"]
theorem sc__law_free : FnScope ["_law_line", "_law_earlier", "_law_sizes", "_law_frees", "_law_every_here", "_law_pair", "_law_members_here"] ["_law_line", "_law_earlier"] (defScope s__law_free) := ⟨rfl, rfl, rfl, by decide +kernel, rfl, by decide +kernel, by decide +kernel⟩
theorem fd__law_free {f : Addr} {fd : FuncData} {cd_x : Value} {k : Nat} (F : FunC K "_law_free" "_law_free" s__law_free f fd cd_x)
    {f__law_every : Addr} {fd__law_every : FuncData} (G__law_every : FD P w K mg base gv k f__law_every fd__law_every ["_law_size_here"] F__law_every__2) (g__law_every : mg "_law_every" = some (.ref f__law_every)) (kp__law_every : PySem.W.keepIn K (.ref f__law_every) = true) (bi__law_every : Binds K fd__law_every ["_law_size_here"] [])
    {f__law_size : Addr} {fd__law_size : FuncData} (G__law_size : FD P w K mg base gv k f__law_size fd__law_size ["_law_line", "_law_sizes"] F__law_size) (g__law_size : mg "_law_size" = some (.ref f__law_size)) (kp__law_size : PySem.W.keepIn K (.ref f__law_size) = true) (bi__law_size : Binds K fd__law_size ["_law_line", "_law_sizes"] [])
    {f__law_is_free : Addr} {fd__law_is_free : FuncData} (G__law_is_free : FD P w K mg base gv k f__law_is_free fd__law_is_free ["_law_line", "_law_those"] F__law_is_free__2) (g__law_is_free : mg "_law_is_free" = some (.ref f__law_is_free)) (kp__law_is_free : PySem.W.keepIn K (.ref f__law_is_free) = true) (bi__law_is_free : Binds K fd__law_is_free ["_law_line", "_law_those"] [])
    {f__law_made_free : Addr} {fd__law_made_free : FuncData} (G__law_made_free : FD P w K mg base gv k f__law_made_free fd__law_made_free ["_law_line", "_law_members_here", "_law_frees", "_law_sizes"] F__law_made_free__2) (g__law_made_free : mg "_law_made_free" = some (.ref f__law_made_free)) (kp__law_made_free : PySem.W.keepIn K (.ref f__law_made_free) = true) (bi__law_made_free : Binds K fd__law_made_free ["_law_line", "_law_members_here", "_law_frees", "_law_sizes"] []) :
    FD P w K mg base gv (k + 1) f fd ["_law_line", "_law_earlier"] (runD 7 (b__law_free__2)) :=
  fd_of (k := k) F sc__law_free _ fun cd A outer s H vs E hr => have hu := hu65 hr; (dss_cons (ds_set 2 sc__law_free.nd (d_lc (own0 := [("_law_pair", 5)]) rfl sc__law_free.nd (blkOk_of n__law_free (defScope s__law_free) (own := [("_law_pair", 5)]) (by decide +kernel)) (d_it (d_name 1)) ⟨fun _ _ _ _ _ => (dg_n 5 sc__law_free.nd), fun _ _ _ _ _ => dts_nil, fun _ _ _ _ _ => (d_frz (d_ix hu (d_name 5) d_int))⟩))
    (dss_cons (ds_set 3 sc__law_free.nd (d_lc (own0 := [("_law_pair", 5)]) rfl sc__law_free.nd (blkOk_of n__law_free (defScope s__law_free) (own := [("_law_pair", 5)]) (by decide +kernel)) (d_it (d_name 1)) ⟨fun _ _ _ _ _ => (dg_n 5 sc__law_free.nd), fun _ _ _ _ _ => dts_nil, fun _ _ _ _ _ => (d_frz (d_ix hu (d_name 5) d_int))⟩))
    (dss_cons (ds_set 4 sc__law_free.nd (d_call (mk := [true]) G__law_every hr g__law_every kp__law_every bi__law_every (d_acons (d_call (mk := [true, true]) G__law_size hr g__law_size kp__law_size bi__law_size (d_acons (d_name 0) (d_acons (d_name 2) d_anil))) d_anil)))
    (dss_cons (ds_if (d_tcmp (opd_in hu) (d_ix hu (d_name 0) d_int) (d_lst (d_fcons (d_frz d_str) (d_fcons (d_frz d_str) (d_fcons (d_frz d_str) (d_fcons (d_frz d_str) (d_fcons (d_frz d_str) (d_fcons (d_frz d_str) d_fnil)))))))) (dss_one (ds_ret (d_lc (own0 := [("_law_members_here", 6)]) rfl sc__law_free.nd (blkOk_of n__law_free (defScope s__law_free) (own := [("_law_members_here", 6)]) (by decide +kernel)) (d_it (d_name 4)) ⟨fun _ _ _ _ _ => (dg_n 6 sc__law_free.nd), fun _ _ _ _ _ => dts_nil, fun _ _ _ _ _ => (d_frz (d_call (mk := [true, true]) G__law_is_free hr g__law_is_free kp__law_is_free bi__law_is_free (d_acons (d_name 0) (d_acons (d_name 6) d_anil))))⟩))) dss_nil)
    (dss_one (ds_ret (d_lc (own0 := [("_law_members_here", 6)]) rfl sc__law_free.nd (blkOk_of n__law_free (defScope s__law_free) (own := [("_law_members_here", 6)]) (by decide +kernel)) (d_it (d_name 4)) ⟨fun _ _ _ _ _ => (dg_n 6 sc__law_free.nd), fun _ _ _ _ _ => dts_nil, fun _ _ _ _ _ => (d_frz (d_call (mk := [true, true, true, true]) G__law_made_free hr g__law_made_free kp__law_made_free bi__law_made_free (d_acons (d_name 0) (d_acons (d_name 6) (d_acons (d_name 3) (d_acons (d_name 2) d_anil))))))⟩)))))))
abbrev s__law_is_integer : Stmt := topS 25
abbrev n__law_is_integer : List Str := ["_law_actual"]
theorem sc__law_is_integer : FnScope ["_law_actual"] ["_law_actual"] (defScope s__law_is_integer) := ⟨rfl, rfl, rfl, by decide +kernel, rfl, by decide +kernel, by decide +kernel⟩
theorem fd__law_is_integer {f : Addr} {fd : FuncData} {cd_x : Value} {k : Nat} (F : FunC K "_law_is_integer" "_law_is_integer" s__law_is_integer f fd cd_x) (z_isinstance : mg "isinstance" = none) (z_int : mg "int" = none) (z_bool : mg "bool" = none) :
    FD P w K mg base gv (k + 1) f fd ["_law_actual"] (runD 1 (b__law_is_integer)) :=
  fd_of (k := k) F sc__law_is_integer _ fun cd A outer s H vs E hr => have hu := hu65 hr; (dss_one (ds_ret (d_and (d_isi_int z_isinstance z_int (d_name 0)) (d_one (d_not (d_isi_bool z_isinstance z_bool (d_name 0)))))))
abbrev s__law_rank_in : Stmt := topS 26
abbrev n__law_rank_in : List Str := ["_law_line", "_law_members_here", "_law_best", "_law_part", "_law_k"]
theorem sc__law_rank_in : FnScope ["_law_line", "_law_members_here", "_law_best", "_law_part", "_law_k"] ["_law_line", "_law_members_here"] (defScope s__law_rank_in) := ⟨rfl, rfl, rfl, by decide +kernel, rfl, by decide +kernel, by decide +kernel⟩
theorem fd__law_rank_in {f : Addr} {fd : FuncData} {cd_x : Value} {k : Nat} (F : FunC K "_law_rank_in" "_law_rank_in" s__law_rank_in f fd cd_x)
    {f__law_is_free : Addr} {fd__law_is_free : FuncData} (G__law_is_free : FD P w K mg base gv k f__law_is_free fd__law_is_free ["_law_line", "_law_those"] F__law_is_free__2) (g__law_is_free : mg "_law_is_free" = some (.ref f__law_is_free)) (kp__law_is_free : PySem.W.keepIn K (.ref f__law_is_free) = true) (bi__law_is_free : Binds K fd__law_is_free ["_law_line", "_law_those"] [])
    {f__law_every : Addr} {fd__law_every : FuncData} (G__law_every : FD P w K mg base gv k f__law_every fd__law_every ["_law_size_here"] F__law_every__2) (g__law_every : mg "_law_every" = some (.ref f__law_every)) (kp__law_every : PySem.W.keepIn K (.ref f__law_every) = true) (bi__law_every : Binds K fd__law_every ["_law_size_here"] []) (z_len : mg "len" = none) :
    FD P w K mg base gv (k + 1) f fd ["_law_line", "_law_members_here"] (runD 5 (b__law_rank_in)) :=
  fd_of (k := k) F sc__law_rank_in _ fun cd A outer s H vs E hr => have hu := hu65 hr; (dss_cons (ds_set 2 sc__law_rank_in.nd d_int)
    (dss_cons (ds_for PassesOwn.never rfl (d_it (d_call (mk := [true]) G__law_every hr g__law_every kp__law_every bi__law_every (d_acons (d_call1 (ca_len) (d_name 1) z_len bb_len) d_anil))) (dg_n 3 sc__law_rank_in.nd) (dss_clr [3] (dss_one (ds_if (d_tw (d_wand (d_tcmp opd_gt (d_call1 (ca_len) (d_name 3) z_len bb_len) (d_name 2)) (d_wand1 (d_truth (d_call (mk := [true, true]) G__law_is_free hr g__law_is_free kp__law_is_free bi__law_is_free (d_acons (d_name 0) (d_acons (d_lc (own0 := [("_law_k", 4)]) rfl sc__law_rank_in.nd (blkOk_of n__law_rank_in (defScope s__law_rank_in) (own := [("_law_k", 4)]) (by decide +kernel)) (d_it (d_name 3)) ⟨fun _ _ _ _ _ => (dg_n 4 sc__law_rank_in.nd), fun _ _ _ _ _ => dts_nil, fun _ _ _ _ _ => (d_frz (d_ix hu (d_name 1) (d_name 4)))⟩) d_anil))))))) (dss_one (ds_set 2 sc__law_rank_in.nd (d_call1 (ca_len) (d_name 3) z_len bb_len))) dss_nil))))
    (dss_one (ds_ret (d_name 2)))))
abbrev s__law_few_of : Stmt := topS 27
abbrev n__law_few_of : List Str := ["_law_state", "_law_count", "_law_most", "_law_chosen", "_law_k", "_law_e"]
theorem sc__law_few_of : FnScope ["_law_state", "_law_count", "_law_most", "_law_chosen", "_law_k", "_law_e"] ["_law_state", "_law_count", "_law_most"] (defScope s__law_few_of) := ⟨rfl, rfl, rfl, by decide +kernel, rfl, by decide +kernel, by decide +kernel⟩
theorem fd__law_few_of {f : Addr} {fd : FuncData} {cd_x : Value} {k : Nat} (F : FunC K "_law_few_of" "_law_few_of" s__law_few_of f fd cd_x)
    {f__law_draw : Addr} {fd__law_draw : FuncData} (G__law_draw : FD P w K mg base gv k f__law_draw fd__law_draw ["_law_state", "_law_limit"] F__law_draw) (g__law_draw : mg "_law_draw" = some (.ref f__law_draw)) (kp__law_draw : PySem.W.keepIn K (.ref f__law_draw) = true) (bi__law_draw : Binds K fd__law_draw ["_law_state", "_law_limit"] []) (z_range : mg "range" = none) :
    FD P w K mg base gv (k + 1) f fd ["_law_state", "_law_count", "_law_most"] (runD 6 (b__law_few_of)) :=
  fd_of (k := k) F sc__law_few_of _ fun cd A outer s H vs E hr => have hu := hu65 hr; (dss_cons (ds_set 3 sc__law_few_of.nd (d_lst d_fnil))
    (dss_cons (ds_for PassesOwn.never rfl (d_rng1 (d_name 2) z_range) (dg_n 4 sc__law_few_of.nd) (dss_clr [4, 5] (dss_one (ds_if (d_tcmp opd_gt (d_name 1) d_int) (dss_cons (ds_set 5 sc__law_few_of.nd (d_call (mk := [false, true]) G__law_draw hr g__law_draw kp__law_draw bi__law_draw (d_acons (d_name 0) (d_acons (d_name 1) d_anil))))
    (dss_one (ds_if (d_tcmp (opd_notIn hu) (d_name 5) (d_name 3)) (dss_one (ds_app 3 (d_frz (d_name 5)))) dss_nil))) dss_nil))))
    (dss_one (ds_ret (d_name 3)))))
abbrev s__law_fits_large : Stmt := topS 28
abbrev n__law_fits_large : List Str := ["_law_state", "_law_line", "_law_most", "_law_count", "_law_k", "_law_members_here"]
theorem sc__law_fits_large : FnScope ["_law_state", "_law_line", "_law_most", "_law_count", "_law_k", "_law_members_here"] ["_law_state", "_law_line", "_law_most"] (defScope s__law_fits_large) := ⟨rfl, rfl, rfl, by decide +kernel, rfl, by decide +kernel, by decide +kernel⟩
theorem fd__law_fits_large {f : Addr} {fd : FuncData} {cd_x : Value} {k : Nat} (F : FunC K "_law_fits_large" "_law_fits_large" s__law_fits_large f fd cd_x)
    {f__law_size : Addr} {fd__law_size : FuncData} (G__law_size : FD P w K mg base gv k f__law_size fd__law_size ["_law_line", "_law_sizes"] F__law_size) (g__law_size : mg "_law_size" = some (.ref f__law_size)) (kp__law_size : PySem.W.keepIn K (.ref f__law_size) = true) (bi__law_size : Binds K fd__law_size ["_law_line", "_law_sizes"] [])
    {f__law_few_of : Addr} {fd__law_few_of : FuncData} (G__law_few_of : FD P w K mg base gv k f__law_few_of fd__law_few_of ["_law_state", "_law_count", "_law_most"] F__law_few_of) (g__law_few_of : mg "_law_few_of" = some (.ref f__law_few_of)) (kp__law_few_of : PySem.W.keepIn K (.ref f__law_few_of) = true) (bi__law_few_of : Binds K fd__law_few_of ["_law_state", "_law_count", "_law_most"] [])
    {f_rank_of_kind : Addr} {fd_rank_of_kind : FuncData} (G_rank_of_kind : FD P w K mg base gv k f_rank_of_kind fd_rank_of_kind ["line", "members"] F_rank_of_kind) (g_rank_of_kind : mg "rank_of_kind" = some (.ref f_rank_of_kind)) (kp_rank_of_kind : PySem.W.keepIn K (.ref f_rank_of_kind) = true) (bi_rank_of_kind : Binds K fd_rank_of_kind ["line", "members"] [])
    {f__law_rank_in : Addr} {fd__law_rank_in : FuncData} (G__law_rank_in : FD P w K mg base gv k f__law_rank_in fd__law_rank_in ["_law_line", "_law_members_here"] F__law_rank_in) (g__law_rank_in : mg "_law_rank_in" = some (.ref f__law_rank_in)) (kp__law_rank_in : PySem.W.keepIn K (.ref f__law_rank_in) = true) (bi__law_rank_in : Binds K fd__law_rank_in ["_law_line", "_law_members_here"] []) (z_list : mg "list" = none) (z_range : mg "range" = none) :
    FD P w K mg base gv (k + 1) f fd ["_law_state", "_law_line", "_law_most"] (runD 6 (b__law_fits_large)) :=
  fd_of (k := k) F sc__law_fits_large _ fun cd A outer s H vs E hr => have hu := hu65 hr; (dss_cons (ds_set 3 sc__law_fits_large.nd (d_call (mk := [true, true]) G__law_size hr g__law_size kp__law_size bi__law_size (d_acons (d_name 1) (d_acons (d_lst d_fnil) d_anil))))
    (dss_cons (ds_for PassesOwn.never rfl (d_rng1 d_int z_range) (dg_n 4 sc__law_fits_large.nd) (dss_clr [4, 5] (dss_cons (ds_set 5 sc__law_fits_large.nd (d_call (mk := [false, true, true]) G__law_few_of hr g__law_few_of kp__law_few_of bi__law_few_of (d_acons (d_name 0) (d_acons (d_name 3) (d_acons (d_name 2) d_anil)))))
    (dss_one (ds_if (d_tcmp (opd_ne hu) (d_call (mk := [true, true]) G_rank_of_kind hr g_rank_of_kind kp_rank_of_kind bi_rank_of_kind (d_acons (d_name 1) (d_acons (d_callT ca_list (d_name 5) z_list bb_list) d_anil))) (d_call (mk := [true, true]) G__law_rank_in hr g__law_rank_in kp__law_rank_in bi__law_rank_in (d_acons (d_name 1) (d_acons (d_name 5) d_anil)))) (dss_one (ds_ret d_bl)) dss_nil)))))
    (dss_one (ds_ret d_bl))))
abbrev s__law_large : Stmt := topS 29
abbrev n__law_large : List Str := ["_law_state", "_law_things", "_law_rows", "_law_k", "_law_thing"]
theorem sc__law_large : FnScope ["_law_state", "_law_things", "_law_rows", "_law_k", "_law_thing"] ["_law_state"] (defScope s__law_large) := ⟨rfl, rfl, rfl, by decide +kernel, rfl, by decide +kernel, by decide +kernel⟩
theorem fd__law_large {f : Addr} {fd : FuncData} {cd_x : Value} {k : Nat} (F : FunC K "_law_large" "_law_large" s__law_large f fd cd_x)
    {f__law_draw : Addr} {fd__law_draw : FuncData} (G__law_draw : FD P w K mg base gv k f__law_draw fd__law_draw ["_law_state", "_law_limit"] F__law_draw) (g__law_draw : mg "_law_draw" = some (.ref f__law_draw)) (kp__law_draw : PySem.W.keepIn K (.ref f__law_draw) = true) (bi__law_draw : Binds K fd__law_draw ["_law_state", "_law_limit"] []) (z_range : mg "range" = none) (z_tuple : mg "tuple" = none) :
    FD P w K mg base gv (k + 1) f fd ["_law_state"] (runD 5 (b__law_large__3)) :=
  fd_of (k := k) F sc__law_large _ fun cd A outer s H vs E hr => have hu := hu65 hr; (dss_cons (ds_set 1 sc__law_large.nd (d_call (mk := [false, true]) G__law_draw hr g__law_draw kp__law_draw bi__law_draw (d_acons (d_name 0) (d_acons d_int d_anil))))
    (dss_cons (ds_setLc 2 (own0 := [("_law_k", 3)]) rfl sc__law_large.nd (blkOk_of n__law_large (defScope s__law_large) (own := [("_law_k", 3)]) (by decide +kernel)) (d_rng1 d_int z_range) ⟨fun _ _ _ _ _ => (dg_n 3 sc__law_large.nd), fun _ _ _ _ _ => dts_nil, fun _ _ _ _ _ => (d_frz (d_callT ca_tuple (d_lc (own0 := [("_law_thing", 4)]) rfl sc__law_large.nd (blkOk_in n__law_large (own := [("_law_thing", 4)]) (by decide +kernel)) (d_rng1 (d_name 1) z_range) ⟨fun _ _ _ _ _ => (dg_n 4 sc__law_large.nd), fun _ _ _ _ _ => (dts_one (d_tcmp (opd_eq hu) (d_call (mk := [false, true]) G__law_draw hr g__law_draw kp__law_draw bi__law_draw (d_acons (d_name 0) (d_acons d_int d_anil))) d_int)), fun _ _ _ _ _ => (d_frz (d_name 4))⟩) z_tuple bb_tuple))⟩)
    (dss_one (ds_ret (d_tup (d_fcons (d_frz d_str) (d_fcons (d_frz (d_name 1)) (d_fcons (d_frz (d_callT ca_tuple (d_name 2) z_tuple bb_tuple)) d_fnil))))))))
abbrev s_law : Stmt := topS 30
abbrev n_law : List Str := ["_law_script", "_law_state", "_law_line", "_law_size_here", "_law_ranks_here", "_law_turn", "_law_members_here", "_law_given_here", "_law_actual"]
theorem sc_law : FnScope ["_law_script", "_law_state", "_law_line", "_law_size_here", "_law_ranks_here", "_law_turn", "_law_members_here", "_law_given_here", "_law_actual"] ["_law_script"] (defScope s_law) := ⟨rfl, rfl, rfl, by decide +kernel, rfl, by decide +kernel, by decide +kernel⟩
theorem fd_law {f : Addr} {fd : FuncData} {cd_x : Value} {k : Nat} (F : FunC K "law" "law" s_law f fd cd_x)
    {f__law_choices : Addr} {fd__law_choices : FuncData} (G__law_choices : FD P w K mg base gv k f__law_choices fd__law_choices ["_law_state", "_law_most"] F__law_choices) (g__law_choices : mg "_law_choices" = some (.ref f__law_choices)) (kp__law_choices : PySem.W.keepIn K (.ref f__law_choices) = true) (bi__law_choices : Binds K fd__law_choices ["_law_state", "_law_most"] [])
    {f__law_size : Addr} {fd__law_size : FuncData} (G__law_size : FD P w K mg base gv k f__law_size fd__law_size ["_law_line", "_law_sizes"] F__law_size) (g__law_size : mg "_law_size" = some (.ref f__law_size)) (kp__law_size : PySem.W.keepIn K (.ref f__law_size) = true) (bi__law_size : Binds K fd__law_size ["_law_line", "_law_sizes"] [])
    {f__law_ranks : Addr} {fd__law_ranks : FuncData} (G__law_ranks : FD P w K mg base gv k f__law_ranks fd__law_ranks ["_law_free_here", "_law_size_here"] F__law_ranks__2) (g__law_ranks : mg "_law_ranks" = some (.ref f__law_ranks)) (kp__law_ranks : PySem.W.keepIn K (.ref f__law_ranks) = true) (bi__law_ranks : Binds K fd__law_ranks ["_law_free_here", "_law_size_here"] [])
    {f__law_free : Addr} {fd__law_free : FuncData} (G__law_free : FD P w K mg base gv k f__law_free fd__law_free ["_law_line", "_law_earlier"] F__law_free__2) (g__law_free : mg "_law_free" = some (.ref f__law_free)) (kp__law_free : PySem.W.keepIn K (.ref f__law_free) = true) (bi__law_free : Binds K fd__law_free ["_law_line", "_law_earlier"] [])
    {f__law_draw : Addr} {fd__law_draw : FuncData} (G__law_draw : FD P w K mg base gv k f__law_draw fd__law_draw ["_law_state", "_law_limit"] F__law_draw) (g__law_draw : mg "_law_draw" = some (.ref f__law_draw)) (kp__law_draw : PySem.W.keepIn K (.ref f__law_draw) = true) (bi__law_draw : Binds K fd__law_draw ["_law_state", "_law_limit"] [])
    {f_rank_of_kind : Addr} {fd_rank_of_kind : FuncData} (G_rank_of_kind : FD P w K mg base gv k f_rank_of_kind fd_rank_of_kind ["line", "members"] F_rank_of_kind) (g_rank_of_kind : mg "rank_of_kind" = some (.ref f_rank_of_kind)) (kp_rank_of_kind : PySem.W.keepIn K (.ref f_rank_of_kind) = true) (bi_rank_of_kind : Binds K fd_rank_of_kind ["line", "members"] [])
    {f__law_is_integer : Addr} {fd__law_is_integer : FuncData} (G__law_is_integer : FD P w K mg base gv k f__law_is_integer fd__law_is_integer ["_law_actual"] F__law_is_integer) (g__law_is_integer : mg "_law_is_integer" = some (.ref f__law_is_integer)) (kp__law_is_integer : PySem.W.keepIn K (.ref f__law_is_integer) = true) (bi__law_is_integer : Binds K fd__law_is_integer ["_law_actual"] [])
    {f__law_code : Addr} {fd__law_code : FuncData} (G__law_code : FD P w K mg base gv k f__law_code fd__law_code ["_law_those"] F__law_code) (g__law_code : mg "_law_code" = some (.ref f__law_code)) (kp__law_code : PySem.W.keepIn K (.ref f__law_code) = true) (bi__law_code : Binds K fd__law_code ["_law_those"] [])
    {f__law_every : Addr} {fd__law_every : FuncData} (G__law_every : FD P w K mg base gv k f__law_every fd__law_every ["_law_size_here"] F__law_every__2) (g__law_every : mg "_law_every" = some (.ref f__law_every)) (kp__law_every : PySem.W.keepIn K (.ref f__law_every) = true) (bi__law_every : Binds K fd__law_every ["_law_size_here"] [])
    {f__law_fits_large : Addr} {fd__law_fits_large : FuncData} (G__law_fits_large : FD P w K mg base gv k f__law_fits_large fd__law_fits_large ["_law_state", "_law_line", "_law_most"] F__law_fits_large) (g__law_fits_large : mg "_law_fits_large" = some (.ref f__law_fits_large)) (kp__law_fits_large : PySem.W.keepIn K (.ref f__law_fits_large) = true) (bi__law_fits_large : Binds K fd__law_fits_large ["_law_state", "_law_line", "_law_most"] [])
    {f__law_large : Addr} {fd__law_large : FuncData} (G__law_large : FD P w K mg base gv k f__law_large fd__law_large ["_law_state"] F__law_large__3) (g__law_large : mg "_law_large" = some (.ref f__law_large)) (kp__law_large : PySem.W.keepIn K (.ref f__law_large) = true) (bi__law_large : Binds K fd__law_large ["_law_state"] []) (z_list : mg "list" = none) (z_reversed : mg "reversed" = none) :
    FD P w K mg base gv (k + 1) f fd ["_law_script"] (runD 9 (b_law__6)) :=
  fd_of (k := k) F sc_law _ fun cd A outer s H vs E hr => have hu := hu65 hr; (dss_cons (ds_set 1 sc_law.nd (d_lst (d_fcons (d_frz d_int) (d_fcons (d_frz d_int) (d_fcons (d_frz (d_callT ca_list (d_name 0) z_list bb_list)) (d_fcons (d_frz d_int) d_fnil))))))
    (dss_cons (ds_set 2 sc_law.nd (d_call (mk := [false, true]) G__law_choices hr g__law_choices kp__law_choices bi__law_choices (d_acons (d_name 1) (d_acons d_int d_anil))))
    (dss_cons (ds_set 3 sc_law.nd (d_call (mk := [true, true]) G__law_size hr g__law_size kp__law_size bi__law_size (d_acons (d_name 2) (d_acons (d_lst d_fnil) d_anil))))
    (dss_cons (ds_set 4 sc_law.nd (d_call (mk := [true, true]) G__law_ranks hr g__law_ranks kp__law_ranks bi__law_ranks (d_acons (d_call (mk := [true, true]) G__law_free hr g__law_free kp__law_free bi__law_free (d_acons (d_name 2) (d_acons (d_lst d_fnil) d_anil))) (d_acons (d_name 3) d_anil))))
    (dss_cons (ds_set 5 sc_law.nd (d_call (mk := [false, true]) G__law_draw hr g__law_draw kp__law_draw bi__law_draw (d_acons (d_name 1) (d_acons d_int d_anil))))
    (dss_cons (ds_for PassesOwn.never rfl (d_it (d_call (mk := [true]) G__law_every hr g__law_every kp__law_every bi__law_every (d_acons (d_name 3) d_anil))) (dg_n 6 sc_law.nd) (dss_clr [6, 7, 8] (dss_cons (ds_set 7 sc_law.nd (d_callT ca_list (d_name 6) z_list bb_list))
    (dss_cons (ds_if (d_tcmp (opd_eq hu) (d_name 5) d_int) (dss_one (ds_set 7 sc_law.nd (d_lrev z_list z_reversed (d_name 6)))) dss_nil)
    (dss_cons (ds_set 8 sc_law.nd (d_call (mk := [true, true]) G_rank_of_kind hr g_rank_of_kind kp_rank_of_kind bi_rank_of_kind (d_acons (d_name 2) (d_acons (d_name 7) d_anil))))
    (dss_one (ds_if (d_tw (d_wor (d_tnot (d_truth (d_call (mk := [true]) G__law_is_integer hr g__law_is_integer kp__law_is_integer bi__law_is_integer (d_acons (d_name 8) d_anil)))) (d_wor1 (d_tcmp (opd_ne hu) (d_name 8) (d_ix hu (d_name 4) (d_call (mk := [true]) G__law_code hr g__law_code kp__law_code bi__law_code (d_acons (d_name 6) d_anil))))))) (dss_one (ds_ret d_bl)) dss_nil)))))))
    (dss_one (ds_ret (d_call (mk := [false, true, true]) G__law_fits_large hr g__law_fits_large kp__law_fits_large bi__law_fits_large (d_acons (d_name 1) (d_acons (d_call (mk := [false]) G__law_large hr g__law_large kp__law_large bi__law_large (d_acons (d_name 1) d_anil)) (d_acons d_int d_anil))))))))))))
end
end K10
set_option linter.all false
/-! sets of small numbers as codes -/
namespace Th
def mem (n c : Nat) : List Nat := (List.range n).filter fun e => c.testBit e
def cod (l : List Nat) : Nat := (l.map fun e => 2 ^ e).sum
theorem mem_iff {n c e : Nat} : e ∈ mem n c ↔ e < n ∧ c.testBit e = true := by
  simp [mem, List.mem_filter]
theorem mem_lt {n c e : Nat} (h : e ∈ mem n c) : e < n := (mem_iff.mp h).1
theorem mem_nodup (n c : Nat) : (mem n c).Nodup := List.nodup_range.sublist List.filter_sublist
theorem mem_sorted (n c : Nat) : (mem n c).Pairwise (· < ·) := List.pairwise_lt_range.sublist List.filter_sublist
theorem mem_succ (n c : Nat) : mem (n + 1) c = mem n c ++ (if c.testBit n then [n] else []) := by
  unfold mem
  rw [List.range_succ, List.filter_append]
  by_cases h : c.testBit n <;> simp [h]
theorem cod_append (a b : List Nat) : cod (a ++ b) = cod a + cod b := by simp [cod]
theorem cod_mem : ∀ (n c : Nat), cod (mem n c) = c % 2 ^ n
  | 0, c => by simp [mem, cod, Nat.mod_one]
  | n + 1, c => by
    rw [mem_succ, cod_append, cod_mem n c, Nat.pow_succ, Nat.mod_mul]
    rw [Nat.testBit_eq_decide_div_mod_eq]
    by_cases h : c / 2 ^ n % 2 = 1
    · simp [h, cod]
    · have h0 : c / 2 ^ n % 2 = 0 := by omega
      simp [h0, cod]
theorem cod_mem_lt {n c : Nat} (h : c < 2 ^ n) : cod (mem n c) = c := by rw [cod_mem, Nat.mod_eq_of_lt h]
theorem pow_le_of_testBit {c e : Nat} (h : c.testBit e = true) : 2 ^ e ≤ c := Nat.ge_two_pow_of_testBit h
/-- a bit taken away -/
theorem testBit_sub : ∀ {e c i : Nat}, c.testBit e = true → (c - 2 ^ e).testBit i = (c.testBit i && decide (i ≠ e))
  | 0, c, i, h => by
    have h0 : c % 2 = 1 := by simpa [Nat.testBit_zero] using h
    cases i with
    | zero =>
      have : (c - 1) % 2 = 0 := by omega
      simp [Nat.testBit_zero, this]
    | succ i =>
      have : (c - 1) / 2 = c / 2 := by omega
      simp [Nat.testBit_succ, this]
  | e + 1, c, i, h => by
    have h1 : (c / 2).testBit e = true := by simpa [Nat.testBit_succ] using h
    have hp := pow_le_of_testBit h1
    have e2 : 2 ^ (e + 1) = 2 * 2 ^ e := by rw [Nat.pow_succ, Nat.mul_comm]
    cases i with
    | zero =>
      have : (c - 2 ^ (e + 1)) % 2 = c % 2 := by rw [e2]; omega
      simp [Nat.testBit_zero, this]
    | succ i =>
      have e3 : (c - 2 ^ (e + 1)) / 2 = c / 2 - 2 ^ e := by rw [e2]; omega
      rw [Nat.testBit_succ, e3, testBit_sub h1, Nat.testBit_succ]
      simp
theorem mem_sub {n c e : Nat} (h : c.testBit e = true) : mem n (c - 2 ^ e) = (mem n c).filter fun i => decide (i ≠ e) := by
  unfold mem
  rw [List.filter_filter]
  apply List.filter_congr
  intro i _
  rw [testBit_sub h, Bool.and_comm]
end Th
set_option linter.all false
/-! rank functions on lists without repeats -/
namespace Th
structure RankFn (r : List Nat → Nat) : Prop where
  nil : r [] = 0
  perm : ∀ {l l' : List Nat}, l.Perm l' → r l = r l'
  step : ∀ (a : Nat) (l : List Nat), r (a :: l) = r l ∨ r (a :: l) = r l + 1
  sub : ∀ (a b : Nat) (l : List Nat), r (a :: l) = r l → r (b :: l) = r l → r (a :: b :: l) = r l
section
variable {r : List Nat → Nat} (R : RankFn r)
include R
theorem RankFn.le_cons (a : Nat) (l : List Nat) : r l ≤ r (a :: l) := by rcases R.step a l with h | h <;> omega
theorem RankFn.cons_le (a : Nat) (l : List Nat) : r (a :: l) ≤ r l + 1 := by rcases R.step a l with h | h <;> omega
theorem RankFn.le_len : ∀ l : List Nat, r l ≤ l.length
  | [] => by rw [R.nil]; exact Nat.le_refl _
  | a :: l => by
    have := R.cons_le a l
    have := RankFn.le_len l
    simp only [List.length_cons]
    omega
theorem RankFn.sublist {l l' : List Nat} (h : l.Sublist l') : r l ≤ r l' := by
  induction h with
  | slnil => exact Nat.le_refl _
  | cons a h ih => exact Nat.le_trans ih (R.le_cons a _)
  | @cons_cons l l' a h ih =>
    -- r (a :: l) ≤ r (a :: l')
    have go : ∀ {m m' : List Nat}, m.Sublist m' → ∀ k : List Nat, r (k ++ m) ≤ r (k ++ m') := by
      intro m m' hm
      induction hm with
      | slnil => exact fun k => Nat.le_refl _
      | @cons m m' b hm ih2 =>
        intro k
        have p : (k ++ b :: m').Perm (b :: (k ++ m')) := List.perm_middle
        rw [R.perm p]
        exact Nat.le_trans (ih2 k) (R.le_cons b _)
      | @cons_cons m m' b hm ih2 =>
        intro k
        have := ih2 (k ++ [b])
        simpa using this
    exact go h [a]
theorem RankFn.erase_le {l : List Nat} {e : Nat} : r (l.erase e) ≤ r l := R.sublist List.erase_sublist
theorem RankFn.free_cons {a : Nat} {l : List Nat} (h : r (a :: l) = (a :: l).length) : r l = l.length := by
  have h1 := R.cons_le a l
  have h2 := R.le_len l
  simp only [List.length_cons] at h
  omega
theorem RankFn.free_sublist {l l' : List Nat} (h : l.Sublist l') (hf : r l' = l'.length) : r l = l.length := by
  have go : ∀ {m m' : List Nat}, m.Sublist m' → r m' = m'.length → r m = m.length := by
    intro m m' hm
    have : ∀ k, r (k ++ m') = (k ++ m').length → r (k ++ m) = (k ++ m).length := by
      induction hm with
      | slnil => exact fun k h => h
      | @cons m m' b hm ih =>
        intro k hk
        refine ih k ?_
        have p : (k ++ b :: m').Perm (b :: (k ++ m')) := List.perm_middle
        refine R.free_cons (a := b) ?_
        rw [← R.perm p, hk]
        simp
        omega
      | @cons_cons m m' b hm ih =>
        intro k hk
        have := ih (k ++ [b]) (by simpa using hk)
        simpa using this
    intro h
    exact this [] h
  exact go h hf
/-- if every element matters, the list is free -/
theorem RankFn.all_matter : ∀ l : List Nat, (∀ e ∈ l, r (l.erase e) ≠ r l) → r l = l.length
  | [], _ => by rw [R.nil]; rfl
  | a :: l, h => by
    have h0 := h a List.mem_cons_self
    rw [List.erase_cons_head] at h0
    have h1 : r (a :: l) = r l + 1 := by
      rcases R.step a l with q | q
      · exact absurd q.symm h0
      · exact q
    have ih := RankFn.all_matter l (fun e he q => by
      by_cases hea : e = a
      · -- the element twice: the same list behind
        subst hea
        have p : l.Perm (e :: l.erase e) := List.perm_cons_erase he
        have h2 : r (e :: l) = r l := by
          have p2 : (e :: l).Perm (e :: e :: l.erase e) := p.cons e
          have e1 : r (e :: l.erase e) = r (l.erase e) := by rw [← R.perm p]; exact q.symm
          rw [R.perm p2, R.sub e e _ e1 e1, q]
        omega
      · have p : l.Perm (e :: l.erase e) := List.perm_cons_erase he
        have e1 : r (e :: l.erase e) = r (l.erase e) := by rw [← R.perm p]; exact q.symm
        have h2 := h e (List.mem_cons_of_mem _ he)
        have ee : (a :: l).erase e = a :: l.erase e := by
          rw [List.erase_cons_tail]
          simpa using fun q => hea q.symm
        rw [ee] at h2
        rcases R.step a (l.erase e) with q2 | q2
        · have := R.sub a e _ q2 e1
          have p2 : (a :: l).Perm (a :: e :: l.erase e) := p.cons a
          rw [← R.perm p2] at this
          omega
        · omega)
    simp only [List.length_cons]
    omega
theorem RankFn.drop {l : List Nat} (h : r l ≠ l.length) : ∃ e ∈ l, r (l.erase e) = r l := by
  apply Classical.byContradiction
  intro hn
  exact h (R.all_matter l fun e he q => hn ⟨e, he, q⟩)
/-- what adds nothing to a part of the same rank adds nothing -/
theorem RankFn.span {a : Nat} {m m' : List Nat} (hm : m.Sublist m') : r m = r m' → r (a :: m) = r m → r (a :: m') = r m' := by
  have gen : ∀ {p p' : List Nat}, p.Sublist p' → ∀ k, r (k ++ p) = r (k ++ p') → r (a :: (k ++ p)) = r (k ++ p) → r (a :: (k ++ p')) = r (k ++ p') := by
    intro p p' hp
    induction hp with
    | slnil => exact fun k _ h => h
    | @cons p p' d hp ih2 =>
      intro k f1 f2
      have pm : (k ++ d :: p').Perm (d :: (k ++ p')) := List.perm_middle
      have g1 : r (k ++ p) ≤ r (k ++ p') := R.sublist ((List.Sublist.refl k).append hp)
      have g2 := R.le_cons d (k ++ p')
      rw [R.perm pm] at f1
      have g3 := ih2 k (by omega) f2
      have g4 : r (d :: (k ++ p')) = r (k ++ p') := by omega
      rw [R.perm (pm.cons a), R.perm pm, R.sub a d _ g3 g4, g4]
    | @cons_cons p p' d hp ih2 =>
      intro k f1 f2
      have := ih2 (k ++ [d]) (by simpa using f1) (by simpa using f2)
      simpa using this
  exact gen hm []
/-- a free part as large as the rank -/
theorem RankFn.basis : ∀ l : List Nat, ∃ b, b.Sublist l ∧ r b = b.length ∧ b.length = r l
  | [] => ⟨[], List.Sublist.refl _, by rw [R.nil]; rfl, by rw [R.nil]; rfl⟩
  | a :: l => by
    obtain ⟨b, h1, h2, h3⟩ := RankFn.basis l
    rcases R.step a l with q | q
    · exact ⟨b, h1.cons a, h2, by omega⟩
    · refine ⟨a :: b, h1.cons_cons a, ?_, by simp only [List.length_cons]; omega⟩
      rcases R.step a b with q2 | q2
      · -- then a adds nothing to l
        exfalso
        have go : ∀ {m m' : List Nat}, m.Sublist m' → r m = r m' → r (a :: m) = r m → r (a :: m') = r m' := by
          intro m m' hm
          induction hm with
          | slnil => exact fun _ h => h
          | @cons m m' c hm ih =>
            intro e1 e2
            have hm1 := R.sublist hm
            have hm2 := R.le_cons c m'
            have e3 := ih (by omega) e2
            have e4 : r (c :: m') = r m' := by omega
            rw [R.sub a c m' e3 e4, e4]
          | @cons_cons m m' c hm ih =>
            intro e1 e2
            -- over k ++ m
            have gen : ∀ {p p' : List Nat}, p.Sublist p' → ∀ k, r (k ++ p) = r (k ++ p') → r (a :: (k ++ p)) = r (k ++ p) → r (a :: (k ++ p')) = r (k ++ p') := by
              intro p p' hp
              induction hp with
              | slnil => exact fun k _ h => h
              | @cons p p' d hp ih2 =>
                intro k f1 f2
                have pm : (k ++ d :: p').Perm (d :: (k ++ p')) := List.perm_middle
                have g1 : r (k ++ p) ≤ r (k ++ p') := R.sublist ((List.Sublist.refl k).append hp)
                have g2 := R.le_cons d (k ++ p')
                rw [R.perm pm] at f1
                have g3 := ih2 k (by omega) f2
                have g4 : r (d :: (k ++ p')) = r (k ++ p') := by omega
                rw [R.perm (pm.cons a), R.perm pm, R.sub a d _ g3 g4, g4]
              | @cons_cons p p' d hp ih2 =>
                intro k f1 f2
                have := ih2 (k ++ [d]) (by simpa using f1) (by simpa using f2)
                simpa using this
            exact gen hm [c] (by simpa using e1) (by simpa using e2)
        have := go h1 (by omega) q2
        omega
      · simp only [List.length_cons]; omega
end
end Th
set_option Elab.async false
set_option linter.all false
set_option maxRecDepth 100000
set_option maxHeartbeats 4000000
/-! helpers of the laws: what they compute -/
namespace Bd
open PySem PySem.Spec PyProof.Rows L2 Dn
local macro_rules
  | `(tactic| simp! [$xs,*]) => `(tactic| simp only [Dn.r_seq, Dn.r_seqN, Dn.r_seqB, Dn.r_seqC, Dn.r_seqR, Dn.r_nx, Dn.r_bk, Dn.r_ct, Dn.r_retN, Dn.r_kNx, Dn.r_drop, Dn.r_kDrop, Dn.r_kOwnL, Dn.r_kSh, Dn.r_kOwnS, Dn.r_kRet, Dn.r_ret, Dn.r_ifS, Dn.r_ifT, Dn.r_ifF, Dn.r_set, Dn.r_kSet, Dn.r_setS, Dn.r_slotN, Dn.r_slotS, Dn.ro_sh, Dn.ro_lst, Dn.ro_dk, Dn.ro_dt, Dn.ro_set, Dn.ro_ro, Dn.ro_scr, Dn.own_sh, Dn.own_lst, Dn.own_dk, Dn.own_dt, Dn.own_set, Dn.own_ro, Dn.ro_rv, Dn.own_rv, Dn.rv_sh, Dn.rv_lst, Dn.rv_ro, Dn.rv_scr, Dn.rv_rv, Dn.rv_dk, Dn.rv_dt, Dn.rv_set, Dn.own_scr, Dn.r_setT, Dn.r_kTg, Dn.r_c, Dn.r_name, Dn.r_nameS, Dn.r_nameL, Dn.r_nameR, Dn.r_nameV, Dn.r_nameX, Dn.r_nameK, Dn.r_nameT, Dn.r_nameU, Dn.r_frz, Dn.r_frzS, Dn.r_frzL, Dn.r_frzI, Dn.r_frzO, Dn.r_frzOS, Dn.r_frzOL, Dn.r_sh, Dn.r_kMSh, Dn.r_resL, Dn.r_resS, Dn.r_kRes, Dn.r_bin, Dn.r_bin1, Dn.r_bin2, Dn.r_bin3, Dn.r_kOp, Dn.r_un, Dn.r_un1, Dn.r_un2, Dn.r_ix, Dn.r_tst, Dn.r_kTst, Dn.r_tand, Dn.r_tandT, Dn.r_tandF, Dn.r_tor, Dn.r_torT, Dn.r_torF, Dn.r_tnot, Dn.r_kTnot, Dn.r_tru, Dn.r_kTru, Dn.r_kTru2, Dn.r_kTru3, Dn.r_yes, Dn.r_andV, Dn.r_andT, Dn.r_andF, Dn.r_orV, Dn.r_orT, Dn.r_orF, Dn.r_notV, Dn.r_kNotV, Dn.r_if, Dn.r_ifeT, Dn.r_ifeF, Dn.r_fnil, Dn.r_fcons, Dn.r_fc1, Dn.r_fc2, Dn.r_tup, Dn.r_lst, Dn.r_kTup, Dn.r_kLst, Dn.r_anil, Dn.r_acons, Dn.r_ac1, Dn.r_ac2, Dn.r_call, Dn.r_kCall, Dn.r_kGo0, Dn.r_kGo, Dn.r_kBack, Dn.r_kLs, Dn.r_roL, Dn.r_roO, Dn.r_roV, Dn.r_roSL, Dn.r_roST, Dn.r_roSI, Dn.r_roSB, Dn.r_roSS, Dn.r_roSN, Dn.r_roSD, Dn.r_mk0, Dn.r_mkT, Dn.r_mkF, Dn.r_kMk1, Dn.r_kMk2, Dn.r_mo0, Dn.r_moT, Dn.r_moF, Dn.r_md0, Dn.r_mdT, Dn.r_mdL, Dn.r_mdF, Dn.r_ran, Dn.r_rac, Dn.r_ra1, Dn.r_ra2, Dn.r_sbn, Dn.r_sbl, Dn.r_sbs, Dn.r_sbL, Dn.r_sbK, Dn.r_sbT, Dn.r_sbU, Dn.r_sbS, Dn.r_sbR, Dn.r_sbV, Dn.r_sbX, Dn.r_dn, Dn.r_dl, Dn.r_ds, Dn.r_in, Dn.r_il, Dn.r_is, Dn.r_kPut0, Dn.r_kPut, Dn.r_setIx, Dn.r_sx1, Dn.r_sx2, Dn.r_sx3, Dn.r_sx4, Dn.r_sx5, Dn.r_stIx, Dn.r_app, Dn.r_ap0, Dn.r_ap1, Dn.r_ap2, Dn.r_aug, Dn.r_au0, Dn.r_au1, Dn.r_au2, Dn.r_au3, Dn.r_gn, Dn.r_gt, Dn.r_gcons, Dn.r_kGc, Dn.r_gnil, Dn.r_it, Dn.r_itL, Dn.r_itT, Dn.r_itO, Dn.r_itS, Dn.r_pinL, Dn.r_pinR, Dn.r_pinV, Dn.r_pinX, Dn.r_rng1, Dn.r_kR1, Dn.r_rng2, Dn.r_kQ1, Dn.r_kQ2, Dn.r_for, Dn.r_kFor, Dn.r_kUnl, Dn.r_unl0, Dn.r_unl1, Dn.r_unS, Dn.r_lc, Dn.r_lc1, Dn.r_lc2, Dn.r_wn, Dn.r_wc, Dn.r_wS, Dn.r_fn, Dn.r_fc, Dn.r_isF, Dn.r_clr, Dn.r_kClr, Dn.r_cl0, Dn.r_clk, Dn.r_kClN, Dn.r_kClS, Dn.r_run, Dn.r_outR, Dn.r_outN, Dn.r_finS, Dn.r_finL, Dn.r_finK, Dn.r_finT, Dn.r_finE, Dn.r_ouT, Dn.r_ouF, Dn.r_ouN, Dn.r_kIx, Dn.v_addI, Dn.v_addI', Dn.v_addT, Dn.v_addLAA, Dn.v_addLAB, Dn.v_addLAC, Dn.v_addLAV, Dn.v_addLBA, Dn.v_addLBB, Dn.v_addLBC, Dn.v_addLBV, Dn.v_addLCA, Dn.v_addLCB, Dn.v_addLCC, Dn.v_addLCV, Dn.v_addLVA, Dn.v_addLVB, Dn.v_addLVC, Dn.v_addLVV, Dn.v_sub, Dn.v_mulR, Dn.v_mulF, Dn.v_mulL, Dn.v_fdiv, Dn.v_mod, Dn.v_pow, Dn.v_pow18, Dn.v_lt, Dn.v_le, Dn.v_gt, Dn.v_ge, Dn.v_neg, Dn.v_int, Dn.v_intB, Dn.v_min, Dn.v_eqI, Dn.v_neI, Dn.v_isNN, Dn.v_isIN, Dn.v_isTN, Dn.v_isLN, Dn.v_isVN, Dn.v_isON, Dn.v_ixA, Dn.v_lenA, Dn.v_listA, Dn.v_truA, Dn.v_tupleA, Dn.v_revA, Dn.v_slA, Dn.v_inA, Dn.v_ixB, Dn.v_lenB, Dn.v_listB, Dn.v_truB, Dn.v_tupleB, Dn.v_revB, Dn.v_slB, Dn.v_inB, Dn.v_ixC, Dn.v_lenC, Dn.v_listC, Dn.v_truC, Dn.v_tupleC, Dn.v_revC, Dn.v_slC, Dn.v_inC, Dn.v_ixV, Dn.v_lenV, Dn.v_listV, Dn.v_truV, Dn.v_tupleV, Dn.v_revV, Dn.v_slV, Dn.v_inV, Dn.v_ixX, Dn.v_lenX, Dn.v_listX, Dn.v_truX, Dn.v_tupleX, Dn.v_revX, Dn.v_slX, Dn.v_inX, Dn.v_ixT, Dn.v_lenT, Dn.v_listT, Dn.v_truT, Dn.v_inT, Dn.v_tupleT, Dn.v_slT, Dn.v_truI, Dn.v_truBl, Dn.v_truN, Dn.sh_ints, Dn.sh_intsT, Dn.sh_int, Dn.atI_0, Dn.atI_1, Dn.atI_2, Dn.atI_3, Dn.atI_4, Dn.atI_5, Dn.ixN_0, Dn.ixN_1, Dn.ixN_2, Dn.ixN_3, Dn.sh_dl, Dn.sh_dlT, Dn.v_inNA, Dn.v_inNB, Dn.v_inNC, Dn.v_inNV, Dn.v_inNX, Dn.v_inNT, Dn.for_nil, Dn.r_kBody, Dn.r_loopN, Dn.r_loopC, Dn.r_loopB, Dn.r_loopR, Dn.r_turn, Dn.r_kT0, Dn.r_kT1, Dn.r_kT1F, Dn.r_kT2, Dn.v_ixKi, Dn.v_inDKi, Dn.r_stIxK, Dn.r_gsum, Dn.r_gs1, Dn.r_gs2, Dn.r_gs3, Dn.r_gany, Dn.r_gall, Dn.r_gq1, Dn.r_gq2, List.getElem?_cons_zero, List.getElem?_cons_succ, List.set_cons_zero, List.set_cons_succ, List.map_cons, List.map_nil, List.replicate_succ, List.replicate_zero, List.length_cons, List.length_nil, List.cons_append, List.nil_append, List.take_succ_cons, List.take_zero, List.take_nil, if_true, if_false, ite_true, ite_false, Bool.not_true, Bool.not_false, Bool.and_true, Bool.true_and, Bool.and_false, Bool.false_and, Bool.or_false, Bool.false_or, Bool.or_true, Bool.true_or, Option.isNone_none, Option.isNone_some, Option.map_some, Option.map_none, Bool.false_eq_true, decide_true, decide_false, Nat.zero_add, Nat.add_zero, two64, Option.bind_some, Option.bind_none, entSl, sS, sL, sV, sM, LV.int, LV.bl, LV.str, LV.non, true_and, and_true, or_true, true_or, reduceCtorEq, Dn.mChain, Dn.mSl, mPart, mNoP, Dn.toI, toB, mLRg1, mExt, slotC, mDk, mDt, Bool.bne_false, Bool.bne_true, bne_self_eq_false, beq_self_eq_true, Nat.reduceAdd, Nat.reduceSub, Nat.reduceMul, Nat.reduceLT, Nat.reduceLeDiff, Nat.reduceEqDiff, Nat.reduceBEq, Int.reduceLT, Int.reduceLE, Int.reduceAdd, Int.reduceSub, Int.reduceMul, Int.reduceNeg, Int.reduceToNat, Int.reduceEq, Int.reduceBEq, Int.reducePow, Int.cast_ofNat_Int, Nat.reducePow, reduceIte, Int.reduceNegSucc, Int.reduceMod, Int.reduceDiv, $xs,*])
  | `(tactic| simp!) => `(tactic| simp only [Dn.r_seq, Dn.r_seqN, Dn.r_seqB, Dn.r_seqC, Dn.r_seqR, Dn.r_nx, Dn.r_bk, Dn.r_ct, Dn.r_retN, Dn.r_kNx, Dn.r_drop, Dn.r_kDrop, Dn.r_kOwnL, Dn.r_kSh, Dn.r_kOwnS, Dn.r_kRet, Dn.r_ret, Dn.r_ifS, Dn.r_ifT, Dn.r_ifF, Dn.r_set, Dn.r_kSet, Dn.r_setS, Dn.r_slotN, Dn.r_slotS, Dn.ro_sh, Dn.ro_lst, Dn.ro_dk, Dn.ro_dt, Dn.ro_set, Dn.ro_ro, Dn.ro_scr, Dn.own_sh, Dn.own_lst, Dn.own_dk, Dn.own_dt, Dn.own_set, Dn.own_ro, Dn.ro_rv, Dn.own_rv, Dn.rv_sh, Dn.rv_lst, Dn.rv_ro, Dn.rv_scr, Dn.rv_rv, Dn.rv_dk, Dn.rv_dt, Dn.rv_set, Dn.own_scr, Dn.r_setT, Dn.r_kTg, Dn.r_c, Dn.r_name, Dn.r_nameS, Dn.r_nameL, Dn.r_nameR, Dn.r_nameV, Dn.r_nameX, Dn.r_nameK, Dn.r_nameT, Dn.r_nameU, Dn.r_frz, Dn.r_frzS, Dn.r_frzL, Dn.r_frzI, Dn.r_frzO, Dn.r_frzOS, Dn.r_frzOL, Dn.r_sh, Dn.r_kMSh, Dn.r_resL, Dn.r_resS, Dn.r_kRes, Dn.r_bin, Dn.r_bin1, Dn.r_bin2, Dn.r_bin3, Dn.r_kOp, Dn.r_un, Dn.r_un1, Dn.r_un2, Dn.r_ix, Dn.r_tst, Dn.r_kTst, Dn.r_tand, Dn.r_tandT, Dn.r_tandF, Dn.r_tor, Dn.r_torT, Dn.r_torF, Dn.r_tnot, Dn.r_kTnot, Dn.r_tru, Dn.r_kTru, Dn.r_kTru2, Dn.r_kTru3, Dn.r_yes, Dn.r_andV, Dn.r_andT, Dn.r_andF, Dn.r_orV, Dn.r_orT, Dn.r_orF, Dn.r_notV, Dn.r_kNotV, Dn.r_if, Dn.r_ifeT, Dn.r_ifeF, Dn.r_fnil, Dn.r_fcons, Dn.r_fc1, Dn.r_fc2, Dn.r_tup, Dn.r_lst, Dn.r_kTup, Dn.r_kLst, Dn.r_anil, Dn.r_acons, Dn.r_ac1, Dn.r_ac2, Dn.r_call, Dn.r_kCall, Dn.r_kGo0, Dn.r_kGo, Dn.r_kBack, Dn.r_kLs, Dn.r_roL, Dn.r_roO, Dn.r_roV, Dn.r_roSL, Dn.r_roST, Dn.r_roSI, Dn.r_roSB, Dn.r_roSS, Dn.r_roSN, Dn.r_roSD, Dn.r_mk0, Dn.r_mkT, Dn.r_mkF, Dn.r_kMk1, Dn.r_kMk2, Dn.r_mo0, Dn.r_moT, Dn.r_moF, Dn.r_md0, Dn.r_mdT, Dn.r_mdL, Dn.r_mdF, Dn.r_ran, Dn.r_rac, Dn.r_ra1, Dn.r_ra2, Dn.r_sbn, Dn.r_sbl, Dn.r_sbs, Dn.r_sbL, Dn.r_sbK, Dn.r_sbT, Dn.r_sbU, Dn.r_sbS, Dn.r_sbR, Dn.r_sbV, Dn.r_sbX, Dn.r_dn, Dn.r_dl, Dn.r_ds, Dn.r_in, Dn.r_il, Dn.r_is, Dn.r_kPut0, Dn.r_kPut, Dn.r_setIx, Dn.r_sx1, Dn.r_sx2, Dn.r_sx3, Dn.r_sx4, Dn.r_sx5, Dn.r_stIx, Dn.r_app, Dn.r_ap0, Dn.r_ap1, Dn.r_ap2, Dn.r_aug, Dn.r_au0, Dn.r_au1, Dn.r_au2, Dn.r_au3, Dn.r_gn, Dn.r_gt, Dn.r_gcons, Dn.r_kGc, Dn.r_gnil, Dn.r_it, Dn.r_itL, Dn.r_itT, Dn.r_itO, Dn.r_itS, Dn.r_pinL, Dn.r_pinR, Dn.r_pinV, Dn.r_pinX, Dn.r_rng1, Dn.r_kR1, Dn.r_rng2, Dn.r_kQ1, Dn.r_kQ2, Dn.r_for, Dn.r_kFor, Dn.r_kUnl, Dn.r_unl0, Dn.r_unl1, Dn.r_unS, Dn.r_lc, Dn.r_lc1, Dn.r_lc2, Dn.r_wn, Dn.r_wc, Dn.r_wS, Dn.r_fn, Dn.r_fc, Dn.r_isF, Dn.r_clr, Dn.r_kClr, Dn.r_cl0, Dn.r_clk, Dn.r_kClN, Dn.r_kClS, Dn.r_run, Dn.r_outR, Dn.r_outN, Dn.r_finS, Dn.r_finL, Dn.r_finK, Dn.r_finT, Dn.r_finE, Dn.r_ouT, Dn.r_ouF, Dn.r_ouN, Dn.r_kIx, Dn.v_addI, Dn.v_addI', Dn.v_addT, Dn.v_addLAA, Dn.v_addLAB, Dn.v_addLAC, Dn.v_addLAV, Dn.v_addLBA, Dn.v_addLBB, Dn.v_addLBC, Dn.v_addLBV, Dn.v_addLCA, Dn.v_addLCB, Dn.v_addLCC, Dn.v_addLCV, Dn.v_addLVA, Dn.v_addLVB, Dn.v_addLVC, Dn.v_addLVV, Dn.v_sub, Dn.v_mulR, Dn.v_mulF, Dn.v_mulL, Dn.v_fdiv, Dn.v_mod, Dn.v_pow, Dn.v_pow18, Dn.v_lt, Dn.v_le, Dn.v_gt, Dn.v_ge, Dn.v_neg, Dn.v_int, Dn.v_intB, Dn.v_min, Dn.v_eqI, Dn.v_neI, Dn.v_isNN, Dn.v_isIN, Dn.v_isTN, Dn.v_isLN, Dn.v_isVN, Dn.v_isON, Dn.v_ixA, Dn.v_lenA, Dn.v_listA, Dn.v_truA, Dn.v_tupleA, Dn.v_revA, Dn.v_slA, Dn.v_inA, Dn.v_ixB, Dn.v_lenB, Dn.v_listB, Dn.v_truB, Dn.v_tupleB, Dn.v_revB, Dn.v_slB, Dn.v_inB, Dn.v_ixC, Dn.v_lenC, Dn.v_listC, Dn.v_truC, Dn.v_tupleC, Dn.v_revC, Dn.v_slC, Dn.v_inC, Dn.v_ixV, Dn.v_lenV, Dn.v_listV, Dn.v_truV, Dn.v_tupleV, Dn.v_revV, Dn.v_slV, Dn.v_inV, Dn.v_ixX, Dn.v_lenX, Dn.v_listX, Dn.v_truX, Dn.v_tupleX, Dn.v_revX, Dn.v_slX, Dn.v_inX, Dn.v_ixT, Dn.v_lenT, Dn.v_listT, Dn.v_truT, Dn.v_inT, Dn.v_tupleT, Dn.v_slT, Dn.v_truI, Dn.v_truBl, Dn.v_truN, Dn.sh_ints, Dn.sh_intsT, Dn.sh_int, Dn.atI_0, Dn.atI_1, Dn.atI_2, Dn.atI_3, Dn.atI_4, Dn.atI_5, Dn.ixN_0, Dn.ixN_1, Dn.ixN_2, Dn.ixN_3, Dn.sh_dl, Dn.sh_dlT, Dn.v_inNA, Dn.v_inNB, Dn.v_inNC, Dn.v_inNV, Dn.v_inNX, Dn.v_inNT, Dn.for_nil, Dn.r_kBody, Dn.r_loopN, Dn.r_loopC, Dn.r_loopB, Dn.r_loopR, Dn.r_turn, Dn.r_kT0, Dn.r_kT1, Dn.r_kT1F, Dn.r_kT2, Dn.v_ixKi, Dn.v_inDKi, Dn.r_stIxK, Dn.r_gsum, Dn.r_gs1, Dn.r_gs2, Dn.r_gs3, Dn.r_gany, Dn.r_gall, Dn.r_gq1, Dn.r_gq2, List.getElem?_cons_zero, List.getElem?_cons_succ, List.set_cons_zero, List.set_cons_succ, List.map_cons, List.map_nil, List.replicate_succ, List.replicate_zero, List.length_cons, List.length_nil, List.cons_append, List.nil_append, List.take_succ_cons, List.take_zero, List.take_nil, if_true, if_false, ite_true, ite_false, Bool.not_true, Bool.not_false, Bool.and_true, Bool.true_and, Bool.and_false, Bool.false_and, Bool.or_false, Bool.false_or, Bool.or_true, Bool.true_or, Option.isNone_none, Option.isNone_some, Option.map_some, Option.map_none, Bool.false_eq_true, decide_true, decide_false, Nat.zero_add, Nat.add_zero, two64, Option.bind_some, Option.bind_none, entSl, sS, sL, sV, sM, LV.int, LV.bl, LV.str, LV.non, true_and, and_true, or_true, true_or, reduceCtorEq, Dn.mChain, Dn.mSl, mPart, mNoP, Dn.toI, toB, mLRg1, mExt, slotC, mDk, mDt, Bool.bne_false, Bool.bne_true, bne_self_eq_false, beq_self_eq_true, Nat.reduceAdd, Nat.reduceSub, Nat.reduceMul, Nat.reduceLT, Nat.reduceLeDiff, Nat.reduceEqDiff, Nat.reduceBEq, Int.reduceLT, Int.reduceLE, Int.reduceAdd, Int.reduceSub, Int.reduceMul, Int.reduceNeg, Int.reduceToNat, Int.reduceEq, Int.reduceBEq, Int.reducePow, Int.cast_ofNat_Int, Nat.reducePow, reduceIte, Int.reduceNegSucc, Int.reduceMod, Int.reduceDiv])
theorem sm62 {n : Nat} (h : n ≤ 1000000000) : small62 (n : Int) = true := decide_eq_true ⟨by omega, by omega⟩
/-- the drawing state -/
def WS (l : List PyData) : Prop := ∃ (a : Int) (b : Nat) (ns : List Int) (c : Int), l = [.int a, .int b, .list (ns.map .int), .int c]
theorem ws0 (ns : List Int) : WS [.int 0, .int 0, .list (ns.map .int), .int 1] := ⟨0, 0, ns, 1, rfl⟩
theorem draw_ok {l : List PyData} {n : Int} (h : WS l) (hn : 0 < n) (hn2 : n < 1073741824) : ∃ d l', F__law_draw [.lst l, .sh (.int n)] = some (.sh (.int d), [some (.lst l'), none]) ∧ 0 ≤ d ∧ d < n ∧ WS l' := by
  obtain ⟨a, b, ns, c, rfl⟩ := h
  unfold F__law_draw b__law_draw
  simp!
  by_cases h : a < n
  · simp! [h]
    by_cases hb : (b : Int) < ns.length
    · have hb' : b < ns.length := by omega
      have e1 : L2.atI (ns.map PyData.int) (b : Int) = some (.int ns[b]) := by rw [at_nat, List.getElem?_map, List.getElem?_eq_getElem hb']; rfl
      simp! [List.length_map, hb, e1]
      by_cases hx : 1000000000000000000 ≤ ns[b]
      · simp! [hx, hn, hn2]
        exact ⟨_, _, rfl, Int.emod_nonneg _ (by omega), Int.emod_lt_of_pos _ hn, _, b + 1, _, _, rfl⟩
      · simp! [hx, hn, hn2]
        exact ⟨_, _, rfl, Int.emod_nonneg _ (by omega), Int.emod_lt_of_pos _ hn, _, b + 1, _, _, rfl⟩
    · simp! [List.length_map, hb, hn, hn2]
      exact ⟨_, _, rfl, Int.emod_nonneg _ (by omega), Int.emod_lt_of_pos _ hn, _, b + 1, _, _, rfl⟩
  · simp! [h, hn, hn2]
    exact ⟨_, _, rfl, Int.emod_nonneg _ (by omega), Int.emod_lt_of_pos _ hn, _, b, _, _, rfl⟩
/-- a draw, the bound told by a natural number -/
theorem draw_nat {l : List PyData} (n : Nat) (h : WS l) (hn : 0 < n) (hn2 : n < 1073741824) (m : Int) (hm : m = n := by rfl) : ∃ d : Nat, ∃ l', F__law_draw [.lst l, .sh (.int m)] = some (.sh (.int d), [some (.lst l'), none]) ∧ d < n ∧ WS l' := by
  subst hm
  obtain ⟨d, l', e, h1, h2, h3⟩ := draw_ok (n := (n : Int)) h (by omega) (by omega)
  refine ⟨d.toNat, l', ?_, by omega, h3⟩
  rw [e, Int.toNat_of_nonneg h1]
def P2 : List Int := [1, 2, 4, 8, 16, 32, 64, 128, 256, 512, 1024, 2048, 4096, 8192, 16384]
theorem powers_ok : F__law_powers [] = some (.lst (P2.map .int), []) := by
  unfold F__law_powers b__law_powers P2
  simp!
theorem p2_at : ∀ e : Nat, e < 15 → L2.atI (P2.map PyData.int) (e : Int) = some (.int ((2 ^ e : Nat) : Int)) := by
  intro e he
  rw [at_nat, List.getElem?_map]
  match e, he with
  | 0, _ => rfl
  | 1, _ => rfl
  | 2, _ => rfl
  | 3, _ => rfl
  | 4, _ => rfl
  | 5, _ => rfl
  | 6, _ => rfl
  | 7, _ => rfl
  | 8, _ => rfl
  | 9, _ => rfl
  | 10, _ => rfl
  | 11, _ => rfl
  | 12, _ => rfl
  | 13, _ => rfl
  | 14, _ => rfl
  | e + 15, h => omega
theorem pow_pos' (e : Nat) : (0 : Int) < ((2 ^ e : Nat) : Int) := by have := Nat.two_pow_pos e; omega
theorem pow_small {e : Nat} (h : e < 15) : ((2 ^ e : Nat) : Int) < 1073741824 := by
  have : 2 ^ e ≤ 2 ^ 14 := Nat.pow_le_pow_right (by decide) (by omega)
  have e2 : (2 : Nat) ^ 14 = 16384 := by decide
  omega
theorem pow14 {n : Nat} (hn : n ≤ 14) : 2 ^ n ≤ 16384 := Nat.pow_le_pow_right (n := 2) (by decide) hn
theorem bit_eq (c e : Nat) : (((c : Int) / ((2 ^ e : Nat) : Int) % 2 == 1) : Bool) = c.testBit e := by
  rw [Nat.testBit_eq_decide_div_mod_eq]
  have : (c : Int) / ((2 ^ e : Nat) : Int) % 2 = ((c / 2 ^ e % 2 : Nat) : Int) := by simp
  rw [this]
  by_cases h : c / 2 ^ e % 2 = 1
  · simp [h]
  · have h0 : c / 2 ^ e % 2 = 0 := by omega
    simp [h0]
theorem members_ok {c n : Nat} (hn : n ≤ 15) : F__law_members__2 [.sh (.int c), .sh (.int n)] = some (.lst (dl (Th.mem n c)), [none, none]) := by
  unfold F__law_members__2 b__law_members__2
  simp! [powers_ok, sm62 (show n ≤ 1000000000 by omega), Int.toNat_natCast, range_dl]
  rw [lc_filN (fun e => c.testBit e) (by rw [List.length_range]; omega)]
  · simp!
    rfl
  · intro e he
    have he := List.mem_range.mp he
    simp! [lt__law_members__2_1, le__law_members__2_1, di, p2_at e (by omega), pow_pos' e, pow_small (show e < 15 by omega)]
    rw [bit_eq]
    by_cases h : c.testBit e = true
    · simp! [h]
    · simp! [h]
/-- all sets of n elements, in the order of their codes -/
def evD (n : Nat) : List PyData := (List.range (2 ^ n)).map fun c => .list (dl (Th.mem n c))
theorem every_ok {n : Nat} (hn : n ≤ 14) : F__law_every__2 [.sh (.int n)] = some (.lst (evD n), [none]) := by
  have hp := pow14 hn
  unfold F__law_every__2 b__law_every__2
  simp! [powers_ok, p2_at n (by omega), sm62 (show 2 ^ n ≤ 1000000000 by omega), Int.toNat_natCast, range_dl]
  rw [lc_mapN (fun c => PyData.list (dl (Th.mem n c))) (by rw [List.length_range]; omega)]
  · simp!
    rfl
  · intro c hc
    have hc := List.mem_range.mp hc
    simp! [le__law_every__2_1, di, members_ok (show n ≤ 15 by omega)]
theorem sum_pow (l : List Nat) : gSum (.lst (l.map fun e => PyData.int ((2 ^ e : Nat) : Int))) = some (.sh (.int (Th.cod l))) := by
  have e : l.map (fun e => PyData.int ((2 ^ e : Nat) : Int)) = (l.map fun e => ((2 ^ e : Nat) : Int)).map PyData.int := by rw [List.map_map]; rfl
  have s : ∀ l : List Nat, ((l.map fun e => ((2 ^ e : Nat) : Int)).sum) = ((Th.cod l : Nat) : Int) := by
    intro l
    induction l with
    | nil => rfl
    | cons a l ih =>
      rw [List.map_cons, List.sum_cons, ih]
      unfold Th.cod
      rw [List.map_cons, List.sum_cons]
      simp
  show (ints? _).bind _ = _
  rw [e, Dn.ints_map]
  show some (LV.int (l.map fun e => ((2 ^ e : Nat) : Int)).sum) = _
  rw [s]
theorem code_ok {l : List Nat} (hl : l.length ≤ 100) (h : ∀ e ∈ l, e < 15) : F__law_code [.rv (dl l)] = some (.sh (.int (Th.cod l)), [none]) := by
  unfold F__law_code b__law_code
  simp! [powers_ok]
  rw [lc_mapN (fun e : Nat => PyData.int ((2 ^ e : Nat) : Int)) (by omega)]
  · simp! [sum_pow]
  · intro e he
    simp! [le__law_code_1, di, p2_at e (h e he)]
theorem integer_ok {i : Int} : F__law_is_integer [.sh (.int i)] = some (.sh (.bool true), [none]) := by
  have e1 : gIsi "int" (.sh (.int i)) = some (.sh (.bool true)) := by
    have h : kitB "int" "int" = some true := by decide +kernel
    simp only [gIsi, typN, Option.bind_some, h]
  have e2 : gIsi "bool" (.sh (.int i)) = some (.sh (.bool false)) := by
    have h : kitB "int" "bool" = some false := by decide +kernel
    simp only [gIsi, typN, Option.bind_some, h]
  unfold F__law_is_integer b__law_is_integer
  simp! [e1, e2]
/-- two texts that are written -/
def strsEq (x y : Str) (b : Bool) : Bool := SeqAt.shaped (.str x) && SeqAt.shaped (.str y) && ((x == y) == b)
theorem eqS {x y : Str} (b : Bool) (h : strsEq x y b = true) : gEq (.sh (.str x)) (.sh (.str y)) = some (.sh (.bool b)) := by
  unfold strsEq at h
  simp only [Bool.and_eq_true] at h
  obtain ⟨⟨h1, h2⟩, h3⟩ := h
  have e : PyData.eqv (.str x) (.str y) = b := by
    show (x == y) = b
    simpa using h3
  rw [v_eq (.sh (.str x)) (.sh (.str y)) rfl rfl h1 h2, e]
theorem neS {x y : Str} (b : Bool) (h : strsEq x y b = true) : gNe (.sh (.str x)) (.sh (.str y)) = some (.sh (.bool (!b))) := by
  unfold strsEq at h
  simp only [Bool.and_eq_true] at h
  obtain ⟨⟨h1, h2⟩, h3⟩ := h
  have e : PyData.eqv (.str x) (.str y) = b := by
    show (x == y) = b
    simpa using h3
  rw [v_ne (.sh (.str x)) (.sh (.str y)) rfl rfl h1 h2, e]
/-- a text among texts that are written -/
def strsIn (x : Str) (ys : List Str) (b : Bool) : Bool := SeqAt.shaped (.str x) && SeqAt.shaped (.list (ys.map PyData.str)) && (((ys.map PyData.str).any fun z => PyData.eqv z (.str x)) == b)
theorem inS {x : Str} (ys : List Str) (n b : Bool) (h : strsIn x ys b = true) : gIn n (.sh (.str x)) (.lst (ys.map PyData.str)) = some (.sh (.bool (n != b))) := by
  unfold strsIn at h
  simp only [Bool.and_eq_true] at h
  obtain ⟨⟨h1, h2⟩, h3⟩ := h
  have e : ((ys.map PyData.str).any fun z => PyData.eqv z (.str x)) = b := by simpa using h3
  show (if (SeqAt.shaped (.str x) && SeqAt.shaped (.list (ys.map PyData.str))) = true then some (LV.bl (n != ((ys.map PyData.str).any fun z => PyData.eqv z (.str x)))) else none) = _
  rw [h1, h2, e]
  rfl
theorem inST {x : Str} (ys : List Str) (n b : Bool) (h : strsIn x ys b = true) : gIn n (.sh (.str x)) (.sh (.tuple (ys.map PyData.str))) = some (.sh (.bool (n != b))) := by
  unfold strsIn at h
  simp only [Bool.and_eq_true] at h
  obtain ⟨⟨h1, h2⟩, h3⟩ := h
  have e : ((ys.map PyData.str).any fun z => PyData.eqv z (.str x)) = b := by simpa using h3
  show (if (SeqAt.shaped (.str x) && SeqAt.shaped (.list (ys.map PyData.str))) = true then some (LV.bl (n != ((ys.map PyData.str).any fun z => PyData.eqv z (.str x)))) else none) = _
  rw [h1, h2, e]
  rfl
theorem mem_len {n c : Nat} : (Th.mem n c).length ≤ n := by
  have := List.length_filter_le (fun e => c.testBit e) (List.range n)
  rwa [List.length_range] at this
end Bd
set_option linter.all false
/-! choices: matchings, their rank, augmenting ways -/
namespace Th
section
variable (m : Nat) (ch : Nat → List Nat)
def inT (c e : Nat) : Bool := (ch e).all fun t => c.testBit t
def cntO (c : Nat) (l : List Nat) : Nat := l.countP fun e => !inT ch c e
def cost (c : Nat) (l : List Nat) : Nat := (mem m c).length + cntO ch c l
def minOf (f : Nat → Nat) : Nat → Nat
  | 0 => f 0
  | n + 1 => min (minOf f n) (f (n + 1))
theorem minOf_le (f : Nat → Nat) : ∀ {n i : Nat}, i ≤ n → minOf f n ≤ f i
  | 0, i, h => by have : i = 0 := by omega
                  subst this; exact Nat.le_refl _
  | n + 1, i, h => by
    unfold minOf
    by_cases e : i = n + 1
    · subst e; omega
    · have := minOf_le f (show i ≤ n by omega)
      omega
theorem minOf_ex (f : Nat → Nat) : ∀ n, ∃ i, i ≤ n ∧ minOf f n = f i
  | 0 => ⟨0, Nat.le_refl _, rfl⟩
  | n + 1 => by
    obtain ⟨i, h1, h2⟩ := minOf_ex f n
    unfold minOf
    by_cases e : minOf f n ≤ f (n + 1)
    · exact ⟨i, by omega, by omega⟩
    · exact ⟨n + 1, Nat.le_refl _, by omega⟩
/-- the rank: the least that things can stop -/
def crk (l : List Nat) : Nat := minOf (fun c => cost m ch c l) (2 ^ m)
theorem crk_le {c : Nat} (h : c ≤ 2 ^ m) (l : List Nat) : crk m ch l ≤ cost m ch c l := minOf_le (fun c => cost m ch c l) h
theorem crk_ex (l : List Nat) : ∃ c, c ≤ 2 ^ m ∧ crk m ch l = cost m ch c l := minOf_ex (fun c => cost m ch c l) _
theorem cost_mod (hch : ∀ e, ∀ t ∈ ch e, t < m) (c : Nat) (l : List Nat) : cost m ch (c % 2 ^ m) l = cost m ch c l := by
  have h1 : mem m (c % 2 ^ m) = mem m c := by
    unfold mem
    refine List.filter_congr fun i hi => ?_
    rw [Nat.testBit_mod_two_pow]
    simp [List.mem_range.mp hi]
  have h2 : ∀ e, inT ch (c % 2 ^ m) e = inT ch c e := fun e => by
    unfold inT
    rw [Bool.eq_iff_iff, List.all_eq_true, List.all_eq_true]
    refine forall_congr' fun t => forall_congr' fun ht => ?_
    rw [Nat.testBit_mod_two_pow]
    simp [hch e t ht]
  unfold cost cntO
  rw [h1]
  simp only [h2]
theorem crk_le' (hch : ∀ e, ∀ t ∈ ch e, t < m) (c : Nat) (l : List Nat) : crk m ch l ≤ cost m ch c l := by
  rw [← cost_mod m ch hch c l]
  exact crk_le m ch (Nat.le_of_lt (Nat.mod_lt _ (Nat.two_pow_pos m))) l
theorem countP_two {α : Type} (p q p' q' : α → Bool) (h : ∀ a, (p a).toNat + (q a).toNat ≤ (p' a).toNat + (q' a).toNat) : ∀ l : List α, l.countP p + l.countP q ≤ l.countP p' + l.countP q'
  | [] => Nat.le_refl _
  | a :: l => by
    have h1 := h a
    have h2 := countP_two p q p' q' h l
    simp only [List.countP_cons]
    cases hp : p a <;> cases hq : q a <;> cases hp' : p' a <;> cases hq' : q' a <;> simp_all <;> omega
theorem card_two (c1 c2 : Nat) : (mem m (c1 ||| c2)).length + (mem m (c1 &&& c2)).length ≤ (mem m c1).length + (mem m c2).length := by
  unfold mem
  simp only [← List.countP_eq_length_filter]
  refine countP_two _ _ _ _ (fun a => ?_) _
  rw [Nat.testBit_or, Nat.testBit_and]
  cases c1.testBit a <;> cases c2.testBit a <;> simp
theorem cost_two (c1 c2 : Nat) (l : List Nat) : cost m ch (c1 ||| c2) l + cost m ch (c1 &&& c2) l ≤ cost m ch c1 l + cost m ch c2 l := by
  have h1 := card_two m c1 c2
  have h2 : cntO ch (c1 ||| c2) l + cntO ch (c1 &&& c2) l ≤ cntO ch c1 l + cntO ch c2 l := by
    refine countP_two _ _ _ _ (fun e => ?_) l
    have or1 : inT ch c1 e = true → inT ch (c1 ||| c2) e = true := fun h => by
      unfold inT at h ⊢
      rw [List.all_eq_true] at h ⊢
      exact fun t ht => by rw [Nat.testBit_or, h t ht]; rfl
    have or2 : inT ch c2 e = true → inT ch (c1 ||| c2) e = true := fun h => by
      unfold inT at h ⊢
      rw [List.all_eq_true] at h ⊢
      exact fun t ht => by rw [Nat.testBit_or, h t ht, Bool.or_true]
    have an : inT ch c1 e = true → inT ch c2 e = true → inT ch (c1 &&& c2) e = true := fun h k => by
      unfold inT at h k ⊢
      rw [List.all_eq_true] at h k ⊢
      exact fun t ht => by rw [Nat.testBit_and, h t ht, k t ht]; rfl
    cases e1 : inT ch c1 e <;> cases e2 : inT ch c2 e <;> cases e3 : inT ch (c1 ||| c2) e <;> cases e4 : inT ch (c1 &&& c2) e <;> simp_all
  unfold cost
  omega
theorem cost_cons (c a : Nat) (l : List Nat) : cost m ch c (a :: l) = cost m ch c l + (if inT ch c a then 0 else 1) := by
  unfold cost cntO
  rw [List.countP_cons]
  cases inT ch c a <;> simp <;> omega
theorem crk_rank (hch : ∀ e, ∀ t ∈ ch e, t < m) : RankFn (crk m ch) where
  nil := by
    have := crk_le m ch (Nat.zero_le (2 ^ m)) []
    have e : cost m ch 0 [] = 0 := by simp [cost, cntO, mem]
    omega
  perm := fun {l l'} h => by
    have e : (fun c => cost m ch c l) = fun c => cost m ch c l' := by
      funext c
      unfold cost cntO
      rw [h.countP_eq]
    unfold crk
    rw [e]
  step := fun a l => by
    obtain ⟨c, hc, e⟩ := crk_ex m ch l
    obtain ⟨c', hc', e'⟩ := crk_ex m ch (a :: l)
    have h1 := crk_le m ch hc (a :: l)
    have h2 := crk_le m ch hc' l
    rw [cost_cons] at h1 e'
    have : (if inT ch c a then 0 else 1) ≤ 1 := by split <;> omega
    omega
  sub := fun a b l h1 h2 => by
    obtain ⟨c1, hc1, e1⟩ := crk_ex m ch (a :: l)
    obtain ⟨c2, hc2, e2⟩ := crk_ex m ch (b :: l)
    rw [cost_cons] at e1 e2
    have g1 := crk_le m ch hc1 l
    have g2 := crk_le m ch hc2 l
    have s1 : inT ch c1 a = true := by
      cases q : inT ch c1 a with
      | true => rfl
      | false => rw [q] at e1; simp at e1; omega
    have s2 : inT ch c2 b = true := by
      cases q : inT ch c2 b with
      | true => rfl
      | false => rw [q] at e2; simp at e2; omega
    rw [s1] at e1
    rw [s2] at e2
    simp only [if_true] at e1 e2
    have t := cost_two m ch c1 c2 l
    have g3 := crk_le' m ch hch (c1 &&& c2) l
    have g4 := crk_le' m ch hch (c1 ||| c2) (a :: b :: l)
    have s3 : inT ch (c1 ||| c2) a = true := by
      unfold inT at s1 ⊢
      rw [List.all_eq_true] at s1 ⊢
      exact fun t ht => by rw [Nat.testBit_or, s1 t ht]; rfl
    have s4 : inT ch (c1 ||| c2) b = true := by
      unfold inT at s2 ⊢
      rw [List.all_eq_true] at s2 ⊢
      exact fun t ht => by rw [Nat.testBit_or, s2 t ht, Bool.or_true]
    rw [cost_cons, cost_cons, s3, s4] at g4
    simp only [if_true] at g4
    -- from below
    have up : ∀ (x : Nat) (l : List Nat), crk m ch l ≤ crk m ch (x :: l) := fun x l => by
      obtain ⟨c, hc, e⟩ := crk_ex m ch (x :: l)
      have := crk_le m ch hc l
      rw [cost_cons] at e
      omega
    have u1 := up b l
    have u2 := up a (b :: l)
    omega
end
theorem len_sub : ∀ {l l' : List Nat}, l.Nodup → (∀ x ∈ l, x ∈ l') → l.length ≤ l'.length
  | [], _, _, _ => Nat.zero_le _
  | a :: l, l', nd, h => by
    have ha := h a List.mem_cons_self
    have := len_sub (l := l) (l' := l'.erase a) (List.nodup_cons.mp nd).2 fun x hx => by
      have hne : x ≠ a := fun q => (List.nodup_cons.mp nd).1 (by rw [← q]; exact hx)
      exact (List.mem_erase_of_ne hne).mpr (h x (List.mem_cons_of_mem _ hx))
    rw [List.length_erase_of_mem ha] at this
    have hp := List.length_pos_of_mem ha
    simp only [List.length_cons]
    omega
/-- a set of things stops so much -/
theorem crk_things {m : Nat} {ch : Nat → List Nat} (hch : ∀ e, ∀ t ∈ ch e, t < m) (T l : List Nat) : crk m ch l ≤ T.length + l.countP fun e => !((ch e).all fun t => decide (t ∈ T)) := by
  have ex : ∀ T : List Nat, ∃ c : Nat, ∀ i, c.testBit i = decide (i ∈ T) := by
    intro T
    induction T with
    | nil => exact ⟨0, fun i => by simp⟩
    | cons t T ih =>
      obtain ⟨c, h⟩ := ih
      refine ⟨c ||| 2 ^ t, fun i => ?_⟩
      rw [Nat.testBit_or, h i, Nat.testBit_two_pow, Bool.eq_iff_iff]
      simp only [Bool.or_eq_true, decide_eq_true_eq, List.mem_cons]
      constructor
      · rintro (q | q)
        · exact .inr q
        · exact .inl q.symm
      · rintro (q | q)
        · exact .inr q.symm
        · exact .inl q
  obtain ⟨c, hc⟩ := ex T
  have h1 := crk_le' m ch hch c l
  have h2 : (mem m c).length ≤ T.length := len_sub (mem_nodup m c) fun x hx => by
    have := (mem_iff.mp hx).2
    rw [hc] at this
    simpa using this
  have h3 : cntO ch c l = l.countP fun e => !((ch e).all fun t => decide (t ∈ T)) := by
    unfold cntO inT
    simp only [hc]
  unfold cost at h1
  omega
/-! matchings -/
/-- things, one for each of l, all different -/
def Sdr (ch : Nat → List Nat) (l ts : List Nat) : Prop := ts.length = l.length ∧ ts.Nodup ∧ ∀ (i e t : Nat), l[i]? = some e → ts[i]? = some t → t ∈ ch e
theorem sdr_full {m : Nat} {ch : Nat → List Nat} (hch : ∀ e, ∀ t ∈ ch e, t < m) {l ts : List Nat} (h : Sdr ch l ts) : crk m ch l = l.length := by
  have le : ∀ l : List Nat, crk m ch l ≤ l.length := (crk_rank m ch hch).le_len
  refine Nat.le_antisymm (le l) ?_
  obtain ⟨c, hc, e⟩ := crk_ex m ch l
  rw [e]
  -- those inside have their things inside
  have key : ∀ (l ts : List Nat), Sdr ch l ts → ∀ X : List Nat, (∀ t ∈ X, t ∉ ts) → X.Nodup → (∀ t ∈ X, t ∈ mem m c) → X.length + l.length ≤ (mem m c).length + cntO ch c l := by
    intro l
    induction l with
    | nil =>
      intro ts _ X _ nd sub
      have : X.length ≤ (mem m c).length := len_sub nd sub
      simp [cntO]
      exact this
    | cons a l ih =>
      intro ts hs X hX nd sub
      obtain ⟨h1, h2, h3⟩ := hs
      cases ts with
      | nil => simp at h1
      | cons t ts =>
        have hs' : Sdr ch l ts := ⟨by simpa using h1, (List.nodup_cons.mp h2).2, fun i e t' g1 g2 => h3 (i + 1) e t' (by simpa using g1) (by simpa using g2)⟩
        have hta : t ∈ ch a := h3 0 a t rfl rfl
        have ht := (List.nodup_cons.mp h2).1
        have ec : cntO ch c (a :: l) = cntO ch c l + (if inT ch c a then 0 else 1) := by
          unfold cntO
          rw [List.countP_cons]
          cases inT ch c a <;> simp
        rw [ec]
        cases q : inT ch c a with
        | false =>
          have := ih ts hs' X (fun x hx => fun hm => hX x hx (List.mem_cons_of_mem _ hm)) nd sub
          simp only [List.length_cons, Bool.false_eq_true, if_false]
          omega
        | true =>
          have tin : t ∈ mem m c := mem_iff.mpr ⟨hch a t hta, by
            unfold inT at q
            rw [List.all_eq_true] at q
            exact q t hta⟩
          have := ih ts hs' (t :: X) (fun x hx => by
            rcases List.mem_cons.mp hx with rfl | hx
            · exact ht
            · exact fun hm => hX x hx (List.mem_cons_of_mem _ hm)) (List.nodup_cons.mpr ⟨fun hm => hX t hm List.mem_cons_self, nd⟩) (fun x hx => by
            rcases List.mem_cons.mp hx with rfl | hx
            · exact tin
            · exact sub x hx)
          simp only [List.length_cons, if_true] at this ⊢
          omega
  have := key l ts h [] (fun t h => by cases h) List.nodup_nil (fun t h => by cases h)
  simpa [cost] using this
/-! owners -/
abbrev Own := Nat → Option Nat
def upO (o : Own) (t x : Nat) : Own := fun u => if u = t then some x else o u
/-- x gets a thing outside s, moving owners along a way -/
inductive Aug (ch : Nat → List Nat) : List Nat → Own → Nat → Own → Prop
  | base {s : List Nat} {o : Own} {x t : Nat} : t ∈ ch x → t ∉ s → o t = none → Aug ch s o x (upO o t x)
  | step {s s' : List Nat} {o o1 : Own} {x y t : Nat} : t ∈ ch x → t ∉ s → o t = some y → (∀ u, u ∈ s ∨ u = t → u ∈ s') → Aug ch s' o y o1 → Aug ch s o x (upO o1 t x)
theorem Aug.keep {ch : Nat → List Nat} {s : List Nat} {o o' : Own} {x : Nat} (h : Aug ch s o x o') : ∀ u ∈ s, o' u = o u := by
  induction h with
  | base h1 h2 h3 =>
    intro u hu
    unfold upO
    rw [if_neg (fun q => h2 (by rw [← q]; exact hu))]
  | step h1 h2 h3 h4 _ ih =>
    intro u hu
    unfold upO
    rw [if_neg (fun q => h2 (by rw [← q]; exact hu))]
    exact ih u (h4 u (.inl hu))
/-- everybody keeps a thing, x has one, nobody else -/
structure Good (ch : Nat → List Nat) (o : Own) (M : List Nat) : Prop where
  val : ∀ t x, o t = some x → t ∈ ch x ∧ x ∈ M
  inj : ∀ t u x, o t = some x → o u = some x → t = u
  cov : ∀ x ∈ M, ∃ t, o t = some x
theorem Aug.spec {ch : Nat → List Nat} {s : List Nat} {o o' : Own} {x : Nat} (h : Aug ch s o x o') (inj : ∀ t u z, o t = some z → o u = some z → t = u) (hx : ∀ u, o u = some x → u ∈ s) :
    (∀ t z, o' t = some z → t ∈ ch z ∨ o t = some z) ∧ (∀ v z, o' v = some z → o v = some z ∨ z = x ∨ ∃ w, w ∉ s ∧ o w = some z) ∧ (∀ z u, o u = some z → ∃ t, o' t = some z) ∧ (∃ t, t ∉ s ∧ o' t = some x) ∧
    (∀ t u z, o' t = some z → o' u = some z → t = u ∨ (z = x ∧ (t ∈ s ∨ u ∈ s))) := by
  induction h with
  | @base s o x t h1 h2 h3 =>
    refine ⟨fun u z e => ?_, fun u z e => ?_, fun z u e => ?_, ⟨t, h2, by simp [upO]⟩, fun t1 u1 z e1 e2 => ?_⟩
    · unfold upO at e
      split at e
      · rename_i q; cases e; subst q; exact .inl h1
      · exact .inr e
    · unfold upO at e
      split at e
      · cases e; exact .inr (.inl rfl)
      · exact .inl e
    · refine ⟨u, ?_⟩
      unfold upO
      rw [if_neg (fun q => by rw [q, h3] at e; cases e)]
      exact e
    · unfold upO at e1 e2
      split at e1 <;> split at e2
      · rename_i q1 q2; exact .inl (by rw [q1, q2])
      · cases e1; exact .inr ⟨rfl, .inr (hx _ e2)⟩
      · cases e2; exact .inr ⟨rfl, .inl (hx _ e1)⟩
      · exact .inl (inj _ _ _ e1 e2)
  | @step s s' o o1 x y t h1 h2 h3 h4 ha ih =>
    have hy : ∀ u, o u = some y → u ∈ s' := fun u e => h4 u (.inr (inj _ _ _ e h3))
    obtain ⟨i2, i1, i3, ⟨ty, i4, i4'⟩, i5⟩ := ih inj hy
    have kt : o1 t = o t := ha.keep t (h4 t (.inr rfl))
    have hty : ty ≠ t := fun q => i4 (h4 ty (.inr q))
    have ownx : ∀ v, o1 v = some x → o v = some x := fun v e => by
      rcases i1 v x e with q | q | ⟨w, hw, q⟩
      · exact q
      · rw [← q] at h3; exact absurd (hx t h3) h2
      · exact absurd (h4 w (.inl (hx w q))) hw
    refine ⟨fun u z e => ?_, fun u z e => ?_, fun z u e => ?_, ⟨t, h2, by simp [upO]⟩, fun t1 u1 z e1 e2 => ?_⟩
    · unfold upO at e
      split at e
      · rename_i q; cases e; subst q; exact .inl h1
      · exact i2 u z e
    · unfold upO at e
      split at e
      · cases e; exact .inr (.inl rfl)
      · rcases i1 u z e with q | q | ⟨w, hw, q⟩
        · exact .inl q
        · exact .inr (.inr ⟨t, h2, by rw [q]; exact h3⟩)
        · exact .inr (.inr ⟨w, fun z => hw (h4 w (.inl z)), q⟩)
    · obtain ⟨w, hw⟩ := i3 z u e
      by_cases hwt : w = t
      · subst hwt
        rw [kt, h3] at hw
        cases hw
        refine ⟨ty, ?_⟩
        unfold upO
        rw [if_neg hty]
        exact i4'
      · refine ⟨w, ?_⟩
        unfold upO
        rw [if_neg hwt]
        exact hw
    · unfold upO at e1 e2
      split at e1 <;> split at e2
      · rename_i q1 q2; exact .inl (by rw [q1, q2])
      · cases e1; exact .inr ⟨rfl, .inr (hx _ (ownx _ e2))⟩
      · cases e2; exact .inr ⟨rfl, .inl (hx _ (ownx _ e1))⟩
      · rename_i q1 q2
        rcases i5 _ _ _ e1 e2 with q | ⟨q, q3⟩
        · exact .inl q
        · -- z = y owns t alone among the seen ones
          subst q
          rcases q3 with q3 | q3
          · rw [ha.keep _ q3] at e1
            exact absurd (inj _ _ _ e1 h3) q1
          · rw [ha.keep _ q3] at e2
            exact absurd (inj _ _ _ e2 h3) q2
theorem Good.aug {ch : Nat → List Nat} {o o' : Own} {M : List Nat} {x : Nat} (G : Good ch o M) (hx : x ∉ M) (h : Aug ch [] o x o') : Good ch o' (M ++ [x]) := by
  obtain ⟨a, b, c, ⟨tx, _, d⟩, e⟩ := h.spec G.inj (fun u q => absurd (G.val u x q).2 hx)
  refine ⟨fun t z q => ⟨?_, ?_⟩, fun t u z q1 q2 => ?_, fun z hz => ?_⟩
  · rcases a t z q with r | r
    · exact r
    · exact (G.val t z r).1
  · rcases b t z q with r | r | ⟨w, _, r⟩
    · exact List.mem_append_left _ (G.val t z r).2
    · rw [r]; simp
    · exact List.mem_append_left _ (G.val w z r).2
  · rcases e t u z q1 q2 with r | ⟨_, r | r⟩
    · exact r
    · cases r
    · cases r
  · rcases List.mem_append.mp hz with h | h
    · obtain ⟨t, q⟩ := G.cov z h
      exact c z t q
    · rw [List.mem_singleton.mp h]; exact ⟨tx, d⟩
theorem Good.sdr {ch : Nat → List Nat} {o : Own} {M : List Nat} (G : Good ch o M) : ∀ l : List Nat, l.Nodup → (∀ x ∈ l, x ∈ M) → ∃ ts : List Nat, Sdr ch l ts ∧ ∀ (i e t : Nat), l[i]? = some e → ts[i]? = some t → o t = some e
  | [], _, _ => ⟨[], ⟨rfl, List.nodup_nil, fun i e t h => by simp at h⟩, fun i e t h => by simp at h⟩
  | a :: l, nd, h => by
    obtain ⟨ts, ⟨h1, h2, h3⟩, h4⟩ := Good.sdr G l (List.nodup_cons.mp nd).2 fun x hx => h x (List.mem_cons_of_mem _ hx)
    obtain ⟨t, ht⟩ := G.cov a (h a List.mem_cons_self)
    refine ⟨t :: ts, ⟨by simp [h1], List.nodup_cons.mpr ⟨fun hm => ?_, h2⟩, fun i e u g1 g2 => ?_⟩, fun i e u g1 g2 => ?_⟩
    · obtain ⟨i, hi, e⟩ := List.getElem_of_mem hm
      have hi' : i < l.length := by omega
      have := h4 i l[i] t (List.getElem?_eq_getElem hi') (by rw [List.getElem?_eq_getElem hi, e])
      rw [ht] at this
      exact (List.nodup_cons.mp nd).1 (by rw [Option.some.inj this]; exact List.getElem_mem hi')
    · cases i with
      | zero => simp at g1 g2; subst g1 g2; exact (G.val t a ht).1
      | succ i => exact h3 i e u (by simpa using g1) (by simpa using g2)
    · cases i with
      | zero => simp at g1 g2; subst g1 g2; exact ht
      | succ i => exact h4 i e u (by simpa using g1) (by simpa using g2)
theorem Good.full {m : Nat} {ch : Nat → List Nat} (hch : ∀ e, ∀ t ∈ ch e, t < m) {o : Own} {M : List Nat} (G : Good ch o M) (nd : M.Nodup) : crk m ch M = M.length := by
  obtain ⟨ts, h, _⟩ := G.sdr M nd fun _ h => h
  exact sdr_full hch h
/-- x can't get a thing: what was seen -/
structure Stuck (ch : Nat → List Nat) (s : List Nat) (o : Own) (x : Nat) (s' : List Nat) : Prop where
  all : ∀ t ∈ ch x, t ∈ s'
  own : ∀ t ∈ s', t ∈ s ∨ ∃ y, o t = some y ∧ ∀ u ∈ ch y, u ∈ s'
theorem Good.stuck {m : Nat} {ch : Nat → List Nat} (hch : ∀ e, ∀ t ∈ ch e, t < m) {o : Own} {M s' : List Nat} {x : Nat} (G : Good ch o M) (nd : s'.Nodup) (h : Stuck ch [] o x s') : crk m ch (x :: M) ≤ M.length := by
  have h1 := crk_things hch s' (x :: M)
  rw [List.countP_cons] at h1
  have e0 : (!((ch x).all fun t => decide (t ∈ s'))) = false := by
    simp only [Bool.not_eq_false', List.all_eq_true, decide_eq_true_eq]
    exact h.all
  rw [e0] at h1
  simp only [Bool.false_eq_true, if_false, Nat.add_zero] at h1
  -- owners of the seen things
  have own' : ∀ t ∈ s', ∃ y, o t = some y ∧ ∀ u ∈ ch y, u ∈ s' := fun t ht => by
    rcases h.own t ht with q | q
    · cases q
    · exact q
  have cnt : ∀ l : List Nat, l.Nodup → (∀ t ∈ l, t ∈ s') → l.length ≤ (M.filter fun e => (ch e).all fun t => decide (t ∈ s')).length := by
    intro l nd hl
    have hm : (l.map fun t => (o t).getD 0).length = l.length := List.length_map _
    rw [← hm]
    refine len_sub ?_ ?_
    · have go : ∀ l : List Nat, l.Nodup → (∀ t ∈ l, t ∈ s') → (l.map fun t => (o t).getD 0).Nodup := by
        intro l
        induction l with
        | nil => exact fun _ _ => List.nodup_nil
        | cons a l ih =>
          intro nd hl
          rw [List.map_cons, List.nodup_cons]
          refine ⟨fun hm => ?_, ih (List.nodup_cons.mp nd).2 fun t ht => hl t (List.mem_cons_of_mem _ ht)⟩
          obtain ⟨b, hb, e⟩ := List.mem_map.mp hm
          obtain ⟨y, q1, _⟩ := own' a (hl a List.mem_cons_self)
          obtain ⟨z, q2, _⟩ := own' b (hl b (List.mem_cons_of_mem _ hb))
          rw [q1, q2] at e
          simp at e
          subst e
          have := G.inj _ _ _ q1 q2
          subst this
          exact (List.nodup_cons.mp nd).1 hb
      exact go l nd hl
    · intro y hy
      obtain ⟨t, ht, e⟩ := List.mem_map.mp hy
      obtain ⟨z, q1, q2⟩ := own' t (hl t ht)
      rw [q1] at e
      simp at e
      subst e
      refine List.mem_filter.mpr ⟨(G.val t z q1).2, ?_⟩
      simp only [List.all_eq_true, decide_eq_true_eq]
      exact q2
  have h2 := cnt s' nd fun _ h => h
  rw [← List.countP_eq_length_filter] at h2
  have h3 := List.length_eq_countP_add_countP (fun e => (ch e).all fun t => decide (t ∈ s')) (l := M)
  have h4 : (M.countP fun e => !((ch e).all fun t => decide (t ∈ s'))) = M.countP fun a => decide ¬((ch a).all fun t => decide (t ∈ s')) = true := by
    congr 1
    funext e
    cases (ch e).all fun t => decide (t ∈ s') <;> simp
  rw [h4] at h1
  omega
end Th
set_option Elab.async false
set_option linter.all false
set_option maxRecDepth 100000
set_option maxHeartbeats 4000000
/-! choices -/
namespace Bd
open PySem PySem.Spec PyProof.Rows L2 Dn
local macro_rules
  | `(tactic| simp! [$xs,*]) => `(tactic| simp only [Dn.r_seq, Dn.r_seqN, Dn.r_seqB, Dn.r_seqC, Dn.r_seqR, Dn.r_nx, Dn.r_bk, Dn.r_ct, Dn.r_retN, Dn.r_kNx, Dn.r_drop, Dn.r_kDrop, Dn.r_kOwnL, Dn.r_kSh, Dn.r_kOwnS, Dn.r_kRet, Dn.r_ret, Dn.r_ifS, Dn.r_ifT, Dn.r_ifF, Dn.r_set, Dn.r_kSet, Dn.r_setS, Dn.r_slotN, Dn.r_slotS, Dn.ro_sh, Dn.ro_lst, Dn.ro_dk, Dn.ro_dt, Dn.ro_set, Dn.ro_ro, Dn.ro_scr, Dn.own_sh, Dn.own_lst, Dn.own_dk, Dn.own_dt, Dn.own_set, Dn.own_ro, Dn.ro_rv, Dn.own_rv, Dn.rv_sh, Dn.rv_lst, Dn.rv_ro, Dn.rv_scr, Dn.rv_rv, Dn.rv_dk, Dn.rv_dt, Dn.rv_set, Dn.own_scr, Dn.r_setT, Dn.r_kTg, Dn.r_c, Dn.r_name, Dn.r_nameS, Dn.r_nameL, Dn.r_nameR, Dn.r_nameV, Dn.r_nameX, Dn.r_nameK, Dn.r_nameT, Dn.r_nameU, Dn.r_frz, Dn.r_frzS, Dn.r_frzL, Dn.r_frzI, Dn.r_frzO, Dn.r_frzOS, Dn.r_frzOL, Dn.r_sh, Dn.r_kMSh, Dn.r_resL, Dn.r_resS, Dn.r_kRes, Dn.r_bin, Dn.r_bin1, Dn.r_bin2, Dn.r_bin3, Dn.r_kOp, Dn.r_un, Dn.r_un1, Dn.r_un2, Dn.r_ix, Dn.r_tst, Dn.r_kTst, Dn.r_tand, Dn.r_tandT, Dn.r_tandF, Dn.r_tor, Dn.r_torT, Dn.r_torF, Dn.r_tnot, Dn.r_kTnot, Dn.r_tru, Dn.r_kTru, Dn.r_kTru2, Dn.r_kTru3, Dn.r_yes, Dn.r_andV, Dn.r_andT, Dn.r_andF, Dn.r_orV, Dn.r_orT, Dn.r_orF, Dn.r_notV, Dn.r_kNotV, Dn.r_if, Dn.r_ifeT, Dn.r_ifeF, Dn.r_fnil, Dn.r_fcons, Dn.r_fc1, Dn.r_fc2, Dn.r_tup, Dn.r_lst, Dn.r_kTup, Dn.r_kLst, Dn.r_anil, Dn.r_acons, Dn.r_ac1, Dn.r_ac2, Dn.r_call, Dn.r_kCall, Dn.r_kGo0, Dn.r_kGo, Dn.r_kBack, Dn.r_kLs, Dn.r_roL, Dn.r_roO, Dn.r_roV, Dn.r_roSL, Dn.r_roST, Dn.r_roSI, Dn.r_roSB, Dn.r_roSS, Dn.r_roSN, Dn.r_roSD, Dn.r_mk0, Dn.r_mkT, Dn.r_mkF, Dn.r_kMk1, Dn.r_kMk2, Dn.r_mo0, Dn.r_moT, Dn.r_moF, Dn.r_md0, Dn.r_mdT, Dn.r_mdL, Dn.r_mdF, Dn.r_ran, Dn.r_rac, Dn.r_ra1, Dn.r_ra2, Dn.r_sbn, Dn.r_sbl, Dn.r_sbs, Dn.r_sbL, Dn.r_sbK, Dn.r_sbT, Dn.r_sbU, Dn.r_sbS, Dn.r_sbR, Dn.r_sbV, Dn.r_sbX, Dn.r_dn, Dn.r_dl, Dn.r_ds, Dn.r_in, Dn.r_il, Dn.r_is, Dn.r_kPut0, Dn.r_kPut, Dn.r_setIx, Dn.r_sx1, Dn.r_sx2, Dn.r_sx3, Dn.r_sx4, Dn.r_sx5, Dn.r_stIx, Dn.r_app, Dn.r_ap0, Dn.r_ap1, Dn.r_ap2, Dn.r_aug, Dn.r_au0, Dn.r_au1, Dn.r_au2, Dn.r_au3, Dn.r_gn, Dn.r_gt, Dn.r_gcons, Dn.r_kGc, Dn.r_gnil, Dn.r_it, Dn.r_itL, Dn.r_itT, Dn.r_itO, Dn.r_itS, Dn.r_pinL, Dn.r_pinR, Dn.r_pinV, Dn.r_pinX, Dn.r_rng1, Dn.r_kR1, Dn.r_rng2, Dn.r_kQ1, Dn.r_kQ2, Dn.r_for, Dn.r_kFor, Dn.r_kUnl, Dn.r_unl0, Dn.r_unl1, Dn.r_unS, Dn.r_lc, Dn.r_lc1, Dn.r_lc2, Dn.r_wn, Dn.r_wc, Dn.r_wS, Dn.r_fn, Dn.r_fc, Dn.r_isF, Dn.r_clr, Dn.r_kClr, Dn.r_cl0, Dn.r_clk, Dn.r_kClN, Dn.r_kClS, Dn.r_run, Dn.r_outR, Dn.r_outN, Dn.r_finS, Dn.r_finL, Dn.r_finK, Dn.r_finT, Dn.r_finE, Dn.r_ouT, Dn.r_ouF, Dn.r_ouN, Dn.r_kIx, Dn.v_addI, Dn.v_addI', Dn.v_addT, Dn.v_addLAA, Dn.v_addLAB, Dn.v_addLAC, Dn.v_addLAV, Dn.v_addLBA, Dn.v_addLBB, Dn.v_addLBC, Dn.v_addLBV, Dn.v_addLCA, Dn.v_addLCB, Dn.v_addLCC, Dn.v_addLCV, Dn.v_addLVA, Dn.v_addLVB, Dn.v_addLVC, Dn.v_addLVV, Dn.v_sub, Dn.v_mulR, Dn.v_mulF, Dn.v_mulL, Dn.v_fdiv, Dn.v_mod, Dn.v_pow, Dn.v_pow18, Dn.v_lt, Dn.v_le, Dn.v_gt, Dn.v_ge, Dn.v_neg, Dn.v_int, Dn.v_intB, Dn.v_min, Dn.v_eqI, Dn.v_neI, Dn.v_isNN, Dn.v_isIN, Dn.v_isTN, Dn.v_isLN, Dn.v_isVN, Dn.v_isON, Dn.v_ixA, Dn.v_lenA, Dn.v_listA, Dn.v_truA, Dn.v_tupleA, Dn.v_revA, Dn.v_slA, Dn.v_inA, Dn.v_ixB, Dn.v_lenB, Dn.v_listB, Dn.v_truB, Dn.v_tupleB, Dn.v_revB, Dn.v_slB, Dn.v_inB, Dn.v_ixC, Dn.v_lenC, Dn.v_listC, Dn.v_truC, Dn.v_tupleC, Dn.v_revC, Dn.v_slC, Dn.v_inC, Dn.v_ixV, Dn.v_lenV, Dn.v_listV, Dn.v_truV, Dn.v_tupleV, Dn.v_revV, Dn.v_slV, Dn.v_inV, Dn.v_ixX, Dn.v_lenX, Dn.v_listX, Dn.v_truX, Dn.v_tupleX, Dn.v_revX, Dn.v_slX, Dn.v_inX, Dn.v_ixT, Dn.v_lenT, Dn.v_listT, Dn.v_truT, Dn.v_inT, Dn.v_tupleT, Dn.v_slT, Dn.v_truI, Dn.v_truBl, Dn.v_truN, Dn.sh_ints, Dn.sh_intsT, Dn.sh_int, Dn.atI_0, Dn.atI_1, Dn.atI_2, Dn.atI_3, Dn.atI_4, Dn.atI_5, Dn.ixN_0, Dn.ixN_1, Dn.ixN_2, Dn.ixN_3, Dn.sh_dl, Dn.sh_dlT, Dn.v_inNA, Dn.v_inNB, Dn.v_inNC, Dn.v_inNV, Dn.v_inNX, Dn.v_inNT, Dn.for_nil, Dn.r_kBody, Dn.r_loopN, Dn.r_loopC, Dn.r_loopB, Dn.r_loopR, Dn.r_turn, Dn.r_kT0, Dn.r_kT1, Dn.r_kT1F, Dn.r_kT2, Dn.v_ixKi, Dn.v_inDKi, Dn.r_stIxK, Dn.r_gsum, Dn.r_gs1, Dn.r_gs2, Dn.r_gs3, Dn.r_gany, Dn.r_gall, Dn.r_gq1, Dn.r_gq2, List.getElem?_cons_zero, List.getElem?_cons_succ, List.set_cons_zero, List.set_cons_succ, List.map_cons, List.map_nil, List.replicate_succ, List.replicate_zero, List.length_cons, List.length_nil, List.cons_append, List.nil_append, List.take_succ_cons, List.take_zero, List.take_nil, if_true, if_false, ite_true, ite_false, Bool.not_true, Bool.not_false, Bool.and_true, Bool.true_and, Bool.and_false, Bool.false_and, Bool.or_false, Bool.false_or, Bool.or_true, Bool.true_or, Option.isNone_none, Option.isNone_some, Option.map_some, Option.map_none, Bool.false_eq_true, decide_true, decide_false, Nat.zero_add, Nat.add_zero, two64, Option.bind_some, Option.bind_none, entSl, sS, sL, sV, sM, LV.int, LV.bl, LV.str, LV.non, true_and, and_true, or_true, true_or, reduceCtorEq, Dn.mChain, Dn.mSl, mPart, mNoP, Dn.toI, toB, mLRg1, mExt, slotC, mDk, mDt, Bool.bne_false, Bool.bne_true, bne_self_eq_false, beq_self_eq_true, Nat.reduceAdd, Nat.reduceSub, Nat.reduceMul, Nat.reduceLT, Nat.reduceLeDiff, Nat.reduceEqDiff, Nat.reduceBEq, Int.reduceLT, Int.reduceLE, Int.reduceAdd, Int.reduceSub, Int.reduceMul, Int.reduceNeg, Int.reduceToNat, Int.reduceEq, Int.reduceBEq, Int.reducePow, Int.cast_ofNat_Int, Nat.reducePow, reduceIte, Int.reduceNegSucc, Int.reduceMod, Int.reduceDiv, $xs,*])
  | `(tactic| simp!) => `(tactic| simp only [Dn.r_seq, Dn.r_seqN, Dn.r_seqB, Dn.r_seqC, Dn.r_seqR, Dn.r_nx, Dn.r_bk, Dn.r_ct, Dn.r_retN, Dn.r_kNx, Dn.r_drop, Dn.r_kDrop, Dn.r_kOwnL, Dn.r_kSh, Dn.r_kOwnS, Dn.r_kRet, Dn.r_ret, Dn.r_ifS, Dn.r_ifT, Dn.r_ifF, Dn.r_set, Dn.r_kSet, Dn.r_setS, Dn.r_slotN, Dn.r_slotS, Dn.ro_sh, Dn.ro_lst, Dn.ro_dk, Dn.ro_dt, Dn.ro_set, Dn.ro_ro, Dn.ro_scr, Dn.own_sh, Dn.own_lst, Dn.own_dk, Dn.own_dt, Dn.own_set, Dn.own_ro, Dn.ro_rv, Dn.own_rv, Dn.rv_sh, Dn.rv_lst, Dn.rv_ro, Dn.rv_scr, Dn.rv_rv, Dn.rv_dk, Dn.rv_dt, Dn.rv_set, Dn.own_scr, Dn.r_setT, Dn.r_kTg, Dn.r_c, Dn.r_name, Dn.r_nameS, Dn.r_nameL, Dn.r_nameR, Dn.r_nameV, Dn.r_nameX, Dn.r_nameK, Dn.r_nameT, Dn.r_nameU, Dn.r_frz, Dn.r_frzS, Dn.r_frzL, Dn.r_frzI, Dn.r_frzO, Dn.r_frzOS, Dn.r_frzOL, Dn.r_sh, Dn.r_kMSh, Dn.r_resL, Dn.r_resS, Dn.r_kRes, Dn.r_bin, Dn.r_bin1, Dn.r_bin2, Dn.r_bin3, Dn.r_kOp, Dn.r_un, Dn.r_un1, Dn.r_un2, Dn.r_ix, Dn.r_tst, Dn.r_kTst, Dn.r_tand, Dn.r_tandT, Dn.r_tandF, Dn.r_tor, Dn.r_torT, Dn.r_torF, Dn.r_tnot, Dn.r_kTnot, Dn.r_tru, Dn.r_kTru, Dn.r_kTru2, Dn.r_kTru3, Dn.r_yes, Dn.r_andV, Dn.r_andT, Dn.r_andF, Dn.r_orV, Dn.r_orT, Dn.r_orF, Dn.r_notV, Dn.r_kNotV, Dn.r_if, Dn.r_ifeT, Dn.r_ifeF, Dn.r_fnil, Dn.r_fcons, Dn.r_fc1, Dn.r_fc2, Dn.r_tup, Dn.r_lst, Dn.r_kTup, Dn.r_kLst, Dn.r_anil, Dn.r_acons, Dn.r_ac1, Dn.r_ac2, Dn.r_call, Dn.r_kCall, Dn.r_kGo0, Dn.r_kGo, Dn.r_kBack, Dn.r_kLs, Dn.r_roL, Dn.r_roO, Dn.r_roV, Dn.r_roSL, Dn.r_roST, Dn.r_roSI, Dn.r_roSB, Dn.r_roSS, Dn.r_roSN, Dn.r_roSD, Dn.r_mk0, Dn.r_mkT, Dn.r_mkF, Dn.r_kMk1, Dn.r_kMk2, Dn.r_mo0, Dn.r_moT, Dn.r_moF, Dn.r_md0, Dn.r_mdT, Dn.r_mdL, Dn.r_mdF, Dn.r_ran, Dn.r_rac, Dn.r_ra1, Dn.r_ra2, Dn.r_sbn, Dn.r_sbl, Dn.r_sbs, Dn.r_sbL, Dn.r_sbK, Dn.r_sbT, Dn.r_sbU, Dn.r_sbS, Dn.r_sbR, Dn.r_sbV, Dn.r_sbX, Dn.r_dn, Dn.r_dl, Dn.r_ds, Dn.r_in, Dn.r_il, Dn.r_is, Dn.r_kPut0, Dn.r_kPut, Dn.r_setIx, Dn.r_sx1, Dn.r_sx2, Dn.r_sx3, Dn.r_sx4, Dn.r_sx5, Dn.r_stIx, Dn.r_app, Dn.r_ap0, Dn.r_ap1, Dn.r_ap2, Dn.r_aug, Dn.r_au0, Dn.r_au1, Dn.r_au2, Dn.r_au3, Dn.r_gn, Dn.r_gt, Dn.r_gcons, Dn.r_kGc, Dn.r_gnil, Dn.r_it, Dn.r_itL, Dn.r_itT, Dn.r_itO, Dn.r_itS, Dn.r_pinL, Dn.r_pinR, Dn.r_pinV, Dn.r_pinX, Dn.r_rng1, Dn.r_kR1, Dn.r_rng2, Dn.r_kQ1, Dn.r_kQ2, Dn.r_for, Dn.r_kFor, Dn.r_kUnl, Dn.r_unl0, Dn.r_unl1, Dn.r_unS, Dn.r_lc, Dn.r_lc1, Dn.r_lc2, Dn.r_wn, Dn.r_wc, Dn.r_wS, Dn.r_fn, Dn.r_fc, Dn.r_isF, Dn.r_clr, Dn.r_kClr, Dn.r_cl0, Dn.r_clk, Dn.r_kClN, Dn.r_kClS, Dn.r_run, Dn.r_outR, Dn.r_outN, Dn.r_finS, Dn.r_finL, Dn.r_finK, Dn.r_finT, Dn.r_finE, Dn.r_ouT, Dn.r_ouF, Dn.r_ouN, Dn.r_kIx, Dn.v_addI, Dn.v_addI', Dn.v_addT, Dn.v_addLAA, Dn.v_addLAB, Dn.v_addLAC, Dn.v_addLAV, Dn.v_addLBA, Dn.v_addLBB, Dn.v_addLBC, Dn.v_addLBV, Dn.v_addLCA, Dn.v_addLCB, Dn.v_addLCC, Dn.v_addLCV, Dn.v_addLVA, Dn.v_addLVB, Dn.v_addLVC, Dn.v_addLVV, Dn.v_sub, Dn.v_mulR, Dn.v_mulF, Dn.v_mulL, Dn.v_fdiv, Dn.v_mod, Dn.v_pow, Dn.v_pow18, Dn.v_lt, Dn.v_le, Dn.v_gt, Dn.v_ge, Dn.v_neg, Dn.v_int, Dn.v_intB, Dn.v_min, Dn.v_eqI, Dn.v_neI, Dn.v_isNN, Dn.v_isIN, Dn.v_isTN, Dn.v_isLN, Dn.v_isVN, Dn.v_isON, Dn.v_ixA, Dn.v_lenA, Dn.v_listA, Dn.v_truA, Dn.v_tupleA, Dn.v_revA, Dn.v_slA, Dn.v_inA, Dn.v_ixB, Dn.v_lenB, Dn.v_listB, Dn.v_truB, Dn.v_tupleB, Dn.v_revB, Dn.v_slB, Dn.v_inB, Dn.v_ixC, Dn.v_lenC, Dn.v_listC, Dn.v_truC, Dn.v_tupleC, Dn.v_revC, Dn.v_slC, Dn.v_inC, Dn.v_ixV, Dn.v_lenV, Dn.v_listV, Dn.v_truV, Dn.v_tupleV, Dn.v_revV, Dn.v_slV, Dn.v_inV, Dn.v_ixX, Dn.v_lenX, Dn.v_listX, Dn.v_truX, Dn.v_tupleX, Dn.v_revX, Dn.v_slX, Dn.v_inX, Dn.v_ixT, Dn.v_lenT, Dn.v_listT, Dn.v_truT, Dn.v_inT, Dn.v_tupleT, Dn.v_slT, Dn.v_truI, Dn.v_truBl, Dn.v_truN, Dn.sh_ints, Dn.sh_intsT, Dn.sh_int, Dn.atI_0, Dn.atI_1, Dn.atI_2, Dn.atI_3, Dn.atI_4, Dn.atI_5, Dn.ixN_0, Dn.ixN_1, Dn.ixN_2, Dn.ixN_3, Dn.sh_dl, Dn.sh_dlT, Dn.v_inNA, Dn.v_inNB, Dn.v_inNC, Dn.v_inNV, Dn.v_inNX, Dn.v_inNT, Dn.for_nil, Dn.r_kBody, Dn.r_loopN, Dn.r_loopC, Dn.r_loopB, Dn.r_loopR, Dn.r_turn, Dn.r_kT0, Dn.r_kT1, Dn.r_kT1F, Dn.r_kT2, Dn.v_ixKi, Dn.v_inDKi, Dn.r_stIxK, Dn.r_gsum, Dn.r_gs1, Dn.r_gs2, Dn.r_gs3, Dn.r_gany, Dn.r_gall, Dn.r_gq1, Dn.r_gq2, List.getElem?_cons_zero, List.getElem?_cons_succ, List.set_cons_zero, List.set_cons_succ, List.map_cons, List.map_nil, List.replicate_succ, List.replicate_zero, List.length_cons, List.length_nil, List.cons_append, List.nil_append, List.take_succ_cons, List.take_zero, List.take_nil, if_true, if_false, ite_true, ite_false, Bool.not_true, Bool.not_false, Bool.and_true, Bool.true_and, Bool.and_false, Bool.false_and, Bool.or_false, Bool.false_or, Bool.or_true, Bool.true_or, Option.isNone_none, Option.isNone_some, Option.map_some, Option.map_none, Bool.false_eq_true, decide_true, decide_false, Nat.zero_add, Nat.add_zero, two64, Option.bind_some, Option.bind_none, entSl, sS, sL, sV, sM, LV.int, LV.bl, LV.str, LV.non, true_and, and_true, or_true, true_or, reduceCtorEq, Dn.mChain, Dn.mSl, mPart, mNoP, Dn.toI, toB, mLRg1, mExt, slotC, mDk, mDt, Bool.bne_false, Bool.bne_true, bne_self_eq_false, beq_self_eq_true, Nat.reduceAdd, Nat.reduceSub, Nat.reduceMul, Nat.reduceLT, Nat.reduceLeDiff, Nat.reduceEqDiff, Nat.reduceBEq, Int.reduceLT, Int.reduceLE, Int.reduceAdd, Int.reduceSub, Int.reduceMul, Int.reduceNeg, Int.reduceToNat, Int.reduceEq, Int.reduceBEq, Int.reducePow, Int.cast_ofNat_Int, Nat.reducePow, reduceIte, Int.reduceNegSucc, Int.reduceMod, Int.reduceDiv])
abbrev SeqL (L : LV) (ds : List PyData) : Prop := L = .rv ds ∨ L = .sh (.tuple ds)
def tupD (l : List Nat) : PyData := .tuple (dl l)
def choicesD (m : Nat) (cs : List (List Nat)) : PyData := .tuple [.str "choices", .int m, .tuple (cs.map tupD)]
theorem ro_choices (m : Nat) (cs : List (List Nat)) : roOf (.sh (choicesD m cs)) = some (.sh (choicesD m cs)) := rfl
def chOf (cs : List (List Nat)) : Nat → List Nat := fun e => cs.getD e []
structure COk (m : Nat) (cs : List (List Nat)) : Prop where
  small : m ≤ 14
  few : cs.length ≤ 1000
  lt : ∀ c ∈ cs, ∀ t ∈ c, t < m
  asc : ∀ c ∈ cs, c.Pairwise (· < ·)
theorem choice_at {cs : List (List Nat)} {e : Nat} (h : e < cs.length) : L2.atI (cs.map tupD) (e : Int) = some (tupD (chOf cs e)) := by
  rw [at_nat, List.getElem?_map, List.getElem?_eq_getElem h]
  unfold chOf
  rw [List.getD_eq_getElem?_getD, List.getElem?_eq_getElem h]
  rfl
theorem COk.ch {m : Nat} {cs : List (List Nat)} (G : COk m cs) : ∀ e, ∀ t ∈ chOf cs e, t < m := by
  intro e t h
  unfold chOf at h
  by_cases he : e < cs.length
  · rw [List.getD_eq_getElem?_getD, List.getElem?_eq_getElem he] at h
    exact G.lt _ (List.getElem_mem he) t h
  · rw [List.getD_eq_getElem?_getD, List.getElem?_eq_none (by omega)] at h
    cases h
theorem COk.ndup {m : Nat} {cs : List (List Nat)} (G : COk m cs) (e : Nat) : (chOf cs e).Nodup := by
  unfold chOf
  by_cases he : e < cs.length
  · rw [List.getD_eq_getElem?_getD, List.getElem?_eq_getElem he]
    exact (G.asc _ (List.getElem_mem he)).imp (fun h => Nat.ne_of_lt h)
  · rw [List.getD_eq_getElem?_getD, List.getElem?_eq_none (by omega)]
    exact List.nodup_nil
theorem COk.len {m : Nat} {cs : List (List Nat)} (G : COk m cs) (e : Nat) : (chOf cs e).length ≤ m := by
  have := Th.len_sub (l := chOf cs e) (l' := List.range m) (G.ndup e) fun t ht => List.mem_range.mpr (G.ch e t ht)
  rwa [List.length_range] at this
/-- the owners as a dict: the things ts, f tells whose -/
def odk (ts : List Nat) (f : Nat → Nat) : List (Key × PyData) := ts.map fun t : Nat => (.inl (t : Int), .int ((f t : Nat) : Int))
def ownOf (ts : List Nat) (f : Nat → Nat) : Th.Own := fun t => if t ∈ ts then some (f t) else none
theorem odk_get (f : Nat → Nat) (t : Nat) : ∀ ts : List Nat, getK (odk ts f) (.inl (t : Int)) = (ownOf ts f t).map di
  | [] => rfl
  | a :: ts => by
    have ih := odk_get f t ts
    unfold getK at ih ⊢
    show ((((Sum.inl (a : Int) : Key), PyData.int ((f a : Nat) : Int)) :: odk ts f).find? _).map _ = _
    rw [List.find?_cons]
    unfold ownOf
    by_cases h : a = t
    · subst h
      simp
      rfl
    · have e : decide ((Sum.inl (a : Int) : Key) = Sum.inl (t : Int)) = false := decide_eq_false fun q => h (by have := Sum.inl.inj q; omega)
      simp only [e]
      rw [ih]
      unfold ownOf
      have : (t ∈ a :: ts) ↔ t ∈ ts := by simp [Ne.symm h]
      simp only [this]
theorem odk_any (f : Nat → Nat) (t : Nat) (ts : List Nat) : ((odk ts f).any fun kv => decide (kv.1 = (.inl (t : Int) : Key))) = decide (t ∈ ts) := by
  rw [Bool.eq_iff_iff]
  simp only [odk, List.any_map, List.any_eq_true, Function.comp, decide_eq_true_eq]
  constructor
  · rintro ⟨x, hx, q⟩
    have := Sum.inl.inj q
    have : x = t := by omega
    rwa [← this]
  · exact fun h => ⟨t, h, rfl⟩
theorem odk_put (f : Nat → Nat) (t x : Nat) (ts : List Nat) : putKD (odk ts f) (.inl (t : Int)) (.int (x : Int)) = odk (if t ∈ ts then ts else ts ++ [t]) (fun u => if u = t then x else f u) := by
  unfold putKD
  rw [odk_any]
  by_cases h : t ∈ ts
  · rw [if_pos (decide_eq_true h), if_pos h]
    unfold odk
    rw [List.map_map]
    refine List.map_congr_left fun u _ => ?_
    show (if (Sum.inl ((u : Nat) : Int) : Key) = .inl (t : Int) then _ else _) = _
    by_cases hu : u = t
    · subst hu; simp
    · have : ¬ ((Sum.inl ((u : Nat) : Int) : Key) = .inl (t : Int)) := fun q => hu (by have := Sum.inl.inj q; omega)
      rw [if_neg this]
      show _ = (Sum.inl ((u : Nat) : Int), PyData.int (((if u = t then x else f u) : Nat) : Int))
      rw [if_neg hu]
  · rw [if_neg (by simp [h]), if_neg h]
    unfold odk
    rw [List.map_append]
    congr 1
    · refine List.map_congr_left fun u hu => ?_
      have : u ≠ t := fun q => h (by rw [← q]; exact hu)
      show _ = (Sum.inl ((u : Nat) : Int), PyData.int (((if u = t then x else f u) : Nat) : Int))
      rw [if_neg this]
    · simp
theorem ownOf_put (f : Nat → Nat) (t x : Nat) (ts : List Nat) : ownOf (if t ∈ ts then ts else ts ++ [t]) (fun u => if u = t then x else f u) = Th.upO (ownOf ts f) t x := by
  funext u
  unfold ownOf Th.upO
  by_cases hu : u = t
  · subst hu
    by_cases h : u ∈ ts <;> simp [h]
  · by_cases h : t ∈ ts <;> simp [h, hu]
theorem odk_len (ts : List Nat) (f : Nat → Nat) : (odk ts f).length = ts.length := List.length_map _
theorem toNatD (i : Nat) : (Option.map di (some i)) = some (.int (i : Int)) := rfl
/-- a way is looked for -/
theorem find_ok {m : Nat} {cs : List (List Nat)} (G : COk m cs) : ∀ (n x : Nat) (ts : List Nat) (f : Nat → Nat) (s : List Nat), x < cs.length → (∀ t ∈ ts, t < m ∧ f t < cs.length) → ts.Nodup → s.Nodup → (∀ t ∈ s, t < m) → m < n + s.length →
    ∃ (b : Bool) (ts' : List Nat) (f' : Nat → Nat) (s' : List Nat), R_find_thing n [.sh (choicesD m cs), .sh (.int (x : Int)), .dk (odk ts f), .lst (dl s)] = some (.sh (.bool b), [none, none, some (.dk (odk ts' f')), some (.lst (dl s'))]) ∧
      s'.Nodup ∧ (∀ t ∈ s', t < m) ∧ (∀ t ∈ s, t ∈ s') ∧ (∀ t ∈ ts', t < m ∧ f' t < cs.length) ∧ ts'.Nodup ∧
      (b = true → Th.Aug (chOf cs) s (ownOf ts f) x (ownOf ts' f')) ∧ (b = false → ts' = ts ∧ f' = f ∧ Th.Stuck (chOf cs) s (ownOf ts f) x s') := by
  intro n
  induction n with
  | zero =>
    intro x ts f s hx hts hnd hs hsm hn
    have := Th.len_sub (l := s) (l' := List.range m) hs fun t ht => List.mem_range.mpr (hsm t ht)
    rw [List.length_range] at this
    omega
  | succ n ih =>
    intro x ts f s hx hts hnd hs hsm hn
    have tlen : ∀ ts : List Nat, ts.Nodup → (∀ t ∈ ts, t < m) → ts.length ≤ m := fun ts nd h => by
      have := Th.len_sub (l := ts) (l' := List.range m) nd fun t ht => List.mem_range.mpr (h t ht)
      rwa [List.length_range] at this
    -- the loop over the things
    have loop : ∀ (post pre : List Nat) (s1 : List Nat), chOf cs x = pre ++ post → s1.Nodup → (∀ t ∈ s1, t < m) → (∀ t ∈ s, t ∈ s1) → (∀ t ∈ pre, t ∈ s1) →
        (∀ t ∈ s1, t ∈ s ∨ ∃ y, ownOf ts f t = some y ∧ ∀ u ∈ chOf cs y, u ∈ s1) →
        ∃ (b : Bool) (ts' : List Nat) (f' : Nat → Nat) (s' : List Nat), forLoop (mGn false 4) (lb_find_thing_1 (R_find_thing n)) (dl post) ⟨[sS (choicesD m cs), sS (.int (x : Int)), some ⟨.dk (odk ts f), true, false⟩, sM (dl s1), none]⟩ =
          some (if b then .rt (.sh (.bool true)) else .nx, ⟨[sS (choicesD m cs), sS (.int (x : Int)), some ⟨.dk (odk ts' f'), true, false⟩, sM (dl s'), none]⟩) ∧
          s'.Nodup ∧ (∀ t ∈ s', t < m) ∧ (∀ t ∈ s, t ∈ s') ∧ (∀ t ∈ ts', t < m ∧ f' t < cs.length) ∧ ts'.Nodup ∧
          (b = true → Th.Aug (chOf cs) s (ownOf ts f) x (ownOf ts' f')) ∧ (b = false → ts' = ts ∧ f' = f ∧ Th.Stuck (chOf cs) s (ownOf ts f) x s') := by
      intro post
      induction post with
      | nil =>
        intro pre s1 hc h1 h2 h3 h4 h5
        exact ⟨false, ts, f, s1, rfl, h1, h2, h3, hts, hnd, (fun h => by cases h), fun _ => ⟨rfl, rfl, ⟨fun t ht => h4 t (by rw [hc, List.append_nil] at ht; exact ht), h5⟩⟩⟩
      | cons t post ihp =>
        intro pre s1 hc h1 h2 h3 h4 h5
        have htc : t ∈ chOf cs x := by rw [hc]; simp
        have htm := G.ch x t htc
        have hl1 := tlen s1 h1 h2
        have hlt := tlen ts hnd fun t h => (hts t h).1
        have sm := G.small
        rw [dl_cons, for_cons]
        by_cases hin : t ∈ s1
        · have e0 : (true != decide (t ∈ s1)) = false := by simp [hin]
          simp! [(fun Y s => congrFun (lb_find_thing_1.eq_1 Y) s), ro_choices, hin, e0]
          exact ihp (pre ++ [t]) s1 (by rw [hc]; simp) h1 h2 h3 (fun u hu => by
            rcases List.mem_append.mp hu with h | h
            · exact h4 u h
            · rw [List.mem_singleton.mp h]; exact hin) h5
        · have e0 : (true != decide (t ∈ s1)) = true := by simp [hin]
          have ea : dl s1 ++ [PyData.int (t : Int)] = dl (s1 ++ [t]) := by rw [dl_app]; rfl
          have n1 : (s1 ++ [t]).Nodup := by
            rw [List.nodup_append]
            exact ⟨h1, by simp, fun a ha b hb q => by rw [List.mem_singleton] at hb; subst hb; rw [q] at ha; exact hin ha⟩
          have n2 : ∀ u ∈ s1 ++ [t], u < m := fun u hu => by
            rcases List.mem_append.mp hu with h | h
            · exact h2 u h
            · rw [List.mem_singleton.mp h]; exact htm
          cases ho : ownOf ts f t with
          | none =>
            have hnt : t ∉ ts := fun q => by unfold ownOf at ho; rw [if_pos q] at ho; cases ho
            simp! [(fun Y s => congrFun (lb_find_thing_1.eq_1 Y) s), ro_choices, hin, e0, dl_len, show s1.length < 16777216 by omega, ea, v_inDKi, odk_get, ho, Option.map_none, Option.isSome_none, r_stIxK, odk_len, show ts.length < 16777216 by omega, odk_put]
            refine ⟨true, _, _, _, rfl, n1, n2, fun u hu => List.mem_append_left _ (h3 u hu), ?_, ?_, fun _ => ?_, fun h => by cases h⟩
            · rw [if_neg hnt]
              intro u hu
              rcases List.mem_append.mp hu with h | h
              · have : u ≠ t := fun q => hnt (by rw [← q]; exact h)
                simp only [if_neg this]
                exact hts u h
              · rw [List.mem_singleton.mp h]
                simp only [if_true]
                exact ⟨htm, hx⟩
            · rw [if_neg hnt, List.nodup_append]
              exact ⟨hnd, by simp, fun a ha b hb q => by rw [List.mem_singleton] at hb; subst hb; rw [q] at ha; exact hnt ha⟩
            · rw [ownOf_put]
              exact .base htc (fun q => hin (h3 t q)) ho
          | some y =>
            have htt : t ∈ ts := by
              unfold ownOf at ho
              split at ho
              · assumption
              · cases ho
            have hy : y = f t := by unfold ownOf at ho; rw [if_pos htt] at ho; exact (Option.some.inj ho).symm
            have hyl : y < cs.length := by rw [hy]; exact (hts t htt).2
            obtain ⟨b, ts', f', s', e, g1, g2, g3, g4, g5, g6, g7⟩ := ih y ts f (s1 ++ [t]) hyl hts hnd n1 n2 (by
              have : s.length ≤ s1.length := Th.len_sub hs h3
              rw [List.length_append, List.length_singleton]; omega)
            have e2 : gIx (.dk (odk ts f)) (.sh (.int (t : Int))) = some (.sh (.int (y : Int))) := by rw [v_ixKi, odk_get, ho]; rfl
            cases b with
            | true =>
              have hlt' := tlen ts' g5 fun t h => (g4 t h).1
              simp! [(fun Y s => congrFun (lb_find_thing_1.eq_1 Y) s), ro_choices, hin, e0, dl_len, show s1.length < 16777216 by omega, ea, v_inDKi, odk_get, ho, toNatD, Option.isSome_some, e2, e, v_truBl, r_stIxK, odk_len, show ts'.length < 16777216 by omega, odk_put]
              refine ⟨true, _, _, _, rfl, g1, g2, fun u hu => g3 u (List.mem_append_left _ (h3 u hu)), ?_, ?_, fun _ => ?_, fun h => by cases h⟩
              · intro u hu
                by_cases hut : u = t
                · subst hut; simp only [if_true]; exact ⟨htm, hx⟩
                · simp only [if_neg hut]
                  refine g4 u ?_
                  split at hu
                  · exact hu
                  · rcases List.mem_append.mp hu with h | h
                    · exact h
                    · exact absurd (List.mem_singleton.mp h) hut
              · split
                · exact g5
                · rename_i hn
                  rw [List.nodup_append]
                  exact ⟨g5, by simp, fun a ha b hb q => by rw [List.mem_singleton] at hb; subst hb; rw [q] at ha; exact hn ha⟩
              · rw [ownOf_put]
                exact .step (s' := s1 ++ [t]) htc (fun q => hin (h3 t q)) ho (fun u hu => by
                  rcases hu with h | h
                  · exact List.mem_append_left _ (h3 u h)
                  · rw [h]; simp) (g6 rfl)
            | false =>
              obtain ⟨rfl, rfl, st⟩ := g7 rfl
              simp! [(fun Y s => congrFun (lb_find_thing_1.eq_1 Y) s), ro_choices, hin, e0, dl_len, show s1.length < 16777216 by omega, ea, v_inDKi, odk_get, ho, toNatD, Option.isSome_some, e2, e, v_truBl]
              refine ihp (pre ++ [t]) s' (by rw [hc]; simp) g1 g2 (fun u hu => g3 u (List.mem_append_left _ (h3 u hu))) (fun u hu => ?_) fun u hu => ?_
              · rcases List.mem_append.mp hu with h | h
                · exact g3 u (List.mem_append_left _ (h4 u h))
                · rw [List.mem_singleton.mp h]; exact g3 t (by simp)
              · rcases st.own u hu with h | h
                · rcases List.mem_append.mp h with h | h
                  · rcases h5 u h with h | ⟨z, q1, q2⟩
                    · exact .inl h
                    · exact .inr ⟨z, q1, fun w hw => g3 w (List.mem_append_left _ (q2 w hw))⟩
                  · rw [List.mem_singleton.mp h]
                    exact .inr ⟨y, ho, st.all⟩
                · exact .inr h
    obtain ⟨b, ts', f', s', e, g⟩ := loop (chOf cs x) [] s (by simp) hs hsm (fun t h => h) (fun t h => by cases h) (fun t h => .inl h)
    refine ⟨b, ts', f', s', ?_, g⟩
    have ec := choice_at (cs := cs) hx
    simp only [choicesD] at e
    show runD 5 (b_find_thing (R_find_thing n)) _ = _
    unfold b_find_thing
    simp! [choicesD, ec, tupD]
    rw [e]
    cases b with
    | true => simp!
    | false => simp!
theorem ownOf_nil (f : Nat → Nat) : ownOf [] f = fun _ => none := by funext t; simp [ownOf]
/-- what the members so far have got: M of them have a thing -/
structure Got (m : Nat) (cs : List (List Nat)) (pre : List Nat) (k : Nat) (ts : List Nat) (f : Nat → Nat) : Prop where
  small : ∀ t ∈ ts, t < m ∧ f t < cs.length
  nd : ts.Nodup
  ex : ∃ M : List Nat, M.Sublist pre ∧ Th.Good (chOf cs) (ownOf ts f) M ∧ M.length = k ∧ Th.crk m (chOf cs) pre = k
theorem got_nil {m : Nat} {cs : List (List Nat)} (G : COk m cs) : Got m cs [] 0 [] (fun _ => 0) :=
  ⟨(fun t h => nomatch h), List.nodup_nil, [], List.Sublist.refl _, ⟨(fun t x h => by rw [ownOf_nil] at h; cases h), (fun t u x h => by rw [ownOf_nil] at h; cases h), (fun x h => nomatch h)⟩, rfl, (Th.crk_rank m _ G.ch).nil⟩
theorem got_step {m : Nat} {cs : List (List Nat)} (G : COk m cs) {pre : List Nat} {k e : Nat} {ts : List Nat} {f : Nat → Nat} (h : Got m cs pre k ts f) (he : e < cs.length) (nd : (pre ++ [e]).Nodup) :
    ∃ (b : Bool) (ts' : List Nat) (f' : Nat → Nat) (s' : List Nat), F_find_thing [.sh (choicesD m cs), .sh (.int (e : Int)), .dk (odk ts f), .lst []] = some (.sh (.bool b), [none, none, some (.dk (odk ts' f')), some (.lst (dl s'))]) ∧
      Got m cs (pre ++ [e]) (if b then k + 1 else k) ts' f' := by
  have R := Th.crk_rank m _ G.ch
  obtain ⟨M, h1, h2, h3, h4⟩ := h.ex
  obtain ⟨b, ts', f', s', e1, g1, g2, g3, g4, g5, g6, g7⟩ := find_ok G 60 e ts f [] he h.small h.nd List.nodup_nil (fun t h => by cases h) (by have := G.small; simp; omega)
  refine ⟨b, ts', f', s', e1, g4, g5, ?_⟩
  have ne : e ∉ pre := fun q => by
    rw [List.nodup_append] at nd
    exact nd.2.2 e q e (by simp) rfl
  have neM : e ∉ M := fun q => ne (h1.subset q)
  have ndM : M.Nodup := (List.nodup_append.mp nd).1.sublist h1
  have pp : (pre ++ [e]).Perm (e :: pre) := List.perm_append_comm
  have pm : (M ++ [e]).Perm (e :: M) := List.perm_append_comm
  cases b with
  | true =>
    have g := h2.aug neM (g6 rfl)
    refine ⟨M ++ [e], h1.append (List.Sublist.refl _), g, by simp [h3], ?_⟩
    have full := g.full G.ch (by
      rw [List.nodup_append]
      exact ⟨ndM, by simp, fun a ha c hc q => by rw [List.mem_singleton] at hc; subst hc; rw [q] at ha; exact neM ha⟩)
    have le := R.sublist (h1.append (List.Sublist.refl [e]))
    rw [full] at le
    have st := R.step e pre
    rw [← R.perm pp] at st
    simp only [List.length_append, List.length_singleton] at le
    simp only [if_true]
    omega
  | false =>
    obtain ⟨rfl, rfl, stk⟩ := g7 rfl
    refine ⟨M, h1.trans (List.sublist_append_left _ _), h2, h3, ?_⟩
    have le := h2.stuck G.ch g1 stk
    have fullM := h2.full G.ch ndM
    have up := R.le_cons e M
    have := R.span (a := e) h1 (by omega) (by omega)
    rw [R.perm pp, this]
    exact h4
theorem choices_rank_ok {m : Nat} {cs : List (List Nat)} (G : COk m cs) {l : List Nat} {L : LV} (hL : SeqL L (dl l)) (hl : ∀ e ∈ l, e < cs.length) (nd : l.Nodup) (hz : l.length ≤ 1000) :
    F_choices_rank [.sh (choicesD m cs), L] = some (.sh (.int (Th.crk m (chOf cs) l : Nat)), [none, none]) := by
  -- the turns of the generator
  have run : ∀ x1 : Option Sl, ∃ (out : List Unit) (s' : List Nat × (Nat → Nat)), lcLoop [3] (mGn true 3) lt_choices_rank_1 le_choices_rank_1 (dl l) [] ⟨[sS (choicesD m cs), x1, some ⟨.dk (odk [] fun _ => 0), false, false⟩, none]⟩ =
      some (out.map (fun _ => PyData.int 1), ⟨[sS (choicesD m cs), x1, some ⟨.dk (odk s'.1 s'.2), false, false⟩, none]⟩) ∧ Got m cs l out.length s'.1 s'.2 := by
    intro x1
    have go : ∀ (post pre : List Nat) (acc : List Unit) (s : List Nat × (Nat → Nat)), l = pre ++ post → acc.length ≤ pre.length → Got m cs pre acc.length s.1 s.2 →
        ∃ (out : List Unit) (s' : List Nat × (Nat → Nat)), lcLoop [3] (mGn true 3) lt_choices_rank_1 le_choices_rank_1 (dl post) (acc.map (fun _ => PyData.int 1)) ⟨[sS (choicesD m cs), x1, some ⟨.dk (odk s.1 s.2), false, false⟩, none]⟩ =
          some (out.map (fun _ => PyData.int 1), ⟨[sS (choicesD m cs), x1, some ⟨.dk (odk s'.1 s'.2), false, false⟩, none]⟩) ∧ Got m cs l out.length s'.1 s'.2 := by
      intro post
      induction post with
      | nil => intro pre acc s hx _ h; rw [List.append_nil] at hx; subst hx; exact ⟨acc, s, rfl, h⟩
      | cons e post ih =>
        intro pre acc s hx ha h
        obtain ⟨b, ts', f', s', e1, g⟩ := got_step G h (hl e (by rw [hx]; simp)) (by
          have : (pre ++ [e]).Sublist l := by rw [hx]; exact (List.Sublist.refl pre).append (by simp)
          exact nd.sublist this)
        have hp : pre.length ≤ 1000 := by
          have := congrArg List.length hx
          simp at this
          omega
        rw [dl_cons, lc_cons]
        cases b with
        | true =>
          obtain ⟨out, s2, e2, g2⟩ := ih (pre ++ [e]) (acc ++ [()]) (ts', f') (by rw [hx]; simp) (by simp; omega) (by simpa using g)
          refine ⟨out, s2, ?_, g2⟩
          simp! [kLcG, ro_choices, lt_choices_rank_1, le_choices_rank_1, e1, v_truBl, kLcT, kLcE, List.length_map, show acc.length < 16777216 by omega]
          simp only [List.map_append, List.map_cons, List.map_nil] at e2
          exact e2
        | false =>
          obtain ⟨out, s2, e2, g2⟩ := ih (pre ++ [e]) acc (ts', f') (by rw [hx]; simp) (by simp; omega) (by simpa using g)
          refine ⟨out, s2, ?_, g2⟩
          simp! [kLcG, ro_choices, lt_choices_rank_1, e1, v_truBl, kLcT]
          exact e2
    exact go l [] [] ([], fun _ => 0) rfl (Nat.le_refl _) (got_nil G)
  have fin : ∀ x1 : Option Sl, ∃ s' : List Nat × (Nat → Nat), ∃ ds, lcLoop [3] (mGn true 3) lt_choices_rank_1 le_choices_rank_1 (dl l) [] ⟨[sS (choicesD m cs), x1, some ⟨.dk [], false, false⟩, none]⟩ =
      some (ds, ⟨[sS (choicesD m cs), x1, some ⟨.dk (odk s'.1 s'.2), false, false⟩, none]⟩) ∧ sumG ds = some ((Th.crk m (chOf cs) l : Nat) : Int) := by
    intro x1
    obtain ⟨out, s', e, g⟩ := run x1
    refine ⟨s', _, e, ?_⟩
    rw [sumG_ones]
    obtain ⟨M, _, _, _, h⟩ := g.ex
    rw [h]
  unfold F_choices_rank b_choices_rank
  rcases hL with rfl | rfl
  · obtain ⟨s', ds, e, h⟩ := fin (sV (dl l))
    simp!
    rw [e]
    simp! [h]
  · obtain ⟨s', ds, e, h⟩ := fin (sS (.tuple (dl l)))
    simp!
    rw [e]
    simp! [h]
end Bd
set_option linter.all false
/-! graphs: joining classes, counted -/
namespace Th
theorem mem_erase {n c e : Nat} (h : c.testBit e = true) : mem n (c - 2 ^ e) = (mem n c).erase e := by
  rw [mem_sub h, (mem_nodup n c).erase_eq_filter]
  apply List.filter_congr
  intro i _
  by_cases hi : i = e <;> simp [hi]
/-- equivalence classes -/
structure Eqv (R : Nat → Nat → Prop) : Prop where
  rfl : ∀ u, R u u
  symm : ∀ u v, R u v → R v u
  trans : ∀ u v w, R u v → R v w → R u w
def join (R : Nat → Nat → Prop) (a b : Nat) : Nat → Nat → Prop := fun u v => R u v ∨ (R u a ∧ R b v) ∨ (R u b ∧ R a v)
theorem Eqv.join {R : Nat → Nat → Prop} (h : Eqv R) (a b : Nat) : Eqv (Th.join R a b) where
  rfl := fun u => .inl (h.rfl u)
  symm := fun u v q => by
    rcases q with q | ⟨q1, q2⟩ | ⟨q1, q2⟩
    · exact .inl (h.symm _ _ q)
    · exact .inr (.inr ⟨h.symm _ _ q2, h.symm _ _ q1⟩)
    · exact .inr (.inl ⟨h.symm _ _ q2, h.symm _ _ q1⟩)
  trans := fun u v w q p => by
    rcases q with q | ⟨q1, q2⟩ | ⟨q1, q2⟩ <;> rcases p with p | ⟨p1, p2⟩ | ⟨p1, p2⟩
    · exact .inl (h.trans _ _ _ q p)
    · exact .inr (.inl ⟨h.trans _ _ _ q p1, p2⟩)
    · exact .inr (.inr ⟨h.trans _ _ _ q p1, p2⟩)
    · exact .inr (.inl ⟨q1, h.trans _ _ _ q2 p⟩)
    · exact .inr (.inl ⟨q1, p2⟩)
    · exact .inl (h.trans _ _ _ q1 p2)
    · exact .inr (.inr ⟨q1, h.trans _ _ _ q2 p⟩)
    · exact .inl (h.trans _ _ _ q1 p2)
    · exact .inr (.inr ⟨q1, p2⟩)
theorem join_same {R : Nat → Nat → Prop} (h : Eqv R) {a b : Nat} (q : R a b) : Th.join R a b = R := by
  funext u v
  apply propext
  constructor
  · rintro (p | ⟨p1, p2⟩ | ⟨p1, p2⟩)
    · exact p
    · exact h.trans _ _ _ p1 (h.trans _ _ _ q p2)
    · exact h.trans _ _ _ p1 (h.trans _ _ _ (h.symm _ _ q) p2)
  · exact .inl
theorem join_sub {R : Nat → Nat → Prop} {a b c d : Nat} (h : Eqv R) (S : Nat → Nat → Prop) (hS : Eqv S) (hR : ∀ u v, R u v → S u v) (hab : S a b) : ∀ u v, Th.join R a b u v → S u v := by
  rintro u v (p | ⟨p1, p2⟩ | ⟨p1, p2⟩)
  · exact hR _ _ p
  · exact hS.trans _ _ _ (hR _ _ p1) (hS.trans _ _ _ hab (hR _ _ p2))
  · exact hS.trans _ _ _ (hR _ _ p1) (hS.trans _ _ _ (hS.symm _ _ hab) (hR _ _ p2))
theorem join_ab {R : Nat → Nat → Prop} (h : Eqv R) (a b : Nat) : Th.join R a b a b := .inr (.inl ⟨h.rfl a, h.rfl b⟩)
theorem join_comm {R : Nat → Nat → Prop} (h : Eqv R) (a b c d : Nat) : Th.join (Th.join R a b) c d = Th.join (Th.join R c d) a b := by
  have one : ∀ a b c d u v, Th.join (Th.join R a b) c d u v → Th.join (Th.join R c d) a b u v := by
    intro a b c d
    have hS := (h.join c d).join a b
    refine join_sub (h.join a b) (c := 0) (d := 0) _ hS (join_sub h (c := 0) (d := 0) _ hS (fun u v q => .inl (.inl q)) (join_ab (h.join c d) a b)) ?_
    exact .inl (join_ab h c d)
  funext u v
  exact propext ⟨one a b c d u v, one c d a b u v⟩
open Classical in
/-- nothing, if it is so -/
noncomputable def ind (p : Prop) : Nat := if p then 0 else 1
theorem ind_pos {p : Prop} (h : p) : ind p = 0 := by unfold ind; exact if_pos h
theorem ind_neg {p : Prop} (h : ¬ p) : ind p = 1 := by unfold ind; exact if_neg h
/-- joined from the left, with the number of joins that mattered -/
noncomputable def gr (R : Nat → Nat → Prop) : List (Nat × Nat) → Nat
  | [] => 0
  | a :: l => ind (R a.1 a.2) + gr (Th.join R a.1 a.2) l
theorem gr_swap {R : Nat → Nat → Prop} (h : Eqv R) (a b : Nat × Nat) (l : List (Nat × Nat)) : gr R (a :: b :: l) = gr R (b :: a :: l) := by
  simp only [gr]
  rw [join_comm h a.1 a.2 b.1 b.2]
  by_cases ha : R a.1 a.2
  · have e := join_same h ha
    by_cases hb : R b.1 b.2
    · rw [e, join_same h hb, ind_pos ha, ind_pos hb]
    · rw [e]
      have : Th.join R b.1 b.2 a.1 a.2 := .inl ha
      rw [ind_pos ha, ind_pos this]; omega
  · by_cases hb : R b.1 b.2
    · rw [join_same h hb]
      have : Th.join R a.1 a.2 b.1 b.2 := .inl hb
      rw [ind_pos hb, ind_pos this]; omega
    · have e : Th.join R a.1 a.2 b.1 b.2 ↔ Th.join R b.1 b.2 a.1 a.2 := by
        constructor
        · rintro (p | ⟨p1, p2⟩ | ⟨p1, p2⟩)
          · exact absurd p hb
          · exact .inr (.inl ⟨h.symm _ _ p1, h.symm _ _ p2⟩)
          · exact .inr (.inr ⟨p2, p1⟩)
        · rintro (p | ⟨p1, p2⟩ | ⟨p1, p2⟩)
          · exact absurd p ha
          · exact .inr (.inl ⟨h.symm _ _ p1, h.symm _ _ p2⟩)
          · exact .inr (.inr ⟨p2, p1⟩)
      have e2 := propext e
      rw [e2, ind_neg ha, ind_neg hb]
theorem gr_perm {l l' : List (Nat × Nat)} (p : l.Perm l') : ∀ {R : Nat → Nat → Prop}, Eqv R → gr R l = gr R l' := by
  induction p with
  | nil => exact fun _ => rfl
  | cons a p ih => exact fun h => by simp only [gr]; rw [ih (h.join a.1 a.2)]
  | swap a b l => exact fun h => gr_swap h b a l
  | trans p q ih1 ih2 => exact fun h => (ih1 h).trans (ih2 h)
theorem eqv_eq : Eqv Eq := ⟨fun _ => rfl, fun _ _ h => h.symm, fun _ _ _ h g => h.trans g⟩
/-- the classes behind a list -/
def joinL (R : Nat → Nat → Prop) : List (Nat × Nat) → Nat → Nat → Prop
  | [] => R
  | a :: l => joinL (Th.join R a.1 a.2) l
theorem joinL_eqv : ∀ {l : List (Nat × Nat)} {R : Nat → Nat → Prop}, Eqv R → Eqv (joinL R l)
  | [], _, h => h
  | a :: l, _, h => joinL_eqv (l := l) (h.join a.1 a.2)
theorem gr_snoc : ∀ {l : List (Nat × Nat)} {R : Nat → Nat → Prop} (a : Nat × Nat), gr R (l ++ [a]) = gr R l + ind (joinL R l a.1 a.2)
  | [], R, a => by simp [gr, joinL]
  | b :: l, R, a => by
    simp only [List.cons_append, gr, joinL]
    rw [gr_snoc (l := l) a]
    omega
theorem joinL_snoc : ∀ {l : List (Nat × Nat)} {R : Nat → Nat → Prop} (a : Nat × Nat), joinL R (l ++ [a]) = Th.join (joinL R l) a.1 a.2
  | [], R, a => rfl
  | b :: l, R, a => by
    simp only [List.cons_append, joinL]
    exact joinL_snoc (l := l) a
/-- the rank of a list of arcs' numbers -/
noncomputable def grk (arcs : List (Nat × Nat)) (l : List Nat) : Nat := gr Eq (l.map fun e => arcs.getD e (0, 0))
theorem grk_cons (arcs : List (Nat × Nat)) (a : Nat) (l : List Nat) : grk arcs (a :: l) = grk arcs l + ind (joinL Eq (l.map fun e => arcs.getD e (0, 0)) (arcs.getD a (0, 0)).1 (arcs.getD a (0, 0)).2) := by
  unfold grk
  have p : ((a :: l).map fun e => arcs.getD e (0, 0)).Perm ((l.map fun e => arcs.getD e (0, 0)) ++ [arcs.getD a (0, 0)]) := by
    rw [List.map_cons]
    exact (List.perm_append_singleton _ _).symm
  rw [gr_perm p eqv_eq, gr_snoc]
theorem grk_rank (arcs : List (Nat × Nat)) : RankFn (grk arcs) where
  nil := rfl
  perm := fun p => gr_perm (p.map _) eqv_eq
  step := fun a l => by
    rw [grk_cons]
    by_cases q : joinL Eq (l.map fun e => arcs.getD e (0, 0)) (arcs.getD a (0, 0)).1 (arcs.getD a (0, 0)).2
    · rw [ind_pos q]; exact .inl rfl
    · rw [ind_neg q]; exact .inr rfl
  sub := fun a b l h1 h2 => by
    rw [grk_cons] at h1 h2
    have h2' : joinL Eq (l.map fun e => arcs.getD e (0, 0)) (arcs.getD b (0, 0)).1 (arcs.getD b (0, 0)).2 := by
      apply Classical.byContradiction
      intro q
      rw [ind_neg q] at h2
      omega
    have h1' : joinL Eq (l.map fun e => arcs.getD e (0, 0)) (arcs.getD a (0, 0)).1 (arcs.getD a (0, 0)).2 := by
      apply Classical.byContradiction
      intro q
      rw [ind_neg q] at h1
      omega
    have e : grk arcs (b :: l) = grk arcs l := by rw [grk_cons, ind_pos h2', Nat.add_zero]
    -- a :: b :: l, counted as l, b, a
    have p : (a :: b :: l).Perm (l ++ [b] ++ [a]) := by
      refine (List.Perm.cons a (List.perm_append_singleton b l).symm).trans ?_
      exact (List.perm_append_singleton a _).symm
    have e2 : grk arcs (a :: b :: l) = gr Eq ((l.map fun e => arcs.getD e (0, 0)) ++ [arcs.getD b (0, 0)] ++ [arcs.getD a (0, 0)]) := by
      unfold grk
      rw [gr_perm (p.map _) eqv_eq]
      simp
    rw [e2, gr_snoc, gr_snoc, joinL_snoc, ind_pos h2', join_same (joinL_eqv eqv_eq) h2', ind_pos h1']
    rfl
end Th
set_option Elab.async false
set_option linter.all false
set_option maxRecDepth 100000
set_option maxHeartbeats 4000000
/-! a line of a kind, as the laws work it -/
namespace Bd
open PySem PySem.Spec PyProof.Rows L2 Dn
local macro_rules
  | `(tactic| simp! [$xs,*]) => `(tactic| simp only [Dn.r_seq, Dn.r_seqN, Dn.r_seqB, Dn.r_seqC, Dn.r_seqR, Dn.r_nx, Dn.r_bk, Dn.r_ct, Dn.r_retN, Dn.r_kNx, Dn.r_drop, Dn.r_kDrop, Dn.r_kOwnL, Dn.r_kSh, Dn.r_kOwnS, Dn.r_kRet, Dn.r_ret, Dn.r_ifS, Dn.r_ifT, Dn.r_ifF, Dn.r_set, Dn.r_kSet, Dn.r_setS, Dn.r_slotN, Dn.r_slotS, Dn.ro_sh, Dn.ro_lst, Dn.ro_dk, Dn.ro_dt, Dn.ro_set, Dn.ro_ro, Dn.ro_scr, Dn.own_sh, Dn.own_lst, Dn.own_dk, Dn.own_dt, Dn.own_set, Dn.own_ro, Dn.ro_rv, Dn.own_rv, Dn.rv_sh, Dn.rv_lst, Dn.rv_ro, Dn.rv_scr, Dn.rv_rv, Dn.rv_dk, Dn.rv_dt, Dn.rv_set, Dn.own_scr, Dn.r_setT, Dn.r_kTg, Dn.r_c, Dn.r_name, Dn.r_nameS, Dn.r_nameL, Dn.r_nameR, Dn.r_nameV, Dn.r_nameX, Dn.r_nameK, Dn.r_nameT, Dn.r_nameU, Dn.r_frz, Dn.r_frzS, Dn.r_frzL, Dn.r_frzI, Dn.r_frzO, Dn.r_frzOS, Dn.r_frzOL, Dn.r_sh, Dn.r_kMSh, Dn.r_resL, Dn.r_resS, Dn.r_kRes, Dn.r_bin, Dn.r_bin1, Dn.r_bin2, Dn.r_bin3, Dn.r_kOp, Dn.r_un, Dn.r_un1, Dn.r_un2, Dn.r_ix, Dn.r_tst, Dn.r_kTst, Dn.r_tand, Dn.r_tandT, Dn.r_tandF, Dn.r_tor, Dn.r_torT, Dn.r_torF, Dn.r_tnot, Dn.r_kTnot, Dn.r_tru, Dn.r_kTru, Dn.r_kTru2, Dn.r_kTru3, Dn.r_yes, Dn.r_andV, Dn.r_andT, Dn.r_andF, Dn.r_orV, Dn.r_orT, Dn.r_orF, Dn.r_notV, Dn.r_kNotV, Dn.r_if, Dn.r_ifeT, Dn.r_ifeF, Dn.r_fnil, Dn.r_fcons, Dn.r_fc1, Dn.r_fc2, Dn.r_tup, Dn.r_lst, Dn.r_kTup, Dn.r_kLst, Dn.r_anil, Dn.r_acons, Dn.r_ac1, Dn.r_ac2, Dn.r_call, Dn.r_kCall, Dn.r_kGo0, Dn.r_kGo, Dn.r_kBack, Dn.r_kLs, Dn.r_roL, Dn.r_roO, Dn.r_roV, Dn.r_roSL, Dn.r_roST, Dn.r_roSI, Dn.r_roSB, Dn.r_roSS, Dn.r_roSN, Dn.r_roSD, Dn.r_mk0, Dn.r_mkT, Dn.r_mkF, Dn.r_kMk1, Dn.r_kMk2, Dn.r_mo0, Dn.r_moT, Dn.r_moF, Dn.r_md0, Dn.r_mdT, Dn.r_mdL, Dn.r_mdF, Dn.r_ran, Dn.r_rac, Dn.r_ra1, Dn.r_ra2, Dn.r_sbn, Dn.r_sbl, Dn.r_sbs, Dn.r_sbL, Dn.r_sbK, Dn.r_sbT, Dn.r_sbU, Dn.r_sbS, Dn.r_sbR, Dn.r_sbV, Dn.r_sbX, Dn.r_dn, Dn.r_dl, Dn.r_ds, Dn.r_in, Dn.r_il, Dn.r_is, Dn.r_kPut0, Dn.r_kPut, Dn.r_setIx, Dn.r_sx1, Dn.r_sx2, Dn.r_sx3, Dn.r_sx4, Dn.r_sx5, Dn.r_stIx, Dn.r_app, Dn.r_ap0, Dn.r_ap1, Dn.r_ap2, Dn.r_aug, Dn.r_au0, Dn.r_au1, Dn.r_au2, Dn.r_au3, Dn.r_gn, Dn.r_gt, Dn.r_gcons, Dn.r_kGc, Dn.r_gnil, Dn.r_it, Dn.r_itL, Dn.r_itT, Dn.r_itO, Dn.r_itS, Dn.r_pinL, Dn.r_pinR, Dn.r_pinV, Dn.r_pinX, Dn.r_rng1, Dn.r_kR1, Dn.r_rng2, Dn.r_kQ1, Dn.r_kQ2, Dn.r_for, Dn.r_kFor, Dn.r_kUnl, Dn.r_unl0, Dn.r_unl1, Dn.r_unS, Dn.r_lc, Dn.r_lc1, Dn.r_lc2, Dn.r_wn, Dn.r_wc, Dn.r_wS, Dn.r_fn, Dn.r_fc, Dn.r_isF, Dn.r_clr, Dn.r_kClr, Dn.r_cl0, Dn.r_clk, Dn.r_kClN, Dn.r_kClS, Dn.r_run, Dn.r_outR, Dn.r_outN, Dn.r_finS, Dn.r_finL, Dn.r_finK, Dn.r_finT, Dn.r_finE, Dn.r_ouT, Dn.r_ouF, Dn.r_ouN, Dn.r_kIx, Dn.v_addI, Dn.v_addI', Dn.v_addT, Dn.v_addLAA, Dn.v_addLAB, Dn.v_addLAC, Dn.v_addLAV, Dn.v_addLBA, Dn.v_addLBB, Dn.v_addLBC, Dn.v_addLBV, Dn.v_addLCA, Dn.v_addLCB, Dn.v_addLCC, Dn.v_addLCV, Dn.v_addLVA, Dn.v_addLVB, Dn.v_addLVC, Dn.v_addLVV, Dn.v_sub, Dn.v_mulR, Dn.v_mulF, Dn.v_mulL, Dn.v_fdiv, Dn.v_mod, Dn.v_pow, Dn.v_pow18, Dn.v_lt, Dn.v_le, Dn.v_gt, Dn.v_ge, Dn.v_neg, Dn.v_int, Dn.v_intB, Dn.v_min, Dn.v_eqI, Dn.v_neI, Dn.v_isNN, Dn.v_isIN, Dn.v_isTN, Dn.v_isLN, Dn.v_isVN, Dn.v_isON, Dn.v_ixA, Dn.v_lenA, Dn.v_listA, Dn.v_truA, Dn.v_tupleA, Dn.v_revA, Dn.v_slA, Dn.v_inA, Dn.v_ixB, Dn.v_lenB, Dn.v_listB, Dn.v_truB, Dn.v_tupleB, Dn.v_revB, Dn.v_slB, Dn.v_inB, Dn.v_ixC, Dn.v_lenC, Dn.v_listC, Dn.v_truC, Dn.v_tupleC, Dn.v_revC, Dn.v_slC, Dn.v_inC, Dn.v_ixV, Dn.v_lenV, Dn.v_listV, Dn.v_truV, Dn.v_tupleV, Dn.v_revV, Dn.v_slV, Dn.v_inV, Dn.v_ixX, Dn.v_lenX, Dn.v_listX, Dn.v_truX, Dn.v_tupleX, Dn.v_revX, Dn.v_slX, Dn.v_inX, Dn.v_ixT, Dn.v_lenT, Dn.v_listT, Dn.v_truT, Dn.v_inT, Dn.v_tupleT, Dn.v_slT, Dn.v_truI, Dn.v_truBl, Dn.v_truN, Dn.sh_ints, Dn.sh_intsT, Dn.sh_int, Dn.atI_0, Dn.atI_1, Dn.atI_2, Dn.atI_3, Dn.atI_4, Dn.atI_5, Dn.ixN_0, Dn.ixN_1, Dn.ixN_2, Dn.ixN_3, Dn.sh_dl, Dn.sh_dlT, Dn.v_inNA, Dn.v_inNB, Dn.v_inNC, Dn.v_inNV, Dn.v_inNX, Dn.v_inNT, Dn.for_nil, Dn.r_kBody, Dn.r_loopN, Dn.r_loopC, Dn.r_loopB, Dn.r_loopR, Dn.r_turn, Dn.r_kT0, Dn.r_kT1, Dn.r_kT1F, Dn.r_kT2, Dn.v_ixKi, Dn.v_inDKi, Dn.r_stIxK, Dn.r_gsum, Dn.r_gs1, Dn.r_gs2, Dn.r_gs3, Dn.r_gany, Dn.r_gall, Dn.r_gq1, Dn.r_gq2, List.getElem?_cons_zero, List.getElem?_cons_succ, List.set_cons_zero, List.set_cons_succ, List.map_cons, List.map_nil, List.replicate_succ, List.replicate_zero, List.length_cons, List.length_nil, List.cons_append, List.nil_append, List.take_succ_cons, List.take_zero, List.take_nil, if_true, if_false, ite_true, ite_false, Bool.not_true, Bool.not_false, Bool.and_true, Bool.true_and, Bool.and_false, Bool.false_and, Bool.or_false, Bool.false_or, Bool.or_true, Bool.true_or, Option.isNone_none, Option.isNone_some, Option.map_some, Option.map_none, Bool.false_eq_true, decide_true, decide_false, Nat.zero_add, Nat.add_zero, two64, Option.bind_some, Option.bind_none, entSl, sS, sL, sV, sM, LV.int, LV.bl, LV.str, LV.non, true_and, and_true, or_true, true_or, reduceCtorEq, Dn.mChain, Dn.mSl, mPart, mNoP, Dn.toI, toB, mLRg1, mExt, slotC, mDk, mDt, Bool.bne_false, Bool.bne_true, bne_self_eq_false, beq_self_eq_true, Nat.reduceAdd, Nat.reduceSub, Nat.reduceMul, Nat.reduceLT, Nat.reduceLeDiff, Nat.reduceEqDiff, Nat.reduceBEq, Int.reduceLT, Int.reduceLE, Int.reduceAdd, Int.reduceSub, Int.reduceMul, Int.reduceNeg, Int.reduceToNat, Int.reduceEq, Int.reduceBEq, Int.reducePow, Int.cast_ofNat_Int, Nat.reducePow, reduceIte, Int.reduceNegSucc, Int.reduceMod, Int.reduceDiv, $xs,*])
  | `(tactic| simp!) => `(tactic| simp only [Dn.r_seq, Dn.r_seqN, Dn.r_seqB, Dn.r_seqC, Dn.r_seqR, Dn.r_nx, Dn.r_bk, Dn.r_ct, Dn.r_retN, Dn.r_kNx, Dn.r_drop, Dn.r_kDrop, Dn.r_kOwnL, Dn.r_kSh, Dn.r_kOwnS, Dn.r_kRet, Dn.r_ret, Dn.r_ifS, Dn.r_ifT, Dn.r_ifF, Dn.r_set, Dn.r_kSet, Dn.r_setS, Dn.r_slotN, Dn.r_slotS, Dn.ro_sh, Dn.ro_lst, Dn.ro_dk, Dn.ro_dt, Dn.ro_set, Dn.ro_ro, Dn.ro_scr, Dn.own_sh, Dn.own_lst, Dn.own_dk, Dn.own_dt, Dn.own_set, Dn.own_ro, Dn.ro_rv, Dn.own_rv, Dn.rv_sh, Dn.rv_lst, Dn.rv_ro, Dn.rv_scr, Dn.rv_rv, Dn.rv_dk, Dn.rv_dt, Dn.rv_set, Dn.own_scr, Dn.r_setT, Dn.r_kTg, Dn.r_c, Dn.r_name, Dn.r_nameS, Dn.r_nameL, Dn.r_nameR, Dn.r_nameV, Dn.r_nameX, Dn.r_nameK, Dn.r_nameT, Dn.r_nameU, Dn.r_frz, Dn.r_frzS, Dn.r_frzL, Dn.r_frzI, Dn.r_frzO, Dn.r_frzOS, Dn.r_frzOL, Dn.r_sh, Dn.r_kMSh, Dn.r_resL, Dn.r_resS, Dn.r_kRes, Dn.r_bin, Dn.r_bin1, Dn.r_bin2, Dn.r_bin3, Dn.r_kOp, Dn.r_un, Dn.r_un1, Dn.r_un2, Dn.r_ix, Dn.r_tst, Dn.r_kTst, Dn.r_tand, Dn.r_tandT, Dn.r_tandF, Dn.r_tor, Dn.r_torT, Dn.r_torF, Dn.r_tnot, Dn.r_kTnot, Dn.r_tru, Dn.r_kTru, Dn.r_kTru2, Dn.r_kTru3, Dn.r_yes, Dn.r_andV, Dn.r_andT, Dn.r_andF, Dn.r_orV, Dn.r_orT, Dn.r_orF, Dn.r_notV, Dn.r_kNotV, Dn.r_if, Dn.r_ifeT, Dn.r_ifeF, Dn.r_fnil, Dn.r_fcons, Dn.r_fc1, Dn.r_fc2, Dn.r_tup, Dn.r_lst, Dn.r_kTup, Dn.r_kLst, Dn.r_anil, Dn.r_acons, Dn.r_ac1, Dn.r_ac2, Dn.r_call, Dn.r_kCall, Dn.r_kGo0, Dn.r_kGo, Dn.r_kBack, Dn.r_kLs, Dn.r_roL, Dn.r_roO, Dn.r_roV, Dn.r_roSL, Dn.r_roST, Dn.r_roSI, Dn.r_roSB, Dn.r_roSS, Dn.r_roSN, Dn.r_roSD, Dn.r_mk0, Dn.r_mkT, Dn.r_mkF, Dn.r_kMk1, Dn.r_kMk2, Dn.r_mo0, Dn.r_moT, Dn.r_moF, Dn.r_md0, Dn.r_mdT, Dn.r_mdL, Dn.r_mdF, Dn.r_ran, Dn.r_rac, Dn.r_ra1, Dn.r_ra2, Dn.r_sbn, Dn.r_sbl, Dn.r_sbs, Dn.r_sbL, Dn.r_sbK, Dn.r_sbT, Dn.r_sbU, Dn.r_sbS, Dn.r_sbR, Dn.r_sbV, Dn.r_sbX, Dn.r_dn, Dn.r_dl, Dn.r_ds, Dn.r_in, Dn.r_il, Dn.r_is, Dn.r_kPut0, Dn.r_kPut, Dn.r_setIx, Dn.r_sx1, Dn.r_sx2, Dn.r_sx3, Dn.r_sx4, Dn.r_sx5, Dn.r_stIx, Dn.r_app, Dn.r_ap0, Dn.r_ap1, Dn.r_ap2, Dn.r_aug, Dn.r_au0, Dn.r_au1, Dn.r_au2, Dn.r_au3, Dn.r_gn, Dn.r_gt, Dn.r_gcons, Dn.r_kGc, Dn.r_gnil, Dn.r_it, Dn.r_itL, Dn.r_itT, Dn.r_itO, Dn.r_itS, Dn.r_pinL, Dn.r_pinR, Dn.r_pinV, Dn.r_pinX, Dn.r_rng1, Dn.r_kR1, Dn.r_rng2, Dn.r_kQ1, Dn.r_kQ2, Dn.r_for, Dn.r_kFor, Dn.r_kUnl, Dn.r_unl0, Dn.r_unl1, Dn.r_unS, Dn.r_lc, Dn.r_lc1, Dn.r_lc2, Dn.r_wn, Dn.r_wc, Dn.r_wS, Dn.r_fn, Dn.r_fc, Dn.r_isF, Dn.r_clr, Dn.r_kClr, Dn.r_cl0, Dn.r_clk, Dn.r_kClN, Dn.r_kClS, Dn.r_run, Dn.r_outR, Dn.r_outN, Dn.r_finS, Dn.r_finL, Dn.r_finK, Dn.r_finT, Dn.r_finE, Dn.r_ouT, Dn.r_ouF, Dn.r_ouN, Dn.r_kIx, Dn.v_addI, Dn.v_addI', Dn.v_addT, Dn.v_addLAA, Dn.v_addLAB, Dn.v_addLAC, Dn.v_addLAV, Dn.v_addLBA, Dn.v_addLBB, Dn.v_addLBC, Dn.v_addLBV, Dn.v_addLCA, Dn.v_addLCB, Dn.v_addLCC, Dn.v_addLCV, Dn.v_addLVA, Dn.v_addLVB, Dn.v_addLVC, Dn.v_addLVV, Dn.v_sub, Dn.v_mulR, Dn.v_mulF, Dn.v_mulL, Dn.v_fdiv, Dn.v_mod, Dn.v_pow, Dn.v_pow18, Dn.v_lt, Dn.v_le, Dn.v_gt, Dn.v_ge, Dn.v_neg, Dn.v_int, Dn.v_intB, Dn.v_min, Dn.v_eqI, Dn.v_neI, Dn.v_isNN, Dn.v_isIN, Dn.v_isTN, Dn.v_isLN, Dn.v_isVN, Dn.v_isON, Dn.v_ixA, Dn.v_lenA, Dn.v_listA, Dn.v_truA, Dn.v_tupleA, Dn.v_revA, Dn.v_slA, Dn.v_inA, Dn.v_ixB, Dn.v_lenB, Dn.v_listB, Dn.v_truB, Dn.v_tupleB, Dn.v_revB, Dn.v_slB, Dn.v_inB, Dn.v_ixC, Dn.v_lenC, Dn.v_listC, Dn.v_truC, Dn.v_tupleC, Dn.v_revC, Dn.v_slC, Dn.v_inC, Dn.v_ixV, Dn.v_lenV, Dn.v_listV, Dn.v_truV, Dn.v_tupleV, Dn.v_revV, Dn.v_slV, Dn.v_inV, Dn.v_ixX, Dn.v_lenX, Dn.v_listX, Dn.v_truX, Dn.v_tupleX, Dn.v_revX, Dn.v_slX, Dn.v_inX, Dn.v_ixT, Dn.v_lenT, Dn.v_listT, Dn.v_truT, Dn.v_inT, Dn.v_tupleT, Dn.v_slT, Dn.v_truI, Dn.v_truBl, Dn.v_truN, Dn.sh_ints, Dn.sh_intsT, Dn.sh_int, Dn.atI_0, Dn.atI_1, Dn.atI_2, Dn.atI_3, Dn.atI_4, Dn.atI_5, Dn.ixN_0, Dn.ixN_1, Dn.ixN_2, Dn.ixN_3, Dn.sh_dl, Dn.sh_dlT, Dn.v_inNA, Dn.v_inNB, Dn.v_inNC, Dn.v_inNV, Dn.v_inNX, Dn.v_inNT, Dn.for_nil, Dn.r_kBody, Dn.r_loopN, Dn.r_loopC, Dn.r_loopB, Dn.r_loopR, Dn.r_turn, Dn.r_kT0, Dn.r_kT1, Dn.r_kT1F, Dn.r_kT2, Dn.v_ixKi, Dn.v_inDKi, Dn.r_stIxK, Dn.r_gsum, Dn.r_gs1, Dn.r_gs2, Dn.r_gs3, Dn.r_gany, Dn.r_gall, Dn.r_gq1, Dn.r_gq2, List.getElem?_cons_zero, List.getElem?_cons_succ, List.set_cons_zero, List.set_cons_succ, List.map_cons, List.map_nil, List.replicate_succ, List.replicate_zero, List.length_cons, List.length_nil, List.cons_append, List.nil_append, List.take_succ_cons, List.take_zero, List.take_nil, if_true, if_false, ite_true, ite_false, Bool.not_true, Bool.not_false, Bool.and_true, Bool.true_and, Bool.and_false, Bool.false_and, Bool.or_false, Bool.false_or, Bool.or_true, Bool.true_or, Option.isNone_none, Option.isNone_some, Option.map_some, Option.map_none, Bool.false_eq_true, decide_true, decide_false, Nat.zero_add, Nat.add_zero, two64, Option.bind_some, Option.bind_none, entSl, sS, sL, sV, sM, LV.int, LV.bl, LV.str, LV.non, true_and, and_true, or_true, true_or, reduceCtorEq, Dn.mChain, Dn.mSl, mPart, mNoP, Dn.toI, toB, mLRg1, mExt, slotC, mDk, mDt, Bool.bne_false, Bool.bne_true, bne_self_eq_false, beq_self_eq_true, Nat.reduceAdd, Nat.reduceSub, Nat.reduceMul, Nat.reduceLT, Nat.reduceLeDiff, Nat.reduceEqDiff, Nat.reduceBEq, Int.reduceLT, Int.reduceLE, Int.reduceAdd, Int.reduceSub, Int.reduceMul, Int.reduceNeg, Int.reduceToNat, Int.reduceEq, Int.reduceBEq, Int.reducePow, Int.cast_ofNat_Int, Nat.reducePow, reduceIte, Int.reduceNegSucc, Int.reduceMod, Int.reduceDiv])
def kindNames : List Str := ["graph", "vectors", "choices", "bounds", "uniform", "bases"]
/-- a datum that is a tuple with a text ahead -/
def Named (D : PyData) (x : Str) : Prop := ∃ ds : List PyData, D = .tuple (.str x :: ds)
theorem Named.ro {D : PyData} {x : Str} (h : Named D x) : roOf (.sh D) = some (.sh D) := by obtain ⟨ds, rfl⟩ := h; rfl
theorem Named.at0 {D : PyData} {x : Str} (h : Named D x) : gIx (.sh D) (.sh (.int 0)) = some (.sh (.str x)) := by
  obtain ⟨ds, rfl⟩ := h
  rw [v_ixT, atI_0]
  rfl
/-- the line D has n elements; r is its rank by the law's definition -/
structure KindL (D : PyData) (n : Nat) (r : List Nat → Nat) : Prop where
  rank : Th.RankFn r
  name : ∃ x : Str, Named D x ∧ strsIn x kindNames true = true
  size : F__law_size [.sh D, .rv []] = some (.sh (.int n), [none, none])
  free : ∀ l : List Nat, (∀ e ∈ l, e < n) → l.Nodup → l.length ≤ 6 → F__law_is_free__2 [.sh D, .rv (dl l)] = some (.sh (.bool (decide (r l = l.length))), [none, none])
/-- .. and by the program -/
structure KindP (D : PyData) (n : Nat) (r : List Nat → Nat) : Prop where
  ro : roOf (.sh D) = some (.sh D)
  prog : ∀ (l : List Nat), (∀ e ∈ l, e < n) → l.Nodup → l.length ≤ 14 → F_rank_of_kind [.sh D, .rv (dl l)] = some (.sh (.int (r l)), [none, none])
  progT : ∀ (l : List Nat), (∀ e ∈ l, e < n) → l.Nodup → l.length ≤ 14 → F_rank_of_kind [.sh D, .sh (.tuple (dl l))] = some (.sh (.int (r l)), [none, none])
theorem KindL.ro {D : PyData} {n : Nat} {r : List Nat → Nat} (K : KindL D n r) : roOf (.sh D) = some (.sh D) := by obtain ⟨x, h, _⟩ := K.name; exact h.ro
/-- which sets are free -/
def frD (n : Nat) (r : List Nat → Nat) : List PyData := (List.range (2 ^ n)).map fun c => .bool (decide (r (Th.mem n c) = (Th.mem n c).length))
def rkD (n : Nat) (r : List Nat → Nat) (m : Nat) : List PyData := (List.range m).map fun c => .int (r (Th.mem n c))
theorem free2_ok {D : PyData} {n : Nat} {r : List Nat → Nat} (K : KindL D n r) (hn : n ≤ 6) : F__law_free__2 [.sh D, .rv []] = some (.lst (frD n r), [none, none]) := by
  obtain ⟨x, hD, hx⟩ := K.name
  have hp := pow14 (show n ≤ 14 by omega)
  have q : gIn false (.sh (.str x)) (.lst [.str "graph", .str "vectors", .str "choices", .str "bounds", .str "uniform", .str "bases"]) = some (.sh (.bool true)) := inS kindNames false true hx
  have n0 : ∀ st, lcLoop [5] (mGn true 5) mYes le__law_free__2_1 [] [] st = some ([], st) := fun _ => rfl
  have n1 : ∀ st, lcLoop [5] (mGn true 5) mYes le__law_free__2_2 [] [] st = some ([], st) := fun _ => rfl
  unfold F__law_free__2 b__law_free__2
  simp! [n0, n1, K.ro, K.size, every_ok (show n ≤ 14 by omega), hD.at0, q]
  rw [evD, lc_mapE (fun c => PyData.list (dl (Th.mem n c))) id (fun c => PyData.bool (decide (r (Th.mem n c) = (Th.mem n c).length))) (by rw [List.length_range]; omega)]
  · simp!
    rw [List.map_id]
    rfl
  · intro c hc
    have ml := mem_len (n := n) (c := c)
    simp! [le__law_free__2_3, K.ro, K.free (Th.mem n c) (fun e he => Th.mem_lt he) (Th.mem_nodup n c) (by omega), id]
theorem frD_at {n : Nat} {r : List Nat → Nat} {c : Nat} (h : c < 2 ^ n) : L2.atI (frD n r) (c : Int) = some (.bool (decide (r (Th.mem n c) = (Th.mem n c).length))) := by
  rw [at_nat, frD, List.getElem?_map, List.getElem?_range h]
  rfl
theorem rkD_at {n m : Nat} {r : List Nat → Nat} {c : Nat} (h : c < m) : L2.atI (rkD n r m) (c : Int) = some (.int (r (Th.mem n c))) := by
  rw [at_nat, rkD, List.getElem?_map, List.getElem?_range h]
  rfl
theorem rkD_len {n m : Nat} {r : List Nat → Nat} : (rkD n r m).length = m := by simp [rkD]
theorem rkD_snoc {n m : Nat} {r : List Nat → Nat} : rkD n r m ++ [.int (r (Th.mem n m))] = rkD n r (m + 1) := by
  unfold rkD
  rw [List.range_succ, List.map_append]
  rfl
/-- the greatest of some numbers -/
theorem maxD {l : List Nat} {m : Nat} (h1 : m ∈ l) (h2 : ∀ x ∈ l, x ≤ m) : gMax (.lst (dl l)) = some (.sh (.int m)) := by
  have e : ints? (dl l) = some (l.map fun i : Nat => (i : Int)) := by rw [dl_ints, Dn.ints_map]
  show (ints? (dl l)).bind _ = _
  rw [e]
  show (maxI _).bind _ = _
  cases q : maxI (l.map fun i : Nat => (i : Int)) with
  | none =>
    exfalso
    cases l with
    | nil => cases h1
    | cons a l => cases q
  | some M =>
    have : (m : Int) = M := maxI_uniq q (List.mem_map.mpr ⟨m, h1, rfl⟩) fun y hy => by
      obtain ⟨x, hx, rfl⟩ := List.mem_map.mp hy
      have := h2 x hx
      omega
    rw [← this]
    rfl
theorem ranks2_ok {n : Nat} {r : List Nat → Nat} (R : Th.RankFn r) (hn : n ≤ 7) : F__law_ranks__2 [.rv (frD n r), .sh (.int n)] = some (.sh (.list (rkD n r (2 ^ n))), [none, none]) := by
  have hp := pow14 (show n ≤ 14 by omega)
  have loop := for_foldN (g := mGn false 4) (body := lb__law_ranks__2_1) (fun m : Nat => (⟨[sV (frD n r), sS (.int n), sL (P2.map .int), sL (rkD n r m), none, none, none]⟩ : S)) (fun m _ => m + 1) (fun pre m => m = pre.length) (xs := List.range (2 ^ n)) (s0 := 0) rfl
    (fun pre c post m hx hm => by
      have hc : c = pre.length := by
        have h1 : (List.range (2 ^ n))[pre.length]? = some c := by rw [hx]; simp
        rw [List.getElem?_range (by
          have := congrArg List.length hx
          simp at this
          omega)] at h1
        exact (Option.some.inj h1).symm
      have hlt : c < 2 ^ n := by
        have := congrArg List.length hx
        simp at this
        omega
      subst hm
      subst hc
      refine ⟨⟨.nx, .inl rfl, ?_⟩, by simp⟩
      have ml := mem_len (n := n) (c := pre.length)
      by_cases hf : r (Th.mem n pre.length) = (Th.mem n pre.length).length
      · have ea : rkD n r pre.length ++ [PyData.int ((Th.mem n pre.length).length : Int)] = rkD n r (pre.length + 1) := by rw [← rkD_snoc, hf]
        simp! [(fun s => congrFun lb__law_ranks__2_1.eq_1 s), members_ok (show n ≤ 15 by omega), frD_at hlt, hf, v_truBl, rkD_len, show pre.length < 16777216 by omega, dl_len, ea]
      · obtain ⟨e, he, hee⟩ := R.drop hf
        have mx := maxD (l := (Th.mem n pre.length).map fun e => r ((Th.mem n pre.length).erase e)) (m := r (Th.mem n pre.length)) (List.mem_map.mpr ⟨e, he, hee⟩) (fun x hx => by
          obtain ⟨u, _, rfl⟩ := List.mem_map.mp hx
          exact R.erase_le)
        have lc : lcLoop [6] (mGn true 6) mYes le__law_ranks__2_2 (dl (Th.mem n pre.length)) [] ⟨[sV (frD n r), sS (.int n), sL (P2.map .int), sL (rkD n r pre.length), sS (.int (pre.length : Nat)), some ⟨.ro (dl (Th.mem n pre.length)), false, false⟩, none]⟩ = some (dl ((Th.mem n pre.length).map fun e => r ((Th.mem n pre.length).erase e)), ⟨[sV (frD n r), sS (.int n), sL (P2.map .int), sL (rkD n r pre.length), sS (.int (pre.length : Nat)), some ⟨.ro (dl (Th.mem n pre.length)), false, false⟩, none]⟩) := by
          refine lc_mapNN _ (by omega) fun e he => ?_
          have hb := Th.mem_iff.mp he
          have hp := Th.pow_le_of_testBit hb.2
          have hpos := Nat.two_pow_pos e
          have es : (pre.length : Int) - ((2 ^ e : Nat) : Int) = ((pre.length - 2 ^ e : Nat) : Int) := by omega
          simp! [(fun s => congrFun le__law_ranks__2_2.eq_1 s), p2_at e (by omega), es, rkD_at (n := n) (r := r) (show pre.length - 2 ^ e < pre.length by omega), Th.mem_erase hb.2]
        simp! [(fun s => congrFun lb__law_ranks__2_1.eq_1 s), members_ok (show n ≤ 15 by omega), frD_at hlt, hf, v_truBl]
        rw [lc]
        simp! [mx, rkD_len, show pre.length < 16777216 by omega, rkD_snoc])
  have hfold : ∀ l : List Nat, ∀ k, l.foldl (fun m _ => m + 1) k = k + l.length := by
    intro l
    induction l with
    | nil => intro k; rfl
    | cons a l ih => intro k; simp only [List.foldl_cons, ih, List.length_cons]; omega
  have e := loop.1
  rw [hfold, List.length_range, Nat.zero_add] at e
  have r0 : rkD n r 0 = [] := rfl
  simp only [r0] at e
  unfold F__law_ranks__2 b__law_ranks__2
  simp! [powers_ok, p2_at n (by omega), sm62 (show 2 ^ n ≤ 1000000000 by omega), Int.toNat_natCast, range_dl]
  rw [e]
  simp!
end Bd
set_option linter.all false
/-! parts of a list by codes -/
namespace Th
def sub (l : List Nat) (c : Nat) : List Nat := (mem l.length c).map fun k => l.getD k 0
theorem sub_len (l : List Nat) (c : Nat) : (sub l c).length = (mem l.length c).length := List.length_map _
theorem sub_nil (c : Nat) : sub [] c = [] := by simp [sub, mem]
theorem sub_snoc (l : List Nat) (a c : Nat) : sub (l ++ [a]) c = sub l c ++ (if c.testBit l.length then [a] else []) := by
  unfold sub
  rw [List.length_append, List.length_singleton, mem_succ, List.map_append]
  congr 1
  · refine List.map_congr_left fun k hk => ?_
    have := mem_lt hk
    rw [List.getD_eq_getElem?_getD, List.getD_eq_getElem?_getD, List.getElem?_append_left this]
  · by_cases h : c.testBit l.length
    · simp [h, List.getD_eq_getElem?_getD]
    · simp [h]
theorem snoc_ind {P : List Nat → Prop} (h0 : P []) (h1 : ∀ l a, P l → P (l ++ [a])) (l : List Nat) : P l := by
  have go : ∀ (n : Nat) (l : List Nat), l.length = n → P l := by
    intro n
    induction n with
    | zero => exact fun l h => by rw [List.length_eq_zero_iff.mp h]; exact h0
    | succ n ih =>
      intro l h
      have hne : l ≠ [] := fun q => by rw [q] at h; cases h
      rw [← List.dropLast_concat_getLast hne]
      exact h1 _ _ (ih _ (by rw [List.length_dropLast]; omega))
  exact go _ l rfl
theorem sub_sublist (c : Nat) : ∀ l : List Nat, (sub l c).Sublist l := by
  refine snoc_ind (by rw [sub_nil]; exact List.Sublist.refl _) fun l a ih => ?_
  rw [sub_snoc]
  refine ih.append ?_
  split
  · exact List.Sublist.refl _
  · exact List.nil_sublist _
theorem sub_ex : ∀ l b : List Nat, b.Sublist l → ∃ c, c < 2 ^ l.length ∧ sub l c = b := by
  refine snoc_ind (fun b h => ⟨0, by decide, ?_⟩) fun l a ih b h => ?_
  · rw [List.sublist_nil.mp h, sub_nil]
  · obtain ⟨b1, b2, rfl, h1, h2⟩ := List.sublist_append_iff.mp h
    obtain ⟨c, hc, e⟩ := ih b1 h1
    have hl : (l ++ [a]).length = l.length + 1 := by simp
    have hp : 2 ^ (l.length + 1) = 2 * 2 ^ l.length := by rw [Nat.pow_succ, Nat.mul_comm]
    rcases b2 with _ | ⟨x, b2⟩
    · refine ⟨c, by rw [hl]; omega, ?_⟩
      rw [sub_snoc, Nat.testBit_lt_two_pow hc]
      simpa using e
    · have hx : x = a ∧ b2 = [] := by
        cases h2 with
        | cons _ h => cases h
        | cons_cons _ h => exact ⟨rfl, List.sublist_nil.mp h⟩
      obtain ⟨rfl, rfl⟩ := hx
      refine ⟨2 ^ l.length + c, by rw [hl]; omega, ?_⟩
      rw [sub_snoc, Nat.testBit_two_pow_add_eq, Nat.testBit_lt_two_pow hc]
      have : sub l (2 ^ l.length + c) = sub l c := by
        unfold sub
        congr 1
        unfold mem
        refine List.filter_congr fun i hi => ?_
        rw [Nat.testBit_two_pow_add_gt (List.mem_range.mp hi)]
      rw [this, e]
      simp
end Th
set_option Elab.async false
set_option linter.all false
set_option maxRecDepth 100000
set_option maxHeartbeats 4000000
/-! ranks by trying all parts; drawn sets of a large line -/
namespace Bd
open PySem PySem.Spec PyProof.Rows L2 Dn
local macro_rules
  | `(tactic| simp! [$xs,*]) => `(tactic| simp only [Dn.r_seq, Dn.r_seqN, Dn.r_seqB, Dn.r_seqC, Dn.r_seqR, Dn.r_nx, Dn.r_bk, Dn.r_ct, Dn.r_retN, Dn.r_kNx, Dn.r_drop, Dn.r_kDrop, Dn.r_kOwnL, Dn.r_kSh, Dn.r_kOwnS, Dn.r_kRet, Dn.r_ret, Dn.r_ifS, Dn.r_ifT, Dn.r_ifF, Dn.r_set, Dn.r_kSet, Dn.r_setS, Dn.r_slotN, Dn.r_slotS, Dn.ro_sh, Dn.ro_lst, Dn.ro_dk, Dn.ro_dt, Dn.ro_set, Dn.ro_ro, Dn.ro_scr, Dn.own_sh, Dn.own_lst, Dn.own_dk, Dn.own_dt, Dn.own_set, Dn.own_ro, Dn.ro_rv, Dn.own_rv, Dn.rv_sh, Dn.rv_lst, Dn.rv_ro, Dn.rv_scr, Dn.rv_rv, Dn.rv_dk, Dn.rv_dt, Dn.rv_set, Dn.own_scr, Dn.r_setT, Dn.r_kTg, Dn.r_c, Dn.r_name, Dn.r_nameS, Dn.r_nameL, Dn.r_nameR, Dn.r_nameV, Dn.r_nameX, Dn.r_nameK, Dn.r_nameT, Dn.r_nameU, Dn.r_frz, Dn.r_frzS, Dn.r_frzL, Dn.r_frzI, Dn.r_frzO, Dn.r_frzOS, Dn.r_frzOL, Dn.r_sh, Dn.r_kMSh, Dn.r_resL, Dn.r_resS, Dn.r_kRes, Dn.r_bin, Dn.r_bin1, Dn.r_bin2, Dn.r_bin3, Dn.r_kOp, Dn.r_un, Dn.r_un1, Dn.r_un2, Dn.r_ix, Dn.r_tst, Dn.r_kTst, Dn.r_tand, Dn.r_tandT, Dn.r_tandF, Dn.r_tor, Dn.r_torT, Dn.r_torF, Dn.r_tnot, Dn.r_kTnot, Dn.r_tru, Dn.r_kTru, Dn.r_kTru2, Dn.r_kTru3, Dn.r_yes, Dn.r_andV, Dn.r_andT, Dn.r_andF, Dn.r_orV, Dn.r_orT, Dn.r_orF, Dn.r_notV, Dn.r_kNotV, Dn.r_if, Dn.r_ifeT, Dn.r_ifeF, Dn.r_fnil, Dn.r_fcons, Dn.r_fc1, Dn.r_fc2, Dn.r_tup, Dn.r_lst, Dn.r_kTup, Dn.r_kLst, Dn.r_anil, Dn.r_acons, Dn.r_ac1, Dn.r_ac2, Dn.r_call, Dn.r_kCall, Dn.r_kGo0, Dn.r_kGo, Dn.r_kBack, Dn.r_kLs, Dn.r_roL, Dn.r_roO, Dn.r_roV, Dn.r_roSL, Dn.r_roST, Dn.r_roSI, Dn.r_roSB, Dn.r_roSS, Dn.r_roSN, Dn.r_roSD, Dn.r_mk0, Dn.r_mkT, Dn.r_mkF, Dn.r_kMk1, Dn.r_kMk2, Dn.r_mo0, Dn.r_moT, Dn.r_moF, Dn.r_md0, Dn.r_mdT, Dn.r_mdL, Dn.r_mdF, Dn.r_ran, Dn.r_rac, Dn.r_ra1, Dn.r_ra2, Dn.r_sbn, Dn.r_sbl, Dn.r_sbs, Dn.r_sbL, Dn.r_sbK, Dn.r_sbT, Dn.r_sbU, Dn.r_sbS, Dn.r_sbR, Dn.r_sbV, Dn.r_sbX, Dn.r_dn, Dn.r_dl, Dn.r_ds, Dn.r_in, Dn.r_il, Dn.r_is, Dn.r_kPut0, Dn.r_kPut, Dn.r_setIx, Dn.r_sx1, Dn.r_sx2, Dn.r_sx3, Dn.r_sx4, Dn.r_sx5, Dn.r_stIx, Dn.r_app, Dn.r_ap0, Dn.r_ap1, Dn.r_ap2, Dn.r_aug, Dn.r_au0, Dn.r_au1, Dn.r_au2, Dn.r_au3, Dn.r_gn, Dn.r_gt, Dn.r_gcons, Dn.r_kGc, Dn.r_gnil, Dn.r_it, Dn.r_itL, Dn.r_itT, Dn.r_itO, Dn.r_itS, Dn.r_pinL, Dn.r_pinR, Dn.r_pinV, Dn.r_pinX, Dn.r_rng1, Dn.r_kR1, Dn.r_rng2, Dn.r_kQ1, Dn.r_kQ2, Dn.r_for, Dn.r_kFor, Dn.r_kUnl, Dn.r_unl0, Dn.r_unl1, Dn.r_unS, Dn.r_lc, Dn.r_lc1, Dn.r_lc2, Dn.r_wn, Dn.r_wc, Dn.r_wS, Dn.r_fn, Dn.r_fc, Dn.r_isF, Dn.r_clr, Dn.r_kClr, Dn.r_cl0, Dn.r_clk, Dn.r_kClN, Dn.r_kClS, Dn.r_run, Dn.r_outR, Dn.r_outN, Dn.r_finS, Dn.r_finL, Dn.r_finK, Dn.r_finT, Dn.r_finE, Dn.r_ouT, Dn.r_ouF, Dn.r_ouN, Dn.r_kIx, Dn.v_addI, Dn.v_addI', Dn.v_addT, Dn.v_addLAA, Dn.v_addLAB, Dn.v_addLAC, Dn.v_addLAV, Dn.v_addLBA, Dn.v_addLBB, Dn.v_addLBC, Dn.v_addLBV, Dn.v_addLCA, Dn.v_addLCB, Dn.v_addLCC, Dn.v_addLCV, Dn.v_addLVA, Dn.v_addLVB, Dn.v_addLVC, Dn.v_addLVV, Dn.v_sub, Dn.v_mulR, Dn.v_mulF, Dn.v_mulL, Dn.v_fdiv, Dn.v_mod, Dn.v_pow, Dn.v_pow18, Dn.v_lt, Dn.v_le, Dn.v_gt, Dn.v_ge, Dn.v_neg, Dn.v_int, Dn.v_intB, Dn.v_min, Dn.v_eqI, Dn.v_neI, Dn.v_isNN, Dn.v_isIN, Dn.v_isTN, Dn.v_isLN, Dn.v_isVN, Dn.v_isON, Dn.v_ixA, Dn.v_lenA, Dn.v_listA, Dn.v_truA, Dn.v_tupleA, Dn.v_revA, Dn.v_slA, Dn.v_inA, Dn.v_ixB, Dn.v_lenB, Dn.v_listB, Dn.v_truB, Dn.v_tupleB, Dn.v_revB, Dn.v_slB, Dn.v_inB, Dn.v_ixC, Dn.v_lenC, Dn.v_listC, Dn.v_truC, Dn.v_tupleC, Dn.v_revC, Dn.v_slC, Dn.v_inC, Dn.v_ixV, Dn.v_lenV, Dn.v_listV, Dn.v_truV, Dn.v_tupleV, Dn.v_revV, Dn.v_slV, Dn.v_inV, Dn.v_ixX, Dn.v_lenX, Dn.v_listX, Dn.v_truX, Dn.v_tupleX, Dn.v_revX, Dn.v_slX, Dn.v_inX, Dn.v_ixT, Dn.v_lenT, Dn.v_listT, Dn.v_truT, Dn.v_inT, Dn.v_tupleT, Dn.v_slT, Dn.v_truI, Dn.v_truBl, Dn.v_truN, Dn.sh_ints, Dn.sh_intsT, Dn.sh_int, Dn.atI_0, Dn.atI_1, Dn.atI_2, Dn.atI_3, Dn.atI_4, Dn.atI_5, Dn.ixN_0, Dn.ixN_1, Dn.ixN_2, Dn.ixN_3, Dn.sh_dl, Dn.sh_dlT, Dn.v_inNA, Dn.v_inNB, Dn.v_inNC, Dn.v_inNV, Dn.v_inNX, Dn.v_inNT, Dn.for_nil, Dn.r_kBody, Dn.r_loopN, Dn.r_loopC, Dn.r_loopB, Dn.r_loopR, Dn.r_turn, Dn.r_kT0, Dn.r_kT1, Dn.r_kT1F, Dn.r_kT2, Dn.v_ixKi, Dn.v_inDKi, Dn.r_stIxK, Dn.r_gsum, Dn.r_gs1, Dn.r_gs2, Dn.r_gs3, Dn.r_gany, Dn.r_gall, Dn.r_gq1, Dn.r_gq2, List.getElem?_cons_zero, List.getElem?_cons_succ, List.set_cons_zero, List.set_cons_succ, List.map_cons, List.map_nil, List.replicate_succ, List.replicate_zero, List.length_cons, List.length_nil, List.cons_append, List.nil_append, List.take_succ_cons, List.take_zero, List.take_nil, if_true, if_false, ite_true, ite_false, Bool.not_true, Bool.not_false, Bool.and_true, Bool.true_and, Bool.and_false, Bool.false_and, Bool.or_false, Bool.false_or, Bool.or_true, Bool.true_or, Option.isNone_none, Option.isNone_some, Option.map_some, Option.map_none, Bool.false_eq_true, decide_true, decide_false, Nat.zero_add, Nat.add_zero, two64, Option.bind_some, Option.bind_none, entSl, sS, sL, sV, sM, LV.int, LV.bl, LV.str, LV.non, true_and, and_true, or_true, true_or, reduceCtorEq, Dn.mChain, Dn.mSl, mPart, mNoP, Dn.toI, toB, mLRg1, mExt, slotC, mDk, mDt, Bool.bne_false, Bool.bne_true, bne_self_eq_false, beq_self_eq_true, Nat.reduceAdd, Nat.reduceSub, Nat.reduceMul, Nat.reduceLT, Nat.reduceLeDiff, Nat.reduceEqDiff, Nat.reduceBEq, Int.reduceLT, Int.reduceLE, Int.reduceAdd, Int.reduceSub, Int.reduceMul, Int.reduceNeg, Int.reduceToNat, Int.reduceEq, Int.reduceBEq, Int.reducePow, Int.cast_ofNat_Int, Nat.reducePow, reduceIte, Int.reduceNegSucc, Int.reduceMod, Int.reduceDiv, $xs,*])
  | `(tactic| simp!) => `(tactic| simp only [Dn.r_seq, Dn.r_seqN, Dn.r_seqB, Dn.r_seqC, Dn.r_seqR, Dn.r_nx, Dn.r_bk, Dn.r_ct, Dn.r_retN, Dn.r_kNx, Dn.r_drop, Dn.r_kDrop, Dn.r_kOwnL, Dn.r_kSh, Dn.r_kOwnS, Dn.r_kRet, Dn.r_ret, Dn.r_ifS, Dn.r_ifT, Dn.r_ifF, Dn.r_set, Dn.r_kSet, Dn.r_setS, Dn.r_slotN, Dn.r_slotS, Dn.ro_sh, Dn.ro_lst, Dn.ro_dk, Dn.ro_dt, Dn.ro_set, Dn.ro_ro, Dn.ro_scr, Dn.own_sh, Dn.own_lst, Dn.own_dk, Dn.own_dt, Dn.own_set, Dn.own_ro, Dn.ro_rv, Dn.own_rv, Dn.rv_sh, Dn.rv_lst, Dn.rv_ro, Dn.rv_scr, Dn.rv_rv, Dn.rv_dk, Dn.rv_dt, Dn.rv_set, Dn.own_scr, Dn.r_setT, Dn.r_kTg, Dn.r_c, Dn.r_name, Dn.r_nameS, Dn.r_nameL, Dn.r_nameR, Dn.r_nameV, Dn.r_nameX, Dn.r_nameK, Dn.r_nameT, Dn.r_nameU, Dn.r_frz, Dn.r_frzS, Dn.r_frzL, Dn.r_frzI, Dn.r_frzO, Dn.r_frzOS, Dn.r_frzOL, Dn.r_sh, Dn.r_kMSh, Dn.r_resL, Dn.r_resS, Dn.r_kRes, Dn.r_bin, Dn.r_bin1, Dn.r_bin2, Dn.r_bin3, Dn.r_kOp, Dn.r_un, Dn.r_un1, Dn.r_un2, Dn.r_ix, Dn.r_tst, Dn.r_kTst, Dn.r_tand, Dn.r_tandT, Dn.r_tandF, Dn.r_tor, Dn.r_torT, Dn.r_torF, Dn.r_tnot, Dn.r_kTnot, Dn.r_tru, Dn.r_kTru, Dn.r_kTru2, Dn.r_kTru3, Dn.r_yes, Dn.r_andV, Dn.r_andT, Dn.r_andF, Dn.r_orV, Dn.r_orT, Dn.r_orF, Dn.r_notV, Dn.r_kNotV, Dn.r_if, Dn.r_ifeT, Dn.r_ifeF, Dn.r_fnil, Dn.r_fcons, Dn.r_fc1, Dn.r_fc2, Dn.r_tup, Dn.r_lst, Dn.r_kTup, Dn.r_kLst, Dn.r_anil, Dn.r_acons, Dn.r_ac1, Dn.r_ac2, Dn.r_call, Dn.r_kCall, Dn.r_kGo0, Dn.r_kGo, Dn.r_kBack, Dn.r_kLs, Dn.r_roL, Dn.r_roO, Dn.r_roV, Dn.r_roSL, Dn.r_roST, Dn.r_roSI, Dn.r_roSB, Dn.r_roSS, Dn.r_roSN, Dn.r_roSD, Dn.r_mk0, Dn.r_mkT, Dn.r_mkF, Dn.r_kMk1, Dn.r_kMk2, Dn.r_mo0, Dn.r_moT, Dn.r_moF, Dn.r_md0, Dn.r_mdT, Dn.r_mdL, Dn.r_mdF, Dn.r_ran, Dn.r_rac, Dn.r_ra1, Dn.r_ra2, Dn.r_sbn, Dn.r_sbl, Dn.r_sbs, Dn.r_sbL, Dn.r_sbK, Dn.r_sbT, Dn.r_sbU, Dn.r_sbS, Dn.r_sbR, Dn.r_sbV, Dn.r_sbX, Dn.r_dn, Dn.r_dl, Dn.r_ds, Dn.r_in, Dn.r_il, Dn.r_is, Dn.r_kPut0, Dn.r_kPut, Dn.r_setIx, Dn.r_sx1, Dn.r_sx2, Dn.r_sx3, Dn.r_sx4, Dn.r_sx5, Dn.r_stIx, Dn.r_app, Dn.r_ap0, Dn.r_ap1, Dn.r_ap2, Dn.r_aug, Dn.r_au0, Dn.r_au1, Dn.r_au2, Dn.r_au3, Dn.r_gn, Dn.r_gt, Dn.r_gcons, Dn.r_kGc, Dn.r_gnil, Dn.r_it, Dn.r_itL, Dn.r_itT, Dn.r_itO, Dn.r_itS, Dn.r_pinL, Dn.r_pinR, Dn.r_pinV, Dn.r_pinX, Dn.r_rng1, Dn.r_kR1, Dn.r_rng2, Dn.r_kQ1, Dn.r_kQ2, Dn.r_for, Dn.r_kFor, Dn.r_kUnl, Dn.r_unl0, Dn.r_unl1, Dn.r_unS, Dn.r_lc, Dn.r_lc1, Dn.r_lc2, Dn.r_wn, Dn.r_wc, Dn.r_wS, Dn.r_fn, Dn.r_fc, Dn.r_isF, Dn.r_clr, Dn.r_kClr, Dn.r_cl0, Dn.r_clk, Dn.r_kClN, Dn.r_kClS, Dn.r_run, Dn.r_outR, Dn.r_outN, Dn.r_finS, Dn.r_finL, Dn.r_finK, Dn.r_finT, Dn.r_finE, Dn.r_ouT, Dn.r_ouF, Dn.r_ouN, Dn.r_kIx, Dn.v_addI, Dn.v_addI', Dn.v_addT, Dn.v_addLAA, Dn.v_addLAB, Dn.v_addLAC, Dn.v_addLAV, Dn.v_addLBA, Dn.v_addLBB, Dn.v_addLBC, Dn.v_addLBV, Dn.v_addLCA, Dn.v_addLCB, Dn.v_addLCC, Dn.v_addLCV, Dn.v_addLVA, Dn.v_addLVB, Dn.v_addLVC, Dn.v_addLVV, Dn.v_sub, Dn.v_mulR, Dn.v_mulF, Dn.v_mulL, Dn.v_fdiv, Dn.v_mod, Dn.v_pow, Dn.v_pow18, Dn.v_lt, Dn.v_le, Dn.v_gt, Dn.v_ge, Dn.v_neg, Dn.v_int, Dn.v_intB, Dn.v_min, Dn.v_eqI, Dn.v_neI, Dn.v_isNN, Dn.v_isIN, Dn.v_isTN, Dn.v_isLN, Dn.v_isVN, Dn.v_isON, Dn.v_ixA, Dn.v_lenA, Dn.v_listA, Dn.v_truA, Dn.v_tupleA, Dn.v_revA, Dn.v_slA, Dn.v_inA, Dn.v_ixB, Dn.v_lenB, Dn.v_listB, Dn.v_truB, Dn.v_tupleB, Dn.v_revB, Dn.v_slB, Dn.v_inB, Dn.v_ixC, Dn.v_lenC, Dn.v_listC, Dn.v_truC, Dn.v_tupleC, Dn.v_revC, Dn.v_slC, Dn.v_inC, Dn.v_ixV, Dn.v_lenV, Dn.v_listV, Dn.v_truV, Dn.v_tupleV, Dn.v_revV, Dn.v_slV, Dn.v_inV, Dn.v_ixX, Dn.v_lenX, Dn.v_listX, Dn.v_truX, Dn.v_tupleX, Dn.v_revX, Dn.v_slX, Dn.v_inX, Dn.v_ixT, Dn.v_lenT, Dn.v_listT, Dn.v_truT, Dn.v_inT, Dn.v_tupleT, Dn.v_slT, Dn.v_truI, Dn.v_truBl, Dn.v_truN, Dn.sh_ints, Dn.sh_intsT, Dn.sh_int, Dn.atI_0, Dn.atI_1, Dn.atI_2, Dn.atI_3, Dn.atI_4, Dn.atI_5, Dn.ixN_0, Dn.ixN_1, Dn.ixN_2, Dn.ixN_3, Dn.sh_dl, Dn.sh_dlT, Dn.v_inNA, Dn.v_inNB, Dn.v_inNC, Dn.v_inNV, Dn.v_inNX, Dn.v_inNT, Dn.for_nil, Dn.r_kBody, Dn.r_loopN, Dn.r_loopC, Dn.r_loopB, Dn.r_loopR, Dn.r_turn, Dn.r_kT0, Dn.r_kT1, Dn.r_kT1F, Dn.r_kT2, Dn.v_ixKi, Dn.v_inDKi, Dn.r_stIxK, Dn.r_gsum, Dn.r_gs1, Dn.r_gs2, Dn.r_gs3, Dn.r_gany, Dn.r_gall, Dn.r_gq1, Dn.r_gq2, List.getElem?_cons_zero, List.getElem?_cons_succ, List.set_cons_zero, List.set_cons_succ, List.map_cons, List.map_nil, List.replicate_succ, List.replicate_zero, List.length_cons, List.length_nil, List.cons_append, List.nil_append, List.take_succ_cons, List.take_zero, List.take_nil, if_true, if_false, ite_true, ite_false, Bool.not_true, Bool.not_false, Bool.and_true, Bool.true_and, Bool.and_false, Bool.false_and, Bool.or_false, Bool.false_or, Bool.or_true, Bool.true_or, Option.isNone_none, Option.isNone_some, Option.map_some, Option.map_none, Bool.false_eq_true, decide_true, decide_false, Nat.zero_add, Nat.add_zero, two64, Option.bind_some, Option.bind_none, entSl, sS, sL, sV, sM, LV.int, LV.bl, LV.str, LV.non, true_and, and_true, or_true, true_or, reduceCtorEq, Dn.mChain, Dn.mSl, mPart, mNoP, Dn.toI, toB, mLRg1, mExt, slotC, mDk, mDt, Bool.bne_false, Bool.bne_true, bne_self_eq_false, beq_self_eq_true, Nat.reduceAdd, Nat.reduceSub, Nat.reduceMul, Nat.reduceLT, Nat.reduceLeDiff, Nat.reduceEqDiff, Nat.reduceBEq, Int.reduceLT, Int.reduceLE, Int.reduceAdd, Int.reduceSub, Int.reduceMul, Int.reduceNeg, Int.reduceToNat, Int.reduceEq, Int.reduceBEq, Int.reducePow, Int.cast_ofNat_Int, Nat.reducePow, reduceIte, Int.reduceNegSucc, Int.reduceMod, Int.reduceDiv])
theorem parts_lc {l : List Nat} {k : Nat} (x0 x2 x3 : Option Sl) (hk : l.length ≤ 100) :
    lcLoop [4] (mGn true 4) mYes le__law_rank_in_2 (dl (Th.mem l.length k)) [] ⟨[x0, sV (dl l), x2, x3, none]⟩ = some (dl (Th.sub l k), ⟨[x0, sV (dl l), x2, x3, none]⟩) := by
  refine lc_mapNN (fun e => l.getD e 0) (by have := mem_len (n := l.length) (c := k); omega) fun e he => ?_
  have hlt := Th.mem_lt he
  have e1 : L2.atI (dl l) (e : Int) = some (.int (l.getD e 0 : Nat)) := by
    rw [at_dl (x := l.getD e 0)]
    rw [List.getD_eq_getElem?_getD, List.getElem?_eq_getElem hlt]
    rfl
  simp! [(fun s => congrFun le__law_rank_in_2.eq_1 s), e1]
theorem rank_in_ok {D : PyData} {n : Nat} {r : List Nat → Nat} (K : KindL D n r) (l : List Nat) (hl : ∀ e ∈ l, e < n) (nd : l.Nodup) (h6 : l.length ≤ 6) : F__law_rank_in [.sh D, .rv (dl l)] = some (.sh (.int (r l)), [none, none]) := by
  have R := K.rank
  have p6 := pow14 (show l.length ≤ 14 by omega)
  obtain ⟨s', e, b, hb, hj, rfl⟩ := for_ex (g := mGn false 3) (body := lb__law_rank_in_1) (items := evD l.length) (st := ⟨[sS D, sV (dl l), sS (.int 0), none, none]⟩)
      (fun i s => ∃ (b : Nat), b ≤ r l ∧ (∀ j, j < i → r (Th.sub l j) = (Th.sub l j).length → (Th.sub l j).length ≤ b) ∧ s = ⟨[sS D, sV (dl l), sS (.int b), none, none]⟩)
      ⟨0, Nat.zero_le _, fun j hj => absurd hj (Nat.not_lt_zero j), rfl⟩ (fun i d s hi hp => by
        obtain ⟨b, hb, hj, rfl⟩ := hp
        have hlt : i < 2 ^ l.length := by
          have := (List.getElem?_eq_some_iff.mp hi).1
          simpa [evD] using this
        rw [evD, List.getElem?_map, List.getElem?_range hlt] at hi
        cases hi
        have sl := Th.sub_len l i
        have ml := mem_len (n := l.length) (c := i)
        by_cases hgt : b < (Th.sub l i).length
        · have hg : decide ((b : Int) < ((Th.mem l.length i).length : Int)) = true := decide_eq_true (by omega)
          have lcx := fun x0 x2 x3 => parts_lc (l := l) (k := i) x0 x2 x3 (by omega)
          have fr := K.free (Th.sub l i) (fun e he => hl e ((Th.sub_sublist i l).subset he)) (nd.sublist (Th.sub_sublist i l)) (by omega)
          by_cases hf : r (Th.sub l i) = (Th.sub l i).length
          · refine ⟨.nx, ⟨[sS D, sV (dl l), sS (.int ((Th.sub l i).length : Nat)), none, none]⟩, ?_, .inl rfl, (Th.sub l i).length, ?_, ?_, rfl⟩
            · simp! [(fun s => congrFun lb__law_rank_in_1.eq_1 s), dl_len, hg, lcx, K.ro, fr, hf, sl, v_truBl]
            · rw [← hf]; exact R.sublist (Th.sub_sublist i l)
            · intro j hj' hfj
              by_cases e : j = i
              · subst e; exact Nat.le_refl _
              · have := hj j (by omega) hfj
                omega
          · refine ⟨.nx, ⟨[sS D, sV (dl l), sS (.int b), none, none]⟩, ?_, .inl rfl, b, hb, ?_, rfl⟩
            · simp! [(fun s => congrFun lb__law_rank_in_1.eq_1 s), dl_len, hg, lcx, K.ro, fr, hf, v_truBl]
            · intro j hj' hfj
              by_cases e : j = i
              · subst e; exact absurd hfj hf
              · exact hj j (by omega) hfj
        · have hg : decide ((b : Int) < ((Th.mem l.length i).length : Int)) = false := decide_eq_false (by omega)
          refine ⟨.nx, ⟨[sS D, sV (dl l), sS (.int b), none, none]⟩, ?_, .inl rfl, b, hb, ?_, rfl⟩
          · simp! [(fun s => congrFun lb__law_rank_in_1.eq_1 s), dl_len, hg]
          · intro j hj' hfj
            by_cases e : j = i
            · subst e; omega
            · exact hj j (by omega) hfj)
  have eb : b = r l := by
    obtain ⟨bs, h1, h2, h3⟩ := R.basis l
    obtain ⟨c, hc, e⟩ := Th.sub_ex l bs h1
    have := hj c (by simpa [evD] using hc) (by rw [e]; exact h2)
    rw [e] at this
    omega
  subst eb
  unfold F__law_rank_in b__law_rank_in
  simp! [dl_len, every_ok (show l.length ≤ 14 by omega)]
  rw [e]
  simp!
theorem few_ok {st : List PyData} (count most : Nat) (hW : WS st) (hc : count ≤ 1000) (hm : most ≤ 1000) : ∃ l st', F__law_few_of [.lst st, .sh (.int count), .sh (.int most)] = some (.sh (.list (dl l)), [some (.lst st'), none, none]) ∧ WS st' ∧ l.length ≤ most ∧ l.Nodup ∧ ∀ e ∈ l, e < count := by
  obtain ⟨s', e, hW', hle, hnd, hlt⟩ := for_invN (g := mGn false 4) (body := lb__law_few_of_1) (xs := List.range most) (fun s : List PyData × List Nat => (⟨[sM s.1, sS (.int count), sS (.int most), sL (dl s.2), none, none]⟩ : S))
    (fun pre s => WS s.1 ∧ s.2.length ≤ pre.length ∧ s.2.Nodup ∧ ∀ e ∈ s.2, e < count) (s0 := (st, [])) ⟨hW, Nat.le_refl _, List.nodup_nil, (fun e he => by cases he)⟩ (fun pre i post s hx hp => by
      obtain ⟨st', l⟩ := s
      obtain ⟨hW', hle, hnd, hlt⟩ := hp
      simp only at hW' hle hnd hlt
      have hpre : pre.length ≤ 1000 := by
        have := congrArg List.length hx
        simp at this
        omega
      by_cases h0 : 0 < count
      · obtain ⟨x, st2, ed, hx, hW2⟩ := draw_nat count hW' h0 (by omega) (count : Int) rfl
        have g0 : decide ((0 : Int) < (count : Int)) = true := decide_eq_true (by omega)
        by_cases hin : x ∈ l
        · refine ⟨.nx, (st2, l), .inl rfl, ?_, hW2, by simp; omega, hnd, hlt⟩
          simp! [(fun s => congrFun lb__law_few_of_1.eq_1 s), g0, ed, hin]
        · have ea : dl l ++ [.int (x : Int)] = dl (l ++ [x]) := (dl_app l [x]).symm
          refine ⟨.nx, (st2, l ++ [x]), .inl rfl, ?_, hW2, by simp; omega, ?_, ?_⟩
          · simp! [(fun s => congrFun lb__law_few_of_1.eq_1 s), g0, ed, hin, dl_len, show l.length < 16777216 by omega, ea]
          · rw [List.nodup_append]
            refine ⟨hnd, by simp, ?_⟩
            intro a ha b hb q
            rw [List.mem_singleton] at hb
            subst hb
            rw [q] at ha
            exact hin ha
          · intro e he
            rcases List.mem_append.mp he with h | h
            · exact hlt e h
            · rw [List.mem_singleton.mp h]; exact hx
      · have g0 : decide ((0 : Int) < (count : Int)) = false := decide_eq_false (by omega)
        refine ⟨.nx, (st', l), .inl rfl, ?_, hW', by simp; omega, hnd, hlt⟩
        simp! [(fun s => congrFun lb__law_few_of_1.eq_1 s), g0])
  rw [List.length_range] at hle
  refine ⟨s'.2, s'.1, ?_, hW', hle, hnd, hlt⟩
  have e0 : dl [] = ([] : List PyData) := rfl
  simp only [e0] at e
  unfold F__law_few_of b__law_few_of
  simp! [sm62 (show most ≤ 1000000000 by omega), Int.toNat_natCast, range_dl]
  rw [e]
  simp!
theorem fits_ok {D : PyData} {n : Nat} {r : List Nat → Nat} (K : KindL D n r) (P : KindP D n r) (hn : n ≤ 1000) {st : List PyData} (hW : WS st) : ∃ st', F__law_fits_large [.lst st, .sh D, .sh (.int 6)] = some (.sh (.bool true), [some (.lst st'), none, none]) ∧ WS st' := by
  obtain ⟨s', e, hW'⟩ := for_invN (g := mGn false 4) (body := lb__law_fits_large_1) (xs := List.range 3) (fun s : List PyData => (⟨[sM s, sS D, sS (.int 6), sS (.int n), none, none]⟩ : S))
    (fun _ s => WS s) (s0 := st) hW (fun pre i post s hx hp => by
      obtain ⟨l, st2, ef, hW2, hle, hnd, hlt⟩ := few_ok n 6 hp hn (by decide)
      have p1 := P.prog l hlt hnd (by omega)
      have p2 := rank_in_ok K l hlt hnd hle
      have ef' : F__law_few_of [.lst s, .sh (.int n), .sh (.int 6)] = _ := ef
      refine ⟨.nx, st2, .inl rfl, ?_, hW2⟩
      simp! [(fun s => congrFun lb__law_fits_large_1.eq_1 s), ef', K.ro, p1, p2])
  have s3 : small62 3 = true := by decide
  have r3 : rangeD 0 3 = dl (List.range 3) := range_dl 3
  refine ⟨s', ?_, hW'⟩
  unfold F__law_fits_large b__law_fits_large
  simp! [K.size, K.ro, s3, r3]
  rw [e]
  simp!
end Bd
set_option Elab.async false
set_option linter.all false
set_option maxRecDepth 100000
set_option maxHeartbeats 4000000
/-! choices: the law's side -/
namespace Bd
open PySem PySem.Spec PyProof.Rows L2 Dn
local macro_rules
  | `(tactic| simp! [$xs,*]) => `(tactic| simp only [Dn.r_seq, Dn.r_seqN, Dn.r_seqB, Dn.r_seqC, Dn.r_seqR, Dn.r_nx, Dn.r_bk, Dn.r_ct, Dn.r_retN, Dn.r_kNx, Dn.r_drop, Dn.r_kDrop, Dn.r_kOwnL, Dn.r_kSh, Dn.r_kOwnS, Dn.r_kRet, Dn.r_ret, Dn.r_ifS, Dn.r_ifT, Dn.r_ifF, Dn.r_set, Dn.r_kSet, Dn.r_setS, Dn.r_slotN, Dn.r_slotS, Dn.ro_sh, Dn.ro_lst, Dn.ro_dk, Dn.ro_dt, Dn.ro_set, Dn.ro_ro, Dn.ro_scr, Dn.own_sh, Dn.own_lst, Dn.own_dk, Dn.own_dt, Dn.own_set, Dn.own_ro, Dn.ro_rv, Dn.own_rv, Dn.rv_sh, Dn.rv_lst, Dn.rv_ro, Dn.rv_scr, Dn.rv_rv, Dn.rv_dk, Dn.rv_dt, Dn.rv_set, Dn.own_scr, Dn.r_setT, Dn.r_kTg, Dn.r_c, Dn.r_name, Dn.r_nameS, Dn.r_nameL, Dn.r_nameR, Dn.r_nameV, Dn.r_nameX, Dn.r_nameK, Dn.r_nameT, Dn.r_nameU, Dn.r_frz, Dn.r_frzS, Dn.r_frzL, Dn.r_frzI, Dn.r_frzO, Dn.r_frzOS, Dn.r_frzOL, Dn.r_sh, Dn.r_kMSh, Dn.r_resL, Dn.r_resS, Dn.r_kRes, Dn.r_bin, Dn.r_bin1, Dn.r_bin2, Dn.r_bin3, Dn.r_kOp, Dn.r_un, Dn.r_un1, Dn.r_un2, Dn.r_ix, Dn.r_tst, Dn.r_kTst, Dn.r_tand, Dn.r_tandT, Dn.r_tandF, Dn.r_tor, Dn.r_torT, Dn.r_torF, Dn.r_tnot, Dn.r_kTnot, Dn.r_tru, Dn.r_kTru, Dn.r_kTru2, Dn.r_kTru3, Dn.r_yes, Dn.r_andV, Dn.r_andT, Dn.r_andF, Dn.r_orV, Dn.r_orT, Dn.r_orF, Dn.r_notV, Dn.r_kNotV, Dn.r_if, Dn.r_ifeT, Dn.r_ifeF, Dn.r_fnil, Dn.r_fcons, Dn.r_fc1, Dn.r_fc2, Dn.r_tup, Dn.r_lst, Dn.r_kTup, Dn.r_kLst, Dn.r_anil, Dn.r_acons, Dn.r_ac1, Dn.r_ac2, Dn.r_call, Dn.r_kCall, Dn.r_kGo0, Dn.r_kGo, Dn.r_kBack, Dn.r_kLs, Dn.r_roL, Dn.r_roO, Dn.r_roV, Dn.r_roSL, Dn.r_roST, Dn.r_roSI, Dn.r_roSB, Dn.r_roSS, Dn.r_roSN, Dn.r_roSD, Dn.r_mk0, Dn.r_mkT, Dn.r_mkF, Dn.r_kMk1, Dn.r_kMk2, Dn.r_mo0, Dn.r_moT, Dn.r_moF, Dn.r_md0, Dn.r_mdT, Dn.r_mdL, Dn.r_mdF, Dn.r_ran, Dn.r_rac, Dn.r_ra1, Dn.r_ra2, Dn.r_sbn, Dn.r_sbl, Dn.r_sbs, Dn.r_sbL, Dn.r_sbK, Dn.r_sbT, Dn.r_sbU, Dn.r_sbS, Dn.r_sbR, Dn.r_sbV, Dn.r_sbX, Dn.r_dn, Dn.r_dl, Dn.r_ds, Dn.r_in, Dn.r_il, Dn.r_is, Dn.r_kPut0, Dn.r_kPut, Dn.r_setIx, Dn.r_sx1, Dn.r_sx2, Dn.r_sx3, Dn.r_sx4, Dn.r_sx5, Dn.r_stIx, Dn.r_app, Dn.r_ap0, Dn.r_ap1, Dn.r_ap2, Dn.r_aug, Dn.r_au0, Dn.r_au1, Dn.r_au2, Dn.r_au3, Dn.r_gn, Dn.r_gt, Dn.r_gcons, Dn.r_kGc, Dn.r_gnil, Dn.r_it, Dn.r_itL, Dn.r_itT, Dn.r_itO, Dn.r_itS, Dn.r_pinL, Dn.r_pinR, Dn.r_pinV, Dn.r_pinX, Dn.r_rng1, Dn.r_kR1, Dn.r_rng2, Dn.r_kQ1, Dn.r_kQ2, Dn.r_for, Dn.r_kFor, Dn.r_kUnl, Dn.r_unl0, Dn.r_unl1, Dn.r_unS, Dn.r_lc, Dn.r_lc1, Dn.r_lc2, Dn.r_wn, Dn.r_wc, Dn.r_wS, Dn.r_fn, Dn.r_fc, Dn.r_isF, Dn.r_clr, Dn.r_kClr, Dn.r_cl0, Dn.r_clk, Dn.r_kClN, Dn.r_kClS, Dn.r_run, Dn.r_outR, Dn.r_outN, Dn.r_finS, Dn.r_finL, Dn.r_finK, Dn.r_finT, Dn.r_finE, Dn.r_ouT, Dn.r_ouF, Dn.r_ouN, Dn.r_kIx, Dn.v_addI, Dn.v_addI', Dn.v_addT, Dn.v_addLAA, Dn.v_addLAB, Dn.v_addLAC, Dn.v_addLAV, Dn.v_addLBA, Dn.v_addLBB, Dn.v_addLBC, Dn.v_addLBV, Dn.v_addLCA, Dn.v_addLCB, Dn.v_addLCC, Dn.v_addLCV, Dn.v_addLVA, Dn.v_addLVB, Dn.v_addLVC, Dn.v_addLVV, Dn.v_sub, Dn.v_mulR, Dn.v_mulF, Dn.v_mulL, Dn.v_fdiv, Dn.v_mod, Dn.v_pow, Dn.v_pow18, Dn.v_lt, Dn.v_le, Dn.v_gt, Dn.v_ge, Dn.v_neg, Dn.v_int, Dn.v_intB, Dn.v_min, Dn.v_eqI, Dn.v_neI, Dn.v_isNN, Dn.v_isIN, Dn.v_isTN, Dn.v_isLN, Dn.v_isVN, Dn.v_isON, Dn.v_ixA, Dn.v_lenA, Dn.v_listA, Dn.v_truA, Dn.v_tupleA, Dn.v_revA, Dn.v_slA, Dn.v_inA, Dn.v_ixB, Dn.v_lenB, Dn.v_listB, Dn.v_truB, Dn.v_tupleB, Dn.v_revB, Dn.v_slB, Dn.v_inB, Dn.v_ixC, Dn.v_lenC, Dn.v_listC, Dn.v_truC, Dn.v_tupleC, Dn.v_revC, Dn.v_slC, Dn.v_inC, Dn.v_ixV, Dn.v_lenV, Dn.v_listV, Dn.v_truV, Dn.v_tupleV, Dn.v_revV, Dn.v_slV, Dn.v_inV, Dn.v_ixX, Dn.v_lenX, Dn.v_listX, Dn.v_truX, Dn.v_tupleX, Dn.v_revX, Dn.v_slX, Dn.v_inX, Dn.v_ixT, Dn.v_lenT, Dn.v_listT, Dn.v_truT, Dn.v_inT, Dn.v_tupleT, Dn.v_slT, Dn.v_truI, Dn.v_truBl, Dn.v_truN, Dn.sh_ints, Dn.sh_intsT, Dn.sh_int, Dn.atI_0, Dn.atI_1, Dn.atI_2, Dn.atI_3, Dn.atI_4, Dn.atI_5, Dn.ixN_0, Dn.ixN_1, Dn.ixN_2, Dn.ixN_3, Dn.sh_dl, Dn.sh_dlT, Dn.v_inNA, Dn.v_inNB, Dn.v_inNC, Dn.v_inNV, Dn.v_inNX, Dn.v_inNT, Dn.for_nil, Dn.r_kBody, Dn.r_loopN, Dn.r_loopC, Dn.r_loopB, Dn.r_loopR, Dn.r_turn, Dn.r_kT0, Dn.r_kT1, Dn.r_kT1F, Dn.r_kT2, Dn.v_ixKi, Dn.v_inDKi, Dn.r_stIxK, Dn.r_gsum, Dn.r_gs1, Dn.r_gs2, Dn.r_gs3, Dn.r_gany, Dn.r_gall, Dn.r_gq1, Dn.r_gq2, List.getElem?_cons_zero, List.getElem?_cons_succ, List.set_cons_zero, List.set_cons_succ, List.map_cons, List.map_nil, List.replicate_succ, List.replicate_zero, List.length_cons, List.length_nil, List.cons_append, List.nil_append, List.take_succ_cons, List.take_zero, List.take_nil, if_true, if_false, ite_true, ite_false, Bool.not_true, Bool.not_false, Bool.and_true, Bool.true_and, Bool.and_false, Bool.false_and, Bool.or_false, Bool.false_or, Bool.or_true, Bool.true_or, Option.isNone_none, Option.isNone_some, Option.map_some, Option.map_none, Bool.false_eq_true, decide_true, decide_false, Nat.zero_add, Nat.add_zero, two64, Option.bind_some, Option.bind_none, entSl, sS, sL, sV, sM, LV.int, LV.bl, LV.str, LV.non, true_and, and_true, or_true, true_or, reduceCtorEq, Dn.mChain, Dn.mSl, mPart, mNoP, Dn.toI, toB, mLRg1, mExt, slotC, mDk, mDt, Bool.bne_false, Bool.bne_true, bne_self_eq_false, beq_self_eq_true, Nat.reduceAdd, Nat.reduceSub, Nat.reduceMul, Nat.reduceLT, Nat.reduceLeDiff, Nat.reduceEqDiff, Nat.reduceBEq, Int.reduceLT, Int.reduceLE, Int.reduceAdd, Int.reduceSub, Int.reduceMul, Int.reduceNeg, Int.reduceToNat, Int.reduceEq, Int.reduceBEq, Int.reducePow, Int.cast_ofNat_Int, Nat.reducePow, reduceIte, Int.reduceNegSucc, Int.reduceMod, Int.reduceDiv, $xs,*])
  | `(tactic| simp!) => `(tactic| simp only [Dn.r_seq, Dn.r_seqN, Dn.r_seqB, Dn.r_seqC, Dn.r_seqR, Dn.r_nx, Dn.r_bk, Dn.r_ct, Dn.r_retN, Dn.r_kNx, Dn.r_drop, Dn.r_kDrop, Dn.r_kOwnL, Dn.r_kSh, Dn.r_kOwnS, Dn.r_kRet, Dn.r_ret, Dn.r_ifS, Dn.r_ifT, Dn.r_ifF, Dn.r_set, Dn.r_kSet, Dn.r_setS, Dn.r_slotN, Dn.r_slotS, Dn.ro_sh, Dn.ro_lst, Dn.ro_dk, Dn.ro_dt, Dn.ro_set, Dn.ro_ro, Dn.ro_scr, Dn.own_sh, Dn.own_lst, Dn.own_dk, Dn.own_dt, Dn.own_set, Dn.own_ro, Dn.ro_rv, Dn.own_rv, Dn.rv_sh, Dn.rv_lst, Dn.rv_ro, Dn.rv_scr, Dn.rv_rv, Dn.rv_dk, Dn.rv_dt, Dn.rv_set, Dn.own_scr, Dn.r_setT, Dn.r_kTg, Dn.r_c, Dn.r_name, Dn.r_nameS, Dn.r_nameL, Dn.r_nameR, Dn.r_nameV, Dn.r_nameX, Dn.r_nameK, Dn.r_nameT, Dn.r_nameU, Dn.r_frz, Dn.r_frzS, Dn.r_frzL, Dn.r_frzI, Dn.r_frzO, Dn.r_frzOS, Dn.r_frzOL, Dn.r_sh, Dn.r_kMSh, Dn.r_resL, Dn.r_resS, Dn.r_kRes, Dn.r_bin, Dn.r_bin1, Dn.r_bin2, Dn.r_bin3, Dn.r_kOp, Dn.r_un, Dn.r_un1, Dn.r_un2, Dn.r_ix, Dn.r_tst, Dn.r_kTst, Dn.r_tand, Dn.r_tandT, Dn.r_tandF, Dn.r_tor, Dn.r_torT, Dn.r_torF, Dn.r_tnot, Dn.r_kTnot, Dn.r_tru, Dn.r_kTru, Dn.r_kTru2, Dn.r_kTru3, Dn.r_yes, Dn.r_andV, Dn.r_andT, Dn.r_andF, Dn.r_orV, Dn.r_orT, Dn.r_orF, Dn.r_notV, Dn.r_kNotV, Dn.r_if, Dn.r_ifeT, Dn.r_ifeF, Dn.r_fnil, Dn.r_fcons, Dn.r_fc1, Dn.r_fc2, Dn.r_tup, Dn.r_lst, Dn.r_kTup, Dn.r_kLst, Dn.r_anil, Dn.r_acons, Dn.r_ac1, Dn.r_ac2, Dn.r_call, Dn.r_kCall, Dn.r_kGo0, Dn.r_kGo, Dn.r_kBack, Dn.r_kLs, Dn.r_roL, Dn.r_roO, Dn.r_roV, Dn.r_roSL, Dn.r_roST, Dn.r_roSI, Dn.r_roSB, Dn.r_roSS, Dn.r_roSN, Dn.r_roSD, Dn.r_mk0, Dn.r_mkT, Dn.r_mkF, Dn.r_kMk1, Dn.r_kMk2, Dn.r_mo0, Dn.r_moT, Dn.r_moF, Dn.r_md0, Dn.r_mdT, Dn.r_mdL, Dn.r_mdF, Dn.r_ran, Dn.r_rac, Dn.r_ra1, Dn.r_ra2, Dn.r_sbn, Dn.r_sbl, Dn.r_sbs, Dn.r_sbL, Dn.r_sbK, Dn.r_sbT, Dn.r_sbU, Dn.r_sbS, Dn.r_sbR, Dn.r_sbV, Dn.r_sbX, Dn.r_dn, Dn.r_dl, Dn.r_ds, Dn.r_in, Dn.r_il, Dn.r_is, Dn.r_kPut0, Dn.r_kPut, Dn.r_setIx, Dn.r_sx1, Dn.r_sx2, Dn.r_sx3, Dn.r_sx4, Dn.r_sx5, Dn.r_stIx, Dn.r_app, Dn.r_ap0, Dn.r_ap1, Dn.r_ap2, Dn.r_aug, Dn.r_au0, Dn.r_au1, Dn.r_au2, Dn.r_au3, Dn.r_gn, Dn.r_gt, Dn.r_gcons, Dn.r_kGc, Dn.r_gnil, Dn.r_it, Dn.r_itL, Dn.r_itT, Dn.r_itO, Dn.r_itS, Dn.r_pinL, Dn.r_pinR, Dn.r_pinV, Dn.r_pinX, Dn.r_rng1, Dn.r_kR1, Dn.r_rng2, Dn.r_kQ1, Dn.r_kQ2, Dn.r_for, Dn.r_kFor, Dn.r_kUnl, Dn.r_unl0, Dn.r_unl1, Dn.r_unS, Dn.r_lc, Dn.r_lc1, Dn.r_lc2, Dn.r_wn, Dn.r_wc, Dn.r_wS, Dn.r_fn, Dn.r_fc, Dn.r_isF, Dn.r_clr, Dn.r_kClr, Dn.r_cl0, Dn.r_clk, Dn.r_kClN, Dn.r_kClS, Dn.r_run, Dn.r_outR, Dn.r_outN, Dn.r_finS, Dn.r_finL, Dn.r_finK, Dn.r_finT, Dn.r_finE, Dn.r_ouT, Dn.r_ouF, Dn.r_ouN, Dn.r_kIx, Dn.v_addI, Dn.v_addI', Dn.v_addT, Dn.v_addLAA, Dn.v_addLAB, Dn.v_addLAC, Dn.v_addLAV, Dn.v_addLBA, Dn.v_addLBB, Dn.v_addLBC, Dn.v_addLBV, Dn.v_addLCA, Dn.v_addLCB, Dn.v_addLCC, Dn.v_addLCV, Dn.v_addLVA, Dn.v_addLVB, Dn.v_addLVC, Dn.v_addLVV, Dn.v_sub, Dn.v_mulR, Dn.v_mulF, Dn.v_mulL, Dn.v_fdiv, Dn.v_mod, Dn.v_pow, Dn.v_pow18, Dn.v_lt, Dn.v_le, Dn.v_gt, Dn.v_ge, Dn.v_neg, Dn.v_int, Dn.v_intB, Dn.v_min, Dn.v_eqI, Dn.v_neI, Dn.v_isNN, Dn.v_isIN, Dn.v_isTN, Dn.v_isLN, Dn.v_isVN, Dn.v_isON, Dn.v_ixA, Dn.v_lenA, Dn.v_listA, Dn.v_truA, Dn.v_tupleA, Dn.v_revA, Dn.v_slA, Dn.v_inA, Dn.v_ixB, Dn.v_lenB, Dn.v_listB, Dn.v_truB, Dn.v_tupleB, Dn.v_revB, Dn.v_slB, Dn.v_inB, Dn.v_ixC, Dn.v_lenC, Dn.v_listC, Dn.v_truC, Dn.v_tupleC, Dn.v_revC, Dn.v_slC, Dn.v_inC, Dn.v_ixV, Dn.v_lenV, Dn.v_listV, Dn.v_truV, Dn.v_tupleV, Dn.v_revV, Dn.v_slV, Dn.v_inV, Dn.v_ixX, Dn.v_lenX, Dn.v_listX, Dn.v_truX, Dn.v_tupleX, Dn.v_revX, Dn.v_slX, Dn.v_inX, Dn.v_ixT, Dn.v_lenT, Dn.v_listT, Dn.v_truT, Dn.v_inT, Dn.v_tupleT, Dn.v_slT, Dn.v_truI, Dn.v_truBl, Dn.v_truN, Dn.sh_ints, Dn.sh_intsT, Dn.sh_int, Dn.atI_0, Dn.atI_1, Dn.atI_2, Dn.atI_3, Dn.atI_4, Dn.atI_5, Dn.ixN_0, Dn.ixN_1, Dn.ixN_2, Dn.ixN_3, Dn.sh_dl, Dn.sh_dlT, Dn.v_inNA, Dn.v_inNB, Dn.v_inNC, Dn.v_inNV, Dn.v_inNX, Dn.v_inNT, Dn.for_nil, Dn.r_kBody, Dn.r_loopN, Dn.r_loopC, Dn.r_loopB, Dn.r_loopR, Dn.r_turn, Dn.r_kT0, Dn.r_kT1, Dn.r_kT1F, Dn.r_kT2, Dn.v_ixKi, Dn.v_inDKi, Dn.r_stIxK, Dn.r_gsum, Dn.r_gs1, Dn.r_gs2, Dn.r_gs3, Dn.r_gany, Dn.r_gall, Dn.r_gq1, Dn.r_gq2, List.getElem?_cons_zero, List.getElem?_cons_succ, List.set_cons_zero, List.set_cons_succ, List.map_cons, List.map_nil, List.replicate_succ, List.replicate_zero, List.length_cons, List.length_nil, List.cons_append, List.nil_append, List.take_succ_cons, List.take_zero, List.take_nil, if_true, if_false, ite_true, ite_false, Bool.not_true, Bool.not_false, Bool.and_true, Bool.true_and, Bool.and_false, Bool.false_and, Bool.or_false, Bool.false_or, Bool.or_true, Bool.true_or, Option.isNone_none, Option.isNone_some, Option.map_some, Option.map_none, Bool.false_eq_true, decide_true, decide_false, Nat.zero_add, Nat.add_zero, two64, Option.bind_some, Option.bind_none, entSl, sS, sL, sV, sM, LV.int, LV.bl, LV.str, LV.non, true_and, and_true, or_true, true_or, reduceCtorEq, Dn.mChain, Dn.mSl, mPart, mNoP, Dn.toI, toB, mLRg1, mExt, slotC, mDk, mDt, Bool.bne_false, Bool.bne_true, bne_self_eq_false, beq_self_eq_true, Nat.reduceAdd, Nat.reduceSub, Nat.reduceMul, Nat.reduceLT, Nat.reduceLeDiff, Nat.reduceEqDiff, Nat.reduceBEq, Int.reduceLT, Int.reduceLE, Int.reduceAdd, Int.reduceSub, Int.reduceMul, Int.reduceNeg, Int.reduceToNat, Int.reduceEq, Int.reduceBEq, Int.reducePow, Int.cast_ofNat_Int, Nat.reducePow, reduceIte, Int.reduceNegSucc, Int.reduceMod, Int.reduceDiv])
theorem cutD_tail (d : PyData) (ds : List PyData) : Dn.cutD (d :: ds) (some 1) none = ds := by
  have e1 : HT.sIx (d :: ds).length 0 (some 1) = 1 := by
    simp [HT.sIx]
  have e2 : HT.sIx (d :: ds).length (d :: ds).length none = ds.length + 1 := rfl
  rw [Dn.cutD, e1, e2]
  simp
theorem got_all {m : Nat} {cs : List (List Nat)} (G : COk m cs) {l : List Nat} (hl : ∀ e ∈ l, e < cs.length) (nd : l.Nodup) : ∃ k ts f, Got m cs l k ts f := by
  have go : ∀ (post pre : List Nat) (k : Nat) (ts : List Nat) (f : Nat → Nat), l = pre ++ post → Got m cs pre k ts f → ∃ k ts f, Got m cs l k ts f := by
    intro post
    induction post with
    | nil => intro pre k ts f hx h; rw [List.append_nil] at hx; subst hx; exact ⟨k, ts, f, h⟩
    | cons e post ih =>
      intro pre k ts f hx h
      obtain ⟨b, ts', f', s', _, g⟩ := got_step G h (hl e (by rw [hx]; simp)) (by
        have : (pre ++ [e]).Sublist l := by rw [hx]; exact (List.Sublist.refl pre).append (by simp)
        exact nd.sublist this)
      exact ih (pre ++ [e]) _ _ _ (by rw [hx]; simp) g
  exact go l [] 0 [] _ rfl (got_nil G)
theorem sdr_iff {m : Nat} {cs : List (List Nat)} (G : COk m cs) {l : List Nat} (hl : ∀ e ∈ l, e < cs.length) (nd : l.Nodup) : (∃ ts, Th.Sdr (chOf cs) l ts) ↔ Th.crk m (chOf cs) l = l.length := by
  constructor
  · intro ⟨ts, h⟩
    exact Th.sdr_full G.ch h
  · intro h
    obtain ⟨k, ts, f, g⟩ := got_all G hl nd
    obtain ⟨M, h1, h2, h3, h4⟩ := g.ex
    have e : M = l := h1.eq_of_length (by omega)
    subst e
    obtain ⟨ts, h, _⟩ := h2.sdr M nd fun _ h => h
    exact ⟨ts, h⟩
/-- the search for different things outside tk -/
theorem given_ok {m : Nat} {cs : List (List Nat)} (G : COk m cs) : ∀ (n : Nat) (l tk : List Nat), l.length < n → l.length + tk.length ≤ 1000 → (∀ e ∈ l, e < cs.length) →
    ∃ b : Bool, R__law_given n [.sh (choicesD m cs), .rv (dl l), .rv (dl tk)] = some (.sh (.bool b), [none, none, none]) ∧ (b = true ↔ ∃ ts, Th.Sdr (chOf cs) l ts ∧ ∀ t ∈ ts, t ∉ tk) := by
  intro n
  induction n with
  | zero => intro l tk h; omega
  | succ n ih =>
    intro l tk hn hz hl
    cases l with
    | nil =>
      refine ⟨true, ?_, by simp; exact ⟨[], ⟨rfl, List.nodup_nil, fun i e t h => by simp at h⟩, fun t h => by cases h⟩⟩
      unfold R__law_given b__law_given
      simp! [dl_len]
    | cons a l =>
      have ha := hl a List.mem_cons_self
      have hl' : ∀ e ∈ l, e < cs.length := fun e he => hl e (List.mem_cons_of_mem _ he)
      simp only [List.length_cons] at hn hz
      have cut1 : Dn.cutD (PyData.int (a : Int) :: Dn.dl l) (some 1) none = Dn.dl l := by
        exact cutD_tail _ _
      have step : ∀ t : Nat, ∃ b : Bool, kBody (lb__law_given_1 (R__law_given n)) ((mGn false 3) (.int (t : Int)) ⟨[sS (choicesD m cs), sV (dl (a :: l)), sV (dl tk), none]⟩) = some (if b then .rt (.sh (.bool true)) else .nx, ⟨[sS (choicesD m cs), sV (dl (a :: l)), sV (dl tk), none]⟩) ∧
          (b = true ↔ t ∉ tk ∧ ∃ ts, Th.Sdr (chOf cs) l ts ∧ ∀ u ∈ ts, u ∉ tk ++ [t]) := by
        intro t
        by_cases ht : t ∈ tk
        · refine ⟨false, ?_, by simp [ht]⟩
          simp! [(fun Y s => congrFun (lb__law_given_1.eq_1 Y) s), ht]
        · obtain ⟨b, e, hb⟩ := ih l (tk ++ [t]) (by omega) (by simp; omega) hl'
          rw [dl_app] at e
          have e1 : dl [t] = [PyData.int (t : Int)] := rfl
          rw [e1] at e
          refine ⟨b, ?_, by rw [hb]; simp [ht]⟩
          cases b <;> simp! [(fun Y s => congrFun (lb__law_given_1.eq_1 Y) s), ht, ro_choices, dl_cons, e, v_truBl, cut1, dl_len, show tk.length ≤ 16777215 by omega]
      have loop : ∀ cl : List Nat, ∃ b : Bool, forLoop (mGn false 3) (lb__law_given_1 (R__law_given n)) (dl cl) ⟨[sS (choicesD m cs), sV (dl (a :: l)), sV (dl tk), none]⟩ = some (if b then .rt (.sh (.bool true)) else .nx, ⟨[sS (choicesD m cs), sV (dl (a :: l)), sV (dl tk), none]⟩) ∧
          (b = true ↔ ∃ t ∈ cl, t ∉ tk ∧ ∃ ts, Th.Sdr (chOf cs) l ts ∧ ∀ u ∈ ts, u ∉ tk ++ [t]) := by
        intro cl
        induction cl with
        | nil => exact ⟨false, rfl, by simp⟩
        | cons t cl ihc =>
          obtain ⟨b1, e1, h1⟩ := step t
          obtain ⟨b2, e2, h2⟩ := ihc
          rw [dl_cons, for_cons, e1]
          cases b1 with
          | true => exact ⟨true, rfl, by simp only [true_iff]; exact ⟨t, List.mem_cons_self, h1.mp rfl⟩⟩
          | false =>
            refine ⟨b2, e2, ?_⟩
            rw [h2]
            constructor
            · rintro ⟨t', ht', q⟩; exact ⟨t', List.mem_cons_of_mem _ ht', q⟩
            · rintro ⟨t', ht', q⟩
              rcases List.mem_cons.mp ht' with rfl | h
              · exact absurd (h1.mpr q) (by simp)
              · exact ⟨t', h, q⟩
      obtain ⟨b, e, hb⟩ := loop (chOf cs a)
      refine ⟨b, ?_, ?_⟩
      · have ca := choice_at ha
        unfold R__law_given b__law_given
        have hne : (((l.length + 1 : Nat) : Int) == 0) = false := by rw [beq_eq_false_iff_ne]; omega
        simp! [dl_cons, List.length_cons, dl_len, hne, choicesD, ca, tupD, atI_0]
        simp only [choicesD, dl_cons] at e
        rw [e]
        cases b <;> simp!
      · rw [hb]
        constructor
        · rintro ⟨t, ht, hn1, ts, ⟨q1, q2, q3⟩, q4⟩
          refine ⟨t :: ts, ⟨by simp [q1], List.nodup_cons.mpr ⟨fun hm => q4 t hm (by simp), q2⟩, fun i e u g1 g2 => ?_⟩, fun u hu => ?_⟩
          · cases i with
            | zero => simp at g1 g2; subst g1 g2; exact ht
            | succ i => exact q3 i e u (by simpa using g1) (by simpa using g2)
          · rcases List.mem_cons.mp hu with rfl | h
            · exact hn1
            · exact fun q => q4 u h (List.mem_append_left _ q)
        · rintro ⟨ts, ⟨q1, q2, q3⟩, q4⟩
          cases ts with
          | nil => simp at q1
          | cons t ts =>
            have nd := List.nodup_cons.mp q2
            refine ⟨t, q3 0 a t rfl rfl, q4 t List.mem_cons_self, ts, ⟨by simpa using q1, nd.2, fun i e u g1 g2 => q3 (i + 1) e u (by simpa using g1) (by simpa using g2)⟩, fun u hu q => ?_⟩
            rcases List.mem_append.mp q with h | h
            · exact q4 u (List.mem_cons_of_mem _ hu) h
            · rw [List.mem_singleton.mp h] at hu; exact nd.1 hu
theorem choices_size_ok {m : Nat} {cs : List (List Nat)} : F__law_size [.sh (choicesD m cs), .rv []] = some (.sh (.int cs.length), [none, none]) := by
  have q1 : gEq (.sh (.str "choices")) (.sh (.str "vectors")) = some (.sh (.bool false)) := eqS false (by decide +kernel)
  have q2 : gEq (.sh (.str "choices")) (.sh (.str "graph")) = some (.sh (.bool false)) := eqS false (by decide +kernel)
  have q3 : gEq (.sh (.str "choices")) (.sh (.str "choices")) = some (.sh (.bool true)) := eqS true (by decide +kernel)
  unfold F__law_size b__law_size
  simp! [choicesD, q1, q2, q3, List.length_map]
theorem choices_law {m : Nat} {cs : List (List Nat)} (G : COk m cs) : KindL (choicesD m cs) cs.length (Th.crk m (chOf cs)) where
  rank := Th.crk_rank m _ G.ch
  name := ⟨"choices", ⟨_, rfl⟩, by decide +kernel⟩
  size := choices_size_ok
  free := fun l hl nd h6 => by
    have q1 : gEq (.sh (.str "choices")) (.sh (.str "vectors")) = some (.sh (.bool false)) := eqS false (by decide +kernel)
    have q2 : gEq (.sh (.str "choices")) (.sh (.str "graph")) = some (.sh (.bool false)) := eqS false (by decide +kernel)
    have q3 : gEq (.sh (.str "choices")) (.sh (.str "choices")) = some (.sh (.bool true)) := eqS true (by decide +kernel)
    obtain ⟨b, e, hb⟩ := given_ok G 60 l [] (by omega) (by simp; omega) hl
    have eb : b = decide (Th.crk m (chOf cs) l = l.length) := by
      rw [Bool.eq_iff_iff, hb, decide_eq_true_eq, ← sdr_iff G hl nd]
      simp
    rw [← eb]
    have e' : F__law_given [.sh (choicesD m cs), .rv (dl l), .rv []] = _ := e
    simp only [choicesD] at e' ⊢
    unfold F__law_is_free__2 b__law_is_free__2
    simp! [q1, q2, q3, e']
theorem choices_prog {m : Nat} {cs : List (List Nat)} (G : COk m cs) {L : LV} {l : List Nat} (hL : SeqL L (dl l)) (hl : ∀ e ∈ l, e < cs.length) (nd : l.Nodup) (hz : l.length ≤ 1000) : F_rank_of_kind [.sh (choicesD m cs), L] = some (.sh (.int (Th.crk m (chOf cs) l : Nat)), [none, none]) := by
  have q1 : gEq (.sh (.str "choices")) (.sh (.str "vectors")) = some (.sh (.bool false)) := eqS false (by decide +kernel)
  have q2 : gEq (.sh (.str "choices")) (.sh (.str "graph")) = some (.sh (.bool false)) := eqS false (by decide +kernel)
  have q3 : gEq (.sh (.str "choices")) (.sh (.str "choices")) = some (.sh (.bool true)) := eqS true (by decide +kernel)
  have e := choices_rank_ok G hL hl nd hz
  simp only [choicesD] at e ⊢
  unfold F_rank_of_kind b_rank_of_kind
  rcases hL with rfl | rfl <;> simp! [q1, q2, q3, e]
theorem choices_kindP {m : Nat} {cs : List (List Nat)} (G : COk m cs) : KindP (choicesD m cs) cs.length (Th.crk m (chOf cs)) where
  ro := rfl
  prog := fun l hl nd h => choices_prog G (.inl rfl) hl nd (by omega)
  progT := fun l hl nd h => choices_prog G (.inr rfl) hl nd (by omega)
end Bd
set_option Elab.async false
set_option linter.all false
set_option maxRecDepth 100000
set_option maxHeartbeats 4000000
/-! ranks of choices: the law -/
namespace Bd
open PySem PySem.Spec PyProof.Rows L2 Dn
local macro_rules
  | `(tactic| simp! [$xs,*]) => `(tactic| simp only [Dn.r_seq, Dn.r_seqN, Dn.r_seqB, Dn.r_seqC, Dn.r_seqR, Dn.r_nx, Dn.r_bk, Dn.r_ct, Dn.r_retN, Dn.r_kNx, Dn.r_drop, Dn.r_kDrop, Dn.r_kOwnL, Dn.r_kSh, Dn.r_kOwnS, Dn.r_kRet, Dn.r_ret, Dn.r_ifS, Dn.r_ifT, Dn.r_ifF, Dn.r_set, Dn.r_kSet, Dn.r_setS, Dn.r_slotN, Dn.r_slotS, Dn.ro_sh, Dn.ro_lst, Dn.ro_dk, Dn.ro_dt, Dn.ro_set, Dn.ro_ro, Dn.ro_scr, Dn.own_sh, Dn.own_lst, Dn.own_dk, Dn.own_dt, Dn.own_set, Dn.own_ro, Dn.ro_rv, Dn.own_rv, Dn.rv_sh, Dn.rv_lst, Dn.rv_ro, Dn.rv_scr, Dn.rv_rv, Dn.rv_dk, Dn.rv_dt, Dn.rv_set, Dn.own_scr, Dn.r_setT, Dn.r_kTg, Dn.r_c, Dn.r_name, Dn.r_nameS, Dn.r_nameL, Dn.r_nameR, Dn.r_nameV, Dn.r_nameX, Dn.r_nameK, Dn.r_nameT, Dn.r_nameU, Dn.r_frz, Dn.r_frzS, Dn.r_frzL, Dn.r_frzI, Dn.r_frzO, Dn.r_frzOS, Dn.r_frzOL, Dn.r_sh, Dn.r_kMSh, Dn.r_resL, Dn.r_resS, Dn.r_kRes, Dn.r_bin, Dn.r_bin1, Dn.r_bin2, Dn.r_bin3, Dn.r_kOp, Dn.r_un, Dn.r_un1, Dn.r_un2, Dn.r_ix, Dn.r_tst, Dn.r_kTst, Dn.r_tand, Dn.r_tandT, Dn.r_tandF, Dn.r_tor, Dn.r_torT, Dn.r_torF, Dn.r_tnot, Dn.r_kTnot, Dn.r_tru, Dn.r_kTru, Dn.r_kTru2, Dn.r_kTru3, Dn.r_yes, Dn.r_andV, Dn.r_andT, Dn.r_andF, Dn.r_orV, Dn.r_orT, Dn.r_orF, Dn.r_notV, Dn.r_kNotV, Dn.r_if, Dn.r_ifeT, Dn.r_ifeF, Dn.r_fnil, Dn.r_fcons, Dn.r_fc1, Dn.r_fc2, Dn.r_tup, Dn.r_lst, Dn.r_kTup, Dn.r_kLst, Dn.r_anil, Dn.r_acons, Dn.r_ac1, Dn.r_ac2, Dn.r_call, Dn.r_kCall, Dn.r_kGo0, Dn.r_kGo, Dn.r_kBack, Dn.r_kLs, Dn.r_roL, Dn.r_roO, Dn.r_roV, Dn.r_roSL, Dn.r_roST, Dn.r_roSI, Dn.r_roSB, Dn.r_roSS, Dn.r_roSN, Dn.r_roSD, Dn.r_mk0, Dn.r_mkT, Dn.r_mkF, Dn.r_kMk1, Dn.r_kMk2, Dn.r_mo0, Dn.r_moT, Dn.r_moF, Dn.r_md0, Dn.r_mdT, Dn.r_mdL, Dn.r_mdF, Dn.r_ran, Dn.r_rac, Dn.r_ra1, Dn.r_ra2, Dn.r_sbn, Dn.r_sbl, Dn.r_sbs, Dn.r_sbL, Dn.r_sbK, Dn.r_sbT, Dn.r_sbU, Dn.r_sbS, Dn.r_sbR, Dn.r_sbV, Dn.r_sbX, Dn.r_dn, Dn.r_dl, Dn.r_ds, Dn.r_in, Dn.r_il, Dn.r_is, Dn.r_kPut0, Dn.r_kPut, Dn.r_setIx, Dn.r_sx1, Dn.r_sx2, Dn.r_sx3, Dn.r_sx4, Dn.r_sx5, Dn.r_stIx, Dn.r_app, Dn.r_ap0, Dn.r_ap1, Dn.r_ap2, Dn.r_aug, Dn.r_au0, Dn.r_au1, Dn.r_au2, Dn.r_au3, Dn.r_gn, Dn.r_gt, Dn.r_gcons, Dn.r_kGc, Dn.r_gnil, Dn.r_it, Dn.r_itL, Dn.r_itT, Dn.r_itO, Dn.r_itS, Dn.r_pinL, Dn.r_pinR, Dn.r_pinV, Dn.r_pinX, Dn.r_rng1, Dn.r_kR1, Dn.r_rng2, Dn.r_kQ1, Dn.r_kQ2, Dn.r_for, Dn.r_kFor, Dn.r_kUnl, Dn.r_unl0, Dn.r_unl1, Dn.r_unS, Dn.r_lc, Dn.r_lc1, Dn.r_lc2, Dn.r_wn, Dn.r_wc, Dn.r_wS, Dn.r_fn, Dn.r_fc, Dn.r_isF, Dn.r_clr, Dn.r_kClr, Dn.r_cl0, Dn.r_clk, Dn.r_kClN, Dn.r_kClS, Dn.r_run, Dn.r_outR, Dn.r_outN, Dn.r_finS, Dn.r_finL, Dn.r_finK, Dn.r_finT, Dn.r_finE, Dn.r_ouT, Dn.r_ouF, Dn.r_ouN, Dn.r_kIx, Dn.v_addI, Dn.v_addI', Dn.v_addT, Dn.v_addLAA, Dn.v_addLAB, Dn.v_addLAC, Dn.v_addLAV, Dn.v_addLBA, Dn.v_addLBB, Dn.v_addLBC, Dn.v_addLBV, Dn.v_addLCA, Dn.v_addLCB, Dn.v_addLCC, Dn.v_addLCV, Dn.v_addLVA, Dn.v_addLVB, Dn.v_addLVC, Dn.v_addLVV, Dn.v_sub, Dn.v_mulR, Dn.v_mulF, Dn.v_mulL, Dn.v_fdiv, Dn.v_mod, Dn.v_pow, Dn.v_pow18, Dn.v_lt, Dn.v_le, Dn.v_gt, Dn.v_ge, Dn.v_neg, Dn.v_int, Dn.v_intB, Dn.v_min, Dn.v_eqI, Dn.v_neI, Dn.v_isNN, Dn.v_isIN, Dn.v_isTN, Dn.v_isLN, Dn.v_isVN, Dn.v_isON, Dn.v_ixA, Dn.v_lenA, Dn.v_listA, Dn.v_truA, Dn.v_tupleA, Dn.v_revA, Dn.v_slA, Dn.v_inA, Dn.v_ixB, Dn.v_lenB, Dn.v_listB, Dn.v_truB, Dn.v_tupleB, Dn.v_revB, Dn.v_slB, Dn.v_inB, Dn.v_ixC, Dn.v_lenC, Dn.v_listC, Dn.v_truC, Dn.v_tupleC, Dn.v_revC, Dn.v_slC, Dn.v_inC, Dn.v_ixV, Dn.v_lenV, Dn.v_listV, Dn.v_truV, Dn.v_tupleV, Dn.v_revV, Dn.v_slV, Dn.v_inV, Dn.v_ixX, Dn.v_lenX, Dn.v_listX, Dn.v_truX, Dn.v_tupleX, Dn.v_revX, Dn.v_slX, Dn.v_inX, Dn.v_ixT, Dn.v_lenT, Dn.v_listT, Dn.v_truT, Dn.v_inT, Dn.v_tupleT, Dn.v_slT, Dn.v_truI, Dn.v_truBl, Dn.v_truN, Dn.sh_ints, Dn.sh_intsT, Dn.sh_int, Dn.atI_0, Dn.atI_1, Dn.atI_2, Dn.atI_3, Dn.atI_4, Dn.atI_5, Dn.ixN_0, Dn.ixN_1, Dn.ixN_2, Dn.ixN_3, Dn.sh_dl, Dn.sh_dlT, Dn.v_inNA, Dn.v_inNB, Dn.v_inNC, Dn.v_inNV, Dn.v_inNX, Dn.v_inNT, Dn.for_nil, Dn.r_kBody, Dn.r_loopN, Dn.r_loopC, Dn.r_loopB, Dn.r_loopR, Dn.r_turn, Dn.r_kT0, Dn.r_kT1, Dn.r_kT1F, Dn.r_kT2, Dn.v_ixKi, Dn.v_inDKi, Dn.r_stIxK, Dn.r_gsum, Dn.r_gs1, Dn.r_gs2, Dn.r_gs3, Dn.r_gany, Dn.r_gall, Dn.r_gq1, Dn.r_gq2, List.getElem?_cons_zero, List.getElem?_cons_succ, List.set_cons_zero, List.set_cons_succ, List.map_cons, List.map_nil, List.replicate_succ, List.replicate_zero, List.length_cons, List.length_nil, List.cons_append, List.nil_append, List.take_succ_cons, List.take_zero, List.take_nil, if_true, if_false, ite_true, ite_false, Bool.not_true, Bool.not_false, Bool.and_true, Bool.true_and, Bool.and_false, Bool.false_and, Bool.or_false, Bool.false_or, Bool.or_true, Bool.true_or, Option.isNone_none, Option.isNone_some, Option.map_some, Option.map_none, Bool.false_eq_true, decide_true, decide_false, Nat.zero_add, Nat.add_zero, two64, Option.bind_some, Option.bind_none, entSl, sS, sL, sV, sM, LV.int, LV.bl, LV.str, LV.non, true_and, and_true, or_true, true_or, reduceCtorEq, Dn.mChain, Dn.mSl, mPart, mNoP, Dn.toI, toB, mLRg1, mExt, slotC, mDk, mDt, Bool.bne_false, Bool.bne_true, bne_self_eq_false, beq_self_eq_true, Nat.reduceAdd, Nat.reduceSub, Nat.reduceMul, Nat.reduceLT, Nat.reduceLeDiff, Nat.reduceEqDiff, Nat.reduceBEq, Int.reduceLT, Int.reduceLE, Int.reduceAdd, Int.reduceSub, Int.reduceMul, Int.reduceNeg, Int.reduceToNat, Int.reduceEq, Int.reduceBEq, Int.reducePow, Int.cast_ofNat_Int, Nat.reducePow, reduceIte, Int.reduceNegSucc, Int.reduceMod, Int.reduceDiv, $xs,*])
  | `(tactic| simp!) => `(tactic| simp only [Dn.r_seq, Dn.r_seqN, Dn.r_seqB, Dn.r_seqC, Dn.r_seqR, Dn.r_nx, Dn.r_bk, Dn.r_ct, Dn.r_retN, Dn.r_kNx, Dn.r_drop, Dn.r_kDrop, Dn.r_kOwnL, Dn.r_kSh, Dn.r_kOwnS, Dn.r_kRet, Dn.r_ret, Dn.r_ifS, Dn.r_ifT, Dn.r_ifF, Dn.r_set, Dn.r_kSet, Dn.r_setS, Dn.r_slotN, Dn.r_slotS, Dn.ro_sh, Dn.ro_lst, Dn.ro_dk, Dn.ro_dt, Dn.ro_set, Dn.ro_ro, Dn.ro_scr, Dn.own_sh, Dn.own_lst, Dn.own_dk, Dn.own_dt, Dn.own_set, Dn.own_ro, Dn.ro_rv, Dn.own_rv, Dn.rv_sh, Dn.rv_lst, Dn.rv_ro, Dn.rv_scr, Dn.rv_rv, Dn.rv_dk, Dn.rv_dt, Dn.rv_set, Dn.own_scr, Dn.r_setT, Dn.r_kTg, Dn.r_c, Dn.r_name, Dn.r_nameS, Dn.r_nameL, Dn.r_nameR, Dn.r_nameV, Dn.r_nameX, Dn.r_nameK, Dn.r_nameT, Dn.r_nameU, Dn.r_frz, Dn.r_frzS, Dn.r_frzL, Dn.r_frzI, Dn.r_frzO, Dn.r_frzOS, Dn.r_frzOL, Dn.r_sh, Dn.r_kMSh, Dn.r_resL, Dn.r_resS, Dn.r_kRes, Dn.r_bin, Dn.r_bin1, Dn.r_bin2, Dn.r_bin3, Dn.r_kOp, Dn.r_un, Dn.r_un1, Dn.r_un2, Dn.r_ix, Dn.r_tst, Dn.r_kTst, Dn.r_tand, Dn.r_tandT, Dn.r_tandF, Dn.r_tor, Dn.r_torT, Dn.r_torF, Dn.r_tnot, Dn.r_kTnot, Dn.r_tru, Dn.r_kTru, Dn.r_kTru2, Dn.r_kTru3, Dn.r_yes, Dn.r_andV, Dn.r_andT, Dn.r_andF, Dn.r_orV, Dn.r_orT, Dn.r_orF, Dn.r_notV, Dn.r_kNotV, Dn.r_if, Dn.r_ifeT, Dn.r_ifeF, Dn.r_fnil, Dn.r_fcons, Dn.r_fc1, Dn.r_fc2, Dn.r_tup, Dn.r_lst, Dn.r_kTup, Dn.r_kLst, Dn.r_anil, Dn.r_acons, Dn.r_ac1, Dn.r_ac2, Dn.r_call, Dn.r_kCall, Dn.r_kGo0, Dn.r_kGo, Dn.r_kBack, Dn.r_kLs, Dn.r_roL, Dn.r_roO, Dn.r_roV, Dn.r_roSL, Dn.r_roST, Dn.r_roSI, Dn.r_roSB, Dn.r_roSS, Dn.r_roSN, Dn.r_roSD, Dn.r_mk0, Dn.r_mkT, Dn.r_mkF, Dn.r_kMk1, Dn.r_kMk2, Dn.r_mo0, Dn.r_moT, Dn.r_moF, Dn.r_md0, Dn.r_mdT, Dn.r_mdL, Dn.r_mdF, Dn.r_ran, Dn.r_rac, Dn.r_ra1, Dn.r_ra2, Dn.r_sbn, Dn.r_sbl, Dn.r_sbs, Dn.r_sbL, Dn.r_sbK, Dn.r_sbT, Dn.r_sbU, Dn.r_sbS, Dn.r_sbR, Dn.r_sbV, Dn.r_sbX, Dn.r_dn, Dn.r_dl, Dn.r_ds, Dn.r_in, Dn.r_il, Dn.r_is, Dn.r_kPut0, Dn.r_kPut, Dn.r_setIx, Dn.r_sx1, Dn.r_sx2, Dn.r_sx3, Dn.r_sx4, Dn.r_sx5, Dn.r_stIx, Dn.r_app, Dn.r_ap0, Dn.r_ap1, Dn.r_ap2, Dn.r_aug, Dn.r_au0, Dn.r_au1, Dn.r_au2, Dn.r_au3, Dn.r_gn, Dn.r_gt, Dn.r_gcons, Dn.r_kGc, Dn.r_gnil, Dn.r_it, Dn.r_itL, Dn.r_itT, Dn.r_itO, Dn.r_itS, Dn.r_pinL, Dn.r_pinR, Dn.r_pinV, Dn.r_pinX, Dn.r_rng1, Dn.r_kR1, Dn.r_rng2, Dn.r_kQ1, Dn.r_kQ2, Dn.r_for, Dn.r_kFor, Dn.r_kUnl, Dn.r_unl0, Dn.r_unl1, Dn.r_unS, Dn.r_lc, Dn.r_lc1, Dn.r_lc2, Dn.r_wn, Dn.r_wc, Dn.r_wS, Dn.r_fn, Dn.r_fc, Dn.r_isF, Dn.r_clr, Dn.r_kClr, Dn.r_cl0, Dn.r_clk, Dn.r_kClN, Dn.r_kClS, Dn.r_run, Dn.r_outR, Dn.r_outN, Dn.r_finS, Dn.r_finL, Dn.r_finK, Dn.r_finT, Dn.r_finE, Dn.r_ouT, Dn.r_ouF, Dn.r_ouN, Dn.r_kIx, Dn.v_addI, Dn.v_addI', Dn.v_addT, Dn.v_addLAA, Dn.v_addLAB, Dn.v_addLAC, Dn.v_addLAV, Dn.v_addLBA, Dn.v_addLBB, Dn.v_addLBC, Dn.v_addLBV, Dn.v_addLCA, Dn.v_addLCB, Dn.v_addLCC, Dn.v_addLCV, Dn.v_addLVA, Dn.v_addLVB, Dn.v_addLVC, Dn.v_addLVV, Dn.v_sub, Dn.v_mulR, Dn.v_mulF, Dn.v_mulL, Dn.v_fdiv, Dn.v_mod, Dn.v_pow, Dn.v_pow18, Dn.v_lt, Dn.v_le, Dn.v_gt, Dn.v_ge, Dn.v_neg, Dn.v_int, Dn.v_intB, Dn.v_min, Dn.v_eqI, Dn.v_neI, Dn.v_isNN, Dn.v_isIN, Dn.v_isTN, Dn.v_isLN, Dn.v_isVN, Dn.v_isON, Dn.v_ixA, Dn.v_lenA, Dn.v_listA, Dn.v_truA, Dn.v_tupleA, Dn.v_revA, Dn.v_slA, Dn.v_inA, Dn.v_ixB, Dn.v_lenB, Dn.v_listB, Dn.v_truB, Dn.v_tupleB, Dn.v_revB, Dn.v_slB, Dn.v_inB, Dn.v_ixC, Dn.v_lenC, Dn.v_listC, Dn.v_truC, Dn.v_tupleC, Dn.v_revC, Dn.v_slC, Dn.v_inC, Dn.v_ixV, Dn.v_lenV, Dn.v_listV, Dn.v_truV, Dn.v_tupleV, Dn.v_revV, Dn.v_slV, Dn.v_inV, Dn.v_ixX, Dn.v_lenX, Dn.v_listX, Dn.v_truX, Dn.v_tupleX, Dn.v_revX, Dn.v_slX, Dn.v_inX, Dn.v_ixT, Dn.v_lenT, Dn.v_listT, Dn.v_truT, Dn.v_inT, Dn.v_tupleT, Dn.v_slT, Dn.v_truI, Dn.v_truBl, Dn.v_truN, Dn.sh_ints, Dn.sh_intsT, Dn.sh_int, Dn.atI_0, Dn.atI_1, Dn.atI_2, Dn.atI_3, Dn.atI_4, Dn.atI_5, Dn.ixN_0, Dn.ixN_1, Dn.ixN_2, Dn.ixN_3, Dn.sh_dl, Dn.sh_dlT, Dn.v_inNA, Dn.v_inNB, Dn.v_inNC, Dn.v_inNV, Dn.v_inNX, Dn.v_inNT, Dn.for_nil, Dn.r_kBody, Dn.r_loopN, Dn.r_loopC, Dn.r_loopB, Dn.r_loopR, Dn.r_turn, Dn.r_kT0, Dn.r_kT1, Dn.r_kT1F, Dn.r_kT2, Dn.v_ixKi, Dn.v_inDKi, Dn.r_stIxK, Dn.r_gsum, Dn.r_gs1, Dn.r_gs2, Dn.r_gs3, Dn.r_gany, Dn.r_gall, Dn.r_gq1, Dn.r_gq2, List.getElem?_cons_zero, List.getElem?_cons_succ, List.set_cons_zero, List.set_cons_succ, List.map_cons, List.map_nil, List.replicate_succ, List.replicate_zero, List.length_cons, List.length_nil, List.cons_append, List.nil_append, List.take_succ_cons, List.take_zero, List.take_nil, if_true, if_false, ite_true, ite_false, Bool.not_true, Bool.not_false, Bool.and_true, Bool.true_and, Bool.and_false, Bool.false_and, Bool.or_false, Bool.false_or, Bool.or_true, Bool.true_or, Option.isNone_none, Option.isNone_some, Option.map_some, Option.map_none, Bool.false_eq_true, decide_true, decide_false, Nat.zero_add, Nat.add_zero, two64, Option.bind_some, Option.bind_none, entSl, sS, sL, sV, sM, LV.int, LV.bl, LV.str, LV.non, true_and, and_true, or_true, true_or, reduceCtorEq, Dn.mChain, Dn.mSl, mPart, mNoP, Dn.toI, toB, mLRg1, mExt, slotC, mDk, mDt, Bool.bne_false, Bool.bne_true, bne_self_eq_false, beq_self_eq_true, Nat.reduceAdd, Nat.reduceSub, Nat.reduceMul, Nat.reduceLT, Nat.reduceLeDiff, Nat.reduceEqDiff, Nat.reduceBEq, Int.reduceLT, Int.reduceLE, Int.reduceAdd, Int.reduceSub, Int.reduceMul, Int.reduceNeg, Int.reduceToNat, Int.reduceEq, Int.reduceBEq, Int.reducePow, Int.cast_ofNat_Int, Nat.reducePow, reduceIte, Int.reduceNegSucc, Int.reduceMod, Int.reduceDiv])
theorem pick_lc {vs : List Nat} {g : MG} {lt : MT} {le : MF} (enc : List PyData → S) {m : Nat} (hm : m ≤ 1000)
    (ht : ∀ (i : Nat) (st : List PyData), WS st → ∃ (b : Bool) (st' : List PyData), WS st' ∧ lcTurn vs g lt le (.int (i : Int)) (enc st) = some (if b then some (.int (i : Int)) else none, enc st')) {st : List PyData} (hW : WS st) :
    ∃ (o : List Nat) (st' : List PyData), lcLoop vs g lt le (dl (List.range m)) [] (enc st) = some (dl o, enc st') ∧ WS st' ∧ o.Pairwise (· < ·) ∧ ∀ t ∈ o, t < m := by
  obtain ⟨out, s', e, o, st', rfl, rfl, hW', ho, hp⟩ := lc_ex (vs := vs) (g := g) (mt := lt) (me := le) (items := dl (List.range m)) (st := enc st)
    (fun i acc s => ∃ (o : List Nat) (st' : List PyData), acc = dl o ∧ s = enc st' ∧ WS st' ∧ (∀ t ∈ o, t < i) ∧ o.Pairwise (· < ·)) (by rw [dl_len, List.length_range]; omega)
    ⟨[], st, rfl, rfl, hW, (fun t h => by cases h), List.Pairwise.nil⟩ (fun i d acc s hi hp => by
      obtain ⟨o, st', rfl, rfl, hW', ho, hp⟩ := hp
      have hlen := (List.getElem?_eq_some_iff.mp hi).1
      rw [dl_len, List.length_range] at hlen
      rw [dl_get, List.getElem?_range hlen] at hi
      cases hi
      obtain ⟨b, st2, hW2, e⟩ := ht i st' hW'
      refine ⟨_, _, e, if b then o ++ [i] else o, st2, ?_, rfl, hW2, ?_, ?_⟩
      · cases b
        · simp
        · rw [if_pos rfl, if_pos rfl, dl_app]; rfl
      · intro t h
        cases b
        · have := ho t h; omega
        · rcases List.mem_append.mp h with h | h
          · have := ho t h; omega
          · rw [List.mem_singleton.mp h]; omega
      · cases b
        · exact hp
        · rw [if_pos rfl, List.pairwise_append]
          exact ⟨hp, List.pairwise_singleton _ _, fun a ha c hc => by rw [List.mem_singleton.mp hc]; exact ho a ha⟩)
  rw [dl_len, List.length_range] at ho
  exact ⟨o, st', e, hW', hp, ho⟩
theorem choices_draw_ok {st : List PyData} (most : Nat) (hm : most ≤ 100) (hW : WS st) : ∃ m cs st', F__law_choices [.lst st, .sh (.int most)] = some (.sh (choicesD m cs), [some (.lst st'), none]) ∧ WS st' ∧ COk m cs ∧ cs.length ≤ most := by
  obtain ⟨m, s1, e1, h1, w1⟩ := draw_nat 6 hW (by decide) (by decide) 6 rfl
  obtain ⟨k, s2, e2, h2, w2⟩ := draw_nat (most + 1) w1 (by omega) (by omega) ((most : Int) + 1) (by omega)
  obtain ⟨s', e3, w3, hl, ha, hb⟩ := for_invN (g := mGn false 4) (body := lb__law_choices_1) (xs := List.range k) (fun s : List PyData × List (List Nat) => (⟨[sM s.1, sS (.int most), sS (.int m), sL (s.2.map tupD), none, none]⟩ : S))
    (fun pre s => WS s.1 ∧ s.2.length = pre.length ∧ (∀ c ∈ s.2, ∀ t ∈ c, t < m) ∧ ∀ c ∈ s.2, c.Pairwise (· < ·)) (s0 := (s2, [])) ⟨w2, rfl, (fun c h => by cases h), (fun c h => by cases h)⟩ (fun pre i post s hx hp => by
      obtain ⟨st', cs⟩ := s
      obtain ⟨hW', hl, ha, hb⟩ := hp
      simp only at hW' hl ha hb
      have hpre : pre.length < 1000 := by
        have := congrArg List.length hx
        simp at this
        omega
      obtain ⟨o, st3, e, w3, hp, ho⟩ := pick_lc (vs := [5]) (g := mGn true 5) (lt := lt__law_choices_2) (le := le__law_choices_2) (fun st => (⟨[sM st, sS (.int most), sS (.int m), sL (cs.map tupD), sS (.int i), none]⟩ : S)) (m := m) (by omega) (fun i' st hW => by
        obtain ⟨d, st', e, hd, w⟩ := draw_nat 3 hW (by decide) (by decide) 3 rfl
        have e' : F__law_draw [.lst st, .sh (.int 3)] = _ := e
        refine ⟨(d : Int) == 1, st', w, ?_⟩
        cases hdd : ((d : Int) == 1) <;> simp! [(fun s => congrFun lt__law_choices_2.eq_1 s), (fun s => congrFun le__law_choices_2.eq_1 s), e', hdd]) hW'
      refine ⟨.nx, (st3, cs ++ [o]), .inl rfl, ?_, w3, by simp [hl], ?_, ?_⟩
      · simp! [(fun s => congrFun lb__law_choices_1.eq_1 s), sm62 (show m ≤ 1000000000 by omega), Int.toNat_natCast, range_dl]
        rw [e]
        simp! [List.map_append, tupD, List.length_map, show cs.length < 16777216 by omega]
      · intro c hc
        rcases List.mem_append.mp hc with h | h
        · exact ha c h
        · rw [List.mem_singleton.mp h]; exact ho
      · intro c hc
        rcases List.mem_append.mp hc with h | h
        · exact hb c h
        · rw [List.mem_singleton.mp h]; exact hp)
  rw [List.length_range] at hl
  have e1' : F__law_draw [.lst st, .sh (.int 6)] = _ := e1
  refine ⟨m, s'.2, s'.1, ?_, w3, ⟨by omega, by omega, ha, hb⟩, by omega⟩
  have e0 : ([] : List (List Nat)).map tupD = [] := rfl
  simp only [e0] at e3
  unfold F__law_choices b__law_choices
  simp! [e1', e2, sm62 (show k ≤ 1000000000 by omega), Int.toNat_natCast, range_dl]
  rw [e3]
  simp! [choicesD]
theorem choices_large_ok {st : List PyData} (hW : WS st) : ∃ m cs st', F__law_large__3 [.lst st] = some (.sh (choicesD m cs), [some (.lst st')]) ∧ WS st' ∧ COk m cs ∧ cs.length = 14 := by
  obtain ⟨m, s1, e1, h1, w1⟩ := draw_nat 15 hW (by decide) (by decide) 15 rfl
  obtain ⟨out, s', e3, cs, st', rfl, rfl, w3, hl, ha, hb⟩ := lc_ex (vs := [3]) (g := mGn true 3) (mt := mYes) (me := le__law_large__3_1) (items := dl (List.range 14)) (st := (⟨[sM s1, sS (.int m), none, none, none]⟩ : S))
    (fun i acc s => ∃ (cs : List (List Nat)) (st' : List PyData), acc = cs.map tupD ∧ s = ⟨[sM st', sS (.int m), none, none, none]⟩ ∧ WS st' ∧ cs.length = i ∧ (∀ c ∈ cs, ∀ t ∈ c, t < m) ∧ ∀ c ∈ cs, c.Pairwise (· < ·)) (by decide) ⟨[], s1, rfl, rfl, w1, rfl, (fun c h => by cases h), (fun c h => by cases h)⟩ (fun i d acc s hi hp => by
      obtain ⟨cs, st', rfl, rfl, hW', hl, ha, hb⟩ := hp
      have hlen := (List.getElem?_eq_some_iff.mp hi).1
      rw [dl_len, List.length_range] at hlen
      rw [dl_get, List.getElem?_range hlen] at hi
      cases hi
      obtain ⟨o, st3, e, w3, hp, ho⟩ := pick_lc (vs := [4]) (g := mGn true 4) (lt := lt__law_large__3_2) (le := le__law_large__3_2) (fun st => (⟨[sM st, sS (.int m), none, some ⟨.sh (.int i), false, true⟩, none]⟩ : S)) (m := m) (by omega) (fun i' st hW => by
        obtain ⟨d, st', e, hd, w⟩ := draw_nat 6 hW (by decide) (by decide) 6 rfl
        have e' : F__law_draw [.lst st, .sh (.int 6)] = _ := e
        refine ⟨(d : Int) == 1, st', w, ?_⟩
        cases hdd : ((d : Int) == 1) <;> simp! [(fun s => congrFun lt__law_large__3_2.eq_1 s), (fun s => congrFun le__law_large__3_2.eq_1 s), e', hdd]) hW'
      refine ⟨some (tupD o), _, ?_, cs ++ [o], st3, by simp, rfl, w3, by simp [hl], ?_, ?_⟩
      · simp! [(fun s => congrFun le__law_large__3_1.eq_1 s), di, sm62 (show m ≤ 1000000000 by omega), Int.toNat_natCast, range_dl]
        rw [e]
        simp! [tupD]
      · intro c hc
        rcases List.mem_append.mp hc with h | h
        · exact ha c h
        · rw [List.mem_singleton.mp h]; exact ho
      · intro c hc
        rcases List.mem_append.mp hc with h | h
        · exact hb c h
        · rw [List.mem_singleton.mp h]; exact hp)
  rw [dl_len, List.length_range] at hl
  have e1' : F__law_draw [.lst st, .sh (.int 15)] = _ := e1
  have s14 : small62 14 = true := by decide
  have r14 : rangeD 0 14 = dl (List.range 14) := range_dl 14
  refine ⟨m, cs, st', ?_, w3, ⟨by omega, by omega, ha, hb⟩, hl⟩
  unfold F__law_large__3 b__law_large__3
  simp! [e1', s14, r14]
  rw [e3]
  simp! [choicesD]
theorem dl_reverse (l : List Nat) : (Dn.dl l).reverse = Dn.dl l.reverse := (List.map_reverse).symm
theorem law6_ok (ns : List Int) : ∃ as', F_law__6 [.scr (ns.map PyData.int)] = some (.bl true, as') := by
  obtain ⟨m, cs, st1, e1, w1, G, h6⟩ := choices_draw_ok 6 (by decide) (ws0 ns)
  have K := choices_law G
  have P := choices_kindP G
  have R := K.rank
  obtain ⟨t, st2, e2, h2, w2⟩ := draw_nat 2 w1 (by decide) (by decide) 2 rfl
  obtain ⟨m', cs', st3, e3, w3, G', h14⟩ := choices_large_ok w2
  obtain ⟨st4, e4, w4⟩ := fits_ok (choices_law G') (choices_kindP G') (by omega) w3
  have e1' : F__law_choices [.lst [.int 0, .int 0, .list (ns.map .int), .int 1], .sh (.int 6)] = _ := e1
  have e2' : F__law_draw [.lst st1, .sh (.int 2)] = _ := e2
  have ef := free2_ok K h6
  have er := ranks2_ok (n := cs.length) R (by omega)
  have ee := every_ok (n := cs.length) (by omega)
  -- the loop over all sets
  have el := for_inv (g := mGn false 6) (body := lb_law__6_1) (fun c : Nat => PyData.list (dl (Th.mem cs.length c))) (fun _ : Unit => (⟨[some ⟨.scr (ns.map PyData.int), true, false⟩, sL st2, sS (choicesD m cs), sS (.int cs.length), sS (.list (rkD cs.length (Th.crk m (chOf cs)) (2 ^ cs.length))), sS (.int t), none, none, none]⟩ : S)) (fun _ _ => True)
    (xs := List.range (2 ^ cs.length)) (s0 := ()) trivial (fun pre c post s hx _ => by
      have hlt : c < 2 ^ cs.length := by
        have : c ∈ List.range (2 ^ cs.length) := by rw [hx]; simp
        exact List.mem_range.mp this
      have ml := mem_len (n := cs.length) (c := c)
      have nd := Th.mem_nodup cs.length c
      have p1 := P.prog (Th.mem cs.length c) (fun e he => Th.mem_lt he) nd (by omega)
      have p2 := P.prog (Th.mem cs.length c).reverse (fun e he => Th.mem_lt (List.mem_reverse.mp he)) ((List.reverse_perm _).nodup_iff.mpr nd) (by rw [List.length_reverse]; omega)
      rw [R.perm (List.reverse_perm _)] at p2
      have ec := code_ok (l := Th.mem cs.length c) (by omega) (fun e he => by have := Th.mem_lt he; omega)
      rw [Th.cod_mem_lt hlt] at ec
      have er2 := rkD_at (n := cs.length) (r := Th.crk m (chOf cs)) hlt
      have ei := integer_ok (i := ((Th.crk m (chOf cs) (Th.mem cs.length c) : Nat) : Int))
      refine ⟨.nx, (), .inl rfl, ?_, trivial⟩
      by_cases ht : (t : Int) = 1
      · have et : ((t : Int) == 1) = true := by simp [ht]
        simp! [(fun s => congrFun lb_law__6_1.eq_1 s), et, dl_reverse, P.ro, p2, ei, v_truBl, ec, er2]
      · have et : ((t : Int) == 1) = false := by simp [ht]
        simp! [(fun s => congrFun lb_law__6_1.eq_1 s), et, P.ro, p1, ei, v_truBl, ec, er2])
  obtain ⟨_, el, _⟩ := el
  refine ⟨[some (.scr (ns.map PyData.int))], ?_⟩
  unfold F_law__6 b_law__6
  simp! [e1', K.ro, K.size, ef, er, e2', ee, evD]
  rw [el]
  simp! [e3, (choices_kindP G').ro, e4]
end Bd
namespace K10
theorem main : ∀ ns : List Int, ns.length ≤ 63 → ∃ as', Bd.F_law__6 [.scr (ns.map PySem.PyData.int)] = some (.bl true, as') := fun ns _ => Bd.law6_ok ns
end K10
set_option Elab.async false
set_option linter.all false
set_option maxRecDepth 100000
set_option maxHeartbeats 8000000
namespace K10
open PySem PySem.Spec PyProof.Rows L2 Dn Bd
theorem all_mk {l : PySem.W.OpenLaw} {w : World} {K : PySem.W.Frag} {h : Heap} {mg : Str → Option Value} {fa f__law_draw cd__law_draw f__law_choices cd__law_choices f__law_size cd__law_size f__law_powers cd__law_powers f__law_members cd__law_members f__law_ranks cd__law_ranks f__law_every cd__law_every f__law_few_of cd__law_few_of f_bases_rank cd_bases_rank f_graph_rank cd_graph_rank f_reduced cd_reduced f_inverse cd_inverse f_vectors_rank cd_vectors_rank f_find_thing cd_find_thing f_choices_rank cd_choices_rank f_bounds_rank cd_bounds_rank f_rank_of_kind cd_rank_of_kind f__law_forest cd__law_forest f__law_given cd__law_given f__law_sums cd__law_sums f__law_is_free cd__law_is_free f__law_rank_in cd__law_rank_in f__law_fits_large cd__law_fits_large f__law_code cd__law_code f__law_made_free cd__law_made_free f__law_free cd__law_free f__law_large cd__law_large f__law_is_integer cd__law_is_integer f_law cd_law P_choices_rank P_bounds_rank P_bases_rank : Addr} (X : K.In h) (G : h.Ns mainGlobals mg) (hfa : mg "law" = some (.ref fa)) (hl : l.most = some 63) (hmain : ∀ ns : List Int, ns.length ≤ 63 → ∃ as', F_law__6 [.scr (ns.map PyData.int)] = some (.bl true, as'))
    {od__law_draw an__law_draw od__law_choices an__law_choices od__law_size an__law_size od__law_powers an__law_powers od__law_members an__law_members od__law_ranks an__law_ranks od__law_every an__law_every od__law_few_of an__law_few_of od_bases_rank an_bases_rank od_graph_rank an_graph_rank od_reduced an_reduced od_inverse an_inverse od_vectors_rank an_vectors_rank od_find_thing an_find_thing od_choices_rank an_choices_rank od_bounds_rank an_bounds_rank od_rank_of_kind an_rank_of_kind od__law_forest an__law_forest od__law_given an__law_given od__law_sums an__law_sums od__law_is_free an__law_is_free od__law_rank_in an__law_rank_in od__law_fits_large an__law_fits_large od__law_code an__law_code od__law_made_free an__law_made_free od__law_free an__law_free od__law_large an__law_large od__law_is_integer an__law_is_integer od_law an_law tod_choices_rank tod_bounds_rank tod_bases_rank : Option Addr} {sl__law_draw sl__law_choices sl__law_size sl__law_powers sl__law_members sl__law_ranks sl__law_every sl__law_few_of sl_bases_rank sl_graph_rank sl_reduced sl_inverse sl_vectors_rank sl_find_thing sl_choices_rank sl_bounds_rank sl_rank_of_kind sl__law_forest sl__law_given sl__law_sums sl__law_is_free sl__law_rank_in sl__law_fits_large sl__law_code sl__law_made_free sl__law_free sl__law_large sl__law_is_integer sl_law tsl_choices_rank tsl_bounds_rank tsl_bases_rank : Array (Option Value)} {oc__law_draw kV__law_draw dc__law_draw pm__law_draw ct__law_draw oc__law_choices kV__law_choices dc__law_choices pm__law_choices ct__law_choices oc__law_size kV__law_size dc__law_size pm__law_size ct__law_size oc__law_powers kV__law_powers dc__law_powers pm__law_powers ct__law_powers oc__law_members kV__law_members dc__law_members pm__law_members ct__law_members oc__law_ranks kV__law_ranks dc__law_ranks pm__law_ranks ct__law_ranks oc__law_every kV__law_every dc__law_every pm__law_every ct__law_every oc__law_few_of kV__law_few_of dc__law_few_of pm__law_few_of ct__law_few_of oc_bases_rank kV_bases_rank dc_bases_rank pm_bases_rank ct_bases_rank oc_graph_rank kV_graph_rank dc_graph_rank pm_graph_rank ct_graph_rank oc_reduced kV_reduced dc_reduced pm_reduced ct_reduced oc_inverse kV_inverse dc_inverse pm_inverse ct_inverse oc_vectors_rank kV_vectors_rank dc_vectors_rank pm_vectors_rank ct_vectors_rank oc_find_thing kV_find_thing dc_find_thing pm_find_thing ct_find_thing oc_choices_rank kV_choices_rank dc_choices_rank pm_choices_rank ct_choices_rank oc_bounds_rank kV_bounds_rank dc_bounds_rank pm_bounds_rank ct_bounds_rank oc_rank_of_kind kV_rank_of_kind dc_rank_of_kind pm_rank_of_kind ct_rank_of_kind oc__law_forest kV__law_forest dc__law_forest pm__law_forest ct__law_forest oc__law_given kV__law_given dc__law_given pm__law_given ct__law_given oc__law_sums kV__law_sums dc__law_sums pm__law_sums ct__law_sums oc__law_is_free kV__law_is_free dc__law_is_free pm__law_is_free ct__law_is_free oc__law_rank_in kV__law_rank_in dc__law_rank_in pm__law_rank_in ct__law_rank_in oc__law_fits_large kV__law_fits_large dc__law_fits_large pm__law_fits_large ct__law_fits_large oc__law_code kV__law_code dc__law_code pm__law_code ct__law_code oc__law_made_free kV__law_made_free dc__law_made_free pm__law_made_free ct__law_made_free oc__law_free kV__law_free dc__law_free pm__law_free ct__law_free oc__law_large kV__law_large dc__law_large pm__law_large ct__law_large oc__law_is_integer kV__law_is_integer dc__law_is_integer pm__law_is_integer ct__law_is_integer oc_law kV_law dc_law pm_law ct_law : Value} {tv_choices_rank tv_bounds_rank tv_bases_rank : Array Value}
    (a__law_draw : PySem.W.nsIn K mainGlobals "_law_draw" = some (some (.ref f__law_draw))) (l__law_draw : K.lookup f__law_draw = some ⟨oc__law_draw, od__law_draw, .func (PySem.W.fnOf "_law_draw" "_law_draw" (defArgs s__law_draw) (defBody s__law_draw) (defScope s__law_draw) .none kV__law_draw dc__law_draw pm__law_draw an__law_draw (.ref cd__law_draw) ct__law_draw), sl__law_draw⟩) (c__law_draw : PySem.W.codeIn K (.ref cd__law_draw) "_law_draw" = true)
    (a__law_choices : PySem.W.nsIn K mainGlobals "_law_choices" = some (some (.ref f__law_choices))) (l__law_choices : K.lookup f__law_choices = some ⟨oc__law_choices, od__law_choices, .func (PySem.W.fnOf "_law_choices" "_law_choices" (defArgs s__law_choices) (defBody s__law_choices) (defScope s__law_choices) .none kV__law_choices dc__law_choices pm__law_choices an__law_choices (.ref cd__law_choices) ct__law_choices), sl__law_choices⟩) (c__law_choices : PySem.W.codeIn K (.ref cd__law_choices) "_law_choices" = true)
    (a__law_size : PySem.W.nsIn K mainGlobals "_law_size" = some (some (.ref f__law_size))) (l__law_size : K.lookup f__law_size = some ⟨oc__law_size, od__law_size, .func (PySem.W.fnOf "_law_size" "_law_size" (defArgs s__law_size) (defBody s__law_size) (defScope s__law_size) .none kV__law_size dc__law_size pm__law_size an__law_size (.ref cd__law_size) ct__law_size), sl__law_size⟩) (c__law_size : PySem.W.codeIn K (.ref cd__law_size) "_law_size" = true)
    (a__law_powers : PySem.W.nsIn K mainGlobals "_law_powers" = some (some (.ref f__law_powers))) (l__law_powers : K.lookup f__law_powers = some ⟨oc__law_powers, od__law_powers, .func (PySem.W.fnOf "_law_powers" "_law_powers" (defArgs s__law_powers) (defBody s__law_powers) (defScope s__law_powers) .none kV__law_powers dc__law_powers pm__law_powers an__law_powers (.ref cd__law_powers) ct__law_powers), sl__law_powers⟩) (c__law_powers : PySem.W.codeIn K (.ref cd__law_powers) "_law_powers" = true)
    (a__law_members : PySem.W.nsIn K mainGlobals "_law_members" = some (some (.ref f__law_members))) (l__law_members : K.lookup f__law_members = some ⟨oc__law_members, od__law_members, .func (PySem.W.fnOf "_law_members" "_law_members" (defArgs s__law_members) (defBody s__law_members) (defScope s__law_members) .none kV__law_members dc__law_members pm__law_members an__law_members (.ref cd__law_members) ct__law_members), sl__law_members⟩) (c__law_members : PySem.W.codeIn K (.ref cd__law_members) "_law_members" = true)
    (a__law_ranks : PySem.W.nsIn K mainGlobals "_law_ranks" = some (some (.ref f__law_ranks))) (l__law_ranks : K.lookup f__law_ranks = some ⟨oc__law_ranks, od__law_ranks, .func (PySem.W.fnOf "_law_ranks" "_law_ranks" (defArgs s__law_ranks) (defBody s__law_ranks) (defScope s__law_ranks) .none kV__law_ranks dc__law_ranks pm__law_ranks an__law_ranks (.ref cd__law_ranks) ct__law_ranks), sl__law_ranks⟩) (c__law_ranks : PySem.W.codeIn K (.ref cd__law_ranks) "_law_ranks" = true)
    (a__law_every : PySem.W.nsIn K mainGlobals "_law_every" = some (some (.ref f__law_every))) (l__law_every : K.lookup f__law_every = some ⟨oc__law_every, od__law_every, .func (PySem.W.fnOf "_law_every" "_law_every" (defArgs s__law_every) (defBody s__law_every) (defScope s__law_every) .none kV__law_every dc__law_every pm__law_every an__law_every (.ref cd__law_every) ct__law_every), sl__law_every⟩) (c__law_every : PySem.W.codeIn K (.ref cd__law_every) "_law_every" = true)
    (a__law_few_of : PySem.W.nsIn K mainGlobals "_law_few_of" = some (some (.ref f__law_few_of))) (l__law_few_of : K.lookup f__law_few_of = some ⟨oc__law_few_of, od__law_few_of, .func (PySem.W.fnOf "_law_few_of" "_law_few_of" (defArgs s__law_few_of) (defBody s__law_few_of) (defScope s__law_few_of) .none kV__law_few_of dc__law_few_of pm__law_few_of an__law_few_of (.ref cd__law_few_of) ct__law_few_of), sl__law_few_of⟩) (c__law_few_of : PySem.W.codeIn K (.ref cd__law_few_of) "_law_few_of" = true)
    (a_bases_rank : PySem.W.nsIn K mainGlobals "bases_rank" = some (some (.ref f_bases_rank))) (l_bases_rank : K.lookup f_bases_rank = some ⟨oc_bases_rank, od_bases_rank, .func (PySem.W.fnOf "bases_rank" "bases_rank" (defArgs s_bases_rank) (defBody s_bases_rank) (defScope s_bases_rank) .none kV_bases_rank dc_bases_rank pm_bases_rank an_bases_rank (.ref cd_bases_rank) ct_bases_rank), sl_bases_rank⟩) (c_bases_rank : PySem.W.codeIn K (.ref cd_bases_rank) "bases_rank" = true)
    (t_bases_rank : K.lookup cd_bases_rank = some ⟨.type "code", tod_bases_rank, .fields tv_bases_rank, tsl_bases_rank⟩) (u_bases_rank : (tv_bases_rank[11]? : Option Value) = some (.ref P_bases_rank)) (v_bases_rank : codeFlds tv_bases_rank = true) (w_bases_rank : (cd_bases_rank == P_bases_rank) = false) (p_bases_rank : K.lookup P_bases_rank = some ⟨.none, none, .fields #[], #[]⟩)
    (a_graph_rank : PySem.W.nsIn K mainGlobals "graph_rank" = some (some (.ref f_graph_rank))) (l_graph_rank : K.lookup f_graph_rank = some ⟨oc_graph_rank, od_graph_rank, .func (PySem.W.fnOf "graph_rank" "graph_rank" (defArgs s_graph_rank) (defBody s_graph_rank) (defScope s_graph_rank) .none kV_graph_rank dc_graph_rank pm_graph_rank an_graph_rank (.ref cd_graph_rank) ct_graph_rank), sl_graph_rank⟩) (c_graph_rank : PySem.W.codeIn K (.ref cd_graph_rank) "graph_rank" = true)
    (a_reduced : PySem.W.nsIn K mainGlobals "reduced" = some (some (.ref f_reduced))) (l_reduced : K.lookup f_reduced = some ⟨oc_reduced, od_reduced, .func (PySem.W.fnOf "reduced" "reduced" (defArgs s_reduced) (defBody s_reduced) (defScope s_reduced) .none kV_reduced dc_reduced pm_reduced an_reduced (.ref cd_reduced) ct_reduced), sl_reduced⟩) (c_reduced : PySem.W.codeIn K (.ref cd_reduced) "reduced" = true)
    (a_inverse : PySem.W.nsIn K mainGlobals "inverse" = some (some (.ref f_inverse))) (l_inverse : K.lookup f_inverse = some ⟨oc_inverse, od_inverse, .func (PySem.W.fnOf "inverse" "inverse" (defArgs s_inverse) (defBody s_inverse) (defScope s_inverse) .none kV_inverse dc_inverse pm_inverse an_inverse (.ref cd_inverse) ct_inverse), sl_inverse⟩) (c_inverse : PySem.W.codeIn K (.ref cd_inverse) "inverse" = true)
    (a_vectors_rank : PySem.W.nsIn K mainGlobals "vectors_rank" = some (some (.ref f_vectors_rank))) (l_vectors_rank : K.lookup f_vectors_rank = some ⟨oc_vectors_rank, od_vectors_rank, .func (PySem.W.fnOf "vectors_rank" "vectors_rank" (defArgs s_vectors_rank) (defBody s_vectors_rank) (defScope s_vectors_rank) .none kV_vectors_rank dc_vectors_rank pm_vectors_rank an_vectors_rank (.ref cd_vectors_rank) ct_vectors_rank), sl_vectors_rank⟩) (c_vectors_rank : PySem.W.codeIn K (.ref cd_vectors_rank) "vectors_rank" = true)
    (a_find_thing : PySem.W.nsIn K mainGlobals "find_thing" = some (some (.ref f_find_thing))) (l_find_thing : K.lookup f_find_thing = some ⟨oc_find_thing, od_find_thing, .func (PySem.W.fnOf "find_thing" "find_thing" (defArgs s_find_thing) (defBody s_find_thing) (defScope s_find_thing) .none kV_find_thing dc_find_thing pm_find_thing an_find_thing (.ref cd_find_thing) ct_find_thing), sl_find_thing⟩) (c_find_thing : PySem.W.codeIn K (.ref cd_find_thing) "find_thing" = true)
    (a_choices_rank : PySem.W.nsIn K mainGlobals "choices_rank" = some (some (.ref f_choices_rank))) (l_choices_rank : K.lookup f_choices_rank = some ⟨oc_choices_rank, od_choices_rank, .func (PySem.W.fnOf "choices_rank" "choices_rank" (defArgs s_choices_rank) (defBody s_choices_rank) (defScope s_choices_rank) .none kV_choices_rank dc_choices_rank pm_choices_rank an_choices_rank (.ref cd_choices_rank) ct_choices_rank), sl_choices_rank⟩) (c_choices_rank : PySem.W.codeIn K (.ref cd_choices_rank) "choices_rank" = true)
    (t_choices_rank : K.lookup cd_choices_rank = some ⟨.type "code", tod_choices_rank, .fields tv_choices_rank, tsl_choices_rank⟩) (u_choices_rank : (tv_choices_rank[11]? : Option Value) = some (.ref P_choices_rank)) (v_choices_rank : codeFlds tv_choices_rank = true) (w_choices_rank : (cd_choices_rank == P_choices_rank) = false) (p_choices_rank : K.lookup P_choices_rank = some ⟨.none, none, .fields #[], #[]⟩)
    (a_bounds_rank : PySem.W.nsIn K mainGlobals "bounds_rank" = some (some (.ref f_bounds_rank))) (l_bounds_rank : K.lookup f_bounds_rank = some ⟨oc_bounds_rank, od_bounds_rank, .func (PySem.W.fnOf "bounds_rank" "bounds_rank" (defArgs s_bounds_rank) (defBody s_bounds_rank) (defScope s_bounds_rank) .none kV_bounds_rank dc_bounds_rank pm_bounds_rank an_bounds_rank (.ref cd_bounds_rank) ct_bounds_rank), sl_bounds_rank⟩) (c_bounds_rank : PySem.W.codeIn K (.ref cd_bounds_rank) "bounds_rank" = true)
    (t_bounds_rank : K.lookup cd_bounds_rank = some ⟨.type "code", tod_bounds_rank, .fields tv_bounds_rank, tsl_bounds_rank⟩) (u_bounds_rank : (tv_bounds_rank[11]? : Option Value) = some (.ref P_bounds_rank)) (v_bounds_rank : codeFlds tv_bounds_rank = true) (w_bounds_rank : (cd_bounds_rank == P_bounds_rank) = false) (p_bounds_rank : K.lookup P_bounds_rank = some ⟨.none, none, .fields #[], #[]⟩)
    (a_rank_of_kind : PySem.W.nsIn K mainGlobals "rank_of_kind" = some (some (.ref f_rank_of_kind))) (l_rank_of_kind : K.lookup f_rank_of_kind = some ⟨oc_rank_of_kind, od_rank_of_kind, .func (PySem.W.fnOf "rank_of_kind" "rank_of_kind" (defArgs s_rank_of_kind) (defBody s_rank_of_kind) (defScope s_rank_of_kind) .none kV_rank_of_kind dc_rank_of_kind pm_rank_of_kind an_rank_of_kind (.ref cd_rank_of_kind) ct_rank_of_kind), sl_rank_of_kind⟩) (c_rank_of_kind : PySem.W.codeIn K (.ref cd_rank_of_kind) "rank_of_kind" = true)
    (a__law_forest : PySem.W.nsIn K mainGlobals "_law_forest" = some (some (.ref f__law_forest))) (l__law_forest : K.lookup f__law_forest = some ⟨oc__law_forest, od__law_forest, .func (PySem.W.fnOf "_law_forest" "_law_forest" (defArgs s__law_forest) (defBody s__law_forest) (defScope s__law_forest) .none kV__law_forest dc__law_forest pm__law_forest an__law_forest (.ref cd__law_forest) ct__law_forest), sl__law_forest⟩) (c__law_forest : PySem.W.codeIn K (.ref cd__law_forest) "_law_forest" = true)
    (a__law_given : PySem.W.nsIn K mainGlobals "_law_given" = some (some (.ref f__law_given))) (l__law_given : K.lookup f__law_given = some ⟨oc__law_given, od__law_given, .func (PySem.W.fnOf "_law_given" "_law_given" (defArgs s__law_given) (defBody s__law_given) (defScope s__law_given) .none kV__law_given dc__law_given pm__law_given an__law_given (.ref cd__law_given) ct__law_given), sl__law_given⟩) (c__law_given : PySem.W.codeIn K (.ref cd__law_given) "_law_given" = true)
    (a__law_sums : PySem.W.nsIn K mainGlobals "_law_sums" = some (some (.ref f__law_sums))) (l__law_sums : K.lookup f__law_sums = some ⟨oc__law_sums, od__law_sums, .func (PySem.W.fnOf "_law_sums" "_law_sums" (defArgs s__law_sums) (defBody s__law_sums) (defScope s__law_sums) .none kV__law_sums dc__law_sums pm__law_sums an__law_sums (.ref cd__law_sums) ct__law_sums), sl__law_sums⟩) (c__law_sums : PySem.W.codeIn K (.ref cd__law_sums) "_law_sums" = true)
    (a__law_is_free : PySem.W.nsIn K mainGlobals "_law_is_free" = some (some (.ref f__law_is_free))) (l__law_is_free : K.lookup f__law_is_free = some ⟨oc__law_is_free, od__law_is_free, .func (PySem.W.fnOf "_law_is_free" "_law_is_free" (defArgs s__law_is_free) (defBody s__law_is_free) (defScope s__law_is_free) .none kV__law_is_free dc__law_is_free pm__law_is_free an__law_is_free (.ref cd__law_is_free) ct__law_is_free), sl__law_is_free⟩) (c__law_is_free : PySem.W.codeIn K (.ref cd__law_is_free) "_law_is_free" = true)
    (a__law_rank_in : PySem.W.nsIn K mainGlobals "_law_rank_in" = some (some (.ref f__law_rank_in))) (l__law_rank_in : K.lookup f__law_rank_in = some ⟨oc__law_rank_in, od__law_rank_in, .func (PySem.W.fnOf "_law_rank_in" "_law_rank_in" (defArgs s__law_rank_in) (defBody s__law_rank_in) (defScope s__law_rank_in) .none kV__law_rank_in dc__law_rank_in pm__law_rank_in an__law_rank_in (.ref cd__law_rank_in) ct__law_rank_in), sl__law_rank_in⟩) (c__law_rank_in : PySem.W.codeIn K (.ref cd__law_rank_in) "_law_rank_in" = true)
    (a__law_fits_large : PySem.W.nsIn K mainGlobals "_law_fits_large" = some (some (.ref f__law_fits_large))) (l__law_fits_large : K.lookup f__law_fits_large = some ⟨oc__law_fits_large, od__law_fits_large, .func (PySem.W.fnOf "_law_fits_large" "_law_fits_large" (defArgs s__law_fits_large) (defBody s__law_fits_large) (defScope s__law_fits_large) .none kV__law_fits_large dc__law_fits_large pm__law_fits_large an__law_fits_large (.ref cd__law_fits_large) ct__law_fits_large), sl__law_fits_large⟩) (c__law_fits_large : PySem.W.codeIn K (.ref cd__law_fits_large) "_law_fits_large" = true)
    (a__law_code : PySem.W.nsIn K mainGlobals "_law_code" = some (some (.ref f__law_code))) (l__law_code : K.lookup f__law_code = some ⟨oc__law_code, od__law_code, .func (PySem.W.fnOf "_law_code" "_law_code" (defArgs s__law_code) (defBody s__law_code) (defScope s__law_code) .none kV__law_code dc__law_code pm__law_code an__law_code (.ref cd__law_code) ct__law_code), sl__law_code⟩) (c__law_code : PySem.W.codeIn K (.ref cd__law_code) "_law_code" = true)
    (a__law_made_free : PySem.W.nsIn K mainGlobals "_law_made_free" = some (some (.ref f__law_made_free))) (l__law_made_free : K.lookup f__law_made_free = some ⟨oc__law_made_free, od__law_made_free, .func (PySem.W.fnOf "_law_made_free" "_law_made_free" (defArgs s__law_made_free) (defBody s__law_made_free) (defScope s__law_made_free) .none kV__law_made_free dc__law_made_free pm__law_made_free an__law_made_free (.ref cd__law_made_free) ct__law_made_free), sl__law_made_free⟩) (c__law_made_free : PySem.W.codeIn K (.ref cd__law_made_free) "_law_made_free" = true)
    (a__law_free : PySem.W.nsIn K mainGlobals "_law_free" = some (some (.ref f__law_free))) (l__law_free : K.lookup f__law_free = some ⟨oc__law_free, od__law_free, .func (PySem.W.fnOf "_law_free" "_law_free" (defArgs s__law_free) (defBody s__law_free) (defScope s__law_free) .none kV__law_free dc__law_free pm__law_free an__law_free (.ref cd__law_free) ct__law_free), sl__law_free⟩) (c__law_free : PySem.W.codeIn K (.ref cd__law_free) "_law_free" = true)
    (a__law_large : PySem.W.nsIn K mainGlobals "_law_large" = some (some (.ref f__law_large))) (l__law_large : K.lookup f__law_large = some ⟨oc__law_large, od__law_large, .func (PySem.W.fnOf "_law_large" "_law_large" (defArgs s__law_large) (defBody s__law_large) (defScope s__law_large) .none kV__law_large dc__law_large pm__law_large an__law_large (.ref cd__law_large) ct__law_large), sl__law_large⟩) (c__law_large : PySem.W.codeIn K (.ref cd__law_large) "_law_large" = true)
    (a__law_is_integer : PySem.W.nsIn K mainGlobals "_law_is_integer" = some (some (.ref f__law_is_integer))) (l__law_is_integer : K.lookup f__law_is_integer = some ⟨oc__law_is_integer, od__law_is_integer, .func (PySem.W.fnOf "_law_is_integer" "_law_is_integer" (defArgs s__law_is_integer) (defBody s__law_is_integer) (defScope s__law_is_integer) .none kV__law_is_integer dc__law_is_integer pm__law_is_integer an__law_is_integer (.ref cd__law_is_integer) ct__law_is_integer), sl__law_is_integer⟩) (c__law_is_integer : PySem.W.codeIn K (.ref cd__law_is_integer) "_law_is_integer" = true)
    (a_law : PySem.W.nsIn K mainGlobals "law" = some (some (.ref f_law))) (l_law : K.lookup f_law = some ⟨oc_law, od_law, .func (PySem.W.fnOf "law" "law" (defArgs s_law) (defBody s_law) (defScope s_law) .none kV_law dc_law pm_law an_law (.ref cd_law) ct_law), sl_law⟩) (c_law : PySem.W.codeIn K (.ref cd_law) "law" = true)
    (n__law_draw : [P_choices_rank, P_bounds_rank, P_bases_rank].contains f__law_draw = false) (m__law_draw : [P_choices_rank, P_bounds_rank, P_bases_rank].contains cd__law_draw = false)
    (n__law_choices : [P_choices_rank, P_bounds_rank, P_bases_rank].contains f__law_choices = false) (m__law_choices : [P_choices_rank, P_bounds_rank, P_bases_rank].contains cd__law_choices = false)
    (n__law_size : [P_choices_rank, P_bounds_rank, P_bases_rank].contains f__law_size = false) (m__law_size : [P_choices_rank, P_bounds_rank, P_bases_rank].contains cd__law_size = false)
    (n__law_powers : [P_choices_rank, P_bounds_rank, P_bases_rank].contains f__law_powers = false) (m__law_powers : [P_choices_rank, P_bounds_rank, P_bases_rank].contains cd__law_powers = false)
    (n__law_members : [P_choices_rank, P_bounds_rank, P_bases_rank].contains f__law_members = false) (m__law_members : [P_choices_rank, P_bounds_rank, P_bases_rank].contains cd__law_members = false)
    (n__law_ranks : [P_choices_rank, P_bounds_rank, P_bases_rank].contains f__law_ranks = false) (m__law_ranks : [P_choices_rank, P_bounds_rank, P_bases_rank].contains cd__law_ranks = false)
    (n__law_every : [P_choices_rank, P_bounds_rank, P_bases_rank].contains f__law_every = false) (m__law_every : [P_choices_rank, P_bounds_rank, P_bases_rank].contains cd__law_every = false)
    (n__law_few_of : [P_choices_rank, P_bounds_rank, P_bases_rank].contains f__law_few_of = false) (m__law_few_of : [P_choices_rank, P_bounds_rank, P_bases_rank].contains cd__law_few_of = false)
    (n_bases_rank : [P_choices_rank, P_bounds_rank, P_bases_rank].contains f_bases_rank = false) (m_bases_rank : [P_choices_rank, P_bounds_rank, P_bases_rank].contains cd_bases_rank = false)
    (n_graph_rank : [P_choices_rank, P_bounds_rank, P_bases_rank].contains f_graph_rank = false) (m_graph_rank : [P_choices_rank, P_bounds_rank, P_bases_rank].contains cd_graph_rank = false)
    (n_reduced : [P_choices_rank, P_bounds_rank, P_bases_rank].contains f_reduced = false) (m_reduced : [P_choices_rank, P_bounds_rank, P_bases_rank].contains cd_reduced = false)
    (n_inverse : [P_choices_rank, P_bounds_rank, P_bases_rank].contains f_inverse = false) (m_inverse : [P_choices_rank, P_bounds_rank, P_bases_rank].contains cd_inverse = false)
    (n_vectors_rank : [P_choices_rank, P_bounds_rank, P_bases_rank].contains f_vectors_rank = false) (m_vectors_rank : [P_choices_rank, P_bounds_rank, P_bases_rank].contains cd_vectors_rank = false)
    (n_find_thing : [P_choices_rank, P_bounds_rank, P_bases_rank].contains f_find_thing = false) (m_find_thing : [P_choices_rank, P_bounds_rank, P_bases_rank].contains cd_find_thing = false)
    (n_choices_rank : [P_choices_rank, P_bounds_rank, P_bases_rank].contains f_choices_rank = false) (m_choices_rank : [P_choices_rank, P_bounds_rank, P_bases_rank].contains cd_choices_rank = false)
    (n_bounds_rank : [P_choices_rank, P_bounds_rank, P_bases_rank].contains f_bounds_rank = false) (m_bounds_rank : [P_choices_rank, P_bounds_rank, P_bases_rank].contains cd_bounds_rank = false)
    (n_rank_of_kind : [P_choices_rank, P_bounds_rank, P_bases_rank].contains f_rank_of_kind = false) (m_rank_of_kind : [P_choices_rank, P_bounds_rank, P_bases_rank].contains cd_rank_of_kind = false)
    (n__law_forest : [P_choices_rank, P_bounds_rank, P_bases_rank].contains f__law_forest = false) (m__law_forest : [P_choices_rank, P_bounds_rank, P_bases_rank].contains cd__law_forest = false)
    (n__law_given : [P_choices_rank, P_bounds_rank, P_bases_rank].contains f__law_given = false) (m__law_given : [P_choices_rank, P_bounds_rank, P_bases_rank].contains cd__law_given = false)
    (n__law_sums : [P_choices_rank, P_bounds_rank, P_bases_rank].contains f__law_sums = false) (m__law_sums : [P_choices_rank, P_bounds_rank, P_bases_rank].contains cd__law_sums = false)
    (n__law_is_free : [P_choices_rank, P_bounds_rank, P_bases_rank].contains f__law_is_free = false) (m__law_is_free : [P_choices_rank, P_bounds_rank, P_bases_rank].contains cd__law_is_free = false)
    (n__law_rank_in : [P_choices_rank, P_bounds_rank, P_bases_rank].contains f__law_rank_in = false) (m__law_rank_in : [P_choices_rank, P_bounds_rank, P_bases_rank].contains cd__law_rank_in = false)
    (n__law_fits_large : [P_choices_rank, P_bounds_rank, P_bases_rank].contains f__law_fits_large = false) (m__law_fits_large : [P_choices_rank, P_bounds_rank, P_bases_rank].contains cd__law_fits_large = false)
    (n__law_code : [P_choices_rank, P_bounds_rank, P_bases_rank].contains f__law_code = false) (m__law_code : [P_choices_rank, P_bounds_rank, P_bases_rank].contains cd__law_code = false)
    (n__law_made_free : [P_choices_rank, P_bounds_rank, P_bases_rank].contains f__law_made_free = false) (m__law_made_free : [P_choices_rank, P_bounds_rank, P_bases_rank].contains cd__law_made_free = false)
    (n__law_free : [P_choices_rank, P_bounds_rank, P_bases_rank].contains f__law_free = false) (m__law_free : [P_choices_rank, P_bounds_rank, P_bases_rank].contains cd__law_free = false)
    (n__law_large : [P_choices_rank, P_bounds_rank, P_bases_rank].contains f__law_large = false) (m__law_large : [P_choices_rank, P_bounds_rank, P_bases_rank].contains cd__law_large = false)
    (n__law_is_integer : [P_choices_rank, P_bounds_rank, P_bases_rank].contains f__law_is_integer = false) (m__law_is_integer : [P_choices_rank, P_bounds_rank, P_bases_rank].contains cd__law_is_integer = false)
    (n_law : [P_choices_rank, P_bounds_rank, P_bases_rank].contains f_law = false) (m_law : [P_choices_rank, P_bounds_rank, P_bases_rank].contains cd_law = false)
    (bm : ([P_choices_rank, P_bounds_rank, P_bases_rank] : List Addr).contains mainGlobals = false)
    (z_len : PySem.W.nsIn K mainGlobals "len" = some none)
    (z_int : PySem.W.nsIn K mainGlobals "int" = some none)
    (z_range : PySem.W.nsIn K mainGlobals "range" = some none)
    (z_tuple : PySem.W.nsIn K mainGlobals "tuple" = some none)
    (z_max : PySem.W.nsIn K mainGlobals "max" = some none)
    (z_list : PySem.W.nsIn K mainGlobals "list" = some none)
    (z_zip : PySem.W.nsIn K mainGlobals "zip" = some none)
    (z_enumerate : PySem.W.nsIn K mainGlobals "enumerate" = some none)
    (z_sum : PySem.W.nsIn K mainGlobals "sum" = some none)
    (z_all : PySem.W.nsIn K mainGlobals "all" = some none)
    (z_min : PySem.W.nsIn K mainGlobals "min" = some none)
    (z_sorted : PySem.W.nsIn K mainGlobals "sorted" = some none)
    (z_isinstance : PySem.W.nsIn K mainGlobals "isinstance" = some none)
    (z_bool : PySem.W.nsIn K mainGlobals "bool" = some none)
    (z_reversed : PySem.W.nsIn K mainGlobals "reversed" = some none)
    : LamX.LawAtS l w (hid [P_choices_rank, P_bounds_rank, P_bases_rank] K) CX0 65 63 "_law_script" mg fa h := by
  have e := hfa.symm.trans (PySem.W.mg_of X G a_law)
  cases e
  have X2 : (hid [P_choices_rank, P_bounds_rank, P_bases_rank] K).In h := hid_In X
  have H__law_draw := fun_hid (bad := [P_choices_rank, P_bounds_rank, P_bases_rank]) (st := s__law_draw) l__law_draw c__law_draw n__law_draw m__law_draw
  have k__law_draw := hid_keep (bad := [P_choices_rank, P_bounds_rank, P_bases_rank]) n__law_draw l__law_draw
  have bi__law_draw := H__law_draw.binds (ps := ["_law_state", "_law_limit"]) fun _ _ _ _ _ _ us hl => match us, hl with | [_, _], _ => rfl
  have g__law_draw := PySem.W.mg_of X G a__law_draw
  have H__law_choices := fun_hid (bad := [P_choices_rank, P_bounds_rank, P_bases_rank]) (st := s__law_choices) l__law_choices c__law_choices n__law_choices m__law_choices
  have k__law_choices := hid_keep (bad := [P_choices_rank, P_bounds_rank, P_bases_rank]) n__law_choices l__law_choices
  have bi__law_choices := H__law_choices.binds (ps := ["_law_state", "_law_most"]) fun _ _ _ _ _ _ us hl => match us, hl with | [_, _], _ => rfl
  have g__law_choices := PySem.W.mg_of X G a__law_choices
  have H__law_size := fun_hid (bad := [P_choices_rank, P_bounds_rank, P_bases_rank]) (st := s__law_size) l__law_size c__law_size n__law_size m__law_size
  have k__law_size := hid_keep (bad := [P_choices_rank, P_bounds_rank, P_bases_rank]) n__law_size l__law_size
  have bi__law_size := H__law_size.binds (ps := ["_law_line", "_law_sizes"]) fun _ _ _ _ _ _ us hl => match us, hl with | [_, _], _ => rfl
  have g__law_size := PySem.W.mg_of X G a__law_size
  have H__law_powers := fun_hid (bad := [P_choices_rank, P_bounds_rank, P_bases_rank]) (st := s__law_powers) l__law_powers c__law_powers n__law_powers m__law_powers
  have k__law_powers := hid_keep (bad := [P_choices_rank, P_bounds_rank, P_bases_rank]) n__law_powers l__law_powers
  have bi__law_powers := H__law_powers.binds (ps := []) fun _ _ _ _ _ _ us hl => match us, hl with | [], _ => rfl
  have g__law_powers := PySem.W.mg_of X G a__law_powers
  have H__law_members := fun_hid (bad := [P_choices_rank, P_bounds_rank, P_bases_rank]) (st := s__law_members) l__law_members c__law_members n__law_members m__law_members
  have k__law_members := hid_keep (bad := [P_choices_rank, P_bounds_rank, P_bases_rank]) n__law_members l__law_members
  have bi__law_members := H__law_members.binds (ps := ["_law_code_here", "_law_size_here"]) fun _ _ _ _ _ _ us hl => match us, hl with | [_, _], _ => rfl
  have g__law_members := PySem.W.mg_of X G a__law_members
  have H__law_ranks := fun_hid (bad := [P_choices_rank, P_bounds_rank, P_bases_rank]) (st := s__law_ranks) l__law_ranks c__law_ranks n__law_ranks m__law_ranks
  have k__law_ranks := hid_keep (bad := [P_choices_rank, P_bounds_rank, P_bases_rank]) n__law_ranks l__law_ranks
  have bi__law_ranks := H__law_ranks.binds (ps := ["_law_free_here", "_law_size_here"]) fun _ _ _ _ _ _ us hl => match us, hl with | [_, _], _ => rfl
  have g__law_ranks := PySem.W.mg_of X G a__law_ranks
  have H__law_every := fun_hid (bad := [P_choices_rank, P_bounds_rank, P_bases_rank]) (st := s__law_every) l__law_every c__law_every n__law_every m__law_every
  have k__law_every := hid_keep (bad := [P_choices_rank, P_bounds_rank, P_bases_rank]) n__law_every l__law_every
  have bi__law_every := H__law_every.binds (ps := ["_law_size_here"]) fun _ _ _ _ _ _ us hl => match us, hl with | [_], _ => rfl
  have g__law_every := PySem.W.mg_of X G a__law_every
  have H__law_few_of := fun_hid (bad := [P_choices_rank, P_bounds_rank, P_bases_rank]) (st := s__law_few_of) l__law_few_of c__law_few_of n__law_few_of m__law_few_of
  have k__law_few_of := hid_keep (bad := [P_choices_rank, P_bounds_rank, P_bases_rank]) n__law_few_of l__law_few_of
  have bi__law_few_of := H__law_few_of.binds (ps := ["_law_state", "_law_count", "_law_most"]) fun _ _ _ _ _ _ us hl => match us, hl with | [_, _, _], _ => rfl
  have g__law_few_of := PySem.W.mg_of X G a__law_few_of
  have H_bases_rank := fun_hid (bad := [P_choices_rank, P_bounds_rank, P_bases_rank]) (st := s_bases_rank) l_bases_rank c_bases_rank n_bases_rank m_bases_rank
  have k_bases_rank := hid_keep (bad := [P_choices_rank, P_bounds_rank, P_bases_rank]) n_bases_rank l_bases_rank
  have bi_bases_rank := H_bases_rank.binds (ps := ["line", "members"]) fun _ _ _ _ _ _ us hl => match us, hl with | [_, _], _ => rfl
  have g_bases_rank := PySem.W.mg_of X G a_bases_rank
  have H_graph_rank := fun_hid (bad := [P_choices_rank, P_bounds_rank, P_bases_rank]) (st := s_graph_rank) l_graph_rank c_graph_rank n_graph_rank m_graph_rank
  have k_graph_rank := hid_keep (bad := [P_choices_rank, P_bounds_rank, P_bases_rank]) n_graph_rank l_graph_rank
  have bi_graph_rank := H_graph_rank.binds (ps := ["line", "members"]) fun _ _ _ _ _ _ us hl => match us, hl with | [_, _], _ => rfl
  have g_graph_rank := PySem.W.mg_of X G a_graph_rank
  have H_reduced := fun_hid (bad := [P_choices_rank, P_bounds_rank, P_bases_rank]) (st := s_reduced) l_reduced c_reduced n_reduced m_reduced
  have k_reduced := hid_keep (bad := [P_choices_rank, P_bounds_rank, P_bases_rank]) n_reduced l_reduced
  have bi_reduced := H_reduced.binds (ps := ["vector", "rows", "prime"]) fun _ _ _ _ _ _ us hl => match us, hl with | [_, _, _], _ => rfl
  have g_reduced := PySem.W.mg_of X G a_reduced
  have H_inverse := fun_hid (bad := [P_choices_rank, P_bounds_rank, P_bases_rank]) (st := s_inverse) l_inverse c_inverse n_inverse m_inverse
  have k_inverse := hid_keep (bad := [P_choices_rank, P_bounds_rank, P_bases_rank]) n_inverse l_inverse
  have bi_inverse := H_inverse.binds (ps := ["number", "prime"]) fun _ _ _ _ _ _ us hl => match us, hl with | [_, _], _ => rfl
  have g_inverse := PySem.W.mg_of X G a_inverse
  have H_vectors_rank := fun_hid (bad := [P_choices_rank, P_bounds_rank, P_bases_rank]) (st := s_vectors_rank) l_vectors_rank c_vectors_rank n_vectors_rank m_vectors_rank
  have k_vectors_rank := hid_keep (bad := [P_choices_rank, P_bounds_rank, P_bases_rank]) n_vectors_rank l_vectors_rank
  have bi_vectors_rank := H_vectors_rank.binds (ps := ["line", "members"]) fun _ _ _ _ _ _ us hl => match us, hl with | [_, _], _ => rfl
  have g_vectors_rank := PySem.W.mg_of X G a_vectors_rank
  have H_find_thing := fun_hid (bad := [P_choices_rank, P_bounds_rank, P_bases_rank]) (st := s_find_thing) l_find_thing c_find_thing n_find_thing m_find_thing
  have k_find_thing := hid_keep (bad := [P_choices_rank, P_bounds_rank, P_bases_rank]) n_find_thing l_find_thing
  have bi_find_thing := H_find_thing.binds (ps := ["line", "element", "owners", "seen"]) fun _ _ _ _ _ _ us hl => match us, hl with | [_, _, _, _], _ => rfl
  have g_find_thing := PySem.W.mg_of X G a_find_thing
  have H_choices_rank := fun_hid (bad := [P_choices_rank, P_bounds_rank, P_bases_rank]) (st := s_choices_rank) l_choices_rank c_choices_rank n_choices_rank m_choices_rank
  have k_choices_rank := hid_keep (bad := [P_choices_rank, P_bounds_rank, P_bases_rank]) n_choices_rank l_choices_rank
  have bi_choices_rank := H_choices_rank.binds (ps := ["line", "members"]) fun _ _ _ _ _ _ us hl => match us, hl with | [_, _], _ => rfl
  have g_choices_rank := PySem.W.mg_of X G a_choices_rank
  have H_bounds_rank := fun_hid (bad := [P_choices_rank, P_bounds_rank, P_bases_rank]) (st := s_bounds_rank) l_bounds_rank c_bounds_rank n_bounds_rank m_bounds_rank
  have k_bounds_rank := hid_keep (bad := [P_choices_rank, P_bounds_rank, P_bases_rank]) n_bounds_rank l_bounds_rank
  have bi_bounds_rank := H_bounds_rank.binds (ps := ["line", "members"]) fun _ _ _ _ _ _ us hl => match us, hl with | [_, _], _ => rfl
  have g_bounds_rank := PySem.W.mg_of X G a_bounds_rank
  have H_rank_of_kind := fun_hid (bad := [P_choices_rank, P_bounds_rank, P_bases_rank]) (st := s_rank_of_kind) l_rank_of_kind c_rank_of_kind n_rank_of_kind m_rank_of_kind
  have k_rank_of_kind := hid_keep (bad := [P_choices_rank, P_bounds_rank, P_bases_rank]) n_rank_of_kind l_rank_of_kind
  have bi_rank_of_kind := H_rank_of_kind.binds (ps := ["line", "members"]) fun _ _ _ _ _ _ us hl => match us, hl with | [_, _], _ => rfl
  have g_rank_of_kind := PySem.W.mg_of X G a_rank_of_kind
  have H__law_forest := fun_hid (bad := [P_choices_rank, P_bounds_rank, P_bases_rank]) (st := s__law_forest) l__law_forest c__law_forest n__law_forest m__law_forest
  have k__law_forest := hid_keep (bad := [P_choices_rank, P_bounds_rank, P_bases_rank]) n__law_forest l__law_forest
  have bi__law_forest := H__law_forest.binds (ps := ["_law_line", "_law_those"]) fun _ _ _ _ _ _ us hl => match us, hl with | [_, _], _ => rfl
  have g__law_forest := PySem.W.mg_of X G a__law_forest
  have H__law_given := fun_hid (bad := [P_choices_rank, P_bounds_rank, P_bases_rank]) (st := s__law_given) l__law_given c__law_given n__law_given m__law_given
  have k__law_given := hid_keep (bad := [P_choices_rank, P_bounds_rank, P_bases_rank]) n__law_given l__law_given
  have bi__law_given := H__law_given.binds (ps := ["_law_line", "_law_those", "_law_taken"]) fun _ _ _ _ _ _ us hl => match us, hl with | [_, _, _], _ => rfl
  have g__law_given := PySem.W.mg_of X G a__law_given
  have H__law_sums := fun_hid (bad := [P_choices_rank, P_bounds_rank, P_bases_rank]) (st := s__law_sums) l__law_sums c__law_sums n__law_sums m__law_sums
  have k__law_sums := hid_keep (bad := [P_choices_rank, P_bounds_rank, P_bases_rank]) n__law_sums l__law_sums
  have bi__law_sums := H__law_sums.binds (ps := ["_law_line", "_law_those"]) fun _ _ _ _ _ _ us hl => match us, hl with | [_, _], _ => rfl
  have g__law_sums := PySem.W.mg_of X G a__law_sums
  have H__law_is_free := fun_hid (bad := [P_choices_rank, P_bounds_rank, P_bases_rank]) (st := s__law_is_free) l__law_is_free c__law_is_free n__law_is_free m__law_is_free
  have k__law_is_free := hid_keep (bad := [P_choices_rank, P_bounds_rank, P_bases_rank]) n__law_is_free l__law_is_free
  have bi__law_is_free := H__law_is_free.binds (ps := ["_law_line", "_law_those"]) fun _ _ _ _ _ _ us hl => match us, hl with | [_, _], _ => rfl
  have g__law_is_free := PySem.W.mg_of X G a__law_is_free
  have H__law_rank_in := fun_hid (bad := [P_choices_rank, P_bounds_rank, P_bases_rank]) (st := s__law_rank_in) l__law_rank_in c__law_rank_in n__law_rank_in m__law_rank_in
  have k__law_rank_in := hid_keep (bad := [P_choices_rank, P_bounds_rank, P_bases_rank]) n__law_rank_in l__law_rank_in
  have bi__law_rank_in := H__law_rank_in.binds (ps := ["_law_line", "_law_members_here"]) fun _ _ _ _ _ _ us hl => match us, hl with | [_, _], _ => rfl
  have g__law_rank_in := PySem.W.mg_of X G a__law_rank_in
  have H__law_fits_large := fun_hid (bad := [P_choices_rank, P_bounds_rank, P_bases_rank]) (st := s__law_fits_large) l__law_fits_large c__law_fits_large n__law_fits_large m__law_fits_large
  have k__law_fits_large := hid_keep (bad := [P_choices_rank, P_bounds_rank, P_bases_rank]) n__law_fits_large l__law_fits_large
  have bi__law_fits_large := H__law_fits_large.binds (ps := ["_law_state", "_law_line", "_law_most"]) fun _ _ _ _ _ _ us hl => match us, hl with | [_, _, _], _ => rfl
  have g__law_fits_large := PySem.W.mg_of X G a__law_fits_large
  have H__law_code := fun_hid (bad := [P_choices_rank, P_bounds_rank, P_bases_rank]) (st := s__law_code) l__law_code c__law_code n__law_code m__law_code
  have k__law_code := hid_keep (bad := [P_choices_rank, P_bounds_rank, P_bases_rank]) n__law_code l__law_code
  have bi__law_code := H__law_code.binds (ps := ["_law_those"]) fun _ _ _ _ _ _ us hl => match us, hl with | [_], _ => rfl
  have g__law_code := PySem.W.mg_of X G a__law_code
  have H__law_made_free := fun_hid (bad := [P_choices_rank, P_bounds_rank, P_bases_rank]) (st := s__law_made_free) l__law_made_free c__law_made_free n__law_made_free m__law_made_free
  have k__law_made_free := hid_keep (bad := [P_choices_rank, P_bounds_rank, P_bases_rank]) n__law_made_free l__law_made_free
  have bi__law_made_free := H__law_made_free.binds (ps := ["_law_line", "_law_members_here", "_law_frees", "_law_sizes"]) fun _ _ _ _ _ _ us hl => match us, hl with | [_, _, _, _], _ => rfl
  have g__law_made_free := PySem.W.mg_of X G a__law_made_free
  have H__law_free := fun_hid (bad := [P_choices_rank, P_bounds_rank, P_bases_rank]) (st := s__law_free) l__law_free c__law_free n__law_free m__law_free
  have k__law_free := hid_keep (bad := [P_choices_rank, P_bounds_rank, P_bases_rank]) n__law_free l__law_free
  have bi__law_free := H__law_free.binds (ps := ["_law_line", "_law_earlier"]) fun _ _ _ _ _ _ us hl => match us, hl with | [_, _], _ => rfl
  have g__law_free := PySem.W.mg_of X G a__law_free
  have H__law_large := fun_hid (bad := [P_choices_rank, P_bounds_rank, P_bases_rank]) (st := s__law_large) l__law_large c__law_large n__law_large m__law_large
  have k__law_large := hid_keep (bad := [P_choices_rank, P_bounds_rank, P_bases_rank]) n__law_large l__law_large
  have bi__law_large := H__law_large.binds (ps := ["_law_state"]) fun _ _ _ _ _ _ us hl => match us, hl with | [_], _ => rfl
  have g__law_large := PySem.W.mg_of X G a__law_large
  have H__law_is_integer := fun_hid (bad := [P_choices_rank, P_bounds_rank, P_bases_rank]) (st := s__law_is_integer) l__law_is_integer c__law_is_integer n__law_is_integer m__law_is_integer
  have k__law_is_integer := hid_keep (bad := [P_choices_rank, P_bounds_rank, P_bases_rank]) n__law_is_integer l__law_is_integer
  have bi__law_is_integer := H__law_is_integer.binds (ps := ["_law_actual"]) fun _ _ _ _ _ _ us hl => match us, hl with | [_], _ => rfl
  have g__law_is_integer := PySem.W.mg_of X G a__law_is_integer
  have H_law := fun_hid (bad := [P_choices_rank, P_bounds_rank, P_bases_rank]) (st := s_law) l_law c_law n_law m_law
  have m_len := PySem.W.mg_none_of X G z_len
  have m_int := PySem.W.mg_none_of X G z_int
  have m_range := PySem.W.mg_none_of X G z_range
  have m_tuple := PySem.W.mg_none_of X G z_tuple
  have m_max := PySem.W.mg_none_of X G z_max
  have m_list := PySem.W.mg_none_of X G z_list
  have m_zip := PySem.W.mg_none_of X G z_zip
  have m_enumerate := PySem.W.mg_none_of X G z_enumerate
  have m_sum := PySem.W.mg_none_of X G z_sum
  have m_all := PySem.W.mg_none_of X G z_all
  have m_min := PySem.W.mg_none_of X G z_min
  have m_sorted := PySem.W.mg_none_of X G z_sorted
  have m_isinstance := PySem.W.mg_none_of X G z_isinstance
  have m_bool := PySem.W.mg_none_of X G z_bool
  have m_reversed := PySem.W.mg_none_of X G z_reversed
  have q1 : ∀ p ∈ ([(cd_choices_rank, P_choices_rank), (cd_bounds_rank, P_bounds_rank), (cd_bases_rank, P_bases_rank)] : List (Addr × Addr)), K.lookup p.2 = some ⟨.none, none, .fields #[], #[]⟩ ∧ PySem.W.CodeHd h p.1 p.2 ∧ (hid [P_choices_rank, P_bounds_rank, P_bases_rank] K).lookup p.2 = none := by
    intro p hp
    simp only [List.mem_cons, List.not_mem_nil, or_false] at hp
    rcases hp with rfl | rfl | rfl
    · exact ⟨p_choices_rank, codeHd_of X t_choices_rank u_choices_rank v_choices_rank w_choices_rank, hid_in (by simp)⟩
    · exact ⟨p_bounds_rank, codeHd_of X t_bounds_rank u_bounds_rank v_bounds_rank w_bounds_rank, hid_in (by simp)⟩
    · exact ⟨p_bases_rank, codeHd_of X t_bases_rank u_bases_rank v_bases_rank w_bases_rank, hid_in (by simp)⟩
  refine ⟨PySem.W.fnOf "law" "law" (defArgs s_law) (defBody s_law) (defScope s_law) .none kV_law dc_law pm_law an_law (.ref cd_law) ct_law, [(cd_choices_rank, P_choices_rank), (cd_bounds_rank, P_bounds_rank), (cd_bases_rank, P_bases_rank)], spD (hid [P_choices_rank, P_bounds_rank, P_bases_rank] K) ⟨([(cd_choices_rank, P_choices_rank), (cd_bounds_rank, P_bounds_rank), (cd_bases_rank, P_bases_rank)] : List (Addr × Addr)).map (·.2), fun _ _ => none, fun _ => none⟩ 1 F_law__6, fun p hp => X p.2 _ (q1 p hp).1, fun p hp => (q1 p hp).2.2, fun p hp => (q1 p hp).2.1, fun s v => .of_eq rfl, fun H a ns hlen _ hT hS => law_spT (hmain ns hlen) hT hS, fun base _ _ hTB => ?_⟩
  have T_choices_rank := gtab (hTB (cd_choices_rank, P_choices_rank) (by simp))
  have T_bounds_rank := gtab (hTB (cd_bounds_rank, P_bounds_rank) (by simp))
  have T_bases_rank := gtab (hTB (cd_bases_rank, P_bases_rank) (by simp))
  have G__law_draw : FD l.prog w (hid [P_choices_rank, P_bounds_rank, P_bases_rank] K) mg base ⟨([(cd_choices_rank, P_choices_rank), (cd_bounds_rank, P_bounds_rank), (cd_bases_rank, P_bases_rank)] : List (Addr × Addr)).map (·.2), fun _ _ => none, fun _ => none⟩ 1 f__law_draw _ ["_law_state", "_law_limit"] F__law_draw := fd__law_draw (P := l.prog) (w := w) (mg := mg) (base := base) (gv := ⟨([(cd_choices_rank, P_choices_rank), (cd_bounds_rank, P_bounds_rank), (cd_bases_rank, P_bases_rank)] : List (Addr × Addr)).map (·.2), fun _ _ => none, fun _ => none⟩) (k := 0) H__law_draw m_len m_int
  have G__law_choices : FD l.prog w (hid [P_choices_rank, P_bounds_rank, P_bases_rank] K) mg base ⟨([(cd_choices_rank, P_choices_rank), (cd_bounds_rank, P_bounds_rank), (cd_bases_rank, P_bases_rank)] : List (Addr × Addr)).map (·.2), fun _ _ => none, fun _ => none⟩ 2 f__law_choices _ ["_law_state", "_law_most"] F__law_choices := fd__law_choices (P := l.prog) (w := w) (mg := mg) (base := base) (gv := ⟨([(cd_choices_rank, P_choices_rank), (cd_bounds_rank, P_bounds_rank), (cd_bases_rank, P_bases_rank)] : List (Addr × Addr)).map (·.2), fun _ _ => none, fun _ => none⟩) (k := 1) H__law_choices (G__law_draw.mono (by omega)) g__law_draw k__law_draw bi__law_draw m_range m_tuple
  have G__law_size : FD l.prog w (hid [P_choices_rank, P_bounds_rank, P_bases_rank] K) mg base ⟨([(cd_choices_rank, P_choices_rank), (cd_bounds_rank, P_bounds_rank), (cd_bases_rank, P_bases_rank)] : List (Addr × Addr)).map (·.2), fun _ _ => none, fun _ => none⟩ 1 f__law_size _ ["_law_line", "_law_sizes"] F__law_size := fd__law_size (P := l.prog) (w := w) (mg := mg) (base := base) (gv := ⟨([(cd_choices_rank, P_choices_rank), (cd_bounds_rank, P_bounds_rank), (cd_bases_rank, P_bases_rank)] : List (Addr × Addr)).map (·.2), fun _ _ => none, fun _ => none⟩) (k := 0) H__law_size m_len m_int
  have G__law_powers : FD l.prog w (hid [P_choices_rank, P_bounds_rank, P_bases_rank] K) mg base ⟨([(cd_choices_rank, P_choices_rank), (cd_bounds_rank, P_bounds_rank), (cd_bases_rank, P_bases_rank)] : List (Addr × Addr)).map (·.2), fun _ _ => none, fun _ => none⟩ 1 f__law_powers _ [] F__law_powers := fd__law_powers (P := l.prog) (w := w) (mg := mg) (base := base) (gv := ⟨([(cd_choices_rank, P_choices_rank), (cd_bounds_rank, P_bounds_rank), (cd_bases_rank, P_bases_rank)] : List (Addr × Addr)).map (·.2), fun _ _ => none, fun _ => none⟩) (k := 0) H__law_powers 
  have G__law_members : FD l.prog w (hid [P_choices_rank, P_bounds_rank, P_bases_rank] K) mg base ⟨([(cd_choices_rank, P_choices_rank), (cd_bounds_rank, P_bounds_rank), (cd_bases_rank, P_bases_rank)] : List (Addr × Addr)).map (·.2), fun _ _ => none, fun _ => none⟩ 2 f__law_members _ ["_law_code_here", "_law_size_here"] F__law_members__2 := fd__law_members (P := l.prog) (w := w) (mg := mg) (base := base) (gv := ⟨([(cd_choices_rank, P_choices_rank), (cd_bounds_rank, P_bounds_rank), (cd_bases_rank, P_bases_rank)] : List (Addr × Addr)).map (·.2), fun _ _ => none, fun _ => none⟩) (k := 1) H__law_members (G__law_powers.mono (by omega)) g__law_powers k__law_powers bi__law_powers m_range m_int
  have G__law_ranks : FD l.prog w (hid [P_choices_rank, P_bounds_rank, P_bases_rank] K) mg base ⟨([(cd_choices_rank, P_choices_rank), (cd_bounds_rank, P_bounds_rank), (cd_bases_rank, P_bases_rank)] : List (Addr × Addr)).map (·.2), fun _ _ => none, fun _ => none⟩ 3 f__law_ranks _ ["_law_free_here", "_law_size_here"] F__law_ranks__2 := fd__law_ranks (P := l.prog) (w := w) (mg := mg) (base := base) (gv := ⟨([(cd_choices_rank, P_choices_rank), (cd_bounds_rank, P_bounds_rank), (cd_bases_rank, P_bases_rank)] : List (Addr × Addr)).map (·.2), fun _ _ => none, fun _ => none⟩) (k := 2) H__law_ranks (G__law_powers.mono (by omega)) g__law_powers k__law_powers bi__law_powers (G__law_members.mono (by omega)) g__law_members k__law_members bi__law_members m_len m_max m_range
  have G__law_every : FD l.prog w (hid [P_choices_rank, P_bounds_rank, P_bases_rank] K) mg base ⟨([(cd_choices_rank, P_choices_rank), (cd_bounds_rank, P_bounds_rank), (cd_bases_rank, P_bases_rank)] : List (Addr × Addr)).map (·.2), fun _ _ => none, fun _ => none⟩ 3 f__law_every _ ["_law_size_here"] F__law_every__2 := fd__law_every (P := l.prog) (w := w) (mg := mg) (base := base) (gv := ⟨([(cd_choices_rank, P_choices_rank), (cd_bounds_rank, P_bounds_rank), (cd_bases_rank, P_bases_rank)] : List (Addr × Addr)).map (·.2), fun _ _ => none, fun _ => none⟩) (k := 2) H__law_every (G__law_powers.mono (by omega)) g__law_powers k__law_powers bi__law_powers (G__law_members.mono (by omega)) g__law_members k__law_members bi__law_members m_range
  have G__law_few_of : FD l.prog w (hid [P_choices_rank, P_bounds_rank, P_bases_rank] K) mg base ⟨([(cd_choices_rank, P_choices_rank), (cd_bounds_rank, P_bounds_rank), (cd_bases_rank, P_bases_rank)] : List (Addr × Addr)).map (·.2), fun _ _ => none, fun _ => none⟩ 2 f__law_few_of _ ["_law_state", "_law_count", "_law_most"] F__law_few_of := fd__law_few_of (P := l.prog) (w := w) (mg := mg) (base := base) (gv := ⟨([(cd_choices_rank, P_choices_rank), (cd_bounds_rank, P_bounds_rank), (cd_bases_rank, P_bases_rank)] : List (Addr × Addr)).map (·.2), fun _ _ => none, fun _ => none⟩) (k := 1) H__law_few_of (G__law_draw.mono (by omega)) g__law_draw k__law_draw bi__law_draw m_range
  have G_bases_rank : FD l.prog w (hid [P_choices_rank, P_bounds_rank, P_bases_rank] K) mg base ⟨([(cd_choices_rank, P_choices_rank), (cd_bounds_rank, P_bounds_rank), (cd_bases_rank, P_bases_rank)] : List (Addr × Addr)).map (·.2), fun _ _ => none, fun _ => none⟩ 3 f_bases_rank _ ["line", "members"] F_bases_rank := fd_bases_rank (P := l.prog) (w := w) (mg := mg) (base := base) (gv := ⟨([(cd_choices_rank, P_choices_rank), (cd_bounds_rank, P_bounds_rank), (cd_bases_rank, P_bases_rank)] : List (Addr × Addr)).map (·.2), fun _ _ => none, fun _ => none⟩) (k := 0) H_bases_rank T_bases_rank (by simp)
  have G_graph_rank : FD l.prog w (hid [P_choices_rank, P_bounds_rank, P_bases_rank] K) mg base ⟨([(cd_choices_rank, P_choices_rank), (cd_bounds_rank, P_bounds_rank), (cd_bases_rank, P_bases_rank)] : List (Addr × Addr)).map (·.2), fun _ _ => none, fun _ => none⟩ 1 f_graph_rank _ ["line", "members"] F_graph_rank := fd_graph_rank (P := l.prog) (w := w) (mg := mg) (base := base) (gv := ⟨([(cd_choices_rank, P_choices_rank), (cd_bounds_rank, P_bounds_rank), (cd_bases_rank, P_bases_rank)] : List (Addr × Addr)).map (·.2), fun _ _ => none, fun _ => none⟩) (k := 0) H_graph_rank m_list m_range
  have G_reduced : FD l.prog w (hid [P_choices_rank, P_bounds_rank, P_bases_rank] K) mg base ⟨([(cd_choices_rank, P_choices_rank), (cd_bounds_rank, P_bounds_rank), (cd_bases_rank, P_bases_rank)] : List (Addr × Addr)).map (·.2), fun _ _ => none, fun _ => none⟩ 1 f_reduced _ ["vector", "rows", "prime"] F_reduced := fd_reduced (P := l.prog) (w := w) (mg := mg) (base := base) (gv := ⟨([(cd_choices_rank, P_choices_rank), (cd_bounds_rank, P_bounds_rank), (cd_bases_rank, P_bases_rank)] : List (Addr × Addr)).map (·.2), fun _ _ => none, fun _ => none⟩) (k := 0) H_reduced m_list m_zip
  have G_inverse : FD l.prog w (hid [P_choices_rank, P_bounds_rank, P_bases_rank] K) mg base ⟨([(cd_choices_rank, P_choices_rank), (cd_bounds_rank, P_bounds_rank), (cd_bases_rank, P_bases_rank)] : List (Addr × Addr)).map (·.2), fun _ _ => none, fun _ => none⟩ 1 f_inverse _ ["number", "prime"] F_inverse := fd_inverse (P := l.prog) (w := w) (mg := mg) (base := base) (gv := ⟨([(cd_choices_rank, P_choices_rank), (cd_bounds_rank, P_bounds_rank), (cd_bases_rank, P_bases_rank)] : List (Addr × Addr)).map (·.2), fun _ _ => none, fun _ => none⟩) (k := 0) H_inverse m_range
  have G_vectors_rank : FD l.prog w (hid [P_choices_rank, P_bounds_rank, P_bases_rank] K) mg base ⟨([(cd_choices_rank, P_choices_rank), (cd_bounds_rank, P_bounds_rank), (cd_bases_rank, P_bases_rank)] : List (Addr × Addr)).map (·.2), fun _ _ => none, fun _ => none⟩ 2 f_vectors_rank _ ["line", "members"] F_vectors_rank := fd_vectors_rank (P := l.prog) (w := w) (mg := mg) (base := base) (gv := ⟨([(cd_choices_rank, P_choices_rank), (cd_bounds_rank, P_bounds_rank), (cd_bases_rank, P_bases_rank)] : List (Addr × Addr)).map (·.2), fun _ _ => none, fun _ => none⟩) (k := 1) H_vectors_rank (G_reduced.mono (by omega)) g_reduced k_reduced bi_reduced (G_inverse.mono (by omega)) g_inverse k_inverse bi_inverse m_enumerate m_len
  have G0_find_thing : ∀ n : Nat, FD l.prog w (hid [P_choices_rank, P_bounds_rank, P_bases_rank] K) mg base ⟨([(cd_choices_rank, P_choices_rank), (cd_bounds_rank, P_bounds_rank), (cd_bases_rank, P_bases_rank)] : List (Addr × Addr)).map (·.2), fun _ _ => none, fun _ => none⟩ (n + 0) f_find_thing _ ["line", "element", "owners", "seen"] (R_find_thing n) := fun n => by
    induction n with
    | zero => exact FD.zero
    | succ n ih =>
      have q0 := fd_find_thing (P := l.prog) (w := w) (mg := mg) (base := base) (gv := ⟨([(cd_choices_rank, P_choices_rank), (cd_bounds_rank, P_bounds_rank), (cd_bases_rank, P_bases_rank)] : List (Addr × Addr)).map (·.2), fun _ _ => none, fun _ => none⟩) (k := n + 0) H_find_thing ih g_find_thing k_find_thing bi_find_thing
      rw [Nat.add_right_comm] at q0
      exact q0
  have G_find_thing := G0_find_thing 60
  have G_choices_rank : FD l.prog w (hid [P_choices_rank, P_bounds_rank, P_bases_rank] K) mg base ⟨([(cd_choices_rank, P_choices_rank), (cd_bounds_rank, P_bounds_rank), (cd_bases_rank, P_bases_rank)] : List (Addr × Addr)).map (·.2), fun _ _ => none, fun _ => none⟩ 62 f_choices_rank _ ["line", "members"] F_choices_rank := fd_choices_rank (P := l.prog) (w := w) (mg := mg) (base := base) (gv := ⟨([(cd_choices_rank, P_choices_rank), (cd_bounds_rank, P_bounds_rank), (cd_bases_rank, P_bases_rank)] : List (Addr × Addr)).map (·.2), fun _ _ => none, fun _ => none⟩) (k := 60) H_choices_rank (G_find_thing.mono (by omega)) g_find_thing k_find_thing bi_find_thing m_sum T_choices_rank (by simp)
  have G_bounds_rank : FD l.prog w (hid [P_choices_rank, P_bounds_rank, P_bases_rank] K) mg base ⟨([(cd_choices_rank, P_choices_rank), (cd_bounds_rank, P_bounds_rank), (cd_bases_rank, P_bases_rank)] : List (Addr × Addr)).map (·.2), fun _ _ => none, fun _ => none⟩ 2 f_bounds_rank _ ["line", "members"] F_bounds_rank := fd_bounds_rank (P := l.prog) (w := w) (mg := mg) (base := base) (gv := ⟨([(cd_choices_rank, P_choices_rank), (cd_bounds_rank, P_bounds_rank), (cd_bases_rank, P_bases_rank)] : List (Addr × Addr)).map (·.2), fun _ _ => none, fun _ => none⟩) (k := 0) H_bounds_rank m_sum m_all m_zip m_len T_bounds_rank (by simp)
  have G_rank_of_kind : FD l.prog w (hid [P_choices_rank, P_bounds_rank, P_bases_rank] K) mg base ⟨([(cd_choices_rank, P_choices_rank), (cd_bounds_rank, P_bounds_rank), (cd_bases_rank, P_bases_rank)] : List (Addr × Addr)).map (·.2), fun _ _ => none, fun _ => none⟩ 63 f_rank_of_kind _ ["line", "members"] F_rank_of_kind := fd_rank_of_kind (P := l.prog) (w := w) (mg := mg) (base := base) (gv := ⟨([(cd_choices_rank, P_choices_rank), (cd_bounds_rank, P_bounds_rank), (cd_bases_rank, P_bases_rank)] : List (Addr × Addr)).map (·.2), fun _ _ => none, fun _ => none⟩) (k := 62) H_rank_of_kind (G_graph_rank.mono (by omega)) g_graph_rank k_graph_rank bi_graph_rank (G_vectors_rank.mono (by omega)) g_vectors_rank k_vectors_rank bi_vectors_rank (G_choices_rank.mono (by omega)) g_choices_rank k_choices_rank bi_choices_rank (G_bounds_rank.mono (by omega)) g_bounds_rank k_bounds_rank bi_bounds_rank (G_bases_rank.mono (by omega)) g_bases_rank k_bases_rank bi_bases_rank m_len m_min
  have G__law_forest : FD l.prog w (hid [P_choices_rank, P_bounds_rank, P_bases_rank] K) mg base ⟨([(cd_choices_rank, P_choices_rank), (cd_bounds_rank, P_bounds_rank), (cd_bases_rank, P_bases_rank)] : List (Addr × Addr)).map (·.2), fun _ _ => none, fun _ => none⟩ 1 f__law_forest _ ["_law_line", "_law_those"] F__law_forest := fd__law_forest (P := l.prog) (w := w) (mg := mg) (base := base) (gv := ⟨([(cd_choices_rank, P_choices_rank), (cd_bounds_rank, P_bounds_rank), (cd_bases_rank, P_bases_rank)] : List (Addr × Addr)).map (·.2), fun _ _ => none, fun _ => none⟩) (k := 0) H__law_forest m_range
  have G0__law_given : ∀ n : Nat, FD l.prog w (hid [P_choices_rank, P_bounds_rank, P_bases_rank] K) mg base ⟨([(cd_choices_rank, P_choices_rank), (cd_bounds_rank, P_bounds_rank), (cd_bases_rank, P_bases_rank)] : List (Addr × Addr)).map (·.2), fun _ _ => none, fun _ => none⟩ (n + 0) f__law_given _ ["_law_line", "_law_those", "_law_taken"] (R__law_given n) := fun n => by
    induction n with
    | zero => exact FD.zero
    | succ n ih =>
      have q0 := fd__law_given (P := l.prog) (w := w) (mg := mg) (base := base) (gv := ⟨([(cd_choices_rank, P_choices_rank), (cd_bounds_rank, P_bounds_rank), (cd_bases_rank, P_bases_rank)] : List (Addr × Addr)).map (·.2), fun _ _ => none, fun _ => none⟩) (k := n + 0) H__law_given ih g__law_given k__law_given bi__law_given m_len
      rw [Nat.add_right_comm] at q0
      exact q0
  have G__law_given := G0__law_given 60
  have G__law_sums : FD l.prog w (hid [P_choices_rank, P_bounds_rank, P_bases_rank] K) mg base ⟨([(cd_choices_rank, P_choices_rank), (cd_bounds_rank, P_bounds_rank), (cd_bases_rank, P_bases_rank)] : List (Addr × Addr)).map (·.2), fun _ _ => none, fun _ => none⟩ 1 f__law_sums _ ["_law_line", "_law_those"] F__law_sums__2 := fd__law_sums (P := l.prog) (w := w) (mg := mg) (base := base) (gv := ⟨([(cd_choices_rank, P_choices_rank), (cd_bounds_rank, P_bounds_rank), (cd_bases_rank, P_bases_rank)] : List (Addr × Addr)).map (·.2), fun _ _ => none, fun _ => none⟩) (k := 0) H__law_sums m_tuple m_range m_int m_sorted m_len
  have G__law_is_free : FD l.prog w (hid [P_choices_rank, P_bounds_rank, P_bases_rank] K) mg base ⟨([(cd_choices_rank, P_choices_rank), (cd_bounds_rank, P_bounds_rank), (cd_bases_rank, P_bases_rank)] : List (Addr × Addr)).map (·.2), fun _ _ => none, fun _ => none⟩ 61 f__law_is_free _ ["_law_line", "_law_those"] F__law_is_free__2 := fd__law_is_free (P := l.prog) (w := w) (mg := mg) (base := base) (gv := ⟨([(cd_choices_rank, P_choices_rank), (cd_bounds_rank, P_bounds_rank), (cd_bases_rank, P_bases_rank)] : List (Addr × Addr)).map (·.2), fun _ _ => none, fun _ => none⟩) (k := 60) H__law_is_free (G__law_forest.mono (by omega)) g__law_forest k__law_forest bi__law_forest (G__law_sums.mono (by omega)) g__law_sums k__law_sums bi__law_sums (G__law_given.mono (by omega)) g__law_given k__law_given bi__law_given m_len m_all
  have G__law_rank_in : FD l.prog w (hid [P_choices_rank, P_bounds_rank, P_bases_rank] K) mg base ⟨([(cd_choices_rank, P_choices_rank), (cd_bounds_rank, P_bounds_rank), (cd_bases_rank, P_bases_rank)] : List (Addr × Addr)).map (·.2), fun _ _ => none, fun _ => none⟩ 62 f__law_rank_in _ ["_law_line", "_law_members_here"] F__law_rank_in := fd__law_rank_in (P := l.prog) (w := w) (mg := mg) (base := base) (gv := ⟨([(cd_choices_rank, P_choices_rank), (cd_bounds_rank, P_bounds_rank), (cd_bases_rank, P_bases_rank)] : List (Addr × Addr)).map (·.2), fun _ _ => none, fun _ => none⟩) (k := 61) H__law_rank_in (G__law_is_free.mono (by omega)) g__law_is_free k__law_is_free bi__law_is_free (G__law_every.mono (by omega)) g__law_every k__law_every bi__law_every m_len
  have G__law_fits_large : FD l.prog w (hid [P_choices_rank, P_bounds_rank, P_bases_rank] K) mg base ⟨([(cd_choices_rank, P_choices_rank), (cd_bounds_rank, P_bounds_rank), (cd_bases_rank, P_bases_rank)] : List (Addr × Addr)).map (·.2), fun _ _ => none, fun _ => none⟩ 64 f__law_fits_large _ ["_law_state", "_law_line", "_law_most"] F__law_fits_large := fd__law_fits_large (P := l.prog) (w := w) (mg := mg) (base := base) (gv := ⟨([(cd_choices_rank, P_choices_rank), (cd_bounds_rank, P_bounds_rank), (cd_bases_rank, P_bases_rank)] : List (Addr × Addr)).map (·.2), fun _ _ => none, fun _ => none⟩) (k := 63) H__law_fits_large (G__law_size.mono (by omega)) g__law_size k__law_size bi__law_size (G__law_few_of.mono (by omega)) g__law_few_of k__law_few_of bi__law_few_of (G_rank_of_kind.mono (by omega)) g_rank_of_kind k_rank_of_kind bi_rank_of_kind (G__law_rank_in.mono (by omega)) g__law_rank_in k__law_rank_in bi__law_rank_in m_list m_range
  have G__law_code : FD l.prog w (hid [P_choices_rank, P_bounds_rank, P_bases_rank] K) mg base ⟨([(cd_choices_rank, P_choices_rank), (cd_bounds_rank, P_bounds_rank), (cd_bases_rank, P_bases_rank)] : List (Addr × Addr)).map (·.2), fun _ _ => none, fun _ => none⟩ 2 f__law_code _ ["_law_those"] F__law_code := fd__law_code (P := l.prog) (w := w) (mg := mg) (base := base) (gv := ⟨([(cd_choices_rank, P_choices_rank), (cd_bounds_rank, P_bounds_rank), (cd_bases_rank, P_bases_rank)] : List (Addr × Addr)).map (·.2), fun _ _ => none, fun _ => none⟩) (k := 1) H__law_code (G__law_powers.mono (by omega)) g__law_powers k__law_powers bi__law_powers m_sum
  have G__law_made_free : FD l.prog w (hid [P_choices_rank, P_bounds_rank, P_bases_rank] K) mg base ⟨([(cd_choices_rank, P_choices_rank), (cd_bounds_rank, P_bounds_rank), (cd_bases_rank, P_bases_rank)] : List (Addr × Addr)).map (·.2), fun _ _ => none, fun _ => none⟩ 4 f__law_made_free _ ["_law_line", "_law_members_here", "_law_frees", "_law_sizes"] F__law_made_free__2 := fd__law_made_free (P := l.prog) (w := w) (mg := mg) (base := base) (gv := ⟨([(cd_choices_rank, P_choices_rank), (cd_bounds_rank, P_bounds_rank), (cd_bases_rank, P_bases_rank)] : List (Addr × Addr)).map (·.2), fun _ _ => none, fun _ => none⟩) (k := 3) H__law_made_free (G__law_powers.mono (by omega)) g__law_powers k__law_powers bi__law_powers (G__law_ranks.mono (by omega)) g__law_ranks k__law_ranks bi__law_ranks (G__law_code.mono (by omega)) g__law_code k__law_code bi__law_code (G__law_members.mono (by omega)) g__law_members k__law_members bi__law_members m_len m_int m_range
  have G__law_free : FD l.prog w (hid [P_choices_rank, P_bounds_rank, P_bases_rank] K) mg base ⟨([(cd_choices_rank, P_choices_rank), (cd_bounds_rank, P_bounds_rank), (cd_bases_rank, P_bases_rank)] : List (Addr × Addr)).map (·.2), fun _ _ => none, fun _ => none⟩ 62 f__law_free _ ["_law_line", "_law_earlier"] F__law_free__2 := fd__law_free (P := l.prog) (w := w) (mg := mg) (base := base) (gv := ⟨([(cd_choices_rank, P_choices_rank), (cd_bounds_rank, P_bounds_rank), (cd_bases_rank, P_bases_rank)] : List (Addr × Addr)).map (·.2), fun _ _ => none, fun _ => none⟩) (k := 61) H__law_free (G__law_every.mono (by omega)) g__law_every k__law_every bi__law_every (G__law_size.mono (by omega)) g__law_size k__law_size bi__law_size (G__law_is_free.mono (by omega)) g__law_is_free k__law_is_free bi__law_is_free (G__law_made_free.mono (by omega)) g__law_made_free k__law_made_free bi__law_made_free
  have G__law_large : FD l.prog w (hid [P_choices_rank, P_bounds_rank, P_bases_rank] K) mg base ⟨([(cd_choices_rank, P_choices_rank), (cd_bounds_rank, P_bounds_rank), (cd_bases_rank, P_bases_rank)] : List (Addr × Addr)).map (·.2), fun _ _ => none, fun _ => none⟩ 2 f__law_large _ ["_law_state"] F__law_large__3 := fd__law_large (P := l.prog) (w := w) (mg := mg) (base := base) (gv := ⟨([(cd_choices_rank, P_choices_rank), (cd_bounds_rank, P_bounds_rank), (cd_bases_rank, P_bases_rank)] : List (Addr × Addr)).map (·.2), fun _ _ => none, fun _ => none⟩) (k := 1) H__law_large (G__law_draw.mono (by omega)) g__law_draw k__law_draw bi__law_draw m_range m_tuple
  have G__law_is_integer : FD l.prog w (hid [P_choices_rank, P_bounds_rank, P_bases_rank] K) mg base ⟨([(cd_choices_rank, P_choices_rank), (cd_bounds_rank, P_bounds_rank), (cd_bases_rank, P_bases_rank)] : List (Addr × Addr)).map (·.2), fun _ _ => none, fun _ => none⟩ 1 f__law_is_integer _ ["_law_actual"] F__law_is_integer := fd__law_is_integer (P := l.prog) (w := w) (mg := mg) (base := base) (gv := ⟨([(cd_choices_rank, P_choices_rank), (cd_bounds_rank, P_bounds_rank), (cd_bases_rank, P_bases_rank)] : List (Addr × Addr)).map (·.2), fun _ _ => none, fun _ => none⟩) (k := 0) H__law_is_integer m_isinstance m_int m_bool
  have G_law : FD l.prog w (hid [P_choices_rank, P_bounds_rank, P_bases_rank] K) mg base ⟨([(cd_choices_rank, P_choices_rank), (cd_bounds_rank, P_bounds_rank), (cd_bases_rank, P_bases_rank)] : List (Addr × Addr)).map (·.2), fun _ _ => none, fun _ => none⟩ 65 fa _ ["_law_script"] F_law__6 := fd_law (P := l.prog) (w := w) (mg := mg) (base := base) (gv := ⟨([(cd_choices_rank, P_choices_rank), (cd_bounds_rank, P_bounds_rank), (cd_bases_rank, P_bases_rank)] : List (Addr × Addr)).map (·.2), fun _ _ => none, fun _ => none⟩) (k := 64) H_law (G__law_choices.mono (by omega)) g__law_choices k__law_choices bi__law_choices (G__law_size.mono (by omega)) g__law_size k__law_size bi__law_size (G__law_ranks.mono (by omega)) g__law_ranks k__law_ranks bi__law_ranks (G__law_free.mono (by omega)) g__law_free k__law_free bi__law_free (G__law_draw.mono (by omega)) g__law_draw k__law_draw bi__law_draw (G_rank_of_kind.mono (by omega)) g_rank_of_kind k_rank_of_kind bi_rank_of_kind (G__law_is_integer.mono (by omega)) g__law_is_integer k__law_is_integer bi__law_is_integer (G__law_code.mono (by omega)) g__law_code k__law_code bi__law_code (G__law_every.mono (by omega)) g__law_every k__law_every bi__law_every (G__law_fits_large.mono (by omega)) g__law_fits_large k__law_fits_large bi__law_fits_large (G__law_large.mono (by omega)) g__law_large k__law_large bi__law_large m_list m_reversed
  exact G_law.ok
end K10
open PySem PySem.W PyProof.Rows in
set_option maxRecDepth 100000 in
set_option maxHeartbeats 0 in
theorem PySem.Challenge.cw_bestsets_k10_ranks_of_choices_holds : PySem.Challenge.rw_bestsets_k10_ranks_of_choices.Holds := by
  w_on; o_law; x_head; (case hw => w_witness2)
  k_fill
  refine Dn.walk_hid (l := PySem.Challenge.rw_bestsets_k10_ranks_of_choices) (n := 63) (k := 65) (x := "_law_script") [45, 52, 57] (CX := fun _ => L2.CX0) rfl (by decide) rfl ⟨rfl, by decide, by decide⟩ (fun w h Y => PySem.W.kIn_of Y) ?F fun _ _ _ _ _ z => z
  case F =>
    intro w mg fa h Y KX G hmg
    clear Y
    refine' K10.all_mk KX G hmg rfl K10.main ?a__law_draw ?l__law_draw ?c__law_draw ?a__law_choices ?l__law_choices ?c__law_choices ?a__law_size ?l__law_size ?c__law_size ?a__law_powers ?l__law_powers ?c__law_powers ?a__law_members ?l__law_members ?c__law_members ?a__law_ranks ?l__law_ranks ?c__law_ranks ?a__law_every ?l__law_every ?c__law_every ?a__law_few_of ?l__law_few_of ?c__law_few_of ?a_bases_rank ?l_bases_rank ?c_bases_rank ?t_bases_rank ?u_bases_rank ?v_bases_rank ?w_bases_rank ?p_bases_rank ?a_graph_rank ?l_graph_rank ?c_graph_rank ?a_reduced ?l_reduced ?c_reduced ?a_inverse ?l_inverse ?c_inverse ?a_vectors_rank ?l_vectors_rank ?c_vectors_rank ?a_find_thing ?l_find_thing ?c_find_thing ?a_choices_rank ?l_choices_rank ?c_choices_rank ?t_choices_rank ?u_choices_rank ?v_choices_rank ?w_choices_rank ?p_choices_rank ?a_bounds_rank ?l_bounds_rank ?c_bounds_rank ?t_bounds_rank ?u_bounds_rank ?v_bounds_rank ?w_bounds_rank ?p_bounds_rank ?a_rank_of_kind ?l_rank_of_kind ?c_rank_of_kind ?a__law_forest ?l__law_forest ?c__law_forest ?a__law_given ?l__law_given ?c__law_given ?a__law_sums ?l__law_sums ?c__law_sums ?a__law_is_free ?l__law_is_free ?c__law_is_free ?a__law_rank_in ?l__law_rank_in ?c__law_rank_in ?a__law_fits_large ?l__law_fits_large ?c__law_fits_large ?a__law_code ?l__law_code ?c__law_code ?a__law_made_free ?l__law_made_free ?c__law_made_free ?a__law_free ?l__law_free ?c__law_free ?a__law_large ?l__law_large ?c__law_large ?a__law_is_integer ?l__law_is_integer ?c__law_is_integer ?a_law ?l_law ?c_law ?n__law_draw ?m__law_draw ?n__law_choices ?m__law_choices ?n__law_size ?m__law_size ?n__law_powers ?m__law_powers ?n__law_members ?m__law_members ?n__law_ranks ?m__law_ranks ?n__law_every ?m__law_every ?n__law_few_of ?m__law_few_of ?n_bases_rank ?m_bases_rank ?n_graph_rank ?m_graph_rank ?n_reduced ?m_reduced ?n_inverse ?m_inverse ?n_vectors_rank ?m_vectors_rank ?n_find_thing ?m_find_thing ?n_choices_rank ?m_choices_rank ?n_bounds_rank ?m_bounds_rank ?n_rank_of_kind ?m_rank_of_kind ?n__law_forest ?m__law_forest ?n__law_given ?m__law_given ?n__law_sums ?m__law_sums ?n__law_is_free ?m__law_is_free ?n__law_rank_in ?m__law_rank_in ?n__law_fits_large ?m__law_fits_large ?n__law_code ?m__law_code ?n__law_made_free ?m__law_made_free ?n__law_free ?m__law_free ?n__law_large ?m__law_large ?n__law_is_integer ?m__law_is_integer ?n_law ?m_law ?bm ?z_len ?z_int ?z_range ?z_tuple ?z_max ?z_list ?z_zip ?z_enumerate ?z_sum ?z_all ?z_min ?z_sorted ?z_isinstance ?z_bool ?z_reversed
    (case a__law_draw => k_is)
    (case l__law_draw => k_is)
    (case c__law_draw => k_is)
    (case a__law_choices => k_is)
    (case l__law_choices => k_is)
    (case c__law_choices => k_is)
    (case a__law_size => k_is)
    (case l__law_size => k_is)
    (case c__law_size => k_is)
    (case a__law_powers => k_is)
    (case l__law_powers => k_is)
    (case c__law_powers => k_is)
    (case a__law_members => k_is)
    (case l__law_members => k_is)
    (case c__law_members => k_is)
    (case a__law_ranks => k_is)
    (case l__law_ranks => k_is)
    (case c__law_ranks => k_is)
    (case a__law_every => k_is)
    (case l__law_every => k_is)
    (case c__law_every => k_is)
    (case a__law_few_of => k_is)
    (case l__law_few_of => k_is)
    (case c__law_few_of => k_is)
    (case a_bases_rank => k_is)
    (case l_bases_rank => k_is)
    (case c_bases_rank => k_is)
    (case t_bases_rank => k_is)
    (case u_bases_rank => rfl)
    (case v_bases_rank => rfl)
    (case w_bases_rank => rfl)
    (case p_bases_rank => k_is)
    (case a_graph_rank => k_is)
    (case l_graph_rank => k_is)
    (case c_graph_rank => k_is)
    (case a_reduced => k_is)
    (case l_reduced => k_is)
    (case c_reduced => k_is)
    (case a_inverse => k_is)
    (case l_inverse => k_is)
    (case c_inverse => k_is)
    (case a_vectors_rank => k_is)
    (case l_vectors_rank => k_is)
    (case c_vectors_rank => k_is)
    (case a_find_thing => k_is)
    (case l_find_thing => k_is)
    (case c_find_thing => k_is)
    (case a_choices_rank => k_is)
    (case l_choices_rank => k_is)
    (case c_choices_rank => k_is)
    (case t_choices_rank => k_is)
    (case u_choices_rank => rfl)
    (case v_choices_rank => rfl)
    (case w_choices_rank => rfl)
    (case p_choices_rank => k_is)
    (case a_bounds_rank => k_is)
    (case l_bounds_rank => k_is)
    (case c_bounds_rank => k_is)
    (case t_bounds_rank => k_is)
    (case u_bounds_rank => rfl)
    (case v_bounds_rank => rfl)
    (case w_bounds_rank => rfl)
    (case p_bounds_rank => k_is)
    (case a_rank_of_kind => k_is)
    (case l_rank_of_kind => k_is)
    (case c_rank_of_kind => k_is)
    (case a__law_forest => k_is)
    (case l__law_forest => k_is)
    (case c__law_forest => k_is)
    (case a__law_given => k_is)
    (case l__law_given => k_is)
    (case c__law_given => k_is)
    (case a__law_sums => k_is)
    (case l__law_sums => k_is)
    (case c__law_sums => k_is)
    (case a__law_is_free => k_is)
    (case l__law_is_free => k_is)
    (case c__law_is_free => k_is)
    (case a__law_rank_in => k_is)
    (case l__law_rank_in => k_is)
    (case c__law_rank_in => k_is)
    (case a__law_fits_large => k_is)
    (case l__law_fits_large => k_is)
    (case c__law_fits_large => k_is)
    (case a__law_code => k_is)
    (case l__law_code => k_is)
    (case c__law_code => k_is)
    (case a__law_made_free => k_is)
    (case l__law_made_free => k_is)
    (case c__law_made_free => k_is)
    (case a__law_free => k_is)
    (case l__law_free => k_is)
    (case c__law_free => k_is)
    (case a__law_large => k_is)
    (case l__law_large => k_is)
    (case c__law_large => k_is)
    (case a__law_is_integer => k_is)
    (case l__law_is_integer => k_is)
    (case c__law_is_integer => k_is)
    (case a_law => k_is)
    (case l_law => k_is)
    (case c_law => k_is)
    (case n__law_draw => rfl)
    (case m__law_draw => rfl)
    (case n__law_choices => rfl)
    (case m__law_choices => rfl)
    (case n__law_size => rfl)
    (case m__law_size => rfl)
    (case n__law_powers => rfl)
    (case m__law_powers => rfl)
    (case n__law_members => rfl)
    (case m__law_members => rfl)
    (case n__law_ranks => rfl)
    (case m__law_ranks => rfl)
    (case n__law_every => rfl)
    (case m__law_every => rfl)
    (case n__law_few_of => rfl)
    (case m__law_few_of => rfl)
    (case n_bases_rank => rfl)
    (case m_bases_rank => rfl)
    (case n_graph_rank => rfl)
    (case m_graph_rank => rfl)
    (case n_reduced => rfl)
    (case m_reduced => rfl)
    (case n_inverse => rfl)
    (case m_inverse => rfl)
    (case n_vectors_rank => rfl)
    (case m_vectors_rank => rfl)
    (case n_find_thing => rfl)
    (case m_find_thing => rfl)
    (case n_choices_rank => rfl)
    (case m_choices_rank => rfl)
    (case n_bounds_rank => rfl)
    (case m_bounds_rank => rfl)
    (case n_rank_of_kind => rfl)
    (case m_rank_of_kind => rfl)
    (case n__law_forest => rfl)
    (case m__law_forest => rfl)
    (case n__law_given => rfl)
    (case m__law_given => rfl)
    (case n__law_sums => rfl)
    (case m__law_sums => rfl)
    (case n__law_is_free => rfl)
    (case m__law_is_free => rfl)
    (case n__law_rank_in => rfl)
    (case m__law_rank_in => rfl)
    (case n__law_fits_large => rfl)
    (case m__law_fits_large => rfl)
    (case n__law_code => rfl)
    (case m__law_code => rfl)
    (case n__law_made_free => rfl)
    (case m__law_made_free => rfl)
    (case n__law_free => rfl)
    (case m__law_free => rfl)
    (case n__law_large => rfl)
    (case m__law_large => rfl)
    (case n__law_is_integer => rfl)
    (case m__law_is_integer => rfl)
    (case n_law => rfl)
    (case m_law => rfl)
    (case bm => rfl)
    (case z_len => k_is)
    (case z_int => k_is)
    (case z_range => k_is)
    (case z_tuple => k_is)
    (case z_max => k_is)
    (case z_list => k_is)
    (case z_zip => k_is)
    (case z_enumerate => k_is)
    (case z_sum => k_is)
    (case z_all => k_is)
    (case z_min => k_is)
    (case z_sorted => k_is)
    (case z_isinstance => k_is)
    (case z_bool => k_is)
    (case z_reversed => k_is)
