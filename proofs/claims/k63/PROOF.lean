import PyProof.Rows.All
import Wide.All
import OpenK.AllK
import Wide.FinOn
import KE.KStateDown
import HandS.ForMost
import HandS.Defaults
import HandS.Wide
import HandS.IsInst
import HandS.Conv
import HandS.Style
import HandS.Zip
import HandS.TryOnly
import HandS.Head0
import HandS.Head1
import HandS.Head2
import HandS.HeadEnd
import HandS.HeadHook1
import HandS.HeadHook2
import PySem.Challenge.RW_lyingstore_k63_whole_rows_of_keys
set_option Elab.async false
set_option linter.all false
set_option maxRecDepth 100000
set_option maxHeartbeats 4000000
namespace Lk
open PySem PySem.Spec PyProof.Rows L2
/-! ### heaps that keep what they hold -/
abbrev AS := Addr → Prop
structure Ek (T : AS) (H H' : Hp) : Prop where
  keep : ∀ a o, ¬ T a → H a = some o → H' a = some o
  dom : ∀ a, H' a = none → H a = none
abbrev N0 : AS := fun _ => False
abbrev Ex (H H' : Hp) : Prop := Ek N0 H H'
def Sok (S : AS) (H : Hp) : Prop := ∀ a, H a = none → ¬ S a
theorem upd_dom {H : Hp} {p a : Addr} {o : HO} (h : upd H p o a = none) : H a = none := by
  by_cases e : a = p
  · rw [e, upd_same] at h
    cases h
  · rw [upd_ne e] at h
    exact h
theorem Ek.refl {T : AS} (H : Hp) : Ek T H H := ⟨fun _ _ _ h => h, fun _ h => h⟩
theorem Ek.trans {T : AS} {H H1 H2 : Hp} (a : Ek T H H1) (b : Ek T H1 H2) : Ek T H H2 := ⟨fun x o n h => b.keep x o n (a.keep x o n h), fun x h => a.dom x (b.dom x h)⟩
theorem Ek.mono {T T' : AS} {H H1 : Hp} (h : ∀ a, T a → T' a) (e : Ek T H H1) : Ek T' H H1 := ⟨fun x o n q => e.keep x o (fun z => n (h x z)) q, e.dom⟩
theorem Ek.of {T : AS} {H H1 : Hp} (e : Ex H H1) : Ek T H H1 := e.mono fun _ z => z.elim
theorem Ek.new {T : AS} {H : Hp} {p : Addr} {o : HO} (h : H p = none) : Ek T H (upd H p o) := ⟨fun a u _ e => by
  rw [upd_ne (ne_of_none e h)]
  exact e, fun _ => upd_dom⟩
/-- an object that H does not know may change -/
theorem Ek.mut {T : AS} {H H' : Hp} {p : Addr} {o : HO} (e : Ek T H H') (h : H p = none) : Ek T H (upd H' p o) := ⟨fun a u n ha => by
  rw [upd_ne (ne_of_none ha h)]
  exact e.keep a u n ha, fun a q => e.dom a (upd_dom q)⟩
/-- .. one that may change -/
theorem Ek.mutT {T : AS} {H H' : Hp} {p : Addr} {o : HO} (e : Ek T H H') (h : T p) : Ek T H (upd H' p o) := ⟨fun a u n ha => by
  rw [upd_ne (fun z => n (by rw [z]; exact h))]
  exact e.keep a u n ha, fun a q => e.dom a (upd_dom q)⟩
theorem Ex.at {H H1 : Hp} {a : Addr} {o : HO} (e : Ex H H1) (h : H a = some o) : H1 a = some o := e.keep a o (fun z => z) h
theorem Ex.new {H : Hp} {p : Addr} {o : HO} (h : H p = none) : Ex H (upd H p o) := Ek.new h
theorem Sok.ek {S T : AS} {H H1 : Hp} (s : Sok S H) (e : Ek T H H1) : Sok S H1 := fun a h => s a (e.dom a h)
theorem Sok.upd {S : AS} {H : Hp} {p : Addr} {o : HO} (s : Sok S H) : Sok S (upd H p o) := fun a h => s a (upd_dom h)
theorem Sok.no {S : AS} {H : Hp} {p : Addr} (s : Sok S H) (h : H p = none) : ¬ S p := s p h
theorem Sok.n0 {H : Hp} : Sok N0 H := fun _ _ z => z
/-- S with one more -/
def Sp1 (S : AS) (p : Addr) : AS := fun a => S a ∨ a = p
theorem Sok.one {S : AS} {H : Hp} {p : Addr} {o : HO} (s : Sok S H) (h : H p = some o) : Sok (Sp1 S p) H := fun a q z => by
  rcases z with z | z
  · exact s a q z
  · rw [z, h] at q
    cases q
/-! ### data -/
mutual
inductive D (K : PySem.W.Frag) (S : AS) (H : Hp) : V → PyData → Prop
  | non : D K S H .non .none
  | bl (b : Bool) : D K S H (.bl b) (.bool b)
  | int (i : Int) : D K S H (.int i) (.int i)
  | str (x : Str) : D K S H (.str x) (.str x)
  | lst {a : Addr} {xs : List V} {ds : List PyData} : ¬ S a → H a = some (.lst xs) → xs.length ≤ sizeLine → Ds K S H xs ds → D K S H (.ref a) (.list ds)
  | tup {a : Addr} {xs : List V} {ds : List PyData} : ¬ S a → H a = some (.tup xs) → xs.length ≤ sizeLine → Ds K S H xs ds → D K S H (.ref a) (.tuple ds)
  | tupK {a : Addr} {xs : List V} {ds : List PyData} : (∀ H' : Hp, SqT K H' a xs) → xs.length ≤ sizeLine → Ds K S H xs ds → D K S H (.ref a) (.tuple ds)
inductive Ds (K : PySem.W.Frag) (S : AS) (H : Hp) : List V → List PyData → Prop
  | nil : Ds K S H [] []
  | cons {v : V} {vs : List V} {d : PyData} {ds : List PyData} : D K S H v d → Ds K S H vs ds → Ds K S H (v :: vs) (d :: ds)
end
section
variable {K : PySem.W.Frag} {S T : AS} {H H1 : Hp}
theorem rd_ek {a : Addr} {u : HO} (n : ¬ T a) (e : Ek T H H1) (h : Rd H a u) : Rd H1 a u := by
  rcases h with h | ⟨o, h⟩
  · exact .inl (e.keep _ _ n h)
  · exact .inr ⟨o, e.keep _ _ n h⟩
theorem rd_ex {a : Addr} {u : HO} (e : Ex H H1) (h : Rd H a u) : Rd H1 a u := rd_ek (fun z => z) e h
theorem rd_ne {a p : Addr} {u : HO} (h : Rd H a u) (hp : H p = none) : a ≠ p := fun z => by
  subst z
  rcases h with h | ⟨o, h⟩
  · rw [hp] at h; cases h
  · rw [hp] at h; cases h
theorem sql_ek {a : Addr} {xs : List V} (n : ¬ T a) (e : Ek T H H1) (h : SqL K H a xs) : SqL K H1 a xs := by
  rcases h with h | h
  · exact .inl (rd_ek n e h)
  · exact .inr h
theorem sqt_ek {a : Addr} {xs : List V} (n : ¬ T a) (e : Ek T H H1) (h : SqT K H a xs) : SqT K H1 a xs := by
  rcases h with h | h
  · exact .inl (rd_ek n e h)
  · exact .inr h
theorem sql_ex {a : Addr} {xs : List V} (e : Ex H H1) (h : SqL K H a xs) : SqL K H1 a xs := sql_ek (fun z => z) e h
theorem sqt_ex {a : Addr} {xs : List V} (e : Ex H H1) (h : SqT K H a xs) : SqT K H1 a xs := sqt_ek (fun z => z) e h
mutual
theorem D.ek (hT : ∀ a, T a → S a) (e : Ek T H H1) : ∀ {v : V} {d : PyData}, D K S H v d → D K S H1 v d
  | _, _, .non => .non
  | _, _, .bl b => .bl b
  | _, _, .int i => .int i
  | _, _, .str x => .str x
  | _, _, .lst n h l r => .lst n (e.keep _ _ (fun z => n (hT _ z)) h) l (Ds.ek hT e r)
  | _, _, .tup n h l r => .tup n (e.keep _ _ (fun z => n (hT _ z)) h) l (Ds.ek hT e r)
  | _, _, .tupK h l r => .tupK h l (Ds.ek hT e r)
theorem Ds.ek (hT : ∀ a, T a → S a) (e : Ek T H H1) : ∀ {vs : List V} {ds : List PyData}, Ds K S H vs ds → Ds K S H1 vs ds
  | _, _, .nil => .nil
  | _, _, .cons h r => .cons (D.ek hT e h) (Ds.ek hT e r)
end
theorem D.ex (e : Ex H H1) {v : V} {d : PyData} (h : D K S H v d) : D K S H1 v d := h.ek (fun _ z => z.elim) e
theorem Ds.ex (e : Ex H H1) {vs : List V} {ds : List PyData} (h : Ds K S H vs ds) : Ds K S H1 vs ds := h.ek (fun _ z => z.elim) e
theorem D.eks (e : Ek S H H1) {v : V} {d : PyData} (h : D K S H v d) : D K S H1 v d := h.ek (fun _ z => z) e
theorem Ds.eks (e : Ek S H H1) {vs : List V} {ds : List PyData} (h : Ds K S H vs ds) : Ds K S H1 vs ds := h.ek (fun _ z => z) e
mutual
theorem D.less {S' : AS} (hS : ∀ a, S' a → S a) : ∀ {v : V} {d : PyData}, D K S H v d → D K S' H v d
  | _, _, .non => .non
  | _, _, .bl b => .bl b
  | _, _, .int i => .int i
  | _, _, .str x => .str x
  | _, _, .lst n h l r => .lst (fun z => n (hS _ z)) h l (Ds.less hS r)
  | _, _, .tup n h l r => .tup (fun z => n (hS _ z)) h l (Ds.less hS r)
  | _, _, .tupK h l r => .tupK h l (Ds.less hS r)
theorem Ds.less {S' : AS} (hS : ∀ a, S' a → S a) : ∀ {vs : List V} {ds : List PyData}, Ds K S H vs ds → Ds K S' H vs ds
  | _, _, .nil => .nil
  | _, _, .cons h r => .cons (D.less hS h) (Ds.less hS r)
end
/-! a new address besides -/
mutual
theorem D.up {p : Addr} (hp : H p = none) : ∀ {v : V} {d : PyData}, D K S H v d → D K (Sp1 S p) H v d
  | _, _, .non => .non
  | _, _, .bl b => .bl b
  | _, _, .int i => .int i
  | _, _, .str x => .str x
  | _, _, .lst n h l r => .lst (fun z => z.elim n (ne_of_none h hp)) h l (Ds.up hp r)
  | _, _, .tup n h l r => .tup (fun z => z.elim n (ne_of_none h hp)) h l (Ds.up hp r)
  | _, _, .tupK h l r => .tupK h l (Ds.up hp r)
theorem Ds.up {p : Addr} (hp : H p = none) : ∀ {vs : List V} {ds : List PyData}, Ds K S H vs ds → Ds K (Sp1 S p) H vs ds
  | _, _, .nil => .nil
  | _, _, .cons h r => .cons (D.up hp h) (Ds.up hp r)
end
theorem D.down {p : Addr} {v : V} {d : PyData} (h : D K (Sp1 S p) H v d) : D K S H v d := h.less fun _ z => .inl z
theorem Ds.down {p : Addr} {vs : List V} {ds : List PyData} (h : Ds K (Sp1 S p) H vs ds) : Ds K S H vs ds := h.less fun _ z => .inl z
theorem Ds.length : ∀ {vs : List V} {ds : List PyData}, Ds K S H vs ds → vs.length = ds.length
  | _, _, .nil => rfl
  | _, _, .cons _ r => congrArg Nat.succ (Ds.length r)
theorem Ds.get : ∀ {vs : List V} {ds : List PyData} {i : Nat} {v : V}, Ds K S H vs ds → vs[i]? = some v → ∃ d, ds[i]? = some d ∧ D K S H v d
  | _, _, _, _, .nil, e => by simp at e
  | _, _, 0, _, .cons h _, e => by
    simp only [List.getElem?_cons_zero, Option.some.injEq] at e
    subst e
    exact ⟨_, rfl, h⟩
  | _, _, i + 1, v, .cons _ t, e => by
    obtain ⟨d, h1, h2⟩ := Ds.get (i := i) (v := v) t (by simpa using e)
    exact ⟨d, by simpa using h1, h2⟩
theorem Ds.get' : ∀ {vs : List V} {ds : List PyData} {i : Nat} {d : PyData}, Ds K S H vs ds → ds[i]? = some d → ∃ v, vs[i]? = some v ∧ D K S H v d
  | _, _, _, _, .nil, e => by simp at e
  | _, _, 0, _, .cons h _, e => by
    simp only [List.getElem?_cons_zero, Option.some.injEq] at e
    subst e
    exact ⟨_, rfl, h⟩
  | _, _, i + 1, d, .cons _ t, e => by
    obtain ⟨v, h1, h2⟩ := Ds.get' (i := i) (d := d) t (by simpa using e)
    exact ⟨v, by simpa using h1, h2⟩
theorem Ds.append : ∀ {vs ws : List V} {ds es : List PyData}, Ds K S H vs ds → Ds K S H ws es → Ds K S H (vs ++ ws) (ds ++ es)
  | _, _, _, _, .nil, s => s
  | _, _, _, _, .cons h r, s => .cons h (Ds.append r s)
theorem Ds.snoc {vs : List V} {ds : List PyData} {v : V} {d : PyData} (h : Ds K S H vs ds) (q : D K S H v d) : Ds K S H (vs ++ [v]) (ds ++ [d]) := h.append (.cons q .nil)
theorem Ds.reverse : ∀ {vs : List V} {ds : List PyData}, Ds K S H vs ds → Ds K S H vs.reverse ds.reverse
  | _, _, .nil => .nil
  | _, _, .cons h r => by
    rw [List.reverse_cons, List.reverse_cons]
    exact (Ds.reverse r).snoc h
theorem Ds.ints : ∀ (ns : List Int), Ds K S H (ns.map V.int) (ns.map PyData.int)
  | [] => .nil
  | n :: r => .cons (.int n) (Ds.ints r)
theorem Ds.bools : ∀ (ns : List Bool), Ds K S H (ns.map V.bl) (ns.map PyData.bool)
  | [] => .nil
  | n :: r => .cons (.bl n) (Ds.bools r)
theorem Ds.of_ints : ∀ {vs : List V} {ns : List Int}, Ds K S H vs (ns.map PyData.int) → vs = ns.map V.int
  | _, [], h => by cases h; rfl
  | _, n :: r, h => by
    cases h with
    | cons h t => cases h; rw [Ds.of_ints t]; rfl
mutual
theorem D.dp : ∀ {v : V} {d : PyData}, D K S H v d → Dp K H v d
  | _, _, .non => .non
  | _, _, .bl b => .bl b
  | _, _, .int i => .int i
  | _, _, .str x => .str x
  | _, _, .lst n h l r => .lst (.inl (.inl h)) (Ds.dp r)
  | _, _, .tup n h l r => .tup (.inl (.inl h)) (Ds.dp r)
  | _, _, .tupK h l r => .tup (h _) (Ds.dp r)
theorem Ds.dp : ∀ {vs : List V} {ds : List PyData}, Ds K S H vs ds → DpAll K H vs ds
  | _, _, .nil => .nil
  | _, _, .cons h r => .cons (D.dp h) (Ds.dp r)
end
theorem D.listH {v : V} {ds : List PyData} (h : D K S H v (.list ds)) : ∃ a xs, v = .ref a ∧ H a = some (.lst xs) ∧ ¬ S a ∧ xs.length ≤ sizeLine ∧ Ds K S H xs ds := by
  cases h with
  | lst n h l r => exact ⟨_, _, rfl, h, n, l, r⟩
/-- a list's parts -/
theorem D.list {v : V} {ds : List PyData} (h : D K S H v (.list ds)) : ∃ a xs, v = .ref a ∧ SqL K H a xs ∧ xs.length ≤ sizeLine ∧ Ds K S H xs ds ∧ ((¬ S a ∧ H a = some (.lst xs)) ∨ ∀ H', SqL K H' a xs) := by
  cases h with
  | lst n h l r => exact ⟨_, _, rfl, .inl (.inl h), l, r, .inl ⟨n, h⟩⟩
theorem D.tuple {v : V} {ds : List PyData} (h : D K S H v (.tuple ds)) : ∃ a xs, v = .ref a ∧ SqT K H a xs ∧ xs.length ≤ sizeLine ∧ Ds K S H xs ds ∧ ((¬ S a ∧ H a = some (.tup xs)) ∨ ∀ H', SqT K H' a xs) := by
  cases h with
  | tup n h l r => exact ⟨_, _, rfl, .inl (.inl h), l, r, .inl ⟨n, h⟩⟩
  | tupK h l r => exact ⟨_, _, rfl, h _, l, r, .inr h⟩
theorem D.int_eq {v : V} {i : Int} (h : D K S H v (.int i)) : v = .int i := by cases h; rfl
theorem D.bool_eq {v : V} {i : Bool} (h : D K S H v (.bool i)) : v = .bl i := by cases h; rfl
theorem D.str_eq {v : V} {i : Str} (h : D K S H v (.str i)) : v = .str i := by cases h; rfl
theorem D.non_eq {v : V} (h : D K S H v .none) : v = .non := by cases h; rfl
/-- a sequence's things stand still while only T changes -/
theorem D.listE {v : V} {ds : List PyData} (h : D K S H v (.list ds)) : ∃ a xs, v = .ref a ∧ xs.length ≤ sizeLine ∧ Ds K S H xs ds ∧ ∀ H', Ek S H H' → SqL K H' a xs := by
  cases h with
  | lst n h l r => exact ⟨_, _, rfl, l, r, fun H' e => .inl (.inl (e.keep _ _ n h))⟩
theorem D.tupleE {v : V} {ds : List PyData} (h : D K S H v (.tuple ds)) : ∃ a xs, v = .ref a ∧ xs.length ≤ sizeLine ∧ Ds K S H xs ds ∧ ∀ H', Ek S H H' → SqT K H' a xs := by
  cases h with
  | tup n h l r => exact ⟨_, _, rfl, l, r, fun H' e => .inl (.inl (e.keep _ _ n h))⟩
  | tupK h l r => exact ⟨_, _, rfl, l, r, fun H' _ => h _⟩
end
end Lk
namespace Lk
open PySem PySem.Spec PyProof.Rows L2
/-! ### a def of the top -/
def Df (K : PySem.W.Frag) (mg : Str → Option Value) (x : Str) (st : Stmt) : Prop := ∃ f fd, FunD K x x (defArgs st) (defBody st) (defScope st) [] [] f fd ∧ mg x = some (.ref f)
/-- .. that keeps its promise -/
def Ok (P : Program) (w : World) (K : PySem.W.Frag) (mg : Str → Option Value) (base : Heap) (CX : CXT) (k : Nat) (x : Str) (st : Stmt) (ps : List Str) (sp : Sp) : Prop :=
  ∃ f fd, FunD K x x (defArgs st) (defBody st) (defScope st) [] [] f fd ∧ mg x = some (.ref f) ∧ FnOk P w K mg base CX k f fd ps sp
section
variable {P : Program} {w : World} {K : PySem.W.Frag} {mg : Str → Option Value} {base : Heap} {CX : CXT} {k : Nat} {x : Str} {st : Stmt} {N ps : List Str} {sp : Sp}
theorem ok_mk (F : Df K mg x st) (S : FnScope N ps (defScope st)) (len : ∀ vs H Q E, sp vs H Q E → vs.length = ps.length)
    (hbody : ∀ (f : Addr) (cdv : Value) (A : Around) (outer : List Env) (s : Shared) (H : Hp) (vs : List V) (Q : VK) (E : XK), Room k (A.deeper (envOfC x (defScope st) s.heap.objs.size f cdv)) → sp vs H Q E →
      ∃ t, PSs (cxOf CX0 P w K mg base N x (defScope st) f cdv A outer s H E).nox (defBody st) t ∧ t { nx := fun _ H' => Q .non H', rt := Q } (start N vs) H) : Ok P w K mg base CX0 (k + 1) x st ps sp := by
  obtain ⟨f, fd, F1, g⟩ := F
  refine ⟨f, fd, F1, g, F1.ok S len fun cdv A outer s H vs Q E hr h => ?_⟩
  obtain ⟨t, h1, h2⟩ := hbody f cdv A outer s H vs Q E hr h
  exact ⟨t, h1.nox, h2⟩
theorem ok_mkX {CX : CXT} (F : Df K mg x st) (S : FnScope N ps (defScope st)) (len : ∀ vs H Q E, sp vs H Q E → vs.length = ps.length)
    (hbody : ∀ (f : Addr) (cdv : Value) (A : Around) (outer : List Env) (s : Shared) (H : Hp) (vs : List V) (Q : VK) (E : XK), Room k (A.deeper (envOfC x (defScope st) s.heap.objs.size f cdv)) → sp vs H Q E →
      ∃ t, PSs (cxOf CX P w K mg base N x (defScope st) f cdv A outer s H E) (defBody st) t ∧ t { nx := fun _ H' => Q .non H', rt := Q } (start N vs) H) : Ok P w K mg base CX (k + 1) x st ps sp := by
  obtain ⟨f, fd, F1, g⟩ := F
  exact ⟨f, fd, F1, g, F1.ok S len fun cdv A outer s H vs Q E hr h => hbody f cdv A outer s H vs Q E hr h⟩
theorem Ok.mono {j : Nat} (F : Ok P w K mg base CX j x st ps sp) (h : j ≤ k) : Ok P w K mg base CX k x st ps sp := let ⟨f, fd, a, b, c⟩ := F; ⟨f, fd, a, b, c.mono h⟩
theorem Ok.imp {sp' : Sp} (F : Ok P w K mg base CX k x st ps sp) (h : ∀ vs H Q E, sp' vs H Q E → sp vs H Q E) : Ok P w K mg base CX k x st ps sp' := let ⟨f, fd, a, b, c⟩ := F; ⟨f, fd, a, b, c.imp h⟩
end
theorem df_of {K : PySem.W.Frag} {mg : Str → Option Value} {x : Str} {st : Stmt} {f : Addr} (h : ∃ fd, FunD K x x (defArgs st) (defBody st) (defScope st) [] [] f fd) (g : mg x = some (.ref f)) : Df K mg x st := let ⟨fd, F⟩ := h; ⟨f, fd, F, g⟩
theorem Ok.fnok {P : Program} {w : World} {K : PySem.W.Frag} {mg : Str → Option Value} {base : Heap} {CX : CXT} {k : Nat} {x : Str} {st : Stmt} {ps : List Str} {sp : Sp} {f : Addr} {fd : FuncData} (F : Ok P w K mg base CX k x st ps sp) (F1 : FunD K x x (defArgs st) (defBody st) (defScope st) [] [] f fd) (g : mg x = some (.ref f)) :
    FnOk P w K mg base CX k f fd ps sp := by
  obtain ⟨f', fd', F2, g2, G⟩ := F
  have e := g.symm.trans g2
  cases e
  obtain ⟨_, _, _, _, _, _, _, _, _, _, _, l1, _⟩ := F1.ex
  obtain ⟨_, _, _, _, _, _, _, _, _, _, _, l2, _⟩ := F2.ex
  have e2 := l1.symm.trans l2
  injection e2 with e3
  injection e3 with _ _ e4 _
  injection e4 with e5
  rw [e5]
  exact G
/-- how written arguments bind -/
def Bd (x : Str) (st : Stmt) (ps : List Str) : Prop := ∀ (kV doc pm : Value) (an : Option Addr) (cdv ct : Value) (us : List Value), us.length = ps.length →
  bindArgs (PySem.W.fnOf x x (defArgs st) (defBody st) (defScope st) .none kV doc pm an cdv ct) ⟨us, []⟩ = pure (ps.zip us)
/-- n values by place, m by keywords, in the parameters' order -/
def gp (n m : Nat) (is : List Nat) {α : Type} (us ws : List α) : List α := if us.length = n ∧ ws.length = m then is.filterMap (fun i => (us ++ ws)[i]?) else []
theorem vals_pick {xs : List V} {ys : List Value} (h : Vals xs ys) : ∀ is : List Nat, Vals (is.filterMap fun i => xs[i]?) (is.filterMap fun i => ys[i]?)
  | [] => .nil
  | i :: is => by
    rw [List.filterMap_cons, List.filterMap_cons]
    cases e : xs[i]? with
    | none =>
      rw [h.none_of e]
      exact vals_pick h is
    | some x =>
      obtain ⟨u, e2, r⟩ := h.get e
      rw [e2]
      exact .cons r (vals_pick h is)
theorem gp_v {n m : Nat} {is : List Nat} {vs zs : List V} {us ws : List Value} (a : Vals vs us) (b : Vals zs ws) : Vals (gp n m is vs zs) (gp n m is us ws) := by
  unfold gp
  rw [a.length, b.length]
  split
  · exact vals_pick (a.append b) is
  · exact .nil
theorem gp_len {n m k : Nat} {is : List Nat} {us ws : List Value} (h : (gp n m is us ws).length = k + 1) : us.length = n ∧ ws.length = m := by
  unfold gp at h
  split at h
  · assumption
  · cases h
/-- .. keywords ks among them, n by place -/
def Bk (x : Str) (st : Stmt) (ps ks : List Str) (n : Nat) (is : List Nat) : Prop := ∀ (kV doc pm : Value) (an : Option Addr) (cdv ct : Value) (us ws : List Value), (gp n ks.length is us ws).length = ps.length →
  bindArgs (PySem.W.fnOf x x (defArgs st) (defBody st) (defScope st) .none kV doc pm an cdv ct) ⟨us, ks.zip ws⟩ = pure (ps.zip (gp n ks.length is us ws))
section
variable {X : Cx} {k : Nat} {ps ks : List Str} {sp : Sp} {CX : CXT} {E : XK} {x : Str} {st : Stmt} {p pos : Pos} {e : Expr} {es : List Expr} {kws : List Keyword} {t tk : TA}
/-- f(e, ..) -/
theorem pe_c (F : Ok X.prog X.w X.K X.mg X.base CX k x st ps sp) (b : Bd x st ps) (hr : Room k X.A) (hx : Passes CX X E) (ha : PA X (e :: es) t) (hg : Gl X x := by rfl) (hdb : (x == ("__debug__" : Str)) = false := by decide)
    (he : starEach (e :: es) X.env = (false, eval e X.env) :: starEach es X.env := by rfl) (hpl : (backTo pos (starEach es X.env)).any (·.1) = false := by rfl) :
    PE X (.Call (.Name x p) (e :: es) [] pos) (tCall sp [] E t) := by
  obtain ⟨f, fd, F1, g, G⟩ := F
  exact pe_call G hr hg g F1.kp (F1.bindsN b) .nil hx ha hdb he hpl
theorem pe_c0 (F : Ok X.prog X.w X.K X.mg X.base CX k x st ps sp) (b : Bd x st ps) (hr : Room k X.A) (hx : Passes CX X E) (hg : Gl X x := by rfl) (hdb : (x == ("__debug__" : Str)) = false := by decide) :
    PE X (.Call (.Name x p) [] [] pos) (tCall sp [] E tNil) := by
  obtain ⟨f, fd, F1, g, G⟩ := F
  exact pe_call0 G hr hg g F1.kp (F1.bindsN b) .nil hx hdb
theorem kb_of {K : PySem.W.Frag} {f : Addr} {fd : FuncData} {n : Nat} {is : List Nat} (F : FunD K x x (defArgs st) (defBody st) (defScope st) [] [] f fd) (b : Bk x st ps ks n is) : KBinds K fd ps ks (gp n ks.length is) (gp n ks.length is) := by
  obtain ⟨oc, od, dV, kV, doc, pm, an, cdv, ct, osl, rfl, lk, hcd, hD, hK⟩ := F.ex
  rcases hD with ⟨_, rfl⟩ | ⟨e, _⟩
  · exact ⟨fun s us ws _ hl => .of_eq (b kV doc pm an cdv ct us ws hl), fun a b => gp_v a b⟩
  · exact absurd rfl e
/-- f(e, .., k = v, ..) -/
theorem pe_ck {n : Nat} {is : List Nat} (F : Ok X.prog X.w X.K X.mg X.base CX k x st ps sp) (b : Bk x st ps ks n is) (hr : Room k X.A) (hx : Passes CX X E) (ha : PA X (e :: es) t) (hkw : PK X kws tk) (hg : Gl X x := by rfl)
    (hall : (backToKw pos (keywordEach kws X.env)).all (·.1.isSome) = true := by rfl) (hks : (backToKw pos (keywordEach kws X.env)).filterMap (·.1) = ks := by rfl)
    (hdb : (x == ("__debug__" : Str)) = false := by decide) (he : starEach (e :: es) X.env = (false, eval e X.env) :: starEach es X.env := by rfl)
    (hpl : ((backTo pos (starEach (e :: es) X.env)).any (·.1) || (backToKw pos (keywordEach kws X.env)).any (·.1.isNone)) = false := by rfl) :
    PE X (.Call (.Name x p) (e :: es) kws pos) (tCallK sp (gp n ks.length is) E t tk) := by
  obtain ⟨f, fd, F1, gm, G⟩ := F
  exact pe_callK G hr hg gm F1.kp (kb_of F1 b) hx ha hkw hall hks hdb he hpl
/-- f(k = v, ..) -/
theorem pe_ck0 {n : Nat} {is : List Nat} (F : Ok X.prog X.w X.K X.mg X.base CX k x st ps sp) (b : Bk x st ps ks n is) (hr : Room k X.A) (hx : Passes CX X E) (hkw : PK X kws tk) (hg : Gl X x := by rfl)
    (hall : (backToKw pos (keywordEach kws X.env)).all (·.1.isSome) = true := by rfl) (hks : (backToKw pos (keywordEach kws X.env)).filterMap (·.1) = ks := by rfl)
    (hdb : (x == ("__debug__" : Str)) = false := by decide)
    (hpl : ((backTo pos (starEach [] X.env)).any (·.1) || (backToKw pos (keywordEach kws X.env)).any (·.1.isNone)) = false := by rfl) :
    PE X (.Call (.Name x p) [] kws pos) (tCallK sp (gp n ks.length is) E tNil tk) := by
  obtain ⟨f, fd, F1, gm, G⟩ := F
  refine ⟨fun pins s σ H Q I h => ?_⟩
  refine wpAny_Call_Name_kw (ld_glob I hg gm ?_ hdb)
  refine PySem.W.callWith_KW0 (h₀ := X.base) I.ok.mod.kin F1.kp hall ?_ hpl
  refine thn (hkw.run pos pins s σ H _ I h) fun ws s2 ⟨zs, H2, I2, rz, q2⟩ => ⟨I2.kIn, ?_⟩
  rw [hks]
  exact run_fnk (us := []) (vs := []) G hr (kb_of F1 b) hx I2 .nil rz q2
/-! ### walks over a list or a tuple -/
def iSeq (K : PySem.W.Frag) (tl : TE) : TI := fun σ H R => tl σ H fun x H1 => ∃ a, x = .ref a ∧ (((∃ xs, SqL K H1 a xs) ∧ R (Itl K a) H1) ∨ ((∃ xs, SqT K H1 a xs) ∧ R (Itt K a) H1))
theorem pi_seq {tg l : Expr} {tl : TE} (hl : PE X l tl) : PI X tg l (iSeq X.K tl) := by
  refine ⟨fun pins s σ H R I h => ?_⟩
  refine thn (hl.run pins s σ H _ I h) fun v s1 ⟨x, H1, I1, r1, q1⟩ => ?_
  obtain ⟨a, e, q1⟩ := q1
  subst e
  cases r1
  rcases q1 with ⟨⟨xs, hq⟩, q⟩ | ⟨⟨xs, hq⟩, q⟩
  · obtain ⟨its, rv, p, hz⟩ := I1.list hq
    refine wpAny_pyIter_list p.isList ?_
    refine ⟨s1.heap.objs.size, [s1.heap.objs.size], _, _, H1, rfl, I1.kept (t' := s1.toks) fun b o e => Heap.get?_push_of_some _ e, turn_list a _, ⟨_, Heap.get?_push_size _ rfl, rfl, rfl⟩, fun b hb => ?_, q⟩
    have e : b = s1.heap.objs.size := by simpa using hb
    subst e
    exact I1.fpOk (Nat.le_refl _) (I1.hok.fresh (Nat.le_refl _))
  · obtain ⟨its, rv, p, hz⟩ := I1.tuple hq
    refine wpAny_pyIter_tuple (show s1.heap.IsTuple a its.toArray from p) ?_
    refine ⟨s1.heap.objs.size, [s1.heap.objs.size], _, _, H1, rfl, I1.kept (t' := s1.toks) fun b o e => Heap.get?_push_of_some _ e, turn_tuple a _, ⟨_, Heap.get?_push_size _ rfl, rfl, rfl⟩, fun b hb => ?_, q⟩
    have e : b = s1.heap.objs.size := by simpa using hb
    subst e
    exact I1.fpOk (Nat.le_refl _) (I1.hok.fresh (Nat.le_refl _))
/-- unpacking a list or a tuple -/
def gSeq (K : PySem.W.Frag) (n : Nat) (t : TGs) : TG := fun v σ H Q => ∃ a xs, v = .ref a ∧ (SqT K H a xs ∨ SqL K H a xs) ∧ xs.length = n ∧ t xs σ H Q
theorem pg_seq {es : List Expr} {t : TGs} {k n : Nat} {pos : Pos} (hc : X.calm = true) (hT : PG X (.Tuple es k pos) (gTup X.K n t)) (hL : PG X (.Tuple es k pos) (gLst X.K n t)) : PG X (.Tuple es k pos) (gSeq X.K n t) := by
  refine ⟨fun pins s σ H v u Q I r h => ?_⟩
  obtain ⟨a, xs, e, q, l, h⟩ := h
  rcases q with q | q
  · exact hT.run pins s σ H v u Q I r ⟨a, xs, e, q, l, h⟩
  · exact hL.run pins s σ H v u Q I r ⟨a, xs, e, q, l, h⟩
end
/-! ### walks -/
structure Src (T : AS) (H1 : Hp) (J : It) (n : Nat) (Y : Nat → V → Hp → Hp → Prop) : Prop where
  go : ∀ i H, Ek T H1 H → i < n → J.go i H
  stop : ∀ H, Ek T H1 H → J.stop n H
  yld : ∀ i x H H', i < n → Ek T H1 H → J.yld i H x H' → Y i x H H'
section
variable {T S : AS} {K : PySem.W.Frag} {H1 : Hp} {a b : Addr} {xs ys : List V}
abbrev YS (xs : List V) : Nat → V → Hp → Hp → Prop := fun i x H H' => H' = H ∧ xs[i]? = some x
theorem src_l (h : ∀ H', Ek T H1 H' → SqL K H' a xs) : Src T H1 (Itl K a) xs.length (YS xs) where
  go := fun i H e hi => ⟨xs, xs[i], h H e, by simp [hi]⟩
  stop := fun H e => ⟨xs, h H e, Nat.le_refl _⟩
  yld := fun i x H H' _ e y => ⟨y.1, y.2 xs (h H e)⟩
theorem src_t (h : ∀ H', Ek T H1 H' → SqT K H' a xs) : Src T H1 (Itt K a) xs.length (YS xs) where
  go := fun i H e hi => ⟨xs, xs[i], h H e, by simp [hi]⟩
  stop := fun H e => ⟨xs, h H e, Nat.le_refl _⟩
  yld := fun i x H H' _ e y => ⟨y.1, y.2 xs (h H e)⟩
theorem src_r {lo : Int} {n : Nat} : Src T H1 (Itr lo n) n (fun i x H H' => H' = H ∧ x = .int (lo + i)) where
  go := fun i H e hi => hi
  stop := fun H e => Nat.le_refl _
  yld := fun i x H H' _ e y => y
abbrev YZ (xs ys : List V) : Nat → V → Hp → Hp → Prop := fun i v H H' => ∃ t x y, v = .ref t ∧ H t = none ∧ H' = upd H t (.tup [x, y]) ∧ xs[i]? = some x ∧ ys[i]? = some y
theorem src_z (h : ∀ H', Ek T H1 H' → SqL K H' a xs) (h2 : ∀ H', Ek T H1 H' → SqL K H' b ys) (hl : xs.length = ys.length) : Src T H1 (Itz K a b) xs.length (YZ xs ys) where
  go := fun i H e hi => ⟨xs, ys, xs[i], ys[i], h H e, h2 H e, by simp [hi], by simp [hl ▸ hi]⟩
  stop := fun H e => ⟨xs, ys, h H e, h2 H e, .inl (Nat.le_refl _)⟩
  yld := fun i x H H' _ e y => let ⟨t, u, v, e1, e2, e3, e4, e5⟩ := y; ⟨t, u, v, e1, e2, e3, e4 xs (h H e), e5 ys (h2 H e)⟩
theorem src_zt (h : ∀ H', Ek T H1 H' → SqT K H' a xs) (h2 : ∀ H', Ek T H1 H' → SqT K H' b ys) (hl : xs.length = ys.length) : Src T H1 (RZ.ItzT K a b) xs.length (YZ xs ys) where
  go := fun i H e hi => ⟨xs, ys, xs[i], ys[i], h H e, h2 H e, by simp [hi], by simp [hl ▸ hi]⟩
  stop := fun H e => ⟨xs, ys, h H e, h2 H e, .inl (Nat.le_refl _)⟩
  yld := fun i x H H' _ e y => let ⟨t, u, v, e1, e2, e3, e4, e5⟩ := y; ⟨t, u, v, e1, e2, e3, e4 xs (h H e), e5 ys (h2 H e)⟩
/-- a for -/
theorem for_src {J : It} {n : Nat} {Y : Nat → V → Hp → Hp → Prop} {g : TG} {tb : TS} {nx : L2.St → Hp → Prop} {rt : VK} {σ : L2.St} (src : Src T H1 J n Y) (Pv : Nat → L2.St → Hp → Prop) (h0 : Pv 0 σ H1) (hE : ∀ i σ H, i ≤ n → Pv i σ H → Ek T H1 H)
    (hs : ∀ i x σ H H', i < n → Pv i σ H → Y i x H H' → g x σ H' fun σ2 H2 => tb (Ends.mk (Pv (i + 1)) rt nx (Pv (i + 1))) σ2 H2)
    (hd : ∀ σ H, Pv n σ H → nx σ H) :
    ∃ W : Nat → Nat → L2.St → Hp → Prop, (∃ m, W 0 m σ H1) ∧ ∀ i m σ H, W i m σ H →
      (J.stop i H ∧ nx σ H) ∨ (J.go i H ∧ ∃ N : L2.St → Hp → Prop, (∀ σ' H', N σ' H' → ∃ m', m' < m ∧ W (i + 1) m' σ' H') ∧ ∀ x H', J.yld i H x H' → g x σ H' fun σ2 H2 => tb (Ends.mk N rt nx N) σ2 H2) := by
  refine ⟨fun i m σ H => m = n - i ∧ i ≤ n ∧ Pv i σ H, ⟨n, by simp, Nat.zero_le _, h0⟩, ?_⟩
  rintro i m σ H ⟨rfl, hi, p⟩
  have e := hE i σ H hi p
  by_cases hlt : i < n
  · refine .inr ⟨src.go i H e hlt, Pv (i + 1), fun σ' H' p' => ⟨n - (i + 1), by omega, rfl, hlt, p'⟩, fun x H' y => ?_⟩
    exact hs i x σ H H' hlt p (src.yld i x H H' hlt e y)
  · have e2 : i = n := by omega
    subst e2
    exact .inl ⟨src.stop H e, hd σ H p⟩
/-- over a range: nothing is asked of the heap -/
theorem for_rng {lo : Int} {n : Nat} {H1 : Hp} {g : TG} {tb : TS} {nx : L2.St → Hp → Prop} {rt : VK} {σ : L2.St} (Pv : Nat → L2.St → Hp → Prop) (h0 : Pv 0 σ H1)
    (hs : ∀ i σ H, i < n → Pv i σ H → g (.int (lo + i)) σ H fun σ2 H2 => tb (Ends.mk (Pv (i + 1)) rt nx (Pv (i + 1))) σ2 H2)
    (hd : ∀ σ H, Pv n σ H → nx σ H) :
    ∃ W : Nat → Nat → L2.St → Hp → Prop, (∃ m, W 0 m σ H1) ∧ ∀ i m σ H, W i m σ H →
      ((Itr lo n).stop i H ∧ nx σ H) ∨ ((Itr lo n).go i H ∧ ∃ N : L2.St → Hp → Prop, (∀ σ' H', N σ' H' → ∃ m', m' < m ∧ W (i + 1) m' σ' H') ∧ ∀ x H', (Itr lo n).yld i H x H' → g x σ H' fun σ2 H2 => tb (Ends.mk N rt nx N) σ2 H2) := by
  refine ⟨fun i m σ H => m = n - i ∧ i ≤ n ∧ Pv i σ H, ⟨n, by simp, Nat.zero_le _, h0⟩, ?_⟩
  rintro i m σ H ⟨rfl, hi, p⟩
  by_cases hlt : i < n
  · refine .inr ⟨hlt, Pv (i + 1), fun σ' H' p' => ⟨n - (i + 1), by omega, rfl, hlt, p'⟩, fun x H' y => ?_⟩
    obtain ⟨e1, e2⟩ := y
    subst e1
    subst e2
    exact hs i σ _ hlt p
  · have e2 : i = n := by omega
    subst e2
    exact .inl ⟨Nat.le_refl _, hd σ H p⟩
/-- a comprehension. outs i: what is made by the first i turns -/
theorem lc_src {J : It} {n : Nat} {Y : Nat → V → Hp → Hp → Prop} {g : TG} {tt : TT} {te : TE} {vs : List Nat} {σ : L2.St} {D0 : Addr} {Qd : Hp → Prop} (src : Src T H1 J n Y) (hTS : ∀ a, T a → S a) (hS : Sok S H1) (hD : H1 D0 = none) (outs : Nat → List PyData) (P : Nat → Hp → Prop)
    (hP : ∀ i H o, Ek T H1 H → Sok S H → P i H → P i (upd H D0 o)) (h0 : P 0 H1) (ho : outs 0 = []) (hl : ∀ i, i < n → (outs i).length < sizeLine)
    (hs : ∀ i x H H', i < n → P i H → Ek T H1 H → Sok (Sp1 S D0) H → (∀ v d, D K S H1 v d → D K (Sp1 S D0) H v d) → Y i x H H' → ∀ (R : V → Hp → Prop) (R' : Hp → Prop),
      (∀ y d H4, Ek T H H4 → P (i + 1) H4 → D K (Sp1 S D0) H4 y d → outs (i + 1) = outs i ++ [d] → R y H4) → (∀ H4, Ek T H H4 → P (i + 1) H4 → outs (i + 1) = outs i → R' H4) →
      g x (wipe σ vs) H' fun σ2 H2 => wipe σ2 vs = wipe σ vs ∧ tt σ2 H2 fun b H3 => if b = true then te σ2 H3 R else R' H3)
    (hd : ∀ H ws, P n H → Ek T H1 H → Sok S H → H D0 = some (.lst ws) → Ds K (Sp1 S D0) H ws (outs n) → Qd H) :
    ∃ W : Nat → Nat → Hp → Prop, (∃ m, W 0 m (upd H1 D0 (.lst []))) ∧ ∀ i m H, W i m H →
      (J.stop i H ∧ Qd H) ∨ (J.go i H ∧ ∃ Nx : Hp → Prop, (∀ H', Nx H' → ∃ m', m' < m ∧ W (i + 1) m' H') ∧ ∀ x H', J.yld i H x H' → g x (wipe σ vs) H' fun σ2 H2 => wipe σ2 vs = wipe σ vs ∧ tt σ2 H2 fun b H3 =>
        if b = true then te σ2 H3 fun y H4 => ∃ acc, H4 D0 = some (.lst acc) ∧ acc.length < sizeLine ∧ Nx (upd H4 D0 (.lst (acc ++ [y]))) else Nx H3) := by
  have nS : ¬ S D0 := hS.no hD
  have nT : ¬ T D0 := fun z => nS (hTS _ z)
  refine ⟨fun i m H => m = n - i ∧ i ≤ n ∧ P i H ∧ Ek T H1 H ∧ Sok S H ∧ ∃ acc, H D0 = some (.lst acc) ∧ Ds K (Sp1 S D0) H acc (outs i), ⟨n, by simp, Nat.zero_le _, hP 0 H1 _ (.refl _) hS h0, .new hD, hS.upd, [], upd_same, by rw [ho]; exact .nil⟩, ?_⟩
  rintro i m H ⟨rfl, hi, p, e, hSH, acc, hacc, hds⟩
  by_cases hlt : i < n
  · have hS1 : Sok (Sp1 S D0) H := hSH.one hacc
    have lift : ∀ v d, D K S H1 v d → D K (Sp1 S D0) H v d := fun v d h => (h.up hD).ek (T := T) (fun a z => .inl (hTS a z)) e
    refine .inr ⟨src.go i H e hlt, fun H' => i + 1 ≤ n ∧ P (i + 1) H' ∧ Ek T H1 H' ∧ Sok S H' ∧ ∃ acc, H' D0 = some (.lst acc) ∧ Ds K (Sp1 S D0) H' acc (outs (i + 1)), fun H' q => ⟨n - (i + 1), by omega, rfl, q⟩, fun x H' y => ?_⟩
    refine hs i x H H' hlt p e hS1 lift (src.yld i x H H' hlt e y) _ _ (fun y d H4 e4 p4 d4 o4 => ?_) (fun H4 e4 p4 o4 => ?_)
    · have a4 : H4 D0 = some (.lst acc) := e4.keep _ _ nT hacc
      have hl2 : acc.length < sizeLine := by rw [hds.length]; exact hl i hlt
      have s4 : Sok S H4 := hSH.ek e4
      refine ⟨acc, a4, hl2, hlt, hP _ _ _ (e.trans e4) s4 p4, Ek.mut (e.trans e4) hD, s4.upd, acc ++ [y], upd_same, ?_⟩
      rw [o4]
      have q1 : Ds K (Sp1 S D0) H4 (acc ++ [y]) (outs i ++ [d]) := (hds.ek (T := T) (fun a z => .inl (hTS a z)) e4).snoc d4
      exact q1.ek (T := fun a => a = D0) (fun a z => .inr z) (Ek.mutT (.refl _) rfl)
    · refine ⟨hlt, p4, e.trans e4, hSH.ek e4, acc, e4.keep _ _ nT hacc, ?_⟩
      rw [o4]
      exact hds.ek (T := T) (fun a z => .inl (hTS a z)) e4
  · have e2 : i = n := by omega
    subst e2
    exact .inl ⟨src.stop H e, hd H acc p e hSH hacc hds⟩
end
end Lk
namespace Lk
open PySem PySem.Spec PyProof.Rows L2
/-! ### rules whose reading names K plainly -/
section
variable {X : Cx} {K : PySem.W.Frag}
theorem CallR.imp {f : Value} {r r' : List V → Hp → VK → Prop} (h : CallR X f r) (i : ∀ xs H Q, r' xs H Q → r xs H Q) : CallR X f r' := fun pins s σ H xs us Q I rv q => h pins s σ H xs us Q I rv (i _ _ _ q)
theorem OpR.imp {f : Value → Value → Sem Value} {r r' : R2} (h : OpR X f r) (i : ∀ x y H Q, r' x y H Q → r x y H Q) : OpR X f r' := fun pins s σ H x y v u Q I rx ry q => h pins s σ H x y v u Q I rx ry (i _ _ _ _ q)
theorem ixl (h : X.K = K := by rfl) : IxR X (rIxL K) := by subst h; exact ix_list
theorem ixt (h : X.K = K := by rfl) : IxR X (rIxT K) := by subst h; exact ix_tup
/-- of a list or a tuple -/
def rIxQ (K : PySem.W.Frag) : R2 := fun x y H Q => rIxL K x y H Q ∨ rIxT K x y H Q
theorem ixq (h : X.K = K := by rfl) : IxR X (rIxQ K) := by subst h; exact ix_list.or ix_tup
def rLn (K : PySem.W.Frag) : List V → Hp → VK → Prop := fun xs H Q => ∃ x n, xs = [x] ∧ LenV K x H n ∧ Q (.int n) H
theorem cln (h : X.K = K := by rfl) : CallR X (.builtin "len") (rLn K) := by subst h; exact call_len
theorem opeqd (hu : X.A.units + 64 < cLine) (h : X.K = K := by rfl) : OpR X (compareOp .Eq) (rEqD K) := by subst h; exact op_eqD hu
theorem opned (hu : X.A.units + 64 < cLine) (h : X.K = K := by rfl) : OpR X (compareOp .NotEq) (rNeD K) := by subst h; exact op_neD hu
theorem crall (hc : X.calm = true) (h : X.K = K := by rfl) : CallR X (.builtin "all") (rAll K) := by subst h; exact cr_all hc
theorem crany (hc : X.calm = true) (h : X.K = K := by rfl) : CallR X (.builtin "any") (rAny K) := by subst h; exact cr_any hc
theorem crmax (hc : X.calm = true) (h : X.K = K := by rfl) : CallR X (.builtin "max") (rMax K) := by subst h; exact cr_max hc
theorem crmin (hc : X.calm = true) (h : X.K = K := by rfl) : CallR X (.builtin "min") (rMin K) := by subst h; exact cr_min hc
theorem crsum (hc : X.calm = true) (h : X.K = K := by rfl) : CallR X (.builtin "sum") (rSum K) := by subst h; exact cr_sum hc
def rLo (K : PySem.W.Frag) : List V → Hp → VK → Prop := fun xs H Q => ∃ p ys, xs = [.ref p] ∧ (SqL K H p ys ∨ SqT K H p ys) ∧ ∀ l, H l = none → Q (.ref l) (upd H l (.lst ys))
theorem clo (h : X.K = K := by rfl) : CallR X (.type "list") (rLo K) := by subst h; exact call_list_of
def rTo (K : PySem.W.Frag) : List V → Hp → VK → Prop := fun xs H Q => ∃ p ys, xs = [.ref p] ∧ ((SqL K H p ys ∧ ∀ l, H l = none → Q (.ref l) (upd H l (.tup ys))) ∨ (SqT K H p ys ∧ Q (.ref p) H))
theorem cto (h : X.K = K := by rfl) : CallR X (.type "tuple") (rTo K) := by subst h; exact call_tuple_of
theorem sll (h : X.K = K := by rfl) : SlR X (rSlL K) := by subst h; exact sl_list
theorem pe_rev {e : Expr} {te : TE} {k : Nat} {p1 p2 p3 pos : Pos} (he : PE X e te) (h : X.K = K := by rfl) : PE X (.Subscript e (.Slice none none (some (.UnaryOp .USub (.Constant (.int 1) k p1) p2)) p3) pos) (tRevL K te) := by subst h; exact pe_revL he
theorem piseq {tg l : Expr} {tl : TE} (hl : PE X l tl) (h : X.K = K := by rfl) : PI X tg l (iSeq K tl) := by subst h; exact pi_seq hl
theorem pilist {tg l : Expr} {tl : TE} (hl : PE X l tl) (h : X.K = K := by rfl) : PI X tg l (iList K tl) := by subst h; exact pi_list hl
theorem pitup {tg l : Expr} {tl : TE} (hl : PE X l tl) (h : X.K = K := by rfl) : PI X tg l (iTup K tl) := by subst h; exact pi_tup hl
theorem pgtup {es : List Expr} {t : TGs} {k n : Nat} {pos : Pos} (hT : PG X (.Tuple es k pos) (gTup X.K n t)) (h : X.K = K := by rfl) : PG X (.Tuple es k pos) (gTup K n t) := by subst h; exact hT
theorem pgseq {es : List Expr} {t : TGs} {k n : Nat} {pos : Pos} (hc : X.calm = true) (hT : PG X (.Tuple es k pos) (gTup X.K n t)) (hL : PG X (.Tuple es k pos) (gLst X.K n t)) (h : X.K = K := by rfl) : PG X (.Tuple es k pos) (gSeq K n t) := by subst h; exact pg_seq hc hT hL
theorem PI.k {tg e : Expr} {t : PySem.W.Frag → TI} (h : PI X tg e (t X.K)) (hK : X.K = K := by rfl) : PI X tg e (t K) := by subst hK; exact h
theorem bm {e : Expr} {T : String} {r : V → List V → Hp → VK → Prop} {to : TE} {t : TA} (h : PE X e (tBM X.K T r to t)) (hK : X.K = K := by rfl) : PE X e (tBM K T r to t) := by subst hK; exact h
theorem bm0 {e : Expr} {T : String} {r : V → List V → Hp → VK → Prop} {to : TE} (h : PE X e (tBM0 X.K T r to)) (hK : X.K = K := by rfl) : PE X e (tBM0 K T r to) := by subst hK; exact h
theorem pizip {elts : List Expr} {kk : Nat} {tpos : Pos} {e : Expr} {ta : TA} (h : PI X (.Tuple elts kk tpos) e (RZ.iZipA X.K ta)) (hK : X.K = K := by rfl) : PI X (.Tuple elts kk tpos) e (RZ.iZipA K ta) := by subst hK; exact h
theorem pienum {elts : List Expr} {kk : Nat} {tpos : Pos} {e : Expr} {ta : TA} (h : PI X (.Tuple elts kk tpos) e (iEnum X.K ta)) (hK : X.K = K := by rfl) : PI X (.Tuple elts kk tpos) e (iEnum K ta) := by subst hK; exact h
theorem PE.k {e : Expr} {t : PySem.W.Frag → TE} (h : PE X e (t X.K)) (hK : X.K = K := by rfl) : PE X e (t K) := by subst hK; exact h
end
/-! ### kinds of data -/
def pInt : PyData → Bool | .int _ => true | .bool _ => true | _ => false
def pBool : PyData → Bool | .bool _ => true | _ => false
def pStr : PyData → Bool | .str _ => true | _ => false
def pLst : PyData → Bool | .list _ => true | _ => false
def pTup : PyData → Bool | .tuple _ => true | _ => false
def pSeq : PyData → Bool | .list _ => true | .tuple _ => true | _ => false
def pDic : PyData → Bool | .dict _ => true | _ => false
def tyN : PyData → String
  | .none => "NoneType" | .bool _ => "bool" | .int _ => "int" | .str _ => "str" | .list _ => "list" | .tuple _ => "tuple" | .dict _ => "dict"
section
variable {K : PySem.W.Frag} {S : AS} {H : Hp}
theorem tyx_l {a : Addr} {xs : List V} (h : SqL K H a xs) : TyX K H (.ref a) (.type "list") := by
  rcases h with (h | ⟨o, h⟩) | ⟨o, its, n, h, c, _⟩
  · exact .base (.lst h)
  · exact .base (.frz h)
  · exact .kList h c
theorem tyx_t {a : Addr} {xs : List V} (h : SqT K H a xs) : TyX K H (.ref a) (.type "tuple") := by
  rcases h with (h | ⟨o, h⟩) | ⟨o, its, n, h, c, _⟩
  · exact .base (.tup h)
  · exact .fTuple h
  · exact .kTuple h c
theorem D.tyx : ∀ {v : V} {d : PyData}, D K S H v d → TyX K H v (.type (tyN d))
  | _, _, .non => .base .non
  | _, _, .bl b => .base (.bl b)
  | _, _, .int i => .base (.int i)
  | _, _, .str x => .base (.str x)
  | _, _, .lst n h l r => tyx_l (.inl (.inl h))
  | _, _, .tup n h l r => tyx_t (.inl (.inl h))
  | _, _, .tupK h l r => tyx_t (h _)
end
theorem kb_int : ∀ d : PyData, kitB (tyN d) "int" = some (pInt d)
  | .none => (by decide +kernel : kitB "NoneType" "int" = some false)
  | .bool _ => (by decide +kernel : kitB "bool" "int" = some true)
  | .int _ => (by decide +kernel : kitB "int" "int" = some true)
  | .str _ => (by decide +kernel : kitB "str" "int" = some false)
  | .list _ => (by decide +kernel : kitB "list" "int" = some false)
  | .tuple _ => (by decide +kernel : kitB "tuple" "int" = some false)
  | .dict _ => (by decide +kernel : kitB "dict" "int" = some false)
theorem kb_bool : ∀ d : PyData, kitB (tyN d) "bool" = some (pBool d)
  | .none => (by decide +kernel : kitB "NoneType" "bool" = some false)
  | .bool _ => (by decide +kernel : kitB "bool" "bool" = some true)
  | .int _ => (by decide +kernel : kitB "int" "bool" = some false)
  | .str _ => (by decide +kernel : kitB "str" "bool" = some false)
  | .list _ => (by decide +kernel : kitB "list" "bool" = some false)
  | .tuple _ => (by decide +kernel : kitB "tuple" "bool" = some false)
  | .dict _ => (by decide +kernel : kitB "dict" "bool" = some false)
theorem kb_str : ∀ d : PyData, kitB (tyN d) "str" = some (pStr d)
  | .none => (by decide +kernel : kitB "NoneType" "str" = some false)
  | .bool _ => (by decide +kernel : kitB "bool" "str" = some false)
  | .int _ => (by decide +kernel : kitB "int" "str" = some false)
  | .str _ => (by decide +kernel : kitB "str" "str" = some true)
  | .list _ => (by decide +kernel : kitB "list" "str" = some false)
  | .tuple _ => (by decide +kernel : kitB "tuple" "str" = some false)
  | .dict _ => (by decide +kernel : kitB "dict" "str" = some false)
theorem kb_list : ∀ d : PyData, kitB (tyN d) "list" = some (pLst d)
  | .none => (by decide +kernel : kitB "NoneType" "list" = some false)
  | .bool _ => (by decide +kernel : kitB "bool" "list" = some false)
  | .int _ => (by decide +kernel : kitB "int" "list" = some false)
  | .str _ => (by decide +kernel : kitB "str" "list" = some false)
  | .list _ => (by decide +kernel : kitB "list" "list" = some true)
  | .tuple _ => (by decide +kernel : kitB "tuple" "list" = some false)
  | .dict _ => (by decide +kernel : kitB "dict" "list" = some false)
theorem kb_tuple : ∀ d : PyData, kitB (tyN d) "tuple" = some (pTup d)
  | .none => (by decide +kernel : kitB "NoneType" "tuple" = some false)
  | .bool _ => (by decide +kernel : kitB "bool" "tuple" = some false)
  | .int _ => (by decide +kernel : kitB "int" "tuple" = some false)
  | .str _ => (by decide +kernel : kitB "str" "tuple" = some false)
  | .list _ => (by decide +kernel : kitB "list" "tuple" = some false)
  | .tuple _ => (by decide +kernel : kitB "tuple" "tuple" = some true)
  | .dict _ => (by decide +kernel : kitB "dict" "tuple" = some false)
theorem kb_dict : ∀ d : PyData, kitB (tyN d) "dict" = some (pDic d)
  | .none => (by decide +kernel : kitB "NoneType" "dict" = some false)
  | .bool _ => (by decide +kernel : kitB "bool" "dict" = some false)
  | .int _ => (by decide +kernel : kitB "int" "dict" = some false)
  | .str _ => (by decide +kernel : kitB "str" "dict" = some false)
  | .list _ => (by decide +kernel : kitB "list" "dict" = some false)
  | .tuple _ => (by decide +kernel : kitB "tuple" "dict" = some false)
  | .dict _ => (by decide +kernel : kitB "dict" "dict" = some true)
/-- isinstance(x, c) of data -/
def rIs1 (K : PySem.W.Frag) (c : String) (f : PyData → Bool) : List V → Hp → VK → Prop := fun xs H Q => ∃ x S d, xs = [x, .ty c] ∧ D K S H x d ∧ Q (.bl (f d)) H
section
variable {X : Cx} {K : PySem.W.Frag}
theorem is1 {c : String} {f : PyData → Bool} (hf : ∀ d, kitB (tyN d) c = some (f d)) (h : X.K = K := by rfl) : CallR X (.builtin "isinstance") (rIs1 K c f) := by
  subst h
  refine CallR.imp call_isi fun xs H Q q => ?_
  obtain ⟨x, S, d, e, hd, q⟩ := q
  exact ⟨x, .ty c, _, _, f d, e, .ty c, hd.tyx, kit_ty (hf d), q⟩
theorem is_int (h : X.K = K := by rfl) : CallR X (.builtin "isinstance") (rIs1 K "int" pInt) := is1 kb_int h
theorem is_bool (h : X.K = K := by rfl) : CallR X (.builtin "isinstance") (rIs1 K "bool" pBool) := is1 kb_bool h
theorem is_str (h : X.K = K := by rfl) : CallR X (.builtin "isinstance") (rIs1 K "str" pStr) := is1 kb_str h
theorem is_list (h : X.K = K := by rfl) : CallR X (.builtin "isinstance") (rIs1 K "list" pLst) := is1 kb_list h
theorem is_tuple (h : X.K = K := by rfl) : CallR X (.builtin "isinstance") (rIs1 K "tuple" pTup) := is1 kb_tuple h
theorem is_dict (h : X.K = K := by rfl) : CallR X (.builtin "isinstance") (rIs1 K "dict" pDic) := is1 kb_dict h
end
/-- isinstance(x, (c1, c2, ..)) of data, the tuple new -/
def rIsN (K : PySem.W.Frag) (cs : List V) (f : PyData → Bool) : List V → Hp → VK → Prop := fun xs H Q => ∃ x tp S d, xs = [x, .ref tp] ∧ H tp = some (.tup cs) ∧ D K S H x d ∧ Q (.bl (f d)) H
section
variable {X : Cx} {K : PySem.W.Frag}
theorem isN {cs : List V} {us : List Value} {f : PyData → Bool} (hc : Paired ClsV cs us) (hf : ∀ d, PySem.W.kitAny X.K (.type (tyN d)) us = some (f d)) (h : X.K = K := by rfl) : CallR X (.builtin "isinstance") (rIsN K cs f) := by
  subst h
  refine CallR.imp call_isiT fun xs H Q q => ?_
  obtain ⟨x, tp, S, d, e, ht, hd, q⟩ := q
  exact ⟨x, tp, cs, _, us, f d, e, ht, hc, hd.tyx, hf d, q⟩
theorem ka2 {K : PySem.W.Frag} {c1 c2 : String} {f g : PyData → Bool} (h1 : ∀ d : PyData, kitB (tyN d) c1 = some (f d)) (h2 : ∀ d : PyData, kitB (tyN d) c2 = some (g d)) (d : PyData) : PySem.W.kitAny K (.type (tyN d)) [.type c1, .type c2] = some (f d || g d) :=
  kitAny_cons (b := f d) (kit_ty (h1 d)) (fun e => by
    rw [e, Bool.false_or]
    exact kitAny_cons (b := g d) (kit_ty (h2 d)) (fun e => by rw [e] <;> rfl) (fun e => e)) (fun e => by rw [e, Bool.true_or])
theorem ka3 {K : PySem.W.Frag} {c1 c2 c3 : String} {f g k : PyData → Bool} (h1 : ∀ d : PyData, kitB (tyN d) c1 = some (f d)) (h2 : ∀ d : PyData, kitB (tyN d) c2 = some (g d)) (h3 : ∀ d : PyData, kitB (tyN d) c3 = some (k d)) (d : PyData) :
    PySem.W.kitAny K (.type (tyN d)) [.type c1, .type c2, .type c3] = some (f d || (g d || k d)) :=
  kitAny_cons (b := f d) (kit_ty (h1 d)) (fun e => by
    rw [e, Bool.false_or]
    exact ka2 h2 h3 d) (fun e => by rw [e, Bool.true_or])
theorem is_seq (h : X.K = K := by rfl) : CallR X (.builtin "isinstance") (rIsN K [.ty "list", .ty "tuple"] pSeq) :=
  isN (us := [.type "list", .type "tuple"]) (.cons (.ty _) (.cons (.ty _) .nil)) (fun d => by rw [ka2 kb_list kb_tuple d]; cases d <;> rfl) h
def pSqD (d : PyData) : Bool := pSeq d || pDic d
theorem is_seqd (h : X.K = K := by rfl) : CallR X (.builtin "isinstance") (rIsN K [.ty "list", .ty "tuple", .ty "dict"] pSqD) :=
  isN (us := [.type "list", .type "tuple", .type "dict"]) (.cons (.ty _) (.cons (.ty _) (.cons (.ty _) .nil))) (fun d => by rw [ka3 kb_list kb_tuple kb_dict d]; cases d <;> rfl) h
end
end Lk
namespace Lk
open PySem PySem.Spec PyProof.Rows L2
/-! ### readings, one step each -/
section
variable {K : PySem.W.Frag} {σ : L2.St} {H : Hp} {Q : VK} {v x y : V} {ta tb te : TE} {tt tu : TT} {r : R2} {D0 : Ends} {t u : TS} {g : TG} {al : TA}
theorem rd_seq {nx bk ct : L2.St → Hp → Prop} {rt : VK} (h : t (Ends.mk (u (Ends.mk nx rt bk ct)) rt bk ct) σ H) : tSeq t u (Ends.mk nx rt bk ct) σ H := h
theorem rd_asg {nx bk ct : L2.St → Hp → Prop} {rt : VK} (h : te σ H fun x H1 => g x σ H1 nx) : tAsg te g (Ends.mk nx rt bk ct) σ H := h
theorem rd_name {i : Nat} {R : L2.St → Hp → Prop} (h : R (σ.set i (some v)) H) : gName i v σ H R := h
theorem rd_ret {nx bk ct : L2.St → Hp → Prop} {rt : VK} (h : te σ H rt) : tRet te (Ends.mk nx rt bk ct) σ H := h
theorem rd_retN {nx bk ct : L2.St → Hp → Prop} {rt : VK} (h : rt .non H) : tRetN (Ends.mk nx rt bk ct) σ H := h
theorem rd_next {nx bk ct : L2.St → Hp → Prop} {rt : VK} (h : nx σ H) : tNext (Ends.mk nx rt bk ct) σ H := h
theorem rd_brk {nx bk ct : L2.St → Hp → Prop} {rt : VK} (h : bk σ H) : tBreak (Ends.mk nx rt bk ct) σ H := h
theorem rd_cont {nx bk ct : L2.St → Hp → Prop} {rt : VK} (h : ct σ H) : tCont (Ends.mk nx rt bk ct) σ H := h
theorem rd_drop {nx bk ct : L2.St → Hp → Prop} {rt : VK} (h : te σ H fun _ H1 => nx σ H1) : tDrop te (Ends.mk nx rt bk ct) σ H := h
theorem rd_ifS {nx bk ct : L2.St → Hp → Prop} {rt : VK} (h : tt σ H fun b H1 => if b = true then t (Ends.mk nx rt bk ct) σ H1 else u (Ends.mk nx rt bk ct) σ H1) : tIfS tt t u (Ends.mk nx rt bk ct) σ H := h
theorem rd_var {i : Nat} (e : σ[i]? = some (some v)) (h : Q v H) : tVar i σ H Q := ⟨v, e, h⟩
theorem rd_c (h : Q v H) : tC v σ H Q := h
theorem rd_op (h : ta σ H fun x H1 => tb σ H1 fun y H2 => r x y H2 Q) : tOp r ta tb σ H Q := h
theorem rd_un {r : V → Hp → VK → Prop} (h : ta σ H fun x H1 => r x H1 Q) : tUn r ta σ H Q := h
theorem rd_cb {r : List V → Hp → VK → Prop} (h : al σ H fun vs H1 => r vs H1 Q) : tCB r al σ H Q := h
theorem rd_call {sp : Sp} {dvs : List V} {E : XK} (h : al σ H fun vs H1 => sp (vs ++ dvs) H1 Q E) : tCall sp dvs E al σ H Q := h
theorem rd_callK {sp : Sp} {gV : List V → List V → List V} {E : XK} {tk : TA} (h : al σ H fun vs H1 => tk σ H1 fun zs H2 => sp (gV vs zs) H2 Q E) : tCallK sp gV E al tk σ H Q := h
theorem rd_nil {R : List V → Hp → Prop} (h : R [] H) : tNil σ H R := h
theorem rd_cons {R : List V → Hp → Prop} (h : ta σ H fun x H1 => al σ H1 fun xs H2 => R (x :: xs) H2) : tCons ta al σ H R := h
theorem rd_tup (h : al σ H fun xs H1 => xs.length ≤ sizeLine ∧ ∀ p, H1 p = none → Q (.ref p) (upd H1 p (.tup xs))) : tTup al σ H Q := h
theorem rd_lst (h : al σ H fun xs H1 => xs.length ≤ sizeLine ∧ ∀ p, H1 p = none → Q (.ref p) (upd H1 p (.lst xs))) : tLst al σ H Q := h
theorem rd_test {R : Bool → Hp → Prop} (h : te σ H fun x H1 => ∃ k, x = .bl k ∧ R k H1) : tTest te σ H R := h
theorem rd_tB {R : Bool → Hp → Prop} (h : te σ H fun x H1 => ∃ k, x = .bl k ∧ R k H1) : tB te σ H R := h
theorem rd_bl {R : Bool → Prop} {b : Bool} (h : R b) : ∃ k, V.bl b = V.bl k ∧ R k := ⟨b, rfl, h⟩
theorem rd_blI {b : Bool} {A B : Bool → Prop} (h : if b = true then A b else B b) : ∃ k, V.bl b = V.bl k ∧ if k = true then A k else B k := ⟨b, rfl, h⟩
theorem rd_not {R : Bool → Hp → Prop} (h : tt σ H fun c H1 => R (!c) H1) : tNot tt σ H R := h
theorem rd_and {R : Bool → Hp → Prop} (h : tt σ H fun c H1 => if c = true then tu σ H1 R else R false H1) : tAnd tt tu σ H R := h
theorem rd_or {R : Bool → Hp → Prop} (h : tt σ H fun c H1 => if c = true then R true H1 else tu σ H1 R) : tOr tt tu σ H R := h
theorem rd_notV (h : ta σ H fun x H1 => ∃ c, x = .bl c ∧ Q (.bl (!c)) H1) : tNotV ta σ H Q := h
theorem rd_andV (h : ta σ H fun x H1 => ∃ c, x = .bl c ∧ if c = true then tb σ H1 Q else Q (.bl false) H1) : tAndV ta tb σ H Q := h
theorem rd_orV (h : ta σ H fun x H1 => ∃ c, x = .bl c ∧ if c = true then Q (.bl true) H1 else tb σ H1 Q) : tOrV ta tb σ H Q := h
theorem rd_tif (h : tt σ H fun c H1 => if c = true then ta σ H1 Q else tb σ H1 Q) : tIf tt ta tb σ H Q := h
theorem rd_I0 {f : Int → Int → V} {i j : Int} (h : Q (f i j) H) : rI0 f (.int i) (.int j) H Q := ⟨i, j, rfl, rfl, h⟩
theorem rd_I {C : Int → Int → Prop} {f : Int → Int → V} {i j : Int} (c : C i j) (h : Q (f i j) H) : rI C f (.int i) (.int j) H Q := ⟨i, j, rfl, rfl, c, h⟩
theorem rd_U {f : Int → V} {i : Int} (h : Q (f i) H) : rU f (.int i) H Q := ⟨i, rfl, h⟩
theorem rd_eqI {i j : Int} (h : Q (.bl (decide (i = j))) H) : rEq (.int i) (.int j) H Q := ⟨rfl, by
  have e : decide (V.int i = V.int j) = decide (i = j) := by
    by_cases q : i = j
    · rw [decide_eq_true q, decide_eq_true (congrArg V.int q)]
    · rw [decide_eq_false q, decide_eq_false fun z => q (V.int.inj z)]
  rw [e]
  exact h⟩
theorem rd_neI {i j : Int} (h : Q (.bl (!decide (i = j))) H) : rNe (.int i) (.int j) H Q := ⟨rfl, by
  have e : decide (V.int i = V.int j) = decide (i = j) := by
    by_cases q : i = j
    · rw [decide_eq_true q, decide_eq_true (congrArg V.int q)]
    · rw [decide_eq_false q, decide_eq_false fun z => q (V.int.inj z)]
  rw [e]
  exact h⟩
theorem rd_eqB {i j : Bool} (h : Q (.bl (i == j)) H) : rEq (.bl i) (.bl j) H Q := ⟨rfl, by rw [dec_bl]; exact h⟩
theorem rd_neB {i j : Bool} (h : Q (.bl (!(i == j))) H) : rNe (.bl i) (.bl j) H Q := ⟨rfl, by rw [dec_bl]; exact h⟩
theorem rd_eqS {i j : Str} (h : Q (.bl (i == j)) H) : rEq (.str i) (.str j) H Q := ⟨rfl, by rw [dec_str]; exact h⟩
theorem rd_neS {i j : Str} (h : Q (.bl (!(i == j))) H) : rNe (.str i) (.str j) H Q := ⟨rfl, by rw [dec_str]; exact h⟩
/-- a new object: the heap behind it by what it holds -/
theorem rd_newT {xs : List V} (hl : xs.length ≤ sizeLine) (h : ∀ p H', H p = none → Ex H H' → H' p = some (.tup xs) → Q (.ref p) H') : xs.length ≤ sizeLine ∧ ∀ p, H p = none → Q (.ref p) (upd H p (.tup xs)) := ⟨hl, fun p hp => h p _ hp (.new hp) upd_same⟩
theorem rd_newL {xs : List V} (hl : xs.length ≤ sizeLine) (h : ∀ p H', H p = none → Ex H H' → H' p = some (.lst xs) → Q (.ref p) H') : xs.length ≤ sizeLine ∧ ∀ p, H p = none → Q (.ref p) (upd H p (.lst xs)) := ⟨hl, fun p hp => h p _ hp (.new hp) upd_same⟩
theorem rd_new {o : HO} (h : ∀ p H', H p = none → Ex H H' → H' p = some o → Q (.ref p) H') : ∀ p, H p = none → Q (.ref p) (upd H p o) := fun p hp => h p _ hp (.new hp) upd_same
theorem rd_alloc {xs : List V} {A : Prop} (hl : xs.length ≤ 1000000) (h : A) : xs.length ≤ sizeLine ∧ A := ⟨Nat.le_trans hl (by decide), h⟩
theorem rd_ite {b : Bool} {A B : Prop} (h1 : b = true → A) (h2 : b = false → B) : if b = true then A else B := by
  cases b with
  | true => exact h1 rfl
  | false => exact h2 rfl
theorem rd_dite {c A B : Prop} [Decidable c] (h1 : c → A) (h2 : ¬ c → B) : if decide c = true then A else B := rd_ite (fun e => h1 (of_decide_eq_true e)) (fun e => h2 (of_decide_eq_false e))
theorem rd_iteT {A B : Prop} (h : A) : if true = true then A else B := h
theorem rd_iteF {A B : Prop} (h : B) : if false = true then A else B := h
theorem rd_itet {b : Bool} {A B : Prop} (e : b = true) (h : A) : if b = true then A else B := by rw [if_pos e]; exact h
theorem rd_itef {b : Bool} {A B : Prop} (e : b = false) (h : B) : if b = true then A else B := by rw [e, if_neg Bool.false_ne_true]; exact h
/-- if, of values of a test -/
theorem rd_andB {b c : Bool} {A : Prop} (h : b = true → c = true → A) (h2 : b = false → A) : A → A := id
theorem szl {n : Nat} (h : n ≤ 1000000) : n ≤ sizeLine := Nat.le_trans h (by decide)
theorem szlt {n : Nat} (h : n ≤ 1000000) : n < sizeLine := Nat.lt_of_le_of_lt h (by decide)
theorem rd_ln {a : Addr} {xs : List V} (hs : SqL K H a xs ∨ SqT K H a xs) (h : Q (.int xs.length) H) : rLn K [.ref a] H Q := ⟨.ref a, xs.length, rfl, hs.elim (fun q => .inl ⟨xs, q, rfl⟩) (fun q => .inr ⟨xs, q, rfl⟩), h⟩
theorem rd_lnL {a : Addr} {xs : List V} (hs : SqL K H a xs) (h : Q (.int xs.length) H) : rLn K [.ref a] H Q := rd_ln (.inl hs) h
theorem rd_ixL {p : Addr} {xs : List V} {i : Int} (hs : SqL K H p xs) (ha : atI xs i = some v) (h : Q v H) : rIxL K (.ref p) (.int i) H Q := ⟨p, xs, i, v, rfl, rfl, hs, ha, h⟩
theorem rd_ixT {p : Addr} {xs : List V} {i : Int} (hs : SqT K H p xs) (ha : atI xs i = some v) (h : Q v H) : rIxT K (.ref p) (.int i) H Q := ⟨p, xs, i, v, rfl, rfl, hs, ha, h⟩
theorem rd_ixQ {p : Addr} {xs : List V} {i : Int} (hs : SqL K H p xs ∨ SqT K H p xs) (ha : atI xs i = some v) (h : Q v H) : rIxQ K (.ref p) (.int i) H Q := hs.elim (fun q => .inl ⟨p, xs, i, v, rfl, rfl, q, ha, h⟩) (fun q => .inr ⟨p, xs, i, v, rfl, rfl, q, ha, h⟩)
theorem rd_ixH {p : Addr} {xs : List V} {i : Int} (hp : H p = some (.lst xs)) (ha : atI xs i = some v) (h : Q v H) : rIxQ K (.ref p) (.int i) H Q := rd_ixQ (.inl (.inl (.inl hp))) ha h
theorem rd_ixHT {p : Addr} {xs : List V} {i : Int} (hp : H p = some (.tup xs)) (ha : atI xs i = some v) (h : Q v H) : rIxQ K (.ref p) (.int i) H Q := rd_ixQ (.inr (.inl (.inl hp))) ha h
theorem rd_abs {i : Int} (h : Q (.int (if i < 0 then -i else i)) H) : (fun xs H (Q : VK) => ∃ i, xs = [V.int i] ∧ Q (.int (if i < 0 then -i else i)) H) [.int i] H Q := ⟨i, rfl, h⟩
theorem rd_ex1 {R : Int → Prop} {z : Int} (h : R z) : ∃ i, [V.int z] = [V.int i] ∧ R i := ⟨z, rfl, h⟩
theorem rd_ex1i {R : Int → Prop} {B : Bool → Prop} {z : Int} (h : R z) : (∃ i, [V.int z] = [V.int i] ∧ R i) ∨ ∃ k, [V.int z] = [V.bl k] ∧ B k := .inl ⟨z, rfl, h⟩
theorem rd_ex2 {R : Int → Int → Prop} {y z : Int} (h : R y z) : ∃ i j, [V.int y, V.int z] = [V.int i, V.int j] ∧ R i j := ⟨y, z, rfl, h⟩
theorem rd_isnone {A : Prop} (h : A) : V.non = V.non ∧ A := ⟨rfl, h⟩
theorem rd_is1 {c : String} {f : PyData → Bool} {S : AS} {d : PyData} (hd : D K S H x d) (h : Q (.bl (f d)) H) : rIs1 K c f [x, .ty c] H Q := ⟨x, S, d, rfl, hd, h⟩
theorem rd_isN {cs : List V} {f : PyData → Bool} {tp : Addr} {S : AS} {d : PyData} (ht : H tp = some (.tup cs)) (hd : D K S H x d) (h : Q (.bl (f d)) H) : rIsN K cs f [x, .ref tp] H Q := ⟨x, tp, S, d, rfl, ht, hd, h⟩
theorem rd_par {i j : Nat} {nx bk ct : L2.St → Hp → Prop} {rt : VK} (h : al σ H fun vs H1 => ∃ v w, vs = [v, w] ∧ nx ((σ.set i (some v)).set j (some w)) H1) : tPar i j al (Ends.mk nx rt bk ct) σ H := h
theorem rd_par2 {R : V → V → Prop} {a b : V} (h : R a b) : ∃ v w, [a, b] = [v, w] ∧ R v w := ⟨a, b, rfl, h⟩
theorem rd_eqD {S T : AS} {d e : PyData} (hd : D K S H x d) (he : D K T H y e) (s1 : SeqAt.shaped d = true) (s2 : SeqAt.shaped e = true) (h : Q (.bl (PyData.eqv d e)) H) : rEqD K x y H Q := ⟨d, e, hd.dp, he.dp, s1, s2, h⟩
theorem rd_neD {S T : AS} {d e : PyData} (hd : D K S H x d) (he : D K T H y e) (s1 : SeqAt.shaped d = true) (s2 : SeqAt.shaped e = true) (h : Q (.bl (!PyData.eqv d e)) H) : rNeD K x y H Q := ⟨d, e, hd.dp, he.dp, s1, s2, h⟩
theorem rd_isN0 (h : Q (.bl (decide (x = .non))) H) : (fun x y H Q => y = V.non ∧ Q (.bl (decide (x = .non))) H : R2) x .non H Q := ⟨rfl, h⟩
theorem rd_int {i : Int} (h : Q (.int i) H) : (fun xs H (Q : VK) => (∃ i, xs = [V.int i] ∧ Q (.int i) H) ∨ ∃ k, xs = [V.bl k] ∧ Q (.int (if k then 1 else 0)) H) [.int i] H Q := .inl ⟨i, rfl, h⟩
/-- walks -/
theorem rd_for {wi : TI} {nx bk ct : L2.St → Hp → Prop} {rt : VK} (h : wi σ H fun J H1 => ∃ W : Nat → Nat → L2.St → Hp → Prop, (∃ m, W 0 m σ H1) ∧ ∀ i m σ H, W i m σ H →
  (J.stop i H ∧ nx σ H) ∨ (J.go i H ∧ ∃ N : L2.St → Hp → Prop, (∀ σ' H', N σ' H' → ∃ m', m' < m ∧ W (i + 1) m' σ' H') ∧ ∀ x H', J.yld i H x H' → g x σ H' fun σ2 H2 => t (Ends.mk N rt nx N) σ2 H2)) : tFor wi g t (Ends.mk nx rt bk ct) σ H := h
theorem rd_whl {nx bk ct : L2.St → Hp → Prop} {rt : VK} (h : ∃ W : Nat → L2.St → Hp → Prop, (∃ m, W m σ H) ∧ ∀ m σ H, W m σ H →
  tt σ H fun b H1 => if b = true then ∃ N : L2.St → Hp → Prop, (∀ σ' H', N σ' H' → ∃ m', m' < m ∧ W m' σ' H') ∧ t (Ends.mk N rt nx N) σ H1 else nx σ H1) : tWhile tt t (Ends.mk nx rt bk ct) σ H := h
theorem rd_rng1 {R : It → Hp → Prop} (h : al σ H fun vs H1 => ∃ j : Int, vs = [.int j] ∧ -(2 ^ 62) ≤ j ∧ j < 2 ^ 62 ∧ R (Itr 0 j.toNat) H1) : iRng1 al σ H R := h
theorem rd_rng2 {R : It → Hp → Prop} (h : al σ H fun vs H1 => ∃ i j : Int, vs = [.int i, .int j] ∧ (-(2 ^ 62) ≤ i ∧ i < 2 ^ 62 ∧ -(2 ^ 62) ≤ j ∧ j < 2 ^ 62) ∧ R (Itr i (j - i).toNat) H1) : iRng2 al σ H R := h
theorem rd_r1 {R : Int → Prop} {j : Int} (h1 : -(2 ^ 62) ≤ j) (h2 : j < 2 ^ 62) (h : R j) : ∃ k : Int, [V.int j] = [V.int k] ∧ -(2 ^ 62) ≤ k ∧ k < 2 ^ 62 ∧ R k := ⟨j, rfl, h1, h2, h⟩
theorem rd_r2 {R : Int → Int → Prop} {i j : Int} (h1 : -(2 ^ 62) ≤ i) (h2 : i < 2 ^ 62) (h3 : -(2 ^ 62) ≤ j) (h4 : j < 2 ^ 62) (h : R i j) : ∃ k l : Int, [V.int i, V.int j] = [V.int k, V.int l] ∧ (-(2 ^ 62) ≤ k ∧ k < 2 ^ 62 ∧ -(2 ^ 62) ≤ l ∧ l < 2 ^ 62) ∧ R k l := ⟨i, j, rfl, ⟨h1, h2, h3, h4⟩, h⟩
theorem rd_iseq {R : It → Hp → Prop} (h : te σ H fun x H1 => ∃ a, x = .ref a ∧ (((∃ xs, SqL K H1 a xs) ∧ R (Itl K a) H1) ∨ ((∃ xs, SqT K H1 a xs) ∧ R (Itt K a) H1))) : iSeq K te σ H R := h
theorem rd_sqL {R : It → Prop} {a : Addr} {xs : List V} (hs : SqL K H a xs) (h : R (Itl K a)) : ∃ b, V.ref a = .ref b ∧ (((∃ xs, SqL K H b xs) ∧ R (Itl K b)) ∨ ((∃ xs, SqT K H b xs) ∧ R (Itt K b))) := ⟨a, rfl, .inl ⟨⟨xs, hs⟩, h⟩⟩
theorem rd_sqT {R : It → Prop} {a : Addr} {xs : List V} (hs : SqT K H a xs) (h : R (Itt K a)) : ∃ b, V.ref a = .ref b ∧ (((∃ xs, SqL K H b xs) ∧ R (Itl K b)) ∨ ((∃ xs, SqT K H b xs) ∧ R (Itt K b))) := ⟨a, rfl, .inr ⟨⟨xs, hs⟩, h⟩⟩
theorem rd_lc {wi : TI} {vs : List Nat} (h : wi σ H fun J H1 => ∀ D, H1 D = none → ∃ W : Nat → Nat → Hp → Prop, (∃ m, W 0 m (upd H1 D (.lst []))) ∧ ∀ i m H, W i m H →
  (J.stop i H ∧ Q (.ref D) H) ∨ (J.go i H ∧ ∃ Nx : Hp → Prop, (∀ H', Nx H' → ∃ m', m' < m ∧ W (i + 1) m' H') ∧ ∀ x H', J.yld i H x H' → g x (wipe σ vs) H' fun σ2 H2 => wipe σ2 vs = wipe σ vs ∧ tt σ2 H2 fun b H3 =>
    if b = true then te σ2 H3 fun y H4 => ∃ acc, H4 D = some (.lst acc) ∧ acc.length < sizeLine ∧ Nx (upd H4 D (.lst (acc ++ [y]))) else Nx H3)) : tLc wi g tt te vs σ H Q := h
theorem rd_yes {R : Bool → Hp → Prop} (h : R true H) : tYes σ H R := h
theorem rd_thenT {A B : Prop} {b : Bool} (e : b = true) (h : A) : if b = true then A else B := rd_itet e h
/-- data as a list or a tuple, walked -/
theorem rd_seqV {S : AS} {ds : List PyData} {R : It → Hp → Prop} {d : PyData} {i : Nat} (hv : σ[i]? = some (some x)) (hd : D K S H x d) (e : d = .list ds ∨ d = .tuple ds)
    (h : ∀ a xs J, x = .ref a → xs.length ≤ sizeLine → Ds K S H xs ds → Src S H J xs.length (YS xs) → R J H) : iSeq K (tVar i) σ H R := by
  refine ⟨x, hv, ?_⟩
  rcases e with e | e
  · subst e
    obtain ⟨a, xs, e1, l, r, q⟩ := hd.listE
    exact ⟨a, e1, .inl ⟨⟨xs, q H (.refl H)⟩, h a xs _ e1 l r (src_l q)⟩⟩
  · subst e
    obtain ⟨a, xs, e1, l, r, q⟩ := hd.tupleE
    exact ⟨a, e1, .inr ⟨⟨xs, q H (.refl H)⟩, h a xs _ e1 l r (src_t q)⟩⟩
end
/-- less may change: the same walk -/
theorem Src.less {T T' : AS} {H1 : Hp} {J : It} {n : Nat} {Y : Nat → V → Hp → Hp → Prop} (s : Src T H1 J n Y) (h : ∀ a, T' a → T a) : Src T' H1 J n Y :=
  ⟨fun i H e => s.go i H (e.mono h), fun H e => s.stop H (e.mono h), fun i x H H' l e => s.yld i x H H' l (e.mono h)⟩
theorem Src.n0 {T : AS} {H1 : Hp} {J : It} {n : Nat} {Y : Nat → V → Hp → Hp → Prop} (s : Src T H1 J n Y) : Src N0 H1 J n Y := s.less fun _ z => z.elim
/-! ### what a def hands back: data -/
def RetD (K : PySem.W.Frag) (S : AS) (H : Hp) (d : PyData) (Q : VK) : Prop := ∀ v H', Ex H H' → D K S H' v d → Q v H'
def RetB (H : Hp) (b : Bool) (Q : VK) : Prop := ∀ H', Ex H H' → Q (.bl b) H'
def RetI (H : Hp) (i : Int) (Q : VK) : Prop := ∀ H', Ex H H' → Q (.int i) H'
/-! ### data that is a whole number, a number -/
def pWhole (d : PyData) : Bool := pInt d && !pBool d
def pNum : PyData → Bool | .int i => decide (0 ≤ i) | _ => false
theorem whole_int : ∀ {d : PyData}, pWhole d = true → ∃ i, d = .int i
  | .int i, _ => ⟨i, rfl⟩
  | .bool _, h => by cases h
  | .none, h => by cases h
  | .str _, h => by cases h
  | .list _, h => by cases h
  | .tuple _, h => by cases h
  | .dict _, h => by cases h
theorem whole_not : ∀ {d : PyData}, pWhole d = false → pNum d = false
  | .int i, h => by cases h
  | .bool _, _ => rfl
  | .none, _ => rfl
  | .str _, _ => rfl
  | .list _, _ => rfl
  | .tuple _, _ => rfl
  | .dict _, _ => rfl
theorem num_int : ∀ {d : PyData}, pNum d = true → ∃ i, d = .int i ∧ 0 ≤ i
  | .int i, h => ⟨i, rfl, of_decide_eq_true h⟩
  | .bool _, h => by cases h
  | .none, h => by cases h
  | .str _, h => by cases h
  | .list _, h => by cases h
  | .tuple _, h => by cases h
  | .dict _, h => by cases h
def pLen : PyData → Nat | .list xs => xs.length | .tuple xs => xs.length | _ => 0
def pItems : PyData → List PyData | .list xs => xs | .tuple xs => xs | _ => []
theorem seq_items : ∀ {d : PyData}, pSeq d = true → d = .list (pItems d) ∨ d = .tuple (pItems d)
  | .list _, _ => .inl rfl
  | .tuple _, _ => .inr rfl
  | .none, h => by cases h
  | .int _, h => by cases h
  | .bool _, h => by cases h
  | .str _, h => by cases h
  | .dict _, h => by cases h
theorem rd_lnD {K : PySem.W.Frag} {S : AS} {H : Hp} {x : V} {d : PyData} {Q : VK} (hd : D K S H x d) (e : pSeq d = true) (h : Q (.int (pLen d)) H) : rLn K [x] H Q := by
  rcases seq_items e with z | z
  · rw [z] at hd
    obtain ⟨a, xs, rfl, q, l, r, _⟩ := hd.list
    have : pLen d = xs.length := by rw [z, r.length]; rfl
    exact rd_ln (.inl q) (by rw [← this]; exact h)
  · rw [z] at hd
    obtain ⟨a, xs, rfl, q, l, r, _⟩ := hd.tuple
    have : pLen d = xs.length := by rw [z, r.length]; rfl
    exact rd_ln (.inr q) (by rw [← this]; exact h)
/-! ### sizes -/
theorem two_pow_le {a b : Nat} (h : a ≤ b) : 2 ^ a ≤ 2 ^ b := Nat.pow_le_pow_right (by decide) h
theorem lt_pow_mono {n a b : Nat} (h : n < 2 ^ a) (hb : a ≤ b) : n < 2 ^ b := Nat.lt_of_lt_of_le h (two_pow_le hb)
theorem pow_size {z : Int} {k : Nat} (hz : z.natAbs ≤ 2 ^ k) : ∀ i : Nat, (z ^ i).natAbs ≤ 2 ^ (k * i)
  | 0 => by simp
  | i + 1 => by
    have ih := pow_size hz i
    rw [Int.pow_succ, Int.natAbs_mul, Nat.mul_succ, Nat.pow_add]
    exact Nat.mul_le_mul ih hz
theorem lt_succ_pow {n k : Nat} (h : n ≤ 2 ^ k) : n < 2 ^ (k + 1) := Nat.lt_of_le_of_lt h (Nat.pow_lt_pow_right (by decide) (Nat.lt_succ_self k))
/-! ### new data -/
section
variable {K : PySem.W.Frag} {S : AS} {H H1 : Hp} {Q : VK}
theorem D.newT {p : Addr} {xs : List V} {ds : List PyData} (hS : Sok S H) (np : H p = none) (hp : H1 p = some (.tup xs)) (hl : xs.length ≤ sizeLine) (h : Ds K S H1 xs ds) : D K S H1 (.ref p) (.tuple ds) := .tup (hS.no np) hp hl h
theorem D.newL {p : Addr} {xs : List V} {ds : List PyData} (hS : Sok S H) (np : H p = none) (hp : H1 p = some (.lst xs)) (hl : xs.length ≤ sizeLine) (h : Ds K S H1 xs ds) : D K S H1 (.ref p) (.list ds) := .lst (hS.no np) hp hl h
theorem Ds.of_bools : ∀ {vs : List V} {ns : List Bool}, Ds K S H vs (ns.map PyData.bool) → vs = ns.map V.bl
  | _, [], h => by cases h; rfl
  | _, n :: r, h => by
    cases h with
    | cons h t => cases h; rw [Ds.of_bools t]; rfl
theorem rd_allD {p : Addr} {ws : List V} {bs : List Bool} (hp : H p = some (.lst ws)) (h : Ds K S H ws (bs.map PyData.bool)) (q : Q (.bl (bs.all id)) H) : rAll K [.ref p] H Q := ⟨p, bs, rfl, by rw [← h.of_bools]; exact .inl (.inl hp), q⟩
theorem rd_chain {σ : L2.St} {ta tb tc : TE} {r r' : R2} (h : ta σ H fun x H1 => tb σ H1 fun y H2 => r x y H2 fun z H3 => ∃ k, z = .bl k ∧ (if k = true then tc σ H3 fun w' H4 => r' y w' H4 Q else Q (.bl false) H3)) : tChain r r' ta tb tc σ H Q := h
theorem wipe1 {σ : L2.St} {j : Nat} {v : V} : wipe ((wipe σ [j]).set j (some v)) [j] = wipe σ [j] := by
  show ((σ.set j none).set j (some v)).set j none = σ.set j none
  rw [List.set_set, List.set_set]
/-- a comprehension over data: each thing's F, nothing else changed -/
theorem lc_map {ds : List PyData} {d : PyData} {x : V} {i j : Nat} {te : TE} {σ : L2.St} (hv : σ[i]? = some (some x)) (hd : D K S H x d) (e : d = .list ds ∨ d = .tuple ds) (hS : Sok S H) (F : PyData → PyData)
    (hs : ∀ (S' : AS) (y : V) (dy : PyData) (H' : Hp), dy ∈ ds → Sok S' H' → D K S' H' y dy → Ex H H' → (∀ v d, D K S H v d → D K S' H' v d) → ∀ R : VK, (∀ z H4, Ex H' H4 → D K S' H4 z (F dy) → R z H4) → te ((wipe σ [j]).set j (some y)) H' R)
    (hq : ∀ p ws H', Ex H H' → H p = none → H' p = some (.lst ws) → Ds K S H' ws (ds.map F) → D K S H' (.ref p) (.list (ds.map F)) → Q (.ref p) H') : tLc (iSeq K (tVar i)) (gName j) tYes te [j] σ H Q := by
  refine rd_seqV hv hd e fun a xs J ex hl hds src => fun D0 hD0 => ?_
  have hlen := hds.length
  refine lc_src (K := K) (S := S) src.n0 (fun _ z => z.elim) hS hD0 (fun n => (ds.take n).map F) (fun _ _ => True) (fun _ _ _ _ _ _ => trivial) trivial rfl (fun i hi => ?_) (fun i y H1 H' hi _ e1 hS1 up y' R R' hR hR' => ?_) (fun H' ws _ e1 hS1 hD1 hds1 => ?_)
  · rw [List.length_map, List.length_take]
    exact Nat.lt_of_lt_of_le (Nat.lt_of_le_of_lt (Nat.min_le_left _ _) hi) hl
  · obtain ⟨rfl, hy⟩ := y'
    obtain ⟨dy, hdy, hD⟩ := hds.get hy
    refine ⟨wipe1, ?_⟩
    show te _ _ _
    refine hs (Sp1 S D0) y dy _ (List.mem_of_getElem? hdy) hS1 (up _ _ hD) e1 up R fun z H4 e4 d4 => hR z (F dy) H4 e4 trivial d4 ?_
    rw [List.take_add_one, hdy, List.map_append]
    rfl
  · have e2 : (ds.take xs.length).map F = ds.map F := by rw [List.take_of_length_le (by omega)]
    rw [e2] at hds1
    have hds2 := hds1.down
    exact hq D0 ws H' e1 hD0 hD1 hds2 (.newL hS hD0 hD1 (by rw [hds2.length, List.length_map, ← hlen]; exact hl) hds2)
theorem rd_gcons {t : TG} {u : TGs} {x : V} {xs : List V} {σ : L2.St} {R : L2.St → Hp → Prop} (h : t x σ H fun σ' H' => u xs σ' H' R) : gCons t u (x :: xs) σ H R := ⟨x, xs, rfl, h⟩
theorem rd_gnil {σ : L2.St} {R : L2.St → Hp → Prop} (h : R σ H) : gNil [] σ H R := ⟨rfl, h⟩
theorem rd_gtup {t : TGs} {n : Nat} {a : Addr} {xs : List V} {σ : L2.St} {R : L2.St → Hp → Prop} (hs : SqT K H a xs) (hn : xs.length = n) (h : t xs σ H R) : gTup K n t (.ref a) σ H R := ⟨a, xs, rfl, hs, hn, h⟩
theorem rd_gseq {t : TGs} {n : Nat} {a : Addr} {xs : List V} {σ : L2.St} {R : L2.St → Hp → Prop} (hs : SqT K H a xs ∨ SqL K H a xs) (hn : xs.length = n) (h : t xs σ H R) : gSeq K n t (.ref a) σ H R := ⟨a, xs, rfl, hs, hn, h⟩
theorem D.parts2 {v : V} {d1 d2 : PyData} (h : D K S H v (.tuple [d1, d2])) : ∃ a x y, v = .ref a ∧ SqT K H a [x, y] ∧ D K S H x d1 ∧ D K S H y d2 := by
  obtain ⟨a, xs, rfl, q, l, r, _⟩ := h.tuple
  cases r with
  | cons r1 r2 =>
    cases r2 with
    | cons r2 r3 =>
      cases r3
      exact ⟨a, _, _, rfl, q, r1, r2⟩
theorem D.parts3 {v : V} {d1 d2 d3 : PyData} (h : D K S H v (.tuple [d1, d2, d3])) : ∃ a x y z, v = .ref a ∧ SqT K H a [x, y, z] ∧ D K S H x d1 ∧ D K S H y d2 ∧ D K S H z d3 := by
  obtain ⟨a, xs, rfl, q, l, r, _⟩ := h.tuple
  cases r with
  | cons r1 r2 =>
    cases r2 with
    | cons r2 r3 =>
      cases r3 with
      | cons r3 r4 =>
        cases r4
        exact ⟨a, _, _, _, rfl, q, r1, r2, r3⟩
theorem D.ints2 {v : V} {i j : Int} (h : D K S H v (.tuple [.int i, .int j])) : ∃ a, v = .ref a ∧ SqT K H a [.int i, .int j] := by
  obtain ⟨a, x, y, rfl, q, d1, d2⟩ := h.parts2
  cases d1
  cases d2
  exact ⟨a, rfl, q⟩
theorem rd_tupleD {x : V} {d : PyData} {ds : List PyData} (hd : D K S H x d) (e : d = .list ds ∨ d = .tuple ds) (hS : Sok S H) (h : ∀ v H', Ex H H' → D K S H' v (.tuple ds) → Q v H') : rTo K [x] H Q := by
  rcases e with rfl | rfl
  · obtain ⟨a, xs, rfl, q, l, r, _⟩ := hd.list
    exact ⟨a, xs, rfl, .inl ⟨q, fun p np => h _ _ (.new np) (.newT hS np upd_same l (r.ex (.new np)))⟩⟩
  · have hd' := hd
    obtain ⟨a, xs, rfl, q, l, r, _⟩ := hd.tuple
    exact ⟨a, xs, rfl, .inr ⟨q, h _ _ (.refl H) hd'⟩⟩
theorem rd_listD {x : V} {d : PyData} {ds : List PyData} (hd : D K S H x d) (e : d = .list ds ∨ d = .tuple ds) (hS : Sok S H) (h : ∀ p ws H', Ex H H' → H p = none → H' p = some (.lst ws) → Ds K S H' ws ds → ws.length ≤ sizeLine → D K S H' (.ref p) (.list ds) → Q (.ref p) H') : rLo K [x] H Q := by
  rcases e with rfl | rfl
  · obtain ⟨a, xs, rfl, q, l, r, _⟩ := hd.list
    exact ⟨a, xs, rfl, .inl q, fun p np => h _ _ _ (.new np) np upd_same (r.ex (.new np)) l (.newL hS np upd_same l (r.ex (.new np)))⟩
  · obtain ⟨a, xs, rfl, q, l, r, _⟩ := hd.tuple
    exact ⟨a, xs, rfl, .inr q, fun p np => h _ _ _ (.new np) np upd_same (r.ex (.new np)) l (.newL hS np upd_same l (r.ex (.new np)))⟩
/-- a thing of data at a place -/
theorem rd_ixD {x : V} {d : PyData} {i : Nat} {di : PyData} {ds : List PyData} (hd : D K S H x d) (e : d = .list ds ∨ d = .tuple ds) (hi : ds[i]? = some di) (h : ∀ v, D K S H v di → Q v H) : rIxQ K x (.int i) H Q := by
  rcases e with rfl | rfl
  · obtain ⟨a, xs, rfl, q, l, r, _⟩ := hd.list
    obtain ⟨v, e1, e2⟩ := r.get' hi
    exact rd_ixQ (.inl q) (atI_nat e1) (h v e2)
  · obtain ⟨a, xs, rfl, q, l, r, _⟩ := hd.tuple
    obtain ⟨v, e1, e2⟩ := r.get' hi
    exact rd_ixQ (.inr q) (atI_nat e1) (h v e2)
end
/-! ### two walked abreast -/
section
variable {K : PySem.W.Frag} {S : AS} {H H1 : Hp} {Q : VK}
theorem wipe2 {σ : L2.St} {j k : Nat} {v w : V} (h : j ≠ k) : wipe (((wipe σ [j, k]).set j (some v)).set k (some w)) [j, k] = wipe σ [j, k] := by
  show ((((((σ.set k none).set j none).set j (some v)).set k (some w)).set k none).set j none) = (σ.set k none).set j none
  rw [List.set_set, List.set_comm _ _ h, List.set_set]
  rw [List.set_comm _ _ h, List.set_set, List.set_set]
theorem rd_izip {R : It → Hp → Prop} {al : TA} {σ : L2.St} (h : al σ H fun vs H1 => ∃ a b xs ys, vs = [.ref a, .ref b] ∧ ((SqL K H1 a xs ∧ SqL K H1 b ys ∧ R (Itz K a b) H1) ∨ (SqT K H1 a xs ∧ SqT K H1 b ys ∧ R (RZ.ItzT K a b) H1))) : RZ.iZipA K al σ H R := h
/-- a comprehension over zip(x, y), both data of one length; T: what may change -/
theorem lc_zip {ds es : List PyData} {d e : PyData} {x y : V} {ix iy j k n : Nat} {te : TE} {σ : L2.St} (hvx : σ[ix]? = some (some x)) (hvy : σ[iy]? = some (some y)) (hx : D K S H x d) (hy : D K S H y e)
    (hk : (d = .list ds ∧ e = .list es) ∨ (d = .tuple ds ∧ e = .tuple es)) (hl : ds.length = es.length) (hjk : j ≠ k) (hn : n = 2) (hS : Sok S H) (F : PyData → PyData → PyData)
    (hs : ∀ (S' : AS) (v w : V) (dv dw : PyData) (i : Nat) (H' : Hp), ds[i]? = some dv → es[i]? = some dw → Sok S' H' → D K S' H' v dv → D K S' H' w dw → Ex H H' → (∀ v d, D K S H v d → D K S' H' v d) → ∀ R : VK, (∀ z H4, Ex H' H4 → D K S' H4 z (F dv dw) → R z H4) → te (((wipe σ [j, k]).set j (some v)).set k (some w)) H' R)
    (hq : ∀ p ws H', Ex H H' → H p = none → H' p = some (.lst ws) → Ds K S H' ws (List.zipWith F ds es) → D K S H' (.ref p) (.list (List.zipWith F ds es)) → Q (.ref p) H') :
    tLc (RZ.iZipA K (tCons (tVar ix) (tCons (tVar iy) tNil))) (gTup K n (gCons (gName j) (gCons (gName k) gNil))) tYes te [j, k] σ H Q := by
  subst hn
  have main : ∀ (J : It) (xs ys : List V), xs.length ≤ sizeLine → Ds K S H xs ds → Ds K S H ys es → Src S H J xs.length (YZ xs ys) → ∀ D0, H D0 = none →
      ∃ W : Nat → Nat → Hp → Prop, (∃ m, W 0 m (upd H D0 (.lst []))) ∧ ∀ i m H, W i m H →
      (J.stop i H ∧ Q (.ref D0) H) ∨ (J.go i H ∧ ∃ Nx : Hp → Prop, (∀ H', Nx H' → ∃ m', m' < m ∧ W (i + 1) m' H') ∧ ∀ x H', J.yld i H x H' → gTup K 2 (gCons (gName j) (gCons (gName k) gNil)) x (wipe σ [j, k]) H' fun σ2 H2 => wipe σ2 [j, k] = wipe σ [j, k] ∧ tYes σ2 H2 fun b H3 =>
        if b = true then te σ2 H3 fun y H4 => ∃ acc, H4 D0 = some (.lst acc) ∧ acc.length < sizeLine ∧ Nx (upd H4 D0 (.lst (acc ++ [y]))) else Nx H3) := by
    intro J xs ys hlx hdx hdy src D0 hD0
    have l1 := hdx.length
    refine lc_src (K := K) (S := S) src.n0 (fun _ z => z.elim) hS hD0 (fun n => (List.zipWith F ds es).take n) (fun _ _ => True) (fun _ _ _ _ _ _ => trivial) trivial rfl (fun i hi => ?_) (fun i v H1 H' hi _ e1 hS1 up y' R R' hR hR' => ?_) (fun H' ws _ e1 hS1 hD1 hds1 => ?_)
    · rw [List.length_take]
      exact Nat.lt_of_lt_of_le (Nat.lt_of_le_of_lt (Nat.min_le_left _ _) hi) hlx
    · obtain ⟨t, a, b, rfl, nt, rfl, ha, hb⟩ := y'
      obtain ⟨da, hda, hDa⟩ := hdx.get ha
      obtain ⟨db, hdb, hDb⟩ := hdy.get hb
      have et : Ex H1 (upd H1 t (.tup [a, b])) := .new nt
      refine ⟨t, [a, b], rfl, .inl (.inl upd_same), rfl, a, [b], rfl, b, [], rfl, rfl, wipe2 hjk, ?_⟩
      show te _ _ _
      refine hs (Sp1 S D0) a b da db i _ hda hdb (hS1.ek et) ((up _ _ hDa).ex et) ((up _ _ hDb).ex et) (e1.trans et) (fun v d h => (up v d h).ex et) R fun z H4 e4 d4 => hR z (F da db) H4 (et.trans e4) trivial d4 ?_
      rw [List.take_add_one, List.getElem?_zipWith, hda, hdb]
      rfl
    · have e2 : (List.zipWith F ds es).take xs.length = List.zipWith F ds es := by rw [List.take_of_length_le (by rw [List.length_zipWith]; omega)]
      rw [e2] at hds1
      have hds2 := hds1.down
      exact hq D0 ws H' e1 hD0 hD1 hds2 (.newL hS hD0 hD1 (by rw [hds2.length, List.length_zipWith, ← l1]; omega) hds2)
  refine ⟨x, hvx, y, hvy, ?_⟩
  rcases hk with ⟨rfl, rfl⟩ | ⟨rfl, rfl⟩
  · obtain ⟨a, xs, rfl, l, r, q⟩ := hx.listE
    obtain ⟨b, ys, rfl, l2, r2, q2⟩ := hy.listE
    exact ⟨a, b, xs, ys, rfl, .inl ⟨q H (.refl H), q2 H (.refl H), main _ xs ys l r r2 (src_z q q2 (by rw [r.length, r2.length, hl]))⟩⟩
  · obtain ⟨a, xs, rfl, l, r, q⟩ := hx.tupleE
    obtain ⟨b, ys, rfl, l2, r2, q2⟩ := hy.tupleE
    exact ⟨a, b, xs, ys, rfl, .inr ⟨q H (.refl H), q2 H (.refl H), main _ xs ys l r r2 (src_zt q q2 (by rw [r.length, r2.length, hl]))⟩⟩
end
theorem pd_append {α β : Type} {F : α → β → Prop} : ∀ {as cs : List α} {bs ds : List β}, Paired F as bs → Paired F cs ds → Paired F (as ++ cs) (bs ++ ds)
  | _, _, _, _, .nil, s => s
  | _, _, _, _, .cons r t, s => .cons r (pd_append t s)
/-! ### a comprehension whose things are not known ahead -/
section
variable {K : PySem.W.Frag} {S T : AS} {H1 : Hp}
theorem lc_gen {J : It} {n : Nat} {Y : Nat → V → Hp → Hp → Prop} {g : TG} {tt : TT} {te : TE} {vs : List Nat} {σ : L2.St} {D0 : Addr} {Qd : Hp → Prop} (src : Src T H1 J n Y) (hTS : ∀ a, T a → S a) (hS : Sok S H1) (hD : H1 D0 = none) (I : Nat → List PyData → Hp → Prop)
    (hI : ∀ i ls H o, Ek T H1 H → Sok S H → I i ls H → I i ls (upd H D0 o)) (h0 : I 0 [] H1) (hl : ∀ i ls H, i < n → I i ls H → ls.length < sizeLine)
    (hs : ∀ i x H H' ls, i < n → I i ls H → Ek T H1 H → Sok (Sp1 S D0) H → (∀ v d, D K S H1 v d → D K (Sp1 S D0) H v d) → Y i x H H' → ∀ (R : V → Hp → Prop) (R' : Hp → Prop),
      (∀ y d H4, Ek T H H4 → D K (Sp1 S D0) H4 y d → I (i + 1) (ls ++ [d]) H4 → R y H4) → (∀ H4, Ek T H H4 → I (i + 1) ls H4 → R' H4) →
      g x (wipe σ vs) H' fun σ2 H2 => wipe σ2 vs = wipe σ vs ∧ tt σ2 H2 fun b H3 => if b = true then te σ2 H3 R else R' H3)
    (hd : ∀ H ws ls, I n ls H → Ek T H1 H → Sok S H → H D0 = some (.lst ws) → Ds K (Sp1 S D0) H ws ls → Qd H) :
    ∃ W : Nat → Nat → Hp → Prop, (∃ m, W 0 m (upd H1 D0 (.lst []))) ∧ ∀ i m H, W i m H →
      (J.stop i H ∧ Qd H) ∨ (J.go i H ∧ ∃ Nx : Hp → Prop, (∀ H', Nx H' → ∃ m', m' < m ∧ W (i + 1) m' H') ∧ ∀ x H', J.yld i H x H' → g x (wipe σ vs) H' fun σ2 H2 => wipe σ2 vs = wipe σ vs ∧ tt σ2 H2 fun b H3 =>
        if b = true then te σ2 H3 fun y H4 => ∃ acc, H4 D0 = some (.lst acc) ∧ acc.length < sizeLine ∧ Nx (upd H4 D0 (.lst (acc ++ [y]))) else Nx H3) := by
  have nS : ¬ S D0 := hS.no hD
  have nT : ¬ T D0 := fun z => nS (hTS _ z)
  refine ⟨fun i m H => m = n - i ∧ i ≤ n ∧ Ek T H1 H ∧ Sok S H ∧ ∃ acc ls, I i ls H ∧ H D0 = some (.lst acc) ∧ Ds K (Sp1 S D0) H acc ls, ⟨n, by simp, Nat.zero_le _, .new hD, hS.upd, [], [], hI 0 [] H1 _ (.refl _) hS h0, upd_same, .nil⟩, ?_⟩
  rintro i m H ⟨rfl, hi, e, hSH, acc, ls, p, hacc, hds⟩
  by_cases hlt : i < n
  · have hS1 : Sok (Sp1 S D0) H := hSH.one hacc
    have lift : ∀ v d, D K S H1 v d → D K (Sp1 S D0) H v d := fun v d h => (h.up hD).ek (T := T) (fun a z => .inl (hTS a z)) e
    refine .inr ⟨src.go i H e hlt, fun H' => i + 1 ≤ n ∧ Ek T H1 H' ∧ Sok S H' ∧ ∃ acc ls, I (i + 1) ls H' ∧ H' D0 = some (.lst acc) ∧ Ds K (Sp1 S D0) H' acc ls, fun H' q => ⟨n - (i + 1), by omega, rfl, q⟩, fun x H' y => ?_⟩
    refine hs i x H H' ls hlt p e hS1 lift (src.yld i x H H' hlt e y) _ _ (fun y d H4 e4 d4 p4 => ?_) (fun H4 e4 p4 => ?_)
    · have a4 : H4 D0 = some (.lst acc) := e4.keep _ _ nT hacc
      have hl2 : acc.length < sizeLine := by rw [hds.length]; exact hl i ls H hlt p
      have s4 : Sok S H4 := hSH.ek e4
      refine ⟨acc, a4, hl2, hlt, Ek.mut (e.trans e4) hD, s4.upd, acc ++ [y], ls ++ [d], hI _ _ _ _ (e.trans e4) s4 p4, upd_same, ?_⟩
      have q1 : Ds K (Sp1 S D0) H4 (acc ++ [y]) (ls ++ [d]) := (hds.ek (T := T) (fun a z => .inl (hTS a z)) e4).snoc d4
      exact q1.ek (T := fun a => a = D0) (fun a z => .inr z) (Ek.mutT (.refl _) rfl)
    · refine ⟨hlt, e.trans e4, hSH.ek e4, acc, ls, p4, e4.keep _ _ nT hacc, ?_⟩
      exact hds.ek (T := T) (fun a z => .inl (hTS a z)) e4
  · have e2 : i = n := by omega
    subst e2
    exact .inl ⟨src.stop H e, hd H acc ls p e hSH hacc hds⟩
/-- over data: each thing's element is any d with F i d; I: what else holds (a stream) -/
theorem lc_mapT {H : Hp} {Q : VK} {ds : List PyData} {d : PyData} {x : V} {i j : Nat} {te : TE} {σ : L2.St} (hTS : ∀ a, T a → S a) (hv : σ[i]? = some (some x)) (hd : D K S H x d) (e : d = .list ds ∨ d = .tuple ds) (hS : Sok S H) (F : PyData → PyData → Prop) (I : Nat → Hp → Prop)
    (hI : ∀ i D0 H' o, H D0 = none → Ek T H H' → I i H' → I i (upd H' D0 o)) (h0 : I 0 H)
    (hs : ∀ (S' : AS) (y : V) (dy : PyData) (n : Nat) (H' : Hp), ds[n]? = some dy → I n H' → (∀ a, S a → S' a) → Sok S' H' → D K S' H' y dy → Ek T H H' → (∀ v d, D K S H v d → D K S' H' v d) → ∀ R : VK, (∀ z dz H4, Ek T H' H4 → D K S' H4 z dz → F dy dz → I (n + 1) H4 → R z H4) → te ((wipe σ [j]).set j (some y)) H' R)
    (hq : ∀ p ws es H', Ek T H H' → H p = none → H' p = some (.lst ws) → Ds K S H' ws es → Paired F ds es → I ds.length H' → D K S H' (.ref p) (.list es) → Q (.ref p) H') : tLc (iSeq K (tVar i)) (gName j) tYes te [j] σ H Q := by
  refine rd_seqV hv hd e fun a xs J ex hl hds src => fun D0 hD0 => ?_
  have hlen := hds.length
  refine lc_gen (K := K) (S := S) (src.less hTS) hTS hS hD0 (fun i ls H' => I i H' ∧ ls.length = i ∧ Paired F (ds.take i) ls) (fun i ls H' o e1 _ h => ⟨hI i D0 H' o hD0 e1 h.1, h.2⟩) ⟨h0, rfl, .nil⟩ (fun i ls _ hi h => by rw [h.2.1]; exact Nat.lt_of_lt_of_le hi hl) (fun i y H1 H' ls hi h e1 hS1 up y' R R' hR hR' => ?_) (fun H' ws ls h e1 hS1 hD1 hds1 => ?_)
  · obtain ⟨rfl, hy⟩ := y'
    obtain ⟨dy, hdy, hD⟩ := hds.get hy
    refine ⟨wipe1, ?_⟩
    show te _ _ _
    refine hs (Sp1 S D0) y dy i _ hdy h.1 (fun a z => .inl z) hS1 (up _ _ hD) e1 up R fun z dz H4 e4 d4 f4 i4 => hR z dz H4 e4 d4 ⟨i4, ?_, ?_⟩
    · rw [List.length_append, h.2.1]; rfl
    · rw [List.take_add_one, hdy]
      exact pd_append h.2.2 (.cons f4 .nil)
  · obtain ⟨h1, h2, h3⟩ := h
    have hds2 := hds1.down
    rw [hlen] at h1
    rw [List.take_of_length_le (by omega)] at h3
    exact hq D0 ws ls H' e1 hD0 hD1 hds2 h3 h1 (.newL hS hD0 hD1 (by rw [hds2.length, h2]; exact hl) hds2)
end
/-- over data, those that pass a test; nothing else changed -/
theorem lc_filt {K : PySem.W.Frag} {S : AS} {H : Hp} {Q : VK} {ds : List PyData} {d : PyData} {x : V} {i j : Nat} {tt : TT} {te : TE} {σ : L2.St} (hv : σ[i]? = some (some x)) (hd : D K S H x d) (e : d = .list ds ∨ d = .tuple ds) (hS : Sok S H) (f : PyData → Bool) (F : PyData → PyData)
    (ht : ∀ (S' : AS) (y : V) (dy : PyData) (H' : Hp), dy ∈ ds → Sok S' H' → D K S' H' y dy → Ex H H' → (∀ v d, D K S H v d → D K S' H' v d) → ∀ R : Bool → Hp → Prop, (∀ H4, Ex H' H4 → R (f dy) H4) → tt ((wipe σ [j]).set j (some y)) H' R)
    (hs : ∀ (S' : AS) (y : V) (dy : PyData) (H' : Hp), dy ∈ ds → Sok S' H' → D K S' H' y dy → Ex H H' → (∀ v d, D K S H v d → D K S' H' v d) → f dy = true → ∀ R : VK, (∀ z H4, Ex H' H4 → D K S' H4 z (F dy) → R z H4) → te ((wipe σ [j]).set j (some y)) H' R)
    (hq : ∀ p ws H', Ex H H' → H p = none → H' p = some (.lst ws) → Ds K S H' ws ((ds.filter f).map F) → D K S H' (.ref p) (.list ((ds.filter f).map F)) → Q (.ref p) H') : tLc (iSeq K (tVar i)) (gName j) tt te [j] σ H Q := by
  refine rd_seqV hv hd e fun a xs J ex hl hds src => fun D0 hD0 => ?_
  have hlen := hds.length
  have hll : ∀ i, i < xs.length → (((ds.take i).filter f).map F).length < sizeLine := fun i hi => by
    rw [List.length_map]
    have := List.length_filter_le f (ds.take i)
    rw [List.length_take] at this
    exact Nat.lt_of_lt_of_le (Nat.lt_of_le_of_lt (Nat.le_trans this (Nat.min_le_left _ _)) hi) hl
  refine lc_gen (K := K) (S := S) src.n0 (fun _ z => z.elim) hS hD0 (fun i ls H' => ls = ((ds.take i).filter f).map F) (fun i ls H' o e1 _ h => h) rfl (fun i ls _ hi h => by rw [h]; exact hll i hi) (fun i y H1 H' ls hi h e1 hS1 up y' R R' hR hR' => ?_) (fun H' ws ls h e1 hS1 hD1 hds1 => ?_)
  · obtain ⟨rfl, hy⟩ := y'
    obtain ⟨dy, hdy, hD⟩ := hds.get hy
    have hm := List.mem_of_getElem? hdy
    have e9 : ((ds.take (i + 1)).filter f).map F = ls ++ if f dy = true then [F dy] else [] := by
      rw [List.take_add_one, hdy, List.filter_append, List.map_append, h]
      by_cases hf : f dy = true
      · simp [hf]
      · simp [hf]
    refine ⟨wipe1, ht (Sp1 S D0) y dy _ hm hS1 (up _ _ hD) e1 up _ fun H4 e4 => ?_⟩
    by_cases hf : f dy = true
    · refine rd_itet hf ?_
      rw [if_pos hf] at e9
      refine hs (Sp1 S D0) y dy _ hm (hS1.ek e4) ((up _ _ hD).ex e4) (e1.trans e4) (fun v d h => (up v d h).ex e4) hf R fun z H5 e5 d5 => hR z (F dy) H5 (e4.trans e5) d5 e9.symm
    · refine rd_itef (by simpa using hf) ?_
      rw [if_neg hf, List.append_nil] at e9
      exact hR' H4 e4 e9.symm
  · have hds2 := hds1.down
    rw [List.take_of_length_le (by omega)] at h
    subst h
    have hlo : ws.length ≤ sizeLine := by
      rw [hds2.length, List.length_map]
      exact Nat.le_trans (List.length_filter_le _ _) (by omega)
    exact hq D0 ws H' e1 hD0 hD1 hds2 (.newL hS hD0 hD1 hlo hds2)
/-! ### how deep data is; no dicts -/
inductive Sh : Nat → PyData → Prop
  | non {n} : Sh (n + 1) .none
  | bl {n b} : Sh (n + 1) (.bool b)
  | int {n i} : Sh (n + 1) (.int i)
  | str {n x} : Sh (n + 1) (.str x)
  | lst {n ds} : (∀ d ∈ ds, Sh n d) → Sh (n + 1) (.list ds)
  | tup {n ds} : (∀ d ∈ ds, Sh n d) → Sh (n + 1) (.tuple ds)
theorem Sh.items {n : Nat} {d : PyData} (h : Sh (n + 1) d) (hp : pSeq d = true) : ∀ e ∈ pItems d, Sh n e := by
  cases h <;> first | (cases hp; done) | assumption
theorem Sh.mono {n : Nat} {d : PyData} (h : Sh n d) : ∀ {k : Nat}, n ≤ k → Sh k d := by
  induction h with
  | non => intro k hk; obtain ⟨k, rfl⟩ : ∃ j, k = j + 1 := ⟨k - 1, by omega⟩; exact .non
  | bl => intro k hk; obtain ⟨k, rfl⟩ : ∃ j, k = j + 1 := ⟨k - 1, by omega⟩; exact .bl
  | int => intro k hk; obtain ⟨k, rfl⟩ : ∃ j, k = j + 1 := ⟨k - 1, by omega⟩; exact .int
  | str => intro k hk; obtain ⟨k, rfl⟩ : ∃ j, k = j + 1 := ⟨k - 1, by omega⟩; exact .str
  | lst _ ih => intro k hk; obtain ⟨k, rfl⟩ : ∃ j, k = j + 1 := ⟨k - 1, by omega⟩; exact .lst fun d hd => ih d hd (by omega)
  | tup _ ih => intro k hk; obtain ⟨k, rfl⟩ : ∃ j, k = j + 1 := ⟨k - 1, by omega⟩; exact .tup fun d hd => ih d hd (by omega)
/-! lists for tuples, and the other way about -/
inductive Lo : PyData → PyData → Prop
  | non : Lo .none .none
  | bl {b} : Lo (.bool b) (.bool b)
  | int {i} : Lo (.int i) (.int i)
  | str {x} : Lo (.str x) (.str x)
  | ll {ds es} : Paired Lo ds es → Lo (.list ds) (.list es)
  | lt {ds es} : Paired Lo ds es → Lo (.list ds) (.tuple es)
  | tl {ds es} : Paired Lo ds es → Lo (.tuple ds) (.list es)
  | tt {ds es} : Paired Lo ds es → Lo (.tuple ds) (.tuple es)
theorem lo_ints : ∀ {ns : List Int} {es : List PyData}, Paired Lo (ns.map PyData.int) es → es = ns.map PyData.int
  | [], _, h => by cases h; rfl
  | n :: r, _, h => by
    cases h with
    | cons a b => cases a; rw [lo_ints b]; rfl
theorem lo_int2 {i j : Int} {e : PyData} (h : Lo (.tuple [.int i, .int j]) e) : e = .list [.int i, .int j] ∨ e = .tuple [.int i, .int j] := by
  cases h with
  | tl h => exact .inl (congrArg PyData.list (lo_ints (ns := [i, j]) h))
  | tt h => exact .inr (congrArg PyData.tuple (lo_ints (ns := [i, j]) h))
theorem pd_get {α β : Type} {F : α → β → Prop} : ∀ {as : List α} {bs : List β} {i : Nat} {b : β}, Paired F as bs → bs[i]? = some b → ∃ a, as[i]? = some a ∧ F a b
  | _, _, _, _, .nil, h => by simp at h
  | _, _, 0, _, .cons r _, h => by
    simp only [List.getElem?_cons_zero, Option.some.injEq] at h
    subst h
    exact ⟨_, rfl, r⟩
  | _, _, i + 1, b, .cons _ t, h => by
    obtain ⟨a, h1, h2⟩ := pd_get (i := i) t (by simpa using h)
    exact ⟨a, by simpa using h1, h2⟩
theorem pd_mem {α β : Type} {F : α → β → Prop} {as : List α} {bs : List β} {b : β} (h : Paired F as bs) (hb : b ∈ bs) : ∃ a, a ∈ as ∧ F a b := by
  obtain ⟨i, hi, e⟩ := List.getElem_of_mem hb
  obtain ⟨a, h1, h2⟩ := pd_get h (by rw [List.getElem?_eq_getElem hi, e])
  exact ⟨a, List.mem_of_getElem? h1, h2⟩
theorem pd_len {α β : Type} {F : α → β → Prop} : ∀ {as : List α} {bs : List β}, Paired F as bs → as.length = bs.length
  | _, _, .nil => rfl
  | _, _, .cons _ t => congrArg Nat.succ (pd_len t)
theorem lo_sh {n : Nat} {d : PyData} (h : Sh n d) : ∀ {e : PyData}, Lo d e → Sh n e := by
  induction h with
  | non => intro e h; cases h; exact .non
  | bl => intro e h; cases h; exact .bl
  | int => intro e h; cases h; exact .int
  | str => intro e h; cases h; exact .str
  | lst _ ih =>
    intro e h
    cases h with
    | ll h => exact .lst fun d hd => let ⟨a, h1, h2⟩ := pd_mem h hd; ih a h1 h2
    | lt h => exact .tup fun d hd => let ⟨a, h1, h2⟩ := pd_mem h hd; ih a h1 h2
  | tup _ ih =>
    intro e h
    cases h with
    | tl h => exact .lst fun d hd => let ⟨a, h1, h2⟩ := pd_mem h hd; ih a h1 h2
    | tt h => exact .tup fun d hd => let ⟨a, h1, h2⟩ := pd_mem h hd; ih a h1 h2
theorem lo_seq {ds : List PyData} {e : PyData} (h : Lo (.list ds) e ∨ Lo (.tuple ds) e) : ∃ es, (e = .list es ∨ e = .tuple es) ∧ Paired Lo ds es := by
  rcases h with h | h
  · cases h with
    | ll h => exact ⟨_, .inl rfl, h⟩
    | lt h => exact ⟨_, .inr rfl, h⟩
  · cases h with
    | tl h => exact ⟨_, .inl rfl, h⟩
    | tt h => exact ⟨_, .inr rfl, h⟩
mutual
def nd : PyData → Nat
  | .list xs => nds xs + 1
  | .tuple xs => nds xs + 1
  | .none => 0
  | .bool _ => 0
  | .int _ => 0
  | .str _ => 0
  | .dict _ => 0
def nds : List PyData → Nat
  | [] => 0
  | x :: xs => nd x + nds xs
end
theorem nds_take {ds : List PyData} : ∀ {i : Nat} {d : PyData}, ds[i]? = some d → nds (ds.take (i + 1)) = nds (ds.take i) + nd d := by
  induction ds with
  | nil => intro i d h; simp at h
  | cons x xs ih =>
    intro i d h
    cases i with
    | zero =>
      simp only [List.getElem?_cons_zero, Option.some.injEq] at h
      subst h
      simp [nds]
    | succ i =>
      simp only [List.getElem?_cons_succ] at h
      have := ih h
      simp only [List.take_succ_cons, nds]
      omega
theorem nds_le (ds : List PyData) (i : Nat) : nds (ds.take i) ≤ nds ds := by
  induction ds generalizing i with
  | nil => simp [nds]
  | cons x xs ih =>
    cases i with
    | zero => simp [nds]
    | succ i =>
      simp only [List.take_succ_cons, nds]
      have := ih i
      omega
/-! a promise that nobody calls on -/
theorem ok_false {P : Program} {w : World} {K : PySem.W.Frag} {mg : Str → Option Value} {base : Heap} {CX : CXT} {k : Nat} {x : Str} {st : Stmt} {ps : List Str} {sp : Sp} (F : Df K mg x st) (h : ∀ vs H Q E, sp vs H Q E → False) : Ok P w K mg base CX k x st ps sp :=
  let ⟨f, fd, F1, g⟩ := F
  ⟨f, fd, F1, g, ⟨fun vs H Q E q => (h vs H Q E q).elim, fun _ _ _ _ _ _ _ _ _ _ _ _ _ q => (h _ _ _ _ q).elim⟩⟩
/-! ### joining ways -/
theorem cutT {t : TT} {σ : L2.St} {H : Hp} {R : Bool → Hp → Prop} (P : Bool → Hp → Prop) (h : ∀ R' : Bool → Hp → Prop, (∀ b H2, P b H2 → R' b H2) → t σ H R') (h2 : ∀ b H2, P b H2 → R b H2) : t σ H R := h R h2
theorem cutE {t : TE} {σ : L2.St} {H : Hp} {R : VK} (P : VK) (h : ∀ R' : VK, (∀ b H2, P b H2 → R' b H2) → t σ H R') (h2 : ∀ b H2, P b H2 → R b H2) : t σ H R := h R h2
/-- a statement that goes on, or hands back: what it leaves -/
theorem cutS {t : TS} {σ : L2.St} {H : Hp} {nx bk ct : L2.St → Hp → Prop} {rt : VK} (P : L2.St → Hp → Prop) (h : ∀ N : L2.St → Hp → Prop, (∀ σ' H', P σ' H' → N σ' H') → t (Ends.mk N rt bk ct) σ H) (h2 : ∀ σ' H', P σ' H' → nx σ' H') : t (Ends.mk nx rt bk ct) σ H := h nx h2
/-! ### stores to a list's place, popping -/
section
variable {K : PySem.W.Frag} {S : AS} {H H1 : Hp} {Q : VK}
theorem rd_asgS {te to ti : TE} {t : TSet} {σ : L2.St} {nx bk ct : L2.St → Hp → Prop} {rt : VK} (h : te σ H fun x H1 => to σ H1 fun o H1 => ti σ H1 fun i H2 => t o i x H2 fun H3 => nx σ H3) : tAsg te (gSub to ti t) (Ends.mk nx rt bk ct) σ H := h
theorem rd_setL {p : Addr} {xs : List V} {k : Int} {j : Nat} {v : V} {R : Hp → Prop} (hp : H p = some (.lst xs)) (hj : ixN xs.length k = some j) (h : ∀ H', Ek (fun a => a = p) H H' → H' p = some (.lst (xs.set j v)) → R H') : rSetL (.ref p) (.int k) v H R :=
  ⟨p, xs, k, j, rfl, rfl, hp, hj, h _ (Ek.mutT (.refl H) rfl) upd_same⟩
theorem rd_bm {T : String} {r : V → List V → Hp → VK → Prop} {to : TE} {al : TA} {σ : L2.St} (h : to σ H fun x H1 => tyV K T x H1 ∧ al σ H1 fun xs H2 => r x xs H2 Q) : tBM K T r to al σ H Q := h
theorem rd_tyL {A : Prop} {p : Addr} {xs : List V} (hp : SqL K H p xs) (h : A) : tyV K "list" (.ref p) H ∧ A := ⟨.inl ⟨rfl, _, hp⟩, h⟩
theorem rd_pop0 {p : Addr} {x : V} {xs : List V} (hp : H p = some (.lst (x :: xs))) (h : ∀ H', Ek (fun a => a = p) H H' → H' p = some (.lst xs) → Q x H') : rPopAt (.ref p) [.int 0] H Q :=
  ⟨p, x :: xs, 0, 0, x, rfl, rfl, hp, by decide, by decide, by simp [seqIndex?], rfl, h _ (Ek.mutT (.refl H) rfl) upd_same⟩
theorem rd_app {p : Addr} {xs : List V} {y : V} (hp : H p = some (.lst xs)) (hl : xs.length < sizeLine) (h : ∀ H', Ek (fun a => a = p) H H' → H' p = some (.lst (xs ++ [y])) → Q .non H') : rAppend (.ref p) [y] H Q :=
  ⟨p, xs, y, rfl, rfl, hp, hl, h _ (Ek.mutT (.refl H) rfl) upd_same⟩
theorem rd_ext {p b : Addr} {xs ys : List V} (hp : H p = some (.lst xs)) (hb : H b = some (.lst ys)) (hl : xs.length + ys.length ≤ sizeLine) (h : ∀ H', Ek (fun a => a = p) H H' → H' p = some (.lst (xs ++ ys)) → Q .non H') : rExtend (.ref p) [.ref b] H Q :=
  ⟨p, b, xs, ys, rfl, rfl, hp, hb, hl, h _ (Ek.mutT (.refl H) rfl) upd_same⟩
theorem rd_rep {p : Addr} {xs : List V} {k : Int} (hp : H p = some (.lst xs)) (h0 : 0 ≤ k) (h1 : k < 1000000) (hl : xs.length * k.toNat ≤ sizeLine) (h : ∀ q H', H q = none → Ex H H' → H' q = some (.lst (List.replicate k.toNat xs).flatten) → Q (.ref q) H') : rRep (.ref p) (.int k) H Q :=
  ⟨p, k, xs, rfl, rfl, hp, by omega, by omega, hl, fun q hq => h q _ hq (.new hq) upd_same⟩
theorem rd_listRg {σ : L2.St} {te : L2.St → Hp → (Int → Int → Hp → Prop) → Prop} (h : te σ H fun a b H1 => RgOk a b ∧ ∀ q, H1 q = none → Q (.ref q) (upd H1 q (.lst (rgV a b)))) : tLstRg te σ H Q := h
theorem rd_rg1 {σ : L2.St} {ta : TE} {R : Int → Int → Hp → Prop} (h : ta σ H fun x H1 => ∃ n, x = .int n ∧ R 0 n H1) : tRg1 ta σ H R := h
theorem rd_rgN {R : Int → Prop} {n : Int} (h : R n) : ∃ m, V.int n = .int m ∧ R m := ⟨n, rfl, h⟩
def rgI (n : Nat) : List Int := (List.range n).map Int.ofNat
theorem rgOk {n : Nat} (h : n ≤ 1000000) : RgOk 0 n := ⟨by decide, by decide, by omega, by omega, by omega⟩
theorem rgV_eq (n : Nat) : rgV 0 n = (rgI n).map V.int := by
  unfold rgV rgI
  rw [List.map_map, show ((n : Int) - 0).toNat = n by omega]
  refine List.map_congr_left fun i _ => ?_
  simp
theorem rd_rev {σ : L2.St} {te : TE} (h : te σ H fun x H1 => ∃ a xs, x = .ref a ∧ SqL K H1 a xs ∧ ∀ p, H1 p = none → Q (.ref p) (upd H1 p (.lst xs.reverse))) : tRevL K te σ H Q := h
theorem rd_cat {p b : Addr} {xs ys : List V} (hp : H p = some (.lst xs)) (hb : H b = some (.lst ys)) (hl : xs.length + ys.length ≤ sizeLine) (h : ∀ q H', H q = none → Ex H H' → H' q = some (.lst (xs ++ ys)) → Q (.ref q) H') : rCat (.ref p) (.ref b) H Q :=
  ⟨p, b, xs, ys, rfl, rfl, hp, hb, hl, fun q hq => h q _ hq (.new hq) upd_same⟩
end
/-- not too great for a divisor -/
structure Fit (m : Int) : Prop where
  lt : m.natAbs < 2 ^ 8000
theorem fit_of {m : Int} {k : Nat} (h : m.natAbs < 2 ^ k) (hk : k ≤ 8000) : Fit m := ⟨lt_pow_mono h hk⟩
theorem fit_le {m k : Int} (h0 : 0 ≤ m) (h : m ≤ k) (hk : Fit k) : Fit m := ⟨Nat.lt_of_le_of_lt (by omega) hk.lt⟩
theorem fit_div {i m : Int} (h : 0 < m) (f : Fit m) : CDivW i m := wide_div h f.lt (by decide) (by decide)
/-! ### the stream that a law draws from -/
structure Strm (S : AS) (H : Hp) (st : Addr) (n : Nat) : Prop where
  ex : ∃ (cl : Addr) (a m c : Int) (ns : List Int), H st = some (.lst [.ref cl, .int a, .int m, .int c]) ∧ H cl = some (.lst (ns.map V.int)) ∧ st ≠ cl ∧ S st ∧ S cl ∧ 0 ≤ a ∧ 0 ≤ m ∧ m ≤ n ∧ 0 ≤ c ∧ c < 2147483647 ∧ (ns.map V.int).length ≤ sizeLine
theorem Strm.ek {S : AS} {H H' : Hp} {st : Addr} {n : Nat} (s : Strm S H st n) (e : Ex H H') : Strm S H' st n := by
  obtain ⟨cl, a, m, c, ns, h1, h2, r⟩ := s.ex
  exact ⟨cl, a, m, c, ns, e.at h1, e.at h2, r⟩
theorem Strm.mono {S : AS} {H : Hp} {st : Addr} {n k : Nat} (s : Strm S H st n) (h : n ≤ k) : Strm S H st k := by
  obtain ⟨cl, a, m, c, ns, h1, h2, h3, h4, h5, h6, h7, h8, r⟩ := s.ex
  exact ⟨cl, a, m, c, ns, h1, h2, h3, h4, h5, h6, h7, by omega, r⟩
theorem Strm.more {S S' : AS} {H : Hp} {st : Addr} {n : Nat} (s : Strm S H st n) (h : ∀ a, S a → S' a) : Strm S' H st n := by
  obtain ⟨cl, a, m, c, ns, h1, h2, h3, h4, h5, r⟩ := s.ex
  exact ⟨cl, a, m, c, ns, h1, h2, h3, h _ h4, h _ h5, r⟩
theorem Strm.keep {S T : AS} {H H' : Hp} {st : Addr} {n : Nat} (s : Strm S H st n) (h : ∀ a, T a → ¬ S a) (e : Ek T H H') : Strm S H' st n := by
  obtain ⟨cl, a, m, c, ns, h1, h2, h3, h4, h5, r⟩ := s.ex
  exact ⟨cl, a, m, c, ns, e.keep _ _ (fun z => h _ z h4) h1, e.keep _ _ (fun z => h _ z h5) h2, h3, h4, h5, r⟩
/-- an object that is not the stream's changes -/
theorem Strm.upd {S : AS} {H : Hp} {st p : Addr} {n : Nat} {o : HO} (s : Strm S H st n) (hp : ¬ S p) : Strm S (upd H p o) st n := by
  obtain ⟨cl, a, m, c, ns, h1, h2, h3, h4, h5, r⟩ := s.ex
  exact ⟨cl, a, m, c, ns, by rw [upd_ne (fun z => hp (by rw [← z]; exact h4))]; exact h1, by rw [upd_ne (fun z => hp (by rw [← z]; exact h5))]; exact h2, h3, h4, h5, r⟩
theorem lay_ints : ∀ ns : List Int, PyData.canLayAll0 (ns.map PyData.int) = true
  | [] => by simp only [List.map_nil, PyData.canLayAll0]
  | n :: r => by simp only [List.map_cons, PyData.canLayAll0, PyData.canLay0, lay_ints r, Bool.and_self]
theorem depth_ints : ∀ ns : List Int, PyData.depthAll (ns.map PyData.int) = 0
  | [] => by simp only [List.map_nil, PyData.depthAll]
  | n :: r => by simp only [List.map_cons, PyData.depthAll, PyData.depth, depth_ints r, Nat.max_self]
theorem D.num {K : PySem.W.Frag} {S : AS} {H : Hp} {v : V} {i : Int} (h : D K S H v (.int i)) : v = .int i := h.int_eq
theorem shaped_ints (ns : List Int) : SeqAt.shaped (.list (ns.map PyData.int)) = true := by
  unfold SeqAt.shaped PyData.canLay0 PyData.depth
  rw [lay_ints, depth_ints] <;> rfl
theorem eqv_nil : ∀ ns : List Int, PyData.eqv (.list (ns.map PyData.int)) (.list []) = ns.isEmpty
  | [] => by simp only [List.map_nil, PyData.eqv, PyData.eqvAll, List.isEmpty_nil]
  | n :: r => by simp only [List.map_cons, PyData.eqv, PyData.eqvAll, List.isEmpty_cons]
end Lk
local macro_rules | `(tactic| walk_at "om") => `(tactic| first | assumption | decide | omega)
local macro_rules | `(tactic| walk_at "ek") => `(tactic| first | assumption | exact Lk.Ek.refl _ | (refine Lk.Ek.trans ?_ (by assumption); walk_at "ek") | (refine Lk.Ek.trans ?_ (Lk.Ek.of (by assumption)); walk_at "ek") | (refine Lk.Ek.of ?_; assumption))
local macro_rules | `(tactic| walk_at "up") => `(tactic| first
  | assumption
  | (with_reducible refine Lk.D.non) | (with_reducible refine Lk.D.int _) | (with_reducible refine Lk.D.bl _) | (with_reducible refine Lk.D.str _)
  | (refine Lk.D.ex (by assumption) ?_; walk_at "up")
  | (refine Lk.Ds.ex (by assumption) ?_; walk_at "up")
  | (refine Lk.D.eks (by assumption) ?_; walk_at "up")
  | (refine Lk.Strm.ek ?_ (by assumption); walk_at "up")
  | (refine Lk.sql_ex (by assumption) ?_; walk_at "up")
  | (refine Lk.sqt_ex (by assumption) ?_; walk_at "up")
  | (refine Lk.Ex.at (by assumption) ?_; walk_at "up")
  | (refine Lk.Sok.ek ?_ (by assumption); walk_at "up"))
local macro_rules | `(tactic| walk_at "rd") => `(tactic| first
  | with_reducible refine Lk.rd_seq ?_
  | with_reducible refine Lk.rd_asgS ?_
  | with_reducible refine Lk.rd_asg ?_
  | with_reducible refine Lk.rd_bm ?_
  | with_reducible refine Lk.rd_name ?_
  | with_reducible refine Lk.rd_ret ?_
  | with_reducible refine Lk.rd_next ?_
  | with_reducible refine Lk.rd_drop ?_
  | with_reducible refine Lk.rd_ifS ?_
  | with_reducible refine Lk.rd_brk ?_
  | with_reducible refine Lk.rd_cont ?_
  | with_reducible refine Lk.rd_retN ?_
  | ((with_reducible refine Lk.rd_var (v := ?rv) ?re ?rh); (case re => rfl))
  | with_reducible refine Lk.rd_c ?_
  | with_reducible refine Lk.rd_op ?_
  | with_reducible refine Lk.rd_un ?_
  | with_reducible refine Lk.rd_cb ?_
  | with_reducible refine Lk.rd_call ?_
  | with_reducible refine Lk.rd_callK ?_
  | with_reducible refine Lk.rd_nil ?_
  | with_reducible refine Lk.rd_cons ?_
  | with_reducible refine Lk.rd_tup ?_
  | with_reducible refine Lk.rd_lst ?_
  | with_reducible refine Lk.rd_test ?_
  | with_reducible refine Lk.rd_tB ?_
  | with_reducible refine Lk.rd_bl ?_
  | with_reducible refine Lk.rd_not ?_
  | with_reducible refine Lk.rd_and ?_
  | with_reducible refine Lk.rd_or ?_
  | with_reducible refine Lk.rd_notV ?_
  | with_reducible refine Lk.rd_andV ?_
  | with_reducible refine Lk.rd_orV ?_
  | with_reducible refine Lk.rd_tif ?_
  | with_reducible refine Lk.rd_I0 ?_
  | with_reducible refine Lk.rd_U ?_
  | ((with_reducible refine Lk.rd_I (C := fun _ j => 0 < j) ?rc ?rh); (case rc => walk_at "om"))
  | with_reducible refine Lk.rd_eqI ?_
  | with_reducible refine Lk.rd_neI ?_
  | with_reducible refine Lk.rd_par ?_
  | with_reducible refine Lk.rd_rng1 ?_
  | with_reducible refine Lk.rd_rng2 ?_
  | with_reducible refine Lk.rd_yes ?_
  | ((with_reducible refine Lk.rd_ixH (xs := ?rx) (v := ?rv) ?ra ?rb ?rh); (case ra => assumption); (case rb => rfl))
  | ((with_reducible refine Lk.rd_ixHT (xs := ?rx) (v := ?rv) ?ra ?rb ?rh); (case ra => assumption); (case rb => rfl))
  | ((with_reducible refine Lk.rd_I (C := L2.CPow) ?rc ?rh); (case rc => exact ⟨by decide, by decide, by decide⟩))
  | ((with_reducible refine Lk.rd_r1 ?ra ?rb ?rh); (case ra => walk_at "om"); (case rb => walk_at "om"))
  | ((with_reducible refine Lk.rd_r2 ?ra ?rb ?rc ?rd ?rh); (case ra => walk_at "om"); (case rb => walk_at "om"); (case rc => walk_at "om"); (case rd => walk_at "om"))
  | with_reducible refine Lk.rd_isnone ?_
  | with_reducible refine Lk.rd_listRg ?_
  | with_reducible refine Lk.rd_rev ?_
  | with_reducible refine Lk.rd_rg1 ?_
  | with_reducible refine Lk.rd_rgN ?_
  | with_reducible refine Lk.rd_ex1 ?_
  | with_reducible refine Lk.rd_ex1i ?_
  | with_reducible refine Lk.rd_ex2 ?_
  | with_reducible refine Lk.rd_chain ?_
  | with_reducible refine Lk.rd_gcons ?_
  | with_reducible refine Lk.rd_gnil ?_
  | ((with_reducible refine Lk.rd_gtup (xs := ?rx) ?ra ?rb ?rh); (case ra => first | assumption | exact Or.inl (Or.inl (by assumption))); (case rb => rfl))
  | with_reducible refine Lk.rd_par2 ?_
  | with_reducible refine Lk.rd_iteT ?_
  | with_reducible refine Lk.rd_iteF ?_
  | with_reducible refine Lk.rd_eqB ?_
  | with_reducible refine Lk.rd_neB ?_
  | with_reducible refine Lk.rd_eqS ?_
  | with_reducible refine Lk.rd_neS ?_
  | ((with_reducible refine Lk.rd_alloc ?rl ?rh); (case rl => exact Nat.le_of_ble_eq_true rfl); intro p np; generalize hH : L2.upd _ p _ = H'; (have hE : Lk.Ex _ H' := hH ▸ Lk.Ex.new np); (have hp : H' p = some _ := hH ▸ L2.upd_same); clear hH)
  | ((with_reducible refine Lk.rd_is1 (S := ?rS) (d := ?rd) ?re ?rh); (case re => walk_at "up"); (try (case rS => exact Lk.N0)))
  | ((with_reducible refine Lk.rd_isN (S := ?rS) (d := ?rd) ?rt ?re ?rh); (case rt => walk_at "up"); (case re => walk_at "up"); (try (case rS => exact Lk.N0))))
local macro_rules | `(tactic| walk_at "if") => `(tactic| first
  | ((with_reducible refine Lk.rd_itet ?re ?rh); (case re => rfl))
  | ((with_reducible refine Lk.rd_itef ?re ?rh); (case re => rfl)))
local macro_rules | `(tactic| walk_at "rdi") => `(tactic| repeat (first | walk_at "rd" | walk_at "if"))
local macro_rules | `(tactic| walk_at "rds") => `(tactic| repeat walk_at "rd")
local macro_rules | `(tactic| walk_at "for") => `(tactic| ((with_reducible refine Lk.rd_for ?_); walk_at "rds"))
local macro_rules | `(tactic| walk_at "ds") => `(tactic| first | exact Lk.Ds.nil | ((refine Lk.Ds.cons (d := ?dd) (ds := ?dds) ?h1 ?h2); (case h1 => walk_at "up"); (case h2 => walk_at "ds")))
local macro_rules | `(tactic| walk_at "while") => `(tactic| (with_reducible refine Lk.rd_whl ?_))

namespace My
open PySem PySem.Spec PyProof.Rows L2 Lk
def top (i : Nat) : Stmt := PySem.Challenge.pw_lyingstore_k63_whole_rows_of_keys.main.body.getD i (.Pass ⟨0, 0, 0, 0⟩)
abbrev s_is_list : Stmt := top 1
theorem sc_is_list : FnScope ["thing"] ["thing"] (defScope s_is_list) := ⟨rfl, rfl, rfl, by decide +kernel, rfl, by decide +kernel, by decide +kernel⟩
theorem bd_is_list : Bd "is_list" s_is_list ["thing"] := fun _ _ _ _ _ _ us hl => match us, hl with | [_], _ => rfl
abbrev s_is_whole : Stmt := top 2
theorem sc_is_whole : FnScope ["thing"] ["thing"] (defScope s_is_whole) := ⟨rfl, rfl, rfl, by decide +kernel, rfl, by decide +kernel, by decide +kernel⟩
theorem bd_is_whole : Bd "is_whole" s_is_whole ["thing"] := fun _ _ _ _ _ _ us hl => match us, hl with | [_], _ => rfl
abbrev s_is_number : Stmt := top 3
theorem sc_is_number : FnScope ["thing"] ["thing"] (defScope s_is_number) := ⟨rfl, rfl, rfl, by decide +kernel, rfl, by decide +kernel, by decide +kernel⟩
theorem bd_is_number : Bd "is_number" s_is_number ["thing"] := fun _ _ _ _ _ _ us hl => match us, hl with | [_], _ => rfl
abbrev s_is_row : Stmt := top 4
theorem sc_is_row : FnScope ["thing", "many"] ["thing", "many"] (defScope s_is_row) := ⟨rfl, rfl, rfl, by decide +kernel, rfl, by decide +kernel, by decide +kernel⟩
theorem bd_is_row : Bd "is_row" s_is_row ["thing", "many"] := fun _ _ _ _ _ _ us hl => match us, hl with | [_, _], _ => rfl
abbrev s_lowest : Stmt := top 10
theorem sc_lowest : FnScope ["top", "bottom", "one", "other"] ["top", "bottom"] (defScope s_lowest) := ⟨rfl, rfl, rfl, by decide +kernel, rfl, by decide +kernel, by decide +kernel⟩
theorem bd_lowest : Bd "lowest" s_lowest ["top", "bottom"] := fun _ _ _ _ _ _ us hl => match us, hl with | [_, _], _ => rfl
abbrev s_need_share : Stmt := top 16
theorem sc_need_share : FnScope ["share", "one"] ["share"] (defScope s_need_share) := ⟨rfl, rfl, rfl, by decide +kernel, rfl, by decide +kernel, by decide +kernel⟩
theorem bd_need_share : Bd "need_share" s_need_share ["share"] := fun _ _ _ _ _ _ us hl => match us, hl with | [_], _ => rfl
abbrev s_power_of : Stmt := top 19
theorem sc_power_of : FnScope ["number", "often", "found", "_"] ["number", "often"] (defScope s_power_of) := ⟨rfl, rfl, rfl, by decide +kernel, rfl, by decide +kernel, by decide +kernel⟩
theorem bd_power_of : Bd "power_of" s_power_of ["number", "often"] := fun _ _ _ _ _ _ us hl => match us, hl with | [_, _], _ => rfl
abbrev s_is_all : Stmt := top 20
theorem sc_is_all : FnScope ["count", "all_keys"] ["count", "all_keys"] (defScope s_is_all) := ⟨rfl, rfl, rfl, by decide +kernel, rfl, by decide +kernel, by decide +kernel⟩
theorem bd_is_all : Bd "is_all" s_is_all ["count", "all_keys"] := fun _ _ _ _ _ _ us hl => match us, hl with | [_, _], _ => rfl
abbrev s_need_counts : Stmt := top 21
theorem sc_need_counts : FnScope ["count", "all_keys"] ["count", "all_keys"] (defScope s_need_counts) := ⟨rfl, rfl, rfl, by decide +kernel, rfl, by decide +kernel, by decide +kernel⟩
theorem bd_need_counts : Bd "need_counts" s_need_counts ["count", "all_keys"] := fun _ _ _ _ _ _ us hl => match us, hl with | [_, _], _ => rfl
abbrev s_need_often : Stmt := top 22
theorem sc_need_often : FnScope ["often"] ["often"] (defScope s_need_often) := ⟨rfl, rfl, rfl, by decide +kernel, rfl, by decide +kernel, by decide +kernel⟩
theorem bd_need_often : Bd "need_often" s_need_often ["often"] := fun _ _ _ _ _ _ us hl => match us, hl with | [_], _ => rfl
abbrev s_rows_let : Stmt := top 23
theorem sc_rows_let : FnScope ["count", "all_keys", "often", "many"] ["count", "all_keys", "often"] (defScope s_rows_let) := ⟨rfl, rfl, rfl, by decide +kernel, rfl, by decide +kernel, by decide +kernel⟩
theorem bd_rows_let : Bd "rows_let" s_rows_let ["count", "all_keys", "often"] := fun _ _ _ _ _ _ us hl => match us, hl with | [_, _, _], _ => rfl
abbrev s_share_of : Stmt := top 24
theorem sc_share_of : FnScope ["count", "all_keys", "often", "let", "rows"] ["count", "all_keys", "often"] (defScope s_share_of) := ⟨rfl, rfl, rfl, by decide +kernel, rfl, by decide +kernel, by decide +kernel⟩
theorem bd_share_of : Bd "share_of" s_share_of ["count", "all_keys", "often"] := fun _ _ _ _ _ _ us hl => match us, hl with | [_, _, _], _ => rfl
abbrev s_fewest_keys : Stmt := top 25
theorem sc_fewest_keys : FnScope ["count", "all_keys", "share", "top", "bottom", "let", "rows", "many"] ["count", "all_keys", "share"] (defScope s_fewest_keys) := ⟨rfl, rfl, rfl, by decide +kernel, rfl, by decide +kernel, by decide +kernel⟩
theorem bd_fewest_keys : Bd "fewest_keys" s_fewest_keys ["count", "all_keys", "share"] := fun _ _ _ _ _ _ us hl => match us, hl with | [_, _, _], _ => rfl
abbrev s_are_counts : Stmt := top 26
theorem sc_are_counts : FnScope ["thing"] ["thing"] (defScope s_are_counts) := ⟨rfl, rfl, rfl, by decide +kernel, rfl, by decide +kernel, by decide +kernel⟩
theorem bd_are_counts : Bd "are_counts" s_are_counts ["thing"] := fun _ _ _ _ _ _ us hl => match us, hl with | [_], _ => rfl
abbrev s_joint_share : Stmt := top 27
theorem sc_joint_share : FnScope ["pairs", "let", "rows", "count", "all_keys", "one"] ["pairs"] (defScope s_joint_share) := ⟨rfl, rfl, rfl, by decide +kernel, rfl, by decide +kernel, by decide +kernel⟩
theorem bd_joint_share : Bd "joint_share" s_joint_share ["pairs"] := fun _ _ _ _ _ _ us hl => match us, hl with | [_], _ => rfl
abbrev s__law_c : Stmt := top 29
theorem sc__law_c : FnScope ["thing", "one", "key"] ["thing"] (defScope s__law_c) := ⟨rfl, rfl, rfl, by decide +kernel, rfl, by decide +kernel, by decide +kernel⟩
theorem bd__law_c : Bd "_law_c" s__law_c ["thing"] := fun _ _ _ _ _ _ us hl => match us, hl with | [_], _ => rfl
abbrev s__law_stream : Stmt := top 30
theorem sc__law_stream : FnScope ["script"] ["script"] (defScope s__law_stream) := ⟨rfl, rfl, rfl, by decide +kernel, rfl, by decide +kernel, by decide +kernel⟩
theorem bd__law_stream : Bd "_law_stream" s__law_stream ["script"] := fun _ _ _ _ _ _ us hl => match us, hl with | [_], _ => rfl
abbrev s__law_draw : Stmt := top 31
theorem sc__law_draw : FnScope ["stream", "many", "cell", "digit", "mixed"] ["stream", "many"] (defScope s__law_draw) := ⟨rfl, rfl, rfl, by decide +kernel, rfl, by decide +kernel, by decide +kernel⟩
theorem bd__law_draw : Bd "_law_draw" s__law_draw ["stream", "many"] := fun _ _ _ _ _ _ us hl => match us, hl with | [_, _], _ => rfl
abbrev s__law_pick : Stmt := top 32
theorem sc__law_pick : FnScope ["stream", "things"] ["stream", "things"] (defScope s__law_pick) := ⟨rfl, rfl, rfl, by decide +kernel, rfl, by decide +kernel, by decide +kernel⟩
theorem bd__law_pick : Bd "_law_pick" s__law_pick ["stream", "things"] := fun _ _ _ _ _ _ us hl => match us, hl with | [_, _], _ => rfl
abbrev s__law_same : Stmt := top 33
theorem sc__law_same : FnScope ["found", "due", "mine", "theirs"] ["found", "due"] (defScope s__law_same) := ⟨rfl, rfl, rfl, by decide +kernel, rfl, by decide +kernel, by decide +kernel⟩
theorem bd__law_same : Bd "_law_same" s__law_same ["found", "due"] := fun _ _ _ _ _ _ us hl => match us, hl with | [_, _], _ => rfl
abbrev s__law_copied : Stmt := top 34
theorem sc__law_copied : FnScope ["thing", "some", "one", "key"] ["thing"] (defScope s__law_copied) := ⟨rfl, rfl, rfl, by decide +kernel, rfl, by decide +kernel, by decide +kernel⟩
theorem bd__law_copied : Bd "_law_copied" s__law_copied ["thing"] := fun _ _ _ _ _ _ us hl => match us, hl with | [_], _ => rfl
abbrev s__law_loose : Stmt := top 35
theorem sc__law_loose : FnScope ["stream", "thing", "some", "part"] ["stream", "thing"] (defScope s__law_loose) := ⟨rfl, rfl, rfl, by decide +kernel, rfl, by decide +kernel, by decide +kernel⟩
theorem bd__law_loose : Bd "_law_loose" s__law_loose ["stream", "thing"] := fun _ _ _ _ _ _ us hl => match us, hl with | [_, _], _ => rfl
abbrev s__law_a_power : Stmt := top 36
theorem sc__law_a_power : FnScope ["number", "often", "found", "turn"] ["number", "often"] (defScope s__law_a_power) := ⟨rfl, rfl, rfl, by decide +kernel, rfl, by decide +kernel, by decide +kernel⟩
theorem bd__law_a_power : Bd "_law_a_power" s__law_a_power ["number", "often"] := fun _ _ _ _ _ _ us hl => match us, hl with | [_, _], _ => rfl
abbrev s__law_lowest : Stmt := top 37
theorem sc__law_lowest : FnScope ["top", "bottom", "one", "other", "turn"] ["top", "bottom"] (defScope s__law_lowest) := ⟨rfl, rfl, rfl, by decide +kernel, rfl, by decide +kernel, by decide +kernel⟩
theorem bd__law_lowest : Bd "_law_lowest" s__law_lowest ["top", "bottom"] := fun _ _ _ _ _ _ us hl => match us, hl with | [_, _], _ => rfl
abbrev s__law_rows : Stmt := top 38
theorem sc__law_rows : FnScope ["keys", "often", "found", "turn", "longer", "row", "key"] ["keys", "often"] (defScope s__law_rows) := ⟨rfl, rfl, rfl, by decide +kernel, rfl, by decide +kernel, by decide +kernel⟩
theorem bd__law_rows : Bd "_law_rows" s__law_rows ["keys", "often"] := fun _ _ _ _ _ _ us hl => match us, hl with | [_, _], _ => rfl
abbrev s_law : Stmt := top 39
theorem sc_law : FnScope ["script", "stream", "turn", "all_keys", "count", "often", "let", "rows", "bottom", "share", "due", "one", "other", "many", "few", "good", "long", "lots", "pairs", "k", "top", "parts", "handed", "was", "found", "row"] ["script"] (defScope s_law) := ⟨rfl, rfl, rfl, by decide +kernel, rfl, by decide +kernel, by decide +kernel⟩
theorem bd_law : Bd "law" s_law ["script"] := fun _ _ _ _ _ _ us hl => match us, hl with | [_], _ => rfl
structure Fs (K : PySem.W.Frag) (mg : Str → Option Value) : Prop where
  d_is_list : Df K mg "is_list" s_is_list
  d_is_whole : Df K mg "is_whole" s_is_whole
  d_is_number : Df K mg "is_number" s_is_number
  d_is_row : Df K mg "is_row" s_is_row
  d_lowest : Df K mg "lowest" s_lowest
  d_need_share : Df K mg "need_share" s_need_share
  d_power_of : Df K mg "power_of" s_power_of
  d_is_all : Df K mg "is_all" s_is_all
  d_need_counts : Df K mg "need_counts" s_need_counts
  d_need_often : Df K mg "need_often" s_need_often
  d_rows_let : Df K mg "rows_let" s_rows_let
  d_share_of : Df K mg "share_of" s_share_of
  d_fewest_keys : Df K mg "fewest_keys" s_fewest_keys
  d_are_counts : Df K mg "are_counts" s_are_counts
  d_joint_share : Df K mg "joint_share" s_joint_share
  d__law_c : Df K mg "_law_c" s__law_c
  d__law_stream : Df K mg "_law_stream" s__law_stream
  d__law_draw : Df K mg "_law_draw" s__law_draw
  d__law_pick : Df K mg "_law_pick" s__law_pick
  d__law_same : Df K mg "_law_same" s__law_same
  d__law_copied : Df K mg "_law_copied" s__law_copied
  d__law_loose : Df K mg "_law_loose" s__law_loose
  d__law_a_power : Df K mg "_law_a_power" s__law_a_power
  d__law_lowest : Df K mg "_law_lowest" s__law_lowest
  d__law_rows : Df K mg "_law_rows" s__law_rows
  d_law : Df K mg "law" s_law
  m_abs : mg "abs" = none
  m_all : mg "all" = none
  m_bool : mg "bool" = none
  m_dict : mg "dict" = none
  m_int : mg "int" = none
  m_isinstance : mg "isinstance" = none
  m_len : mg "len" = none
  m_list : mg "list" = none
  m_max : mg "max" = none
  m_min : mg "min" = none
  m_range : mg "range" = none
  m_str : mg "str" = none
  m_tuple : mg "tuple" = none
  m_zip : mg "zip" = none
  c_KEYS : ∃ t, mg "KEYS" = some (.int 100 t)
end My
namespace My
open PySem PySem.Spec PyProof.Rows L2 Lk
section
variable {P : Program} {w : World} {K : PySem.W.Frag} {mg : Str → Option Value} {base : Heap}
def spIsList (K : PySem.W.Frag) : Sp := fun vs H Q _ => ∃ x S d, vs = [x] ∧ D K S H x d ∧ RetB H (pSeq d) Q
theorem ok_is_list (T : Fs K mg) : Ok P w K mg base CX0 1 "is_list" s_is_list ["thing"] (spIsList K) := by
  refine ok_mk T.d_is_list sc_is_list (fun vs H Q E h => ?_) (fun f cdv A outer s H vs Q E hr h => ?_)
  · obtain ⟨x, S, d, rfl, _⟩ := h; rfl
  · obtain ⟨x, S, d, rfl, hd, q⟩ := h
    refine ⟨_, (pss_one (ps_ret (pe_callB (is_seq (K := K)) (by rfl) T.m_isinstance (by decide +kernel) (pa_cons (pv 0) (pa_cons (pe_tup (pa_cons (pe_bltn (v := .ty "list") (by rfl) T.m_list (by decide +kernel) rfl) (pa_cons (pe_bltn (v := .ty "tuple") (by rfl) T.m_tuple (by decide +kernel) rfl) pa_nil))) pa_nil))))), ?_⟩
    walk_at "rds"
    exact q _ (by walk_at "ek")
def spIsWhole (K : PySem.W.Frag) : Sp := fun vs H Q _ => ∃ x S d, vs = [x] ∧ D K S H x d ∧ RetB H (pWhole d) Q
theorem ok_is_whole (T : Fs K mg) : Ok P w K mg base CX0 1 "is_whole" s_is_whole ["thing"] (spIsWhole K) := by
  refine ok_mk T.d_is_whole sc_is_whole (fun vs H Q E h => ?_) (fun f cdv A outer s H vs Q E hr h => ?_)
  · obtain ⟨x, S, d, rfl, _⟩ := h; rfl
  · obtain ⟨x, S, d, rfl, hd, q⟩ := h
    refine ⟨_, (pss_one (ps_ret (pe_and (pe_callB (is_int (K := K)) (by rfl) T.m_isinstance (by decide +kernel) (pa_cons (pv 0) (pa_cons (pe_bltn (v := .ty "int") (by rfl) T.m_int (by decide +kernel) rfl) pa_nil))) (pe_one (pe_not (pe_callB (is_bool (K := K)) (by rfl) T.m_isinstance (by decide +kernel) (pa_cons (pv 0) (pa_cons (pe_bltn (v := .ty "bool") (by rfl) T.m_bool (by decide +kernel) rfl) pa_nil)))))))), ?_⟩
    walk_at "rds"
    refine rd_ite (fun h1 => ?_) (fun h1 => ?_)
    · walk_at "rds"
      simpa [pWhole, h1] using q _ (by walk_at "ek")
    · walk_at "rds"
      simpa [pWhole, h1] using q _ (by walk_at "ek")
def spIsNumber (K : PySem.W.Frag) : Sp := fun vs H Q _ => ∃ x S d, vs = [x] ∧ D K S H x d ∧ RetB H (pNum d) Q
theorem ok_is_number (T : Fs K mg) (G_is_whole : Ok P w K mg base CX0 1 "is_whole" s_is_whole ["thing"] (spIsWhole K)) : Ok P w K mg base CX0 2 "is_number" s_is_number ["thing"] (spIsNumber K) := by
  refine ok_mk T.d_is_number sc_is_number (fun vs H Q E h => ?_) (fun f cdv A outer s H vs Q E hr h => ?_)
  · obtain ⟨x, S, d, rfl, _⟩ := h; rfl
  · obtain ⟨x, S, d, rfl, hd, q⟩ := h
    refine ⟨_, (pss_one (ps_ret (pe_and (pe_c G_is_whole bd_is_whole (hr.mono (by omega)) pass0 (pa_cons (pv 0) pa_nil)) (pe_one (pe_cmpR op_ge (pv 0) pe_int (nomark _)))))), ?_⟩
    walk_at "rds"
    refine ⟨x, S, d, rfl, hd, fun H1 e1 => ?_⟩
    walk_at "rds"
    refine rd_ite (fun h1 => ?_) (fun h1 => ?_)
    · obtain ⟨i, rfl⟩ := whole_int h1
      cases hd
      walk_at "rds"
      exact q _ (by walk_at "ek")
    · walk_at "rds"
      rw [← whole_not h1]
      exact q _ (by walk_at "ek")
def spIsRow (K : PySem.W.Frag) : Sp := fun vs H Q _ => ∃ x S d n, vs = [x, .int n] ∧ D K S H x d ∧ RetB H (pSeq d && decide ((pLen d : Int) = n)) Q
theorem ok_is_row (T : Fs K mg) (G_is_list : Ok P w K mg base CX0 1 "is_list" s_is_list ["thing"] (spIsList K)) : Ok P w K mg base CX0 2 "is_row" s_is_row ["thing", "many"] (spIsRow K) := by
  refine ok_mk T.d_is_row sc_is_row (fun vs H Q E h => ?_) (fun f cdv A outer s H vs Q E hr h => ?_)
  · obtain ⟨x, S, d, n, rfl, _⟩ := h; rfl
  · obtain ⟨x, S, d, n, rfl, hd, q⟩ := h
    refine ⟨_, (pss_one (ps_ret (pe_and (pe_c G_is_list bd_is_list (hr.mono (by omega)) pass0 (pa_cons (pv 0) pa_nil)) (pe_one (pe_cmpR op_eq (pe_callB (cln (K := K)) (by rfl) T.m_len (by decide +kernel) (pa_cons (pv 0) pa_nil)) (pv 1) (nomark _)))))), ?_⟩
    walk_at "rds"
    refine ⟨x, S, d, rfl, hd, fun H1 e1 => ?_⟩
    walk_at "rds"
    refine rd_ite (fun h1 => ?_) (fun h1 => ?_)
    · walk_at "rds"
      refine rd_lnD (hd.ex e1) h1 ?_
      walk_at "rds"
      simpa [h1] using q _ (by walk_at "ek")
    · walk_at "rds"
      simpa [h1] using q _ (by walk_at "ek")
def spPowerOf : Sp := fun vs H Q _ => ∃ (z : Int) (n : Nat), vs = [.int z, .int n] ∧ z.natAbs ≤ 2 ^ 64 ∧ n ≤ 1000 ∧ RetI H (z ^ n) Q
theorem ok_power_of (T : Fs K mg) : Ok P w K mg base CX0 1 "power_of" s_power_of ["number", "often"] spPowerOf := by
  refine ok_mk T.d_power_of sc_power_of (fun vs H Q E h => ?_) (fun f cdv A outer s H vs Q E hr h => ?_)
  · obtain ⟨z, n, rfl, _⟩ := h; rfl
  · obtain ⟨z, n, rfl, hz, hn, q⟩ := h
    refine ⟨_, (pss_cons (ps_set (i := 2) sc_power_of.nd rfl (.inl rfl) pe_int)
      (pss_cons (ps_for PassesOwn.never rfl (pi_range1 (by rfl) T.m_range (pa_cons (pv 1) pa_nil)) (pg_name (i := 3) sc_power_of.nd rfl (.inl rfl)) (pss_one (ps_set (i := 2) sc_power_of.nd rfl (.inl rfl) (pe_op op_mulW (pv 2) (pv 0)))))
      (pss_one (ps_ret (pv 2))))), ?_⟩
    walk_at "rds"
    walk_at "for"
    refine for_src (T := N0) src_r (fun i σ H' => ∃ u p, σ = [some (.int z), some (.int n), some (.int p), u] ∧ p = z ^ i ∧ H' = H) ⟨none, 1, rfl, by simp, rfl⟩ (fun i σ H' _ ⟨u, _, _, _, e⟩ => by rw [e]; exact .refl _) (fun i x σ H' H2 hi p y => ?_) (fun σ H' p => ?_)
    · obtain ⟨u, p, rfl, rfl, rfl⟩ := p
      obtain ⟨rfl, rfl⟩ := y
      walk_at "rds"
      refine rd_I ?_ ?_
      · have h1 := pow_size hz i
        exact wide_mul (lt_succ_pow h1) (lt_succ_pow hz) (by omega) (by omega) (by omega)
      · walk_at "rds"
        exact ⟨_, _, rfl, (Int.pow_succ _ _).symm, rfl⟩
    · obtain ⟨u, p, rfl, rfl, rfl⟩ := p
      walk_at "rds"
      exact q _ (.refl _)
def pLowest (a b : Nat) : PyData := .tuple [.int ((a / Nat.gcd a b : Nat) : Int), .int ((b / Nat.gcd a b : Nat) : Int)]
def spLowest (K : PySem.W.Frag) : Sp := fun vs H Q _ => ∃ (S : AS) (a b : Nat), vs = [.int a, .int b] ∧ Sok S H ∧ 0 < b ∧ b < 2 ^ 8000 ∧ RetD K S H (pLowest a b) Q
theorem ok_lowest (T : Fs K mg) : Ok P w K mg base CX0 1 "lowest" s_lowest ["top", "bottom"] (spLowest K) := by
  refine ok_mk T.d_lowest sc_lowest (fun vs H Q E h => ?_) (fun f cdv A outer s H vs Q E hr h => ?_)
  · obtain ⟨S, a, b, rfl, _⟩ := h; rfl
  · obtain ⟨S, a, b, rfl, hS, hb, hb2, q⟩ := h
    refine ⟨_, (pss_cons (ps_par (i := 2) (j := 3) (by rfl) sc_lowest.nd rfl rfl (by decide) rfl rfl (pa_cons (pv 0) (pa_cons (pv 1) pa_nil)) (by rfl))
      (pss_cons (ps_while PassesOwn.never (pt_cmpR op_ne (pv 3) pe_int (nomark _)) (pss_one (ps_par (i := 2) (j := 3) (by rfl) sc_lowest.nd rfl rfl (by decide) rfl rfl (pa_cons (pv 3) (pa_cons (pe_op op_mod (pv 2) (pv 3)) pa_nil)) (by rfl))))
      (pss_one (ps_ret (pe_tup (pa_cons (pe_op op_fdivW (pv 0) (pv 2)) (pa_cons (pe_op op_fdivW (pv 1) (pv 2)) pa_nil))))))), ?_⟩
    walk_at "rds"
    refine ⟨fun m σ H' => ∃ x y : Nat, σ = [some (.int a), some (.int b), some (.int x), some (.int y)] ∧ H' = H ∧ m = y ∧ Nat.gcd x y = Nat.gcd a b ∧ 0 < x + y, ⟨b, a, b, rfl, rfl, rfl, rfl, by omega⟩, fun m σ H' hW => ?_⟩
    obtain ⟨x, y, rfl, rfl, hm, hg, hp⟩ := hW
    rw [hm]
    clear hm m
    walk_at "rds"
    refine rd_ite (fun h1 => ?_) (fun h1 => ?_)
    · have hy : y ≠ 0 := fun z => by subst z; simp at h1
      refine ⟨fun σ' H' => ∃ m', m' < y ∧ ∃ x' y' : Nat, σ' = [some (.int a), some (.int b), some (.int x'), some (.int y')] ∧ H' = _ ∧ m' = y' ∧ Nat.gcd x' y' = Nat.gcd a b ∧ 0 < x' + y', fun σ' H' h => h, ?_⟩
      walk_at "rds"
      exact ⟨_, Nat.mod_lt x (by omega), y, x % y, rfl, rfl, rfl, by rw [← hg, Nat.gcd_comm x y, Nat.gcd_rec y x, Nat.gcd_comm], by omega⟩
    · have hy : y = 0 := by simpa using h1
      subst hy
      have hx : x = Nat.gcd a b := by simpa using hg
      subst hx
      have gb : Nat.gcd a b ≤ b := Nat.gcd_le_right a hb
      walk_at "rds"
      refine rd_I (wide_div (by omega) (show (Nat.gcd a b : Int).natAbs < 2 ^ 8000 by simpa using Nat.lt_of_le_of_lt gb hb2) (by decide) (by decide)) ?_
      walk_at "rds"
      refine rd_I (wide_div (by omega) (show (Nat.gcd a b : Int).natAbs < 2 ^ 8000 by simpa using Nat.lt_of_le_of_lt gb hb2) (by decide) (by decide)) ?_
      walk_at "rds"
      rename_i p np H2 e2 hp2
      exact q _ _ e2 (.newT hS np hp2 (szl (Nat.le_of_ble_eq_true rfl)) (.cons (.int _) (.cons (.int _) .nil)))
def spIsAll (K : PySem.W.Frag) : Sp := fun vs H Q _ => ∃ (c a : Int), vs = [.int c, .int a] ∧ RetB H (decide (0 < a) && decide (c ≤ a)) Q
theorem ok_is_all (T : Fs K mg) (G_is_number : Ok P w K mg base CX0 2 "is_number" s_is_number ["thing"] (spIsNumber K)) : Ok P w K mg base CX0 3 "is_all" s_is_all ["count", "all_keys"] (spIsAll K) := by
  refine ok_mk T.d_is_all sc_is_all (fun vs H Q E h => ?_) (fun f cdv A outer s H vs Q E hr h => ?_)
  · obtain ⟨c, a, rfl, _⟩ := h; rfl
  · obtain ⟨c, a, rfl, q⟩ := h
    refine ⟨_, (pss_one (ps_ret (pe_and (pe_c G_is_number bd_is_number (hr.mono (by omega)) pass0 (pa_cons (pv 1) pa_nil)) (pe_and (pe_cmpR op_gt (pv 1) pe_int (nomark _)) (pe_one (pe_cmpR op_ge (pv 1) (pv 0) (nomark _))))))), ?_⟩
    walk_at "rds"
    refine ⟨_, N0, _, rfl, .int a, fun H1 e1 => ?_⟩
    walk_at "rds"
    refine rd_ite (fun h1 => ?_) (fun h1 => ?_)
    · walk_at "rds"
      refine rd_ite (fun h2 => ?_) (fun h2 => ?_)
      · walk_at "rds"
        simpa [h2] using q _ (by walk_at "ek")
      · walk_at "rds"
        simpa [h2] using q _ (by walk_at "ek")
    · walk_at "rds"
      have h3 : decide (0 < a) = false := by
        have : ¬ (0 ≤ a) := of_decide_eq_false h1
        exact decide_eq_false (by omega)
      simpa [h3] using q _ (by walk_at "ek")
def spNeedCounts : Sp := fun vs H Q _ => ∃ (c a : Int), vs = [.int c, .int a] ∧ 0 ≤ c ∧ 0 < a ∧ c ≤ a ∧ ∀ v H', Ex H H' → Q v H'
theorem ok_need_counts (T : Fs K mg) (G_is_number : Ok P w K mg base CX0 2 "is_number" s_is_number ["thing"] (spIsNumber K)) (G_is_all : Ok P w K mg base CX0 3 "is_all" s_is_all ["count", "all_keys"] (spIsAll K)) : Ok P w K mg base CX0 4 "need_counts" s_need_counts ["count", "all_keys"] spNeedCounts := by
  refine ok_mk T.d_need_counts sc_need_counts (fun vs H Q E h => ?_) (fun f cdv A outer s H vs Q E hr h => ?_)
  · obtain ⟨c, a, rfl, _⟩ := h; rfl
  · obtain ⟨c, a, rfl, h0, h1, h2, q⟩ := h
    refine ⟨_, (pss_cons (ps_if (pt_not (pt_val (pe_c G_is_number bd_is_number (hr.mono (by omega)) pass0 (pa_cons (pv 0) pa_nil)))) pss_never pss_nil)
      (pss_cons (ps_if (pt_not (pt_val (pe_c G_is_all bd_is_all (hr.mono (by omega)) pass0 (pa_cons (pv 0) (pa_cons (pv 1) pa_nil))))) pss_never pss_nil)
      (pss_one (ps_ret (pe_tup (pa_cons (pv 0) (pa_cons (pv 1) pa_nil))))))), ?_⟩
    walk_at "rds"
    refine ⟨_, N0, _, rfl, .int c, fun H1 e1 => ?_⟩
    walk_at "rds"
    refine rd_itef (by simpa [pNum] using h0) ?_
    walk_at "rds"
    refine ⟨_, _, rfl, fun H2 e2 => ?_⟩
    walk_at "rds"
    refine rd_itef (by simpa using ⟨h1, h2⟩) ?_
    walk_at "rds"
    exact q _ _ (by walk_at "ek")
def spNeedOften : Sp := fun vs H Q _ => ∃ (c : Int), vs = [.int c] ∧ 0 ≤ c ∧ RetI H c Q
theorem ok_need_often (T : Fs K mg) (G_is_number : Ok P w K mg base CX0 2 "is_number" s_is_number ["thing"] (spIsNumber K)) : Ok P w K mg base CX0 3 "need_often" s_need_often ["often"] spNeedOften := by
  refine ok_mk T.d_need_often sc_need_often (fun vs H Q E h => ?_) (fun f cdv A outer s H vs Q E hr h => ?_)
  · obtain ⟨c, rfl, _⟩ := h; rfl
  · obtain ⟨c, rfl, h0, q⟩ := h
    refine ⟨_, (pss_cons (ps_if (pt_not (pt_val (pe_c G_is_number bd_is_number (hr.mono (by omega)) pass0 (pa_cons (pv 0) pa_nil)))) pss_never pss_nil)
      (pss_one (ps_ret (pv 0)))), ?_⟩
    walk_at "rds"
    refine ⟨_, N0, _, rfl, .int c, fun H1 e1 => ?_⟩
    walk_at "rds"
    refine rd_itef (by simpa [pNum] using h0) ?_
    walk_at "rds"
    exact q _ (by walk_at "ek")
def spRowsLet (K : PySem.W.Frag) : Sp := fun vs H Q _ => ∃ (S : AS) (c a n : Nat), vs = [.int c, .int a, .int n] ∧ Sok S H ∧ 0 < a ∧ c ≤ a ∧ a ≤ 2 ^ 64 ∧ n ≤ 100 ∧ RetD K S H (.tuple [.int ((c : Int) ^ n), .int ((a : Int) ^ n)]) Q
theorem ok_rows_let (T : Fs K mg) (G_need_counts : Ok P w K mg base CX0 4 "need_counts" s_need_counts ["count", "all_keys"] spNeedCounts) (G_need_often : Ok P w K mg base CX0 3 "need_often" s_need_often ["often"] spNeedOften)
    (G_power_of : Ok P w K mg base CX0 1 "power_of" s_power_of ["number", "often"] spPowerOf) : Ok P w K mg base CX0 5 "rows_let" s_rows_let ["count", "all_keys", "often"] (spRowsLet K) := by
  refine ok_mk T.d_rows_let sc_rows_let (fun vs H Q E h => ?_) (fun f cdv A outer s H vs Q E hr h => ?_)
  · obtain ⟨S, c, a, n, rfl, _⟩ := h; rfl
  · obtain ⟨S, c, a, n, rfl, hS, h1, h2, h3, h4, q⟩ := h
    refine ⟨_, (pss_cons (ps_expr (pe_c G_need_counts bd_need_counts (hr.mono (by omega)) pass0 (pa_cons (pv 0) (pa_cons (pv 1) pa_nil))))
      (pss_cons (ps_set (i := 3) sc_rows_let.nd rfl (.inl rfl) (pe_c G_need_often bd_need_often (hr.mono (by omega)) pass0 (pa_cons (pv 2) pa_nil)))
      (pss_one (ps_ret (pe_tup (pa_cons (pe_c G_power_of bd_power_of (hr.mono (by omega)) pass0 (pa_cons (pv 0) (pa_cons (pv 3) pa_nil))) (pa_cons (pe_c G_power_of bd_power_of (hr.mono (by omega)) pass0 (pa_cons (pv 1) (pa_cons (pv 3) pa_nil))) pa_nil))))))), ?_⟩
    walk_at "rds"
    refine ⟨_, _, rfl, by omega, by omega, by omega, fun _ H1 e1 => ?_⟩
    walk_at "rds"
    refine ⟨_, rfl, by omega, fun H2 e2 => ?_⟩
    walk_at "rds"
    refine ⟨c, n, rfl, by omega, by omega, fun H3 e3 => ?_⟩
    walk_at "rds"
    refine ⟨a, n, rfl, by omega, by omega, fun H4 e4 => ?_⟩
    walk_at "rds"
    rename_i p np H5 e5 hp5
    exact q _ _ (by walk_at "ek") (.newT (S := S) (by walk_at "up") np hp5 (szl (Nat.le_of_ble_eq_true rfl)) (.cons (.int _) (.cons (.int _) .nil)))
def spShareOf (K : PySem.W.Frag) : Sp := fun vs H Q _ => ∃ (S : AS) (c a n : Nat), vs = [.int c, .int a, .int n] ∧ Sok S H ∧ 0 < a ∧ c ≤ a ∧ a ≤ 2 ^ 64 ∧ n ≤ 100 ∧ RetD K S H (pLowest (c ^ n) (a ^ n)) Q
theorem ok_share_of (T : Fs K mg) (G_rows_let : Ok P w K mg base CX0 5 "rows_let" s_rows_let ["count", "all_keys", "often"] (spRowsLet K)) (G_lowest : Ok P w K mg base CX0 1 "lowest" s_lowest ["top", "bottom"] (spLowest K)) : Ok P w K mg base CX0 6 "share_of" s_share_of ["count", "all_keys", "often"] (spShareOf K) := by
  refine ok_mk T.d_share_of sc_share_of (fun vs H Q E h => ?_) (fun f cdv A outer s H vs Q E hr h => ?_)
  · obtain ⟨S, c, a, n, rfl, _⟩ := h; rfl
  · obtain ⟨S, c, a, n, rfl, hS, h1, h2, h3, h4, q⟩ := h
    refine ⟨_, (pss_cons (ps_asg (pe_c G_rows_let bd_rows_let (hr.mono (by omega)) pass0 (pa_cons (pv 0) (pa_cons (pv 1) (pa_cons (pv 2) pa_nil)))) (pgtup (K := K) (pg_tup rfl (pgs_cons (pg_name (i := 3) sc_share_of.nd rfl (.inl rfl)) (pgs_cons (pg_name (i := 4) sc_share_of.nd rfl (.inl rfl)) pgs_nil)))))
      (pss_one (ps_ret (pe_c G_lowest bd_lowest (hr.mono (by omega)) pass0 (pa_cons (pv 3) (pa_cons (pv 4) pa_nil)))))), ?_⟩
    walk_at "rds"
    refine ⟨S, c, a, n, rfl, hS, h1, h2, h3, h4, fun v H1 e1 hv => ?_⟩
    obtain ⟨t, rfl, q1⟩ := hv.ints2
    walk_at "rds"
    refine ⟨S, c ^ n, a ^ n, by simp, by walk_at "up", Nat.pow_pos h1, ?_, fun v2 H2 e2 hv2 => ?_⟩
    · have := pow_size (z := (a : Int)) (k := 64) (by simpa using h3) n
      rw [Int.natAbs_pow] at this
      exact lt_pow_mono (lt_succ_pow this) (by omega)
    walk_at "rds"
    exact q _ _ (by walk_at "ek") hv2
def spNeedShare (K : PySem.W.Frag) : Sp := fun vs H Q _ => ∃ S x d t b, vs = [x] ∧ Sok S H ∧ (d = .list [.int t, .int b] ∨ d = .tuple [.int t, .int b]) ∧ D K S H x d ∧ 0 < t ∧ t ≤ b ∧ RetD K S H (.tuple [.int t, .int b]) Q
theorem ok_need_share (T : Fs K mg) (G_is_row : Ok P w K mg base CX0 2 "is_row" s_is_row ["thing", "many"] (spIsRow K)) (G_is_number : Ok P w K mg base CX0 2 "is_number" s_is_number ["thing"] (spIsNumber K)) : Ok P w K mg base CX0 3 "need_share" s_need_share ["share"] (spNeedShare K) := by
  refine ok_mk T.d_need_share sc_need_share (fun vs H Q E h => ?_) (fun f cdv A outer s H vs Q E hr h => ?_)
  · obtain ⟨S, x, d, t, b, rfl, _⟩ := h; rfl
  · obtain ⟨S, x, d, t, b, rfl, hS, hd, hx, h1, h2, q⟩ := h
    refine ⟨_, (pss_cons (ps_if (PW.pt (pw_or (pt_not (pt_val (pe_c G_is_row bd_is_row (hr.mono (by omega)) pass0 (pa_cons (pv 0) (pa_cons pe_int pa_nil))))) (pw_or (pt_not (pt_val (pe_callB (crall (K := K) rfl) (by rfl) T.m_all (by decide +kernel) (pa_cons (pe_lc (own := [("one", 1)]) (g := (gName 1)) rfl sc_need_share.nd (piseq (K := K) (pv 0)) (blkOk_by (N := ["share", "one"]) (sc := defScope s_need_share) (by decide +kernel)) (fun _ _ _ _ _ => (pg_name (i := 1) sc_need_share.nd rfl (.inl rfl))) (fun _ _ _ _ _ => pts_nil) (fun _ _ _ _ _ => (pe_c G_is_number bd_is_number (hr.mono (by omega)) pass0 (pa_cons (pv 1) pa_nil)))) pa_nil)))) (pw_or1 (pt_not (pt_chain op_lt op_le pe_int (pe_ix (ixq (K := K)) (pv 0) pe_int (fun _ _ => rfl)) (pe_ix (ixq (K := K)) (pv 0) pe_int (fun _ _ => rfl)))))))) pss_never pss_nil)
      (pss_one (ps_ret (pe_callTy (cto (K := K)) (by rfl) T.m_tuple (by decide +kernel) (pa_cons (pv 0) pa_nil))))), ?_⟩
    walk_at "rds"
    refine ⟨_, S, d, 2, rfl, hx, fun H1 e1 => ?_⟩
    walk_at "rds"
    refine rd_itef (by rcases hd with rfl | rfl <;> rfl) ?_
    walk_at "rds"
    refine lc_map (S := S) rfl (hx.ex e1) hd (hS.ek e1) (fun d => .bool (pNum d)) (fun S' y dy H2 _ hS2 hy _ _ R hR => ?_) (fun p ws H2 e2 np hp hds _ => ?_)
    · walk_at "rds"
      refine ⟨y, S', dy, rfl, hy, fun H3 e3 => hR _ _ e3 (.bl _)⟩
    walk_at "rds"
    refine rd_allD (S := S) (bs := [pNum (.int t), pNum (.int b)]) hp hds ?_
    walk_at "rds"
    refine rd_itef (by simp [pNum]; omega) ?_
    walk_at "rds"
    have hx2 : D K S H2 x d := by walk_at "up"
    have hat : atI [V.int t, V.int b] 0 = some (.int t) ∧ atI [V.int t, V.int b] 1 = some (.int b) := ⟨rfl, rfl⟩
    obtain ⟨a, xs, rfl, hsq, hxs⟩ : ∃ a xs, x = .ref a ∧ (SqL K H2 a xs ∨ SqT K H2 a xs) ∧ xs = [V.int t, V.int b] := by
      rcases hd with rfl | rfl
      · obtain ⟨a, xs, rfl, q1, l1, r1, _⟩ := hx2.list
        exact ⟨a, xs, rfl, .inl q1, Ds.of_ints (ns := [t, b]) r1⟩
      · obtain ⟨a, xs, rfl, q1, l1, r1, _⟩ := hx2.tuple
        exact ⟨a, xs, rfl, .inr q1, Ds.of_ints (ns := [t, b]) r1⟩
    subst hxs
    refine rd_ixQ hsq hat.1 ?_
    walk_at "rds"
    refine rd_itet (by simpa using h1) ?_
    walk_at "rds"
    refine rd_ixQ hsq hat.2 ?_
    walk_at "rds"
    refine rd_itef (by simpa using h2) ?_
    walk_at "rds"
    exact rd_tupleD hx2 hd (by walk_at "up") fun v H3 e3 d3 => q _ _ (by walk_at "ek") d3
/-- the least number of keys, from many on -/
def fewFrom (c a : Int) (t b : Int) : Nat → Nat → Int → Int → PyData
  | 0, _, _, _ => .tuple [.str "more"]
  | k + 1, many, l, r => if l * b ≤ t * r then .tuple [.str "keys", .int many] else fewFrom c a t b k (many + 1) (l * c) (r * a)
def pFewest (c a t b : Int) : PyData := fewFrom c a t b 101 0 1 1
def spFewestKeys (K : PySem.W.Frag) : Sp := fun vs H Q _ => ∃ (S : AS) (c a t b : Int) (x : V) (d : PyData), vs = [.int c, .int a, x] ∧ Sok S H ∧ 0 ≤ c ∧ 0 < a ∧ c ≤ a ∧ a ≤ 2 ^ 64 ∧ (d = .list [.int t, .int b] ∨ d = .tuple [.int t, .int b]) ∧ D K S H x d ∧ 0 < t ∧ t ≤ b ∧ b ≤ 2 ^ 200 ∧ RetD K S H (pFewest c a t b) Q
theorem ok_fewest_keys (T : Fs K mg) (G_need_counts : Ok P w K mg base CX0 4 "need_counts" s_need_counts ["count", "all_keys"] spNeedCounts) (G_need_share : Ok P w K mg base CX0 3 "need_share" s_need_share ["share"] (spNeedShare K)) : Ok P w K mg base CX0 5 "fewest_keys" s_fewest_keys ["count", "all_keys", "share"] (spFewestKeys K) := by
  refine ok_mk T.d_fewest_keys sc_fewest_keys (fun vs H Q E h => ?_) (fun f cdv A outer s H vs Q E hr h => ?_)
  · obtain ⟨S, c, a, t, b, x, d, rfl, _⟩ := h; rfl
  · obtain ⟨S, c, a, t, b, x, d, rfl, hS, h1, h2, h3, h4, hd, hx, h5, h6, h7, q⟩ := h
    refine ⟨_, (pss_cons (ps_expr (pe_c G_need_counts bd_need_counts (hr.mono (by omega)) pass0 (pa_cons (pv 0) (pa_cons (pv 1) pa_nil))))
      (pss_cons (ps_asg (pe_c G_need_share bd_need_share (hr.mono (by omega)) pass0 (pa_cons (pv 2) pa_nil)) (pgtup (K := K) (pg_tup rfl (pgs_cons (pg_name (i := 3) sc_fewest_keys.nd rfl (.inl rfl)) (pgs_cons (pg_name (i := 4) sc_fewest_keys.nd rfl (.inl rfl)) pgs_nil)))))
      (pss_cons (ps_asg (pe_tup (pa_cons pe_int (pa_cons pe_int pa_nil))) (pgtup (K := K) (pg_tup rfl (pgs_cons (pg_name (i := 5) sc_fewest_keys.nd rfl (.inl rfl)) (pgs_cons (pg_name (i := 6) sc_fewest_keys.nd rfl (.inl rfl)) pgs_nil)))))
      (pss_cons (ps_for PassesOwn.never rfl (pi_range1 (by rfl) T.m_range (pa_cons (pe_op op_add (pe_glob (v := .int 100) rfl T.c_KEYS.choose_spec ⟨_, rfl⟩) pe_int) pa_nil)) (pg_name (i := 7) sc_fewest_keys.nd rfl (.inl rfl)) (pss_cons (ps_if (pt_cmpR op_le (pe_op op_mulW (pv 5) (pv 4)) (pe_op op_mulW (pv 3) (pv 6)) (nomark _)) (pss_one (ps_ret (pe_tup (pa_cons pe_str (pa_cons (pv 7) pa_nil))))) pss_nil)
      (pss_one (ps_par (i := 5) (j := 6) (by rfl) sc_fewest_keys.nd rfl rfl (by decide) rfl rfl (pa_cons (pe_op op_mulW (pv 5) (pv 0)) (pa_cons (pe_op op_mulW (pv 6) (pv 1)) pa_nil)) (by rfl)))))
      (pss_one (ps_ret (pe_tup (pa_cons pe_str pa_nil)))))))), ?_⟩
    walk_at "rds"
    refine ⟨_, _, rfl, h1, h2, h3, fun _ H1 e1 => ?_⟩
    walk_at "rds"
    refine ⟨S, x, d, t, b, rfl, hS.ek e1, hd, hx.ex e1, h5, h6, fun v H2 e2 hv => ?_⟩
    obtain ⟨tp, rfl, q1⟩ := hv.ints2
    walk_at "rds"
    rename_i _ _ H2 e2' _
    walk_at "for"
    refine for_src (T := N0) src_r (fun i σ H' => ∃ u l r, σ = [some (.int c), some (.int a), some x, some (.int t), some (.int b), some (.int l), some (.int r), u] ∧ H' = H2 ∧ l = c ^ i ∧ r = a ^ i ∧ pFewest c a t b = fewFrom c a t b (101 - i) i l r) ⟨none, 1, 1, rfl, rfl, by simp, by simp, rfl⟩ (fun i σ H' _ ⟨u, _, _, _, e, _⟩ => by rw [e]; exact .refl _) (fun i y σ H' H3 hi p y => ?_) (fun σ H' p => ?_)
    · obtain ⟨u, l, r, rfl, rfl, hl, hr2, hf⟩ := p
      obtain ⟨rfl, rfl⟩ := y
      have hc : c.natAbs ≤ 2 ^ 64 := by omega
      have ha : a.natAbs ≤ 2 ^ 64 := by omega
      have hi2 : i < 101 := hi
      have sl := pow_size hc i
      have sr := pow_size ha i
      rw [← hl] at sl
      rw [← hr2] at sr
      walk_at "rds"
      refine rd_I (wide_mul (b := 201) (lt_succ_pow sl) (lt_succ_pow (k := 200) (by omega)) (by omega) (by omega) (by omega)) ?_
      walk_at "rds"
      refine rd_I (wide_mul (a := 201) (lt_succ_pow (k := 200) (by omega)) (lt_succ_pow sr) (by omega) (by omega) (by omega)) ?_
      walk_at "rds"
      have e101 : 101 - i = (101 - (i + 1)) + 1 := by omega
      rw [e101] at hf
      unfold fewFrom at hf
      refine rd_dite (fun h8 => ?_) (fun h8 => ?_)
      · rw [if_pos h8] at hf
        walk_at "rds"
        rename_i p np H4 e4 hp4
        refine q _ _ (by walk_at "ek") ?_
        rw [hf]
        exact .newT (S := S) (by walk_at "up") np hp4 (szl (Nat.le_of_ble_eq_true rfl)) (.cons (.str _) (.cons (by simpa using .int _) .nil))
      · rw [if_neg h8] at hf
        walk_at "rds"
        refine rd_I (wide_mul (lt_succ_pow sl) (lt_succ_pow hc) (by omega) (by omega) (by omega)) ?_
        walk_at "rds"
        refine rd_I (wide_mul (lt_succ_pow sr) (lt_succ_pow ha) (by omega) (by omega) (by omega)) ?_
        walk_at "rds"
        exact ⟨_, _, _, rfl, rfl, by rw [hl, Int.pow_succ], by rw [hr2, Int.pow_succ], hf⟩
    · obtain ⟨u, l, r, rfl, rfl, hl, hr2, hf⟩ := p
      walk_at "rds"
      rename_i p np H4 e4 hp4
      refine q _ _ (by walk_at "ek") ?_
      rw [hf]
      exact .newT (S := S) (by walk_at "up") np hp4 (szl (Nat.le_of_ble_eq_true rfl)) (.cons (.str _) .nil)
/-- a pair of how many let by and how many there are -/
def IsPair (d : PyData) (c a : Nat) : Prop := d = .list [.int c, .int a] ∨ d = .tuple [.int c, .int a]
def spAreCounts (K : PySem.W.Frag) : Sp := fun vs H Q _ => ∃ S x d, ∃ c a : Nat, vs = [x] ∧ D K S H x d ∧ IsPair d c a ∧ c ≤ a ∧ 0 < a ∧ RetB H true Q
theorem ok_are_counts (T : Fs K mg) (G_is_row : Ok P w K mg base CX0 2 "is_row" s_is_row ["thing", "many"] (spIsRow K)) (G_is_number : Ok P w K mg base CX0 2 "is_number" s_is_number ["thing"] (spIsNumber K))
    (G_is_all : Ok P w K mg base CX0 3 "is_all" s_is_all ["count", "all_keys"] (spIsAll K)) : Ok P w K mg base CX0 4 "are_counts" s_are_counts ["thing"] (spAreCounts K) := by
  refine ok_mk T.d_are_counts sc_are_counts (fun vs H Q E h => ?_) (fun f cdv A outer s H vs Q E hr h => ?_)
  · obtain ⟨S, x, d, c, a, rfl, _⟩ := h; rfl
  · obtain ⟨S, x, d, c, a, rfl, hx, hd, h1, h2, q⟩ := h
    refine ⟨_, (pss_one (ps_ret (pe_and (pe_c G_is_row bd_is_row (hr.mono (by omega)) pass0 (pa_cons (pv 0) (pa_cons pe_int pa_nil))) (pe_and (pe_c G_is_number bd_is_number (hr.mono (by omega)) pass0 (pa_cons (pe_ix (ixq (K := K)) (pv 0) pe_int (fun _ _ => rfl)) pa_nil)) (pe_one (pe_c G_is_all bd_is_all (hr.mono (by omega)) pass0 (pa_cons (pe_ix (ixq (K := K)) (pv 0) pe_int (fun _ _ => rfl)) (pa_cons (pe_ix (ixq (K := K)) (pv 0) pe_int (fun _ _ => rfl)) pa_nil)))))))), ?_⟩
    walk_at "rds"
    refine ⟨_, S, d, 2, rfl, hx, fun H1 e1 => ?_⟩
    walk_at "rds"
    refine rd_itet (by rcases hd with rfl | rfl <;> rfl) ?_
    walk_at "rds"
    refine rd_ixD (i := 0) (hx.ex e1) hd rfl fun v hv => ?_
    walk_at "rds"
    refine ⟨v, S, _, rfl, hv, fun H2 e2 => ?_⟩
    walk_at "rds"
    refine rd_itet (by simp [pNum]) ?_
    walk_at "rds"
    have hx2 : D K S H2 x d := by walk_at "up"
    refine rd_ixD (i := 0) hx2 hd rfl fun v hv => ?_
    cases hv
    walk_at "rds"
    refine rd_ixD (i := 1) hx2 hd rfl fun v hv => ?_
    cases hv
    walk_at "rds"
    refine ⟨_, _, rfl, fun H3 e3 => ?_⟩
    walk_at "rds"
    rw [show (decide ((0 : Int) < a) && decide ((c : Int) ≤ a)) = true by simp; omega]
    exact q _ (by walk_at "ek")
def prods (ps : List (Nat × Nat)) : Nat × Nat := (ps.foldl (fun z (p : Nat × Nat) => z * p.1) 1, ps.foldl (fun z (p : Nat × Nat) => z * p.2) 1)
/-- a list of such pairs -/
def ArePairs (ds : List PyData) (ps : List (Nat × Nat)) : Prop := ds.length = ps.length ∧ ∀ (i : Nat) (d : PyData) (p : Nat × Nat), ds[i]? = some d → ps[i]? = some p → IsPair d p.1 p.2
def spJointShare (K : PySem.W.Frag) : Sp := fun vs H Q _ => ∃ S x d ds, ∃ ps : List (Nat × Nat), vs = [x] ∧ Sok S H ∧ D K S H x d ∧ (d = .list ds ∨ d = .tuple ds) ∧ ArePairs ds ps ∧ ps.length ≤ 10 ∧ (∀ p ∈ ps, p.1 ≤ p.2 ∧ 0 < p.2 ∧ p.2 ≤ 2 ^ 64) ∧ RetD K S H (pLowest (prods ps).1 (prods ps).2) Q
theorem prods_step {ps : List (Nat × Nat)} {i : Nat} {p : Nat × Nat} (h : ps[i]? = some p) : prods (ps.take (i + 1)) = ((prods (ps.take i)).1 * p.1, (prods (ps.take i)).2 * p.2) := by
  unfold prods
  rw [List.take_add_one, h]
  simp
theorem prods_size : ∀ {ps : List (Nat × Nat)} {i : Nat}, (∀ p ∈ ps, p.1 ≤ p.2 ∧ 0 < p.2 ∧ p.2 ≤ 2 ^ 64) → i ≤ ps.length → (prods (ps.take i)).1 ≤ (prods (ps.take i)).2 ∧ 0 < (prods (ps.take i)).2 ∧ (prods (ps.take i)).2 ≤ 2 ^ (64 * i)
  | ps, 0, _, _ => by simp [prods]
  | ps, i + 1, h, hi => by
    obtain ⟨a, b, c⟩ := prods_size (ps := ps) (i := i) h (by omega)
    have e : ps[i]? = some ps[i] := List.getElem?_eq_getElem (by omega)
    obtain ⟨a2, b2, c2⟩ := h _ (List.mem_of_getElem? e)
    rw [prods_step e]
    refine ⟨Nat.mul_le_mul a a2, Nat.mul_pos b b2, ?_⟩
    rw [Nat.mul_succ, Nat.pow_add]
    exact Nat.mul_le_mul c c2
theorem ok_joint_share (T : Fs K mg) (G_is_list : Ok P w K mg base CX0 1 "is_list" s_is_list ["thing"] (spIsList K)) (G_are_counts : Ok P w K mg base CX0 4 "are_counts" s_are_counts ["thing"] (spAreCounts K))
    (G_lowest : Ok P w K mg base CX0 1 "lowest" s_lowest ["top", "bottom"] (spLowest K)) : Ok P w K mg base CX0 5 "joint_share" s_joint_share ["pairs"] (spJointShare K) := by
  refine ok_mk T.d_joint_share sc_joint_share (fun vs H Q E h => ?_) (fun f cdv A outer s H vs Q E hr h => ?_)
  · obtain ⟨S, x, d, ds, ps, rfl, _⟩ := h; rfl
  · obtain ⟨S, x, d, ds, ps, rfl, hS, hx, hd, hp, hl, hb, q⟩ := h
    refine ⟨_, (pss_cons (ps_if (PW.pt (pw_or (pt_not (pt_val (pe_c G_is_list bd_is_list (hr.mono (by omega)) pass0 (pa_cons (pv 0) pa_nil)))) (pw_or1 (pt_not (pt_val (pe_callB (crall (K := K) rfl) (by rfl) T.m_all (by decide +kernel) (pa_cons (pe_lc (own := [("one", 5)]) (g := (gName 5)) rfl sc_joint_share.nd (piseq (K := K) (pv 0)) (blkOk_by (N := ["pairs", "let", "rows", "count", "all_keys", "one"]) (sc := defScope s_joint_share) (by decide +kernel)) (fun _ _ _ _ _ => (pg_name (i := 5) sc_joint_share.nd rfl (.inl rfl))) (fun _ _ _ _ _ => pts_nil) (fun _ _ _ _ _ => (pe_c G_are_counts bd_are_counts (hr.mono (by omega)) pass0 (pa_cons (pv 5) pa_nil)))) pa_nil))))))) pss_never pss_nil)
      (pss_cons (ps_asg (pe_tup (pa_cons pe_int (pa_cons pe_int pa_nil))) (pgtup (K := K) (pg_tup rfl (pgs_cons (pg_name (i := 1) sc_joint_share.nd rfl (.inl rfl)) (pgs_cons (pg_name (i := 2) sc_joint_share.nd rfl (.inl rfl)) pgs_nil)))))
      (pss_cons (ps_for PassesOwn.never rfl (piseq (K := K) (pv 0)) (pgseq (K := K) rfl (pg_tup rfl (pgs_cons (pg_name (i := 3) sc_joint_share.nd rfl (.inl rfl)) (pgs_cons (pg_name (i := 4) sc_joint_share.nd rfl (.inl rfl)) pgs_nil))) (pg_lst rfl (pgs_cons (pg_name (i := 3) sc_joint_share.nd rfl (.inl rfl)) (pgs_cons (pg_name (i := 4) sc_joint_share.nd rfl (.inl rfl)) pgs_nil)))) (pss_one (ps_par (i := 1) (j := 2) (by rfl) sc_joint_share.nd rfl rfl (by decide) rfl rfl (pa_cons (pe_op op_mulW (pv 1) (pv 3)) (pa_cons (pe_op op_mulW (pv 2) (pv 4)) pa_nil)) (by rfl))))
      (pss_one (ps_ret (pe_c G_lowest bd_lowest (hr.mono (by omega)) pass0 (pa_cons (pv 1) (pa_cons (pv 2) pa_nil)))))))), ?_⟩
    walk_at "rds"
    refine ⟨_, S, d, rfl, hx, fun H1 e1 => ?_⟩
    walk_at "rds"
    refine rd_itef (by rcases hd with rfl | rfl <;> rfl) ?_
    walk_at "rds"
    refine lc_map (S := S) rfl (hx.ex e1) hd (hS.ek e1) (fun d => .bool true) (fun S' y dy H2 hm hS2 hy _ _ R hR => ?_) (fun p ws H2 e2 np hp2 hds _ => ?_)
    · walk_at "rds"
      obtain ⟨i, hi, e⟩ := List.getElem_of_mem hm
      have h3 := hp.2 i dy _ (by rw [← e]; exact List.getElem?_eq_getElem hi) (List.getElem?_eq_getElem (by rw [← hp.1]; exact hi))
      obtain ⟨b1, b2, b3⟩ := hb _ (List.mem_of_getElem? (List.getElem?_eq_getElem (by rw [← hp.1]; exact hi)))
      exact ⟨S', y, dy, _, _, rfl, hy, h3, b1, b2, fun H3 e3 => hR _ _ e3 (.bl _)⟩
    walk_at "rds"
    refine rd_allD (S := S) (bs := ds.map fun _ => true) hp2 (by rw [List.map_map]; exact hds) ?_
    walk_at "rds"
    refine rd_itef (by simp) ?_
    walk_at "rds"
    rename_i _ _ H3 e3 _
    walk_at "for"
    refine rd_seqV rfl (show D K S H3 x d by walk_at "up") hd fun a xs J ex hl2 hds2 src => ?_
    have hlen := hds2.length
    refine for_src src.n0 (fun i σ H' => ∃ u v, ∃ l r : Nat, σ = [some x, some (.int l), some (.int r), u, v, none] ∧ H' = H3 ∧ (l, r) = prods (ps.take i)) ⟨none, none, 1, 1, rfl, rfl, rfl⟩ (fun i σ H' _ ⟨u, _, _, _, _, e, _⟩ => by rw [e]; exact .refl _) (fun i y σ H' H4 hi p yy => ?_) (fun σ H' p => ?_)
    · obtain ⟨u, v, l, r, rfl, e9, hlr⟩ := p
      obtain ⟨e8, hy⟩ := yy
      subst e8
      subst e9
      obtain ⟨dy, hdy, hD⟩ := hds2.get hy
      have hi2 : i < ps.length := by rw [← hp.1, ← hlen]; exact hi
      have hpi : ps[i]? = some ps[i] := List.getElem?_eq_getElem hi2
      obtain ⟨b1, b2, b3⟩ := hb _ (List.mem_of_getElem? hpi)
      obtain ⟨s1, s2, s3⟩ := prods_size (i := i) hb (by omega)
      rw [← hlr] at s1 s2 s3
      dsimp only at s1 s2 s3
      have s4 : r ≤ 2 ^ 640 := Nat.le_trans s3 (two_pow_le (by omega))
      obtain ⟨b, hys, rfl⟩ : ∃ b, (SqT K _ b [V.int (ps[i]).1, V.int (ps[i]).2] ∨ SqL K _ b [V.int (ps[i]).1, V.int (ps[i]).2]) ∧ y = .ref b := by
        rcases hp.2 i dy _ hdy hpi with rfl | rfl
        · obtain ⟨b, zs, rfl, q1, _, r1, _⟩ := hD.list
          have := Ds.of_ints (ns := [((ps[i]).1 : Int), ((ps[i]).2 : Int)]) r1
          subst this
          exact ⟨b, .inr q1, rfl⟩
        · obtain ⟨b, zs, rfl, q1, _, r1, _⟩ := hD.tuple
          have := Ds.of_ints (ns := [((ps[i]).1 : Int), ((ps[i]).2 : Int)]) r1
          subst this
          exact ⟨b, .inl q1, rfl⟩
      refine rd_gseq hys rfl ?_
      walk_at "rds"
      refine rd_I (wide_mul (a := 641) (b := 65) (lt_succ_pow (by simp; omega)) (lt_succ_pow (by simp; omega)) (by omega) (by omega) (by omega)) ?_
      walk_at "rds"
      refine rd_I (wide_mul (a := 641) (b := 65) (lt_succ_pow (by simp; omega)) (lt_succ_pow (by simp; omega)) (by omega) (by omega) (by omega)) ?_
      walk_at "rds"
      refine ⟨_, _, l * (ps[i]).1, r * (ps[i]).2, rfl, rfl, ?_⟩
      rw [prods_step hpi, ← hlr]
    · obtain ⟨u, v, l, r, rfl, rfl, hlr⟩ := p
      rw [hlen, hp.1, List.take_length] at hlr
      obtain ⟨s1, s2, s3⟩ := prods_size (i := ps.length) hb (Nat.le_refl _)
      rw [List.take_length, ← hlr] at s1 s2 s3
      dsimp only at s1 s2 s3
      walk_at "rds"
      refine ⟨S, l, r, rfl, by walk_at "up", s2, Nat.lt_of_le_of_lt s3 (Nat.pow_lt_pow_right (by decide) (by omega)), fun v H4 e4 hv => q _ _ (by walk_at "ek") ?_⟩
      rw [← hlr]
      exact hv
end
end My
namespace My
open PySem PySem.Spec PyProof.Rows L2 Lk
section
variable {P : Program} {w : World} {K : PySem.W.Frag} {mg : Str → Option Value} {base : Heap}
def spDraw (K : PySem.W.Frag) : Sp := fun vs H Q _ => ∃ (S : AS) (st : Addr) (n : Nat) (m : Int), vs = [.ref st, .int m] ∧ Strm S H st n ∧ n < 2 ^ 40 ∧ 0 < m ∧ Fit m ∧ ∀ H' d, Ek S H H' → Strm S H' st (n + 1) → 0 ≤ d → d < m → Q (.int d) H'
theorem ok__law_draw (T : Fs K mg) : Ok P w K mg base CX0 1 "_law_draw" s__law_draw ["stream", "many"] (spDraw K) := by
  refine ok_mk T.d__law_draw sc__law_draw (fun vs H Q E h => ?_) (fun f cdv A outer s H vs Q E hr h => ?_)
  · obtain ⟨S, st, n, m, rfl, _⟩ := h; rfl
  · obtain ⟨S, st, n, m, rfl, hs, hn, hm, hf, q⟩ := h
    obtain ⟨cl, a, k, c, ns, h1, h2, h3, h4, h5, h6, h7, h8, h9, h10, hsz⟩ := hs.ex
    refine ⟨_, (pss_cons (ps_asg (pe_op op_add (pe_ix (ixq (K := K)) (pv 0) pe_int (fun _ _ => rfl)) pe_int) (pg_sub (pv 0) pe_int set_list))
      (pss_cons (ps_while PassesOwn.never (PW.pt (pw_and (pt_cmpR op_eq (pe_ix (ixq (K := K)) (pv 0) pe_int (fun _ _ => rfl)) pe_int (nomark _)) (pw_and1 (pt_cmpR (opned (K := K) hr.units) (pe_ix (ixq (K := K)) (pv 0) pe_int (fun _ _ => rfl)) (pe_lst pa_nil) (nomark _))))) (pss_cons (ps_set (i := 2) sc__law_draw.nd rfl (.inl rfl) (pe_callB call_abs (by rfl) T.m_abs (by decide +kernel) (pa_cons (bm (K := K) (pe_bm PySem.F.plainAttrs_list PySem.F.slot_list_pop PySem.F.type_list_pop mt_popAt (pe_ix (ixq (K := K)) (pv 0) pe_int (fun _ _ => rfl)) (pa_cons pe_int pa_nil))) pa_nil)))
      (pss_cons (ps_asg (pe_op op_mod (pe_callTy call_int1 (by rfl) T.m_int (by decide +kernel) (pa_cons (pe_op op_add (pe_op op_add (pe_op op_mulW (pe_ix (ixq (K := K)) (pv 0) pe_int (fun _ _ => rfl)) pe_int) (pv 2)) pe_int) pa_nil)) pe_int) (pg_sub (pv 0) pe_int set_list))
      (pss_one (ps_asg (pe_ifExp (pt_cmpR op_ge (pv 2) (pe_op op_pow pe_int pe_int) (nomark _)) (pv 2) pe_int) (pg_sub (pv 0) pe_int set_list))))))
      (pss_cons (ps_if (pt_cmpR op_gt (pe_ix (ixq (K := K)) (pv 0) pe_int (fun _ _ => rfl)) pe_int (nomark _)) (pss_cons (ps_set (i := 3) sc__law_draw.nd rfl (.inl rfl) (pe_op op_mod (pe_callTy call_int1 (by rfl) T.m_int (by decide +kernel) (pa_cons (pe_ix (ixq (K := K)) (pv 0) pe_int (fun _ _ => rfl)) pa_nil)) (pv 1)))
      (pss_cons (ps_asg (pe_op op_fdivW (pe_ix (ixq (K := K)) (pv 0) pe_int (fun _ _ => rfl)) (pv 1)) (pg_sub (pv 0) pe_int set_list))
      (pss_one (ps_ret (pv 3))))) pss_nil)
      (pss_cons (ps_set (i := 4) sc__law_draw.nd rfl (.inl rfl) (pe_op op_mod (pe_callTy call_int1 (by rfl) T.m_int (by decide +kernel) (pa_cons (pe_op op_pow (pe_op op_add (pe_op op_add (pe_ix (ixq (K := K)) (pv 0) pe_int (fun _ _ => rfl)) (pe_op op_mulW pe_int (pe_ix (ixq (K := K)) (pv 0) pe_int (fun _ _ => rfl)))) pe_int) pe_int) pa_nil)) pe_int))
      (pss_one (ps_ret (pe_op op_mod (pe_op op_mod (pe_callTy call_int1 (by rfl) T.m_int (by decide +kernel) (pa_cons (pe_op op_pow (pe_op op_add (pe_op op_add (pe_op op_mulW (pv 4) pe_int) (pe_op op_mulW pe_int (pe_ix (ixq (K := K)) (pv 0) pe_int (fun _ _ => rfl)))) pe_int) pe_int) pa_nil)) pe_int) (pv 1)))))))), ?_⟩
    walk_at "rds"
    refine rd_setL h1 rfl fun H1 e1 g1 => ?_
    have g2 : H1 cl = some (.lst (ns.map V.int)) := e1.keep _ _ (fun z => h3 z.symm) h2
    have e1 : Ek S H H1 := e1.mono fun a z => by rw [z]; exact h4
    walk_at "rds"
    refine ⟨fun mm σ H' => ∃ (a c : Int) (ns : List Int) (u : Option V), σ = [some (.ref st), some (.int m), u, none, none] ∧ mm = ns.length ∧ H' st = some (.lst [.ref cl, .int a, .int (k + 1), .int c]) ∧ H' cl = some (.lst (ns.map V.int)) ∧ (ns.map V.int).length ≤ sizeLine ∧ 0 ≤ a ∧ 0 ≤ c ∧ c < 2147483647 ∧ Ek S H H',
      ⟨_, a, c, ns, none, rfl, rfl, g1, g2, hsz, h6, h9, h10, e1⟩, fun mm σ H' hW => ?_⟩
    clear g1 g2 e1 h1 h2 hsz h6 h9 h10 a c ns
    obtain ⟨a, c, ns, u, rfl, rfl, g1, g2, hsz, h6, h9, h10, e1⟩ := hW
    refine cutT (fun b H2 => H2 st = some (.lst [.ref cl, .int a, .int (k + 1), .int c]) ∧ H2 cl = some (.lst (ns.map V.int)) ∧ Ek S H H2 ∧ (b = true → ns ≠ [])) (fun R' hR => ?_) (fun b H2 hb => ?_)
    · walk_at "rds"
      refine rd_ite (fun h11 => ?_) (fun h11 => ?_)
      · walk_at "rds"
        rename_i p np H2 e2 g3
        have g4 : H2 cl = some (.lst (ns.map V.int)) := e2.at g2
        refine rd_neD (S := N0) (T := N0) (d := .list (ns.map PyData.int)) (e := .list []) ?_ ?_ (shaped_ints _) (shaped_ints []) ?_
        · exact .lst (fun z => z) g4 hsz (.ints _)
        · exact .lst (fun z => z) g3 (Nat.zero_le _) .nil
        walk_at "rds"
        refine hR _ _ ⟨e2.at g1, g4, e1.trans (.of e2), fun z => ?_⟩
        rw [eqv_nil] at z
        intro y
        rw [y] at z
        cases z
      · exact hR _ _ ⟨g1, g2, e1, fun z => by cases z⟩
    · clear g1 g2 e1 H'
      obtain ⟨g1, g2, e1, hne⟩ := hb
      refine rd_ite (fun h11 => ?_) (fun h11 => ?_)
      · refine ⟨_, fun _ _ h => h, ?_⟩
        obtain ⟨z, ns, rfl⟩ : ∃ z r, ns = z :: r := by
          cases ns with
          | nil => exact absurd rfl (hne h11)
          | cons z r => exact ⟨z, r, rfl⟩
        walk_at "rds"
        refine rd_tyL (.inl (.inl g2)) ?_
        walk_at "rds"
        refine rd_pop0 g2 fun H3 e3 g3 => ?_
        walk_at "rds"
        have g1' : H3 st = some (.lst [.ref cl, .int a, .int (k + 1), .int c]) := e3.keep _ _ h3 g1
        have hsz' : (ns.map V.int).length ≤ sizeLine := Nat.le_of_succ_le hsz
        have e1' : Ek S H H3 := e1.trans (e3.mono fun a z => by rw [z]; exact h5)
        generalize hz : (if z < 0 then -z else z) = zz
        have hz0 : 0 ≤ zz := by rw [← hz]; split <;> omega
        clear hz g1 g2 e1 e3 H2 hsz
        walk_at "rds"
        refine rd_I (wide_mul (a := 40) (b := 40) (by omega) (by decide) (by decide) (by decide) (by decide)) ?_
        walk_at "rds"
        generalize hc : (c * 8191 + zz + 3) % 2147483647 = cc
        have hc0 : 0 ≤ cc ∧ cc < 2147483647 := by omega
        refine rd_setL g1' rfl fun H4 e4 g4 => ?_
        have g5 : H4 cl = some (.lst (ns.map V.int)) := e4.keep _ _ (fun z => h3 z.symm) g3
        have e5 : Ek S H H4 := e1'.trans (e4.mono fun a z => by rw [z]; exact h4)
        clear e4 g3 e1' g1' H3
        walk_at "rds"
        have last : ∀ y : Int, 0 ≤ y → rSetL (.ref st) (.int 1) (.int y) H4 fun H3 => ∃ m', m' < (z :: ns).length ∧ ∃ (a c : Int) (ns : List Int) (v : Option V), ([some (.ref st), some (.int m), u, none, none].set 2 (some (.int zz)) : L2.St) = [some (.ref st), some (.int m), v, none, none] ∧ m' = ns.length ∧ H3 st = some (.lst [.ref cl, .int a, .int (k + 1), .int c]) ∧ H3 cl = some (.lst (ns.map V.int)) ∧ (ns.map V.int).length ≤ sizeLine ∧ 0 ≤ a ∧ 0 ≤ c ∧ c < 2147483647 ∧ Ek S H H3 := by
          intro y hy
          refine rd_setL g4 rfl fun H5 e6 g6 => ?_
          exact ⟨_, Nat.lt_succ_self _, y, cc, ns, _, rfl, rfl, g6, e6.keep _ _ (fun z => h3 z.symm) g5, hsz', hy, hc0.1, hc0.2, e5.trans (e6.mono fun a z => by rw [z]; exact h4)⟩
        refine rd_dite (fun h12 => ?_) (fun h12 => ?_)
        · walk_at "rds"
          exact last _ hz0
        · walk_at "rds"
          exact last _ (by omega)
      · walk_at "rds"
        refine rd_dite (fun h12 => ?_) (fun h12 => ?_)
        · walk_at "rds"
          refine rd_I (fit_div hm hf) ?_
          walk_at "rds"
          refine rd_setL g1 rfl fun H3 e3 g3 => ?_
          walk_at "rds"
          refine q _ _ (e1.trans (e3.mono fun a z => by rw [z]; exact h4)) ⟨cl, _, _, _, ns, g3, e3.keep _ _ (fun z => h3 z.symm) g2, h3, h4, h5, ?_, by omega, by push_cast; omega, h9, h10, hsz⟩ (Int.emod_nonneg _ (by omega)) (Int.emod_lt_of_pos _ hm)
          exact Int.ediv_nonneg h6 (by omega)
        · walk_at "rds"
          refine rd_I (wide_mul (a := 20) (b := 42) (by decide) (by omega) (by decide) (by decide) (by decide)) ?_
          walk_at "rds"
          refine rd_I ⟨by decide, by decide, by omega⟩ ?_
          walk_at "rds"
          generalize hmx : (c + 7919 * (k + 1) + 104729) ^ (5 : Int).toNat % 2147483629 = mx
          have hm0 : 0 ≤ mx ∧ mx < 2147483629 := by
            rw [← hmx]
            exact ⟨Int.emod_nonneg _ (by decide), Int.emod_lt_of_pos _ (by decide)⟩
          refine rd_I (wide_mul (a := 40) (b := 20) (by omega) (by decide) (by decide) (by decide) (by decide)) ?_
          walk_at "rds"
          refine rd_I (wide_mul (a := 20) (b := 42) (by decide) (by omega) (by decide) (by decide) (by decide)) ?_
          walk_at "rds"
          refine rd_I ⟨by decide, by decide, by omega⟩ ?_
          walk_at "rds"
          exact q _ _ e1 ⟨cl, _, _, _, ns, g1, g2, h3, h4, h5, h6, by omega, by push_cast; omega, h9, h10, hsz⟩ (Int.emod_nonneg _ (by omega)) (Int.emod_lt_of_pos _ hm)
def spStream (K : PySem.W.Frag) : Sp := fun vs H Q _ => ∃ (a : Addr) (ns : List Int), vs = [.ref a] ∧ SqL K H a (ns.map V.int) ∧ ns.length ≤ 63 ∧ ∀ H' p S, Ex H H' → Strm S H' p 0 → Sok S H' → S = (fun a => S a ∧ H a = none) → Q (.ref p) H'
theorem ok__law_stream (T : Fs K mg) : Ok P w K mg base CX0 1 "_law_stream" s__law_stream ["script"] (spStream K) := by
  refine ok_mk T.d__law_stream sc__law_stream (fun vs H Q E h => ?_) (fun f cdv A outer s H vs Q E hr h => ?_)
  · obtain ⟨a, ns, rfl, _⟩ := h; rfl
  · obtain ⟨a, ns, rfl, hs, hl, q⟩ := h
    refine ⟨_, (pss_one (ps_ret (pe_lst (pa_cons (pe_callTy (clo (K := K)) (by rfl) T.m_list (by decide +kernel) (pa_cons (pv 0) pa_nil)) (pa_cons pe_int (pa_cons pe_int (pa_cons pe_int pa_nil))))))), ?_⟩
    walk_at "rds"
    refine ⟨a, _, rfl, .inl hs, fun cl hcl => ?_⟩
    generalize hH : upd H cl _ = H1
    have e1 : Ex H H1 := hH ▸ .new hcl
    have g1 : H1 cl = some (.lst (ns.map V.int)) := hH ▸ upd_same
    clear hH
    walk_at "rds"
    rename_i p np H2 e2 g2
    have np' : H p = none := e1.dom _ np
    have hne : p ≠ cl := fun z => by rw [z, g1] at np; cases np
    refine q H2 p (fun a => a = p ∨ a = cl) (e1.trans e2) ⟨cl, 0, 0, 17, ns, g2, e2.at g1, hne, .inl rfl, .inr rfl, by decide, by decide, by decide, by decide, by decide, ?_⟩ ?_ ?_
    · rw [List.length_map]; exact szl (by omega)
    · intro a h z
      rcases z with rfl | rfl
      · rw [g2] at h; cases h
      · rw [e2.at g1] at h; cases h
    · funext a
      refine propext ⟨fun z => ⟨z, ?_⟩, fun z => z.1⟩
      rcases z with rfl | rfl
      · exact np'
      · exact hcl
def spPick (K : PySem.W.Frag) : Sp := fun vs H Q _ => ∃ (T S : AS) (st : Addr) (n : Nat) (x : V) (d : PyData) (ds : List PyData), vs = [.ref st, x] ∧ (∀ a, T a → S a) ∧ Strm T H st n ∧ n < 2 ^ 40 ∧ D K S H x d ∧ (d = .list ds ∨ d = .tuple ds) ∧ 0 < ds.length ∧ ∀ (H' : Hp) (i : Nat) (di : PyData) (v : V), Ek T H H' → Strm T H' st (n + 1) → ds[i]? = some di → D K S H' v di → Q v H'
theorem ok__law_pick (T : Fs K mg) (G__law_draw : Ok P w K mg base CX0 1 "_law_draw" s__law_draw ["stream", "many"] (spDraw K)) : Ok P w K mg base CX0 2 "_law_pick" s__law_pick ["stream", "things"] (spPick K) := by
  refine ok_mk T.d__law_pick sc__law_pick (fun vs H Q E h => ?_) (fun f cdv A outer s H vs Q E hr h => ?_)
  · obtain ⟨T, S, st, n, x, d, ds, rfl, _⟩ := h; rfl
  · obtain ⟨T1, S, st, n, x, d, ds, rfl, hTS, hs, hn, hx, hd, hl, q⟩ := h
    refine ⟨_, (pss_one (ps_ret (pe_ix (ixq (K := K)) (pv 1) (pe_c G__law_draw bd__law_draw (hr.mono (by omega)) pass0 (pa_cons (pv 0) (pa_cons (pe_callB (cln (K := K)) (by rfl) T.m_len (by decide +kernel) (pa_cons (pv 1) pa_nil)) pa_nil))) (fun _ _ => rfl)))), ?_⟩
    walk_at "rds"
    have hlen : pLen d = ds.length := by rcases hd with rfl | rfl <;> rfl
    have hsz : ds.length ≤ sizeLine := by
      rcases hd with rfl | rfl
      · obtain ⟨a, xs, _, _, l, r, _⟩ := hx.list
        rw [← r.length]; exact l
      · obtain ⟨a, xs, _, _, l, r, _⟩ := hx.tuple
        rw [← r.length]; exact l
    refine rd_lnD hx (by rcases hd with rfl | rfl <;> rfl) ?_
    walk_at "rds"
    rw [hlen]
    refine ⟨T1, st, n, _, rfl, hs, hn, by omega, fit_of (k := 40) (by rw [sizeLine_eq] at hsz; omega) (by decide), fun H1 z e1 hs1 h0 h1 => ?_⟩
    have hz : ds[z.toNat]? = some ds[z.toNat] := List.getElem?_eq_getElem (by omega)
    have e : z = (z.toNat : Int) := by omega
    rw [e]
    exact rd_ixD (hx.ek hTS e1) hd hz fun v hv => q _ _ _ _ e1 hs1 hz hv
def spSame (K : PySem.W.Frag) (n : Nat) : Sp := fun vs H Q _ => ∃ S x y d, vs = [x, y] ∧ Sok S H ∧ D K S H x d ∧ D K S H y d ∧ Sh n d ∧ RetB H true Q
theorem ok__law_same (T : Fs K mg) : ∀ n : Nat, Ok P w K mg base CX0 n "_law_same" s__law_same ["found", "due"] (spSame K n) := by
  intro n
  induction n with
  | zero => exact ok_false T.d__law_same fun vs H Q E h => by obtain ⟨S, x, y, d, rfl, hS, hx, hy, hd, q⟩ := h; cases hd
  | succ n ih =>
    refine ok_mk T.d__law_same sc__law_same (fun vs H Q E h => ?_) (fun f cdv A outer s H vs Q E hr h => ?_)
    · obtain ⟨S, x, y, d, rfl, _⟩ := h; rfl
    · obtain ⟨S, x, y, d, rfl, hS, hx, hy, hd, q⟩ := h
      have G__law_same := ih
      refine ⟨_, (pss_cons (ps_if (pt_val (pe_callB (is_seq (K := K)) (by rfl) T.m_isinstance (by decide +kernel) (pa_cons (pv 1) (pa_cons (pe_tup (pa_cons (pe_bltn (v := .ty "list") (by rfl) T.m_list (by decide +kernel) rfl) (pa_cons (pe_bltn (v := .ty "tuple") (by rfl) T.m_tuple (by decide +kernel) rfl) pa_nil))) pa_nil)))) (pss_cons (ps_if (PW.pt (pw_or (pt_cmpR op_ne (pe_callB (is_list (K := K)) (by rfl) T.m_isinstance (by decide +kernel) (pa_cons (pv 0) (pa_cons (pe_bltn (v := .ty "list") (by rfl) T.m_list (by decide +kernel) rfl) pa_nil))) (pe_callB (is_list (K := K)) (by rfl) T.m_isinstance (by decide +kernel) (pa_cons (pv 1) (pa_cons (pe_bltn (v := .ty "list") (by rfl) T.m_list (by decide +kernel) rfl) pa_nil))) (nomark _)) (pw_or1 (pt_cmpR op_ne (pe_callB (is_tuple (K := K)) (by rfl) T.m_isinstance (by decide +kernel) (pa_cons (pv 0) (pa_cons (pe_bltn (v := .ty "tuple") (by rfl) T.m_tuple (by decide +kernel) rfl) pa_nil))) (pe_callB (is_tuple (K := K)) (by rfl) T.m_isinstance (by decide +kernel) (pa_cons (pv 1) (pa_cons (pe_bltn (v := .ty "tuple") (by rfl) T.m_tuple (by decide +kernel) rfl) pa_nil))) (nomark _))))) (pss_one (ps_ret pe_bl)) pss_nil)
      (pss_one (ps_ret (pe_and (pe_cmpR op_eq (pe_callB (cln (K := K)) (by rfl) T.m_len (by decide +kernel) (pa_cons (pv 0) pa_nil)) (pe_callB (cln (K := K)) (by rfl) T.m_len (by decide +kernel) (pa_cons (pv 1) pa_nil)) (nomark _)) (pe_one (pe_callB (crall (K := K) rfl) (by rfl) T.m_all (by decide +kernel) (pa_cons (pe_lc (own := [("mine", 2), ("theirs", 3)]) (g := (gTup K 2 (gCons (gName 2) (gCons (gName 3) gNil)))) rfl sc__law_same.nd (pizip (K := K) (RZ.pi_zipA (by rfl) T.m_zip (pa_cons (pv 0) (pa_cons (pv 1) pa_nil)))) (blkOk_by (N := ["found", "due", "mine", "theirs"]) (sc := defScope s__law_same) (by decide +kernel)) (fun _ _ _ _ _ => (pgtup (K := K) (pg_tup rfl (pgs_cons (pg_name (i := 2) sc__law_same.nd rfl (.inl rfl)) (pgs_cons (pg_name (i := 3) sc__law_same.nd rfl (.inl rfl)) pgs_nil))))) (fun _ _ _ _ _ => pts_nil) (fun _ _ _ _ _ => (pe_c G__law_same bd__law_same (hr.mono (by omega)) pass0 (pa_cons (pv 2) (pa_cons (pv 3) pa_nil))))) pa_nil))))))) pss_nil)
      (pss_cons (ps_if (pt_val (pe_callB (is_dict (K := K)) (by rfl) T.m_isinstance (by decide +kernel) (pa_cons (pv 1) (pa_cons (pe_bltn (v := .ty "dict") (by rfl) T.m_dict (by decide +kernel) rfl) pa_nil)))) pss_never pss_nil)
      (pss_cons (ps_if (PW.pt (pw_or (pt_val (pe_callB (is_bool (K := K)) (by rfl) T.m_isinstance (by decide +kernel) (pa_cons (pv 1) (pa_cons (pe_bltn (v := .ty "bool") (by rfl) T.m_bool (by decide +kernel) rfl) pa_nil)))) (pw_or1 (pt_val (pe_callB (is_bool (K := K)) (by rfl) T.m_isinstance (by decide +kernel) (pa_cons (pv 0) (pa_cons (pe_bltn (v := .ty "bool") (by rfl) T.m_bool (by decide +kernel) rfl) pa_nil))))))) (pss_one (ps_ret (pe_and (pe_callB (is_bool (K := K)) (by rfl) T.m_isinstance (by decide +kernel) (pa_cons (pv 1) (pa_cons (pe_bltn (v := .ty "bool") (by rfl) T.m_bool (by decide +kernel) rfl) pa_nil))) (pe_and (pe_callB (is_bool (K := K)) (by rfl) T.m_isinstance (by decide +kernel) (pa_cons (pv 0) (pa_cons (pe_bltn (v := .ty "bool") (by rfl) T.m_bool (by decide +kernel) rfl) pa_nil))) (pe_one (pe_cmpR op_eq (pv 0) (pv 1) (nomark _))))))) pss_nil)
      (pss_cons (ps_if (PW.pt (pw_or (pt_cmpR op_isN (pv 1) pe_non (nomark _)) (pw_or1 (pt_cmpR op_isN (pv 0) pe_non (nomark _))))) (pss_one (ps_ret (pe_and (pe_cmpR op_isN (pv 1) pe_non (nomark _)) (pe_one (pe_cmpR op_isN (pv 0) pe_non (nomark _)))))) pss_nil)
      (pss_cons (ps_if (PW.pt (pw_or (pt_cmpR op_ne (pe_callB (is_int (K := K)) (by rfl) T.m_isinstance (by decide +kernel) (pa_cons (pv 1) (pa_cons (pe_bltn (v := .ty "int") (by rfl) T.m_int (by decide +kernel) rfl) pa_nil))) (pe_callB (is_int (K := K)) (by rfl) T.m_isinstance (by decide +kernel) (pa_cons (pv 0) (pa_cons (pe_bltn (v := .ty "int") (by rfl) T.m_int (by decide +kernel) rfl) pa_nil))) (nomark _)) (pw_or1 (pt_cmpR op_ne (pe_callB (is_str (K := K)) (by rfl) T.m_isinstance (by decide +kernel) (pa_cons (pv 1) (pa_cons (pe_bltn (v := .ty "str") (by rfl) T.m_str (by decide +kernel) rfl) pa_nil))) (pe_callB (is_str (K := K)) (by rfl) T.m_isinstance (by decide +kernel) (pa_cons (pv 0) (pa_cons (pe_bltn (v := .ty "str") (by rfl) T.m_str (by decide +kernel) rfl) pa_nil))) (nomark _))))) (pss_one (ps_ret pe_bl)) pss_nil)
      (pss_one (ps_ret (pe_and (pe_not (pe_callB (is_seqd (K := K)) (by rfl) T.m_isinstance (by decide +kernel) (pa_cons (pv 0) (pa_cons (pe_tup (pa_cons (pe_bltn (v := .ty "list") (by rfl) T.m_list (by decide +kernel) rfl) (pa_cons (pe_bltn (v := .ty "tuple") (by rfl) T.m_tuple (by decide +kernel) rfl) (pa_cons (pe_bltn (v := .ty "dict") (by rfl) T.m_dict (by decide +kernel) rfl) pa_nil)))) pa_nil)))) (pe_one (pe_cmpR op_eq (pv 0) (pv 1) (nomark _))))))))))), ?_⟩
      cases hp : pSeq d with
      | false => cases hd <;> first | (cases hp; done) | (cases hx; cases hy; walk_at "rdi"; simpa using q _ (by walk_at "ek"))
      | true =>
        have hd2 := seq_items hp
        have hsh := hd.items hp
        generalize pItems d = ds at hd2 hsh
        walk_at "rds"
        refine rd_itet hp ?_
        walk_at "rds"
        refine rd_itef (by simp) ?_
        walk_at "rds"
        refine rd_itef (by simp) ?_
        walk_at "rds"
        rename_i _ _ H1 e1 _
        have hx1 := hx.ex e1
        have hy1 := hy.ex e1
        refine rd_lnD hx1 hp ?_
        walk_at "rds"
        refine rd_lnD hy1 hp ?_
        walk_at "rds"
        refine rd_itet (by simp) ?_
        walk_at "rds"
        have hk : (d = .list ds ∧ d = .list ds) ∨ (d = .tuple ds ∧ d = .tuple ds) := by rcases hd2 with h | h <;> simp [h]
        refine lc_zip (S := S) rfl rfl hx1 hy1 hk rfl (by decide) rfl (hS.ek e1) (fun _ _ => .bool true) (fun S' v w dv dw i H2 hv hw hS2 hv2 hw2 _ _ R hR => ?_) (fun p ws H2 e2 np hp2 hds _ => ?_)
        · have e9 : dv = dw := Option.some.inj (hv.symm.trans hw)
          subst e9
          walk_at "rds"
          exact ⟨S', v, w, dv, rfl, hS2, hv2, hw2, hsh _ (List.mem_of_getElem? hv), fun H3 e3 => hR _ _ e3 (.bl _)⟩
        walk_at "rds"
        refine rd_allD (S := S) (bs := List.zipWith (fun _ _ => true) ds ds) hp2 (by rw [List.map_zipWith]; exact hds) ?_
        walk_at "rds"
        have ht : (List.zipWith (fun _ _ => true) ds ds).all id = true := by
          rw [List.all_eq_true]
          intro b hb
          obtain ⟨i, hi, e⟩ := List.getElem_of_mem hb
          rw [← e]
          simp
        rw [ht]
        exact q _ (by walk_at "ek")
def spCopied (K : PySem.W.Frag) (n : Nat) : Sp := fun vs H Q _ => ∃ S x d, vs = [x] ∧ Sok S H ∧ D K S H x d ∧ Sh n d ∧ RetD K S H d Q
theorem ok__law_copied (T : Fs K mg) : ∀ n : Nat, Ok P w K mg base CX0 n "_law_copied" s__law_copied ["thing"] (spCopied K n) := by
  intro n
  induction n with
  | zero => exact ok_false T.d__law_copied fun vs H Q E h => by obtain ⟨S, x, d, rfl, hS, hx, hd, q⟩ := h; cases hd
  | succ n ih =>
    refine ok_mk T.d__law_copied sc__law_copied (fun vs H Q E h => ?_) (fun f cdv A outer s H vs Q E hr h => ?_)
    · obtain ⟨S, x, d, rfl, _⟩ := h; rfl
    · obtain ⟨S, x, d, rfl, hS, hx, hd, q⟩ := h
      have G__law_copied := ih
      refine ⟨_, (pss_cons (ps_if (pt_val (pe_callB (is_dict (K := K)) (by rfl) T.m_isinstance (by decide +kernel) (pa_cons (pv 0) (pa_cons (pe_bltn (v := .ty "dict") (by rfl) T.m_dict (by decide +kernel) rfl) pa_nil)))) pss_never pss_nil)
      (pss_cons (ps_set (i := 1) sc__law_copied.nd rfl (.inl rfl) (pe_ifExp (pt_val (pe_callB (is_seq (K := K)) (by rfl) T.m_isinstance (by decide +kernel) (pa_cons (pv 0) (pa_cons (pe_tup (pa_cons (pe_bltn (v := .ty "list") (by rfl) T.m_list (by decide +kernel) rfl) (pa_cons (pe_bltn (v := .ty "tuple") (by rfl) T.m_tuple (by decide +kernel) rfl) pa_nil))) pa_nil)))) (pe_lc (own := [("one", 2)]) (g := (gName 2)) rfl sc__law_copied.nd (piseq (K := K) (pv 0)) (blkOk_by (N := ["thing", "some", "one", "key"]) (sc := defScope s__law_copied) (by decide +kernel)) (fun _ _ _ _ _ => (pg_name (i := 2) sc__law_copied.nd rfl (.inl rfl))) (fun _ _ _ _ _ => pts_nil) (fun _ _ _ _ _ => (pe_c G__law_copied bd__law_copied (hr.mono (by omega)) pass0 (pa_cons (pv 2) pa_nil)))) (pv 0)))
      (pss_one (ps_ret (pe_ifExp (pt_val (pe_callB (is_tuple (K := K)) (by rfl) T.m_isinstance (by decide +kernel) (pa_cons (pv 0) (pa_cons (pe_bltn (v := .ty "tuple") (by rfl) T.m_tuple (by decide +kernel) rfl) pa_nil)))) (pe_callTy (cto (K := K)) (by rfl) T.m_tuple (by decide +kernel) (pa_cons (pv 1) pa_nil)) (pv 1)))))), ?_⟩
      cases hp : pSeq d with
      | false =>
        have hx2 := hx
        cases hd <;> first | (cases hp; done) | (cases hx; walk_at "rdi"; exact q _ _ (by walk_at "ek") (by walk_at "up"))
      | true =>
        have hd2 := seq_items hp
        have hsh := hd.items hp
        generalize pItems d = ds at hd2 hsh
        walk_at "rds"
        refine rd_itef (by rcases hd2 with rfl | rfl <;> rfl) ?_
        walk_at "rds"
        refine rd_itet hp ?_
        walk_at "rds"
        rename_i _ _ H1 e1 _
        refine lc_map (S := S) rfl (hx.ex e1) hd2 (hS.ek e1) (fun d => d) (fun S' y dy H2 hm hS2 hy _ _ R hR => ?_) (fun p ws H2 e2 np hp2 hds hD => ?_)
        · walk_at "rds"
          exact ⟨S', y, dy, rfl, hS2, hy, hsh _ hm, fun v H3 e3 d3 => hR _ _ e3 d3⟩
        rw [List.map_id'] at hD
        walk_at "rds"
        rcases hd2 with rfl | rfl
        · walk_at "rdi"
          exact q _ _ (by walk_at "ek") hD
        · walk_at "rdi"
          exact rd_tupleD hD (.inl rfl) (by walk_at "up") fun v H3 e3 d3 => q _ _ (by walk_at "ek") d3
def spC (K : PySem.W.Frag) (n : Nat) : Sp := fun vs H Q _ => ∃ S x d, vs = [x] ∧ Sok S H ∧ D K S H x d ∧ Sh n d ∧ RetD K S H d Q
theorem ok__law_c (T : Fs K mg) : ∀ n : Nat, Ok P w K mg base CX0 n "_law_c" s__law_c ["thing"] (spC K n) := by
  intro n
  induction n with
  | zero => exact ok_false T.d__law_c fun vs H Q E h => by obtain ⟨S, x, d, rfl, hS, hx, hd, q⟩ := h; cases hd
  | succ n ih =>
    refine ok_mk T.d__law_c sc__law_c (fun vs H Q E h => ?_) (fun f cdv A outer s H vs Q E hr h => ?_)
    · obtain ⟨S, x, d, rfl, _⟩ := h; rfl
    · obtain ⟨S, x, d, rfl, hS, hx, hd, q⟩ := h
      have G__law_c := ih
      refine ⟨_, (pss_cons (ps_if (pt_val (pe_callB (is_dict (K := K)) (by rfl) T.m_isinstance (by decide +kernel) (pa_cons (pv 0) (pa_cons (pe_bltn (v := .ty "dict") (by rfl) T.m_dict (by decide +kernel) rfl) pa_nil)))) pss_never pss_nil)
      (pss_cons (ps_if (pt_val (pe_callB (is_list (K := K)) (by rfl) T.m_isinstance (by decide +kernel) (pa_cons (pv 0) (pa_cons (pe_bltn (v := .ty "list") (by rfl) T.m_list (by decide +kernel) rfl) pa_nil)))) (pss_one (ps_ret (pe_lc (own := [("one", 1)]) (g := (gName 1)) rfl sc__law_c.nd (piseq (K := K) (pv 0)) (blkOk_by (N := ["thing", "one", "key"]) (sc := defScope s__law_c) (by decide +kernel)) (fun _ _ _ _ _ => (pg_name (i := 1) sc__law_c.nd rfl (.inl rfl))) (fun _ _ _ _ _ => pts_nil) (fun _ _ _ _ _ => (pe_c G__law_c bd__law_c (hr.mono (by omega)) pass0 (pa_cons (pv 1) pa_nil)))))) pss_nil)
      (pss_one (ps_ret (pe_ifExp (pt_val (pe_callB (is_tuple (K := K)) (by rfl) T.m_isinstance (by decide +kernel) (pa_cons (pv 0) (pa_cons (pe_bltn (v := .ty "tuple") (by rfl) T.m_tuple (by decide +kernel) rfl) pa_nil)))) (pe_callTy (cto (K := K)) (by rfl) T.m_tuple (by decide +kernel) (pa_cons (pe_lc (own := [("one", 1)]) (g := (gName 1)) rfl sc__law_c.nd (piseq (K := K) (pv 0)) (blkOk_by (N := ["thing", "one", "key"]) (sc := defScope s__law_c) (by decide +kernel)) (fun _ _ _ _ _ => (pg_name (i := 1) sc__law_c.nd rfl (.inl rfl))) (fun _ _ _ _ _ => pts_nil) (fun _ _ _ _ _ => (pe_c G__law_c bd__law_c (hr.mono (by omega)) pass0 (pa_cons (pv 1) pa_nil)))) pa_nil)) (pv 0)))))), ?_⟩
      cases hp : pSeq d with
      | false =>
        cases hd <;> first | (cases hp; done) | (cases hx; walk_at "rdi"; exact q _ _ (by walk_at "ek") (by walk_at "up"))
      | true =>
        have hd2 := seq_items hp
        have hsh := hd.items hp
        generalize pItems d = ds at hd2 hsh
        walk_at "rds"
        refine rd_itef (by rcases hd2 with rfl | rfl <;> rfl) ?_
        rcases hd2 with rfl | rfl
        · walk_at "rdi"
          refine lc_map (S := S) rfl hx (.inl rfl) hS (fun d => d) (fun S' y dy H2 hm hS2 hy _ _ R hR => ?_) (fun p ws H2 e2 np hp2 hds hD => ?_)
          · walk_at "rds"
            exact ⟨S', y, dy, rfl, hS2, hy, hsh _ hm, fun v H3 e3 d3 => hR _ _ e3 d3⟩
          rw [List.map_id'] at hD
          walk_at "rds"
          exact q _ _ (by walk_at "ek") hD
        · walk_at "rdi"
          refine lc_map (S := S) rfl hx (.inr rfl) hS (fun d => d) (fun S' y dy H2 hm hS2 hy _ _ R hR => ?_) (fun p ws H2 e2 np hp2 hds hD => ?_)
          · walk_at "rds"
            exact ⟨S', y, dy, rfl, hS2, hy, hsh _ hm, fun v H3 e3 d3 => hR _ _ e3 d3⟩
          rw [List.map_id'] at hD
          walk_at "rds"
          exact rd_tupleD hD (.inl rfl) (by walk_at "up") fun v H3 e3 d3 => q _ _ (by walk_at "ek") d3
def spLoose (K : PySem.W.Frag) (n : Nat) : Sp := fun vs H Q _ => ∃ (T S : AS) (st : Addr) (k : Nat) (x : V) (d : PyData), vs = [.ref st, x] ∧ (∀ a, T a → S a) ∧ Sok S H ∧ Strm T H st k ∧ k + nd d < 2 ^ 40 ∧ D K S H x d ∧ Sh n d ∧
  ∀ (H' : Hp) (e : PyData) (v : V), Ek T H H' → Strm T H' st (k + nd d) → Lo d e → D K S H' v e → Q v H'
theorem ok__law_loose (T : Fs K mg) (G__law_draw : Ok P w K mg base CX0 1 "_law_draw" s__law_draw ["stream", "many"] (spDraw K)) : ∀ n : Nat, Ok P w K mg base CX0 (n + 1) "_law_loose" s__law_loose ["stream", "thing"] (spLoose K n) := by
  intro n
  induction n with
  | zero => exact ok_false T.d__law_loose fun vs H Q E h => by obtain ⟨T, S, st, k, x, d, rfl, hTS, hS, hs, hk, hx, hd, q⟩ := h; cases hd
  | succ n ih =>
    refine ok_mk T.d__law_loose sc__law_loose (fun vs H Q E h => ?_) (fun f cdv A outer s H vs Q E hr h => ?_)
    · obtain ⟨T, S, st, k, x, d, rfl, _⟩ := h; rfl
    · obtain ⟨T1, S, st, k, x, d, rfl, hTS, hS, hs, hk, hx, hd, q⟩ := h
      have G__law_loose := ih
      refine ⟨_, (pss_cons (ps_if (pt_not (pt_val (pe_callB (is_seq (K := K)) (by rfl) T.m_isinstance (by decide +kernel) (pa_cons (pv 1) (pa_cons (pe_tup (pa_cons (pe_bltn (v := .ty "list") (by rfl) T.m_list (by decide +kernel) rfl) (pa_cons (pe_bltn (v := .ty "tuple") (by rfl) T.m_tuple (by decide +kernel) rfl) pa_nil))) pa_nil))))) (pss_one (ps_ret (pv 1))) pss_nil)
      (pss_cons (ps_setLc (i := 2) (own := [("part", 3)]) (g := (gName 3)) rfl sc__law_loose.nd rfl rfl (sw_true rfl rfl rfl (by decide +kernel)) (piseq (K := K) (pv 1)) (blkOk_by (N := ["stream", "thing", "some", "part"]) (sc := defScope s__law_loose) (by decide +kernel)) (fun _ _ _ _ _ => (pg_name (i := 3) sc__law_loose.nd rfl (.inl rfl))) (fun _ _ _ _ _ => pts_nil) (fun _ _ _ _ _ => (pe_c G__law_loose bd__law_loose (hr.mono (by omega)) pass0 (pa_cons (pv 0) (pa_cons (pv 3) pa_nil)))))
      (pss_one (ps_ret (pe_ifExp (pt_cmpR op_eq (pe_c G__law_draw bd__law_draw (hr.mono (by omega)) pass0 (pa_cons (pv 0) (pa_cons pe_int pa_nil))) pe_int (nomark _)) (pe_callTy (cto (K := K)) (by rfl) T.m_tuple (by decide +kernel) (pa_cons (pv 2) pa_nil)) (pv 2)))))), ?_⟩
      cases hp : pSeq d with
      | false =>
        walk_at "rds"
        refine rd_itet (by rw [hp]; rfl) ?_
        walk_at "rds"
        rename_i H1 e1 _
        have hn0 : nd d = 0 := by cases hd <;> first | (cases hp; done) | simp [nd]
        refine q _ d _ (.of (by walk_at "ek")) (by rw [hn0]; exact hs.ek e1) (by cases hd <;> first | (cases hp; done) | constructor) (by walk_at "up")
      | true =>
        have hd2 := seq_items hp
        have hsh := hd.items hp
        have hnd : nd d = nds (pItems d) + 1 := by cases hd <;> first | (cases hp; done) | simp [nd, pItems]
        generalize pItems d = ds at hd2 hsh hnd
        walk_at "rds"
        refine rd_itef (by rw [hp]; rfl) ?_
        walk_at "rds"
        rename_i _ _ H1 e1 _
        refine lc_mapT (T := T1) (S := S) hTS rfl (hx.ex e1) hd2 (hS.ek e1) Lo (fun i H' => Strm T1 H' st (k + nds (ds.take i))) (fun i D0 H' o hD e h => h.upd fun z => (hS.ek e1).no hD (hTS _ z)) (by simpa [nds] using hs.ek e1) (fun S' y dy m H2 hm hI hSS hS2 hy e2 _ R hR => ?_) (fun p ws es H2 e2 np hp2 hds hF hI hD => ?_)
        · walk_at "rds"
          have h9 := nds_take hm
          have h10 := nds_le ds (m + 1)
          refine ⟨T1, S', st, k + nds (ds.take m), y, dy, rfl, fun a z => hSS a (hTS a z), hS2, hI, by omega, hy, hsh _ (List.mem_of_getElem? hm), fun H3 e v e3 s3 l3 d3 => hR v e H3 e3 d3 l3 ?_⟩
          rw [h9, ← Nat.add_assoc]
          exact s3
        rw [List.take_length] at hI
        walk_at "rds"
        refine ⟨T1, st, _, 2, rfl, hI, by omega, by decide, fit_of (k := 8) (by decide) (by decide), fun H3 z e3 s3 h0 h1 => ?_⟩
        walk_at "rds"
        have e4 : Ek T1 H H3 := (Ek.of e1).trans (e2.trans e3)
        have hD3 : D K S H3 (.ref p) (.list es) := hD.ek hTS e3
        have s4 : Strm T1 H3 st (k + nd d) := by rw [hnd]; exact s3
        refine rd_dite (fun h2 => ?_) (fun h2 => ?_)
        · walk_at "rds"
          refine rd_tupleD hD3 (.inl rfl) (hS.ek e4) fun v H4 e5 d5 => q _ (.tuple es) _ (e4.trans (.of e5)) (s4.ek e5) ?_ d5
          rcases hd2 with rfl | rfl
          · exact .lt hF
          · exact .tt hF
        · walk_at "rds"
          refine q _ (.list es) _ e4 s4 ?_ hD3
          rcases hd2 with rfl | rfl
          · exact .ll hF
          · exact .tl hF
end
end My
namespace My
open PySem PySem.Spec PyProof.Rows L2 Lk
section
variable {P : Program} {w : World} {K : PySem.W.Frag} {mg : Str → Option Value} {base : Heap}
theorem ok__law_a_power (T : Fs K mg) : Ok P w K mg base CX0 1 "_law_a_power" s__law_a_power ["number", "often"] spPowerOf := by
  refine ok_mk T.d__law_a_power sc__law_a_power (fun vs H Q E h => ?_) (fun f cdv A outer s H vs Q E hr h => ?_)
  · obtain ⟨z, n, rfl, _⟩ := h; rfl
  · obtain ⟨z, n, rfl, hz, hn, q⟩ := h
    refine ⟨_, (pss_cons (ps_set (i := 2) sc__law_a_power.nd rfl (.inl rfl) pe_int)
      (pss_cons (ps_for PassesOwn.never rfl (pi_range1 (by rfl) T.m_range (pa_cons (pv 1) pa_nil)) (pg_name (i := 3) sc__law_a_power.nd rfl (.inl rfl)) (pss_one (ps_set (i := 2) sc__law_a_power.nd rfl (.inl rfl) (pe_op op_mulW (pv 2) (pv 0)))))
      (pss_one (ps_ret (pv 2))))), ?_⟩
    walk_at "rds"
    walk_at "for"
    refine for_src (T := N0) src_r (fun i σ H' => ∃ u p, σ = [some (.int z), some (.int n), some (.int p), u] ∧ p = z ^ i ∧ H' = H) ⟨none, 1, rfl, by simp, rfl⟩ (fun i σ H' _ ⟨u, _, _, _, e⟩ => by rw [e]; exact .refl _) (fun i x σ H' H2 hi p y => ?_) (fun σ H' p => ?_)
    · obtain ⟨u, p, rfl, rfl, rfl⟩ := p
      obtain ⟨rfl, rfl⟩ := y
      walk_at "rds"
      refine rd_I ?_ ?_
      · have h1 := pow_size hz i
        exact wide_mul (lt_succ_pow h1) (lt_succ_pow hz) (by omega) (by omega) (by omega)
      · walk_at "rds"
        exact ⟨_, _, rfl, (Int.pow_succ _ _).symm, rfl⟩
    · obtain ⟨u, p, rfl, rfl, rfl⟩ := p
      walk_at "rds"
      exact q _ (.refl _)
theorem euclid_half {x y p k : Nat} (hy : 0 < y) (hxy : y < x) (h : x * y * 2 ^ k ≤ p) : y * (x % y) * 2 ^ (k + 1) ≤ p := by
  have h1 : 2 * (x % y) ≤ x := by
    have h2 : x % y < y := Nat.mod_lt x hy
    have h3 : x % y + y ≤ x := by
      have h4 := Nat.div_add_mod x y
      have h5 : 1 ≤ x / y := (Nat.le_div_iff_mul_le hy).mpr (by omega)
      have h6 : y * 1 ≤ y * (x / y) := Nat.mul_le_mul_left y h5
      omega
    omega
  have e : y * (x % y) * 2 ^ (k + 1) = y * (2 * (x % y)) * 2 ^ k := by rw [Nat.pow_succ, Nat.mul_comm (2 ^ k) 2, ← Nat.mul_assoc, Nat.mul_assoc y, Nat.mul_comm (x % y) 2]
  rw [e]
  refine Nat.le_trans (Nat.mul_le_mul_right _ (Nat.mul_le_mul_left y h1)) ?_
  rw [Nat.mul_comm y x]
  exact h
def spLawLowest (K : PySem.W.Frag) : Sp := fun vs H Q E => ∃ (S : AS) (a b : Nat), vs = [.int a, .int b] ∧ Sok S H ∧ 0 < b ∧ a < 2 ^ 4000 ∧ b < 2 ^ 4000 ∧ RetD K S H (pLowest a b) Q
theorem ok__law_lowest (T : Fs K mg) : Ok P w K mg base CX0 1 "_law_lowest" s__law_lowest ["top", "bottom"] (spLawLowest K) := by
  refine ok_mk T.d__law_lowest sc__law_lowest (fun vs H Q E h => ?_) (fun f cdv A outer s H vs Q E hr h => ?_)
  · obtain ⟨S, a, b, rfl, _⟩ := h; rfl
  · obtain ⟨S, a, b, rfl, hS, hb, ha2, hb2, q⟩ := h
    have hab : a * b < 2 ^ 8000 := by
      have := Nat.mul_lt_mul'' ha2 hb2
      rwa [← Nat.pow_add] at this
    refine ⟨_, (pss_cons (ps_par (i := 2) (j := 3) (by rfl) sc__law_lowest.nd rfl rfl (by decide) rfl rfl (pa_cons (pv 0) (pa_cons (pv 1) pa_nil)) (by rfl))
      (pss_cons (ps_for PassesOwn.never rfl (pi_range1 (by rfl) T.m_range (pa_cons pe_int pa_nil)) (pg_name (i := 4) sc__law_lowest.nd rfl (.inl rfl)) (pss_cons (ps_if (pt_cmpR op_eq (pv 3) pe_int (nomark _)) (pss_one ps_break) pss_nil)
      (pss_one (ps_par (i := 2) (j := 3) (by rfl) sc__law_lowest.nd rfl rfl (by decide) rfl rfl (pa_cons (pv 3) (pa_cons (pe_op op_mod (pe_callTy call_int1 (by rfl) T.m_int (by decide +kernel) (pa_cons (pv 2) pa_nil)) (pv 3)) pa_nil)) (by rfl)))))
      (pss_one (ps_ret (pe_tup (pa_cons (pe_op op_fdivW (pv 0) (pv 2)) (pa_cons (pe_op op_fdivW (pv 1) (pv 2)) pa_nil))))))), ?_⟩
    walk_at "rds"
    refine cutS (fun σ' H' => ∃ x u, σ' = [some (.int a), some (.int b), some (.int (x : Nat)), some (.int 0), u] ∧ H' = H ∧ x = Nat.gcd a b) (fun N hN => ?_) (fun σ' H' h => ?_)
    · walk_at "for"
      refine for_src (T := N0) src_r (fun i σ H' => ∃ (u : Option V) (x y : Nat), σ = [some (.int a), some (.int b), some (.int x), some (.int y), u] ∧ H' = H ∧ Nat.gcd x y = Nat.gcd a b ∧ (i = 0 → x = a ∧ y = b) ∧ (0 < i → y < x ∧ x * y * 2 ^ (i - 1) ≤ a * b))
        ⟨none, a, b, rfl, rfl, rfl, fun _ => ⟨rfl, rfl⟩, fun h => absurd h (by decide)⟩ (fun i σ H' _ ⟨u, _, _, _, e, _⟩ => by rw [e]; exact .refl _) (fun i z σ H' H2 hi p yy => ?_) (fun σ H' p => ?_)
      · obtain ⟨u, x, y, rfl, rfl, hg, h0, h1⟩ := p
        obtain ⟨rfl, rfl⟩ := yy
        walk_at "rds"
        refine rd_dite (fun h2 => ?_) (fun h2 => ?_)
        · walk_at "rds"
          have hy : y = 0 := by omega
          subst hy
          exact hN _ _ ⟨x, _, rfl, rfl, by simpa using hg⟩
        · walk_at "rds"
          have hy : 0 < y := by omega
          refine ⟨_, y, x % y, rfl, rfl, by rw [← hg, Nat.gcd_comm x y, Nat.gcd_rec y x, Nat.gcd_comm], fun h => absurd h (Nat.succ_ne_zero i), fun _ => ⟨Nat.mod_lt _ hy, ?_⟩⟩
          rw [Nat.add_sub_cancel]
          cases i with
          | zero =>
            obtain ⟨rfl, rfl⟩ := h0 rfl
            rw [Nat.pow_zero, Nat.mul_one, Nat.mul_comm]
            exact Nat.mul_le_mul_right _ (Nat.mod_le _ _)
          | succ i =>
            obtain ⟨h3, h4⟩ := h1 (Nat.succ_pos i)
            exact euclid_half hy h3 h4
      · obtain ⟨u, x, y, rfl, rfl, hg, h0, h1⟩ := p
        obtain ⟨h3, h4⟩ := h1 (by decide)
        have hy : y = 0 := by
          refine Nat.eq_zero_of_not_pos fun hy => ?_
          have h5 : 1 * 2 ^ 8000 ≤ x * y * 2 ^ ((9000 : Int).toNat - 1) := Nat.mul_le_mul (Nat.mul_pos (by omega) hy) (two_pow_le (by decide))
          omega
        subst hy
        exact hN _ _ ⟨x, u, rfl, rfl, by simpa using hg⟩
    · obtain ⟨x, u, rfl, rfl, rfl⟩ := h
      have gb : Nat.gcd a b ≤ b := Nat.gcd_le_right a hb
      have gp : 0 < Nat.gcd a b := Nat.gcd_pos_of_pos_right a hb
      have fg : Fit (Nat.gcd a b : Nat) := fit_of (k := 4000) (by simpa using Nat.lt_of_le_of_lt gb hb2) (by decide)
      walk_at "rds"
      refine rd_I (fit_div (by omega) fg) ?_
      walk_at "rds"
      refine rd_I (fit_div (by omega) fg) ?_
      walk_at "rds"
      rename_i p np H2 e2 hp2
      exact q _ _ e2 (.newT hS np hp2 (szl (Nat.le_of_ble_eq_true rfl)) (.cons (.int _) (.cons (.int _) .nil)))
/-- all rows of so many keys -/
def rowsOf (keys : List Int) : Nat → List (List Int)
  | 0 => [[]]
  | k + 1 => (rowsOf keys k).flatMap fun row => keys.map fun key => row ++ [key]
def pRow (r : List Int) : PyData := .list (r.map PyData.int)
def pRows (rs : List (List Int)) : PyData := .list (rs.map pRow)
theorem flat_len {α β : Type} {f : α → List β} {n : Nat} : ∀ {l : List α}, (∀ a, (f a).length = n) → (l.flatMap f).length = l.length * n
  | [], _ => by simp
  | a :: l, h => by
    rw [List.flatMap_cons, List.length_append, h a, flat_len h, List.length_cons, Nat.succ_mul, Nat.add_comm]
theorem rows_len (keys : List Int) : ∀ k, (rowsOf keys k).length = keys.length ^ k
  | 0 => rfl
  | k + 1 => by
    show ((rowsOf keys k).flatMap _).length = _
    rw [flat_len (n := keys.length) (fun a => by simp), rows_len keys k, Nat.pow_succ]
theorem rows_each (keys : List Int) : ∀ {k : Nat} {r : List Int}, r ∈ rowsOf keys k → r.length = k ∧ ∀ z ∈ r, z ∈ keys
  | 0, r, h => by
    have e : r = [] := by simpa [rowsOf] using h
    subst e
    simp
  | k + 1, r, h => by
    obtain ⟨row, h1, h2⟩ := List.mem_flatMap.mp h
    obtain ⟨key, h3, rfl⟩ := List.mem_map.mp h2
    obtain ⟨a, b⟩ := rows_each keys h1
    refine ⟨by simp [a], fun z hz => ?_⟩
    rcases List.mem_append.mp hz with q | q
    · exact b z q
    · rw [List.mem_singleton.mp q]; exact h3
def spRows (K : PySem.W.Frag) : Sp := fun vs H Q _ => ∃ (S : AS) (x : V) (ks : List Int) (n : Nat), vs = [x, .int n] ∧ Sok S H ∧ D K S H x (pRow ks) ∧ ks.length ≤ 6 ∧ n ≤ 6 ∧ RetD K S H (pRows (rowsOf ks n)) Q
theorem ok__law_rows (T : Fs K mg) : Ok P w K mg base CX0 1 "_law_rows" s__law_rows ["keys", "often"] (spRows K) := by
  refine ok_mk T.d__law_rows sc__law_rows (fun vs H Q E h => ?_) (fun f cdv A outer s H vs Q E hr h => ?_)
  · obtain ⟨S, x, ks, n, rfl, _⟩ := h; rfl
  · obtain ⟨S, x, ks, n, rfl, hS, hx, hk, hn, q⟩ := h
    refine ⟨_, (pss_cons (ps_set (i := 2) sc__law_rows.nd rfl (.inl rfl) (pe_lst (pa_cons (pe_lst pa_nil) pa_nil)))
      (pss_cons (ps_for PassesOwn.never rfl (pi_range1 (by rfl) T.m_range (pa_cons (pv 1) pa_nil)) (pg_name (i := 3) sc__law_rows.nd rfl (.inl rfl)) (pss_cons (ps_set (i := 4) sc__law_rows.nd rfl (.inl rfl) (pe_lst pa_nil))
      (pss_cons (ps_for PassesOwn.never rfl (piseq (K := K) (pv 2)) (pg_name (i := 5) sc__law_rows.nd rfl (.inr rfl)) (pss_one (ps_expr (bm (K := K) (pe_bm PySem.F.plainAttrs_list PySem.F.slot_list_extend PySem.F.type_list_extend mt_extend (pv 4) (pa_cons (pe_lc (own := [("key", 6)]) (g := (gName 6)) rfl sc__law_rows.nd (piseq (K := K) (pv 0)) (blkOk_by (N := ["keys", "often", "found", "turn", "longer", "row", "key"]) (sc := defScope s__law_rows) (by decide +kernel)) (fun _ _ _ _ _ => (pg_name (i := 6) sc__law_rows.nd rfl (.inl rfl))) (fun _ _ _ _ _ => pts_nil) (fun _ _ _ _ _ => (pe_op op_cat (pv 5) (pe_lst (pa_cons (pv 6) pa_nil))))) pa_nil))))))
      (pss_one (ps_set (i := 2) sc__law_rows.nd rfl (.inl rfl) (pv 4))))))
      (pss_one (ps_ret (pv 2))))), ?_⟩
    walk_at "rds"
    rename_i p1 np1 H1 e1 hp1 p2 np2 H2 e2 hp2
    walk_at "for"
    refine for_src (T := N0) src_r (fun i σ H' => ∃ (f : V) (u1 u2 u3 : Option V), σ = [some x, some (.int n), some f, u1, u2, u3, none] ∧ Ex H2 H' ∧ D K S H' f (pRows (rowsOf ks i))) ?_ (fun i σ H' _ ⟨_, _, _, _, _, e, _⟩ => e) (fun i y σ H' H3 hi p yy => ?_) (fun σ H' p => ?_)
    · refine ⟨_, none, none, none, rfl, .refl _, ?_⟩
      refine .newL (hS.ek e1) np2 hp2 (szl (Nat.le_of_ble_eq_true rfl)) (.cons ?_ .nil)
      exact (D.newL hS np1 hp1 (Nat.zero_le _) .nil).ex e2
    · obtain ⟨f, u1, u2, u3, rfl, e3, hf⟩ := p
      obtain ⟨e9, rfl⟩ := yy
      subst e9
      walk_at "rds"
      rename_i lp nlp H4 e4 hlp
      have hS3 : Sok S _ := (hS.ek (e1.trans e2)).ek e3
      have hf4 : D K (Sp1 S lp) H4 f (pRows (rowsOf ks i)) := (hf.up nlp).ex e4
      have hx4 : D K (Sp1 S lp) H4 x (pRow ks) := ((((hx.ex e1).ex e2).ex e3).up nlp).ex e4
      have hS4 : Sok (Sp1 S lp) H4 := (hS3.ek e4).one hlp
      walk_at "for"
      refine rd_seqV rfl hf4 (.inl rfl) fun a xs J ex hl2 hds2 src => ?_
      have hlen := hds2.length
      have hil : i < n := by simpa using hi
      have h1 : (rowsOf ks i).length = ks.length ^ i := rows_len ks i
      have hpow : ks.length ^ i ≤ 6 ^ 6 := Nat.le_trans (Nat.pow_le_pow_left hk i) (Nat.pow_le_pow_right (by decide) (by omega))
      have hxs : xs.length = ks.length ^ i := by rw [hlen, List.length_map, h1]
      refine for_src (T := fun a => a = lp) (src.less fun a z => .inr z) (fun j σ H' => ∃ (w1 : Option V) (ws : List V), σ = [some x, some (.int n), some f, some (.int (0 + i)), some (.ref lp), w1, none] ∧ Ek (fun a => a = lp) H4 H' ∧ H' lp = some (.lst ws) ∧ Ds K (Sp1 S lp) H' ws ((((rowsOf ks i).take j).flatMap fun row => ks.map fun key => row ++ [key]).map pRow)) ?_ (fun j σ H' _ ⟨_, _, _, e, _⟩ => e) (fun j y σ H' H5 hj p yy => ?_) (fun σ H' p => ?_)
      · exact ⟨_, [], rfl, .refl _, hlp, .nil⟩
      · obtain ⟨w1, ws, rfl, e5, hw, hd5⟩ := p
        obtain ⟨e9, hy⟩ := yy
        subst e9
        obtain ⟨dy, hdy, hDy⟩ := hds2.get hy
        rw [List.getElem?_map] at hdy
        obtain ⟨row, hrow, rfl⟩ := Option.map_eq_some_iff.mp hdy
        have hS5 : Sok (Sp1 S lp) H5 := hS4.ek e5
        have hx5 : D K (Sp1 S lp) H5 x (pRow ks) := hx4.ek (fun a z => .inr z) e5
        have hy5 : D K (Sp1 S lp) H5 y (pRow row) := hDy.ek (fun a z => .inr z) e5
        walk_at "rds"
        refine rd_tyL (.inl (.inl hw)) ?_
        walk_at "rds"
        refine lc_map (S := Sp1 S lp) rfl hx5 (.inl rfl) hS5 (fun d => match d with | .int z => pRow (row ++ [z]) | d => d) (fun S' v dy H6 hm hS6 hv6 e6 up R hR => ?_) (fun p ws2 H6 e6 np hp6 hds6 _ => ?_)
        · obtain ⟨z, _, rfl⟩ := List.mem_map.mp hm
          cases hv6
          walk_at "rds"
          rename_i p3 np3 H7 e7 hp7
          obtain ⟨ra, rxs, rfl, hra, nra, lra, rra⟩ := ((up _ _ hy5).ex e7).listH
          have hrl := rra.length
          obtain ⟨hr1, hr2⟩ := rows_each ks (List.mem_of_getElem? hrow)
          refine rd_cat hra hp7 (szl (by rw [hrl, List.length_map, hr1]; simp; omega)) fun p4 H8 np4 e8 hp8 => ?_
          have hS7 : Sok S' H7 := hS6.ek e7
          refine hR _ _ (e7.trans e8) (.newL hS7 np4 hp8 (szl (by rw [List.length_append, hrl, List.length_map, hr1]; simp; omega)) ?_)
          rw [List.map_append]
          exact (rra.ex e8).append (.cons (.int _) .nil)
        walk_at "rds"
        have hw6 : H6 lp = some (.lst ws) := e6.at hw
        have hj2 : j < ks.length ^ i := by rw [← hxs]; exact hj
        have hwl : ws.length ≤ 6 ^ 7 := by
          rw [hd5.length, List.length_map, flat_len (n := ks.length) (fun a => by simp), List.length_take, h1]
          have : min j (ks.length ^ i) * ks.length ≤ 6 ^ 6 * 6 := Nat.mul_le_mul (Nat.le_trans (Nat.min_le_right _ _) hpow) hk
          omega
        have hwl2 : ws2.length ≤ 6 := by rw [hds6.length]; simpa using hk
        refine rd_ext hw6 hp6 (szl (by omega)) fun H7 e7 hw7 => ?_
        walk_at "rds"
        have e67 : Ek (fun a => a = lp) H5 H7 := (Ek.of e6).trans e7
        refine ⟨_, ws ++ ws2, rfl, e5.trans e67, hw7, ?_⟩
        have hrow2 : (rowsOf ks i).take (j + 1) = (rowsOf ks i).take j ++ [row] := by rw [List.take_add_one, hrow]; rfl
        rw [hrow2, List.flatMap_append, List.map_append]
        refine (hd5.ek (fun a z => .inr z) e67).append ?_
        have h9 := hds6.ek (T := fun a => a = lp) (fun a z => .inr z) e7
        rw [List.map_map] at h9
        simpa [List.map_map, Function.comp_def] using h9
      · obtain ⟨w1, ws, rfl, e5, hw, hd5⟩ := p
        rw [hxs, ← h1, List.take_length] at hd5
        walk_at "rds"
        have e6 : Ex H3 _ := ⟨fun a o _ ha => e5.keep _ _ (fun z => by rw [z, nlp] at ha; cases ha) (e4.at ha), fun a ha => e4.dom a (e5.dom a ha)⟩
        refine ⟨_, _, _, _, rfl, e3.trans e6, ?_⟩
        have hll : ws.length ≤ 6 ^ 7 := by
          rw [hd5.length, List.length_map, flat_len (n := ks.length) (fun a => by simp), h1]
          have : ks.length ^ i * ks.length ≤ 6 ^ 6 * 6 := Nat.mul_le_mul hpow hk
          omega
        exact .lst (hS3.no nlp) hw (szl (by omega)) hd5.down
    · obtain ⟨f, u1, u2, u3, rfl, e3, hf⟩ := p
      walk_at "rds"
      exact q _ _ (e1.trans (e2.trans e3)) hf
end
end My
namespace My
open PySem PySem.Spec PyProof.Rows L2 Lk
theorem filter_flat {p : Int → Bool} {keys : List Int} : ∀ rows : List (List Int),
    (rows.flatMap fun row => keys.map fun key => row ++ [key]).filter (fun r => r.all p) = (rows.filter fun r => r.all p).flatMap fun row => (keys.filter p).map fun key => row ++ [key]
  | [] => rfl
  | row :: rows => by
    rw [List.flatMap_cons, List.filter_append, filter_flat rows, List.filter_cons]
    have h : ((keys.map fun key => row ++ [key]).filter fun r => r.all p) = if row.all p = true then (keys.filter p).map fun key => row ++ [key] else [] := by
      rw [List.filter_map]
      by_cases hr : row.all p = true
      · rw [if_pos hr]
        refine congrArg _ (List.filter_congr fun k _ => ?_)
        simp [Function.comp, List.all_append, hr]
      · rw [if_neg hr, List.map_eq_nil_iff, List.filter_eq_nil_iff]
        intro k _
        simp [Function.comp, List.all_append, hr]
    rw [h]
    by_cases hr : row.all p = true
    · rw [if_pos hr, if_pos hr, List.flatMap_cons]
    · rw [if_neg hr, if_neg hr, List.nil_append]
theorem rows_filter (p : Int → Bool) (keys : List Int) : ∀ k, ((rowsOf keys k).filter fun r => r.all p).length = (keys.filter p).length ^ k
  | 0 => rfl
  | k + 1 => by
    show (((rowsOf keys k).flatMap fun row => keys.map fun key => row ++ [key]).filter fun r => r.all p).length = _
    rw [filter_flat, flat_len (n := (keys.filter p).length) (fun a => by simp), rows_filter p keys k, Nat.pow_succ]
theorem rg_filter {n g : Nat} (h : g ≤ n) : ((rgI n).filter fun z => decide (z < (g : Int))).length = g := by
  unfold rgI
  rw [List.filter_map, List.length_map]
  have e : ((List.range n).filter ((fun z : Int => decide (z < (g : Int))) ∘ Int.ofNat)) = (List.range n).filter fun z => decide (z < g) := by
    refine List.filter_congr fun k _ => ?_
    simp [Function.comp]
  rw [e]
  obtain ⟨m, rfl⟩ : ∃ m, n = g + m := ⟨n - g, by omega⟩
  rw [List.range_add, List.filter_append, List.length_append]
  have e1 : ((List.range g).filter fun z => decide (z < g)) = List.range g := List.filter_eq_self.mpr fun a ha => by simpa using ha
  have e2 : (((List.range m).map (g + ·)).filter fun z => decide (z < g)) = [] := List.filter_eq_nil_iff.mpr fun a ha => by
    obtain ⟨k, _, rfl⟩ := List.mem_map.mp ha
    simp
  rw [e1, e2]
  simp
theorem max_all {r : List Int} {m g : Int} (h1 : m ∈ r ++ [-1]) (h2 : ∀ y ∈ r ++ [-1], y ≤ m) (hg : 0 ≤ g) : decide (m < g) = r.all fun z => decide (z < g) := by
  by_cases h : m < g
  · rw [decide_eq_true h]
    symm
    rw [List.all_eq_true]
    intro z hz
    have := h2 z (List.mem_append_left _ hz)
    exact decide_eq_true (by omega)
  · rw [decide_eq_false h]
    symm
    rw [Bool.eq_false_iff]
    intro h3
    rw [List.all_eq_true] at h3
    rcases List.mem_append.mp h1 with q | q
    · exact h (of_decide_eq_true (h3 _ q))
    · have := List.mem_singleton.mp q
      omega
theorem sh_few (c a t b : Int) : ∀ (k many : Nat) (l r : Int), Sh 2 (fewFrom c a t b k many l r)
  | 0, _, _, _ => .tup fun d hd => by
    rw [List.mem_singleton.mp hd]
    exact .str
  | k + 1, many, l, r => by
    unfold fewFrom
    split
    · refine .tup fun d hd => ?_
      simp only [List.mem_cons, List.not_mem_nil, or_false] at hd
      rcases hd with rfl | rfl
      · exact .str
      · exact .int
    · exact sh_few c a t b k _ _ _
theorem prods_perm {ps qs : List (Nat × Nat)} (h : ps.Perm qs) : prods ps = prods qs := by
  unfold prods
  have h1 : ∀ (f : Nat × Nat → Nat), ps.foldl (fun z p => z * f p) 1 = qs.foldl (fun z p => z * f p) 1 := fun f =>
    h.foldl_eq' (fun x _ y _ z => by rw [Nat.mul_assoc, Nat.mul_comm (f x), ← Nat.mul_assoc]) 1
  rw [h1 (·.1), h1 (·.2)]
def pPair (p : Nat × Nat) : PyData := .tuple [.int p.1, .int p.2]
theorem nds_pairs : ∀ ps : List (Nat × Nat), nds (ps.map pPair) = ps.length
  | [] => by simp only [List.map_nil, nds, List.length_nil]
  | p :: r => by
    simp only [List.map_cons, nds, nds_pairs r, List.length_cons, pPair, nd]
    omega
theorem sh_pairs (k : Nat) (ps : List (Nat × Nat)) : Sh (k + 3) (.list (ps.map pPair)) := .lst fun d hd => by
  obtain ⟨p, _, rfl⟩ := List.mem_map.mp hd
  refine .tup fun e he => ?_
  simp only [List.mem_cons, List.not_mem_nil, or_false] at he
  rcases he with rfl | rfl <;> exact .int
theorem are_pairs (ps : List (Nat × Nat)) : ArePairs (ps.map pPair) ps := ⟨List.length_map _, fun i d p h1 h2 => by
  rw [List.getElem?_map, h2] at h1
  rw [← Option.some.inj h1]
  exact .inr rfl⟩
theorem are_loose {ps : List (Nat × Nat)} {es : List PyData} (h : Paired Lo (ps.map pPair) es) : ArePairs es ps := ⟨by rw [← pd_len h, List.length_map], fun i d p h1 h2 => by
  obtain ⟨a, h3, h4⟩ := pd_get h h1
  rw [List.getElem?_map, h2] at h3
  rw [← Option.some.inj h3] at h4
  exact lo_int2 h4⟩
theorem low1 : pLowest (2 ^ 3) (29 ^ 3) = .tuple [.int 8, .int 24389] := by
  unfold pLowest
  rw [show Nat.gcd (2 ^ 3) (29 ^ 3) = 1 from by decide +kernel] <;> rfl
theorem low2 : pLowest (prods []).1 (prods []).2 = .tuple [.int 1, .int 1] := by
  unfold pLowest
  rw [show Nat.gcd (prods []).1 (prods []).2 = 1 from by decide +kernel] <;> rfl
theorem low3 : pLowest (prods [(0, 3), (5, 5)]).1 (prods [(0, 3), (5, 5)]).2 = .tuple [.int 0, .int 1] := by
  unfold pLowest
  rw [show Nat.gcd (prods [(0, 3), (5, 5)]).1 (prods [(0, 3), (5, 5)]).2 = 15 from by decide +kernel] <;> rfl
theorem few1 : pFewest 2 29 1 100 = .tuple [.str "keys", .int 2] := by with_unfolding_all rfl
theorem few2 : pFewest 5 5 1 2 = .tuple [.str "more"] := by with_unfolding_all rfl
theorem few3 : pFewest 5 5 2 2 = .tuple [.str "keys", .int 0] := by with_unfolding_all rfl
theorem few4 : pFewest 0 5 1 9 = .tuple [.str "keys", .int 1] := by with_unfolding_all rfl
end My
namespace My
open PySem PySem.Spec PyProof.Rows L2 Lk
theorem bk_joint_share_0_pairs : Bk "joint_share" s_joint_share ["pairs"] ["pairs"] 0 [0] := fun _ _ _ _ _ _ us ws hl => match us, ws, gp_len hl with
  | [], [_], _ => rfl
theorem bk_fewest_keys_0_share_all_keys_count : Bk "fewest_keys" s_fewest_keys ["count", "all_keys", "share"] ["share", "all_keys", "count"] 0 [2, 1, 0] := fun _ _ _ _ _ _ us ws hl => match us, ws, gp_len hl with
  | [], [_, _, _], _ => rfl
theorem bk_share_of_0_often_all_keys_count : Bk "share_of" s_share_of ["count", "all_keys", "often"] ["often", "all_keys", "count"] 0 [2, 1, 0] := fun _ _ _ _ _ _ us ws hl => match us, ws, gp_len hl with
  | [], [_, _, _], _ => rfl
theorem bk_rows_let_0_often_all_keys_count : Bk "rows_let" s_rows_let ["count", "all_keys", "often"] ["often", "all_keys", "count"] 0 [2, 1, 0] := fun _ _ _ _ _ _ us ws hl => match us, ws, gp_len hl with
  | [], [_, _, _], _ => rfl

section
variable {P : Program} {w : World} {K : PySem.W.Frag} {mg : Str → Option Value} {base : Heap}
def spLaw (K : PySem.W.Frag) : Sp := fun vs H Q _ => ∃ (a : Addr) (ns : List Int), vs = [.ref a] ∧ SqL K H a (ns.map V.int) ∧ ns.length ≤ 63 ∧ ∀ H', Q (.bl true) H'
theorem ok_law (T : Fs K mg) (G__law_stream : Ok P w K mg base CX0 1 "_law_stream" s__law_stream ["script"] (spStream K)) (G__law_pick : Ok P w K mg base CX0 2 "_law_pick" s__law_pick ["stream", "things"] (spPick K))
    (G__law_draw : Ok P w K mg base CX0 1 "_law_draw" s__law_draw ["stream", "many"] (spDraw K)) (G__law_a_power : Ok P w K mg base CX0 1 "_law_a_power" s__law_a_power ["number", "often"] spPowerOf)
    (G__law_same : Ok P w K mg base CX0 6 "_law_same" s__law_same ["found", "due"] (spSame K 6)) (G_rows_let : Ok P w K mg base CX0 5 "rows_let" s_rows_let ["count", "all_keys", "often"] (spRowsLet K))
    (G_share_of : Ok P w K mg base CX0 6 "share_of" s_share_of ["count", "all_keys", "often"] (spShareOf K)) (G__law_lowest : Ok P w K mg base CX0 1 "_law_lowest" s__law_lowest ["top", "bottom"] (spLawLowest K))
    (G_fewest_keys : Ok P w K mg base CX0 5 "fewest_keys" s_fewest_keys ["count", "all_keys", "share"] (spFewestKeys K)) (G__law_loose : Ok P w K mg base CX0 7 "_law_loose" s__law_loose ["stream", "thing"] (spLoose K 6))
    (G__law_c : Ok P w K mg base CX0 6 "_law_c" s__law_c ["thing"] (spC K 6)) (G__law_rows : Ok P w K mg base CX0 1 "_law_rows" s__law_rows ["keys", "often"] (spRows K))
    (G_joint_share : Ok P w K mg base CX0 5 "joint_share" s_joint_share ["pairs"] (spJointShare K)) (G__law_copied : Ok P w K mg base CX0 6 "_law_copied" s__law_copied ["thing"] (spCopied K 6)) :
    Ok P w K mg base CX0 11 "law" s_law ["script"] (spLaw K) := by
  refine ok_mk T.d_law sc_law (fun vs H Q E h => ?_) (fun f cdv A outer s H vs Q E hr h => ?_)
  · obtain ⟨a, ns, rfl, _⟩ := h; rfl
  · obtain ⟨sc, ns, rfl, hsc, hns, q⟩ := h
    refine ⟨_, (pss_cons (ps_set (i := 1) sc_law.nd rfl (.inl rfl) (pe_c G__law_stream bd__law_stream (hr.mono (by omega)) pass0 (pa_cons (pv 0) pa_nil)))
      (pss_cons (ps_for PassesOwn.never rfl (pi_range1 (by rfl) T.m_range (pa_cons pe_int pa_nil)) (pg_name (i := 2) sc_law.nd rfl (.inl rfl)) (pss_cons (ps_set (i := 3) sc_law.nd rfl (.inl rfl) (pe_c G__law_pick bd__law_pick (hr.mono (by omega)) pass0 (pa_cons (pv 1) (pa_cons (pe_lst (pa_cons pe_int (pa_cons pe_int (pa_cons pe_int (pa_cons pe_int (pa_cons (pe_op op_add pe_int (pe_c G__law_draw bd__law_draw (hr.mono (by omega)) pass0 (pa_cons (pv 1) (pa_cons (pe_op op_pow pe_int pe_int) pa_nil)))) (pa_cons (pe_op op_pow pe_int pe_int) pa_nil))))))) pa_nil))))
      (pss_cons (ps_par (i := 4) (j := 5) (by rfl) sc_law.nd rfl rfl (by decide) rfl rfl (pa_cons (pe_c G__law_pick bd__law_pick (hr.mono (by omega)) pass0 (pa_cons (pv 1) (pa_cons (pe_lst (pa_cons pe_int (pa_cons (pv 3) (pa_cons (pe_c G__law_draw bd__law_draw (hr.mono (by omega)) pass0 (pa_cons (pv 1) (pa_cons (pe_op op_add (pv 3) pe_int) pa_nil))) (pa_cons (pe_callB (call_min2 rfl) (by rfl) T.m_min (by decide +kernel) (pa_cons (pv 3) (pa_cons pe_int pa_nil))) pa_nil))))) pa_nil))) (pa_cons (pe_c G__law_pick bd__law_pick (hr.mono (by omega)) pass0 (pa_cons (pv 1) (pa_cons (pe_lst (pa_cons pe_int (pa_cons pe_int (pa_cons pe_int (pa_cons (pe_c G__law_draw bd__law_draw (hr.mono (by omega)) pass0 (pa_cons (pv 1) (pa_cons pe_int pa_nil))) pa_nil))))) pa_nil))) pa_nil)) (by rfl))
      (pss_cons (ps_par (i := 6) (j := 7) (by rfl) sc_law.nd rfl rfl (by decide) rfl rfl (pa_cons (pe_c G__law_a_power bd__law_a_power (hr.mono (by omega)) pass0 (pa_cons (pv 4) (pa_cons (pv 5) pa_nil))) (pa_cons (pe_c G__law_a_power bd__law_a_power (hr.mono (by omega)) pass0 (pa_cons (pv 3) (pa_cons (pv 5) pa_nil))) pa_nil)) (by rfl))
      (pss_cons (ps_if (pt_not (pt_val (pe_c G__law_same bd__law_same (hr.mono (by omega)) pass0 (pa_cons (pe_lst (pa_cons (pe_c G_rows_let bd_rows_let (hr.mono (by omega)) pass0 (pa_cons (pv 4) (pa_cons (pv 3) (pa_cons (pv 5) pa_nil)))) (pa_cons (pe_ck0 G_rows_let bk_rows_let_0_often_all_keys_count (hr.mono (by omega)) pass0 (pk_cons (pv 5) (pk_cons (pv 3) (pk_cons (pv 4) pk_nil)))) pa_nil))) (pa_cons (pe_op op_rep (pe_lst (pa_cons (pe_tup (pa_cons (pv 6) (pa_cons (pv 7) pa_nil))) pa_nil)) pe_int) pa_nil))))) (pss_one (ps_ret pe_bl)) pss_nil)
      (pss_cons (ps_if (pt_not (pt_val (pe_c G__law_same bd__law_same (hr.mono (by omega)) pass0 (pa_cons (pe_lst (pa_cons (pe_c G_share_of bd_share_of (hr.mono (by omega)) pass0 (pa_cons (pv 4) (pa_cons (pv 3) (pa_cons (pv 5) pa_nil)))) (pa_cons (pe_ck0 G_share_of bk_share_of_0_often_all_keys_count (hr.mono (by omega)) pass0 (pk_cons (pv 5) (pk_cons (pv 3) (pk_cons (pv 4) pk_nil)))) pa_nil))) (pa_cons (pe_op op_rep (pe_lst (pa_cons (pe_c G__law_lowest bd__law_lowest (hr.mono (by omega)) pass0 (pa_cons (pv 6) (pa_cons (pv 7) pa_nil))) pa_nil)) pe_int) pa_nil))))) (pss_one (ps_ret pe_bl)) pss_nil)
      (pss_cons (ps_set (i := 8) sc_law.nd rfl (.inl rfl) (pe_c G__law_pick bd__law_pick (hr.mono (by omega)) pass0 (pa_cons (pv 1) (pa_cons (pe_lst (pa_cons pe_int (pa_cons pe_int (pa_cons pe_int (pa_cons (pe_op op_pow pe_int pe_int) (pa_cons (pe_op op_pow pe_int pe_int) pa_nil)))))) pa_nil))))
      (pss_cons (ps_set (i := 9) sc_law.nd rfl (.inl rfl) (pe_tup (pa_cons (pe_c G__law_pick bd__law_pick (hr.mono (by omega)) pass0 (pa_cons (pv 1) (pa_cons (pe_lst (pa_cons pe_int (pa_cons pe_int (pa_cons (pv 8) (pa_cons (pe_op op_add pe_int (pe_c G__law_draw bd__law_draw (hr.mono (by omega)) pass0 (pa_cons (pv 1) (pa_cons (pe_callB (call_min2 rfl) (by rfl) T.m_min (by decide +kernel) (pa_cons (pv 8) (pa_cons (pe_op op_pow pe_int pe_int) pa_nil))) pa_nil)))) pa_nil))))) pa_nil))) (pa_cons (pv 8) pa_nil))))
      (pss_cons (ps_set (i := 10) sc_law.nd rfl (.inl rfl) (pe_tup (pa_cons pe_str pa_nil)))
      (pss_cons (ps_asg (pe_tup (pa_cons pe_int (pa_cons pe_int pa_nil))) (pgtup (K := K) (pg_tup rfl (pgs_cons (pg_name (i := 11) sc_law.nd rfl (.inl rfl)) (pgs_cons (pg_name (i := 12) sc_law.nd rfl (.inl rfl)) pgs_nil)))))
      (pss_cons (ps_for PassesOwn.never rfl (pi_range1 (by rfl) T.m_range (pa_cons pe_int pa_nil)) (pg_name (i := 13) sc_law.nd rfl (.inl rfl)) (pss_cons (ps_if (pt_cmpR op_le (pe_op op_mulW (pv 11) (pe_ix (ixq (K := K)) (pv 9) pe_int (fun _ _ => rfl))) (pe_op op_mulW (pe_ix (ixq (K := K)) (pv 9) pe_int (fun _ _ => rfl)) (pv 12)) (nomark _)) (pss_cons (ps_set (i := 10) sc_law.nd rfl (.inl rfl) (pe_tup (pa_cons pe_str (pa_cons (pv 13) pa_nil))))
      (pss_one ps_break)) pss_nil)
      (pss_one (ps_par (i := 11) (j := 12) (by rfl) sc_law.nd rfl rfl (by decide) rfl rfl (pa_cons (pe_op op_mulW (pv 11) (pv 4)) (pa_cons (pe_op op_mulW (pv 12) (pv 3)) pa_nil)) (by rfl)))))
      (pss_cons (ps_if (pt_not (pt_val (pe_c G__law_same bd__law_same (hr.mono (by omega)) pass0 (pa_cons (pe_lst (pa_cons (pe_c G_fewest_keys bd_fewest_keys (hr.mono (by omega)) pass0 (pa_cons (pv 4) (pa_cons (pv 3) (pa_cons (pe_c G__law_loose bd__law_loose (hr.mono (by omega)) pass0 (pa_cons (pv 1) (pa_cons (pv 9) pa_nil))) pa_nil)))) (pa_cons (pe_ck0 G_fewest_keys bk_fewest_keys_0_share_all_keys_count (hr.mono (by omega)) pass0 (pk_cons (pe_c G__law_c bd__law_c (hr.mono (by omega)) pass0 (pa_cons (pv 9) pa_nil)) (pk_cons (pv 3) (pk_cons (pv 4) pk_nil)))) pa_nil))) (pa_cons (pe_lst (pa_cons (pv 10) (pa_cons (pv 10) pa_nil))) pa_nil))))) (pss_one (ps_ret pe_bl)) pss_nil)
      (pss_cons (ps_asg (pe_tup (pa_cons (pe_op op_add pe_int (pe_c G__law_draw bd__law_draw (hr.mono (by omega)) pass0 (pa_cons (pv 1) (pa_cons pe_int pa_nil)))) (pa_cons (pe_c G__law_draw bd__law_draw (hr.mono (by omega)) pass0 (pa_cons (pv 1) (pa_cons pe_int pa_nil))) pa_nil))) (pgtup (K := K) (pg_tup rfl (pgs_cons (pg_name (i := 14) sc_law.nd rfl (.inl rfl)) (pgs_cons (pg_name (i := 15) sc_law.nd rfl (.inr rfl)) pgs_nil)))))
      (pss_cons (ps_asg (pe_tup (pa_cons (pe_callB (call_min2 rfl) (by rfl) T.m_min (by decide +kernel) (pa_cons (pv 15) (pa_cons (pv 14) pa_nil))) (pa_cons (pe_c G__law_draw bd__law_draw (hr.mono (by omega)) pass0 (pa_cons (pv 1) (pa_cons pe_int pa_nil))) pa_nil))) (pgtup (K := K) (pg_tup rfl (pgs_cons (pg_name (i := 15) sc_law.nd rfl (.inr rfl)) (pgs_cons (pg_name (i := 16) sc_law.nd rfl (.inl rfl)) pgs_nil)))))
      (pss_cons (ps_set (i := 17) sc_law.nd rfl (.inl rfl) (pe_c G__law_rows bd__law_rows (hr.mono (by omega)) pass0 (pa_cons (pe_listRg rfl (by rfl) T.m_list (prg_1 (by rfl) T.m_range (pv 14))) (pa_cons (pv 16) pa_nil))))
      (pss_cons (ps_if (pt_not (pt_val (pe_c G__law_same bd__law_same (hr.mono (by omega)) pass0 (pa_cons (pe_c G_rows_let bd_rows_let (hr.mono (by omega)) pass0 (pa_cons (pe_c G__law_c bd__law_c (hr.mono (by omega)) pass0 (pa_cons (pv 15) pa_nil)) (pa_cons (pv 14) (pa_cons (pe_c G__law_c bd__law_c (hr.mono (by omega)) pass0 (pa_cons (pv 16) pa_nil)) pa_nil)))) (pa_cons (pe_tup (pa_cons (pe_callB (cln (K := K)) (by rfl) T.m_len (by decide +kernel) (pa_cons (pe_lc (own := [("row", 25)]) (g := (gName 25)) rfl sc_law.nd (piseq (K := K) (pv 17)) (blkOk_by (N := ["script", "stream", "turn", "all_keys", "count", "often", "let", "rows", "bottom", "share", "due", "one", "other", "many", "few", "good", "long", "lots", "pairs", "k", "top", "parts", "handed", "was", "found", "row"]) (sc := defScope s_law) (by decide +kernel)) (fun _ _ _ _ _ => (pg_name (i := 25) sc_law.nd rfl (.inl rfl))) (fun _ _ _ _ _ => (pts_one (pt_cmpR op_lt (pe_callB (crmax (K := K) rfl) (by rfl) T.m_max (by decide +kernel) (pa_cons (pe_op op_cat (pv 25) (pe_lst (pa_cons (pe_un un_neg pe_int) pa_nil))) pa_nil)) (pv 15) (nomark _)))) (fun _ _ _ _ _ => (pv 25))) pa_nil)) (pa_cons (pe_callB (cln (K := K)) (by rfl) T.m_len (by decide +kernel) (pa_cons (pv 17) pa_nil)) pa_nil))) pa_nil))))) (pss_one (ps_ret pe_bl)) pss_nil)
      (pss_cons (ps_set (i := 18) sc_law.nd rfl (.inl rfl) (pe_lst pa_nil))
      (pss_cons (ps_for PassesOwn.never rfl (pi_range1 (by rfl) T.m_range (pa_cons (pe_c G__law_draw bd__law_draw (hr.mono (by omega)) pass0 (pa_cons (pv 1) (pa_cons pe_int pa_nil))) pa_nil)) (pg_name (i := 19) sc_law.nd rfl (.inl rfl)) (pss_cons (ps_set (i := 13) sc_law.nd rfl (.inl rfl) (pe_c G__law_pick bd__law_pick (hr.mono (by omega)) pass0 (pa_cons (pv 1) (pa_cons (pe_lst (pa_cons pe_int (pa_cons pe_int (pa_cons (pe_op op_add pe_int (pe_c G__law_draw bd__law_draw (hr.mono (by omega)) pass0 (pa_cons (pv 1) (pa_cons (pe_op op_pow pe_int pe_int) pa_nil)))) pa_nil)))) pa_nil))))
      (pss_one (ps_expr (bm (K := K) (pe_bm PySem.F.plainAttrs_list PySem.F.slot_list_append PySem.F.type_list_append mt_append (pv 18) (pa_cons (pe_tup (pa_cons (pe_c G__law_draw bd__law_draw (hr.mono (by omega)) pass0 (pa_cons (pv 1) (pa_cons (pe_op op_add (pv 13) pe_int) pa_nil))) (pa_cons (pv 13) pa_nil))) pa_nil)))))))
      (pss_cons (ps_asg (pe_tup (pa_cons pe_int (pa_cons pe_int pa_nil))) (pgtup (K := K) (pg_tup rfl (pgs_cons (pg_name (i := 20) sc_law.nd rfl (.inl rfl)) (pgs_cons (pg_name (i := 21) sc_law.nd rfl (.inl rfl)) pgs_nil)))))
      (pss_cons (ps_for PassesOwn.never rfl (piseq (K := K) (pv 18)) (pgtup (K := K) (pg_tup rfl (pgs_cons (pg_name (i := 11) sc_law.nd rfl (.inl rfl)) (pgs_cons (pg_name (i := 12) sc_law.nd rfl (.inl rfl)) pgs_nil)))) (pss_one (ps_par (i := 20) (j := 21) (by rfl) sc_law.nd rfl rfl (by decide) rfl rfl (pa_cons (pe_op op_mulW (pv 20) (pv 11)) (pa_cons (pe_op op_mulW (pv 21) (pv 12)) pa_nil)) (by rfl))))
      (pss_cons (ps_set (i := 22) sc_law.nd rfl (.inl rfl) (pe_c G__law_loose bd__law_loose (hr.mono (by omega)) pass0 (pa_cons (pv 1) (pa_cons (pv 18) pa_nil))))
      (pss_cons (ps_set (i := 23) sc_law.nd rfl (.inl rfl) (pe_c G__law_copied bd__law_copied (hr.mono (by omega)) pass0 (pa_cons (pv 22) pa_nil)))
      (pss_one (ps_if (pt_not (pt_val (pe_c G__law_same bd__law_same (hr.mono (by omega)) pass0 (pa_cons (pe_lst (pa_cons (pe_c G_joint_share bd_joint_share (hr.mono (by omega)) pass0 (pa_cons (pv 22) pa_nil)) (pa_cons (pe_ck0 G_joint_share bk_joint_share_0_pairs (hr.mono (by omega)) pass0 (pk_cons (pe_c G__law_c bd__law_c (hr.mono (by omega)) pass0 (pa_cons (pv 18) pa_nil)) pk_nil)) (pa_cons (pe_c G_joint_share bd_joint_share (hr.mono (by omega)) pass0 (pa_cons (pe_c G__law_c bd__law_c (hr.mono (by omega)) pass0 (pa_cons (pe_rev (K := K) (pv 18)) pa_nil)) pa_nil)) (pa_cons (pv 22) pa_nil))))) (pa_cons (pe_op op_cat (pe_op op_rep (pe_lst (pa_cons (pe_c G__law_lowest bd__law_lowest (hr.mono (by omega)) pass0 (pa_cons (pv 20) (pa_cons (pv 21) pa_nil))) pa_nil)) pe_int) (pe_lst (pa_cons (pv 23) pa_nil))) pa_nil))))) (pss_one (ps_ret pe_bl)) pss_nil))))))))))))))))))))))))
      (pss_cons (ps_set (i := 24) sc_law.nd rfl (.inl rfl) (pe_lst (pa_cons (pe_c G_share_of bd_share_of (hr.mono (by omega)) pass0 (pa_cons pe_int (pa_cons pe_int (pa_cons pe_int pa_nil)))) (pa_cons (pe_c G_fewest_keys bd_fewest_keys (hr.mono (by omega)) pass0 (pa_cons pe_int (pa_cons pe_int (pa_cons (pe_tup (pa_cons pe_int (pa_cons pe_int pa_nil))) pa_nil)))) (pa_cons (pe_c G_fewest_keys bd_fewest_keys (hr.mono (by omega)) pass0 (pa_cons pe_int (pa_cons pe_int (pa_cons (pe_tup (pa_cons pe_int (pa_cons pe_int pa_nil))) pa_nil)))) (pa_cons (pe_c G_fewest_keys bd_fewest_keys (hr.mono (by omega)) pass0 (pa_cons pe_int (pa_cons pe_int (pa_cons (pe_tup (pa_cons pe_int (pa_cons pe_int pa_nil))) pa_nil)))) (pa_cons (pe_c G_fewest_keys bd_fewest_keys (hr.mono (by omega)) pass0 (pa_cons pe_int (pa_cons pe_int (pa_cons (pe_tup (pa_cons pe_int (pa_cons pe_int pa_nil))) pa_nil)))) (pa_cons (pe_c G_joint_share bd_joint_share (hr.mono (by omega)) pass0 (pa_cons (pe_lst pa_nil) pa_nil)) (pa_cons (pe_c G_joint_share bd_joint_share (hr.mono (by omega)) pass0 (pa_cons (pe_lst (pa_cons (pe_tup (pa_cons pe_int (pa_cons pe_int pa_nil))) (pa_cons (pe_tup (pa_cons pe_int (pa_cons pe_int pa_nil))) pa_nil))) pa_nil)) pa_nil)))))))))
      (pss_one (ps_ret (pe_c G__law_same bd__law_same (hr.mono (by omega)) pass0 (pa_cons (pv 24) (pa_cons (pe_lst (pa_cons (pe_tup (pa_cons pe_int (pa_cons pe_int pa_nil))) (pa_cons (pe_tup (pa_cons pe_str (pa_cons pe_int pa_nil))) (pa_cons (pe_tup (pa_cons pe_str pa_nil)) (pa_cons (pe_tup (pa_cons pe_str (pa_cons pe_int pa_nil))) (pa_cons (pe_tup (pa_cons pe_str (pa_cons pe_int pa_nil))) (pa_cons (pe_tup (pa_cons pe_int (pa_cons pe_int pa_nil))) (pa_cons (pe_tup (pa_cons pe_int (pa_cons pe_int pa_nil))) pa_nil)))))))) pa_nil)))))))), ?_⟩
    walk_at "rds"
    refine ⟨sc, ns, rfl, hsc, hns, fun H1 st S e1 hs hS _ => ?_⟩
    walk_at "rds"
    walk_at "for"
    refine for_rng (fun i σ H' => ∃ (u2 u3 u4 u5 u6 u7 u8 u9 u10 u11 u12 u13 u14 u15 u16 u17 u18 u19 u20 u21 u22 u23 u24 : Option V), σ = [some (.ref sc), some (.ref st), u2, u3, u4, u5, u6, u7, u8, u9, u10, u11, u12, u13, u14, u15, u16, u17, u18, u19, u20, u21, u22, u23, u24, none] ∧ Sok S H' ∧ Strm S H' st (100 * i))
      ⟨_, _, _, _, _, _, _, _, _, _, _, _, _, _, _, _, _, _, _, _, _, _, _, rfl, hS, hs⟩ (fun i σ H3 hi p => ?_) (fun σ H' p => ?_)
    · clear hS hs e1 hsc hns
      obtain ⟨u2, u3, u4, u5, u6, u7, u8, u9, u10, u11, u12, u13, u14, u15, u16, u17, u18, u19, u20, u21, u22, u23, u24, rfl, hS, hs⟩ := p
      have hi8 : i < 8 := hi
      walk_at "rds"
      refine ⟨S, st, _, _, rfl, hs, by omega, by decide, fit_of (k := 64) (by decide) (by decide), fun H4 d1 e4 hs h0 h1 => ?_⟩
      obtain ⟨d1, rfl⟩ := Int.eq_ofNat_of_zero_le h0
      have hS := hS.ek e4
      walk_at "rds"
      rename_i p np H5 e5 hp
      refine ⟨S, S, st, _, _, _, _, rfl, fun _ z => z, hs.ek e5, by omega, .newL hS np hp (szl (Nat.le_of_ble_eq_true rfl)) (by walk_at "ds"), .inl rfl, by exact Nat.zero_lt_succ _, fun H6 i6 di v e6 hs hi6 hv => ?_⟩
      obtain ⟨a, rfl, ha1, ha2⟩ : ∃ a : Nat, di = .int a ∧ 1 ≤ a ∧ a ≤ 10 ^ 9 := by
        have hm := List.mem_of_getElem? hi6
        simp only [List.mem_cons, List.not_mem_nil, or_false] at hm
        rcases hm with rfl | rfl | rfl | rfl | rfl | rfl
        · exact ⟨1, rfl, by decide, by decide⟩
        · exact ⟨2, rfl, by decide, by decide⟩
        · exact ⟨10, rfl, by decide, by decide⟩
        · exact ⟨97, rfl, by decide, by decide⟩
        · refine ⟨1 + d1, by simp, by omega, ?_⟩
          have : (d1 : Int) < 1000000 := h1
          omega
        · exact ⟨10 ^ 9, rfl, by decide, by decide⟩
      cases hv
      have hS := (hS.ek e5).ek e6
      clear hi6 e4 e5 e6 hp np h0 h1 p
      walk_at "rds"
      -- count
      refine ⟨S, st, _, _, rfl, hs, by omega, by omega, fit_of (k := 64) (by omega) (by decide), fun H4 d2 e4 hs h0 h1 => ?_⟩
      obtain ⟨d2, rfl⟩ := Int.eq_ofNat_of_zero_le h0
      have hS := hS.ek e4
      walk_at "rds"
      rename_i p np H5 e5 hp
      refine ⟨S, S, st, _, _, _, _, rfl, fun _ z => z, hs.ek e5, by omega, .newL hS np hp (szl (Nat.le_of_ble_eq_true rfl)) (by walk_at "ds"), .inl rfl, by exact Nat.zero_lt_succ _, fun H6 i6 di v e6 hs hi6 hv => ?_⟩
      obtain ⟨c, rfl, hca⟩ : ∃ c : Nat, di = .int c ∧ c ≤ a := by
        have hm := List.mem_of_getElem? hi6
        simp only [List.mem_cons, List.not_mem_nil, or_false] at hm
        rcases hm with rfl | rfl | rfl | rfl
        · exact ⟨0, rfl, by omega⟩
        · exact ⟨a, rfl, by omega⟩
        · exact ⟨d2, rfl, by omega⟩
        · exact ⟨if 3 < a then 3 else a, by split <;> split <;> first | rfl | omega, by split <;> omega⟩
      cases hv
      have hS := (hS.ek e5).ek e6
      clear hi6 e4 e5 e6 hp np h0 h1 p
      walk_at "rds"
      -- often
      refine ⟨S, st, _, _, rfl, hs, by omega, by decide, fit_of (k := 64) (by decide) (by decide), fun H4 d3 e4 hs h0 h1 => ?_⟩
      obtain ⟨d3, rfl⟩ := Int.eq_ofNat_of_zero_le h0
      have hS := hS.ek e4
      walk_at "rds"
      rename_i p np H5 e5 hp
      refine ⟨S, S, st, _, _, _, _, rfl, fun _ z => z, hs.ek e5, by omega, .newL hS np hp (szl (Nat.le_of_ble_eq_true rfl)) (by walk_at "ds"), .inl rfl, by exact Nat.zero_lt_succ _, fun H6 i6 di v e6 hs hi6 hv => ?_⟩
      obtain ⟨n, rfl, hn⟩ : ∃ c : Nat, di = .int c ∧ c ≤ 60 := by
        have hm := List.mem_of_getElem? hi6
        simp only [List.mem_cons, List.not_mem_nil, or_false] at hm
        rcases hm with rfl | rfl | rfl | rfl
        · exact ⟨0, rfl, by omega⟩
        · exact ⟨1, rfl, by omega⟩
        · exact ⟨2, rfl, by omega⟩
        · exact ⟨d3, rfl, by omega⟩
      cases hv
      have hS := (hS.ek e5).ek e6
      clear hi6 e4 e5 e6 hp np h0 h1 p
      walk_at "rds"
      -- let, rows
      refine ⟨c, n, rfl, by omega, by omega, fun H7 e7 => ?_⟩
      walk_at "rds"
      refine ⟨a, n, rfl, by omega, by omega, fun H8 e8 => ?_⟩
      walk_at "rds"
      have hcn : (c : Int) ^ n = ((c ^ n : Nat) : Int) := by simp
      have han : (a : Int) ^ n = ((a ^ n : Nat) : Int) := by simp
      have hap : 0 < a ^ n := Nat.pow_pos (by omega)
      rw [hcn, han]
      have hs := hs.mono (show _ ≤ 100 * i + 6 by omega)
      -- rows_let
      refine ⟨S, c, a, n, rfl, by walk_at "up", by omega, hca, by omega, by omega, fun v1 H9 e9 hv1 => ?_⟩
      rw [hcn, han] at hv1
      walk_at "rds"
      refine ⟨S, c, a, n, rfl, by walk_at "up", by omega, hca, by omega, by omega, fun v2 H10 e10 hv2 => ?_⟩
      rw [hcn, han] at hv2
      walk_at "rds"
      rename_i p1 np1 H11 e11 hp1 p2 np2 H12 e12 hp2 p3 np3 H13 e13 hp3
      have hS10 : Sok S H10 := by walk_at "up"
      have hS11 : Sok S H11 := by walk_at "up"
      have hS12 : Sok S H12 := by walk_at "up"
      have d1 : D K S H11 (.ref p1) _ := .newL hS10 np1 hp1 (szl (Nat.le_of_ble_eq_true rfl)) (by walk_at "ds")
      have d2 : D K S H12 (.ref p2) _ := .newT hS11 np2 hp2 (szl (Nat.le_of_ble_eq_true rfl)) (by walk_at "ds")
      refine rd_rep hp3 (by decide) (by decide) (szl (Nat.le_of_ble_eq_true rfl)) fun p4 H14 np4 e14 hp4 => ?_
      have hS13 : Sok S H13 := by walk_at "up"
      have hS14 : Sok S H14 := by walk_at "up"
      have d4 : D K S H14 (.ref p4) (.list [.tuple [.int (c ^ n : Nat), .int (a ^ n : Nat)], .tuple [.int (c ^ n : Nat), .int (a ^ n : Nat)]]) := .newL hS13 np4 hp4 (szl (Nat.le_of_ble_eq_true rfl)) (.cons (by walk_at "up") (.cons (by walk_at "up") .nil))
      walk_at "rds"
      have shInt2 : ∀ (k : Nat) (x y : Int), Sh (k + 2) (.tuple [.int x, .int y]) := fun k x y => .tup fun d hd => by
        simp only [List.mem_cons, List.not_mem_nil, or_false] at hd
        rcases hd with rfl | rfl <;> exact .int
      refine ⟨S, _, _, _, rfl, hS14, by walk_at "up", d4, .lst fun d hd => ?_, fun H15 e15 => ?_⟩
      · simp only [List.mem_cons, List.not_mem_nil, or_false] at hd
        rcases hd with rfl | rfl <;> exact shInt2 _ _ _
      walk_at "rds"
      walk_at "if"
      have hs : Strm S H15 st (100 * i + 6) := by walk_at "up"
      have hS := hS14.ek e15
      clear d1 d2 d4 hp1 hp2 hp3 hp4 np1 np2 np3 np4 hv1 hv2 e7 e8 e9 e10 e11 e12 e13 e14 e15 hS10 hS11 hS12 hS13 hS14
      walk_at "rds"
      -- share_of
      refine ⟨S, c, a, n, rfl, hS, by omega, hca, by omega, by omega, fun v1 H9 e9 hv1 => ?_⟩
      walk_at "rds"
      refine ⟨S, c, a, n, rfl, by walk_at "up", by omega, hca, by omega, by omega, fun v2 H10 e10 hv2 => ?_⟩
      walk_at "rds"
      rename_i p1 np1 H11 e11 hp1
      have hS10 : Sok S H10 := by walk_at "up"
      have d1 : D K S H11 (.ref p1) _ := .newL hS10 np1 hp1 (szl (Nat.le_of_ble_eq_true rfl)) (by walk_at "ds")
      have hcs : c ^ n < 2 ^ 4000 := Nat.lt_of_le_of_lt (Nat.pow_le_pow_left (show c ≤ 2 ^ 30 by omega) n) (by rw [← Nat.pow_mul]; exact Nat.pow_lt_pow_right (by decide) (by omega))
      have has : a ^ n < 2 ^ 4000 := Nat.lt_of_le_of_lt (Nat.pow_le_pow_left (show a ≤ 2 ^ 30 by omega) n) (by rw [← Nat.pow_mul]; exact Nat.pow_lt_pow_right (by decide) (by omega))
      refine ⟨S, c ^ n, a ^ n, rfl, by walk_at "up", hap, hcs, has, fun v3 H12 e12 hv3 => ?_⟩
      clear hcs has
      walk_at "rds"
      rename_i p3 np3 H13 e13 hp3
      refine rd_rep hp3 (by decide) (by decide) (szl (Nat.le_of_ble_eq_true rfl)) fun p4 H14 np4 e14 hp4 => ?_
      have hS13 : Sok S H13 := by walk_at "up"
      have hS14 : Sok S H14 := by walk_at "up"
      have d4 : D K S H14 (.ref p4) (.list [pLowest (c ^ n) (a ^ n), pLowest (c ^ n) (a ^ n)]) := .newL hS13 np4 hp4 (szl (Nat.le_of_ble_eq_true rfl)) (.cons (by walk_at "up") (.cons (by walk_at "up") .nil))
      walk_at "rds"
      refine ⟨S, _, _, _, rfl, hS14, by walk_at "up", d4, .lst fun d hd => ?_, fun H15 e15 => ?_⟩
      · simp only [List.mem_cons, List.not_mem_nil, or_false] at hd
        rcases hd with rfl | rfl <;> exact shInt2 _ _ _
      walk_at "rds"
      walk_at "if"
      have hs : Strm S H15 st (100 * i + 6) := by walk_at "up"
      have hS := hS14.ek e15
      clear d1 d4 hp1 hp3 hp4 np1 np3 np4 hv1 hv2 hv3 e9 e10 e11 e12 e13 e14 e15 hS10 hS13 hS14
      walk_at "rds"
      -- bottom
      rename_i p np H5 e5 hp
      refine ⟨S, S, st, _, _, _, _, rfl, fun _ z => z, hs.ek e5, by omega, .newL hS np hp (szl (Nat.le_of_ble_eq_true rfl)) (by walk_at "ds"), .inl rfl, by exact Nat.zero_lt_succ _, fun H6 i6 di v e6 hs hi6 hv => ?_⟩
      obtain ⟨b, rfl, hb1, hb2⟩ : ∃ c : Nat, di = .int c ∧ 1 ≤ c ∧ c ≤ 10 ^ 40 := by
        have hm := List.mem_of_getElem? hi6
        simp only [List.mem_cons, List.not_mem_nil, or_false] at hm
        rcases hm with rfl | rfl | rfl | rfl | rfl
        · exact ⟨1, rfl, by decide, by decide⟩
        · exact ⟨2, rfl, by decide, by decide⟩
        · exact ⟨100, rfl, by decide, by decide⟩
        · exact ⟨10 ^ 6, rfl, by decide, by decide⟩
        · exact ⟨10 ^ 40, rfl, by decide, by decide⟩
      cases hv
      have hS := (hS.ek e5).ek e6
      clear hi6 e5 e6 hp np p
      walk_at "rds"
      -- share
      clear hap hcn han
      rw [show (10 : Int) ^ Int.toNat 6 = 1000000 from rfl]
      refine ⟨S, st, _, _, rfl, hs, by omega, by split <;> omega, fit_of (k := 64) (by split <;> omega) (by decide), fun H4 d3 e4 hs h0 h1 => ?_⟩
      obtain ⟨d3, rfl⟩ := Int.eq_ofNat_of_zero_le h0
      have hS := hS.ek e4
      walk_at "rds"
      rename_i p np H5 e5 hp
      refine ⟨S, S, st, _, _, _, _, rfl, fun _ z => z, hs.ek e5, by omega, .newL hS np hp (szl (Nat.le_of_ble_eq_true rfl)) (by walk_at "ds"), .inl rfl, by exact Nat.zero_lt_succ _, fun H6 i6 di v e6 hs hi6 hv => ?_⟩
      obtain ⟨t, rfl, ht1, ht2⟩ : ∃ c : Nat, di = .int c ∧ 1 ≤ c ∧ c ≤ b := by
        have hm := List.mem_of_getElem? hi6
        simp only [List.mem_cons, List.not_mem_nil, or_false] at hm
        rcases hm with rfl | rfl | rfl | rfl
        · exact ⟨1, rfl, by decide, hb1⟩
        · exact ⟨1, rfl, by decide, hb1⟩
        · exact ⟨b, rfl, hb1, Nat.le_refl _⟩
        · refine ⟨1 + d3, by simp, by omega, ?_⟩
          split at h1 <;> omega
      cases hv
      have hS := (hS.ek e5).ek e6
      clear hi6 e4 e5 e6 hp np h0 h1 p
      walk_at "rds"
      rename_i psh npsh H7 e7 hpsh pdu npdu H8 e8 hpdu p11 np11 H9 e9 hp11
      have hsh : D K S H7 (.ref psh) (.tuple [.int t, .int b]) := .newT hS npsh hpsh (szl (Nat.le_of_ble_eq_true rfl)) (by walk_at "ds")
      have hdu : D K S H8 (.ref pdu) (.tuple [.str "more"]) := .newT (hS.ek e7) npdu hpdu (szl (Nat.le_of_ble_eq_true rfl)) (by walk_at "ds")
      have hsh9 : H9 psh = some (.tup [.int t, .int b]) := e9.at (e8.at hpsh)
      have hS9 : Sok S H9 := by walk_at "up"
      refine cutS (fun σ' H' => ∃ (w1 w2 w3 : Option V) (du : V), σ' = [some (.ref sc), some (.ref st), some (.int (0 + i)), some (.int a), some (.int c), some (.int n), some (.int (c ^ n : Nat)), some (.int (a ^ n : Nat)), some (.int b), some (.ref psh), some du, w1, w2, w3, u14, u15, u16, u17, u18, u19, u20, u21, u22, u23, u24, none] ∧ Ex H9 H' ∧ D K S H' du (pFewest c a t b)) (fun N hN => ?_) (fun σ' H' h => ?_)
      · walk_at "for"
        refine for_src (T := N0) src_r (fun j σ H' => ∃ (w3 : Option V) (l r : Int), σ = [some (.ref sc), some (.ref st), some (.int (0 + i)), some (.int a), some (.int c), some (.int n), some (.int (c ^ n : Nat)), some (.int (a ^ n : Nat)), some (.int b), some (.ref psh), some (.ref pdu), some (.int l), some (.int r), w3, u14, u15, u16, u17, u18, u19, u20, u21, u22, u23, u24, none] ∧ H' = H9 ∧ l = (c : Int) ^ j ∧ r = (a : Int) ^ j ∧ pFewest c a t b = fewFrom c a t b (101 - j) j l r)
          ⟨_, 1, 1, rfl, rfl, by simp, by simp, rfl⟩ (fun i σ H' _ ⟨_, _, _, _, e, _⟩ => by rw [e]; exact .refl _) (fun j y σ H' H3 hj p yy => ?_) (fun σ H' p => ?_)
        · obtain ⟨w3, l, r, rfl, e10, hl, hr2, hf⟩ := p
          obtain ⟨e11, rfl⟩ := yy
          subst e11
          subst e10
          have hj2 : j < 101 := hj
          have hc4 : (c : Int).natAbs ≤ 2 ^ 30 := by omega
          have ha4 : (a : Int).natAbs ≤ 2 ^ 30 := by omega
          have sl := pow_size hc4 j
          have sr := pow_size ha4 j
          rw [← hl] at sl
          rw [← hr2] at sr
          walk_at "rds"
          refine rd_I (wide_mul (b := 201) (lt_succ_pow sl) (lt_succ_pow (k := 200) (by omega)) (by omega) (by omega) (by omega)) ?_
          walk_at "rds"
          refine rd_I (wide_mul (a := 201) (lt_succ_pow (k := 200) (by omega)) (lt_succ_pow sr) (by omega) (by omega) (by omega)) ?_
          walk_at "rds"
          have e101 : 101 - j = (101 - (j + 1)) + 1 := by omega
          rw [e101] at hf
          unfold fewFrom at hf
          refine rd_dite (fun h8 => ?_) (fun h8 => ?_)
          · rw [if_pos h8] at hf
            walk_at "rds"
            rename_i p np H10 e10 hp
            refine hN _ _ ⟨_, _, _, _, rfl, e10, ?_⟩
            rw [hf]
            exact .newT hS9 np hp (szl (Nat.le_of_ble_eq_true rfl)) (.cons (.str _) (.cons (by simpa using .int _) .nil))
          · rw [if_neg h8] at hf
            walk_at "rds"
            refine rd_I (wide_mul (lt_succ_pow sl) (lt_succ_pow hc4) (by omega) (by omega) (by omega)) ?_
            walk_at "rds"
            refine rd_I (wide_mul (lt_succ_pow sr) (lt_succ_pow ha4) (by omega) (by omega) (by omega)) ?_
            walk_at "rds"
            exact ⟨_, _, _, rfl, rfl, by rw [hl, Int.pow_succ], by rw [hr2, Int.pow_succ], hf⟩
        · obtain ⟨w3, l, r, rfl, e10, hl, hr2, hf⟩ := p
          subst e10
          refine hN _ _ ⟨_, _, _, _, rfl, .refl _, ?_⟩
          rw [hf]
          exact hdu.ex e9
      obtain ⟨w1, w2, w3, du, rfl, e10, hdu⟩ := h
      walk_at "rds"
      -- fewest_keys
      have hs : Strm S H' st _ := ((hs.ek e7).ek e8).ek (e9.trans e10)
      have hS : Sok S H' := by walk_at "up"
      have hsh : D K S H' (.ref psh) (.tuple [.int t, .int b]) := by walk_at "up"
      clear e7 e8 e9 e10 hpsh npsh hpdu npdu hp11 np11 hsh9 hS9
      refine ⟨S, S, st, _, .ref psh, _, rfl, fun _ z => z, hS, hs, by simp only [nd, nds]; omega, hsh, shInt2 _ _ _, fun H5 e v e5 hs5 lo hv => ?_⟩
      have lo2 := lo_int2 lo
      have hs : Strm S H5 st (100 * i + 20) := hs5.mono (by simp only [nd, nds]; omega)
      have hS5 := hS.ek e5
      have hdu5 := hdu.eks e5
      have hsh5 := hsh.eks e5
      walk_at "rds"
      refine ⟨S, c, a, t, b, v, e, rfl, hS5, by omega, by omega, by omega, by omega, lo2, hv, by omega, by omega, by omega, fun v1 H6 e6 hv1 => ?_⟩
      walk_at "rds"
      refine ⟨S, _, _, rfl, by walk_at "up", hsh5.ex e6, shInt2 _ _ _, fun v2 H7 e7 hv2 => ?_⟩
      walk_at "rds"
      refine ⟨S, c, a, t, b, v2, _, rfl, by walk_at "up", by omega, by omega, by omega, by omega, .inr rfl, hv2, by omega, by omega, by omega, fun v3 H8 e8 hv3 => ?_⟩
      walk_at "rds"
      rename_i p1 np1 H9 e9 hp1 p2 np2 H10 e10 hp2
      have hS8 : Sok S H8 := by walk_at "up"
      have hS9 : Sok S H9 := by walk_at "up"
      have hS10 : Sok S H10 := by walk_at "up"
      have hd1 : D K S H9 (.ref p1) _ := .newL hS8 np1 hp1 (szl (Nat.le_of_ble_eq_true rfl)) (by walk_at "ds")
      have hdu10 := ((((hdu5.ex e6).ex e7).ex e8).ex e9).ex e10
      have hd2 : D K S H10 (.ref p2) (.list [pFewest c a t b, pFewest c a t b]) := .newL hS9 np2 hp2 (szl (Nat.le_of_ble_eq_true rfl)) (.cons hdu10 (.cons hdu10 .nil))
      refine ⟨S, _, _, _, rfl, hS10, by walk_at "up", hd2, .lst fun d hd => ?_, fun H11 e11 => ?_⟩
      · simp only [List.mem_cons, List.not_mem_nil, or_false] at hd
        rcases hd with rfl | rfl <;> exact (sh_few _ _ _ _ _ _ _ _).mono (by decide)
      walk_at "rds"
      walk_at "if"
      have hs : Strm S H11 st (100 * i + 20) := by walk_at "up"
      have hS := hS10.ek e11
      clear hd1 hd2 hdu10 hp1 hp2 np1 np2 hv1 hv2 hv3 e5 e6 e7 e8 e9 e10 e11 hs5 hS5 hS8 hS9 hS10 hdu5 hsh5 hdu hsh hv lo lo2
      walk_at "rds"
      -- few, good
      refine ⟨S, st, _, _, rfl, hs, by omega, by decide, fit_of (k := 64) (by decide) (by decide), fun H4 d1 e4 hs h0 h1 => ?_⟩
      obtain ⟨d1, rfl⟩ := Int.eq_ofNat_of_zero_le h0
      have hS := hS.ek e4
      walk_at "rds"
      rw [show (1 : Int) + (d1 : Int) = ((1 + d1 : Nat) : Int) by omega]
      have hfew : 1 + d1 ≤ 6 ∧ 0 < 1 + d1 := by omega
      generalize 1 + d1 = few at hfew
      clear h0 h1 e4
      refine ⟨S, st, _, _, rfl, hs, by omega, by decide, fit_of (k := 64) (by decide) (by decide), fun H4 d2 e4 hs h0 h1 => ?_⟩
      obtain ⟨d2, rfl⟩ := Int.eq_ofNat_of_zero_le h0
      have hS := hS.ek e4
      walk_at "rds"
      rename_i pt npt H5 e5 hpt
      obtain ⟨g, hg, hgf⟩ : ∃ g : Nat, (if (few : Int) < (d2 : Int) then (few : Int) else (d2 : Int)) = (g : Int) ∧ g ≤ few := ⟨if few < d2 then few else d2, by split <;> split <;> omega, by split <;> omega⟩
      rw [hg]
      have hs : Strm S H5 st _ := hs.ek e5
      have hS := hS.ek e5
      clear h0 h1 e4 e5 hpt npt pt hg
      refine ⟨S, st, _, _, rfl, hs, by omega, by decide, fit_of (k := 64) (by decide) (by decide), fun H4 d3 e4 hs h0 h1 => ?_⟩
      obtain ⟨lng, rfl⟩ := Int.eq_ofNat_of_zero_le h0
      have hS := hS.ek e4
      have hlng : lng < 5 := by omega
      clear h0 h1 e4
      walk_at "rds"
      rename_i pt npt H5 e5 hpt
      have hs : Strm S H5 st _ := hs.ek e5
      have hS := hS.ek e5
      clear e5 hpt npt pt
      refine ⟨rgOk (by omega), fun pr npr => ?_⟩
      rw [rgV_eq]
      generalize hH : upd H5 pr _ = H6
      have e6 : Ex H5 H6 := hH ▸ .new npr
      have hpr : H6 pr = some (.lst ((rgI few).map V.int)) := hH ▸ upd_same
      clear hH
      walk_at "rds"
      have hrl : (rgI few).length = few := by simp [rgI]
      refine ⟨S, _, rgI few, lng, rfl, hS.ek e6, .newL hS npr hpr (szl (by rw [List.length_map, hrl]; omega)) (.ints _), by omega, by omega, fun vl H7 e7 hvl => ?_⟩
      walk_at "rds"
      have hs : Strm S H7 st _ := (hs.ek e6).ek e7
      have hS := (hS.ek e6).ek e7
      clear e6 e7 npr hpr pr
      refine ⟨S, _, .int g, rfl, hS, .int _, .int, fun v H8 e8 hv => ?_⟩
      cases hv
      walk_at "rds"
      refine ⟨S, _, .int lng, rfl, hS.ek e8, .int _, .int, fun v H9 e9 hv => ?_⟩
      cases hv
      walk_at "rds"
      refine ⟨S, g, few, lng, rfl, (hS.ek e8).ek e9, by omega, hgf, by omega, by omega, fun v1 H10 e10 hv1 => ?_⟩
      walk_at "rds"
      have hS10 : Sok S H10 := by walk_at "up"
      have hvl10 : D K S H10 vl (pRows (rowsOf (rgI few) lng)) := by walk_at "up"
      have hp0 : ∀ r ∈ rowsOf (rgI few) lng, r.length ≤ 5 := fun r hr => by have := (rows_each (rgI few) hr).1; omega
      refine lc_filt (S := S) rfl hvl10 (.inl rfl) hS10 (fun d => (pItems d).all fun z => match z with | .int z => decide (z < (g : Int)) | _ => false) (fun d => d) (fun S' y dy H11 hm hS11 hy e11 _ R hR => ?_) (fun S' y dy H11 hm hS11 hy e11 _ _ R hR => ?_) (fun pf ws H11 e11 npf hpf hdf _ => ?_)
      · obtain ⟨r, hr, rfl⟩ := List.mem_map.mp hm
        walk_at "rds"
        rename_i p3 np3 H12 e12 hp3
        obtain ⟨ra, rxs, rfl, hra, nra, lra, rra⟩ := (hy.ex e12).listH
        have hrx := rra.of_ints
        subst hrx
        have := hp0 r hr
        refine rd_cat hra hp3 (szl (by have h5 := hp0 r hr; simp only [List.length_map, List.length_cons, List.length_nil]; omega)) fun p4 H13 np4 e13 hp4 => ?_
        have hp4' : H13 p4 = some (.lst ((r ++ [-1]).map V.int)) := by rw [hp4, List.map_append]; rfl
        walk_at "rds"
        refine ⟨p4, _, rfl, .inl (.inl hp4'), by simp, fun m hm1 hm2 => ?_⟩
        walk_at "rds"
        have hmx := max_all hm1 hm2 (show (0 : Int) ≤ g by omega)
        rw [hmx]
        have := hR H13 (e12.trans e13)
        simpa [pRow, pItems, List.all_map, Function.comp_def] using this
      · walk_at "rds"
        exact hR _ _ (.refl _) hy
      have hcnt : (((rowsOf (rgI few) lng).map pRow).filter fun d => (pItems d).all fun z => match z with | .int z => decide (z < (g : Int)) | _ => false).length = g ^ lng := by
        rw [List.filter_map, List.length_map]
        have h1 := rows_filter (fun z => decide (z < (g : Int))) (rgI few) lng
        rw [rg_filter hgf] at h1
        rw [← h1]
        refine congrArg _ (List.filter_congr fun r _ => ?_)
        show (List.map PyData.int r).all _ = _
        rw [List.all_map]
        rfl
      walk_at "rds"
      refine rd_lnL (.inl (.inl hpf)) ?_
      walk_at "rds"
      have hvl11 : D K S H11 vl (pRows (rowsOf (rgI few) lng)) := by walk_at "up"
      refine rd_lnD hvl11 rfl ?_
      walk_at "rds"
      rename_i p5 np5 H12 e12 hp5
      have hS11 : Sok S H11 := by walk_at "up"
      have hS12 : Sok S H12 := by walk_at "up"
      have hwl : (ws.length : Int) = (g : Int) ^ lng := by
        rw [hdf.length, List.length_map, hcnt]; simp
      have hrl2 : (pLen (pRows (rowsOf (rgI few) lng)) : Int) = (few : Int) ^ lng := by
        show ((((rowsOf (rgI few) lng).map pRow).length : Nat) : Int) = _
        rw [List.length_map, rows_len, hrl]; simp
      rw [hwl, hrl2] at hp5
      have hd5 : D K S H12 (.ref p5) (.tuple [.int ((g : Int) ^ lng), .int ((few : Int) ^ lng)]) := .newT hS11 np5 hp5 (szl (Nat.le_of_ble_eq_true rfl)) (by walk_at "ds")
      refine ⟨S, _, _, _, rfl, hS12, by walk_at "up", hd5, shInt2 _ _ _, fun H13 e13 => ?_⟩
      walk_at "rds"
      walk_at "if"
      have hs : Strm S H13 st (100 * i + 23) := by walk_at "up"
      have hS := hS12.ek e13
      clear hd5 hp5 np5 e13 e12 e11 e10 e9 e8 hv1 hvl10 hvl hvl11 hpf hdf npf hS10 hS11 hS12 hwl hrl2 hcnt hp0
      walk_at "rds"
      -- pairs
      rename_i pp npp H4 e4 hpp
      have npS : ¬ S pp := hS.no npp
      have hs : Strm S H4 st (100 * i + 23) := hs.ek e4
      have hS4 := hS.ek e4
      walk_at "for"
      refine ⟨S, st, _, _, rfl, hs, by omega, by decide, fit_of (k := 64) (by decide) (by decide), fun H5 d4 e5 hs h0 h1 => ?_⟩
      obtain ⟨d4, rfl⟩ := Int.eq_ofNat_of_zero_le h0
      have hd4 : d4 < 6 := by omega
      clear h0 h1
      have hpp5 : H5 pp = some (.lst []) := e5.keep _ _ (hS.no npp) hpp
      have hS5 := hS4.ek e5
      walk_at "rds"
      refine for_rng (fun j σ H' => ∃ (w13 w19 : Option V) (ws : List V) (ps : List (Nat × Nat)), σ = [some (.ref sc), some (.ref st), some (.int (0 + i)), some (.int a), some (.int c), some (.int n), some (.int (c ^ n : Nat)), some (.int (a ^ n : Nat)), some (.int b), some (.ref psh), some du, w1, w2, w13, some (.int few), some (.int g), some (.int lng), some vl, some (.ref pp), w19, u20, u21, u22, u23, u24, none] ∧
          Sok S H' ∧ H' pp = some (.lst ws) ∧ Ds K (Sp1 S pp) H' ws (ps.map pPair) ∧ ps.length = j ∧ (∀ p ∈ ps, p.1 ≤ p.2 ∧ 0 < p.2 ∧ p.2 ≤ 1000000) ∧ Strm S H' st (100 * i + 24 + 3 * j))
        ⟨_, _, [], [], rfl, hS5, hpp5, .nil, rfl, (fun p hp => by cases hp), hs⟩ (fun j σ H6 hj p => ?_) (fun σ H' p => ?_)
      · clear hs hS hS4 hS5 hpp5 hpp e4 e5
        obtain ⟨w13, w19, ws, ps, rfl, hS, hpp, hds, hpl, hpv, hs⟩ := p
        have hj6 : j < 6 := by omega
        walk_at "rds"
        refine ⟨S, st, _, _, rfl, hs, by omega, by decide, fit_of (k := 64) (by decide) (by decide), fun H4 d5 e4 hs h0 h1 => ?_⟩
        obtain ⟨d5, rfl⟩ := Int.eq_ofNat_of_zero_le h0
        have hS := hS.ek e4
        walk_at "rds"
        rename_i p np H5 e5 hp
        refine ⟨S, S, st, _, _, _, _, rfl, fun _ z => z, hs.ek e5, by omega, .newL hS np hp (szl (Nat.le_of_ble_eq_true rfl)) (by walk_at "ds"), .inl rfl, by exact Nat.zero_lt_succ _, fun H7 i6 di v e6 hs hi6 hv => ?_⟩
        obtain ⟨m, rfl, hm1, hm2⟩ : ∃ c : Nat, di = .int c ∧ 1 ≤ c ∧ c ≤ 1000000 := by
          have hm := List.mem_of_getElem? hi6
          simp only [List.mem_cons, List.not_mem_nil, or_false] at hm
          rcases hm with rfl | rfl | rfl
          · exact ⟨1, rfl, by decide, by decide⟩
          · exact ⟨7, rfl, by decide, by decide⟩
          · refine ⟨1 + d5, by simp, by omega, ?_⟩
            have : (d5 : Int) < 1000000 := h1
            omega
        cases hv
        have hS := (hS.ek e5).ek e6
        have e47 : Ek S H6 H7 := (e4.trans (.of e5)).trans e6
        have hpp7 : H7 pp = some (.lst ws) := e47.keep _ _ npS hpp
        walk_at "rds"
        refine rd_tyL (.inl (.inl hpp7)) ?_
        walk_at "rds"
        refine ⟨S, st, _, _, rfl, hs, by omega, by omega, fit_of (k := 64) (by omega) (by decide), fun H8 d6 e8 hs h2 h3 => ?_⟩
        obtain ⟨d6, rfl⟩ := Int.eq_ofNat_of_zero_le h2
        have hS := hS.ek e8
        walk_at "rds"
        rename_i pt npt H9 e9 hpt
        have e79 : Ek S H6 H9 := (e47.trans e8).trans (.of e9)
        have hpp9 : H9 pp = some (.lst ws) := e79.keep _ _ npS hpp
        have hwl : ws.length = j := by rw [hds.length, List.length_map, hpl]
        refine rd_app hpp9 (szlt (by omega)) fun H10 e10 hpp10 => ?_
        have hS9 := hS.ek e9
        have e610 : Ek (Sp1 S pp) H6 H10 := (e79.mono fun a z => .inl z).trans (e10.mono fun a z => .inr z)
        have hpt10 : H10 pt = some (.tup [.int d6, .int m]) := e10.keep _ _ (fun z => by rw [z, hpp9] at hpt; cases hpt) hpt
        have nptS : ¬ Sp1 S pp pt := fun z => z.elim (fun z => hS.no npt z) (fun z => by rw [z, hpp9] at hpt; cases hpt)
        walk_at "rds"
        refine ⟨_, _, ws ++ [.ref pt], ps ++ [(d6, m)], rfl, hS9.ek e10, hpp10, ?_, by simp [hpl], ?_, ?_⟩
        · rw [List.map_append]
          exact (hds.ek (fun a z => z) e610).append (.cons (.tup nptS hpt10 (szl (Nat.le_of_ble_eq_true rfl)) (.cons (.int _) (.cons (.int _) .nil))) .nil)
        · intro p hp
          rcases List.mem_append.mp hp with z | z
          · exact hpv p z
          · rw [List.mem_singleton.mp z]
            exact ⟨by show d6 ≤ m; omega, hm1, hm2⟩
        · have h9 := hs.ek e9
          exact (h9.keep (fun a z => by rw [z]; exact npS) e10).mono (by omega)
      · clear hs hS hS4 hS5 hpp5 hpp e4 e5
        obtain ⟨w13, w19, ws, ps, rfl, hS, hpp, hds, hpl, hpv, hs⟩ := p
        have hpl6 : ps.length < 6 := by rw [hpl]; omega
        have hpD : D K S H' (.ref pp) (.list (ps.map pPair)) := .lst npS hpp (szl (by rw [hds.length, List.length_map]; omega)) hds.down
        walk_at "rds"
        rename_i _ _ H4 e4 _
        have hpD4 := hpD.ex e4
        have hS4 := hS.ek e4
        have hs4 : Strm S H4 st (100 * i + 50) := (hs.ek e4).mono (by omega)
        walk_at "for"
        refine rd_seqV rfl hpD4 (.inl rfl) fun a9 xs J ex hl2 hds2 src => ?_
        have hpv64 : ∀ p ∈ ps, p.1 ≤ p.2 ∧ 0 < p.2 ∧ p.2 ≤ 2 ^ 64 := fun p hp => by
          obtain ⟨x1, x2, x3⟩ := hpv p hp
          exact ⟨x1, x2, by omega⟩
        have hlen : xs.length = ps.length := by rw [hds2.length, List.length_map]
        refine for_src src.n0 (fun j σ H' => ∃ (v11 v12 : Option V) (l r : Nat), σ = [some (.ref sc), some (.ref st), some (.int (0 + i)), some (.int a), some (.int c), some (.int n), some (.int (c ^ n : Nat)), some (.int (a ^ n : Nat)), some (.int b), some (.ref psh), some du, v11, v12, w13, some (.int few), some (.int g), some (.int lng), some vl, some (.ref pp), w19, some (.int l), some (.int r), u22, u23, u24, none] ∧ H' = H4 ∧ (l, r) = prods (ps.take j))
          ⟨_, _, 1, 1, rfl, rfl, rfl⟩ (fun i σ H' _ ⟨_, _, _, _, _, e, _⟩ => by rw [e]; exact .refl _) (fun j y σ H' H5 hj p yy => ?_) (fun σ H' p => ?_)
        · obtain ⟨v11, v12, l, r, rfl, e9, hlr⟩ := p
          obtain ⟨e8, hy⟩ := yy
          subst e8
          subst e9
          obtain ⟨dy, hdy, hD⟩ := hds2.get hy
          have hj2 : j < ps.length := by rw [← hlen]; exact hj
          have hpi : ps[j]? = some ps[j] := List.getElem?_eq_getElem hj2
          rw [List.getElem?_map, hpi] at hdy
          obtain rfl : pPair ps[j] = dy := Option.some.inj hdy
          obtain ⟨b1, b2, b3⟩ := hpv64 _ (List.mem_of_getElem? hpi)
          obtain ⟨s1, s2, s3⟩ := prods_size (i := j) hpv64 (by omega)
          rw [← hlr] at s1 s2 s3
          dsimp only at s1 s2 s3
          have s4 : r ≤ 2 ^ 640 := Nat.le_trans s3 (two_pow_le (by omega))
          obtain ⟨q1, rfl, hq1⟩ := D.ints2 hD
          walk_at "rds"
          refine rd_I (wide_mul (a := 641) (b := 65) (lt_succ_pow (by simp; omega)) (lt_succ_pow (by simp; omega)) (by omega) (by omega) (by omega)) ?_
          walk_at "rds"
          refine rd_I (wide_mul (a := 641) (b := 65) (lt_succ_pow (by simp; omega)) (lt_succ_pow (by simp; omega)) (by omega) (by omega) (by omega)) ?_
          walk_at "rds"
          refine ⟨_, _, l * (ps[j]).1, r * (ps[j]).2, rfl, rfl, ?_⟩
          rw [prods_step hpi, ← hlr]
        · obtain ⟨v11, v12, l, r, rfl, e9, hlr⟩ := p
          subst e9
          rw [hlen, List.take_length] at hlr
          obtain ⟨s1, s2, s3⟩ := prods_size (i := ps.length) hpv64 (Nat.le_refl _)
          rw [List.take_length, ← hlr] at s1 s2 s3
          dsimp only at s1 s2 s3
          have s4 : r < 2 ^ 4000 := Nat.lt_of_le_of_lt s3 (Nat.pow_lt_pow_right (by decide) (by omega))
          clear src hds2 hl2 ex hpD hds hpp e4 hS hs
          walk_at "rds"
          have shP : Sh 6 (.list (ps.map pPair)) := sh_pairs 3 ps
          refine ⟨S, S, st, _, .ref pp, _, rfl, fun _ z => z, hS4, hs4, by simp only [nd, nds_pairs]; omega, hpD4, shP, fun H5 e v e5 hs lo hv => ?_⟩
          obtain ⟨es, hes, hlo⟩ := lo_seq (.inl lo)
          have hs : Strm S H5 st (100 * i + 60) := hs.mono (by simp only [nd, nds_pairs]; omega)
          have hS := hS4.ek e5
          have hpD5 := hpD4.eks e5
          have shE := lo_sh shP lo
          walk_at "rds"
          refine ⟨S, v, e, rfl, hS, hv, shE, fun wv H6 e6 hw => ?_⟩
          walk_at "rds"
          refine ⟨S, v, e, es, ps, rfl, hS.ek e6, hv.ex e6, hes, are_loose hlo, by omega, hpv64, fun v1 H7 e7 hv1 => ?_⟩
          walk_at "rds"
          refine ⟨S, _, _, rfl, by walk_at "up", by walk_at "up", shP, fun v2 H8 e8 hv2 => ?_⟩
          walk_at "rds"
          refine ⟨S, v2, _, _, ps, rfl, by walk_at "up", hv2, .inl rfl, are_pairs ps, by omega, hpv64, fun v3 H9 e9 hv3 => ?_⟩
          walk_at "rds"
          have hpD9 : D K S H9 (.ref pp) (.list (ps.map pPair)) := by walk_at "up"
          have hS9 : Sok S H9 := by walk_at "up"
          obtain ⟨_, zs, e10, hzs, _, lzs, dzs⟩ := hpD9.listH
          cases e10
          refine ⟨pp, zs, rfl, .inl (.inl hzs), fun pr npr => ?_⟩
          generalize hH : upd H9 pr _ = H10
          have e10 : Ex H9 H10 := hH ▸ .new npr
          have hpr : H10 pr = some (.lst zs.reverse) := hH ▸ upd_same
          clear hH
          have hpr2 : D K S H10 (.ref pr) (.list ((ps.reverse).map pPair)) := by
            rw [List.map_reverse]
            exact .newL hS9 npr hpr (by rw [List.length_reverse]; exact lzs) (dzs.ex e10).reverse
          walk_at "rds"
          refine ⟨S, _, _, rfl, hS9.ek e10, hpr2, sh_pairs 3 _, fun v4 H11 e11 hv4 => ?_⟩
          walk_at "rds"
          refine ⟨S, v4, _, _, ps.reverse, rfl, by walk_at "up", hv4, .inl rfl, are_pairs ps.reverse, by rw [List.length_reverse]; omega, fun p hp => hpv64 p (List.mem_reverse.mp hp), fun v5 H12 e12 hv5 => ?_⟩
          rw [prods_perm (List.reverse_perm ps), ← hlr] at hv5
          rw [← hlr] at hv1 hv3
          walk_at "rds"
          rename_i p1 np1 H13 e13 hp1
          have hS12 : Sok S H12 := by walk_at "up"
          have hv13 : D K S H13 v e := by walk_at "up"
          have d1 : D K S H13 (.ref p1) (.list [pLowest l r, pLowest l r, pLowest l r, e]) := .newL hS12 np1 hp1 (szl (Nat.le_of_ble_eq_true rfl)) (.cons (by walk_at "up") (.cons (by walk_at "up") (.cons (by walk_at "up") (.cons hv13 .nil))))
          refine ⟨S, l, r, rfl, by walk_at "up", s2, Nat.lt_of_le_of_lt s1 s4, s4, fun v6 H14 e14 hv6 => ?_⟩
          walk_at "rds"
          rename_i p2 np2 H15 e15 hp2
          refine rd_rep hp2 (by decide) (by decide) (szl (Nat.le_of_ble_eq_true rfl)) fun p3 H16 np3 e16 hp3 => ?_
          walk_at "rds"
          rename_i p4 np4 H17 e17 hp4
          have hp3' : H17 p3 = some (.lst [v6, v6, v6]) := e17.at hp3
          refine rd_cat hp3' hp4 (szl (Nat.le_of_ble_eq_true rfl)) fun p5 H18 np5 e18 hp5 => ?_
          have hS17 : Sok S H17 := by walk_at "up"
          have hS18 : Sok S H18 := by walk_at "up"
          have hv18 : D K S H18 v6 (pLowest l r) := by walk_at "up"
          have hw18 : D K S H18 wv e := by walk_at "up"
          have d2 : D K S H18 (.ref p5) (.list [pLowest l r, pLowest l r, pLowest l r, e]) := .newL hS17 np5 hp5 (szl (Nat.le_of_ble_eq_true rfl)) (.cons hv18 (.cons hv18 (.cons hv18 (.cons hw18 .nil))))
          have shE5 : Sh 5 e := lo_sh (sh_pairs 2 ps) lo
          walk_at "rds"
          refine ⟨S, _, _, _, rfl, hS18, by walk_at "up", d2, .lst fun d hd => ?_, fun H19 e19 => ?_⟩
          · simp only [List.mem_cons, List.not_mem_nil, or_false] at hd
            rcases hd with rfl | rfl | rfl | rfl
            · exact shInt2 _ _ _
            · exact shInt2 _ _ _
            · exact shInt2 _ _ _
            · exact shE5
          walk_at "rds"
          walk_at "if"
          walk_at "rds"
          have hs19 : Strm S H19 st (100 * i + 60) := by walk_at "up"
          exact ⟨_, _, _, _, _, _, _, _, _, _, _, _, _, _, _, _, _, _, _, _, _, _, _, rfl, hS18.ek e19, hs19.mono (by omega)⟩
    · obtain ⟨u2, u3, u4, u5, u6, u7, u8, u9, u10, u11, u12, u13, u14, u15, u16, u17, u18, u19, u20, u21, u22, u23, u24, rfl, hS, hs⟩ := p
      clear e1 hsc hns
      walk_at "rds"
      refine ⟨S, 2, 29, 3, rfl, hS, by decide, by decide, by decide, by decide, fun v0 H1 e1 hv0 => ?_⟩
      rw [low1] at hv0
      walk_at "rds"
      rename_i p1 np1 H2 e2 hp1
      have dd1 : D K S H2 (.ref p1) (.tuple [.int 1, .int 100]) := .newT (S := S) (by walk_at "up") np1 hp1 (szl (Nat.le_of_ble_eq_true rfl)) (by walk_at "ds")
      refine ⟨S, 2, 29, 1, 100, _, _, rfl, by walk_at "up", by decide, by decide, by decide, by decide, .inr rfl, dd1, by decide, by decide, by decide, fun v1 H3 e3 hv1 => ?_⟩
      rw [few1] at hv1
      walk_at "rds"
      rename_i p2 np2 H4 e4 hp2
      have dd2 : D K S H4 (.ref p2) (.tuple [.int 1, .int 2]) := .newT (S := S) (by walk_at "up") np2 hp2 (szl (Nat.le_of_ble_eq_true rfl)) (by walk_at "ds")
      refine ⟨S, 5, 5, 1, 2, _, _, rfl, by walk_at "up", by decide, by decide, by decide, by decide, .inr rfl, dd2, by decide, by decide, by decide, fun v2 H5 e5 hv2 => ?_⟩
      rw [few2] at hv2
      walk_at "rds"
      rename_i p3 np3 H6 e6 hp3
      have dd3 : D K S H6 (.ref p3) (.tuple [.int 2, .int 2]) := .newT (S := S) (by walk_at "up") np3 hp3 (szl (Nat.le_of_ble_eq_true rfl)) (by walk_at "ds")
      refine ⟨S, 5, 5, 2, 2, _, _, rfl, by walk_at "up", by decide, by decide, by decide, by decide, .inr rfl, dd3, by decide, by decide, by decide, fun v3 H7 e7 hv3 => ?_⟩
      rw [few3] at hv3
      walk_at "rds"
      rename_i p4 np4 H8 e8 hp4
      have dd4 : D K S H8 (.ref p4) (.tuple [.int 1, .int 9]) := .newT (S := S) (by walk_at "up") np4 hp4 (szl (Nat.le_of_ble_eq_true rfl)) (by walk_at "ds")
      refine ⟨S, 0, 5, 1, 9, _, _, rfl, by walk_at "up", by decide, by decide, by decide, by decide, .inr rfl, dd4, by decide, by decide, by decide, fun v4 H9 e9 hv4 => ?_⟩
      rw [few4] at hv4
      walk_at "rds"
      rename_i p5 np5 H10 e10 hp5
      refine ⟨S, _, _, [], [], rfl, by walk_at "up", .newL (S := S) (H := H9) (by walk_at "up") np5 hp5 (szl (Nat.le_of_ble_eq_true rfl)) .nil, .inl rfl, are_pairs [], by decide, (fun p hp => by cases hp), fun v5 H11 e11 hv5 => ?_⟩
      rw [low2] at hv5
      walk_at "rds"
      rename_i p6 np6 H12 e12 hp6 p7 np7 H13 e13 hp7 p8 np8 H14 e14 hp8
      have d6 : D K S H12 (.ref p6) (.tuple [.int 0, .int 3]) := .newT (S := S) (H := H11) (by walk_at "up") np6 hp6 (szl (Nat.le_of_ble_eq_true rfl)) (by walk_at "ds")
      have d7 : D K S H13 (.ref p7) (.tuple [.int 5, .int 5]) := .newT (S := S) (H := H12) (by walk_at "up") np7 hp7 (szl (Nat.le_of_ble_eq_true rfl)) (by walk_at "ds")
      have d8 : D K S H14 (.ref p8) (.list [.tuple [.int 0, .int 3], .tuple [.int 5, .int 5]]) := .newL (S := S) (H := H13) (by walk_at "up") np8 hp8 (szl (Nat.le_of_ble_eq_true rfl)) (.cons (by walk_at "up") (.cons (by walk_at "up") .nil))
      refine ⟨S, _, _, _, [(0, 3), (5, 5)], rfl, by walk_at "up", d8, .inl rfl, are_pairs [(0, 3), (5, 5)], by decide, (fun p hp => ?_), fun v6 H15 e15 hv6 => ?_⟩
      · simp only [List.mem_cons, List.not_mem_nil, or_false] at hp
        rcases hp with rfl | rfl <;> decide
      rw [low3] at hv6
      walk_at "rds"
      rename_i p9 np9 H16 e16 hp9 p10 np10 H17 e17 hp10 p11 np11 H18 e18 hp11 p12 np12 H19 e19 hp12 p13 np13 H20 e20 hp13 p14 np14 H21 e21 hp14 p15 np15 H22 e22 hp15 p16 np16 H23 e23 hp16 p17 np17 H24 e24 hp17
      have d9 : D K S H16 (.ref p9) (.list [.tuple [.int 8, .int 24389], .tuple [.str "keys", .int 2], .tuple [.str "more"], .tuple [.str "keys", .int 0], .tuple [.str "keys", .int 1], .tuple [.int 1, .int 1], .tuple [.int 0, .int 1]]) :=
        .newL (S := S) (H := H15) (by walk_at "up") np9 hp9 (szl (Nat.le_of_ble_eq_true rfl)) (.cons (by walk_at "up") (.cons (by walk_at "up") (.cons (by walk_at "up") (.cons (by walk_at "up") (.cons (by walk_at "up") (.cons (by walk_at "up") (.cons (by walk_at "up") .nil)))))))
      have d10 : D K S H17 (.ref p10) (.tuple [.int 8, .int 24389]) := .newT (S := S) (H := H16) (by walk_at "up") np10 hp10 (szl (Nat.le_of_ble_eq_true rfl)) (by walk_at "ds")
      have d11 : D K S H18 (.ref p11) (.tuple [.str "keys", .int 2]) := .newT (S := S) (H := H17) (by walk_at "up") np11 hp11 (szl (Nat.le_of_ble_eq_true rfl)) (by walk_at "ds")
      have d12 : D K S H19 (.ref p12) (.tuple [.str "more"]) := .newT (S := S) (H := H18) (by walk_at "up") np12 hp12 (szl (Nat.le_of_ble_eq_true rfl)) (by walk_at "ds")
      have d13 : D K S H20 (.ref p13) (.tuple [.str "keys", .int 0]) := .newT (S := S) (H := H19) (by walk_at "up") np13 hp13 (szl (Nat.le_of_ble_eq_true rfl)) (by walk_at "ds")
      have d14 : D K S H21 (.ref p14) (.tuple [.str "keys", .int 1]) := .newT (S := S) (H := H20) (by walk_at "up") np14 hp14 (szl (Nat.le_of_ble_eq_true rfl)) (by walk_at "ds")
      have d15 : D K S H22 (.ref p15) (.tuple [.int 1, .int 1]) := .newT (S := S) (H := H21) (by walk_at "up") np15 hp15 (szl (Nat.le_of_ble_eq_true rfl)) (by walk_at "ds")
      have d16 : D K S H23 (.ref p16) (.tuple [.int 0, .int 1]) := .newT (S := S) (H := H22) (by walk_at "up") np16 hp16 (szl (Nat.le_of_ble_eq_true rfl)) (by walk_at "ds")
      have d17 : D K S H24 (.ref p17) (.list [.tuple [.int 8, .int 24389], .tuple [.str "keys", .int 2], .tuple [.str "more"], .tuple [.str "keys", .int 0], .tuple [.str "keys", .int 1], .tuple [.int 1, .int 1], .tuple [.int 0, .int 1]]) :=
        .newL (S := S) (H := H23) (by walk_at "up") np17 hp17 (szl (Nat.le_of_ble_eq_true rfl)) (.cons (by walk_at "up") (.cons (by walk_at "up") (.cons (by walk_at "up") (.cons (by walk_at "up") (.cons (by walk_at "up") (.cons (by walk_at "up") (.cons (by walk_at "up") .nil)))))))
      refine ⟨S, _, _, _, rfl, by walk_at "up", by walk_at "up", d17, .lst fun d hd => ?_, fun H25 e25 => ?_⟩
      · simp only [List.mem_cons, List.not_mem_nil, or_false] at hd
        have s1 : ∀ x : Int, Sh 5 (.tuple [.str "keys", .int x]) := fun x => .tup fun d hd => by
          simp only [List.mem_cons, List.not_mem_nil, or_false] at hd
          rcases hd with rfl | rfl
          · exact .str
          · exact .int
        rcases hd with rfl | rfl | rfl | rfl | rfl | rfl | rfl
        · exact (sh_pairs 2 [(8, 24389)]).items rfl _ (List.mem_singleton.mpr rfl) |>.mono (by decide)
        · exact s1 2
        · exact .tup fun d hd => by
            rw [List.mem_singleton.mp hd]
            exact .str
        · exact s1 0
        · exact s1 1
        · exact (sh_pairs 2 [(1, 1)]).items rfl _ (List.mem_singleton.mpr rfl) |>.mono (by decide)
        · exact (sh_pairs 2 [(0, 1)]).items rfl _ (List.mem_singleton.mpr rfl) |>.mono (by decide)
      exact q _
end
end My
namespace My
open PySem PySem.Spec PyProof.Rows L2 Lk
def dd_is_list : He.DefD := ⟨("is_list", none), "is_list", "is_list", defArgs s_is_list, defBody s_is_list, defScope s_is_list, [], []⟩
def dd_is_whole : He.DefD := ⟨("is_whole", none), "is_whole", "is_whole", defArgs s_is_whole, defBody s_is_whole, defScope s_is_whole, [], []⟩
def dd_is_number : He.DefD := ⟨("is_number", none), "is_number", "is_number", defArgs s_is_number, defBody s_is_number, defScope s_is_number, [], []⟩
def dd_is_row : He.DefD := ⟨("is_row", none), "is_row", "is_row", defArgs s_is_row, defBody s_is_row, defScope s_is_row, [], []⟩
def dd_lowest : He.DefD := ⟨("lowest", none), "lowest", "lowest", defArgs s_lowest, defBody s_lowest, defScope s_lowest, [], []⟩
def dd_need_share : He.DefD := ⟨("need_share", none), "need_share", "need_share", defArgs s_need_share, defBody s_need_share, defScope s_need_share, [], []⟩
def dd_power_of : He.DefD := ⟨("power_of", none), "power_of", "power_of", defArgs s_power_of, defBody s_power_of, defScope s_power_of, [], []⟩
def dd_is_all : He.DefD := ⟨("is_all", none), "is_all", "is_all", defArgs s_is_all, defBody s_is_all, defScope s_is_all, [], []⟩
def dd_need_counts : He.DefD := ⟨("need_counts", none), "need_counts", "need_counts", defArgs s_need_counts, defBody s_need_counts, defScope s_need_counts, [], []⟩
def dd_need_often : He.DefD := ⟨("need_often", none), "need_often", "need_often", defArgs s_need_often, defBody s_need_often, defScope s_need_often, [], []⟩
def dd_rows_let : He.DefD := ⟨("rows_let", none), "rows_let", "rows_let", defArgs s_rows_let, defBody s_rows_let, defScope s_rows_let, [], []⟩
def dd_share_of : He.DefD := ⟨("share_of", none), "share_of", "share_of", defArgs s_share_of, defBody s_share_of, defScope s_share_of, [], []⟩
def dd_fewest_keys : He.DefD := ⟨("fewest_keys", none), "fewest_keys", "fewest_keys", defArgs s_fewest_keys, defBody s_fewest_keys, defScope s_fewest_keys, [], []⟩
def dd_are_counts : He.DefD := ⟨("are_counts", none), "are_counts", "are_counts", defArgs s_are_counts, defBody s_are_counts, defScope s_are_counts, [], []⟩
def dd_joint_share : He.DefD := ⟨("joint_share", none), "joint_share", "joint_share", defArgs s_joint_share, defBody s_joint_share, defScope s_joint_share, [], []⟩
def dd__law_c : He.DefD := ⟨("_law_c", none), "_law_c", "_law_c", defArgs s__law_c, defBody s__law_c, defScope s__law_c, [], []⟩
def dd__law_stream : He.DefD := ⟨("_law_stream", none), "_law_stream", "_law_stream", defArgs s__law_stream, defBody s__law_stream, defScope s__law_stream, [], []⟩
def dd__law_draw : He.DefD := ⟨("_law_draw", none), "_law_draw", "_law_draw", defArgs s__law_draw, defBody s__law_draw, defScope s__law_draw, [], []⟩
def dd__law_pick : He.DefD := ⟨("_law_pick", none), "_law_pick", "_law_pick", defArgs s__law_pick, defBody s__law_pick, defScope s__law_pick, [], []⟩
def dd__law_same : He.DefD := ⟨("_law_same", none), "_law_same", "_law_same", defArgs s__law_same, defBody s__law_same, defScope s__law_same, [], []⟩
def dd__law_copied : He.DefD := ⟨("_law_copied", none), "_law_copied", "_law_copied", defArgs s__law_copied, defBody s__law_copied, defScope s__law_copied, [], []⟩
def dd__law_loose : He.DefD := ⟨("_law_loose", none), "_law_loose", "_law_loose", defArgs s__law_loose, defBody s__law_loose, defScope s__law_loose, [], []⟩
def dd__law_a_power : He.DefD := ⟨("_law_a_power", none), "_law_a_power", "_law_a_power", defArgs s__law_a_power, defBody s__law_a_power, defScope s__law_a_power, [], []⟩
def dd__law_lowest : He.DefD := ⟨("_law_lowest", none), "_law_lowest", "_law_lowest", defArgs s__law_lowest, defBody s__law_lowest, defScope s__law_lowest, [], []⟩
def dd__law_rows : He.DefD := ⟨("_law_rows", none), "_law_rows", "_law_rows", defArgs s__law_rows, defBody s__law_rows, defScope s__law_rows, [], []⟩
def dd_law : He.DefD := ⟨("law", none), "law", "law", defArgs s_law, defBody s_law, defScope s_law, [], []⟩
def fnL : List He.DefD := [dd_is_list, dd_is_whole, dd_is_number, dd_is_row, dd_lowest, dd_need_share, dd_power_of, dd_is_all, dd_need_counts, dd_need_often, dd_rows_let, dd_share_of, dd_fewest_keys, dd_are_counts, dd_joint_share, dd__law_c, dd__law_stream, dd__law_draw, dd__law_pick, dd__law_same, dd__law_copied, dd__law_loose, dd__law_a_power, dd__law_lowest, dd__law_rows, dd_law]
def faL : List He.Fa := [.glo "is_list", .glo "is_whole", .glo "is_number", .glo "is_row", .glo "lowest", .glo "need_share", .glo "power_of", .glo "is_all", .glo "need_counts", .glo "need_often", .glo "rows_let", .glo "share_of", .glo "fewest_keys", .glo "are_counts", .glo "joint_share", .glo "_law_c", .glo "_law_stream", .glo "_law_draw", .glo "_law_pick", .glo "_law_same", .glo "_law_copied", .glo "_law_loose", .glo "_law_a_power", .glo "_law_lowest", .glo "_law_rows", .glo "law", .free "abs", .free "all", .free "bool", .free "dict", .free "int", .free "isinstance", .free "len", .free "list", .free "max", .free "min", .free "range", .free "str", .free "tuple", .free "zip", .int "KEYS" 100]
abbrev R : PySem.W.OpenRow := PySem.W.OpenLaw.row PySem.Challenge.rw_lyingstore_k63_whole_rows_of_keys
abbrev hk : PySem.W.Hook := He.hookD 5 faL fnL
def ob (s : PySem.W.SharedT) : He.AlD := He.obsDG 5 faL fnL (HandSHeadRun.getT s)
theorem ob_eq (s : PySem.W.SharedT) : ob s = hk.obs s.abs := He.obsDG_eq (HandSHeadRun.getT_eq s)
set_option maxHeartbeats 0 in
theorem run (w : World) : HandSHeadRun.RunEq R (PySem.W.view R.prog [39]) hk ob 9000 ["is_list", "is_whole", "is_number", "is_row", "StoreError", "BadOften", "BadPairs", "lowest", "BadCount", "BadShare", "BadAll", "need_share", "KEYS", "power_of", "is_all", "need_counts", "need_often", "rows_let", "share_of", "fewest_keys", "are_counts", "joint_share", "_law_c", "_law_stream", "_law_draw", "_law_pick", "_law_same", "_law_copied", "_law_loose", "_law_a_power", "_law_lowest", "_law_rows"] w := by
  intro os
  kernel_rfl
theorem fs_mk {K : PySem.W.Frag} {h : Heap} {mg : Str → Option Value} (X : K.In h) (G : h.Ns mainGlobals mg) (c : He.SaysD faL fnL K) : Fs K mg where
  d_is_list := df_of (c.def_ 0 (d := dd_is_list) rfl) (He.glo_ok X G (c.fact 0 (f := .glo "is_list") rfl))
  d_is_whole := df_of (c.def_ 1 (d := dd_is_whole) rfl) (He.glo_ok X G (c.fact 1 (f := .glo "is_whole") rfl))
  d_is_number := df_of (c.def_ 2 (d := dd_is_number) rfl) (He.glo_ok X G (c.fact 2 (f := .glo "is_number") rfl))
  d_is_row := df_of (c.def_ 3 (d := dd_is_row) rfl) (He.glo_ok X G (c.fact 3 (f := .glo "is_row") rfl))
  d_lowest := df_of (c.def_ 4 (d := dd_lowest) rfl) (He.glo_ok X G (c.fact 4 (f := .glo "lowest") rfl))
  d_need_share := df_of (c.def_ 5 (d := dd_need_share) rfl) (He.glo_ok X G (c.fact 5 (f := .glo "need_share") rfl))
  d_power_of := df_of (c.def_ 6 (d := dd_power_of) rfl) (He.glo_ok X G (c.fact 6 (f := .glo "power_of") rfl))
  d_is_all := df_of (c.def_ 7 (d := dd_is_all) rfl) (He.glo_ok X G (c.fact 7 (f := .glo "is_all") rfl))
  d_need_counts := df_of (c.def_ 8 (d := dd_need_counts) rfl) (He.glo_ok X G (c.fact 8 (f := .glo "need_counts") rfl))
  d_need_often := df_of (c.def_ 9 (d := dd_need_often) rfl) (He.glo_ok X G (c.fact 9 (f := .glo "need_often") rfl))
  d_rows_let := df_of (c.def_ 10 (d := dd_rows_let) rfl) (He.glo_ok X G (c.fact 10 (f := .glo "rows_let") rfl))
  d_share_of := df_of (c.def_ 11 (d := dd_share_of) rfl) (He.glo_ok X G (c.fact 11 (f := .glo "share_of") rfl))
  d_fewest_keys := df_of (c.def_ 12 (d := dd_fewest_keys) rfl) (He.glo_ok X G (c.fact 12 (f := .glo "fewest_keys") rfl))
  d_are_counts := df_of (c.def_ 13 (d := dd_are_counts) rfl) (He.glo_ok X G (c.fact 13 (f := .glo "are_counts") rfl))
  d_joint_share := df_of (c.def_ 14 (d := dd_joint_share) rfl) (He.glo_ok X G (c.fact 14 (f := .glo "joint_share") rfl))
  d__law_c := df_of (c.def_ 15 (d := dd__law_c) rfl) (He.glo_ok X G (c.fact 15 (f := .glo "_law_c") rfl))
  d__law_stream := df_of (c.def_ 16 (d := dd__law_stream) rfl) (He.glo_ok X G (c.fact 16 (f := .glo "_law_stream") rfl))
  d__law_draw := df_of (c.def_ 17 (d := dd__law_draw) rfl) (He.glo_ok X G (c.fact 17 (f := .glo "_law_draw") rfl))
  d__law_pick := df_of (c.def_ 18 (d := dd__law_pick) rfl) (He.glo_ok X G (c.fact 18 (f := .glo "_law_pick") rfl))
  d__law_same := df_of (c.def_ 19 (d := dd__law_same) rfl) (He.glo_ok X G (c.fact 19 (f := .glo "_law_same") rfl))
  d__law_copied := df_of (c.def_ 20 (d := dd__law_copied) rfl) (He.glo_ok X G (c.fact 20 (f := .glo "_law_copied") rfl))
  d__law_loose := df_of (c.def_ 21 (d := dd__law_loose) rfl) (He.glo_ok X G (c.fact 21 (f := .glo "_law_loose") rfl))
  d__law_a_power := df_of (c.def_ 22 (d := dd__law_a_power) rfl) (He.glo_ok X G (c.fact 22 (f := .glo "_law_a_power") rfl))
  d__law_lowest := df_of (c.def_ 23 (d := dd__law_lowest) rfl) (He.glo_ok X G (c.fact 23 (f := .glo "_law_lowest") rfl))
  d__law_rows := df_of (c.def_ 24 (d := dd__law_rows) rfl) (He.glo_ok X G (c.fact 24 (f := .glo "_law_rows") rfl))
  d_law := df_of (c.def_ 25 (d := dd_law) rfl) (He.glo_ok X G (c.fact 25 (f := .glo "law") rfl))
  m_abs := He.free_ok X G (c.fact 26 (f := .free "abs") rfl)
  m_all := He.free_ok X G (c.fact 27 (f := .free "all") rfl)
  m_bool := He.free_ok X G (c.fact 28 (f := .free "bool") rfl)
  m_dict := He.free_ok X G (c.fact 29 (f := .free "dict") rfl)
  m_int := He.free_ok X G (c.fact 30 (f := .free "int") rfl)
  m_isinstance := He.free_ok X G (c.fact 31 (f := .free "isinstance") rfl)
  m_len := He.free_ok X G (c.fact 32 (f := .free "len") rfl)
  m_list := He.free_ok X G (c.fact 33 (f := .free "list") rfl)
  m_max := He.free_ok X G (c.fact 34 (f := .free "max") rfl)
  m_min := He.free_ok X G (c.fact 35 (f := .free "min") rfl)
  m_range := He.free_ok X G (c.fact 36 (f := .free "range") rfl)
  m_str := He.free_ok X G (c.fact 37 (f := .free "str") rfl)
  m_tuple := He.free_ok X G (c.fact 38 (f := .free "tuple") rfl)
  m_zip := He.free_ok X G (c.fact 39 (f := .free "zip") rfl)
  c_KEYS := He.int_ok X G (c.fact 40 (f := .int "KEYS" 100) rfl)
theorem law_all {P : Program} {w : World} {K : PySem.W.Frag} {mg : Str → Option Value} {base : Heap} (T : Fs K mg) : Ok P w K mg base CX0 11 "law" s_law ["script"] (spLaw K) := by
  have G_is_list := ok_is_list (P := P) (w := w) (base := base) T
  have G_is_whole := ok_is_whole (P := P) (w := w) (base := base) T
  have G_is_number := ok_is_number T G_is_whole
  have G_is_row := ok_is_row T G_is_list
  have G_power_of := ok_power_of (P := P) (w := w) (base := base) T
  have G_lowest := ok_lowest (P := P) (w := w) (base := base) T
  have G_is_all := ok_is_all T G_is_number
  have G_need_counts := ok_need_counts T G_is_number G_is_all
  have G_need_often := ok_need_often T G_is_number
  have G_rows_let := ok_rows_let T G_need_counts G_need_often G_power_of
  have G_share_of := ok_share_of T G_rows_let G_lowest
  have G_need_share := ok_need_share T G_is_row G_is_number
  have G_fewest_keys := ok_fewest_keys T G_need_counts G_need_share
  have G_are_counts := ok_are_counts T G_is_row G_is_number G_is_all
  have G_joint_share := ok_joint_share T G_is_list G_are_counts G_lowest
  have G__law_draw := ok__law_draw (P := P) (w := w) (base := base) T
  have G__law_stream := ok__law_stream (P := P) (w := w) (base := base) T
  have G__law_pick := ok__law_pick T G__law_draw
  have G__law_same := ok__law_same (P := P) (w := w) (base := base) T 6
  have G__law_copied := ok__law_copied (P := P) (w := w) (base := base) T 6
  have G__law_c := ok__law_c (P := P) (w := w) (base := base) T 6
  have G__law_loose := ok__law_loose T G__law_draw 6
  have G__law_a_power := ok__law_a_power (P := P) (w := w) (base := base) T
  have G__law_lowest := ok__law_lowest (P := P) (w := w) (base := base) T
  have G__law_rows := ok__law_rows (P := P) (w := w) (base := base) T
  have G_law := ok_law T G__law_stream G__law_pick G__law_draw G__law_a_power G__law_same G_rows_let G_share_of G__law_lowest G_fewest_keys G__law_loose G__law_c G__law_rows G_joint_share G__law_copied
  exact G_law
theorem facts {P : Program} {w : World} {K : PySem.W.Frag} {h : Heap} {mg : Str → Option Value} {f : Addr} (X : K.In h) (G : h.Ns mainGlobals mg) (hfa : mg ("law" : Str) = some (.ref f)) (c : He.SaysD faL fnL K) :
    ∃ fd : FuncData, (∀ (s : Shared) (v : Value), BindsTo s fd ⟨[v], []⟩ [("script", v)]) ∧ ∀ base : Heap, K.In base → base.Ns mainGlobals mg → FnOk P w K mg base CX0 11 f fd ["script"] (spLaw K) := by
  have T := fs_mk X G c
  obtain ⟨f', fd, F, g⟩ := T.d_law
  obtain rfl : f' = f := by
    have e := hfa.symm.trans g
    cases e
    rfl
  have b := FunD.bindsA (ps := ["script"]) F fun _ _ _ _ _ _ us hl => match us, hl with | [_], _ => rfl
  exact ⟨fd, fun s v => b s [v] rfl, fun base _ _ => (law_all T).fnok F g⟩
end My
open PySem PySem.W PySem.Calls PyProof.Rows
set_option maxRecDepth 100000 in
set_option maxHeartbeats 0 in
theorem PySem.Challenge.cw_lyingstore_k63_whole_rows_of_keys_holds : PySem.Challenge.rw_lyingstore_k63_whole_rows_of_keys.Holds := by
  w_on; o_law
  refine HandSHeadRun.head_any (r := OpenLaw.row PySem.Challenge.rw_lyingstore_k63_whole_rows_of_keys) (q := view (OpenLaw.row PySem.Challenge.rw_lyingstore_k63_whole_rows_of_keys).prog [39]) (H := My.hk) (ob := My.ob) (M := 9000) (loose := ["is_list", "is_whole", "is_number", "is_row", "StoreError", "BadOften", "BadPairs", "lowest", "BadCount", "BadShare", "BadAll", "need_share", "KEYS", "power_of", "is_all", "need_counts", "need_often", "rows_let", "share_of", "fewest_keys", "are_counts", "joint_share", "_law_c", "_law_stream", "_law_draw", "_law_pick", "_law_same", "_law_copied", "_law_loose", "_law_a_power", "_law_lowest", "_law_rows"]) (d := HandSHeadRun.topDef (OpenLaw.row PySem.Challenge.rw_lyingstore_k63_whole_rows_of_keys).prog 39) (kwd := []) My.ob_eq
    (by kernel_rfl) (fun s => by kernel_rfl) My.run (by kernel_rfl) (by kernel_rfl) (by kernel_rfl) (by rfl) (by first | assumption | decide +kernel) (by decide +kernel) ⟨rfl, rfl, rfl, rfl, rfl, by decide +kernel⟩ ?hw ?hc
  case hw => w_witness2
  case hc =>
    refine L2.walk_ofE (l := PySem.Challenge.rw_lyingstore_k63_whole_rows_of_keys) (n := 63) (k := 11) (x := "script") (CX := L2.CX0) rfl (by decide) (by kernel_rfl) ⟨rfl, by decide, by decide⟩ ?F (fun _ _ _ _ z => z)
    intro w mg fa h Y G hmg0
    obtain ⟨K, KX, c⟩ := Y
    have hmg : mg ("law" : PySem.Str) = some (.ref fa) := by
      have e : (HandSHeadRun.topDef (OpenLaw.row PySem.Challenge.rw_lyingstore_k63_whole_rows_of_keys).prog 39).name = ("law" : PySem.Str) := by kernel_rfl
      rw [← e]
      exact hmg0
    obtain ⟨fd, hb, hF⟩ := My.facts (P := (PySem.Challenge.rw_lyingstore_k63_whole_rows_of_keys).prog) (w := w) KX G hmg c
    exact ⟨K, fd, My.spLaw K, KX, hb, fun H a ns hl _ hS => ⟨a, ns, rfl, hS, hl, fun _ => rfl⟩, hF⟩
