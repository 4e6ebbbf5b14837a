import PyProof.Rows.All
import Wide.All
import OpenK.AllK
import Wide.FinOn
import KE.KStateDown
import Lean
import HandS.Base
import HandS.Call
import HandS.List
import HandS.Comp
import HandS.Ends
import HandS.Words
import HandS.WordsList
import HandS.WordsExc
import HandS.Exc
import HandS.ExcOwn
import HandS.ExcIs
import HandS.TryOnly
import HandS.IsInst
import HandS.Iter
import HandS.TupAny
import HandS.TupMul
import HandS.Conv
import HandS.Deep
import HandS.Evl
import HandS.Defaults
import HandS.Head0
import HandS.Head1
import HandS.Head2
import HandS.HeadEnd
import HandS.HeadHook1
import HandS.HeadHook2
import PySem.Challenge.RW_alikeread_k02_rows_are_read
set_option Elab.async false
set_option linter.all false
set_option maxRecDepth 100000
set_option maxHeartbeats 4000000

namespace L2
open PySem Evl


mutual
theorem Dp.mono {K : PySem.W.Frag} {H H' : Hp} (e : Ex H H') : ∀ {v : V} {d : PyData}, Dp K H v d → Dp K H' v d
  | _, _, .non => .non
  | _, _, .bl b => .bl b
  | _, _, .int i => .int i
  | _, _, .str x => .str x
  | _, _, .lst h a => .lst (ex_l e h) (DpAll.mono e a)
  | _, _, .tup h a => .tup (ex_t e h) (DpAll.mono e a)
theorem DpAll.mono {K : PySem.W.Frag} {H H' : Hp} (e : Ex H H') : ∀ {vs : List V} {ds : List PyData}, DpAll K H vs ds → DpAll K H' vs ds
  | _, _, .nil => .nil
  | _, _, .cons h t => .cons (Dp.mono e h) (DpAll.mono e t)
end
mutual

def tupO : PyData → Bool
  | .list _ => false
  | .dict _ => false
  | .tuple ds => tupOA ds
  | _ => true
def tupOA : List PyData → Bool
  | [] => true
  | d :: ds => tupO d && tupOA ds
end

def Tx (H H' : Hp) : Prop := ∀ a xs, Rd H a (.tup xs) → Rd H' a (.tup xs)
theorem _root_.Evl.Ex.tx {H H' : Hp} (e : Ex H H') : Tx H H' := fun _ _ h => ex_rd e h
theorem Tx.refl (H : Hp) : Tx H H := fun _ _ h => h
theorem Tx.trans {H H1 H2 : Hp} (a : Tx H H1) (b : Tx H1 H2) : Tx H H2 := fun x o h => b x o (a x o h)
theorem Tx.lst {H : Hp} {l : Addr} {xs ys : List V} (h : H l = some (.lst xs)) : Tx H (upd H l (.lst ys)) := fun a zs r => by
  rcases r with r | ⟨o, r⟩
  · exact .inl (by rw [upd_ne (ne_of r h (by intro z; cases z))]; exact r)
  · exact .inr ⟨o, by rw [upd_ne (ne_of r h (by intro z; cases z))]; exact r⟩
theorem tx_t {K : PySem.W.Frag} {H H' : Hp} {a : Addr} {xs : List V} (e : Tx H H') (h : SqT K H a xs) : SqT K H' a xs := by
  rcases h with h | h
  · exact .inl (e _ _ h)
  · exact .inr h
mutual
theorem Dp.tx {K : PySem.W.Frag} {H H' : Hp} (e : Tx H H') : ∀ {v : V} {d : PyData}, Dp K H v d → tupO d = true → Dp K H' v d
  | _, _, .non, _ => .non
  | _, _, .bl b, _ => .bl b
  | _, _, .int i, _ => .int i
  | _, _, .str x, _ => .str x
  | _, _, .lst h a, z => by simp [tupO] at z
  | _, _, .tup h a, z => .tup (tx_t e h) (DpAll.tx e a (by simpa [tupO] using z))
theorem DpAll.tx {K : PySem.W.Frag} {H H' : Hp} (e : Tx H H') : ∀ {vs : List V} {ds : List PyData}, DpAll K H vs ds → tupOA ds = true → DpAll K H' vs ds
  | _, _, .nil, _ => .nil
  | _, _, .cons h t, z => .cons (Dp.tx e h (by simp [tupOA] at z; exact z.1)) (DpAll.tx e t (by simp [tupOA] at z; exact z.2))
end
theorem tupOA_append : ∀ (xs ys : List PyData), tupOA (xs ++ ys) = (tupOA xs && tupOA ys)
  | [], ys => by simp [tupOA]
  | x :: xs, ys => by simp [tupOA, tupOA_append xs ys, Bool.and_assoc]
theorem tupOA_iff : ∀ {xs : List PyData}, tupOA xs = true ↔ ∀ x ∈ xs, tupO x = true
  | [] => by simp [tupOA]
  | x :: xs => by simp [tupOA, tupOA_iff (xs := xs)]
theorem map_erase {α β : Type} (f : α → β) : ∀ (l : List α) (j : Nat), (l.map f).eraseIdx j = (l.eraseIdx j).map f
  | [], _ => by simp
  | _ :: _, 0 => by simp
  | x :: l, j + 1 => by simp [map_erase f l j]
theorem tupOA_ints (ns : List Int) : tupOA (ns.map PyData.int) = true := tupOA_iff.mpr fun x hx => by
  obtain ⟨n, _, rfl⟩ := List.mem_map.mp hx
  simp [tupO]
theorem tupOA_bools (ns : List Bool) : tupOA (ns.map PyData.bool) = true := tupOA_iff.mpr fun x hx => by
  obtain ⟨n, _, rfl⟩ := List.mem_map.mp hx
  simp [tupO]


section
variable {K : PySem.W.Frag} {H H' : Hp}
theorem DpAll.length : ∀ {vs : List V} {ds : List PyData}, DpAll K H vs ds → vs.length = ds.length
  | _, _, .nil => rfl
  | _, _, .cons _ t => by simp [DpAll.length t]
theorem DpAll.get : ∀ {vs : List V} {ds : List PyData} {i : Nat} {v : V}, DpAll K H vs ds → vs[i]? = some v → ∃ d, ds[i]? = some d ∧ Dp K H v d
  | _, _, _, _, .nil, e => by simp at e
  | _, _, 0, _, .cons h _, e => by simp at e; subst e; exact ⟨_, rfl, h⟩
  | _, _, i + 1, v, .cons _ t, e => by
    obtain ⟨d, h1, h2⟩ := DpAll.get (i := i) (v := v) t (by simpa using e)
    exact ⟨d, by simpa using h1, h2⟩
theorem DpAll.get' : ∀ {vs : List V} {ds : List PyData} {i : Nat} {d : PyData}, DpAll K H vs ds → ds[i]? = some d → ∃ v, vs[i]? = some v ∧ Dp K H v d
  | _, _, _, _, .nil, e => by simp at e
  | _, _, 0, _, .cons h _, e => by simp at e; subst e; exact ⟨_, rfl, h⟩
  | _, _, i + 1, d, .cons _ t, e => by
    obtain ⟨v, h1, h2⟩ := DpAll.get' (i := i) (d := d) t (by simpa using e)
    exact ⟨v, by simpa using h1, h2⟩
theorem DpAll.append : ∀ {vs ws : List V} {ds es : List PyData}, DpAll K H vs ds → DpAll K H ws es → DpAll K H (vs ++ ws) (ds ++ es)
  | _, _, _, _, .nil, s => s
  | _, _, _, _, .cons h t, s => .cons h (DpAll.append t s)
theorem DpAll.one {v : V} {d : PyData} (h : Dp K H v d) : DpAll K H [v] [d] := .cons h .nil
theorem DpAll.take : ∀ {vs : List V} {ds : List PyData} (n : Nat), DpAll K H vs ds → DpAll K H (vs.take n) (ds.take n)
  | _, _, 0, _ => by simp; exact .nil
  | _, _, n + 1, .nil => by simp; exact .nil
  | _, _, n + 1, .cons h t => by simp; exact .cons h (DpAll.take n t)
theorem DpAll.drop : ∀ {vs : List V} {ds : List PyData} (n : Nat), DpAll K H vs ds → DpAll K H (vs.drop n) (ds.drop n)
  | _, _, 0, h => by simpa using h
  | _, _, n + 1, .nil => by simp; exact .nil
  | _, _, n + 1, .cons h t => by simp; exact DpAll.drop n t
theorem DpAll.set : ∀ {vs : List V} {ds : List PyData} {v : V} {d : PyData} (n : Nat), DpAll K H vs ds → Dp K H v d → DpAll K H (vs.set n v) (ds.set n d)
  | _, _, _, _, _, .nil, _ => by simp; exact .nil
  | _, _, _, _, 0, .cons _ t, q => by simp; exact .cons q t
  | _, _, _, _, n + 1, .cons h t, q => by simp; exact .cons h (DpAll.set n t q)
theorem DpAll.erase : ∀ {vs : List V} {ds : List PyData} (n : Nat), DpAll K H vs ds → DpAll K H (vs.eraseIdx n) (ds.eraseIdx n)
  | _, _, _, .nil => by simp; exact .nil
  | _, _, 0, .cons _ t => by simp; exact t
  | _, _, n + 1, .cons h t => by simp; exact .cons h (DpAll.erase n t)
theorem DpAll.reverse : ∀ {vs : List V} {ds : List PyData}, DpAll K H vs ds → DpAll K H vs.reverse ds.reverse
  | _, _, .nil => by simp; exact .nil
  | _, _, .cons h t => by simp; exact (DpAll.reverse t).append (.one h)
theorem DpAll.ints : ∀ (ns : List Int), DpAll K H (ns.map V.int) (ns.map PyData.int)
  | [] => .nil
  | n :: ns => .cons (.int n) (DpAll.ints ns)
theorem DpAll.bls : ∀ (ns : List Bool), DpAll K H (ns.map V.bl) (ns.map PyData.bool)
  | [] => .nil
  | n :: ns => .cons (.bl n) (DpAll.bls ns)
theorem DpAll.of_ints : ∀ {vs : List V} {ns : List Int}, DpAll K H vs (ns.map PyData.int) → vs = ns.map V.int
  | _, [], .nil => rfl
  | _, n :: ns, .cons h t => by cases h; rw [DpAll.of_ints t]; rfl
theorem DpAll.of_bls : ∀ {vs : List V} {ns : List Bool}, DpAll K H vs (ns.map PyData.bool) → vs = ns.map V.bl
  | _, [], .nil => rfl
  | _, n :: ns, .cons h t => by cases h; rw [DpAll.of_bls t]; rfl
theorem DpAll.rep {v : V} {d : PyData} (h : Dp K H v d) : ∀ n, DpAll K H (List.replicate n v) (List.replicate n d)
  | 0 => by simp; exact .nil
  | n + 1 => by simp [List.replicate_succ]; exact .cons h (DpAll.rep h n)
theorem Dp.list_inv {v : V} {ds : List PyData} (h : Dp K H v (.list ds)) : ∃ a xs, v = .ref a ∧ SqL K H a xs ∧ DpAll K H xs ds := by
  cases h with
  | lst h a => exact ⟨_, _, rfl, h, a⟩
theorem Dp.tup_inv {v : V} {ds : List PyData} (h : Dp K H v (.tuple ds)) : ∃ a xs, v = .ref a ∧ SqT K H a xs ∧ DpAll K H xs ds := by
  cases h with
  | tup h a => exact ⟨_, _, rfl, h, a⟩
theorem Dp.int_inv {v : V} {i : Int} (h : Dp K H v (.int i)) : v = .int i := by cases h; rfl
theorem Dp.bl_inv {v : V} {b : Bool} (h : Dp K H v (.bool b)) : v = .bl b := by cases h; rfl
theorem Dp.str_inv {v : V} {b : Str} (h : Dp K H v (.str b)) : v = .str b := by cases h; rfl
theorem Dp.non_inv {v : V} (h : Dp K H v .none) : v = .non := by cases h; rfl
theorem Dp.tupI {a : Addr} {ns : List Int} (h : SqT K H a (ns.map V.int)) : Dp K H (.ref a) (.tuple (ns.map .int)) := .tup h (DpAll.ints ns)
end

end L2
namespace Al
open PySem L2 Evl
theorem szm {n : Nat} (h : n ≤ 1000000) : n ≤ sizeLine := Nat.le_trans h (by decide)
theorem szl {n : Nat} (h : n < 1000000) : n < sizeLine := Nat.lt_of_lt_of_le h (by decide)


inductive Av where
  | d (x : PyData)
  | v (x : V)
  | p (P : V → Hp → Prop) (mono : ∀ v H H', Ex H H' → P v H → P v H')
def Rl (K : PySem.W.Frag) (H : Hp) (v : V) : Av → Prop
  | .d x => Dp K H v x
  | .v w => v = w
  | .p P _ => P v H
theorem Rl.mono {K : PySem.W.Frag} {H H' : Hp} (e : Ex H H') {v : V} : ∀ {a : Av}, Rl K H v a → Rl K H' v a
  | .d _, h => Dp.mono e h
  | .v _, h => h
  | .p _ m, h => m _ _ _ e h
def Eg (K : PySem.W.Frag) (te : TE) (σ : L2.St) (H : Hp) (a : Av) : Prop := ∀ H1, Ex H H1 → ∀ Q : VK, (∀ v H2, Ex H1 H2 → Rl K H2 v a → Q v H2) → te σ H1 Q
abbrev Ed (K : PySem.W.Frag) (te : TE) (σ : L2.St) (H : Hp) (d : PyData) : Prop := Eg K te σ H (.d d)
abbrev Ei (K : PySem.W.Frag) (te : TE) (σ : L2.St) (H : Hp) (n : Int) : Prop := Ed K te σ H (.int n)
abbrev Eb (K : PySem.W.Frag) (te : TE) (σ : L2.St) (H : Hp) (n : Bool) : Prop := Ed K te σ H (.bool n)

def En (K : PySem.W.Frag) (te : TE) (σ : L2.St) (H : Hp) (ds : List PyData) : Prop := ∀ H1, Ex H H1 → ∀ Q : VK, (∀ p xs H2, H1 p = none → Ex H1 H2 → H2 p = some (.lst xs) → DpAll K H2 xs ds → Q (.ref p) H2) → te σ H1 Q
def RlA (K : PySem.W.Frag) (H : Hp) : List V → List Av → Prop
  | [], [] => True
  | v :: vs, a :: as => Rl K H v a ∧ RlA K H vs as
  | _, _ => False
theorem RlA.mono {K : PySem.W.Frag} {H H' : Hp} (e : Ex H H') : ∀ {vs : List V} {as : List Av}, RlA K H vs as → RlA K H' vs as
  | [], [], h => h
  | _ :: _, _ :: _, h => ⟨Rl.mono e h.1, RlA.mono e h.2⟩
  | [], _ :: _, h => h
  | _ :: _, [], h => h
def Ea (K : PySem.W.Frag) (ta : TA) (σ : L2.St) (H : Hp) (as : List Av) : Prop := ∀ H1, Ex H H1 → ∀ Q : List V → Hp → Prop, (∀ vs H2, Ex H1 H2 → RlA K H2 vs as → Q vs H2) → ta σ H1 Q
theorem RlA.ds {K : PySem.W.Frag} {H : Hp} : ∀ {vs : List V} {ds : List PyData}, RlA K H vs (ds.map Av.d) → DpAll K H vs ds
  | [], [], _ => .nil
  | _ :: _, _ :: _, h => .cons h.1 (RlA.ds h.2)
  | [], _ :: _, h => h.elim
  | _ :: _, [], h => h.elim

section
variable {K : PySem.W.Frag} {σ : L2.St} {H H' : Hp} {ta tb tc te : TE} {t u : TT} {d e : PyData} {a b : Av} {n m : Int} {x y z v : V}
theorem Eg.mono (e : Ex H H') (h : Eg K te σ H a) : Eg K te σ H' a := fun H1 a Q q => h H1 (e.trans a) Q q
theorem En.mono {ds : List PyData} (e : Ex H H') (h : En K te σ H ds) : En K te σ H' ds := fun H1 a Q q => h H1 (e.trans a) Q q
theorem Ea.mono {ta : TA} {as : List Av} (e : Ex H H') (h : Ea K ta σ H as) : Ea K ta σ H' as := fun H1 a Q q => h H1 (e.trans a) Q q
theorem _root_.Evl.EvT.up {b : Bool} (e : Ex H H') (h : EvT t σ H b) : EvT t σ H' b := fun H1 a Q q => h H1 (e.trans a) Q q
theorem En.eg {ds : List PyData} (h : En K te σ H ds) : Ed K te σ H (.list ds) := fun H1 e Q q => h H1 e Q fun p xs H2 _ e2 hp hd => q _ _ e2 (.lst (sq_of hp) hd)
theorem eg_is {a b : Av} (h : Eg K te σ H a) (e : a = b) : Eg K te σ H b := e ▸ h
theorem ed_is {d e : PyData} (h : Ed K te σ H d) (q : d = e) : Ed K te σ H e := q ▸ h
theorem ei_is {n m : Int} (h : Ei K te σ H n) (q : n = m) : Ei K te σ H m := q ▸ h
theorem eb_is {n m : Bool} (h : Eb K te σ H n) (q : n = m) : Eb K te σ H m := q ▸ h
theorem et_is' {n m : Bool} (h : EvT t σ H n) (q : n = m) : EvT t σ H m := q ▸ h
theorem Eg.of (h : Eg K te σ H (.v x)) (r : Rl K H x a) : Eg K te σ H a := fun H1 e Q q => h H1 e _ fun v H2 e2 r2 => q v H2 e2 (by
  have e3 : v = x := r2
  rw [e3]
  exact r.mono (e.trans e2))

theorem eg_var {i : Nat} (h : σ[i]? = some (some x)) (r : Rl K H x a) : Eg K (tVar i) σ H a := fun H1 e _ q => ⟨x, h, q x H1 (Ex.refl H1) (r.mono e)⟩
theorem eg_varv {i : Nat} (h : σ[i]? = some (some x)) : Eg K (tVar i) σ H (.v x) := eg_var h rfl
theorem eg_vard {i : Nat} (h : σ[i]? = some (some x)) (r : Dp K H x d) : Ed K (tVar i) σ H d := eg_var h r
theorem eg_c (r : Rl K H x a) : Eg K (tC x) σ H a := fun H1 e _ q => q x H1 (Ex.refl H1) (r.mono e)
theorem ed_int : Ei K (tC (.int n)) σ H n := eg_c (Dp.int n)
theorem ed_bl {k : Bool} : Eb K (tC (.bl k)) σ H k := eg_c (Dp.bl k)
theorem ed_str {k : Str} : Ed K (tC (.str k)) σ H (.str k) := eg_c (Dp.str k)
theorem ed_non : Ed K (tC .non) σ H .none := eg_c Dp.non

theorem ea_nil : Ea K tNil σ H [] := fun H1 _ _ q => q [] H1 (Ex.refl H1) trivial
theorem ea_cons {tr : TA} {as : List Av} (h : Eg K te σ H a) (hr : Ea K tr σ H as) : Ea K (tCons te tr) σ H (a :: as) := fun H1 e _ q =>
  h H1 e _ fun v H2 e2 r => hr H2 (e.trans e2) _ fun vs H3 e3 rs => q (v :: vs) H3 (e2.trans e3) ⟨r.mono e3, rs⟩
theorem ea_consD {tr : TA} {as : List Av} (h : Ed K te σ H d) (hr : Ea K tr σ H as) : Ea K (tCons te tr) σ H (.d d :: as) := ea_cons h hr

theorem ed_tup {ta : TA} {ds : List PyData} (h : Ea K ta σ H (ds.map Av.d)) (hl : ds.length ≤ 1000000 := by simp) : Ed K (tTup ta) σ H (.tuple ds) := fun H1 e _ q =>
  h H1 e _ fun vs H2 e2 r => ⟨szm (by rw [r.ds.length]; exact hl), fun p hp => q _ _ (e2.trans (Ex.new hp)) (.tup (st_of upd_same) (DpAll.mono (Ex.new hp) r.ds))⟩
theorem en_lst {ta : TA} {ds : List PyData} (h : Ea K ta σ H (ds.map Av.d)) (hl : ds.length ≤ 1000000 := by simp) : En K (tLst ta) σ H ds := fun H1 e _ q =>
  h H1 e _ fun vs H2 e2 r => ⟨szm (by rw [r.ds.length]; exact hl), fun p hp => q p vs _ (fresh_back e2 hp) (e2.trans (Ex.new hp)) upd_same (DpAll.mono (Ex.new hp) r.ds)⟩
end

theorem bt_isinstance : bootBuiltins "isinstance" = some (.builtin "isinstance") := by decide +kernel
theorem bt_len : bootBuiltins "len" = some (.builtin "len") := by decide +kernel
theorem bt_all : bootBuiltins "all" = some (.builtin "all") := by decide +kernel
theorem bt_any : bootBuiltins "any" = some (.builtin "any") := by decide +kernel
theorem bt_sum : bootBuiltins "sum" = some (.builtin "sum") := by decide +kernel
theorem bt_abs : bootBuiltins "abs" = some (.builtin "abs") := by decide +kernel
theorem bt_max : bootBuiltins "max" = some (.builtin "max") := by decide +kernel
theorem bt_min : bootBuiltins "min" = some (.builtin "min") := by decide +kernel
theorem bt_sorted : bootBuiltins "sorted" = some (.builtin "sorted") := by decide +kernel
theorem bt_int : bootBuiltins "int" = some (.type "int") := by decide +kernel
theorem bt_bool : bootBuiltins "bool" = some (.type "bool") := by decide +kernel
theorem bt_str : bootBuiltins "str" = some (.type "str") := by decide +kernel
theorem bt_list : bootBuiltins "list" = some (.type "list") := by decide +kernel
theorem bt_tuple : bootBuiltins "tuple" = some (.type "tuple") := by decide +kernel
theorem bt_dict : bootBuiltins "dict" = some (.type "dict") := by decide +kernel
theorem bt_set : bootBuiltins "set" = some (.type "set") := by decide +kernel
theorem bt_range : bootBuiltins "range" = some (.type "range") := by decide +kernel
theorem bt_zip : bootBuiltins "zip" = some (.type "zip") := by decide +kernel
theorem bt_enumerate : bootBuiltins "enumerate" = some (.type "enumerate") := by decide +kernel
theorem bt_reversed : bootBuiltins "reversed" = some (.type "reversed") := by decide +kernel
theorem bt_type : bootBuiltins "type" = some (.type "type") := by decide +kernel

theorem ed_tupE {K : PySem.W.Frag} {σ : L2.St} {H : Hp} {ta : TA} {as : List Av} {ds : List PyData} (h : Ea K ta σ H as) (hd : as = ds.map Av.d) (hl : ds.length ≤ 1000000) : Ed K (tTup ta) σ H (.tuple ds) := ed_tup (hd ▸ h) hl
theorem en_lstE {K : PySem.W.Frag} {σ : L2.St} {H : Hp} {ta : TA} {as : List Av} {ds : List PyData} (h : Ea K ta σ H as) (hd : as = ds.map Av.d) (hl : ds.length ≤ 1000000) : En K (tLst ta) σ H ds := en_lst (hd ▸ h) hl

def EaD (K : PySem.W.Frag) (ta : TA) (σ : L2.St) (H : Hp) (ds : List PyData) : Prop := Ea K ta σ H (ds.map Av.d)
section
variable {K : PySem.W.Frag} {σ : L2.St} {H : Hp} {ta : TA} {te : TE} {ds : List PyData} {d : PyData}
theorem ead_nil : EaD K tNil σ H [] := ea_nil
theorem ead_cons {tr : TA} (h : Ed K te σ H d) (hr : EaD K tr σ H ds) : EaD K (tCons te tr) σ H (d :: ds) := ea_cons h hr
theorem ed_tupD (h : EaD K ta σ H ds) (hl : ds.length ≤ 1000000 := by simp) : Ed K (tTup ta) σ H (.tuple ds) := ed_tup h hl
theorem en_lstD (h : EaD K ta σ H ds) (hl : ds.length ≤ 1000000 := by simp) : En K (tLst ta) σ H ds := en_lst h hl
end

def El (K : PySem.W.Frag) (te : TE) (σ : L2.St) (H : Hp) (ds : List PyData) : Prop := ∀ H1, Ex H H1 → ∀ Q : VK, (∀ p xs H2, Ex H1 H2 → H2 p = some (.lst xs) → DpAll K H2 xs ds → Q (.ref p) H2) → te σ H1 Q
section
variable {K : PySem.W.Frag} {σ : L2.St} {H H' : Hp} {ta tb tc te : TE} {t u : TT} {d e : PyData} {a b : Av} {n m : Int} {x y z v : V} {ds es : List PyData}
theorem El.mono (e : Ex H H') (h : El K te σ H ds) : El K te σ H' ds := fun H1 a Q q => h H1 (e.trans a) Q q
theorem El.ed (h : El K te σ H ds) : Ed K te σ H (.list ds) := fun H1 e Q q => h H1 e Q fun p xs H2 e2 hp hd => q _ _ e2 (.lst (sq_of hp) hd)
theorem En.el (h : En K te σ H ds) : El K te σ H ds := fun H1 e Q q => h H1 e Q fun p xs H2 _ e2 hp hd => q p xs H2 e2 hp hd
theorem el_var {i : Nat} {p : Addr} {xs : List V} (h : σ[i]? = some (some (.ref p))) (hp : H p = some (.lst xs)) (hd : DpAll K H xs ds) : El K (tVar i) σ H ds := fun H1 e _ q => ⟨_, h, q p xs H1 (Ex.refl H1) (e _ _ hp) (DpAll.mono e hd)⟩
theorem en_is {ds es : List PyData} (h : En K te σ H ds) (q : ds = es) : En K te σ H es := q ▸ h


theorem ed_op {r : R2} (ha : Eg K ta σ H a) (hb : Eg K tb σ H b) (hr : ∀ x y H1, Ex H H1 → Rl K H1 x a → Rl K H1 y b → ∀ Q : VK, (∀ v H2, Ex H1 H2 → Dp K H2 v d → Q v H2) → r x y H1 Q) : Ed K (tOp r ta tb) σ H d := fun H1 e Q q =>
  ha H1 e _ fun x H2 e2 rx => hb H2 (e.trans e2) _ fun y H3 e3 ry => hr x y H3 ((e.trans e2).trans e3) (rx.mono e3) ry Q fun v H4 e4 hv => q v H4 ((e2.trans e3).trans e4) hv

theorem ei_I0 {g : Int → Int → Int} (ha : Ei K ta σ H n) (hb : Ei K tb σ H m) : Ei K (tOp (rI0 fun i j => .int (g i j)) ta tb) σ H (g n m) := ed_op ha hb fun x y H1 _ hx hy Q q => by
  cases Dp.int_inv hx
  cases Dp.int_inv hy
  exact ⟨n, m, rfl, rfl, q _ H1 (Ex.refl H1) (.int _)⟩
theorem ei_I {C : Int → Int → Prop} {g : Int → Int → Int} (ha : Ei K ta σ H n) (hb : Ei K tb σ H m) (hc : C n m) : Ei K (tOp (rI C fun i j => .int (g i j)) ta tb) σ H (g n m) := ed_op ha hb fun x y H1 _ hx hy Q q => by
  cases Dp.int_inv hx
  cases Dp.int_inv hy
  exact ⟨n, m, rfl, rfl, hc, q _ H1 (Ex.refl H1) (.int _)⟩
theorem eb_I0 {g : Int → Int → Bool} (ha : Ei K ta σ H n) (hb : Ei K tb σ H m) : Eb K (tOp (rI0 fun i j => .bl (g i j)) ta tb) σ H (g n m) := ed_op ha hb fun x y H1 _ hx hy Q q => by
  cases Dp.int_inv hx
  cases Dp.int_inv hy
  exact ⟨n, m, rfl, rfl, q _ H1 (Ex.refl H1) (.bl _)⟩
end

def rAddS : R2 := fun x y H Q => ∃ i j, x = .str i ∧ y = .str j ∧ i.length + j.length ≤ sizeLine ∧ Q (.str (i ++ j)) H
def rAddI : R2 := rI0 fun i j => .int (i + j)
def rSubI : R2 := rI0 fun i j => .int (i - j)
def rMulI : R2 := rI CMul fun i j => .int (i * j)
def rDivI : R2 := rI CDiv fun i j => .int (i / j)
def rModI : R2 := rI (fun _ j => 0 < j) fun i j => .int (i % j)
def rPowI : R2 := rI CPow fun i j => .int (i ^ j.toNat)
def rLtI : R2 := rI0 fun i j => .bl (decide (i < j))
def rLeI : R2 := rI0 fun i j => .bl (decide (i ≤ j))
def rGtI : R2 := rI0 fun i j => .bl (decide (j < i))
def rGeI : R2 := rI0 fun i j => .bl (decide (j ≤ i))
def rIsN : R2 := fun x y H Q => y = .non ∧ Q (.bl (decide (x = .non))) H
def rNotN : R2 := fun x y H Q => y = .non ∧ Q (.bl (!decide (x = .non))) H
section
variable {X : Cx}
theorem op_addI : OpR X (binaryOp .Add) rAddI := op_add
theorem op_subI : OpR X (binaryOp .Sub) rSubI := op_sub
theorem op_mulI : OpR X (binaryOp .Mult) rMulI := op_mul
theorem op_divI : OpR X (binaryOp .FloorDiv) rDivI := op_fdiv
theorem op_modI : OpR X (binaryOp .Mod) rModI := op_mod
theorem op_powI : OpR X (binaryOp .Pow) rPowI := op_pow
theorem op_ltI : OpR X (compareOp .Lt) rLtI := op_lt
theorem op_leI : OpR X (compareOp .LtE) rLeI := op_le
theorem op_gtI : OpR X (compareOp .Gt) rGtI := op_gt
theorem op_geI : OpR X (compareOp .GtE) rGeI := op_ge
theorem op_isNo : OpR X (compareOp .Is) rIsN := op_isN
theorem op_notNo : OpR X (compareOp .IsNot) rNotN := op_notN
theorem op_addS : OpR X (binaryOp .Add) rAddS := op_add_str
end
section
variable {K : PySem.W.Frag} {σ : L2.St} {H H' : Hp} {ta tb tc te : TE} {t u : TT} {d e : PyData} {a b : Av} {n m : Int} {x y z v : V} {ds es : List PyData}
theorem ei_add (ha : Ei K ta σ H n) (hb : Ei K tb σ H m) : Ei K (tOp rAddI ta tb) σ H (n + m) := ei_I0 ha hb
theorem ei_sub (ha : Ei K ta σ H n) (hb : Ei K tb σ H m) : Ei K (tOp rSubI ta tb) σ H (n - m) := ei_I0 ha hb
theorem ei_mul (ha : Ei K ta σ H n) (hb : Ei K tb σ H m) (hc : CMul n m) : Ei K (tOp rMulI ta tb) σ H (n * m) := ei_I ha hb hc
theorem ei_div (ha : Ei K ta σ H n) (hb : Ei K tb σ H m) (hc : 0 < m ∧ m < 1073741824) : Ei K (tOp rDivI ta tb) σ H (n / m) := ei_I (C := CDiv) ha hb hc
theorem ei_mod (ha : Ei K ta σ H n) (hb : Ei K tb σ H m) (hc : 0 < m) : Ei K (tOp rModI ta tb) σ H (n % m) := ei_I (C := fun _ j => 0 < j) ha hb hc
theorem ei_pow (ha : Ei K ta σ H n) (hb : Ei K tb σ H m) (hc : CPow n m) : Ei K (tOp rPowI ta tb) σ H (n ^ m.toNat) := ei_I (C := CPow) ha hb hc
theorem eb_lt (ha : Ei K ta σ H n) (hb : Ei K tb σ H m) : Eb K (tOp rLtI ta tb) σ H (decide (n < m)) := eb_I0 (g := fun i j => decide (i < j)) ha hb
theorem eb_le (ha : Ei K ta σ H n) (hb : Ei K tb σ H m) : Eb K (tOp rLeI ta tb) σ H (decide (n ≤ m)) := eb_I0 (g := fun i j => decide (i ≤ j)) ha hb
theorem eb_gt (ha : Ei K ta σ H n) (hb : Ei K tb σ H m) : Eb K (tOp rGtI ta tb) σ H (decide (m < n)) := eb_I0 (g := fun i j => decide (j < i)) ha hb
theorem eb_ge (ha : Ei K ta σ H n) (hb : Ei K tb σ H m) : Eb K (tOp rGeI ta tb) σ H (decide (m ≤ n)) := eb_I0 (g := fun i j => decide (j ≤ i)) ha hb
theorem ei_neg (ha : Ei K ta σ H n) : Ei K (tUn (rU fun i => .int (-i)) ta) σ H (-n) := fun H1 e Q q => ha H1 e _ fun x H2 e2 hx => by
  cases Dp.int_inv hx
  exact ⟨n, rfl, q _ H2 e2 (.int _)⟩

def okD (d : PyData) : Prop := SeqAt.shaped d = true
theorem eb_eq (ha : Ed K ta σ H d) (hb : Ed K tb σ H e) (h1 : okD d) (h2 : okD e) : Eb K (tOp (rEqD K) ta tb) σ H (PyData.eqv d e) := ed_op ha hb fun x y H1 _ hx hy Q q =>
  ⟨d, e, hx, hy, h1, h2, q _ H1 (Ex.refl H1) (.bl _)⟩
theorem eb_ne (ha : Ed K ta σ H d) (hb : Ed K tb σ H e) (h1 : okD d) (h2 : okD e) : Eb K (tOp (rNeD K) ta tb) σ H (!PyData.eqv d e) := ed_op ha hb fun x y H1 _ hx hy Q q =>
  ⟨d, e, hx, hy, h1, h2, q _ H1 (Ex.refl H1) (.bl _)⟩
def isNo : PyData → Bool
  | .none => true
  | _ => false
theorem Dp.isNo {K : PySem.W.Frag} {H : Hp} {v : V} {d : PyData} (h : Dp K H v d) : decide (v = .non) = isNo d := by
  cases h <;> simp [Al.isNo]
theorem eb_isN (ha : Ed K ta σ H d) : Eb K (tOp rIsN ta (tC .non)) σ H (isNo d) := fun H1 e Q q => ha H1 e _ fun x H2 e2 hx => ⟨rfl, q _ H2 e2 (by rw [Dp.isNo hx]; exact .bl _)⟩
theorem eb_notN (ha : Ed K ta σ H d) : Eb K (tOp rNotN ta (tC .non)) σ H (!isNo d) := fun H1 e Q q => ha H1 e _ fun x H2 e2 hx => ⟨rfl, q _ H2 e2 (by rw [Dp.isNo hx]; exact .bl _)⟩
theorem eb_isNv (ha : Eg K ta σ H (.v x)) : Eb K (tOp rIsN ta (tC .non)) σ H (decide (x = .non)) := fun H1 e Q q => ha H1 e _ fun y H2 e2 hx => ⟨rfl, q _ H2 e2 (by cases hx; exact .bl _)⟩
theorem eb_notNv (ha : Eg K ta σ H (.v x)) : Eb K (tOp rNotN ta (tC .non)) σ H (!decide (x = .non)) := fun H1 e Q q => ha H1 e _ fun y H2 e2 hx => ⟨rfl, q _ H2 e2 (by cases hx; exact .bl _)⟩

theorem eb_chain {g g' : Int → Int → Bool} {k : Int} (ha : Ei K ta σ H n) (hb : Ei K tb σ H m) (hc : Ei K tc σ H k) : Eb K (tChain (rI0 fun i j => .bl (g i j)) (rI0 fun i j => .bl (g' i j)) ta tb tc) σ H (g n m && g' m k) := fun H1 e Q q =>
  ha H1 e _ fun x H2 e2 hx => hb H2 (e.trans e2) _ fun y H3 e3 hy => by
    cases Dp.int_inv hx
    cases Dp.int_inv hy
    refine ⟨n, m, rfl, rfl, g n m, rfl, ?_⟩
    cases hg : g n m with
    | true =>
      show tc σ H3 _
      refine hc H3 ((e.trans e2).trans e3) _ fun z H4 e4 hz => ?_
      cases Dp.int_inv hz
      exact ⟨m, k, rfl, rfl, q _ H4 ((e2.trans e3).trans e4) (by show Dp K H4 (V.bl (g' m k)) (.bool (g n m && g' m k)); rw [hg]; exact .bl _)⟩
    | false =>
      show Q (.bl false) H3
      exact q _ H3 (e2.trans e3) (by show Dp K H3 (V.bl false) (.bool (g n m && g' m k)); rw [hg]; exact .bl _)
theorem eb_chLeLe {k : Int} (ha : Ei K ta σ H n) (hb : Ei K tb σ H m) (hc : Ei K tc σ H k) : Eb K (tChain rLeI rLeI ta tb tc) σ H (decide (n ≤ m) && decide (m ≤ k)) := eb_chain (g := fun i j => decide (i ≤ j)) (g' := fun i j => decide (i ≤ j)) ha hb hc

theorem eb_and {k l : Bool} (h1 : Eb K ta σ H k) (h2 : k = true → Eb K tb σ H l) : Eb K (tAndV ta tb) σ H (k && l) := fun H1 e Q q => h1 H1 e _ fun x H2 e2 hx => by
  cases Dp.bl_inv hx
  refine ⟨k, rfl, ?_⟩
  cases k with
  | true => exact h2 rfl H2 (e.trans e2) Q fun v H3 e3 hv => q v H3 (e2.trans e3) hv
  | false => exact q _ H2 e2 (.bl _)
theorem eb_or {k l : Bool} (h1 : Eb K ta σ H k) (h2 : k = false → Eb K tb σ H l) : Eb K (tOrV ta tb) σ H (k || l) := fun H1 e Q q => h1 H1 e _ fun x H2 e2 hx => by
  cases Dp.bl_inv hx
  refine ⟨k, rfl, ?_⟩
  cases k with
  | false => exact h2 rfl H2 (e.trans e2) Q fun v H3 e3 hv => q v H3 (e2.trans e3) hv
  | true => exact q _ H2 e2 (.bl _)
theorem eb_not {k : Bool} (h1 : Eb K ta σ H k) : Eb K (tNotV ta) σ H (!k) := fun H1 e Q q => h1 H1 e _ fun x H2 e2 hx => by
  cases Dp.bl_inv hx
  exact ⟨k, rfl, q _ H2 e2 (.bl _)⟩
theorem eg_if {k : Bool} (h : EvT t σ H k) (h1 : k = true → Eg K ta σ H a) (h2 : k = false → Eg K tb σ H a) : Eg K (tIf t ta tb) σ H a := fun H1 e Q q => h H1 e _ fun H2 e2 => by
  cases k with
  | true => exact h1 rfl H2 (e.trans e2) Q fun v H3 e3 hv => q v H3 (e2.trans e3) hv
  | false => exact h2 rfl H2 (e.trans e2) Q fun v H3 e3 hv => q v H3 (e2.trans e3) hv

theorem et_tst {k : Bool} (h : Eb K te σ H k) : EvT (tTest te) σ H k := fun H1 e _ q => h H1 e _ fun v H2 e2 hv => by
  cases Dp.bl_inv hv
  exact ⟨k, rfl, q H2 e2⟩
theorem et_b {k : Bool} (h : Eb K te σ H k) : EvT (tB te) σ H k := fun H1 e _ q => h H1 e _ fun v H2 e2 hv => by
  cases Dp.bl_inv hv
  exact ⟨k, rfl, q H2 e2⟩
def tTru (K : PySem.W.Frag) (ta : TE) : TT := fun σ H Q => ta σ H fun x H' => ∃ k, TruV K x H' k ∧ Q k H'
theorem pt_tru {X : Cx} {e : Expr} {te : TE} (ha : PE X e te) (he : ∀ whole, isTrue e X.env whole = (do let v ← whole; standAt e.pos; holding [v] (truthy v)) := by intro _; rfl) : PT X e (tTru X.K te) := pt_truth ha he
def truD : PyData → Bool
  | .none => false
  | .bool b => b
  | .int i => i != 0
  | .str s => (s.length : Int) != 0
  | .list xs => !xs.isEmpty
  | .tuple xs => !xs.isEmpty
  | .dict _ => false
theorem DpAll.isEmpty {xs : List V} (h : DpAll K H xs ds) : xs.isEmpty = ds.isEmpty := by cases h <;> rfl
theorem Dp.tru {x : V} (h : Dp K H x d) (hs : ∀ s, d = .str s → s.length ≤ sizeLine) : TruV K x H (truD d) := by
  cases h with
  | non => rfl
  | bl b => rfl
  | int i => rfl
  | str s => exact ⟨hs s rfl, rfl⟩
  | lst h a => exact .inl ⟨_, h, by rw [DpAll.isEmpty a]; rfl⟩
  | tup h a => exact .inr (.inl ⟨_, h, by rw [DpAll.isEmpty a]; rfl⟩)
theorem et_tru (h : Ed K te σ H d) (hs : ∀ s, d = .str s → s.length ≤ sizeLine := by intro _ z; cases z) : EvT (tTru K te) σ H (truD d) := fun H1 e _ q => h H1 e _ fun v H2 e2 hv => ⟨_, Dp.tru hv hs, q H2 e2⟩
theorem et_trub {k : Bool} (h : Eb K te σ H k) : EvT (tTru K te) σ H k := et_tru h
theorem et_trui (h : Ei K te σ H n) : EvT (tTru K te) σ H (n != 0) := et_tru h
end


section
variable {K : PySem.W.Frag} {σ : L2.St} {H H' : Hp} {ta tb tc te : TE} {t u : TT} {d e : PyData} {a b : Av} {n m : Int} {x y z v : V} {ds es : List PyData}
theorem DpAll.at' {xs : List V} (h : DpAll K H xs ds) (hi : atI ds n = some d) : ∃ v, atI xs n = some v ∧ Dp K H v d := by
  unfold atI at hi ⊢
  rw [L2.DpAll.length h]
  cases e : ixN ds.length n with
  | none => rw [e] at hi; cases hi
  | some j =>
    rw [e] at hi
    exact L2.DpAll.get' h (show ds[j]? = some d from hi)

theorem ed_ixL (ha : Ed K ta σ H (.list ds)) (hb : Ei K tb σ H n) (hi : atI ds n = some d) : Ed K (tOp (rIx K) ta tb) σ H d := ed_op ha hb fun x y H1 _ hx hy Q q => by
  obtain ⟨p, xs, rfl, hs, hd⟩ := Dp.list_inv hx
  cases Dp.int_inv hy
  obtain ⟨v, h1, h2⟩ := DpAll.at' hd hi
  exact .inl ⟨p, xs, n, v, rfl, rfl, hs, h1, q v H1 (Ex.refl H1) h2⟩
theorem ed_ixT (ha : Ed K ta σ H (.tuple ds)) (hb : Ei K tb σ H n) (hi : atI ds n = some d) : Ed K (tOp (rIx K) ta tb) σ H d := ed_op ha hb fun x y H1 _ hx hy Q q => by
  obtain ⟨p, xs, rfl, hs, hd⟩ := Dp.tup_inv hx
  cases Dp.int_inv hy
  obtain ⟨v, h1, h2⟩ := DpAll.at' hd hi
  exact .inr (.inl ⟨p, xs, n, v, rfl, rfl, hs, h1, q v H1 (Ex.refl H1) h2⟩)

theorem eg_ixV {p : Addr} {xs : List V} (ha : Eg K ta σ H (.v (.ref p))) (hs : SqL K H p xs) (hb : Ei K tb σ H n) (hi : atI xs n = some x) (r : Rl K H x a) : Eg K (tOp (rIx K) ta tb) σ H a := fun H1 e Q q =>
  ha H1 e _ fun y H2 e2 hy => hb H2 (e.trans e2) _ fun z H3 e3 hz => by
    cases hy
    cases Dp.int_inv hz
    exact .inl ⟨p, xs, n, x, rfl, rfl, ex_l ((e.trans e2).trans e3) hs, hi, q x H3 (e2.trans e3) (r.mono ((e.trans e2).trans e3))⟩
theorem atI_ofNat {α : Type} {xs : List α} {j : Nat} {v : α} (h : xs[j]? = some v) : atI xs (j : Int) = some v := atI_nat h
theorem atI_of {α : Type} {xs : List α} {i : Int} {v : α} (h0 : 0 ≤ i) (h : xs[i.toNat]? = some v) : atI xs i = some v := by
  have e : i = ((i.toNat : Nat) : Int) := by omega
  rw [e]
  exact atI_nat h
theorem atI_end {α : Type} {xs : List α} {v : α} (h : xs[xs.length - 1]? = some v) : atI xs (-1) = some v := by
  have hl : xs.length - 1 < xs.length := (List.getElem?_eq_some_iff.mp h).1
  unfold atI ixN
  rw [if_neg (by omega), if_pos (by omega)]
  show xs[(-1 + (xs.length : Int)).toNat]? = some v
  rw [show (-1 + (xs.length : Int)).toNat = xs.length - 1 by omega]
  exact h

def rSlU (K : PySem.W.Frag) : V → Option Int → Option Int → Hp → VK → Prop := fun x lo hi H Q => rSlL K x lo hi H Q ∨ rSlA K x lo hi H Q
theorem sl_uni {X : Cx} : SlR X (rSlU X.K) := sl_list.or sl_tupA
def cutX (xs : List PyData) (lo hi : Option Int) : List PyData := (xs.drop (HT.sIx xs.length 0 lo)).take (HT.sIx xs.length xs.length hi - HT.sIx xs.length 0 lo)
theorem DpAll.cut {xs : List V} (h : DpAll K H xs ds) (lo hi : Option Int) : DpAll K H (cutV xs lo hi) (cutX ds lo hi) := by
  unfold cutV cutX
  rw [L2.DpAll.length h]
  exact L2.DpAll.take _ (L2.DpAll.drop _ h)

def Eo (K : PySem.W.Frag) (to : TO) (σ : L2.St) (H : Hp) (o : Option Int) : Prop := ∀ H1, Ex H H1 → ∀ Q : Option Int → Hp → Prop, (∀ H2, Ex H1 H2 → Q o H2) → to σ H1 Q
theorem eo_no : Eo K tNoPart σ H none := fun H1 _ _ q => q H1 (Ex.refl H1)
theorem eo_so (h : Ei K te σ H n) : Eo K (tPart te) σ H (some n) := fun H1 e _ q => h H1 e _ fun v H2 e2 hv => ⟨n, Dp.int_inv hv, q H2 e2⟩
theorem en_sl {tl th : TO} {lo hi : Option Int} (h : Ed K te σ H (.list ds)) (h1 : Eo K tl σ H lo) (h2 : Eo K th σ H hi) : En K (tSl (rSlU K) te tl th) σ H (cutX ds lo hi) := fun H1 e Q q =>
  h H1 e _ fun v H2 e2 hv => h1 H2 (e.trans e2) _ fun H3 e3 => h2 H3 ((e.trans e2).trans e3) _ fun H4 e4 => by
    obtain ⟨p, xs, rfl, hs, hd⟩ := Dp.list_inv (hv.mono (e3.trans e4))
    exact .inl ⟨p, xs, rfl, hs, fun l hl => q l _ _ (fresh_back ((e2.trans e3).trans e4) hl) (((e2.trans e3).trans e4).trans (Ex.new hl)) upd_same (DpAll.mono (Ex.new hl) (DpAll.cut hd lo hi))⟩
theorem cutX_all {xs : List PyData} {lo hi : Option Int} (h : HT.sIx xs.length 0 lo = 0 ∧ HT.sIx xs.length xs.length hi = xs.length) : cutX xs lo hi = xs := by
  unfold cutX
  rw [h.1, h.2]
  simp
theorem ed_slT {tl th : TO} {lo hi : Option Int} (h : Ed K te σ H (.tuple ds)) (h1 : Eo K tl σ H lo) (h2 : Eo K th σ H hi) : Ed K (tSl (rSlU K) te tl th) σ H (.tuple (cutX ds lo hi)) := fun H1 e Q q =>
  h H1 e _ fun v H2 e2 hv => h1 H2 (e.trans e2) _ fun H3 e3 => h2 H3 ((e.trans e2).trans e3) _ fun H4 e4 => by
    have hv4 := hv.mono (e3.trans e4)
    obtain ⟨p, xs, rfl, hs, hd⟩ := Dp.tup_inv hv4
    refine .inr ⟨p, xs, rfl, hs, fun hw => q _ _ ((e2.trans e3).trans e4) ?_, fun _ l hl => q _ _ (((e2.trans e3).trans e4).trans (Ex.new hl)) (.tup (st_of upd_same) (DpAll.mono (Ex.new hl) (DpAll.cut hd lo hi)))⟩
    rw [L2.DpAll.length hd] at hw
    rw [cutX_all hw]
    exact hv4

theorem ed_catT (ha : Ed K ta σ H (.tuple ds)) (hb : Ed K tb σ H (.tuple es)) (hl : ds.length + es.length ≤ 1000000) : Ed K (tOp (rCatA K) ta tb) σ H (.tuple (ds ++ es)) := ed_op ha hb fun x y H1 _ hx hy Q q => by
  obtain ⟨p, xs, rfl, hs, hd⟩ := Dp.tup_inv hx
  obtain ⟨p', ys, rfl, hs', hd'⟩ := Dp.tup_inv hy
  refine ⟨p, p', xs, ys, rfl, rfl, hs, hs', szm (by rw [L2.DpAll.length hd, L2.DpAll.length hd']; exact hl), fun z => ?_, fun _ z => ?_, fun _ _ l hl => ?_⟩
  · subst z
    cases hd
    exact q _ H1 (Ex.refl H1) hy
  · subst z
    cases hd'
    rw [List.append_nil] at q
    exact q _ H1 (Ex.refl H1) hx
  · exact q _ _ (Ex.new hl) (.tup (st_of upd_same) (DpAll.mono (Ex.new hl) (hd.append hd')))
theorem en_cat (ha : El K ta σ H ds) (hb : El K tb σ H es) (hl : ds.length + es.length ≤ 1000000) : En K (tOp rCat ta tb) σ H (ds ++ es) := fun H1 e Q q =>
  ha H1 e _ fun p xs H2 e2 hp hd => hb H2 (e.trans e2) _ fun p' ys H3 e3 hp' hd' =>
    ⟨p, p', xs, ys, rfl, rfl, e3 _ _ hp, hp', szm (by rw [L2.DpAll.length hd, L2.DpAll.length hd']; exact hl), fun l hl => q l _ _ (fresh_back (e2.trans e3) hl) ((e2.trans e3).trans (Ex.new hl)) upd_same (DpAll.mono (Ex.new hl) ((DpAll.mono e3 hd).append hd'))⟩
theorem DpAll.rep' {xs : List V} (h : DpAll K H xs ds) : ∀ k : Nat, DpAll K H (List.replicate k xs).flatten (List.replicate k ds).flatten
  | 0 => by simp; exact .nil
  | k + 1 => by simp [List.replicate_succ]; exact h.append (DpAll.rep' h k)
theorem en_rep (ha : El K ta σ H ds) (hb : Ei K tb σ H n) (hl : ds.length * n.toNat ≤ 1000000) (hn : n ≤ 1000000) (hn2 : -1000000 ≤ n) : En K (tOp rRep ta tb) σ H (List.replicate n.toNat ds).flatten := fun H1 e Q q =>
  ha H1 e _ fun p xs H2 e2 hp hd => hb H2 (e.trans e2) _ fun y H3 e3 hy => by
    cases Dp.int_inv hy
    exact ⟨p, n, xs, rfl, rfl, e3 _ _ hp, by omega, by omega, szm (by rw [L2.DpAll.length hd]; exact hl), fun l hl => q l _ _ (fresh_back (e2.trans e3) hl) ((e2.trans e3).trans (Ex.new hl)) upd_same (DpAll.mono (Ex.new hl) (DpAll.rep' (DpAll.mono e3 hd) _))⟩

def flatD : PyData → Bool
  | .none => true
  | .bool _ => true
  | .int _ => true
  | .str _ => true
  | _ => false
theorem Dp.flat {x : V} (h : Dp K H x d) (hf : flatD d = true) : flatV x = true := by
  cases h <;> first | rfl | (simp [flatD] at hf)

def rLenU (K : PySem.W.Frag) : List V → Hp → VK → Prop := fun xs H Q => ∃ x n, xs = [x] ∧ LenV K x H n ∧ Q (.int n) H
theorem call_lenU {X : Cx} : CallR X (.builtin "len") (rLenU X.K) := call_len
theorem ei_lenL (h : Ed K te σ H (.list ds)) : Ei K (tCB (rLenU K) (tCons te tNil)) σ H (ds.length : Nat) := fun H1 e Q q => h H1 e _ fun v H2 e2 hv => by
  obtain ⟨p, xs, rfl, hs, hd⟩ := Dp.list_inv hv
  exact ⟨_, ds.length, rfl, .inl ⟨xs, hs, (L2.DpAll.length hd).symm⟩, q _ H2 e2 (.int _)⟩
theorem ei_lenT (h : Ed K te σ H (.tuple ds)) : Ei K (tCB (rLenU K) (tCons te tNil)) σ H (ds.length : Nat) := fun H1 e Q q => h H1 e _ fun v H2 e2 hv => by
  obtain ⟨p, xs, rfl, hs, hd⟩ := Dp.tup_inv hv
  exact ⟨_, ds.length, rfl, .inr ⟨xs, hs, (L2.DpAll.length hd).symm⟩, q _ H2 e2 (.int _)⟩
theorem ei_lenV {p : Addr} {xs : List V} (h : Eg K te σ H (.v (.ref p))) (hs : SqL K H p xs) : Ei K (tCB (rLenU K) (tCons te tNil)) σ H (xs.length : Nat) := fun H1 e Q q => h H1 e _ fun v H2 e2 hv => by
  cases hv
  exact ⟨_, xs.length, rfl, .inl ⟨xs, ex_l (e.trans e2) hs, rfl⟩, q _ H2 e2 (.int _)⟩
def rIntU : List V → Hp → VK → Prop := fun xs H Q => (∃ i, xs = [.int i] ∧ Q (.int i) H) ∨ ∃ k, xs = [.bl k] ∧ Q (.int (if k then 1 else 0)) H
theorem call_intU {X : Cx} : CallR X (.type "int") rIntU := call_int1
theorem ei_int (h : Ei K te σ H n) : Ei K (tCB rIntU (tCons te tNil)) σ H n := fun H1 e Q q => h H1 e _ fun v H2 e2 hv => by
  cases Dp.int_inv hv
  exact .inl ⟨n, rfl, q _ H2 e2 (.int _)⟩
theorem ei_intb {k : Bool} (h : Eb K te σ H k) : Ei K (tCB rIntU (tCons te tNil)) σ H (if k then 1 else 0) := fun H1 e Q q => h H1 e _ fun v H2 e2 hv => by
  cases Dp.bl_inv hv
  exact .inr ⟨k, rfl, q _ H2 e2 (.int _)⟩
def rAbs : List V → Hp → VK → Prop := fun xs H Q => ∃ i, xs = [.int i] ∧ Q (.int (if i < 0 then -i else i)) H
theorem call_absU {X : Cx} : CallR X (.builtin "abs") rAbs := call_abs
theorem ei_abs (h : Ei K te σ H n) : Ei K (tCB rAbs (tCons te tNil)) σ H (if n < 0 then -n else n) := fun H1 e Q q => h H1 e _ fun v H2 e2 hv => by
  cases Dp.int_inv hv
  exact ⟨n, rfl, q _ H2 e2 (.int _)⟩
def rMax2 : List V → Hp → VK → Prop := fun xs H Q => ∃ i j, xs = [.int i, .int j] ∧ Q (.int (if j > i then j else i)) H
theorem call_max2U {X : Cx} (hc : X.calm = true) : CallR X (.builtin "max") rMax2 := call_max2 hc
theorem ei_max2 (h : Ei K ta σ H n) (h' : Ei K tb σ H m) : Ei K (tCB rMax2 (tCons ta (tCons tb tNil))) σ H (if m > n then m else n) := fun H1 e Q q => h H1 e _ fun v H2 e2 hv => h' H2 (e.trans e2) _ fun w H3 e3 hw => by
  cases Dp.int_inv hv
  cases Dp.int_inv hw
  exact ⟨n, m, rfl, q _ H3 (e2.trans e3) (.int _)⟩
def rMin2 : List V → Hp → VK → Prop := fun xs H Q => ∃ i j, xs = [.int i, .int j] ∧ Q (.int (if j < i then j else i)) H
theorem call_min2U {X : Cx} (hc : X.calm = true) : CallR X (.builtin "min") rMin2 := call_min2 hc
theorem ei_min2 (h : Ei K ta σ H n) (h' : Ei K tb σ H m) : Ei K (tCB rMin2 (tCons ta (tCons tb tNil))) σ H (if m < n then m else n) := fun H1 e Q q => h H1 e _ fun v H2 e2 hv => h' H2 (e.trans e2) _ fun w H3 e3 hw => by
  cases Dp.int_inv hv
  cases Dp.int_inv hw
  exact ⟨n, m, rfl, q _ H3 (e2.trans e3) (.int _)⟩
theorem eb_all {bs : List Bool} (h : Ed K te σ H (.list (bs.map .bool))) : Eb K (tCB (rAll K) (tCons te tNil)) σ H (bs.all id) := fun H1 e Q q => h H1 e _ fun v H2 e2 hv => by
  obtain ⟨p, xs, rfl, hs, hd⟩ := Dp.list_inv hv
  rw [L2.DpAll.of_bls hd] at hs
  exact ⟨p, bs, rfl, hs, q _ H2 e2 (.bl _)⟩
theorem eb_any {bs : List Bool} (h : Ed K te σ H (.list (bs.map .bool))) : Eb K (tCB (rAny K) (tCons te tNil)) σ H (bs.any id) := fun H1 e Q q => h H1 e _ fun v H2 e2 hv => by
  obtain ⟨p, xs, rfl, hs, hd⟩ := Dp.list_inv hv
  rw [L2.DpAll.of_bls hd] at hs
  exact ⟨p, bs, rfl, hs, q _ H2 e2 (.bl _)⟩
theorem ei_sum {ns : List Int} (h : Ed K te σ H (.list (ns.map .int))) : Ei K (tCB (rSum K) (tCons te tNil)) σ H ns.sum := fun H1 e Q q => h H1 e _ fun v H2 e2 hv => by
  obtain ⟨p, xs, rfl, hs, hd⟩ := Dp.list_inv hv
  rw [L2.DpAll.of_ints hd] at hs
  exact ⟨p, ns, rfl, hs, q _ H2 e2 (.int _)⟩
def rListOf (K : PySem.W.Frag) : List V → Hp → VK → Prop := fun xs H Q => ∃ p ys, xs = [.ref p] ∧ (SqL K H p ys ∨ SqT K H p ys) ∧ ∀ l, H l = none → Q (.ref l) (upd H l (.lst ys))
theorem call_listOf {X : Cx} : CallR X (.type "list") (rListOf X.K) := call_list_of
theorem en_listL (h : Ed K te σ H (.list ds)) : En K (tCB (rListOf K) (tCons te tNil)) σ H ds := fun H1 e Q q => h H1 e _ fun v H2 e2 hv => by
  obtain ⟨p, xs, rfl, hs, hd⟩ := Dp.list_inv hv
  exact ⟨p, xs, rfl, .inl hs, fun l hl => q l _ _ (fresh_back e2 hl) (e2.trans (Ex.new hl)) upd_same (DpAll.mono (Ex.new hl) hd)⟩
theorem en_listT (h : Ed K te σ H (.tuple ds)) : En K (tCB (rListOf K) (tCons te tNil)) σ H ds := fun H1 e Q q => h H1 e _ fun v H2 e2 hv => by
  obtain ⟨p, xs, rfl, hs, hd⟩ := Dp.tup_inv hv
  exact ⟨p, xs, rfl, .inr hs, fun l hl => q l _ _ (fresh_back e2 hl) (e2.trans (Ex.new hl)) upd_same (DpAll.mono (Ex.new hl) hd)⟩
def rTupOf (K : PySem.W.Frag) : List V → Hp → VK → Prop := fun xs H Q => ∃ p ys, xs = [.ref p] ∧ ((SqL K H p ys ∧ ∀ l, H l = none → Q (.ref l) (upd H l (.tup ys))) ∨ (SqT K H p ys ∧ Q (.ref p) H))
theorem call_tupOf {X : Cx} : CallR X (.type "tuple") (rTupOf X.K) := call_tuple_of
theorem ed_tupL (h : Ed K te σ H (.list ds)) : Ed K (tCB (rTupOf K) (tCons te tNil)) σ H (.tuple ds) := fun H1 e Q q => h H1 e _ fun v H2 e2 hv => by
  obtain ⟨p, xs, rfl, hs, hd⟩ := Dp.list_inv hv
  exact ⟨p, xs, rfl, .inl ⟨hs, fun l hl => q _ _ (e2.trans (Ex.new hl)) (.tup (st_of upd_same) (DpAll.mono (Ex.new hl) hd))⟩⟩
theorem ed_tupT (h : Ed K te σ H (.tuple ds)) : Ed K (tCB (rTupOf K) (tCons te tNil)) σ H (.tuple ds) := fun H1 e Q q => h H1 e _ fun v H2 e2 hv => by
  obtain ⟨p, xs, rfl, hs, hd⟩ := Dp.tup_inv hv
  exact ⟨p, xs, rfl, .inr ⟨hs, q _ _ e2 (.tup hs hd)⟩⟩

theorem rgV_eq (a b : Int) : rgV a b = ((List.range (b - a).toNat).map fun (i : Nat) => a + (i : Int)).map V.int := by
  unfold rgV
  rw [List.map_map]
  rfl
def rgI (a b : Int) : List Int := (List.range (b - a).toNat).map fun (i : Nat) => a + (i : Int)
theorem en_listRg1 (h : Ei K te σ H n) (h0 : 0 ≤ n) (h1 : n ≤ 1000000) : En K (tLstRg (tRg1 te)) σ H ((rgI 0 n).map .int) := fun H1 e Q q => h H1 e _ fun v H2 e2 hv => by
  cases Dp.int_inv hv
  refine ⟨n, rfl, RgOk.of_le (by omega) (by omega) (by omega) h0, fun l hl => q l _ _ (fresh_back e2 hl) (e2.trans (Ex.new hl)) upd_same ?_⟩
  rw [rgV_eq]
  exact DpAll.ints _

def tyD : PyData → String
  | .none => "NoneType"
  | .bool _ => "bool"
  | .int _ => "int"
  | .str _ => "str"
  | .list _ => "list"
  | .tuple _ => "tuple"
  | .dict _ => "dict"
theorem Dp.ty {x : V} (h : Dp K H x d) : TyX K H x (.type (tyD d)) := by
  cases h with
  | non => exact .base .non
  | bl b => exact .base (.bl b)
  | int i => exact .base (.int i)
  | str s => exact .base (.str s)
  | lst h a =>
    rcases h with (h | ⟨o, h⟩) | ⟨o, its, n, hk, hc, _⟩
    · exact .base (.lst h)
    · exact .base (.frz h)
    · exact .kList hk hc
  | tup h a =>
    rcases h with (h | ⟨o, h⟩) | ⟨o, its, n, hk, hc, _⟩
    · exact .base (.tup h)
    · exact .fTuple h
    · exact .kTuple hk hc

def isTy (T : String) (d : PyData) : Bool := (kitB (tyD d) T).getD false
theorem eb_isi {T : String} (h : Ed K te σ H d) (hk : kitB (tyD d) T = some (isTy T d)) : Eb K (tCB (rIsi K) (tCons te (tCons (tC (.ty T)) tNil))) σ H (isTy T d) := fun H1 e Q q => h H1 e _ fun v H2 e2 hv =>
  ⟨v, .ty T, _, _, isTy T d, rfl, .ty T, Dp.ty hv, kit_ty hk, q _ H2 e2 (.bl _)⟩
def isI : PyData → Bool
  | .int _ => true
  | .bool _ => true
  | _ => false
def isB : PyData → Bool
  | .bool _ => true
  | _ => false
def isS : PyData → Bool
  | .str _ => true
  | _ => false
def isL : PyData → Bool
  | .list _ => true
  | _ => false
def isT : PyData → Bool
  | .tuple _ => true
  | _ => false
theorem kit_int {x : V} (h : Dp K H x d) : kitB (tyD d) "int" = some (isI d) := by
  cases h
  · show kitB "NoneType" "int" = some false; decide +kernel
  · show kitB "bool" "int" = some true; decide +kernel
  · show kitB "int" "int" = some true; decide +kernel
  · show kitB "str" "int" = some false; decide +kernel
  · show kitB "list" "int" = some false; decide +kernel
  · show kitB "tuple" "int" = some false; decide +kernel
theorem eb_is_int (h : Ed K te σ H d) : Eb K (tCB (rIsi K) (tCons te (tCons (tC (.ty "int")) tNil))) σ H (isI d) := fun H1 e Q q => h H1 e _ fun v H2 e2 hv =>
  ⟨v, .ty "int", _, _, isI d, rfl, .ty "int", Dp.ty hv, kit_ty (kit_int hv), q _ H2 e2 (.bl _)⟩
theorem kit_bool {x : V} (h : Dp K H x d) : kitB (tyD d) "bool" = some (isB d) := by
  cases h
  · show kitB "NoneType" "bool" = some false; decide +kernel
  · show kitB "bool" "bool" = some true; decide +kernel
  · show kitB "int" "bool" = some false; decide +kernel
  · show kitB "str" "bool" = some false; decide +kernel
  · show kitB "list" "bool" = some false; decide +kernel
  · show kitB "tuple" "bool" = some false; decide +kernel
theorem eb_is_bool (h : Ed K te σ H d) : Eb K (tCB (rIsi K) (tCons te (tCons (tC (.ty "bool")) tNil))) σ H (isB d) := fun H1 e Q q => h H1 e _ fun v H2 e2 hv =>
  ⟨v, .ty "bool", _, _, isB d, rfl, .ty "bool", Dp.ty hv, kit_ty (kit_bool hv), q _ H2 e2 (.bl _)⟩
theorem kit_str {x : V} (h : Dp K H x d) : kitB (tyD d) "str" = some (isS d) := by
  cases h
  · show kitB "NoneType" "str" = some false; decide +kernel
  · show kitB "bool" "str" = some false; decide +kernel
  · show kitB "int" "str" = some false; decide +kernel
  · show kitB "str" "str" = some true; decide +kernel
  · show kitB "list" "str" = some false; decide +kernel
  · show kitB "tuple" "str" = some false; decide +kernel
theorem eb_is_str (h : Ed K te σ H d) : Eb K (tCB (rIsi K) (tCons te (tCons (tC (.ty "str")) tNil))) σ H (isS d) := fun H1 e Q q => h H1 e _ fun v H2 e2 hv =>
  ⟨v, .ty "str", _, _, isS d, rfl, .ty "str", Dp.ty hv, kit_ty (kit_str hv), q _ H2 e2 (.bl _)⟩
theorem kit_list {x : V} (h : Dp K H x d) : kitB (tyD d) "list" = some (isL d) := by
  cases h
  · show kitB "NoneType" "list" = some false; decide +kernel
  · show kitB "bool" "list" = some false; decide +kernel
  · show kitB "int" "list" = some false; decide +kernel
  · show kitB "str" "list" = some false; decide +kernel
  · show kitB "list" "list" = some true; decide +kernel
  · show kitB "tuple" "list" = some false; decide +kernel
theorem eb_is_list (h : Ed K te σ H d) : Eb K (tCB (rIsi K) (tCons te (tCons (tC (.ty "list")) tNil))) σ H (isL d) := fun H1 e Q q => h H1 e _ fun v H2 e2 hv =>
  ⟨v, .ty "list", _, _, isL d, rfl, .ty "list", Dp.ty hv, kit_ty (kit_list hv), q _ H2 e2 (.bl _)⟩
theorem kit_tuple {x : V} (h : Dp K H x d) : kitB (tyD d) "tuple" = some (isT d) := by
  cases h
  · show kitB "NoneType" "tuple" = some false; decide +kernel
  · show kitB "bool" "tuple" = some false; decide +kernel
  · show kitB "int" "tuple" = some false; decide +kernel
  · show kitB "str" "tuple" = some false; decide +kernel
  · show kitB "list" "tuple" = some false; decide +kernel
  · show kitB "tuple" "tuple" = some true; decide +kernel
theorem eb_is_tuple (h : Ed K te σ H d) : Eb K (tCB (rIsi K) (tCons te (tCons (tC (.ty "tuple")) tNil))) σ H (isT d) := fun H1 e Q q => h H1 e _ fun v H2 e2 hv =>
  ⟨v, .ty "tuple", _, _, isT d, rfl, .ty "tuple", Dp.ty hv, kit_ty (kit_tuple hv), q _ H2 e2 (.bl _)⟩
end


section
variable {K : PySem.W.Frag} {σ : L2.St} {H H' : Hp} {ta tb tc te tl : TE} {tt : TT} {g : TG} {vs : List Nat} {n m : Int} {ds es : List PyData}

def gv (kp : Nat → Bool) (f : Nat → PyData) (n : Nat) : List PyData := ((List.range n).filter kp).map f
theorem gv_zero {kp : Nat → Bool} {f : Nat → PyData} : gv kp f 0 = [] := rfl
theorem gv_succ {kp : Nat → Bool} {f : Nat → PyData} {n : Nat} : gv kp f (n + 1) = gv kp f n ++ if kp n = true then [f n] else [] := by
  unfold gv
  rw [List.range_succ, List.filter_append, List.map_append, List.filter_cons]
  by_cases h : kp n = true
  · rw [if_pos h, if_pos h]; rfl
  · rw [if_neg h, if_neg h]; rfl
theorem gv_len {kp : Nat → Bool} {f : Nat → PyData} (n : Nat) : (gv kp f n).length ≤ n := by
  unfold gv
  rw [List.length_map]
  exact Nat.le_trans (List.length_filter_le _ _) (by rw [List.length_range]; exact Nat.le_refl _)
theorem gv_tup {kp : Nat → Bool} {f : Nat → PyData} (h : ∀ i, kp i = true → tupO (f i) = true) : ∀ n, tupOA (gv kp f n) = true
  | 0 => rfl
  | n + 1 => by
    rw [gv_succ, tupOA_append, gv_tup h n, Bool.true_and]
    by_cases z : kp n = true
    · rw [if_pos z]; simp [tupOA, h n z]
    · rw [if_neg z]; rfl

def Lw (K : PySem.W.Frag) (H : Hp) (kp : Nat → Bool) (f : Nat → PyData) (Dl : Addr) (i : Nat) (H' : Hp) : Prop := H Dl = none ∧ Ex H H' ∧ ∃ acc, H' Dl = some (.lst acc) ∧ DpAll K H' acc (gv kp f i) ∧ tupOA (gv kp f i) = true
theorem lw_turn {kp : Nat → Bool} {f : Nat → PyData} {Dl : Addr} {i : Nat} {σ2 : L2.St} (p : Lw K H kp f Dl i H') (hi : i < 1000000) (hx : Ex H H') (ht : EvT tt σ2 H' (kp i)) (he : kp i = true → Ed K te σ2 H' (f i)) (hu : kp i = true → tupO (f i) = true) :
    tt σ2 H' fun b H3 => if b = true then te σ2 H3 fun y H4 => ∃ acc, H4 Dl = some (.lst acc) ∧ acc.length < sizeLine ∧ Lw K H kp f Dl (i + 1) (upd H4 Dl (.lst (acc ++ [y]))) else Lw K H kp f Dl (i + 1) H3 := by
  obtain ⟨p1, p2, acc, p3, p4, p5⟩ := p
  refine ht H' (Ex.refl H') _ fun H3 e3 => ?_
  cases hf : kp i with
  | true =>
    show te σ2 H3 _
    refine he hf H3 e3 _ fun y H4 e4 hy => ⟨acc, e4 Dl _ (e3 Dl _ p3), szl (by have := gv_len (kp := kp) (f := f) i; rw [L2.DpAll.length p4]; omega), p1, Ex.mut (p2.trans (e3.trans e4)) p1, acc ++ [y], upd_same, ?_, ?_⟩
    · rw [gv_succ, if_pos hf]
      have hL := e4 Dl _ (e3 Dl _ p3)
      exact (L2.DpAll.tx (Tx.lst hL) (L2.DpAll.mono (e3.trans e4) p4) p5).append (.one (L2.Dp.tx (Tx.lst hL) hy (hu hf)))
    · rw [gv_succ, if_pos hf, tupOA_append, p5]
      simp [tupOA, hu hf]
  | false =>
    show Lw K H kp f Dl (i + 1) H3
    refine ⟨p1, p2.trans e3, acc, e3 Dl _ p3, ?_, ?_⟩
    · rw [gv_succ, if_neg (by rw [hf]; decide), List.append_nil]
      exact L2.DpAll.mono e3 p4
    · rw [gv_succ, if_neg (by rw [hf]; decide), List.append_nil]
      exact p5

theorem en_lcR1 {ta : TE} {j : Nat} {n : Int} (kp : Nat → Bool) (f : Nat → PyData) (h : Ei K ta σ H n) (hn : n ≤ 1000000) (hn0 : -1000000 ≤ n) (hw : ∀ x, wipe ((wipe σ vs).set j (some x)) vs = wipe σ vs)
    (hu : ∀ i : Nat, (i : Int) < n → kp i = true → tupO (f i) = true)
    (ht : ∀ (i : Nat) H1, Ex H H1 → (i : Int) < n → EvT tt ((wipe σ vs).set j (some (.int (i : Int)))) H1 (kp i)) (he : ∀ (i : Nat) H1, Ex H H1 → (i : Int) < n → kp i = true → Ed K te ((wipe σ vs).set j (some (.int (i : Int)))) H1 (f i)) :
    En K (tLc (iRng1 (tCons ta tNil)) (gName j) tt te vs) σ H (gv kp f n.toNat) := fun H0 e Q q => h H0 e _ fun v H1 e1 hv => by
  cases L2.Dp.int_inv hv
  refine ⟨n, rfl, by omega, by omega, fun Dl hD => lc_range (lo := 0) (n := n.toNat) (Lw K H1 kp f Dl) ⟨hD, Ex.new hD, [], upd_same, .nil, rfl⟩ (fun i H' hi p => ?_) (fun H' p => ?_)⟩
  · have e0 : (0 : Int) + (i : Int) = (i : Int) := Int.zero_add _
    show wipe ((wipe σ vs).set j (some (.int ((0 : Int) + (i : Int))))) vs = wipe σ vs ∧ tt ((wipe σ vs).set j (some (.int ((0 : Int) + (i : Int))))) H' _
    rw [e0]
    have hx : Ex H H' := (e.trans e1).trans p.2.1
    exact ⟨hw _, lw_turn p (by omega) p.2.1 (ht i H' hx (by omega)) (fun hf => he i H' hx (by omega) hf) (fun hf => hu i (by omega) hf)⟩
  · obtain ⟨p1, p2, acc, p3, p4, _⟩ := p
    exact q Dl acc H' (fresh_back e1 p1) (e1.trans p2) p3 p4

def Bnd (K : PySem.W.Frag) (g : TG) (σ : L2.St) (vs : List Nat) (tt : TT) (te : TE) (v : V) (H : Hp) (k : Bool) (d : PyData) : Prop := g v (wipe σ vs) H fun σ2 H2 => wipe σ2 vs = wipe σ vs ∧ H2 = H ∧ EvT tt σ2 H k ∧ (k = true → Ed K te σ2 H d)
theorem lw_bnd {kp : Nat → Bool} {f : Nat → PyData} {Dl : Addr} {i : Nat} {v : V} (hg : ∀ (v : V) (σ : L2.St) (H : Hp) (Q Q' : L2.St → Hp → Prop), (∀ σ' H', Q σ' H' → Q' σ' H') → g v σ H Q → g v σ H Q') (p : Lw K H kp f Dl i H') (hi : i < 1000000) (hb : Bnd K g σ vs tt te v H' (kp i) (f i)) (hu : kp i = true → tupO (f i) = true) :
    g v (wipe σ vs) H' fun σ2 H2 => wipe σ2 vs = wipe σ vs ∧ tt σ2 H2 fun b H3 => if b = true then te σ2 H3 fun y H4 => ∃ acc, H4 Dl = some (.lst acc) ∧ acc.length < sizeLine ∧ Lw K H kp f Dl (i + 1) (upd H4 Dl (.lst (acc ++ [y]))) else Lw K H kp f Dl (i + 1) H3 := by
  refine hg _ _ _ _ _ (fun σ2 H2 z => ?_) hb
  obtain ⟨z1, rfl, z3, z4⟩ := z
  exact ⟨z1, lw_turn p hi p.2.1 z3 z4 hu⟩
theorem gname_mono {j : Nat} : ∀ (v : V) (σ : L2.St) (H : Hp) (Q Q' : L2.St → Hp → Prop), (∀ σ' H', Q σ' H' → Q' σ' H') → gName j v σ H Q → gName j v σ H Q' := fun _ _ _ _ _ h q => h _ _ q
theorem en_lcL {tl : TE} (hg : ∀ (v : V) (σ : L2.St) (H : Hp) (Q Q' : L2.St → Hp → Prop), (∀ σ' H', Q σ' H' → Q' σ' H') → g v σ H Q → g v σ H Q') (kp : Nat → Bool) (f : Nat → PyData) (h : Ed K tl σ H (.list es)) (hz : es.length ≤ 1000000)
    (hu : ∀ i, i < es.length → kp i = true → tupO (f i) = true)
    (hb : ∀ (i : Nat) (x : PyData) (v : V) H1, Ex H H1 → es[i]? = some x → Dp K H1 v x → Bnd K g σ vs tt te v H1 (kp i) (f i)) :
    En K (tLc (iList K tl) g tt te vs) σ H (gv kp f es.length) := fun H0 e Q q => h H0 e _ fun v H1 e1 hv => by
  obtain ⟨a, xs, rfl, hs, hd⟩ := L2.Dp.list_inv hv
  refine ⟨a, rfl, ⟨xs, hs⟩, fun Dl hD => lc_list (xs := xs) (Lw K H1 kp f Dl) ⟨hD, Ex.new hD, [], upd_same, .nil, rfl⟩ (fun i H' _ p => ex_l p.2.1 hs) (fun i x H' hi p => ?_) (fun H' p => ?_)⟩
  · obtain ⟨d, h1, h2⟩ := L2.DpAll.get (L2.DpAll.mono p.2.1 hd) hi
    have hl : i < es.length := (List.getElem?_eq_some_iff.mp h1).1
    exact lw_bnd hg p (by omega) (hb i d x H' ((e.trans e1).trans p.2.1) h1 h2) (fun hf => hu i hl hf)
  · obtain ⟨p1, p2, acc, p3, p4, _⟩ := p
    rw [L2.DpAll.length hd] at p4
    exact q Dl acc H' (fresh_back e1 p1) (e1.trans p2) p3 p4
theorem en_lcT {tl : TE} (hg : ∀ (v : V) (σ : L2.St) (H : Hp) (Q Q' : L2.St → Hp → Prop), (∀ σ' H', Q σ' H' → Q' σ' H') → g v σ H Q → g v σ H Q') (kp : Nat → Bool) (f : Nat → PyData) (h : Ed K tl σ H (.tuple es)) (hz : es.length ≤ 1000000)
    (hu : ∀ i, i < es.length → kp i = true → tupO (f i) = true)
    (hb : ∀ (i : Nat) (x : PyData) (v : V) H1, Ex H H1 → es[i]? = some x → Dp K H1 v x → Bnd K g σ vs tt te v H1 (kp i) (f i)) :
    En K (tLc (iTup K tl) g tt te vs) σ H (gv kp f es.length) := fun H0 e Q q => h H0 e _ fun v H1 e1 hv => by
  obtain ⟨a, xs, rfl, hs, hd⟩ := L2.Dp.tup_inv hv
  refine ⟨a, rfl, ⟨xs, hs⟩, fun Dl hD => lc_tup (xs := xs) (Lw K H1 kp f Dl) ⟨hD, Ex.new hD, [], upd_same, .nil, rfl⟩ (fun i H' _ p => ex_t p.2.1 hs) (fun i x H' hi p => ?_) (fun H' p => ?_)⟩
  · obtain ⟨d, h1, h2⟩ := L2.DpAll.get (L2.DpAll.mono p.2.1 hd) hi
    have hl : i < es.length := (List.getElem?_eq_some_iff.mp h1).1
    exact lw_bnd hg p (by omega) (hb i d x H' ((e.trans e1).trans p.2.1) h1 h2) (fun hf => hu i hl hf)
  · obtain ⟨p1, p2, acc, p3, p4, _⟩ := p
    rw [L2.DpAll.length hd] at p4
    exact q Dl acc H' (fresh_back e1 p1) (e1.trans p2) p3 p4

theorem gv_map {f : Nat → PyData} {φ : PyData → PyData} (h : ∀ i x, es[i]? = some x → f i = φ x) : gv (fun _ => true) f es.length = es.map φ := by
  unfold gv
  rw [List.filter_eq_self.mpr (fun _ _ => rfl)]
  apply List.ext_getElem
  · simp
  · intro i h1 h2
    simp only [List.getElem_map, List.getElem_range]
    have hl : i < es.length := by simpa using h2
    exact h i _ (List.getElem?_eq_getElem hl)
theorem gv_filter {kp : Nat → Bool} {f : Nat → PyData} {κ : PyData → Bool} {φ : PyData → PyData} : ∀ (es : List PyData), (∀ i x, es[i]? = some x → kp i = κ x ∧ f i = φ x) → gv kp f es.length = (es.filter κ).map φ := by
  intro es
  have key : ∀ n, n ≤ es.length → (∀ i x, es[i]? = some x → kp i = κ x ∧ f i = φ x) → gv kp f n = ((es.take n).filter κ).map φ := by
    intro n
    induction n with
    | zero => intro _ _; simp [gv]
    | succ n ih =>
      intro hn h
      have hl : n < es.length := by omega
      obtain ⟨h1, h2⟩ := h n _ (List.getElem?_eq_getElem hl)
      rw [gv_succ, ih (by omega) h, List.take_add_one, List.getElem?_eq_getElem hl, List.filter_append, List.map_append, h1, h2]
      congr 1
      by_cases z : κ es[n] = true
      · rw [if_pos z]; simp [z]
      · rw [if_neg z]; simp [z]
  intro h
  rw [key es.length (Nat.le_refl _) h, List.take_length]
theorem en_mapL {j : Nat} (φ : PyData → PyData) (h : Ed K tl σ H (.list es)) (hz : es.length ≤ 1000000) (hw : ∀ x, wipe ((wipe σ vs).set j (some x)) vs = wipe σ vs) (hu : ∀ x ∈ es, tupO (φ x) = true)
    (he : ∀ (x : PyData) (v : V) H1, x ∈ es → Ex H H1 → Dp K H1 v x → Ed K te ((wipe σ vs).set j (some v)) H1 (φ x)) : En K (tLc (iList K tl) (gName j) tYes te vs) σ H (es.map φ) := by
  have q := en_lcL (te := te) (tt := tYes) (vs := vs) (g := gName j) gname_mono (fun _ => true) (fun i => φ (es.getD i .none)) h hz (fun i hi _ => hu _ (by rw [List.getD_eq_getElem?_getD, List.getElem?_eq_getElem hi]; exact List.getElem_mem hi))
    (fun i x v H1 e1 hi hv => ⟨hw v, rfl, fun H2 _ Q q => q H2 (Ex.refl H2), fun _ => by
      have hx : es.getD i .none = x := by rw [List.getD_eq_getElem?_getD, hi]; rfl
      rw [hx]
      exact he x v H1 (List.mem_of_getElem? hi) e1 hv⟩)
  rw [gv_map (φ := φ) (fun i x hi => by rw [List.getD_eq_getElem?_getD, hi]; rfl)] at q
  exact q
theorem en_mapT {j : Nat} (φ : PyData → PyData) (h : Ed K tl σ H (.tuple es)) (hz : es.length ≤ 1000000) (hw : ∀ x, wipe ((wipe σ vs).set j (some x)) vs = wipe σ vs) (hu : ∀ x ∈ es, tupO (φ x) = true)
    (he : ∀ (x : PyData) (v : V) H1, x ∈ es → Ex H H1 → Dp K H1 v x → Ed K te ((wipe σ vs).set j (some v)) H1 (φ x)) : En K (tLc (iTup K tl) (gName j) tYes te vs) σ H (es.map φ) := by
  have q := en_lcT (te := te) (tt := tYes) (vs := vs) (g := gName j) gname_mono (fun _ => true) (fun i => φ (es.getD i .none)) h hz (fun i hi _ => hu _ (by rw [List.getD_eq_getElem?_getD, List.getElem?_eq_getElem hi]; exact List.getElem_mem hi))
    (fun i x v H1 e1 hi hv => ⟨hw v, rfl, fun H2 _ Q q => q H2 (Ex.refl H2), fun _ => by
      have hx : es.getD i .none = x := by rw [List.getD_eq_getElem?_getD, hi]; rfl
      rw [hx]
      exact he x v H1 (List.mem_of_getElem? hi) e1 hv⟩)
  rw [gv_map (φ := φ) (fun i x hi => by rw [List.getD_eq_getElem?_getD, hi]; rfl)] at q
  exact q
theorem en_mapR {j : Nat} (φ : Nat → PyData) (h : Ei K ta σ H n) (hn : n ≤ 1000000) (hn0 : -1000000 ≤ n) (hw : ∀ x, wipe ((wipe σ vs).set j (some x)) vs = wipe σ vs) (hu : ∀ i : Nat, (i : Int) < n → tupO (φ i) = true)
    (he : ∀ (i : Nat) H1, (i : Int) < n → Ex H H1 → Ed K te ((wipe σ vs).set j (some (.int (i : Int)))) H1 (φ i)) : En K (tLc (iRng1 (tCons ta tNil)) (gName j) tYes te vs) σ H ((List.range n.toNat).map φ) := by
  have q := en_lcR1 (te := te) (tt := tYes) (vs := vs) (fun _ => true) φ h hn hn0 hw (fun i hi _ => hu i hi) (fun i H1 _ _ H2 _ Q q => q H2 (Ex.refl H2)) (fun i H1 e1 hi _ => he i H1 hi e1)
  have e : gv (fun _ => true) φ n.toNat = (List.range n.toNat).map φ := by
    unfold gv
    rw [List.filter_eq_self.mpr (fun _ _ => rfl)]
  rw [e] at q
  exact q
end


section
variable {K : PySem.W.Frag} {σ : L2.St} {H H' : Hp} {ta tb tc te tl : TE} {t : TT} {tu tw : TS} {D : Ends} {g : TG} {vs : List Nat} {n m : Int} {ds es : List PyData} {d : PyData} {a : Av} {i : Nat}
theorem seq (h : tu { D with nx := tw D } σ H) : tSeq tu tw D σ H := h
theorem s_set (h : Eg K te σ H a) (k : ∀ v H1, Ex H H1 → Rl K H1 v a → D.nx (σ.set i (some v)) H1) : tAsg te (gName i) D σ H := h H (Ex.refl H) _ fun v H1 e r => k v H1 e r
theorem s_seti (h : Ei K te σ H n) (k : ∀ H1, Ex H H1 → D.nx (σ.set i (some (.int n))) H1) : tAsg te (gName i) D σ H := s_set h fun v H1 e r => by cases L2.Dp.int_inv r; exact k H1 e
theorem s_setb {b : Bool} (h : Eb K te σ H b) (k : ∀ H1, Ex H H1 → D.nx (σ.set i (some (.bl b))) H1) : tAsg te (gName i) D σ H := s_set h fun v H1 e r => by cases L2.Dp.bl_inv r; exact k H1 e
theorem s_setN (h : En K te σ H ds) (k : ∀ p xs H1, H p = none → Ex H H1 → H1 p = some (.lst xs) → DpAll K H1 xs ds → D.nx (σ.set i (some (.ref p))) H1) : tAsg te (gName i) D σ H := h H (Ex.refl H) _ fun p xs H1 hp e hx hd => k p xs H1 hp e hx hd
theorem s_ret (h : Eg K te σ H a) (k : ∀ v H1, Ex H H1 → Rl K H1 v a → D.rt v H1) : tRet te D σ H := h H (Ex.refl H) _ fun v H1 e r => k v H1 e r
theorem s_retN (h : En K te σ H ds) (k : ∀ p xs H1, H p = none → Ex H H1 → H1 p = some (.lst xs) → DpAll K H1 xs ds → D.rt (.ref p) H1) : tRet te D σ H := h H (Ex.refl H) _ fun p xs H1 hp e hx hd => k p xs H1 hp e hx hd
theorem s_drop (h : Eg K te σ H a) (k : ∀ H1, Ex H H1 → D.nx σ H1) : tDrop te D σ H := h H (Ex.refl H) _ fun _ H1 e _ => k H1 e

theorem s_if {b : Bool} (h : EvT t σ H b) (h1 : b = true → ∀ H1, Ex H H1 → tu D σ H1) (h2 : b = false → ∀ H1, Ex H H1 → tw D σ H1) : tIfS t tu tw D σ H := Evl.s_if h h1 h2

theorem s_when {b : Bool} (h : EvT t σ H b) (h1 : b = true → ∀ H1, Ex H H1 → tu D σ H1) (h2 : b = false → ∀ H1, Ex H H1 → D.nx σ H1) : tIfS t tu tNext D σ H := Evl.s_if h h1 h2
theorem s_aug {op : Int → Int → Int} {x y : Int} (hx : σ[i]? = some (some (.int x))) (h : Ei K te σ H y) (k : ∀ H1, Ex H H1 → D.nx (σ.set i (some (.int (op x y)))) H1) : tAug i te (ipI op) D σ H :=
  ⟨.int x, hx, h H (Ex.refl H) _ fun v H1 e hv => by cases L2.Dp.int_inv hv; exact ⟨x, y, rfl, rfl, k H1 e⟩⟩

theorem s_app {p : Addr} {xs : List V} (ho : Eg K ta σ H (.v (.ref p))) (hp : H p = some (.lst xs)) (hz : xs.length < 1000000) (h : Eg K te σ H a)
    (k : ∀ v H1, Ex H H1 → Rl K H1 v a → D.nx σ (upd H1 p (.lst (xs ++ [v])))) : tDrop (tBM K "list" rAppend ta (tCons te tNil)) D σ H := ho H (Ex.refl H) _ fun v H1 e1 hv => by
  cases hv
  refine ⟨Or.inl ⟨rfl, xs, sq_of (e1 p _ hp)⟩, h H1 e1 _ fun w H2 e2 r => ⟨p, xs, w, rfl, rfl, e2 p _ (e1 p _ hp), szl hz, k w H2 (e1.trans e2) r⟩⟩

theorem s_putL {p : Addr} {xs : List V} {j : Nat} (h : Eg K te σ H a) (ho : Eg K ta σ H (.v (.ref p))) (hp : H p = some (.lst xs)) (hi : Ei K tb σ H n) (hj : n = (j : Int)) (hl : j < xs.length)
    (k : ∀ v H1, Ex H H1 → Rl K H1 v a → D.nx σ (upd H1 p (.lst (xs.set j v)))) : tAsg te (gSub ta tb rSetL) D σ H := h H (Ex.refl H) _ fun v H1 e1 r => ho H1 e1 _ fun w H2 e2 hw => hi H2 (e1.trans e2) _ fun x H3 e3 hx => by
  cases hw
  cases L2.Dp.int_inv hx
  subst hj
  exact ⟨p, xs, (j : Int), j, rfl, rfl, ((e1.trans e2).trans e3) p _ hp, ixN_nat hl, k v H3 ((e1.trans e2).trans e3) (r.mono (e2.trans e3))⟩

theorem s_setPop {p : Addr} {xs : List V} {j : Nat} {v : V} (ho : Eg K ta σ H (.v (.ref p))) (hp : H p = some (.lst xs)) (hi : Ei K tb σ H n) (hj : n = (j : Int)) (hs : j < 1000000) (hv : xs[j]? = some v)
    (k : ∀ H1, Ex H H1 → D.nx (σ.set i (some v)) (upd H1 p (.lst (xs.eraseIdx j)))) : tAsg (tBM K "list" rPopAt ta (tCons tb tNil)) (gName i) D σ H := ho H (Ex.refl H) _ fun w H1 e1 hw => by
  cases hw
  refine ⟨Or.inl ⟨rfl, xs, sq_of (e1 p _ hp)⟩, hi H1 e1 _ fun y H2 e2 hy => ?_⟩
  cases L2.Dp.int_inv hy
  have hl : j < xs.length := (List.getElem?_eq_some_iff.mp hv).1
  have q := (ixN_seq (n := xs.length) (i := n) (j := j) (by rw [hj]; exact ixN_nat hl)).1
  exact ⟨p, xs, n, j, v, rfl, rfl, e2 p _ (e1 p _ hp), by omega, by omega, q, hv, k H2 (e1.trans e2)⟩

theorem s_parNN {j : Nat} (h1 : En K ta σ H ds) (h2 : En K tb σ H es) (k : ∀ p xs q ys H1, H p = none → H q = none → p ≠ q → Ex H H1 → H1 p = some (.lst xs) → H1 q = some (.lst ys) → DpAll K H1 xs ds → DpAll K H1 ys es → D.nx ((σ.set i (some (.ref p))).set j (some (.ref q))) H1) :
    tPar i j (tCons ta (tCons tb tNil)) D σ H := h1 H (Ex.refl H) _ fun p xs H1 hp e1 hx hd => h2 H1 e1 _ fun q ys H2 hq e2 hy hd2 =>
  ⟨_, _, rfl, k p xs q ys H2 hp (fresh_back e1 hq) (ne_of_none hx hq) (e1.trans e2) (e2 _ _ hx) hy (L2.DpAll.mono e2 hd) hd2⟩
theorem s_parGG {j : Nat} {b : Av} (h1 : Eg K ta σ H a) (h2 : Eg K tb σ H b) (k : ∀ v w H1, Ex H H1 → Rl K H1 v a → Rl K H1 w b → D.nx ((σ.set i (some v)).set j (some w)) H1) :
    tPar i j (tCons ta (tCons tb tNil)) D σ H := h1 H (Ex.refl H) _ fun v H1 e1 r => h2 H1 e1 _ fun w H2 e2 r2 => ⟨_, _, rfl, k v w H2 (e1.trans e2) (r.mono e2) r2⟩
theorem s_parNG {j : Nat} {b : Av} (h1 : En K ta σ H ds) (h2 : Eg K tb σ H b) (k : ∀ p xs w H1, H p = none → Ex H H1 → H1 p = some (.lst xs) → DpAll K H1 xs ds → Rl K H1 w b → D.nx ((σ.set i (some (.ref p))).set j (some w)) H1) :
    tPar i j (tCons ta (tCons tb tNil)) D σ H := h1 H (Ex.refl H) _ fun p xs H1 hp e1 hx hd => h2 H1 e1 _ fun w H2 e2 r2 => ⟨_, _, rfl, k p xs w H2 hp (e1.trans e2) (e2 _ _ hx) (L2.DpAll.mono e2 hd) r2⟩

def Loop (J : It) (g : TG) (tb : TS) (D : Ends) (σ : L2.St) (H : Hp) : Prop := ∃ W : Nat → Nat → L2.St → Hp → Prop, (∃ m, W 0 m σ H) ∧ ∀ i m σ H, W i m σ H →
  (J.stop i H ∧ D.nx σ H) ∨ (J.go i H ∧ ∃ N : L2.St → Hp → Prop, (∀ σ' H', N σ' H' → ∃ m', m' < m ∧ W (i + 1) m' σ' H') ∧ ∀ x H', J.yld i H x H' → g x σ H' fun σ2 H2 => tb { D with nx := N, ct := N, bk := D.nx } σ2 H2)
theorem s_forL (h : Ed K tl σ H (.list es)) (k : ∀ p xs H1, Ex H H1 → SqL K H1 p xs → DpAll K H1 xs es → Loop (Itl K p) g tu D σ H1) : tFor (iList K tl) g tu D σ H := h H (Ex.refl H) _ fun v H1 e hv => by
  obtain ⟨p, xs, rfl, hs, hd⟩ := L2.Dp.list_inv hv
  exact ⟨p, rfl, ⟨xs, hs⟩, k p xs H1 e hs hd⟩
theorem s_forNL (h : En K tl σ H es) (k : ∀ p xs H1, H p = none → Ex H H1 → H1 p = some (.lst xs) → DpAll K H1 xs es → Loop (Itl K p) g tu D σ H1) : tFor (iList K tl) g tu D σ H := h H (Ex.refl H) _ fun p xs H1 hp e hx hd =>
  ⟨p, rfl, ⟨xs, sq_of hx⟩, k p xs H1 hp e hx hd⟩
theorem s_forT (h : Ed K tl σ H (.tuple es)) (k : ∀ p xs H1, Ex H H1 → SqT K H1 p xs → DpAll K H1 xs es → Loop (Itt K p) g tu D σ H1) : tFor (iTup K tl) g tu D σ H := h H (Ex.refl H) _ fun v H1 e hv => by
  obtain ⟨p, xs, rfl, hs, hd⟩ := L2.Dp.tup_inv hv
  exact ⟨p, rfl, ⟨xs, hs⟩, k p xs H1 e hs hd⟩
theorem s_forR1 (h : Ei K ta σ H n) (hn : n ≤ 1000000000) (hn0 : -1000000000 ≤ n) (k : ∀ H1, Ex H H1 → Loop (Itr 0 n.toNat) g tu D σ H1) : tFor (iRng1 (tCons ta tNil)) g tu D σ H := h H (Ex.refl H) _ fun v H1 e hv => by
  cases L2.Dp.int_inv hv
  exact ⟨n, rfl, by omega, by omega, k H1 e⟩
theorem s_forR2 (h : Ei K ta σ H n) (h' : Ei K tb σ H m) (hn : n ≤ 1000000000) (hn0 : -1000000000 ≤ n) (hm : m ≤ 1000000000) (hm0 : -1000000000 ≤ m) (k : ∀ H1, Ex H H1 → Loop (Itr n (m - n).toNat) g tu D σ H1) :
    tFor (iRng2 (tCons ta (tCons tb tNil))) g tu D σ H := h H (Ex.refl H) _ fun v H1 e hv => h' H1 e _ fun w H2 e2 hw => by
  cases L2.Dp.int_inv hv
  cases L2.Dp.int_inv hw
  exact ⟨n, m, rfl, ⟨by omega, by omega, by omega, by omega⟩, k H2 (e.trans e2)⟩

theorem loop_range {n : Nat} {j : Nat} (Pv : Nat → L2.St → Hp → Prop) (h0 : Pv 0 σ H)
    (hs : ∀ (i : Nat) σ H, i < n → Pv i σ H → tu { D with nx := Pv (i + 1), ct := Pv (i + 1), bk := D.nx } (σ.set j (some (.int (i : Int)))) H) (hd : ∀ σ H, Pv n σ H → D.nx σ H) : Loop (Itr 0 n) (gName j) tu D σ H :=
  for_range (lo := 0) (n := n) Pv h0 (fun i σ H hi p => by
    have e0 : (0 : Int) + (i : Int) = (i : Int) := Int.zero_add _
    show tu _ (σ.set j (some (.int ((0 : Int) + (i : Int))))) H
    rw [e0]
    exact hs i σ H hi p) hd
theorem loop_range2 {lo : Int} {n : Nat} {j : Nat} (Pv : Nat → L2.St → Hp → Prop) (h0 : Pv 0 σ H)
    (hs : ∀ (i : Nat) σ H, i < n → Pv i σ H → tu { D with nx := Pv (i + 1), ct := Pv (i + 1), bk := D.nx } (σ.set j (some (.int (lo + (i : Int))))) H) (hd : ∀ σ H, Pv n σ H → D.nx σ H) : Loop (Itr lo n) (gName j) tu D σ H :=
  for_range (lo := lo) (n := n) Pv h0 hs hd
theorem loop_list {p : Addr} {xs : List V} {j : Nat} (Pv : Nat → L2.St → Hp → Prop) (h0 : Pv 0 σ H) (hl : ∀ i σ H, i ≤ xs.length → Pv i σ H → SqL K H p xs)
    (hs : ∀ (i : Nat) x σ H, xs[i]? = some x → Pv i σ H → tu { D with nx := Pv (i + 1), ct := Pv (i + 1), bk := D.nx } (σ.set j (some x)) H) (hd : ∀ σ H, Pv xs.length σ H → D.nx σ H) : Loop (Itl K p) (gName j) tu D σ H :=
  for_list Pv h0 hl hs hd
theorem loop_tup {p : Addr} {xs : List V} {j : Nat} (Pv : Nat → L2.St → Hp → Prop) (h0 : Pv 0 σ H) (hl : ∀ i σ H, i ≤ xs.length → Pv i σ H → SqT K H p xs)
    (hs : ∀ (i : Nat) x σ H, xs[i]? = some x → Pv i σ H → tu { D with nx := Pv (i + 1), ct := Pv (i + 1), bk := D.nx } (σ.set j (some x)) H) (hd : ∀ σ H, Pv xs.length σ H → D.nx σ H) : Loop (Itt K p) (gName j) tu D σ H :=
  for_tup Pv h0 hl hs hd
theorem s_while (W : Nat → L2.St → Hp → Prop) (m0 : Nat) (h0 : W m0 σ H)
    (hs : ∀ m σ' H', W m σ' H' → ∃ b, EvT t σ' H' b ∧ (b = true → ∀ H1, Ex H' H1 → ∃ N : L2.St → Hp → Prop, (∀ σ2 H2, N σ2 H2 → ∃ m', m' < m ∧ W m' σ2 H2) ∧ tu { D with nx := N, ct := N, bk := D.nx } σ' H1) ∧ (b = false → ∀ H1, Ex H' H1 → D.nx σ' H1)) :
    tWhile t tu D σ H := Evl.s_while W m0 h0 hs


section
variable {K : PySem.W.Frag} {σ : L2.St} {H H' : Hp} {ta tb tc te tl : TE} {t : TT} {tu tw tz : TS} {D : Ends} {g : TG} {vs : List Nat} {n m : Int} {ds es : List PyData} {d : PyData} {a : Av} {i : Nat}
theorem q_set (h : Eg K te σ H a) (k : ∀ v H1, Ex H H1 → Rl K H1 v a → tz D (σ.set i (some v)) H1) : tSeq (tAsg te (gName i)) tz D σ H := s_set (D := { D with nx := tz D }) h k
theorem q_seti (h : Ei K te σ H n) (k : ∀ H1, Ex H H1 → tz D (σ.set i (some (.int n))) H1) : tSeq (tAsg te (gName i)) tz D σ H := s_seti (D := { D with nx := tz D }) h k
theorem q_setb {b : Bool} (h : Eb K te σ H b) (k : ∀ H1, Ex H H1 → tz D (σ.set i (some (.bl b))) H1) : tSeq (tAsg te (gName i)) tz D σ H := s_setb (D := { D with nx := tz D }) h k
theorem q_setN (h : En K te σ H ds) (k : ∀ p xs H1, H p = none → Ex H H1 → H1 p = some (.lst xs) → DpAll K H1 xs ds → tz D (σ.set i (some (.ref p))) H1) : tSeq (tAsg te (gName i)) tz D σ H := s_setN (D := { D with nx := tz D }) h k
theorem q_drop (h : Eg K te σ H a) (k : ∀ H1, Ex H H1 → tz D σ H1) : tSeq (tDrop te) tz D σ H := s_drop (D := { D with nx := tz D }) h k
theorem q_if {b : Bool} (h : EvT t σ H b) (h1 : b = true → ∀ H1, Ex H H1 → tu { D with nx := tz D } σ H1) (h2 : b = false → ∀ H1, Ex H H1 → tw { D with nx := tz D } σ H1) : tSeq (tIfS t tu tw) tz D σ H := s_if (D := { D with nx := tz D }) h h1 h2
theorem q_when {b : Bool} (h : EvT t σ H b) (h1 : b = true → ∀ H1, Ex H H1 → tu { D with nx := tz D } σ H1) (h2 : b = false → ∀ H1, Ex H H1 → tz D σ H1) : tSeq (tIfS t tu tNext) tz D σ H := s_when (D := { D with nx := tz D }) h h1 h2
theorem q_app {p : Addr} {xs : List V} (ho : Eg K ta σ H (.v (.ref p))) (hp : H p = some (.lst xs)) (hz : xs.length < 1000000) (h : Eg K te σ H a)
    (k : ∀ v H1, Ex H H1 → Rl K H1 v a → tz D σ (upd H1 p (.lst (xs ++ [v])))) : tSeq (tDrop (tBM K "list" rAppend ta (tCons te tNil))) tz D σ H := s_app (D := { D with nx := tz D }) ho hp hz h k
theorem q_putL {p : Addr} {xs : List V} {j : Nat} (h : Eg K te σ H a) (ho : Eg K ta σ H (.v (.ref p))) (hp : H p = some (.lst xs)) (hi : Ei K tb σ H n) (hj : n = (j : Int)) (hl : j < xs.length)
    (k : ∀ v H1, Ex H H1 → Rl K H1 v a → tz D σ (upd H1 p (.lst (xs.set j v)))) : tSeq (tAsg te (gSub ta tb rSetL)) tz D σ H := s_putL (D := { D with nx := tz D }) h ho hp hi hj hl k
theorem q_setPop {p : Addr} {xs : List V} {j : Nat} {v : V} (ho : Eg K ta σ H (.v (.ref p))) (hp : H p = some (.lst xs)) (hi : Ei K tb σ H n) (hj : n = (j : Int)) (hs : j < 1000000) (hv : xs[j]? = some v)
    (k : ∀ H1, Ex H H1 → tz D (σ.set i (some v)) (upd H1 p (.lst (xs.eraseIdx j)))) : tSeq (tAsg (tBM K "list" rPopAt ta (tCons tb tNil)) (gName i)) tz D σ H := s_setPop (D := { D with nx := tz D }) ho hp hi hj hs hv k
theorem q_parNN {j : Nat} (h1 : En K ta σ H ds) (h2 : En K tb σ H es) (k : ∀ p xs q ys H1, H p = none → H q = none → p ≠ q → Ex H H1 → H1 p = some (.lst xs) → H1 q = some (.lst ys) → DpAll K H1 xs ds → DpAll K H1 ys es → tz D ((σ.set i (some (.ref p))).set j (some (.ref q))) H1) :
    tSeq (tPar i j (tCons ta (tCons tb tNil))) tz D σ H := s_parNN (D := { D with nx := tz D }) h1 h2 k
theorem q_parGG {j : Nat} {b : Av} (h1 : Eg K ta σ H a) (h2 : Eg K tb σ H b) (k : ∀ v w H1, Ex H H1 → Rl K H1 v a → Rl K H1 w b → tz D ((σ.set i (some v)).set j (some w)) H1) :
    tSeq (tPar i j (tCons ta (tCons tb tNil))) tz D σ H := s_parGG (D := { D with nx := tz D }) h1 h2 k
theorem q_parNG {j : Nat} {b : Av} (h1 : En K ta σ H ds) (h2 : Eg K tb σ H b) (k : ∀ p xs w H1, H p = none → Ex H H1 → H1 p = some (.lst xs) → DpAll K H1 xs ds → Rl K H1 w b → tz D ((σ.set i (some (.ref p))).set j (some w)) H1) :
    tSeq (tPar i j (tCons ta (tCons tb tNil))) tz D σ H := s_parNG (D := { D with nx := tz D }) h1 h2 k
theorem q_forL (h : Ed K tl σ H (.list es)) (k : ∀ p xs H1, Ex H H1 → SqL K H1 p xs → DpAll K H1 xs es → Loop (Itl K p) g tu { D with nx := tz D } σ H1) : tSeq (tFor (iList K tl) g tu) tz D σ H := s_forL (D := { D with nx := tz D }) h k
theorem q_forNL (h : En K tl σ H es) (k : ∀ p xs H1, H p = none → Ex H H1 → H1 p = some (.lst xs) → DpAll K H1 xs es → Loop (Itl K p) g tu { D with nx := tz D } σ H1) : tSeq (tFor (iList K tl) g tu) tz D σ H := s_forNL (D := { D with nx := tz D }) h k
theorem q_forT (h : Ed K tl σ H (.tuple es)) (k : ∀ p xs H1, Ex H H1 → SqT K H1 p xs → DpAll K H1 xs es → Loop (Itt K p) g tu { D with nx := tz D } σ H1) : tSeq (tFor (iTup K tl) g tu) tz D σ H := s_forT (D := { D with nx := tz D }) h k
theorem q_forR1 (h : Ei K ta σ H n) (hn : n ≤ 1000000000) (hn0 : -1000000000 ≤ n) (k : ∀ H1, Ex H H1 → Loop (Itr 0 n.toNat) g tu { D with nx := tz D } σ H1) : tSeq (tFor (iRng1 (tCons ta tNil)) g tu) tz D σ H := s_forR1 (D := { D with nx := tz D }) h hn hn0 k
theorem q_forR2 (h : Ei K ta σ H n) (h' : Ei K tb σ H m) (hn : n ≤ 1000000000) (hn0 : -1000000000 ≤ n) (hm : m ≤ 1000000000) (hm0 : -1000000000 ≤ m) (k : ∀ H1, Ex H H1 → Loop (Itr n (m - n).toNat) g tu { D with nx := tz D } σ H1) : tSeq (tFor (iRng2 (tCons ta (tCons tb tNil))) g tu) tz D σ H := s_forR2 (D := { D with nx := tz D }) h h' hn hn0 hm hm0 k
theorem q_while (W : Nat → L2.St → Hp → Prop) (m0 : Nat) (h0 : W m0 σ H)
    (hs : ∀ m σ' H', W m σ' H' → ∃ b, EvT t σ' H' b ∧ (b = true → ∀ H1, Ex H' H1 → ∃ N : L2.St → Hp → Prop, (∀ σ2 H2, N σ2 H2 → ∃ m', m' < m ∧ W m' σ2 H2) ∧ tu { D with nx := N, ct := N, bk := tz D } σ' H1) ∧ (b = false → ∀ H1, Ex H' H1 → tz D σ' H1)) : tSeq (tWhile t tu) tz D σ H := s_while (D := { D with nx := tz D }) W m0 h0 hs

theorem nx {f : L2.St → Hp → Prop} {r : VK} {b c : L2.St → Hp → Prop} (h : f σ H) : ({ nx := f, rt := r, bk := b, ct := c } : Ends).nx σ H := h

theorem q_skip (h : EvT t σ H false) (k : ∀ H1, Ex H H1 → tz D σ H1) : tSeq (tIfS t tu tNext) tz D σ H := q_when h (fun z => nomatch z) fun _ H1 e => k H1 e
theorem s_skip (h : EvT t σ H false) (k : ∀ H1, Ex H H1 → D.nx σ H1) : tIfS t tu tNext D σ H := s_when h (fun z => nomatch z) fun _ H1 e => k H1 e

theorem q_each {j : Nat} (h : Ed K tl σ H (.list es)) (hs : ∀ (x : PyData) (v : V) H1 (N : L2.St → Hp → Prop), x ∈ es → Ex H H1 → Dp K H1 v x → (∀ H', Ex H1 H' → N (σ.set j (some v)) H') → tu { D with nx := N, ct := N, bk := tz D } (σ.set j (some v)) H1)
    (k : ∀ w H1, Ex H H1 → tz D (σ.set j w) H1) : tSeq (tFor (iList K tl) (gName j) tu) tz D σ H := q_forL h fun p xs H1 e hsq hd =>
  loop_list (Pv := fun _ σ' H' => Ex H1 H' ∧ ∃ w, σ' = σ.set j w) ⟨Ex.refl H1, (σ[j]?).getD none, by
    apply List.ext_getElem?
    intro i
    by_cases hi : j = i
    · subst hi
      by_cases hl : j < σ.length
      · rw [List.getElem?_set_self hl, List.getElem?_eq_getElem hl]; rfl
      · rw [List.getElem?_eq_none (by omega), List.getElem?_eq_none (by rw [List.length_set]; omega)]
    · rw [List.getElem?_set_ne hi]⟩ (fun _ _ _ _ q => ex_l q.1 hsq) (fun i x σ' H' hi q => by
    obtain ⟨e1, w, rfl⟩ := q
    rw [List.set_set]
    obtain ⟨d, h1, h2⟩ := L2.DpAll.get hd hi
    exact hs d x H' _ (List.mem_of_getElem? h1) (e.trans e1) (L2.Dp.mono e1 h2) fun H2 e2 => ⟨e1.trans e2, some x, rfl⟩) fun σ' H' q => by
    obtain ⟨e1, w, rfl⟩ := q
    exact nx (k w H' (e.trans e1))
end



abbrev RetD (K : PySem.W.Frag) (H : Hp) (Q : VK) (d : PyData) : Prop := ∀ v H', Ex H H' → Dp K H' v d → Q v H'
abbrev RetN (K : PySem.W.Frag) (H : Hp) (Q : VK) (ds : List PyData) : Prop := ∀ p xs H', H p = none → Ex H H' → H' p = some (.lst xs) → DpAll K H' xs ds → Q (.ref p) H'
abbrev Err (C : Addr) (H : Hp) (E : XK) : Prop := ∀ H', Ex H H' → E (.ref C) none H'
theorem RlA.one {v : V} {vs : List V} {a : Av} (h : RlA K H (v :: vs) [a]) : vs = [] ∧ Rl K H v a := by
  cases vs with
  | nil => exact ⟨rfl, h.1⟩
  | cons _ _ => exact h.2.elim
theorem ea_len {ta : TA} {as : List Av} : ∀ {vs : List V}, RlA K H vs as → vs.length = as.length := by
  induction as with
  | nil => intro vs h; cases vs with
    | nil => rfl
    | cons _ _ => exact h.elim
  | cons a as ih => intro vs h; cases vs with
    | nil => exact h.elim
    | cons v vs => simp [ih h.2]
section
variable {sp : Sp} {E : XK} {tr : TA} {as : List Av} {C p dx : Addr} {fs : List (Str × V)} {f m : Str}
theorem ed_call (ha : Ea K tr σ H as) (hs : ∀ vs H1, Ex H H1 → RlA K H1 vs as → ∀ Q : VK, RetD K H1 Q d → sp vs H1 Q E) : Ed K (tCall sp [] E tr) σ H d := fun H1 e Q q => ha H1 e _ fun vs H2 e2 r => by
  rw [List.append_nil]
  exact hs vs H2 (e.trans e2) r Q fun v H3 e3 hv => q v H3 (e2.trans e3) hv
theorem en_call (ha : Ea K tr σ H as) (hs : ∀ vs H1, Ex H H1 → RlA K H1 vs as → ∀ Q : VK, RetN K H1 Q ds → sp vs H1 Q E) : En K (tCall sp [] E tr) σ H ds := fun H1 e Q q => ha H1 e _ fun vs H2 e2 r => by
  rw [List.append_nil]
  exact hs vs H2 (e.trans e2) r Q fun l xs H3 hl e3 hx hd => q l xs H3 (fresh_back e2 hl) (e2.trans e3) hx hd
theorem ed_meth (ho : Eg K ta σ H (.v (.ref p))) (hp : H p = some (.ins C dx fs)) (hm : fs.lookup m = none) (ha : Ea K tr σ H as) (hs : ∀ vs H1, Ex H H1 → RlA K H1 vs as → ∀ Q : VK, RetD K H1 Q d → sp (.ref p :: vs) H1 Q E) :
    Ed K (tMeth C m sp [] E ta tr) σ H d := fun H1 e Q q => ho H1 e _ fun v H2 e2 hv => by
  cases hv
  refine ⟨p, dx, fs, rfl, e2 _ _ (e _ _ hp), hm, ha H2 (e.trans e2) _ fun vs H3 e3 r => ?_⟩
  rw [List.append_nil]
  exact hs vs H3 ((e.trans e2).trans e3) r Q fun v H4 e4 hv => q v H4 ((e2.trans e3).trans e4) hv
theorem en_meth (ho : Eg K ta σ H (.v (.ref p))) (hp : H p = some (.ins C dx fs)) (hm : fs.lookup m = none) (ha : Ea K tr σ H as) (hs : ∀ vs H1, Ex H H1 → RlA K H1 vs as → ∀ Q : VK, RetN K H1 Q ds → sp (.ref p :: vs) H1 Q E) :
    En K (tMeth C m sp [] E ta tr) σ H ds := fun H1 e Q q => ho H1 e _ fun v H2 e2 hv => by
  cases hv
  refine ⟨p, dx, fs, rfl, e2 _ _ (e _ _ hp), hm, ha H2 (e.trans e2) _ fun vs H3 e3 r => ?_⟩
  rw [List.append_nil]
  exact hs vs H3 ((e.trans e2).trans e3) r Q fun l xs H4 hl e4 hx hd => q l xs H4 (fresh_back (e2.trans e3) hl) ((e2.trans e3).trans e4) hx hd

theorem eg_fldP {P : V → Hp → Prop} {hm : ∀ v H H', Ex H H' → P v H → P v H'} (ho : Eg K ta σ H (.p P hm)) (c : Cls K C) (hn : NoAttr K C f) (h : ∀ v H1, P v H1 → ∃ q dq gs x, v = .ref q ∧ H1 q = some (.ins C dq gs) ∧ gs.lookup f = some x ∧ Rl K H1 x a) :
    Eg K (tFld K ta f) σ H a := fun H1 e Q q => ho H1 e _ fun v H2 e2 hv => by
  obtain ⟨o, dq, gs, x, rfl, h1, h2, h3⟩ := h v H2 hv
  exact ⟨o, C, dq, gs, x, rfl, h1, c, hn, h2, q x H2 e2 h3⟩
theorem eg_methP {P : V → Hp → Prop} {hm : ∀ v H H', Ex H H' → P v H → P v H'} (ho : Eg K ta σ H (.p P hm)) (h : ∀ v H1, P v H1 → ∃ q dq gs, v = .ref q ∧ H1 q = some (.ins C dq gs) ∧ gs.lookup m = none) (ha : Ea K tr σ H as)
    (hs : ∀ v vs H1, Ex H H1 → P v H1 → RlA K H1 vs as → ∀ Q : VK, (∀ w H2, Ex H1 H2 → Rl K H2 w a → Q w H2) → sp (v :: vs) H1 Q E) : Eg K (tMeth C m sp [] E ta tr) σ H a := fun H1 e Q q => ho H1 e _ fun v H2 e2 hv => by
  obtain ⟨o, dq, gs, e0, h1, h2⟩ := h v H2 hv
  refine ⟨o, dq, gs, e0, h1, h2, ha H2 (e.trans e2) _ fun vs H3 e3 r => ?_⟩
  rw [List.append_nil]
  exact hs v vs H3 ((e.trans e2).trans e3) (hm _ _ _ e3 hv) r Q fun w H4 e4 hw => q w H4 ((e2.trans e3).trans e4) hw
theorem en_methP {P : V → Hp → Prop} {hm : ∀ v H H', Ex H H' → P v H → P v H'} (ho : Eg K ta σ H (.p P hm)) (h : ∀ v H1, P v H1 → ∃ q dq gs, v = .ref q ∧ H1 q = some (.ins C dq gs) ∧ gs.lookup m = none) (ha : Ea K tr σ H as)
    (hs : ∀ v vs H1, Ex H H1 → P v H1 → RlA K H1 vs as → ∀ Q : VK, RetN K H1 Q ds → sp (v :: vs) H1 Q E) : En K (tMeth C m sp [] E ta tr) σ H ds := fun H1 e Q q => ho H1 e _ fun v H2 e2 hv => by
  obtain ⟨o, dq, gs, e0, h1, h2⟩ := h v H2 hv
  refine ⟨o, dq, gs, e0, h1, h2, ha H2 (e.trans e2) _ fun vs H3 e3 r => ?_⟩
  rw [List.append_nil]
  exact hs v vs H3 ((e.trans e2).trans e3) (hm _ _ _ e3 hv) r Q fun l xs H4 hl e4 hx hd => q l xs H4 (fresh_back (e2.trans e3) hl) ((e2.trans e3).trans e4) hx hd
theorem eg_call (ha : Ea K tr σ H as) (hs : ∀ vs H1, Ex H H1 → RlA K H1 vs as → ∀ Q : VK, (∀ w H2, Ex H1 H2 → Rl K H2 w a → Q w H2) → sp vs H1 Q E) : Eg K (tCall sp [] E tr) σ H a := fun H1 e Q q => ha H1 e _ fun vs H2 e2 r => by
  rw [List.append_nil]
  exact hs vs H2 (e.trans e2) r Q fun v H3 e3 hv => q v H3 (e2.trans e3) hv
theorem eg_make (ha : Ea K tr σ H as) (hs : ∀ vs H1 y dy, Ex H H1 → RlA K H1 vs as → H1 y = none → H1 dy = none → dy ≠ y → ∀ Q : Hp → Prop, (∀ H2, Ex H1 H2 → Rl K H2 (.ref y) a → Q H2) → sp (.ref y :: vs) (upd (upd H1 dy (.own y)) y (.ins C dy [])) (fun v H2 => v = .non ∧ Q H2) E) :
    Eg K (tMake C sp [] E tr) σ H a := fun H1 e Q q => ha H1 e _ fun vs H2 e2 r y dy hy hd hne => by
  rw [List.append_nil]
  exact hs vs H2 y dy (e.trans e2) r hy hd hne (fun H3 => Q (.ref y) H3) fun H3 e3 r3 => q _ H3 (e2.trans e3) r3
theorem eg_fld {x : V} (ho : Eg K ta σ H (.v (.ref p))) (hp : H p = some (.ins C dx fs)) (c : Cls K C) (hn : NoAttr K C f) (hl : fs.lookup f = some x) (r : Rl K H x a) : Eg K (tFld K ta f) σ H a := fun H1 e Q q => ho H1 e _ fun v H2 e2 hv => by
  cases hv
  exact ⟨p, C, dx, fs, x, rfl, (e2 _ _ (e _ _ hp)), c, hn, hl, q x H2 e2 (r.mono (e.trans e2))⟩
end
end


structure Df (P : Program) (w : World) (K : PySem.W.Frag) (mg : Str → Option Value) (base : Heap) (k : Nat) (p : Str × Option Str) (ps : List Str) (sp : Sp) : Prop where
  ex : ∃ fd, FnOk P w K mg base (L2.CX P w) k (He.fAd K p) fd ps sp ∧ Binds K fd ps []
  kp : PySem.W.keepIn K (.ref (He.fAd K p)) = true
section
variable {X : Cx} {x : Str} {pos : Pos} {i : Int}
theorem pe_gi (h : ∃ t, X.mg x = some (.int i t)) (hg : Gl X x := by rfl) (hd : (x == ("__debug__" : Str)) = false := by decide) : PE X (.Name x pos) (tC (.int i)) := by
  obtain ⟨t, e⟩ := h
  exact pe_glob hg e ⟨t, rfl⟩ hd
end


open PySem.Spec PyProof.Rows
abbrev Fact := PySem.W.Frag → Bool
def fGlo (x : Str) : Fact := fun K => (He.Fa.glo x).ok K
def fFree (x : Str) : Fact := fun K => (He.Fa.free x).ok K
def fInt (x : Str) (i : Int) : Fact := fun K => (He.Fa.int x i).ok K
def fStr (x z : Str) : Fact := fun K => (He.Fa.str x z).ok K
def fCls (x : Str) : Fact := fun K => (He.Fa.cls x).ok K
def fNoat (x f : Str) : Fact := fun K => (He.Fa.noat x f).ok K
def fMeth (x m : Str) : Fact := fun K => (He.Fa.meth x m).ok K
def fMk (x : Str) : Fact := fun K => (He.Fa.mkr x).ok K
def fExc (x : Str) : Fact := fun K => (He.Fa.exc x).ok K
def fExm (x y : Str) (b : Bool) : Fact := fun K => (He.Fa.exm x y b).ok K
def fKit (x y : Str) (b : Bool) : Fact := fun K => decide (PySem.W.kitOne K (.ref (He.ga K x)) (.ref (He.ga K y)) = some b)
def fTup (x : Str) (vs : List He.Dv) : Fact := fun K => (He.Fa.glo x).ok K && He.tupB K x vs

def fEcl (x : Str) : Fact := fun K => He.eqO (PySem.W.findIn K (.ref (He.ga K x)) "__getattribute__") (some (some (.builtin "BaseException.__getattribute__"))) && (He.eqO (PySem.W.findIn K (.ref (He.ga K x)) "__getattr__") (some none) &&
  (decide (PySem.W.subIn K (.ref (He.ga K x)) (.type "BaseException") = some true) && (PySem.W.hasDictIn K (He.ga K x) && (He.eqO (PySem.W.findIn K (.ref (He.ga K x)) "__class__") (some (some (.builtin "object.__class__"))) &&
  (He.eqO (PySem.W.specialIn K (.builtin "object.__class__") "__get__") (some (some (.builtin "getset_descriptor.__get__"))) && (decide (PySem.W.takesIn K (.builtin "object.__class__") = some true) && decide (PySem.W.mroIn K (He.ga K x) (.type "object") = some true)))))))
theorem ecl_ok {K : PySem.W.Frag} {x : Str} (h : fEcl x K = true) : ExcC K (He.ga K x) := by
  obtain ⟨h1, h⟩ := He.ba h
  obtain ⟨h2, h⟩ := He.ba h
  obtain ⟨h3, h⟩ := He.ba h
  obtain ⟨h4, h⟩ := He.ba h
  obtain ⟨h5, h⟩ := He.ba h
  obtain ⟨h6, h⟩ := He.ba h
  obtain ⟨h7, h8⟩ := He.ba h
  exact ⟨He.eqO_ok h1, He.eqO_ok h2, of_decide_eq_true h3, h4, He.eqO_ok h5, He.eqO_ok h6, of_decide_eq_true h7, of_decide_eq_true h8⟩
theorem kit_ok {K : PySem.W.Frag} {x y : Str} {b : Bool} (h : fKit x y b K = true) : PySem.W.kitOne K (.ref (He.ga K x)) (.ref (He.ga K y)) = some b := of_decide_eq_true h
theorem tup_ok {K : PySem.W.Frag} {x : Str} {vs : List He.Dv} (h : fTup x vs K = true) (H : Hp) : SqT K H (He.ga K x) (vs.map (He.Dv.v K)) := He.tupB_ok (He.ba h).2 H

def Tells (fs : List Fact) (fn : List He.DefD) (K : PySem.W.Frag) : Prop := He.SaysD [] fn K ∧ fs.all (fun f => f K) = true
theorem Tells.fact {fs : List Fact} {fn : List He.DefD} {K : PySem.W.Frag} (c : Tells fs fn K) (i : Nat) {f : Fact} (h : fs[i]? = some f := by rfl) : f K = true := List.all_eq_true.mp c.2 f (List.mem_of_getElem? h)
abbrev AlM : Type := He.AlD × Bool
def lookM (fs : List Fact) (fn : List He.DefD) (K : PySem.W.Frag) : AlM := (He.obsD [] fn K, fs.all fun f => f K)
def obsM (n : Nat) (fs : List Fact) (fn : List He.DefD) (g : Addr → Option Obj) : AlM := lookM fs fn (He.frG g (He.asD g n))
def hookM (n : Nat) (fs : List Fact) (fn : List He.DefD) : PySem.W.Hook where
  α := AlM
  obs := fun s => obsM n fs fn s.heap.get?
  val := fun _ => (He.valD fn, true)
  says := fun _ h => ∃ K : PySem.W.Frag, K.In h ∧ Tells fs fn K
  of := fun _ _ e => ⟨_, He.frG_in, congrArg (fun z : AlM => z.1) e, congrArg (fun z : AlM => z.2) e⟩
  keeps := fun _ _ _ y k => y.elim fun K q => ⟨K, PySem.W.Frag.In.keeps q.1 k, q.2⟩
theorem obsM_eq {n : Nat} {fs : List Fact} {fn : List He.DefD} {g : Addr → Option Obj} {s : Shared} (h : ∀ a, g a = s.heap.get? a) : obsM n fs fn g = (hookM n fs fn).obs s := by
  have e : g = s.heap.get? := funext h
  rw [e]
  rfl

def Top (fs : List Fact) (fn : List He.DefD) (K : PySem.W.Frag) (mg : Str → Option Value) : Prop := ∃ h : Heap, K.In h ∧ h.Ns mainGlobals mg ∧ Tells fs fn K
section
variable {fs : List Fact} {fn : List He.DefD} {K : PySem.W.Frag} {mg : Str → Option Value}
theorem Top.glo (T : Top fs fn K mg) (i : Nat) {x : Str} (h : fs[i]? = some (fGlo x) := by rfl) : mg x = some (.ref (He.ga K x)) := by
  obtain ⟨_, a, b, c⟩ := T
  exact He.glo_ok a b (c.fact i h)
theorem Top.free (T : Top fs fn K mg) (i : Nat) {x : Str} (h : fs[i]? = some (fFree x) := by rfl) : mg x = none := by
  obtain ⟨_, a, b, c⟩ := T
  exact He.free_ok a b (c.fact i h)
theorem Top.int (T : Top fs fn K mg) (i : Nat) {x : Str} {z : Int} (h : fs[i]? = some (fInt x z) := by rfl) : ∃ t, mg x = some (.int z t) := by
  obtain ⟨_, a, b, c⟩ := T
  exact He.int_ok a b (c.fact i h)
theorem Top.cls (T : Top fs fn K mg) (i : Nat) {x : Str} (h : fs[i]? = some (fCls x) := by rfl) : Cls K (He.ga K x) := by
  obtain ⟨_, a, b, c⟩ := T
  exact He.cls_ok (c.fact i h)
theorem Top.noat (T : Top fs fn K mg) (i : Nat) {x f : Str} (h : fs[i]? = some (fNoat x f) := by rfl) : NoAttr K (He.ga K x) f := by
  obtain ⟨_, a, b, c⟩ := T
  exact He.noat_ok (c.fact i h)
theorem Top.meth (T : Top fs fn K mg) (i : Nat) {x m : Str} (h : fs[i]? = some (fMeth x m) := by rfl) : Meth K (He.ga K x) m (He.fAd K (x, some m)) := by
  obtain ⟨_, a, b, c⟩ := T
  exact He.meth_ok (c.fact i h)
theorem Top.mk (T : Top fs fn K mg) (i : Nat) {x : Str} (h : fs[i]? = some (fMk x) := by rfl) : Mk K (He.ga K x) (He.fAd K (x, some "__init__")) := by
  obtain ⟨_, a, b, c⟩ := T
  exact He.mkr_ok (c.fact i h)
theorem Top.exc (T : Top fs fn K mg) (i : Nat) {x : Str} (h : fs[i]? = some (fExc x) := by rfl) : PySem.W.excIn K (He.ga K x) He.veBase "ValueError.__new__" = true ∧ PySem.W.keepIn K (.ref (He.ga K x)) = true ∧ PySem.W.subIn K (.ref (He.ga K x)) (.type "BaseException") = some true ∧ PySem.W.typeIn K (.ref (He.ga K x)) = some (.type "type") := by
  obtain ⟨_, a, b, c⟩ := T
  exact He.exc_ok (c.fact i h)
theorem Top.exm (T : Top fs fn K mg) (i : Nat) {x y : Str} {b : Bool} (h : fs[i]? = some (fExm x y b) := by rfl) : PySem.W.exmOne K (.ref (He.ga K x)) (.ref (He.ga K y)) = some b := by
  obtain ⟨_, _, _, c⟩ := T
  exact He.exm_ok (c.fact i h)
theorem Top.kit (T : Top fs fn K mg) (i : Nat) {x y : Str} {b : Bool} (h : fs[i]? = some (fKit x y b) := by rfl) : PySem.W.kitOne K (.ref (He.ga K x)) (.ref (He.ga K y)) = some b := by
  obtain ⟨_, _, _, c⟩ := T
  exact kit_ok (c.fact i h)
theorem Top.ecl (T : Top fs fn K mg) (i : Nat) {x : Str} (h : fs[i]? = some (fEcl x) := by rfl) : ExcC K (He.ga K x) := by
  obtain ⟨_, _, _, c⟩ := T
  exact ecl_ok (c.fact i h)
theorem Top.tup (T : Top fs fn K mg) (i : Nat) {x : Str} {vs : List He.Dv} (h : fs[i]? = some (fTup x vs) := by rfl) : mg x = some (.ref (He.ga K x)) ∧ ∀ H, SqT K H (He.ga K x) (vs.map (He.Dv.v K)) := by
  obtain ⟨_, a, b, c⟩ := T
  exact ⟨He.glo_ok a b (He.ba (c.fact i h)).1, tup_ok (c.fact i h)⟩
theorem Top.def_ (T : Top fs fn K mg) (i : Nat) {d : He.DefD} (h : fn[i]? = some d := by rfl) : ∃ fd, FunD K d.name d.qual d.params d.body d.scope (d.dvs K) (d.kws K) (He.fAd K d.at_) fd := by
  obtain ⟨_, _, _, c⟩ := T
  exact c.1.def_ i h
end

def dd (at_ : Str × Option Str) (name qual : Str) (s : Stmt) : He.DefD := ⟨at_, name, qual, defArgs s, defBody s, defScope s, [], []⟩

theorem df_of {fs : List Fact} {fn : List He.DefD} {P : Program} {w : World} {K : PySem.W.Frag} {mg : Str → Option Value} {base : Heap} (T : Top fs fn K mg) (i : Nat) {at_ : Str × Option Str} {name qual : Str} {s : Stmt} {N ps : List Str} {k : Nat} {sp : Sp} (h : fn[i]? = some (dd at_ name qual s))
    (S : FnScope N ps (defScope s)) (len : ∀ vs H Q E, sp vs H Q E → vs.length = ps.length)
    (hb : ∀ (kV doc pm : Value) (an : Option Addr) (cdv ct : Value) (us : List Value), us.length = ps.length → bindArgs (PySem.W.fnOf name qual (defArgs s) (defBody s) (defScope s) .none kV doc pm an cdv ct) ⟨us, []⟩ = pure (ps.zip us))
    (hbody : ∀ (cdv : Value) (A : Around) (outer : List Env) (s0 : Shared) (H : Hp) (vs : List V) (Q : VK) (E : XK), Room k (A.deeper (envOfC qual (defScope s) s0.heap.objs.size (He.fAd K at_) cdv)) → sp vs H Q E →
      ∃ t, PSs (cxOf (L2.CX P w) P w K mg base N qual (defScope s) (He.fAd K at_) cdv A outer s0 H E) (defBody s) t ∧ t { nx := fun _ H' => Q .non H', rt := Q } (start N vs) H) : Df P w K mg base (k + 1) at_ ps sp := by
  obtain ⟨fd, F⟩ := T.def_ i h
  exact ⟨⟨fd, FunD.ok (CX := L2.CX P w) F S len hbody, FunD.bindsN F hb⟩, F.kp⟩

theorem df_no {fs : List Fact} {fn : List He.DefD} {P : Program} {w : World} {K : PySem.W.Frag} {mg : Str → Option Value} {base : Heap} (T : Top fs fn K mg) (i : Nat) {at_ : Str × Option Str} {name qual : Str} {s : Stmt} {ps : List Str} (h : fn[i]? = some (dd at_ name qual s))
    (hb : ∀ (kV doc pm : Value) (an : Option Addr) (cdv ct : Value) (us : List Value), us.length = ps.length → bindArgs (PySem.W.fnOf name qual (defArgs s) (defBody s) (defScope s) .none kV doc pm an cdv ct) ⟨us, []⟩ = pure (ps.zip us)) : Df P w K mg base 0 at_ ps (fun _ _ _ _ => False) := by
  obtain ⟨fd, F⟩ := T.def_ i h
  exact ⟨⟨fd, ⟨fun _ _ _ _ z => z.elim, fun _ _ _ _ _ _ _ _ _ _ _ _ _ z => z.elim⟩, FunD.bindsN F hb⟩, F.kp⟩

theorem law_of {fs : List Fact} {fn : List He.DefD} {P : Program} {w : World} {K : PySem.W.Frag} {mg : Str → Option Value} (T : Top fs fn K mg) (i : Nat) {s : Stmt} {N : List Str} {k : Nat} {sp : Sp} (h : fn[i]? = some (dd ("law", none) "law" "law" s))
    (S : FnScope N ["script"] (defScope s)) (len : ∀ vs H Q E, sp vs H Q E → vs.length = 1)
    (hb : ∀ (kV doc pm : Value) (an : Option Addr) (cdv ct : Value) (us : List Value), us.length = 1 → bindArgs (PySem.W.fnOf "law" "law" (defArgs s) (defBody s) (defScope s) .none kV doc pm an cdv ct) ⟨us, []⟩ = pure ([("script" : Str)].zip us))
    (hbody : ∀ (base : Heap) (cdv : Value) (A : Around) (outer : List Env) (s0 : Shared) (H : Hp) (vs : List V) (Q : VK) (E : XK), Room k (A.deeper (envOfC "law" (defScope s) s0.heap.objs.size (He.fAd K ("law", none)) cdv)) → sp vs H Q E →
      ∃ t, PSs (cxOf (L2.CX P w) P w K mg base N "law" (defScope s) (He.fAd K ("law", none)) cdv A outer s0 H E) (defBody s) t ∧ t { nx := fun _ H' => Q .non H', rt := Q } (start N vs) H) :
    ∃ fd, (∀ (s' : Shared) (u : Value), BindsTo s' fd ⟨[u], []⟩ [("script", u)]) ∧ ∀ base : Heap, FnOk P w K mg base (L2.CX P w) (k + 1) (He.fAd K ("law", none)) fd ["script"] sp := by
  obtain ⟨fd, F⟩ := T.def_ i h
  exact ⟨fd, fun s' u => FunD.bindsA (ps := ["script"]) F hb s' [u] rfl, fun base => FunD.ok (CX := L2.CX P w) F S len (hbody base)⟩

theorem law_binds {fs : List Fact} {fn : List He.DefD} {K : PySem.W.Frag} {mg : Str → Option Value} (T : Top fs fn K mg) (i : Nat) {s : Stmt} (h : fn[i]? = some (dd ("law", none) "law" "law" s)) {P : Program} {w : World} {base : Heap} {k : Nat} {sp : Sp}
    (hb : ∀ (kV doc pm : Value) (an : Option Addr) (cdv ct : Value) (us : List Value), us.length = 1 → bindArgs (PySem.W.fnOf "law" "law" (defArgs s) (defBody s) (defScope s) .none kV doc pm an cdv ct) ⟨us, []⟩ = pure ([("script" : Str)].zip us)) :
    ∃ fd, FunD K "law" "law" (defArgs s) (defBody s) (defScope s) [] [] (He.fAd K ("law", none)) fd ∧ ∀ (s' : Shared) (v : Value), BindsTo s' fd ⟨[v], []⟩ [("script", v)] := by
  obtain ⟨fd, F⟩ := T.def_ i h
  exact ⟨fd, F, fun s' v => FunD.bindsA (ps := ["script"]) F hb s' [v] rfl⟩

theorem ends_of {l : PySem.W.OpenLaw} {m k : Nat} {q : Program} {loose : List Str} {XP : (Str → Option Value) → Heap → Prop} {YP : World → Heap → Prop} {d : DefRec} {arg : Str}
    (hm : l.most = some m) (h1 : m ≤ sizeLine) (h2 : d.params.defaults = []) (room : Room k callerA)
    (F : ∀ (w : World) (mg : Str → Option Value) (f : Addr) (h : Heap), YP w h → h.Ns mainGlobals mg → mg d.name = some (.ref f) →
      ∃ (K : PySem.W.Frag) (fd : FuncData) (sp : Sp), K.In h ∧ (∀ (s : Shared) (u : Value), BindsTo s fd ⟨[u], []⟩ [(arg, u)]) ∧
        (∀ (H : Hp) (a : Addr) (ns : List Int), ns.length ≤ m → Only H → SqL K H a (ns.map V.int) → sp [.ref a] H (fun v _ => v = .bl true) fun _ _ _ => False) ∧
        ∀ base : Heap, K.In base → base.Ns mainGlobals mg → FnOk l.prog w K mg base (L2.CX l.prog w) k f fd [arg] sp) :
    PySem.W.WalkO q loose XP YP l.row.toRowW d [] (fun f vs => PySem.call f vs) := by
  refine Att.attach_call hm h2 fun w _ t mg _ f _ _ _ _ a vs ns G Y _ _ _ named script whole few gens => ?_
  obtain ⟨K, fd, sp, inK, binds, told, ok⟩ := F w mg f _ Y G.T.g named
  exact law_call inK G.T.g G.T.b G.T.builtins G.T.nolimit gens script whole (Nat.le_trans few h1) room ok binds (fun H o z => told H a ns few o z) fun H e s' c => by
    obtain ⟨_, _, _, _, _, _, _, _, _, _, _, _, z⟩ := c
    exact z


section
variable {X : Cx} {CX : CXT} {k : Nat} {f C : Addr} {fd : FuncData} {ps : List Str} {sp : Sp} {E : L2.St → XK} {x m : Str} {p pos apos : Pos} {e o : Expr} {es : List Expr} {ta : TE} {t : TA}
def tMakeS (C : Addr) (sp : Sp) (E : L2.St → XK) (t : TA) : TE := fun σ H Q => t σ H fun vs H1 => ∀ y dy, H1 y = none → H1 dy = none → dy ≠ y →
  sp (.ref y :: vs) (upd (upd H1 dy (.own y)) y (.ins C dy [])) (fun v H2 => v = .non ∧ Q (.ref y) H2) (E σ)
def tMethS (C : Addr) (m : Str) (sp : Sp) (E : L2.St → XK) (ta : TE) (t : TA) : TE := fun σ H Q => ta σ H fun y H1 => ∃ q dq gs, y = .ref q ∧ H1 q = some (.ins C dq gs) ∧ gs.lookup m = none ∧
  t σ H1 fun vs H2 => sp (y :: vs) H2 Q (E σ)
theorem made_slots {pins : List (Addr × Obj)} {σ : L2.St} {H : Hp} {s : Shared} {Q : VK} {us : List Value} {vs : List V} (mk : Mk X.K C f) (ok : FnOk X.prog X.w X.K X.mg X.base CX k f fd ps sp) (room : Room (k + 1) X.A) (bd : Binds X.K fd ps [])
    (pass : PassesAt CX X σ (E σ)) (I : Inv X pins σ H s) (rel : Vals vs us) (h : ∀ y dy, H y = none → H dy = none → dy ≠ y → sp (.ref y :: vs) (upd (upd H dy (.own y)) y (.ins C dy [])) (fun v H2 => v = .non ∧ Q (.ref y) H2) (E σ)) :
    wpAny (model X.prog X.w) X.A (call (.ref C) us) (EP X pins σ Q) X.xe s := by
  have new := h (s.heap.objs.size + 1) s.heap.objs.size (I.hok.fresh (Nat.le_succ _)) (I.hok.fresh (Nat.le_refl _)) (Nat.ne_of_lt (Nat.lt_succ_self _))
  have J := Inv.made (C := C) I
  have rel2 : Vals (V.ref (s.heap.objs.size + 1) :: vs) (Value.ref (s.heap.objs.size + 1) :: us) := .cons rfl rel
  have len : ((Value.ref (s.heap.objs.size + 1) :: us) ++ []).length = ps.length := by
    rw [List.append_nil, ← rel2.length]
    exact ok.len _ _ _ _ new
  have bnd := bd _ (Value.ref (s.heap.objs.size + 1) :: us) J.kIn len
  rw [List.append_nil] at bnd
  refine wpAny_call (make_map (f := f) I.kIn mk.makes mk.init (beq_iff_eq.mp mk.fn) (codeAny_mono (ok.run _ X.stack _ _ _ _ _ _ (E σ) (room.make C us []) (J.env0.make C us []) bnd rel2 new) fun r t z => ?_))
  match r, z with
  | .error er, z => exact pass pins _ _ er t J z
  | .ok (.ret w), z =>
    obtain ⟨v, H', I3, rv, ev, q3⟩ := J.after z
    subst ev
    exact ⟨rv, V.ref (s.heap.objs.size + 1), H', I3, rfl, q3⟩
theorem pe_mkS (mk : Mk X.K C f) (ok : FnOk X.prog X.w X.K X.mg X.base CX k f fd ps sp) (room : Room (k + 1) X.A) (hm : X.mg x = some (.ref C)) (bd : Binds X.K fd ps []) (pass : ∀ σ, PassesAt CX X σ (E σ)) (ha : PA X (e :: es) t) (hg : Gl X x := by rfl)
    (hdb : (x == ("__debug__" : Str)) = false := by decide) (he : starEach (e :: es) X.env = (false, eval e X.env) :: starEach es X.env := by rfl) (hpl : (backTo pos (starEach es X.env)).any (·.1) = false := by rfl) : PE X (.Call (.Name x p) (e :: es) [] pos) (tMakeS C sp E t) := by
  constructor
  intro pins s σ H Q I h
  apply wpAny_Call_Name_kw (ld_glob I hg hm ?_ hdb)
  apply PySem.W.callWith_K (h₀ := X.base) I.ok.mod.kin mk.kp (thn (ha.run pos pins s σ H _ I h) fun us s1 z => ?_) he hpl
  obtain ⟨vs, H1, I1, r, q⟩ := z
  exact ⟨I1.kIn, made_slots mk ok room bd (pass σ) I1 r q⟩
theorem pe_mtS {pl : Sem Bool} (ho : PE X o ta) (cl : Cls X.K C) (hm : Meth X.K C m f) (ok : FnOk X.prog X.w X.K X.mg X.base CX k f fd ps sp) (room : Room k X.A) (bd : Binds X.K fd ps []) (pass : ∀ σ, PassesAt CX X σ (E σ)) (ha : PA X (e :: es) t)
    (hst : starEach (e :: es) X.env = (false, eval e X.env) :: starEach es X.env := by rfl) (hpl : (backTo pos (starEach es X.env)).any (·.1) = false := by rfl)
    (ht : eval (.Call (.Attribute o m apos) (e :: es) [] pos) X.env = (do let ov ← eval o X.env; standAt apos.atName; let (g, first) ← holding [ov] (getMethod ov m pl); callWith pos g first (backTo pos (starEach (e :: es) X.env)) (backToKw pos (keywordEach [] X.env))) := by rfl) :
    PE X (.Call (.Attribute o m apos) (e :: es) [] pos) (tMethS C m sp E ta t) := by
  constructor
  intro pins s σ H Q I h
  apply PySem.W.methodCall_KW (pl := pl) (thn (ho.run pins s σ H _ I h) fun u s1 z => ?_) ht
  obtain ⟨y, H1, I1, ry, q, dq, gs, ey, eq, l, z⟩ := z
  subst ey
  obtain rfl : u = Value.ref q := ry
  apply getmeth_ok I1 eq cl hm l
  apply PySem.W.callWith_K (first := [.ref q]) (h₀ := X.base) I.ok.mod.kin hm.kp (thn (ha.run pos pins s1 σ H1 _ I1 z) fun us s2 y => ?_) hst hpl
  obtain ⟨vs, H2, I2, r, q2⟩ := y
  exact ⟨I2.kIn, run_fnS (us := .ref q :: us) (vs := .ref q :: vs) ok room bd (pass σ) I2 (.cons rfl r) q2⟩
end

section
variable {X : Cx} {K : PySem.W.Frag}
theorem ix_seqK (h : X.K = K) : IxR X (rIx K) := h ▸ ix_seq
theorem call_lenK (h : X.K = K) : CallR X (.builtin "len") (rLenU K) := h ▸ call_lenU
theorem op_eqK (h : X.K = K) (hu : X.A.units + 64 < cLine) : OpR X (compareOp .Eq) (rEqD K) := h ▸ op_eqD hu
theorem op_neK (h : X.K = K) (hu : X.A.units + 64 < cLine) : OpR X (compareOp .NotEq) (rNeD K) := h ▸ op_neD hu
end

def rIsX (K : PySem.W.Frag) (a : Addr) (cls : Value) (d : Option Addr) : List V → Hp → VK → Prop := fun xs H Q => ∃ (D : Addr) (c : V) (cv : Value) (b : Bool), ExcC K D ∧ cls = .ref D ∧ d = none ∧ xs = [.ref a, c] ∧ (∀ u, RelV c u → u = cv) ∧ PySem.W.kitOne K (.ref D) cv = some b ∧ Q (.bl b) H
theorem call_isX {X : Cx} {a : Addr} {oe : Obj} {pn : List (Addr × Obj)} {cls : Value} {d : Option Addr} (hz : Zc cls d oe) (hf : ∃ vs, oe.data = .fields vs) : CallR (X.suite a ((a, oe) :: pn)) (.builtin "isinstance") (rIsX X.K a cls d) := by
  intro pins s σ H xs us Q I r h
  obtain ⟨D, c, cv, b, hC, rfl, rfl, h⟩ := h
  exact call_isE hC hz hf pins s σ H xs us Q I r ⟨c, cv, b, h⟩
section
variable {K : PySem.W.Frag} {σ : L2.St} {H : Hp} {i : Nat} {a D C : Addr} {b : Bool}
theorem eb_isX (hv : σ[i]? = some (some (.ref a))) (hC : ExcC K D) (hk : PySem.W.kitOne K (.ref D) (.ref C) = some b) : Eb K (tCB (rIsX K a (.ref D) none) (tCons (tVar i) (tCons (tC (.ref C)) tNil))) σ H b := fun H1 _ Q q =>
  ⟨.ref a, hv, D, .ref C, .ref C, b, hC, rfl, rfl, rfl, fun _ r => r, hk, q _ H1 (Ex.refl H1) (.bl _)⟩
end

section
variable {K : PySem.W.Frag} {σ : L2.St} {H H' : Hp} {ta tb tc te tl : TE} {t : TT} {tu tw tz : TS} {D : Ends} {tr : TA} {as : List Av} {sp : Sp} {E : XK} {ES : L2.St → XK} {C p dx : Addr} {fs : List (Str × V)} {m : Str}

theorem te_make {Q : VK} (ha : Ea K tr σ H as) (hs : ∀ vs H1 y dy, Ex H H1 → RlA K H1 vs as → H1 y = none → H1 dy = none → dy ≠ y → sp (.ref y :: vs) (upd (upd H1 dy (.own y)) y (.ins C dy [])) (fun v H2 => v = .non ∧ Q (.ref y) H2) E) :
    tMake C sp [] E tr σ H Q := ha H (Ex.refl H) _ fun vs H1 e r y dy hy hd hne => by
  rw [List.append_nil]
  exact hs vs H1 y dy e r hy hd hne
theorem te_makeS {Q : VK} (ha : Ea K tr σ H as) (hs : ∀ vs H1 y dy, Ex H H1 → RlA K H1 vs as → H1 y = none → H1 dy = none → dy ≠ y → sp (.ref y :: vs) (upd (upd H1 dy (.own y)) y (.ins C dy [])) (fun v H2 => v = .non ∧ Q (.ref y) H2) (ES σ)) :
    tMakeS C sp ES tr σ H Q := ha H (Ex.refl H) _ fun vs H1 e r y dy hy hd hne => hs vs H1 y dy e r hy hd hne
theorem te_call {Q : VK} (ha : Ea K tr σ H as) (hs : ∀ vs H1, Ex H H1 → RlA K H1 vs as → sp vs H1 Q E) : tCall sp [] E tr σ H Q := ha H (Ex.refl H) _ fun vs H1 e r => by
  rw [List.append_nil]
  exact hs vs H1 e r
theorem te_callS {Q : VK} (ha : Ea K tr σ H as) (hs : ∀ vs H1, Ex H H1 → RlA K H1 vs as → sp vs H1 Q (ES σ)) : tCallS sp ES tr σ H Q := ha H (Ex.refl H) _ fun vs H1 e r => hs vs H1 e r
theorem te_meth {Q : VK} (ho : Eg K ta σ H (.v (.ref p))) (hp : H p = some (.ins C dx fs)) (hm : fs.lookup m = none) (ha : Ea K tr σ H as) (hs : ∀ vs H1, Ex H H1 → RlA K H1 vs as → sp (.ref p :: vs) H1 Q E) : tMeth C m sp [] E ta tr σ H Q := ho H (Ex.refl H) _ fun v H1 e1 hv => by
  cases hv
  refine ⟨p, dx, fs, rfl, e1 _ _ hp, hm, ha H1 e1 _ fun vs H2 e2 r => ?_⟩
  rw [List.append_nil]
  exact hs vs H2 (e1.trans e2) r
theorem te_methS {Q : VK} (ho : Eg K ta σ H (.v (.ref p))) (hp : H p = some (.ins C dx fs)) (hm : fs.lookup m = none) (ha : Ea K tr σ H as) (hs : ∀ vs H1, Ex H H1 → RlA K H1 vs as → sp (.ref p :: vs) H1 Q (ES σ)) : tMethS C m sp ES ta tr σ H Q := ho H (Ex.refl H) _ fun v H1 e1 hv => by
  cases hv
  exact ⟨p, dx, fs, rfl, e1 _ _ hp, hm, ha H1 e1 _ fun vs H2 e2 r => hs vs H2 (e1.trans e2) r⟩

theorem made_ex {y dy : Addr} (hy : H y = none) (hd : H dy = none) (hne : dy ≠ y) : Ex H (upd (upd H dy (.own y)) y (.ins C dy [])) := (Ex.new hd).trans (Ex.new (by rw [upd_ne hne.symm]; exact hy))
end


def rRepX (K : PySem.W.Frag) : R2 := fun x y H Q => ∃ (l : Addr) (k : Int) (xs : List V), x = .ref l ∧ y = .int k ∧ SqT K H l xs ∧ xs ≠ [] ∧ 2 ≤ k ∧ ((xs.length : Nat) : Int) * k ≤ 1000000 ∧ ∀ p, H p = none → Q (.ref p) (upd H p (.tup (List.replicate k.toNat xs).flatten))
theorem op_repX {X : Cx} : OpR X (binaryOp .Mult) (rRepX X.K) := by
  intro pins s σ H x y v u Q I rx ry h
  obtain ⟨l, k, xs, rfl, rfl, hT, hne, h1, h2, q⟩ := h
  cases rx
  obtain ⟨t, rfl⟩ := ry
  obtain ⟨its, r, ⟨⟨c, dd, dt, sl⟩, ho, hc, n, hd⟩, _⟩ := I.tuple hT
  dsimp only at hc hd
  subst hc hd
  have len : xs.length = its.length := r.length
  have pos : 0 < xs.length := List.length_pos_iff.mpr hne
  have big : k ≤ 1000000 := by
    have : 1 * k ≤ ((xs.length : Nat) : Int) * k := Int.mul_le_mul_of_nonneg_right (by omega) (by omega)
    omega
  have flat : (List.replicate k.toNat its).flatten.length = k.toNat * xs.length := by rw [PyProof.Rows.lm_len_rep_flat, len]
  have small : k.toNat * xs.length ≤ 1000000 := by
    have e : ((k.toNat * xs.length : Nat) : Int) = ((xs.length : Nat) : Int) * k := by
      rw [Int.natCast_mul, Int.toNat_of_nonneg (by omega), Int.mul_comm]
    omega
  have nonempty : its.toArray.isEmpty = false := by
    cases its with
    | nil => rw [List.length_nil] at len; omega
    | cons _ _ => rfl
  have size : its.toArray.size = xs.length := by rw [List.size_toArray, len]
  have room : (List.replicate k.toNat its).flatten.length ≤ sizeLine := by rw [flat, sizeLine_eq]; omega
  have mulW := tuple_mulW l its.toArray n dd sl k t (by rw [decide_eq_false (by omega), decide_eq_false (by omega)]; rfl) (by rw [nonempty, Bool.false_or]; exact beq_eq_false_iff_ne.mpr (by omega)) (by rw [nonempty, Bool.or_false]; exact decide_eq_false (by omega))
    (by rw [size]; omega) (by rw [size]; unfold Builtin.Tuple.tupleTooMany; rw [sizeLine_eq]; exact decide_eq_false (by omega)) (by rw [size_rep, List.size_toArray]; exact room)
  refine wpAny_binaryOp_repeat_ref (T := "tuple") (U := "int") (by decide) ⟨_, ho, rfl⟩ (fun s' => typeIs_int s' k t) noFill_tuple_mul PySem.F.fills_int_mul PySem.F.slot_int_rmul repeat_tuple PySem.F.slot_int_index.lookup ?_
  refine call_meets PySem.F.slot_int_rmul (typeIs_int s k t) PySem.F.entry_int_rmul (PySem.F.args_int_rmul_2 _ _) (int_rmul_tuple k t l its.toArray n dd sl) ⟨ho, rfl, ⟨_, ho, rfl⟩, ?_⟩
  refine call_meets PySem.F.slot_tuple_mul ⟨_, ho, rfl⟩ PySem.F.entry_tuple_mul (PySem.F.args_tuple_mul_2 _ _) mulW ⟨ho, ?_⟩
  rw [size_rep]
  have J := I.laid (t' := s.toks) (o := .tup (List.replicate k.toNat xs).flatten) (fun b ob z => Heap.get?_push_of_some { cls := .type "tuple", data := .seq (List.replicate k.toNat its).flatten.toArray } z) (Nat.le_refl _) ⟨by rw [PyProof.Rows.lm_len_rep_flat, sizeLine_eq]; omega, _, r.rep k.toNat, IsTup.new _ _⟩
  exact ⟨.ref s.heap.objs.size, _, J, rfl, q _ (I.hok.fresh (Nat.le_refl _))⟩
section
variable {K : PySem.W.Frag} {σ : L2.St} {H H' : Hp} {ta tb te : TE} {ds : List PyData} {n : Int}
theorem ed_repT (ha : Ed K ta σ H (.tuple ds)) (hb : Ei K tb σ H n) (hne : ds ≠ []) (h2 : 2 ≤ n) (hl : ((ds.length : Nat) : Int) * n ≤ 1000000) : Ed K (tOp (rRepX K) ta tb) σ H (.tuple (List.replicate n.toNat ds).flatten) := ed_op ha hb fun x y H1 _ hx hy Q q => by
  obtain ⟨p, xs, rfl, hs, hd⟩ := L2.Dp.tup_inv hx
  cases L2.Dp.int_inv hy
  have len := L2.DpAll.length hd
  refine ⟨p, n, xs, rfl, rfl, hs, fun z => hne (by subst z; cases hd; rfl), h2, by rw [len]; exact hl, fun l hl => q _ _ (Ex.new hl) (.tup (st_of upd_same) (L2.DpAll.mono (Ex.new hl) (DpAll.rep' hd _)))⟩
theorem rep_one {α : Type} (n : Nat) (x : α) : (List.replicate n [x]).flatten = List.replicate n x := by
  induction n with
  | zero => rfl
  | succ n ih => simp [List.replicate_succ, ih]
end
section
variable {X : Cx} {K : PySem.W.Frag}
theorem pe_fldK (h : X.K = K) {e : Expr} {f : Str} {pos : Pos} {ta : TE} (he : PE X e ta) (hb : attributeBase e f X.env (eval e X.env) = eval e X.env) : PE X (.Attribute e f pos) (tFld K ta f) := h ▸ pe_fld he hb
theorem sl_uniK (h : X.K = K) : SlR X (rSlU K) := h ▸ sl_uni
theorem op_catAK (h : X.K = K) : OpR X (binaryOp .Add) (rCatA K) := h ▸ op_catA
theorem op_repXK (h : X.K = K) : OpR X (binaryOp .Mult) (rRepX K) := h ▸ op_repX
theorem call_isiK (h : X.K = K) : CallR X (.builtin "isinstance") (rIsi K) := h ▸ call_isi
theorem call_tupOfK (h : X.K = K) : CallR X (.type "tuple") (rTupOf K) := h ▸ call_tupOf
theorem call_listOfK (h : X.K = K) : CallR X (.type "list") (rListOf K) := h ▸ call_listOf
end

section
variable {K : PySem.W.Frag} {σ : L2.St} {H H' : Hp} {ta tb tc te tl : TE} {tz : TS} {D : Ends} {tr : TA} {as : List Av} {sp : Sp} {E : XK} {C p dx : Addr} {fs : List (Str × V)} {m : Str} {i : Nat}
theorem q_setCall (ha : Ea K tr σ H as) (hs : ∀ vs H1, Ex H H1 → RlA K H1 vs as → sp vs H1 (fun v H2 => tz D (σ.set i (some v)) H2) E) : tSeq (tAsg (tCall sp [] E tr) (gName i)) tz D σ H := te_call ha hs
theorem q_setMeth (ho : Eg K ta σ H (.v (.ref p))) (hp : H p = some (.ins C dx fs)) (hm : fs.lookup m = none) (ha : Ea K tr σ H as) (hs : ∀ vs H1, Ex H H1 → RlA K H1 vs as → sp (.ref p :: vs) H1 (fun v H2 => tz D (σ.set i (some v)) H2) E) :
    tSeq (tAsg (tMeth C m sp [] E ta tr) (gName i)) tz D σ H := te_meth ho hp hm ha hs
theorem q_setMake (ha : Ea K tr σ H as) (hs : ∀ vs H1 y dy, Ex H H1 → RlA K H1 vs as → H1 y = none → H1 dy = none → dy ≠ y → sp (.ref y :: vs) (upd (upd H1 dy (.own y)) y (.ins C dy [])) (fun v H2 => v = .non ∧ tz D (σ.set i (some (.ref y))) H2) E) :
    tSeq (tAsg (tMake C sp [] E tr) (gName i)) tz D σ H := te_make (Q := fun v H2 => tz D (σ.set i (some v)) H2) ha hs
theorem q_cut {t : TS} (Mid : L2.St → Hp → Prop) (h : t { D with nx := Mid } σ H) (k : ∀ σ' H', Mid σ' H' → tz D σ' H') : Evl.tCut t tz D σ H := ⟨Mid, h, k⟩

theorem lst_upd {l p : Addr} {xs ys zs : List V} {ds : List PyData} (hp : H p = some (.lst xs)) (hl : H l = some (.lst ys)) (hne : p ≠ l) (hd : DpAll K H xs ds) (ht : tupOA ds = true) : (upd H l (.lst zs)) p = some (.lst xs) ∧ DpAll K (upd H l (.lst zs)) xs ds :=
  ⟨by rw [upd_ne hne]; exact hp, L2.DpAll.tx (Tx.lst hl) hd ht⟩
end
end Al
local macro_rules | `(tactic| walk_at "ex") => `(tactic| first | exact Evl.Ex.refl _ | assumption | (refine Evl.Ex.trans ?_ (by assumption); walk_at "ex"))
local macro_rules | `(tactic| walk_at "dp") => `(tactic| first | assumption | exact L2.Dp.int _ | exact L2.Dp.bl _ | exact L2.Dp.non | exact L2.Dp.str _ | (refine L2.Dp.mono ?_ (by assumption); walk_at "ex"))
local macro_rules | `(tactic| walk_at "ev1") => `(tactic| first
  | with_reducible exact Al.ea_nil
  | with_reducible apply Al.ea_cons
  | with_reducible exact Al.ed_int
  | with_reducible exact Al.ed_bl
  | with_reducible exact Al.ed_non
  | with_reducible exact Al.ed_str
  | ((with_reducible apply Al.eg_vard); (focus rfl); (focus (walk_at "dp")))
  | ((with_reducible apply Al.eg_varv); rfl)
  | with_reducible apply Al.ei_add
  | with_reducible apply Al.ei_sub
  | with_reducible apply Al.ei_mul
  | with_reducible apply Al.ei_div
  | with_reducible apply Al.ei_mod
  | with_reducible apply Al.ei_neg
  | with_reducible apply Al.eb_lt
  | with_reducible apply Al.eb_le
  | with_reducible apply Al.eb_gt
  | with_reducible apply Al.eb_ge
  | with_reducible apply Al.eb_chLeLe
  | with_reducible apply Al.eb_not
  | with_reducible apply Al.et_tst
  | with_reducible apply Al.eb_is_int
  | with_reducible apply Al.eb_is_bool
  | with_reducible apply Al.eb_is_tuple
  | with_reducible apply Al.eb_is_list
  | with_reducible apply Al.eb_is_str
  | with_reducible apply Al.ei_int
  | with_reducible apply Al.ei_abs
  | with_reducible apply Al.ei_max2
  | with_reducible apply Al.ei_min2)
local macro_rules | `(tactic| walk_at "ead") => `(tactic| first
  | with_reducible exact Al.ead_nil
  | ((with_reducible apply Al.ead_cons); (focus (walk_at "ev"; done)); (focus (walk_at "ead"))))
local macro_rules | `(tactic| walk_at "ev1") => `(tactic| first
  | ((with_reducible apply Al.ed_tupD); (focus (walk_at "ead")); (focus first | (simp; done) | decide))
  | ((with_reducible apply Al.en_lstD); (focus (walk_at "ead")); (focus first | (simp; done) | decide))
  | ((with_reducible refine Al.En.eg (Al.en_lstD ?_ ?_)); (focus (walk_at "ead")); (focus first | (simp; done) | decide)))
local macro_rules | `(tactic| walk_at "ev") => `(tactic| repeat' (walk_at "ev1"))
namespace Lawk02
open PySem L2 Al PySem.Spec PyProof.Rows
open Evl (Ex)

def top (i : Nat) : Stmt := PySem.Challenge.pw_alikeread_k02_rows_are_read.main.body.getD i (.Pass ⟨0, 0, 0, 0⟩)
def fn : List He.DefD := [dd ("_law_draws", none) "_law_draws" "_law_draws" (top 20),
  dd ("is_number", none) "is_number" "is_number" (top 13),
  dd ("are_letters", none) "are_letters" "are_letters" (top 14),
  dd ("is_word", none) "is_word" "is_word" (top 15),
  dd ("_law_words", none) "_law_words" "_law_words" (top 21),
  dd ("Book", some "__init__") "__init__" "Book.__init__" (inClass (top 17) 0),
  dd ("Book", some "words") "words" "Book.words" (inClass (top 17) 1),
  dd ("_are_different", none) "_are_different" "_are_different" (top 16),
  dd ("Book", some "starts_apart") "starts_apart" "Book.starts_apart" (inClass (top 17) 5),
  dd ("Book", some "length") "length" "Book.length" (inClass (top 17) 3),
  dd ("Book", some "read") "read" "Book.read" (inClass (top 17) 4),
  dd ("Book", some "beginning") "beginning" "Book.beginning" (inClass (top 17) 8),
  dd ("Book", some "row_of") "row_of" "Book.row_of" (inClass (top 17) 9),
  dd ("_law_same_as", none) "_law_same_as" "_law_same_as" (top 19),
  dd ("Book", some "ends_apart") "ends_apart" "Book.ends_apart" (inClass (top 17) 6),
  dd ("_law_text", none) "_law_text" "_law_text" (top 22),
  dd ("_law_row", none) "_law_row" "_law_row" (top 23),
  dd ("_law_told", none) "_law_told" "_law_told" (top 24),
  dd ("law", none) "law" "law" (top 25)]
def fs : List Fact := [fFree "abs",
  fFree "int",
  fFree "range",
  fFree "len",
  fInt "LONGEST_WORD" 5000,
  fGlo "are_letters",
  fFree "all",
  fGlo "is_number",
  fFree "isinstance",
  fFree "tuple",
  fFree "bool",
  fFree "list",
  fFree "max",
  fInt "MOST_WORDS" 60,
  fInt "MOST_LETTERS" 60,
  fExc "BadBook",
  fGlo "BadBook",
  fGlo "is_word",
  fCls "Book",
  fNoat "Book" "letters",
  fNoat "Book" "size",
  fNoat "Book" "_words",
  fFree "set",
  fGlo "_are_different",
  fExc "BadRow",
  fGlo "BadRow",
  fFree "sum",
  fMeth "Book" "length",
  fInt "LONGEST_TEXT" 100000,
  fExc "TooLong",
  fGlo "TooLong",
  fMeth "Book" "starts_apart",
  fExc "NotApart",
  fGlo "NotApart",
  fMeth "Book" "beginning",
  fGlo "_law_same_as",
  fFree "str",
  fMeth "Book" "read",
  fMeth "Book" "row_of",
  fGlo "AlikeError",
  fExm "BadRow" "AlikeError" true,
  fEcl "BadRow",
  fKit "BadRow" "BadRow" true,
  fKit "BadRow" "NotApart" false,
  fKit "BadRow" "TooLong" false,
  fExm "TooLong" "AlikeError" true,
  fEcl "TooLong",
  fKit "TooLong" "BadRow" false,
  fKit "TooLong" "NotApart" false,
  fKit "TooLong" "TooLong" true,
  fExm "NotApart" "AlikeError" true,
  fEcl "NotApart",
  fKit "NotApart" "BadRow" false,
  fKit "NotApart" "NotApart" true,
  fKit "NotApart" "TooLong" false,
  fGlo "_law_draws",
  fGlo "_law_words",
  fMk "Book",
  fGlo "Book",
  fMeth "Book" "ends_apart",
  fGlo "_law_text",
  fGlo "_law_told",
  fGlo "_law_row",
  fGlo "law"]

def okDr (ds : List Int) : Prop := ∀ x ∈ ds, 0 ≤ x ∧ x < 65521
theorem okDr.app {ds : List Int} {x : Int} (h : okDr ds) (h0 : 0 ≤ x) (h1 : x < 65521) : okDr (ds ++ [x]) := fun y hy => by
  rcases List.mem_append.mp hy with hy | hy
  · exact h y hy
  · rw [List.mem_singleton] at hy
    subst hy
    exact ⟨h0, h1⟩
theorem ints_app (ds : List Int) (x : Int) : ds.map V.int ++ [V.int x] = (ds ++ [x]).map V.int := by simp
theorem cmulL {a b : Int} (h0 : 0 ≤ a) (h1 : a < 2147483648) : CMul a b := .inl ⟨by omega, by omega⟩

def DrI (H0 : Hp) (l : Addr) (n : Nat) (H : Hp) : Prop := H0 l = none ∧ Ex H0 H ∧ ∃ ds : List Int, H l = some (.lst (ds.map V.int)) ∧ okDr ds ∧ ds.length ≤ n
theorem DrI.up {H0 H H' : Hp} {l : Addr} {n : Nat} (h : DrI H0 l n H) (e : Ex H H') : DrI H0 l n H' := by
  obtain ⟨h1, h2, ds, h3, h4, h5⟩ := h
  exact ⟨h1, h2.trans e, ds, e _ _ h3, h4, h5⟩
theorem DrI.more {H0 H : Hp} {l : Addr} {n k : Nat} (h : DrI H0 l n H) (e : n ≤ k) : DrI H0 l k H := by
  obtain ⟨h1, h2, ds, h3, h4, h5⟩ := h
  exact ⟨h1, h2, ds, h3, h4, Nat.le_trans h5 e⟩
theorem DrI.app {H0 H : Hp} {l : Addr} {n : Nat} {ds : List Int} {x : Int} (h : DrI H0 l n H) (hd : H l = some (.lst (ds.map V.int))) (hk : okDr ds) (hl : ds.length ≤ n) (h0 : 0 ≤ x) (h1 : x < 65521) : DrI H0 l (n + 1) (upd H l (.lst (ds.map V.int ++ [V.int x]))) := by
  obtain ⟨a1, a2, _⟩ := h
  exact ⟨a1, a2.mut a1, ds ++ [x], by rw [upd_same, ints_app], hk.app h0 h1, by simp; omega⟩
def sp_law_draws (K : PySem.W.Frag) : Sp := fun vs H Q _ => ∃ (a : Addr) (ns : List Int) (many : Int), vs = [.ref a, .int many] ∧ SqL K H a (ns.map V.int) ∧ ns.length ≤ 63 ∧ (0 ≤ many ∧ many ≤ 5000) ∧
  ∀ ds : List Int, ds.length = many.toNat → okDr ds → RetN K H Q (ds.map .int)
abbrev s__law_draws : Stmt := top 20
theorem sc__law_draws : FnScope ["script", "many", "draws", "seed", "cell", "number", "k"] ["script", "many"] (defScope s__law_draws) := ⟨rfl, rfl, rfl, by decide +kernel, rfl, by decide +kernel, by decide +kernel⟩
theorem ok__law_draws {P : Program} {w : World} {K : PySem.W.Frag} {mg : Str → Option Value} {base : Heap} (T : Top fs fn K mg) : Df P w K mg base 1 ("_law_draws", none) ["script", "many"] (sp_law_draws K) := by
  refine df_of T 0 (name := "_law_draws") (qual := "_law_draws") (s := s__law_draws) (N := ["script", "many", "draws", "seed", "cell", "number", "k"]) (k := 0) rfl sc__law_draws (fun vs H Q E hsp => ?_) (fun _ _ _ _ _ _ us hl => match us, hl with | [_, _], _ => rfl) (fun cdv A outer s0 H vs Q E hr hsp => ?_)
  · obtain ⟨_, _, _, rfl, _⟩ := hsp
    rfl
  · obtain ⟨a, ns, many, rfl, hsp⟩ := hsp
    refine ⟨_, (pss_cons (ps_set (i := 2) sc__law_draws.nd rfl (.inl rfl) (pe_lst pa_nil))
      (pss_cons (ps_set (i := 3) sc__law_draws.nd rfl (.inl rfl) (pe_int))
      (pss_cons (ps_for (passes_of rfl) rfl (pi_list (pe_slice sl_uni (pv 0) po_none (po_some (pe_int)))) (pg_name (i := 4) sc__law_draws.nd rfl (.inl rfl))
      (pss_cons (ps_set (i := 5) sc__law_draws.nd rfl (.inl rfl) (pe_callB call_absU (by rfl) (T.free 0) bt_abs (pa_cons (pv 4) pa_nil)))
      (pss_cons (ps_set (i := 3) sc__law_draws.nd rfl (.inl rfl) (pe_op op_modI (pe_callTy call_intU (by rfl) (T.free 1) bt_int (pa_cons (pe_op op_addI (pe_op op_addI (pe_op op_mulI (pv 3) (pe_int)) (pv 5)) (pe_int)) pa_nil)) (pe_int)))
      (pss_one (ps_if (pt_cmpR op_geI (pv 5) (pe_op op_powI (pe_int) (pe_int)) (nomark _))
      (pss_one (ps_for (passes_of rfl) rfl (pi_range1 (by rfl) (T.free 2) (pa_cons (pe_int) pa_nil)) (pg_name (i := 6) sc__law_draws.nd rfl (.inl rfl))
      (pss_one (ps_if (pt_cmpR op_gtI (pv 5) (pe_int) (nomark _))
      (pss_cons (ps_expr (pe_bm PySem.F.plainAttrs_list PySem.F.slot_list_append PySem.F.type_list_append mt_append (pv 2) (pa_cons (pe_op op_modI (pe_callTy call_intU (by rfl) (T.free 1) bt_int (pa_cons (pv 5) pa_nil)) (pe_int)) pa_nil)))
      (pss_one (ps_set (i := 5) sc__law_draws.nd rfl (.inl rfl) (pe_op op_divI (pv 5) (pe_int)))))
      pss_nil))))
      (pss_one (ps_expr (pe_bm PySem.F.plainAttrs_list PySem.F.slot_list_append PySem.F.type_list_append mt_append (pv 2) (pa_cons (pe_op op_modI (pe_op op_divI (pe_callTy call_intU (by rfl) (T.free 1) bt_int (pa_cons (pe_op op_addI (pe_op op_mulI (pv 3) (pe_int)) (pe_int)) pa_nil)) (pe_int)) (pe_int)) pa_nil)))))))))
      (pss_cons (ps_for (passes_of rfl) rfl (pi_range1 (by rfl) (T.free 2) (pa_cons (pv 1) pa_nil)) (pg_name (i := 6) sc__law_draws.nd rfl (.inl rfl))
      (pss_one (ps_if (pt_cmpR op_ltI (pe_callB call_lenU (by rfl) (T.free 3) bt_len (pa_cons (pv 2) pa_nil)) (pv 1) (nomark _))
      (pss_cons (ps_set (i := 3) sc__law_draws.nd rfl (.inl rfl) (pe_op op_modI (pe_callTy call_intU (by rfl) (T.free 1) bt_int (pa_cons (pe_op op_addI (pe_op op_addI (pe_op op_mulI (pv 3) (pe_int)) (pv 6)) (pe_int)) pa_nil)) (pe_int)))
      (pss_one (ps_expr (pe_bm PySem.F.plainAttrs_list PySem.F.slot_list_append PySem.F.type_list_append mt_append (pv 2) (pa_cons (pe_op op_modI (pe_op op_divI (pe_callTy call_intU (by rfl) (T.free 1) bt_int (pa_cons (pv 3) pa_nil)) (pe_int)) (pe_int)) pa_nil)))))
      pss_nil)))
      (pss_one (ps_ret (pe_slice sl_uni (pv 2) po_none (po_some (pv 1))))))))), ?_⟩
    try dsimp only [cxOf]
    obtain ⟨hS, hlen, hm, hQ⟩ := hsp
    refine q_setN (K := K) (ds := []) (en_lst ea_nil) fun l xs0 H1 hl e1 hx0 hd0 => ?_
    cases hd0
    refine q_seti (K := K) (n := 7) (by walk_at "ev") fun H2 e2 => ?_
    have D2 : DrI H l 0 H2 := ⟨hl, e1.trans e2, [], e2 _ _ hx0, (fun _ z => by cases z), Nat.le_refl _⟩
    have hdl : Dp K H2 (.ref a) (.list (ns.map .int)) := .lst (Evl.ex_l (e1.trans e2) hS) (L2.DpAll.ints ns)
    refine q_forNL (en_sl (eg_vard rfl hdl) eo_no (eo_so (n := 63) (by walk_at "ev"))) fun p xs H3 hp e3 hx hd => ?_
    have hpl : p ≠ l := fun z => by subst z; rw [e2 _ _ hx0] at hp; cases hp
    have hxz : ∀ i x, xs[i]? = some x → ∃ z, x = V.int z := fun i x h => by
      obtain ⟨d, h1, h2⟩ := L2.DpAll.get hd h
      have h3 : d ∈ ns.map PyData.int := by
        have h4 := List.mem_of_getElem? h1
        unfold cutX at h4
        exact List.mem_of_mem_drop (List.mem_of_mem_take h4)
      obtain ⟨z, _, rfl⟩ := List.mem_map.mp h3
      exact ⟨z, L2.Dp.int_inv h2⟩
    have hxl : xs.length ≤ 63 := by
      rw [L2.DpAll.length hd]
      unfold cutX
      rw [List.length_take, List.length_drop, List.length_map]
      omega
    refine loop_list (Pv := fun i σ H' => DrI H l (60 * i) H' ∧ H' p = some (.lst xs) ∧ ∃ (seed : Int) (o4 o5 o6 : Option V), σ = [some (.ref a), some (.int many), some (.ref l), some (.int seed), o4, o5, o6] ∧ 0 ≤ seed ∧ seed < 2147483647)
      ⟨D2.up e3, hx, 7, none, none, none, rfl, by omega, by omega⟩ (fun i σ H' _ q => Evl.sq_of q.2.1) ?_ ?_
    · -- a cell
      rintro i x σ H' hi ⟨D, hp', seed, o4, o5, o6, rfl, s0, s1⟩
      have hi63 : i < 63 := Nat.lt_of_lt_of_le (List.getElem?_eq_some_iff.mp hi).1 hxl
      obtain ⟨z, rfl⟩ := hxz i x hi
      refine q_seti (K := K) (ei_abs (by walk_at "ev")) fun H4 e4 => ?_
      generalize hnum : (if z < 0 then -z else z) = number
      have hnn : 0 ≤ number := by rw [← hnum]; split <;> omega
      refine q_seti (K := K) (n := (seed * 48271 + number + 11) % 2147483647) (by
        walk_at "ev"
        · exact cmulL s0 (by omega)
        · decide) fun H5 e5 => ?_
      have t0 := Int.emod_nonneg (seed * 48271 + number + 11) (b := 2147483647) (by decide)
      have t1 := Int.emod_lt_of_pos (seed * 48271 + number + 11) (b := 2147483647) (by decide)
      generalize (seed * 48271 + number + 11) % 2147483647 = sd at t0 t1 ⊢
      have D5 : DrI H l (60 * i) H5 := D.up (e4.trans e5)
      have p5 := (e4.trans e5) _ _ hp'
      refine s_if (b := decide ((10 : Int) ^ 18 ≤ number)) ?_ (fun hb H6 e6 => ?_) (fun hb H6 e6 => ?_)
      · exact et_tst (K := K) (eb_ge (m := (10 : Int) ^ 18) (by walk_at "ev") (ei_pow (n := 10) (m := 18) (by walk_at "ev") (by walk_at "ev") ⟨by decide, by decide, by decide⟩))
      · -- a great one
        refine s_forR1 (K := K) (n := 60) (by walk_at "ev") (by decide) (by decide) fun H7 e7 => ?_
        refine loop_range (Pv := fun j σ H' => DrI H l (60 * i + j) H' ∧ H' p = some (.lst xs) ∧ ∃ (nb : Int) (o6 : Option V), σ = [some (.ref a), some (.int many), some (.ref l), some (.int sd), some (.int z), some (.int nb), o6] ∧ 0 ≤ nb)
          ⟨D5.up (e6.trans e7), (e6.trans e7) _ _ p5, number, o6, rfl, hnn⟩ ?_ ?_
        · rintro j σ H8 hj ⟨D8, p8, nb, o6', rfl, nb0⟩
          refine s_when (b := decide (0 < nb)) (et_tst (K := K) (by walk_at "ev")) (fun hb H9 e9 => ?_) (fun hb H9 e9 => ?_)
          · have hb' : 0 < nb := of_decide_eq_true hb
            obtain ⟨ds, hds, hok, hle⟩ := (D8.up e9).2.2
            refine q_app (eg_varv rfl) hds (by rw [List.length_map]; have : j < 60 := hj; omega) (a := .d (.int (nb % 1009))) (by walk_at "ev"; decide) fun v Ha ea hv => ?_
            cases L2.Dp.int_inv hv
            have u0 := Int.emod_nonneg nb (b := 1009) (by decide)
            have u1 := Int.emod_lt_of_pos nb (b := 1009) (by decide)
            have Da := (D8.up (e9.trans ea)).app (ea _ _ hds) hok hle u0 (by omega)
            refine s_seti (K := K) (n := nb / 1009) (by walk_at "ev"; decide) fun Hb eb => ?_
            refine nx ⟨(Da.up eb).more (by omega), eb _ _ (by rw [upd_ne hpl]; exact (e9.trans ea) _ _ p8), nb / 1009, some (.int (j : Nat)), rfl, Int.ediv_nonneg nb0 (by decide)⟩
          · exact nx ⟨(D8.up e9).more (by omega), e9 _ _ p8, nb, some (.int (j : Nat)), rfl, nb0⟩
        · rintro σ H8 ⟨D8, p8, nb, o6', rfl, nb0⟩
          exact nx ⟨D8.more (by omega), p8, sd, some (.int z), some (.int nb), o6', rfl, t0, t1⟩
      · -- another one
        obtain ⟨ds, hds, hok, hle⟩ := (D5.up e6).2.2
        refine s_app (eg_varv rfl) hds (by rw [List.length_map]; omega) (a := .d (.int ((sd * 16807 + 5) / 3 % 65521))) (by
          walk_at "ev"
          · exact cmulL t0 (by omega)
          · decide
          · decide) fun v Ha ea hv => ?_
        cases L2.Dp.int_inv hv
        have u0 := Int.emod_nonneg ((sd * 16807 + 5) / 3) (b := 65521) (by decide)
        have u1 := Int.emod_lt_of_pos ((sd * 16807 + 5) / 3) (b := 65521) (by decide)
        refine nx ⟨((D5.up (e6.trans ea)).app (ea _ _ hds) hok hle u0 u1).more (by omega), by rw [upd_ne hpl]; exact (e6.trans ea) _ _ p5, sd, some (.int z), some (.int number), o6, rfl, t0, t1⟩
    · -- behind the cells
      rintro σ H' ⟨D, hp', seed, o4, o5, o6, rfl, s0, s1⟩
      refine nx ?_
      refine q_forR1 (K := K) (n := many) (by walk_at "ev") (by omega) (by omega) fun H4 e4 => ?_
      refine loop_range (Pv := fun j σ H' => H l = none ∧ Ex H H' ∧ (∃ ds : List Int, H' l = some (.lst (ds.map V.int)) ∧ okDr ds ∧ ds.length ≤ 10000 ∧ (j : Int) ≤ ds.length) ∧ ∃ (seed : Int) (o6 : Option V), σ = [some (.ref a), some (.int many), some (.ref l), some (.int seed), o4, o5, o6] ∧ 0 ≤ seed ∧ seed < 2147483647)
        ?_ ?_ ?_
      · obtain ⟨d1, d2, ds, d3, d4, d5⟩ := D.up e4
        exact ⟨d1, d2, ⟨ds, d3, d4, by omega, by omega⟩, seed, o6, rfl, s0, s1⟩
      · rintro j σ H5 hj ⟨hl5, e5, ⟨ds, hds, hok, hle, hjd⟩, sd, o6', rfl, t0, t1⟩
        have hj' : (j : Int) < many := by omega
        refine s_when (b := decide (((ds.length : Nat) : Int) < many)) ?_ (fun hb H6 e6 => ?_) (fun hb H6 e6 => ?_)
        · exact et_tst (K := K) (eb_lt (ei_is (ei_lenV (eg_varv rfl) (Evl.sq_of hds)) (by rw [List.length_map])) (by walk_at "ev"))
        · have hb' : ((ds.length : Nat) : Int) < many := of_decide_eq_true hb
          refine q_seti (K := K) (n := (sd * 69621 + (j : Int) + 1) % 2147483647) (by
            walk_at "ev"
            · exact cmulL t0 (by omega)
            · decide) fun H7 e7 => ?_
          have w0 := Int.emod_nonneg (sd * 69621 + (j : Int) + 1) (b := 2147483647) (by decide)
          have w1 := Int.emod_lt_of_pos (sd * 69621 + (j : Int) + 1) (b := 2147483647) (by decide)
          generalize (sd * 69621 + (j : Int) + 1) % 2147483647 = s2 at w0 w1 ⊢
          refine s_app (eg_varv rfl) ((e6.trans e7) _ _ hds) (by rw [List.length_map]; omega) (a := .d (.int (s2 / 7 % 65521))) (by
            walk_at "ev"
            · decide
            · decide) fun v Ha ea hv => ?_
          cases L2.Dp.int_inv hv
          have u0 := Int.emod_nonneg (s2 / 7) (b := 65521) (by decide)
          have u1 := Int.emod_lt_of_pos (s2 / 7) (b := 65521) (by decide)
          refine nx ⟨hl5, (e5.trans ((e6.trans e7).trans ea)).mut hl5, ⟨ds ++ [s2 / 7 % 65521], by rw [upd_same, ints_app], hok.app u0 u1, by simp; omega, by simp; omega⟩, s2, some (.int (j : Nat)), rfl, w0, w1⟩
        · have hb' : ¬ ((ds.length : Nat) : Int) < many := of_decide_eq_false hb
          exact nx ⟨hl5, e5.trans e6, ⟨ds, e6 _ _ hds, hok, hle, by omega⟩, sd, some (.int (j : Nat)), rfl, t0, t1⟩
      · rintro σ H5 ⟨hl5, e5, ⟨ds, hds, hok, hle, hjd⟩, sd, o6', rfl, t0, t1⟩
        refine nx (s_retN (en_sl (lo := none) (hi := some many) (ds := ds.map .int) (eg_vard rfl (.lst (Evl.sq_of hds) (L2.DpAll.ints ds))) eo_no (eo_so (by walk_at "ev"))) fun q ys H6 hq e6 hy hdy => ?_)
        have ec : cutX (ds.map .int) none (some many) = (ds.take many.toNat).map .int := by
          unfold cutX
          have h1 : HT.sIx (ds.map PyData.int).length 0 none = 0 := rfl
          have h2 : HT.sIx (ds.map PyData.int).length (ds.map PyData.int).length (some many) = many.toNat := by
            obtain ⟨k, rfl⟩ : ∃ k : Nat, many = (k : Nat) := ⟨many.toNat, by omega⟩
            rw [HT.sIx_nat, List.length_map]
            omega
          rw [h1, h2, List.drop_zero, Nat.sub_zero, List.map_take]
        rw [ec] at hdy
        refine hQ (ds.take many.toNat) (by rw [List.length_take]; omega) (fun x hx => hok x (List.mem_of_mem_take hx)) q ys H6 ?_ (e5.trans e6) hy hdy
        exact Evl.fresh_back e5 hq



def isNum (d : PyData) (lo hi : Int) : Bool := match d with
  | .int i => decide (lo ≤ i) && decide (i ≤ hi)
  | _ => false
theorem isNum_int {d : PyData} {lo hi : Int} (h : isNum d lo hi = true) : ∃ i, d = .int i ∧ lo ≤ i ∧ i ≤ hi := by
  cases d <;> simp [isNum] at h
  exact ⟨_, rfl, h⟩
theorem isNum_of {i lo hi : Int} (h0 : lo ≤ i) (h1 : i ≤ hi) : isNum (.int i) lo hi = true := by simp [isNum, h0, h1]
def sp_is_number (K : PySem.W.Frag) : Sp := fun vs H Q _ => ∃ (v : V) (d : PyData) (lo hi : Int), vs = [v, .int lo, .int hi] ∧ Dp K H v d ∧ RetD K H Q (.bool (isNum d lo hi))
theorem eb_isNum {K : PySem.W.Frag} {σ : L2.St} {H : Hp} {ta tb tc : TE} {E : XK} {d : PyData} {lo hi : Int} (ha : Ed K ta σ H d) (hb : Ei K tb σ H lo) (hc : Ei K tc σ H hi) :
    Eb K (tCall (sp_is_number K) [] E (tCons ta (tCons tb (tCons tc tNil)))) σ H (isNum d lo hi) :=
  ed_call (ea_cons ha (ea_cons hb (ea_cons hc ea_nil))) fun vs H1 _ r Q q => by
    match vs, r with
    | [v, w, z], r =>
      obtain ⟨r1, r2, r3, _⟩ := r
      cases L2.Dp.int_inv r2
      cases L2.Dp.int_inv r3
      exact ⟨v, d, lo, hi, rfl, r1, q⟩
abbrev s_is_number : Stmt := top 13
theorem sc_is_number : FnScope ["value", "least", "most"] ["value", "least", "most"] (defScope s_is_number) := ⟨rfl, rfl, rfl, by decide +kernel, rfl, by decide +kernel, by decide +kernel⟩
theorem ok_is_number {P : Program} {w : World} {K : PySem.W.Frag} {mg : Str → Option Value} {base : Heap} (T : Top fs fn K mg) : Df P w K mg base 1 ("is_number", none) ["value", "least", "most"] (sp_is_number K) := by
  refine df_of T 1 (name := "is_number") (qual := "is_number") (s := s_is_number) (N := ["value", "least", "most"]) (k := 0) rfl sc_is_number (fun vs H Q E hsp => ?_) (fun _ _ _ _ _ _ us hl => match us, hl with | [_, _, _], _ => rfl) (fun cdv A outer s0 H vs Q E hr hsp => ?_)
  · obtain ⟨_, _, _, _, rfl, _⟩ := hsp
    rfl
  · obtain ⟨v, d, lo, hi, rfl, hsp⟩ := hsp
    refine ⟨_, (pss_one (ps_ret ((pe_and (pe_callB call_isi (by rfl) (T.free 8) bt_isinstance (pa_cons (pv 0) (pa_cons (pe_bltn (v := .ty "int") rfl (T.free 1) bt_int rfl) pa_nil))) (pe_and (pe_not (pe_callB call_isi (by rfl) (T.free 8) bt_isinstance (pa_cons (pv 0) (pa_cons (pe_bltn (v := .ty "bool") rfl (T.free 10) bt_bool rfl) pa_nil)))) (pe_one (pe_chain op_leI op_leI (pv 1) (pv 0) (pv 2)))))))), ?_⟩
    try dsimp only [cxOf]
    obtain ⟨hd, hQ⟩ := hsp
    refine s_ret (a := .d (.bool (isNum d lo hi))) ?_ (fun v' H1 e r => hQ v' H1 e r)
    refine eb_is (m := isNum d lo hi) (eb_and (k := isI d) (l := !isB d && isNum d lo hi) (by walk_at "ev") (fun h1 => eb_and (by walk_at "ev") (fun h2 => ?_))) ?_
    · cases d with
      | int i => exact eb_chLeLe (by walk_at "ev") (by walk_at "ev") (by walk_at "ev")
      | bool b => simp [isB] at h2
      | _ => simp [isI] at h1
    · cases d <;> simp [isI, isB, isNum]



def areLet (d : PyData) (m : Int) : Bool := match d with
  | .tuple ds => ds.all fun x => isNum x 0 (m - 1)
  | _ => false

def fewT (d : PyData) : Prop := ∀ ds, d = .tuple ds → ds.length ≤ 1000000
def sp_are_letters (K : PySem.W.Frag) : Sp := fun vs H Q _ => ∃ (v : V) (d : PyData) (m : Int), vs = [v, .int m] ∧ Dp K H v d ∧ fewT d ∧ RetD K H Q (.bool (areLet d m))
theorem eb_areLet {K : PySem.W.Frag} {σ : L2.St} {H : Hp} {ta tb : TE} {E : XK} {d : PyData} {m : Int} (ha : Ed K ta σ H d) (hb : Ei K tb σ H m) (hf : fewT d) :
    Eb K (tCall (sp_are_letters K) [] E (tCons ta (tCons tb tNil))) σ H (areLet d m) :=
  ed_call (ea_cons ha (ea_cons hb ea_nil)) fun vs H1 _ r Q q => by
    match vs, r with
    | [v, w], r =>
      obtain ⟨r1, r2, _⟩ := r
      cases L2.Dp.int_inv r2
      exact ⟨v, d, m, rfl, r1, hf, q⟩
abbrev s_are_letters : Stmt := top 14
theorem sc_are_letters : FnScope ["value", "letters", "one"] ["value", "letters"] (defScope s_are_letters) := ⟨rfl, rfl, rfl, by decide +kernel, rfl, by decide +kernel, by decide +kernel⟩
theorem ok_are_letters {P : Program} {w : World} {K : PySem.W.Frag} {mg : Str → Option Value} {base : Heap} (T : Top fs fn K mg) : Df P w K mg base 2 ("are_letters", none) ["value", "letters"] (sp_are_letters K) := by
  refine df_of T 2 (name := "are_letters") (qual := "are_letters") (s := s_are_letters) (N := ["value", "letters", "one"]) (k := 1) rfl sc_are_letters (fun vs H Q E hsp => ?_) (fun _ _ _ _ _ _ us hl => match us, hl with | [_, _], _ => rfl) (fun cdv A outer s0 H vs Q E hr hsp => ?_)
  · obtain ⟨_, _, _, rfl, _⟩ := hsp
    rfl
  · obtain ⟨⟨fd_is_number, G_is_number, b_is_number⟩, k_is_number⟩ := ok_is_number (P := P) (w := w) (base := base) T
    obtain ⟨v, d, m, rfl, hsp⟩ := hsp
    refine ⟨_, (pss_one (ps_ret ((pe_and (pe_callB call_isi (by rfl) (T.free 8) bt_isinstance (pa_cons (pv 0) (pa_cons (pe_bltn (v := .ty "tuple") rfl (T.free 9) bt_tuple rfl) pa_nil))) (pe_one (pe_callB (cr_all rfl) (by rfl) (T.free 6) bt_all (pa_cons (pe_lc (own := [("one", 2)]) (g := gName 2) rfl sc_are_letters.nd (pi_tup (pv 0)) (blkOk_by (own := [("one", 2)]) (N := ["value", "letters", "one"]) (sc := defScope s_are_letters) (by decide +kernel)) (fun _ _ _ _ _ => (pg_name (i := 2) sc_are_letters.nd rfl (Or.inl rfl))) (fun _ _ _ _ _ => pts_nil) (fun _ _ _ _ _ => (pe_call G_is_number (hr.mono (by decide)) rfl (T.glo 7) k_is_number b_is_number .nil passL (pa_cons (pv 2) (pa_cons (pe_int) (pa_cons (pe_op op_subI (pv 1) (pe_int)) pa_nil)))))) pa_nil))))))), ?_⟩
    try dsimp only [cxOf]
    obtain ⟨hd, hf, hQ⟩ := hsp
    refine s_ret (a := .d (.bool (areLet d m))) ?_ (fun v' H1 e r => hQ v' H1 e r)
    refine eb_is (m := areLet d m) (eb_and (k := isT d) (l := areLet d m) (by walk_at "ev") (fun h1 => ?_)) ?_
    · cases d with
      | tuple ds =>
        have hl := hf ds rfl
        have q := en_mapT (j := 2) (te := _) (K := K) (H := H) (σ := L2.start ["value", "letters", "one"] [v, .int m]) (vs := [2]) (tl := tVar 0) (es := ds) (fun x => .bool (isNum x 0 (m - 1))) (eg_vard rfl hd) hl (fun _ => rfl) (fun _ _ => rfl)
          (fun x w H1 _ e1 hw => eb_isNum (E := E0) (ta := tVar 2) (tb := tC (.int 0)) (tc := tOp rSubI (tVar 1) (tC (.int 1))) (by walk_at "ev") (by walk_at "ev") (by walk_at "ev"))
        refine eb_is (eb_all (bs := ds.map fun x => isNum x 0 (m - 1)) ?_) (by rw [List.all_map]; rfl)
        rw [List.map_map]
        exact q.eg
      | _ => simp [isT] at h1
    · cases d <;> simp [isT, areLet]


def isWd (d : PyData) (m : Int) : Bool := areLet d m && match d with
  | .tuple ds => decide ((1 : Int) ≤ (ds.length : Nat)) && decide (((ds.length : Nat) : Int) ≤ 5000)
  | _ => false
def sp_is_word (K : PySem.W.Frag) : Sp := fun vs H Q _ => ∃ (v : V) (d : PyData) (m : Int), vs = [v, .int m] ∧ Dp K H v d ∧ fewT d ∧ RetD K H Q (.bool (isWd d m))
theorem eb_isWd {K : PySem.W.Frag} {σ : L2.St} {H : Hp} {ta tb : TE} {E : XK} {d : PyData} {m : Int} (ha : Ed K ta σ H d) (hb : Ei K tb σ H m) (hf : fewT d) :
    Eb K (tCall (sp_is_word K) [] E (tCons ta (tCons tb tNil))) σ H (isWd d m) :=
  ed_call (ea_cons ha (ea_cons hb ea_nil)) fun vs H1 _ r Q q => by
    match vs, r with
    | [v, w], r =>
      obtain ⟨r1, r2, _⟩ := r
      cases L2.Dp.int_inv r2
      exact ⟨v, d, m, rfl, r1, hf, q⟩
abbrev s_is_word : Stmt := top 15
theorem sc_is_word : FnScope ["value", "letters"] ["value", "letters"] (defScope s_is_word) := ⟨rfl, rfl, rfl, by decide +kernel, rfl, by decide +kernel, by decide +kernel⟩
theorem ok_is_word {P : Program} {w : World} {K : PySem.W.Frag} {mg : Str → Option Value} {base : Heap} (T : Top fs fn K mg) : Df P w K mg base 3 ("is_word", none) ["value", "letters"] (sp_is_word K) := by
  refine df_of T 3 (name := "is_word") (qual := "is_word") (s := s_is_word) (N := ["value", "letters"]) (k := 2) rfl sc_is_word (fun vs H Q E hsp => ?_) (fun _ _ _ _ _ _ us hl => match us, hl with | [_, _], _ => rfl) (fun cdv A outer s0 H vs Q E hr hsp => ?_)
  · obtain ⟨_, _, _, rfl, _⟩ := hsp
    rfl
  · obtain ⟨⟨fd_are_letters, G_are_letters, b_are_letters⟩, k_are_letters⟩ := ok_are_letters (P := P) (w := w) (base := base) T
    obtain ⟨v, d, m, rfl, hsp⟩ := hsp
    refine ⟨_, (pss_one (ps_ret ((pe_and (pe_call G_are_letters (hr.mono (by decide)) rfl (T.glo 5) k_are_letters b_are_letters .nil (passes_call (takes_of rfl rfl rfl rfl) (fun _ _ _ _ h => h)) (pa_cons (pv 0) (pa_cons (pv 1) pa_nil))) (pe_one (pe_chain op_leI op_leI (pe_int) (pe_callB call_lenU (by rfl) (T.free 3) bt_len (pa_cons (pv 0) pa_nil)) (pe_gi (T.int 4)))))))), ?_⟩
    try dsimp only [cxOf]
    obtain ⟨hd, hf, hQ⟩ := hsp
    refine s_ret (a := .d (.bool (isWd d m))) ?_ (fun v' H1 e r => hQ v' H1 e r)
    refine eb_and (eb_areLet (by walk_at "ev") (by walk_at "ev") hf) (fun h1 => ?_)
    cases d with
    | tuple ds => exact eb_chLeLe (by walk_at "ev") (ei_lenT (by walk_at "ev")) (by walk_at "ev")
    | _ => simp [areLet] at h1

abbrev Wd := List Int
def encW (w : Wd) : PyData := .tuple (w.map .int)
def okW (m : Int) (w : Wd) : Prop := 1 ≤ w.length ∧ w.length ≤ 5000 ∧ ∀ x ∈ w, 0 ≤ x ∧ x ≤ m - 1
def okB (m : Int) (ws : List Wd) : Prop := 0 ≤ m ∧ m ≤ 60 ∧ ws.length ≤ 60 ∧ ∀ w ∈ ws, okW m w
theorem tupO_encW (w : Wd) : tupO (encW w) = true := by
  show tupOA (w.map PyData.int) = true
  exact tupOA_ints w
theorem tupOA_encW (ws : List Wd) : tupOA (ws.map encW) = true := tupOA_iff.mpr fun x hx => by
  obtain ⟨w, _, rfl⟩ := List.mem_map.mp hx
  exact tupO_encW w
theorem areLet_ints {ds : List PyData} {m : Int} (h : areLet (.tuple ds) m = true) : ∃ w : Wd, ds = w.map .int ∧ ∀ x ∈ w, 0 ≤ x ∧ x ≤ m - 1 := by
  have h2 : ∀ x ∈ ds, isNum x 0 (m - 1) = true := by simpa [areLet] using h
  clear h
  induction ds with
  | nil => exact ⟨[], rfl, by simp⟩
  | cons d ds ih =>
    obtain ⟨w, rfl, hw⟩ := ih fun x hx => h2 x (List.mem_cons_of_mem _ hx)
    obtain ⟨i, rfl, h0, h1⟩ := isNum_int (h2 d List.mem_cons_self)
    refine ⟨i :: w, rfl, fun x hx => ?_⟩
    rcases List.mem_cons.mp hx with rfl | hx
    · exact ⟨h0, h1⟩
    · exact hw x hx
theorem areLet_of {w : Wd} {m : Int} (h : ∀ x ∈ w, 0 ≤ x ∧ x ≤ m - 1) : areLet (encW w) m = true := by
  show ((w.map PyData.int).all fun x => isNum x 0 (m - 1)) = true
  rw [List.all_eq_true]
  intro x hx
  obtain ⟨i, hi, rfl⟩ := List.mem_map.mp hx
  exact isNum_of (h i hi).1 (h i hi).2
theorem areLet_tup {d : PyData} {m : Int} (h : areLet d m = true) : ∃ w : Wd, d = encW w ∧ ∀ x ∈ w, 0 ≤ x ∧ x ≤ m - 1 := by
  cases d with
  | tuple ds =>
    obtain ⟨w, rfl, hw⟩ := areLet_ints h
    exact ⟨w, rfl, hw⟩
  | _ => simp [areLet] at h
theorem isWd_iff {d : PyData} {m : Int} : isWd d m = true ↔ ∃ w : Wd, d = encW w ∧ okW m w := by
  constructor
  · intro h
    unfold isWd at h
    obtain ⟨h1, h2⟩ := Bool.and_eq_true_iff.mp h
    obtain ⟨w, rfl, hw⟩ := areLet_tup h1
    refine ⟨w, rfl, ?_, ?_, hw⟩
    · simp [encW] at h2; omega
    · simp [encW] at h2; omega
  · rintro ⟨w, rfl, h1, h2, h3⟩
    unfold isWd
    rw [areLet_of h3]
    simp [encW]
    omega
theorem encW_inj {u w : Wd} (h : encW u = encW w) : u = w := by
  have h1 : u.map PyData.int = w.map PyData.int := by injection h
  exact (List.map_inj_right (fun a b e => by injection e)).mp h1


def hdW (w : Wd) : Int := w.headD 0
def drawnW (m n lg : Int) (ap : Bool) (ws : List Wd) : Prop := ((ws.length : Nat) : Int) = n ∧ (∀ w ∈ ws, 1 ≤ w.length ∧ ((w.length : Nat) : Int) ≤ lg ∧ ∀ x ∈ w, 0 ≤ x ∧ x ≤ m - 1) ∧ (ap = true → (ws.map hdW).Nodup)
def sp_law_words (K : PySem.W.Frag) : Sp := fun vs H Q _ => ∃ (v : V) (ds : List Int) (m n lg : Int) (ap : Bool), vs = [v, .int m, .int n, .int lg, .bl ap] ∧ Dp K H v (.list (ds.map .int)) ∧ okDr ds ∧ (1 ≤ m ∧ m ≤ 60) ∧ (0 ≤ n ∧ n ≤ 60 ∧ 3 * n ≤ (ds.length : Nat)) ∧ (1 ≤ lg ∧ lg ≤ 100) ∧ (ap = true → n ≤ m) ∧
  ∀ ws : List Wd, drawnW m n lg ap ws → RetN K H Q (ws.map encW)

structure LwI (m : Int) (ap : Bool) (lg : Int) (left : List Int) (ws : List Wd) : Prop where
  lf : ∀ x ∈ left, 0 ≤ x ∧ x ≤ m - 1
  word : ∀ w ∈ ws, 1 ≤ w.length ∧ ((w.length : Nat) : Int) ≤ lg ∧ ∀ x ∈ w, 0 ≤ x ∧ x ≤ m - 1
  many : ap = true → ((left.length : Nat) : Int) + (ws.length : Nat) = m
  nd : ap = true → left.Nodup ∧ (ws.map hdW).Nodup ∧ ∀ w ∈ ws, hdW w ∉ left
theorem rgI_mem {m x : Int} (h : x ∈ rgI 0 m) : 0 ≤ x ∧ x ≤ m - 1 := by
  unfold rgI at h
  obtain ⟨i, hi, rfl⟩ := List.mem_map.mp h
  have := List.mem_range.mp hi
  omega
theorem rgI_len (m : Int) (h : 0 ≤ m) : (((rgI 0 m).length : Nat) : Int) = m := by
  unfold rgI
  rw [List.length_map, List.length_range]
  omega
theorem rgI_nodup (m : Int) : (rgI 0 m).Nodup := by
  unfold rgI
  rw [List.nodup_iff_pairwise_ne, List.pairwise_map]
  exact List.Pairwise.imp (fun h => by omega) (List.pairwise_lt_range (n := (m - 0).toNat))
theorem LwI.start {m lg : Int} {ap : Bool} (h : 0 ≤ m) : LwI m ap lg (rgI 0 m) [] :=
  ⟨fun _ hx => rgI_mem hx, fun _ z => (by cases z), fun _ => by rw [rgI_len m h]; simp, fun _ => ⟨rgI_nodup m, List.nodup_nil, fun _ z => (by cases z)⟩⟩
theorem LwI.next0 {m lg : Int} {left : List Int} {ws : List Wd} {w : Wd} (h : LwI m false lg left ws) (hw : 1 ≤ w.length ∧ ((w.length : Nat) : Int) ≤ lg ∧ ∀ x ∈ w, 0 ≤ x ∧ x ≤ m - 1) : LwI m false lg left (ws ++ [w]) :=
  ⟨h.lf, fun u hu => by
    rcases List.mem_append.mp hu with hu | hu
    · exact h.word u hu
    · rw [List.mem_singleton] at hu
      rw [hu]
      exact hw, fun z => (by cases z), fun z => (by cases z)⟩
theorem LwI.next1 {m lg : Int} {left : List Int} {ws : List Wd} {w : Wd} {j : Nat} (h : LwI m true lg left ws) (hj : left[j]? = some (hdW w)) (hw : 1 ≤ w.length ∧ ((w.length : Nat) : Int) ≤ lg ∧ ∀ x ∈ w, 0 ≤ x ∧ x ≤ m - 1) : LwI m true lg (left.eraseIdx j) (ws ++ [w]) := by
  obtain ⟨n1, n2, n3⟩ := h.nd rfl
  have hl : j < left.length := (List.getElem?_eq_some_iff.mp hj).1
  have hm : hdW w ∈ left := List.mem_of_getElem? hj
  have hout : hdW w ∉ left.eraseIdx j := by
    intro z
    have e : left[j] = hdW w := (List.getElem?_eq_some_iff.mp hj).2
    rw [List.mem_eraseIdx_iff_getElem] at z
    obtain ⟨i, hi, hne, e2⟩ := z
    exact hne ((List.getElem_inj n1).mp (e2.trans e.symm))
  refine ⟨fun x hx => h.lf x (List.mem_of_mem_eraseIdx hx), fun u hu => ?_, fun _ => ?_, fun _ => ⟨n1.sublist (List.eraseIdx_sublist _ _), ?_, fun u hu => ?_⟩⟩
  · rcases List.mem_append.mp hu with hu | hu
    · exact h.word u hu
    · rw [List.mem_singleton] at hu
      rw [hu]
      exact hw
  · have := h.many rfl
    rw [List.length_eraseIdx, if_pos hl, List.length_append]
    simp
    omega
  · rw [List.map_append, List.nodup_append]
    refine ⟨n2, by simp, fun a ha b hb => ?_⟩
    simp at hb
    subst hb
    obtain ⟨u, hu, rfl⟩ := List.mem_map.mp ha
    intro e
    exact n3 u hu (e ▸ hm)
  · rcases List.mem_append.mp hu with hu | hu
    · exact fun z => n3 u hu (List.mem_of_mem_eraseIdx z)
    · rw [List.mem_singleton] at hu
      rw [hu]
      exact hout
theorem okDr.get {ds : List Int} (h : okDr ds) {i : Nat} (hi : i < ds.length) : ∃ x, ds[i]? = some x ∧ 0 ≤ x ∧ x < 65521 := ⟨ds[i], List.getElem?_eq_getElem hi, h _ (List.getElem_mem hi)⟩
theorem divs8 (j : Int) : ∃ q : Int, atI [PyData.int 1, .int 3, .int 7, .int 11, .int 19, .int 31, .int 53, .int 97] (j % 8) = some (.int q) ∧ 0 < q ∧ q < 1073741824 := by
  have h : j % 8 = 0 ∨ j % 8 = 1 ∨ j % 8 = 2 ∨ j % 8 = 3 ∨ j % 8 = 4 ∨ j % 8 = 5 ∨ j % 8 = 6 ∨ j % 8 = 7 := by omega
  rcases h with h | h | h | h | h | h | h | h <;> rw [h] <;> exact ⟨_, rfl, by decide, by decide⟩

theorem ei_draw {K : PySem.W.Frag} {σ : L2.St} {H : Hp} {ta tb : TE} {ds : List Int} {n x : Int} {i : Nat} (ha : Ed K ta σ H (.list (ds.map .int))) (hb : Ei K tb σ H n) (hn : n = (i : Nat)) (hx : ds[i]? = some x) : Ei K (tOp (rIx K) ta tb) σ H x :=
  ed_ixL ha hb (by
    rw [hn]
    refine atI_ofNat ?_
    rw [List.getElem?_map, hx]
    rfl)

theorem ei_dr {K : PySem.W.Frag} {σ : L2.St} {H : Hp} {ta : TE} {ds : List Int} {x c : Int} (i : Nat) (ha : Ed K ta σ H (.list (ds.map .int))) (hx : ds[i]? = some x) (hc : c = (i : Nat) := by rfl) : Ei K (tCB rIntU (tCons (tOp (rIx K) ta (tC (.int c))) tNil)) σ H x :=
  ei_int (ei_draw ha ed_int hc hx)
abbrev s__law_words : Stmt := top 21
theorem sc__law_words : FnScope ["draws", "letters", "size", "longest", "apart", "left", "words", "k", "first", "word", "j"] ["draws", "letters", "size", "longest", "apart"] (defScope s__law_words) := ⟨rfl, rfl, rfl, by decide +kernel, rfl, by decide +kernel, by decide +kernel⟩
theorem ok__law_words {P : Program} {w : World} {K : PySem.W.Frag} {mg : Str → Option Value} {base : Heap} (T : Top fs fn K mg) : Df P w K mg base 1 ("_law_words", none) ["draws", "letters", "size", "longest", "apart"] (sp_law_words K) := by
  refine df_of T 4 (name := "_law_words") (qual := "_law_words") (s := s__law_words) (N := ["draws", "letters", "size", "longest", "apart", "left", "words", "k", "first", "word", "j"]) (k := 0) rfl sc__law_words (fun vs H Q E hsp => ?_) (fun _ _ _ _ _ _ us hl => match us, hl with | [_, _, _, _, _], _ => rfl) (fun cdv A outer s0 H vs Q E hr hsp => ?_)
  · obtain ⟨_, _, _, _, _, _, rfl, _⟩ := hsp
    rfl
  · obtain ⟨v, ds, m, n, lg, ap, rfl, hsp⟩ := hsp
    refine ⟨_, (pss_cons (ps_par (i := 5) (j := 6) (by rfl) sc__law_words.nd rfl rfl (by decide) rfl rfl (pa_cons (pe_listRg rfl rfl (T.free 11) (prg_1 rfl (T.free 2) (pv 1))) (pa_cons (pe_lst pa_nil) pa_nil)) (by rfl))
      (pss_cons (ps_for (passes_of rfl) rfl (pi_range1 (by rfl) (T.free 2) (pa_cons (pv 2) pa_nil)) (pg_name (i := 7) sc__law_words.nd rfl (.inl rfl))
      (pss_cons (ps_set (i := 8) sc__law_words.nd rfl (.inl rfl) (pe_op op_modI (pe_callTy call_intU (by rfl) (T.free 1) bt_int (pa_cons (pe_ix ix_seq (pv 0) (pe_op op_mulI (pe_int) (pv 7)) (fun _ _ => rfl)) pa_nil)) (pe_callB (call_max2U rfl) (by rfl) (T.free 12) bt_max (pa_cons (pv 1) (pa_cons (pe_int) pa_nil)))))
      (pss_cons (ps_if (pt_tru (pv 4))
      (pss_one (ps_set (i := 8) sc__law_words.nd rfl (.inl rfl) (pe_bm PySem.F.plainAttrs_list PySem.F.slot_list_pop PySem.F.type_list_pop mt_popAt (pv 5) (pa_cons (pe_op op_modI (pe_callTy call_intU (by rfl) (T.free 1) bt_int (pa_cons (pe_ix ix_seq (pv 0) (pe_op op_mulI (pe_int) (pv 7)) (fun _ _ => rfl)) pa_nil)) (pe_callB call_lenU (by rfl) (T.free 3) bt_len (pa_cons (pv 5) pa_nil))) pa_nil))))
      pss_nil)
      (pss_cons (ps_set (i := 9) sc__law_words.nd rfl (.inl rfl) (pe_lst (pa_cons (pv 8) pa_nil)))
      (pss_cons (ps_for (passes_of rfl) rfl (pi_range1 (by rfl) (T.free 2) (pa_cons (pe_op op_modI (pe_callTy call_intU (by rfl) (T.free 1) bt_int (pa_cons (pe_ix ix_seq (pv 0) (pe_op op_addI (pe_op op_mulI (pe_int) (pv 7)) (pe_int)) (fun _ _ => rfl)) pa_nil)) (pv 3)) pa_nil)) (pg_name (i := 10) sc__law_words.nd rfl (.inl rfl))
      (pss_one (ps_expr (pe_bm PySem.F.plainAttrs_list PySem.F.slot_list_append PySem.F.type_list_append mt_append (pv 9) (pa_cons (pe_op op_modI (pe_op op_divI (pe_callTy call_intU (by rfl) (T.free 1) bt_int (pa_cons (pe_ix ix_seq (pv 0) (pe_op op_addI (pe_op op_mulI (pe_int) (pv 7)) (pe_int)) (fun _ _ => rfl)) pa_nil)) (pe_ix ix_seq (pe_tup (pa_cons (pe_int) (pa_cons (pe_int) (pa_cons (pe_int) (pa_cons (pe_int) (pa_cons (pe_int) (pa_cons (pe_int) (pa_cons (pe_int) (pa_cons (pe_int) pa_nil))))))))) (pe_op op_modI (pv 10) (pe_int)) (fun _ _ => rfl))) (pv 1)) pa_nil)))))
      (pss_one (ps_expr (pe_bm PySem.F.plainAttrs_list PySem.F.slot_list_append PySem.F.type_list_append mt_append (pv 6) (pa_cons (pe_callTy call_tupOf (by rfl) (T.free 9) bt_tuple (pa_cons (pv 9) pa_nil)) pa_nil)))))))))
      (pss_one (ps_ret (pv 6))))), ?_⟩
    try dsimp only [cxOf]
    obtain ⟨hd, hok, ⟨m1, m2⟩, ⟨n0, n1, n2⟩, ⟨g0, g1⟩, hap, hQ⟩ := hsp
    refine q_parNN (K := K) (ds := (rgI 0 m).map .int) (es := []) (en_listRg1 (by walk_at "ev") (by omega) (by omega)) (en_lst ea_nil) fun l xl q xw H1 hl hq hne e1 hxl hxw hdl hdw => ?_
    cases hdw
    rw [L2.DpAll.of_ints hdl] at hxl
    refine q_forR1 (K := K) (n := n) (by walk_at "ev") (by omega) (by omega) fun H2 e2 => ?_
    refine loop_range (Pv := fun k σ H' => Ex H H' ∧ ∃ (left : List Int) (xs : List V) (ws : List Wd) (o7 o8 o9 o10 : Option V), H' l = some (.lst (left.map V.int)) ∧ H' q = some (.lst xs) ∧ DpAll K H' xs (ws.map encW) ∧ ws.length = k ∧ LwI m ap lg left ws ∧
      σ = [some v, some (.int m), some (.int n), some (.int lg), some (.bl ap), some (.ref l), some (.ref q), o7, o8, o9, o10])
      ⟨e1.trans e2, rgI 0 m, [], [], none, none, none, none, e2 _ _ hxl, e2 _ _ hxw, .nil, rfl, LwI.start (by omega), rfl⟩ ?_ ?_
    · rintro k σ H3 hk ⟨e3, left, xs, ws, o7, o8, o9, o10, h3l, h3q, h3d, hwk, I, rfl⟩
      have hk' : (k : Int) < n := by omega
      have hd3 := L2.Dp.mono e3 hd
      obtain ⟨x0, hx0, x0a, x0b⟩ := hok.get (i := 3 * k) (by omega)
      obtain ⟨x1, hx1, x1a, x1b⟩ := hok.get (i := 3 * k + 1) (by omega)
      obtain ⟨x2, hx2, x2a, x2b⟩ := hok.get (i := 3 * k + 2) (by omega)
      refine q_seti (K := K) (n := x0 % (if 1 > m then 1 else m)) ?_ fun H4 e4 => ?_
      · refine ei_mod (ei_int (ei_draw (by walk_at "ev") (ei_mul (n := 3) (m := (k : Int)) (by walk_at "ev") (by walk_at "ev") (.inl ⟨by decide, by decide⟩)) (by omega) hx0)) (by walk_at "ev") ?_
        split <;> omega
      rw [if_neg (by omega)]
      have f0 := Int.emod_nonneg x0 (b := m) (by omega)
      have f1 := Int.emod_lt_of_pos x0 (b := m) (by omega)
      have key : ∀ (fst : Int) (left' : List Int) H5, Ex H H5 → H5 l = some (.lst (left'.map V.int)) → H5 q = some (.lst xs) → DpAll K H5 xs (ws.map encW) → (0 ≤ fst ∧ fst ≤ m - 1) →
          (∀ w : Wd, hdW w = fst → (1 ≤ w.length ∧ ((w.length : Nat) : Int) ≤ lg ∧ ∀ x ∈ w, 0 ≤ x ∧ x ≤ m - 1) → LwI m ap lg left' (ws ++ [w])) →
          tSeq (tAsg (tLst (tCons (tVar 8) tNil)) (gName 9)) (tSeq (tFor (iRng1 (tCons (tOp rModI (tCB rIntU (tCons (tOp (rIx K) (tVar 0) (tOp rAddI (tOp rMulI (tC (V.int 3)) (tVar 7)) (tC (V.int 1)))) tNil)) (tVar 3)) tNil)) (gName 10)
            (tDrop (tBM K "list" rAppend (tVar 9) (tCons (tOp rModI (tOp rDivI (tCB rIntU (tCons (tOp (rIx K) (tVar 0) (tOp rAddI (tOp rMulI (tC (V.int 3)) (tVar 7)) (tC (V.int 2)))) tNil)) (tOp (rIx K) (tTup (tCons (tC (V.int 1)) (tCons (tC (V.int 3)) (tCons (tC (V.int 7)) (tCons (tC (V.int 11)) (tCons (tC (V.int 19)) (tCons (tC (V.int 31)) (tCons (tC (V.int 53)) (tCons (tC (V.int 97)) tNil))))))))) (tOp rModI (tVar 10) (tC (V.int 8))))) (tVar 1)) tNil))))
            (tDrop (tBM K "list" rAppend (tVar 6) (tCons (tCB (rTupOf K) (tCons (tVar 9) tNil)) tNil))))
          { nx := fun σ H' => Ex H H' ∧ ∃ (left : List Int) (xs : List V) (ws' : List Wd) (o7 o8 o9 o10 : Option V), H' l = some (.lst (left.map V.int)) ∧ H' q = some (.lst xs) ∧ DpAll K H' xs (ws'.map encW) ∧ ws'.length = k + 1 ∧ LwI m ap lg left ws' ∧
            σ = [some v, some (.int m), some (.int n), some (.int lg), some (.bl ap), some (.ref l), some (.ref q), o7, o8, o9, o10], rt := Q }
          [some v, some (.int m), some (.int n), some (.int lg), some (.bl ap), some (.ref l), some (.ref q), some (.int (k : Nat)), some (.int fst), o9, o10] H5 := by
        intro fst left' H5 e5 h5l h5q h5d hf I'
        have hd5 := L2.Dp.mono e5 hd
        refine q_setN (K := K) (ds := [.int fst]) (by walk_at "ev") fun p ys H6 hp e6 hy hdy => ?_
        rw [L2.DpAll.of_ints (ns := [fst]) hdy] at hy
        have hp0 : H p = none := Evl.fresh_back e5 hp
        have npl : p ≠ l := fun z => by subst z; rw [h5l] at hp; cases hp
        have npq : p ≠ q := fun z => by subst z; rw [h5q] at hp; cases hp
        have hd6 := L2.Dp.mono e6 hd5
        have r0 := Int.emod_nonneg x1 (b := lg) (by omega)
        have r1 := Int.emod_lt_of_pos x1 (b := lg) (by omega)
        refine q_forR1 (K := K) (n := x1 % lg) ?_ (by omega) (by omega) fun H7 e7 => ?_
        · refine ei_mod (ei_int (ei_draw (by walk_at "ev") (ei_add (n := 3 * (k : Int)) (ei_mul (n := 3) (m := (k : Int)) (by walk_at "ev") (by walk_at "ev") (.inl ⟨by decide, by decide⟩)) (m := 1) (by walk_at "ev")) (by omega) hx1)) (by walk_at "ev") (by omega)
        refine loop_range (Pv := fun j σ H' => Ex H H' ∧ H' l = some (.lst (left'.map V.int)) ∧ H' q = some (.lst xs) ∧ DpAll K H' xs (ws.map encW) ∧ ∃ (w : Wd) (o10 : Option V), H' p = some (.lst (w.map V.int)) ∧ w.length = j + 1 ∧ hdW w = fst ∧ (∀ x ∈ w, 0 ≤ x ∧ x ≤ m - 1) ∧
          σ = [some v, some (.int m), some (.int n), some (.int lg), some (.bl ap), some (.ref l), some (.ref q), some (.int (k : Nat)), some (.int fst), some (.ref p), o10])
          ⟨e5.trans (e6.trans e7), (e6.trans e7) _ _ h5l, (e6.trans e7) _ _ h5q, L2.DpAll.mono (e6.trans e7) h5d, [fst], o10, e7 _ _ hy, rfl, rfl, fun x hx => by rw [List.mem_singleton] at hx; subst hx; exact hf, rfl⟩ ?_ ?_
        · rintro j σ H8 hj ⟨e8, h8l, h8q, h8d, w, o10', h8p, hwj, hwf, hwx, rfl⟩
          have hd8 := L2.Dp.mono e8 hd
          obtain ⟨dv, hdv, dv0, dv1⟩ := divs8 (j : Int)
          refine s_app (K := K) (eg_varv rfl) h8p (by rw [List.length_map]; omega) (a := .d (.int (x2 / dv % m))) ?_ fun u H9 e9 hu => ?_
          · refine ei_mod (ei_div (ei_int (ei_draw (by walk_at "ev") (ei_add (n := 3 * (k : Int)) (ei_mul (n := 3) (m := (k : Int)) (by walk_at "ev") (by walk_at "ev") (.inl ⟨by decide, by decide⟩)) (m := 2) (by walk_at "ev")) (by omega) hx2)) (ed_ixT (ds := [PyData.int 1, .int 3, .int 7, .int 11, .int 19, .int 31, .int 53, .int 97]) (by walk_at "ev") (ei_mod (n := (j : Int)) (m := 8) (by walk_at "ev") (by walk_at "ev") (by decide)) hdv) ⟨dv0, dv1⟩) (by walk_at "ev") (by omega)
          cases L2.Dp.int_inv hu
          have g0 := Int.emod_nonneg (x2 / dv) (b := m) (by omega)
          have g1 := Int.emod_lt_of_pos (x2 / dv) (b := m) (by omega)
          have h9p := e9 _ _ h8p
          refine nx ⟨(e8.trans e9).mut hp0, by rw [upd_ne npl.symm]; exact e9 _ _ h8l, by rw [upd_ne npq.symm]; exact e9 _ _ h8q, L2.DpAll.tx (Tx.lst h9p) (L2.DpAll.mono e9 h8d) (tupOA_encW ws), w ++ [x2 / dv % m], some (.int (j : Nat)), by rw [upd_same, ints_app], by simp; omega, ?_, fun x hx => ?_, rfl⟩
          · cases w with
            | nil => simp at hwj
            | cons a w => exact hwf
          · rcases List.mem_append.mp hx with hx | hx
            · exact hwx x hx
            · rw [List.mem_singleton] at hx
              subst hx
              omega
        · rintro σ H8 ⟨e8, h8l, h8q, h8d, w, o10', h8p, hwj, hwf, hwx, rfl⟩
          have hxs : xs.length ≤ 60 := by rw [L2.DpAll.length h8d, List.length_map]; omega
          refine nx (s_app (K := K) (eg_varv rfl) h8q (by omega) (a := .d (encW w)) (ed_tupL (eg_vard rfl (.lst (Evl.sq_of h8p) (L2.DpAll.ints w)))) fun u H9 e9 hu => ?_)
          have h9q := e9 _ _ h8q
          refine nx ⟨(e8.trans e9).mut hq, left', xs ++ [u], ws ++ [w], some (.int (k : Nat)), some (.int fst), some (.ref p), o10', by rw [upd_ne hne]; exact e9 _ _ h8l, upd_same, ?_, by simp; omega, I' w hwf ⟨by omega, by omega, hwx⟩, rfl⟩
          rw [List.map_append]
          exact (L2.DpAll.tx (Tx.lst h9q) (L2.DpAll.mono e9 h8d) (tupOA_encW ws)).append (.one (L2.Dp.tx (Tx.lst h9q) hu (tupO_encW w)))
      refine q_when (b := ap) (et_trub (K := K) (by walk_at "ev")) (fun hb H5 e5 => ?_) (fun hb H5 e5 => ?_)
      · subst hb
        have hle : 0 < left.length := by
          have := I.many rfl
          have := hap rfl
          omega
        have g0 := Int.emod_nonneg x0 (b := (left.length : Nat)) (by omega)
        have g1 := Int.emod_lt_of_pos x0 (b := (left.length : Nat)) (by omega)
        have e35 := e4.trans e5
        have h5l := e35 _ _ h3l
        obtain ⟨j, hj⟩ : ∃ j : Nat, x0 % ((left.length : Nat) : Int) = (j : Nat) := ⟨(x0 % ((left.length : Nat) : Int)).toNat, by omega⟩
        have hjl : j < left.length := by omega
        have hd5 := L2.Dp.mono e35 hd3
        refine s_setPop (K := K) (n := x0 % (left.length : Nat)) (j := j) (v := .int left[j]) (eg_varv rfl) h5l ?_ hj (by have := I.many rfl; omega) (by rw [List.getElem?_map, List.getElem?_eq_getElem hjl]; rfl) fun H6 e6 => ?_
        · exact ei_mod (ei_int (ei_draw (by walk_at "ev") (ei_mul (n := 3) (m := (k : Int)) (by walk_at "ev") (by walk_at "ev") (.inl ⟨by decide, by decide⟩)) (by omega) hx0)) (ei_is (ei_lenV (eg_varv rfl) (Evl.sq_of h5l)) (by rw [List.length_map])) (by omega)
        have h6l := e6 _ _ h5l
        refine nx ?_
        refine key left[j] (left.eraseIdx j) _ ((e3.trans (e35.trans e6)).mut hl) (by rw [upd_same, map_erase]) (by rw [upd_ne hne.symm]; exact (e35.trans e6) _ _ h3q) (L2.DpAll.tx (Tx.lst h6l) (L2.DpAll.mono (e35.trans e6) h3d) (tupOA_encW ws)) (I.lf _ (List.getElem_mem hjl)) (fun w hw hw2 => I.next1 (by rw [hw]; exact List.getElem?_eq_getElem hjl) hw2)
      · subst hb
        have e35 := e4.trans e5
        exact key (x0 % m) left H5 (e3.trans e35) (e35 _ _ h3l) (e35 _ _ h3q) (L2.DpAll.mono e35 h3d) (by omega) (fun w hw hw2 => I.next0 hw2)
    · rintro σ H3 ⟨e3, left, xs, ws, o7, o8, o9, o10, h3l, h3q, h3d, hwk, I, rfl⟩
      refine nx ⟨_, rfl, ?_⟩
      exact hQ ws ⟨by omega, I.word, fun z => (I.nd z).2.1⟩ q xs H3 hq e3 h3q h3d


def bookF (m n : Int) (l : Addr) : List (Str × V) := [("letters", .int m), ("size", .int n), ("_words", .ref l)]
theorem bookF_put (m n : Int) (l : Addr) : putF "_words" (.ref l) (putF "size" (.int n) (putF "letters" (.int m) [])) = bookF m n l := by
  have h1 : ¬ (("letters" : Str) = "size") := by decide +kernel
  have h2 : ¬ (("letters" : Str) = "_words") := by decide +kernel
  have h3 : ¬ (("size" : Str) = "_words") := by decide +kernel
  simp [putF, bookF, h1, h2, h3]
theorem bookF_letters (m n : Int) (l : Addr) : (bookF m n l).lookup ("letters" : Str) = some (.int m) := by unfold bookF; rfl
theorem bookF_size (m n : Int) (l : Addr) : (bookF m n l).lookup ("size" : Str) = some (.int n) := by
  have h1 : (("size" : Str) == "letters") = false := by decide +kernel
  simp [bookF, List.lookup, h1]
theorem bookF_words (m n : Int) (l : Addr) : (bookF m n l).lookup ("_words" : Str) = some (.ref l) := by
  have h1 : (("_words" : Str) == "letters") = false := by decide +kernel
  have h2 : (("_words" : Str) == "size") = false := by decide +kernel
  simp [bookF, List.lookup, h1, h2]
theorem bookF_no {m n : Int} {l : Addr} {f : Str} (h1 : (f == "letters") = false) (h2 : (f == "size") = false) (h3 : (f == "_words") = false) : (bookF m n l).lookup f = none := by
  simp [bookF, List.lookup, h1, h2, h3]

structure BookL (K : PySem.W.Frag) (H : Hp) (p : Addr) (m : Int) (ws : List Wd) (l : Addr) : Prop where
  ob : ∃ dx, H p = some (.ins (He.ga K "Book") dx (bookF m (ws.length : Nat) l))
  ls : ∃ xs, H l = some (.lst xs) ∧ DpAll K H xs (ws.map encW)
  ok : okB m ws
def BookAt (K : PySem.W.Frag) (H : Hp) (p : Addr) (m : Int) (ws : List Wd) : Prop := ∃ l, BookL K H p m ws l
theorem BookL.mono {K : PySem.W.Frag} {H H' : Hp} {p l : Addr} {m : Int} {ws : List Wd} (e : Ex H H') (b : BookL K H p m ws l) : BookL K H' p m ws l := by
  obtain ⟨⟨dx, h1⟩, ⟨xs, h2, h3⟩, h4⟩ := b
  exact ⟨⟨dx, e _ _ h1⟩, ⟨xs, e _ _ h2, L2.DpAll.mono e h3⟩, h4⟩
theorem BookAt.mono {K : PySem.W.Frag} {H H' : Hp} {p : Addr} {m : Int} {ws : List Wd} (e : Ex H H') (b : BookAt K H p m ws) : BookAt K H' p m ws := by
  obtain ⟨l, b⟩ := b
  exact ⟨l, b.mono e⟩

theorem BookL.lst {K : PySem.W.Frag} {H : Hp} {p l k : Addr} {m : Int} {ws : List Wd} {xs ys : List V} (b : BookL K H p m ws l) (hk : H k = some (.lst xs)) (hl : k ≠ l) : BookL K (upd H k (.lst ys)) p m ws l := by
  obtain ⟨⟨dx, h1⟩, ⟨zs, h2, h3⟩, h4⟩ := b
  have hp : p ≠ k := ne_of h1 hk (by intro z; cases z)
  exact ⟨⟨dx, by rw [upd_ne hp]; exact h1⟩, ⟨zs, by rw [upd_ne hl.symm]; exact h2, L2.DpAll.tx (Tx.lst hk) h3 (tupOA_encW ws)⟩, h4⟩

def goodB (d1 d2 : PyData) : Bool := match d1, d2 with
  | .int m, .list ds => isNum (.int m) 0 60 && (decide (((ds.length : Nat) : Int) ≤ 60) && ds.all fun w => isWd w m)
  | _, _ => false
theorem goodB_iff {d1 d2 : PyData} : goodB d1 d2 = true ↔ ∃ m ws, d1 = .int m ∧ d2 = .list (ws.map encW) ∧ okB m ws := by
  constructor
  · intro h
    cases d1 with
    | int m =>
      cases d2 with
      | list ds =>
        simp only [goodB, Bool.and_eq_true, decide_eq_true_eq, List.all_eq_true] at h
        obtain ⟨h1, h2, h3⟩ := h
        obtain ⟨i, e, h4, h5⟩ := isNum_int h1
        cases e
        have : ∃ ws : List Wd, ds = ws.map encW ∧ ∀ w ∈ ws, okW m w := by
          clear h1 h2 h4 h5
          induction ds with
          | nil => exact ⟨[], rfl, by simp⟩
          | cons d ds ih =>
            obtain ⟨ws, rfl, hws⟩ := ih fun x hx => h3 x (List.mem_cons_of_mem _ hx)
            obtain ⟨w, rfl, hw⟩ := isWd_iff.mp (h3 d List.mem_cons_self)
            refine ⟨w :: ws, rfl, fun x hx => ?_⟩
            rcases List.mem_cons.mp hx with rfl | hx
            · exact hw
            · exact hws x hx
        obtain ⟨ws, rfl, hws⟩ := this
        refine ⟨m, ws, rfl, rfl, h4, h5, ?_, hws⟩
        rw [List.length_map] at h2
        omega
      | _ => simp [goodB] at h
    | _ => simp [goodB] at h
  · rintro ⟨m, ws, rfl, rfl, h1, h2, h3, h4⟩
    simp only [goodB, Bool.and_eq_true, decide_eq_true_eq, List.all_eq_true, List.length_map]
    refine ⟨isNum_of h1 h2, by omega, fun x hx => ?_⟩
    obtain ⟨w, hw, rfl⟩ := List.mem_map.mp hx
    exact isWd_iff.mpr ⟨w, rfl, h4 w hw⟩

def fewL (d : PyData) : Prop := ∀ ds, d = .list ds → ds.length ≤ 1000000 ∧ ∀ x ∈ ds, fewT x
def sp_Book_init (K : PySem.W.Frag) : Sp := fun vs H Q E => ∃ (x dx : Addr) (v1 v2 : V) (d1 d2 : PyData), vs = [.ref x, v1, v2] ∧ H x = some (.ins (He.ga K "Book") dx []) ∧ Dp K H v1 d1 ∧ Dp K H v2 d2 ∧ fewL d2 ∧
  (∀ m ws, d1 = .int m → d2 = .list (ws.map encW) → okB m ws → ∀ l H', H l = none → (∀ a o, a ≠ x → H a = some o → H' a = some o) → BookL K H' x m ws l → Q .non H') ∧
  (goodB d1 d2 = false → Err (He.ga K "BadBook") H E)
abbrev s_Book___init__ : Stmt := inClass (top 17) 0
theorem sc_Book___init__ : FnScope ["self", "letters", "words", "word"] ["self", "letters", "words"] (defScope s_Book___init__) := ⟨rfl, rfl, rfl, by decide +kernel, rfl, by decide +kernel, by decide +kernel⟩
theorem ok_Book___init__ {P : Program} {w : World} {K : PySem.W.Frag} {mg : Str → Option Value} {base : Heap} (T : Top fs fn K mg) : Df P w K mg base 4 ("Book", some "__init__") ["self", "letters", "words"] (sp_Book_init K) := by
  refine df_of T 5 (name := "__init__") (qual := "Book.__init__") (s := s_Book___init__) (N := ["self", "letters", "words", "word"]) (k := 3) rfl sc_Book___init__ (fun vs H Q E hsp => ?_) (fun _ _ _ _ _ _ us hl => match us, hl with | [_, _, _], _ => rfl) (fun cdv A outer s0 H vs Q E hr hsp => ?_)
  · obtain ⟨_, _, _, _, _, _, rfl, _⟩ := hsp
    rfl
  · obtain ⟨⟨fd_is_number, G_is_number, b_is_number⟩, k_is_number⟩ := ok_is_number (P := P) (w := w) (base := base) T
    obtain ⟨⟨fd_is_word, G_is_word, b_is_word⟩, k_is_word⟩ := ok_is_word (P := P) (w := w) (base := base) T
    obtain ⟨x, dx, v1, v2, d1, d2, rfl, hsp⟩ := hsp
    refine ⟨_, (pss_cons (ps_if (PW.pt (pw_or (pt_not (pt_tru (pe_call G_is_number (hr.mono (by decide)) rfl (T.glo 7) k_is_number b_is_number .nil (passes_call (takes_of rfl rfl rfl rfl) (fun _ _ _ _ h => h)) (pa_cons (pv 1) (pa_cons (pe_int) (pa_cons (pe_gi (T.int 14)) pa_nil)))))) (pw_or (pt_not (pt_tru (pe_callB call_isi (by rfl) (T.free 8) bt_isinstance (pa_cons (pv 2) (pa_cons (pe_bltn (v := .ty "list") rfl (T.free 11) bt_list rfl) pa_nil))))) (pw_or1 (pt_cmpR op_gtI (pe_callB call_lenU (by rfl) (T.free 3) bt_len (pa_cons (pv 2) pa_nil)) (pe_gi (T.int 13)) (nomark _))))))
      (pss_one (ps_raise rfl (takes_of rfl rfl rfl rfl) (pmk_own PySem.F.excBase_ValueError (T.exc 15).1 (T.glo 16) (T.exc 15).2.1 (raises_own (T.exc 15).2.2.1 (T.exc 15).2.2.2) rfl)))
      pss_nil)
      (pss_cons (ps_if (pt_not (pt_tru (pe_callB (cr_all rfl) (by rfl) (T.free 6) bt_all (pa_cons (pe_lc (own := [("word", 3)]) (g := gName 3) rfl sc_Book___init__.nd (pi_list (pv 2)) (blkOk_by (own := [("word", 3)]) (N := ["self", "letters", "words", "word"]) (sc := defScope s_Book___init__) (by decide +kernel)) (fun _ _ _ _ _ => (pg_name (i := 3) sc_Book___init__.nd rfl (Or.inl rfl))) (fun _ _ _ _ _ => pts_nil) (fun _ _ _ _ _ => (pe_call G_is_word (hr.mono (by decide)) rfl (T.glo 17) k_is_word b_is_word .nil passL (pa_cons (pv 3) (pa_cons (pv 1) pa_nil))))) pa_nil))))
      (pss_one (ps_raise rfl (takes_of rfl rfl rfl rfl) (pmk_own PySem.F.excBase_ValueError (T.exc 15).1 (T.glo 16) (T.exc 15).2.1 (raises_own (T.exc 15).2.2.1 (T.exc 15).2.2.2) rfl)))
      pss_nil)
      (pss_cons (ps_fld (pv 0) (pv 1) rfl)
      (pss_cons (ps_fld (pv 0) (pe_callB call_lenU (by rfl) (T.free 3) bt_len (pa_cons (pv 2) pa_nil)) rfl)
      (pss_one (ps_fld (pv 0) (pe_callTy call_listOf (by rfl) (T.free 11) bt_list (pa_cons (pv 2) pa_nil)) rfl)))))), ?_⟩
    try dsimp only [cxOf]
    obtain ⟨hx, hd1, hd2, hf, hQ, hE⟩ := hsp
    refine q_when (b := !isNum d1 0 60 || (!isL d2 || (match d2 with | .list ds => decide ((60 : Int) < (ds.length : Nat)) | _ => false))) ?_ (fun hb H1 e1 => ?_) (fun hb H1 e1 => ?_)
    · refine Evl.et_or (Evl.et_not (et_trub (eb_isNum (by walk_at "ev") (by walk_at "ev") (by walk_at "ev")))) (fun h1 => Evl.et_or (Evl.et_not (et_trub (by walk_at "ev"))) (fun h2 => ?_))
      cases d2 with
      | list ds => exact et_tst (eb_gt (ei_lenL (by walk_at "ev")) (by walk_at "ev"))
      | _ => simp [isL] at h2
    · refine hE ?_ H1 e1
      cases hg : goodB d1 d2 with
      | false => rfl
      | true =>
        obtain ⟨m, ws, rfl, rfl, h1, h2, h3, h4⟩ := goodB_iff.mp hg
        rw [isNum_of h1 h2] at hb
        simp [isL] at hb
        omega
    · have hb1 : isNum d1 0 60 = true ∧ isL d2 = true := by
        simp only [Bool.or_eq_false_iff, Bool.not_eq_false'] at hb
        exact ⟨hb.1, hb.2.1⟩
      obtain ⟨m, rfl, hm0, hm1⟩ := isNum_int hb1.1
      obtain ⟨ds, rfl⟩ : ∃ ds, d2 = .list ds := by
        cases d2 with
        | list ds => exact ⟨ds, rfl⟩
        | _ => simp [isL] at hb1
      have hn : ds.length ≤ 60 := by
        simp only [Bool.or_eq_false_iff, decide_eq_false_iff_not] at hb
        omega
      obtain ⟨hf1, hf2⟩ := hf ds rfl
      cases L2.Dp.int_inv hd1
      refine q_when (b := !ds.all fun w => isWd w m) ?_ (fun hb H2 e2 => ?_) (fun hb H2 e2 => ?_)
      · have hd2' := L2.Dp.mono e1 hd2
        have q := en_mapL (j := 3) (te := _) (K := K) (H := H1) (σ := L2.start ["self", "letters", "words", "word"] [.ref x, .int m, v2]) (vs := [3]) (tl := tVar 2) (es := ds) (fun w => .bool (isWd w m)) (eg_vard rfl hd2') hf1 (fun _ => rfl) (fun _ _ => rfl)
          (fun w u H3 hw e3 hu => eb_isWd (E := E0) (ta := tVar 3) (tb := tVar 1) (by walk_at "ev") (by walk_at "ev") (hf2 w hw))
        refine Evl.et_not (et_trub (eb_is (eb_all (bs := ds.map fun w => isWd w m) ?_) (by rw [List.all_map]; rfl)))
        rw [List.map_map]
        exact q.eg
      · refine hE ?_ H2 (e1.trans e2)
        have hb' : (ds.all fun w => isWd w m) = false := by simpa using hb
        simp [goodB, hb']
      · -- the fields
        have hb' : (ds.all fun w => isWd w m) = true := by simpa using hb
        obtain ⟨m', ws, e, e', hok⟩ := goodB_iff.mp (show goodB (.int m) (.list ds) = true by
          simp only [goodB, Bool.and_eq_true, decide_eq_true_eq]
          exact ⟨isNum_of hm0 hm1, by omega, hb'⟩)
        cases e
        injection e' with e'
        subst e'
        have e02 := e1.trans e2
        have hx2 := e02 _ _ hx
        refine seq ⟨_, rfl, _, rfl, x, _, dx, _, rfl, hx2, (T.cls 18), (T.noat 19), (by decide), ?_⟩
        have hxl : ∀ (o : HO) a u, a ≠ x → H2 a = some u → (upd H2 x o) a = some u := fun o a u h1 h2 => by rw [upd_ne h1]; exact h2
        have nx : ∀ {l : Addr} {ys : List V}, H2 l = some (.lst ys) → l ≠ x := fun h => ne_of h hx2 (by intro z; cases z)
        obtain ⟨a2, xs, rfl, hs2, hda⟩ := L2.Dp.list_inv (L2.Dp.mono e02 hd2)
        have keepL : ∀ (o : HO), (∀ zs, o ≠ .tup zs) → (∀ zs, o ≠ .lst zs) → SqL K (upd H2 x o) a2 xs := fun o _ _ => by
          rcases hs2 with (h | ⟨ob, h⟩) | h
          · exact .inl (.inl (by rw [upd_ne (nx h)]; exact h))
          · exact .inl (.inr ⟨ob, by rw [upd_ne (ne_of h hx2 (by intro z; cases z))]; exact h⟩)
          · exact .inr h
        have s3 := keepL (.ins (He.ga K "Book") dx (putF "letters" (.int m) [])) (by intro z; intro q; cases q) (by intro z; intro q; cases q)
        refine seq ⟨_, rfl, _, _, rfl, .inl ⟨_, s3, rfl⟩, _, rfl, x, _, dx, _, rfl, upd_same, (T.cls 18), (T.noat 20), (by simp [putF]), ?_⟩
        rw [upd_upd]
        have s4 := keepL (.ins (He.ga K "Book") dx (putF "size" (.int (xs.length : Nat)) (putF "letters" (.int m) []))) (by intro z; intro q; cases q) (by intro z; intro q; cases q)
        refine ⟨_, rfl, a2, xs, rfl, .inl s4, fun l hl => ⟨_, rfl, x, _, dx, _, rfl, (by rw [upd_ne (ne_of_none (upd_same) hl)]; exact upd_same), (T.cls 18), (T.noat 21), (by
          refine Nat.lt_of_le_of_lt (length_putF _ _ _) (Nat.lt_of_le_of_lt (Nat.succ_le_succ (length_putF _ _ _)) ?_)
          show 0 + 1 + 1 < 1000
          decide), ?_⟩⟩
        have hxl : l ≠ x := fun z => by subst z; rw [upd_same] at hl; cases hl
        have hl2 : H2 l = none := by rw [upd_ne hxl] at hl; exact hl
        have hlen : (xs.length : Nat) = ws.length := by rw [L2.DpAll.length hda, List.length_map]
        refine hQ m ws rfl rfl hok l _ (by
          cases q : H l with
          | none => rfl
          | some o => rw [e02 l o q] at hl2; cases hl2) (fun a o h1 h2 => ?_) ⟨⟨dx, ?_⟩, ⟨xs, ?_, ?_⟩, hok⟩
        · rw [upd_ne h1, upd_ne (ne_of_none (e02 a o h2) hl2), upd_ne h1]
          exact e02 a o h2
        · rw [upd_same, hlen, bookF_put]
        · rw [upd_ne hxl, upd_same]
        · refine L2.DpAll.tx (fun a zs r => ?_) hda (tupOA_encW ws)
          have hne : ∀ {o : HO}, H2 a = some o → (∀ C d fs, o ≠ .ins C d fs) → a ≠ x := fun h1 h2 => ne_of h1 hx2 (fun z => h2 _ _ _ z)
          rcases r with r | ⟨ob, r⟩
          · exact .inl (by rw [upd_ne (hne r (by intro _ _ _ z; cases z)), upd_ne (ne_of_none r hl2), upd_ne (hne r (by intro _ _ _ z; cases z))]; exact r)
          · exact .inr ⟨ob, by rw [upd_ne (hne r (by intro _ _ _ z; cases z)), upd_ne (ne_of_none r hl2), upd_ne (hne r (by intro _ _ _ z; cases z))]; exact r⟩



def avBook (K : PySem.W.Frag) (m : Int) (ws : List Wd) : Av := .p (fun v H => ∃ p, v = .ref p ∧ BookAt K H p m ws) fun _ _ _ e h => by
  obtain ⟨p, h1, h2⟩ := h
  exact ⟨p, h1, h2.mono e⟩
section
variable {K : PySem.W.Frag} {σ : L2.St} {H : Hp} {ta tl tw : TE} {E : XK} {p : Addr} {m : Int} {ws : List Wd}
theorem BookAt.isIns (b : BookAt K H p m ws) : ∃ dx l, H p = some (.ins (He.ga K "Book") dx (bookF m (ws.length : Nat) l)) := by
  obtain ⟨l, ⟨dx, h1⟩, _, _⟩ := b
  exact ⟨dx, l, h1⟩
theorem BookAt.good (b : BookAt K H p m ws) : okB m ws := by
  obtain ⟨l, _, _, h⟩ := b
  exact h
theorem ed_bkWords (c : Cls K (He.ga K "Book")) (n : NoAttr K (He.ga K "Book") "_words") (ho : Eg K ta σ H (avBook K m ws)) : Ed K (tFld K ta "_words") σ H (.list (ws.map encW)) := eg_fldP ho c n fun v H1 h => by
  obtain ⟨p, rfl, l, ⟨dx, h1⟩, ⟨xs, h2, h3⟩, _⟩ := h
  exact ⟨p, dx, _, _, rfl, h1, bookF_words _ _ _, .lst (Evl.sq_of h2) h3⟩
theorem ei_bkSize (c : Cls K (He.ga K "Book")) (n : NoAttr K (He.ga K "Book") "size") (ho : Eg K ta σ H (avBook K m ws)) : Ei K (tFld K ta "size") σ H (ws.length : Nat) := eg_fldP ho c n fun v H1 h => by
  obtain ⟨p, rfl, l, ⟨dx, h1⟩, _, _⟩ := h
  exact ⟨p, dx, _, _, rfl, h1, bookF_size _ _ _, .int _⟩
theorem ei_bkLetters (c : Cls K (He.ga K "Book")) (n : NoAttr K (He.ga K "Book") "letters") (ho : Eg K ta σ H (avBook K m ws)) : Ei K (tFld K ta "letters") σ H m := eg_fldP ho c n fun v H1 h => by
  obtain ⟨p, rfl, l, ⟨dx, h1⟩, _, _⟩ := h
  exact ⟨p, dx, _, _, rfl, h1, bookF_letters _ _ _, .int _⟩

theorem bk_meth {f : Str} (h1 : (f == "letters") = false) (h2 : (f == "size") = false) (h3 : (f == "_words") = false) (v : V) (H1 : Hp) (h : ∃ p, v = .ref p ∧ BookAt K H1 p m ws) : ∃ q dq gs, v = .ref q ∧ H1 q = some (.ins (He.ga K "Book") dq gs) ∧ gs.lookup f = none := by
  obtain ⟨p, rfl, b⟩ := h
  obtain ⟨dx, l, h⟩ := b.isIns
  exact ⟨p, dx, _, rfl, h, bookF_no h1 h2 h3⟩

theorem eg_book (h1 : Ei K tl σ H m) (h2 : Ed K tw σ H (.list (ws.map encW))) (hok : okB m ws) : Eg K (tMake (He.ga K "Book") (sp_Book_init K) [] E (tCons tl (tCons tw tNil))) σ H (avBook K m ws) :=
  eg_make (ea_cons h1 (ea_cons h2 ea_nil)) fun vs H1 y dy e r hy hd hne Q q => by
    match vs, r with
    | [v1, v2], r =>
      obtain ⟨r1, r2, _⟩ := r
      have me := made_ex (C := He.ga K "Book") hy hd hne
      refine ⟨y, dy, v1, v2, .int m, .list (ws.map encW), rfl, upd_same, L2.Dp.mono me r1, L2.Dp.mono me r2, fun ds z => ?_, fun m' ws' e1 e2 hok' l H2 hl hk hb => ⟨rfl, ?_⟩, fun z => ?_⟩
      · cases z
        refine ⟨?_, fun x hx ds e3 => ?_⟩
        · rw [List.length_map]
          have := hok.2.2.1
          omega
        · obtain ⟨w, hw, rfl⟩ := List.mem_map.mp hx
          cases e3
          rw [List.length_map]
          have := (hok.2.2.2 w hw).2.1
          omega
      · cases e1
        injection e2 with e2
        have ews : ws = ws' := (List.map_inj_right (fun _ _ z => encW_inj z)).mp e2
        subst ews
        exact q H2 (fun a o h => hk a o (fun z => by subst z; rw [hy] at h; cases h) (me a o h)) ⟨y, rfl, l, hb⟩
      · rw [goodB_iff.mpr ⟨m, ws, rfl, rfl, hok⟩] at z
        cases z
end
def sp_Book_words (K : PySem.W.Frag) : Sp := fun vs H Q _ => ∃ (p : Addr) (m : Int) (ws : List Wd), vs = [.ref p] ∧ BookAt K H p m ws ∧ RetN K H Q (ws.map encW)
abbrev s_Book_words : Stmt := inClass (top 17) 1
theorem sc_Book_words : FnScope ["self"] ["self"] (defScope s_Book_words) := ⟨rfl, rfl, rfl, by decide +kernel, rfl, by decide +kernel, by decide +kernel⟩
theorem ok_Book_words {P : Program} {w : World} {K : PySem.W.Frag} {mg : Str → Option Value} {base : Heap} (T : Top fs fn K mg) : Df P w K mg base 1 ("Book", some "words") ["self"] (sp_Book_words K) := by
  refine df_of T 6 (name := "words") (qual := "Book.words") (s := s_Book_words) (N := ["self"]) (k := 0) rfl sc_Book_words (fun vs H Q E hsp => ?_) (fun _ _ _ _ _ _ us hl => match us, hl with | [_], _ => rfl) (fun cdv A outer s0 H vs Q E hr hsp => ?_)
  · obtain ⟨_, _, _, rfl, _⟩ := hsp
    rfl
  · obtain ⟨p, m, ws, rfl, hsp⟩ := hsp
    refine ⟨_, (pss_one (ps_ret (pe_callTy call_listOf (by rfl) (T.free 11) bt_list (pa_cons (pe_fld (pv 0) rfl) pa_nil)))), ?_⟩
    try dsimp only [cxOf]
    obtain ⟨hb, hQ⟩ := hsp
    exact s_retN (en_listL (ed_bkWords (m := m) (T.cls 18) (T.noat 21) (eg_var rfl ⟨p, rfl, hb⟩))) (fun l xs H1 hl e hx hd => hQ l xs H1 hl e hx hd)
theorem en_bkCall {K : PySem.W.Frag} {σ : L2.St} {H : Hp} {ta : TE} {E : XK} {m : Int} {ws : List Wd} (ho : Eg K ta σ H (avBook K m ws)) : En K (tMeth (He.ga K "Book") "words" (sp_Book_words K) [] E ta tNil) σ H (ws.map encW) :=
  en_methP ho (bk_meth (by decide +kernel) (by decide +kernel) (by decide +kernel)) ea_nil fun v vs H1 e h r Q q => by
    obtain ⟨p, rfl, b⟩ := h
    cases vs with
    | nil => exact ⟨p, m, ws, rfl, b, q⟩
    | cons _ _ => exact r.elim


theorem canLay_ints : ∀ ns : List Int, PyData.canLayAll0 (ns.map .int) = true
  | [] => by simp [PyData.canLayAll0]
  | n :: ns => by simp [PyData.canLayAll0, PyData.canLay0, canLay_ints ns]
theorem canLay_ws : ∀ ws : List Wd, PyData.canLayAll0 (ws.map encW) = true
  | [] => by simp [PyData.canLayAll0]
  | w :: ws => by
    have h : PyData.canLay0 (encW w) = true := by
      simp only [encW, PyData.canLay0]
      exact canLay_ints w
    simp [PyData.canLayAll0, h, canLay_ws ws]
theorem depth_ints : ∀ ns : List Int, PyData.depthAll (ns.map .int) = 0
  | [] => by simp [PyData.depthAll]
  | n :: ns => by simp [PyData.depthAll, PyData.depth, depth_ints ns]
theorem depth_encW (w : Wd) : PyData.depth (encW w) ≤ 1 := by simp [encW, PyData.depth, depth_ints w]
theorem depth_ws : ∀ ws : List Wd, PyData.depthAll (ws.map encW) ≤ 1
  | [] => by simp [PyData.depthAll]
  | w :: ws => by
    have h1 := depth_encW w
    have h2 := depth_ws ws
    simp only [List.map_cons, PyData.depthAll]
    omega
theorem okD_of {d : PyData} (h1 : PyData.canLay0 d = true) (h2 : PyData.depth d ≤ 64) : okD d := by
  show (d.canLay0 && decide (d.depth ≤ 64)) = true
  rw [h1, decide_eq_true h2]
  rfl
theorem okD_int (n : Int) : okD (.int n) := okD_of (by simp [PyData.canLay0]) (by simp [PyData.depth])
theorem okD_encW (w : Wd) : okD (encW w) := okD_of (by simp only [encW, PyData.canLay0]; exact canLay_ints w) (Nat.le_trans (depth_encW w) (by decide))
theorem okD_ws (ws : List Wd) : okD (.list (ws.map encW)) := okD_of (by simp only [PyData.canLay0]; exact canLay_ws ws) (by
  have := depth_ws ws
  simp only [PyData.depth]
  omega)
theorem eqv_ints : ∀ a b : List Int, PyData.eqvAll (a.map .int) (b.map .int) = decide (a = b)
  | [], [] => by simp [PyData.eqvAll]
  | [], _ :: _ => by simp [PyData.eqvAll]
  | _ :: _, [] => by simp [PyData.eqvAll]
  | x :: a, y :: b => by
    simp only [List.map_cons, PyData.eqvAll, PyData.eqv, eqv_ints a b]
    by_cases h : x = y <;> simp [h]
theorem eqv_encW (a b : Wd) : PyData.eqv (encW a) (encW b) = decide (a = b) := by
  simp only [encW, PyData.eqv]
  exact eqv_ints a b
theorem eqv_wsA : ∀ a b : List Wd, PyData.eqvAll (a.map encW) (b.map encW) = decide (a = b)
  | [], [] => by simp [PyData.eqvAll]
  | [], _ :: _ => by simp [PyData.eqvAll]
  | _ :: _, [] => by simp [PyData.eqvAll]
  | x :: a, y :: b => by
    simp only [List.map_cons, PyData.eqvAll, eqv_encW, eqv_wsA a b]
    by_cases h : x = y <;> simp [h]
theorem eqv_ws (a b : List Wd) : PyData.eqv (.list (a.map encW)) (.list (b.map encW)) = decide (a = b) := by
  simp only [PyData.eqv]
  exact eqv_wsA a b
theorem eqv_int (a b : Int) : PyData.eqv (.int a) (.int b) = decide (a = b) := by
  simp only [PyData.eqv]
  by_cases h : a = b <;> simp [h]
theorem cutX_drop (ds : List PyData) (n : Nat) : cutX ds (some (n : Int)) none = ds.drop n := by
  unfold cutX
  have h1 : HT.sIx ds.length ds.length none = ds.length := rfl
  rw [h1, HT.sIx_nat]
  by_cases h : n ≤ ds.length
  · rw [Nat.min_eq_left h, List.take_of_length_le (by rw [List.length_drop]; exact Nat.le_refl _)]
  · rw [Nat.min_eq_right (by omega), List.drop_eq_nil_of_le (Nat.le_refl _), List.drop_eq_nil_of_le (by omega)]
    simp
theorem cutX_take (ds : List PyData) (n : Nat) : cutX ds none (some (n : Int)) = ds.take n := by
  unfold cutX
  have h1 : HT.sIx ds.length 0 none = 0 := rfl
  rw [h1, HT.sIx_nat, List.drop_zero, Nat.sub_zero]
  by_cases h : n ≤ ds.length
  · rw [Nat.min_eq_left h]
  · rw [Nat.min_eq_right (by omega), List.take_of_length_le (Nat.le_refl _), List.take_of_length_le (by omega)]
theorem eqv_bool (a b : Bool) : PyData.eqv (.bool a) (.bool b) = (a == b) := by simp only [PyData.eqv]
theorem okD_bool (b : Bool) : okD (.bool b) := okD_of (by simp [PyData.canLay0]) (by simp [PyData.depth])
theorem ne_self_ws {K : PySem.W.Frag} {σ : L2.St} {H : Hp} {ta tb : TE} {ws : List Wd} (ha : Ed K ta σ H (.list (ws.map encW))) (hb : Ed K tb σ H (.list (ws.map encW))) : Eb K (tOp (rNeD K) ta tb) σ H false :=
  eb_is (eb_ne ha hb (okD_ws ws) (okD_ws ws)) (by rw [eqv_ws, decide_eq_true rfl]; rfl)
theorem ne_self_bool {K : PySem.W.Frag} {σ : L2.St} {H : Hp} {ta tb : TE} {b : Bool} (ha : Eb K ta σ H b) (hb : Eb K tb σ H b) : Eb K (tOp (rNeD K) ta tb) σ H false :=
  eb_is (eb_ne ha hb (okD_bool b) (okD_bool b)) (by rw [eqv_bool]; cases b <;> rfl)
theorem ne_self_int {K : PySem.W.Frag} {σ : L2.St} {H : Hp} {ta tb : TE} {b : Int} (ha : Ei K ta σ H b) (hb : Ei K tb σ H b) : Eb K (tOp (rNeD K) ta tb) σ H false :=
  eb_is (eb_ne ha hb (okD_int b) (okD_int b)) (by rw [eqv_int, decide_eq_true rfl]; rfl)
theorem cutX_init (ds : List PyData) (x : PyData) : cutX (ds ++ [x]) none (some (-1)) = ds := by
  unfold cutX
  have h1 : HT.sIx (ds ++ [x]).length 0 none = 0 := rfl
  have h2 : HT.sIx (ds ++ [x]).length (ds ++ [x]).length (some (-1)) = ds.length := by
    rw [List.length_append, List.length_singleton]
    unfold HT.sIx
    simp
    omega
  rw [h1, h2, List.drop_zero, Nat.sub_zero, List.take_left]
theorem eqv_str (a b : Str) : PyData.eqv (.str a) (.str b) = (a == b) := by simp only [PyData.eqv]
theorem okD_str {s : Str} (h : PyData.strOk s = true) : okD (.str s) := okD_of (by simpa [PyData.canLay0] using h) (by simp [PyData.depth])
theorem okD_ints (ns : List Int) : okD (.list (ns.map .int)) := okD_of (by simp only [PyData.canLay0]; exact canLay_ints ns) (by simp only [PyData.depth, depth_ints ns]; decide)



def metN (ns : List Int) : Nat := (firstMet (fun i => ns.getD i 0) ns.length).length
def tLenSet (K : PySem.W.Frag) (ta : TE) : TE := fun σ H Q => ta σ H fun x H1 => ∃ (l : Addr) (ns : List Int), x = .ref l ∧ SqL K H1 l (ns.map V.int) ∧ ns.length ≤ 4000 ∧ Q (.int (metN ns : Nat)) H1
theorem ints_vals : ∀ {ns : List Int} {us : List Value}, Vals (ns.map V.int) us → PyProof.Rows.IntsAre us ns
  | [], _, .nil => .nil
  | n :: ns, _, .cons r t => by
    obtain ⟨k, rfl⟩ := r
    exact .cons n k (ints_vals t)
theorem pe_lenSet {X : Cx} {a : Expr} {ta : TE} {p p2 q pos : Pos} (hg : Gl X "len") (hm : X.mg "len" = none) (hg2 : Gl X "set") (hm2 : X.mg "set" = none) (ha : PE X a ta) (hc : X.calm = true := by rfl)
    (na : starEach [a] X.env = (false, eval a X.env) :: starEach [] X.env := by rfl) : PE X (.Call (.Name "len" p) [.Call (.Name "set" p2) [a] [] q] [] pos) (tLenSet X.K ta) := by
  refine ⟨fun pins s σ H Q I h => Call_ (ld_blt I hg hm boot_len ?_)⟩
  refine PyProof.Rows.callWith_builtin1 (PyProof.Rows.args_cons (Call_ (ld_blt I hg2 hm2 boot_set ?_)) rfl) rfl rfl
  refine PyProof.Rows.callWith_type1 (PyProof.Rows.args_cons (thn (ha.run pins s σ H _ I h) fun v s1 ⟨x, H1, I1, r1, q1⟩ => PyProof.Rows.args_nil ?_) na) na rfl
  obtain ⟨l, ns, rfl, hq, hl, q1⟩ := q1
  cases r1
  obtain ⟨its, r, pl, hz⟩ := I1.list hq
  have len : its.toArray.size = ns.length := by rw [List.size_toArray, ← r.length, List.length_map]
  refine call_set_list (I1.ok.hd hc) pl.isList (by simpa using ints_vals r) (by rw [len]; unfold scanBound; omega) fun h' tk hS hk => PyProof.Rows.args_nil ?_
  rw [len] at hS
  obtain ⟨o, es, ep, t, ho, hex, hd, _, _, _, hf, hn⟩ := hS
  have I2 : Inv X pins σ H1 { s1 with heap := h', toks := tk } := I1.kept fun b o e => hk b o (Heap.lt_size e) e
  have few : metN ns ≤ 4000 := Nat.le_trans (by unfold metN; exact firstMet_length_le _ _) hl
  exact call_len_set ho hex hd hf (by rw [hn] <;> (unfold metN at few; omega)) ⟨.int (metN ns : Nat), H1, I2.tok _, ⟨_, by rw [hn]; rfl⟩, q1⟩
theorem ei_lenSet {K : PySem.W.Frag} {σ : L2.St} {H : Hp} {te : TE} {ns : List Int} (h : Ed K te σ H (.list (ns.map .int))) (hl : ns.length ≤ 4000) : Ei K (tLenSet K te) σ H (metN ns : Nat) := fun H1 e Q q => h H1 e _ fun v H2 e2 hv => by
  obtain ⟨p, xs, rfl, hs, hd⟩ := L2.Dp.list_inv hv
  rw [L2.DpAll.of_ints hd] at hs
  exact ⟨p, ns, rfl, hs, hl, q _ H2 e2 (.int _)⟩
theorem dedup_len : ∀ (ns acc : List Int), (ns.foldl step_dedup acc).length ≤ acc.length + ns.length ∧ ((ns.foldl step_dedup acc).length = acc.length + ns.length ↔ ns.Nodup ∧ ∀ x ∈ ns, x ∉ acc)
  | [], acc => by simp
  | x :: ns, acc => by
    rw [List.foldl_cons, List.length_cons]
    unfold step_dedup
    by_cases h : acc.any (· == x) = true
    · rw [if_pos h]
      have ih := dedup_len ns acc
      have hx : x ∈ acc := by
        obtain ⟨y, hy, e⟩ := List.any_eq_true.mp h
        rw [← eq_of_beq e]
        exact hy
      unfold step_dedup at ih
      exact ⟨by omega, fun z => by omega, fun z => absurd hx (z.2 x List.mem_cons_self)⟩
    · rw [if_neg h]
      have ih := dedup_len ns (acc ++ [x])
      have hx : x ∉ acc := fun z => h (List.any_eq_true.mpr ⟨x, z, by simp⟩)
      rw [List.length_append, List.length_singleton] at ih
      unfold step_dedup at ih
      refine ⟨by omega, fun z => ?_, fun z => ?_⟩
      · obtain ⟨n1, n2⟩ := ih.2.mp (by omega)
        refine ⟨List.nodup_cons.mpr ⟨fun q => n2 x q (by simp), n1⟩, fun y hy => ?_⟩
        rcases List.mem_cons.mp hy with rfl | hy
        · exact hx
        · exact fun q => n2 y hy (by simp [q])
      · have n := List.nodup_cons.mp z.1
        have := ih.2.mpr ⟨n.2, fun y hy q => by
          rcases List.mem_append.mp q with q | q
          · exact z.2 y (List.mem_cons_of_mem _ hy) q
          · rw [List.mem_singleton] at q
            subst q
            exact n.1 hy⟩
        omega
theorem metN_eq {ns : List Int} : metN ns = ns.length ↔ ns.Nodup := by
  have e : (List.range ns.length).map (fun i => ns.getD i 0) = ns := by
    apply List.ext_getElem
    · simp
    · intro i h1 h2
      simp [List.getD_eq_getElem?_getD, List.getElem?_eq_getElem h2]
  unfold metN firstMet
  rw [e]
  have := (dedup_len ns []).2
  simpa using this


def hdP : PyData → PyData
  | .tuple (d :: _) => d
  | _ => .none
def revP : PyData → PyData
  | .tuple ds => .tuple ds.reverse
  | d => d

def allDif (ns : List Int) : Bool := decide (((metN ns : Nat) : Int) = (ns.length : Nat))
theorem allDif_iff {ns : List Int} : allDif ns = true ↔ ns.Nodup := by
  unfold allDif
  rw [decide_eq_true_iff, ← metN_eq]
  omega
theorem hdP_ws {m : Int} : ∀ {ws : List Wd}, (∀ w ∈ ws, okW m w) → (ws.map encW).map hdP = (ws.map hdW).map .int
  | [], _ => rfl
  | w :: ws, h => by
    have h1 := (h w List.mem_cons_self).1
    rw [List.map_cons, List.map_cons, List.map_cons, List.map_cons, hdP_ws fun x hx => h x (List.mem_cons_of_mem _ hx)]
    cases w with
    | nil => simp at h1
    | cons x w => rfl
theorem revP_ws (ws : List Wd) : (ws.map encW).map revP = (ws.map List.reverse).map encW := by
  rw [List.map_map, List.map_map]
  apply List.map_congr_left
  intro w _
  show PyData.tuple (w.map PyData.int).reverse = .tuple (w.reverse.map .int)
  rw [List.map_reverse]
def sp_are_different (K : PySem.W.Frag) : Sp := fun vs H Q _ => ∃ (v : V) (ns : List Int), vs = [v] ∧ Dp K H v (.list (ns.map .int)) ∧ ns.length ≤ 4000 ∧ RetD K H Q (.bool (allDif ns))
abbrev s__are_different : Stmt := top 16
theorem sc__are_different : FnScope ["letters"] ["letters"] (defScope s__are_different) := ⟨rfl, rfl, rfl, by decide +kernel, rfl, by decide +kernel, by decide +kernel⟩
theorem ok__are_different {P : Program} {w : World} {K : PySem.W.Frag} {mg : Str → Option Value} {base : Heap} (T : Top fs fn K mg) : Df P w K mg base 1 ("_are_different", none) ["letters"] (sp_are_different K) := by
  refine df_of T 7 (name := "_are_different") (qual := "_are_different") (s := s__are_different) (N := ["letters"]) (k := 0) rfl sc__are_different (fun vs H Q E hsp => ?_) (fun _ _ _ _ _ _ us hl => match us, hl with | [_], _ => rfl) (fun cdv A outer s0 H vs Q E hr hsp => ?_)
  · obtain ⟨_, _, rfl, _⟩ := hsp
    rfl
  · obtain ⟨v, ns, rfl, hsp⟩ := hsp
    refine ⟨_, (pss_one (ps_ret (pe_cmpR (op_eqD hr.units) (pe_lenSet rfl (T.free 3) rfl (T.free 22) (pv 0)) (pe_callB call_lenU (by rfl) (T.free 3) bt_len (pa_cons (pv 0) pa_nil)) (nomark _)))), ?_⟩
    try dsimp only [cxOf]
    obtain ⟨hd, hl, hQ⟩ := hsp
    refine s_ret (a := .d (.bool (allDif ns))) ?_ (fun v' H1 e r => hQ v' H1 e r)
    exact eb_is (eb_eq (ei_lenSet (eg_vard rfl hd) hl) (ei_is (ei_lenL (eg_vard rfl hd)) (by rw [List.length_map])) (okD_int _) (okD_int _)) (eqv_int _ _)
theorem eb_different {K : PySem.W.Frag} {σ : L2.St} {H : Hp} {ta : TE} {E : XK} {ns : List Int} (ha : Ed K ta σ H (.list (ns.map .int))) (hl : ns.length ≤ 4000) : Eb K (tCall (sp_are_different K) [] E (tCons ta tNil)) σ H (allDif ns) :=
  ed_call (ea_cons ha ea_nil) fun vs H1 e r Q k => by
    match vs, r with
    | [v], r => exact ⟨v, ns, rfl, r.1, hl, k⟩


def startsA (ws : List Wd) : Bool := allDif (ws.map hdW)
def revB (ws : List Wd) : List Wd := ws.map List.reverse
theorem okB_rev {m : Int} {ws : List Wd} (h : okB m ws) : okB m (revB ws) := ⟨h.1, h.2.1, by unfold revB; rw [List.length_map]; exact h.2.2.1, fun w hw => by
  obtain ⟨u, hu, rfl⟩ := List.mem_map.mp hw
  obtain ⟨a, b, c⟩ := h.2.2.2 u hu
  exact ⟨by rw [List.length_reverse]; exact a, by rw [List.length_reverse]; exact b, fun x hx => c x (List.mem_reverse.mp hx)⟩⟩
theorem revB_revB (ws : List Wd) : revB (revB ws) = ws := by
  unfold revB
  rw [List.map_map]
  conv => rhs; rw [← List.map_id ws]
  apply List.map_congr_left
  intro w _
  exact List.reverse_reverse w
abbrev RetA (K : PySem.W.Frag) (H : Hp) (Q : VK) (a : Av) : Prop := ∀ v H', Ex H H' → Rl K H' v a → Q v H'


def sp_starts_apart (K : PySem.W.Frag) : Sp := fun vs H Q _ => ∃ (p : Addr) (m : Int) (ws : List Wd), vs = [.ref p] ∧ BookAt K H p m ws ∧ RetD K H Q (.bool (startsA ws))
abbrev s_Book_starts_apart : Stmt := inClass (top 17) 5
theorem sc_Book_starts_apart : FnScope ["self", "word"] ["self"] (defScope s_Book_starts_apart) := ⟨rfl, rfl, rfl, by decide +kernel, rfl, by decide +kernel, by decide +kernel⟩
theorem ok_Book_starts_apart {P : Program} {w : World} {K : PySem.W.Frag} {mg : Str → Option Value} {base : Heap} (T : Top fs fn K mg) : Df P w K mg base 2 ("Book", some "starts_apart") ["self"] (sp_starts_apart K) := by
  refine df_of T 8 (name := "starts_apart") (qual := "Book.starts_apart") (s := s_Book_starts_apart) (N := ["self", "word"]) (k := 1) rfl sc_Book_starts_apart (fun vs H Q E hsp => ?_) (fun _ _ _ _ _ _ us hl => match us, hl with | [_], _ => rfl) (fun cdv A outer s0 H vs Q E hr hsp => ?_)
  · obtain ⟨_, _, _, rfl, _⟩ := hsp
    rfl
  · obtain ⟨⟨fd__are_different, G__are_different, b__are_different⟩, k__are_different⟩ := ok__are_different (P := P) (w := w) (base := base) T
    obtain ⟨p, m, ws, rfl, hsp⟩ := hsp
    refine ⟨_, (pss_one (ps_ret (pe_call G__are_different (hr.mono (by decide)) rfl (T.glo 23) k__are_different b__are_different .nil (passes_call (takes_of rfl rfl rfl rfl) (fun _ _ _ _ h => h)) (pa_cons (pe_lc (own := [("word", 1)]) (g := gName 1) rfl sc_Book_starts_apart.nd (pi_list (pe_fld (pv 0) rfl)) (blkOk_by (own := [("word", 1)]) (N := ["self", "word"]) (sc := defScope s_Book_starts_apart) (by decide +kernel)) (fun _ _ _ _ _ => (pg_name (i := 1) sc_Book_starts_apart.nd rfl (Or.inl rfl))) (fun _ _ _ _ _ => pts_nil) (fun _ _ _ _ _ => (pe_ix (ix_seqK (K := K) rfl) (pv 1) (pe_int) (fun _ _ => rfl)))) pa_nil)))), ?_⟩
    try dsimp only [cxOf]
    obtain ⟨hb, hQ⟩ := hsp
    have hok := hb.good
    refine s_ret (a := .d (.bool (startsA ws))) ?_ (fun v' H1 e r => hQ v' H1 e r)
    refine eb_different (En.eg (en_is (en_mapL (j := 1) hdP (ed_bkWords (m := m) (T.cls 18) (T.noat 21) (eg_var rfl ⟨p, rfl, hb⟩)) ?_ (fun _ => rfl) ?_ fun x v H1 hx e1 hv => ?_) (hdP_ws hok.2.2.2))) ?_
    · rw [List.length_map]
      have := hok.2.2.1
      omega
    · intro x hx
      obtain ⟨w, _, rfl⟩ := List.mem_map.mp hx
      cases w <;> rfl
    · obtain ⟨w, hw, rfl⟩ := List.mem_map.mp hx
      have := (hok.2.2.2 w hw).1
      cases w with
      | nil => simp at this
      | cons y w => exact ed_ixT (n := 0) (eg_vard rfl hv) (by walk_at "ev") (atI_ofNat (j := 0) rfl)
    · rw [List.length_map]
      have := hok.2.2.1
      omega
theorem eb_startsA {K : PySem.W.Frag} {σ : L2.St} {H : Hp} {ta : TE} {E : XK} {m : Int} {ws : List Wd} (ho : Eg K ta σ H (avBook K m ws)) : Eb K (tMeth (He.ga K "Book") "starts_apart" (sp_starts_apart K) [] E ta tNil) σ H (startsA ws) :=
  eg_methP ho (bk_meth (by decide +kernel) (by decide +kernel) (by decide +kernel)) ea_nil fun v vs H1 e h r Q q => by
    obtain ⟨p, rfl, b⟩ := h
    cases vs with
    | nil => exact ⟨p, m, ws, rfl, b, q⟩
    | cons _ _ => exact r.elim


def Ez (te : TE) (σ : L2.St) (H : Hp) : Prop := ∀ H1, Ex H H1 → ∀ Q : VK, te σ H1 Q
def Eza (ta : TA) (σ : L2.St) (H : Hp) : Prop := ∀ H1, Ex H H1 → ∀ Q : List V → Hp → Prop, ta σ H1 Q
section
variable {K : PySem.W.Frag} {σ : L2.St} {H : Hp} {ta tb te : TE} {tu tw tz : TS} {tr : TA} {as : List Av} {a : Av} {r : R2} {rb : List V → Hp → VK → Prop} {D : Ends} {sp : Sp} {E : XK} {C : Addr} {m : Str} {g : TG}
theorem ez_opL (h : Ez ta σ H) : Ez (tOp r ta tb) σ H := fun H1 e _ => h H1 e _
theorem ez_opR (ha : Eg K ta σ H a) (h : Ez tb σ H) : Ez (tOp r ta tb) σ H := fun H1 e _ => ha H1 e _ fun _ H2 e2 _ => h H2 (e.trans e2) _
theorem ez_cb (h : Eza tr σ H) : Ez (tCB rb tr) σ H := fun H1 e _ => h H1 e _
theorem eza_hd (h : Ez te σ H) : Eza (tCons te tr) σ H := fun H1 e _ => h H1 e _
theorem eza_tl (h : Eg K te σ H a) (hr : Eza tr σ H) : Eza (tCons te tr) σ H := fun H1 e _ => h H1 e _ fun _ H2 e2 _ => hr H2 (e.trans e2) _
theorem ez_call (ha : Ea K tr σ H as) (hs : ∀ vs H1, Ex H H1 → RlA K H1 vs as → ∀ Q : VK, sp vs H1 Q E) : Ez (tCall sp [] E tr) σ H := fun H1 e Q => ha H1 e _ fun vs H2 e2 q => by
  rw [List.append_nil]
  exact hs vs H2 (e.trans e2) q Q
theorem ez_callA (h : Eza tr σ H) : Ez (tCall sp [] E tr) σ H := fun H1 e _ => h H1 e _
theorem ez_makeA (h : Eza tr σ H) : Ez (tMake C sp [] E tr) σ H := fun H1 e _ => h H1 e _
theorem ez_make (ha : Ea K tr σ H as) (hs : ∀ vs H1 y dy, Ex H H1 → RlA K H1 vs as → H1 y = none → H1 dy = none → dy ≠ y → ∀ Q : VK, sp (.ref y :: vs) (upd (upd H1 dy (.own y)) y (.ins C dy [])) Q E) : Ez (tMake C sp [] E tr) σ H := fun H1 e Q => ha H1 e _ fun vs H2 e2 q y dy hy hd hn => by
  rw [List.append_nil]
  exact hs vs H2 y dy (e.trans e2) q hy hd hn _
theorem ez_methP {P : V → Hp → Prop} {hm : ∀ v H H', Ex H H' → P v H → P v H'} (ho : Eg K ta σ H (.p P hm)) (h : ∀ v H1, P v H1 → ∃ q dq gs, v = .ref q ∧ H1 q = some (.ins C dq gs) ∧ gs.lookup m = none) (ha : Ea K tr σ H as)
    (hs : ∀ v vs H1, Ex H H1 → P v H1 → RlA K H1 vs as → ∀ Q : VK, sp (v :: vs) H1 Q E) : Ez (tMeth C m sp [] E ta tr) σ H := fun H1 e Q => ho H1 e _ fun v H2 e2 hv => by
  obtain ⟨o, dq, gs, e0, h1, h2⟩ := h v H2 hv
  refine ⟨o, dq, gs, e0, h1, h2, ha H2 (e.trans e2) _ fun vs H3 e3 q => ?_⟩
  rw [List.append_nil]
  exact hs v vs H3 ((e.trans e2).trans e3) (hm _ _ _ e3 hv) q Q
theorem z_ret (h : Ez te σ H) : tRet te D σ H := h H (Ex.refl H) _
theorem z_asg (h : Ez te σ H) : tAsg te g D σ H := h H (Ex.refl H) _
theorem z_drop (h : Ez te σ H) : tDrop te D σ H := h H (Ex.refl H) _
theorem z_if (h : Ez te σ H) : tIfS (tTest te) tu tw D σ H := h H (Ex.refl H) _
theorem z_ifn (h : Ez te σ H) : tIfS (tNot (tTru K te)) tu tw D σ H := h H (Ex.refl H) _
end


theorem ext_tup (l : Addr) (items : Array Value) (n : Nat) (b : Addr) (items2 : Array Value) (n2 : Nat) (dd : Option Addr) (sl : Array (Option Value)) (h0 : ¬(!items.isEmpty && Builtin.List.listTooLong (items.size + items2.size)) = true) (h1 : items.size ≤ sizeLine) (h2 : items.size + items2.size ≤ sizeLine + 1) :
    Meets (Builtin.«list.extend» ⟨[.ref l, .ref b], []⟩) (fun _ R s => s.heap.get? l = some { cls := .type "list", dict := none, data := .seq items n, slots := #[] } ∧ s.heap.get? b = some { cls := .type "tuple", dict := dd, data := .seq items2 n2, slots := sl } ∧
      R (.ok (.ret Value.none)) { s with heap := s.heap.update l (Obj.mapSeq fun x => x ++ items2), toks := s.toks }) :=
  .of_wp fun prog w A R s h => by
    obtain ⟨hp, g, d, tk, os⟩ := s
    obtain ⟨hl, hb, h⟩ := h
    have f1 := PySem.AutoSeq1.idx_int
    have f2 := PySem.AutoSeq1.sub_tuple_tuple
    have f3 := PySem.AutoSeq1.sub_list_list
    have f4 := PySem.AutoSeq1.sub_tuple_list
    have f5 := PySem.AutoSeq1.sub_list_tuple
    have fits : (items ++ items2).size ≤ sizeLine + 1 := by rw [Array.size_append]; exact h2
    wp_walk using (wpAny_updateSeq hl rfl (hz := h1) (_hz' := fits)), wpAny_loadPart' hl, wpAny_loadPart' hb
    exact ⟨_, rfl, h⟩
def rExtendT (K : PySem.W.Frag) : V → List V → Hp → VK → Prop := fun x vs H Q => ∃ l b xs zs, x = .ref l ∧ vs = [.ref b] ∧ H l = some (.lst xs) ∧ SqT K H b zs ∧ xs.length + zs.length ≤ sizeLine ∧ Q .non (upd H l (.lst (xs ++ zs)))
theorem mt_extendT {X : Cx} : MtM X "list.extend" (rExtendT X.K) := by
  intro pins s σ H x vs v us Q I rx rv h
  obtain ⟨l, b, xs, zs, rfl, rfl, hH, hB, hz, q⟩ := h
  cases rx
  obtain ⟨u, rfl, ru⟩ := rv.one
  cases ru
  obtain ⟨z, its, n, r, hl, e⟩ := I.lstM hH
  obtain ⟨its2, r2, ⟨⟨c, dd, dt, sl⟩, ho, hc, n2, hd⟩, hz2⟩ := I.tuple hB
  dsimp only at hc hd
  subst hc hd
  have len := r.length
  have len2 := r2.length
  have fits : its.toArray.size + its2.toArray.size ≤ sizeLine := by rw [List.size_toArray, List.size_toArray]; omega
  have long : ¬ (!its.toArray.isEmpty && Builtin.List.listTooLong (its.toArray.size + its2.toArray.size)) = true := by
    rw [notLongL fits, Bool.and_false]
    exact Bool.false_ne_true
  refine call_meets PySem.F.slot_list_extend ⟨_, e, rfl⟩ PySem.F.entry_list_extend (PySem.F.args_list_extend_2 _ _)
    (ext_tup l its.toArray n b its2.toArray n2 dd sl long (by rw [List.size_toArray]; omega) (by omega)) ⟨e, ho, ?_⟩
  refine ⟨.non, _, I.lset (its' := its ++ its2) hH e (by simp) (r.append r2) (by rw [List.length_append]; omega), rfl, q⟩
section
variable {K : PySem.W.Frag} {σ : L2.St} {H : Hp} {ta te : TE} {tz : TS} {D : Ends} {ds : List PyData} {p : Addr} {xs : List V}
theorem s_extT (ho : Eg K ta σ H (.v (.ref p))) (hp : H p = some (.lst xs)) (h : Ed K te σ H (.tuple ds)) (hz : xs.length + ds.length ≤ 1000000)
    (k : ∀ zs H1, Ex H H1 → DpAll K H1 zs ds → D.nx σ (upd H1 p (.lst (xs ++ zs)))) : tDrop (tBM K "list" (rExtendT K) ta (tCons te tNil)) D σ H := ho H (Ex.refl H) _ fun v H1 e1 hv => by
  cases hv
  refine ⟨Or.inl ⟨rfl, xs, Evl.sq_of (e1 p _ hp)⟩, h H1 e1 _ fun w H2 e2 r => ?_⟩
  obtain ⟨b, zs, rfl, hs, hd⟩ := L2.Dp.tup_inv r
  exact ⟨p, b, xs, zs, rfl, rfl, e2 p _ (e1 p _ hp), hs, by rw [L2.DpAll.length hd, sizeLine_eq]; omega, k zs H2 (e1.trans e2) hd⟩
theorem q_extT (ho : Eg K ta σ H (.v (.ref p))) (hp : H p = some (.lst xs)) (h : Ed K te σ H (.tuple ds)) (hz : xs.length + ds.length ≤ 1000000)
    (k : ∀ zs H1, Ex H H1 → DpAll K H1 zs ds → tz D σ (upd H1 p (.lst (xs ++ zs)))) : tSeq (tDrop (tBM K "list" (rExtendT K) ta (tCons te tNil))) tz D σ H := s_extT (D := { D with nx := tz D }) ho hp h hz k
end


def okRw (n : Int) (r : List Int) : Prop := ∀ x ∈ r, 0 ≤ x ∧ x ≤ n - 1
def wdAt (ws : List Wd) (x : Int) : Wd := ws.getD x.toNat []
def txt (ws : List Wd) (r : List Int) : Wd := (r.map (wdAt ws)).flatten
theorem txt_len (ws : List Wd) : ∀ r : List Int, (r.map fun x => (((wdAt ws x).length : Nat) : Int)).sum = ((txt ws r).length : Nat)
  | [] => rfl
  | x :: r => by
    have := txt_len ws r
    unfold txt at this ⊢
    simp only [List.map_cons, List.sum_cons, List.flatten_cons, List.length_append, this]
    omega
theorem txt_nil (ws : List Wd) : txt ws [] = [] := rfl
theorem txt_cons (ws : List Wd) (x : Int) (r : List Int) : txt ws (x :: r) = wdAt ws x ++ txt ws r := by
  unfold txt
  rw [List.map_cons, List.flatten_cons]
theorem txt_app (ws : List Wd) (r s : List Int) : txt ws (r ++ s) = txt ws r ++ txt ws s := by
  unfold txt
  rw [List.map_append, List.flatten_append]
theorem wdAt_mem {ws : List Wd} {x : Int} (h0 : 0 ≤ x) (h1 : x ≤ ((ws.length : Nat) : Int) - 1) : ws[x.toNat]? = some (wdAt ws x) := by
  unfold wdAt
  rw [List.getD_eq_getElem?_getD, List.getElem?_eq_getElem (by omega), Option.getD_some]
theorem okRw_iff {d : PyData} {n : Int} : areLet d n = true ↔ ∃ r, d = encW r ∧ okRw n r := by
  constructor
  · exact fun h => areLet_tup h
  · rintro ⟨r, rfl, h⟩
    exact areLet_of h

theorem ed_wordAt {K : PySem.W.Frag} {σ : L2.St} {H : Hp} {ta tb : TE} {m n : Int} {ws : List Wd} (c : Cls K (He.ga K "Book")) (na : NoAttr K (He.ga K "Book") "_words") (ho : Eg K ta σ H (avBook K m ws)) (hb : Ei K tb σ H n) (h0 : 0 ≤ n) (h1 : n ≤ ((ws.length : Nat) : Int) - 1) : Ed K (tOp (rIx K) (tFld K ta "_words") tb) σ H (encW (wdAt ws n)) :=
  ed_ixL (ed_bkWords c na ho) hb (atI_of h0 (by rw [List.getElem?_map, wdAt_mem h0 h1]; rfl))
def sp_Book_length (K : PySem.W.Frag) : Sp := fun vs H Q E => ∃ (p : Addr) (m : Int) (ws : List Wd) (v : V) (d : PyData), vs = [.ref p, v] ∧ BookAt K H p m ws ∧ Dp K H v d ∧ fewT d ∧
  (∀ r, d = encW r → okRw (ws.length : Nat) r → RetD K H Q (.int (txt ws r).length)) ∧ (areLet d (ws.length : Nat) = false → Err (He.ga K "BadRow") H E)
abbrev s_Book_length : Stmt := inClass (top 17) 3
theorem sc_Book_length : FnScope ["self", "row", "number"] ["self", "row"] (defScope s_Book_length) := ⟨rfl, rfl, rfl, by decide +kernel, rfl, by decide +kernel, by decide +kernel⟩
theorem ok_Book_length {P : Program} {w : World} {K : PySem.W.Frag} {mg : Str → Option Value} {base : Heap} (T : Top fs fn K mg) : Df P w K mg base 3 ("Book", some "length") ["self", "row"] (sp_Book_length K) := by
  refine df_of T 9 (name := "length") (qual := "Book.length") (s := s_Book_length) (N := ["self", "row", "number"]) (k := 2) rfl sc_Book_length (fun vs H Q E hsp => ?_) (fun _ _ _ _ _ _ us hl => match us, hl with | [_, _], _ => rfl) (fun cdv A outer s0 H vs Q E hr hsp => ?_)
  · obtain ⟨_, _, _, _, _, rfl, _⟩ := hsp
    rfl
  · obtain ⟨⟨fd_are_letters, G_are_letters, b_are_letters⟩, k_are_letters⟩ := ok_are_letters (P := P) (w := w) (base := base) T
    obtain ⟨p, m, ws, v, d, rfl, hsp⟩ := hsp
    refine ⟨_, (pss_cons (ps_if (pt_not (pt_tru (pe_call G_are_letters (hr.mono (by decide)) rfl (T.glo 5) k_are_letters b_are_letters .nil (passes_call (takes_of rfl rfl rfl rfl) (fun _ _ _ _ h => h)) (pa_cons (pv 1) (pa_cons (pe_fld (pv 0) rfl) pa_nil)))))
      (pss_one (ps_raise rfl (takes_of rfl rfl rfl rfl) (pmk_own PySem.F.excBase_ValueError (T.exc 24).1 (T.glo 25) (T.exc 24).2.1 (raises_own (T.exc 24).2.2.1 (T.exc 24).2.2.2) rfl)))
      pss_nil)
      (pss_one (ps_ret (pe_callB (cr_sum rfl) (by rfl) (T.free 26) bt_sum (pa_cons (pe_lc (own := [("number", 2)]) (g := gName 2) rfl sc_Book_length.nd (pi_tup (pv 1)) (blkOk_by (own := [("number", 2)]) (N := ["self", "row", "number"]) (sc := defScope s_Book_length) (by decide +kernel)) (fun _ _ _ _ _ => (pg_name (i := 2) sc_Book_length.nd rfl (Or.inl rfl))) (fun _ _ _ _ _ => pts_nil) (fun _ _ _ _ _ => (pe_callB (call_lenK (K := K) rfl) (by rfl) (T.free 3) bt_len (pa_cons (pe_ix (ix_seqK (K := K) rfl) (pe_fldK (K := K) rfl (pv 0) rfl) (pv 2) (fun _ _ => rfl)) pa_nil)))) pa_nil))))), ?_⟩
    try dsimp only [cxOf]
    obtain ⟨hb, hd, hf, hQ, hE⟩ := hsp
    refine q_when (b := !areLet d (ws.length : Nat)) (Evl.et_not (et_trub (eb_areLet (by walk_at "ev") (ei_bkSize (m := m) (T.cls 18) (T.noat 20) (eg_var rfl ⟨p, rfl, hb⟩)) hf))) (fun h1 H1 e1 => ?_) (fun h1 H1 e1 => ?_)
    · exact hE (by simpa using h1) H1 e1
    · have h1 : areLet d (ws.length : Nat) = true := by simpa using h1
      obtain ⟨r, rfl, hr⟩ := okRw_iff.mp h1
      have hl : r.length ≤ 1000000 := by
        have := hf _ rfl
        rwa [List.length_map] at this
      refine s_ret (a := .d (.int (txt ws r).length)) ?_ (fun v' H2 e rr => hQ r rfl hr v' H2 (e1.trans e) rr)
      have hd1 := L2.Dp.mono e1 hd
      refine ei_is (ei_sum (ns := r.map fun x => (((wdAt ws x).length : Nat) : Int)) (En.eg (en_is (en_mapT (j := 2) (fun x => match x with | .int i => .int (((wdAt ws i).length : Nat) : Int) | _ => .none) (eg_vard rfl hd1) ?_ (fun _ => rfl) ?_ fun x v H2 hx e2 hv => ?_) ?_))) (txt_len ws r)
      · rw [List.length_map]
        exact hl
      · intro x hx
        obtain ⟨i, _, rfl⟩ := List.mem_map.mp hx
        rfl
      · obtain ⟨i, hi, rfl⟩ := List.mem_map.mp hx
        obtain ⟨i0, i1⟩ := hr i hi
        refine ei_is (ei_lenT (ed_wordAt (m := m) (n := i) (T.cls 18) (T.noat 21) (eg_var rfl ⟨p, rfl, hb.mono (e1.trans e2)⟩) (eg_vard rfl hv) i0 i1)) ?_
        rw [List.length_map]
      · rw [List.map_map, List.map_map]
        rfl
section
variable {K : PySem.W.Frag} {σ : L2.St} {H : Hp} {ta tb : TE} {E : XK} {m : Int} {ws : List Wd} {r : List Int} {d : PyData}
theorem ei_bkLength (ho : Eg K ta σ H (avBook K m ws)) (hb : Ed K tb σ H (encW r)) (hr : okRw (ws.length : Nat) r) (hl : r.length ≤ 1000000) : Ei K (tMeth (He.ga K "Book") "length" (sp_Book_length K) [] E ta (tCons tb tNil)) σ H (txt ws r).length :=
  eg_methP ho (bk_meth (by decide +kernel) (by decide +kernel) (by decide +kernel)) (ea_cons hb ea_nil) fun v vs H1 e h q Q k => by
    obtain ⟨p, rfl, b⟩ := h
    match vs, q with
    | [w], q =>
      refine ⟨p, m, ws, w, encW r, rfl, b, q.1, fun ds z => ?_, fun r' z _ => ?_, fun z => ?_⟩
      · cases z
        rw [List.length_map]
        exact hl
      · cases encW_inj z
        exact k
      · rw [areLet_of hr] at z
        cases z
theorem ez_bkLength (ho : Eg K ta σ H (avBook K m ws)) (hb : Ed K tb σ H d) (hf : fewT d) (hr : areLet d (ws.length : Nat) = false) (hE : ∀ H1, Ex H H1 → E (.ref (He.ga K "BadRow")) none H1) : Ez (tMeth (He.ga K "Book") "length" (sp_Book_length K) [] E ta (tCons tb tNil)) σ H :=
  ez_methP ho (bk_meth (by decide +kernel) (by decide +kernel) (by decide +kernel)) (ea_cons hb ea_nil) fun v vs H1 e h q Q => by
    obtain ⟨p, rfl, b⟩ := h
    match vs, q with
    | [w], q =>
      refine ⟨p, m, ws, w, d, rfl, b, q.1, hf, fun r' z hr' => ?_, fun _ H2 e2 => hE H2 (e.trans e2)⟩
      rw [z, areLet_of hr'] at hr
      cases hr
end


def sp_Book_read (K : PySem.W.Frag) : Sp := fun vs H Q E => ∃ (p : Addr) (m : Int) (ws : List Wd) (v : V) (d : PyData), vs = [.ref p, v] ∧ BookAt K H p m ws ∧ Dp K H v d ∧ fewT d ∧
  (∀ r, d = encW r → okRw (ws.length : Nat) r → (txt ws r).length ≤ 100000 → RetD K H Q (encW (txt ws r))) ∧ (areLet d (ws.length : Nat) = false → Err (He.ga K "BadRow") H E) ∧ (∀ r, d = encW r → okRw (ws.length : Nat) r → 100000 < (txt ws r).length → Err (He.ga K "TooLong") H E)
abbrev s_Book_read : Stmt := inClass (top 17) 4
theorem sc_Book_read : FnScope ["self", "row", "found", "number"] ["self", "row"] (defScope s_Book_read) := ⟨rfl, rfl, rfl, by decide +kernel, rfl, by decide +kernel, by decide +kernel⟩
theorem ok_Book_read {P : Program} {w : World} {K : PySem.W.Frag} {mg : Str → Option Value} {base : Heap} (T : Top fs fn K mg) : Df P w K mg base 4 ("Book", some "read") ["self", "row"] (sp_Book_read K) := by
  refine df_of T 10 (name := "read") (qual := "Book.read") (s := s_Book_read) (N := ["self", "row", "found", "number"]) (k := 3) rfl sc_Book_read (fun vs H Q E hsp => ?_) (fun _ _ _ _ _ _ us hl => match us, hl with | [_, _], _ => rfl) (fun cdv A outer s0 H vs Q E hr hsp => ?_)
  · obtain ⟨_, _, _, _, _, rfl, _⟩ := hsp
    rfl
  · obtain ⟨⟨fd_Book_length, G_Book_length, b_Book_length⟩, k_Book_length⟩ := ok_Book_length (P := P) (w := w) (base := base) T
    obtain ⟨p, m, ws, v, d, rfl, hsp⟩ := hsp
    refine ⟨_, (pss_cons (ps_if (pt_cmpR op_gtI (pe_meth (pv 0) (T.cls 18) (T.meth 27) G_Book_length (hr.mono (by decide)) b_Book_length .nil (passes_call (takes_of rfl rfl rfl rfl) (fun _ _ _ _ h => h)) (pa_cons (pv 1) pa_nil)) (pe_gi (T.int 28)) (nomark _))
      (pss_one (ps_raise rfl (takes_of rfl rfl rfl rfl) (pmk_own PySem.F.excBase_ValueError (T.exc 29).1 (T.glo 30) (T.exc 29).2.1 (raises_own (T.exc 29).2.2.1 (T.exc 29).2.2.2) rfl)))
      pss_nil)
      (pss_cons (ps_set (i := 2) sc_Book_read.nd rfl (.inl rfl) (pe_lst pa_nil))
      (pss_cons (ps_for (passes_of rfl) rfl (pi_tup (pv 1)) (pg_name (i := 3) sc_Book_read.nd rfl (.inl rfl))
      (pss_one (ps_expr (pe_bm PySem.F.plainAttrs_list PySem.F.slot_list_extend PySem.F.type_list_extend mt_extendT (pv 2) (pa_cons (pe_ix ix_seq (pe_fld (pv 0) rfl) (pv 3) (fun _ _ => rfl)) pa_nil)))))
      (pss_one (ps_ret (pe_callTy call_tupOf (by rfl) (T.free 9) bt_tuple (pa_cons (pv 2) pa_nil))))))), ?_⟩
    try dsimp only [cxOf]
    obtain ⟨hb, hd, hf, hQ, hE, hE2⟩ := hsp
    cases h1 : areLet d (ws.length : Nat) with
    | false => exact z_if (ez_opL (ez_bkLength (m := m) (ws := ws) (eg_var rfl ⟨p, rfl, hb⟩) (by walk_at "ev") hf h1 (hE h1)))
    | true =>
      obtain ⟨r, rfl, hr⟩ := okRw_iff.mp h1
      have hl : r.length ≤ 1000000 := by
        have := hf _ rfl
        rwa [List.length_map] at this
      refine q_when (b := decide ((100000 : Int) < ((txt ws r).length : Nat))) (et_tst (K := K) (eb_gt (ei_bkLength (m := m) (ws := ws) (eg_var rfl ⟨p, rfl, hb⟩) (by walk_at "ev") hr hl) (by walk_at "ev"))) (fun h2 H1 e1 => ?_) (fun h2 H1 e1 => ?_)
      · have h2 := of_decide_eq_true h2
        exact hE2 r rfl hr (by omega) H1 e1
      · have h2 := of_decide_eq_false h2
        have few : (txt ws r).length ≤ 100000 := by omega
        refine q_setN (K := K) (ds := []) (en_lst ea_nil) fun l xs H2 hl2 e2 hx hdx => ?_
        cases hdx
        have e02 := e1.trans e2
        refine q_forT (K := K) (eg_vard rfl (L2.Dp.mono e02 hd)) fun q ys H3 e3 hq hqd => ?_
        cases L2.DpAll.of_ints hqd
        have hlf : H l = none := Evl.fresh_back e1 hl2
        refine loop_tup (xs := r.map V.int) (Pv := fun i σ H' => (Ex H H' ∧ SqT K H' q (r.map V.int)) ∧ ∃ (xs : List V) (o3 : Option V), H' l = some (.lst xs) ∧ DpAll K H' xs ((txt ws (r.take i)).map .int) ∧ σ = [some (.ref p), some v, some (.ref l), o3]) ⟨⟨e02.trans e3, hq⟩, [], none, e3 _ _ hx, .nil, rfl⟩ (fun i σ H' _ z => z.1.2) ?_ ?_
        · rintro i x σ H4 hi ⟨⟨e4, hq4⟩, xs, o3, h4l, h4d, rfl⟩
          rw [List.getElem?_map] at hi
          obtain ⟨n, hn, rfl⟩ : ∃ n, r[i]? = some n ∧ x = V.int n := by
            cases h : r[i]? with
            | none => rw [h] at hi; cases hi
            | some n => rw [h] at hi; cases hi; exact ⟨n, rfl, rfl⟩
          obtain ⟨n0, n1⟩ := hr n (List.mem_of_getElem? hn)
          have htk : r.take (i + 1) = r.take i ++ [n] := by rw [List.take_add_one, hn]; rfl
          have hlen : (txt ws (r.take i)).length + (wdAt ws n).length ≤ 100000 := by
            have h := congrArg (fun z => (txt ws z).length) (List.take_append_drop (i + 1) r)
            rw [htk, txt_app, txt_app, List.length_append, List.length_append, txt_cons, List.length_append] at h
            omega
          refine s_extT (K := K) (eg_varv rfl) h4l (ed_wordAt (m := m) (ws := ws) (n := n) (T.cls 18) (T.noat 21) (eg_var rfl ⟨p, rfl, hb.mono e4⟩) (by walk_at "ev") n0 n1) ?_ fun zs H5 e5 hz => ?_
          · rw [L2.DpAll.length h4d, List.length_map, List.length_map]
            omega
          · have h5l := e5 _ _ h4l
            refine nx ⟨⟨(e4.trans e5).mut hlf, ?_⟩, xs ++ zs, some (.int n), upd_same, ?_, rfl⟩
            · exact L2.tx_t (Tx.lst h5l) (Evl.ex_t e5 hq4)
            · rw [htk, txt_app, List.map_append, txt_cons, txt_nil, List.append_nil]
              exact (L2.DpAll.tx (Tx.lst h5l) (L2.DpAll.mono e5 h4d) (tupOA_ints _)).append (L2.DpAll.tx (Tx.lst h5l) hz (tupOA_ints _))
        · rintro σ H4 ⟨⟨e4, hq4⟩, xs, o3, h4l, h4d, rfl⟩
          rw [List.length_map, List.take_length] at h4d
          exact nx (s_ret (a := .d (encW (txt ws r))) (ed_tupL (eg_vard rfl (.lst (Evl.sq_of h4l) h4d))) (fun v' H5 e rr => hQ r rfl hr few v' H5 (e4.trans e) rr))
section
variable {K : PySem.W.Frag} {σ : L2.St} {H : Hp} {ta tb : TE} {E : XK} {m : Int} {ws : List Wd} {r : List Int} {d : PyData}
theorem ed_bkRead (ho : Eg K ta σ H (avBook K m ws)) (hb : Ed K tb σ H (encW r)) (hr : okRw (ws.length : Nat) r) (hl : r.length ≤ 1000000) (few : (txt ws r).length ≤ 100000) : Ed K (tMeth (He.ga K "Book") "read" (sp_Book_read K) [] E ta (tCons tb tNil)) σ H (encW (txt ws r)) :=
  eg_methP ho (bk_meth (by decide +kernel) (by decide +kernel) (by decide +kernel)) (ea_cons hb ea_nil) fun v vs H1 e h q Q k => by
    obtain ⟨p, rfl, b⟩ := h
    match vs, q with
    | [w], q =>
      refine ⟨p, m, ws, w, encW r, rfl, b, q.1, fun ds z => ?_, fun r' z _ _ => ?_, fun z => ?_, fun r' z _ z2 => ?_⟩
      · cases z
        rw [List.length_map]
        exact hl
      · cases encW_inj z
        exact k
      · rw [areLet_of hr] at z
        cases z
      · cases encW_inj z
        omega
end



def fstHd (ws : List Wd) (x : Int) : Option Nat := ws.findIdx? fun w => hdW w == x
def optN : Option Nat → PyData
  | some k => .int (k : Nat)
  | none => .none
theorem hdW_get {w : Wd} (h : 1 ≤ w.length) : w[0]? = some (hdW w) := by
  cases w with
  | nil => simp at h
  | cons x w => rfl
theorem ed_hd {K : PySem.W.Frag} {σ : L2.St} {H : Hp} {ta : TE} {w : Wd} (h : Ed K ta σ H (encW w)) (hw : 1 ≤ w.length) : Ei K (tOp (rIx K) ta (tC (.int 0))) σ H (hdW w) :=
  ed_ixT (n := 0) h ed_int (atI_ofNat (j := 0) (by rw [List.getElem?_map, hdW_get hw]; rfl))
theorem fstHd_none {ws : List Wd} {x : Int} (h : ∀ (i : Nat) (w : Wd), ws[i]? = some w → hdW w ≠ x) : fstHd ws x = none := by
  unfold fstHd
  rw [List.findIdx?_eq_none_iff]
  intro w hw
  obtain ⟨i, hi⟩ := List.mem_iff_getElem?.mp hw
  simpa using h i w hi
theorem fstHd_some {ws : List Wd} {x : Int} {i : Nat} {w : Wd} (hi : ws[i]? = some w) (hx : hdW w = x) (h : ∀ (j : Nat) (u : Wd), j < i → ws[j]? = some u → hdW u ≠ x) : fstHd ws x = some i := by
  unfold fstHd
  obtain ⟨hl, he⟩ := List.getElem?_eq_some_iff.mp hi
  rw [List.findIdx?_eq_some_iff_getElem]
  refine ⟨hl, by rw [he]; simpa using hx, fun j hj => ?_⟩
  simpa using h j _ hj (List.getElem?_eq_getElem (Nat.lt_trans hj hl))
def sp_beginning (K : PySem.W.Frag) : Sp := fun vs H Q _ => ∃ (p : Addr) (m : Int) (ws : List Wd) (x : Int), vs = [.ref p, .int x] ∧ BookAt K H p m ws ∧ RetD K H Q (optN (fstHd ws x))
abbrev s_Book_beginning : Stmt := inClass (top 17) 8
theorem sc_Book_beginning : FnScope ["self", "letter", "number"] ["self", "letter"] (defScope s_Book_beginning) := ⟨rfl, rfl, rfl, by decide +kernel, rfl, by decide +kernel, by decide +kernel⟩
theorem ok_Book_beginning {P : Program} {w : World} {K : PySem.W.Frag} {mg : Str → Option Value} {base : Heap} (T : Top fs fn K mg) : Df P w K mg base 1 ("Book", some "beginning") ["self", "letter"] (sp_beginning K) := by
  refine df_of T 11 (name := "beginning") (qual := "Book.beginning") (s := s_Book_beginning) (N := ["self", "letter", "number"]) (k := 0) rfl sc_Book_beginning (fun vs H Q E hsp => ?_) (fun _ _ _ _ _ _ us hl => match us, hl with | [_, _], _ => rfl) (fun cdv A outer s0 H vs Q E hr hsp => ?_)
  · obtain ⟨_, _, _, _, rfl, _⟩ := hsp
    rfl
  · obtain ⟨p, m, ws, x, rfl, hsp⟩ := hsp
    refine ⟨_, (pss_cons (ps_for (passes_of rfl) rfl (pi_range1 (by rfl) (T.free 2) (pa_cons (pe_fld (pv 0) rfl) pa_nil)) (pg_name (i := 2) sc_Book_beginning.nd rfl (.inl rfl))
      (pss_one (ps_if (pt_cmpR (op_eqD hr.units) (pe_ix ix_seq (pe_ix ix_seq (pe_fld (pv 0) rfl) (pv 2) (fun _ _ => rfl)) (pe_int) (fun _ _ => rfl)) (pv 1) (nomark _))
      (pss_one (ps_ret (pv 2)))
      pss_nil)))
      (pss_one (ps_ret (pe_non)))), ?_⟩
    try dsimp only [cxOf]
    obtain ⟨hb, hQ⟩ := hsp
    have hok := hb.good
    have hl := hok.2.2.1
    refine q_forR1 (K := K) (n := ((ws.length : Nat) : Int)) (ei_bkSize (m := m) (ws := ws) (T.cls 18) (T.noat 20) (eg_var rfl ⟨p, rfl, hb⟩)) (by omega) (by omega) fun H1 e1 => ?_
    refine loop_range (Pv := fun i σ H' => Ex H H' ∧ (∀ (j : Nat) (u : Wd), j < i → ws[j]? = some u → hdW u ≠ x) ∧ ∃ o2, σ = [some (.ref p), some (.int x), o2]) ⟨e1, (fun _ _ z => by omega), none, rfl⟩ ?_ ?_
    · rintro i σ H2 hi ⟨e2, hno, o2, rfl⟩
      have hil : i < ws.length := by omega
      have hw := List.getElem?_eq_getElem hil
      have h1 := (hok.2.2.2 _ (List.getElem_mem hil)).1
      have hwa : wdAt ws (i : Int) = ws[i] := by
        have := wdAt_mem (ws := ws) (x := (i : Int)) (by omega) (by omega)
        rw [Int.toNat_natCast, hw] at this
        injection this with this
        exact this.symm
      have hev : ∀ {te : TE} {σ : L2.St}, σ[0]? = some (some (.ref p)) → Ei K te σ H2 (i : Int) → Ei K (tOp (rIx K) (tOp (rIx K) (tFld K (tVar 0) "_words") te) (tC (.int 0))) σ H2 (hdW ws[i]) := fun h h' => by
        refine ed_hd ?_ h1
        rw [← hwa]
        exact ed_wordAt (m := m) (ws := ws) (T.cls 18) (T.noat 21) (eg_var h ⟨p, rfl, hb.mono e2⟩) h' (by omega) (by omega)
      refine s_when (b := decide (hdW ws[i] = x)) (et_is' (et_tst (K := K) (eb_eq (hev rfl (by walk_at "ev")) (by walk_at "ev") (okD_int _) (okD_int _))) (eqv_int _ _)) (fun h H3 e3 => ?_) (fun h H3 e3 => ?_)
      · refine s_ret (K := K) (a := .d (.int (i : Int))) (by walk_at "ev") fun v H4 e4 r => hQ v H4 (e2.trans (e3.trans e4)) ?_
        rw [fstHd_some hw (of_decide_eq_true h) hno]
        exact r
      · have h := of_decide_eq_false h
        refine nx ⟨e2.trans e3, fun j u hj hu => ?_, some (.int (i : Int)), rfl⟩
        rcases Nat.lt_or_eq_of_le (Nat.le_of_lt_succ hj) with hj | rfl
        · exact hno j u hj hu
        · rw [hw] at hu
          cases hu
          exact h
    · rintro σ H2 ⟨e2, hno, o2, rfl⟩
      refine nx (s_ret (K := K) (a := .d .none) (by walk_at "ev") fun v H4 e4 r => hQ v H4 (e2.trans e4) ?_)
      rw [fstHd_none fun i w hi => hno i w (by have := (List.getElem?_eq_some_iff.mp hi).1; omega) hi]
      exact r
theorem ed_beginning {K : PySem.W.Frag} {σ : L2.St} {H : Hp} {ta tb : TE} {E : XK} {m x : Int} {ws : List Wd} (ho : Eg K ta σ H (avBook K m ws)) (hb : Ei K tb σ H x) : Ed K (tMeth (He.ga K "Book") "beginning" (sp_beginning K) [] E ta (tCons tb tNil)) σ H (optN (fstHd ws x)) :=
  eg_methP ho (bk_meth (by decide +kernel) (by decide +kernel) (by decide +kernel)) (ea_cons hb ea_nil) fun v vs H1 e h q Q k => by
    obtain ⟨p, rfl, b⟩ := h
    match vs, q with
    | [w], q =>
      cases L2.Dp.int_inv q.1
      exact ⟨p, m, ws, x, rfl, b, k⟩


theorem startsA_iff {ws : List Wd} : startsA ws = true ↔ (ws.map hdW).Nodup := allDif_iff
theorem apart_at {ws : List Wd} (h : startsA ws = true) {i j : Nat} {u w : Wd} (hi : ws[i]? = some u) (hj : ws[j]? = some w) (e : hdW u = hdW w) : i = j := by
  have n := startsA_iff.mp h
  have hl : i < (ws.map hdW).length := by rw [List.length_map]; exact (List.getElem?_eq_some_iff.mp hi).1
  have hl2 : j < (ws.map hdW).length := by rw [List.length_map]; exact (List.getElem?_eq_some_iff.mp hj).1
  refine (List.getElem_inj (h₀ := hl) (h₁ := hl2) n).mp ?_
  rw [List.getElem_map, List.getElem_map, (List.getElem?_eq_some_iff.mp hi).2, (List.getElem?_eq_some_iff.mp hj).2]
  exact e
theorem hdW_app {u v : Wd} (h : 1 ≤ u.length) : hdW (u ++ v) = hdW u := by
  cases u with
  | nil => simp at h
  | cons x u => rfl
section
variable {ws : List Wd} {m : Int}
theorem wdAt_ok (hok : okB m ws) {x : Int} (h0 : 0 ≤ x) (h1 : x ≤ ((ws.length : Nat) : Int) - 1) : okW m (wdAt ws x) := hok.2.2.2 _ (List.mem_of_getElem? (wdAt_mem h0 h1))

theorem apart_eq (ha : startsA ws = true) {x y : Int} (hx : 0 ≤ x ∧ x ≤ ((ws.length : Nat) : Int) - 1) (hy : 0 ≤ y ∧ y ≤ ((ws.length : Nat) : Int) - 1) (e : hdW (wdAt ws x) = hdW (wdAt ws y)) : x = y := by
  have := apart_at ha (wdAt_mem hx.1 hx.2) (wdAt_mem hy.1 hy.2) e
  omega

theorem decode (hok : okB m ws) (ha : startsA ws = true) : ∀ {r s : List Int} {t : Wd}, okRw (ws.length : Nat) r → okRw (ws.length : Nat) s → txt ws s = txt ws r ++ t → ∃ q, s = r ++ q ∧ okRw (ws.length : Nat) q ∧ txt ws q = t
  | [], s, t, _, hs, e => ⟨s, rfl, hs, by rw [e, txt_nil]; rfl⟩
  | x :: r, s, t, hr, hs, e => by
    have hx := hr x List.mem_cons_self
    have wx := wdAt_ok hok hx.1 hx.2
    rw [txt_cons, List.append_assoc] at e
    cases s with
    | nil =>
      rw [txt_nil] at e
      have := congrArg List.length e
      rw [List.length_nil, List.length_append] at this
      have := wx.1
      omega
    | cons y s =>
      have hy := hs y List.mem_cons_self
      have wy := wdAt_ok hok hy.1 hy.2
      rw [txt_cons] at e
      have eh := congrArg hdW e
      rw [hdW_app wy.1, hdW_app wx.1] at eh
      have := apart_eq ha hy hx eh
      subst this
      obtain ⟨q, rfl, hq, hq2⟩ := decode hok ha (fun z hz => hr z (List.mem_cons_of_mem _ hz)) (fun z hz => hs z (List.mem_cons_of_mem _ hz)) (List.append_cancel_left e)
      exact ⟨q, rfl, hq, hq2⟩
theorem decode_one (hok : okB m ws) (ha : startsA ws = true) {r s : List Int} (hr : okRw (ws.length : Nat) r) (hs : okRw (ws.length : Nat) s) (e : txt ws s = txt ws r) : s = r := by
  obtain ⟨q, rfl, hq, hq2⟩ := decode hok ha (t := []) hr hs (by rw [e, List.append_nil])
  cases q with
  | nil => rw [List.append_nil]
  | cons x q =>
    rw [txt_cons] at hq2
    have := congrArg List.length hq2
    rw [List.length_append, List.length_nil] at this
    have hx := hq x List.mem_cons_self
    have := (wdAt_ok hok hx.1 hx.2).1
    omega
theorem fstHd_apart (ha : startsA ws = true) {k : Nat} {w : Wd} (hk : ws[k]? = some w) : fstHd ws (hdW w) = some k :=
  fstHd_some hk rfl fun j u hj hu e => by
    have := apart_at ha hu hk e
    omega
theorem fstHd_is {x : Int} {k : Nat} (h : fstHd ws x = some k) : ∃ w, ws[k]? = some w ∧ hdW w = x := by
  unfold fstHd at h
  rw [List.findIdx?_eq_some_iff_getElem] at h
  obtain ⟨hl, h1, _⟩ := h
  exact ⟨_, List.getElem?_eq_getElem hl, by simpa using h1⟩
end


theorem q_whl {σ : L2.St} {H : Hp} {t : TT} {tu tz : TS} {D : Ends} (W : Nat → L2.St → Hp → Prop) (m0 : Nat) (h0 : W m0 σ H)
    (hs : ∀ m σ' H', W m σ' H' → ∃ b, Evl.EvT t σ' H' b ∧ (b = true → ∀ H1, Ex H' H1 → tu { D with nx := fun σ2 H2 => ∃ m', m' < m ∧ W m' σ2 H2, ct := fun σ2 H2 => ∃ m', m' < m ∧ W m' σ2 H2, bk := tz D } σ' H1) ∧ (b = false → ∀ H1, Ex H' H1 → tz D σ' H1)) : tSeq (tWhile t tu) tz D σ H :=
  q_while W m0 h0 fun m σ' H' w => by
    obtain ⟨b, h1, h2, h3⟩ := hs m σ' H' w
    exact ⟨b, h1, fun hb H1 e => ⟨_, fun _ _ z => z, h2 hb H1 e⟩, h3⟩


theorem cutX_mid (ds : List PyData) (a n : Nat) : cutX ds (some (a : Int)) (some ((a + n : Nat) : Int)) = (ds.drop a).take n := by
  unfold cutX
  rw [HT.sIx_nat, HT.sIx_nat]
  by_cases h : a ≤ ds.length
  · rw [Nat.min_eq_left h]
    by_cases h2 : a + n ≤ ds.length
    · rw [Nat.min_eq_left h2, Nat.add_sub_cancel_left]
    · rw [Nat.min_eq_right (by omega), List.take_of_length_le (by rw [List.length_drop]; exact Nat.le_refl _), List.take_of_length_le (by rw [List.length_drop]; omega)]
  · rw [List.drop_eq_nil_of_le (by omega), List.drop_eq_nil_of_le (show ds.length ≤ a by omega)]
    simp


def sp_row_of (K : PySem.W.Frag) : Sp := fun vs H Q E => ∃ (p : Addr) (m : Int) (ws : List Wd) (v : V) (d : PyData), vs = [.ref p, v] ∧ BookAt K H p m ws ∧ Dp K H v d ∧ fewT d ∧
  (startsA ws = true → ∀ t, d = encW t → okRw m t → (∀ r, okRw (ws.length : Nat) r → txt ws r = t → RetD K H Q (encW r)) ∧ ((∀ r, okRw (ws.length : Nat) r → txt ws r ≠ t) → RetD K H Q .none)) ∧
  (startsA ws = false → Err (He.ga K "NotApart") H E) ∧ (startsA ws = true → areLet d m = false → Err (He.ga K "BadRow") H E)
abbrev s_Book_row_of : Stmt := inClass (top 17) 9
theorem sc_Book_row_of : FnScope ["self", "text", "found", "at", "number", "word"] ["self", "text"] (defScope s_Book_row_of) := ⟨rfl, rfl, rfl, by decide +kernel, rfl, by decide +kernel, by decide +kernel⟩
theorem ok_Book_row_of {P : Program} {w : World} {K : PySem.W.Frag} {mg : Str → Option Value} {base : Heap} (T : Top fs fn K mg) : Df P w K mg base 3 ("Book", some "row_of") ["self", "text"] (sp_row_of K) := by
  refine df_of T 12 (name := "row_of") (qual := "Book.row_of") (s := s_Book_row_of) (N := ["self", "text", "found", "at", "number", "word"]) (k := 2) rfl sc_Book_row_of (fun vs H Q E hsp => ?_) (fun _ _ _ _ _ _ us hl => match us, hl with | [_, _], _ => rfl) (fun cdv A outer s0 H vs Q E hr hsp => ?_)
  · obtain ⟨_, _, _, _, _, rfl, _⟩ := hsp
    rfl
  · obtain ⟨⟨fd_Book_starts_apart, G_Book_starts_apart, b_Book_starts_apart⟩, k_Book_starts_apart⟩ := ok_Book_starts_apart (P := P) (w := w) (base := base) T
    obtain ⟨⟨fd_are_letters, G_are_letters, b_are_letters⟩, k_are_letters⟩ := ok_are_letters (P := P) (w := w) (base := base) T
    obtain ⟨⟨fd_Book_beginning, G_Book_beginning, b_Book_beginning⟩, k_Book_beginning⟩ := ok_Book_beginning (P := P) (w := w) (base := base) T
    obtain ⟨p, m, ws, v, d, rfl, hsp⟩ := hsp
    refine ⟨_, (pss_cons (ps_if (pt_not (pt_tru (pe_meth0 (pv 0) (T.cls 18) (T.meth 31) G_Book_starts_apart (hr.mono (by decide)) b_Book_starts_apart .nil (passes_call (takes_of rfl rfl rfl rfl) (fun _ _ _ _ h => h)))))
      (pss_one (ps_raise rfl (takes_of rfl rfl rfl rfl) (pmk_own PySem.F.excBase_ValueError (T.exc 32).1 (T.glo 33) (T.exc 32).2.1 (raises_own (T.exc 32).2.2.1 (T.exc 32).2.2.2) rfl)))
      pss_nil)
      (pss_cons (ps_if (pt_not (pt_tru (pe_call G_are_letters (hr.mono (by decide)) rfl (T.glo 5) k_are_letters b_are_letters .nil (passes_call (takes_of rfl rfl rfl rfl) (fun _ _ _ _ h => h)) (pa_cons (pv 1) (pa_cons (pe_fld (pv 0) rfl) pa_nil)))))
      (pss_one (ps_raise rfl (takes_of rfl rfl rfl rfl) (pmk_own PySem.F.excBase_ValueError (T.exc 24).1 (T.glo 25) (T.exc 24).2.1 (raises_own (T.exc 24).2.2.1 (T.exc 24).2.2.2) rfl)))
      pss_nil)
      (pss_cons (ps_set (i := 2) sc_Book_row_of.nd rfl (.inl rfl) (pe_lst pa_nil))
      (pss_cons (ps_set (i := 3) sc_Book_row_of.nd rfl (.inl rfl) (pe_int))
      (pss_cons (ps_while (passes_of rfl) (pt_cmpR op_ltI (pv 3) (pe_callB call_lenU (by rfl) (T.free 3) bt_len (pa_cons (pv 1) pa_nil)) (nomark _))
      (pss_cons (ps_set (i := 4) sc_Book_row_of.nd rfl (.inl rfl) (pe_meth (pv 0) (T.cls 18) (T.meth 34) G_Book_beginning (hr.mono (by decide)) b_Book_beginning .nil (passes_call (takes_of rfl rfl rfl rfl) (fun _ _ _ _ h => h)) (pa_cons (pe_ix ix_seq (pv 1) (pv 3) (fun _ _ => rfl)) pa_nil)))
      (pss_cons (ps_if (pt_cmpR op_isNo (pv 4) (pe_non) (nomark _))
      (pss_one (ps_ret (pe_non)))
      pss_nil)
      (pss_cons (ps_set (i := 5) sc_Book_row_of.nd rfl (.inl rfl) (pe_ix ix_seq (pe_fld (pv 0) rfl) (pv 4) (fun _ _ => rfl)))
      (pss_cons (ps_if (pt_cmpR (op_neD hr.units) (pe_slice sl_uni (pv 1) (po_some (pv 3)) (po_some (pe_op op_addI (pv 3) (pe_callB call_lenU (by rfl) (T.free 3) bt_len (pa_cons (pv 5) pa_nil))))) (pv 5) (nomark _))
      (pss_one (ps_ret (pe_non)))
      pss_nil)
      (pss_cons (ps_expr (pe_bm PySem.F.plainAttrs_list PySem.F.slot_list_append PySem.F.type_list_append mt_append (pv 2) (pa_cons (pv 4) pa_nil)))
      (pss_one (ps_aug (i := 3) sc_Book_row_of.nd rfl (.inl rfl) (pe_callB call_lenU (by rfl) (T.free 3) bt_len (pa_cons (pv 5) pa_nil)) ip_add))))))))
      (pss_one (ps_ret (pe_callTy call_tupOf (by rfl) (T.free 9) bt_tuple (pa_cons (pv 2) pa_nil))))))))), ?_⟩
    try dsimp only [cxOf]
    obtain ⟨hb, hd, hf, hQ, hE1, hE2⟩ := hsp
    have hok := hb.good
    refine q_when (b := !startsA ws) (Evl.et_not (et_trub (eb_startsA (m := m) (eg_var rfl ⟨p, rfl, hb⟩)))) (fun h1 H1 e1 => hE1 (by simpa using h1) H1 e1) (fun h1 H1 e1 => ?_)
    have ha : startsA ws = true := by simpa using h1
    have hb1 := hb.mono e1
    refine q_when (b := !areLet d m) (Evl.et_not (et_trub (eb_areLet (by walk_at "ev") (ei_bkLetters (m := m) (ws := ws) (T.cls 18) (T.noat 19) (eg_var rfl ⟨p, rfl, hb1⟩)) hf))) (fun h2 H2 e2 => hE2 ha (by simpa using h2) H2 (e1.trans e2)) (fun h2 H2 e2 => ?_)
    have h2 : areLet d m = true := by simpa using h2
    obtain ⟨t, rfl, ht⟩ := okRw_iff.mp h2
    obtain ⟨hQ1, hQ2⟩ := hQ ha t rfl ht
    have htl : t.length ≤ 1000000 := by
      have := hf _ rfl
      rwa [List.length_map] at this
    have e02 := e1.trans e2
    refine q_setN (K := K) (ds := []) (en_lst ea_nil) fun l xl H3 hl e3 hx hdx => ?_
    cases hdx
    have hlf : H l = none := Evl.fresh_back e02 hl
    refine q_seti (K := K) (n := 0) (by walk_at "ev") fun H4 e4 => ?_
    refine q_whl (fun n σ' H' => Ex H H' ∧ ∃ (r : List Int) (xs : List V) (o4 o5 : Option V), okRw (ws.length : Nat) r ∧ (∃ s, t = txt ws r ++ s ∧ n = s.length) ∧ H' l = some (.lst xs) ∧ DpAll K H' xs (r.map .int) ∧ r.length ≤ (txt ws r).length ∧
      σ' = [some (.ref p), some v, some (.ref l), some (.int ((txt ws r).length : Nat)), o4, o5]) t.length ⟨e02.trans (e3.trans e4), [], [], none, none, (fun _ z => nomatch z), ⟨t, rfl, rfl⟩, e4 _ _ hx, .nil, Nat.le_refl _, rfl⟩ ?_
    rintro n σ' H5 ⟨e5, r, xs, o4, o5, hr, ⟨s, rfl, rfl⟩, h5l, h5d, hrl, rfl⟩
    have hb5 := hb.mono e5
    have hlen : (txt ws r ++ s).length ≤ 1000000 := htl
    rw [List.length_append] at hlen
    refine ⟨decide (((txt ws r).length : Int) < ((txt ws r ++ s).length : Nat)), et_tst (K := K) (eb_lt (by walk_at "ev") (ei_is (ei_lenT (eg_vard rfl (L2.Dp.mono e5 hd))) (by rw [List.length_map]))), fun hb' H6 e6 => ?_, fun hb' H6 e6 => ?_⟩
    · have hs : 0 < s.length := by
        have := of_decide_eq_true hb'
        rw [List.length_append] at this
        omega
      obtain ⟨x, s', rfl⟩ : ∃ x s', s = x :: s' := by
        cases s with
        | nil => simp at hs
        | cons x s' => exact ⟨x, s', rfl⟩
      have hb6 := hb5.mono e6
      have e06 := e5.trans e6
      have hd6 := L2.Dp.mono e06 hd
      have hx : (txt ws r ++ x :: s')[(txt ws r).length]? = some x := by simp
      have on : ∀ z, okRw (ws.length : Nat) z → txt ws z = txt ws r ++ x :: s' → ∃ (k : Nat) (q : List Int) (w : Wd), ws[k]? = some w ∧ hdW w = x ∧ txt ws (((k : Nat) : Int) :: q) = x :: s' ∧ okRw (ws.length : Nat) (((k : Nat) : Int) :: q) := fun z hz ez => by
        obtain ⟨q, rfl, hq, hq2⟩ := decode hok ha hr hz ez
        cases q with
        | nil => cases hq2
        | cons y q =>
          have hy := hq y List.mem_cons_self
          have ey : y = ((y.toNat : Nat) : Int) := by omega
          refine ⟨y.toNat, q, wdAt ws y, wdAt_mem hy.1 hy.2, ?_, by rw [← ey]; exact hq2, by rw [← ey]; exact hq⟩
          rw [txt_cons] at hq2
          have := congrArg hdW hq2
          rw [hdW_app (wdAt_ok hok hy.1 hy.2).1] at this
          exact this
      refine q_set (K := K) (a := .d (optN (fstHd ws x))) (ed_beginning (m := m) (ws := ws) (x := x) (eg_var rfl ⟨p, rfl, hb6⟩) (ed_ixT (eg_vard rfl hd6) (by walk_at "ev") (atI_ofNat (by rw [List.getElem?_map, hx]; rfl)))) fun v4 H7 e7 hv4 => ?_
      have e07 := e06.trans e7
      cases hk : fstHd ws x with
      | none =>
        rw [hk] at hv4
        refine q_when (b := true) (et_tst (K := K) (eb_isN (d := .none) (eg_vard rfl hv4))) (fun _ H8 e8 => ?_) (fun z => nomatch z)
        refine s_ret (K := K) (a := .d .none) (by walk_at "ev") fun v H9 e9 rr => hQ2 (fun z hz ez => ?_) v H9 (e07.trans (e8.trans e9)) rr
        obtain ⟨k, q, w, hw, hwx, _, _⟩ := on z hz ez
        have := fstHd_apart ha hw
        rw [hwx, hk] at this
        cases this
      | some k =>
        rw [hk] at hv4
        cases L2.Dp.int_inv hv4
        obtain ⟨w, hw, hwx⟩ := fstHd_is hk
        have hkl : k < ws.length := (List.getElem?_eq_some_iff.mp hw).1
        have hwa : wdAt ws (k : Int) = w := by
          have := wdAt_mem (ws := ws) (x := (k : Int)) (by omega) (by omega)
          rw [Int.toNat_natCast, hw] at this
          injection this with this
          exact this.symm
        refine q_skip (et_tst (K := K) (eb_isN (d := .int (k : Int)) (by walk_at "ev"))) fun H8 e8 => ?_
        have e08 := e07.trans e8
        refine q_set (K := K) (a := .d (encW w)) (eg_is (ed_wordAt (m := m) (ws := ws) (n := (k : Int)) (T.cls 18) (T.noat 21) (eg_var rfl ⟨p, rfl, hb.mono e08⟩) (by walk_at "ev") (by omega) (by omega)) (by rw [hwa])) fun v5 H9 e9 hv5 => ?_
        have e09 := e08.trans e9
        have e59 := e6.trans (e7.trans (e8.trans e9))
        have hw1 := (hok.2.2.2 w (List.mem_of_getElem? hw)).1
        refine q_when (b := !decide ((x :: s').take w.length = w)) (et_is' (et_tst (K := K) (eb_ne (d := encW ((x :: s').take w.length)) (e := encW w) (eg_is (ed_slT (ds := (txt ws r ++ x :: s').map .int) (lo := some ((txt ws r).length : Nat)) (hi := some (((txt ws r).length + w.length : Nat) : Int)) (eg_vard rfl (L2.Dp.mono e09 hd)) (eo_so (by walk_at "ev")) (eo_so (ei_is (ei_add (by walk_at "ev") (ei_is (ei_lenT (eg_vard rfl hv5)) (by rw [List.length_map]))) (by omega)))) ?_) (eg_vard rfl hv5) (okD_encW _) (okD_encW _))) (by rw [eqv_encW])) (fun h10 H10 e10 => ?_) (fun h10 H10 e10 => ?_)
        · rw [cutX_mid, ← List.map_drop, ← List.map_take, List.drop_left]
          rfl
        · refine s_ret (K := K) (a := .d .none) (by walk_at "ev") fun v H11 e11 rr => hQ2 (fun z hz ez => ?_) v H11 (e09.trans (e10.trans e11)) rr
          obtain ⟨k', q, w', hw', hwx', hq, _⟩ := on z hz ez
          have : k' = k := apart_at ha hw' hw (hwx'.trans hwx.symm)
          subst this
          rw [txt_cons, hwa] at hq
          rw [← hq, List.take_left, decide_eq_true rfl] at h10
          cases h10
        · have h10 : (x :: s').take w.length = w := by
            by_cases z : (x :: s').take w.length = w
            · exact z
            · rw [decide_eq_false z] at h10
              cases h10
          have hsp : x :: s' = w ++ (x :: s').drop w.length := by
            conv => lhs; rw [← List.take_append_drop w.length (x :: s'), h10]
          have h10l := (e59.trans e10) _ _ h5l
          have hrl2 : r.length < 1000000 := by
            have := hlen
            rw [List.length_cons] at this
            omega
          refine q_app (K := K) (a := .d (.int (k : Int))) (eg_varv rfl) h10l (by rw [L2.DpAll.length h5d, List.length_map]; exact hrl2) (by walk_at "ev") fun u H11 e11 hu => ?_
          cases L2.Dp.int_inv hu
          have h11l := e11 _ _ h10l
          have e011 := (e09.trans e10).trans e11
          have hv5' : Dp K (upd H11 l (.lst (xs ++ [.int (k : Int)]))) v5 (encW w) := L2.Dp.tx (Tx.lst h11l) (L2.Dp.mono (e10.trans e11) hv5) (tupO_encW w)
          have el : (txt ws (r ++ [(k : Int)])).length = (txt ws r).length + w.length := by
            rw [txt_app, txt_cons, txt_nil, List.append_nil, hwa, List.length_append]
          refine s_aug (K := K) (op := fun a b => a + b) (x := ((txt ws r).length : Nat)) (y := (w.length : Nat)) rfl (ei_is (ei_lenT (eg_vard rfl hv5')) (by rw [List.length_map])) fun H12 e12 => nx ⟨((x :: s').drop w.length).length, ?_, (e011.mut hlf).trans e12, r ++ [(k : Int)], xs ++ [.int (k : Int)], some (.int (k : Int)), some v5, fun z hz => ?_, ⟨(x :: s').drop w.length, ?_, rfl⟩, e12 _ _ upd_same, ?_, ?_, ?_⟩
          · have := congrArg List.length hsp
            rw [List.length_append] at this
            omega
          · rcases List.mem_append.mp hz with hz | hz
            · exact hr z hz
            · rw [List.mem_singleton] at hz
              omega
          · rw [txt_app, txt_cons, txt_nil, List.append_nil, hwa, List.append_assoc, ← hsp]
          · rw [List.map_append]
            exact L2.DpAll.mono e12 ((L2.DpAll.tx (Tx.lst h11l) (L2.DpAll.mono (e59.trans (e10.trans e11)) h5d) (tupOA_ints r)).append (.one (.int _)))
          · rw [List.length_append, List.length_singleton, el]
            omega
          · rw [el]
            rfl
    · have hs : s = [] := by
        have := of_decide_eq_false hb'
        rw [List.length_append] at this
        cases s with
        | nil => rfl
        | cons x s' => rw [List.length_cons] at this; omega
      subst hs
      rw [List.append_nil] at hQ1
      exact s_ret (K := K) (a := .d (encW r)) (ed_tupL (eg_vard rfl (.lst (Evl.sq_of (e6 _ _ h5l)) (L2.DpAll.mono e6 h5d)))) fun v' H7 e7 rr => hQ1 r hr rfl v' H7 (e5.trans (e6.trans e7)) rr


def flatS : PyData → Bool
  | .none => true
  | .bool _ => true
  | .int _ => true
  | .str s => PyData.strOk s
  | _ => false
theorem okD_flat {d : PyData} (h : flatS d = true) : okD d := by
  cases d with
  | none => exact okD_of (by simp [PyData.canLay0]) (by simp [PyData.depth])
  | bool b => exact okD_bool b
  | int i => exact okD_int i
  | str s => exact okD_str h
  | _ => simp [flatS] at h
theorem eqv_flat {d : PyData} (h : flatS d = true) : PyData.eqv d d = true := by
  cases d with
  | none => simp only [PyData.eqv]
  | bool b => rw [eqv_bool, beq_self_eq_true]
  | int i => rw [eqv_int, decide_eq_true rfl]
  | str s => rw [eqv_str, beq_self_eq_true]
  | _ => simp [flatS] at h
def sp_same_as0 (K : PySem.W.Frag) : Sp := fun vs H Q _ => ∃ (v w : V) (d : PyData), vs = [v, w] ∧ Dp K H v d ∧ Dp K H w d ∧ flatS d = true ∧ RetD K H Q (.bool true)
def sp_same_as (K : PySem.W.Frag) : Sp := fun vs H Q _ => ∃ (v w : V) (d : PyData), vs = [v, w] ∧ Dp K H v d ∧ Dp K H w d ∧ (flatS d = true ∨ ∃ ds, (d = .tuple ds ∨ d = .list ds) ∧ ds.length ≤ 1000000 ∧ ∀ x ∈ ds, flatS x = true) ∧ RetD K H Q (.bool true)
theorem map_true : ∀ n : Nat, (((List.range n).map fun _ => true).all id) = true := fun n => List.all_eq_true.mpr fun x hx => by
  obtain ⟨_, _, rfl⟩ := List.mem_map.mp hx
  rfl
abbrev s__law_same_as : Stmt := top 19
theorem sc__law_same_as : FnScope ["told", "due", "k"] ["told", "due"] (defScope s__law_same_as) := ⟨rfl, rfl, rfl, by decide +kernel, rfl, by decide +kernel, by decide +kernel⟩
theorem ok__law_same_asF {P : Program} {w : World} {K : PySem.W.Frag} {mg : Str → Option Value} {base : Heap} (T : Top fs fn K mg) : Df P w K mg base 0 ("_law_same_as", none) ["told", "due"] (fun _ _ _ _ => False) :=
  df_no T 13 (name := "_law_same_as") (qual := "_law_same_as") (s := s__law_same_as) rfl (fun _ _ _ _ _ _ us hl => match us, hl with | [_, _], _ => rfl)
theorem ok__law_same_as0 {P : Program} {w : World} {K : PySem.W.Frag} {mg : Str → Option Value} {base : Heap} (T : Top fs fn K mg) : Df P w K mg base 1 ("_law_same_as", none) ["told", "due"] (sp_same_as0 K) := by
  refine df_of T 13 (name := "_law_same_as") (qual := "_law_same_as") (s := s__law_same_as) (N := ["told", "due", "k"]) (k := 0) rfl sc__law_same_as (fun vs H Q E hsp => ?_) (fun _ _ _ _ _ _ us hl => match us, hl with | [_, _], _ => rfl) (fun cdv A outer s0 H vs Q E hr hsp => ?_)
  · obtain ⟨_, _, _, rfl, _⟩ := hsp
    rfl
  · obtain ⟨⟨fd__law_same_as, G__law_same_as, b__law_same_as⟩, k__law_same_as⟩ := ok__law_same_asF (P := P) (w := w) (base := base) T
    obtain ⟨v, w, d, rfl, hsp⟩ := hsp
    refine ⟨_, (pss_cons (ps_if (PW.pt (pw_or (pt_tru (pe_callB call_isi (by rfl) (T.free 8) bt_isinstance (pa_cons (pv 1) (pa_cons (pe_bltn (v := .ty "tuple") rfl (T.free 9) bt_tuple rfl) pa_nil)))) (pw_or1 (pt_tru (pe_callB call_isi (by rfl) (T.free 8) bt_isinstance (pa_cons (pv 1) (pa_cons (pe_bltn (v := .ty "list") rfl (T.free 11) bt_list rfl) pa_nil)))))))
      (pss_cons (ps_if (PW.pt (pw_or (pt_cmpR (op_neD hr.units) (pe_callB call_isi (by rfl) (T.free 8) bt_isinstance (pa_cons (pv 1) (pa_cons (pe_bltn (v := .ty "tuple") rfl (T.free 9) bt_tuple rfl) pa_nil))) (pe_callB call_isi (by rfl) (T.free 8) bt_isinstance (pa_cons (pv 0) (pa_cons (pe_bltn (v := .ty "tuple") rfl (T.free 9) bt_tuple rfl) pa_nil))) (nomark _)) (pw_or (pt_cmpR (op_neD hr.units) (pe_callB call_isi (by rfl) (T.free 8) bt_isinstance (pa_cons (pv 1) (pa_cons (pe_bltn (v := .ty "list") rfl (T.free 11) bt_list rfl) pa_nil))) (pe_callB call_isi (by rfl) (T.free 8) bt_isinstance (pa_cons (pv 0) (pa_cons (pe_bltn (v := .ty "list") rfl (T.free 11) bt_list rfl) pa_nil))) (nomark _)) (pw_or1 (pt_cmpR (op_neD hr.units) (pe_callB call_lenU (by rfl) (T.free 3) bt_len (pa_cons (pv 0) pa_nil)) (pe_callB call_lenU (by rfl) (T.free 3) bt_len (pa_cons (pv 1) pa_nil)) (nomark _))))))
      (pss_one (ps_ret (pe_bl)))
      pss_nil)
      (pss_one (ps_ret (pe_callB (cr_all rfl) (by rfl) (T.free 6) bt_all (pa_cons (pe_lc (own := [("k", 2)]) (g := gName 2) rfl sc__law_same_as.nd (pi_range1 (by rfl) (T.free 2) (pa_cons (pe_callB call_lenU (by rfl) (T.free 3) bt_len (pa_cons (pv 1) pa_nil)) pa_nil)) (blkOk_by (own := [("k", 2)]) (N := ["told", "due", "k"]) (sc := defScope s__law_same_as) (by decide +kernel)) (fun _ _ _ _ _ => (pg_name (i := 2) sc__law_same_as.nd rfl (Or.inl rfl))) (fun _ _ _ _ _ => pts_nil) (fun _ _ _ _ _ => (pe_call G__law_same_as (hr.mono (by decide)) rfl (T.glo 35) k__law_same_as b__law_same_as .nil passL (pa_cons (pe_ix (ix_seqK (K := K) rfl) (pv 0) (pv 2) (fun _ _ => rfl)) (pa_cons (pe_ix (ix_seqK (K := K) rfl) (pv 1) (pv 2) (fun _ _ => rfl)) pa_nil))))) pa_nil)))))
      pss_nil)
      (pss_cons (ps_if (pt_cmpR op_isNo (pv 1) (pe_non) (nomark _))
      (pss_one (ps_ret (pe_cmpR op_isNo (pv 0) (pe_non) (nomark _))))
      pss_nil)
      (pss_cons (ps_if (PW.pt (pw_or (pt_tru (pe_callB call_isi (by rfl) (T.free 8) bt_isinstance (pa_cons (pv 1) (pa_cons (pe_bltn (v := .ty "bool") rfl (T.free 10) bt_bool rfl) pa_nil)))) (pw_or1 (pt_tru (pe_callB call_isi (by rfl) (T.free 8) bt_isinstance (pa_cons (pv 1) (pa_cons (pe_bltn (v := .ty "str") rfl (T.free 36) bt_str rfl) pa_nil)))))))
      (pss_one (ps_ret ((pe_and (pe_cmpR (op_eqD hr.units) (pe_callB call_isi (by rfl) (T.free 8) bt_isinstance (pa_cons (pv 0) (pa_cons (pe_bltn (v := .ty "bool") rfl (T.free 10) bt_bool rfl) pa_nil))) (pe_callB call_isi (by rfl) (T.free 8) bt_isinstance (pa_cons (pv 1) (pa_cons (pe_bltn (v := .ty "bool") rfl (T.free 10) bt_bool rfl) pa_nil))) (nomark _)) (pe_and (pe_cmpR (op_eqD hr.units) (pe_callB call_isi (by rfl) (T.free 8) bt_isinstance (pa_cons (pv 0) (pa_cons (pe_bltn (v := .ty "str") rfl (T.free 36) bt_str rfl) pa_nil))) (pe_callB call_isi (by rfl) (T.free 8) bt_isinstance (pa_cons (pv 1) (pa_cons (pe_bltn (v := .ty "str") rfl (T.free 36) bt_str rfl) pa_nil))) (nomark _)) (pe_one (pe_cmpR (op_eqD hr.units) (pv 0) (pv 1) (nomark _))))))))
      pss_nil)
      (pss_one (ps_ret ((pe_and (pe_callB call_isi (by rfl) (T.free 8) bt_isinstance (pa_cons (pv 0) (pa_cons (pe_bltn (v := .ty "int") rfl (T.free 1) bt_int rfl) pa_nil))) (pe_and (pe_not (pe_callB call_isi (by rfl) (T.free 8) bt_isinstance (pa_cons (pv 0) (pa_cons (pe_bltn (v := .ty "bool") rfl (T.free 10) bt_bool rfl) pa_nil)))) (pe_one (pe_cmpR (op_eqD hr.units) (pv 0) (pv 1) (nomark _))))))))))), ?_⟩
    try dsimp only [cxOf]
    obtain ⟨hv, hw, hf, hQ⟩ := hsp
    have h1 : (isT d || isL d) = false := by cases d <;> first | rfl | simp [flatS] at hf
    refine q_skip (et_is' (n := isT d || isL d) (Evl.et_or (et_trub (K := K) (by walk_at "ev")) fun _ => et_trub (K := K) (by walk_at "ev")) h1) fun H1 e1 => ?_
    refine q_when (b := isNo d) (et_tst (K := K) (eb_isN (by walk_at "ev"))) (fun h2 H2 e2 => ?_) (fun h2 H2 e2 => ?_)
    · exact s_ret (K := K) (a := .d (.bool true)) (eb_is (eb_isN (by walk_at "ev")) h2) fun v H3 e3 r => hQ v H3 (e1.trans (e2.trans e3)) r
    have e02 := e1.trans e2
    refine q_when (b := isB d || isS d) (Evl.et_or (et_trub (K := K) (by walk_at "ev")) fun _ => et_trub (K := K) (by walk_at "ev")) (fun h3 H3 e3 => ?_) (fun h3 H3 e3 => ?_)
    · refine s_ret (K := K) (a := .d (.bool true)) (eb_is (n := (true && (true && true))) (eb_and (eb_is (eb_eq (d := .bool (isB d)) (e := .bool (isB d)) (by walk_at "ev") (by walk_at "ev") (okD_bool _) (okD_bool _)) ?_) fun _ => eb_and (eb_is (eb_eq (d := .bool (isS d)) (e := .bool (isS d)) (by walk_at "ev") (by walk_at "ev") (okD_bool _) (okD_bool _)) ?_) fun _ => eb_is (eb_eq (d := d) (e := d) (by walk_at "ev") (by walk_at "ev") (okD_flat hf) (okD_flat hf)) (eqv_flat hf)) rfl) fun v H4 e4 r => hQ v H4 (e02.trans (e3.trans e4)) r
      · rw [eqv_bool, beq_self_eq_true]
      · rw [eqv_bool, beq_self_eq_true]
    · have h4 : isI d = true ∧ isB d = false := by
        cases d <;> first | exact ⟨rfl, rfl⟩ | simp [flatS, isNo, isB, isS] at *
      refine s_ret (K := K) (a := .d (.bool true)) (eb_is (n := (isI d && (!isB d && PyData.eqv d d))) (eb_and (by walk_at "ev") fun _ => eb_and (by walk_at "ev") fun _ => eb_eq (d := d) (e := d) (by walk_at "ev") (by walk_at "ev") (okD_flat hf) (okD_flat hf)) ?_) fun v H4 e4 r => hQ v H4 (e02.trans (e3.trans e4)) r
      rw [h4.1, h4.2, eqv_flat hf]
      rfl
theorem eb_sameAs0 {K : PySem.W.Frag} {σ : L2.St} {H : Hp} {ta tb : TE} {E : XK} {d : PyData} (ha : Ed K ta σ H d) (hb : Ed K tb σ H d) (hf : flatS d = true) : Eb K (tCall (sp_same_as0 K) [] E (tCons ta (tCons tb tNil))) σ H true :=
  ed_call (ea_cons ha (ea_cons hb ea_nil)) fun vs H1 e r Q k => by
    match vs, r with
    | [v, w], r => exact ⟨v, w, d, rfl, r.1, r.2.1, hf, k⟩
theorem ok__law_same_as {P : Program} {w : World} {K : PySem.W.Frag} {mg : Str → Option Value} {base : Heap} (T : Top fs fn K mg) : Df P w K mg base 2 ("_law_same_as", none) ["told", "due"] (sp_same_as K) := by
  refine df_of T 13 (name := "_law_same_as") (qual := "_law_same_as") (s := s__law_same_as) (N := ["told", "due", "k"]) (k := 1) rfl sc__law_same_as (fun vs H Q E hsp => ?_) (fun _ _ _ _ _ _ us hl => match us, hl with | [_, _], _ => rfl) (fun cdv A outer s0 H vs Q E hr hsp => ?_)
  · obtain ⟨_, _, _, rfl, _⟩ := hsp
    rfl
  · obtain ⟨⟨fd__law_same_as, G__law_same_as, b__law_same_as⟩, k__law_same_as⟩ := ok__law_same_as0 (P := P) (w := w) (base := base) T
    obtain ⟨v, w, d, rfl, hsp⟩ := hsp
    refine ⟨_, (pss_cons (ps_if (PW.pt (pw_or (pt_tru (pe_callB call_isi (by rfl) (T.free 8) bt_isinstance (pa_cons (pv 1) (pa_cons (pe_bltn (v := .ty "tuple") rfl (T.free 9) bt_tuple rfl) pa_nil)))) (pw_or1 (pt_tru (pe_callB call_isi (by rfl) (T.free 8) bt_isinstance (pa_cons (pv 1) (pa_cons (pe_bltn (v := .ty "list") rfl (T.free 11) bt_list rfl) pa_nil)))))))
      (pss_cons (ps_if (PW.pt (pw_or (pt_cmpR (op_neD hr.units) (pe_callB call_isi (by rfl) (T.free 8) bt_isinstance (pa_cons (pv 1) (pa_cons (pe_bltn (v := .ty "tuple") rfl (T.free 9) bt_tuple rfl) pa_nil))) (pe_callB call_isi (by rfl) (T.free 8) bt_isinstance (pa_cons (pv 0) (pa_cons (pe_bltn (v := .ty "tuple") rfl (T.free 9) bt_tuple rfl) pa_nil))) (nomark _)) (pw_or (pt_cmpR (op_neD hr.units) (pe_callB call_isi (by rfl) (T.free 8) bt_isinstance (pa_cons (pv 1) (pa_cons (pe_bltn (v := .ty "list") rfl (T.free 11) bt_list rfl) pa_nil))) (pe_callB call_isi (by rfl) (T.free 8) bt_isinstance (pa_cons (pv 0) (pa_cons (pe_bltn (v := .ty "list") rfl (T.free 11) bt_list rfl) pa_nil))) (nomark _)) (pw_or1 (pt_cmpR (op_neD hr.units) (pe_callB call_lenU (by rfl) (T.free 3) bt_len (pa_cons (pv 0) pa_nil)) (pe_callB call_lenU (by rfl) (T.free 3) bt_len (pa_cons (pv 1) pa_nil)) (nomark _))))))
      (pss_one (ps_ret (pe_bl)))
      pss_nil)
      (pss_one (ps_ret (pe_callB (cr_all rfl) (by rfl) (T.free 6) bt_all (pa_cons (pe_lc (own := [("k", 2)]) (g := gName 2) rfl sc__law_same_as.nd (pi_range1 (by rfl) (T.free 2) (pa_cons (pe_callB call_lenU (by rfl) (T.free 3) bt_len (pa_cons (pv 1) pa_nil)) pa_nil)) (blkOk_by (own := [("k", 2)]) (N := ["told", "due", "k"]) (sc := defScope s__law_same_as) (by decide +kernel)) (fun _ _ _ _ _ => (pg_name (i := 2) sc__law_same_as.nd rfl (Or.inl rfl))) (fun _ _ _ _ _ => pts_nil) (fun _ _ _ _ _ => (pe_call G__law_same_as (hr.mono (by decide)) rfl (T.glo 35) k__law_same_as b__law_same_as .nil passL (pa_cons (pe_ix (ix_seqK (K := K) rfl) (pv 0) (pv 2) (fun _ _ => rfl)) (pa_cons (pe_ix (ix_seqK (K := K) rfl) (pv 1) (pv 2) (fun _ _ => rfl)) pa_nil))))) pa_nil)))))
      pss_nil)
      (pss_cons (ps_if (pt_cmpR op_isNo (pv 1) (pe_non) (nomark _))
      (pss_one (ps_ret (pe_cmpR op_isNo (pv 0) (pe_non) (nomark _))))
      pss_nil)
      (pss_cons (ps_if (PW.pt (pw_or (pt_tru (pe_callB call_isi (by rfl) (T.free 8) bt_isinstance (pa_cons (pv 1) (pa_cons (pe_bltn (v := .ty "bool") rfl (T.free 10) bt_bool rfl) pa_nil)))) (pw_or1 (pt_tru (pe_callB call_isi (by rfl) (T.free 8) bt_isinstance (pa_cons (pv 1) (pa_cons (pe_bltn (v := .ty "str") rfl (T.free 36) bt_str rfl) pa_nil)))))))
      (pss_one (ps_ret ((pe_and (pe_cmpR (op_eqD hr.units) (pe_callB call_isi (by rfl) (T.free 8) bt_isinstance (pa_cons (pv 0) (pa_cons (pe_bltn (v := .ty "bool") rfl (T.free 10) bt_bool rfl) pa_nil))) (pe_callB call_isi (by rfl) (T.free 8) bt_isinstance (pa_cons (pv 1) (pa_cons (pe_bltn (v := .ty "bool") rfl (T.free 10) bt_bool rfl) pa_nil))) (nomark _)) (pe_and (pe_cmpR (op_eqD hr.units) (pe_callB call_isi (by rfl) (T.free 8) bt_isinstance (pa_cons (pv 0) (pa_cons (pe_bltn (v := .ty "str") rfl (T.free 36) bt_str rfl) pa_nil))) (pe_callB call_isi (by rfl) (T.free 8) bt_isinstance (pa_cons (pv 1) (pa_cons (pe_bltn (v := .ty "str") rfl (T.free 36) bt_str rfl) pa_nil))) (nomark _)) (pe_one (pe_cmpR (op_eqD hr.units) (pv 0) (pv 1) (nomark _))))))))
      pss_nil)
      (pss_one (ps_ret ((pe_and (pe_callB call_isi (by rfl) (T.free 8) bt_isinstance (pa_cons (pv 0) (pa_cons (pe_bltn (v := .ty "int") rfl (T.free 1) bt_int rfl) pa_nil))) (pe_and (pe_not (pe_callB call_isi (by rfl) (T.free 8) bt_isinstance (pa_cons (pv 0) (pa_cons (pe_bltn (v := .ty "bool") rfl (T.free 10) bt_bool rfl) pa_nil)))) (pe_one (pe_cmpR (op_eqD hr.units) (pv 0) (pv 1) (nomark _))))))))))), ?_⟩
    try dsimp only [cxOf]
    obtain ⟨hv, hw, hfs, hQ⟩ := hsp
    rcases hfs with hf | ⟨ds, hd, hl, hx⟩
    · skip
      have h1 : (isT d || isL d) = false := by cases d <;> first | rfl | simp [flatS] at hf
      refine q_skip (et_is' (n := isT d || isL d) (Evl.et_or (et_trub (K := K) (by walk_at "ev")) fun _ => et_trub (K := K) (by walk_at "ev")) h1) fun H1 e1 => ?_
      refine q_when (b := isNo d) (et_tst (K := K) (eb_isN (by walk_at "ev"))) (fun h2 H2 e2 => ?_) (fun h2 H2 e2 => ?_)
      · exact s_ret (K := K) (a := .d (.bool true)) (eb_is (eb_isN (by walk_at "ev")) h2) fun v H3 e3 r => hQ v H3 (e1.trans (e2.trans e3)) r
      have e02 := e1.trans e2
      refine q_when (b := isB d || isS d) (Evl.et_or (et_trub (K := K) (by walk_at "ev")) fun _ => et_trub (K := K) (by walk_at "ev")) (fun h3 H3 e3 => ?_) (fun h3 H3 e3 => ?_)
      · refine s_ret (K := K) (a := .d (.bool true)) (eb_is (n := (true && (true && true))) (eb_and (eb_is (eb_eq (d := .bool (isB d)) (e := .bool (isB d)) (by walk_at "ev") (by walk_at "ev") (okD_bool _) (okD_bool _)) ?_) fun _ => eb_and (eb_is (eb_eq (d := .bool (isS d)) (e := .bool (isS d)) (by walk_at "ev") (by walk_at "ev") (okD_bool _) (okD_bool _)) ?_) fun _ => eb_is (eb_eq (d := d) (e := d) (by walk_at "ev") (by walk_at "ev") (okD_flat hf) (okD_flat hf)) (eqv_flat hf)) rfl) fun v H4 e4 r => hQ v H4 (e02.trans (e3.trans e4)) r
        · rw [eqv_bool, beq_self_eq_true]
        · rw [eqv_bool, beq_self_eq_true]
      · have h4 : isI d = true ∧ isB d = false := by
          cases d <;> first | exact ⟨rfl, rfl⟩ | simp [flatS, isNo, isB, isS] at *
        refine s_ret (K := K) (a := .d (.bool true)) (eb_is (n := (isI d && (!isB d && PyData.eqv d d))) (eb_and (by walk_at "ev") fun _ => eb_and (by walk_at "ev") fun _ => eb_eq (d := d) (e := d) (by walk_at "ev") (by walk_at "ev") (okD_flat hf) (okD_flat hf)) ?_) fun v H4 e4 r => hQ v H4 (e02.trans (e3.trans e4)) r
        rw [h4.1, h4.2, eqv_flat hf]
        rfl
    · have h1 : (isT d || isL d) = true := by rcases hd with rfl | rfl <;> rfl
      refine q_when (b := isT d || isL d) (Evl.et_or (et_trub (K := K) (by walk_at "ev")) fun _ => et_trub (K := K) (by walk_at "ev")) (fun _ H1 e1 => ?_) (fun z => by rw [h1] at z; cases z)
      have len : ∀ {i : Nat} {v : V} {σ : L2.St} {H2 : Hp}, σ[i]? = some (some v) → Dp K H2 v d → Ei K (tCB (rLenU K) (tCons (tVar i) tNil)) σ H2 (ds.length : Nat) := fun h hv => by
        rcases hd with rfl | rfl
        · exact ei_lenT (eg_vard h hv)
        · exact ei_lenL (eg_vard h hv)
      have ix : ∀ {i k j : Nat} {v : V} {σ : L2.St} {H2 : Hp} {x : PyData}, σ[i]? = some (some v) → σ[k]? = some (some (.int (j : Int))) → ds[j]? = some x → Dp K H2 v d → Ed K (tOp (rIx K) (tVar i) (tVar k)) σ H2 x := fun h h' hj hv => by
        rcases hd with rfl | rfl
        · exact ed_ixT (eg_vard h hv) (eg_vard h' (.int _)) (atI_ofNat hj)
        · exact ed_ixL (eg_vard h hv) (eg_vard h' (.int _)) (atI_ofNat hj)
      have hv1 := L2.Dp.mono e1 hv
      have hw1 := L2.Dp.mono e1 hw
      refine q_skip (et_is' (n := (false || (false || false))) (Evl.et_or (et_tst (K := K) (ne_self_bool (b := isT d) (by walk_at "ev") (by walk_at "ev"))) fun _ => Evl.et_or (et_tst (K := K) (ne_self_bool (b := isL d) (by walk_at "ev") (by walk_at "ev"))) fun _ => et_tst (K := K) (ne_self_int (len rfl hv1) (len rfl hw1))) rfl) fun H2 e2 => ?_
      refine s_ret (K := K) (a := .d (.bool true)) (eb_is (eb_all (bs := (List.range ds.length).map fun _ => true) ?_) (map_true _)) fun v H4 e4 r => hQ v H4 (e1.trans (e2.trans e4)) r
      refine En.eg (en_is (en_mapR (j := 2) (n := ((ds.length : Nat) : Int)) (fun _ => .bool true) (len rfl (L2.Dp.mono e2 hw1)) (by omega) (by omega) (fun _ => rfl) (fun _ _ => rfl) fun i H3 hi e3 => ?_) (by rw [List.map_map]; rfl))
      have hil : i < ds.length := by omega
      exact eb_sameAs0 (ix rfl rfl (List.getElem?_eq_getElem hil) (L2.Dp.mono (e2.trans e3) hv1)) (ix rfl rfl (List.getElem?_eq_getElem hil) (L2.Dp.mono (e2.trans e3) hw1)) (hx _ (List.getElem_mem hil))
section
variable {K : PySem.W.Frag} {σ : L2.St} {H : Hp} {ta tb : TE} {E : XK} {d : PyData}
theorem eb_sameAs (ha : Ed K ta σ H d) (hb : Ed K tb σ H d) (hf : flatS d = true) : Eb K (tCall (sp_same_as K) [] E (tCons ta (tCons tb tNil))) σ H true :=
  ed_call (ea_cons ha (ea_cons hb ea_nil)) fun vs H1 e r Q k => by
    match vs, r with
    | [v, w], r => exact ⟨v, w, d, rfl, r.1, r.2.1, .inl hf, k⟩
theorem eb_sameAsW {w : Wd} (ha : Ed K ta σ H (encW w)) (hb : Ed K tb σ H (encW w)) (hl : w.length ≤ 1000000) : Eb K (tCall (sp_same_as K) [] E (tCons ta (tCons tb tNil))) σ H true :=
  ed_call (ea_cons ha (ea_cons hb ea_nil)) fun vs H1 e r Q k => by
    match vs, r with
    | [v, z], r =>
      refine ⟨v, z, encW w, rfl, r.1, r.2.1, .inr ⟨w.map .int, .inl rfl, by rw [List.length_map]; exact hl, fun x hx => ?_⟩, k⟩
      obtain ⟨i, _, rfl⟩ := List.mem_map.mp hx
      rfl
end


def lstP : PyData → PyData
  | .tuple ds => (ds.getLast?).getD .none
  | _ => .none
theorem lstP_w {w : Wd} (h : 1 ≤ w.length) : lstP (encW w) = .int (hdW w.reverse) := by
  show ((w.map PyData.int).getLast?).getD .none = .int (w.reverse.headD 0)
  rw [List.getLast?_map, List.headD_eq_head?_getD, List.head?_reverse]
  cases h2 : w.getLast? with
  | none =>
    rw [List.getLast?_eq_none_iff] at h2
    subst h2
    simp at h
  | some x => rfl
theorem lstP_ws {m : Int} {ws : List Wd} (h : ∀ w ∈ ws, okW m w) : (ws.map encW).map lstP = ((revB ws).map hdW).map .int := by
  unfold revB
  rw [List.map_map, List.map_map, List.map_map]
  apply List.map_congr_left
  intro w hw
  exact lstP_w (h w hw).1
theorem ed_last {K : PySem.W.Frag} {σ : L2.St} {H : Hp} {ta : TE} {w : Wd} (h : Ed K ta σ H (encW w)) (hw : 1 ≤ w.length) : Ed K (tOp (rIx K) ta (tUn (rU fun i => .int (-i)) (tC (.int 1)))) σ H (lstP (encW w)) :=
  ed_ixT (n := -1) h (ei_neg ed_int) (atI_end (by
    rw [List.length_map, List.getElem?_map]
    show Option.map PyData.int w[w.length - 1]? = some (((w.map PyData.int).getLast?).getD .none)
    rw [List.getLast?_map, List.getLast?_eq_getElem?, List.getElem?_eq_getElem (by omega)]
    rfl))
def endsA (ws : List Wd) : Bool := startsA (revB ws)
def sp_ends_apart (K : PySem.W.Frag) : Sp := fun vs H Q _ => ∃ (p : Addr) (m : Int) (ws : List Wd), vs = [.ref p] ∧ BookAt K H p m ws ∧ RetD K H Q (.bool (endsA ws))
abbrev s_Book_ends_apart : Stmt := inClass (top 17) 6
theorem sc_Book_ends_apart : FnScope ["self", "word"] ["self"] (defScope s_Book_ends_apart) := ⟨rfl, rfl, rfl, by decide +kernel, rfl, by decide +kernel, by decide +kernel⟩
theorem ok_Book_ends_apart {P : Program} {w : World} {K : PySem.W.Frag} {mg : Str → Option Value} {base : Heap} (T : Top fs fn K mg) : Df P w K mg base 2 ("Book", some "ends_apart") ["self"] (sp_ends_apart K) := by
  refine df_of T 14 (name := "ends_apart") (qual := "Book.ends_apart") (s := s_Book_ends_apart) (N := ["self", "word"]) (k := 1) rfl sc_Book_ends_apart (fun vs H Q E hsp => ?_) (fun _ _ _ _ _ _ us hl => match us, hl with | [_], _ => rfl) (fun cdv A outer s0 H vs Q E hr hsp => ?_)
  · obtain ⟨_, _, _, rfl, _⟩ := hsp
    rfl
  · obtain ⟨⟨fd__are_different, G__are_different, b__are_different⟩, k__are_different⟩ := ok__are_different (P := P) (w := w) (base := base) T
    obtain ⟨p, m, ws, rfl, hsp⟩ := hsp
    refine ⟨_, (pss_one (ps_ret (pe_call G__are_different (hr.mono (by decide)) rfl (T.glo 23) k__are_different b__are_different .nil (passes_call (takes_of rfl rfl rfl rfl) (fun _ _ _ _ h => h)) (pa_cons (pe_lc (own := [("word", 1)]) (g := gName 1) rfl sc_Book_ends_apart.nd (pi_list (pe_fld (pv 0) rfl)) (blkOk_by (own := [("word", 1)]) (N := ["self", "word"]) (sc := defScope s_Book_ends_apart) (by decide +kernel)) (fun _ _ _ _ _ => (pg_name (i := 1) sc_Book_ends_apart.nd rfl (Or.inl rfl))) (fun _ _ _ _ _ => pts_nil) (fun _ _ _ _ _ => (pe_ix (ix_seqK (K := K) rfl) (pv 1) (pe_un un_neg (pe_int)) (fun _ _ => rfl)))) pa_nil)))), ?_⟩
    try dsimp only [cxOf]
    obtain ⟨hb, hQ⟩ := hsp
    have hok := hb.good
    have hl := hok.2.2.1
    refine s_ret (a := .d (.bool (endsA ws))) ?_ (fun v' H1 e r => hQ v' H1 e r)
    refine eb_different (En.eg (en_is (en_mapL (j := 1) lstP (ed_bkWords (m := m) (T.cls 18) (T.noat 21) (eg_var rfl ⟨p, rfl, hb⟩)) ?_ (fun _ => rfl) ?_ fun x v H1 hx e1 hv => ?_) (lstP_ws hok.2.2.2))) ?_
    · rw [List.length_map]
      omega
    · intro x hx
      obtain ⟨w, hw, rfl⟩ := List.mem_map.mp hx
      rw [lstP_w (hok.2.2.2 w hw).1]
      rfl
    · obtain ⟨w, hw, rfl⟩ := List.mem_map.mp hx
      exact ed_last (eg_vard rfl hv) (hok.2.2.2 w hw).1
    · unfold revB
      rw [List.length_map, List.length_map]
      omega
theorem eb_endsA {K : PySem.W.Frag} {σ : L2.St} {H : Hp} {ta : TE} {E : XK} {m : Int} {ws : List Wd} (ho : Eg K ta σ H (avBook K m ws)) : Eb K (tMeth (He.ga K "Book") "ends_apart" (sp_ends_apart K) [] E ta tNil) σ H (endsA ws) :=
  eg_methP ho (bk_meth (by decide +kernel) (by decide +kernel) (by decide +kernel)) ea_nil fun v vs H1 e h r Q q => by
    obtain ⟨p, rfl, b⟩ := h
    cases vs with
    | nil => exact ⟨p, m, ws, rfl, b, q⟩
    | cons _ _ => exact r.elim


def sp_law_text (K : PySem.W.Frag) : Sp := fun vs H Q _ => ∃ (v u : V) (ws : List Wd) (r : List Int), vs = [v, u] ∧ Dp K H v (.list (ws.map encW)) ∧ Dp K H u (encW r) ∧ okRw (ws.length : Nat) r ∧ (txt ws r).length ≤ 1000000 ∧ RetD K H Q (encW (txt ws r))
abbrev s__law_text : Stmt := top 22
theorem sc__law_text : FnScope ["words", "row", "found", "number"] ["words", "row"] (defScope s__law_text) := ⟨rfl, rfl, rfl, by decide +kernel, rfl, by decide +kernel, by decide +kernel⟩
theorem ok__law_text {P : Program} {w : World} {K : PySem.W.Frag} {mg : Str → Option Value} {base : Heap} (T : Top fs fn K mg) : Df P w K mg base 1 ("_law_text", none) ["words", "row"] (sp_law_text K) := by
  refine df_of T 15 (name := "_law_text") (qual := "_law_text") (s := s__law_text) (N := ["words", "row", "found", "number"]) (k := 0) rfl sc__law_text (fun vs H Q E hsp => ?_) (fun _ _ _ _ _ _ us hl => match us, hl with | [_, _], _ => rfl) (fun cdv A outer s0 H vs Q E hr hsp => ?_)
  · obtain ⟨_, _, _, _, rfl, _⟩ := hsp
    rfl
  · obtain ⟨v, u, ws, r, rfl, hsp⟩ := hsp
    refine ⟨_, (pss_cons (ps_set (i := 2) sc__law_text.nd rfl (.inl rfl) (pe_tup pa_nil))
      (pss_cons (ps_for (passes_of rfl) rfl (pi_tup (pv 1)) (pg_name (i := 3) sc__law_text.nd rfl (.inl rfl))
      (pss_one (ps_set (i := 2) sc__law_text.nd rfl (.inl rfl) (pe_op op_catA (pv 2) (pe_ix ix_seq (pv 0) (pv 3) (fun _ _ => rfl))))))
      (pss_one (ps_ret (pv 2))))), ?_⟩
    try dsimp only [cxOf]
    obtain ⟨hv, hu, hr, hl, hQ⟩ := hsp
    refine q_set (K := K) (a := .d (.tuple [])) (ed_tupD ead_nil) fun v2 H1 e1 hv2 => ?_
    refine q_forT (K := K) (eg_vard rfl (L2.Dp.mono e1 hu)) fun q ys H2 e2 hq hqd => ?_
    cases L2.DpAll.of_ints hqd
    refine loop_tup (xs := r.map V.int) (Pv := fun i σ H' => Ex H2 H' ∧ ∃ (w2 : V) (o3 : Option V), Dp K H' w2 (encW (txt ws (r.take i))) ∧ σ = [some v, some u, some w2, o3]) ⟨Ex.refl _, v2, none, L2.Dp.mono e2 hv2, rfl⟩ (fun i σ H' _ z => Evl.ex_t z.1 hq) ?_ ?_
    · rintro i x σ H4 hi ⟨e4, w2, o3, h4, rfl⟩
      rw [List.getElem?_map] at hi
      obtain ⟨n, hn, rfl⟩ : ∃ n, r[i]? = some n ∧ x = V.int n := by
        cases h : r[i]? with
        | none => rw [h] at hi; cases hi
        | some n => rw [h] at hi; cases hi; exact ⟨n, rfl, rfl⟩
      obtain ⟨n0, n1⟩ := hr n (List.mem_of_getElem? hn)
      have htk : r.take (i + 1) = r.take i ++ [n] := by rw [List.take_add_one, hn]; rfl
      have hlen : (txt ws (r.take i)).length + (wdAt ws n).length ≤ 1000000 := by
        have h := congrArg (fun z => (txt ws z).length) (List.take_append_drop (i + 1) r)
        rw [htk, txt_app, txt_app, List.length_append, List.length_append, txt_cons, List.length_append] at h
        omega
      refine s_set (K := K) (a := .d (encW (txt ws (r.take (i + 1))))) (eg_is (ed_catT (ds := (txt ws (r.take i)).map .int) (es := (wdAt ws n).map .int) (eg_vard rfl h4) (ed_ixL (n := n) (eg_vard rfl (L2.Dp.mono ((e1.trans e2).trans e4) hv)) (by walk_at "ev") (atI_of n0 (by rw [List.getElem?_map, wdAt_mem n0 n1]; rfl))) (by rw [List.length_map, List.length_map]; exact hlen)) ?_) fun w H5 e5 hw => nx ⟨e4.trans e5, w, some (.int n), hw, rfl⟩
      rw [htk, txt_app, txt_cons, txt_nil, List.append_nil]
      unfold encW
      rw [List.map_append]
    · rintro σ H4 ⟨e4, w2, o3, h4, rfl⟩
      rw [List.length_map, List.take_length] at h4
      exact nx (s_ret (a := .d (encW (txt ws r))) (eg_vard rfl h4) (fun v' H5 e rr => hQ v' H5 ((e1.trans e2).trans (e4.trans e)) rr))
theorem ed_lawText {K : PySem.W.Frag} {σ : L2.St} {H : Hp} {ta tb : TE} {E : XK} {ws : List Wd} {r : List Int} (ha : Ed K ta σ H (.list (ws.map encW))) (hb : Ed K tb σ H (encW r)) (hr : okRw (ws.length : Nat) r) (hl : (txt ws r).length ≤ 1000000) :
    Ed K (tCall (sp_law_text K) [] E (tCons ta (tCons tb tNil))) σ H (encW (txt ws r)) :=
  ed_call (ea_cons ha (ea_cons hb ea_nil)) fun vs H1 e q Q k => by
    match vs, q with
    | [v, u], q => exact ⟨v, u, ws, r, rfl, q.1, q.2.1, hr, hl, k⟩


section
variable {K : PySem.W.Frag} {σ : L2.St} {H : Hp} {ta tb tc te : TE} {tz : TS} {D : Ends} {a b c : Av} {d1 d2 d3 : PyData} {ds : List PyData} {i j l : Nat}
theorem q_unGG (h1 : Eg K ta σ H a) (h2 : Eg K tb σ H b) (k : ∀ v w H1, Ex H H1 → Rl K H1 v a → Rl K H1 w b → tz D ((σ.set i (some v)).set j (some w)) H1) :
    tSeq (tAsg (tTup (tCons ta (tCons tb tNil))) (gTup K 2 (gCons (gName i) (gCons (gName j) gNil)))) tz D σ H := h1 H (Ex.refl H) _ fun v H1 e1 r1 => h2 H1 e1 _ fun w H2 e2 r2 =>
  ⟨szm (by simp), fun p hp => ⟨p, [v, w], rfl, Evl.st_of upd_same, rfl, v, [w], rfl, w, [], rfl, rfl, k v w _ ((e1.trans e2).trans (Ex.new hp)) (r1.mono (e2.trans (Ex.new hp))) (r2.mono (Ex.new hp))⟩⟩
theorem q_unNG (h1 : En K ta σ H ds) (h2 : Eg K tb σ H b) (k : ∀ p xs w H1, H p = none → Ex H H1 → H1 p = some (.lst xs) → DpAll K H1 xs ds → Rl K H1 w b → tz D ((σ.set i (some (.ref p))).set j (some w)) H1) :
    tSeq (tAsg (tTup (tCons ta (tCons tb tNil))) (gTup K 2 (gCons (gName i) (gCons (gName j) gNil)))) tz D σ H := h1 H (Ex.refl H) _ fun q xs H1 hq e1 hx hd => h2 H1 e1 _ fun w H2 e2 r2 =>
  ⟨szm (by simp), fun p hp => ⟨p, [.ref q, w], rfl, Evl.st_of upd_same, rfl, .ref q, [w], rfl, w, [], rfl, rfl, k q xs w _ hq ((e1.trans e2).trans (Ex.new hp)) ((e2.trans (Ex.new hp)) _ _ hx) (L2.DpAll.mono (e2.trans (Ex.new hp)) hd) (r2.mono (Ex.new hp))⟩⟩
theorem q_unT2 (h : Ed K te σ H (.tuple [d1, d2])) (k : ∀ v w H1, Ex H H1 → Dp K H1 v d1 → Dp K H1 w d2 → tz D ((σ.set i (some v)).set j (some w)) H1) :
    tSeq (tAsg te (gTup K 2 (gCons (gName i) (gCons (gName j) gNil)))) tz D σ H := h H (Ex.refl H) _ fun v H1 e1 r => by
  obtain ⟨p, xs, rfl, hs, hd⟩ := L2.Dp.tup_inv r
  cases hd with
  | cons h1 t =>
    cases t with
    | cons h2 t =>
      cases t
      exact ⟨p, _, rfl, hs, rfl, _, _, rfl, _, _, rfl, rfl, k _ _ _ e1 h1 h2⟩
theorem q_unT3 (h : Ed K te σ H (.tuple [d1, d2, d3])) (k : ∀ v w u H1, Ex H H1 → Dp K H1 v d1 → Dp K H1 w d2 → Dp K H1 u d3 → tz D (((σ.set i (some v)).set j (some w)).set l (some u)) H1) :
    tSeq (tAsg te (gTup K 3 (gCons (gName i) (gCons (gName j) (gCons (gName l) gNil))))) tz D σ H := h H (Ex.refl H) _ fun v H1 e1 r => by
  obtain ⟨p, xs, rfl, hs, hd⟩ := L2.Dp.tup_inv r
  cases hd with
  | cons h1 t =>
    cases t with
    | cons h2 t =>
      cases t with
      | cons h3 t =>
        cases t
        exact ⟨p, _, rfl, hs, rfl, _, _, rfl, _, _, rfl, _, _, rfl, rfl, k _ _ _ _ e1 h1 h2 h3⟩
end


theorem one_or {l : List Nat} (n : l.Nodup) (h : ∀ i ∈ l, ∀ j ∈ l, i = j) : l = [] ∨ ∃ k, l = [k] := by
  cases l with
  | nil => exact .inl rfl
  | cons k l =>
    refine .inr ⟨k, ?_⟩
    cases l with
    | nil => rfl
    | cons j l =>
      have := h k (by simp) j (by simp)
      subst this
      simp at n
def sp_law_row (K : PySem.W.Frag) : Sp := fun vs H Q _ => ∃ (v u : V) (m : Int) (ws : List Wd) (t : Wd), vs = [v, u] ∧ Dp K H v (.list (ws.map encW)) ∧ Dp K H u (encW t) ∧ okB m ws ∧ startsA ws = true ∧ t.length ≤ 1000000 ∧
  (∀ r, okRw (ws.length : Nat) r → txt ws r = t → RetD K H Q (encW r)) ∧ ((∀ r, okRw (ws.length : Nat) r → txt ws r ≠ t) → RetD K H Q .none)
abbrev s__law_row : Stmt := top 23
theorem sc__law_row : FnScope ["words", "text", "row", "at", "turn", "k", "fits"] ["words", "text"] (defScope s__law_row) := ⟨rfl, rfl, rfl, by decide +kernel, rfl, by decide +kernel, by decide +kernel⟩
theorem ok__law_row {P : Program} {w : World} {K : PySem.W.Frag} {mg : Str → Option Value} {base : Heap} (T : Top fs fn K mg) : Df P w K mg base 1 ("_law_row", none) ["words", "text"] (sp_law_row K) := by
  refine df_of T 16 (name := "_law_row") (qual := "_law_row") (s := s__law_row) (N := ["words", "text", "row", "at", "turn", "k", "fits"]) (k := 0) rfl sc__law_row (fun vs H Q E hsp => ?_) (fun _ _ _ _ _ _ us hl => match us, hl with | [_, _], _ => rfl) (fun cdv A outer s0 H vs Q E hr hsp => ?_)
  · obtain ⟨_, _, _, _, _, rfl, _⟩ := hsp
    rfl
  · obtain ⟨v, u, m, ws, t, rfl, hsp⟩ := hsp
    refine ⟨_, (pss_cons (ps_asg (pe_tup (pa_cons (pe_lst pa_nil) (pa_cons (pe_int) pa_nil))) (pg_tup rfl (pgs_cons (pg_name (i := 2) sc__law_row.nd rfl (.inl rfl)) (pgs_cons (pg_name (i := 3) sc__law_row.nd rfl (.inr rfl)) pgs_nil))))
      (pss_cons (ps_for (passes_of rfl) rfl (pi_range1 (by rfl) (T.free 2) (pa_cons (pe_callB call_lenU (by rfl) (T.free 3) bt_len (pa_cons (pv 1) pa_nil)) pa_nil)) (pg_name (i := 4) sc__law_row.nd rfl (.inl rfl))
      (pss_one (ps_if (pt_cmpR op_ltI (pv 3) (pe_callB call_lenU (by rfl) (T.free 3) bt_len (pa_cons (pv 1) pa_nil)) (nomark _))
      (pss_cons (ps_setLc (i := 6) (own := [("k", 5)]) (g := gName 5) rfl sc__law_row.nd rfl rfl (sw_true rfl rfl rfl (by decide +kernel)) (pi_range1 (by rfl) (T.free 2) (pa_cons (pe_callB call_lenU (by rfl) (T.free 3) bt_len (pa_cons (pv 0) pa_nil)) pa_nil)) (blkOk_by (own := [("k", 5)]) (N := ["words", "text", "row", "at", "turn", "k", "fits"]) (sc := defScope s__law_row) (by decide +kernel)) (fun _ _ _ _ _ => (pg_name (i := 5) sc__law_row.nd rfl (Or.inl rfl))) (fun _ _ _ _ _ => (pts_one (pt_cmpR (op_eqK (K := K) rfl hr.units) (pe_slice (sl_uniK (K := K) rfl) (pv 1) (po_some (pv 3)) (po_some (pe_op op_addI (pv 3) (pe_callB (call_lenK (K := K) rfl) (by rfl) (T.free 3) bt_len (pa_cons (pe_ix (ix_seqK (K := K) rfl) (pv 0) (pv 5) (fun _ _ => rfl)) pa_nil))))) (pe_ix (ix_seqK (K := K) rfl) (pv 0) (pv 5) (fun _ _ => rfl)) (nomark _)))) (fun _ _ _ _ _ => (pv 5)))
      (pss_cons (ps_if (pt_cmpR (op_neD hr.units) (pe_callB call_lenU (by rfl) (T.free 3) bt_len (pa_cons (pv 6) pa_nil)) (pe_int) (nomark _))
      (pss_one (ps_ret (pe_non)))
      pss_nil)
      (pss_cons (ps_expr (pe_bm PySem.F.plainAttrs_list PySem.F.slot_list_append PySem.F.type_list_append mt_append (pv 2) (pa_cons (pe_ix ix_seq (pv 6) (pe_int) (fun _ _ => rfl)) pa_nil)))
      (pss_one (ps_set (i := 3) sc__law_row.nd rfl (.inr rfl) (pe_op op_addI (pv 3) (pe_callB call_lenU (by rfl) (T.free 3) bt_len (pa_cons (pe_ix ix_seq (pv 0) (pe_ix ix_seq (pv 6) (pe_int) (fun _ _ => rfl)) (fun _ _ => rfl)) pa_nil))))))))
      pss_nil)))
      (pss_one (ps_ret (pe_callTy call_tupOf (by rfl) (T.free 9) bt_tuple (pa_cons (pv 2) pa_nil)))))), ?_⟩
    try dsimp only [cxOf]
    obtain ⟨hv, hu, hok, ha, htl, hQ1, hQ2⟩ := hsp
    have hwl := hok.2.2.1
    refine q_unNG (K := K) (ds := []) (b := .d (.int 0)) (en_lst ea_nil) (by walk_at "ev") fun l xl w0 H1 hlf e1 hx hdx hw0 => ?_
    cases hdx
    cases L2.Dp.int_inv hw0
    refine q_forR1 (K := K) (n := ((t.length : Nat) : Int)) (ei_is (ei_lenT (eg_vard rfl (L2.Dp.mono e1 hu))) (by rw [List.length_map])) (by omega) (by omega) fun H2 e2 => ?_
    refine loop_range (Pv := fun i σ H' => Ex H H' ∧ ∃ (r : List Int) (xs : List V) (s : Wd) (o4 o5 o6 : Option V), okRw (ws.length : Nat) r ∧ t = txt ws r ++ s ∧ (s = [] ∨ i ≤ (txt ws r).length) ∧ H' l = some (.lst xs) ∧ DpAll K H' xs (r.map .int) ∧ r.length ≤ (txt ws r).length ∧
      σ = [some v, some u, some (.ref l), some (.int ((txt ws r).length : Nat)), o4, o5, o6]) ⟨e1.trans e2, [], [], t, none, none, none, (fun _ z => nomatch z), rfl, .inr (Nat.zero_le _), e2 _ _ hx, .nil, Nat.le_refl _, rfl⟩ ?_ ?_
    · rintro i σ H5 hi ⟨e5, r, xs, s, o4, o5, o6, hr, rfl, hs0, h5l, h5d, hrl, rfl⟩
      rw [List.length_append] at htl
      refine s_when (b := decide (((txt ws r).length : Int) < ((txt ws r ++ s).length : Nat))) (et_tst (K := K) (eb_lt (by walk_at "ev") (ei_is (ei_lenT (eg_vard rfl (L2.Dp.mono e5 hu))) (by rw [List.length_map])))) (fun hb' H6 e6 => ?_) (fun hb' H6 e6 => ?_)
      · have hs : 0 < s.length := by
          have := of_decide_eq_true hb'
          rw [List.length_append] at this
          omega
        have e06 := e5.trans e6
        have hu6 := L2.Dp.mono e06 hu
        have hv6 := L2.Dp.mono e06 hv
        have wat : ∀ i, i < ws.length → (ws.map encW)[i]? = some (encW (wdAt ws (i : Int))) := fun i hi => by
          have := wdAt_mem (ws := ws) (x := (i : Int)) (by omega) (by omega)
          rw [Int.toNat_natCast] at this
          rw [List.getElem?_map, this]
          rfl
        refine q_setN (K := K) (en_lcR1 (j := 5) (n := ((ws.length : Nat) : Int)) (fun k => decide (s.take (wdAt ws (k : Int)).length = wdAt ws (k : Int))) (fun k => .int ((k : Nat) : Int)) (ei_is (ei_lenL (eg_vard rfl hv6)) (by rw [List.length_map])) (by omega) (by omega) (fun _ => rfl) (fun _ _ _ => rfl) (fun k H7 e7 hk => ?_) fun k H7 e7 hk _ => by walk_at "ev") fun pf xf H8 hpf e8 hxf hdf => ?_
        · have hkl : k < ws.length := by omega
          have wk : ∀ {H9 : Hp} {σ : L2.St}, Ex H6 H9 → σ[0]? = some (some v) → σ[5]? = some (some (.int ((k : Nat) : Int))) → Ed K (tOp (rIx K) (tVar 0) (tVar 5)) σ H9 (encW (wdAt ws (k : Int))) := fun e h h' => ed_ixL (n := (k : Int)) (eg_vard h (L2.Dp.mono e hv6)) (eg_vard h' (.int _)) (atI_ofNat (wat k hkl))
          refine et_is' (et_tst (K := K) (eb_eq (d := encW (s.take (wdAt ws (k : Int)).length)) (e := encW (wdAt ws (k : Int))) (eg_is (ed_slT (ds := (txt ws r ++ s).map .int) (lo := some ((txt ws r).length : Nat)) (hi := some (((txt ws r).length + (wdAt ws (k : Int)).length : Nat) : Int)) (eg_vard rfl (L2.Dp.mono e7 hu6)) (eo_so (by walk_at "ev")) (eo_so (ei_is (ei_add (by walk_at "ev") (ei_is (ei_lenT (wk e7 rfl rfl)) (by rw [List.length_map]))) (by omega)))) ?_) (wk e7 rfl rfl) (okD_encW _) (okD_encW _))) (eqv_encW _ _)
          rw [cutX_mid, ← List.map_drop, ← List.map_take, List.drop_left]
          rfl
        have e08 := e06.trans e8
        rw [show ((ws.length : Nat) : Int).toNat = ws.length from Int.toNat_natCast _] at hdf
        unfold gv at hdf
        obtain ⟨fl, hfl⟩ : ∃ fl, fl = (List.range ws.length).filter (fun (k : Nat) => decide (s.take (wdAt ws (k : Int)).length = wdAt ws (k : Int))) := ⟨_, rfl⟩
        rw [← hfl] at hdf
        have hmem : ∀ k, k ∈ fl → k < ws.length ∧ s = wdAt ws (k : Int) ++ s.drop (wdAt ws (k : Int)).length := fun k hk => by
          rw [hfl, List.mem_filter] at hk
          refine ⟨List.mem_range.mp hk.1, ?_⟩
          have := of_decide_eq_true hk.2
          conv => lhs; rw [← List.take_append_drop (wdAt ws (k : Int)).length s, this]
        have hone := one_or (l := fl) (by rw [hfl]; exact List.nodup_range.filter _) (fun i hi j hj => by
          obtain ⟨i1, i2⟩ := hmem i hi
          obtain ⟨j1, j2⟩ := hmem j hj
          have wi := wdAt_ok hok (x := (i : Int)) (by omega) (by omega)
          have wj := wdAt_ok hok (x := (j : Int)) (by omega) (by omega)
          have := apart_eq ha (x := (i : Int)) (y := (j : Int)) ⟨by omega, by omega⟩ ⟨by omega, by omega⟩ (by
            rw [← hdW_app (v := s.drop (wdAt ws (i : Int)).length) wi.1, ← i2, ← hdW_app (v := s.drop (wdAt ws (j : Int)).length) wj.1, ← j2])
          omega)
        have hlf2 : xf.length = fl.length := by rw [L2.DpAll.length hdf, List.length_map]
        refine q_when (b := !decide (((fl.length : Nat) : Int) = 1)) (et_is' (et_tst (K := K) (eb_ne (ei_is (ei_lenL (eg_vard rfl (.lst (Evl.sq_of hxf) hdf))) (by rw [List.length_map])) (by walk_at "ev") (okD_int _) (okD_int _))) (by rw [eqv_int])) (fun h9 H9 e9 => ?_) (fun h9 H9 e9 => ?_)
        · refine s_ret (K := K) (a := .d .none) (by walk_at "ev") fun v H10 e10 rr => hQ2 (fun z hz ez => ?_) v H10 (e08.trans (e9.trans e10)) rr
          obtain ⟨q, rfl, hq, hq2⟩ := decode hok ha hr hz ez
          cases q with
          | nil =>
            rw [txt_nil] at hq2
            subst hq2
            simp at hs
          | cons y q =>
            have hy := hq y List.mem_cons_self
            rw [txt_cons] at hq2
            have hin : y.toNat ∈ fl := by
              rw [hfl, List.mem_filter]
              have ey : ((y.toNat : Nat) : Int) = y := by omega
              refine ⟨List.mem_range.mpr (by omega), decide_eq_true ?_⟩
              rw [ey, ← hq2, List.take_left]
            rcases hone with h | ⟨k, h⟩
            · rw [h] at hin
              cases hin
            · rw [h] at h9
              cases h9
        · have h9 : fl.length = 1 := by
            by_cases z : ((fl.length : Nat) : Int) = 1
            · omega
            · rw [decide_eq_false z] at h9
              cases h9
          obtain ⟨k, hk⟩ : ∃ k, fl = [k] := by
            rcases hone with h | h
            · rw [h] at h9
              cases h9
            · exact h
          obtain ⟨hkl, hsp⟩ := hmem k (by rw [hk]; simp)
          rw [hk] at hdf
          have fx : ∀ {H9 : Hp} {σ : L2.St}, Ex H8 H9 → σ[6]? = some (some (.ref pf)) → Ei K (tOp (rIx K) (tVar 6) (tC (.int 0))) σ H9 ((k : Nat) : Int) := fun e h => ed_ixL (n := 0) (eg_vard h (L2.Dp.mono e (.lst (Evl.sq_of hxf) hdf))) ed_int (atI_ofNat (j := 0) rfl)
          have h9l := (e6.trans (e8.trans e9)) _ _ h5l
          refine q_app (K := K) (a := .d (.int (k : Int))) (eg_varv rfl) h9l (by rw [L2.DpAll.length h5d, List.length_map]; omega) (fx e9 rfl) fun w H11 e11 hw => ?_
          cases L2.Dp.int_inv hw
          have h11l := e11 _ _ h9l
          have npf : pf ≠ l := fun z => by
            subst z
            rw [e6 _ _ h5l] at hpf
            cases hpf
          have e8u : ∀ {xs : List V}, Ex H8 (upd H11 l (.lst xs)) → True := fun _ => trivial
          have h12f : (upd H11 l (.lst (xs ++ [.int (k : Int)]))) pf = some (.lst xf) := by
            rw [upd_ne npf]
            exact (e9.trans e11) _ _ hxf
          have h12fd : DpAll K (upd H11 l (.lst (xs ++ [.int (k : Int)]))) xf [.int (k : Int)] := L2.DpAll.tx (Tx.lst h11l) (L2.DpAll.mono (e9.trans e11) hdf) rfl
          have e011 : Ex H (upd H11 l (.lst (xs ++ [.int (k : Int)]))) := (e08.trans (e9.trans e11)).mut hlf
          have el : (txt ws (r ++ [(k : Int)])).length = (txt ws r).length + (wdAt ws (k : Int)).length := by
            rw [txt_app, txt_cons, txt_nil, List.append_nil, List.length_append]
          have wk := wdAt_ok hok (x := (k : Int)) (by omega) (by omega)
          refine s_seti (K := K) (n := ((txt ws (r ++ [(k : Int)])).length : Nat)) ?_ fun H12 e12 => nx ⟨e011.trans e12, r ++ [(k : Int)], xs ++ [.int (k : Int)], s.drop (wdAt ws (k : Int)).length, _, _, _, fun z hz => ?_, ?_, .inr ?_, e12 _ _ upd_same, ?_, ?_, rfl⟩
          · rw [el]
            refine ei_is (ei_add (by walk_at "ev") (ei_is (ei_lenT (ed_ixL (n := (k : Int)) (eg_vard rfl (L2.Dp.mono e011 hv)) (ed_ixL (n := 0) (eg_vard rfl (.lst (Evl.sq_of h12f) h12fd)) (by walk_at "ev") (atI_ofNat (j := 0) rfl)) (atI_ofNat (wat k hkl)))) (by rw [List.length_map]))) (by omega)
          · rcases List.mem_append.mp hz with hz | hz
            · exact hr z hz
            · rw [List.mem_singleton] at hz
              omega
          · rw [txt_app, txt_cons, txt_nil, List.append_nil, List.append_assoc, ← hsp]
          · rw [el]
            have := wk.1
            rcases hs0 with h | h
            · subst h
              simp at hs
            · omega
          · rw [List.map_append]
            exact L2.DpAll.mono e12 ((L2.DpAll.tx (Tx.lst h11l) (L2.DpAll.mono (e6.trans (e8.trans (e9.trans e11))) h5d) (tupOA_ints r)).append (.one (.int _)))
          · rw [List.length_append, List.length_singleton, el]
            have := wk.1
            omega
      · have hs : s = [] := by
          have := of_decide_eq_false hb'
          rw [List.length_append] at this
          cases s with
          | nil => rfl
          | cons x s' => rw [List.length_cons] at this; omega
        exact nx ⟨e5.trans e6, r, xs, s, _, o5, o6, hr, rfl, .inl hs, e6 _ _ h5l, L2.DpAll.mono e6 h5d, hrl, rfl⟩
    · rintro σ H5 ⟨e5, r, xs, s, o4, o5, o6, hr, rfl, hs0, h5l, h5d, hrl, rfl⟩
      have hs : s = [] := by
        rcases hs0 with h | h
        · exact h
        · rw [List.length_append] at h
          cases s with
          | nil => rfl
          | cons x s' => rw [List.length_cons] at h; omega
      subst hs
      rw [List.append_nil] at hQ1
      exact nx (s_ret (K := K) (a := .d (encW r)) (ed_tupL (eg_vard rfl (.lst (Evl.sq_of h5l) h5d))) fun v' H7 e7 rr => hQ1 r hr rfl v' H7 (e5.trans e7) rr)



inductive Told2 (m : Int) (ws : List Wd) (d : PyData) : Str → PyData → Prop
  | readBad : areLet d (ws.length : Nat) = false → Told2 m ws d "read" (.str "row")
  | lenBad : areLet d (ws.length : Nat) = false → Told2 m ws d "length" (.str "row")
  | readLong {r : List Int} : d = encW r → okRw (ws.length : Nat) r → 100000 < (txt ws r).length → Told2 m ws d "read" (.str "long")
  | rowApart : startsA ws = false → Told2 m ws d "row_of" (.str "apart")
  | rowBad : startsA ws = true → areLet d m = false → Told2 m ws d "row_of" (.str "row")
  | rowOf {t : Wd} {r : List Int} : startsA ws = true → d = encW t → okRw m t → okRw (ws.length : Nat) r → txt ws r = t → Told2 m ws d "row_of" (encW r)
  | rowNo {t : Wd} : startsA ws = true → d = encW t → okRw m t → (∀ r, okRw (ws.length : Nat) r → txt ws r ≠ t) → Told2 m ws d "row_of" .none
def sp_law_told (K : PySem.W.Frag) : Sp := fun vs H Q _ => ∃ (word : Str) (p : Addr) (m : Int) (ws : List Wd) (v : V) (d e : PyData), vs = [.str word, .ref p, v] ∧ BookAt K H p m ws ∧ Dp K H v d ∧ fewT d ∧ Told2 m ws d word e ∧ RetD K H Q e
abbrev s__law_told : Stmt := top 24
theorem sc__law_told : FnScope ["word", "book", "value", "e", "kinds"] ["word", "book", "value"] (defScope s__law_told) := ⟨rfl, rfl, rfl, by decide +kernel, rfl, by decide +kernel, by decide +kernel⟩
theorem ok__law_told {P : Program} {w : World} {K : PySem.W.Frag} {mg : Str → Option Value} {base : Heap} (T : Top fs fn K mg) : Df P w K mg base 5 ("_law_told", none) ["word", "book", "value"] (sp_law_told K) := by
  refine df_of T 17 (name := "_law_told") (qual := "_law_told") (s := s__law_told) (N := ["word", "book", "value", "e", "kinds"]) (k := 4) rfl sc__law_told (fun vs H Q E hsp => ?_) (fun _ _ _ _ _ _ us hl => match us, hl with | [_, _, _], _ => rfl) (fun cdv A outer s0 H vs Q E hr hsp => ?_)
  · obtain ⟨_, _, _, _, _, _, _, rfl, _⟩ := hsp
    rfl
  · obtain ⟨⟨fd_Book_read, G_Book_read, b_Book_read⟩, k_Book_read⟩ := ok_Book_read (P := P) (w := w) (base := base) T
    obtain ⟨⟨fd_Book_length, G_Book_length, b_Book_length⟩, k_Book_length⟩ := ok_Book_length (P := P) (w := w) (base := base) T
    obtain ⟨⟨fd_Book_row_of, G_Book_row_of, b_Book_row_of⟩, k_Book_row_of⟩ := ok_Book_row_of (P := P) (w := w) (base := base) T
    obtain ⟨word, p, m, ws, v, d, e, rfl, hsp⟩ := hsp
    refine ⟨_, (pss_one (ps_try_as (i := 3) rfl rfl sc__law_told.nd rfl rfl ⟨rfl, by decide, .inl (T.glo 39)⟩ (takes_of rfl rfl rfl rfl) (fun W pn xe tk po => (pss_cons (ps_if (pt_cmpR (op_eqK (K := K) rfl hr.units) (pv 0) (pe_str) (nomark _))
      (pss_one (ps_ret (pe_mtS (pv 1) (T.cls 18) (T.meth 37) G_Book_read (hr.mono (by decide)) b_Book_read (fun σ => passAt tk σ) (pa_cons (pv 2) pa_nil))))
      pss_nil)
      (pss_cons (ps_if (pt_cmpR (op_eqK (K := K) rfl hr.units) (pv 0) (pe_str) (nomark _))
      (pss_one (ps_ret (pe_mtS (pv 1) (T.cls 18) (T.meth 27) G_Book_length (hr.mono (by decide)) b_Book_length (fun σ => passAt tk σ) (pa_cons (pv 2) pa_nil))))
      pss_nil)
      (pss_one (ps_ret (pe_mtS (pv 1) (T.cls 18) (T.meth 38) G_Book_row_of (hr.mono (by decide)) b_Book_row_of (fun σ => passAt tk σ) (pa_cons (pv 2) pa_nil)))))))
      (fun a oe cls d pn hz hf => (pss_cons (ps_set (i := 4) sc__law_told.nd rfl (.inl rfl) (pe_lst (pa_cons (pe_callB (call_isX hz hf) (by rfl) (T.free 8) bt_isinstance (pa_cons (pv 3) (pa_cons (pe_glob (v := .ref (He.ga K "BadRow")) rfl (T.glo 25) rfl) pa_nil))) (pa_cons (pe_callB (call_isX hz hf) (by rfl) (T.free 8) bt_isinstance (pa_cons (pv 3) (pa_cons (pe_glob (v := .ref (He.ga K "NotApart")) rfl (T.glo 33) rfl) pa_nil))) (pa_cons (pe_callB (call_isX hz hf) (by rfl) (T.free 8) bt_isinstance (pa_cons (pv 3) (pa_cons (pe_glob (v := .ref (He.ga K "TooLong")) rfl (T.glo 30) rfl) pa_nil))) pa_nil)))))
      (pss_one (ps_ret (pe_ix (ix_seqK (K := K) rfl) (pe_lst (pa_cons (pe_str) (pa_cons (pe_str) (pa_cons (pe_str) (pa_cons (pe_str) pa_nil))))) (pe_op op_addI (pe_op op_addI (pe_op op_mulI (pe_int) (pe_callTy call_intU (by rfl) (T.free 1) bt_int (pa_cons (pe_ix (ix_seqK (K := K) rfl) (pv 4) (pe_int) (fun _ _ => rfl)) pa_nil))) (pe_op op_mulI (pe_int) (pe_callTy call_intU (by rfl) (T.free 1) bt_int (pa_cons (pe_ix (ix_seqK (K := K) rfl) (pv 4) (pe_int) (fun _ _ => rfl)) pa_nil)))) (pe_op op_mulI (pe_int) (pe_callTy call_intU (by rfl) (T.free 1) bt_int (pa_cons (pe_ix (ix_seqK (K := K) rfl) (pv 4) (pe_int) (fun _ _ => rfl)) pa_nil)))) (fun _ _ => rfl)))))))), ?_⟩
    try dsimp only [cxOf]
    obtain ⟨hb, hd, hf, hT, hQ⟩ := hsp
    have hok := hb.good
    have w1 : PyData.strOk ("read" : Str) = true := by decide +kernel
    have w2 : PyData.strOk ("length" : Str) = true := by decide +kernel
    have w3 : PyData.strOk ("row_of" : Str) = true := by decide +kernel
    have ne1 : (("length" : Str) == ("read" : Str)) = false := by decide +kernel
    have ne2 : (("row_of" : Str) == ("read" : Str)) = false := by decide +kernel
    have ne3 : (("row_of" : Str) == ("length" : Str)) = false := by decide +kernel
    have meth : ∀ {H1 : Hp} {f : Str}, Ex H H1 → (f == "letters") = false → (f == "size") = false → (f == "_words") = false → ∃ dx gs, H1 p = some (.ins (He.ga K "Book") dx gs) ∧ gs.lookup f = none := fun e h1 h2 h3 => by
      obtain ⟨dx, l, h⟩ := (hb.mono e).isIns
      exact ⟨dx, _, h, bookF_no h1 h2 h3⟩
    cases hT with
    | @readBad h =>
      refine q_when (b := true) (et_is' (et_tst (K := K) (eb_eq (d := .str "read") (e := .str "read") (by walk_at "ev") (by walk_at "ev") (okD_str w1) (okD_str w1))) (by rw [eqv_str, beq_self_eq_true])) (fun _ H1 e1 => ?_) (fun z => nomatch z)
      obtain ⟨dx, gs, hp, hg⟩ := meth (f := "read") e1 (by decide +kernel) (by decide +kernel) (by decide +kernel)
      refine te_methS (K := K) (as := [.d d]) (eg_varv rfl) hp hg (by walk_at "ev") fun vs H2 e2 r => ?_
      match vs, r with
      | [u], r =>
        have e12 := e1.trans e2
        have hbb := hb.mono e12
        refine ⟨p, m, ws, u, d, rfl, hbb, r.1, hf, fun r' z hr' _ => ?_, fun _ H3 e3 => ?_, fun r' z hr' _ => ?_⟩
        · rw [z, areLet_of hr'] at h
          cases h
        rotate_left
        · rw [z, areLet_of hr'] at h
          cases h
        · skip
          refine ⟨true, T.exm 40, fun _ a ha => ?_, fun q => nomatch q⟩
          refine q_setN (K := K) (ds := [.bool true, .bool false, .bool false]) (en_lstD (ead_cons (eb_isX rfl (T.ecl 41) (T.kit 42)) (ead_cons (eb_isX rfl (T.ecl 41) (T.kit 43)) (ead_cons (eb_isX rfl (T.ecl 41) (T.kit 44)) ead_nil)))) fun pk xk Hk _ ek hk hkd => ?_
          have kx : ∀ (j : Nat) (b : Bool), [PyData.bool true, .bool false, .bool false][j]? = some (.bool b) → ∀ {σ : L2.St}, σ[4]? = some (some (.ref pk)) → Ei K (tCB rIntU (tCons (tOp (rIx K) (tVar 4) (tC (.int (j : Int)))) tNil)) σ Hk (if b then 1 else 0) := fun j b hb {σ} h => ei_intb (ed_ixL (n := (j : Int)) (eg_vard h (.lst (Evl.sq_of hk) hkd)) ed_int (atI_ofNat hb))
          exact s_ret (K := K) (a := .d (.str "row")) (ed_ixL (ds := [.str "other", .str "row", .str "apart", .str "long"]) (n := 1) (En.eg (by walk_at "ev")) (ei_is (ei_add (ei_add (ei_mul (n := 1) (by walk_at "ev") (kx 0 true rfl rfl) (.inl ⟨by decide, by decide⟩)) (ei_mul (n := 2) (by walk_at "ev") (kx 1 false rfl rfl) (.inl ⟨by decide, by decide⟩))) (ei_mul (n := 3) (by walk_at "ev") (kx 2 false rfl rfl) (.inl ⟨by decide, by decide⟩))) rfl) (atI_ofNat (j := 1) rfl)) fun v H9 e9 rr => hQ v H9 ((e12.trans e3).trans (ek.trans e9)) rr
    | @lenBad h =>
      refine q_skip (et_is' (et_tst (K := K) (eb_eq (d := .str "length") (e := .str "read") (by walk_at "ev") (by walk_at "ev") (okD_str w2) (okD_str w1))) (by rw [eqv_str]; exact ne1)) fun H0 e0 => ?_
      refine q_when (b := true) (et_is' (et_tst (K := K) (eb_eq (d := .str "length") (e := .str "length") (by walk_at "ev") (by walk_at "ev") (okD_str w2) (okD_str w2))) (by rw [eqv_str, beq_self_eq_true])) (fun _ H1 e01 => ?_) (fun z => nomatch z)
      have e1 := e0.trans e01
      obtain ⟨dx, gs, hp, hg⟩ := meth (f := "length") e1 (by decide +kernel) (by decide +kernel) (by decide +kernel)
      refine te_methS (K := K) (as := [.d d]) (eg_varv rfl) hp hg (by walk_at "ev") fun vs H2 e2 r => ?_
      match vs, r with
      | [u], r =>
        have e12 := e1.trans e2
        have hbb := hb.mono e12
        refine ⟨p, m, ws, u, d, rfl, hbb, r.1, hf, fun r' z hr' => ?_, fun _ H3 e3 => ?_⟩
        · rw [z, areLet_of hr'] at h
          cases h
        · skip
          refine ⟨true, T.exm 40, fun _ a ha => ?_, fun q => nomatch q⟩
          refine q_setN (K := K) (ds := [.bool true, .bool false, .bool false]) (en_lstD (ead_cons (eb_isX rfl (T.ecl 41) (T.kit 42)) (ead_cons (eb_isX rfl (T.ecl 41) (T.kit 43)) (ead_cons (eb_isX rfl (T.ecl 41) (T.kit 44)) ead_nil)))) fun pk xk Hk _ ek hk hkd => ?_
          have kx : ∀ (j : Nat) (b : Bool), [PyData.bool true, .bool false, .bool false][j]? = some (.bool b) → ∀ {σ : L2.St}, σ[4]? = some (some (.ref pk)) → Ei K (tCB rIntU (tCons (tOp (rIx K) (tVar 4) (tC (.int (j : Int)))) tNil)) σ Hk (if b then 1 else 0) := fun j b hb {σ} h => ei_intb (ed_ixL (n := (j : Int)) (eg_vard h (.lst (Evl.sq_of hk) hkd)) ed_int (atI_ofNat hb))
          exact s_ret (K := K) (a := .d (.str "row")) (ed_ixL (ds := [.str "other", .str "row", .str "apart", .str "long"]) (n := 1) (En.eg (by walk_at "ev")) (ei_is (ei_add (ei_add (ei_mul (n := 1) (by walk_at "ev") (kx 0 true rfl rfl) (.inl ⟨by decide, by decide⟩)) (ei_mul (n := 2) (by walk_at "ev") (kx 1 false rfl rfl) (.inl ⟨by decide, by decide⟩))) (ei_mul (n := 3) (by walk_at "ev") (kx 2 false rfl rfl) (.inl ⟨by decide, by decide⟩))) rfl) (atI_ofNat (j := 1) rfl)) fun v H9 e9 rr => hQ v H9 ((e12.trans e3).trans (ek.trans e9)) rr
    | @readLong r0 ed hr hl =>
      refine q_when (b := true) (et_is' (et_tst (K := K) (eb_eq (d := .str "read") (e := .str "read") (by walk_at "ev") (by walk_at "ev") (okD_str w1) (okD_str w1))) (by rw [eqv_str, beq_self_eq_true])) (fun _ H1 e1 => ?_) (fun z => nomatch z)
      obtain ⟨dx, gs, hp, hg⟩ := meth (f := "read") e1 (by decide +kernel) (by decide +kernel) (by decide +kernel)
      refine te_methS (K := K) (as := [.d d]) (eg_varv rfl) hp hg (by walk_at "ev") fun vs H2 e2 r => ?_
      match vs, r with
      | [u], r =>
        have e12 := e1.trans e2
        have hbb := hb.mono e12
        subst ed
        refine ⟨p, m, ws, u, encW r0, rfl, hbb, r.1, hf, fun r' z hr' h2 => ?_, fun z => ?_, fun _ _ _ _ H3 e3 => ?_⟩
        · cases encW_inj z
          omega
        · rw [areLet_of hr] at z
          cases z
        · skip
          refine ⟨true, T.exm 45, fun _ a ha => ?_, fun q => nomatch q⟩
          refine q_setN (K := K) (ds := [.bool false, .bool false, .bool true]) (en_lstD (ead_cons (eb_isX rfl (T.ecl 46) (T.kit 47)) (ead_cons (eb_isX rfl (T.ecl 46) (T.kit 48)) (ead_cons (eb_isX rfl (T.ecl 46) (T.kit 49)) ead_nil)))) fun pk xk Hk _ ek hk hkd => ?_
          have kx : ∀ (j : Nat) (b : Bool), [PyData.bool false, .bool false, .bool true][j]? = some (.bool b) → ∀ {σ : L2.St}, σ[4]? = some (some (.ref pk)) → Ei K (tCB rIntU (tCons (tOp (rIx K) (tVar 4) (tC (.int (j : Int)))) tNil)) σ Hk (if b then 1 else 0) := fun j b hb {σ} h => ei_intb (ed_ixL (n := (j : Int)) (eg_vard h (.lst (Evl.sq_of hk) hkd)) ed_int (atI_ofNat hb))
          exact s_ret (K := K) (a := .d (.str "long")) (ed_ixL (ds := [.str "other", .str "row", .str "apart", .str "long"]) (n := 3) (En.eg (by walk_at "ev")) (ei_is (ei_add (ei_add (ei_mul (n := 1) (by walk_at "ev") (kx 0 false rfl rfl) (.inl ⟨by decide, by decide⟩)) (ei_mul (n := 2) (by walk_at "ev") (kx 1 false rfl rfl) (.inl ⟨by decide, by decide⟩))) (ei_mul (n := 3) (by walk_at "ev") (kx 2 true rfl rfl) (.inl ⟨by decide, by decide⟩))) rfl) (atI_ofNat (j := 3) rfl)) fun v H9 e9 rr => hQ v H9 ((e12.trans e3).trans (ek.trans e9)) rr
    | @rowApart h =>
      refine q_skip (et_is' (et_tst (K := K) (eb_eq (d := .str "row_of") (e := .str "read") (by walk_at "ev") (by walk_at "ev") (okD_str w3) (okD_str w1))) (by rw [eqv_str]; exact ne2)) fun H0 e0 => ?_
      refine q_skip (et_is' (et_tst (K := K) (eb_eq (d := .str "row_of") (e := .str "length") (by walk_at "ev") (by walk_at "ev") (okD_str w3) (okD_str w2))) (by rw [eqv_str]; exact ne3)) fun H1 e01 => ?_
      have e1 := e0.trans e01
      obtain ⟨dx, gs, hp, hg⟩ := meth (f := "row_of") e1 (by decide +kernel) (by decide +kernel) (by decide +kernel)
      refine te_methS (K := K) (as := [.d d]) (eg_varv rfl) hp hg (by walk_at "ev") fun vs H2 e2 r => ?_
      match vs, r with
      | [u], r =>
        have e12 := e1.trans e2
        have hbb := hb.mono e12
        refine ⟨p, m, ws, u, d, rfl, hbb, r.1, hf, fun z => ?_, fun _ H3 e3 => ?_, fun z => ?_⟩
        · rw [h] at z
          cases z
        rotate_left
        · rw [h] at z
          cases z
        · skip
          refine ⟨true, T.exm 50, fun _ a ha => ?_, fun q => nomatch q⟩
          refine q_setN (K := K) (ds := [.bool false, .bool true, .bool false]) (en_lstD (ead_cons (eb_isX rfl (T.ecl 51) (T.kit 52)) (ead_cons (eb_isX rfl (T.ecl 51) (T.kit 53)) (ead_cons (eb_isX rfl (T.ecl 51) (T.kit 54)) ead_nil)))) fun pk xk Hk _ ek hk hkd => ?_
          have kx : ∀ (j : Nat) (b : Bool), [PyData.bool false, .bool true, .bool false][j]? = some (.bool b) → ∀ {σ : L2.St}, σ[4]? = some (some (.ref pk)) → Ei K (tCB rIntU (tCons (tOp (rIx K) (tVar 4) (tC (.int (j : Int)))) tNil)) σ Hk (if b then 1 else 0) := fun j b hb {σ} h => ei_intb (ed_ixL (n := (j : Int)) (eg_vard h (.lst (Evl.sq_of hk) hkd)) ed_int (atI_ofNat hb))
          exact s_ret (K := K) (a := .d (.str "apart")) (ed_ixL (ds := [.str "other", .str "row", .str "apart", .str "long"]) (n := 2) (En.eg (by walk_at "ev")) (ei_is (ei_add (ei_add (ei_mul (n := 1) (by walk_at "ev") (kx 0 false rfl rfl) (.inl ⟨by decide, by decide⟩)) (ei_mul (n := 2) (by walk_at "ev") (kx 1 true rfl rfl) (.inl ⟨by decide, by decide⟩))) (ei_mul (n := 3) (by walk_at "ev") (kx 2 false rfl rfl) (.inl ⟨by decide, by decide⟩))) rfl) (atI_ofNat (j := 2) rfl)) fun v H9 e9 rr => hQ v H9 ((e12.trans e3).trans (ek.trans e9)) rr
    | @rowBad h h2 =>
      refine q_skip (et_is' (et_tst (K := K) (eb_eq (d := .str "row_of") (e := .str "read") (by walk_at "ev") (by walk_at "ev") (okD_str w3) (okD_str w1))) (by rw [eqv_str]; exact ne2)) fun H0 e0 => ?_
      refine q_skip (et_is' (et_tst (K := K) (eb_eq (d := .str "row_of") (e := .str "length") (by walk_at "ev") (by walk_at "ev") (okD_str w3) (okD_str w2))) (by rw [eqv_str]; exact ne3)) fun H1 e01 => ?_
      have e1 := e0.trans e01
      obtain ⟨dx, gs, hp, hg⟩ := meth (f := "row_of") e1 (by decide +kernel) (by decide +kernel) (by decide +kernel)
      refine te_methS (K := K) (as := [.d d]) (eg_varv rfl) hp hg (by walk_at "ev") fun vs H2 e2 r => ?_
      match vs, r with
      | [u], r =>
        have e12 := e1.trans e2
        have hbb := hb.mono e12
        refine ⟨p, m, ws, u, d, rfl, hbb, r.1, hf, fun _ t z ht => ?_, fun z => ?_, fun _ _ H3 e3 => ?_⟩
        · rw [z, areLet_of ht] at h2
          cases h2
        · rw [h] at z
          cases z
        · skip
          refine ⟨true, T.exm 40, fun _ a ha => ?_, fun q => nomatch q⟩
          refine q_setN (K := K) (ds := [.bool true, .bool false, .bool false]) (en_lstD (ead_cons (eb_isX rfl (T.ecl 41) (T.kit 42)) (ead_cons (eb_isX rfl (T.ecl 41) (T.kit 43)) (ead_cons (eb_isX rfl (T.ecl 41) (T.kit 44)) ead_nil)))) fun pk xk Hk _ ek hk hkd => ?_
          have kx : ∀ (j : Nat) (b : Bool), [PyData.bool true, .bool false, .bool false][j]? = some (.bool b) → ∀ {σ : L2.St}, σ[4]? = some (some (.ref pk)) → Ei K (tCB rIntU (tCons (tOp (rIx K) (tVar 4) (tC (.int (j : Int)))) tNil)) σ Hk (if b then 1 else 0) := fun j b hb {σ} h => ei_intb (ed_ixL (n := (j : Int)) (eg_vard h (.lst (Evl.sq_of hk) hkd)) ed_int (atI_ofNat hb))
          exact s_ret (K := K) (a := .d (.str "row")) (ed_ixL (ds := [.str "other", .str "row", .str "apart", .str "long"]) (n := 1) (En.eg (by walk_at "ev")) (ei_is (ei_add (ei_add (ei_mul (n := 1) (by walk_at "ev") (kx 0 true rfl rfl) (.inl ⟨by decide, by decide⟩)) (ei_mul (n := 2) (by walk_at "ev") (kx 1 false rfl rfl) (.inl ⟨by decide, by decide⟩))) (ei_mul (n := 3) (by walk_at "ev") (kx 2 false rfl rfl) (.inl ⟨by decide, by decide⟩))) rfl) (atI_ofNat (j := 1) rfl)) fun v H9 e9 rr => hQ v H9 ((e12.trans e3).trans (ek.trans e9)) rr
    | @rowOf t0 r0 h ed ht hr hrt =>
      refine q_skip (et_is' (et_tst (K := K) (eb_eq (d := .str "row_of") (e := .str "read") (by walk_at "ev") (by walk_at "ev") (okD_str w3) (okD_str w1))) (by rw [eqv_str]; exact ne2)) fun H0 e0 => ?_
      refine q_skip (et_is' (et_tst (K := K) (eb_eq (d := .str "row_of") (e := .str "length") (by walk_at "ev") (by walk_at "ev") (okD_str w3) (okD_str w2))) (by rw [eqv_str]; exact ne3)) fun H1 e01 => ?_
      have e1 := e0.trans e01
      obtain ⟨dx, gs, hp, hg⟩ := meth (f := "row_of") e1 (by decide +kernel) (by decide +kernel) (by decide +kernel)
      refine te_methS (K := K) (as := [.d d]) (eg_varv rfl) hp hg (by walk_at "ev") fun vs H2 e2 r => ?_
      match vs, r with
      | [u], r =>
        have e12 := e1.trans e2
        have hbb := hb.mono e12
        subst ed
        refine ⟨p, m, ws, u, encW t0, rfl, hbb, r.1, hf, fun _ t z ht' => ?_, fun z => ?_, fun _ z => ?_⟩
        · cases encW_inj z
          exact ⟨fun r' hr' hrt' v H3 e3 rr => hQ v H3 (e12.trans e3) (by cases decode_one hok h hr hr' (hrt'.trans hrt.symm); exact rr), fun z => absurd hrt (z _ hr)⟩
        · rw [h] at z
          cases z
        · rw [areLet_of ht] at z
          cases z
    | @rowNo t0 h ed ht hno =>
      refine q_skip (et_is' (et_tst (K := K) (eb_eq (d := .str "row_of") (e := .str "read") (by walk_at "ev") (by walk_at "ev") (okD_str w3) (okD_str w1))) (by rw [eqv_str]; exact ne2)) fun H0 e0 => ?_
      refine q_skip (et_is' (et_tst (K := K) (eb_eq (d := .str "row_of") (e := .str "length") (by walk_at "ev") (by walk_at "ev") (okD_str w3) (okD_str w2))) (by rw [eqv_str]; exact ne3)) fun H1 e01 => ?_
      have e1 := e0.trans e01
      obtain ⟨dx, gs, hp, hg⟩ := meth (f := "row_of") e1 (by decide +kernel) (by decide +kernel) (by decide +kernel)
      refine te_methS (K := K) (as := [.d d]) (eg_varv rfl) hp hg (by walk_at "ev") fun vs H2 e2 r => ?_
      match vs, r with
      | [u], r =>
        have e12 := e1.trans e2
        have hbb := hb.mono e12
        subst ed
        refine ⟨p, m, ws, u, encW t0, rfl, hbb, r.1, hf, fun _ t z ht' => ?_, fun z => ?_, fun _ z => ?_⟩
        · cases encW_inj z
          exact ⟨fun r' hr' hrt' => absurd hrt' (hno r' hr'), fun _ v H3 e3 rr => hQ v H3 (e12.trans e3) rr⟩
        · rw [h] at z
          cases z
        · rw [areLet_of ht] at z
          cases z
theorem ed_told {K : PySem.W.Frag} {σ : L2.St} {H : Hp} {ta tb : TE} {E : XK} {m : Int} {ws : List Wd} {d e : PyData} {word : Str} (ha : Eg K ta σ H (avBook K m ws)) (hb : Ed K tb σ H d) (hf : fewT d) (h : Told2 m ws d word e) :
    Ed K (tCall (sp_law_told K) [] E (tCons (tC (.str word)) (tCons ta (tCons tb tNil)))) σ H e :=
  ed_call (ea_cons ed_str (ea_cons ha (ea_cons hb ea_nil))) fun vs H1 _ q Q k => by
    match vs, q with
    | [w, v, u], q =>
      cases L2.Dp.str_inv q.1
      obtain ⟨p, rfl, b⟩ := q.2.1
      exact ⟨word, p, m, ws, u, d, e, rfl, b, q.2.2.1, hf, h, k⟩


theorem few_ws {m : Int} {ws : List Wd} (h : okB m ws) : fewL (.list (ws.map encW)) := fun ds z => by
  cases z
  refine ⟨by rw [List.length_map]; have := h.2.2.1; omega, fun x hx es e => ?_⟩
  obtain ⟨w, hw, rfl⟩ := List.mem_map.mp hx
  cases e
  rw [List.length_map]
  have := (h.2.2.2 w hw).2.1
  omega
theorem few_app {ds es : List PyData} (h1 : fewL (.list ds)) (h2 : fewL (.list es)) (h3 : ds.length + es.length ≤ 1000000) : fewL (.list (ds ++ es)) := fun cs z => by
  cases z
  refine ⟨by rw [List.length_append]; omega, fun x hx => ?_⟩
  rcases List.mem_append.mp hx with hx | hx
  · exact (h1 ds rfl).2 x hx
  · exact (h2 es rfl).2 x hx
theorem few_one {x : PyData} (h : fewT x) : fewL (.list [x]) := fun cs z => by
  cases z
  refine ⟨by simp, fun y hy => ?_⟩
  rw [List.mem_singleton] at hy
  subst hy
  exact h
theorem few_no {d : PyData} (h : isL d = false) : fewL d := fun ds z => by subst z; simp [isL] at h
theorem fewT_no {d : PyData} (h : isT d = false) : fewT d := fun ds z => by subst z; simp [isT] at h


def tRevT (K : PySem.W.Frag) (te : TE) : TE := fun σ H Q => te σ H fun x H1 => ∃ a xs, x = .ref a ∧ SqT K H1 a xs ∧ ∀ p, H1 p = none → Q (.ref p) (upd H1 p (.tup xs.reverse))
theorem places_back (n : Nat) : Builtin.Slice.slicePlaces ((n : Int) - 1) (-1) (-1) = n := by
  unfold Builtin.Slice.slicePlaces
  rw [if_neg (by decide)]
  by_cases h : (n : Int) - 1 > -1
  · rw [if_pos h, show ((n : Int) - 1 - -1 - 1) / - -1 + 1 = (n : Int) by rw [show (- -1 : Int) = 1 by decide, Int.ediv_one]; omega]
    omega
  · rw [if_neg h]
    omega
theorem applied_back {prog : Program} {w : World} {A : Around} {E : Value → Shared → Prop} {s : Shared} {sl : Addr} {vk : Value} {n : Nat} {Q : Int × Int × Nat → Shared → Prop} (hs : s.heap.IsSliceOf sl .none .none vk) (pk : IsPart vk (some (-1)))
    (h : Q ((n : Int) - 1, -1, n) s) : wpAny (model prog w) A (Builtin.Slice.sliceApplied (.ref sl) (pure (n : Int))) Q E s := by
  obtain ⟨os, hos, hcs, hds⟩ := id hs
  unfold Builtin.Slice.sliceApplied Builtin.Slice.sliceFields
  refine wpAny_bind (wpAny_bind (wpAny_field hos hds (x := .none) rfl (wpAny_bind (wpAny_field hos hds (x := .none) rfl (wpAny_bind (wpAny_field hos hds (x := vk) rfl (wpAny_pure ?_)))))))
  refine wpAny_bind (HT.slicePart_ pk ?_)
  show wpAny _ _ (if ((-1 : Int) == 0) = true then _ else _) _ _ s
  rw [if_neg (by decide)]
  refine wpAny_bind (slicePart_none (wpAny_bind (slicePart_none (wpAny_bind (wpAny_pure ?_)))))
  show wpAny _ _ (pure ((n : Int) - 1, (-1 : Int), Builtin.Slice.slicePlaces ((n : Int) - 1) (-1) (-1))) _ _ s
  rw [places_back]
  exact wpAny_pure h
theorem pick_alike {α β : Type} {f g : α → Option β} : ∀ (l : List α), (∀ m ∈ l, f m = g m) → l.filterMap f = l.filterMap g
  | [], _ => rfl
  | x :: l, h => by
    rw [List.filterMap_cons, List.filterMap_cons, h x List.mem_cons_self, pick_alike l fun m hm => h m (List.mem_cons_of_mem _ hm)]
theorem pick_back (xs : Array Value) : ((List.range xs.size).filterMap fun (m : Nat) => xs[(((xs.size : Nat) : Int) - 1 + (m : Int) * -1).toNat]?).toArray = xs.toList.reverse.toArray := by
  congr 1
  have e : (List.range xs.size).filterMap (fun (m : Nat) => xs[(((xs.size : Nat) : Int) - 1 + (m : Int) * -1).toNat]?) = ((List.range xs.size).map fun k => xs.size - 1 - k).filterMap (xs[·]?) := by
    rw [List.filterMap_map]
    refine pick_alike _ fun m hm => ?_
    have := List.mem_range.mp hm
    show xs[(((xs.size : Nat) : Int) - 1 + (m : Int) * -1).toNat]? = xs[xs.size - 1 - m]?
    rw [show (((xs.size : Nat) : Int) - 1 + (m : Int) * -1).toNat = xs.size - 1 - m by omega]
  rw [e, PySem.W.krv_range, List.filterMap_reverse, PySem.W.krv_all]
theorem item_back {prog : Program} {w : World} {A : Around} {E : Value → Shared → Prop} {s : Shared} {t sl : Addr} {items : Array Value} {vk : Value} {Q : Value → Shared → Prop} (ht : IsTup s.heap t items) (hs : s.heap.IsSliceOf sl .none .none vk) (pk : IsPart vk (some (-1)))
    (h : Q (.ref s.heap.objs.size) { s with heap := s.heap.push { cls := .type "tuple", data := .seq items.toList.reverse.toArray } }) (hsz : items.size ≤ sizeLine) : wpAny (model prog w) A (getItem (.ref t) (.ref sl)) Q E s := by
  have room : sizeOk (.seq items.toList.reverse.toArray) := by
    show items.toList.reverse.toArray.size ≤ sizeLine
    rw [List.size_toArray, List.length_reverse, Array.length_toList]
    exact hsz
  obtain ⟨os, hos, hcs, _⟩ := id hs
  have isl : s.TypeIs (.ref sl) "slice" := ⟨os, hos, hcs⟩
  unfold getItem
  try with_reducible refine wpAny_holding ?_
  first | refine wpAny_bind (wpAny_pure ?_) | skip
  refine wpAny_bind (wpAny_sequenceKey ht.typeIs (by decide) (wpAny_bind ?_))
  refine wpAny_callSpecial?_slot (name := Str.ofString "__getitem__") ht.typeIs PyProof.Rows.slot_tuple_getitem
    (wpAny_call_entry PyProof.Rows.slot_tuple_getitem ht.typeIs entry_tuple_getitem ?_ (args_tuple_getitem _ _))
  show wpAny _ _ (Builtin.Tuple.tupleItemsOf (.ref t) >>= _) _ _ s
  refine wpAny_bind (tupleItemsOf_ ht (wpAny_bind (wpAny_typeOf isl ?_)))
  rw [if_pos (by decide)]
  refine wpAny_bind (applied_back hs pk ?_)
  have no : ¬ ((((items.size : Nat) : Int) - 1 == 0 && (-1 : Int) == 1 && items.size == items.size) = true) := by
    intro q
    rw [Bool.and_eq_true, Bool.and_eq_true] at q
    exact absurd q.1.2 (by decide)
  show wpAny _ _ (if (((items.size : Nat) : Int) - 1 == 0 && (-1 : Int) == 1 && items.size == items.size) = true then _ else _) _ _ s
  rw [if_neg no, pick_back]
  first
    | exact wpAny_bind (m := Builtin.Tuple.tupleExact _) (wpAny_newObj_type (wpAny_pure ⟨_, rfl, wpAny_pure h⟩) room)
    | exact wpAny_bind (wpAny_bind (m := Builtin.Tuple.tupleExact _) (wpAny_newObj_type (wpAny_pure (wpAny_pure ⟨_, rfl, wpAny_pure h⟩)) room))
    | exact wpAny_bind (wpAny_bind (m := Builtin.Tuple.tupleExact _) (wpAny_newObj_type (wpAny_pure ⟨_, rfl, wpAny_pure h⟩) room))
theorem pe_revT {X : Cx} {e : Expr} {te : TE} {k : Nat} {p1 p2 p3 pos : Pos} (he : PE X e te) : PE X (.Subscript e (.Slice none none (some (.UnaryOp .USub (.Constant (.int 1) k p1) p2)) p3) pos) (tRevT X.K te) := by
  refine ⟨fun pins s σ H Q I h => Subscript_ (thn (he.run pins s σ H _ I h) fun v s1 ⟨x, H1, I1, r1, q1⟩ => ?_)⟩
  obtain ⟨a, xs, ex, hx, q⟩ := q1
  subst ex
  cases r1
  have step : PO X (some (.UnaryOp .USub (.Constant (.int 1) k p1) p2)) (tPart (tUn (rU fun i => .int (-i)) (tC (.int 1)))) := po_some (pe_un un_neg pe_int)
  refine wpAny_Slice (thn (po_none.run pins s1 σ H1 (fun o H2 => o = none ∧ H2 = H1) I1 ⟨rfl, rfl⟩) fun vl s2 ⟨l, H2, I2, pl, el, e2⟩ => ?_)
  subst el e2
  refine thn (po_none.run pins s2 σ H2 (fun o H3 => o = none ∧ H3 = H2) I2 ⟨rfl, rfl⟩) fun vu s3 ⟨u, H3, I3, pu, eu, e3⟩ => ?_
  subst eu e3
  refine thn (step.run pins s3 σ H3 (fun o H4 => o = some (-1) ∧ H4 = H3) I3 ⟨1, rfl, -1, rfl, rfl, rfl⟩) fun vs s4 ⟨o, H4, I4, ps, eo, e4⟩ => ?_
  subst eo e4
  cases pl
  cases pu
  have I5 : Inv X pins σ H4 { s4 with heap := s4.heap.push { cls := .type "slice", data := .fields #[.none, .none, vs] } } := I4.kept (t' := s4.toks) fun b ob q => Heap.get?_push_of_some _ q
  obtain ⟨its, r, ht, hz⟩ := I5.tuple hx
  have len := r.length
  show wpAny (model X.prog X.w) X.A (subscriptTail e (.Slice none none (some (.UnaryOp .USub (.Constant (.int 1) k p1) p2)) p3) (.ref a) (.ref s4.heap.objs.size)) (EP X pins σ Q) X.xe { s4 with heap := s4.heap.push { cls := .type "slice", data := .fields #[.none, .none, vs] } }
  refine tail_any (ops := [.ref a, .ref s4.heap.objs.size]) ht.typeIs (PyProof.Rows.slot_tuple_getitem.lookup) ?_ (by with_unfolding_all rfl)
  refine item_back ht (Heap.IsSliceOf.new _ .none .none vs) ps ?_ (by rw [List.size_toArray]; omega)
  refine ⟨.ref _, _, I5.laid (t' := s4.toks) (o := .tup xs.reverse) (fun b ob q => Heap.get?_push_of_some _ q) (Nat.le_refl _) ?_, rfl, q _ (I5.hok.fresh (Nat.le_refl _))⟩
  exact ⟨by rw [List.length_reverse]; exact hz, _, r.reverse, IsTup.new _ _⟩
theorem ed_revT {K : PySem.W.Frag} {σ : L2.St} {H : Hp} {te : TE} {ds : List PyData} (h : Ed K te σ H (.tuple ds)) : Ed K (tRevT K te) σ H (.tuple ds.reverse) := fun H1 e Q q => h H1 e _ fun v H2 e2 hv => by
  obtain ⟨p, xs, rfl, hs, hd⟩ := L2.Dp.tup_inv hv
  exact ⟨p, xs, rfl, hs, fun l hl => q _ _ (e2.trans (Ex.new hl)) (.tup (Evl.st_of upd_same) (L2.DpAll.mono (Ex.new hl) (L2.DpAll.reverse hd)))⟩
theorem pe_revTK {X : Cx} {K : PySem.W.Frag} (hK : X.K = K) {e : Expr} {te : TE} {k : Nat} {p1 p2 p3 pos : Pos} (he : PE X e te) : PE X (.Subscript e (.Slice none none (some (.UnaryOp .USub (.Constant (.int 1) k p1) p2)) p3) pos) (tRevT K te) := hK ▸ pe_revT he


theorem cutX_m1 (ds : List PyData) : cutX ds none (some (-1)) = ds.take (ds.length - 1) := by
  unfold cutX
  have h1 : HT.sIx ds.length 0 none = 0 := rfl
  have h2 : HT.sIx ds.length ds.length (some (-1)) = ds.length - 1 := by
    unfold HT.sIx
    simp
    omega
  rw [h1, h2, List.drop_zero, Nat.sub_zero]
theorem ed_lawRow {K : PySem.W.Frag} {σ : L2.St} {H : Hp} {ta tb : TE} {E : XK} {m : Int} {ws : List Wd} {t : Wd} {e : PyData} (ha : Ed K ta σ H (.list (ws.map encW))) (hb : Ed K tb σ H (encW t)) (hok : okB m ws) (hs : startsA ws = true) (hl : t.length ≤ 1000000)
    (he : (∃ r, okRw (ws.length : Nat) r ∧ txt ws r = t ∧ e = encW r) ∨ ((∀ r, okRw (ws.length : Nat) r → txt ws r ≠ t) ∧ e = .none)) :
    Ed K (tCall (sp_law_row K) [] E (tCons ta (tCons tb tNil))) σ H e :=
  ed_call (ea_cons ha (ea_cons hb ea_nil)) fun vs H1 _ q Q k => by
    match vs, q with
    | [v, u], q =>
      refine ⟨v, u, m, ws, t, rfl, q.1, q.2.1, hok, hs, hl, fun r' hr' hrt' => ?_, fun z => ?_⟩
      · rcases he with ⟨r, hr, hrt, rfl⟩ | ⟨h, _⟩
        · cases decode_one hok hs hr hr' (hrt'.trans hrt.symm)
          exact k
        · exact absurd hrt' (h r' hr')
      · rcases he with ⟨r, hr, hrt, rfl⟩ | ⟨_, rfl⟩
        · exact absurd hrt (z r hr)
        · exact k
theorem ed_fewW {w : Wd} (h : w.length ≤ 1000000) : fewT (encW w) := fun ds z => by
  cases z
  rw [List.length_map]
  exact h
abbrev s_law : Stmt := top 25
theorem sc_law : FnScope ["script", "draws", "letters", "apart", "size", "words", "book", "word", "starts", "k", "row", "text", "value", "changed", "due", "many", "long"] ["script"] (defScope s_law) := ⟨rfl, rfl, rfl, by decide +kernel, rfl, by decide +kernel, by decide +kernel⟩
def sp_law (K : PySem.W.Frag) : Sp := fun vs H Q _ => ∃ (a : Addr) (ns : List Int), vs = [.ref a] ∧ SqL K H a (ns.map V.int) ∧ ns.length ≤ 63 ∧ ∀ H', Q (.bl true) H'
theorem ok_law {P : Program} {w : World} {K : PySem.W.Frag} {mg : Str → Option Value} (T : Top fs fn K mg) : ∃ fd, (∀ (s : Shared) (u : Value), BindsTo s fd ⟨[u], []⟩ [("script", u)]) ∧ ∀ base : Heap, FnOk P w K mg base (L2.CX P w) 6 (He.fAd K ("law", none)) fd ["script"] (sp_law K) := by
  refine law_of T 18 (s := s_law) (N := ["script", "draws", "letters", "apart", "size", "words", "book", "word", "starts", "k", "row", "text", "value", "changed", "due", "many", "long"]) (k := 5) rfl sc_law (fun vs H Q E hsp => ?_) (fun _ _ _ _ _ _ us hl => match us, hl with | [_], _ => rfl) (fun base cdv A outer s0 H vs Q E hr hsp => ?_)
  · obtain ⟨_, _, rfl, _⟩ := hsp
    rfl
  · obtain ⟨⟨fd__law_draws, G__law_draws, b__law_draws⟩, k__law_draws⟩ := ok__law_draws (P := P) (w := w) (base := base) T
    obtain ⟨⟨fd__law_words, G__law_words, b__law_words⟩, k__law_words⟩ := ok__law_words (P := P) (w := w) (base := base) T
    obtain ⟨⟨fd_Book___init__, G_Book___init__, b_Book___init__⟩, k_Book___init__⟩ := ok_Book___init__ (P := P) (w := w) (base := base) T
    obtain ⟨⟨fd__law_same_as, G__law_same_as, b__law_same_as⟩, k__law_same_as⟩ := ok__law_same_as (P := P) (w := w) (base := base) T
    obtain ⟨⟨fd_Book_ends_apart, G_Book_ends_apart, b_Book_ends_apart⟩, k_Book_ends_apart⟩ := ok_Book_ends_apart (P := P) (w := w) (base := base) T
    obtain ⟨⟨fd_Book_starts_apart, G_Book_starts_apart, b_Book_starts_apart⟩, k_Book_starts_apart⟩ := ok_Book_starts_apart (P := P) (w := w) (base := base) T
    obtain ⟨⟨fd__law_text, G__law_text, b__law_text⟩, k__law_text⟩ := ok__law_text (P := P) (w := w) (base := base) T
    obtain ⟨⟨fd_Book_read, G_Book_read, b_Book_read⟩, k_Book_read⟩ := ok_Book_read (P := P) (w := w) (base := base) T
    obtain ⟨⟨fd_Book_length, G_Book_length, b_Book_length⟩, k_Book_length⟩ := ok_Book_length (P := P) (w := w) (base := base) T
    obtain ⟨⟨fd__law_told, G__law_told, b__law_told⟩, k__law_told⟩ := ok__law_told (P := P) (w := w) (base := base) T
    obtain ⟨⟨fd__law_row, G__law_row, b__law_row⟩, k__law_row⟩ := ok__law_row (P := P) (w := w) (base := base) T
    obtain ⟨a, ns, rfl, hS, hlen, hQ⟩ := hsp
    refine ⟨_, (pss_cons (ps_set (i := 1) sc_law.nd rfl (.inr rfl) (pe_call G__law_draws (hr.mono (by decide)) rfl (T.glo 55) k__law_draws b__law_draws .nil (passes_call (takes_of rfl rfl rfl rfl) (fun _ _ _ _ h => h)) (pa_cons (pv 0) (pa_cons (pe_int) pa_nil))))
      (pss_cons (ps_set (i := 2) sc_law.nd rfl (.inl rfl) (pe_op op_addI (pe_int) (pe_op op_modI (pe_callTy call_intU (by rfl) (T.free 1) bt_int (pa_cons (pe_ix ix_seq (pv 1) (pe_int) (fun _ _ => rfl)) pa_nil)) (pe_int))))
      (pss_cons (ps_set (i := 3) sc_law.nd rfl (.inl rfl) (pe_cmpR (op_eqD hr.units) (pe_op op_modI (pe_callTy call_intU (by rfl) (T.free 1) bt_int (pa_cons (pe_ix ix_seq (pv 1) (pe_int) (fun _ _ => rfl)) pa_nil)) (pe_int)) (pe_int) (nomark _)))
      (pss_cons (ps_set (i := 4) sc_law.nd rfl (.inr rfl) (pe_op op_modI (pe_callTy call_intU (by rfl) (T.free 1) bt_int (pa_cons (pe_ix ix_seq (pv 1) (pe_int) (fun _ _ => rfl)) pa_nil)) (pe_ix ix_seq (pe_lst (pa_cons (pe_int) (pa_cons (pe_op op_addI (pv 2) (pe_int)) pa_nil))) (pe_callTy call_intU (by rfl) (T.free 1) bt_int (pa_cons (pv 3) pa_nil)) (fun _ _ => rfl))))
      (pss_cons (ps_set (i := 5) sc_law.nd rfl (.inl rfl) (pe_call G__law_words (hr.mono (by decide)) rfl (T.glo 56) k__law_words b__law_words .nil (passes_call (takes_of rfl rfl rfl rfl) (fun _ _ _ _ h => h)) (pa_cons (pe_slice sl_uni (pv 1) (po_some (pe_int)) po_none) (pa_cons (pv 2) (pa_cons (pv 4) (pa_cons (pe_int) (pa_cons (pv 3) pa_nil)))))))
      (pss_cons (ps_set (i := 6) sc_law.nd rfl (.inl rfl) (pe_make (T.mk 57) G_Book___init__ (hr.mono (by decide)) rfl (T.glo 58) b_Book___init__ .nil (passes_call (takes_of rfl rfl rfl rfl) (fun _ _ _ _ h => h)) (pa_cons (pv 2) (pa_cons (pv 5) pa_nil))))
      (pss_cons (ps_set (i := 8) sc_law.nd rfl (.inl rfl) (pe_cmpR (op_eqD hr.units) (pe_lenSet rfl (T.free 3) rfl (T.free 22) (pe_lc (own := [("word", 7)]) (g := gName 7) rfl sc_law.nd (pi_list (pv 5)) (blkOk_by (own := [("word", 7)]) (N := ["script", "draws", "letters", "apart", "size", "words", "book", "word", "starts", "k", "row", "text", "value", "changed", "due", "many", "long"]) (sc := defScope s_law) (by decide +kernel)) (fun _ _ _ _ _ => (pg_name (i := 7) sc_law.nd rfl (Or.inl rfl))) (fun _ _ _ _ _ => pts_nil) (fun _ _ _ _ _ => (pe_ix (ix_seqK (K := K) rfl) (pv 7) (pe_int) (fun _ _ => rfl))))) (pv 4) (nomark _)))
      (pss_cons (ps_if (PW.pt (pw_or (pt_not (pt_tru (pe_call G__law_same_as (hr.mono (by decide)) rfl (T.glo 35) k__law_same_as b__law_same_as .nil (passes_call (takes_of rfl rfl rfl rfl) (fun _ _ _ _ h => h)) (pa_cons (pe_meth0 (pv 6) (T.cls 18) (T.meth 31) G_Book_starts_apart (hr.mono (by decide)) b_Book_starts_apart .nil (passes_call (takes_of rfl rfl rfl rfl) (fun _ _ _ _ h => h))) (pa_cons (pv 8) pa_nil))))) (pw_or1 (pt_not (pt_tru (pe_call G__law_same_as (hr.mono (by decide)) rfl (T.glo 35) k__law_same_as b__law_same_as .nil (passes_call (takes_of rfl rfl rfl rfl) (fun _ _ _ _ h => h)) (pa_cons (pe_meth0 (pv 6) (T.cls 18) (T.meth 59) G_Book_ends_apart (hr.mono (by decide)) b_Book_ends_apart .nil (passes_call (takes_of rfl rfl rfl rfl) (fun _ _ _ _ h => h))) (pa_cons (pe_cmpR (op_eqD hr.units) (pe_lenSet rfl (T.free 3) rfl (T.free 22) (pe_lc (own := [("word", 7)]) (g := gName 7) rfl sc_law.nd (pi_list (pv 5)) (blkOk_by (own := [("word", 7)]) (N := ["script", "draws", "letters", "apart", "size", "words", "book", "word", "starts", "k", "row", "text", "value", "changed", "due", "many", "long"]) (sc := defScope s_law) (by decide +kernel)) (fun _ _ _ _ _ => (pg_name (i := 7) sc_law.nd rfl (Or.inl rfl))) (fun _ _ _ _ _ => pts_nil) (fun _ _ _ _ _ => (pe_ix (ix_seqK (K := K) rfl) (pv 7) (pe_un un_neg (pe_int)) (fun _ _ => rfl))))) (pv 4) (nomark _)) pa_nil))))))))
      (pss_one (ps_ret (pe_bl)))
      pss_nil)
      (pss_cons (ps_set (i := 10) sc_law.nd rfl (.inl rfl) (pe_callTy call_tupOf (by rfl) (T.free 9) bt_tuple (pa_cons (pe_lc (own := [("k", 9)]) (g := gName 9) rfl sc_law.nd (pi_range1 (by rfl) (T.free 2) (pa_cons (pe_op op_mulI (pe_op op_modI (pe_callTy call_intU (by rfl) (T.free 1) bt_int (pa_cons (pe_ix ix_seq (pv 1) (pe_int) (fun _ _ => rfl)) pa_nil)) (pe_int)) (pe_callTy call_intU (by rfl) (T.free 1) bt_int (pa_cons (pe_cmpR op_gtI (pv 4) (pe_int) (nomark _)) pa_nil))) pa_nil)) (blkOk_by (own := [("k", 9)]) (N := ["script", "draws", "letters", "apart", "size", "words", "book", "word", "starts", "k", "row", "text", "value", "changed", "due", "many", "long"]) (sc := defScope s_law) (by decide +kernel)) (fun _ _ _ _ _ => (pg_name (i := 9) sc_law.nd rfl (Or.inl rfl))) (fun _ _ _ _ _ => pts_nil) (fun _ _ _ _ _ => (pe_op op_modI (pe_callTy call_intU (by rfl) (T.free 1) bt_int (pa_cons (pe_ix (ix_seqK (K := K) rfl) (pv 1) (pe_op op_addI (pe_int) (pv 9)) (fun _ _ => rfl)) pa_nil)) (pe_callB (call_max2U rfl) (by rfl) (T.free 12) bt_max (pa_cons (pv 4) (pa_cons (pe_int) pa_nil)))))) pa_nil)))
      (pss_cons (ps_set (i := 11) sc_law.nd rfl (.inl rfl) (pe_call G__law_text (hr.mono (by decide)) rfl (T.glo 60) k__law_text b__law_text .nil (passes_call (takes_of rfl rfl rfl rfl) (fun _ _ _ _ h => h)) (pa_cons (pv 5) (pa_cons (pv 10) pa_nil))))
      (pss_cons (ps_if (PW.pt (pw_or (pt_not (pt_tru (pe_call G__law_same_as (hr.mono (by decide)) rfl (T.glo 35) k__law_same_as b__law_same_as .nil (passes_call (takes_of rfl rfl rfl rfl) (fun _ _ _ _ h => h)) (pa_cons (pe_meth (pv 6) (T.cls 18) (T.meth 27) G_Book_length (hr.mono (by decide)) b_Book_length .nil (passes_call (takes_of rfl rfl rfl rfl) (fun _ _ _ _ h => h)) (pa_cons (pv 10) pa_nil)) (pa_cons (pe_callB call_lenU (by rfl) (T.free 3) bt_len (pa_cons (pv 11) pa_nil)) pa_nil))))) (pw_or1 (pt_not (pt_tru (pe_call G__law_same_as (hr.mono (by decide)) rfl (T.glo 35) k__law_same_as b__law_same_as .nil (passes_call (takes_of rfl rfl rfl rfl) (fun _ _ _ _ h => h)) (pa_cons (pe_meth (pv 6) (T.cls 18) (T.meth 37) G_Book_read (hr.mono (by decide)) b_Book_read .nil (passes_call (takes_of rfl rfl rfl rfl) (fun _ _ _ _ h => h)) (pa_cons (pv 10) pa_nil)) (pa_cons (pv 11) pa_nil))))))))
      (pss_one (ps_ret (pe_bl)))
      pss_nil)
      (pss_cons (ps_if (PW.pt (pw_or (pt_not (pt_tru (pe_call G__law_same_as (hr.mono (by decide)) rfl (T.glo 35) k__law_same_as b__law_same_as .nil (passes_call (takes_of rfl rfl rfl rfl) (fun _ _ _ _ h => h)) (pa_cons (pe_meth (pv 6) (T.cls 18) (T.meth 37) G_Book_read (hr.mono (by decide)) b_Book_read .nil (passes_call (takes_of rfl rfl rfl rfl) (fun _ _ _ _ h => h)) (pa_cons (pe_tup pa_nil) pa_nil)) (pa_cons (pe_tup pa_nil) pa_nil))))) (pw_or1 (pt_not (pt_tru (pe_call G__law_same_as (hr.mono (by decide)) rfl (T.glo 35) k__law_same_as b__law_same_as .nil (passes_call (takes_of rfl rfl rfl rfl) (fun _ _ _ _ h => h)) (pa_cons (pe_meth (pv 6) (T.cls 18) (T.meth 27) G_Book_length (hr.mono (by decide)) b_Book_length .nil (passes_call (takes_of rfl rfl rfl rfl) (fun _ _ _ _ h => h)) (pa_cons (pe_tup pa_nil) pa_nil)) (pa_cons (pe_int) pa_nil))))))))
      (pss_one (ps_ret (pe_bl)))
      pss_nil)
      (pss_cons (ps_for (passes_of rfl) rfl (pi_list (pe_lst (pa_cons (pe_non) (pa_cons (pe_lst (pa_cons (pe_int) pa_nil)) (pa_cons (pe_tup (pa_cons (pv 4) pa_nil)) (pa_cons (pe_tup (pa_cons (pe_un un_neg (pe_int)) pa_nil)) (pa_cons (pe_tup (pa_cons (pe_bl) pa_nil)) (pa_cons (pe_tup (pa_cons (pe_str) pa_nil)) (pa_cons (pe_int) (pa_cons (pe_tup (pa_cons (pe_int) (pa_cons (pe_non) pa_nil))) pa_nil)))))))))) (pg_name (i := 12) sc_law.nd rfl (.inl rfl))
      (pss_one (ps_if (PW.pt (pw_or (pt_not (pt_tru (pe_call G__law_same_as (hr.mono (by decide)) rfl (T.glo 35) k__law_same_as b__law_same_as .nil (passes_call (takes_of rfl rfl rfl rfl) (fun _ _ _ _ h => h)) (pa_cons (pe_call G__law_told (hr.mono (by decide)) rfl (T.glo 61) k__law_told b__law_told .nil (passes_call (takes_of rfl rfl rfl rfl) (fun _ _ _ _ h => h)) (pa_cons (pe_str) (pa_cons (pv 6) (pa_cons (pv 12) pa_nil)))) (pa_cons (pe_str) pa_nil))))) (pw_or1 (pt_not (pt_tru (pe_call G__law_same_as (hr.mono (by decide)) rfl (T.glo 35) k__law_same_as b__law_same_as .nil (passes_call (takes_of rfl rfl rfl rfl) (fun _ _ _ _ h => h)) (pa_cons (pe_call G__law_told (hr.mono (by decide)) rfl (T.glo 61) k__law_told b__law_told .nil (passes_call (takes_of rfl rfl rfl rfl) (fun _ _ _ _ h => h)) (pa_cons (pe_str) (pa_cons (pv 6) (pa_cons (pv 12) pa_nil)))) (pa_cons (pe_str) pa_nil))))))))
      (pss_one (ps_ret (pe_bl)))
      pss_nil)))
      (pss_cons (ps_set (i := 13) sc_law.nd rfl (.inl rfl) (pe_lst (pa_cons (pv 11) (pa_cons (pe_op op_catA (pv 11) (pe_tup (pa_cons (pe_int) pa_nil))) (pa_cons (pe_slice sl_uni (pv 11) (po_some (pe_int)) po_none) (pa_cons (pe_slice sl_uni (pv 11) po_none (po_some (pe_un un_neg (pe_int)))) (pa_cons (pe_op op_catA (pe_op op_catA (pe_slice sl_uni (pv 11) po_none (po_some (pe_int))) (pe_tup (pa_cons (pe_op op_modI (pe_callTy call_intU (by rfl) (T.free 1) bt_int (pa_cons (pe_ix ix_seq (pv 1) (pe_int) (fun _ _ => rfl)) pa_nil)) (pv 2)) pa_nil))) (pe_slice sl_uni (pv 11) (po_some (pe_int)) po_none)) (pa_cons (pe_revTK (K := K) rfl (pv 11)) pa_nil))))))))
      (Evl.pss_cut (ps_for (passes_of rfl) rfl (pi_list (pv 13)) (pg_name (i := 12) sc_law.nd rfl (.inl rfl))
      (pss_cons (ps_set (i := 14) sc_law.nd rfl (.inl rfl) (pe_str))
      (pss_cons (ps_if (pt_tru (pv 8))
      (pss_one (ps_set (i := 14) sc_law.nd rfl (.inl rfl) (pe_call G__law_row (hr.mono (by decide)) rfl (T.glo 62) k__law_row b__law_row .nil (passes_call (takes_of rfl rfl rfl rfl) (fun _ _ _ _ h => h)) (pa_cons (pv 5) (pa_cons (pv 12) pa_nil)))))
      pss_nil)
      (pss_one (ps_if (pt_not (pt_tru (pe_call G__law_same_as (hr.mono (by decide)) rfl (T.glo 35) k__law_same_as b__law_same_as .nil (passes_call (takes_of rfl rfl rfl rfl) (fun _ _ _ _ h => h)) (pa_cons (pe_call G__law_told (hr.mono (by decide)) rfl (T.glo 61) k__law_told b__law_told .nil (passes_call (takes_of rfl rfl rfl rfl) (fun _ _ _ _ h => h)) (pa_cons (pe_str) (pa_cons (pv 6) (pa_cons (pv 12) pa_nil)))) (pa_cons (pv 14) pa_nil)))))
      (pss_one (ps_ret (pe_bl)))
      pss_nil)))))
      (pss_cons (ps_for (passes_of rfl) rfl (pi_list (pe_lst (pa_cons (pe_non) (pa_cons (pe_lst (pa_cons (pe_int) pa_nil)) (pa_cons (pe_tup (pa_cons (pv 2) pa_nil)) (pa_cons (pe_tup (pa_cons (pe_un un_neg (pe_int)) pa_nil)) (pa_cons (pe_tup (pa_cons (pe_bl) (pa_cons (pe_int) pa_nil))) (pa_cons (pe_str) pa_nil)))))))) (pg_name (i := 12) sc_law.nd rfl (.inl rfl))
      (pss_one (ps_if (pt_not (pt_tru (pe_call G__law_same_as (hr.mono (by decide)) rfl (T.glo 35) k__law_same_as b__law_same_as .nil (passes_call (takes_of rfl rfl rfl rfl) (fun _ _ _ _ h => h)) (pa_cons (pe_call G__law_told (hr.mono (by decide)) rfl (T.glo 61) k__law_told b__law_told .nil (passes_call (takes_of rfl rfl rfl rfl) (fun _ _ _ _ h => h)) (pa_cons (pe_str) (pa_cons (pv 6) (pa_cons (pv 12) pa_nil)))) (pa_cons (pe_ix ix_seq (pe_lst (pa_cons (pe_str) (pa_cons (pe_str) pa_nil))) (pe_callTy call_intU (by rfl) (T.free 1) bt_int (pa_cons (pv 8) pa_nil)) (fun _ _ => rfl)) pa_nil)))))
      (pss_one (ps_ret (pe_bl)))
      pss_nil)))
      (pss_cons (ps_if (PW.pt (pw_or (pt_cmpR (op_eqD hr.units) (pv 4) (pe_int) (nomark _)) (pw_or1 (pt_cmpR op_gtI (pe_op op_modI (pe_callTy call_intU (by rfl) (T.free 1) bt_int (pa_cons (pe_ix ix_seq (pv 1) (pe_int) (fun _ _ => rfl)) pa_nil)) (pe_int)) (pe_int) (nomark _)))))
      (pss_one (ps_ret (pe_bl)))
      pss_nil)
      (pss_cons (ps_set (i := 15) sc_law.nd rfl (.inl rfl) (pe_op op_divI (pe_int) (pe_callB call_lenU (by rfl) (T.free 3) bt_len (pa_cons (pe_ix ix_seq (pv 5) (pe_int) (fun _ _ => rfl)) pa_nil))))
      (pss_cons (ps_set (i := 16) sc_law.nd rfl (.inl rfl) (pe_op op_repX (pe_tup (pa_cons (pe_int) pa_nil)) (pv 15)))
      (pss_cons (ps_if (PW.pt (pw_or (pt_not (pt_tru (pe_call G__law_same_as (hr.mono (by decide)) rfl (T.glo 35) k__law_same_as b__law_same_as .nil (passes_call (takes_of rfl rfl rfl rfl) (fun _ _ _ _ h => h)) (pa_cons (pe_meth (pv 6) (T.cls 18) (T.meth 27) G_Book_length (hr.mono (by decide)) b_Book_length .nil (passes_call (takes_of rfl rfl rfl rfl) (fun _ _ _ _ h => h)) (pa_cons (pv 16) pa_nil)) (pa_cons (pe_op op_mulI (pv 15) (pe_callB call_lenU (by rfl) (T.free 3) bt_len (pa_cons (pe_ix ix_seq (pv 5) (pe_int) (fun _ _ => rfl)) pa_nil))) pa_nil))))) (pw_or1 (pt_cmpR (op_neD hr.units) (pe_meth (pv 6) (T.cls 18) (T.meth 37) G_Book_read (hr.mono (by decide)) b_Book_read .nil (passes_call (takes_of rfl rfl rfl rfl) (fun _ _ _ _ h => h)) (pa_cons (pv 16) pa_nil)) (pe_op op_repX (pe_ix ix_seq (pv 5) (pe_int) (fun _ _ => rfl)) (pv 15)) (nomark _)))))
      (pss_one (ps_ret (pe_bl)))
      pss_nil)
      (pss_one (ps_ret ((pe_and (pe_call G__law_same_as (hr.mono (by decide)) rfl (T.glo 35) k__law_same_as b__law_same_as .nil (passes_call (takes_of rfl rfl rfl rfl) (fun _ _ _ _ h => h)) (pa_cons (pe_call G__law_told (hr.mono (by decide)) rfl (T.glo 61) k__law_told b__law_told .nil (passes_call (takes_of rfl rfl rfl rfl) (fun _ _ _ _ h => h)) (pa_cons (pe_str) (pa_cons (pv 6) (pa_cons (pe_op op_repX (pe_tup (pa_cons (pe_int) pa_nil)) (pe_op op_addI (pv 15) (pe_int))) pa_nil)))) (pa_cons (pe_str) pa_nil))) (pe_one (pe_call G__law_same_as (hr.mono (by decide)) rfl (T.glo 35) k__law_same_as b__law_same_as .nil (passes_call (takes_of rfl rfl rfl rfl) (fun _ _ _ _ h => h)) (pa_cons (pe_meth (pv 6) (T.cls 18) (T.meth 27) G_Book_length (hr.mono (by decide)) b_Book_length .nil (passes_call (takes_of rfl rfl rfl rfl) (fun _ _ _ _ h => h)) (pa_cons (pe_op op_repX (pe_tup (pa_cons (pe_int) pa_nil)) (pe_op op_addI (pv 15) (pe_int))) pa_nil)) (pa_cons (pe_op op_mulI (pe_op op_addI (pv 15) (pe_int)) (pe_callB call_lenU (by rfl) (T.free 3) bt_len (pa_cons (pe_ix ix_seq (pv 5) (pe_int) (fun _ _ => rfl)) pa_nil))) pa_nil)))))))))))))))))))))))))))), ?_⟩
    try dsimp only [cxOf]
    refine q_setCall (K := K) (as := [.v (.ref a), .d (.int 80)]) (by walk_at "ev") fun vs H1 e1 r => ?_
    match vs, r with
    | [v1, v2], r =>
    obtain ⟨r1, r2, _⟩ := r
    cases r1
    cases L2.Dp.int_inv r2
    refine ⟨a, ns, 80, rfl, Evl.ex_l e1 hS, hlen, by decide, fun ds hdl hok pd xd H2 hpd e2 hxd hdd => ?_⟩
    rw [L2.DpAll.of_ints hdd] at hxd
    have hdl : ds.length = 80 := hdl
    have hdd2 : ∀ {H'}, Ex H2 H' → Dp K H' (.ref pd) (.list (ds.map .int)) := fun e => .lst (Evl.sq_of (e _ _ hxd)) (L2.DpAll.ints ds)
    obtain ⟨d0, hd0, d0a, d0b⟩ := hok.get (i := 0) (by omega)
    obtain ⟨d1, hd1, d1a, d1b⟩ := hok.get (i := 1) (by omega)
    obtain ⟨d2, hd2, d2a, d2b⟩ := hok.get (i := 2) (by omega)
    obtain ⟨d3, hd3, d3a, d3b⟩ := hok.get (i := 3) (by omega)
    obtain ⟨d30, hd30, d30a, d30b⟩ := hok.get (i := 30) (by omega)
    obtain ⟨d31, hd31, d31a, d31b⟩ := hok.get (i := 31) (by omega)
    have hd2' := hdd2 (Ex.refl H2)
    refine q_seti (K := K) (n := 1 + d0 % 6) ?_ fun H3 e3 => ?_
    · exact ei_add (by walk_at "ev") (ei_mod (ei_dr 0 (eg_vard rfl hd2') hd0) (by walk_at "ev") (by decide))
    have m0 := Int.emod_nonneg d0 (b := 6) (by decide)
    have m1 := Int.emod_lt_of_pos d0 (b := 6) (by decide)
    obtain ⟨m, hm⟩ : ∃ m : Int, m = 1 + d0 % 6 := ⟨_, rfl⟩
    rw [← hm]
    have hm1 : 1 ≤ m := by omega
    have hm2 : m ≤ 6 := by omega
    clear m0 m1 hm
    refine q_setb (K := K) (b := decide (d1 % 2 = 0)) (eb_is (eb_eq (ei_mod (ei_dr 1 (eg_vard rfl (hdd2 e3)) hd1) (m := 2) (by walk_at "ev") (by decide)) (by walk_at "ev") (okD_int _) (okD_int _)) (eqv_int _ _)) fun H4 e4 => ?_
    obtain ⟨ap, hap⟩ : ∃ ap, ap = decide (d1 % 2 = 0) := ⟨_, rfl⟩
    rw [← hap]
    have e24 := e3.trans e4
    obtain ⟨q, hq, hq1⟩ : ∃ q : Int, atI [PyData.int 9, .int (m + 1)] (if ap then 1 else 0) = some (.int q) ∧ ((ap = false ∧ q = 9) ∨ (ap = true ∧ q = m + 1)) := by
      cases ap
      · exact ⟨9, rfl, .inl ⟨rfl, rfl⟩⟩
      · exact ⟨m + 1, rfl, .inr ⟨rfl, rfl⟩⟩
    refine q_seti (K := K) (n := d2 % q) ?_ fun H5 e5 => ?_
    · exact ei_mod (ei_dr 2 (eg_vard rfl (hdd2 e24)) hd2) (ed_ixL (ds := [.int 9, .int (m + 1)]) (En.eg (en_lstD (ead_cons (by walk_at "ev") (ead_cons (by walk_at "ev") ead_nil)))) (ei_intb (by walk_at "ev")) hq) (by omega)
    have s0 := Int.emod_nonneg d2 (b := q) (by omega)
    have s1 := Int.emod_lt_of_pos d2 (b := q) (by omega)
    have e25 := e24.trans e5
    refine q_setCall (K := K) (as := [.d (.list ((ds.drop 4).map .int)), .d (.int m), .d (.int (d2 % q)), .d (.int 6), .d (.bool ap)]) ?_ fun vs H6 e6 r => ?_
    · refine ea_cons (eg_is (En.eg (en_sl (eg_vard rfl (hdd2 e25)) (eo_so (n := 4) (by walk_at "ev")) eo_no)) (by rw [show ((4 : Int)) = ((4 : Nat) : Int) from rfl, cutX_drop, List.map_drop])) (by walk_at "ev")
    match vs, r with
    | [w1, w2, w3, w4, w5], r =>
    obtain ⟨r1, r2, r3, r4, r5, _⟩ := r
    cases L2.Dp.int_inv r2
    cases L2.Dp.int_inv r3
    cases L2.Dp.int_inv r4
    cases L2.Dp.bl_inv r5
    refine ⟨w1, ds.drop 4, m, d2 % q, 6, ap, rfl, r1, fun x hx => hok x (List.mem_of_mem_drop hx), ⟨hm1, by omega⟩, ⟨s0, by omega, by rw [List.length_drop]; omega⟩, by decide, (fun z => by rcases hq1 with ⟨h, _⟩ | ⟨_, h⟩; (· rw [h] at z; cases z); (· omega)), fun ws hws pw xw H7 hpw e7 hxw hdw => ?_⟩
    have hwl : ((ws.length : Nat) : Int) = d2 % q := hws.1
    have okw : okB m ws := ⟨by omega, by omega, by omega, fun w hw => ⟨(hws.2.1 w hw).1, by have := (hws.2.1 w hw).2.1; omega, (hws.2.1 w hw).2.2⟩⟩
    have w6 : ∀ w ∈ ws, w.length ≤ 6 := fun w hw => by have := (hws.2.1 w hw).2.1; omega
    rw [← hwl]
    have e27 := e25.trans (e6.trans e7)
    have hwd : ∀ {H'}, Ex H7 H' → Dp K H' (.ref pw) (.list (ws.map encW)) := fun e => .lst (Evl.sq_of (e _ _ hxw)) (L2.DpAll.mono e hdw)
    have hdd7 : ∀ {H'}, Ex H7 H' → Dp K H' (.ref pd) (.list (ds.map .int)) := fun e => hdd2 (e27.trans e)
    refine q_set (K := K) (a := avBook K m ws) (eg_book (by walk_at "ev") (eg_vard rfl (hwd (Ex.refl _))) okw) fun v6 H8 e8 b6 => ?_
    have B6 : ∀ {H' : Hp} {σ : L2.St}, Ex H8 H' → σ[6]? = some (some v6) → Eg K (tVar 6) σ H' (avBook K m ws) := fun e h => eg_var h (Rl.mono e b6)
    have W5 : ∀ {H' : Hp} {σ : L2.St}, Ex H7 H' → σ[5]? = some (some (.ref pw)) → Ed K (tVar 5) σ H' (.list (ws.map encW)) := fun e h => eg_vard h (hwd e)
    have hds : ∀ {H' : Hp} {σ : L2.St}, Ex H7 H' → σ[5]? = some (some (.ref pw)) → (∀ x, L2.wipe ((L2.wipe σ [7]).set 7 (some x)) [7] = L2.wipe σ [7]) → (L2.wipe σ [7]).length = 17 → Ei K (tLenSet K (tLc (iList K (tVar 5)) (gName 7) tYes (tOp (rIx K) (tVar 7) (tC (.int 0))) [7])) σ H' (metN (ws.map hdW) : Nat) := fun e h hw hl => by
      refine ei_lenSet (En.eg (en_is (en_mapL (j := 7) hdP (W5 e h) ?_ hw ?_ fun x v H1 hx e1 hv => ?_) (hdP_ws okw.2.2.2))) (by rw [List.length_map]; omega)
      · rw [List.length_map]
        omega
      · intro x hx
        obtain ⟨w, _, rfl⟩ := List.mem_map.mp hx
        cases w <;> rfl
      · obtain ⟨w, hw, rfl⟩ := List.mem_map.mp hx
        have := (okw.2.2.2 w hw).1
        cases w with
        | nil => simp at this
        | cons y w => exact ed_ixT (n := 0) (eg_vard (List.getElem?_set_self (by omega)) hv) (by walk_at "ev") (atI_ofNat (j := 0) rfl)
    have hls : ∀ {H' : Hp} {σ : L2.St}, Ex H7 H' → σ[5]? = some (some (.ref pw)) → (∀ x, L2.wipe ((L2.wipe σ [7]).set 7 (some x)) [7] = L2.wipe σ [7]) → (L2.wipe σ [7]).length = 17 → Ei K (tLenSet K (tLc (iList K (tVar 5)) (gName 7) tYes (tOp (rIx K) (tVar 7) (tUn (rU fun i => .int (-i)) (tC (.int 1)))) [7])) σ H' (metN ((revB ws).map hdW) : Nat) := fun e h hw hl => by
      refine ei_lenSet (En.eg (en_is (en_mapL (j := 7) lstP (W5 e h) ?_ hw ?_ fun x v H1 hx e1 hv => ?_) (lstP_ws okw.2.2.2))) (by unfold revB; rw [List.length_map, List.length_map]; omega)
      · rw [List.length_map]
        omega
      · intro x hx
        obtain ⟨w, hw, rfl⟩ := List.mem_map.mp hx
        rw [lstP_w (okw.2.2.2 w hw).1]
        rfl
      · obtain ⟨w, hw, rfl⟩ := List.mem_map.mp hx
        exact ed_last (eg_vard (List.getElem?_set_self (by omega)) hv) (okw.2.2.2 w hw).1
    refine q_setb (K := K) (b := startsA ws) (eb_is (eb_eq (hds e8 rfl (fun _ => rfl) rfl) (by walk_at "ev") (okD_int _) (okD_int _)) ?_) fun H9 e9 => ?_
    · rw [eqv_int]
      unfold startsA allDif
      rw [List.length_map]
    have e89 := e9
    have e79 := e8.trans e9
    refine q_skip (et_is' (n := (!true || !true)) (Evl.et_or (Evl.et_not (et_trub (K := K) (eb_sameAs (d := .bool (startsA ws)) (eb_startsA (B6 e89 rfl)) (by walk_at "ev") rfl))) fun _ => Evl.et_not (et_trub (K := K) (eb_sameAs (d := .bool (endsA ws)) (eb_endsA (B6 e89 rfl)) (eb_is (eb_eq (hls e79 rfl (fun _ => rfl) rfl) (by walk_at "ev") (okD_int _) (okD_int _)) ?_) rfl))) rfl) fun H10 e10 => ?_
    · rw [eqv_int]
      unfold endsA startsA allDif revB
      rw [List.length_map, List.length_map]
    clear hds hls
    have e710 := e79.trans e10
    have e810 := e89.trans e10
    obtain ⟨mx, hmx⟩ : ∃ mx : Int, mx = if 1 > ((ws.length : Nat) : Int) then 1 else ((ws.length : Nat) : Int) := ⟨_, rfl⟩
    have hmx1 : 1 ≤ mx := by rw [hmx]; split <;> omega
    obtain ⟨rn, hrn⟩ : ∃ rn : Nat, d30 % 21 * (if decide ((0 : Int) < (ws.length : Nat)) then 1 else 0) = (rn : Int) ∧ rn ≤ 20 ∧ (ws.length = 0 → rn = 0) := by
      have a0 := Int.emod_nonneg d30 (b := 21) (by decide)
      have a1 := Int.emod_lt_of_pos d30 (b := 21) (by decide)
      by_cases z : (0 : Int) < (ws.length : Nat)
      · rw [decide_eq_true z, if_pos rfl, Int.mul_one]
        exact ⟨(d30 % 21).toNat, by omega, by omega, by omega⟩
      · rw [decide_eq_false z, if_neg (by decide), Int.mul_zero]
        exact ⟨0, rfl, by omega, fun _ => rfl⟩
    obtain ⟨r, hr⟩ : ∃ r : List Int, r = (List.range rn).map fun (k : Nat) => ds.getD (40 + k) 0 % mx := ⟨_, rfl⟩
    have hrl : r.length = rn := by rw [hr, List.length_map, List.length_range]
    have okr : okRw (ws.length : Nat) r := fun x hx => by
      rw [hr] at hx
      obtain ⟨k, hk, rfl⟩ := List.mem_map.mp hx
      have hk := List.mem_range.mp hk
      have a0 := Int.emod_nonneg (ds.getD (40 + k) 0) (b := mx) (by omega)
      have a1 := Int.emod_lt_of_pos (ds.getD (40 + k) 0) (b := mx) (by omega)
      have : ws.length ≠ 0 := fun z => by have := hrn.2.2 z; omega
      rw [hmx, if_neg (by omega)] at a1 a0
      rw [hmx, if_neg (by omega)]
      omega
    refine q_set (K := K) (a := .d (encW r)) ?_ fun v10 H11 e11 h10 => ?_
    · refine ed_is (ed_tupL (En.eg (en_mapR (j := 9) (n := ((rn : Nat) : Int)) (fun k => .int (ds.getD (40 + k) 0 % mx)) ?_ (by omega) (by omega) (fun _ => rfl) (fun _ _ => rfl) fun k H12 hk e12 => ?_))) ?_
      · refine ei_is (ei_mul (ei_mod (ei_dr 30 (eg_vard rfl (hdd7 e710)) hd30) (m := 21) (by walk_at "ev") (by decide)) (ei_intb (by walk_at "ev")) (.inl ?_)) hrn.1
        have a0 := Int.emod_nonneg d30 (b := 21) (by decide)
        have a1 := Int.emod_lt_of_pos d30 (b := 21) (by decide)
        omega
      · have hk : k < rn := by omega
        have hx : ds[40 + k]? = some (ds.getD (40 + k) 0) := by
          rw [List.getD_eq_getElem?_getD, List.getElem?_eq_getElem (by omega), Option.getD_some]
        refine ei_mod (ei_int (ei_draw (n := 40 + (k : Int)) (i := 40 + k) (eg_vard rfl (hdd7 (e710.trans e12))) (by walk_at "ev") (by omega) hx)) (ei_is (ei_max2 (by walk_at "ev") (by walk_at "ev")) ?_) (by omega)
        rw [hmx]
      · rw [hr, Int.toNat_natCast]
        unfold encW
        rw [List.map_map]
        rfl
    have e711 := e710.trans e11
    have e811 := e810.trans e11
    have bound : ∀ s : List Int, okRw (ws.length : Nat) s → (txt ws s).length ≤ 6 * s.length := fun s => by
      induction s with
      | nil => intro _; rw [txt_nil]; simp
      | cons x s ih =>
        intro h
        have hx := h x List.mem_cons_self
        have := w6 _ (List.mem_of_getElem? (wdAt_mem hx.1 hx.2))
        have ih := ih fun y hy => h y (List.mem_cons_of_mem _ hy)
        rw [txt_cons, List.length_append, List.length_cons]
        omega
    obtain ⟨t, ht⟩ : ∃ t, t = txt ws r := ⟨_, rfl⟩
    have htl : t.length ≤ 120 := by
      have := bound r okr
      rw [ht]
      omega
    have okt : okRw m t := by
      rw [ht]
      intro x hx
      unfold txt at hx
      obtain ⟨w, hw, hx⟩ := List.mem_flatten.mp hx
      obtain ⟨y, hy, rfl⟩ := List.mem_map.mp hw
      have hy := okr y hy
      exact (okw.2.2.2 _ (List.mem_of_getElem? (wdAt_mem hy.1 hy.2))).2.2 x hx
    refine q_set (K := K) (a := .d (encW t)) (eg_is (ed_lawText (W5 e711 rfl) (eg_vard rfl h10) okr (by rw [← ht]; omega)) (by rw [ht])) fun v11 H12 e12 h11 => ?_
    have e712 := e711.trans e12
    have e812 := e811.trans e12
    have hr10 := L2.Dp.mono e12 h10
    refine q_skip (et_is' (n := (!true || !true)) (Evl.et_or (Evl.et_not (et_trub (K := K) (eb_sameAs (d := .int (t.length : Nat)) (ei_is (ei_bkLength (B6 e812 rfl) (eg_vard rfl hr10) okr (by omega)) (by rw [ht])) (ei_is (ei_lenT (eg_vard rfl h11)) (by rw [List.length_map])) rfl))) fun _ => Evl.et_not (et_trub (K := K) (eb_sameAsW (w := t) (eg_is (ed_bkRead (B6 e812 rfl) (eg_vard rfl hr10) okr (by omega) (by rw [← ht]; omega)) (by rw [ht])) (eg_vard rfl h11) (by omega)))) rfl) fun H13 e13 => ?_
    have e813 := e812.trans e13
    have ok0 : okRw (ws.length : Nat) [] := fun _ z => nomatch z
    refine q_skip (et_is' (n := (!true || !true)) (Evl.et_or (Evl.et_not (et_trub (K := K) (eb_sameAsW (w := []) (ed_bkRead (r := []) (B6 e813 rfl) (ed_tupD ead_nil) ok0 (by simp) (by rw [txt_nil]; simp)) (ed_tupD ead_nil) (by simp)))) fun _ => Evl.et_not (et_trub (K := K) (eb_sameAs (d := .int 0) (ei_bkLength (r := []) (B6 e813 rfl) (ed_tupD ead_nil) ok0 (by simp)) (by walk_at "ev") rfl))) rfl) fun H14 e14 => ?_
    have e814 := e813.trans e14
    have fT : ∀ xs : List PyData, xs.length ≤ 1000000 → fewT (.tuple xs) := fun xs h cs z => by
      cases z
      exact h
    refine q_each (K := K) (es := [.none, .list [.int 0], .tuple [.int (ws.length : Nat)], .tuple [.int (-1)], .tuple [.bool true], .tuple [.str "0"], .int 0, .tuple [.int 0, .none]]) (En.eg (by walk_at "ev")) (fun x v H15 N hx e15 hv kN => ?_) fun w12 H15 e15 => ?_
    · have hbad : areLet x (ws.length : Nat) = false := by
        simp only [List.mem_cons, List.not_mem_nil, or_false] at hx
        rcases hx with rfl | rfl | rfl | rfl | rfl | rfl | rfl | rfl
        · rfl
        · rfl
        · have : decide (((ws.length : Nat) : Int) ≤ ((ws.length : Nat) : Int) - 1) = false := decide_eq_false (by omega)
          simp only [areLet, List.all_cons, isNum, this, Bool.and_false, Bool.false_and]
        · rfl
        · rfl
        · rfl
        · rfl
        · simp only [areLet, List.all_cons, List.all_nil, isNum, Bool.and_false, Bool.false_and]
      have hfew : fewT x := by
        simp only [List.mem_cons, List.not_mem_nil, or_false] at hx
        rcases hx with rfl | rfl | rfl | rfl | rfl | rfl | rfl | rfl
        · exact fewT_no rfl
        · exact fewT_no rfl
        · exact fT _ (by simp)
        · exact fT _ (by simp)
        · exact fT _ (by simp)
        · exact fT _ (by simp)
        · exact fewT_no rfl
        · exact fT _ (by simp)
      have e8x := e814.trans e15
      have so : PyData.strOk ("row" : Str) = true := by decide +kernel
      exact s_skip (et_is' (n := (!true || !true)) (Evl.et_or (Evl.et_not (et_trub (K := K) (eb_sameAs (d := .str "row") (ed_told (B6 e8x rfl) (eg_vard rfl hv) hfew (.readBad hbad)) (by walk_at "ev") so))) fun _ => Evl.et_not (et_trub (K := K) (eb_sameAs (d := .str "row") (ed_told (B6 e8x rfl) (eg_vard rfl hv) hfew (.lenBad hbad)) (by walk_at "ev") so))) rfl) fun H16 e16 => nx (kN H16 e16)
    have e815 := e814.trans e15
    have e715 := e8.trans e815
    have h11' := L2.Dp.mono (e13.trans (e14.trans e15)) h11
    have x0 := Int.emod_nonneg d31 (b := m) (by omega)
    have x1 := Int.emod_lt_of_pos d31 (b := m) (by omega)
    obtain ⟨ts, hts⟩ : ∃ ts : List Wd, ts = [t, t ++ [0], t.drop 1, t.take (t.length - 1), t.take 3 ++ [d31 % m] ++ t.drop 4, t.reverse] := ⟨_, rfl⟩
    have hts1 : ∀ u ∈ ts, okRw m u ∧ u.length ≤ 1000 := fun u hu => by
      rw [hts] at hu
      simp only [List.mem_cons, List.not_mem_nil, or_false] at hu
      rcases hu with rfl | rfl | rfl | rfl | rfl | rfl
      · exact ⟨okt, by omega⟩
      · refine ⟨fun x hx => ?_, by rw [List.length_append, List.length_singleton]; omega⟩
        rcases List.mem_append.mp hx with hx | hx
        · exact okt x hx
        · rw [List.mem_singleton] at hx
          omega
      · exact ⟨fun x hx => okt x (List.mem_of_mem_drop hx), by rw [List.length_drop]; omega⟩
      · exact ⟨fun x hx => okt x (List.mem_of_mem_take hx), by rw [List.length_take]; omega⟩
      · refine ⟨fun x hx => ?_, by rw [List.length_append, List.length_append, List.length_take, List.length_drop, List.length_singleton]; omega⟩
        rcases List.mem_append.mp hx with hx | hx
        · rcases List.mem_append.mp hx with hx | hx
          · exact okt x (List.mem_of_mem_take hx)
          · rw [List.mem_singleton] at hx
            omega
        · exact okt x (List.mem_of_mem_drop hx)
      · exact ⟨fun x hx => okt x (List.mem_reverse.mp hx), by rw [List.length_reverse]; omega⟩
    refine q_setN (K := K) (ds := ts.map encW) ?_ fun pc xc H16 hpc e16 hxc hdc => ?_
    · rw [hts]
      have T : ∀ {σ : L2.St}, σ[11]? = some (some v11) → Ed K (tVar 11) σ H15 (encW t) := fun h => eg_vard h h11'
      refine en_lstD (ds := [encW t, encW (t ++ [0]), encW (t.drop 1), encW (t.take (t.length - 1)), encW (t.take 3 ++ [d31 % m] ++ t.drop 4), encW t.reverse]) (ead_cons (T rfl) (ead_cons ?_ (ead_cons ?_ (ead_cons ?_ (ead_cons ?_ (ead_cons ?_ ead_nil))))))
      · exact eg_is (ed_catT (ds := t.map .int) (es := [.int 0]) (T rfl) (by walk_at "ev") (by rw [List.length_map]; simp only [List.length_singleton]; omega)) (by unfold encW; rw [List.map_append]; rfl)
      · exact eg_is (ed_slT (ds := t.map .int) (T rfl) (eo_so (n := 1) (by walk_at "ev")) eo_no) (by rw [show ((1 : Int)) = ((1 : Nat) : Int) from rfl, cutX_drop, ← List.map_drop]; rfl)
      · exact eg_is (ed_slT (ds := t.map .int) (T rfl) eo_no (eo_so (n := -1) (by walk_at "ev"))) (by rw [cutX_m1, List.length_map, ← List.map_take]; rfl)
      · refine eg_is (ed_catT (ds := (t.take 3).map .int ++ [.int (d31 % m)]) (es := (t.drop 4).map .int) (ed_catT (ed_is (ed_slT (ds := t.map .int) (T rfl) eo_no (eo_so (n := 3) (by walk_at "ev"))) (by rw [show ((3 : Int)) = ((3 : Nat) : Int) from rfl, cutX_take, ← List.map_take])) (ed_tupD (ead_cons (ei_mod (ei_dr 31 (eg_vard rfl (hdd7 e715)) hd31) (by walk_at "ev") (by omega)) ead_nil)) ?_) (ed_is (ed_slT (ds := t.map .int) (T rfl) (eo_so (n := 4) (by walk_at "ev")) eo_no) (by rw [show ((4 : Int)) = ((4 : Nat) : Int) from rfl, cutX_drop, ← List.map_drop])) ?_) ?_
        · rw [List.length_map, List.length_take]
          simp only [List.length_singleton]
          omega
        · rw [List.length_append, List.length_map, List.length_take, List.length_map, List.length_drop]
          simp only [List.length_singleton]
          omega
        · unfold encW
          rw [List.map_append, List.map_append]
          rfl
      · exact eg_is (ed_revT (T rfl)) (by unfold encW; rw [List.map_reverse])
    have e816 := e815.trans e16
    have e716 := e715.trans e16
    refine q_cut (fun σ' H' => Ex H16 H' ∧ ∃ o12 o14, σ' = [some (.ref a), some (.ref pd), some (.int m), some (.bl ap), some (.int (ws.length : Nat)), some (.ref pw), some v6, none, some (.bl (startsA ws)), none, some v10, some v11, o12, some (.ref pc), o14, none, none]) ?_ ?_
    · refine s_forL (K := K) (eg_vard rfl (.lst (Evl.sq_of hxc) hdc)) fun p xs H17 e17 hsq hd17 => ?_
      refine loop_list (Pv := fun _ σ' H' => Ex H17 H' ∧ ∃ o12 o14, σ' = [some (.ref a), some (.ref pd), some (.int m), some (.bl ap), some (.int (ws.length : Nat)), some (.ref pw), some v6, none, some (.bl (startsA ws)), none, some v10, some v11, o12, some (.ref pc), o14, none, none]) ⟨Ex.refl _, w12, none, rfl⟩ (fun _ _ _ _ z => Evl.ex_l z.1 hsq) ?_ (fun σ' H' z => nx ⟨e17.trans z.1, z.2⟩)
      rintro i x σ' H18 hi ⟨e18, o12, o14, rfl⟩
      obtain ⟨d, hd, hxd18⟩ := L2.DpAll.get (L2.DpAll.mono e18 hd17) hi
      obtain ⟨u, hu, rfl⟩ : ∃ u, u ∈ ts ∧ d = encW u := by
        obtain ⟨u, hu, e⟩ := List.mem_map.mp (List.mem_of_getElem? hd)
        exact ⟨u, hu, e.symm⟩
      obtain ⟨oku, hul⟩ := hts1 u hu
      have e1618 := e17.trans e18
      have so : PyData.strOk ("apart" : Str) = true := by decide +kernel
      refine q_set (K := K) (a := .d (.str "apart")) (by walk_at "ev") fun v14 H19 e19 h14 => ?_
      have e1619 := e1618.trans e19
      have hx19 := L2.Dp.mono e19 hxd18
      cases hsa : startsA ws with
      | false =>
        refine q_skip (et_trub (K := K) (k := false) (by rw [hsa] at *; walk_at "ev")) fun H20 e20 => ?_
        refine s_skip (et_is' (n := !true) (Evl.et_not (et_trub (K := K) (eb_sameAs (d := .str "apart") (ed_told (B6 (e816.trans (e1619.trans e20)) rfl) (by walk_at "ev") (ed_fewW (by omega)) (.rowApart hsa)) (by walk_at "ev") so))) rfl) fun H21 e21 => nx ⟨e18.trans (e19.trans (e20.trans e21)), some x, some v14, rfl⟩
      | true =>
        obtain ⟨d, hd1, hd2, hd3⟩ : ∃ d, ((∃ r, okRw (ws.length : Nat) r ∧ txt ws r = u ∧ d = encW r) ∨ ((∀ r, okRw (ws.length : Nat) r → txt ws r ≠ u) ∧ d = .none)) ∧ Told2 m ws (encW u) "row_of" d ∧ ((∃ w : Wd, d = encW w ∧ w.length ≤ 1000000) ∨ d = .none) := by
          by_cases z : ∃ r, okRw (ws.length : Nat) r ∧ txt ws r = u
          · obtain ⟨r', hr', hrt⟩ := z
            refine ⟨encW r', .inl ⟨r', hr', hrt, rfl⟩, .rowOf hsa rfl oku hr' hrt, .inl ⟨r', rfl, ?_⟩⟩
            have : ∀ s : List Int, okRw (ws.length : Nat) s → s.length ≤ (txt ws s).length := fun s => by
              induction s with
              | nil => intro _; simp
              | cons x s ih =>
                intro h
                have hx := h x List.mem_cons_self
                have := (wdAt_ok okw hx.1 hx.2).1
                have ih := ih fun y hy => h y (List.mem_cons_of_mem _ hy)
                rw [txt_cons, List.length_append, List.length_cons]
                omega
            have := this r' hr'
            rw [hrt] at this
            omega
          · have z : ∀ r, okRw (ws.length : Nat) r → txt ws r ≠ u := fun r' h1 h2 => z ⟨r', h1, h2⟩
            exact ⟨.none, .inr ⟨z, rfl⟩, .rowNo hsa rfl oku z, .inr rfl⟩
        refine q_when (b := true) (et_trub (K := K) (by rw [hsa] at *; walk_at "ev")) (fun _ H20 e20 => ?_) (fun z => nomatch z)
        refine s_set (K := K) (a := .d d) (ed_lawRow (W5 (e716.trans (e1619.trans e20)) rfl) (by walk_at "ev") okw hsa (by omega) hd1) fun v14 H21 e21 h14 => ?_
        have e1621 := e1619.trans (e20.trans e21)
        have told := ed_told (σ := [some (.ref a), some (.ref pd), some (.int m), some (.bl ap), some (.int (ws.length : Nat)), some (.ref pw), some v6, none, some (.bl true), none, some v10, some v11, some x, some (.ref pc), some v14, none, none]) (E := E) (B6 (e816.trans e1621) rfl) (ta := tVar 6) (tb := tVar 12) (eg_vard (i := 12) rfl (L2.Dp.mono (e20.trans e21) hx19)) (ed_fewW (by omega)) hd2
        refine nx ?_
        refine s_skip (et_is' (n := !true) (Evl.et_not (et_trub (K := K) ?_)) rfl) fun H22 e22 => nx ⟨e18.trans (e19.trans (e20.trans (e21.trans e22))), some x, some v14, rfl⟩
        rcases hd3 with ⟨w, rfl, hw⟩ | rfl
        · exact eb_sameAsW told (eg_vard rfl h14) hw
        · exact eb_sameAs told (eg_vard rfl h14) rfl
    rintro σ30 H30 ⟨e30, o12, o14, rfl⟩
    have e830 := e816.trans e30
    have e730 := e716.trans e30
    refine q_each (K := K) (es := [.none, .list [.int 0], .tuple [.int m], .tuple [.int (-1)], .tuple [.bool true, .int 0], .str "0"]) (En.eg (by walk_at "ev")) (fun x v H31 N hx e31 hv kN => ?_) fun w12 H31 e31 => ?_
    · have hbad : areLet x m = false := by
        simp only [List.mem_cons, List.not_mem_nil, or_false] at hx
        rcases hx with rfl | rfl | rfl | rfl | rfl | rfl
        · rfl
        · rfl
        · have : decide (m ≤ m - 1) = false := decide_eq_false (by omega)
          simp only [areLet, List.all_cons, isNum, this, Bool.and_false, Bool.false_and]
        · rfl
        · rfl
        · rfl
      have hfew : fewT x := by
        simp only [List.mem_cons, List.not_mem_nil, or_false] at hx
        rcases hx with rfl | rfl | rfl | rfl | rfl | rfl
        · exact fewT_no rfl
        · exact fewT_no rfl
        · exact fT _ (by simp)
        · exact fT _ (by simp)
        · exact fT _ (by simp)
        · exact fewT_no rfl
      obtain ⟨d, hd1, hd2, hd3⟩ : ∃ d : Str, Told2 m ws x "row_of" (.str d) ∧ atI [PyData.str "apart", .str "row"] (if startsA ws then 1 else 0) = some (.str d) ∧ PyData.strOk d = true := by
        cases hsa : startsA ws with
        | false => exact ⟨"apart", .rowApart hsa, rfl, by decide +kernel⟩
        | true => exact ⟨"row", .rowBad hsa hbad, rfl, by decide +kernel⟩
      refine s_skip (et_is' (n := !true) (Evl.et_not (et_trub (K := K) (eb_sameAs (d := .str d) (ed_told (B6 (e830.trans e31) rfl) (eg_vard rfl hv) hfew hd1) (ed_ixL (ds := [.str "apart", .str "row"]) (En.eg (by walk_at "ev")) (ei_intb (by walk_at "ev")) hd2) hd3))) rfl) fun H32 e32 => nx (kN H32 e32)
    have e831 := e830.trans e31
    have e731 := e730.trans e31
    refine q_when (b := decide (((ws.length : Nat) : Int) = 0) || decide ((0 : Int) < d3 % 12)) (Evl.et_or (et_is' (et_tst (K := K) (eb_eq (by walk_at "ev") (by walk_at "ev") (okD_int _) (okD_int _))) (eqv_int _ _)) fun _ => et_tst (K := K) (eb_gt (ei_mod (ei_dr 3 (eg_vard rfl (hdd7 e731)) hd3) (m := 12) (by walk_at "ev") (by decide)) (by walk_at "ev"))) (fun _ H32 e32 => ?_) (fun hb H32 e32 => ?_)
    · exact s_ret (K := K) (a := .d (.bool true)) ed_bl (fun v H' _ r => by
        cases L2.Dp.bl_inv r
        exact hQ H')
    have hw0 : 0 < ws.length := by
      rw [Bool.or_eq_false_iff] at hb
      have := of_decide_eq_false hb.1
      omega
    have e832 := e831.trans e32
    have e732 := e731.trans e32
    obtain ⟨w, hw⟩ : ∃ w, w = ws[0] := ⟨_, rfl⟩
    have hw1 := okw.2.2.2 w (by rw [hw]; exact List.getElem_mem hw0)
    have hw6 := w6 w (by rw [hw]; exact List.getElem_mem hw0)
    have W0 : ∀ {H' : Hp} {σ : L2.St}, Ex H7 H' → σ[5]? = some (some (.ref pw)) → Ed K (tOp (rIx K) (tVar 5) (tC (.int 0))) σ H' (encW w) := fun e h => ed_ixL (n := 0) (W5 e h) ed_int (atI_ofNat (j := 0) (by rw [List.getElem?_map, List.getElem?_eq_getElem hw0, hw]; rfl))
    have wa : wdAt ws 0 = w := by
      have := wdAt_mem (ws := ws) (x := 0) (by omega) (by omega)
      rw [show (0 : Int).toNat = 0 from rfl, List.getElem?_eq_getElem hw0, ← hw] at this
      injection this with this
      exact this.symm
    obtain ⟨L, hL⟩ : ∃ L : Nat, L = w.length := ⟨_, rfl⟩
    have hL1 : 1 ≤ L ∧ L ≤ 6 := by have := hw1.1; omega
    obtain ⟨mn, hmn⟩ : ∃ mn : Nat, (100000 : Int) / (L : Int) = (mn : Int) := ⟨((100000 : Int) / (L : Int)).toNat, by have := Int.ediv_nonneg (a := 100000) (b := (L : Int)) (by omega) (by omega); omega⟩
    have hmL : (mn : Int) * (L : Int) ≤ 100000 ∧ 100000 < ((mn : Int) + 1) * (L : Int) := by
      rw [← hmn]
      refine ⟨Int.ediv_mul_le _ (by omega), ?_⟩
      have := Int.lt_ediv_add_one_mul_self (100000 : Int) (b := (L : Int)) (by omega)
      exact this
    have hmn2 : 16666 ≤ mn ∧ mn ≤ 100000 := by
      have h6 : L = 1 ∨ L = 2 ∨ L = 3 ∨ L = 4 ∨ L = 5 ∨ L = 6 := by omega
      rcases h6 with h | h | h | h | h | h <;> subst h <;> omega
    have lenW : ∀ {H' : Hp} {σ : L2.St}, Ex H7 H' → σ[5]? = some (some (.ref pw)) → Ei K (tCB (rLenU K) (tCons (tOp (rIx K) (tVar 5) (tC (.int 0))) tNil)) σ H' (L : Int) := fun e h => ei_is (ei_lenT (W0 e h)) (by rw [List.length_map, hL])
    refine q_seti (K := K) (n := (mn : Int)) (ei_is (ei_div (n := 100000) (by walk_at "ev") (lenW e732 rfl) (by omega)) hmn) fun H33 e33 => ?_
    have zs : ∀ {H' : Hp} {σ : L2.St} {te : TE} (n : Nat), 2 ≤ n → n ≤ 100001 → Ei K te σ H' (n : Int) → Ed K (tOp (rRepX K) (tTup (tCons (tC (.int 0)) tNil)) te) σ H' (encW (List.replicate n 0)) := fun n h1 h2 h => by
      refine ed_is (ed_repT (n := (n : Int)) (ds := [.int 0]) (by walk_at "ev") h (by intro z; cases z) (by omega) (by simp; omega)) ?_
      rw [rep_one, Int.toNat_natCast]
      unfold encW
      rw [List.map_replicate]
    refine q_set (K := K) (a := .d (encW (List.replicate mn 0))) (zs mn (by omega) (by omega) (by walk_at "ev")) fun v16 H34 e34 h16 => ?_
    have e834 := e832.trans (e33.trans e34)
    have e734 := e732.trans (e33.trans e34)
    have okz : ∀ n, okRw (ws.length : Nat) (List.replicate n 0) := fun n x hx => by
      have := (List.mem_replicate.mp hx).2
      omega
    have tz : ∀ n : Nat, txt ws (List.replicate n 0) = (List.replicate n w).flatten := fun n => by
      unfold txt
      rw [List.map_replicate, wa]
    have tl : ∀ n : Nat, (txt ws (List.replicate n 0)).length = n * L := fun n => by
      rw [tz, List.length_flatten, List.map_replicate, List.sum_replicate_nat, hL]
    have cm : ∀ x : Int, CMul x (L : Int) := fun x => .inr ⟨by omega, by omega⟩
    have hn1 : ((mn * L : Nat) : Int) = (mn : Int) * (L : Int) := Int.natCast_mul mn L
    have hn2 : (((mn + 1) * L : Nat) : Int) = ((mn : Int) + 1) * (L : Int) := by rw [Int.natCast_mul]; rfl
    refine q_skip (et_is' (n := (!true || false)) (Evl.et_or (Evl.et_not (et_trub (K := K) (eb_sameAs (d := .int ((mn : Int) * (L : Int))) (ei_is (ei_bkLength (r := List.replicate mn 0) (B6 e834 rfl) (eg_vard rfl h16) (okz mn) (by rw [List.length_replicate]; omega)) ?_) (ei_mul (by walk_at "ev") (lenW e734 rfl) (cm _)) rfl))) fun _ => et_tst (K := K) (eb_is (eb_ne (d := encW (txt ws (List.replicate mn 0))) (e := encW (txt ws (List.replicate mn 0))) (ed_bkRead (r := List.replicate mn 0) (B6 e834 rfl) (eg_vard rfl h16) (okz mn) (by rw [List.length_replicate]; omega) (by rw [tl]; omega)) (ed_is (ed_repT (n := (mn : Int)) (ds := w.map .int) (W0 e734 rfl) (by walk_at "ev") ?_ (by omega) ?_) ?_) (okD_encW _) (okD_encW _)) ?_)) rfl) fun H35 e35 => ?_
    · rw [tl, hn1]
    · intro z
      have := congrArg List.length z
      rw [List.length_map, List.length_nil] at this
      omega
    · rw [List.length_map, ← hL, Int.mul_comm]
      omega
    · rw [Int.toNat_natCast, tz]
      unfold encW
      rw [List.map_flatten, List.map_replicate]
    · rw [eqv_encW, decide_eq_true rfl]
      rfl
    have e835 := e834.trans e35
    have e735 := e734.trans e35
    have so : PyData.strOk ("long" : Str) = true := by decide +kernel
    have zs1 : ∀ {H' : Hp} {σ : L2.St}, σ[15]? = some (some (.int (mn : Int))) → Ed K (tOp (rRepX K) (tTup (tCons (tC (.int 0)) tNil)) (tOp rAddI (tVar 15) (tC (.int 1)))) σ H' (encW (List.replicate (mn + 1) 0)) := fun h => zs (mn + 1) (by omega) (by omega) (ei_is (ei_add (eg_vard h (.int _)) ed_int) (by omega))
    refine s_ret (K := K) (a := .d (.bool true)) ?_ (fun v H' _ r => by
      cases L2.Dp.bl_inv r
      exact hQ H')
    refine eb_is (eb_and (eb_sameAs (d := .str "long") (ed_told (B6 e835 rfl) (zs1 rfl) (ed_fewW (by rw [List.length_replicate]; omega)) (.readLong rfl (okz (mn + 1)) (by rw [tl]; omega))) (by walk_at "ev") so) fun _ => eb_sameAs (d := .int (((mn : Int) + 1) * (L : Int))) (ei_is (ei_bkLength (r := List.replicate (mn + 1) 0) (B6 e835 rfl) (zs1 rfl) (okz (mn + 1)) (by rw [List.length_replicate]; omega)) ?_) (ei_mul (by walk_at "ev") (lenW e735 rfl) (cm _)) rfl) rfl
    rw [tl, hn2]
end Lawk02

namespace Lawk02
open PySem L2 Al PySem.Spec PyProof.Rows
abbrev Rw : PySem.W.OpenRow := PySem.W.OpenLaw.row PySem.Challenge.rw_alikeread_k02_rows_are_read
def hk : PySem.W.Hook := hookM 5 fs fn
def ob (s : PySem.W.SharedT) : AlM := obsM 5 fs fn (HandSHeadRun.getT s)
theorem ob_is (s : PySem.W.SharedT) : ob s = hk.obs s.abs := obsM_eq (HandSHeadRun.getT_eq s)
def looseN : List Str := ["_wall", "AlikeError", "BadBook", "BadNumber", "BadRow", "NotApart", "TooLong", "MOST_LETTERS", "MOST_WORDS", "LONGEST_WORD", "LONGEST_TEXT", "is_number", "are_letters", "is_word", "_are_different", "Book", "_law_same_as", "_law_draws", "_law_words", "_law_text", "_law_row", "_law_told"]
theorem runs (w : World) : HandSHeadRun.RunEq Rw (PySem.W.view Rw.prog [25]) hk ob 4000 looseN w := by
  intro os
  kernel_rfl
end Lawk02
open PySem PySem.W PySem.Calls PyProof.Rows
theorem PySem.Challenge.cw_alikeread_k02_rows_are_read_holds : PySem.Challenge.rw_alikeread_k02_rows_are_read.Holds := by
  w_on; o_law
  refine HandSHeadRun.head_any (r := OpenLaw.row PySem.Challenge.rw_alikeread_k02_rows_are_read) (q := view (OpenLaw.row PySem.Challenge.rw_alikeread_k02_rows_are_read).prog [25]) (H := Lawk02.hk) (ob := Lawk02.ob) (M := 4000) (loose := Lawk02.looseN)
    (d := HandSHeadRun.topDef (OpenLaw.row PySem.Challenge.rw_alikeread_k02_rows_are_read).prog 25) (kwd := []) Lawk02.ob_is (by kernel_rfl) (fun s => by kernel_rfl) Lawk02.runs (by kernel_rfl) (by kernel_rfl) (by kernel_rfl) (by rfl) (by first | assumption | decide +kernel) (by decide +kernel)
    ⟨rfl, rfl, rfl, rfl, rfl, by decide +kernel⟩ ?hw ?hc
  case hw => w_witness2
  case hc =>
    refine Al.ends_of (l := PySem.Challenge.rw_alikeread_k02_rows_are_read) (m := 63) (k := 6) (arg := "script") rfl (by decide) (by kernel_rfl) ⟨rfl, by decide, by decide⟩ ?F
    intro w mg f h Y G named
    obtain ⟨K, inK, c⟩ := Y
    have T : Al.Top Lawk02.fs Lawk02.fn K mg := ⟨h, inK, G, c⟩
    have nm : (HandSHeadRun.topDef (OpenLaw.row PySem.Challenge.rw_alikeread_k02_rows_are_read).prog 25).name = ("law" : PySem.Str) := by kernel_rfl
    rw [nm] at named
    have e := named.symm.trans (T.glo 63)
    cases e
    obtain ⟨fd, bd, F⟩ := Lawk02.ok_law (P := (PySem.Challenge.rw_alikeread_k02_rows_are_read).prog) (w := w) T
    exact ⟨K, fd, Lawk02.sp_law K, inK, bd, fun H a ns hl _ hS => ⟨a, ns, rfl, hS, hl, fun _ => rfl⟩, fun base hb hn => F base⟩
