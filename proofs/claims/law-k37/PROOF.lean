import PyProof.Rows.All
import Wide.All
import OpenK.AllK
import Wide.FinOn
import KE.KStateDown
import Lean
import HandS.Base
import HandS.Call
import HandS.List
import HandS.Comp
import HandS.Ends
import HandS.Words
import HandS.WordsList
import HandS.WordsExc
import HandS.Exc
import HandS.ExcOwn
import HandS.ExcIs
import HandS.TryOnly
import HandS.IsInst
import HandS.Iter
import HandS.TupAny
import HandS.TupMul
import HandS.NoneIn
import HandS.Conv
import HandS.Deep
import HandS.Evl
import HandS.Defaults
import HandS.Head0
import HandS.Head1
import HandS.Head2
import HandS.HeadEnd
import HandS.HeadHook1
import HandS.HeadHook2
import KE.KDictKeyed
import PyProof.P3In
import HandS.Style
import HandS.SortInts
import HandS.TupLe
import KE.KDictDisplayH
import PyProof.AssignAttr
import KE.GoesMore
import HandS.TupSets
import HandS.SetFor
import PySem.Challenge.RW_alikeread_k37_pairs_refused
set_option Elab.async false
set_option linter.all false
set_option maxRecDepth 100000
set_option maxHeartbeats 4000000

namespace L2
open PySem Evl


mutual
theorem Dp.mono {K : PySem.W.Frag} {H H' : Hp} (e : Ex H H') : ∀ {v : V} {d : PyData}, Dp K H v d → Dp K H' v d
  | _, _, .non => .non
  | _, _, .bl b => .bl b
  | _, _, .int i => .int i
  | _, _, .str x => .str x
  | _, _, .lst h a => .lst (ex_l e h) (DpAll.mono e a)
  | _, _, .tup h a => .tup (ex_t e h) (DpAll.mono e a)
theorem DpAll.mono {K : PySem.W.Frag} {H H' : Hp} (e : Ex H H') : ∀ {vs : List V} {ds : List PyData}, DpAll K H vs ds → DpAll K H' vs ds
  | _, _, .nil => .nil
  | _, _, .cons h t => .cons (Dp.mono e h) (DpAll.mono e t)
end
mutual

def tupO : PyData → Bool
  | .list _ => false
  | .dict _ => false
  | .tuple ds => tupOA ds
  | _ => true
def tupOA : List PyData → Bool
  | [] => true
  | d :: ds => tupO d && tupOA ds
end

def Tx (H H' : Hp) : Prop := ∀ a xs, Rd H a (.tup xs) → Rd H' a (.tup xs)
theorem _root_.Evl.Ex.tx {H H' : Hp} (e : Ex H H') : Tx H H' := fun _ _ h => ex_rd e h
theorem Tx.refl (H : Hp) : Tx H H := fun _ _ h => h
theorem Tx.trans {H H1 H2 : Hp} (a : Tx H H1) (b : Tx H1 H2) : Tx H H2 := fun x o h => b x o (a x o h)
theorem Tx.lst {H : Hp} {l : Addr} {xs ys : List V} (h : H l = some (.lst xs)) : Tx H (upd H l (.lst ys)) := fun a zs r => by
  rcases r with r | ⟨o, r⟩
  · exact .inl (by rw [upd_ne (ne_of r h (by intro z; cases z))]; exact r)
  · exact .inr ⟨o, by rw [upd_ne (ne_of r h (by intro z; cases z))]; exact r⟩
theorem tx_t {K : PySem.W.Frag} {H H' : Hp} {a : Addr} {xs : List V} (e : Tx H H') (h : SqT K H a xs) : SqT K H' a xs := by
  rcases h with h | h
  · exact .inl (e _ _ h)
  · exact .inr h
mutual
theorem Dp.tx {K : PySem.W.Frag} {H H' : Hp} (e : Tx H H') : ∀ {v : V} {d : PyData}, Dp K H v d → tupO d = true → Dp K H' v d
  | _, _, .non, _ => .non
  | _, _, .bl b, _ => .bl b
  | _, _, .int i, _ => .int i
  | _, _, .str x, _ => .str x
  | _, _, .lst h a, z => by simp [tupO] at z
  | _, _, .tup h a, z => .tup (tx_t e h) (DpAll.tx e a (by simpa [tupO] using z))
theorem DpAll.tx {K : PySem.W.Frag} {H H' : Hp} (e : Tx H H') : ∀ {vs : List V} {ds : List PyData}, DpAll K H vs ds → tupOA ds = true → DpAll K H' vs ds
  | _, _, .nil, _ => .nil
  | _, _, .cons h t, z => .cons (Dp.tx e h (by simp [tupOA] at z; exact z.1)) (DpAll.tx e t (by simp [tupOA] at z; exact z.2))
end
theorem tupOA_append : ∀ (xs ys : List PyData), tupOA (xs ++ ys) = (tupOA xs && tupOA ys)
  | [], ys => by simp [tupOA]
  | x :: xs, ys => by simp [tupOA, tupOA_append xs ys, Bool.and_assoc]
theorem tupOA_iff : ∀ {xs : List PyData}, tupOA xs = true ↔ ∀ x ∈ xs, tupO x = true
  | [] => by simp [tupOA]
  | x :: xs => by simp [tupOA, tupOA_iff (xs := xs)]
theorem map_erase {α β : Type} (f : α → β) : ∀ (l : List α) (j : Nat), (l.map f).eraseIdx j = (l.eraseIdx j).map f
  | [], _ => by simp
  | _ :: _, 0 => by simp
  | x :: l, j + 1 => by simp [map_erase f l j]
theorem tupOA_ints (ns : List Int) : tupOA (ns.map PyData.int) = true := tupOA_iff.mpr fun x hx => by
  obtain ⟨n, _, rfl⟩ := List.mem_map.mp hx
  simp [tupO]
theorem tupOA_bools (ns : List Bool) : tupOA (ns.map PyData.bool) = true := tupOA_iff.mpr fun x hx => by
  obtain ⟨n, _, rfl⟩ := List.mem_map.mp hx
  simp [tupO]


section
variable {K : PySem.W.Frag} {H H' : Hp}
theorem DpAll.length : ∀ {vs : List V} {ds : List PyData}, DpAll K H vs ds → vs.length = ds.length
  | _, _, .nil => rfl
  | _, _, .cons _ t => by simp [DpAll.length t]
theorem DpAll.get : ∀ {vs : List V} {ds : List PyData} {i : Nat} {v : V}, DpAll K H vs ds → vs[i]? = some v → ∃ d, ds[i]? = some d ∧ Dp K H v d
  | _, _, _, _, .nil, e => by simp at e
  | _, _, 0, _, .cons h _, e => by simp at e; subst e; exact ⟨_, rfl, h⟩
  | _, _, i + 1, v, .cons _ t, e => by
    obtain ⟨d, h1, h2⟩ := DpAll.get (i := i) (v := v) t (by simpa using e)
    exact ⟨d, by simpa using h1, h2⟩
theorem DpAll.get' : ∀ {vs : List V} {ds : List PyData} {i : Nat} {d : PyData}, DpAll K H vs ds → ds[i]? = some d → ∃ v, vs[i]? = some v ∧ Dp K H v d
  | _, _, _, _, .nil, e => by simp at e
  | _, _, 0, _, .cons h _, e => by simp at e; subst e; exact ⟨_, rfl, h⟩
  | _, _, i + 1, d, .cons _ t, e => by
    obtain ⟨v, h1, h2⟩ := DpAll.get' (i := i) (d := d) t (by simpa using e)
    exact ⟨v, by simpa using h1, h2⟩
theorem DpAll.append : ∀ {vs ws : List V} {ds es : List PyData}, DpAll K H vs ds → DpAll K H ws es → DpAll K H (vs ++ ws) (ds ++ es)
  | _, _, _, _, .nil, s => s
  | _, _, _, _, .cons h t, s => .cons h (DpAll.append t s)
theorem DpAll.one {v : V} {d : PyData} (h : Dp K H v d) : DpAll K H [v] [d] := .cons h .nil
theorem DpAll.take : ∀ {vs : List V} {ds : List PyData} (n : Nat), DpAll K H vs ds → DpAll K H (vs.take n) (ds.take n)
  | _, _, 0, _ => by simp; exact .nil
  | _, _, n + 1, .nil => by simp; exact .nil
  | _, _, n + 1, .cons h t => by simp; exact .cons h (DpAll.take n t)
theorem DpAll.drop : ∀ {vs : List V} {ds : List PyData} (n : Nat), DpAll K H vs ds → DpAll K H (vs.drop n) (ds.drop n)
  | _, _, 0, h => by simpa using h
  | _, _, n + 1, .nil => by simp; exact .nil
  | _, _, n + 1, .cons h t => by simp; exact DpAll.drop n t
theorem DpAll.set : ∀ {vs : List V} {ds : List PyData} {v : V} {d : PyData} (n : Nat), DpAll K H vs ds → Dp K H v d → DpAll K H (vs.set n v) (ds.set n d)
  | _, _, _, _, _, .nil, _ => by simp; exact .nil
  | _, _, _, _, 0, .cons _ t, q => by simp; exact .cons q t
  | _, _, _, _, n + 1, .cons h t, q => by simp; exact .cons h (DpAll.set n t q)
theorem DpAll.erase : ∀ {vs : List V} {ds : List PyData} (n : Nat), DpAll K H vs ds → DpAll K H (vs.eraseIdx n) (ds.eraseIdx n)
  | _, _, _, .nil => by simp; exact .nil
  | _, _, 0, .cons _ t => by simp; exact t
  | _, _, n + 1, .cons h t => by simp; exact .cons h (DpAll.erase n t)
theorem DpAll.reverse : ∀ {vs : List V} {ds : List PyData}, DpAll K H vs ds → DpAll K H vs.reverse ds.reverse
  | _, _, .nil => by simp; exact .nil
  | _, _, .cons h t => by simp; exact (DpAll.reverse t).append (.one h)
theorem DpAll.ints : ∀ (ns : List Int), DpAll K H (ns.map V.int) (ns.map PyData.int)
  | [] => .nil
  | n :: ns => .cons (.int n) (DpAll.ints ns)
theorem DpAll.bls : ∀ (ns : List Bool), DpAll K H (ns.map V.bl) (ns.map PyData.bool)
  | [] => .nil
  | n :: ns => .cons (.bl n) (DpAll.bls ns)
theorem DpAll.of_ints : ∀ {vs : List V} {ns : List Int}, DpAll K H vs (ns.map PyData.int) → vs = ns.map V.int
  | _, [], .nil => rfl
  | _, n :: ns, .cons h t => by cases h; rw [DpAll.of_ints t]; rfl
theorem DpAll.of_bls : ∀ {vs : List V} {ns : List Bool}, DpAll K H vs (ns.map PyData.bool) → vs = ns.map V.bl
  | _, [], .nil => rfl
  | _, n :: ns, .cons h t => by cases h; rw [DpAll.of_bls t]; rfl
theorem DpAll.rep {v : V} {d : PyData} (h : Dp K H v d) : ∀ n, DpAll K H (List.replicate n v) (List.replicate n d)
  | 0 => by simp; exact .nil
  | n + 1 => by simp [List.replicate_succ]; exact .cons h (DpAll.rep h n)
theorem Dp.list_inv {v : V} {ds : List PyData} (h : Dp K H v (.list ds)) : ∃ a xs, v = .ref a ∧ SqL K H a xs ∧ DpAll K H xs ds := by
  cases h with
  | lst h a => exact ⟨_, _, rfl, h, a⟩
theorem Dp.tup_inv {v : V} {ds : List PyData} (h : Dp K H v (.tuple ds)) : ∃ a xs, v = .ref a ∧ SqT K H a xs ∧ DpAll K H xs ds := by
  cases h with
  | tup h a => exact ⟨_, _, rfl, h, a⟩
theorem Dp.int_inv {v : V} {i : Int} (h : Dp K H v (.int i)) : v = .int i := by cases h; rfl
theorem Dp.bl_inv {v : V} {b : Bool} (h : Dp K H v (.bool b)) : v = .bl b := by cases h; rfl
theorem Dp.str_inv {v : V} {b : Str} (h : Dp K H v (.str b)) : v = .str b := by cases h; rfl
theorem Dp.non_inv {v : V} (h : Dp K H v .none) : v = .non := by cases h; rfl
theorem Dp.tupI {a : Addr} {ns : List Int} (h : SqT K H a (ns.map V.int)) : Dp K H (.ref a) (.tuple (ns.map .int)) := .tup h (DpAll.ints ns)
end

end L2
namespace Al
open PySem L2 Evl
theorem szm {n : Nat} (h : n ≤ 1000000) : n ≤ sizeLine := Nat.le_trans h (by decide)
theorem szx {n : Nat} (h : n ≤ 16000000) : n ≤ sizeLine := Nat.le_trans h (by decide)
theorem szl {n : Nat} (h : n < 1000000) : n < sizeLine := Nat.lt_of_lt_of_le h (by decide)


inductive Av where
  | d (x : PyData)
  | v (x : V)
  | p (P : V → Hp → Prop) (mono : ∀ v H H', Ex H H' → P v H → P v H')
def Rl (K : PySem.W.Frag) (H : Hp) (v : V) : Av → Prop
  | .d x => Dp K H v x
  | .v w => v = w
  | .p P _ => P v H
theorem Rl.mono {K : PySem.W.Frag} {H H' : Hp} (e : Ex H H') {v : V} : ∀ {a : Av}, Rl K H v a → Rl K H' v a
  | .d _, h => Dp.mono e h
  | .v _, h => h
  | .p _ m, h => m _ _ _ e h
def Eg (K : PySem.W.Frag) (te : TE) (σ : L2.St) (H : Hp) (a : Av) : Prop := ∀ H1, Ex H H1 → ∀ Q : VK, (∀ v H2, Ex H1 H2 → Rl K H2 v a → Q v H2) → te σ H1 Q
abbrev Ed (K : PySem.W.Frag) (te : TE) (σ : L2.St) (H : Hp) (d : PyData) : Prop := Eg K te σ H (.d d)
abbrev Ei (K : PySem.W.Frag) (te : TE) (σ : L2.St) (H : Hp) (n : Int) : Prop := Ed K te σ H (.int n)
abbrev Eb (K : PySem.W.Frag) (te : TE) (σ : L2.St) (H : Hp) (n : Bool) : Prop := Ed K te σ H (.bool n)

def En (K : PySem.W.Frag) (te : TE) (σ : L2.St) (H : Hp) (ds : List PyData) : Prop := ∀ H1, Ex H H1 → ∀ Q : VK, (∀ p xs H2, H1 p = none → Ex H1 H2 → H2 p = some (.lst xs) → DpAll K H2 xs ds → Q (.ref p) H2) → te σ H1 Q
def RlA (K : PySem.W.Frag) (H : Hp) : List V → List Av → Prop
  | [], [] => True
  | v :: vs, a :: as => Rl K H v a ∧ RlA K H vs as
  | _, _ => False
theorem RlA.mono {K : PySem.W.Frag} {H H' : Hp} (e : Ex H H') : ∀ {vs : List V} {as : List Av}, RlA K H vs as → RlA K H' vs as
  | [], [], h => h
  | _ :: _, _ :: _, h => ⟨Rl.mono e h.1, RlA.mono e h.2⟩
  | [], _ :: _, h => h
  | _ :: _, [], h => h
def Ea (K : PySem.W.Frag) (ta : TA) (σ : L2.St) (H : Hp) (as : List Av) : Prop := ∀ H1, Ex H H1 → ∀ Q : List V → Hp → Prop, (∀ vs H2, Ex H1 H2 → RlA K H2 vs as → Q vs H2) → ta σ H1 Q
theorem RlA.ds {K : PySem.W.Frag} {H : Hp} : ∀ {vs : List V} {ds : List PyData}, RlA K H vs (ds.map Av.d) → DpAll K H vs ds
  | [], [], _ => .nil
  | _ :: _, _ :: _, h => .cons h.1 (RlA.ds h.2)
  | [], _ :: _, h => h.elim
  | _ :: _, [], h => h.elim

section
variable {K : PySem.W.Frag} {σ : L2.St} {H H' : Hp} {ta tb tc te : TE} {t u : TT} {d e : PyData} {a b : Av} {n m : Int} {x y z v : V}
theorem Eg.mono (e : Ex H H') (h : Eg K te σ H a) : Eg K te σ H' a := fun H1 a Q q => h H1 (e.trans a) Q q
theorem En.mono {ds : List PyData} (e : Ex H H') (h : En K te σ H ds) : En K te σ H' ds := fun H1 a Q q => h H1 (e.trans a) Q q
theorem Ea.mono {ta : TA} {as : List Av} (e : Ex H H') (h : Ea K ta σ H as) : Ea K ta σ H' as := fun H1 a Q q => h H1 (e.trans a) Q q
theorem _root_.Evl.EvT.up {b : Bool} (e : Ex H H') (h : EvT t σ H b) : EvT t σ H' b := fun H1 a Q q => h H1 (e.trans a) Q q
theorem En.eg {ds : List PyData} (h : En K te σ H ds) : Ed K te σ H (.list ds) := fun H1 e Q q => h H1 e Q fun p xs H2 _ e2 hp hd => q _ _ e2 (.lst (sq_of hp) hd)
theorem eg_is {a b : Av} (h : Eg K te σ H a) (e : a = b) : Eg K te σ H b := e ▸ h
theorem ed_is {d e : PyData} (h : Ed K te σ H d) (q : d = e) : Ed K te σ H e := q ▸ h
theorem ei_is {n m : Int} (h : Ei K te σ H n) (q : n = m) : Ei K te σ H m := q ▸ h
theorem eb_is {n m : Bool} (h : Eb K te σ H n) (q : n = m) : Eb K te σ H m := q ▸ h
theorem et_is' {n m : Bool} (h : EvT t σ H n) (q : n = m) : EvT t σ H m := q ▸ h
theorem Eg.of (h : Eg K te σ H (.v x)) (r : Rl K H x a) : Eg K te σ H a := fun H1 e Q q => h H1 e _ fun v H2 e2 r2 => q v H2 e2 (by
  have e3 : v = x := r2
  rw [e3]
  exact r.mono (e.trans e2))

theorem eg_var {i : Nat} (h : σ[i]? = some (some x)) (r : Rl K H x a) : Eg K (tVar i) σ H a := fun H1 e _ q => ⟨x, h, q x H1 (Ex.refl H1) (r.mono e)⟩
theorem eg_varv {i : Nat} (h : σ[i]? = some (some x)) : Eg K (tVar i) σ H (.v x) := eg_var h rfl
theorem eg_vard {i : Nat} (h : σ[i]? = some (some x)) (r : Dp K H x d) : Ed K (tVar i) σ H d := eg_var h r
theorem eg_c (r : Rl K H x a) : Eg K (tC x) σ H a := fun H1 e _ q => q x H1 (Ex.refl H1) (r.mono e)
theorem ed_int : Ei K (tC (.int n)) σ H n := eg_c (Dp.int n)
theorem ed_bl {k : Bool} : Eb K (tC (.bl k)) σ H k := eg_c (Dp.bl k)
theorem ed_str {k : Str} : Ed K (tC (.str k)) σ H (.str k) := eg_c (Dp.str k)
theorem ed_non : Ed K (tC .non) σ H .none := eg_c Dp.non

theorem ea_nil : Ea K tNil σ H [] := fun H1 _ _ q => q [] H1 (Ex.refl H1) trivial
theorem ea_cons {tr : TA} {as : List Av} (h : Eg K te σ H a) (hr : Ea K tr σ H as) : Ea K (tCons te tr) σ H (a :: as) := fun H1 e _ q =>
  h H1 e _ fun v H2 e2 r => hr H2 (e.trans e2) _ fun vs H3 e3 rs => q (v :: vs) H3 (e2.trans e3) ⟨r.mono e3, rs⟩
theorem ea_consD {tr : TA} {as : List Av} (h : Ed K te σ H d) (hr : Ea K tr σ H as) : Ea K (tCons te tr) σ H (.d d :: as) := ea_cons h hr

theorem ed_tup {ta : TA} {ds : List PyData} (h : Ea K ta σ H (ds.map Av.d)) (hl : ds.length ≤ 1000000 := by simp) : Ed K (tTup ta) σ H (.tuple ds) := fun H1 e _ q =>
  h H1 e _ fun vs H2 e2 r => ⟨szm (by rw [r.ds.length]; exact hl), fun p hp => q _ _ (e2.trans (Ex.new hp)) (.tup (st_of upd_same) (DpAll.mono (Ex.new hp) r.ds))⟩
theorem en_lst {ta : TA} {ds : List PyData} (h : Ea K ta σ H (ds.map Av.d)) (hl : ds.length ≤ 1000000 := by simp) : En K (tLst ta) σ H ds := fun H1 e _ q =>
  h H1 e _ fun vs H2 e2 r => ⟨szm (by rw [r.ds.length]; exact hl), fun p hp => q p vs _ (fresh_back e2 hp) (e2.trans (Ex.new hp)) upd_same (DpAll.mono (Ex.new hp) r.ds)⟩
end

theorem bt_isinstance : bootBuiltins "isinstance" = some (.builtin "isinstance") := by decide +kernel
theorem bt_len : bootBuiltins "len" = some (.builtin "len") := by decide +kernel
theorem bt_all : bootBuiltins "all" = some (.builtin "all") := by decide +kernel
theorem bt_any : bootBuiltins "any" = some (.builtin "any") := by decide +kernel
theorem bt_sum : bootBuiltins "sum" = some (.builtin "sum") := by decide +kernel
theorem bt_abs : bootBuiltins "abs" = some (.builtin "abs") := by decide +kernel
theorem bt_max : bootBuiltins "max" = some (.builtin "max") := by decide +kernel
theorem bt_min : bootBuiltins "min" = some (.builtin "min") := by decide +kernel
theorem bt_sorted : bootBuiltins "sorted" = some (.builtin "sorted") := by decide +kernel
theorem bt_int : bootBuiltins "int" = some (.type "int") := by decide +kernel
theorem bt_bool : bootBuiltins "bool" = some (.type "bool") := by decide +kernel
theorem bt_str : bootBuiltins "str" = some (.type "str") := by decide +kernel
theorem bt_list : bootBuiltins "list" = some (.type "list") := by decide +kernel
theorem bt_tuple : bootBuiltins "tuple" = some (.type "tuple") := by decide +kernel
theorem bt_dict : bootBuiltins "dict" = some (.type "dict") := by decide +kernel
theorem bt_set : bootBuiltins "set" = some (.type "set") := by decide +kernel
theorem bt_range : bootBuiltins "range" = some (.type "range") := by decide +kernel
theorem bt_zip : bootBuiltins "zip" = some (.type "zip") := by decide +kernel
theorem bt_enumerate : bootBuiltins "enumerate" = some (.type "enumerate") := by decide +kernel
theorem bt_reversed : bootBuiltins "reversed" = some (.type "reversed") := by decide +kernel
theorem bt_type : bootBuiltins "type" = some (.type "type") := by decide +kernel

theorem ed_tupE {K : PySem.W.Frag} {σ : L2.St} {H : Hp} {ta : TA} {as : List Av} {ds : List PyData} (h : Ea K ta σ H as) (hd : as = ds.map Av.d) (hl : ds.length ≤ 1000000) : Ed K (tTup ta) σ H (.tuple ds) := ed_tup (hd ▸ h) hl
theorem en_lstE {K : PySem.W.Frag} {σ : L2.St} {H : Hp} {ta : TA} {as : List Av} {ds : List PyData} (h : Ea K ta σ H as) (hd : as = ds.map Av.d) (hl : ds.length ≤ 1000000) : En K (tLst ta) σ H ds := en_lst (hd ▸ h) hl

def EaD (K : PySem.W.Frag) (ta : TA) (σ : L2.St) (H : Hp) (ds : List PyData) : Prop := Ea K ta σ H (ds.map Av.d)
section
variable {K : PySem.W.Frag} {σ : L2.St} {H : Hp} {ta : TA} {te : TE} {ds : List PyData} {d : PyData}
theorem ead_nil : EaD K tNil σ H [] := ea_nil
theorem ead_cons {tr : TA} (h : Ed K te σ H d) (hr : EaD K tr σ H ds) : EaD K (tCons te tr) σ H (d :: ds) := ea_cons h hr
theorem ed_tupD (h : EaD K ta σ H ds) (hl : ds.length ≤ 1000000 := by simp) : Ed K (tTup ta) σ H (.tuple ds) := ed_tup h hl
theorem en_lstD (h : EaD K ta σ H ds) (hl : ds.length ≤ 1000000 := by simp) : En K (tLst ta) σ H ds := en_lst h hl
end

def El (K : PySem.W.Frag) (te : TE) (σ : L2.St) (H : Hp) (ds : List PyData) : Prop := ∀ H1, Ex H H1 → ∀ Q : VK, (∀ p xs H2, Ex H1 H2 → H2 p = some (.lst xs) → DpAll K H2 xs ds → Q (.ref p) H2) → te σ H1 Q
section
variable {K : PySem.W.Frag} {σ : L2.St} {H H' : Hp} {ta tb tc te : TE} {t u : TT} {d e : PyData} {a b : Av} {n m : Int} {x y z v : V} {ds es : List PyData}
theorem El.mono (e : Ex H H') (h : El K te σ H ds) : El K te σ H' ds := fun H1 a Q q => h H1 (e.trans a) Q q
theorem El.ed (h : El K te σ H ds) : Ed K te σ H (.list ds) := fun H1 e Q q => h H1 e Q fun p xs H2 e2 hp hd => q _ _ e2 (.lst (sq_of hp) hd)
theorem En.el (h : En K te σ H ds) : El K te σ H ds := fun H1 e Q q => h H1 e Q fun p xs H2 _ e2 hp hd => q p xs H2 e2 hp hd
theorem el_var {i : Nat} {p : Addr} {xs : List V} (h : σ[i]? = some (some (.ref p))) (hp : H p = some (.lst xs)) (hd : DpAll K H xs ds) : El K (tVar i) σ H ds := fun H1 e _ q => ⟨_, h, q p xs H1 (Ex.refl H1) (e _ _ hp) (DpAll.mono e hd)⟩
theorem en_is {ds es : List PyData} (h : En K te σ H ds) (q : ds = es) : En K te σ H es := q ▸ h


theorem ed_op {r : R2} (ha : Eg K ta σ H a) (hb : Eg K tb σ H b) (hr : ∀ x y H1, Ex H H1 → Rl K H1 x a → Rl K H1 y b → ∀ Q : VK, (∀ v H2, Ex H1 H2 → Dp K H2 v d → Q v H2) → r x y H1 Q) : Ed K (tOp r ta tb) σ H d := fun H1 e Q q =>
  ha H1 e _ fun x H2 e2 rx => hb H2 (e.trans e2) _ fun y H3 e3 ry => hr x y H3 ((e.trans e2).trans e3) (rx.mono e3) ry Q fun v H4 e4 hv => q v H4 ((e2.trans e3).trans e4) hv

theorem ei_I0 {g : Int → Int → Int} (ha : Ei K ta σ H n) (hb : Ei K tb σ H m) : Ei K (tOp (rI0 fun i j => .int (g i j)) ta tb) σ H (g n m) := ed_op ha hb fun x y H1 _ hx hy Q q => by
  cases Dp.int_inv hx
  cases Dp.int_inv hy
  exact ⟨n, m, rfl, rfl, q _ H1 (Ex.refl H1) (.int _)⟩
theorem ei_I {C : Int → Int → Prop} {g : Int → Int → Int} (ha : Ei K ta σ H n) (hb : Ei K tb σ H m) (hc : C n m) : Ei K (tOp (rI C fun i j => .int (g i j)) ta tb) σ H (g n m) := ed_op ha hb fun x y H1 _ hx hy Q q => by
  cases Dp.int_inv hx
  cases Dp.int_inv hy
  exact ⟨n, m, rfl, rfl, hc, q _ H1 (Ex.refl H1) (.int _)⟩
theorem eb_I0 {g : Int → Int → Bool} (ha : Ei K ta σ H n) (hb : Ei K tb σ H m) : Eb K (tOp (rI0 fun i j => .bl (g i j)) ta tb) σ H (g n m) := ed_op ha hb fun x y H1 _ hx hy Q q => by
  cases Dp.int_inv hx
  cases Dp.int_inv hy
  exact ⟨n, m, rfl, rfl, q _ H1 (Ex.refl H1) (.bl _)⟩
end

def rAddS : R2 := fun x y H Q => ∃ i j, x = .str i ∧ y = .str j ∧ i.length + j.length ≤ sizeLine ∧ Q (.str (i ++ j)) H
def rAddI : R2 := rI0 fun i j => .int (i + j)
def rSubI : R2 := rI0 fun i j => .int (i - j)
def rMulI : R2 := rI CMul fun i j => .int (i * j)
def rDivI : R2 := rI CDiv fun i j => .int (i / j)
def rModI : R2 := rI (fun _ j => 0 < j) fun i j => .int (i % j)
def rPowI : R2 := rI CPow fun i j => .int (i ^ j.toNat)
def rLtI : R2 := rI0 fun i j => .bl (decide (i < j))
def rLeI : R2 := rI0 fun i j => .bl (decide (i ≤ j))
def rGtI : R2 := rI0 fun i j => .bl (decide (j < i))
def rGeI : R2 := rI0 fun i j => .bl (decide (j ≤ i))
def rIsN : R2 := fun x y H Q => y = .non ∧ Q (.bl (decide (x = .non))) H
def rNotN : R2 := fun x y H Q => y = .non ∧ Q (.bl (!decide (x = .non))) H
section
variable {X : Cx}
theorem op_addI : OpR X (binaryOp .Add) rAddI := op_add
theorem op_subI : OpR X (binaryOp .Sub) rSubI := op_sub
theorem op_mulI : OpR X (binaryOp .Mult) rMulI := op_mul
theorem op_divI : OpR X (binaryOp .FloorDiv) rDivI := op_fdiv
theorem op_modI : OpR X (binaryOp .Mod) rModI := op_mod
theorem op_powI : OpR X (binaryOp .Pow) rPowI := op_pow
theorem op_ltI : OpR X (compareOp .Lt) rLtI := op_lt
theorem op_leI : OpR X (compareOp .LtE) rLeI := op_le
theorem op_gtI : OpR X (compareOp .Gt) rGtI := op_gt
theorem op_geI : OpR X (compareOp .GtE) rGeI := op_ge
theorem op_isNo : OpR X (compareOp .Is) rIsN := op_isN
theorem op_notNo : OpR X (compareOp .IsNot) rNotN := op_notN
theorem op_addS : OpR X (binaryOp .Add) rAddS := op_add_str
end
section
variable {K : PySem.W.Frag} {σ : L2.St} {H H' : Hp} {ta tb tc te : TE} {t u : TT} {d e : PyData} {a b : Av} {n m : Int} {x y z v : V} {ds es : List PyData}
theorem ei_add (ha : Ei K ta σ H n) (hb : Ei K tb σ H m) : Ei K (tOp rAddI ta tb) σ H (n + m) := ei_I0 ha hb
theorem ei_sub (ha : Ei K ta σ H n) (hb : Ei K tb σ H m) : Ei K (tOp rSubI ta tb) σ H (n - m) := ei_I0 ha hb
theorem ei_mul (ha : Ei K ta σ H n) (hb : Ei K tb σ H m) (hc : CMul n m) : Ei K (tOp rMulI ta tb) σ H (n * m) := ei_I ha hb hc
theorem ei_div (ha : Ei K ta σ H n) (hb : Ei K tb σ H m) (hc : 0 < m ∧ m < 1073741824) : Ei K (tOp rDivI ta tb) σ H (n / m) := ei_I (C := CDiv) ha hb hc
theorem ei_mod (ha : Ei K ta σ H n) (hb : Ei K tb σ H m) (hc : 0 < m) : Ei K (tOp rModI ta tb) σ H (n % m) := ei_I (C := fun _ j => 0 < j) ha hb hc
theorem ei_pow (ha : Ei K ta σ H n) (hb : Ei K tb σ H m) (hc : CPow n m) : Ei K (tOp rPowI ta tb) σ H (n ^ m.toNat) := ei_I (C := CPow) ha hb hc
theorem eb_lt (ha : Ei K ta σ H n) (hb : Ei K tb σ H m) : Eb K (tOp rLtI ta tb) σ H (decide (n < m)) := eb_I0 (g := fun i j => decide (i < j)) ha hb
theorem eb_le (ha : Ei K ta σ H n) (hb : Ei K tb σ H m) : Eb K (tOp rLeI ta tb) σ H (decide (n ≤ m)) := eb_I0 (g := fun i j => decide (i ≤ j)) ha hb
theorem eb_gt (ha : Ei K ta σ H n) (hb : Ei K tb σ H m) : Eb K (tOp rGtI ta tb) σ H (decide (m < n)) := eb_I0 (g := fun i j => decide (j < i)) ha hb
theorem eb_ge (ha : Ei K ta σ H n) (hb : Ei K tb σ H m) : Eb K (tOp rGeI ta tb) σ H (decide (m ≤ n)) := eb_I0 (g := fun i j => decide (j ≤ i)) ha hb
theorem ei_neg (ha : Ei K ta σ H n) : Ei K (tUn (rU fun i => .int (-i)) ta) σ H (-n) := fun H1 e Q q => ha H1 e _ fun x H2 e2 hx => by
  cases Dp.int_inv hx
  exact ⟨n, rfl, q _ H2 e2 (.int _)⟩

def okD (d : PyData) : Prop := SeqAt.shaped d = true
theorem eb_eq (ha : Ed K ta σ H d) (hb : Ed K tb σ H e) (h1 : okD d) (h2 : okD e) : Eb K (tOp (rEqD K) ta tb) σ H (PyData.eqv d e) := ed_op ha hb fun x y H1 _ hx hy Q q =>
  ⟨d, e, hx, hy, h1, h2, q _ H1 (Ex.refl H1) (.bl _)⟩
theorem eb_ne (ha : Ed K ta σ H d) (hb : Ed K tb σ H e) (h1 : okD d) (h2 : okD e) : Eb K (tOp (rNeD K) ta tb) σ H (!PyData.eqv d e) := ed_op ha hb fun x y H1 _ hx hy Q q =>
  ⟨d, e, hx, hy, h1, h2, q _ H1 (Ex.refl H1) (.bl _)⟩
def isNo : PyData → Bool
  | .none => true
  | _ => false
theorem Dp.isNo {K : PySem.W.Frag} {H : Hp} {v : V} {d : PyData} (h : Dp K H v d) : decide (v = .non) = isNo d := by
  cases h <;> simp [Al.isNo]
theorem eb_isN (ha : Ed K ta σ H d) : Eb K (tOp rIsN ta (tC .non)) σ H (isNo d) := fun H1 e Q q => ha H1 e _ fun x H2 e2 hx => ⟨rfl, q _ H2 e2 (by rw [Dp.isNo hx]; exact .bl _)⟩
theorem eb_notN (ha : Ed K ta σ H d) : Eb K (tOp rNotN ta (tC .non)) σ H (!isNo d) := fun H1 e Q q => ha H1 e _ fun x H2 e2 hx => ⟨rfl, q _ H2 e2 (by rw [Dp.isNo hx]; exact .bl _)⟩
theorem eb_isNv (ha : Eg K ta σ H (.v x)) : Eb K (tOp rIsN ta (tC .non)) σ H (decide (x = .non)) := fun H1 e Q q => ha H1 e _ fun y H2 e2 hx => ⟨rfl, q _ H2 e2 (by cases hx; exact .bl _)⟩
theorem eb_notNv (ha : Eg K ta σ H (.v x)) : Eb K (tOp rNotN ta (tC .non)) σ H (!decide (x = .non)) := fun H1 e Q q => ha H1 e _ fun y H2 e2 hx => ⟨rfl, q _ H2 e2 (by cases hx; exact .bl _)⟩

theorem eb_chain {g g' : Int → Int → Bool} {k : Int} (ha : Ei K ta σ H n) (hb : Ei K tb σ H m) (hc : Ei K tc σ H k) : Eb K (tChain (rI0 fun i j => .bl (g i j)) (rI0 fun i j => .bl (g' i j)) ta tb tc) σ H (g n m && g' m k) := fun H1 e Q q =>
  ha H1 e _ fun x H2 e2 hx => hb H2 (e.trans e2) _ fun y H3 e3 hy => by
    cases Dp.int_inv hx
    cases Dp.int_inv hy
    refine ⟨n, m, rfl, rfl, g n m, rfl, ?_⟩
    cases hg : g n m with
    | true =>
      show tc σ H3 _
      refine hc H3 ((e.trans e2).trans e3) _ fun z H4 e4 hz => ?_
      cases Dp.int_inv hz
      exact ⟨m, k, rfl, rfl, q _ H4 ((e2.trans e3).trans e4) (by show Dp K H4 (V.bl (g' m k)) (.bool (g n m && g' m k)); rw [hg]; exact .bl _)⟩
    | false =>
      show Q (.bl false) H3
      exact q _ H3 (e2.trans e3) (by show Dp K H3 (V.bl false) (.bool (g n m && g' m k)); rw [hg]; exact .bl _)
theorem eb_chLeLe {k : Int} (ha : Ei K ta σ H n) (hb : Ei K tb σ H m) (hc : Ei K tc σ H k) : Eb K (tChain rLeI rLeI ta tb tc) σ H (decide (n ≤ m) && decide (m ≤ k)) := eb_chain (g := fun i j => decide (i ≤ j)) (g' := fun i j => decide (i ≤ j)) ha hb hc

theorem eb_and {k l : Bool} (h1 : Eb K ta σ H k) (h2 : k = true → Eb K tb σ H l) : Eb K (tAndV ta tb) σ H (k && l) := fun H1 e Q q => h1 H1 e _ fun x H2 e2 hx => by
  cases Dp.bl_inv hx
  refine ⟨k, rfl, ?_⟩
  cases k with
  | true => exact h2 rfl H2 (e.trans e2) Q fun v H3 e3 hv => q v H3 (e2.trans e3) hv
  | false => exact q _ H2 e2 (.bl _)
theorem eb_or {k l : Bool} (h1 : Eb K ta σ H k) (h2 : k = false → Eb K tb σ H l) : Eb K (tOrV ta tb) σ H (k || l) := fun H1 e Q q => h1 H1 e _ fun x H2 e2 hx => by
  cases Dp.bl_inv hx
  refine ⟨k, rfl, ?_⟩
  cases k with
  | false => exact h2 rfl H2 (e.trans e2) Q fun v H3 e3 hv => q v H3 (e2.trans e3) hv
  | true => exact q _ H2 e2 (.bl _)
theorem eb_not {k : Bool} (h1 : Eb K ta σ H k) : Eb K (tNotV ta) σ H (!k) := fun H1 e Q q => h1 H1 e _ fun x H2 e2 hx => by
  cases Dp.bl_inv hx
  exact ⟨k, rfl, q _ H2 e2 (.bl _)⟩
theorem eg_if {k : Bool} (h : EvT t σ H k) (h1 : k = true → Eg K ta σ H a) (h2 : k = false → Eg K tb σ H a) : Eg K (tIf t ta tb) σ H a := fun H1 e Q q => h H1 e _ fun H2 e2 => by
  cases k with
  | true => exact h1 rfl H2 (e.trans e2) Q fun v H3 e3 hv => q v H3 (e2.trans e3) hv
  | false => exact h2 rfl H2 (e.trans e2) Q fun v H3 e3 hv => q v H3 (e2.trans e3) hv

theorem et_tst {k : Bool} (h : Eb K te σ H k) : EvT (tTest te) σ H k := fun H1 e _ q => h H1 e _ fun v H2 e2 hv => by
  cases Dp.bl_inv hv
  exact ⟨k, rfl, q H2 e2⟩
theorem et_b {k : Bool} (h : Eb K te σ H k) : EvT (tB te) σ H k := fun H1 e _ q => h H1 e _ fun v H2 e2 hv => by
  cases Dp.bl_inv hv
  exact ⟨k, rfl, q H2 e2⟩
def tTru (K : PySem.W.Frag) (ta : TE) : TT := fun σ H Q => ta σ H fun x H' => ∃ k, TruV K x H' k ∧ Q k H'
theorem pt_tru {X : Cx} {e : Expr} {te : TE} (ha : PE X e te) (he : ∀ whole, isTrue e X.env whole = (do let v ← whole; standAt e.pos; holding [v] (truthy v)) := by intro _; rfl) : PT X e (tTru X.K te) := pt_truth ha he
def truD : PyData → Bool
  | .none => false
  | .bool b => b
  | .int i => i != 0
  | .str s => (s.length : Int) != 0
  | .list xs => !xs.isEmpty
  | .tuple xs => !xs.isEmpty
  | .dict _ => false
theorem DpAll.isEmpty {xs : List V} (h : DpAll K H xs ds) : xs.isEmpty = ds.isEmpty := by cases h <;> rfl
theorem Dp.tru {x : V} (h : Dp K H x d) (hs : ∀ s, d = .str s → s.length ≤ sizeLine) : TruV K x H (truD d) := by
  cases h with
  | non => rfl
  | bl b => rfl
  | int i => rfl
  | str s => exact ⟨hs s rfl, rfl⟩
  | lst h a => exact .inl ⟨_, h, by rw [DpAll.isEmpty a]; rfl⟩
  | tup h a => exact .inr (.inl ⟨_, h, by rw [DpAll.isEmpty a]; rfl⟩)
theorem et_tru (h : Ed K te σ H d) (hs : ∀ s, d = .str s → s.length ≤ sizeLine := by intro _ z; cases z) : EvT (tTru K te) σ H (truD d) := fun H1 e _ q => h H1 e _ fun v H2 e2 hv => ⟨_, Dp.tru hv hs, q H2 e2⟩
theorem et_trub {k : Bool} (h : Eb K te σ H k) : EvT (tTru K te) σ H k := et_tru h
theorem et_trui (h : Ei K te σ H n) : EvT (tTru K te) σ H (n != 0) := et_tru h
end


section
variable {K : PySem.W.Frag} {σ : L2.St} {H H' : Hp} {ta tb tc te : TE} {t u : TT} {d e : PyData} {a b : Av} {n m : Int} {x y z v : V} {ds es : List PyData}
theorem DpAll.at' {xs : List V} (h : DpAll K H xs ds) (hi : atI ds n = some d) : ∃ v, atI xs n = some v ∧ Dp K H v d := by
  unfold atI at hi ⊢
  rw [L2.DpAll.length h]
  cases e : ixN ds.length n with
  | none => rw [e] at hi; cases hi
  | some j =>
    rw [e] at hi
    exact L2.DpAll.get' h (show ds[j]? = some d from hi)

theorem ed_ixL (ha : Ed K ta σ H (.list ds)) (hb : Ei K tb σ H n) (hi : atI ds n = some d) : Ed K (tOp (rIx K) ta tb) σ H d := ed_op ha hb fun x y H1 _ hx hy Q q => by
  obtain ⟨p, xs, rfl, hs, hd⟩ := Dp.list_inv hx
  cases Dp.int_inv hy
  obtain ⟨v, h1, h2⟩ := DpAll.at' hd hi
  exact .inl ⟨p, xs, n, v, rfl, rfl, hs, h1, q v H1 (Ex.refl H1) h2⟩
theorem ed_ixT (ha : Ed K ta σ H (.tuple ds)) (hb : Ei K tb σ H n) (hi : atI ds n = some d) : Ed K (tOp (rIx K) ta tb) σ H d := ed_op ha hb fun x y H1 _ hx hy Q q => by
  obtain ⟨p, xs, rfl, hs, hd⟩ := Dp.tup_inv hx
  cases Dp.int_inv hy
  obtain ⟨v, h1, h2⟩ := DpAll.at' hd hi
  exact .inr (.inl ⟨p, xs, n, v, rfl, rfl, hs, h1, q v H1 (Ex.refl H1) h2⟩)

theorem eg_ixV {p : Addr} {xs : List V} (ha : Eg K ta σ H (.v (.ref p))) (hs : SqL K H p xs) (hb : Ei K tb σ H n) (hi : atI xs n = some x) (r : Rl K H x a) : Eg K (tOp (rIx K) ta tb) σ H a := fun H1 e Q q =>
  ha H1 e _ fun y H2 e2 hy => hb H2 (e.trans e2) _ fun z H3 e3 hz => by
    cases hy
    cases Dp.int_inv hz
    exact .inl ⟨p, xs, n, x, rfl, rfl, ex_l ((e.trans e2).trans e3) hs, hi, q x H3 (e2.trans e3) (r.mono ((e.trans e2).trans e3))⟩
theorem atI_ofNat {α : Type} {xs : List α} {j : Nat} {v : α} (h : xs[j]? = some v) : atI xs (j : Int) = some v := atI_nat h
theorem atI_of {α : Type} {xs : List α} {i : Int} {v : α} (h0 : 0 ≤ i) (h : xs[i.toNat]? = some v) : atI xs i = some v := by
  have e : i = ((i.toNat : Nat) : Int) := by omega
  rw [e]
  exact atI_nat h
theorem atI_end {α : Type} {xs : List α} {v : α} (h : xs[xs.length - 1]? = some v) : atI xs (-1) = some v := by
  have hl : xs.length - 1 < xs.length := (List.getElem?_eq_some_iff.mp h).1
  unfold atI ixN
  rw [if_neg (by omega), if_pos (by omega)]
  show xs[(-1 + (xs.length : Int)).toNat]? = some v
  rw [show (-1 + (xs.length : Int)).toNat = xs.length - 1 by omega]
  exact h

def rSlU (K : PySem.W.Frag) : V → Option Int → Option Int → Hp → VK → Prop := fun x lo hi H Q => rSlL K x lo hi H Q ∨ rSlA K x lo hi H Q
theorem sl_uni {X : Cx} : SlR X (rSlU X.K) := sl_list.or sl_tupA
def cutX (xs : List PyData) (lo hi : Option Int) : List PyData := (xs.drop (HT.sIx xs.length 0 lo)).take (HT.sIx xs.length xs.length hi - HT.sIx xs.length 0 lo)
theorem DpAll.cut {xs : List V} (h : DpAll K H xs ds) (lo hi : Option Int) : DpAll K H (cutV xs lo hi) (cutX ds lo hi) := by
  unfold cutV cutX
  rw [L2.DpAll.length h]
  exact L2.DpAll.take _ (L2.DpAll.drop _ h)

def Eo (K : PySem.W.Frag) (to : TO) (σ : L2.St) (H : Hp) (o : Option Int) : Prop := ∀ H1, Ex H H1 → ∀ Q : Option Int → Hp → Prop, (∀ H2, Ex H1 H2 → Q o H2) → to σ H1 Q
theorem eo_no : Eo K tNoPart σ H none := fun H1 _ _ q => q H1 (Ex.refl H1)
theorem eo_so (h : Ei K te σ H n) : Eo K (tPart te) σ H (some n) := fun H1 e _ q => h H1 e _ fun v H2 e2 hv => ⟨n, Dp.int_inv hv, q H2 e2⟩
theorem en_sl {tl th : TO} {lo hi : Option Int} (h : Ed K te σ H (.list ds)) (h1 : Eo K tl σ H lo) (h2 : Eo K th σ H hi) : En K (tSl (rSlU K) te tl th) σ H (cutX ds lo hi) := fun H1 e Q q =>
  h H1 e _ fun v H2 e2 hv => h1 H2 (e.trans e2) _ fun H3 e3 => h2 H3 ((e.trans e2).trans e3) _ fun H4 e4 => by
    obtain ⟨p, xs, rfl, hs, hd⟩ := Dp.list_inv (hv.mono (e3.trans e4))
    exact .inl ⟨p, xs, rfl, hs, fun l hl => q l _ _ (fresh_back ((e2.trans e3).trans e4) hl) (((e2.trans e3).trans e4).trans (Ex.new hl)) upd_same (DpAll.mono (Ex.new hl) (DpAll.cut hd lo hi))⟩
theorem cutX_all {xs : List PyData} {lo hi : Option Int} (h : HT.sIx xs.length 0 lo = 0 ∧ HT.sIx xs.length xs.length hi = xs.length) : cutX xs lo hi = xs := by
  unfold cutX
  rw [h.1, h.2]
  simp
theorem ed_slT {tl th : TO} {lo hi : Option Int} (h : Ed K te σ H (.tuple ds)) (h1 : Eo K tl σ H lo) (h2 : Eo K th σ H hi) : Ed K (tSl (rSlU K) te tl th) σ H (.tuple (cutX ds lo hi)) := fun H1 e Q q =>
  h H1 e _ fun v H2 e2 hv => h1 H2 (e.trans e2) _ fun H3 e3 => h2 H3 ((e.trans e2).trans e3) _ fun H4 e4 => by
    have hv4 := hv.mono (e3.trans e4)
    obtain ⟨p, xs, rfl, hs, hd⟩ := Dp.tup_inv hv4
    refine .inr ⟨p, xs, rfl, hs, fun hw => q _ _ ((e2.trans e3).trans e4) ?_, fun _ l hl => q _ _ (((e2.trans e3).trans e4).trans (Ex.new hl)) (.tup (st_of upd_same) (DpAll.mono (Ex.new hl) (DpAll.cut hd lo hi)))⟩
    rw [L2.DpAll.length hd] at hw
    rw [cutX_all hw]
    exact hv4

theorem ed_catT (ha : Ed K ta σ H (.tuple ds)) (hb : Ed K tb σ H (.tuple es)) (hl : ds.length + es.length ≤ 1000000) : Ed K (tOp (rCatA K) ta tb) σ H (.tuple (ds ++ es)) := ed_op ha hb fun x y H1 _ hx hy Q q => by
  obtain ⟨p, xs, rfl, hs, hd⟩ := Dp.tup_inv hx
  obtain ⟨p', ys, rfl, hs', hd'⟩ := Dp.tup_inv hy
  refine ⟨p, p', xs, ys, rfl, rfl, hs, hs', szm (by rw [L2.DpAll.length hd, L2.DpAll.length hd']; exact hl), fun z => ?_, fun _ z => ?_, fun _ _ l hl => ?_⟩
  · subst z
    cases hd
    exact q _ H1 (Ex.refl H1) hy
  · subst z
    cases hd'
    rw [List.append_nil] at q
    exact q _ H1 (Ex.refl H1) hx
  · exact q _ _ (Ex.new hl) (.tup (st_of upd_same) (DpAll.mono (Ex.new hl) (hd.append hd')))
theorem en_cat (ha : El K ta σ H ds) (hb : El K tb σ H es) (hl : ds.length + es.length ≤ 1000000) : En K (tOp rCat ta tb) σ H (ds ++ es) := fun H1 e Q q =>
  ha H1 e _ fun p xs H2 e2 hp hd => hb H2 (e.trans e2) _ fun p' ys H3 e3 hp' hd' =>
    ⟨p, p', xs, ys, rfl, rfl, e3 _ _ hp, hp', szm (by rw [L2.DpAll.length hd, L2.DpAll.length hd']; exact hl), fun l hl => q l _ _ (fresh_back (e2.trans e3) hl) ((e2.trans e3).trans (Ex.new hl)) upd_same (DpAll.mono (Ex.new hl) ((DpAll.mono e3 hd).append hd'))⟩
theorem DpAll.rep' {xs : List V} (h : DpAll K H xs ds) : ∀ k : Nat, DpAll K H (List.replicate k xs).flatten (List.replicate k ds).flatten
  | 0 => by simp; exact .nil
  | k + 1 => by simp [List.replicate_succ]; exact h.append (DpAll.rep' h k)
theorem en_rep (ha : El K ta σ H ds) (hb : Ei K tb σ H n) (hl : ds.length * n.toNat ≤ 1000000) (hn : n ≤ 1000000) (hn2 : -1000000 ≤ n) : En K (tOp rRep ta tb) σ H (List.replicate n.toNat ds).flatten := fun H1 e Q q =>
  ha H1 e _ fun p xs H2 e2 hp hd => hb H2 (e.trans e2) _ fun y H3 e3 hy => by
    cases Dp.int_inv hy
    exact ⟨p, n, xs, rfl, rfl, e3 _ _ hp, by omega, by omega, szm (by rw [L2.DpAll.length hd]; exact hl), fun l hl => q l _ _ (fresh_back (e2.trans e3) hl) ((e2.trans e3).trans (Ex.new hl)) upd_same (DpAll.mono (Ex.new hl) (DpAll.rep' (DpAll.mono e3 hd) _))⟩

def flatD : PyData → Bool
  | .none => true
  | .bool _ => true
  | .int _ => true
  | .str _ => true
  | _ => false
theorem Dp.flat {x : V} (h : Dp K H x d) (hf : flatD d = true) : flatV x = true := by
  cases h <;> first | rfl | (simp [flatD] at hf)

def rLenU (K : PySem.W.Frag) : List V → Hp → VK → Prop := fun xs H Q => ∃ x n, xs = [x] ∧ LenV K x H n ∧ Q (.int n) H
theorem call_lenU {X : Cx} : CallR X (.builtin "len") (rLenU X.K) := call_len
theorem ei_lenL (h : Ed K te σ H (.list ds)) : Ei K (tCB (rLenU K) (tCons te tNil)) σ H (ds.length : Nat) := fun H1 e Q q => h H1 e _ fun v H2 e2 hv => by
  obtain ⟨p, xs, rfl, hs, hd⟩ := Dp.list_inv hv
  exact ⟨_, ds.length, rfl, .inl ⟨xs, hs, (L2.DpAll.length hd).symm⟩, q _ H2 e2 (.int _)⟩
theorem ei_lenT (h : Ed K te σ H (.tuple ds)) : Ei K (tCB (rLenU K) (tCons te tNil)) σ H (ds.length : Nat) := fun H1 e Q q => h H1 e _ fun v H2 e2 hv => by
  obtain ⟨p, xs, rfl, hs, hd⟩ := Dp.tup_inv hv
  exact ⟨_, ds.length, rfl, .inr ⟨xs, hs, (L2.DpAll.length hd).symm⟩, q _ H2 e2 (.int _)⟩
theorem ei_lenV {p : Addr} {xs : List V} (h : Eg K te σ H (.v (.ref p))) (hs : SqL K H p xs) : Ei K (tCB (rLenU K) (tCons te tNil)) σ H (xs.length : Nat) := fun H1 e Q q => h H1 e _ fun v H2 e2 hv => by
  cases hv
  exact ⟨_, xs.length, rfl, .inl ⟨xs, ex_l (e.trans e2) hs, rfl⟩, q _ H2 e2 (.int _)⟩
def rIntU : List V → Hp → VK → Prop := fun xs H Q => (∃ i, xs = [.int i] ∧ Q (.int i) H) ∨ ∃ k, xs = [.bl k] ∧ Q (.int (if k then 1 else 0)) H
theorem call_intU {X : Cx} : CallR X (.type "int") rIntU := call_int1
theorem ei_int (h : Ei K te σ H n) : Ei K (tCB rIntU (tCons te tNil)) σ H n := fun H1 e Q q => h H1 e _ fun v H2 e2 hv => by
  cases Dp.int_inv hv
  exact .inl ⟨n, rfl, q _ H2 e2 (.int _)⟩
theorem ei_intb {k : Bool} (h : Eb K te σ H k) : Ei K (tCB rIntU (tCons te tNil)) σ H (if k then 1 else 0) := fun H1 e Q q => h H1 e _ fun v H2 e2 hv => by
  cases Dp.bl_inv hv
  exact .inr ⟨k, rfl, q _ H2 e2 (.int _)⟩
def rAbs : List V → Hp → VK → Prop := fun xs H Q => ∃ i, xs = [.int i] ∧ Q (.int (if i < 0 then -i else i)) H
theorem call_absU {X : Cx} : CallR X (.builtin "abs") rAbs := call_abs
theorem ei_abs (h : Ei K te σ H n) : Ei K (tCB rAbs (tCons te tNil)) σ H (if n < 0 then -n else n) := fun H1 e Q q => h H1 e _ fun v H2 e2 hv => by
  cases Dp.int_inv hv
  exact ⟨n, rfl, q _ H2 e2 (.int _)⟩
def rMax2 : List V → Hp → VK → Prop := fun xs H Q => ∃ i j, xs = [.int i, .int j] ∧ Q (.int (if j > i then j else i)) H
theorem call_max2U {X : Cx} (hc : X.calm = true) : CallR X (.builtin "max") rMax2 := call_max2 hc
theorem ei_max2 (h : Ei K ta σ H n) (h' : Ei K tb σ H m) : Ei K (tCB rMax2 (tCons ta (tCons tb tNil))) σ H (if m > n then m else n) := fun H1 e Q q => h H1 e _ fun v H2 e2 hv => h' H2 (e.trans e2) _ fun w H3 e3 hw => by
  cases Dp.int_inv hv
  cases Dp.int_inv hw
  exact ⟨n, m, rfl, q _ H3 (e2.trans e3) (.int _)⟩
def rMin2 : List V → Hp → VK → Prop := fun xs H Q => ∃ i j, xs = [.int i, .int j] ∧ Q (.int (if j < i then j else i)) H
theorem call_min2U {X : Cx} (hc : X.calm = true) : CallR X (.builtin "min") rMin2 := call_min2 hc
theorem ei_min2 (h : Ei K ta σ H n) (h' : Ei K tb σ H m) : Ei K (tCB rMin2 (tCons ta (tCons tb tNil))) σ H (if m < n then m else n) := fun H1 e Q q => h H1 e _ fun v H2 e2 hv => h' H2 (e.trans e2) _ fun w H3 e3 hw => by
  cases Dp.int_inv hv
  cases Dp.int_inv hw
  exact ⟨n, m, rfl, q _ H3 (e2.trans e3) (.int _)⟩
theorem eb_all {bs : List Bool} (h : Ed K te σ H (.list (bs.map .bool))) : Eb K (tCB (rAll K) (tCons te tNil)) σ H (bs.all id) := fun H1 e Q q => h H1 e _ fun v H2 e2 hv => by
  obtain ⟨p, xs, rfl, hs, hd⟩ := Dp.list_inv hv
  rw [L2.DpAll.of_bls hd] at hs
  exact ⟨p, bs, rfl, hs, q _ H2 e2 (.bl _)⟩
theorem eb_any {bs : List Bool} (h : Ed K te σ H (.list (bs.map .bool))) : Eb K (tCB (rAny K) (tCons te tNil)) σ H (bs.any id) := fun H1 e Q q => h H1 e _ fun v H2 e2 hv => by
  obtain ⟨p, xs, rfl, hs, hd⟩ := Dp.list_inv hv
  rw [L2.DpAll.of_bls hd] at hs
  exact ⟨p, bs, rfl, hs, q _ H2 e2 (.bl _)⟩
theorem ei_sum {ns : List Int} (h : Ed K te σ H (.list (ns.map .int))) : Ei K (tCB (rSum K) (tCons te tNil)) σ H ns.sum := fun H1 e Q q => h H1 e _ fun v H2 e2 hv => by
  obtain ⟨p, xs, rfl, hs, hd⟩ := Dp.list_inv hv
  rw [L2.DpAll.of_ints hd] at hs
  exact ⟨p, ns, rfl, hs, q _ H2 e2 (.int _)⟩
def rListOf (K : PySem.W.Frag) : List V → Hp → VK → Prop := fun xs H Q => ∃ p ys, xs = [.ref p] ∧ (SqL K H p ys ∨ SqT K H p ys) ∧ ∀ l, H l = none → Q (.ref l) (upd H l (.lst ys))
theorem call_listOf {X : Cx} : CallR X (.type "list") (rListOf X.K) := call_list_of
theorem en_listL (h : Ed K te σ H (.list ds)) : En K (tCB (rListOf K) (tCons te tNil)) σ H ds := fun H1 e Q q => h H1 e _ fun v H2 e2 hv => by
  obtain ⟨p, xs, rfl, hs, hd⟩ := Dp.list_inv hv
  exact ⟨p, xs, rfl, .inl hs, fun l hl => q l _ _ (fresh_back e2 hl) (e2.trans (Ex.new hl)) upd_same (DpAll.mono (Ex.new hl) hd)⟩
theorem en_listT (h : Ed K te σ H (.tuple ds)) : En K (tCB (rListOf K) (tCons te tNil)) σ H ds := fun H1 e Q q => h H1 e _ fun v H2 e2 hv => by
  obtain ⟨p, xs, rfl, hs, hd⟩ := Dp.tup_inv hv
  exact ⟨p, xs, rfl, .inr hs, fun l hl => q l _ _ (fresh_back e2 hl) (e2.trans (Ex.new hl)) upd_same (DpAll.mono (Ex.new hl) hd)⟩
def rTupOf (K : PySem.W.Frag) : List V → Hp → VK → Prop := fun xs H Q => ∃ p ys, xs = [.ref p] ∧ ((SqL K H p ys ∧ ∀ l, H l = none → Q (.ref l) (upd H l (.tup ys))) ∨ (SqT K H p ys ∧ Q (.ref p) H))
theorem call_tupOf {X : Cx} : CallR X (.type "tuple") (rTupOf X.K) := call_tuple_of
theorem ed_tupL (h : Ed K te σ H (.list ds)) : Ed K (tCB (rTupOf K) (tCons te tNil)) σ H (.tuple ds) := fun H1 e Q q => h H1 e _ fun v H2 e2 hv => by
  obtain ⟨p, xs, rfl, hs, hd⟩ := Dp.list_inv hv
  exact ⟨p, xs, rfl, .inl ⟨hs, fun l hl => q _ _ (e2.trans (Ex.new hl)) (.tup (st_of upd_same) (DpAll.mono (Ex.new hl) hd))⟩⟩
theorem ed_tupT (h : Ed K te σ H (.tuple ds)) : Ed K (tCB (rTupOf K) (tCons te tNil)) σ H (.tuple ds) := fun H1 e Q q => h H1 e _ fun v H2 e2 hv => by
  obtain ⟨p, xs, rfl, hs, hd⟩ := Dp.tup_inv hv
  exact ⟨p, xs, rfl, .inr ⟨hs, q _ _ e2 (.tup hs hd)⟩⟩

theorem rgV_eq (a b : Int) : rgV a b = ((List.range (b - a).toNat).map fun (i : Nat) => a + (i : Int)).map V.int := by
  unfold rgV
  rw [List.map_map]
  rfl
def rgI (a b : Int) : List Int := (List.range (b - a).toNat).map fun (i : Nat) => a + (i : Int)
theorem en_listRg1 (h : Ei K te σ H n) (h0 : 0 ≤ n) (h1 : n ≤ 1000000) : En K (tLstRg (tRg1 te)) σ H ((rgI 0 n).map .int) := fun H1 e Q q => h H1 e _ fun v H2 e2 hv => by
  cases Dp.int_inv hv
  refine ⟨n, rfl, RgOk.of_le (by omega) (by omega) (by omega) h0, fun l hl => q l _ _ (fresh_back e2 hl) (e2.trans (Ex.new hl)) upd_same ?_⟩
  rw [rgV_eq]
  exact DpAll.ints _

def tyD : PyData → String
  | .none => "NoneType"
  | .bool _ => "bool"
  | .int _ => "int"
  | .str _ => "str"
  | .list _ => "list"
  | .tuple _ => "tuple"
  | .dict _ => "dict"
theorem Dp.ty {x : V} (h : Dp K H x d) : TyX K H x (.type (tyD d)) := by
  cases h with
  | non => exact .base .non
  | bl b => exact .base (.bl b)
  | int i => exact .base (.int i)
  | str s => exact .base (.str s)
  | lst h a =>
    rcases h with (h | ⟨o, h⟩) | ⟨o, its, n, hk, hc, _⟩
    · exact .base (.lst h)
    · exact .base (.frz h)
    · exact .kList hk hc
  | tup h a =>
    rcases h with (h | ⟨o, h⟩) | ⟨o, its, n, hk, hc, _⟩
    · exact .base (.tup h)
    · exact .fTuple h
    · exact .kTuple hk hc

def isTy (T : String) (d : PyData) : Bool := (kitB (tyD d) T).getD false
theorem eb_isi {T : String} (h : Ed K te σ H d) (hk : kitB (tyD d) T = some (isTy T d)) : Eb K (tCB (rIsi K) (tCons te (tCons (tC (.ty T)) tNil))) σ H (isTy T d) := fun H1 e Q q => h H1 e _ fun v H2 e2 hv =>
  ⟨v, .ty T, _, _, isTy T d, rfl, .ty T, Dp.ty hv, kit_ty hk, q _ H2 e2 (.bl _)⟩
def isI : PyData → Bool
  | .int _ => true
  | .bool _ => true
  | _ => false
def isB : PyData → Bool
  | .bool _ => true
  | _ => false
def isS : PyData → Bool
  | .str _ => true
  | _ => false
def isL : PyData → Bool
  | .list _ => true
  | _ => false
def isT : PyData → Bool
  | .tuple _ => true
  | _ => false
theorem kit_int {x : V} (h : Dp K H x d) : kitB (tyD d) "int" = some (isI d) := by
  cases h
  · show kitB "NoneType" "int" = some false; decide +kernel
  · show kitB "bool" "int" = some true; decide +kernel
  · show kitB "int" "int" = some true; decide +kernel
  · show kitB "str" "int" = some false; decide +kernel
  · show kitB "list" "int" = some false; decide +kernel
  · show kitB "tuple" "int" = some false; decide +kernel
theorem eb_is_int (h : Ed K te σ H d) : Eb K (tCB (rIsi K) (tCons te (tCons (tC (.ty "int")) tNil))) σ H (isI d) := fun H1 e Q q => h H1 e _ fun v H2 e2 hv =>
  ⟨v, .ty "int", _, _, isI d, rfl, .ty "int", Dp.ty hv, kit_ty (kit_int hv), q _ H2 e2 (.bl _)⟩
theorem kit_bool {x : V} (h : Dp K H x d) : kitB (tyD d) "bool" = some (isB d) := by
  cases h
  · show kitB "NoneType" "bool" = some false; decide +kernel
  · show kitB "bool" "bool" = some true; decide +kernel
  · show kitB "int" "bool" = some false; decide +kernel
  · show kitB "str" "bool" = some false; decide +kernel
  · show kitB "list" "bool" = some false; decide +kernel
  · show kitB "tuple" "bool" = some false; decide +kernel
theorem eb_is_bool (h : Ed K te σ H d) : Eb K (tCB (rIsi K) (tCons te (tCons (tC (.ty "bool")) tNil))) σ H (isB d) := fun H1 e Q q => h H1 e _ fun v H2 e2 hv =>
  ⟨v, .ty "bool", _, _, isB d, rfl, .ty "bool", Dp.ty hv, kit_ty (kit_bool hv), q _ H2 e2 (.bl _)⟩
theorem kit_str {x : V} (h : Dp K H x d) : kitB (tyD d) "str" = some (isS d) := by
  cases h
  · show kitB "NoneType" "str" = some false; decide +kernel
  · show kitB "bool" "str" = some false; decide +kernel
  · show kitB "int" "str" = some false; decide +kernel
  · show kitB "str" "str" = some true; decide +kernel
  · show kitB "list" "str" = some false; decide +kernel
  · show kitB "tuple" "str" = some false; decide +kernel
theorem eb_is_str (h : Ed K te σ H d) : Eb K (tCB (rIsi K) (tCons te (tCons (tC (.ty "str")) tNil))) σ H (isS d) := fun H1 e Q q => h H1 e _ fun v H2 e2 hv =>
  ⟨v, .ty "str", _, _, isS d, rfl, .ty "str", Dp.ty hv, kit_ty (kit_str hv), q _ H2 e2 (.bl _)⟩
theorem kit_list {x : V} (h : Dp K H x d) : kitB (tyD d) "list" = some (isL d) := by
  cases h
  · show kitB "NoneType" "list" = some false; decide +kernel
  · show kitB "bool" "list" = some false; decide +kernel
  · show kitB "int" "list" = some false; decide +kernel
  · show kitB "str" "list" = some false; decide +kernel
  · show kitB "list" "list" = some true; decide +kernel
  · show kitB "tuple" "list" = some false; decide +kernel
theorem eb_is_list (h : Ed K te σ H d) : Eb K (tCB (rIsi K) (tCons te (tCons (tC (.ty "list")) tNil))) σ H (isL d) := fun H1 e Q q => h H1 e _ fun v H2 e2 hv =>
  ⟨v, .ty "list", _, _, isL d, rfl, .ty "list", Dp.ty hv, kit_ty (kit_list hv), q _ H2 e2 (.bl _)⟩
theorem kit_tuple {x : V} (h : Dp K H x d) : kitB (tyD d) "tuple" = some (isT d) := by
  cases h
  · show kitB "NoneType" "tuple" = some false; decide +kernel
  · show kitB "bool" "tuple" = some false; decide +kernel
  · show kitB "int" "tuple" = some false; decide +kernel
  · show kitB "str" "tuple" = some false; decide +kernel
  · show kitB "list" "tuple" = some false; decide +kernel
  · show kitB "tuple" "tuple" = some true; decide +kernel
theorem eb_is_tuple (h : Ed K te σ H d) : Eb K (tCB (rIsi K) (tCons te (tCons (tC (.ty "tuple")) tNil))) σ H (isT d) := fun H1 e Q q => h H1 e _ fun v H2 e2 hv =>
  ⟨v, .ty "tuple", _, _, isT d, rfl, .ty "tuple", Dp.ty hv, kit_ty (kit_tuple hv), q _ H2 e2 (.bl _)⟩
end


section
variable {K : PySem.W.Frag} {σ : L2.St} {H H' : Hp} {ta tb tc te tl : TE} {tt : TT} {g : TG} {vs : List Nat} {n m : Int} {ds es : List PyData}

def gv (kp : Nat → Bool) (f : Nat → PyData) (n : Nat) : List PyData := ((List.range n).filter kp).map f
theorem gv_zero {kp : Nat → Bool} {f : Nat → PyData} : gv kp f 0 = [] := rfl
theorem gv_succ {kp : Nat → Bool} {f : Nat → PyData} {n : Nat} : gv kp f (n + 1) = gv kp f n ++ if kp n = true then [f n] else [] := by
  unfold gv
  rw [List.range_succ, List.filter_append, List.map_append, List.filter_cons]
  by_cases h : kp n = true
  · rw [if_pos h, if_pos h]; rfl
  · rw [if_neg h, if_neg h]; rfl
theorem gv_len {kp : Nat → Bool} {f : Nat → PyData} (n : Nat) : (gv kp f n).length ≤ n := by
  unfold gv
  rw [List.length_map]
  exact Nat.le_trans (List.length_filter_le _ _) (by rw [List.length_range]; exact Nat.le_refl _)
theorem gv_tup {kp : Nat → Bool} {f : Nat → PyData} (h : ∀ i, kp i = true → tupO (f i) = true) : ∀ n, tupOA (gv kp f n) = true
  | 0 => rfl
  | n + 1 => by
    rw [gv_succ, tupOA_append, gv_tup h n, Bool.true_and]
    by_cases z : kp n = true
    · rw [if_pos z]; simp [tupOA, h n z]
    · rw [if_neg z]; rfl

def Lw (K : PySem.W.Frag) (H : Hp) (kp : Nat → Bool) (f : Nat → PyData) (Dl : Addr) (i : Nat) (H' : Hp) : Prop := H Dl = none ∧ Ex H H' ∧ ∃ acc, H' Dl = some (.lst acc) ∧ DpAll K H' acc (gv kp f i) ∧ tupOA (gv kp f i) = true
theorem lw_turn {kp : Nat → Bool} {f : Nat → PyData} {Dl : Addr} {i : Nat} {σ2 : L2.St} (p : Lw K H kp f Dl i H') (hi : i < 1000000) (hx : Ex H H') (ht : EvT tt σ2 H' (kp i)) (he : kp i = true → Ed K te σ2 H' (f i)) (hu : kp i = true → tupO (f i) = true) :
    tt σ2 H' fun b H3 => if b = true then te σ2 H3 fun y H4 => ∃ acc, H4 Dl = some (.lst acc) ∧ acc.length < sizeLine ∧ Lw K H kp f Dl (i + 1) (upd H4 Dl (.lst (acc ++ [y]))) else Lw K H kp f Dl (i + 1) H3 := by
  obtain ⟨p1, p2, acc, p3, p4, p5⟩ := p
  refine ht H' (Ex.refl H') _ fun H3 e3 => ?_
  cases hf : kp i with
  | true =>
    show te σ2 H3 _
    refine he hf H3 e3 _ fun y H4 e4 hy => ⟨acc, e4 Dl _ (e3 Dl _ p3), szl (by have := gv_len (kp := kp) (f := f) i; rw [L2.DpAll.length p4]; omega), p1, Ex.mut (p2.trans (e3.trans e4)) p1, acc ++ [y], upd_same, ?_, ?_⟩
    · rw [gv_succ, if_pos hf]
      have hL := e4 Dl _ (e3 Dl _ p3)
      exact (L2.DpAll.tx (Tx.lst hL) (L2.DpAll.mono (e3.trans e4) p4) p5).append (.one (L2.Dp.tx (Tx.lst hL) hy (hu hf)))
    · rw [gv_succ, if_pos hf, tupOA_append, p5]
      simp [tupOA, hu hf]
  | false =>
    show Lw K H kp f Dl (i + 1) H3
    refine ⟨p1, p2.trans e3, acc, e3 Dl _ p3, ?_, ?_⟩
    · rw [gv_succ, if_neg (by rw [hf]; decide), List.append_nil]
      exact L2.DpAll.mono e3 p4
    · rw [gv_succ, if_neg (by rw [hf]; decide), List.append_nil]
      exact p5

theorem en_lcR1 {ta : TE} {j : Nat} {n : Int} (kp : Nat → Bool) (f : Nat → PyData) (h : Ei K ta σ H n) (hn : n ≤ 1000000) (hn0 : -1000000 ≤ n) (hw : ∀ x, wipe ((wipe σ vs).set j (some x)) vs = wipe σ vs)
    (hu : ∀ i : Nat, (i : Int) < n → kp i = true → tupO (f i) = true)
    (ht : ∀ (i : Nat) H1, Ex H H1 → (i : Int) < n → EvT tt ((wipe σ vs).set j (some (.int (i : Int)))) H1 (kp i)) (he : ∀ (i : Nat) H1, Ex H H1 → (i : Int) < n → kp i = true → Ed K te ((wipe σ vs).set j (some (.int (i : Int)))) H1 (f i)) :
    En K (tLc (iRng1 (tCons ta tNil)) (gName j) tt te vs) σ H (gv kp f n.toNat) := fun H0 e Q q => h H0 e _ fun v H1 e1 hv => by
  cases L2.Dp.int_inv hv
  refine ⟨n, rfl, by omega, by omega, fun Dl hD => lc_range (lo := 0) (n := n.toNat) (Lw K H1 kp f Dl) ⟨hD, Ex.new hD, [], upd_same, .nil, rfl⟩ (fun i H' hi p => ?_) (fun H' p => ?_)⟩
  · have e0 : (0 : Int) + (i : Int) = (i : Int) := Int.zero_add _
    show wipe ((wipe σ vs).set j (some (.int ((0 : Int) + (i : Int))))) vs = wipe σ vs ∧ tt ((wipe σ vs).set j (some (.int ((0 : Int) + (i : Int))))) H' _
    rw [e0]
    have hx : Ex H H' := (e.trans e1).trans p.2.1
    exact ⟨hw _, lw_turn p (by omega) p.2.1 (ht i H' hx (by omega)) (fun hf => he i H' hx (by omega) hf) (fun hf => hu i (by omega) hf)⟩
  · obtain ⟨p1, p2, acc, p3, p4, _⟩ := p
    exact q Dl acc H' (fresh_back e1 p1) (e1.trans p2) p3 p4

def Bnd (K : PySem.W.Frag) (g : TG) (σ : L2.St) (vs : List Nat) (tt : TT) (te : TE) (v : V) (H : Hp) (k : Bool) (d : PyData) : Prop := g v (wipe σ vs) H fun σ2 H2 => wipe σ2 vs = wipe σ vs ∧ H2 = H ∧ EvT tt σ2 H k ∧ (k = true → Ed K te σ2 H d)
theorem lw_bnd {kp : Nat → Bool} {f : Nat → PyData} {Dl : Addr} {i : Nat} {v : V} (hg : ∀ (v : V) (σ : L2.St) (H : Hp) (Q Q' : L2.St → Hp → Prop), (∀ σ' H', Q σ' H' → Q' σ' H') → g v σ H Q → g v σ H Q') (p : Lw K H kp f Dl i H') (hi : i < 1000000) (hb : Bnd K g σ vs tt te v H' (kp i) (f i)) (hu : kp i = true → tupO (f i) = true) :
    g v (wipe σ vs) H' fun σ2 H2 => wipe σ2 vs = wipe σ vs ∧ tt σ2 H2 fun b H3 => if b = true then te σ2 H3 fun y H4 => ∃ acc, H4 Dl = some (.lst acc) ∧ acc.length < sizeLine ∧ Lw K H kp f Dl (i + 1) (upd H4 Dl (.lst (acc ++ [y]))) else Lw K H kp f Dl (i + 1) H3 := by
  refine hg _ _ _ _ _ (fun σ2 H2 z => ?_) hb
  obtain ⟨z1, rfl, z3, z4⟩ := z
  exact ⟨z1, lw_turn p hi p.2.1 z3 z4 hu⟩
theorem gname_mono {j : Nat} : ∀ (v : V) (σ : L2.St) (H : Hp) (Q Q' : L2.St → Hp → Prop), (∀ σ' H', Q σ' H' → Q' σ' H') → gName j v σ H Q → gName j v σ H Q' := fun _ _ _ _ _ h q => h _ _ q
theorem en_lcL {tl : TE} (hg : ∀ (v : V) (σ : L2.St) (H : Hp) (Q Q' : L2.St → Hp → Prop), (∀ σ' H', Q σ' H' → Q' σ' H') → g v σ H Q → g v σ H Q') (kp : Nat → Bool) (f : Nat → PyData) (h : Ed K tl σ H (.list es)) (hz : es.length ≤ 1000000)
    (hu : ∀ i, i < es.length → kp i = true → tupO (f i) = true)
    (hb : ∀ (i : Nat) (x : PyData) (v : V) H1, Ex H H1 → es[i]? = some x → Dp K H1 v x → Bnd K g σ vs tt te v H1 (kp i) (f i)) :
    En K (tLc (iList K tl) g tt te vs) σ H (gv kp f es.length) := fun H0 e Q q => h H0 e _ fun v H1 e1 hv => by
  obtain ⟨a, xs, rfl, hs, hd⟩ := L2.Dp.list_inv hv
  refine ⟨a, rfl, ⟨xs, hs⟩, fun Dl hD => lc_list (xs := xs) (Lw K H1 kp f Dl) ⟨hD, Ex.new hD, [], upd_same, .nil, rfl⟩ (fun i H' _ p => ex_l p.2.1 hs) (fun i x H' hi p => ?_) (fun H' p => ?_)⟩
  · obtain ⟨d, h1, h2⟩ := L2.DpAll.get (L2.DpAll.mono p.2.1 hd) hi
    have hl : i < es.length := (List.getElem?_eq_some_iff.mp h1).1
    exact lw_bnd hg p (by omega) (hb i d x H' ((e.trans e1).trans p.2.1) h1 h2) (fun hf => hu i hl hf)
  · obtain ⟨p1, p2, acc, p3, p4, _⟩ := p
    rw [L2.DpAll.length hd] at p4
    exact q Dl acc H' (fresh_back e1 p1) (e1.trans p2) p3 p4
theorem en_lcT {tl : TE} (hg : ∀ (v : V) (σ : L2.St) (H : Hp) (Q Q' : L2.St → Hp → Prop), (∀ σ' H', Q σ' H' → Q' σ' H') → g v σ H Q → g v σ H Q') (kp : Nat → Bool) (f : Nat → PyData) (h : Ed K tl σ H (.tuple es)) (hz : es.length ≤ 1000000)
    (hu : ∀ i, i < es.length → kp i = true → tupO (f i) = true)
    (hb : ∀ (i : Nat) (x : PyData) (v : V) H1, Ex H H1 → es[i]? = some x → Dp K H1 v x → Bnd K g σ vs tt te v H1 (kp i) (f i)) :
    En K (tLc (iTup K tl) g tt te vs) σ H (gv kp f es.length) := fun H0 e Q q => h H0 e _ fun v H1 e1 hv => by
  obtain ⟨a, xs, rfl, hs, hd⟩ := L2.Dp.tup_inv hv
  refine ⟨a, rfl, ⟨xs, hs⟩, fun Dl hD => lc_tup (xs := xs) (Lw K H1 kp f Dl) ⟨hD, Ex.new hD, [], upd_same, .nil, rfl⟩ (fun i H' _ p => ex_t p.2.1 hs) (fun i x H' hi p => ?_) (fun H' p => ?_)⟩
  · obtain ⟨d, h1, h2⟩ := L2.DpAll.get (L2.DpAll.mono p.2.1 hd) hi
    have hl : i < es.length := (List.getElem?_eq_some_iff.mp h1).1
    exact lw_bnd hg p (by omega) (hb i d x H' ((e.trans e1).trans p.2.1) h1 h2) (fun hf => hu i hl hf)
  · obtain ⟨p1, p2, acc, p3, p4, _⟩ := p
    rw [L2.DpAll.length hd] at p4
    exact q Dl acc H' (fresh_back e1 p1) (e1.trans p2) p3 p4

theorem gv_map {f : Nat → PyData} {φ : PyData → PyData} (h : ∀ i x, es[i]? = some x → f i = φ x) : gv (fun _ => true) f es.length = es.map φ := by
  unfold gv
  rw [List.filter_eq_self.mpr (fun _ _ => rfl)]
  apply List.ext_getElem
  · simp
  · intro i h1 h2
    simp only [List.getElem_map, List.getElem_range]
    have hl : i < es.length := by simpa using h2
    exact h i _ (List.getElem?_eq_getElem hl)
theorem gv_filter {kp : Nat → Bool} {f : Nat → PyData} {κ : PyData → Bool} {φ : PyData → PyData} : ∀ (es : List PyData), (∀ i x, es[i]? = some x → kp i = κ x ∧ f i = φ x) → gv kp f es.length = (es.filter κ).map φ := by
  intro es
  have key : ∀ n, n ≤ es.length → (∀ i x, es[i]? = some x → kp i = κ x ∧ f i = φ x) → gv kp f n = ((es.take n).filter κ).map φ := by
    intro n
    induction n with
    | zero => intro _ _; simp [gv]
    | succ n ih =>
      intro hn h
      have hl : n < es.length := by omega
      obtain ⟨h1, h2⟩ := h n _ (List.getElem?_eq_getElem hl)
      rw [gv_succ, ih (by omega) h, List.take_add_one, List.getElem?_eq_getElem hl, List.filter_append, List.map_append, h1, h2]
      congr 1
      by_cases z : κ es[n] = true
      · rw [if_pos z]; simp [z]
      · rw [if_neg z]; simp [z]
  intro h
  rw [key es.length (Nat.le_refl _) h, List.take_length]
theorem en_mapL {j : Nat} (φ : PyData → PyData) (h : Ed K tl σ H (.list es)) (hz : es.length ≤ 1000000) (hw : ∀ x, wipe ((wipe σ vs).set j (some x)) vs = wipe σ vs) (hu : ∀ x ∈ es, tupO (φ x) = true)
    (he : ∀ (x : PyData) (v : V) H1, x ∈ es → Ex H H1 → Dp K H1 v x → Ed K te ((wipe σ vs).set j (some v)) H1 (φ x)) : En K (tLc (iList K tl) (gName j) tYes te vs) σ H (es.map φ) := by
  have q := en_lcL (te := te) (tt := tYes) (vs := vs) (g := gName j) gname_mono (fun _ => true) (fun i => φ (es.getD i .none)) h hz (fun i hi _ => hu _ (by rw [List.getD_eq_getElem?_getD, List.getElem?_eq_getElem hi]; exact List.getElem_mem hi))
    (fun i x v H1 e1 hi hv => ⟨hw v, rfl, fun H2 _ Q q => q H2 (Ex.refl H2), fun _ => by
      have hx : es.getD i .none = x := by rw [List.getD_eq_getElem?_getD, hi]; rfl
      rw [hx]
      exact he x v H1 (List.mem_of_getElem? hi) e1 hv⟩)
  rw [gv_map (φ := φ) (fun i x hi => by rw [List.getD_eq_getElem?_getD, hi]; rfl)] at q
  exact q
theorem en_mapT {j : Nat} (φ : PyData → PyData) (h : Ed K tl σ H (.tuple es)) (hz : es.length ≤ 1000000) (hw : ∀ x, wipe ((wipe σ vs).set j (some x)) vs = wipe σ vs) (hu : ∀ x ∈ es, tupO (φ x) = true)
    (he : ∀ (x : PyData) (v : V) H1, x ∈ es → Ex H H1 → Dp K H1 v x → Ed K te ((wipe σ vs).set j (some v)) H1 (φ x)) : En K (tLc (iTup K tl) (gName j) tYes te vs) σ H (es.map φ) := by
  have q := en_lcT (te := te) (tt := tYes) (vs := vs) (g := gName j) gname_mono (fun _ => true) (fun i => φ (es.getD i .none)) h hz (fun i hi _ => hu _ (by rw [List.getD_eq_getElem?_getD, List.getElem?_eq_getElem hi]; exact List.getElem_mem hi))
    (fun i x v H1 e1 hi hv => ⟨hw v, rfl, fun H2 _ Q q => q H2 (Ex.refl H2), fun _ => by
      have hx : es.getD i .none = x := by rw [List.getD_eq_getElem?_getD, hi]; rfl
      rw [hx]
      exact he x v H1 (List.mem_of_getElem? hi) e1 hv⟩)
  rw [gv_map (φ := φ) (fun i x hi => by rw [List.getD_eq_getElem?_getD, hi]; rfl)] at q
  exact q
theorem en_mapR {j : Nat} (φ : Nat → PyData) (h : Ei K ta σ H n) (hn : n ≤ 1000000) (hn0 : -1000000 ≤ n) (hw : ∀ x, wipe ((wipe σ vs).set j (some x)) vs = wipe σ vs) (hu : ∀ i : Nat, (i : Int) < n → tupO (φ i) = true)
    (he : ∀ (i : Nat) H1, (i : Int) < n → Ex H H1 → Ed K te ((wipe σ vs).set j (some (.int (i : Int)))) H1 (φ i)) : En K (tLc (iRng1 (tCons ta tNil)) (gName j) tYes te vs) σ H ((List.range n.toNat).map φ) := by
  have q := en_lcR1 (te := te) (tt := tYes) (vs := vs) (fun _ => true) φ h hn hn0 hw (fun i hi _ => hu i hi) (fun i H1 _ _ H2 _ Q q => q H2 (Ex.refl H2)) (fun i H1 e1 hi _ => he i H1 hi e1)
  have e : gv (fun _ => true) φ n.toNat = (List.range n.toNat).map φ := by
    unfold gv
    rw [List.filter_eq_self.mpr (fun _ _ => rfl)]
  rw [e] at q
  exact q
end


section
variable {K : PySem.W.Frag} {σ : L2.St} {H H' : Hp} {ta tb tc te tl : TE} {t : TT} {tu tw : TS} {D : Ends} {g : TG} {vs : List Nat} {n m : Int} {ds es : List PyData} {d : PyData} {a : Av} {i : Nat}
theorem seq (h : tu { D with nx := tw D } σ H) : tSeq tu tw D σ H := h
theorem s_set (h : Eg K te σ H a) (k : ∀ v H1, Ex H H1 → Rl K H1 v a → D.nx (σ.set i (some v)) H1) : tAsg te (gName i) D σ H := h H (Ex.refl H) _ fun v H1 e r => k v H1 e r
theorem s_seti (h : Ei K te σ H n) (k : ∀ H1, Ex H H1 → D.nx (σ.set i (some (.int n))) H1) : tAsg te (gName i) D σ H := s_set h fun v H1 e r => by cases L2.Dp.int_inv r; exact k H1 e
theorem s_setb {b : Bool} (h : Eb K te σ H b) (k : ∀ H1, Ex H H1 → D.nx (σ.set i (some (.bl b))) H1) : tAsg te (gName i) D σ H := s_set h fun v H1 e r => by cases L2.Dp.bl_inv r; exact k H1 e
theorem s_setN (h : En K te σ H ds) (k : ∀ p xs H1, H p = none → Ex H H1 → H1 p = some (.lst xs) → DpAll K H1 xs ds → D.nx (σ.set i (some (.ref p))) H1) : tAsg te (gName i) D σ H := h H (Ex.refl H) _ fun p xs H1 hp e hx hd => k p xs H1 hp e hx hd
theorem s_ret (h : Eg K te σ H a) (k : ∀ v H1, Ex H H1 → Rl K H1 v a → D.rt v H1) : tRet te D σ H := h H (Ex.refl H) _ fun v H1 e r => k v H1 e r
theorem s_retN (h : En K te σ H ds) (k : ∀ p xs H1, H p = none → Ex H H1 → H1 p = some (.lst xs) → DpAll K H1 xs ds → D.rt (.ref p) H1) : tRet te D σ H := h H (Ex.refl H) _ fun p xs H1 hp e hx hd => k p xs H1 hp e hx hd
theorem s_drop (h : Eg K te σ H a) (k : ∀ H1, Ex H H1 → D.nx σ H1) : tDrop te D σ H := h H (Ex.refl H) _ fun _ H1 e _ => k H1 e

theorem s_if {b : Bool} (h : EvT t σ H b) (h1 : b = true → ∀ H1, Ex H H1 → tu D σ H1) (h2 : b = false → ∀ H1, Ex H H1 → tw D σ H1) : tIfS t tu tw D σ H := Evl.s_if h h1 h2

theorem s_when {b : Bool} (h : EvT t σ H b) (h1 : b = true → ∀ H1, Ex H H1 → tu D σ H1) (h2 : b = false → ∀ H1, Ex H H1 → D.nx σ H1) : tIfS t tu tNext D σ H := Evl.s_if h h1 h2
theorem s_aug {op : Int → Int → Int} {x y : Int} (hx : σ[i]? = some (some (.int x))) (h : Ei K te σ H y) (k : ∀ H1, Ex H H1 → D.nx (σ.set i (some (.int (op x y)))) H1) : tAug i te (ipI op) D σ H :=
  ⟨.int x, hx, h H (Ex.refl H) _ fun v H1 e hv => by cases L2.Dp.int_inv hv; exact ⟨x, y, rfl, rfl, k H1 e⟩⟩

theorem s_app {p : Addr} {xs : List V} (ho : Eg K ta σ H (.v (.ref p))) (hp : H p = some (.lst xs)) (hz : xs.length < 1000000) (h : Eg K te σ H a)
    (k : ∀ v H1, Ex H H1 → Rl K H1 v a → D.nx σ (upd H1 p (.lst (xs ++ [v])))) : tDrop (tBM K "list" rAppend ta (tCons te tNil)) D σ H := ho H (Ex.refl H) _ fun v H1 e1 hv => by
  cases hv
  refine ⟨Or.inl ⟨rfl, xs, sq_of (e1 p _ hp)⟩, h H1 e1 _ fun w H2 e2 r => ⟨p, xs, w, rfl, rfl, e2 p _ (e1 p _ hp), szl hz, k w H2 (e1.trans e2) r⟩⟩

theorem s_putL {p : Addr} {xs : List V} {j : Nat} (h : Eg K te σ H a) (ho : Eg K ta σ H (.v (.ref p))) (hp : H p = some (.lst xs)) (hi : Ei K tb σ H n) (hj : n = (j : Int)) (hl : j < xs.length)
    (k : ∀ v H1, Ex H H1 → Rl K H1 v a → D.nx σ (upd H1 p (.lst (xs.set j v)))) : tAsg te (gSub ta tb rSetL) D σ H := h H (Ex.refl H) _ fun v H1 e1 r => ho H1 e1 _ fun w H2 e2 hw => hi H2 (e1.trans e2) _ fun x H3 e3 hx => by
  cases hw
  cases L2.Dp.int_inv hx
  subst hj
  exact ⟨p, xs, (j : Int), j, rfl, rfl, ((e1.trans e2).trans e3) p _ hp, ixN_nat hl, k v H3 ((e1.trans e2).trans e3) (r.mono (e2.trans e3))⟩

theorem s_setPop {p : Addr} {xs : List V} {j : Nat} {v : V} (ho : Eg K ta σ H (.v (.ref p))) (hp : H p = some (.lst xs)) (hi : Ei K tb σ H n) (hj : n = (j : Int)) (hs : j < 1000000) (hv : xs[j]? = some v)
    (k : ∀ H1, Ex H H1 → D.nx (σ.set i (some v)) (upd H1 p (.lst (xs.eraseIdx j)))) : tAsg (tBM K "list" rPopAt ta (tCons tb tNil)) (gName i) D σ H := ho H (Ex.refl H) _ fun w H1 e1 hw => by
  cases hw
  refine ⟨Or.inl ⟨rfl, xs, sq_of (e1 p _ hp)⟩, hi H1 e1 _ fun y H2 e2 hy => ?_⟩
  cases L2.Dp.int_inv hy
  have hl : j < xs.length := (List.getElem?_eq_some_iff.mp hv).1
  have q := (ixN_seq (n := xs.length) (i := n) (j := j) (by rw [hj]; exact ixN_nat hl)).1
  exact ⟨p, xs, n, j, v, rfl, rfl, e2 p _ (e1 p _ hp), by omega, by omega, q, hv, k H2 (e1.trans e2)⟩

theorem s_parNN {j : Nat} (h1 : En K ta σ H ds) (h2 : En K tb σ H es) (k : ∀ p xs q ys H1, H p = none → H q = none → p ≠ q → Ex H H1 → H1 p = some (.lst xs) → H1 q = some (.lst ys) → DpAll K H1 xs ds → DpAll K H1 ys es → D.nx ((σ.set i (some (.ref p))).set j (some (.ref q))) H1) :
    tPar i j (tCons ta (tCons tb tNil)) D σ H := h1 H (Ex.refl H) _ fun p xs H1 hp e1 hx hd => h2 H1 e1 _ fun q ys H2 hq e2 hy hd2 =>
  ⟨_, _, rfl, k p xs q ys H2 hp (fresh_back e1 hq) (ne_of_none hx hq) (e1.trans e2) (e2 _ _ hx) hy (L2.DpAll.mono e2 hd) hd2⟩
theorem s_parGG {j : Nat} {b : Av} (h1 : Eg K ta σ H a) (h2 : Eg K tb σ H b) (k : ∀ v w H1, Ex H H1 → Rl K H1 v a → Rl K H1 w b → D.nx ((σ.set i (some v)).set j (some w)) H1) :
    tPar i j (tCons ta (tCons tb tNil)) D σ H := h1 H (Ex.refl H) _ fun v H1 e1 r => h2 H1 e1 _ fun w H2 e2 r2 => ⟨_, _, rfl, k v w H2 (e1.trans e2) (r.mono e2) r2⟩
theorem s_parNG {j : Nat} {b : Av} (h1 : En K ta σ H ds) (h2 : Eg K tb σ H b) (k : ∀ p xs w H1, H p = none → Ex H H1 → H1 p = some (.lst xs) → DpAll K H1 xs ds → Rl K H1 w b → D.nx ((σ.set i (some (.ref p))).set j (some w)) H1) :
    tPar i j (tCons ta (tCons tb tNil)) D σ H := h1 H (Ex.refl H) _ fun p xs H1 hp e1 hx hd => h2 H1 e1 _ fun w H2 e2 r2 => ⟨_, _, rfl, k p xs w H2 hp (e1.trans e2) (e2 _ _ hx) (L2.DpAll.mono e2 hd) r2⟩

def Loop (J : It) (g : TG) (tb : TS) (D : Ends) (σ : L2.St) (H : Hp) : Prop := ∃ W : Nat → Nat → L2.St → Hp → Prop, (∃ m, W 0 m σ H) ∧ ∀ i m σ H, W i m σ H →
  (J.stop i H ∧ D.nx σ H) ∨ (J.go i H ∧ ∃ N : L2.St → Hp → Prop, (∀ σ' H', N σ' H' → ∃ m', m' < m ∧ W (i + 1) m' σ' H') ∧ ∀ x H', J.yld i H x H' → g x σ H' fun σ2 H2 => tb { D with nx := N, ct := N, bk := D.nx } σ2 H2)
theorem s_forL (h : Ed K tl σ H (.list es)) (k : ∀ p xs H1, Ex H H1 → SqL K H1 p xs → DpAll K H1 xs es → Loop (Itl K p) g tu D σ H1) : tFor (iList K tl) g tu D σ H := h H (Ex.refl H) _ fun v H1 e hv => by
  obtain ⟨p, xs, rfl, hs, hd⟩ := L2.Dp.list_inv hv
  exact ⟨p, rfl, ⟨xs, hs⟩, k p xs H1 e hs hd⟩
theorem s_forNL (h : En K tl σ H es) (k : ∀ p xs H1, H p = none → Ex H H1 → H1 p = some (.lst xs) → DpAll K H1 xs es → Loop (Itl K p) g tu D σ H1) : tFor (iList K tl) g tu D σ H := h H (Ex.refl H) _ fun p xs H1 hp e hx hd =>
  ⟨p, rfl, ⟨xs, sq_of hx⟩, k p xs H1 hp e hx hd⟩
theorem s_forT (h : Ed K tl σ H (.tuple es)) (k : ∀ p xs H1, Ex H H1 → SqT K H1 p xs → DpAll K H1 xs es → Loop (Itt K p) g tu D σ H1) : tFor (iTup K tl) g tu D σ H := h H (Ex.refl H) _ fun v H1 e hv => by
  obtain ⟨p, xs, rfl, hs, hd⟩ := L2.Dp.tup_inv hv
  exact ⟨p, rfl, ⟨xs, hs⟩, k p xs H1 e hs hd⟩
theorem s_forR1 (h : Ei K ta σ H n) (hn : n ≤ 1000000000) (hn0 : -1000000000 ≤ n) (k : ∀ H1, Ex H H1 → Loop (Itr 0 n.toNat) g tu D σ H1) : tFor (iRng1 (tCons ta tNil)) g tu D σ H := h H (Ex.refl H) _ fun v H1 e hv => by
  cases L2.Dp.int_inv hv
  exact ⟨n, rfl, by omega, by omega, k H1 e⟩
theorem s_forR2 (h : Ei K ta σ H n) (h' : Ei K tb σ H m) (hn : n ≤ 1000000000) (hn0 : -1000000000 ≤ n) (hm : m ≤ 1000000000) (hm0 : -1000000000 ≤ m) (k : ∀ H1, Ex H H1 → Loop (Itr n (m - n).toNat) g tu D σ H1) :
    tFor (iRng2 (tCons ta (tCons tb tNil))) g tu D σ H := h H (Ex.refl H) _ fun v H1 e hv => h' H1 e _ fun w H2 e2 hw => by
  cases L2.Dp.int_inv hv
  cases L2.Dp.int_inv hw
  exact ⟨n, m, rfl, ⟨by omega, by omega, by omega, by omega⟩, k H2 (e.trans e2)⟩

theorem loop_range {n : Nat} {j : Nat} (Pv : Nat → L2.St → Hp → Prop) (h0 : Pv 0 σ H)
    (hs : ∀ (i : Nat) σ H, i < n → Pv i σ H → tu { D with nx := Pv (i + 1), ct := Pv (i + 1), bk := D.nx } (σ.set j (some (.int (i : Int)))) H) (hd : ∀ σ H, Pv n σ H → D.nx σ H) : Loop (Itr 0 n) (gName j) tu D σ H :=
  for_range (lo := 0) (n := n) Pv h0 (fun i σ H hi p => by
    have e0 : (0 : Int) + (i : Int) = (i : Int) := Int.zero_add _
    show tu _ (σ.set j (some (.int ((0 : Int) + (i : Int))))) H
    rw [e0]
    exact hs i σ H hi p) hd
theorem loop_range2 {lo : Int} {n : Nat} {j : Nat} (Pv : Nat → L2.St → Hp → Prop) (h0 : Pv 0 σ H)
    (hs : ∀ (i : Nat) σ H, i < n → Pv i σ H → tu { D with nx := Pv (i + 1), ct := Pv (i + 1), bk := D.nx } (σ.set j (some (.int (lo + (i : Int))))) H) (hd : ∀ σ H, Pv n σ H → D.nx σ H) : Loop (Itr lo n) (gName j) tu D σ H :=
  for_range (lo := lo) (n := n) Pv h0 hs hd
theorem loop_list {p : Addr} {xs : List V} {j : Nat} (Pv : Nat → L2.St → Hp → Prop) (h0 : Pv 0 σ H) (hl : ∀ i σ H, i ≤ xs.length → Pv i σ H → SqL K H p xs)
    (hs : ∀ (i : Nat) x σ H, xs[i]? = some x → Pv i σ H → tu { D with nx := Pv (i + 1), ct := Pv (i + 1), bk := D.nx } (σ.set j (some x)) H) (hd : ∀ σ H, Pv xs.length σ H → D.nx σ H) : Loop (Itl K p) (gName j) tu D σ H :=
  for_list Pv h0 hl hs hd
theorem loop_tup {p : Addr} {xs : List V} {j : Nat} (Pv : Nat → L2.St → Hp → Prop) (h0 : Pv 0 σ H) (hl : ∀ i σ H, i ≤ xs.length → Pv i σ H → SqT K H p xs)
    (hs : ∀ (i : Nat) x σ H, xs[i]? = some x → Pv i σ H → tu { D with nx := Pv (i + 1), ct := Pv (i + 1), bk := D.nx } (σ.set j (some x)) H) (hd : ∀ σ H, Pv xs.length σ H → D.nx σ H) : Loop (Itt K p) (gName j) tu D σ H :=
  for_tup Pv h0 hl hs hd
theorem s_while (W : Nat → L2.St → Hp → Prop) (m0 : Nat) (h0 : W m0 σ H)
    (hs : ∀ m σ' H', W m σ' H' → ∃ b, EvT t σ' H' b ∧ (b = true → ∀ H1, Ex H' H1 → ∃ N : L2.St → Hp → Prop, (∀ σ2 H2, N σ2 H2 → ∃ m', m' < m ∧ W m' σ2 H2) ∧ tu { D with nx := N, ct := N, bk := D.nx } σ' H1) ∧ (b = false → ∀ H1, Ex H' H1 → D.nx σ' H1)) :
    tWhile t tu D σ H := Evl.s_while W m0 h0 hs


section
variable {K : PySem.W.Frag} {σ : L2.St} {H H' : Hp} {ta tb tc te tl : TE} {t : TT} {tu tw tz : TS} {D : Ends} {g : TG} {vs : List Nat} {n m : Int} {ds es : List PyData} {d : PyData} {a : Av} {i : Nat}
theorem q_set (h : Eg K te σ H a) (k : ∀ v H1, Ex H H1 → Rl K H1 v a → tz D (σ.set i (some v)) H1) : tSeq (tAsg te (gName i)) tz D σ H := s_set (D := { D with nx := tz D }) h k
theorem q_seti (h : Ei K te σ H n) (k : ∀ H1, Ex H H1 → tz D (σ.set i (some (.int n))) H1) : tSeq (tAsg te (gName i)) tz D σ H := s_seti (D := { D with nx := tz D }) h k
theorem q_setb {b : Bool} (h : Eb K te σ H b) (k : ∀ H1, Ex H H1 → tz D (σ.set i (some (.bl b))) H1) : tSeq (tAsg te (gName i)) tz D σ H := s_setb (D := { D with nx := tz D }) h k
theorem q_setN (h : En K te σ H ds) (k : ∀ p xs H1, H p = none → Ex H H1 → H1 p = some (.lst xs) → DpAll K H1 xs ds → tz D (σ.set i (some (.ref p))) H1) : tSeq (tAsg te (gName i)) tz D σ H := s_setN (D := { D with nx := tz D }) h k
theorem q_drop (h : Eg K te σ H a) (k : ∀ H1, Ex H H1 → tz D σ H1) : tSeq (tDrop te) tz D σ H := s_drop (D := { D with nx := tz D }) h k
theorem q_if {b : Bool} (h : EvT t σ H b) (h1 : b = true → ∀ H1, Ex H H1 → tu { D with nx := tz D } σ H1) (h2 : b = false → ∀ H1, Ex H H1 → tw { D with nx := tz D } σ H1) : tSeq (tIfS t tu tw) tz D σ H := s_if (D := { D with nx := tz D }) h h1 h2
theorem q_when {b : Bool} (h : EvT t σ H b) (h1 : b = true → ∀ H1, Ex H H1 → tu { D with nx := tz D } σ H1) (h2 : b = false → ∀ H1, Ex H H1 → tz D σ H1) : tSeq (tIfS t tu tNext) tz D σ H := s_when (D := { D with nx := tz D }) h h1 h2
theorem q_app {p : Addr} {xs : List V} (ho : Eg K ta σ H (.v (.ref p))) (hp : H p = some (.lst xs)) (hz : xs.length < 1000000) (h : Eg K te σ H a)
    (k : ∀ v H1, Ex H H1 → Rl K H1 v a → tz D σ (upd H1 p (.lst (xs ++ [v])))) : tSeq (tDrop (tBM K "list" rAppend ta (tCons te tNil))) tz D σ H := s_app (D := { D with nx := tz D }) ho hp hz h k
theorem q_putL {p : Addr} {xs : List V} {j : Nat} (h : Eg K te σ H a) (ho : Eg K ta σ H (.v (.ref p))) (hp : H p = some (.lst xs)) (hi : Ei K tb σ H n) (hj : n = (j : Int)) (hl : j < xs.length)
    (k : ∀ v H1, Ex H H1 → Rl K H1 v a → tz D σ (upd H1 p (.lst (xs.set j v)))) : tSeq (tAsg te (gSub ta tb rSetL)) tz D σ H := s_putL (D := { D with nx := tz D }) h ho hp hi hj hl k
theorem q_setPop {p : Addr} {xs : List V} {j : Nat} {v : V} (ho : Eg K ta σ H (.v (.ref p))) (hp : H p = some (.lst xs)) (hi : Ei K tb σ H n) (hj : n = (j : Int)) (hs : j < 1000000) (hv : xs[j]? = some v)
    (k : ∀ H1, Ex H H1 → tz D (σ.set i (some v)) (upd H1 p (.lst (xs.eraseIdx j)))) : tSeq (tAsg (tBM K "list" rPopAt ta (tCons tb tNil)) (gName i)) tz D σ H := s_setPop (D := { D with nx := tz D }) ho hp hi hj hs hv k
theorem q_parNN {j : Nat} (h1 : En K ta σ H ds) (h2 : En K tb σ H es) (k : ∀ p xs q ys H1, H p = none → H q = none → p ≠ q → Ex H H1 → H1 p = some (.lst xs) → H1 q = some (.lst ys) → DpAll K H1 xs ds → DpAll K H1 ys es → tz D ((σ.set i (some (.ref p))).set j (some (.ref q))) H1) :
    tSeq (tPar i j (tCons ta (tCons tb tNil))) tz D σ H := s_parNN (D := { D with nx := tz D }) h1 h2 k
theorem q_parGG {j : Nat} {b : Av} (h1 : Eg K ta σ H a) (h2 : Eg K tb σ H b) (k : ∀ v w H1, Ex H H1 → Rl K H1 v a → Rl K H1 w b → tz D ((σ.set i (some v)).set j (some w)) H1) :
    tSeq (tPar i j (tCons ta (tCons tb tNil))) tz D σ H := s_parGG (D := { D with nx := tz D }) h1 h2 k
theorem q_parNG {j : Nat} {b : Av} (h1 : En K ta σ H ds) (h2 : Eg K tb σ H b) (k : ∀ p xs w H1, H p = none → Ex H H1 → H1 p = some (.lst xs) → DpAll K H1 xs ds → Rl K H1 w b → tz D ((σ.set i (some (.ref p))).set j (some w)) H1) :
    tSeq (tPar i j (tCons ta (tCons tb tNil))) tz D σ H := s_parNG (D := { D with nx := tz D }) h1 h2 k
theorem q_forL (h : Ed K tl σ H (.list es)) (k : ∀ p xs H1, Ex H H1 → SqL K H1 p xs → DpAll K H1 xs es → Loop (Itl K p) g tu { D with nx := tz D } σ H1) : tSeq (tFor (iList K tl) g tu) tz D σ H := s_forL (D := { D with nx := tz D }) h k
theorem q_forNL (h : En K tl σ H es) (k : ∀ p xs H1, H p = none → Ex H H1 → H1 p = some (.lst xs) → DpAll K H1 xs es → Loop (Itl K p) g tu { D with nx := tz D } σ H1) : tSeq (tFor (iList K tl) g tu) tz D σ H := s_forNL (D := { D with nx := tz D }) h k
theorem q_forT (h : Ed K tl σ H (.tuple es)) (k : ∀ p xs H1, Ex H H1 → SqT K H1 p xs → DpAll K H1 xs es → Loop (Itt K p) g tu { D with nx := tz D } σ H1) : tSeq (tFor (iTup K tl) g tu) tz D σ H := s_forT (D := { D with nx := tz D }) h k
theorem q_forR1 (h : Ei K ta σ H n) (hn : n ≤ 1000000000) (hn0 : -1000000000 ≤ n) (k : ∀ H1, Ex H H1 → Loop (Itr 0 n.toNat) g tu { D with nx := tz D } σ H1) : tSeq (tFor (iRng1 (tCons ta tNil)) g tu) tz D σ H := s_forR1 (D := { D with nx := tz D }) h hn hn0 k
theorem q_forR2 (h : Ei K ta σ H n) (h' : Ei K tb σ H m) (hn : n ≤ 1000000000) (hn0 : -1000000000 ≤ n) (hm : m ≤ 1000000000) (hm0 : -1000000000 ≤ m) (k : ∀ H1, Ex H H1 → Loop (Itr n (m - n).toNat) g tu { D with nx := tz D } σ H1) : tSeq (tFor (iRng2 (tCons ta (tCons tb tNil))) g tu) tz D σ H := s_forR2 (D := { D with nx := tz D }) h h' hn hn0 hm hm0 k
theorem q_while (W : Nat → L2.St → Hp → Prop) (m0 : Nat) (h0 : W m0 σ H)
    (hs : ∀ m σ' H', W m σ' H' → ∃ b, EvT t σ' H' b ∧ (b = true → ∀ H1, Ex H' H1 → ∃ N : L2.St → Hp → Prop, (∀ σ2 H2, N σ2 H2 → ∃ m', m' < m ∧ W m' σ2 H2) ∧ tu { D with nx := N, ct := N, bk := tz D } σ' H1) ∧ (b = false → ∀ H1, Ex H' H1 → tz D σ' H1)) : tSeq (tWhile t tu) tz D σ H := s_while (D := { D with nx := tz D }) W m0 h0 hs

theorem nx {f : L2.St → Hp → Prop} {r : VK} {b c : L2.St → Hp → Prop} (h : f σ H) : ({ nx := f, rt := r, bk := b, ct := c } : Ends).nx σ H := h

theorem q_skip (h : EvT t σ H false) (k : ∀ H1, Ex H H1 → tz D σ H1) : tSeq (tIfS t tu tNext) tz D σ H := q_when h (fun z => nomatch z) fun _ H1 e => k H1 e
theorem s_skip (h : EvT t σ H false) (k : ∀ H1, Ex H H1 → D.nx σ H1) : tIfS t tu tNext D σ H := s_when h (fun z => nomatch z) fun _ H1 e => k H1 e

theorem q_each {j : Nat} (h : Ed K tl σ H (.list es)) (hs : ∀ (x : PyData) (v : V) H1 (N : L2.St → Hp → Prop), x ∈ es → Ex H H1 → Dp K H1 v x → (∀ H', Ex H1 H' → N (σ.set j (some v)) H') → tu { D with nx := N, ct := N, bk := tz D } (σ.set j (some v)) H1)
    (k : ∀ w H1, Ex H H1 → tz D (σ.set j w) H1) : tSeq (tFor (iList K tl) (gName j) tu) tz D σ H := q_forL h fun p xs H1 e hsq hd =>
  loop_list (Pv := fun _ σ' H' => Ex H1 H' ∧ ∃ w, σ' = σ.set j w) ⟨Ex.refl H1, (σ[j]?).getD none, by
    apply List.ext_getElem?
    intro i
    by_cases hi : j = i
    · subst hi
      by_cases hl : j < σ.length
      · rw [List.getElem?_set_self hl, List.getElem?_eq_getElem hl]; rfl
      · rw [List.getElem?_eq_none (by omega), List.getElem?_eq_none (by rw [List.length_set]; omega)]
    · rw [List.getElem?_set_ne hi]⟩ (fun _ _ _ _ q => ex_l q.1 hsq) (fun i x σ' H' hi q => by
    obtain ⟨e1, w, rfl⟩ := q
    rw [List.set_set]
    obtain ⟨d, h1, h2⟩ := L2.DpAll.get hd hi
    exact hs d x H' _ (List.mem_of_getElem? h1) (e.trans e1) (L2.Dp.mono e1 h2) fun H2 e2 => ⟨e1.trans e2, some x, rfl⟩) fun σ' H' q => by
    obtain ⟨e1, w, rfl⟩ := q
    exact nx (k w H' (e.trans e1))
end



abbrev RetD (K : PySem.W.Frag) (H : Hp) (Q : VK) (d : PyData) : Prop := ∀ v H', Ex H H' → Dp K H' v d → Q v H'
abbrev RetN (K : PySem.W.Frag) (H : Hp) (Q : VK) (ds : List PyData) : Prop := ∀ p xs H', H p = none → Ex H H' → H' p = some (.lst xs) → DpAll K H' xs ds → Q (.ref p) H'
abbrev Err (C : Addr) (H : Hp) (E : XK) : Prop := ∀ H', Ex H H' → E (.ref C) none H'
theorem RlA.one {v : V} {vs : List V} {a : Av} (h : RlA K H (v :: vs) [a]) : vs = [] ∧ Rl K H v a := by
  cases vs with
  | nil => exact ⟨rfl, h.1⟩
  | cons _ _ => exact h.2.elim
theorem ea_len {ta : TA} {as : List Av} : ∀ {vs : List V}, RlA K H vs as → vs.length = as.length := by
  induction as with
  | nil => intro vs h; cases vs with
    | nil => rfl
    | cons _ _ => exact h.elim
  | cons a as ih => intro vs h; cases vs with
    | nil => exact h.elim
    | cons v vs => simp [ih h.2]
section
variable {sp : Sp} {E : XK} {tr : TA} {as : List Av} {C p dx : Addr} {fs : List (Str × V)} {f m : Str}
theorem ed_call (ha : Ea K tr σ H as) (hs : ∀ vs H1, Ex H H1 → RlA K H1 vs as → ∀ Q : VK, RetD K H1 Q d → sp vs H1 Q E) : Ed K (tCall sp [] E tr) σ H d := fun H1 e Q q => ha H1 e _ fun vs H2 e2 r => by
  rw [List.append_nil]
  exact hs vs H2 (e.trans e2) r Q fun v H3 e3 hv => q v H3 (e2.trans e3) hv
theorem en_call (ha : Ea K tr σ H as) (hs : ∀ vs H1, Ex H H1 → RlA K H1 vs as → ∀ Q : VK, RetN K H1 Q ds → sp vs H1 Q E) : En K (tCall sp [] E tr) σ H ds := fun H1 e Q q => ha H1 e _ fun vs H2 e2 r => by
  rw [List.append_nil]
  exact hs vs H2 (e.trans e2) r Q fun l xs H3 hl e3 hx hd => q l xs H3 (fresh_back e2 hl) (e2.trans e3) hx hd
theorem ed_meth (ho : Eg K ta σ H (.v (.ref p))) (hp : H p = some (.ins C dx fs)) (hm : fs.lookup m = none) (ha : Ea K tr σ H as) (hs : ∀ vs H1, Ex H H1 → RlA K H1 vs as → ∀ Q : VK, RetD K H1 Q d → sp (.ref p :: vs) H1 Q E) :
    Ed K (tMeth C m sp [] E ta tr) σ H d := fun H1 e Q q => ho H1 e _ fun v H2 e2 hv => by
  cases hv
  refine ⟨p, dx, fs, rfl, e2 _ _ (e _ _ hp), hm, ha H2 (e.trans e2) _ fun vs H3 e3 r => ?_⟩
  rw [List.append_nil]
  exact hs vs H3 ((e.trans e2).trans e3) r Q fun v H4 e4 hv => q v H4 ((e2.trans e3).trans e4) hv
theorem en_meth (ho : Eg K ta σ H (.v (.ref p))) (hp : H p = some (.ins C dx fs)) (hm : fs.lookup m = none) (ha : Ea K tr σ H as) (hs : ∀ vs H1, Ex H H1 → RlA K H1 vs as → ∀ Q : VK, RetN K H1 Q ds → sp (.ref p :: vs) H1 Q E) :
    En K (tMeth C m sp [] E ta tr) σ H ds := fun H1 e Q q => ho H1 e _ fun v H2 e2 hv => by
  cases hv
  refine ⟨p, dx, fs, rfl, e2 _ _ (e _ _ hp), hm, ha H2 (e.trans e2) _ fun vs H3 e3 r => ?_⟩
  rw [List.append_nil]
  exact hs vs H3 ((e.trans e2).trans e3) r Q fun l xs H4 hl e4 hx hd => q l xs H4 (fresh_back (e2.trans e3) hl) ((e2.trans e3).trans e4) hx hd

theorem eg_fldP {P : V → Hp → Prop} {hm : ∀ v H H', Ex H H' → P v H → P v H'} (ho : Eg K ta σ H (.p P hm)) (c : Cls K C) (hn : NoAttr K C f) (h : ∀ v H1, P v H1 → ∃ q dq gs x, v = .ref q ∧ H1 q = some (.ins C dq gs) ∧ gs.lookup f = some x ∧ Rl K H1 x a) :
    Eg K (tFld K ta f) σ H a := fun H1 e Q q => ho H1 e _ fun v H2 e2 hv => by
  obtain ⟨o, dq, gs, x, rfl, h1, h2, h3⟩ := h v H2 hv
  exact ⟨o, C, dq, gs, x, rfl, h1, c, hn, h2, q x H2 e2 h3⟩
theorem eg_methP {P : V → Hp → Prop} {hm : ∀ v H H', Ex H H' → P v H → P v H'} (ho : Eg K ta σ H (.p P hm)) (h : ∀ v H1, P v H1 → ∃ q dq gs, v = .ref q ∧ H1 q = some (.ins C dq gs) ∧ gs.lookup m = none) (ha : Ea K tr σ H as)
    (hs : ∀ v vs H1, Ex H H1 → P v H1 → RlA K H1 vs as → ∀ Q : VK, (∀ w H2, Ex H1 H2 → Rl K H2 w a → Q w H2) → sp (v :: vs) H1 Q E) : Eg K (tMeth C m sp [] E ta tr) σ H a := fun H1 e Q q => ho H1 e _ fun v H2 e2 hv => by
  obtain ⟨o, dq, gs, e0, h1, h2⟩ := h v H2 hv
  refine ⟨o, dq, gs, e0, h1, h2, ha H2 (e.trans e2) _ fun vs H3 e3 r => ?_⟩
  rw [List.append_nil]
  exact hs v vs H3 ((e.trans e2).trans e3) (hm _ _ _ e3 hv) r Q fun w H4 e4 hw => q w H4 ((e2.trans e3).trans e4) hw
theorem en_methP {P : V → Hp → Prop} {hm : ∀ v H H', Ex H H' → P v H → P v H'} (ho : Eg K ta σ H (.p P hm)) (h : ∀ v H1, P v H1 → ∃ q dq gs, v = .ref q ∧ H1 q = some (.ins C dq gs) ∧ gs.lookup m = none) (ha : Ea K tr σ H as)
    (hs : ∀ v vs H1, Ex H H1 → P v H1 → RlA K H1 vs as → ∀ Q : VK, RetN K H1 Q ds → sp (v :: vs) H1 Q E) : En K (tMeth C m sp [] E ta tr) σ H ds := fun H1 e Q q => ho H1 e _ fun v H2 e2 hv => by
  obtain ⟨o, dq, gs, e0, h1, h2⟩ := h v H2 hv
  refine ⟨o, dq, gs, e0, h1, h2, ha H2 (e.trans e2) _ fun vs H3 e3 r => ?_⟩
  rw [List.append_nil]
  exact hs v vs H3 ((e.trans e2).trans e3) (hm _ _ _ e3 hv) r Q fun l xs H4 hl e4 hx hd => q l xs H4 (fresh_back (e2.trans e3) hl) ((e2.trans e3).trans e4) hx hd
theorem eg_call (ha : Ea K tr σ H as) (hs : ∀ vs H1, Ex H H1 → RlA K H1 vs as → ∀ Q : VK, (∀ w H2, Ex H1 H2 → Rl K H2 w a → Q w H2) → sp vs H1 Q E) : Eg K (tCall sp [] E tr) σ H a := fun H1 e Q q => ha H1 e _ fun vs H2 e2 r => by
  rw [List.append_nil]
  exact hs vs H2 (e.trans e2) r Q fun v H3 e3 hv => q v H3 (e2.trans e3) hv
theorem eg_make (ha : Ea K tr σ H as) (hs : ∀ vs H1 y dy, Ex H H1 → RlA K H1 vs as → H1 y = none → H1 dy = none → dy ≠ y → ∀ Q : Hp → Prop, (∀ H2, Ex H1 H2 → Rl K H2 (.ref y) a → Q H2) → sp (.ref y :: vs) (upd (upd H1 dy (.own y)) y (.ins C dy [])) (fun v H2 => v = .non ∧ Q H2) E) :
    Eg K (tMake C sp [] E tr) σ H a := fun H1 e Q q => ha H1 e _ fun vs H2 e2 r y dy hy hd hne => by
  rw [List.append_nil]
  exact hs vs H2 y dy (e.trans e2) r hy hd hne (fun H3 => Q (.ref y) H3) fun H3 e3 r3 => q _ H3 (e2.trans e3) r3
theorem eg_fld {x : V} (ho : Eg K ta σ H (.v (.ref p))) (hp : H p = some (.ins C dx fs)) (c : Cls K C) (hn : NoAttr K C f) (hl : fs.lookup f = some x) (r : Rl K H x a) : Eg K (tFld K ta f) σ H a := fun H1 e Q q => ho H1 e _ fun v H2 e2 hv => by
  cases hv
  exact ⟨p, C, dx, fs, x, rfl, (e2 _ _ (e _ _ hp)), c, hn, hl, q x H2 e2 (r.mono (e.trans e2))⟩
end
end


structure Df (P : Program) (w : World) (K : PySem.W.Frag) (mg : Str → Option Value) (base : Heap) (k : Nat) (p : Str × Option Str) (ps : List Str) (sp : Sp) : Prop where
  ex : ∃ fd, FnOk P w K mg base (L2.CX P w) k (He.fAd K p) fd ps sp ∧ Binds K fd ps []
  kp : PySem.W.keepIn K (.ref (He.fAd K p)) = true
section
variable {X : Cx} {x : Str} {pos : Pos} {i : Int}
theorem pe_gi (h : ∃ t, X.mg x = some (.int i t)) (hg : Gl X x := by rfl) (hd : (x == ("__debug__" : Str)) = false := by decide) : PE X (.Name x pos) (tC (.int i)) := by
  obtain ⟨t, e⟩ := h
  exact pe_glob hg e ⟨t, rfl⟩ hd
end


open PySem.Spec PyProof.Rows
abbrev Fact := PySem.W.Frag → Bool
def fGlo (x : Str) : Fact := fun K => (He.Fa.glo x).ok K
def fFree (x : Str) : Fact := fun K => (He.Fa.free x).ok K
def fInt (x : Str) (i : Int) : Fact := fun K => (He.Fa.int x i).ok K
def fStr (x z : Str) : Fact := fun K => (He.Fa.str x z).ok K
def fCls (x : Str) : Fact := fun K => (He.Fa.cls x).ok K
def fNoat (x f : Str) : Fact := fun K => (He.Fa.noat x f).ok K
def fMeth (x m : Str) : Fact := fun K => (He.Fa.meth x m).ok K
def fMk (x : Str) : Fact := fun K => (He.Fa.mkr x).ok K
def fExc (x : Str) : Fact := fun K => (He.Fa.exc x).ok K
def fExm (x y : Str) (b : Bool) : Fact := fun K => (He.Fa.exm x y b).ok K
def fKit (x y : Str) (b : Bool) : Fact := fun K => decide (PySem.W.kitOne K (.ref (He.ga K x)) (.ref (He.ga K y)) = some b)
def fTup (x : Str) (vs : List He.Dv) : Fact := fun K => (He.Fa.glo x).ok K && He.tupB K x vs

def fEcl (x : Str) : Fact := fun K => He.eqO (PySem.W.findIn K (.ref (He.ga K x)) "__getattribute__") (some (some (.builtin "BaseException.__getattribute__"))) && (He.eqO (PySem.W.findIn K (.ref (He.ga K x)) "__getattr__") (some none) &&
  (decide (PySem.W.subIn K (.ref (He.ga K x)) (.type "BaseException") = some true) && (PySem.W.hasDictIn K (He.ga K x) && (He.eqO (PySem.W.findIn K (.ref (He.ga K x)) "__class__") (some (some (.builtin "object.__class__"))) &&
  (He.eqO (PySem.W.specialIn K (.builtin "object.__class__") "__get__") (some (some (.builtin "getset_descriptor.__get__"))) && (decide (PySem.W.takesIn K (.builtin "object.__class__") = some true) && decide (PySem.W.mroIn K (He.ga K x) (.type "object") = some true)))))))
theorem ecl_ok {K : PySem.W.Frag} {x : Str} (h : fEcl x K = true) : ExcC K (He.ga K x) := by
  obtain ⟨h1, h⟩ := He.ba h
  obtain ⟨h2, h⟩ := He.ba h
  obtain ⟨h3, h⟩ := He.ba h
  obtain ⟨h4, h⟩ := He.ba h
  obtain ⟨h5, h⟩ := He.ba h
  obtain ⟨h6, h⟩ := He.ba h
  obtain ⟨h7, h8⟩ := He.ba h
  exact ⟨He.eqO_ok h1, He.eqO_ok h2, of_decide_eq_true h3, h4, He.eqO_ok h5, He.eqO_ok h6, of_decide_eq_true h7, of_decide_eq_true h8⟩
theorem kit_ok {K : PySem.W.Frag} {x y : Str} {b : Bool} (h : fKit x y b K = true) : PySem.W.kitOne K (.ref (He.ga K x)) (.ref (He.ga K y)) = some b := of_decide_eq_true h
theorem tup_ok {K : PySem.W.Frag} {x : Str} {vs : List He.Dv} (h : fTup x vs K = true) (H : Hp) : SqT K H (He.ga K x) (vs.map (He.Dv.v K)) := He.tupB_ok (He.ba h).2 H

def Tells (fs : List Fact) (fn : List He.DefD) (K : PySem.W.Frag) : Prop := He.SaysD [] fn K ∧ fs.all (fun f => f K) = true
theorem Tells.fact {fs : List Fact} {fn : List He.DefD} {K : PySem.W.Frag} (c : Tells fs fn K) (i : Nat) {f : Fact} (h : fs[i]? = some f := by rfl) : f K = true := List.all_eq_true.mp c.2 f (List.mem_of_getElem? h)
abbrev AlM : Type := He.AlD × Bool
def lookM (fs : List Fact) (fn : List He.DefD) (K : PySem.W.Frag) : AlM := (He.obsD [] fn K, fs.all fun f => f K)
def obsM (n : Nat) (fs : List Fact) (fn : List He.DefD) (g : Addr → Option Obj) : AlM := lookM fs fn (He.frG g (He.asD g n))
def hookM (n : Nat) (fs : List Fact) (fn : List He.DefD) : PySem.W.Hook where
  α := AlM
  obs := fun s => obsM n fs fn s.heap.get?
  val := fun _ => (He.valD fn, true)
  says := fun _ h => ∃ K : PySem.W.Frag, K.In h ∧ Tells fs fn K
  of := fun _ _ e => ⟨_, He.frG_in, congrArg (fun z : AlM => z.1) e, congrArg (fun z : AlM => z.2) e⟩
  keeps := fun _ _ _ y k => y.elim fun K q => ⟨K, PySem.W.Frag.In.keeps q.1 k, q.2⟩
theorem obsM_eq {n : Nat} {fs : List Fact} {fn : List He.DefD} {g : Addr → Option Obj} {s : Shared} (h : ∀ a, g a = s.heap.get? a) : obsM n fs fn g = (hookM n fs fn).obs s := by
  have e : g = s.heap.get? := funext h
  rw [e]
  rfl

def Top (fs : List Fact) (fn : List He.DefD) (K : PySem.W.Frag) (mg : Str → Option Value) : Prop := ∃ h : Heap, K.In h ∧ h.Ns mainGlobals mg ∧ Tells fs fn K
section
variable {fs : List Fact} {fn : List He.DefD} {K : PySem.W.Frag} {mg : Str → Option Value}
theorem Top.glo (T : Top fs fn K mg) (i : Nat) {x : Str} (h : fs[i]? = some (fGlo x) := by rfl) : mg x = some (.ref (He.ga K x)) := by
  obtain ⟨_, a, b, c⟩ := T
  exact He.glo_ok a b (c.fact i h)
theorem Top.free (T : Top fs fn K mg) (i : Nat) {x : Str} (h : fs[i]? = some (fFree x) := by rfl) : mg x = none := by
  obtain ⟨_, a, b, c⟩ := T
  exact He.free_ok a b (c.fact i h)
theorem Top.int (T : Top fs fn K mg) (i : Nat) {x : Str} {z : Int} (h : fs[i]? = some (fInt x z) := by rfl) : ∃ t, mg x = some (.int z t) := by
  obtain ⟨_, a, b, c⟩ := T
  exact He.int_ok a b (c.fact i h)
theorem Top.cls (T : Top fs fn K mg) (i : Nat) {x : Str} (h : fs[i]? = some (fCls x) := by rfl) : Cls K (He.ga K x) := by
  obtain ⟨_, a, b, c⟩ := T
  exact He.cls_ok (c.fact i h)
theorem Top.noat (T : Top fs fn K mg) (i : Nat) {x f : Str} (h : fs[i]? = some (fNoat x f) := by rfl) : NoAttr K (He.ga K x) f := by
  obtain ⟨_, a, b, c⟩ := T
  exact He.noat_ok (c.fact i h)
theorem Top.meth (T : Top fs fn K mg) (i : Nat) {x m : Str} (h : fs[i]? = some (fMeth x m) := by rfl) : Meth K (He.ga K x) m (He.fAd K (x, some m)) := by
  obtain ⟨_, a, b, c⟩ := T
  exact He.meth_ok (c.fact i h)
theorem Top.mk (T : Top fs fn K mg) (i : Nat) {x : Str} (h : fs[i]? = some (fMk x) := by rfl) : Mk K (He.ga K x) (He.fAd K (x, some "__init__")) := by
  obtain ⟨_, a, b, c⟩ := T
  exact He.mkr_ok (c.fact i h)
theorem Top.exc (T : Top fs fn K mg) (i : Nat) {x : Str} (h : fs[i]? = some (fExc x) := by rfl) : PySem.W.excIn K (He.ga K x) He.veBase "ValueError.__new__" = true ∧ PySem.W.keepIn K (.ref (He.ga K x)) = true ∧ PySem.W.subIn K (.ref (He.ga K x)) (.type "BaseException") = some true ∧ PySem.W.typeIn K (.ref (He.ga K x)) = some (.type "type") := by
  obtain ⟨_, a, b, c⟩ := T
  exact He.exc_ok (c.fact i h)
theorem Top.exm (T : Top fs fn K mg) (i : Nat) {x y : Str} {b : Bool} (h : fs[i]? = some (fExm x y b) := by rfl) : PySem.W.exmOne K (.ref (He.ga K x)) (.ref (He.ga K y)) = some b := by
  obtain ⟨_, _, _, c⟩ := T
  exact He.exm_ok (c.fact i h)
theorem Top.kit (T : Top fs fn K mg) (i : Nat) {x y : Str} {b : Bool} (h : fs[i]? = some (fKit x y b) := by rfl) : PySem.W.kitOne K (.ref (He.ga K x)) (.ref (He.ga K y)) = some b := by
  obtain ⟨_, _, _, c⟩ := T
  exact kit_ok (c.fact i h)
theorem Top.ecl (T : Top fs fn K mg) (i : Nat) {x : Str} (h : fs[i]? = some (fEcl x) := by rfl) : ExcC K (He.ga K x) := by
  obtain ⟨_, _, _, c⟩ := T
  exact ecl_ok (c.fact i h)
theorem Top.tup (T : Top fs fn K mg) (i : Nat) {x : Str} {vs : List He.Dv} (h : fs[i]? = some (fTup x vs) := by rfl) : mg x = some (.ref (He.ga K x)) ∧ ∀ H, SqT K H (He.ga K x) (vs.map (He.Dv.v K)) := by
  obtain ⟨_, a, b, c⟩ := T
  exact ⟨He.glo_ok a b (He.ba (c.fact i h)).1, tup_ok (c.fact i h)⟩
theorem Top.def_ (T : Top fs fn K mg) (i : Nat) {d : He.DefD} (h : fn[i]? = some d := by rfl) : ∃ fd, FunD K d.name d.qual d.params d.body d.scope (d.dvs K) (d.kws K) (He.fAd K d.at_) fd := by
  obtain ⟨_, _, _, c⟩ := T
  exact c.1.def_ i h
end

def dd (at_ : Str × Option Str) (name qual : Str) (s : Stmt) : He.DefD := ⟨at_, name, qual, defArgs s, defBody s, defScope s, [], []⟩

theorem df_of {fs : List Fact} {fn : List He.DefD} {P : Program} {w : World} {K : PySem.W.Frag} {mg : Str → Option Value} {base : Heap} (T : Top fs fn K mg) (i : Nat) {at_ : Str × Option Str} {name qual : Str} {s : Stmt} {N ps : List Str} {k : Nat} {sp : Sp} (h : fn[i]? = some (dd at_ name qual s))
    (S : FnScope N ps (defScope s)) (len : ∀ vs H Q E, sp vs H Q E → vs.length = ps.length)
    (hb : ∀ (kV doc pm : Value) (an : Option Addr) (cdv ct : Value) (us : List Value), us.length = ps.length → bindArgs (PySem.W.fnOf name qual (defArgs s) (defBody s) (defScope s) .none kV doc pm an cdv ct) ⟨us, []⟩ = pure (ps.zip us))
    (hbody : ∀ (cdv : Value) (A : Around) (outer : List Env) (s0 : Shared) (H : Hp) (vs : List V) (Q : VK) (E : XK), Room k (A.deeper (envOfC qual (defScope s) s0.heap.objs.size (He.fAd K at_) cdv)) → sp vs H Q E →
      ∃ t, PSs (cxOf (L2.CX P w) P w K mg base N qual (defScope s) (He.fAd K at_) cdv A outer s0 H E) (defBody s) t ∧ t { nx := fun _ H' => Q .non H', rt := Q } (start N vs) H) : Df P w K mg base (k + 1) at_ ps sp := by
  obtain ⟨fd, F⟩ := T.def_ i h
  exact ⟨⟨fd, FunD.ok (CX := L2.CX P w) F S len hbody, FunD.bindsN F hb⟩, F.kp⟩

theorem df_no {fs : List Fact} {fn : List He.DefD} {P : Program} {w : World} {K : PySem.W.Frag} {mg : Str → Option Value} {base : Heap} (T : Top fs fn K mg) (i : Nat) {at_ : Str × Option Str} {name qual : Str} {s : Stmt} {ps : List Str} (h : fn[i]? = some (dd at_ name qual s))
    (hb : ∀ (kV doc pm : Value) (an : Option Addr) (cdv ct : Value) (us : List Value), us.length = ps.length → bindArgs (PySem.W.fnOf name qual (defArgs s) (defBody s) (defScope s) .none kV doc pm an cdv ct) ⟨us, []⟩ = pure (ps.zip us)) : Df P w K mg base 0 at_ ps (fun _ _ _ _ => False) := by
  obtain ⟨fd, F⟩ := T.def_ i h
  exact ⟨⟨fd, ⟨fun _ _ _ _ z => z.elim, fun _ _ _ _ _ _ _ _ _ _ _ _ _ z => z.elim⟩, FunD.bindsN F hb⟩, F.kp⟩

theorem law_of {fs : List Fact} {fn : List He.DefD} {P : Program} {w : World} {K : PySem.W.Frag} {mg : Str → Option Value} (T : Top fs fn K mg) (i : Nat) {s : Stmt} {N : List Str} {k : Nat} {sp : Sp} (h : fn[i]? = some (dd ("law", none) "law" "law" s))
    (S : FnScope N ["script"] (defScope s)) (len : ∀ vs H Q E, sp vs H Q E → vs.length = 1)
    (hb : ∀ (kV doc pm : Value) (an : Option Addr) (cdv ct : Value) (us : List Value), us.length = 1 → bindArgs (PySem.W.fnOf "law" "law" (defArgs s) (defBody s) (defScope s) .none kV doc pm an cdv ct) ⟨us, []⟩ = pure ([("script" : Str)].zip us))
    (hbody : ∀ (base : Heap) (cdv : Value) (A : Around) (outer : List Env) (s0 : Shared) (H : Hp) (vs : List V) (Q : VK) (E : XK), Room k (A.deeper (envOfC "law" (defScope s) s0.heap.objs.size (He.fAd K ("law", none)) cdv)) → sp vs H Q E →
      ∃ t, PSs (cxOf (L2.CX P w) P w K mg base N "law" (defScope s) (He.fAd K ("law", none)) cdv A outer s0 H E) (defBody s) t ∧ t { nx := fun _ H' => Q .non H', rt := Q } (start N vs) H) :
    ∃ fd, (∀ (s' : Shared) (u : Value), BindsTo s' fd ⟨[u], []⟩ [("script", u)]) ∧ ∀ base : Heap, FnOk P w K mg base (L2.CX P w) (k + 1) (He.fAd K ("law", none)) fd ["script"] sp := by
  obtain ⟨fd, F⟩ := T.def_ i h
  exact ⟨fd, fun s' u => FunD.bindsA (ps := ["script"]) F hb s' [u] rfl, fun base => FunD.ok (CX := L2.CX P w) F S len (hbody base)⟩

theorem law_binds {fs : List Fact} {fn : List He.DefD} {K : PySem.W.Frag} {mg : Str → Option Value} (T : Top fs fn K mg) (i : Nat) {s : Stmt} (h : fn[i]? = some (dd ("law", none) "law" "law" s)) {P : Program} {w : World} {base : Heap} {k : Nat} {sp : Sp}
    (hb : ∀ (kV doc pm : Value) (an : Option Addr) (cdv ct : Value) (us : List Value), us.length = 1 → bindArgs (PySem.W.fnOf "law" "law" (defArgs s) (defBody s) (defScope s) .none kV doc pm an cdv ct) ⟨us, []⟩ = pure ([("script" : Str)].zip us)) :
    ∃ fd, FunD K "law" "law" (defArgs s) (defBody s) (defScope s) [] [] (He.fAd K ("law", none)) fd ∧ ∀ (s' : Shared) (v : Value), BindsTo s' fd ⟨[v], []⟩ [("script", v)] := by
  obtain ⟨fd, F⟩ := T.def_ i h
  exact ⟨fd, F, fun s' v => FunD.bindsA (ps := ["script"]) F hb s' [v] rfl⟩

theorem ends_of {l : PySem.W.OpenLaw} {m k : Nat} {q : Program} {loose : List Str} {XP : (Str → Option Value) → Heap → Prop} {YP : World → Heap → Prop} {d : DefRec} {arg : Str}
    (hm : l.most = some m) (h1 : m ≤ sizeLine) (h2 : d.params.defaults = []) (room : Room k callerA)
    (F : ∀ (w : World) (mg : Str → Option Value) (f : Addr) (h : Heap), YP w h → h.Ns mainGlobals mg → mg d.name = some (.ref f) →
      ∃ (K : PySem.W.Frag) (fd : FuncData) (sp : Sp), K.In h ∧ (∀ (s : Shared) (u : Value), BindsTo s fd ⟨[u], []⟩ [(arg, u)]) ∧
        (∀ (H : Hp) (a : Addr) (ns : List Int), ns.length ≤ m → Only H → SqL K H a (ns.map V.int) → sp [.ref a] H (fun v _ => v = .bl true) fun _ _ _ => False) ∧
        ∀ base : Heap, K.In base → base.Ns mainGlobals mg → FnOk l.prog w K mg base (L2.CX l.prog w) k f fd [arg] sp) :
    PySem.W.WalkO q loose XP YP l.row.toRowW d [] (fun f vs => PySem.call f vs) := by
  refine Att.attach_call hm h2 fun w _ t mg _ f _ _ _ _ a vs ns G Y _ _ _ named script whole few gens => ?_
  obtain ⟨K, fd, sp, inK, binds, told, ok⟩ := F w mg f _ Y G.T.g named
  exact law_call inK G.T.g G.T.b G.T.builtins G.T.nolimit gens script whole (Nat.le_trans few h1) room ok binds (fun H o z => told H a ns few o z) fun H e s' c => by
    obtain ⟨_, _, _, _, _, _, _, _, _, _, _, _, z⟩ := c
    exact z


section
variable {X : Cx} {CX : CXT} {k : Nat} {f C : Addr} {fd : FuncData} {ps : List Str} {sp : Sp} {E : L2.St → XK} {x m : Str} {p pos apos : Pos} {e o : Expr} {es : List Expr} {ta : TE} {t : TA}
def tMakeS (C : Addr) (sp : Sp) (E : L2.St → XK) (t : TA) : TE := fun σ H Q => t σ H fun vs H1 => ∀ y dy, H1 y = none → H1 dy = none → dy ≠ y →
  sp (.ref y :: vs) (upd (upd H1 dy (.own y)) y (.ins C dy [])) (fun v H2 => v = .non ∧ Q (.ref y) H2) (E σ)
def tMethS (C : Addr) (m : Str) (sp : Sp) (E : L2.St → XK) (ta : TE) (t : TA) : TE := fun σ H Q => ta σ H fun y H1 => ∃ q dq gs, y = .ref q ∧ H1 q = some (.ins C dq gs) ∧ gs.lookup m = none ∧
  t σ H1 fun vs H2 => sp (y :: vs) H2 Q (E σ)
theorem made_slots {pins : List (Addr × Obj)} {σ : L2.St} {H : Hp} {s : Shared} {Q : VK} {us : List Value} {vs : List V} (mk : Mk X.K C f) (ok : FnOk X.prog X.w X.K X.mg X.base CX k f fd ps sp) (room : Room (k + 1) X.A) (bd : Binds X.K fd ps [])
    (pass : PassesAt CX X σ (E σ)) (I : Inv X pins σ H s) (rel : Vals vs us) (h : ∀ y dy, H y = none → H dy = none → dy ≠ y → sp (.ref y :: vs) (upd (upd H dy (.own y)) y (.ins C dy [])) (fun v H2 => v = .non ∧ Q (.ref y) H2) (E σ)) :
    wpAny (model X.prog X.w) X.A (call (.ref C) us) (EP X pins σ Q) X.xe s := by
  have new := h (s.heap.objs.size + 1) s.heap.objs.size (I.hok.fresh (Nat.le_succ _)) (I.hok.fresh (Nat.le_refl _)) (Nat.ne_of_lt (Nat.lt_succ_self _))
  have J := Inv.made (C := C) I
  have rel2 : Vals (V.ref (s.heap.objs.size + 1) :: vs) (Value.ref (s.heap.objs.size + 1) :: us) := .cons rfl rel
  have len : ((Value.ref (s.heap.objs.size + 1) :: us) ++ []).length = ps.length := by
    rw [List.append_nil, ← rel2.length]
    exact ok.len _ _ _ _ new
  have bnd := bd _ (Value.ref (s.heap.objs.size + 1) :: us) J.kIn len
  rw [List.append_nil] at bnd
  refine wpAny_call (make_map (f := f) I.kIn mk.makes mk.init (beq_iff_eq.mp mk.fn) (codeAny_mono (ok.run _ X.stack _ _ _ _ _ _ (E σ) (room.make C us []) (J.env0.make C us []) bnd rel2 new) fun r t z => ?_))
  match r, z with
  | .error er, z => exact pass pins _ _ er t J z
  | .ok (.ret w), z =>
    obtain ⟨v, H', I3, rv, ev, q3⟩ := J.after z
    subst ev
    exact ⟨rv, V.ref (s.heap.objs.size + 1), H', I3, rfl, q3⟩
theorem pe_mkS (mk : Mk X.K C f) (ok : FnOk X.prog X.w X.K X.mg X.base CX k f fd ps sp) (room : Room (k + 1) X.A) (hm : X.mg x = some (.ref C)) (bd : Binds X.K fd ps []) (pass : ∀ σ, PassesAt CX X σ (E σ)) (ha : PA X (e :: es) t) (hg : Gl X x := by rfl)
    (hdb : (x == ("__debug__" : Str)) = false := by decide) (he : starEach (e :: es) X.env = (false, eval e X.env) :: starEach es X.env := by rfl) (hpl : (backTo pos (starEach es X.env)).any (·.1) = false := by rfl) : PE X (.Call (.Name x p) (e :: es) [] pos) (tMakeS C sp E t) := by
  constructor
  intro pins s σ H Q I h
  apply wpAny_Call_Name_kw (ld_glob I hg hm ?_ hdb)
  apply PySem.W.callWith_K (h₀ := X.base) I.ok.mod.kin mk.kp (thn (ha.run pos pins s σ H _ I h) fun us s1 z => ?_) he hpl
  obtain ⟨vs, H1, I1, r, q⟩ := z
  exact ⟨I1.kIn, made_slots mk ok room bd (pass σ) I1 r q⟩
theorem pe_mtS {pl : Sem Bool} (ho : PE X o ta) (cl : Cls X.K C) (hm : Meth X.K C m f) (ok : FnOk X.prog X.w X.K X.mg X.base CX k f fd ps sp) (room : Room k X.A) (bd : Binds X.K fd ps []) (pass : ∀ σ, PassesAt CX X σ (E σ)) (ha : PA X (e :: es) t)
    (hst : starEach (e :: es) X.env = (false, eval e X.env) :: starEach es X.env := by rfl) (hpl : (backTo pos (starEach es X.env)).any (·.1) = false := by rfl)
    (ht : eval (.Call (.Attribute o m apos) (e :: es) [] pos) X.env = (do let ov ← eval o X.env; standAt apos.atName; let (g, first) ← holding [ov] (getMethod ov m pl); callWith pos g first (backTo pos (starEach (e :: es) X.env)) (backToKw pos (keywordEach [] X.env))) := by rfl) :
    PE X (.Call (.Attribute o m apos) (e :: es) [] pos) (tMethS C m sp E ta t) := by
  constructor
  intro pins s σ H Q I h
  apply PySem.W.methodCall_KW (pl := pl) (thn (ho.run pins s σ H _ I h) fun u s1 z => ?_) ht
  obtain ⟨y, H1, I1, ry, q, dq, gs, ey, eq, l, z⟩ := z
  subst ey
  obtain rfl : u = Value.ref q := ry
  apply getmeth_ok I1 eq cl hm l
  apply PySem.W.callWith_K (first := [.ref q]) (h₀ := X.base) I.ok.mod.kin hm.kp (thn (ha.run pos pins s1 σ H1 _ I1 z) fun us s2 y => ?_) hst hpl
  obtain ⟨vs, H2, I2, r, q2⟩ := y
  exact ⟨I2.kIn, run_fnS (us := .ref q :: us) (vs := .ref q :: vs) ok room bd (pass σ) I2 (.cons rfl r) q2⟩
end

section
variable {X : Cx} {K : PySem.W.Frag}
theorem ix_seqK (h : X.K = K) : IxR X (rIx K) := h ▸ ix_seq
theorem call_lenK (h : X.K = K) : CallR X (.builtin "len") (rLenU K) := h ▸ call_lenU
theorem op_eqK (h : X.K = K) (hu : X.A.units + 64 < cLine) : OpR X (compareOp .Eq) (rEqD K) := h ▸ op_eqD hu
theorem op_neK (h : X.K = K) (hu : X.A.units + 64 < cLine) : OpR X (compareOp .NotEq) (rNeD K) := h ▸ op_neD hu
end

def rIsX (K : PySem.W.Frag) (a : Addr) (cls : Value) (d : Option Addr) : List V → Hp → VK → Prop := fun xs H Q => ∃ (D : Addr) (c : V) (cv : Value) (b : Bool), ExcC K D ∧ cls = .ref D ∧ d = none ∧ xs = [.ref a, c] ∧ (∀ u, RelV c u → u = cv) ∧ PySem.W.kitOne K (.ref D) cv = some b ∧ Q (.bl b) H
theorem call_isX {X : Cx} {a : Addr} {oe : Obj} {pn : List (Addr × Obj)} {cls : Value} {d : Option Addr} (hz : Zc cls d oe) (hf : ∃ vs, oe.data = .fields vs) : CallR (X.suite a ((a, oe) :: pn)) (.builtin "isinstance") (rIsX X.K a cls d) := by
  intro pins s σ H xs us Q I r h
  obtain ⟨D, c, cv, b, hC, rfl, rfl, h⟩ := h
  exact call_isE hC hz hf pins s σ H xs us Q I r ⟨c, cv, b, h⟩
section
variable {K : PySem.W.Frag} {σ : L2.St} {H : Hp} {i : Nat} {a D C : Addr} {b : Bool}
theorem eb_isX (hv : σ[i]? = some (some (.ref a))) (hC : ExcC K D) (hk : PySem.W.kitOne K (.ref D) (.ref C) = some b) : Eb K (tCB (rIsX K a (.ref D) none) (tCons (tVar i) (tCons (tC (.ref C)) tNil))) σ H b := fun H1 _ Q q =>
  ⟨.ref a, hv, D, .ref C, .ref C, b, hC, rfl, rfl, rfl, fun _ r => r, hk, q _ H1 (Ex.refl H1) (.bl _)⟩
end

section
variable {K : PySem.W.Frag} {σ : L2.St} {H H' : Hp} {ta tb tc te tl : TE} {t : TT} {tu tw tz : TS} {D : Ends} {tr : TA} {as : List Av} {sp : Sp} {E : XK} {ES : L2.St → XK} {C p dx : Addr} {fs : List (Str × V)} {m : Str}

theorem te_make {Q : VK} (ha : Ea K tr σ H as) (hs : ∀ vs H1 y dy, Ex H H1 → RlA K H1 vs as → H1 y = none → H1 dy = none → dy ≠ y → sp (.ref y :: vs) (upd (upd H1 dy (.own y)) y (.ins C dy [])) (fun v H2 => v = .non ∧ Q (.ref y) H2) E) :
    tMake C sp [] E tr σ H Q := ha H (Ex.refl H) _ fun vs H1 e r y dy hy hd hne => by
  rw [List.append_nil]
  exact hs vs H1 y dy e r hy hd hne
theorem te_makeS {Q : VK} (ha : Ea K tr σ H as) (hs : ∀ vs H1 y dy, Ex H H1 → RlA K H1 vs as → H1 y = none → H1 dy = none → dy ≠ y → sp (.ref y :: vs) (upd (upd H1 dy (.own y)) y (.ins C dy [])) (fun v H2 => v = .non ∧ Q (.ref y) H2) (ES σ)) :
    tMakeS C sp ES tr σ H Q := ha H (Ex.refl H) _ fun vs H1 e r y dy hy hd hne => hs vs H1 y dy e r hy hd hne
theorem te_call {Q : VK} (ha : Ea K tr σ H as) (hs : ∀ vs H1, Ex H H1 → RlA K H1 vs as → sp vs H1 Q E) : tCall sp [] E tr σ H Q := ha H (Ex.refl H) _ fun vs H1 e r => by
  rw [List.append_nil]
  exact hs vs H1 e r
theorem te_callS {Q : VK} (ha : Ea K tr σ H as) (hs : ∀ vs H1, Ex H H1 → RlA K H1 vs as → sp vs H1 Q (ES σ)) : tCallS sp ES tr σ H Q := ha H (Ex.refl H) _ fun vs H1 e r => hs vs H1 e r
theorem te_meth {Q : VK} (ho : Eg K ta σ H (.v (.ref p))) (hp : H p = some (.ins C dx fs)) (hm : fs.lookup m = none) (ha : Ea K tr σ H as) (hs : ∀ vs H1, Ex H H1 → RlA K H1 vs as → sp (.ref p :: vs) H1 Q E) : tMeth C m sp [] E ta tr σ H Q := ho H (Ex.refl H) _ fun v H1 e1 hv => by
  cases hv
  refine ⟨p, dx, fs, rfl, e1 _ _ hp, hm, ha H1 e1 _ fun vs H2 e2 r => ?_⟩
  rw [List.append_nil]
  exact hs vs H2 (e1.trans e2) r
theorem te_methS {Q : VK} (ho : Eg K ta σ H (.v (.ref p))) (hp : H p = some (.ins C dx fs)) (hm : fs.lookup m = none) (ha : Ea K tr σ H as) (hs : ∀ vs H1, Ex H H1 → RlA K H1 vs as → sp (.ref p :: vs) H1 Q (ES σ)) : tMethS C m sp ES ta tr σ H Q := ho H (Ex.refl H) _ fun v H1 e1 hv => by
  cases hv
  exact ⟨p, dx, fs, rfl, e1 _ _ hp, hm, ha H1 e1 _ fun vs H2 e2 r => hs vs H2 (e1.trans e2) r⟩

theorem made_ex {y dy : Addr} (hy : H y = none) (hd : H dy = none) (hne : dy ≠ y) : Ex H (upd (upd H dy (.own y)) y (.ins C dy [])) := (Ex.new hd).trans (Ex.new (by rw [upd_ne hne.symm]; exact hy))
end


def rRepX (K : PySem.W.Frag) : R2 := fun x y H Q => ∃ (l : Addr) (k : Int) (xs : List V), x = .ref l ∧ y = .int k ∧ SqT K H l xs ∧ xs ≠ [] ∧ 2 ≤ k ∧ ((xs.length : Nat) : Int) * k ≤ 1000000 ∧ ∀ p, H p = none → Q (.ref p) (upd H p (.tup (List.replicate k.toNat xs).flatten))
theorem op_repX {X : Cx} : OpR X (binaryOp .Mult) (rRepX X.K) := by
  intro pins s σ H x y v u Q I rx ry h
  obtain ⟨l, k, xs, rfl, rfl, hT, hne, h1, h2, q⟩ := h
  cases rx
  obtain ⟨t, rfl⟩ := ry
  obtain ⟨its, r, ⟨⟨c, dd, dt, sl⟩, ho, hc, n, hd⟩, _⟩ := I.tuple hT
  dsimp only at hc hd
  subst hc hd
  have len : xs.length = its.length := r.length
  have pos : 0 < xs.length := List.length_pos_iff.mpr hne
  have big : k ≤ 1000000 := by
    have : 1 * k ≤ ((xs.length : Nat) : Int) * k := Int.mul_le_mul_of_nonneg_right (by omega) (by omega)
    omega
  have flat : (List.replicate k.toNat its).flatten.length = k.toNat * xs.length := by rw [PyProof.Rows.lm_len_rep_flat, len]
  have small : k.toNat * xs.length ≤ 1000000 := by
    have e : ((k.toNat * xs.length : Nat) : Int) = ((xs.length : Nat) : Int) * k := by
      rw [Int.natCast_mul, Int.toNat_of_nonneg (by omega), Int.mul_comm]
    omega
  have nonempty : its.toArray.isEmpty = false := by
    cases its with
    | nil => rw [List.length_nil] at len; omega
    | cons _ _ => rfl
  have size : its.toArray.size = xs.length := by rw [List.size_toArray, len]
  have room : (List.replicate k.toNat its).flatten.length ≤ sizeLine := by rw [flat, sizeLine_eq]; omega
  have mulW := tuple_mulW l its.toArray n dd sl k t (by rw [decide_eq_false (by omega), decide_eq_false (by omega)]; rfl) (by rw [nonempty, Bool.false_or]; exact beq_eq_false_iff_ne.mpr (by omega)) (by rw [nonempty, Bool.or_false]; exact decide_eq_false (by omega))
    (by rw [size]; omega) (by rw [size]; unfold Builtin.Tuple.tupleTooMany; rw [sizeLine_eq]; exact decide_eq_false (by omega)) (by rw [size_rep, List.size_toArray]; exact room)
  refine wpAny_binaryOp_repeat_ref (T := "tuple") (U := "int") (by decide) ⟨_, ho, rfl⟩ (fun s' => typeIs_int s' k t) noFill_tuple_mul PySem.F.fills_int_mul PySem.F.slot_int_rmul repeat_tuple PySem.F.slot_int_index.lookup ?_
  refine call_meets PySem.F.slot_int_rmul (typeIs_int s k t) PySem.F.entry_int_rmul (PySem.F.args_int_rmul_2 _ _) (int_rmul_tuple k t l its.toArray n dd sl) ⟨ho, rfl, ⟨_, ho, rfl⟩, ?_⟩
  refine call_meets PySem.F.slot_tuple_mul ⟨_, ho, rfl⟩ PySem.F.entry_tuple_mul (PySem.F.args_tuple_mul_2 _ _) mulW ⟨ho, ?_⟩
  rw [size_rep]
  have J := I.laid (t' := s.toks) (o := .tup (List.replicate k.toNat xs).flatten) (fun b ob z => Heap.get?_push_of_some { cls := .type "tuple", data := .seq (List.replicate k.toNat its).flatten.toArray } z) (Nat.le_refl _) ⟨by rw [PyProof.Rows.lm_len_rep_flat, sizeLine_eq]; omega, _, r.rep k.toNat, IsTup.new _ _⟩
  exact ⟨.ref s.heap.objs.size, _, J, rfl, q _ (I.hok.fresh (Nat.le_refl _))⟩
section
variable {K : PySem.W.Frag} {σ : L2.St} {H H' : Hp} {ta tb te : TE} {ds : List PyData} {n : Int}
theorem ed_repT (ha : Ed K ta σ H (.tuple ds)) (hb : Ei K tb σ H n) (hne : ds ≠ []) (h2 : 2 ≤ n) (hl : ((ds.length : Nat) : Int) * n ≤ 1000000) : Ed K (tOp (rRepX K) ta tb) σ H (.tuple (List.replicate n.toNat ds).flatten) := ed_op ha hb fun x y H1 _ hx hy Q q => by
  obtain ⟨p, xs, rfl, hs, hd⟩ := L2.Dp.tup_inv hx
  cases L2.Dp.int_inv hy
  have len := L2.DpAll.length hd
  refine ⟨p, n, xs, rfl, rfl, hs, fun z => hne (by subst z; cases hd; rfl), h2, by rw [len]; exact hl, fun l hl => q _ _ (Ex.new hl) (.tup (st_of upd_same) (L2.DpAll.mono (Ex.new hl) (DpAll.rep' hd _)))⟩
theorem rep_one {α : Type} (n : Nat) (x : α) : (List.replicate n [x]).flatten = List.replicate n x := by
  induction n with
  | zero => rfl
  | succ n ih => simp [List.replicate_succ, ih]
end
section
variable {X : Cx} {K : PySem.W.Frag}
theorem pe_fldK (h : X.K = K) {e : Expr} {f : Str} {pos : Pos} {ta : TE} (he : PE X e ta) (hb : attributeBase e f X.env (eval e X.env) = eval e X.env) : PE X (.Attribute e f pos) (tFld K ta f) := h ▸ pe_fld he hb
theorem sl_uniK (h : X.K = K) : SlR X (rSlU K) := h ▸ sl_uni
theorem op_catAK (h : X.K = K) : OpR X (binaryOp .Add) (rCatA K) := h ▸ op_catA
theorem op_repXK (h : X.K = K) : OpR X (binaryOp .Mult) (rRepX K) := h ▸ op_repX
theorem call_isiK (h : X.K = K) : CallR X (.builtin "isinstance") (rIsi K) := h ▸ call_isi
theorem call_tupOfK (h : X.K = K) : CallR X (.type "tuple") (rTupOf K) := h ▸ call_tupOf
theorem call_listOfK (h : X.K = K) : CallR X (.type "list") (rListOf K) := h ▸ call_listOf
end

section
variable {K : PySem.W.Frag} {σ : L2.St} {H H' : Hp} {ta tb tc te tl : TE} {tz : TS} {D : Ends} {tr : TA} {as : List Av} {sp : Sp} {E : XK} {C p dx : Addr} {fs : List (Str × V)} {m : Str} {i : Nat}
theorem q_setCall (ha : Ea K tr σ H as) (hs : ∀ vs H1, Ex H H1 → RlA K H1 vs as → sp vs H1 (fun v H2 => tz D (σ.set i (some v)) H2) E) : tSeq (tAsg (tCall sp [] E tr) (gName i)) tz D σ H := te_call ha hs
theorem q_setMeth (ho : Eg K ta σ H (.v (.ref p))) (hp : H p = some (.ins C dx fs)) (hm : fs.lookup m = none) (ha : Ea K tr σ H as) (hs : ∀ vs H1, Ex H H1 → RlA K H1 vs as → sp (.ref p :: vs) H1 (fun v H2 => tz D (σ.set i (some v)) H2) E) :
    tSeq (tAsg (tMeth C m sp [] E ta tr) (gName i)) tz D σ H := te_meth ho hp hm ha hs
theorem q_setMake (ha : Ea K tr σ H as) (hs : ∀ vs H1 y dy, Ex H H1 → RlA K H1 vs as → H1 y = none → H1 dy = none → dy ≠ y → sp (.ref y :: vs) (upd (upd H1 dy (.own y)) y (.ins C dy [])) (fun v H2 => v = .non ∧ tz D (σ.set i (some (.ref y))) H2) E) :
    tSeq (tAsg (tMake C sp [] E tr) (gName i)) tz D σ H := te_make (Q := fun v H2 => tz D (σ.set i (some v)) H2) ha hs
theorem q_cut {t : TS} (Mid : L2.St → Hp → Prop) (h : t { D with nx := Mid } σ H) (k : ∀ σ' H', Mid σ' H' → tz D σ' H') : Evl.tCut t tz D σ H := ⟨Mid, h, k⟩

theorem lst_upd {l p : Addr} {xs ys zs : List V} {ds : List PyData} (hp : H p = some (.lst xs)) (hl : H l = some (.lst ys)) (hne : p ≠ l) (hd : DpAll K H xs ds) (ht : tupOA ds = true) : (upd H l (.lst zs)) p = some (.lst xs) ∧ DpAll K (upd H l (.lst zs)) xs ds :=
  ⟨by rw [upd_ne hne]; exact hp, L2.DpAll.tx (Tx.lst hl) hd ht⟩
end
end Al

namespace Sm
open PySem L2 Evl Al PySem.Spec PyProof.Rows
mutual
inductive NkV (K : PySem.W.Frag) (H : Hp) : V → NestedKey → Prop
  | non : NkV K H .non .none
  | bl (b : Bool) : NkV K H (.bl b) (.num (if b = true then 1 else 0))
  | int (i : Int) : NkV K H (.int i) (.num i)
  | str (x : Str) : NkV K H (.str x) (.text x)
  | tup {a : Addr} {xs : List V} {ks : List NestedKey} : SqT K H a xs → NkA K H xs ks → NkV K H (.ref a) (.tup ks)
inductive NkA (K : PySem.W.Frag) (H : Hp) : List V → List NestedKey → Prop
  | nil : NkA K H [] []
  | cons {v : V} {vs : List V} {k : NestedKey} {ks : List NestedKey} : NkV K H v k → NkA K H vs ks → NkA K H (v :: vs) (k :: ks)
end
mutual
theorem NkV.tx {K : PySem.W.Frag} {H H' : Hp} (e : Tx H H') : ∀ {v : V} {k : NestedKey}, NkV K H v k → NkV K H' v k
  | _, _, .non => .non
  | _, _, .bl b => .bl b
  | _, _, .int i => .int i
  | _, _, .str x => .str x
  | _, _, .tup h a => .tup (tx_t e h) (NkA.tx e a)
theorem NkA.tx {K : PySem.W.Frag} {H H' : Hp} (e : Tx H H') : ∀ {vs : List V} {ks : List NestedKey}, NkA K H vs ks → NkA K H' vs ks
  | _, _, .nil => .nil
  | _, _, .cons h t => .cons (NkV.tx e h) (NkA.tx e t)
end
section
variable {X : Cx} {pins : List (Addr × Obj)} {σ : L2.St} {H : Hp} {s : Shared}
mutual
theorem nk_is (I : Inv X pins σ H s) : ∀ {v : V} {k : NestedKey} {u : Value}, NkV X.K H v k → RelV v u → NestedIs s.heap k u
  | _, _, _, .non, r => by cases r; exact .none
  | _, _, _, .bl b, r => by cases r; exact .bool rfl
  | _, _, _, .int i, r => by obtain ⟨t, rfl⟩ := r; exact .int i t
  | _, _, _, .str x, r => by obtain ⟨t, rfl⟩ := r; exact .text x t
  | _, _, _, .tup h a, r => by
    cases r
    obtain ⟨its, r, ⟨o, ho, hc, n, hd⟩, _⟩ := I.tuple h
    exact .tup ho hc hd (by simpa using nk_all I a r)
theorem nk_all (I : Inv X pins σ H s) : ∀ {vs : List V} {ks : List NestedKey} {us : List Value}, NkA X.K H vs ks → Vals vs us → NestedAll s.heap ks us
  | _, _, _, .nil, r => by cases r; exact .nil
  | _, _, _, .cons h t, r => by
    cases r with
    | cons r1 r2 => exact .cons (nk_is I h r1) (nk_all I t r2)
end
end
abbrev Ent : Type := NestedKey × Addr × V
def valN (es : List Ent) (k : NestedKey) : Option V := (es.find? fun e => decide (e.1 = k)).map (·.2.2)
def putN (es : List Ent) (k : NestedKey) (b : Addr) (v : V) : List Ent := if (valN es k).isSome = true then es.map (fun e => if e.1 = k then (e.1, e.2.1, v) else e) else es ++ [(k, b, v)]
abbrev RelN : List Ent → List (NestedKey × Addr × Value) → Prop := Paired fun p q => p.1 = q.1 ∧ p.2.1 = q.2.1 ∧ RelV p.2.2 q.2.2
def dnP (w : World) (a : Addr) (es : List Ent) : Heap → Prop := fun h => es.length ≤ sizeLine ∧ (a == sysModules) = false ∧ (es.map (·.1)).Nodup ∧ ∃ xs : List (NestedKey × Addr × Value), RelN es xs ∧
  ∃ o ds ep, h.get? a = some o ∧ o.ExactDict ∧ o.data = .dict ds ep ∧ ds.toList = xs.map fun x => (⟨x.1.hash w, .ref x.2.1, x.2.2⟩ : DictEntry)
def dN (w : World) (a : Addr) (es : List Ent) : HO := .ext (dnP w a es)
theorem RelN.keys {es : List Ent} {xs : List (NestedKey × Addr × Value)} (r : RelN es xs) : es.map (·.1) = xs.map (·.1) := by
  induction r with
  | nil => rfl
  | cons h t ih => rw [List.map_cons, List.map_cons, ih, h.1]
theorem RelN.len {es : List Ent} {xs : List (NestedKey × Addr × Value)} (r : RelN es xs) : es.length = xs.length := Paired.length r
theorem valN_pos {p : Ent} {r : List Ent} {k : NestedKey} (e : p.1 = k) : valN (p :: r) k = some p.2.2 := by simp [valN, List.find?_cons, e]
theorem valN_neg {p : Ent} {r : List Ent} {k : NestedKey} (e : ¬ p.1 = k) : valN (p :: r) k = valN r k := by simp [valN, List.find?_cons, e]
theorem RelN.val {es : List Ent} {xs : List (NestedKey × Addr × Value)} (r : RelN es xs) (k : NestedKey) : RelO (valN es k) ((atKey xs k).map (·.2)) := by
  induction r with
  | nil => exact True.intro
  | @cons p q ps qs h t ih =>
    obtain ⟨h1, _, h2⟩ := h
    by_cases e : p.1 = k
    · have e' : q.1 = k := h1.symm.trans e
      have b : atKey (q :: qs) k = some q.2 := by simp [atKey, List.find?_cons, e']
      rw [valN_pos e, b]; exact h2
    · have e' : ¬ q.1 = k := fun z => e (h1.trans z)
      have b : atKey (q :: qs) k = atKey qs k := by simp [atKey, List.find?_cons, e']
      rw [valN_neg e, b]; exact ih
theorem RelN.repl {es : List Ent} {xs : List (NestedKey × Addr × Value)} (r : RelN es xs) (k : NestedKey) {y : V} {u : Value} (ry : RelV y u) :
    RelN (es.map fun e => if e.1 = k then (e.1, e.2.1, y) else e) (xs.map (putAt k u)) := by
  induction r with
  | nil => exact .nil
  | @cons p q ps qs h t ih =>
    rw [List.map_cons, List.map_cons]
    refine .cons ?_ ih
    obtain ⟨h1, h2, h3⟩ := h
    unfold putAt
    by_cases e : p.1 = k
    · rw [if_pos e, if_pos (h1.symm.trans e)]; exact ⟨h1, h2, ry⟩
    · rw [if_neg e, if_neg (fun z => e (h1.trans z))]; exact ⟨h1, h2, h3⟩
theorem RelN.put {es : List Ent} {xs : List (NestedKey × Addr × Value)} (r : RelN es xs) (k : NestedKey) (b : Addr) {y : V} {u : Value} (ry : RelV y u) : RelN (putN es k b y) (storedH xs k b u) := by
  have e : (valN es k).isSome = (atKey xs k).isSome := by rw [(r.val k).isSome_eq, Option.isSome_map]
  unfold putN storedH
  rw [e]
  by_cases q : (atKey xs k).isSome = true
  · rw [if_pos q, if_pos q]; exact r.repl k ry
  · rw [if_neg q, if_neg q]; exact Paired.snoc r ⟨rfl, rfl, ry⟩
theorem length_putN (es : List Ent) (k : NestedKey) (b : Addr) (v : V) : (putN es k b v).length ≤ es.length + 1 := by
  unfold putN
  split
  · rw [List.length_map]; omega
  · rw [List.length_append, List.length_cons, List.length_nil]; omega
def KeysOk (K : PySem.W.Frag) (H : Hp) (es : List Ent) : Prop := ∀ e ∈ es, NkV K H (.ref e.2.1) e.1 ∧ e.1.depth ≤ 8
theorem KeysOk.tx {K : PySem.W.Frag} {H H' : Hp} {es : List Ent} (h : KeysOk K H es) (e : Tx H H') : KeysOk K H' es := fun x hx => ⟨(h x hx).1.tx e, (h x hx).2⟩

def KeyAt (K : PySem.W.Frag) (H : Hp) (y : V) (b : Addr) (k : NestedKey) : Prop := y = .ref b ∧ NkV K H (.ref b) k ∧ k.depth ≤ 8
section
variable {X : Cx} {pins : List (Addr × Obj)} {σ : L2.St} {H : Hp} {s : Shared} {w : World} {a b : Addr} {es : List Ent} {k : NestedKey} {y v : V} {u r : Value} {A : Around} {E : Value → Shared → Prop}
theorem key_isN (I : Inv X pins σ H s) (h : NkV X.K H (.ref b) k) (hd : k.depth ≤ 8) : (nestedKind X.prog X.w).is s.heap k b := ⟨nk_is I h rfl, hd⟩
theorem dn_at (I : Inv X pins σ H s) (hw : X.w = w) (e : H a = some (dN w a es)) (ks : KeysOk X.K H es) : es.length ≤ sizeLine ∧ (a == sysModules) = false ∧ ∃ xs, RelN es xs ∧ s.heap.DictOfH (nestedKind X.prog X.w) a xs := by
  subst hw
  obtain ⟨⟨z, hd, nd, xs, rel, o, ds, ep, h1, h2, h3, h4⟩, _, _⟩ := (show ObjOk X.prog X.w H s.heap a (.ext (dnP X.w a es)) from I.hok a _ e)
  refine ⟨z, hd, xs, rel, o, ds, ep, h1, h2, h3, h4, ?_, by rw [← rel.keys]; exact nd⟩
  have all : ∀ {l : List Ent} {m : List (NestedKey × Addr × Value)}, RelN l m → (∀ e ∈ l, NkV X.K H (.ref e.2.1) e.1 ∧ e.1.depth ≤ 8) → ∀ x ∈ m, (nestedKind X.prog X.w).is s.heap x.1 x.2.1 := by
    intro l m q
    induction q with
    | nil => intro _ x hx; exact nomatch hx
    | @cons p q ps qs hq t ih =>
      intro ha x hx
      rcases List.mem_cons.mp hx with e | hx
      · subst e
        have := ha p (by simp)
        rw [← hq.1, ← hq.2.1]
        exact key_isN I this.1 this.2
      · exact ih (fun e he => ha e (by simp [he])) x hx
  exact all rel ks
theorem nroom {P : Program} {w : World} (hu : A.units + 64 < cLine) : (nestedKind P w).room A.in1 := by
  show A.in1.units + 8 < cLine
  show A.units + 1 + 8 < cLine
  omega
theorem dn_get {Q : Value → Shared → Prop} (hu : A.units + 64 < cLine) (I : Inv X pins σ H s) (hw : X.w = w) (e : H a = some (dN w a es)) (ks : KeysOk X.K H es) (hk : KeyAt X.K H y b k) (l : valN es k = some v) (ry : RelV y u)
    (h : ∀ w' s', Inv X pins σ H s' → RelV v w' → Q w' s') : wpAny (model X.prog X.w) A (getItem (.ref a) u) Q E s := by
  obtain ⟨rfl, nk, dk⟩ := hk
  cases (show u = Value.ref b from ry)
  obtain ⟨z, hd, xs, rel, dd⟩ := dn_at I hw e ks
  obtain ⟨w', hw', rw'⟩ := RelO.some_of (v := v) (o := (atKey xs k).map (·.2)) (by rw [← l]; exact rel.val k)
  obtain ⟨p, hp, hp2⟩ := Option.map_eq_some_iff.mp hw'
  refine wpAny_getItem_heap (nroom hu) (key_isN I nk dk) dd hp ?_
  rw [hp2]
  exact h w' _ (I.tok _) rw'
theorem dn_in {Q : Value → Shared → Prop} (hu : A.units + 64 < cLine) (I : Inv X pins σ H s) (hw : X.w = w) (e : H a = some (dN w a es)) (ks : KeysOk X.K H es) (hk : KeyAt X.K H y b k) (ry : RelV y u)
    (h : ∀ s', Inv X pins σ H s' → Q (.bool (valN es k).isSome) s') : wpAny (model X.prog X.w) A (compareOp .In u (.ref a)) Q E s := by
  obtain ⟨rfl, nk, dk⟩ := hk
  cases (show u = Value.ref b from ry)
  obtain ⟨z, hd, xs, rel, dd⟩ := dn_at I hw e ks
  refine wpAny_in_heap (nroom hu) (key_isN I nk dk) hd dd ?_
  have q := (rel.val k).isSome_eq
  rw [Option.isSome_map] at q
  rw [← q]
  exact h _ (I.tok _)
theorem dn_nin {Q : Value → Shared → Prop} (hu : A.units + 64 < cLine) (I : Inv X pins σ H s) (hw : X.w = w) (e : H a = some (dN w a es)) (ks : KeysOk X.K H es) (hk : KeyAt X.K H y b k) (ry : RelV y u)
    (h : ∀ s', Inv X pins σ H s' → Q (.bool (!(valN es k).isSome)) s') : wpAny (model X.prog X.w) A (compareOp .NotIn u (.ref a)) Q E s := by
  obtain ⟨rfl, nk, dk⟩ := hk
  cases (show u = Value.ref b from ry)
  obtain ⟨z, hd, xs, rel, dd⟩ := dn_at I hw e ks
  refine wpAny_notIn_heap (nroom hu) (key_isN I nk dk) hd dd ?_
  have q := (rel.val k).isSome_eq
  rw [Option.isSome_map] at q
  rw [← q]
  exact h _ (I.tok _)
theorem putN_nodup (h : (es.map (·.1)).Nodup) : ((putN es k b v).map (·.1)).Nodup := by
  unfold putN
  split
  · rw [List.map_map]
    rw [show (es.map ((fun e : Ent => e.1) ∘ fun e : Ent => if e.1 = k then (e.1, e.2.1, v) else e)) = es.map (·.1) from List.map_congr_left fun e _ => by show (if e.1 = k then _ else _ : Ent).1 = e.1; split <;> rfl]
    exact h
  · rename_i hn
    rw [List.map_append, List.nodup_append]
    refine ⟨h, by simp, fun x hx y hy e => ?_⟩
    simp only [List.map_cons, List.map_nil, List.mem_singleton] at hy
    subst hy
    subst e
    obtain ⟨p, hp, he⟩ := List.mem_map.mp hx
    apply hn
    unfold valN
    rw [Option.isSome_map, List.find?_isSome]
    exact ⟨p, hp, decide_eq_true he⟩
theorem dn_new {P : Program} {w : World} {H' : Hp} {h' : Heap} {xs : List (NestedKey × Addr × Value)} (z : es.length ≤ sizeLine) (hd : (a == sysModules) = false) (nd : (es.map (·.1)).Nodup) (rel : RelN es xs)
    (dd : ∃ o ds ep, h'.get? a = some o ∧ o.ExactDict ∧ o.data = .dict ds ep ∧ ds.toList = xs.map fun x => (⟨x.1.hash w, .ref x.2.1, x.2.2⟩ : DictEntry)) : ObjOk P w H' h' a (dN w a es) := by
  obtain ⟨o, ds, ep, h1, h2, h3, h4⟩ := dd
  exact ⟨⟨z, hd, nd, xs, rel, o, ds, ep, h1, h2, h3, h4⟩, ⟨o, h1⟩, fun g1 g2 ⟨y1, y2, y3, ys, y4, p, es', ep', q1, q2, q3, q4⟩ st => ⟨y1, y2, y3, ys, y4, p, es', ep', st p q1, q2, q3, q4⟩⟩
theorem dn_set {Q : Unit → Shared → Prop} (hu : A.units + 64 < cLine) (I : Inv X pins σ H s) (hw : X.w = w) (e : H a = some (dN w a es)) (ks : KeysOk X.K H es) (hl : es.length < sizeLine) (hk : KeyAt X.K H y b k) (ry : RelV y u) (rv : RelV v r)
    (h : ∀ s', Inv X pins σ (upd H a (dN w a (putN es k b v))) s' → Q () s') : wpAny (model X.prog X.w) A (setItem (.ref a) u r) Q E s := by
  obtain ⟨rfl, nk, dk⟩ := hk
  cases (show u = Value.ref b from ry)
  obtain ⟨z, hd, xs, rel, dd⟩ := dn_at I hw e ks
  have hz : xs.length ≤ sizeLine := by rw [← rel.len]; exact z
  have nd : (es.map (·.1)).Nodup := by rw [rel.keys]; exact dd.nodup
  refine wpAny_setItem_heap (hsz := hz) (nroom hu) (key_isN I nk dk) dd fun h' dd' hs => h _ ?_
  obtain ⟨q, ds, ep, hq, h2, h3, h4, _, h5⟩ := dd'
  subst hw
  refine d_write I (by rw [e]; exact True.intro) hs ⟨q, hq⟩ ?_
  exact dn_new (by have := length_putN es k b v; omega) hd (putN_nodup nd) (rel.put k b rv) ⟨q, ds, ep, hq, h2, h3, h4⟩
theorem dn_raw (I : Inv X pins σ H s) (e : H a = some (dN w a es)) : es.length ≤ sizeLine ∧ (a == sysModules) = false ∧ ∃ ds ep, s.heap.DictRaw a ds ep ∧ ds.size = es.length := by
  obtain ⟨⟨z, hd, nd, xs, rel, o, ds, ep, h1, h2, h3, h4⟩, _, _⟩ := (show ObjOk X.prog X.w H s.heap a (.ext (dnP w a es)) from I.hok a _ e)
  refine ⟨z, hd, ds, ep, ⟨o, h1, h2, h3⟩, ?_⟩
  rw [← Array.length_toList, h4, List.length_map, rel.len]
theorem dn_len {Q : Value → Shared → Prop} (I : Inv X pins σ H s) (e : H a = some (dN w a es)) (h : ∀ t s', Inv X pins σ H s' → Q (.int es.length t) s') : wpAny (model X.prog X.w) A (call (.builtin "len") [.ref a]) Q E s := by
  obtain ⟨z, hd, ds, ep, dd, hz⟩ := dn_raw I e
  refine PyProof.Rows.call_len_slot (n := es.length) dd.typeIs F.slot_dict_len (fun Q' hq => call_len_raw hd dd (by rw [hz]; exact hq)) (by omega) (by rw [sizeLine_eq] at z; omega) ?_
  exact h _ _ ((I.tok _).tok _)
theorem dn_empty {P : Program} {w : World} {H : Hp} (h : Heap) (hb : sysModules < h.objs.size) : ObjOk P w H (h.push { cls := .type "dict", data := .dict #[] }) h.objs.size (dN w h.objs.size []) :=
  dn_new (Nat.zero_le _) (beq_eq_false_iff_ne.mpr (Ne.symm (Nat.ne_of_lt hb))) List.nodup_nil (xs := []) .nil ⟨_, #[], 0, Heap.get?_push_size _ rfl, ⟨rfl, rfl, rfl⟩, rfl, rfl⟩
end

def rIxN (K : PySem.W.Frag) (w : World) : R2 := fun x y H Q => ∃ a es b k v, x = .ref a ∧ H a = some (dN w a es) ∧ KeysOk K H es ∧ KeyAt K H y b k ∧ valN es k = some v ∧ Q v H

def rIxJ : R2 := fun x y H Q => ∃ a v, x = .ref a ∧ DGet H a y (some v) ∧ Q v H
def rInJ (neg : Bool) : R2 := fun x y H Q => ∃ a o, y = .ref a ∧ DGet H a x o ∧ Q (.bl (if neg then !o.isSome else o.isSome)) H
def rIxW (K : PySem.W.Frag) (w : World) : R2 := fun x y H Q => rIx K x y H Q ∨ (rIxN K w x y H Q ∨ rIxJ x y H Q)
def rInN (K : PySem.W.Frag) (w : World) (neg : Bool) : R2 := fun x y H Q => ∃ a es b k, y = .ref a ∧ H a = some (dN w a es) ∧ KeysOk K H es ∧ KeyAt K H x b k ∧ Q (.bl (if neg then !(valN es k).isSome else (valN es k).isSome)) H

def rInD (K : PySem.W.Frag) (neg : Bool) : R2 := fun x y H Q => ∃ (ps : List PyData) (p : PyData), (Dp K H y (.list ps) ∨ Dp K H y (.tuple ps)) ∧ Dp K H x p ∧ p.canLay0 = true ∧ p.depth ≤ 60 ∧ PyData.canLayAll0 ps = true ∧ Q (.bl (if neg then !(ps.any fun q => PyData.eqv q p) else ps.any fun q => PyData.eqv q p)) H
def rInW (K : PySem.W.Frag) (w : World) (neg : Bool) : R2 := fun x y H Q => rIn K neg x y H Q ∨ (rInN K w neg x y H Q ∨ (rInD K neg x y H Q ∨ rInJ neg x y H Q))
def rLenW (K : PySem.W.Frag) (w : World) : List V → Hp → VK → Prop := fun xs H Q => rLenU K xs H Q ∨ (∃ a es, xs = [.ref a] ∧ H a = some (dN w a es) ∧ Q (.int es.length) H) ∨ ∃ a kvs, xs = [.ref a] ∧ Rd H a (.dK kvs) ∧ Q (.int (kvs.length : Nat)) H
def tNewN (w : World) : TE := fun _ H Q => ∀ p, H p = none → Q (.ref p) (upd H p (dN w p []))
def sPutN (K : PySem.W.Frag) (w : World) (td ty tv : TE) : TS := fun D σ H => tv σ H fun v H1 => td σ H1 fun x H2 => ty σ H2 fun y H3 => ∃ a es b k, x = .ref a ∧ H3 a = some (dN w a es) ∧ KeysOk K H3 es ∧ es.length < sizeLine ∧ KeyAt K H3 y b k ∧ D.nx σ (upd H3 a (dN w a (putN es k b v)))
section
variable {X : Cx} {K : PySem.W.Frag} {w : World} {o i value : Expr} {pos pos' : Pos} {td ty tv : TE}
theorem ix_dict (hw : X.w = w) (hu : X.A.units + 64 < cLine) : IxR X (rIxN X.K w) := by
  intro value slice pins s σ H x y v u Q I rx ry h hs
  obtain ⟨a, es, b, k, z, rfl, e, ks, hk, l, q⟩ := h
  cases rx
  obtain ⟨_, _, ds, ep, raw, _⟩ := dn_raw I e
  have hT := raw.typeIs
  unfold subscriptTail
  refine wpAny_bind ?_
  rw [getitemInPython_of_ne hT.not_modules]
  refine wpAny_bind (wpAny_specialOf hT PySem.F.slot_dict_getitem.lookup ?_)
  have fin : wpAny (model X.prog X.w) X.A (subscripted slice false (.ref a) u) (fun r s₃ => wpAny (model X.prog X.w) X.A (letTemporaryGo value (.ref a) r >>= fun _ => pure r) (EP X pins σ Q) X.xe s₃) X.xe s := by
    rw [hs]
    exact wpAny_operating (wpAny_mono (dn_get (Q := EP X pins σ Q) hu I hw e ks hk l ry fun w' s' I' r' => ⟨z, H, I', r', q⟩) (fun r s₃ h₃ => wpAny_bind (wpAny_letTemporaryGo (wpAny_pure h₃))) fun _ _ x => x)
  first
    | exact wpAny_pure (wpAny_bind fin)
    | exact wpAny_bind (wpAny_pure (wpAny_bind fin))
    | exact wpAny_bind fin
theorem ix_dictJ (hu : X.A.units + 64 < cLine) : IxR X rIxJ := by
  intro value slice pins s σ H x y v u Q I rx ry h hs
  obtain ⟨a, z, rfl, g, q⟩ := h
  cases rx
  have hT := dict_typeIs I g
  unfold subscriptTail
  refine wpAny_bind ?_
  rw [getitemInPython_of_ne hT.not_modules]
  refine wpAny_bind (wpAny_specialOf hT PySem.F.slot_dict_getitem.lookup ?_)
  have fin : wpAny (model X.prog X.w) X.A (subscripted slice false (.ref a) u) (fun r s₃ => wpAny (model X.prog X.w) X.A (letTemporaryGo value (.ref a) r >>= fun _ => pure r) (EP X pins σ Q) X.xe s₃) X.xe s := by
    rw [hs]
    exact wpAny_operating (wpAny_mono (d_getItem (Q := EP X pins σ Q) (by omega) I g ry fun w' s' I' r' => ⟨z, H, I', r', q⟩) (fun r s₃ h₃ => wpAny_bind (wpAny_letTemporaryGo (wpAny_pure h₃))) fun _ _ x => x)
  first
    | exact wpAny_pure (wpAny_bind fin)
    | exact wpAny_bind (wpAny_pure (wpAny_bind fin))
    | exact wpAny_bind fin
theorem ix_W (h : X.K = K) (hw : X.w = w) (hu : X.A.units + 64 < cLine) : IxR X (rIxW K w) := by
  subst h
  exact ix_seq.or ((ix_dict hw hu).or (ix_dictJ hu))
theorem op_inN (hw : X.w = w) (hu : X.A.units + 64 < cLine) : OpR X (compareOp .In) (rInN X.K w false) := by
  intro pins s σ H x y v u Q I rx ry h
  obtain ⟨a, es, b, k, rfl, e, ks, hk, q⟩ := h
  cases ry
  exact dn_in hu I hw e ks hk rx fun s' I' => ⟨.bl _, H, I', rfl, q⟩
theorem op_ninN (hw : X.w = w) (hu : X.A.units + 64 < cLine) : OpR X (compareOp .NotIn) (rInN X.K w true) := by
  intro pins s σ H x y v u Q I rx ry h
  obtain ⟨a, es, b, k, rfl, e, ks, hk, q⟩ := h
  cases ry
  exact dn_nin hu I hw e ks hk rx fun s' I' => ⟨.bl _, H, I', rfl, q⟩
theorem op_inD (hu : X.A.units + 64 < cLine) : OpR X (compareOp .In) (rInD X.K false) := by
  intro pins s σ H x y v u Q I rx ry h
  obtain ⟨ps, p, hy, hx, c1, c2, c3, q⟩ := h
  obtain ⟨as, r1⟩ := Dp.reads I p x v hx rx
  have hz : min (PyData.depthAll ps) p.depth ≤ p.depth := Nat.min_le_right _ _
  rcases hy with hy | hy
  · obtain ⟨bs, r2⟩ := Dp.reads I _ y u hy ry
    exact SeqAt.in_list_reads r2 r1 c3 c1 (by omega) ⟨.bl _, H, I, rfl, q⟩
  · obtain ⟨bs, r2⟩ := Dp.reads I _ y u hy ry
    exact SeqAt.in_tuple_reads r2 r1 c3 c1 (by omega) ⟨.bl _, H, I, rfl, q⟩
theorem op_ninD (hu : X.A.units + 64 < cLine) : OpR X (compareOp .NotIn) (rInD X.K true) := by
  intro pins s σ H x y v u Q I rx ry h
  obtain ⟨ps, p, hy, hx, c1, c2, c3, q⟩ := h
  obtain ⟨as, r1⟩ := Dp.reads I p x v hx rx
  have hz : min (PyData.depthAll ps) p.depth ≤ p.depth := Nat.min_le_right _ _
  rcases hy with hy | hy
  · obtain ⟨bs, r2⟩ := Dp.reads I _ y u hy ry
    exact SeqAt.notIn_list_reads r2 r1 c3 c1 (by omega) ⟨.bl _, H, I, rfl, q⟩
  · obtain ⟨bs, r2⟩ := Dp.reads I _ y u hy ry
    exact SeqAt.notIn_tuple_reads r2 r1 c3 c1 (by omega) ⟨.bl _, H, I, rfl, q⟩
theorem op_inJ (hu : X.A.units + 64 < cLine) : OpR X (compareOp .In) (rInJ false) := by
  intro pins s σ H x y v u Q I rx ry h
  obtain ⟨a, o, rfl, g, q⟩ := h
  cases ry
  exact d_in (by omega) I g rx fun s' I' => ⟨.bl _, H, I', rfl, q⟩
theorem op_ninJ (hu : X.A.units + 64 < cLine) : OpR X (compareOp .NotIn) (rInJ true) := by
  intro pins s σ H x y v u Q I rx ry h
  obtain ⟨a, o, rfl, g, q⟩ := h
  cases ry
  exact d_notIn (by omega) I g rx fun s' I' => ⟨.bl _, H, I', rfl, q⟩
theorem op_inW (h : X.K = K) (hw : X.w = w) (hu : X.A.units + 64 < cLine) : OpR X (compareOp .In) (rInW K w false) := by
  subst h
  intro pins s σ H x y v u Q I rx ry h
  rcases h with h | h | h | h
  · exact op_in_seq pins s σ H x y v u Q I rx ry h
  · exact op_inN hw hu pins s σ H x y v u Q I rx ry h
  · exact op_inD hu pins s σ H x y v u Q I rx ry h
  · exact op_inJ hu pins s σ H x y v u Q I rx ry h
theorem op_ninW (h : X.K = K) (hw : X.w = w) (hu : X.A.units + 64 < cLine) : OpR X (compareOp .NotIn) (rInW K w true) := by
  subst h
  intro pins s σ H x y v u Q I rx ry h
  rcases h with h | h | h | h
  · exact op_notIn_seq pins s σ H x y v u Q I rx ry h
  · exact op_ninN hw hu pins s σ H x y v u Q I rx ry h
  · exact op_ninD hu pins s σ H x y v u Q I rx ry h
  · exact op_ninJ hu pins s σ H x y v u Q I rx ry h
theorem call_lenW (h : X.K = K) (w : World) : CallR X (.builtin "len") (rLenW K w) := by
  subst h
  intro pins s σ H xs us Q I rs q
  rcases q with q | ⟨a, es, rfl, e, q⟩ | ⟨a, kvs, rfl, e, q⟩
  · exact call_lenU pins s σ H xs us Q I rs q
  · cases rs with
    | cons r1 r2 =>
      cases r1; cases r2
      exact dn_len I e fun t s' I' => ⟨.int es.length, H, I', ⟨t, rfl⟩, q⟩
  · cases rs with
    | cons r1 r2 =>
      cases r1; cases r2
      exact d_len I e fun t s' I' => ⟨.int kvs.length, H, I', ⟨t, rfl⟩, q⟩
theorem pe_newN (hw : X.w = w) : PE X (.Dict [] [] pos) (tNewN w) := by
  subst hw
  exact ⟨fun pins s σ H Q I h =>
    wpAny_Dict_empty ⟨.ref s.heap.objs.size, _, I.laid (a := s.heap.objs.size) (o := dN X.w s.heap.objs.size []) (t' := s.toks) (fun _ _ q => Heap.get?_push_of_some _ q) (Nat.le_refl _) (dn_empty s.heap I.big), rfl, h _ (I.hok.fresh (Nat.le_refl _))⟩⟩
theorem ps_putN (h : X.K = K) (hw : X.w = w) (hu : X.A.units + 64 < cLine) (ho : PE X o td) (hi : PE X i ty) (hv : PE X value tv) (hs : swapsWith value (some (.Subscript o i pos')) pos.line X.env = pure false) :
    PS X (.Assign [.Subscript o i pos'] value pos) (sPutN K w td ty tv) := by
  subst h
  refine ⟨fun pins s σ H D I h => ?_⟩
  refine wpAny_Assign_Subscript (thn (hv.run pins s σ H _ I h) fun r s1 ⟨v, H1, I1, rv, q1⟩ => thn (ho.run pins s1 σ H1 _ I1 q1) fun u s2 ⟨x, H2, I2, rx, q2⟩ => thn (hi.run pins s2 σ H2 _ I2 q2) fun iv s3 ⟨y, H3, I3, ry, a, es, b, k, ex, e, ks, hl, hk, q3⟩ => ?_) hs
  subst ex
  obtain rfl : u = Value.ref a := rx
  exact dn_set hu I3 hw e ks hl hk ry rv fun s4 I4 => ⟨σ, _, I4, q3⟩
end
end Sm

namespace Sm
open PySem L2 Evl Al


structure Kw where
  f : PySem.W.Frag
  w : World
instance : Coe Kw PySem.W.Frag := ⟨Kw.f⟩


inductive D where
  | none | bool (b : Bool) | int (i : Int) | str (s : Str) | list (xs : List D) | tup (xs : List D)
  | obj (c : Str) (ns : List Str) (ds : List D) | scr (ns : List Int) | dict (ks vs : List D) | dct (ks : List Key) (vs : List D) | rng (lo hi : Int)
mutual

def nkD : D → Option NestedKey
  | .none => some .none
  | .bool b => some (.num (if b = true then 1 else 0))
  | .int i => some (.num i)
  | .str s => some (.text s)
  | .tup ds => (nkA ds).map NestedKey.tup
  | .list _ => none
  | .obj _ _ _ => none
  | .scr _ => none
  | .dict _ _ => none
  | .dct _ _ => none
  | .rng _ _ => none
def nkA : List D → Option (List NestedKey)
  | [] => some []
  | d :: ds => (nkD d).bind fun k => (nkA ds).map fun ks => k :: ks
end
def keyD : D → Option NestedKey
  | .tup ds => (nkD (.tup ds)).bind fun k => if k.depth ≤ 8 then some k else none
  | _ => none
def keysD : List D → Option (List NestedKey)
  | [] => some []
  | d :: ds => (keyD d).bind fun k => (keysD ds).map fun ks => k :: ks
mutual
inductive Dr (K : Kw) (H : Hp) : V → D → Prop
  | non : Dr K H .non .none
  | bl (b : Bool) : Dr K H (.bl b) (.bool b)
  | int (i : Int) : Dr K H (.int i) (.int i)
  | str (x : Str) : Dr K H (.str x) (.str x)
  | lst {a : Addr} {xs : List V} {ds : List D} : H a = some (.lst xs) → DrA K H xs ds → Dr K H (.ref a) (.list ds)
  | tup {a : Addr} {xs : List V} {ds : List D} : SqT K H a xs → DrA K H xs ds → Dr K H (.ref a) (.tup ds)
  | obj {a dx : Addr} {c : Str} {ns : List Str} {xs : List V} {ds : List D} : H a = some (.ins (He.ga K c) dx (ns.zip xs)) → ns.length = xs.length → DrA K H xs ds → Dr K H (.ref a) (.obj c ns ds)
  | scr {a : Addr} {ns : List Int} : SqL K H a (ns.map V.int) → Dr K H (.ref a) (.scr ns)
  | dic {a : Addr} {es : List Ent} {ks vs : List D} : H a = some (dN K.w a es) → DrA K H (es.map fun e => V.ref e.2.1) ks → DrA K H (es.map fun e => e.2.2) vs → keysD ks = some (es.map fun e => e.1) → Dr K H (.ref a) (.dict ks vs)
  | dct {a : Addr} {kvs : List (Key × V)} {vs : List D} : H a = some (.dK kvs) → DrA K H (kvs.map (·.2)) vs → Dr K H (.ref a) (.dct (kvs.map (·.1)) vs)
  | rng {a : Addr} {lo hi : Int} : H a = some (.rng lo hi) → Dr K H (.ref a) (.rng lo hi)
inductive DrA (K : Kw) (H : Hp) : List V → List D → Prop
  | nil : DrA K H [] []
  | cons {v : V} {vs : List V} {d : D} {ds : List D} : Dr K H v d → DrA K H vs ds → DrA K H (v :: vs) (d :: ds)
end
mutual
theorem Dr.mono {K : Kw} {H H' : Hp} (e : Ex H H') : ∀ {v : V} {d : D}, Dr K H v d → Dr K H' v d
  | _, _, .non => .non
  | _, _, .bl b => .bl b
  | _, _, .int i => .int i
  | _, _, .str x => .str x
  | _, _, .lst h a => .lst (e _ _ h) (DrA.mono e a)
  | _, _, .tup h a => .tup (ex_t e h) (DrA.mono e a)
  | _, _, .obj h l a => .obj (e _ _ h) l (DrA.mono e a)
  | _, _, .scr h => .scr (ex_l e h)
  | _, _, .dic h a b c => .dic (e _ _ h) (DrA.mono e a) (DrA.mono e b) c
  | _, _, .dct h a => .dct (e _ _ h) (DrA.mono e a)
  | _, _, .rng h => .rng (e _ _ h)
theorem DrA.mono {K : Kw} {H H' : Hp} (e : Ex H H') : ∀ {vs : List V} {ds : List D}, DrA K H vs ds → DrA K H' vs ds
  | _, _, .nil => .nil
  | _, _, .cons h t => .cons (Dr.mono e h) (DrA.mono e t)
end
mutual
def tupO : D → Bool
  | .none => true
  | .bool _ => true
  | .int _ => true
  | .str _ => true
  | .list _ => false
  | .tup ds => tupA ds
  | .obj _ _ _ => false
  | .scr _ => false
  | .dict _ _ => false
  | .dct _ _ => false
  | .rng _ _ => false
def tupA : List D → Bool
  | [] => true
  | d :: ds => tupO d && tupA ds
end
mutual
theorem Dr.tx {K : Kw} {H H' : Hp} (e : Tx H H') : ∀ {v : V} {d : D}, Dr K H v d → tupO d = true → Dr K H' v d
  | _, _, .non, _ => .non
  | _, _, .bl b, _ => .bl b
  | _, _, .int i, _ => .int i
  | _, _, .str x, _ => .str x
  | _, _, .lst _ _, z => by simp [tupO] at z
  | _, _, .tup h a, z => .tup (tx_t e h) (DrA.tx e a (by simpa [tupO] using z))
  | _, _, .obj _ _ _, z => by simp [tupO] at z
  | _, _, .scr _, z => by simp [tupO] at z
  | _, _, .dic _ _ _ _, z => by simp [tupO] at z
  | _, _, .dct _ _, z => by simp [tupO] at z
  | _, _, .rng _, z => by simp [tupO] at z
theorem DrA.tx {K : Kw} {H H' : Hp} (e : Tx H H') : ∀ {vs : List V} {ds : List D}, DrA K H vs ds → tupA ds = true → DrA K H' vs ds
  | _, _, .nil, _ => .nil
  | _, _, .cons h t, z => .cons (Dr.tx e h (by simp [tupA] at z; exact z.1)) (DrA.tx e t (by simp [tupA] at z; exact z.2))
end
section
variable {K : Kw} {H H' : Hp}
theorem DrA.length : ∀ {vs : List V} {ds : List D}, DrA K H vs ds → vs.length = ds.length
  | _, _, .nil => rfl
  | _, _, .cons _ t => by simp [DrA.length t]
theorem DrA.get : ∀ {vs : List V} {ds : List D} {i : Nat} {v : V}, DrA K H vs ds → vs[i]? = some v → ∃ d, ds[i]? = some d ∧ Dr K H v d
  | _, _, _, _, .nil, e => by simp at e
  | _, _, 0, _, .cons h _, e => by simp at e; subst e; exact ⟨_, rfl, h⟩
  | _, _, i + 1, v, .cons _ t, e => by
    obtain ⟨d, h1, h2⟩ := DrA.get (i := i) (v := v) t (by simpa using e)
    exact ⟨d, by simpa using h1, h2⟩
theorem DrA.get' : ∀ {vs : List V} {ds : List D} {i : Nat} {d : D}, DrA K H vs ds → ds[i]? = some d → ∃ v, vs[i]? = some v ∧ Dr K H v d
  | _, _, _, _, .nil, e => by simp at e
  | _, _, 0, _, .cons h _, e => by simp at e; subst e; exact ⟨_, rfl, h⟩
  | _, _, i + 1, d, .cons _ t, e => by
    obtain ⟨v, h1, h2⟩ := DrA.get' (i := i) (d := d) t (by simpa using e)
    exact ⟨v, by simpa using h1, h2⟩
theorem DrA.append : ∀ {vs ws : List V} {ds es : List D}, DrA K H vs ds → DrA K H ws es → DrA K H (vs ++ ws) (ds ++ es)
  | _, _, _, _, .nil, s => s
  | _, _, _, _, .cons h t, s => .cons h (DrA.append t s)
theorem DrA.one {v : V} {d : D} (h : Dr K H v d) : DrA K H [v] [d] := .cons h .nil
theorem DrA.take : ∀ {vs : List V} {ds : List D} (n : Nat), DrA K H vs ds → DrA K H (vs.take n) (ds.take n)
  | _, _, 0, _ => by simp; exact .nil
  | _, _, n + 1, .nil => by simp; exact .nil
  | _, _, n + 1, .cons h t => by simp; exact .cons h (DrA.take n t)
theorem DrA.drop : ∀ {vs : List V} {ds : List D} (n : Nat), DrA K H vs ds → DrA K H (vs.drop n) (ds.drop n)
  | _, _, 0, h => by simpa using h
  | _, _, n + 1, .nil => by simp; exact .nil
  | _, _, n + 1, .cons h t => by simp; exact DrA.drop n t
theorem DrA.set : ∀ {vs : List V} {ds : List D} {v : V} {d : D} (n : Nat), DrA K H vs ds → Dr K H v d → DrA K H (vs.set n v) (ds.set n d)
  | _, _, _, _, _, .nil, _ => by simp; exact .nil
  | _, _, _, _, 0, .cons _ t, q => by simp; exact .cons q t
  | _, _, _, _, n + 1, .cons h t, q => by simp; exact .cons h (DrA.set n t q)
theorem DrA.erase : ∀ {vs : List V} {ds : List D} (n : Nat), DrA K H vs ds → DrA K H (vs.eraseIdx n) (ds.eraseIdx n)
  | _, _, _, .nil => by simp; exact .nil
  | _, _, 0, .cons _ t => by simp; exact t
  | _, _, n + 1, .cons h t => by simp; exact .cons h (DrA.erase n t)
theorem DrA.reverse : ∀ {vs : List V} {ds : List D}, DrA K H vs ds → DrA K H vs.reverse ds.reverse
  | _, _, .nil => by simp; exact .nil
  | _, _, .cons h t => by simp; exact (DrA.reverse t).append (.one h)
theorem DrA.ints : ∀ (ns : List Int), DrA K H (ns.map V.int) (ns.map D.int)
  | [] => .nil
  | n :: ns => .cons (.int n) (DrA.ints ns)
theorem DrA.rep {vs : List V} {ds : List D} (h : DrA K H vs ds) : ∀ k : Nat, DrA K H (List.replicate k vs).flatten (List.replicate k ds).flatten
  | 0 => by simp; exact .nil
  | k + 1 => by simp [List.replicate_succ]; exact h.append (DrA.rep h k)
theorem DrA.cut {vs : List V} {ds : List D} (h : DrA K H vs ds) (lo hi : Option Int) : DrA K H (cutV vs lo hi) ((ds.drop (HT.sIx ds.length 0 lo)).take (HT.sIx ds.length ds.length hi - HT.sIx ds.length 0 lo)) := by
  unfold cutV
  rw [DrA.length h]
  exact DrA.take _ (DrA.drop _ h)
theorem DrA.lookup : ∀ {ns : List Str} {vs : List V} {ds : List D} {f : Str}, DrA K H vs ds → match (ns.zip ds).lookup f with
    | some d => ∃ v, (ns.zip vs).lookup f = some v ∧ Dr K H v d
    | none => (ns.zip vs).lookup f = none
  | [], _, _, f, _ => by simp
  | _ :: _, _, _, f, .nil => by simp
  | n :: ns, _, _, f, .cons (v := v) (d := d) h t => by
    simp only [List.zip_cons_cons, List.lookup_cons]
    cases f == n with
    | true => exact ⟨_, rfl, h⟩
    | false => exact DrA.lookup (ns := ns) (f := f) t
end


open Classical in
noncomputable def msk (S : Addr → Prop) (H : Hp) : Hp := fun a => if S a then none else H a
def MutO : HO → Prop
  | .lst _ => True
  | .ins _ _ _ => True
  | .ext _ => True
  | .dK _ => True
  | .frz _ (.dK _) => True
  | _ => False
def Mut (H : Hp) (a : Addr) : Prop := ∃ u, H a = some u ∧ MutO u
theorem Mut.l {H : Hp} {a : Addr} {xs : List V} (h : H a = some (.lst xs)) : Mut H a := ⟨_, h, trivial⟩
theorem Mut.i {H : Hp} {a C dx : Addr} {fs : List (Str × V)} (h : H a = some (.ins C dx fs)) : Mut H a := ⟨_, h, trivial⟩
theorem Mut.j {H : Hp} {a : Addr} {kvs : List (Key × V)} (h : H a = some (.dK kvs)) : Mut H a := ⟨_, h, trivial⟩
theorem Mut.z {H : Hp} {a : Addr} {o : Obj} {kvs : List (Key × V)} (h : H a = some (.frz o (.dK kvs))) : Mut H a := ⟨_, h, trivial⟩
theorem Mut.n {H : Hp} {a : Addr} {w : World} {es : List Ent} (h : H a = some (dN w a es)) : Mut H a := ⟨_, h, trivial⟩
theorem Mut.ne {H : Hp} {a : Addr} (h : Mut H a) : H a ≠ none := by
  obtain ⟨u, h, _⟩ := h
  rw [h]; simp
theorem Mut.ex {H H' : Hp} {a : Addr} (h : Mut H a) (e : Ex H H') : Mut H' a := let ⟨u, h, z⟩ := h; ⟨u, e _ _ h, z⟩
section
variable {S T : Addr → Prop} {H H' : Hp} {a p : Addr} {o : HO}
theorem msk_at (h : ¬ S a) : msk S H a = H a := by unfold msk; rw [if_neg h]
theorem msk_in (h : S a) : msk S H a = none := by unfold msk; rw [if_pos h]
theorem msk_some (h : msk S H a = some o) : ¬ S a ∧ H a = some o := by
  by_cases z : S a
  · rw [msk_in z] at h; cases h
  · rw [msk_at z] at h; exact ⟨z, h⟩
theorem msk_le : Ex (msk S H) H := fun a o h => (msk_some h).2
theorem msk_ex (e : Ex H H') : Ex (msk S H) (msk S H') := fun a o h => by
  obtain ⟨h1, h2⟩ := msk_some h
  rw [msk_at h1]
  exact e _ _ h2
theorem msk_sub (h : ∀ a, T a → S a) : Ex (msk S H) (msk T H) := fun a o z => by
  obtain ⟨h1, h2⟩ := msk_some z
  rw [msk_at (fun y => h1 (h a y))]
  exact h2
theorem msk_no : msk (fun _ => False) H = H := by
  funext a
  exact msk_at (fun z => z)
theorem msk_upd (h : S p) : msk S (upd H p o) = msk S H := by
  funext a
  by_cases z : S a
  · rw [msk_in z, msk_in z]
  · rw [msk_at z, msk_at z, upd_ne (fun y => z (by rw [y]; exact h))]

theorem msk_to (e : Ex H H') (h : ∀ a, T a → S a ∨ H a = none) : Ex (msk S H) (msk T H') := fun a o z => by
  obtain ⟨h1, h2⟩ := msk_some z
  rw [msk_at (fun y => by rcases h a y with y | y; exact h1 y; rw [y] at h2; cases h2)]
  exact e _ _ h2
theorem msk_tx (h : ∀ a, S a → Mut H a) : Tx H (msk S H) := fun a xs r => by
  have ns : ¬ S a := fun z => by
    obtain ⟨u, y, m⟩ := h a z
    rcases r with r | ⟨o, r⟩ <;> rw [y] at r <;> cases r <;> exact m
  rcases r with r | ⟨o, r⟩
  · exact .inl (by rw [msk_at ns]; exact r)
  · exact .inr ⟨o, by rw [msk_at ns]; exact r⟩
theorem low {K : Kw} {v : V} {d : D} (h : ∀ a, S a → Mut H a) (r : Dr K H v d) (z : tupO d = true) : Dr K (msk S H) v d := Dr.tx (msk_tx h) r z
end


inductive Z : Addr → Prop
inductive One (p : Addr) : Addr → Prop
  | mk : One p p

inductive Tn where
  | f (d : D) | l (xs : List Tn) | k (ks : List D) (vs : List Tn) | j (ks : List Key) (vs : List Tn) | jz (ks : List Key) (vs : List Tn) | o (c : Str) (ns : List Str) (ts : List Tn)
mutual

def Tn.D : Tn → Option D
  | .f d => some d
  | .l xs => (tnA xs).map .list
  | .k ks vs => (tnA vs).map (.dict ks)
  | .j ks ts => (tnA ts).map (.dct ks)
  | .jz _ _ => none
  | .o c ns ts => (tnA ts).map (.obj c ns)
def tnA : List Tn → Option (List D)
  | [] => some []
  | t :: ts => t.D.bind fun d => (tnA ts).map fun ds => d :: ds
end
mutual

inductive Tr (K : Kw) (M H : Hp) : (Addr → Prop) → V → Tn → Prop
  | f {v : V} {d : D} : Dr K M v d → Tr K M H Z v (.f d)
  | l {p : Addr} {vs : List V} {S : Addr → Prop} {ts : List Tn} : H p = some (.lst vs) → TrA K M H S vs ts → ¬ S p → Tr K M H (fun a => a = p ∨ S a) (.ref p) (.l ts)
  | k {p : Addr} {es : List Ent} {S : Addr → Prop} {ks : List D} {ts : List Tn} : H p = some (dN K.w p es) → DrA K M (es.map fun e => V.ref e.2.1) ks → keysD ks = some (es.map fun e => e.1) → TrA K M H S (es.map fun e => e.2.2) ts → ¬ S p → Tr K M H (fun a => a = p ∨ S a) (.ref p) (.k ks ts)
  | j {p : Addr} {kvs : List (Key × V)} {S : Addr → Prop} {ts : List Tn} : H p = some (.dK kvs) → TrA K M H S (kvs.map (·.2)) ts → ¬ S p → Tr K M H (fun a => a = p ∨ S a) (.ref p) (.j (kvs.map (·.1)) ts)
  | jz {p : Addr} {o : Obj} {kvs : List (Key × V)} {S : Addr → Prop} {ts : List Tn} : H p = some (.frz o (.dK kvs)) → TrA K M H S (kvs.map (·.2)) ts → ¬ S p → Tr K M H (fun a => a = p ∨ S a) (.ref p) (.jz (kvs.map (·.1)) ts)
  | o {p dx : Addr} {c : Str} {ns : List Str} {xs : List V} {S : Addr → Prop} {ts : List Tn} : H p = some (.ins (He.ga K c) dx (ns.zip xs)) → ns.length = xs.length → TrA K M H S xs ts → ¬ S p → Tr K M H (fun a => a = p ∨ S a) (.ref p) (.o c ns ts)
inductive TrA (K : Kw) (M H : Hp) : (Addr → Prop) → List V → List Tn → Prop
  | nil : TrA K M H Z [] []
  | cons {S T : Addr → Prop} {v : V} {vs : List V} {t : Tn} {ts : List Tn} : Tr K M H S v t → TrA K M H T vs ts → (∀ a, S a → ¬ T a) → TrA K M H (fun a => S a ∨ T a) (v :: vs) (t :: ts)
end
section
variable {K : Kw} {M M' H H' : Hp}
mutual
theorem Tr.mono (e : Ex M M') : ∀ {S : Addr → Prop} {v : V} {t : Tn}, (∀ a, S a → ∀ u, H a = some u → H' a = some u) → Tr K M H S v t → Tr K M' H' S v t
  | _, _, _, _, .f h => .f (h.mono e)
  | _, _, _, k, .l h t n => .l (k _ (.inl rfl) _ h) (TrA.mono e (fun a z => k a (.inr z)) t) n
  | _, _, _, k, .k h h1 h2 t n => .k (k _ (.inl rfl) _ h) (h1.mono e) h2 (TrA.mono e (fun a z => k a (.inr z)) t) n
  | _, _, _, k, .j h t n => .j (k _ (.inl rfl) _ h) (TrA.mono e (fun a z => k a (.inr z)) t) n
  | _, _, _, k, .jz h t n => .jz (k _ (.inl rfl) _ h) (TrA.mono e (fun a z => k a (.inr z)) t) n
  | _, _, _, k, .o h l t n => .o (k _ (.inl rfl) _ h) l (TrA.mono e (fun a z => k a (.inr z)) t) n
theorem TrA.mono (e : Ex M M') : ∀ {S : Addr → Prop} {vs : List V} {ts : List Tn}, (∀ a, S a → ∀ u, H a = some u → H' a = some u) → TrA K M H S vs ts → TrA K M' H' S vs ts
  | _, _, _, _, .nil => .nil
  | _, _, _, k, .cons h t n => .cons (Tr.mono e (fun a z => k a (.inl z)) h) (TrA.mono e (fun a z => k a (.inr z)) t) n
end
mutual
theorem Tr.mut : ∀ {S : Addr → Prop} {v : V} {t : Tn}, Tr K M H S v t → ∀ a, S a → Mut H a
  | _, _, _, .f _, _, z => nomatch z
  | _, _, _, .l h t _, a, z => z.elim (fun e => e ▸ .l h) fun z => TrA.mut t a z
  | _, _, _, .k h _ _ t _, a, z => z.elim (fun e => e ▸ .n h) fun z => TrA.mut t a z
  | _, _, _, .j h t _, a, z => z.elim (fun e => e ▸ .j h) fun z => TrA.mut t a z
  | _, _, _, .jz h t _, a, z => z.elim (fun e => e ▸ .z h) fun z => TrA.mut t a z
  | _, _, _, .o h _ t _, a, z => z.elim (fun e => e ▸ .i h) fun z => TrA.mut t a z
theorem TrA.mut : ∀ {S : Addr → Prop} {vs : List V} {ts : List Tn}, TrA K M H S vs ts → ∀ a, S a → Mut H a
  | _, _, _, .nil, _, z => nomatch z
  | _, _, _, .cons h t _, a, z => z.elim (fun z => Tr.mut h a z) fun z => TrA.mut t a z
end
mutual
theorem Tr.dr (e : Ex M H) : ∀ {S : Addr → Prop} {v : V} {t : Tn} {d : D}, Tr K M H S v t → t.D = some d → Dr K H v d
  | _, _, _, _, .f h, z => by simp only [Tn.D, Option.some.injEq] at z; subst z; exact h.mono e
  | _, _, _, _, .l h t _, z => by
    simp only [Tn.D] at z
    obtain ⟨ds, h1, rfl⟩ := Option.map_eq_some_iff.mp z
    exact .lst h (TrA.dr e t h1)
  | _, _, _, _, .k h h1 h2 t _, z => by
    simp only [Tn.D] at z
    obtain ⟨ds, h3, rfl⟩ := Option.map_eq_some_iff.mp z
    exact .dic h (h1.mono e) (TrA.dr e t h3) h2
  | _, _, _, _, .j h t _, z => by
    simp only [Tn.D] at z
    obtain ⟨ds, h1, rfl⟩ := Option.map_eq_some_iff.mp z
    exact .dct h (TrA.dr e t h1)
  | _, _, _, _, .jz _ _ _, z => by simp [Tn.D] at z
  | _, _, _, _, .o h l t _, z => by
    simp only [Tn.D] at z
    obtain ⟨ds, h1, rfl⟩ := Option.map_eq_some_iff.mp z
    exact .obj h l (TrA.dr e t h1)
theorem TrA.dr (e : Ex M H) : ∀ {S : Addr → Prop} {vs : List V} {ts : List Tn} {ds : List D}, TrA K M H S vs ts → tnA ts = some ds → DrA K H vs ds
  | _, _, _, _, .nil, z => by simp only [tnA, Option.some.injEq] at z; subst z; exact .nil
  | _, _, _, _, .cons h t _, z => by
    simp only [tnA] at z
    obtain ⟨d, h1, z⟩ := Option.bind_eq_some_iff.mp z
    obtain ⟨ds, h2, rfl⟩ := Option.map_eq_some_iff.mp z
    exact .cons (Tr.dr e h h1) (TrA.dr e t h2)
end
end

inductive Sv where
  | no | d (x : D) | a (x : D) | m (xs : List D) | o (c : Str) (ns : List Str) (ds : List D) | x (c : Str) | k (ks vs : List D) | t (r : Bool) (t : Tn) | z (ks : List Key) (ds : List D)
def DicR (K : Kw) (H : Hp) (es : List Ent) (ks vs : List D) : Prop := DrA K H (es.map fun e => V.ref e.2.1) ks ∧ DrA K H (es.map fun e => e.2.2) vs ∧ keysD ks = some (es.map fun e => e.1)
theorem DicR.mono {K : Kw} {H H' : Hp} {es : List Ent} {ks vs : List D} (e : Ex H H') (h : DicR K H es ks vs) : DicR K H' es ks vs := ⟨h.1.mono e, h.2.1.mono e, h.2.2⟩
abbrev Env := List Sv
structure Co where
  Ha : Hp
  H0 : Hp
  S0 : Addr → Prop
  yo : Addr
  xa : Addr
  xc : Value
  xd : Option Addr
  zd : Addr
  zo : HO
abbrev Own := Nat → Addr → Prop
def Ow (own : Own) : Addr → Prop := fun a => ∃ i, own i a
def Sx (co : Co) (own : Own) : Addr → Prop := fun a => co.S0 a ∨ Ow own a
def SvR (K : Kw) (co : Co) (own : Own) (i : Nat) (H : Hp) (o : Option V) : Sv → Prop
  | .no => own i = Z
  | .d x => own i = Z ∧ ∃ v, o = some v ∧ Dr K (msk (Sx co own) H) v x
  | .a x => own i = Z ∧ ∃ v, o = some v ∧ Dr K co.Ha v x
  | .m xs => ∃ p vs, o = some (.ref p) ∧ own i = One p ∧ H p = some (.lst vs) ∧ DrA K (msk (Sx co own) H) vs xs
  | .o c ns ds => ∃ dx vs, o = some (.ref co.yo) ∧ own i = One co.yo ∧ H co.yo = some (.ins (He.ga K c) dx (ns.zip vs)) ∧ ns.length = vs.length ∧ DrA K (msk (Sx co own) H) vs ds
  | .k ks vs => ∃ p es, o = some (.ref p) ∧ own i = One p ∧ H p = some (dN K.w p es) ∧ DicR K (msk (Sx co own) H) es ks vs
  | .t r t => ∃ v, o = some v ∧ (r = true → v = .ref co.yo) ∧ Tr K (msk (Sx co own) H) H (own i) v t
  | .z ks ds => ∃ od kvs, o = some (.ref co.zd) ∧ own i = One co.zd ∧ co.zo = .frz od (.dK kvs) ∧ H co.zd = some co.zo ∧ ks = kvs.map (·.1) ∧ DrA K (msk (Sx co own) H) (kvs.map (·.2)) ds
  | .x c => own i = Z ∧ o = some (.ref co.xa) ∧ co.xc = .ref (He.ga K c) ∧ co.xd = none
structure Rs (K : Kw) (co : Co) (ρ : Env) (own : Own) (σ : L2.St) (H : Hp) : Prop where
  len : ρ.length = σ.length
  sl : ∀ i s, ρ[i]? = some s → SvR K co own i H (σ[i]?).join s
  out : ∀ i, ρ.length ≤ i → own i = Z
  new : ∀ i p, own i p → co.H0 p = none
  dis : ∀ i p, own i p → ¬ co.S0 p
  inj : ∀ i j p, own i p → own j p → i = j
  ex : Ex co.H0 H
  ha : Ex co.Ha co.H0
  s0 : ∀ a, co.S0 a → Mut H a
section
variable {K : Kw} {co : Co} {ρ : Env} {own own' : Own} {σ : L2.St} {H H' : Hp} {i j : Nat} {s : Sv} {o : Option V} {v : V} {p : Addr}
theorem mem1 (h : own i = One p) : own i p := by rw [h]; exact .mk
theorem Rs.mutO (r : Rs K co ρ own σ H) (h : own i p) : Mut H p := by
  by_cases hl : i < ρ.length
  · have q := r.sl i ρ[i] (List.getElem?_eq_getElem hl)
    cases e : ρ[i] with
    | no => rw [e] at q; have q : own i = Z := q; rw [q] at h; cases h
    | d x => rw [e] at q; have q : own i = Z := q.1; rw [q] at h; cases h
    | a x => rw [e] at q; have q : own i = Z := q.1; rw [q] at h; cases h
    | x c => rw [e] at q; have q : own i = Z := q.1; rw [q] at h; cases h
    | m xs =>
      rw [e] at q
      obtain ⟨p', vs, _, h2, h3, _⟩ := q
      rw [h2] at h; cases h
      exact .l h3
    | k ks vs =>
      rw [e] at q
      obtain ⟨p', es, _, h2, h3, _⟩ := q
      rw [h2] at h; cases h
      exact .n h3
    | o c ns ds =>
      rw [e] at q
      obtain ⟨dx, vs, _, h2, h3, _⟩ := q
      rw [h2] at h; cases h
      exact .i h3
    | t r t =>
      rw [e] at q
      obtain ⟨v, _, _, h2⟩ := q
      exact h2.mut p h
    | z ks ds =>
      rw [e] at q
      obtain ⟨od, kvs, _, h2, h3, h4, _⟩ := q
      rw [h2] at h; cases h
      rw [h3] at h4
      exact .z h4
  · rw [r.out i (by omega)] at h; cases h
theorem Rs.mut (r : Rs K co ρ own σ H) : ∀ a, Sx co own a → Mut H a := fun a h => by
  rcases h with h | ⟨i, h⟩
  · exact r.s0 a h
  · exact r.mutO h
theorem SvR.up (e : Ex H H') (h : SvR K co own i H o s) : SvR K co own i H' o s := by
  cases s with
  | no => exact h
  | d x => exact ⟨h.1, h.2.elim fun v q => ⟨v, q.1, q.2.mono (msk_ex e)⟩⟩
  | a x => exact h
  | x c => exact h
  | m xs =>
    obtain ⟨p, vs, h1, h2, h3, h4⟩ := h
    exact ⟨p, vs, h1, h2, e _ _ h3, h4.mono (msk_ex e)⟩
  | k ks vs =>
    obtain ⟨p, es, h1, h2, h3, h4⟩ := h
    exact ⟨p, es, h1, h2, e _ _ h3, h4.mono (msk_ex e)⟩
  | o c ns ds =>
    obtain ⟨dx, vs, h1, h2, h3, h4, h5⟩ := h
    exact ⟨dx, vs, h1, h2, e _ _ h3, h4, h5.mono (msk_ex e)⟩
  | t r t => exact h.elim fun v q => ⟨v, q.1, q.2.1, q.2.2.mono (msk_ex e) fun a _ u z => e a u z⟩
  | z ks ds =>
    obtain ⟨od, kvs, h1, h2, h3, h4, h5, h6⟩ := h
    exact ⟨od, kvs, h1, h2, h3, e _ _ h4, h5, h6.mono (msk_ex e)⟩
theorem Rs.up (r : Rs K co ρ own σ H) (e : Ex H H') : Rs K co ρ own σ H' :=
  ⟨r.len, fun i s h => (r.sl i s h).up e, r.out, r.new, r.dis, r.inj, r.ex.trans e, r.ha, fun a h => (r.s0 a h).ex e⟩

theorem SvR.re {co' : Co} (h : SvR K co own j H o s) (eo : own' j = own j) (e : Ex (msk (Sx co own) H) (msk (Sx co' own') H')) (ek : ∀ p, own j p → ∀ u, H p = some u → H' p = some u) (ea : Ex co.Ha co'.Ha) (y : co'.yo = co.yo) (x : co'.xa = co.xa ∧ co'.xc = co.xc ∧ co'.xd = co.xd ∧ co'.zd = co.zd ∧ co'.zo = co.zo) : SvR K co' own' j H' o s := by
  cases s with
  | no => exact eo.trans h
  | d x => exact ⟨eo.trans h.1, h.2.elim fun v q => ⟨v, q.1, q.2.mono e⟩⟩
  | a x => exact ⟨eo.trans h.1, h.2.elim fun v q => ⟨v, q.1, q.2.mono ea⟩⟩
  | x c =>
    obtain ⟨x1, x2, x3, _⟩ := x
    exact ⟨eo.trans h.1, by rw [x1]; exact h.2.1, by rw [x2]; exact h.2.2.1, by rw [x3]; exact h.2.2.2⟩
  | z ks ds =>
    obtain ⟨_, _, _, x4, x5⟩ := x
    obtain ⟨od, kvs, h1, h2, h3, h4, h5, h6⟩ := h
    refine ⟨od, kvs, by rw [x4]; exact h1, by rw [x4]; exact eo.trans h2, by rw [x5]; exact h3, ?_, h5, h6.mono e⟩
    rw [x4, x5]
    exact ek _ (mem1 h2) _ h4
  | t r t =>
    obtain ⟨v, h1, h3, h2⟩ := h
    refine ⟨v, h1, by rw [y]; exact h3, ?_⟩
    rw [eo]
    exact h2.mono e fun a z u hu => ek a z u hu
  | m xs =>
    obtain ⟨p, vs, h1, h2, h3, h4⟩ := h
    exact ⟨p, vs, h1, eo.trans h2, ek p (mem1 h2) _ h3, h4.mono e⟩
  | k ks vs =>
    obtain ⟨p, es, h1, h2, h3, h4⟩ := h
    exact ⟨p, es, h1, eo.trans h2, ek p (mem1 h2) _ h3, h4.mono e⟩
  | o c ns ds =>
    obtain ⟨dx, vs, h1, h2, h3, h4, h5⟩ := h
    exact ⟨dx, vs, by rw [y]; exact h1, by rw [y]; exact eo.trans h2, by rw [y]; exact ek _ (mem1 h2) _ h3, h4, h5.mono e⟩
def oset (own : Own) (i : Nat) (p : Addr → Prop) : Own := fun j => if j = i then p else own j
theorem oset_same {q : Addr → Prop} : oset own i q i = q := by unfold oset; rw [if_pos rfl]
theorem oset_ne {q : Addr → Prop} (h : j ≠ i) : oset own i q j = own j := by unfold oset; rw [if_neg h]
theorem get_set_ne {α : Type} {l : List α} {x : α} (h : j ≠ i) : (l.set i x)[j]? = l[j]? := List.getElem?_set_ne (Ne.symm h)
theorem set_join {l : L2.St} {x : Option V} (h : i < l.length) : ((l.set i x)[i]?).join = x := by
  rw [List.getElem?_set_self h]; rfl

theorem Rs.set (r : Rs K co ρ own σ H) (h : SvR K co (oset own i Z) i H (some v) s) : Rs K co (ρ.set i s) (oset own i Z) (σ.set i (some v)) H := by
  have sub : ∀ a, Sx co (oset own i Z) a → Sx co own a := fun a z => by
    rcases z with z | ⟨j, z⟩
    · exact .inl z
    · by_cases e : j = i
      · subst e; rw [oset_same] at z; cases z
      · rw [oset_ne e] at z; exact .inr ⟨j, z⟩
  have back : ∀ {j p}, oset own i Z j p → own j p := fun {j p} z => by
    by_cases e : j = i
    · subst e; rw [oset_same] at z; cases z
    · rw [oset_ne e] at z; exact z
  refine ⟨by rw [List.length_set, List.length_set]; exact r.len, fun j t hj => ?_, fun j hj => ?_, fun j p z => r.new j p (back z), fun j p z => r.dis j p (back z), fun j k p z y => r.inj j k p (back z) (back y), r.ex, r.ha, r.s0⟩
  · by_cases e : j = i
    · subst e
      have hl : j < ρ.length := by
        have := (List.getElem?_eq_some_iff.mp hj).1
        rw [List.length_set] at this
        exact this
      rw [List.getElem?_set_self hl] at hj
      cases hj
      rw [set_join (by rw [← r.len]; exact hl)]
      exact h
    · rw [get_set_ne e] at hj
      rw [get_set_ne e]
      exact (r.sl j t hj).re (oset_ne e) (msk_sub sub) (fun _ _ _ u => u) (Ex.refl _) rfl ⟨rfl, rfl, rfl, rfl, rfl⟩
  · by_cases e : j = i
    · subst e; exact oset_same
    · rw [oset_ne e]; exact r.out j (by rw [List.length_set] at hj; exact hj)
theorem sx_less (co : Co) (own : Own) (i : Nat) : ∀ a, Sx co (oset own i Z) a → Sx co own a := fun a z => by
  rcases z with z | ⟨j, z⟩
  · exact .inl z
  · by_cases e : j = i
    · subst e; rw [oset_same] at z; cases z
    · rw [oset_ne e] at z; exact .inr ⟨j, z⟩
theorem Rs.setD {x : D} (r : Rs K co ρ own σ H) (h : Dr K (msk (Sx co own) H) v x) : Rs K co (ρ.set i (.d x)) (oset own i Z) (σ.set i (some v)) H := r.set ⟨oset_same, v, rfl, h.mono (msk_sub (sx_less co own i))⟩
theorem Rs.setA {x : D} (r : Rs K co ρ own σ H) (h : Dr K co.Ha v x) : Rs K co (ρ.set i (.a x)) (oset own i Z) (σ.set i (some v)) H := r.set ⟨oset_same, v, rfl, h⟩
theorem Rs.setO {o : Option V} (r : Rs K co ρ own σ H) : Rs K co (ρ.set i .no) (oset own i Z) (σ.set i o) H := by
  have back : ∀ {j p}, oset own i Z j p → own j p := fun {j p} z => by
    by_cases e : j = i
    · subst e; rw [oset_same] at z; cases z
    · rw [oset_ne e] at z; exact z
  refine ⟨by rw [List.length_set, List.length_set]; exact r.len, fun j t hj => ?_, fun j hj => ?_, fun j p z => r.new j p (back z), fun j p z => r.dis j p (back z), fun j k p z y => r.inj j k p (back z) (back y), r.ex, r.ha, r.s0⟩
  · by_cases e : j = i
    · subst e
      have hl : j < ρ.length := by
        have := (List.getElem?_eq_some_iff.mp hj).1
        rw [List.length_set] at this
        exact this
      rw [List.getElem?_set_self hl] at hj
      cases hj
      exact oset_same
    · rw [get_set_ne e] at hj
      rw [get_set_ne e]
      exact (r.sl j t hj).re (oset_ne e) (msk_sub (sx_less co own i)) (fun _ _ _ u => u) (Ex.refl _) rfl ⟨rfl, rfl, rfl, rfl, rfl⟩
  · by_cases e : j = i
    · subst e; exact oset_same
    · rw [oset_ne e]; exact r.out j (by rw [List.length_set] at hj; exact hj)

theorem Rs.setM {vs : List V} {xs : List D} (r : Rs K co ρ own σ H) (hi : i < ρ.length) (e : Ex H H') (hp : H p = none) (hl : H' p = some (.lst vs)) (hd : DrA K (msk (fun a => Sx co own a ∨ a = p) H') vs xs) :
    Rs K co (ρ.set i (.m xs)) (oset own i (One p)) (σ.set i (some (.ref p))) H' := by
  have fwd : ∀ a, Sx co (oset own i (One p)) a → Sx co own a ∨ a = p := fun a z => by
    rcases z with z | ⟨j, z⟩
    · exact .inl (.inl z)
    · by_cases e : j = i
      · subst e; rw [oset_same] at z; cases z; exact .inr rfl
      · rw [oset_ne e] at z; exact .inl (.inr ⟨j, z⟩)
  have ne : ∀ {j q}, own j q → q ≠ p := fun {j q} z y => by
    subst y
    exact (r.mutO z).ne hp
  have old : Ex (msk (Sx co own) H) (msk (Sx co (oset own i (One p))) H') := msk_to e fun a z => by
    rcases fwd a z with y | y
    · exact .inl y
    · subst y; exact .inr hp
  refine ⟨by rw [List.length_set, List.length_set]; exact r.len, fun j t hj => ?_, fun j hj => ?_, fun j q z => ?_, fun j q z => ?_, fun j k q z y => ?_, r.ex.trans e, r.ha, fun a h => (r.s0 a h).ex e⟩
  · by_cases ej : j = i
    · subst ej
      rw [List.getElem?_set_self hi] at hj
      cases hj
      rw [set_join (by rw [← r.len]; exact hi)]
      exact ⟨p, vs, rfl, oset_same, hl, hd.mono (msk_sub fwd)⟩
    · rw [get_set_ne ej] at hj
      rw [get_set_ne ej]
      exact (r.sl j t hj).re (oset_ne ej) old (fun q _ u hu => e _ _ hu) (Ex.refl _) rfl ⟨rfl, rfl, rfl, rfl, rfl⟩
  · rw [List.length_set] at hj
    rw [oset_ne (by omega)]
    exact r.out j hj
  · by_cases ej : j = i
    · subst ej; rw [oset_same] at z; cases z; exact fresh_back r.ex hp
    · rw [oset_ne ej] at z; exact r.new j q z
  · by_cases ej : j = i
    · subst ej; rw [oset_same] at z; cases z
      exact fun y => (r.s0 _ y).ne hp
    · rw [oset_ne ej] at z; exact r.dis j q z
  · by_cases ej : j = i
    · subst ej
      rw [oset_same] at z; cases z
      by_cases ek : k = j
      · exact ek.symm
      · rw [oset_ne ek] at y; exact absurd rfl (ne y)
    · rw [oset_ne ej] at z
      by_cases ek : k = i
      · subst ek; rw [oset_same] at y; cases y; exact absurd rfl (ne z)
      · rw [oset_ne ek] at y; exact r.inj j k q z y

theorem Rs.put {u : HO} {s' : Sv} (r : Rs K co ρ own σ H) (hi : own i p) (h : SvR K co own i (upd H p u) (σ[i]?).join s') : Rs K co (ρ.set i s') own σ (upd H p u) := by
  have em : msk (Sx co own) (upd H p u) = msk (Sx co own) H := msk_upd (.inr ⟨i, hi⟩)
  refine ⟨by rw [List.length_set]; exact r.len, fun j t hj => ?_, fun j hj => r.out j (by rw [List.length_set] at hj; exact hj), r.new, r.dis, r.inj, r.ex.mut (r.new i p hi), r.ha, fun a ha => ?_⟩
  · by_cases ej : j = i
    · subst ej
      have hl : j < ρ.length := by
        have := (List.getElem?_eq_some_iff.mp hj).1
        rw [List.length_set] at this
        exact this
      rw [List.getElem?_set_self hl] at hj
      cases hj
      exact h
    · rw [get_set_ne ej] at hj
      exact (r.sl j t hj).re rfl (by rw [em]; exact Ex.refl _) (fun q hq w hw => by
        rw [upd_ne (fun z => ej (r.inj j i p (by rw [← z]; exact hq) hi))]; exact hw) (Ex.refl _) rfl ⟨rfl, rfl, rfl, rfl, rfl⟩
  · have na : a ≠ p := fun z => r.dis i p hi (z ▸ ha)
    obtain ⟨w, y, m⟩ := r.s0 a ha
    exact ⟨w, by rw [upd_ne na]; exact y, m⟩
end


inductive R (α : Type) where
  | ok (a : α) | er (c : Str) | st
def R.bind {α β : Type} (r : R α) (f : α → R β) : R β := match r with
  | .ok a => f a
  | .er c => .er c
  | .st => .st
def Pst {α : Type} (r : R α) (k : α → Prop) (e : Str → Prop) : Prop := match r with
  | .ok a => k a
  | .er c => e c
  | .st => False
theorem Pst.bind {α β : Type} {r : R α} {f : α → R β} {k : β → Prop} {e : Str → Prop} (h : Pst (r.bind f) k e) : Pst r (fun a => Pst (f a) k e) e := by cases r <;> exact h
theorem Pst.mono {α : Type} {r : R α} {k k' : α → Prop} {e e' : Str → Prop} (h : Pst r k e) (h1 : ∀ a, r = .ok a → k a → k' a) (h2 : ∀ c, r = .er c → e c → e' c) : Pst r k' e' := by
  cases r with
  | ok a => exact h1 a rfl h
  | er c => exact h2 c rfl h
  | st => exact h
def Sw (co : Co) (own : Own) : Bool → Addr → Prop
  | true => fun _ => False
  | false => Sx co own
theorem sw_mut {K : Kw} {co : Co} {ρ : Env} {own : Own} {σ : L2.St} {H : Hp} (r : Rs K co ρ own σ H) (w : Bool) : ∀ a, Sw co own w a → Mut H a := by
  cases w with
  | true => exact fun _ z => z.elim
  | false => exact r.mut
abbrev ErrS (K : Kw) (E : L2.St → XK) (σ : L2.St) (H : Hp) : Str → Prop := fun c => ∀ H2, Ex H H2 → E σ (.ref (He.ga K c)) none H2
theorem ErrS.mono {K : Kw} {E : L2.St → XK} {σ : L2.St} {H H' : Hp} {c : Str} (e : Ex H H') (h : ErrS K E σ H c) : ErrS K E σ H' c := fun H2 e2 => h H2 (e.trans e2)
def SimE (K : Kw) (co : Co) (E : L2.St → XK) (w : Bool) (te : TE) (f : Env → R D) : Prop := ∀ ρ own σ H, Rs K co ρ own σ H → ∀ Q : VK,
  Pst (f ρ) (fun d => ∀ v H2, Ex H H2 → Dr K (msk (Sw co own w) H2) v d → Q v H2) (ErrS K E σ H) → te σ H Q
def SimN (K : Kw) (co : Co) (E : L2.St → XK) (te : TE) (f : Env → R (List D)) : Prop := ∀ ρ own σ H, Rs K co ρ own σ H → ∀ Q : VK,
  Pst (f ρ) (fun ds => ∀ p vs H2, H p = none → Ex H H2 → H2 p = some (.lst vs) → DrA K (msk (fun a => Sx co own a ∨ a = p) H2) vs ds → Q (.ref p) H2) (ErrS K E σ H) → te σ H Q
def SimT (K : Kw) (co : Co) (E : L2.St → XK) (tt : TT) (f : Env → R Bool) : Prop := ∀ ρ own σ H, Rs K co ρ own σ H → ∀ Q : Bool → Hp → Prop,
  Pst (f ρ) (fun b => ∀ H2, Ex H H2 → Q b H2) (ErrS K E σ H) → tt σ H Q
def RelM (K : Kw) (S : Addr → Prop) (H : Hp) : List Bool → List V → List D → Prop
  | [], [], [] => True
  | b :: md, v :: vs, d :: ds => Dr K (msk (if b then S else fun _ => False) H) v d ∧ RelM K S H md vs ds
  | _, _, _ => False
theorem RelM.mono {K : Kw} {S : Addr → Prop} {H H' : Hp} (e : Ex H H') : ∀ {md : List Bool} {vs : List V} {ds : List D}, RelM K S H md vs ds → RelM K S H' md vs ds
  | [], [], [], h => h
  | _ :: _, _ :: _, _ :: _, h => ⟨h.1.mono (msk_ex e), RelM.mono e h.2⟩
  | [], [], _ :: _, h => h.elim
  | [], _ :: _, _, h => h.elim
  | _ :: _, [], _, h => h.elim
  | _ :: _, _ :: _, [], h => h.elim
def SimA (K : Kw) (co : Co) (E : L2.St → XK) (md : List Bool) (ta : TA) (f : Env → R (List D)) : Prop := ∀ ρ own σ H, Rs K co ρ own σ H → ∀ Q : List V → Hp → Prop,
  Pst (f ρ) (fun ds => ∀ vs H2, Ex H H2 → RelM K (Sx co own) H2 md vs ds → Q vs H2) (ErrS K E σ H) → ta σ H Q


def xC (d : D) : Env → R D := fun _ => .ok d
def xF (i : Nat) : Env → R D := fun ρ => match ρ[i]? with
  | some (.d x) => .ok x
  | _ => .st
def xP (i : Nat) : Env → R D := fun ρ => match ρ[i]? with
  | some (.d x) => .ok x
  | some (.a x) => .ok x
  | some (.m xs) => .ok (.list xs)
  | some (.o c ns ds) => .ok (.obj c ns ds)
  | some (.k ks vs) => .ok (.dict ks vs)
  | some (.t _ t) => match t.D with
    | some d => .ok d
    | none => .st
  | _ => .st
def R.of {α : Type} : Option α → R α
  | some a => .ok a
  | none => .st
def x1 (g : D → Option D) (fa : Env → R D) : Env → R D := fun ρ => (fa ρ).bind fun a => R.of (g a)
def x2 (g : D → D → Option D) (fa fb : Env → R D) : Env → R D := fun ρ => (fa ρ).bind fun a => (fb ρ).bind fun b => R.of (g a b)
def xLow (f : Env → R D) : Env → R D := fun ρ => (f ρ).bind fun d => if tupO d = true then .ok d else .st
def xL (f : Env → R (List D)) : Env → R D := fun ρ => (f ρ).bind fun ds => .ok (.list ds)
def xAnd (fa fb : Env → R D) : Env → R D := fun ρ => (fa ρ).bind fun a => match a with
  | .bool true => fb ρ
  | .bool false => .ok (.bool false)
  | _ => .st
def xOr (fa fb : Env → R D) : Env → R D := fun ρ => (fa ρ).bind fun a => match a with
  | .bool true => .ok (.bool true)
  | .bool false => fb ρ
  | _ => .st
def xIf (t : Env → R Bool) (fa fb : Env → R D) : Env → R D := fun ρ => (t ρ).bind fun b => if b = true then fa ρ else fb ρ
def yT (f : Env → R D) : Env → R Bool := fun ρ => (f ρ).bind fun d => match d with
  | .bool b => .ok b
  | _ => .st
def dTru : D → Option Bool
  | .none => some false
  | .bool b => some b
  | .int i => some (i != 0)
  | .list xs => some (!xs.isEmpty)
  | .tup xs => some (!xs.isEmpty)
  | .str s => if s.length ≤ 1000000 then some ((s.length : Int) != 0) else none
  | _ => none
def yTru (f : Env → R D) : Env → R Bool := fun ρ => (f ρ).bind fun d => R.of (dTru d)
def yAnd (fa fb : Env → R Bool) : Env → R Bool := fun ρ => (fa ρ).bind fun a => if a = true then fb ρ else .ok false
def yOr (fa fb : Env → R Bool) : Env → R Bool := fun ρ => (fa ρ).bind fun a => if a = true then .ok true else fb ρ
def yNot (fa : Env → R Bool) : Env → R Bool := fun ρ => (fa ρ).bind fun a => .ok (!a)
def aNil : Env → R (List D) := fun _ => .ok []
def aCons (fa : Env → R D) (fr : Env → R (List D)) : Env → R (List D) := fun ρ => (fa ρ).bind fun d => (fr ρ).bind fun ds => .ok (d :: ds)
def nLst (f : Env → R (List D)) : Env → R (List D) := fun ρ => (f ρ).bind fun ds => if ds.length ≤ 1000000 then .ok ds else .st
def xTup (f : Env → R (List D)) : Env → R D := fun ρ => (f ρ).bind fun ds => if ds.length ≤ 1000000 then .ok (.tup ds) else .st
section
variable {K : Kw} {co : Co} {E : L2.St → XK} {w w' : Bool} {te ta tb tc : TE} {tt tu : TT} {f fa fb : Env → R D} {t u : Env → R Bool} {d : D} {i : Nat} {v : V}
theorem SimE.up (h : SimE K co E false te f) : SimE K co E true te f := fun ρ own σ H r Q q => h ρ own σ H r Q (q.mono (fun d _ k v H2 e z => k v H2 e (z.mono (by
  show Ex (msk (Sx co own) H2) (msk (fun _ => False) H2)
  exact msk_sub fun _ y => y.elim))) fun _ _ z => z)
theorem SimE.upw (h : SimE K co E false te f) : SimE K co E w te f := by cases w with
  | false => exact h
  | true => exact h.up

theorem SimE.low (h : SimE K co E true te f) : SimE K co E false te (xLow f) := fun ρ own σ H r Q q => h ρ own σ H r Q (by
  have q := q.bind
  refine q.mono (fun d _ k v H2 e z => ?_) fun _ _ z => z
  by_cases ht : tupO d = true
  · rw [if_pos ht] at k
    refine k v H2 e ?_
    have z : Dr K (msk (fun _ => False) H2) v d := z
    rw [msk_no] at z
    exact Sm.low (fun a ha => (r.mut a ha).ex e) z ht
  · rw [if_neg ht] at k
    exact k.elim)
theorem se_c (h : ∀ H, Dr K H v d) : SimE K co E w (tC v) (xC d) := fun ρ own σ H r Q q => q v H (Ex.refl H) (h _)
theorem join_some {σ : L2.St} (h : (σ[i]?).join = some v) : σ[i]? = some (some v) := by
  cases e : σ[i]? with
  | none => rw [e] at h; cases h
  | some o => rw [e] at h; cases o with
    | none => cases h
    | some x => have h : some x = some v := h; cases h; rfl
theorem se_f : SimE K co E false (tVar i) (xF i) := fun ρ own σ H r Q q => by
  unfold xF at q
  cases e : ρ[i]? with
  | none => rw [e] at q; exact q.elim
  | some s =>
    rw [e] at q
    cases s with
    | d x =>
      obtain ⟨_, v, h1, h2⟩ := r.sl i _ e
      exact ⟨v, join_some h1, q v H (Ex.refl H) h2⟩
    | _ => exact q.elim
theorem se_p : SimE K co E true (tVar i) (xP i) := fun ρ own σ H r Q q => by
  unfold xP at q
  have nm : ∀ {v x}, Dr K H v x → Dr K (msk (Sw co own true) H) v x := fun h => by
    show Dr K (msk (fun _ => False) H) _ _
    rw [msk_no]; exact h
  cases e : ρ[i]? with
  | none => rw [e] at q; exact q.elim
  | some s =>
    rw [e] at q
    cases s with
    | d x =>
      obtain ⟨_, v, h1, h2⟩ := r.sl i _ e
      exact ⟨v, join_some h1, q v H (Ex.refl H) (nm (h2.mono msk_le))⟩
    | a x =>
      obtain ⟨_, v, h1, h2⟩ := r.sl i _ e
      exact ⟨v, join_some h1, q v H (Ex.refl H) (nm (h2.mono (r.ha.trans r.ex)))⟩
    | m xs =>
      obtain ⟨p, vs, h1, _, h3, h4⟩ := r.sl i _ e
      exact ⟨_, join_some h1, q _ H (Ex.refl H) (nm (.lst h3 (h4.mono msk_le)))⟩
    | o c ns ds =>
      obtain ⟨dx, vs, h1, _, h3, h4, h5⟩ := r.sl i _ e
      exact ⟨_, join_some h1, q _ H (Ex.refl H) (nm (.obj h3 h4 (h5.mono msk_le)))⟩
    | k ks vs =>
      obtain ⟨p, es, h1, _, h3, h4⟩ := r.sl i _ e
      exact ⟨_, join_some h1, q _ H (Ex.refl H) (nm (.dic h3 (h4.1.mono msk_le) (h4.2.1.mono msk_le) h4.2.2))⟩
    | t _ t =>
      obtain ⟨v, h1, _, h2⟩ := r.sl i _ e
      dsimp only at q
      cases ed : t.D with
      | none => rw [ed] at q; exact q.elim
      | some d =>
        rw [ed] at q
        exact ⟨v, join_some h1, q _ H (Ex.refl H) (nm (h2.dr msk_le ed))⟩
    | z ks ds => exact q.elim
    | no => exact q.elim
    | x c => exact q.elim
theorem Pst.of {α : Type} {o : Option α} {k : α → Prop} {e : Str → Prop} (h : Pst (R.of o) k e) : ∃ a, o = some a ∧ k a := by
  cases o with
  | none => exact h.elim
  | some a => exact ⟨a, rfl, h⟩

def OpS (K : Kw) (w : Bool) (r : R2) (g : D → D → Option D) : Prop := ∀ (S : Addr → Prop) (H : Hp) (x y : V) (a b d : D) (Q : VK), (w = true → S = fun _ => False) → (∀ z, S z → Mut H z) → Dr K (msk S H) x a → Dr K (msk S H) y b → g a b = some d → (∀ v H2, Ex H H2 → Dr K (msk S H2) v d → Q v H2) → r x y H Q
theorem se_op {r : R2} {g : D → D → Option D} (ho : OpS K w r g) (ha : SimE K co E w ta fa) (hb : SimE K co E w tb fb) : SimE K co E w (tOp r ta tb) (x2 g fa fb) := fun ρ own σ H R Q q => by
  refine ha ρ own σ H R _ ((q.bind).mono (fun a _ q2 x H1 e1 hx => ?_) fun _ _ z => z)
  refine hb ρ own σ H1 (R.up e1) _ ((q2.bind).mono (fun b _ q3 y H2 e2 hy => ?_) fun c _ z => z.mono e1)
  obtain ⟨d, hg, k⟩ := q3.of
  exact ho (Sw co own w) H2 x y a b d Q (fun z => by subst z; rfl) (sw_mut (R.up (e1.trans e2)) w) (hx.mono (msk_ex e2)) hy hg fun v H3 e3 hv => k v H3 ((e1.trans e2).trans e3) hv

def OpF (K : Kw) (r : R2) (g : D → D → Option D) : Prop := ∀ (H : Hp) (x y : V) (a b d : D) (Q : VK), Dr K H x a → Dr K H y b → g a b = some d → (∀ v, (∀ H2, Dr K H2 v d) → Q v H) → r x y H Q
theorem dr_full {S : Addr → Prop} {H : Hp} {v : V} {d : D} (h : Dr K (msk S H) v d) : Dr K H v d := h.mono msk_le
theorem se_opF {w1 w2 : Bool} {r : R2} {g : D → D → Option D} (ho : OpF K r g) (ha : SimE K co E w1 ta fa) (hb : SimE K co E w2 tb fb) : SimE K co E w (tOp r ta tb) (x2 g fa fb) := fun ρ own σ H R Q q => by
  refine ha ρ own σ H R _ ((q.bind).mono (fun a _ q2 x H1 e1 hx => ?_) fun _ _ z => z)
  refine hb ρ own σ H1 (R.up e1) _ ((q2.bind).mono (fun b _ q3 y H2 e2 hy => ?_) fun c _ z => z.mono e1)
  obtain ⟨d, hg, k⟩ := q3.of
  exact ho H2 x y a b d Q ((dr_full hx).mono e2) (dr_full hy) hg fun v hv => k v H2 (e1.trans e2) (hv _)
end

def dAdd : D → D → Option D
  | .int a, .int b => some (.int (a + b))
  | _, _ => none
def dSub : D → D → Option D
  | .int a, .int b => some (.int (a - b))
  | _, _ => none
def dMul : D → D → Option D
  | .int a, .int b => if (-18446744073709551616 < a ∧ a < 18446744073709551616) ∨ (-18446744073709551616 < b ∧ b < 18446744073709551616) then some (.int (a * b)) else none
  | _, _ => none
def dDiv : D → D → Option D
  | .int a, .int b => if 0 < b ∧ b < 1073741824 then some (.int (a / b)) else none
  | _, _ => none
def dMod : D → D → Option D
  | .int a, .int b => if 0 < b then some (.int (a % b)) else none
  | _, _ => none
def dPow : D → D → Option D
  | .int a, .int b => if 0 ≤ b ∧ b ≤ 1000000 ∧ a.natAbs < 18446744073709551616 then some (.int (a ^ b.toNat)) else none
  | _, _ => none
def dLt : D → D → Option D
  | .int a, .int b => some (.bool (decide (a < b)))
  | _, _ => none
def dLe : D → D → Option D
  | .int a, .int b => some (.bool (decide (a ≤ b)))
  | _, _ => none
def dGt : D → D → Option D
  | .int a, .int b => some (.bool (decide (b < a)))
  | _, _ => none
def dGe : D → D → Option D
  | .int a, .int b => some (.bool (decide (b ≤ a)))
  | _, _ => none
def dNeg : D → Option D
  | .int a => some (.int (-a))
  | _ => none
def dAddS : D → D → Option D
  | .str a, .str b => if a.length + b.length ≤ 1000000 then some (.str (a ++ b)) else none
  | _, _ => none
def dNot : D → Option D
  | .bool b => some (.bool (!b))
  | _ => none
def dIsN : D → Option D
  | .none => some (.bool true)
  | .bool _ => some (.bool false)
  | .int _ => some (.bool false)
  | .str _ => some (.bool false)
  | .list _ => some (.bool false)
  | .tup _ => some (.bool false)
  | .obj _ _ _ => some (.bool false)
  | .scr _ => some (.bool false)
  | .dict _ _ => some (.bool false)
  | .dct _ _ => some (.bool false)
  | .rng _ _ => some (.bool false)
def dNotN : D → Option D := fun d => (dIsN d).bind dNot
section
variable {K : Kw} {co : Co} {E : L2.St → XK} {w w1 w2 w3 : Bool} {te ta tb tc : TE} {tt tu : TT} {f fa fb fc : Env → R D} {t u : Env → R Bool} {d : D} {i : Nat} {v : V}
theorem two_int {g : Int → Int → D} {G : D → D → Option D} (hG : ∀ a b d, G a b = some d → ∃ i j, a = .int i ∧ b = .int j ∧ d = g i j) {P : Prop} {a b d : D} (h : G a b = some d) (k : ∀ i j, a = .int i → b = .int j → d = g i j → P) : P := by
  obtain ⟨i, j, h1, h2, h3⟩ := hG a b d h
  exact k i j h1 h2 h3
theorem of_addI : OpF K rAddI dAdd := fun H x y a b d Q hx hy hg k => by
  cases hx <;> cases hy <;> simp [dAdd] at hg
  subst hg
  exact ⟨_, _, rfl, rfl, k _ fun _ => .int _⟩
theorem of_subI : OpF K rSubI dSub := fun H x y a b d Q hx hy hg k => by
  cases hx <;> cases hy <;> simp [dSub] at hg
  subst hg
  exact ⟨_, _, rfl, rfl, k _ fun _ => .int _⟩
theorem of_mulI : OpF K rMulI dMul := fun H x y a b d Q hx hy hg k => by
  cases hx <;> cases hy <;> simp [dMul] at hg
  obtain ⟨h, rfl⟩ := hg
  exact ⟨_, _, rfl, rfl, by unfold CMul; omega, k _ fun _ => .int _⟩
theorem of_divI : OpF K rDivI dDiv := fun H x y a b d Q hx hy hg k => by
  cases hx <;> cases hy <;> simp [dDiv] at hg
  obtain ⟨h, rfl⟩ := hg
  exact ⟨_, _, rfl, rfl, h, k _ fun _ => .int _⟩
theorem of_modI : OpF K rModI dMod := fun H x y a b d Q hx hy hg k => by
  cases hx <;> cases hy <;> simp [dMod] at hg
  obtain ⟨h, rfl⟩ := hg
  exact ⟨_, _, rfl, rfl, h, k _ fun _ => .int _⟩
theorem of_powI : OpF K rPowI dPow := fun H x y a b d Q hx hy hg k => by
  cases hx <;> cases hy <;> simp [dPow] at hg
  obtain ⟨h, rfl⟩ := hg
  exact ⟨_, _, rfl, rfl, h, k _ fun _ => .int _⟩
theorem of_ltI : OpF K rLtI dLt := fun H x y a b d Q hx hy hg k => by
  cases hx <;> cases hy <;> simp [dLt] at hg
  subst hg
  exact ⟨_, _, rfl, rfl, k _ fun _ => .bl _⟩
theorem of_leI : OpF K rLeI dLe := fun H x y a b d Q hx hy hg k => by
  cases hx <;> cases hy <;> simp [dLe] at hg
  subst hg
  exact ⟨_, _, rfl, rfl, k _ fun _ => .bl _⟩
theorem of_gtI : OpF K rGtI dGt := fun H x y a b d Q hx hy hg k => by
  cases hx <;> cases hy <;> simp [dGt] at hg
  subst hg
  exact ⟨_, _, rfl, rfl, k _ fun _ => .bl _⟩
theorem of_geI : OpF K rGeI dGe := fun H x y a b d Q hx hy hg k => by
  cases hx <;> cases hy <;> simp [dGe] at hg
  subst hg
  exact ⟨_, _, rfl, rfl, k _ fun _ => .bl _⟩
theorem of_addS : OpF K rAddS dAddS := fun H x y a b d Q hx hy hg k => by
  cases hx <;> cases hy <;> simp [dAddS] at hg
  obtain ⟨h, rfl⟩ := hg
  exact ⟨_, _, rfl, rfl, szm h, k _ fun _ => .str _⟩
theorem se_neg (h : SimE K co E w1 ta fa) : SimE K co E w (tUn (rU fun i => .int (-i)) ta) (x1 dNeg fa) := fun ρ own σ H R Q q => by
  refine h ρ own σ H R _ ((q.bind).mono (fun a _ q2 x H1 e1 hx => ?_) fun _ _ z => z)
  obtain ⟨d, hg, k⟩ := q2.of
  cases hx <;> simp [dNeg] at hg
  subst hg
  exact ⟨_, rfl, k _ H1 e1 (.int _)⟩
theorem dr_isN {H : Hp} {x : V} {a d : D} (h : Dr K H x a) (hg : dIsN a = some d) : d = .bool (decide (x = .non)) := by
  cases h <;> simp [dIsN] at hg <;> subst hg <;> simp
theorem se_isN (h : SimE K co E w1 ta fa) : SimE K co E w (tOp rIsN ta (tC .non)) (x1 dIsN fa) := fun ρ own σ H R Q q => by
  refine h ρ own σ H R _ ((q.bind).mono (fun a _ q2 x H1 e1 hx => ?_) fun _ _ z => z)
  obtain ⟨d, hg, k⟩ := q2.of
  have e := dr_isN hx hg
  subst e
  exact ⟨rfl, k _ H1 e1 (.bl _)⟩
theorem se_notN (h : SimE K co E w1 ta fa) : SimE K co E w (tOp rNotN ta (tC .non)) (x1 dNotN fa) := fun ρ own σ H R Q q => by
  refine h ρ own σ H R _ ((q.bind).mono (fun a _ q2 x H1 e1 hx => ?_) fun _ _ z => z)
  obtain ⟨d, hg, k⟩ := q2.of
  unfold dNotN at hg
  cases e : dIsN a with
  | none => rw [e] at hg; cases hg
  | some d' =>
    rw [e] at hg
    have e2 := dr_isN hx e
    subst e2
    simp [dNot] at hg
    subst hg
    exact ⟨rfl, k _ H1 e1 (.bl _)⟩

theorem se_and (ha : SimE K co E w1 ta fa) (hb : SimE K co E w2 tb fb) (hf : w2 = w) : SimE K co E w (tAndV ta tb) (xAnd fa fb) := fun ρ own σ H R Q q => by
  subst hf
  refine ha ρ own σ H R _ ((q.bind).mono (fun a _ q2 x H1 e1 hx => ?_) fun _ _ z => z)
  cases hx with
  | bl b => ?_
  | _ => exact q2.elim
  refine ⟨b, rfl, ?_⟩
  cases b with
  | true => exact hb ρ own σ H1 (R.up e1) _ (Pst.mono q2 (fun a _ k v H2 e2 hv => k v H2 (e1.trans e2) hv) fun c _ z => z.mono e1)
  | false => exact q2 _ H1 e1 (.bl _)
theorem se_or (ha : SimE K co E w1 ta fa) (hb : SimE K co E w2 tb fb) (hf : w2 = w) : SimE K co E w (tOrV ta tb) (xOr fa fb) := fun ρ own σ H R Q q => by
  subst hf
  refine ha ρ own σ H R _ ((q.bind).mono (fun a _ q2 x H1 e1 hx => ?_) fun _ _ z => z)
  cases hx with
  | bl b => ?_
  | _ => exact q2.elim
  refine ⟨b, rfl, ?_⟩
  cases b with
  | false => exact hb ρ own σ H1 (R.up e1) _ (Pst.mono q2 (fun a _ k v H2 e2 hv => k v H2 (e1.trans e2) hv) fun c _ z => z.mono e1)
  | true => exact q2 _ H1 e1 (.bl _)
theorem se_not (ha : SimE K co E w1 ta fa) : SimE K co E w (tNotV ta) (x1 dNot fa) := fun ρ own σ H R Q q => by
  refine ha ρ own σ H R _ ((q.bind).mono (fun a _ q2 x H1 e1 hx => ?_) fun _ _ z => z)
  obtain ⟨d, hg, k⟩ := q2.of
  cases hx <;> simp [dNot] at hg
  subst hg
  exact ⟨_, rfl, k _ H1 e1 (.bl _)⟩
theorem se_if (ht : SimT K co E tt t) (ha : SimE K co E w ta fa) (hb : SimE K co E w tb fb) : SimE K co E w (tIf tt ta tb) (xIf t fa fb) := fun ρ own σ H R Q q => by
  refine ht ρ own σ H R _ ((q.bind).mono (fun b _ q2 H1 e1 => ?_) fun _ _ z => z)
  cases b with
  | true => exact ha ρ own σ H1 (R.up e1) _ (Pst.mono q2 (fun a _ k v H2 e2 hv => k v H2 (e1.trans e2) hv) fun c _ z => z.mono e1)
  | false => exact hb ρ own σ H1 (R.up e1) _ (Pst.mono q2 (fun a _ k v H2 e2 hv => k v H2 (e1.trans e2) hv) fun c _ z => z.mono e1)

theorem st_tst (h : SimE K co E w ta fa) : SimT K co E (tTest ta) (yT fa) := fun ρ own σ H R Q q => by
  refine h ρ own σ H R _ ((q.bind).mono (fun a _ q2 x H1 e1 hx => ?_) fun _ _ z => z)
  cases a <;> first | exact q2.elim | skip
  cases hx
  exact ⟨_, rfl, q2 H1 e1⟩
theorem st_b (h : SimE K co E w ta fa) : SimT K co E (tB ta) (yT fa) := fun ρ own σ H R Q q => by
  refine h ρ own σ H R _ ((q.bind).mono (fun a _ q2 x H1 e1 hx => ?_) fun _ _ z => z)
  cases a <;> first | exact q2.elim | skip
  cases hx
  exact ⟨_, rfl, q2 H1 e1⟩
theorem DrA.isEmpty {H : Hp} {xs : List V} {ds : List D} (h : DrA K H xs ds) : xs.isEmpty = ds.isEmpty := by cases h <;> rfl
theorem Dr.tru {H : Hp} {x : V} {d : D} {b : Bool} (h : Dr K H x d) (hg : dTru d = some b) : TruV K x H b := by
  cases h with
  | non => simp [dTru] at hg; subst hg; rfl
  | bl b => simp [dTru] at hg; subst hg; rfl
  | int i => simp [dTru] at hg; subst hg; rfl
  | str s =>
    simp [dTru] at hg
    obtain ⟨h1, rfl⟩ := hg
    exact ⟨szm h1, rfl⟩
  | lst h a => simp only [dTru, Option.some.injEq] at hg; subst hg; exact .inl ⟨_, sq_of h, by rw [DrA.isEmpty a]⟩
  | tup h a => simp only [dTru, Option.some.injEq] at hg; subst hg; exact .inr (.inl ⟨_, h, by rw [DrA.isEmpty a]⟩)
  | obj _ _ _ => simp [dTru] at hg
  | scr _ => simp [dTru] at hg
  | dic _ _ _ _ => simp [dTru] at hg
  | dct _ _ => simp [dTru] at hg
  | rng _ => simp [dTru] at hg
theorem st_tru (h : SimE K co E w ta fa) : SimT K co E (tTru K ta) (yTru fa) := fun ρ own σ H R Q q => by
  refine h ρ own σ H R _ ((q.bind).mono (fun a _ q2 x H1 e1 hx => ?_) fun _ _ z => z)
  obtain ⟨b, hb, k⟩ := q2.of
  exact ⟨b, (dr_full hx).tru hb, k H1 e1⟩
theorem st_and (ha : SimT K co E tt t) (hb : SimT K co E tu u) : SimT K co E (tAnd tt tu) (yAnd t u) := fun ρ own σ H R Q q => by
  refine ha ρ own σ H R _ ((q.bind).mono (fun b _ q2 H1 e1 => ?_) fun _ _ z => z)
  cases b with
  | true => exact hb ρ own σ H1 (R.up e1) _ (Pst.mono q2 (fun a _ k H2 e2 => k H2 (e1.trans e2)) fun c _ z => z.mono e1)
  | false => exact q2 H1 e1
theorem st_or (ha : SimT K co E tt t) (hb : SimT K co E tu u) : SimT K co E (tOr tt tu) (yOr t u) := fun ρ own σ H R Q q => by
  refine ha ρ own σ H R _ ((q.bind).mono (fun b _ q2 H1 e1 => ?_) fun _ _ z => z)
  cases b with
  | false => exact hb ρ own σ H1 (R.up e1) _ (Pst.mono q2 (fun a _ k H2 e2 => k H2 (e1.trans e2)) fun c _ z => z.mono e1)
  | true => exact q2 H1 e1
theorem st_not (ha : SimT K co E tt t) : SimT K co E (tNot tt) (yNot t) := fun ρ own σ H R Q q => by
  refine ha ρ own σ H R _ ((q.bind).mono (fun b _ q2 H1 e1 => ?_) fun _ _ z => z)
  exact q2 H1 e1

def xChain (g g' : D → D → Option D) (fa fb fc : Env → R D) : Env → R D := fun ρ => (fa ρ).bind fun a => (fb ρ).bind fun b => (R.of (g a b)).bind fun z => match z with
  | .bool true => (fc ρ).bind fun c => R.of (g' b c)
  | .bool false => .ok (.bool false)
  | _ => .st
theorem se_chain {r r' : R2} {g g' : D → D → Option D} (ho : OpF K r g) (ho' : OpF K r' g') (ha : SimE K co E w1 ta fa) (hb : SimE K co E w2 tb fb) (hc : SimE K co E w3 tc fc) : SimE K co E w (tChain r r' ta tb tc) (xChain g g' fa fb fc) := fun ρ own σ H R Q q => by
  refine ha ρ own σ H R _ ((q.bind).mono (fun a _ q2 x H1 e1 hx => ?_) fun _ _ z => z)
  refine hb ρ own σ H1 (R.up e1) _ ((q2.bind).mono (fun b _ q3 y H2 e2 hy => ?_) fun c _ z => z.mono e1)
  obtain ⟨d, hg, k⟩ := q3.bind.of
  refine ho H2 x y a b d _ ((dr_full hx).mono e2) (dr_full hy) hg fun v hv => ?_
  cases d <;> first | exact k.elim | skip
  rename_i bb
  have := hv H2
  cases this
  refine ⟨bb, rfl, ?_⟩
  cases bb with
  | true =>
    refine hc ρ own σ H2 (R.up (e1.trans e2)) _ ((k.bind).mono (fun c _ q4 z H3 e3 hz => ?_) fun c _ z => z.mono (e1.trans e2))
    obtain ⟨d, hg, k⟩ := q4.of
    exact ho' H3 y z b c d Q ((dr_full hy).mono e3) (dr_full hz) hg fun v hv => k v H3 ((e1.trans e2).trans e3) (hv _)
  | false => exact k _ H2 (e1.trans e2) (.bl _)
end
end Sm

namespace Sm
open PySem L2 Evl Al


theorem OpR.or {X : Cx} {f : Value → Value → Sem Value} {r r' : R2} (h : OpR X f r) (h' : OpR X f r') : OpR X f (fun x y H Q => r x y H Q ∨ r' x y H Q) := fun pins s σ H x y v u Q I rx ry q => by
  rcases q with q | q
  · exact h pins s σ H x y v u Q I rx ry q
  · exact h' pins s σ H x y v u Q I rx ry q
def rAddU (K : PySem.W.Frag) : R2 := fun x y H Q => rAddI x y H Q ∨ (rAddS x y H Q ∨ (rCatA K x y H Q ∨ rCat x y H Q))
theorem op_addU {X : Cx} {K : PySem.W.Frag} (h : X.K = K) : OpR X (binaryOp .Add) (rAddU K) := OpR.or op_addI (OpR.or op_addS (OpR.or (h ▸ op_catA) op_cat))
section
open PySem.Spec PyProof.Rows

theorem tuple_mulS (l : Addr) (items : Array Value) (n : Nat) (dd : Option Addr) (sl : Array (Option Value)) (x : Int) (u : Tok) (c0 : (decide (x < -(2 ^ 63)) || decide (x ≥ 2 ^ 63)) = false) (c1 : (items.isEmpty || x == 1) = true) :
    Meets (Builtin.«tuple.__mul__» ⟨[.ref l, .int x u], []⟩) (fun _ R s => s.heap.get? l = some { cls := .type "tuple", dict := dd, data := .seq items n, slots := sl } ∧ R (.ok (.ret (.ref l))) s) :=
  .of_wp fun prog w A R s h => by
    obtain ⟨hp, g, d, tk, os⟩ := s
    obtain ⟨hl, h⟩ := h
    have f1 := AutoSeq1.idx_int
    have ht : ∀ tk, Shared.TypeIs ⟨hp, g, d, tk, os⟩ (.ref l) "tuple" := fun tk => ⟨_, hl, rfl⟩
    wp_walk using wpAny_loadPart' hl
    refine wpAny_ite_false (decide_eq_false (by rw [c0]; exact Bool.false_ne_true)) ?_
    wp_walk using wpAny_loadPart' hl
    exact ⟨_, rfl, h⟩
theorem tuple_mulO (l : Addr) (items : Array Value) (n : Nat) (dd : Option Addr) (sl : Array (Option Value)) (x : Int) (u : Tok) (c0 : (decide (x < -(2 ^ 63)) || decide (x ≥ 2 ^ 63)) = false) (c1 : (items.isEmpty || x == 1) = false) (c2 : (decide (x ≤ 0) || items.isEmpty) = true) :
    Meets (Builtin.«tuple.__mul__» ⟨[.ref l, .int x u], []⟩) (fun _ R s => s.heap.get? l = some { cls := .type "tuple", dict := dd, data := .seq items n, slots := sl } ∧
      R (.ok (.ret (Value.ref s.heap.objs.size))) { s with heap := s.heap.push { cls := Value.type "tuple", data := Data.seq #[] }, toks := s.toks }) :=
  .of_wp fun prog w A R s h => by
    obtain ⟨hp, g, d, tk, os⟩ := s
    obtain ⟨hl, h⟩ := h
    have f1 := AutoSeq1.idx_int
    wp_walk using wpAny_loadPart' hl
    refine wpAny_ite_false (decide_eq_false (by rw [c0]; exact Bool.false_ne_true)) ?_
    wp_walk using wpAny_loadPart' hl
    exact ⟨_, rfl, h⟩
def rRepY (K : PySem.W.Frag) : R2 := fun x y H Q => ∃ (l : Addr) (k : Int) (xs : List V), x = .ref l ∧ y = .int k ∧ SqT K H l xs ∧ -1000000 ≤ k ∧ k ≤ 1000000 ∧ (xs = [] ∨ k ≤ 1) ∧ (xs = [] ∨ k = 1 → Q (.ref l) H) ∧ (xs ≠ [] → k ≤ 0 → ∀ p, H p = none → Q (.ref p) (upd H p (.tup [])))
theorem op_repY {X : Cx} : OpR X (binaryOp .Mult) (rRepY X.K) := by
  intro pins s σ H x y v u Q I rx ry h
  obtain ⟨l, k, xs, rfl, rfl, hT, hlo, hhi, hk, q1, q2⟩ := h
  cases rx
  obtain ⟨t, rfl⟩ := ry
  obtain ⟨its, r, ⟨⟨c, dd, dt, sl⟩, ho, hc, n, hd⟩, _⟩ := I.tuple hT
  dsimp only at hc hd
  subst hc hd
  have len : xs.length = its.length := r.length
  have c0 : (decide (k < -(2 ^ 63)) || decide (k ≥ 2 ^ 63)) = false := by rw [decide_eq_false (by omega), decide_eq_false (by omega)]; rfl
  by_cases hs : xs = [] ∨ k = 1
  · have c1 : (its.toArray.isEmpty || k == 1) = true := by
      rcases hs with hs | hs
      · subst hs
        cases its with
        | nil => rfl
        | cons _ _ => simp at len
      · subst hs; simp
    refine wpAny_binaryOp_repeat_ref (T := "tuple") (U := "int") (by decide) ⟨_, ho, rfl⟩ (fun s' => typeIs_int s' k t) noFill_tuple_mul PySem.F.fills_int_mul PySem.F.slot_int_rmul repeat_tuple PySem.F.slot_int_index.lookup ?_
    refine call_meets PySem.F.slot_int_rmul (typeIs_int s k t) PySem.F.entry_int_rmul (PySem.F.args_int_rmul_2 _ _) (int_rmul_tuple k t l its.toArray n dd sl) ⟨ho, rfl, ⟨_, ho, rfl⟩, ?_⟩
    refine call_meets PySem.F.slot_tuple_mul ⟨_, ho, rfl⟩ PySem.F.entry_tuple_mul (PySem.F.args_tuple_mul_2 _ _) (tuple_mulS l its.toArray n dd sl k t c0 c1) ⟨ho, ?_⟩
    exact ⟨.ref l, H, I, rfl, q1 hs⟩
  · have hne : xs ≠ [] := fun e => hs (.inl e)
    have hk0 : k ≤ 0 := by
      rcases hk with h | h
      · exact absurd h hne
      · have : k ≠ 1 := fun e => hs (.inr e)
        omega
    have ne : its.toArray.isEmpty = false := by
      cases its with
      | nil => exact absurd (List.eq_nil_of_length_eq_zero (by rw [len]; rfl)) hne
      | cons _ _ => rfl
    refine wpAny_binaryOp_repeat_ref (T := "tuple") (U := "int") (by decide) ⟨_, ho, rfl⟩ (fun s' => typeIs_int s' k t) noFill_tuple_mul PySem.F.fills_int_mul PySem.F.slot_int_rmul repeat_tuple PySem.F.slot_int_index.lookup ?_
    refine call_meets PySem.F.slot_int_rmul (typeIs_int s k t) PySem.F.entry_int_rmul (PySem.F.args_int_rmul_2 _ _) (int_rmul_tuple k t l its.toArray n dd sl) ⟨ho, rfl, ⟨_, ho, rfl⟩, ?_⟩
    refine call_meets PySem.F.slot_tuple_mul ⟨_, ho, rfl⟩ PySem.F.entry_tuple_mul (PySem.F.args_tuple_mul_2 _ _) (tuple_mulO l its.toArray n dd sl k t c0 (by rw [ne, Bool.false_or]; exact beq_eq_false_iff_ne.mpr (by omega)) (by rw [decide_eq_true hk0]; rfl)) ⟨ho, ?_⟩
    have J := I.laid (t' := s.toks) (o := .tup []) (fun b ob z => Heap.get?_push_of_some { cls := .type "tuple", data := .seq ([] : List Value).toArray } z) (Nat.le_refl _) ⟨by rw [sizeLine_eq]; simp, [], .nil, IsTup.new _ _⟩
    exact ⟨.ref s.heap.objs.size, _, J, rfl, q2 hne hk0 _ (I.hok.fresh (Nat.le_refl _))⟩
end
def rMulU (K : PySem.W.Frag) : R2 := fun x y H Q => rMulI x y H Q ∨ (rRep x y H Q ∨ (rRepX K x y H Q ∨ rRepY K x y H Q))
theorem op_mulU {X : Cx} {K : PySem.W.Frag} (h : X.K = K) : OpR X (binaryOp .Mult) (rMulU K) := OpR.or op_mulI (OpR.or op_rep (OpR.or (h ▸ op_repX) (h ▸ op_repY)))
def rLtU (K : PySem.W.Frag) : R2 := fun x y H Q => rLtI x y H Q ∨ rLtT K x y H Q
theorem op_ltU {X : Cx} {K : PySem.W.Frag} (h : X.K = K) (hu : X.A.units < cLine) : OpR X (compareOp .Lt) (rLtU K) := OpR.or op_ltI (h ▸ op_ltT hu)
def iSeq (K : PySem.W.Frag) (tl : TE) : TI := fun σ H R => iList K tl σ H R ∨ iTup K tl σ H R
theorem pi_seq {X : Cx} {K : PySem.W.Frag} {tg l : Expr} {tl : TE} (h : X.K = K) (hl : PE X l tl) : PI X tg l (iSeq K tl) := ⟨fun pins s σ H R I q => by
  subst h
  rcases q with q | q
  · exact (pi_list hl).run pins s σ H R I q
  · exact (pi_tup hl).run pins s σ H R I q⟩
def gSeq (K : PySem.W.Frag) (n : Nat) (t : TGs) : TG := fun v σ H Q => gTup K n t v σ H Q ∨ gUnl K n t v σ H Q
theorem pg_seq {X : Cx} {K : PySem.W.Frag} {es : List Expr} {k : Nat} {t : TGs} {n : Nat} {pos : Pos} (hK : X.K = K) (hc : X.calm = true) (h : PGs X es t)
    (hn : (assignEach es X.env).length = n := by rfl) (hst : (assignEach es X.env).findIdx? (·.1) = none := by rfl) : PG X (.Tuple es k pos) (gSeq K n t) := ⟨fun pins s σ H v u Q I r q => by
  subst hK
  rcases q with q | q
  · exact (pg_tup hc h hn hst).run pins s σ H v u Q I r q
  · exact (pg_unl hc h hn hst).run pins s σ H v u Q I r q⟩
theorem PE.or {X : Cx} {e : Expr} {t t' : TE} (h : PE X e t) (h' : PE X e t') : PE X e (fun σ H Q => t σ H Q ∨ t' σ H Q) := ⟨fun pins s σ H Q I q => by
  rcases q with q | q
  · exact h.run pins s σ H Q I q
  · exact h'.run pins s σ H Q I q⟩

section
variable {K : Kw} {co : Co} {E : L2.St → XK} {w w1 w2 w3 : Bool} {te ta tb tc : TE} {tr : TA} {tt tu : TT} {f fa fb fc : Env → R D} {fr : Env → R (List D)} {t u : Env → R Bool} {d : D} {i : Nat} {v : V}
theorem dr_top {H : Hp} {S : Addr → Prop} (h : Dr K H v d) : Dr K (msk (fun _ => False) H) v d := by rw [msk_no]; exact h

theorem sa_nil : SimA K co E [] tNil aNil := fun ρ own σ H R Q q => q [] H (Ex.refl H) trivial
theorem sa_cons {b : Bool} {md : List Bool} (ha : SimE K co E (!b) ta fa) (hr : SimA K co E md tr fr) : SimA K co E (b :: md) (tCons ta tr) (aCons fa fr) := fun ρ own σ H R Q q => by
  refine ha ρ own σ H R _ ((q.bind).mono (fun a _ q2 x H1 e1 hx => ?_) fun _ _ z => z)
  refine hr ρ own σ H1 (R.up e1) _ ((q2.bind).mono (fun ds _ q3 vs H2 e2 hv => ?_) fun c _ z => z.mono e1)
  refine q3 (x :: vs) H2 (e1.trans e2) ⟨?_, hv⟩
  have hx := hx.mono (msk_ex e2)
  cases b with
  | true => exact hx
  | false => exact hx
theorem relm_all {S : Addr → Prop} {H : Hp} : ∀ {md : List Bool} {vs : List V} {ds : List D}, (∀ b ∈ md, b = true) → RelM K S H md vs ds → DrA K (msk S H) vs ds
  | [], [], [], _, _ => .nil
  | b :: md, v :: vs, d :: ds, h, r => by
    have hb := h b (by simp)
    subst hb
    exact .cons r.1 (relm_all (fun c hc => h c (by simp [hc])) r.2)
  | [], [], _ :: _, _, h => h.elim
  | [], _ :: _, _, _, h => h.elim
  | _ :: _, [], _, _, h => h.elim
  | _ :: _, _ :: _, [], _, h => h.elim
theorem se_tup {md : List Bool} (h : SimA K co E md tr fr) (hm : md.all id = true) : SimE K co E false (tTup tr) (xTup fr) := fun ρ own σ H R Q q => by
  refine h ρ own σ H R _ ((q.bind).mono (fun ds _ q2 vs H1 e1 hv => ?_) fun _ _ z => z)
  have hv := relm_all (fun b hb => by simpa using List.all_eq_true.mp hm b hb) hv
  by_cases hl : ds.length ≤ 1000000
  · rw [if_pos hl] at q2
    refine ⟨szm (by rw [hv.length]; exact hl), fun p hp => q2 _ _ (e1.trans (Ex.new hp)) ?_⟩
    have ns : ¬ Sx co own p := fun z => (((R.up e1).mut p z).ne hp)
    exact .tup (st_of (by rw [msk_at (show ¬ Sw co own false p from ns)]; exact upd_same)) (hv.mono (msk_ex (Ex.new hp)))
  · rw [if_neg hl] at q2; exact q2.elim
theorem sn_lst {md : List Bool} (h : SimA K co E md tr fr) (hm : md.all id = true) : SimN K co E (tLst tr) (nLst fr) := fun ρ own σ H R Q q => by
  refine h ρ own σ H R _ ((q.bind).mono (fun ds _ q2 vs H1 e1 hv => ?_) fun _ _ z => z)
  have hv := relm_all (fun b hb => by simpa using List.all_eq_true.mp hm b hb) hv
  by_cases hl : ds.length ≤ 1000000
  · rw [if_pos hl] at q2
    refine ⟨szm (by rw [hv.length]; exact hl), fun p hp => q2 p _ _ (fresh_back e1 hp) (e1.trans (Ex.new hp)) upd_same ?_⟩
    exact hv.mono (msk_to (Ex.new hp) fun a z => by rcases z with z | z; exact .inl z; subst z; exact .inr hp)
  · rw [if_neg hl] at q2; exact q2.elim
theorem SimN.e (h : SimN K co E te fr) : SimE K co E false te (xL fr) := fun ρ own σ H R Q q => by
  refine h ρ own σ H R _ ((q.bind).mono (fun ds _ q2 p vs H1 hp e1 hl hv => ?_) fun _ _ z => z)
  have ns : ¬ Sx co own p := fun z => ((R.mut p z).ne hp)
  exact q2 _ H1 e1 (.lst (by rw [msk_at (show ¬ Sw co own false p from ns)]; exact hl) (hv.mono (msk_sub fun a z => .inl z)))

theorem new_of {H : Hp} {S : Addr → Prop} {vs : List V} {ds : List D} (hd : DrA K (msk S H) vs ds) {p : Addr} (hp : H p = none) : DrA K (msk (fun a => S a ∨ a = p) (upd H p (.lst vs))) vs ds :=
  hd.mono (msk_to (Ex.new hp) fun a z => by rcases z with z | z; exact .inl z; subst z; exact .inr hp)

def lowA (w : Bool) (ds : List D) : Bool := !w || tupA ds
theorem DrA.low {S : Addr → Prop} {H : Hp} {vs : List V} {ds : List D} (h : ∀ a, S a → Mut H a) (r : DrA K H vs ds) (z : tupA ds = true) : DrA K (msk S H) vs ds := DrA.tx (msk_tx h) r z
theorem lowA_of {ρ : Env} {own : Own} {σ : L2.St} {H : Hp} {vs : List V} {ds : List D} (R : Rs K co ρ own σ H) (h : DrA K (msk (Sw co own w) H) vs ds) (z : lowA w ds = true) : DrA K (msk (Sx co own) H) vs ds := by
  cases w with
  | false => exact h
  | true =>
    have h : DrA K (msk (fun _ => False) H) vs ds := h
    rw [msk_no] at h
    exact DrA.low R.mut h (by simpa [lowA] using z)
def itemsD : D → Option (List D)
  | .list xs => some xs
  | .tup xs => some xs
  | _ => none

def nList (w : Bool) (f : Env → R D) : Env → R (List D) := fun ρ => (f ρ).bind fun d => R.of ((itemsD d).bind fun xs => if lowA w xs = true then some xs else none)
theorem items_of {S : Addr → Prop} {H : Hp} {x : V} {xs : List D} (h : Dr K (msk S H) x d) (e : itemsD d = some xs) : ∃ p vs, x = .ref p ∧ (SqL K H p vs ∨ SqT K H p vs) ∧ DrA K (msk S H) vs xs := by
  cases h with
  | lst h a => cases e; exact ⟨_, _, rfl, .inl (sq_of (msk_some h).2), a⟩
  | tup h a => cases e; exact ⟨_, _, rfl, .inr (ex_t msk_le h), a⟩
  | _ => cases e
theorem sn_list (h : SimE K co E w ta fa) : SimN K co E (tCB (rListOf K) (tCons ta tNil)) (nList w fa) := fun ρ own σ H R Q q => by
  refine h ρ own σ H R _ ((q.bind).mono (fun a _ q2 x H1 e1 hx => ?_) fun _ _ z => z)
  obtain ⟨xs, hg, k⟩ := q2.of
  cases ei : itemsD a with
  | none => rw [ei] at hg; cases hg
  | some ys =>
    rw [ei] at hg
    have hg : (if lowA w ys = true then some ys else none) = some xs := hg
    by_cases hl : lowA w ys = true
    · rw [if_pos hl] at hg
      cases hg
      obtain ⟨p, vs, rfl, hs, hd⟩ := items_of hx ei
      exact ⟨p, vs, rfl, hs, fun l hl2 => k l vs _ (fresh_back e1 hl2) (e1.trans (Ex.new hl2)) upd_same (new_of (lowA_of (R.up e1) hd hl) hl2)⟩
    · rw [if_neg hl] at hg; cases hg

def xTuple (f : Env → R D) : Env → R D := fun ρ => (f ρ).bind fun d => R.of ((itemsD d).map .tup)
theorem se_tuple (h : SimE K co E w ta fa) : SimE K co E w (tCB (rTupOf K) (tCons ta tNil)) (xTuple fa) := fun ρ own σ H R Q q => by
  refine h ρ own σ H R _ ((q.bind).mono (fun a _ q2 x H1 e1 hx => ?_) fun _ _ z => z)
  obtain ⟨d, hg, k⟩ := q2.of
  cases hx with
  | lst h a =>
    cases hg
    refine ⟨_, _, rfl, .inl ⟨sq_of (msk_some h).2, fun l hl => k _ _ (e1.trans (Ex.new hl)) ?_⟩⟩
    have ns : ¬ Sw co own w l := fun z => (sw_mut (R.up e1) w l z).ne hl
    exact .tup (st_of (by rw [msk_at ns]; exact upd_same)) (a.mono (msk_ex (Ex.new hl)))
  | tup h a =>
    cases hg
    exact ⟨_, _, rfl, .inr ⟨ex_t msk_le h, k _ _ e1 (.tup h a)⟩⟩
  | _ => cases hg

def rgD (a b : Int) : List D := (List.range (b - a).toNat).map fun (i : Nat) => D.int (a + (i : Int))
theorem rgV_rel {H : Hp} (a b : Int) : DrA K H (rgV a b) (rgD a b) := by
  unfold rgV rgD
  generalize List.range (b - a).toNat = l
  induction l with
  | nil => exact .nil
  | cons x l ih => exact .cons (.int _) ih
def rg2 : D → D → Option (Int × Int)
  | .int a, .int b => if 0 ≤ a ∧ a ≤ 1000000 ∧ 0 ≤ b ∧ b ≤ 1000000 then some (a, b) else none
  | _, _ => none
def nRg (fa fb : Env → R D) : Env → R (List D) := fun ρ => (fa ρ).bind fun a => (fb ρ).bind fun b => R.of ((rg2 a b).map fun z => rgD z.1 z.2)
theorem rg2_of {a b : D} {z : Int × Int} (h : rg2 a b = some z) : ∃ i j, a = .int i ∧ b = .int j ∧ z = (i, j) ∧ 0 ≤ i ∧ i ≤ 1000000 ∧ 0 ≤ j ∧ j ≤ 1000000 := by
  cases a <;> cases b <;> simp [rg2] at h
  obtain ⟨h, rfl⟩ := h
  exact ⟨_, _, rfl, rfl, rfl, h⟩
theorem sn_listRg2 (ha : SimE K co E w1 ta fa) (hb : SimE K co E w2 tb fb) : SimN K co E (tLstRg (tRg2 ta tb)) (nRg fa fb) := fun ρ own σ H R Q q => by
  refine ha ρ own σ H R _ ((q.bind).mono (fun a _ q2 x H1 e1 hx => ?_) fun _ _ z => z)
  refine hb ρ own σ H1 (R.up e1) _ ((q2.bind).mono (fun b _ q3 y H2 e2 hy => ?_) fun c _ z => z.mono e1)
  obtain ⟨ds, hg, k⟩ := q3.of
  cases ez : rg2 a b with
  | none => rw [ez] at hg; cases hg
  | some z =>
    rw [ez] at hg; cases hg
    obtain ⟨i, j, rfl, rfl, rfl, h1, h2, h3, h4⟩ := rg2_of ez
    cases hx; cases hy
    exact ⟨i, j, rfl, rfl, RgOk.of_le (by omega) (by omega) (by omega) (by omega), fun p hp => k p _ _ (fresh_back (e1.trans e2) hp) ((e1.trans e2).trans (Ex.new hp)) upd_same (rgV_rel _ _)⟩
theorem sn_listRg1 (hb : SimE K co E w2 tb fb) : SimN K co E (tLstRg (tRg1 tb)) (nRg (xC (.int 0)) fb) := fun ρ own σ H R Q q => by
  have q2 : Pst ((fb ρ).bind fun b => Sm.R.of ((rg2 (.int 0) b).map fun z => rgD z.1 z.2)) _ _ := q
  refine hb ρ own σ H R _ ((q2.bind).mono (fun b _ q3 y H2 e2 hy => ?_) fun _ _ z => z)
  obtain ⟨ds, hg, k⟩ := q3.of
  cases ez : rg2 (.int 0) b with
  | none => rw [ez] at hg; cases hg
  | some z =>
    rw [ez] at hg; cases hg
    obtain ⟨i, j, h0, rfl, rfl, h1, h2, h3, h4⟩ := rg2_of ez
    cases h0
    cases hy
    exact ⟨j, rfl, RgOk.of_le (by omega) (by omega) (by omega) (by omega), fun p hp => k p _ _ (fresh_back e2 hp) (e2.trans (Ex.new hp)) upd_same (rgV_rel _ _)⟩
def xTupRg (fa fb : Env → R D) : Env → R D := fun ρ => (nRg fa fb ρ).bind fun ds => .ok (.tup ds)
theorem se_tupRg1 (hb : SimE K co E w2 tb fb) : SimE K co E w (tTupRg (tRg1 tb)) (xTupRg (xC (.int 0)) fb) := fun ρ own σ H R Q q => by
  have q2 : Pst ((fb ρ).bind fun b => Sm.R.of ((rg2 (.int 0) b).map fun z => rgD z.1 z.2)) _ _ := q.bind
  refine hb ρ own σ H R _ ((q2.bind).mono (fun b _ q3 y H2 e2 hy => ?_) fun _ _ z => z)
  obtain ⟨ds, hg, k⟩ := q3.of
  cases ez : rg2 (.int 0) b with
  | none => rw [ez] at hg; cases hg
  | some z =>
    rw [ez] at hg; cases hg
    obtain ⟨i, j, h0, rfl, rfl, h1, h2, h3, h4⟩ := rg2_of ez
    cases h0
    cases hy
    refine ⟨j, rfl, RgOk.of_le (by omega) (by omega) (by omega) (by omega), fun p hp => k _ _ (e2.trans (Ex.new hp)) (.tup (st_of ?_) (rgV_rel _ _))⟩
    rw [msk_at (fun z => (sw_mut (R.up e2) w p z).ne hp)]
    exact upd_same


def lookD : List D → List D → NestedKey → Option D
  | k :: ks, v :: vs, n => if keyD k = some n then some v else lookD ks vs n
  | _, _, _ => none
mutual
theorem nk_of {H : Hp} : ∀ {v : V} {d : D} {k : NestedKey}, Dr K H v d → nkD d = some k → NkV K H v k
  | _, _, _, .non, e => by simp only [nkD, Option.some.injEq] at e; subst e; exact .non
  | _, _, _, .bl b, e => by simp only [nkD, Option.some.injEq] at e; subst e; exact .bl b
  | _, _, _, .int i, e => by simp only [nkD, Option.some.injEq] at e; subst e; exact .int i
  | _, _, _, .str x, e => by simp only [nkD, Option.some.injEq] at e; subst e; exact .str x
  | _, _, _, .lst _ _, e => by simp [nkD] at e
  | _, _, _, .tup h a, e => by
    simp only [nkD] at e
    obtain ⟨ks, h1, rfl⟩ := Option.map_eq_some_iff.mp e
    exact .tup h (nkA_of a h1)
  | _, _, _, .obj _ _ _, e => by simp [nkD] at e
  | _, _, _, .scr _, e => by simp [nkD] at e
  | _, _, _, .dic _ _ _ _, e => by simp [nkD] at e
  | _, _, _, .dct _ _, e => by simp [nkD] at e
  | _, _, _, .rng _, e => by simp [nkD] at e
theorem nkA_of {H : Hp} : ∀ {vs : List V} {ds : List D} {ks : List NestedKey}, DrA K H vs ds → nkA ds = some ks → NkA K H vs ks
  | _, _, _, .nil, e => by simp only [nkA, Option.some.injEq] at e; subst e; exact .nil
  | _, _, _, .cons h t, e => by
    simp only [nkA] at e
    obtain ⟨k, h1, e⟩ := Option.bind_eq_some_iff.mp e
    obtain ⟨ks, h2, rfl⟩ := Option.map_eq_some_iff.mp e
    exact .cons (nk_of h h1) (nkA_of t h2)
end
theorem key_at {H : Hp} {y : V} {b : D} {n : NestedKey} (h : Dr K H y b) (e : keyD b = some n) : ∃ p, KeyAt K H y p n := by
  cases h with
  | tup hs a =>
    obtain ⟨k, h1, h2⟩ := Option.bind_eq_some_iff.mp (show (nkD (.tup _)).bind _ = some n from e)
    split at h2
    · cases h2
      exact ⟨_, rfl, nk_of (.tup hs a) h1, by assumption⟩
    · cases h2
  | _ => simp [keyD] at e
theorem dic_keys {H : Hp} : ∀ {es : List Ent} {ks : List D}, DrA K H (es.map fun e => V.ref e.2.1) ks → keysD ks = some (es.map fun e => e.1) → KeysOk K H es
  | [], _, _, _ => fun e he => by cases he
  | e :: es, [], h, _ => by cases h
  | e :: es, k :: ks, h, hk => by
    cases h with
    | cons h1 h2 =>
      simp only [keysD] at hk
      obtain ⟨n, e1, hk⟩ := Option.bind_eq_some_iff.mp hk
      obtain ⟨ns, e2, e3⟩ := Option.map_eq_some_iff.mp hk
      rw [List.map_cons, List.cons.injEq] at e3
      obtain ⟨e3, e4⟩ := e3
      subst e3
      obtain ⟨p, hp, nk, dk⟩ := key_at h1 e1
      cases hp
      intro x hx
      rcases List.mem_cons.mp hx with rfl | hx
      · exact ⟨nk, dk⟩
      · exact dic_keys h2 (by rw [e2, e4]) x hx
theorem dic_val {H : Hp} {n : NestedKey} : ∀ {es : List Ent} {ks vs : List D}, DrA K H (es.map fun e => e.2.2) vs → keysD ks = some (es.map fun e => e.1) → match lookD ks vs n with
    | some d => ∃ v, valN es n = some v ∧ Dr K H v d
    | none => valN es n = none
  | [], [], _, _, _ => rfl
  | [], k :: ks, _, _, hk => by
    simp only [keysD] at hk
    obtain ⟨m, e1, hk⟩ := Option.bind_eq_some_iff.mp hk
    obtain ⟨ns, e2, e3⟩ := Option.map_eq_some_iff.mp hk
    cases e3
  | e :: es, [], _, _, hk => by cases hk
  | e :: es, k :: ks, [], h, _ => by cases h
  | e :: es, k :: ks, v :: vs, h, hk => by
    cases h with
    | cons h1 h2 =>
      simp only [keysD] at hk
      obtain ⟨m, e1, hk⟩ := Option.bind_eq_some_iff.mp hk
      obtain ⟨ns, e2, e3⟩ := Option.map_eq_some_iff.mp hk
      rw [List.map_cons, List.cons.injEq] at e3
      obtain ⟨e3, e4⟩ := e3
      unfold lookD
      rw [e1]
      by_cases hn : m = n
      · subst hn
        rw [if_pos rfl]
        exact ⟨_, valN_pos e3.symm, h1⟩
      · rw [if_neg (fun z => hn (Option.some.inj z)), valN_neg (fun z => hn (e3.trans z))]
        exact dic_val h2 (by rw [e2, e4])
def keyJ : D → Option Key
  | .int n => some (.inl n)
  | .str s => some (.inr s)
  | _ => none
theorem keyJ_of {K : Kw} {H : Hp} {v : V} {d : D} {k : Key} (h : Dr K H v d) (e : keyJ d = some k) : v = kV k := by
  cases h <;> simp [keyJ] at e <;> subst e <;> rfl
def idxJ (ks : List Key) (k : Key) : Option Nat := ks.findIdx? fun x => decide (x = k)
theorem valV_idx {k : Key} : ∀ {kvs : List (Key × V)} {n : Nat}, idxJ (kvs.map (·.1)) k = some n → valV kvs k = (kvs.map (·.2))[n]?
  | [], n, h => by simp [idxJ] at h
  | p :: r, n, h => by
    unfold idxJ at h
    rw [List.map_cons, List.findIdx?_cons] at h
    by_cases e : p.1 = k
    · rw [if_pos (decide_eq_true e), Option.some.injEq] at h
      subst h
      rw [valV_pos e]; rfl
    · rw [if_neg (by simpa using e)] at h
      obtain ⟨m, h1, rfl⟩ := Option.map_eq_some_iff.mp h
      rw [show valV (p :: r) k = valV r k by simp [valV, List.find?_cons, e], valV_idx (show idxJ (r.map (·.1)) k = some m from h1)]
      rfl
theorem valV_no {k : Key} : ∀ {kvs : List (Key × V)}, idxJ (kvs.map (·.1)) k = none → valV kvs k = none
  | [], h => rfl
  | p :: r, h => by
    unfold idxJ at h
    rw [List.map_cons, List.findIdx?_cons] at h
    by_cases e : p.1 = k
    · rw [if_pos (decide_eq_true e)] at h; cases h
    · rw [if_neg (by simpa using e)] at h
      rw [show valV (p :: r) k = valV r k by simp [valV, List.find?_cons, e]]
      exact valV_no (Option.map_eq_none_iff.mp h)
def dIx : D → D → Option D
  | .dict ks vs, b => (keyD b).bind (lookD ks vs)
  | .dct ks vs, b => (keyJ b).bind fun k => (idxJ ks k).bind fun n => vs[n]?
  | .list xs, .int i => atI xs i
  | .tup xs, .int i => atI xs i
  | .str s, .int i => if s.length ≤ 1000000 then (atI s.cps.toList i).map fun c => .str ⟨#[c]⟩ else none
  | _, _ => none
theorem DrA.at' {H : Hp} {xs : List V} {ds : List D} {n : Int} (h : DrA K H xs ds) (hi : atI ds n = some d) : ∃ v, atI xs n = some v ∧ Dr K H v d := by
  unfold atI at hi ⊢
  rw [DrA.length h]
  cases e : ixN ds.length n with
  | none => rw [e] at hi; cases hi
  | some j =>
    rw [e] at hi
    exact DrA.get' h (show ds[j]? = some d from hi)
theorem ixN_of' {H H2 : Hp} {x y : V} {ks vs : List D} {b d : D} (e : Ex H H2) (hx : Dr K H x (.dict ks vs)) (hy : Dr K H2 y b) (hg : dIx (.dict ks vs) b = some d) {Q : VK} (k : ∀ v, Dr K H v d → Q v H2) : rIxN K.f K.w x y H2 Q := by
  obtain ⟨n, hn, hg⟩ := Option.bind_eq_some_iff.mp (show (keyD b).bind (lookD ks vs) = some d from hg)
  cases hx with
  | dic h h1 h2 h3 =>
    obtain ⟨p, hp⟩ := key_at hy hn
    have := dic_val (n := n) h2 h3
    rw [hg] at this
    obtain ⟨v, hv, hd⟩ := this
    exact ⟨_, _, p, n, v, rfl, e _ _ h, (dic_keys h1 h3).tx e.tx, hp, hv, k v hd⟩
theorem ixJ_of {H H2 H3 : Hp} {x y : V} {ks : List Key} {vs : List D} {b d : D} (e : Ex H H2) (hx : Dr K H x (.dct ks vs)) (hy : Dr K H3 y b) (hg : dIx (.dct ks vs) b = some d) {Q : VK} (k : ∀ v, Dr K H v d → Q v H2) : rIxJ x y H2 Q := by
  obtain ⟨kk, h1, hg⟩ := Option.bind_eq_some_iff.mp (show (keyJ b).bind (fun k => (idxJ ks k).bind fun n => vs[n]?) = some d from hg)
  obtain ⟨n, h2, h3⟩ := Option.bind_eq_some_iff.mp hg
  cases hx with
  | dct h a =>
    have := keyJ_of hy h1
    subst this
    obtain ⟨v, hv, hd⟩ := a.get' h3
    have g := DGet.k (k := kk) (e _ _ h)
    rw [valV_idx h2, hv] at g
    exact ⟨_, v, rfl, g, k v hd⟩
theorem os_ix : OpS K w (rIxW K.f K.w) dIx := fun S H x y a b d Q _ hS hx hy hg k => by
  by_cases hdd : ∃ ks vs, a = .dict ks vs
  · obtain ⟨ks, vs, rfl⟩ := hdd
    obtain ⟨n, hn, hg2⟩ := Option.bind_eq_some_iff.mp (show (keyD b).bind (lookD ks vs) = some d from hg)
    cases hx with
    | dic h h1 h2 h3 =>
      obtain ⟨p, hp1, hp2, hp3⟩ := key_at (hy.mono msk_le) hn
      have := dic_val (n := n) h2 h3
      rw [hg2] at this
      obtain ⟨v, hv, hd⟩ := this
      exact .inr (.inl ⟨_, _, p, n, v, rfl, (msk_some h).2, (dic_keys h1 h3).tx (msk_le (S := S)).tx, ⟨hp1, hp2, hp3⟩, hv, k v H (Ex.refl H) hd⟩)
  by_cases hdj : ∃ ks vs, a = .dct ks vs
  · obtain ⟨ks, vs, rfl⟩ := hdj
    exact .inr (.inr (ixJ_of msk_le hx hy hg fun v hv => k v H (Ex.refl H) hv))
  refine .inl ?_
  cases hy with
  | int n =>
    cases hx with
    | lst h z =>
      obtain ⟨v, h1, h2⟩ := DrA.at' z hg
      exact .inl ⟨_, _, n, v, rfl, rfl, sq_of (msk_some h).2, h1, k v H (Ex.refl H) h2⟩
    | tup h z =>
      obtain ⟨v, h1, h2⟩ := DrA.at' z hg
      exact .inr (.inl ⟨_, _, n, v, rfl, rfl, ex_t msk_le h, h1, k v H (Ex.refl H) h2⟩)
    | str s =>
      simp only [dIx] at hg
      by_cases hl : s.length ≤ 1000000
      · rw [if_pos hl] at hg
        cases e : atI s.cps.toList n with
        | none => rw [e] at hg; cases hg
        | some c => rw [e] at hg; cases hg; exact .inr (.inr ⟨s, n, c, rfl, rfl, szm hl, e, k _ H (Ex.refl H) (.str _)⟩)
      · rw [if_neg hl] at hg; cases hg
    | dic _ _ _ _ => exact absurd ⟨_, _, rfl⟩ hdd
    | dct _ _ => exact absurd ⟨_, _, rfl⟩ hdj
    | _ => simp [dIx] at hg
  | _ => cases a <;> first | (simp [dIx] at hg; done) | exact absurd ⟨_, _, rfl⟩ hdd | exact absurd ⟨_, _, rfl⟩ hdj

def SimO (K : Kw) (co : Co) (E : L2.St → XK) (to : TO) (f : Env → R (Option Int)) : Prop := ∀ ρ own σ H, Rs K co ρ own σ H → ∀ Q : Option Int → Hp → Prop,
  Pst (f ρ) (fun b => ∀ H2, Ex H H2 → Q b H2) (ErrS K E σ H) → to σ H Q
def oNo : Env → R (Option Int) := fun _ => .ok none
def oSo (f : Env → R D) : Env → R (Option Int) := fun ρ => (f ρ).bind fun d => match d with
  | .int i => .ok (some i)
  | _ => .st
theorem so_no : SimO K co E tNoPart oNo := fun ρ own σ H R Q q => q H (Ex.refl H)
theorem so_so (h : SimE K co E w ta fa) : SimO K co E (tPart ta) (oSo fa) := fun ρ own σ H R Q q => by
  refine h ρ own σ H R _ ((q.bind).mono (fun a _ q2 x H1 e1 hx => ?_) fun _ _ z => z)
  cases hx with
  | int n => exact ⟨n, rfl, q2 H1 e1⟩
  | _ => exact q2.elim
def cutD (xs : List D) (lo hi : Option Int) : List D := (xs.drop (HT.sIx xs.length 0 lo)).take (HT.sIx xs.length xs.length hi - HT.sIx xs.length 0 lo)
def dSl : D → Option Int → Option Int → Option D
  | .list xs, lo, hi => some (.list (cutD xs lo hi))
  | .tup xs, lo, hi => some (.tup (cutD xs lo hi))
  | .scr ns, lo, hi => some (.list (cutD (ns.map D.int) lo hi))
  | _, _, _ => none
def xSl (f : Env → R D) (lo hi : Env → R (Option Int)) : Env → R D := fun ρ => (f ρ).bind fun d => (lo ρ).bind fun l => (hi ρ).bind fun h => R.of (dSl d l h)
theorem cutD_all {xs : List D} {lo hi : Option Int} (h : HT.sIx xs.length 0 lo = 0 ∧ HT.sIx xs.length xs.length hi = xs.length) : cutD xs lo hi = xs := by
  unfold cutD
  rw [h.1, h.2]
  simp
theorem se_sl {tl th : TO} {lo hi : Env → R (Option Int)} (h : SimE K co E w ta fa) (h1 : SimO K co E tl lo) (h2 : SimO K co E th hi) : SimE K co E w (tSl (rSlU K) ta tl th) (xSl fa lo hi) := fun ρ own σ H R Q q => by
  refine h ρ own σ H R _ ((q.bind).mono (fun a _ q2 x H1 e1 hx => ?_) fun _ _ z => z)
  refine h1 ρ own σ H1 (R.up e1) _ ((q2.bind).mono (fun l _ q3 H2 e2 => ?_) fun c _ z => z.mono e1)
  refine h2 ρ own σ H2 (R.up (e1.trans e2)) _ ((q3.bind).mono (fun u _ q4 H3 e3 => ?_) fun c _ z => z.mono (e1.trans e2))
  obtain ⟨d, hg, k⟩ := q4.of
  have e13 := (e1.trans e2).trans e3
  have hx := hx.mono (msk_ex (e2.trans e3))
  have ns : ∀ {p}, H3 p = none → ¬ Sw co own w p := fun hp z => (sw_mut (R.up e13) w _ z).ne hp
  cases hx with
  | lst h a =>
    cases hg
    exact .inl ⟨_, _, rfl, sq_of (msk_some h).2, fun p hp => k _ _ (e13.trans (Ex.new hp)) (.lst (by rw [msk_at (ns hp)]; exact upd_same) ((DrA.cut a l u).mono (msk_ex (Ex.new hp))))⟩
  | scr h =>
    cases hg
    exact .inl ⟨_, _, rfl, ex_l msk_le h, fun p hp => k _ _ (e13.trans (Ex.new hp)) (.lst (by rw [msk_at (ns hp)]; exact upd_same) (DrA.cut (DrA.ints _) l u))⟩
  | tup h a =>
    cases hg
    refine .inr ⟨_, _, rfl, ex_t msk_le h, fun hw => k _ _ e13 ?_, fun _ p hp => k _ _ (e13.trans (Ex.new hp)) (.tup (st_of (by rw [msk_at (ns hp)]; exact upd_same)) ((DrA.cut a l u).mono (msk_ex (Ex.new hp))))⟩
    rw [DrA.length a] at hw
    rw [cutD_all hw]
    exact .tup h a
  | _ => cases hg

def nSl (w : Bool) (f : Env → R D) (lo hi : Env → R (Option Int)) : Env → R (List D) := fun ρ => (f ρ).bind fun d => (lo ρ).bind fun l => (hi ρ).bind fun h => R.of ((dSl d l h).bind fun z => match z with
  | .list xs => if lowA w xs = true then some xs else none
  | _ => none)
theorem sn_sl {tl th : TO} {lo hi : Env → R (Option Int)} (h : SimE K co E w ta fa) (h1 : SimO K co E tl lo) (h2 : SimO K co E th hi) : SimN K co E (tSl (rSlU K) ta tl th) (nSl w fa lo hi) := fun ρ own σ H R Q q => by
  refine h ρ own σ H R _ ((q.bind).mono (fun a _ q2 x H1 e1 hx => ?_) fun _ _ z => z)
  refine h1 ρ own σ H1 (R.up e1) _ ((q2.bind).mono (fun l _ q3 H2 e2 => ?_) fun c _ z => z.mono e1)
  refine h2 ρ own σ H2 (R.up (e1.trans e2)) _ ((q3.bind).mono (fun u _ q4 H3 e3 => ?_) fun c _ z => z.mono (e1.trans e2))
  obtain ⟨xs, hg, k⟩ := q4.of
  have e13 := (e1.trans e2).trans e3
  have hx := hx.mono (msk_ex (e2.trans e3))
  cases hx with
  | lst h a =>
    have hg : (if lowA w (cutD _ l u) = true then some (cutD _ l u) else none) = some xs := hg
    split at hg
    · cases hg
      rename_i hl
      exact .inl ⟨_, _, rfl, sq_of (msk_some h).2, fun p hp => k p _ _ (fresh_back e13 hp) (e13.trans (Ex.new hp)) upd_same (new_of (lowA_of (R.up e13) (DrA.cut a l u) hl) hp)⟩
    · cases hg
  | scr h =>
    have hg : (if lowA w (cutD _ l u) = true then some (cutD _ l u) else none) = some xs := hg
    split at hg
    · cases hg
      exact .inl ⟨_, _, rfl, ex_l msk_le h, fun p hp => k p _ _ (fresh_back e13 hp) (e13.trans (Ex.new hp)) upd_same (DrA.cut (DrA.ints _) l u)⟩
    · cases hg
  | _ => cases hg

def dRevT : D → Option D
  | .tup xs => some (.tup xs.reverse)
  | _ => none

def dAddU : D → D → Option D
  | .int a, .int b => some (.int (a + b))
  | .str a, .str b => if a.length + b.length ≤ 1000000 then some (.str (a ++ b)) else none
  | .tup a, .tup b => if a.length + b.length ≤ 16000000 then some (.tup (a ++ b)) else none
  | .list a, .list b => if a.length + b.length ≤ 1000000 then some (.list (a ++ b)) else none
  | _, _ => none
theorem os_addU : OpS K w (rAddU K) dAddU := fun S H x y a b d Q _ hS hx hy hg k => by
  have ns : ∀ {p}, H p = none → ¬ S p := fun hp z => (hS _ z).ne hp
  cases hx with
  | int i =>
    cases hy with
    | int j => cases hg; exact .inl ⟨_, _, rfl, rfl, k _ H (Ex.refl H) (.int _)⟩
    | _ => cases hg
  | str i =>
    cases hy with
    | str j =>
      simp only [dAddU] at hg
      split at hg
      · cases hg; rename_i hl; exact .inr (.inl ⟨_, _, rfl, rfl, szm hl, k _ H (Ex.refl H) (.str _)⟩)
      · cases hg
    | _ => cases hg
  | tup h a =>
    cases hy with
    | tup h' a' =>
      simp only [dAddU] at hg
      split at hg
      · cases hg
        rename_i hl
        refine .inr (.inr (.inl ⟨_, _, _, _, rfl, rfl, ex_t msk_le h, ex_t msk_le h', szx (by rw [a.length, a'.length]; exact hl), fun z => ?_, fun _ z => ?_, fun _ _ l hl => ?_⟩))
        · subst z
          cases a
          exact k _ H (Ex.refl H) (.tup h' a')
        · subst z
          cases a'
          rw [List.append_nil] at k
          exact k _ H (Ex.refl H) (.tup h a)
        · exact k _ _ (Ex.new hl) (.tup (st_of (by rw [msk_at (ns hl)]; exact upd_same)) ((a.append a').mono (msk_ex (Ex.new hl))))
      · cases hg
    | _ => cases hg
  | lst h a =>
    cases hy with
    | lst h' a' =>
      simp only [dAddU] at hg
      split at hg
      · cases hg
        rename_i hl
        exact .inr (.inr (.inr ⟨_, _, _, _, rfl, rfl, (msk_some h).2, (msk_some h').2, szm (by rw [a.length, a'.length]; exact hl), fun l hl => k _ _ (Ex.new hl) (.lst (by rw [msk_at (ns hl)]; exact upd_same) ((a.append a').mono (msk_ex (Ex.new hl))))⟩))
      · cases hg
    | _ => cases hg
  | _ => cases hg
def nAdd (w : Bool) (fa fb : Env → R D) : Env → R (List D) := fun ρ => (fa ρ).bind fun a => (fb ρ).bind fun b => R.of (match a, b with
  | .list xs, .list ys => if xs.length + ys.length ≤ 1000000 ∧ lowA w (xs ++ ys) = true then some (xs ++ ys) else none
  | _, _ => none)
theorem sn_add (ha : SimE K co E w ta fa) (hb : SimE K co E w tb fb) : SimN K co E (tOp (rAddU K) ta tb) (nAdd w fa fb) := fun ρ own σ H R Q q => by
  refine ha ρ own σ H R _ ((q.bind).mono (fun a _ q2 x H1 e1 hx => ?_) fun _ _ z => z)
  refine hb ρ own σ H1 (R.up e1) _ ((q2.bind).mono (fun b _ q3 y H2 e2 hy => ?_) fun c _ z => z.mono e1)
  obtain ⟨xs, hg, k⟩ := q3.of
  have hx := hx.mono (msk_ex e2)
  have e12 := e1.trans e2
  cases hx with
  | lst h a =>
    cases hy with
    | lst h' a' =>
      dsimp only at hg
      split at hg
      · cases hg
        rename_i hl
        exact .inr (.inr (.inr ⟨_, _, _, _, rfl, rfl, (msk_some h).2, (msk_some h').2, szm (by rw [a.length, a'.length]; exact hl.1), fun l hl2 => k _ _ _ (fresh_back e12 hl2) (e12.trans (Ex.new hl2)) upd_same (new_of (lowA_of (R.up e12) (a.append a') hl.2) hl2)⟩))
      · cases hg
    | _ => cases hg
  | _ => cases hg

def dMulU : D → D → Option D
  | .int a, .int b => if (-18446744073709551616 < a ∧ a < 18446744073709551616) ∨ (-18446744073709551616 < b ∧ b < 18446744073709551616) then some (.int (a * b)) else none
  | .list xs, .int n => if -1000000 ≤ n ∧ n ≤ 1000000 ∧ xs.length * n.toNat ≤ 1000000 then some (.list (List.replicate n.toNat xs).flatten) else none
  | .tup xs, .int n => if xs ≠ [] ∧ 2 ≤ n ∧ ((xs.length : Nat) : Int) * n ≤ 1000000 then some (.tup (List.replicate n.toNat xs).flatten) else if n = 1 then some (.tup xs) else if -1000000 ≤ n ∧ n ≤ 0 then some (.tup []) else none
  | _, _ => none
theorem os_mulU : OpS K w (rMulU K) dMulU := fun S H x y a b d Q _ hS hx hy hg k => by
  have ns : ∀ {p}, H p = none → ¬ S p := fun hp z => (hS _ z).ne hp
  cases hy with
  | int n =>
    cases hx with
    | int i =>
      simp only [dMulU] at hg
      split at hg
      · cases hg; rename_i hc; exact .inl ⟨_, _, rfl, rfl, by unfold CMul; omega, k _ H (Ex.refl H) (.int _)⟩
      · cases hg
    | lst h a =>
      simp only [dMulU] at hg
      split at hg
      · cases hg
        rename_i hc
        exact .inr (.inl ⟨_, n, _, rfl, rfl, (msk_some h).2, by omega, by omega, szm (by rw [a.length]; exact hc.2.2), fun l hl => k _ _ (Ex.new hl) (.lst (by rw [msk_at (ns hl)]; exact upd_same) ((a.rep _).mono (msk_ex (Ex.new hl))))⟩)
      · cases hg
    | tup h a =>
      simp only [dMulU] at hg
      split at hg
      · cases hg
        rename_i hc
        exact .inr (.inr (.inl ⟨_, n, _, rfl, rfl, ex_t msk_le h, fun z => hc.1 (by subst z; cases a; rfl), hc.2.1, by rw [a.length]; exact hc.2.2, fun l hl => k _ _ (Ex.new hl) (.tup (st_of (by rw [msk_at (ns hl)]; exact upd_same)) ((a.rep _).mono (msk_ex (Ex.new hl))))⟩))
      · split at hg
        · cases hg
          rename_i h1
          subst h1
          exact .inr (.inr (.inr ⟨_, 1, _, rfl, rfl, ex_t msk_le h, by omega, by omega, .inr (by omega), fun _ => k _ H (Ex.refl H) (.tup h a), fun _ z => absurd z (by omega)⟩))
        · split at hg
          · cases hg
            rename_i h0
            refine .inr (.inr (.inr ⟨_, n, _, rfl, rfl, ex_t msk_le h, by omega, by omega, .inr (by omega), fun z => ?_, fun _ _ l hl => k _ _ (Ex.new hl) (.tup (st_of (by rw [msk_at (ns hl)]; exact upd_same)) .nil)⟩))
            rcases z with z | z
            · subst z
              cases a
              exact k _ H (Ex.refl H) (.tup h .nil)
            · omega
          · cases hg
    | _ => cases hg
  | _ => cases hx <;> cases hg
def nMul (w : Bool) (fa fb : Env → R D) : Env → R (List D) := fun ρ => (fa ρ).bind fun a => (fb ρ).bind fun b => R.of (match a, b with
  | .list xs, .int n => if -1000000 ≤ n ∧ n ≤ 1000000 ∧ xs.length * n.toNat ≤ 1000000 ∧ lowA w (List.replicate n.toNat xs).flatten = true then some (List.replicate n.toNat xs).flatten else none
  | _, _ => none)
theorem sn_mul (ha : SimE K co E w ta fa) (hb : SimE K co E w1 tb fb) : SimN K co E (tOp (rMulU K) ta tb) (nMul w fa fb) := fun ρ own σ H R Q q => by
  refine ha ρ own σ H R _ ((q.bind).mono (fun a _ q2 x H1 e1 hx => ?_) fun _ _ z => z)
  refine hb ρ own σ H1 (R.up e1) _ ((q2.bind).mono (fun b _ q3 y H2 e2 hy => ?_) fun c _ z => z.mono e1)
  obtain ⟨xs, hg, k⟩ := q3.of
  have hx := hx.mono (msk_ex e2)
  have e12 := e1.trans e2
  cases hx with
  | lst h a =>
    cases hy with
    | int n =>
      dsimp only at hg
      split at hg
      · cases hg
        rename_i hc
        exact .inr (.inl ⟨_, n, _, rfl, rfl, (msk_some h).2, by omega, by omega, szm (by rw [a.length]; exact hc.2.2.1), fun l hl2 => k _ _ _ (fresh_back e12 hl2) (e12.trans (Ex.new hl2)) upd_same (new_of (lowA_of (R.up e12) (a.rep _) hc.2.2.2) hl2)⟩)
      · cases hg
    | _ => cases hg
  | _ => cases hg

mutual
def D.py : D → Option PyData
  | .none => some .none
  | .bool b => some (.bool b)
  | .int i => some (.int i)
  | .str s => some (.str s)
  | .list xs => (pyA xs).map .list
  | .tup xs => (pyA xs).map .tuple
  | .obj _ _ _ => none
  | .scr _ => none
  | .dict _ _ => none
  | .dct _ _ => none
  | .rng _ _ => none
def pyA : List D → Option (List PyData)
  | [] => some []
  | d :: ds => (D.py d).bind fun p => (pyA ds).map fun ps => p :: ps
end
mutual
theorem Dr.dp {H : Hp} : ∀ {v : V} {d : D} {p : PyData}, Dr K H v d → D.py d = some p → Dp K H v p
  | _, _, _, .non, e => by simp [D.py] at e; subst e; exact .non
  | _, _, _, .bl b, e => by simp [D.py] at e; subst e; exact .bl b
  | _, _, _, .int i, e => by simp [D.py] at e; subst e; exact .int i
  | _, _, _, .str x, e => by simp [D.py] at e; subst e; exact .str x
  | _, _, _, .lst h a, e => by simp [D.py] at e; obtain ⟨ps, h1, rfl⟩ := e; exact .lst (sq_of h) (DrA.dp a h1)
  | _, _, _, .tup h a, e => by simp [D.py] at e; obtain ⟨ps, h1, rfl⟩ := e; exact .tup h (DrA.dp a h1)
  | _, _, _, .obj _ _ _, e => by simp [D.py] at e
  | _, _, _, .scr _, e => by simp [D.py] at e
  | _, _, _, .dic _ _ _ _, e => by simp [D.py] at e
  | _, _, _, .dct _ _, e => by simp [D.py] at e
  | _, _, _, .rng _, e => by simp [D.py] at e
theorem DrA.dp {H : Hp} : ∀ {vs : List V} {ds : List D} {ps : List PyData}, DrA K H vs ds → pyA ds = some ps → DpAll K H vs ps
  | _, _, _, .nil, e => by simp [pyA] at e; subst e; exact .nil
  | _, _, _, .cons h t, e => by
    simp only [pyA] at e
    obtain ⟨p, h1, e⟩ := Option.bind_eq_some_iff.mp e
    obtain ⟨ps, h2, rfl⟩ := Option.map_eq_some_iff.mp e
    exact .cons (Dr.dp h h1) (DrA.dp t h2)
end
def dEq (a b : D) : Option D := match D.py a, D.py b with
  | some p, some q => if SeqAt.shaped p = true ∧ SeqAt.shaped q = true then some (.bool (PyData.eqv p q)) else none
  | _, _ => none
def dNe (a b : D) : Option D := (dEq a b).bind dNot
theorem dEq_of {a b d : D} (h : dEq a b = some d) : ∃ p q, D.py a = some p ∧ D.py b = some q ∧ SeqAt.shaped p = true ∧ SeqAt.shaped q = true ∧ d = .bool (PyData.eqv p q) := by
  unfold dEq at h
  cases e1 : D.py a with
  | none => rw [e1] at h; cases h
  | some p =>
    cases e2 : D.py b with
    | none => rw [e1, e2] at h; cases h
    | some q =>
      rw [e1, e2] at h
      dsimp only at h
      split at h
      · cases h; rename_i hc; exact ⟨p, q, rfl, rfl, hc.1, hc.2, rfl⟩
      · cases h
theorem of_eq : OpF K (rEqD K) dEq := fun H x y a b d Q hx hy hg k => by
  obtain ⟨p, q, h1, h2, h3, h4, rfl⟩ := dEq_of hg
  exact ⟨p, q, hx.dp h1, hy.dp h2, h3, h4, k _ fun _ => .bl _⟩
theorem of_ne : OpF K (rNeD K) dNe := fun H x y a b d Q hx hy hg k => by
  unfold dNe at hg
  obtain ⟨z, h, hg⟩ := Option.bind_eq_some_iff.mp hg
  obtain ⟨p, q, h1, h2, h3, h4, rfl⟩ := dEq_of h
  cases hg
  exact ⟨p, q, hx.dp h1, hy.dp h2, h3, h4, k _ fun _ => .bl _⟩

def dLen : D → Option D
  | .list xs => some (.int (xs.length : Nat))
  | .tup xs => some (.int (xs.length : Nat))
  | .str s => if s.length ≤ 1000000 then some (.int (s.length : Nat)) else none
  | .dict ks _ => some (.int (ks.length : Nat))
  | .dct ks _ => some (.int (ks.length : Nat))
  | _ => none
theorem se_len (h : SimE K co E w1 ta fa) : SimE K co E w (tCB (rLenW K.f K.w) (tCons ta tNil)) (x1 dLen fa) := fun ρ own σ H R Q q => by
  refine h ρ own σ H R _ ((q.bind).mono (fun a _ q2 x H1 e1 hx => ?_) fun _ _ z => z)
  obtain ⟨d, hg, k⟩ := q2.of
  by_cases hdd : ∃ ks vs, a = .dict ks vs
  · obtain ⟨ks, vs, rfl⟩ := hdd
    cases dr_full hx with
    | dic h h1 h2 h3 =>
      cases hg
      have := h1.length
      rw [List.length_map] at this
      refine .inr (.inl ⟨_, _, rfl, h, ?_⟩)
      rw [this]
      exact k _ H1 e1 (.int _)
  by_cases hdj : ∃ ks vs, a = .dct ks vs
  · obtain ⟨ks, vs, rfl⟩ := hdj
    cases dr_full hx with
    | dct h a =>
      cases hg
      refine .inr (.inr ⟨_, _, rfl, .inl h, ?_⟩)
      rw [List.length_map] at k
      exact k _ H1 e1 (.int _)
  refine .inl ?_
  cases dr_full hx with
  | dic _ _ _ _ => exact absurd ⟨_, _, rfl⟩ hdd
  | dct _ _ => exact absurd ⟨_, _, rfl⟩ hdj
  | lst h a => cases hg; exact ⟨_, _, rfl, .inl ⟨_, sq_of h, a.length.symm⟩, k _ H1 e1 (.int _)⟩
  | tup h a => cases hg; exact ⟨_, _, rfl, .inr ⟨_, h, a.length.symm⟩, k _ H1 e1 (.int _)⟩
  | str s =>
    simp only [dLen] at hg
    split at hg
    · cases hg; rename_i hl; exact ⟨_, _, rfl, ⟨szm hl, rfl⟩, k _ H1 e1 (.int _)⟩
    · cases hg
  | _ => cases hg
def dInt : D → Option D
  | .int i => some (.int i)
  | .bool b => some (.int (if b then 1 else 0))
  | _ => none
theorem se_int (h : SimE K co E w1 ta fa) : SimE K co E w (tCB rIntU (tCons ta tNil)) (x1 dInt fa) := fun ρ own σ H R Q q => by
  refine h ρ own σ H R _ ((q.bind).mono (fun a _ q2 x H1 e1 hx => ?_) fun _ _ z => z)
  obtain ⟨d, hg, k⟩ := q2.of
  cases hx with
  | int i => cases hg; exact .inl ⟨_, rfl, k _ H1 e1 (.int _)⟩
  | bl b => cases hg; exact .inr ⟨_, rfl, k _ H1 e1 (.int _)⟩
  | _ => cases hg
def dAbs : D → Option D
  | .int i => some (.int (if i < 0 then -i else i))
  | _ => none
theorem se_abs (h : SimE K co E w1 ta fa) : SimE K co E w (tCB rAbs (tCons ta tNil)) (x1 dAbs fa) := fun ρ own σ H R Q q => by
  refine h ρ own σ H R _ ((q.bind).mono (fun a _ q2 x H1 e1 hx => ?_) fun _ _ z => z)
  obtain ⟨d, hg, k⟩ := q2.of
  cases hx with
  | int i => cases hg; exact ⟨_, rfl, k _ H1 e1 (.int _)⟩
  | _ => cases hg
def dMax2 : D → D → Option D
  | .int i, .int j => some (.int (if j > i then j else i))
  | _, _ => none
def dMin2 : D → D → Option D
  | .int i, .int j => some (.int (if j < i then j else i))
  | _, _ => none
theorem se_max2 (ha : SimE K co E w1 ta fa) (hb : SimE K co E w2 tb fb) : SimE K co E w (tCB Al.rMax2 (tCons ta (tCons tb tNil))) (x2 dMax2 fa fb) := fun ρ own σ H R Q q => by
  refine ha ρ own σ H R _ ((q.bind).mono (fun a _ q2 x H1 e1 hx => ?_) fun _ _ z => z)
  refine hb ρ own σ H1 (R.up e1) _ ((q2.bind).mono (fun b _ q3 y H2 e2 hy => ?_) fun c _ z => z.mono e1)
  obtain ⟨d, hg, k⟩ := q3.of
  cases hx <;> cases hy <;> cases hg
  exact ⟨_, _, rfl, k _ H2 (e1.trans e2) (.int _)⟩
theorem se_min2 (ha : SimE K co E w1 ta fa) (hb : SimE K co E w2 tb fb) : SimE K co E w (tCB Al.rMin2 (tCons ta (tCons tb tNil))) (x2 dMin2 fa fb) := fun ρ own σ H R Q q => by
  refine ha ρ own σ H R _ ((q.bind).mono (fun a _ q2 x H1 e1 hx => ?_) fun _ _ z => z)
  refine hb ρ own σ H1 (R.up e1) _ ((q2.bind).mono (fun b _ q3 y H2 e2 hy => ?_) fun c _ z => z.mono e1)
  obtain ⟨d, hg, k⟩ := q3.of
  cases hx <;> cases hy <;> cases hg
  exact ⟨_, _, rfl, k _ H2 (e1.trans e2) (.int _)⟩
def boolsD : List D → Option (List Bool)
  | [] => some []
  | .bool b :: r => (boolsD r).map fun bs => b :: bs
  | _ :: _ => none
def intsD : List D → Option (List Int)
  | [] => some []
  | .int b :: r => (intsD r).map fun bs => b :: bs
  | _ :: _ => none
theorem bools_of {H : Hp} : ∀ {vs : List V} {ds : List D} {bs : List Bool}, DrA K H vs ds → boolsD ds = some bs → vs = bs.map V.bl
  | _, _, _, .nil, e => by simp [boolsD] at e; subst e; rfl
  | _, _, _, .cons h t, e => by
    cases h with
    | bl b =>
      simp only [boolsD] at e
      obtain ⟨cs, h1, rfl⟩ := Option.map_eq_some_iff.mp e
      rw [bools_of t h1]
      rfl
    | _ => simp [boolsD] at e
theorem ints_of {H : Hp} : ∀ {vs : List V} {ds : List D} {bs : List Int}, DrA K H vs ds → intsD ds = some bs → vs = bs.map V.int
  | _, _, _, .nil, e => by simp [intsD] at e; subst e; rfl
  | _, _, _, .cons h t, e => by
    cases h with
    | int b =>
      simp only [intsD] at e
      obtain ⟨cs, h1, rfl⟩ := Option.map_eq_some_iff.mp e
      rw [ints_of t h1]
      rfl
    | _ => simp [intsD] at e
def dAll : D → Option D
  | .list xs => (boolsD xs).map fun bs => .bool (bs.all id)
  | _ => none
def dAny : D → Option D
  | .list xs => (boolsD xs).map fun bs => .bool (bs.any id)
  | _ => none
def dSum : D → Option D
  | .list xs => (intsD xs).map fun bs => .int bs.sum
  | _ => none
theorem se_all (h : SimE K co E w1 ta fa) : SimE K co E w (tCB (rAll K) (tCons ta tNil)) (x1 dAll fa) := fun ρ own σ H R Q q => by
  refine h ρ own σ H R _ ((q.bind).mono (fun a _ q2 x H1 e1 hx => ?_) fun _ _ z => z)
  obtain ⟨d, hg, k⟩ := q2.of
  cases dr_full hx with
  | lst h a =>
    obtain ⟨bs, hb, rfl⟩ := Option.map_eq_some_iff.mp hg
    rw [bools_of a hb] at h
    exact ⟨_, bs, rfl, sq_of h, k _ H1 e1 (.bl _)⟩
  | _ => cases hg
theorem se_any (h : SimE K co E w1 ta fa) : SimE K co E w (tCB (rAny K) (tCons ta tNil)) (x1 dAny fa) := fun ρ own σ H R Q q => by
  refine h ρ own σ H R _ ((q.bind).mono (fun a _ q2 x H1 e1 hx => ?_) fun _ _ z => z)
  obtain ⟨d, hg, k⟩ := q2.of
  cases dr_full hx with
  | lst h a =>
    obtain ⟨bs, hb, rfl⟩ := Option.map_eq_some_iff.mp hg
    rw [bools_of a hb] at h
    exact ⟨_, bs, rfl, sq_of h, k _ H1 e1 (.bl _)⟩
  | _ => cases hg
theorem se_sum (h : SimE K co E w1 ta fa) : SimE K co E w (tCB (rSum K) (tCons ta tNil)) (x1 dSum fa) := fun ρ own σ H R Q q => by
  refine h ρ own σ H R _ ((q.bind).mono (fun a _ q2 x H1 e1 hx => ?_) fun _ _ z => z)
  obtain ⟨d, hg, k⟩ := q2.of
  cases dr_full hx with
  | lst h a =>
    obtain ⟨bs, hb, rfl⟩ := Option.map_eq_some_iff.mp hg
    rw [ints_of a hb] at h
    exact ⟨_, bs, rfl, sq_of h, k _ H1 e1 (.int _)⟩
  | _ => cases hg

def tyN : D → Option String
  | .none => some "NoneType"
  | .bool _ => some "bool"
  | .int _ => some "int"
  | .str _ => some "str"
  | .list _ => some "list"
  | .tup _ => some "tuple"
  | _ => none
def dIsi (T : String) (d : D) : Option D := (tyN d).bind fun n => (kitB n T).map .bool
theorem Dr.ty {H : Hp} {x : V} {n : String} (h : Dr K H x d) (e : tyN d = some n) : TyX K H x (.type n) := by
  cases h with
  | non => cases e; exact .base .non
  | bl b => cases e; exact .base (.bl b)
  | int i => cases e; exact .base (.int i)
  | str s => cases e; exact .base (.str s)
  | lst h a => cases e; exact .base (.lst h)
  | tup h a =>
    cases e
    rcases h with (h | ⟨o, h⟩) | ⟨o, its, n, hk, hc, _⟩
    · exact .base (.tup h)
    · exact .fTuple h
    · exact .kTuple hk hc
  | _ => cases e
theorem se_isi {T : String} (h : SimE K co E w1 ta fa) : SimE K co E w (tCB (rIsi K) (tCons ta (tCons (tC (.ty T)) tNil))) (x1 (dIsi T) fa) := fun ρ own σ H R Q q => by
  refine h ρ own σ H R _ ((q.bind).mono (fun a _ q2 x H1 e1 hx => ?_) fun _ _ z => z)
  obtain ⟨d, hg, k⟩ := q2.of
  unfold dIsi at hg
  obtain ⟨n, h1, hg⟩ := Option.bind_eq_some_iff.mp hg
  obtain ⟨b, h2, rfl⟩ := Option.map_eq_some_iff.mp hg
  exact ⟨x, .ty T, _, _, b, rfl, .ty T, (dr_full hx).ty h1, kit_ty h2, k _ H1 e1 (.bl _)⟩

def xIsX (i : Nat) (all yes : List Str) : Env → R D := fun ρ => match ρ[i]? with
  | some (.x c) => if all.contains c = true then .ok (.bool (yes.contains c)) else .st
  | _ => .st
theorem se_isX {C : Str} {all yes : List Str} (hC : ∀ c ∈ all, ExcC K (He.ga K c) ∧ PySem.W.kitOne K (.ref (He.ga K c)) (.ref (He.ga K C)) = some (yes.contains c)) :
    SimE K co E w (tCB (rIsX K co.xa co.xc co.xd) (tCons (tVar i) (tCons (tC (.ref (He.ga K C))) tNil))) (xIsX i all yes) := fun ρ own σ H R Q q => by
  unfold xIsX at q
  cases e : ρ[i]? with
  | none => rw [e] at q; exact q.elim
  | some s =>
    rw [e] at q
    cases s with
    | x c =>
      dsimp only at q
      split at q
      · rename_i hc
        obtain ⟨_, h1, h2, h3⟩ := R.sl i _ e
        obtain ⟨h4, h5⟩ := hC c (by simpa using hc)
        exact ⟨_, join_some h1, _, .ref (He.ga K C), .ref (He.ga K C), _, h4, h2, h3, rfl, fun _ r => r, h5, q _ H (Ex.refl H) (.bl _)⟩
      · exact q.elim
    | _ => exact q.elim

def flatDD : D → Bool
  | .none => true
  | .bool _ => true
  | .int _ => true
  | .str _ => true
  | _ => false
def eqFlat (a b : D) : Bool := match D.py a, D.py b with
  | some p, some q => PyData.eqv p q
  | _, _ => false
theorem flat_of {H : Hp} {x : V} {d : D} (h : Dr K H x d) (z : flatDD d = true) : flatV x = true := by
  cases h <;> first | rfl | simp [flatDD] at z
def dIn0 : D → D → Option D := fun a b => (itemsD b).bind fun xs => if flatDD a = true ∧ xs.all flatDD = true then some (.bool (xs.any fun y => eqFlat y a)) else none
def deepIn (a : D) (xs : List D) : Option D := (D.py a).bind fun p => (pyA xs).bind fun ps => if (p.canLay0 && decide (p.depth ≤ 60) && PyData.canLayAll0 ps) = true then some (.bool (ps.any fun q => PyData.eqv q p)) else none
def dInD (a : D) : D → Option D
  | .list xs => deepIn a xs
  | .tup xs => deepIn a xs
  | _ => none
def dIn : D → D → Option D := fun a b => match b with
  | .dict ks vs => (keyD a).map fun n => .bool (lookD ks vs n).isSome
  | .dct ks _ => (keyJ a).map fun k => .bool (idxJ ks k).isSome
  | _ => match dIn0 a b with
    | some d => some d
    | none => dInD a b
end
end Sm

namespace Sm
open PySem L2 Evl Al
section
variable {K : Kw} {co : Co} {E : L2.St → XK} {w w1 w2 w3 : Bool} {te ta tb tc : TE} {tr : TA} {tt tu : TT} {f fa fb fc : Env → R D} {fr : Env → R (List D)} {t u : Env → R Bool} {d : D} {i : Nat} {v : V}

theorem eqv_flat {H : Hp} {x y : V} {a b : D} (hx : Dr K H x a) (hy : Dr K H y b) (fa : flatDD a = true) (fb : flatDD b = true) : eqV y x = eqFlat b a := by
  cases hx <;> simp [flatDD] at fa <;> cases hy <;> simp [flatDD] at fb <;> simp [eqV, eqFlat, D.py, PyData.eqv]
theorem any_flat {H : Hp} {x : V} {a : D} (hx : Dr K H x a) (fa : flatDD a = true) : ∀ {vs : List V} {ds : List D}, DrA K H vs ds → ds.all flatDD = true → vs.all flatV = true ∧ inV x vs = ds.any fun y => eqFlat y a
  | _, _, .nil, _ => ⟨rfl, rfl⟩
  | _, _, .cons h t, z => by
    simp only [List.all_cons, Bool.and_eq_true] at z
    obtain ⟨h1, h2⟩ := any_flat hx fa t z.2
    refine ⟨by simp only [List.all_cons, flat_of h z.1, h1, Bool.and_self], ?_⟩
    show (eqV _ x || inV x _) = _
    rw [h2, eqv_flat hx h fa z.1]
    rfl
theorem of_in0 : OpF K (rIn K false) dIn0 := fun H x y a b d Q hx hy hg k => by
  unfold dIn0 at hg
  obtain ⟨xs, h1, hg⟩ := Option.bind_eq_some_iff.mp hg
  split at hg
  · cases hg
    rename_i hc
    have hy2 : Dr K (msk (fun _ => False) H) y b := by rw [msk_no]; exact hy
    obtain ⟨p, vs, rfl, hs, hd⟩ := items_of hy2 h1
    rw [msk_no] at hd
    obtain ⟨h2, h3⟩ := any_flat hx hc.1 hd hc.2
    exact ⟨p, vs, rfl, hs, flat_of hx hc.1, h2, k _ fun _ => by rw [h3]; exact .bl _⟩
  · cases hg
def dNin0 (a b : D) : Option D := (dIn0 a b).bind dNot
theorem of_nin0 : OpF K (rIn K true) dNin0 := fun H x y a b d Q hx hy hg k => by
  unfold dNin0 at hg
  obtain ⟨z, h, hg⟩ := Option.bind_eq_some_iff.mp hg
  refine of_in0 H x y a b z (fun v H' => Q v H' ∨ True) hx hy h (fun _ _ => .inr trivial) |> fun q => ?_
  obtain ⟨p, vs, rfl, hs, h1, h2, _⟩ := q
  unfold dIn0 at h
  obtain ⟨xs, h3, h⟩ := Option.bind_eq_some_iff.mp h
  split at h
  · cases h
    rename_i hc
    cases hg
    have hy2 : Dr K (msk (fun _ => False) H) (.ref p) b := by rw [msk_no]; exact hy
    obtain ⟨p', vs', e, hs', hd⟩ := items_of hy2 h3
    cases e
    rw [msk_no] at hd
    obtain ⟨h4, h5⟩ := any_flat hx hc.1 hd hc.2
    exact ⟨p, vs', rfl, hs', flat_of hx hc.1, h4, k _ fun _ => by rw [h5]; exact .bl _⟩
  · cases h
theorem in_dict {H : Hp} {x y : V} {a : D} {ks vs : List D} {n : NestedKey} (hx : Dr K H x a) (hy : Dr K H y (.dict ks vs)) (hn : keyD a = some n) : ∃ p es b, y = .ref p ∧ H p = some (dN K.w p es) ∧ KeysOk K H es ∧ KeyAt K H x b n ∧ (valN es n).isSome = (lookD ks vs n).isSome := by
  cases hy with
  | dic h h1 h2 h3 =>
    obtain ⟨b, hb⟩ := key_at hx hn
    have := dic_val (n := n) h2 h3
    refine ⟨_, _, b, rfl, h, dic_keys h1 h3, hb, ?_⟩
    cases hl : lookD ks vs n with
    | none => rw [hl] at this; rw [this]; rfl
    | some d => rw [hl] at this; obtain ⟨v, hv, _⟩ := this; rw [hv]; rfl
theorem in_dct {H H3 : Hp} {x y : V} {a : D} {ks : List Key} {vs : List D} {n : Key} (hx : Dr K H3 x a) (hy : Dr K H y (.dct ks vs)) (hn : keyJ a = some n) : ∃ p o, y = .ref p ∧ DGet H p x o ∧ o.isSome = (idxJ ks n).isSome := by
  cases hy with
  | dct h a =>
    have := keyJ_of hx hn
    subst this
    refine ⟨_, _, rfl, DGet.k h, ?_⟩
    cases e : idxJ _ n with
    | none => rw [valV_no e]; rfl
    | some m =>
      rw [valV_idx e]
      have := (List.findIdx?_eq_some_iff_findIdx_eq.mp e).1
      rw [List.length_map] at this
      rw [List.getElem?_eq_getElem (by rw [List.length_map]; exact this)]
      rfl
theorem deep_of {a b d : D} (h : dInD a b = some d) : ∃ ps p, (D.py b = some (.list ps) ∨ D.py b = some (.tuple ps)) ∧ D.py a = some p ∧ (p.canLay0 = true ∧ p.depth ≤ 60 ∧ PyData.canLayAll0 ps = true) ∧ d = .bool (ps.any fun q => PyData.eqv q p) := by
  have key : ∀ xs, deepIn a xs = some d → ∃ ps p, pyA xs = some ps ∧ D.py a = some p ∧ (p.canLay0 = true ∧ p.depth ≤ 60 ∧ PyData.canLayAll0 ps = true) ∧ d = .bool (ps.any fun q => PyData.eqv q p) := fun xs h => by
    unfold deepIn at h
    obtain ⟨p, h1, h⟩ := Option.bind_eq_some_iff.mp h
    obtain ⟨ps, h2, h⟩ := Option.bind_eq_some_iff.mp h
    split at h
    · rename_i c
      cases h
      rw [Bool.and_eq_true, Bool.and_eq_true, decide_eq_true_iff] at c
      exact ⟨ps, p, h2, h1, ⟨c.1.1, c.1.2, c.2⟩, rfl⟩
    · cases h
  cases b with
  | list xs =>
    obtain ⟨ps, p, h1, h2⟩ := key xs h
    exact ⟨ps, p, .inl (by rw [D.py, h1]; rfl), h2⟩
  | tup xs =>
    obtain ⟨ps, p, h1, h2⟩ := key xs h
    exact ⟨ps, p, .inr (by rw [D.py, h1]; rfl), h2⟩
  | _ => cases h
theorem of_in : OpF K (rInW K.f K.w false) dIn := fun H x y a b d Q hx hy hg k => by
  by_cases hdd : ∃ ks vs, b = .dict ks vs
  · obtain ⟨ks, vs, rfl⟩ := hdd
    obtain ⟨n, hn, rfl⟩ := Option.map_eq_some_iff.mp (show (keyD a).map (fun n => D.bool (lookD ks vs n).isSome) = some d from hg)
    obtain ⟨p, es, q, rfl, h, hk, hq, e⟩ := in_dict hx hy hn
    exact .inr (.inl ⟨p, es, q, n, rfl, h, hk, hq, k _ fun _ => by rw [← e]; exact .bl _⟩)
  by_cases hdj : ∃ ks vs, b = .dct ks vs
  · obtain ⟨ks, vs, rfl⟩ := hdj
    obtain ⟨n, hn, rfl⟩ := Option.map_eq_some_iff.mp (show (keyJ a).map (fun n => D.bool (idxJ ks n).isSome) = some d from hg)
    obtain ⟨p, o, rfl, g, e⟩ := in_dct hx hy hn
    exact .inr (.inr (.inr ⟨p, o, rfl, g, k _ fun _ => by rw [← e]; exact .bl _⟩))
  · have hg : (match dIn0 a b with
      | some d => some d
      | none => dInD a b) = some d := by
      rw [← hg]
      cases b <;> first | rfl | exact absurd ⟨_, _, rfl⟩ hdd | exact absurd ⟨_, _, rfl⟩ hdj
    cases h0 : dIn0 a b with
    | some d' =>
      rw [h0] at hg
      cases hg
      exact .inl (of_in0 H x y a b d Q hx hy h0 k)
    | none =>
      rw [h0] at hg
      obtain ⟨ps, p, h1, h2, h3, rfl⟩ := deep_of hg
      have hy2 : Dp K H y (.list ps) ∨ Dp K H y (.tuple ps) := by
        rcases h1 with h1 | h1
        · exact .inl (Dr.dp hy h1)
        · exact .inr (Dr.dp hy h1)
      exact .inr (.inr (.inl ⟨ps, p, hy2, Dr.dp hx h2, h3.1, h3.2.1, h3.2.2, k _ fun _ => .bl _⟩))
def dNin (a b : D) : Option D := (dIn a b).bind dNot
theorem of_nin : OpF K (rInW K.f K.w true) dNin := fun H x y a b d Q hx hy hg k => by
  by_cases hdd : ∃ ks vs, b = .dict ks vs
  · obtain ⟨ks, vs, rfl⟩ := hdd
    obtain ⟨z, h0, hg⟩ := Option.bind_eq_some_iff.mp (show (dIn a (.dict ks vs)).bind dNot = some d from hg)
    obtain ⟨n, hn, rfl⟩ := Option.map_eq_some_iff.mp (show (keyD a).map (fun n => D.bool (lookD ks vs n).isSome) = some z from h0)
    cases hg
    obtain ⟨p, es, q, rfl, h, hk, hq, e⟩ := in_dict hx hy hn
    exact .inr (.inl ⟨p, es, q, n, rfl, h, hk, hq, k _ fun _ => by rw [← e]; exact .bl _⟩)
  by_cases hdj : ∃ ks vs, b = .dct ks vs
  · obtain ⟨ks, vs, rfl⟩ := hdj
    obtain ⟨z, h0, hg⟩ := Option.bind_eq_some_iff.mp (show (dIn a (.dct ks vs)).bind dNot = some d from hg)
    obtain ⟨n, hn, rfl⟩ := Option.map_eq_some_iff.mp (show (keyJ a).map (fun n => D.bool (idxJ ks n).isSome) = some z from h0)
    cases hg
    obtain ⟨p, o, rfl, g, e⟩ := in_dct hx hy hn
    exact .inr (.inr (.inr ⟨p, o, rfl, g, k _ fun _ => by rw [← e]; exact .bl _⟩))
  · have hg : (match dIn0 a b with
      | some d => some d
      | none => dInD a b).bind dNot = some d := by
      rw [← hg]
      unfold dNin
      cases b <;> first | rfl | exact absurd ⟨_, _, rfl⟩ hdd | exact absurd ⟨_, _, rfl⟩ hdj
    cases h0 : dIn0 a b with
    | some d' =>
      rw [h0] at hg
      exact .inl (of_nin0 H x y a b d Q hx hy (by unfold dNin0; rw [h0]; exact hg) k)
    | none =>
      rw [h0] at hg
      obtain ⟨z, hz, hg⟩ := Option.bind_eq_some_iff.mp hg
      obtain ⟨ps, p, h1, h2, h3, rfl⟩ := deep_of hz
      cases hg
      have hy2 : Dp K H y (.list ps) ∨ Dp K H y (.tuple ps) := by
        rcases h1 with h1 | h1
        · exact .inl (Dr.dp hy h1)
        · exact .inr (Dr.dp hy h1)
      exact .inr (.inr (.inl ⟨ps, p, hy2, Dr.dp hx h2, h3.1, h3.2.1, h3.2.2, k _ fun _ => .bl _⟩))

inductive Rz where
  | ok (d : D) | nw (xs : List D) | nt (t : Tn) | er (c : Str) | st
def RzP (K : Kw) (S : Addr → Prop) (H : Hp) (Q : VK) (E : XK) : Rz → Prop
  | .ok d => ∀ v H', Ex H H' → Dr K (msk S H') v d → Q v H'
  | .nw xs => ∀ p vs H', H p = none → Ex H H' → H' p = some (.lst vs) → DrA K (msk (fun a => S a ∨ a = p) H') vs xs → Q (.ref p) H'
  | .nt t => ∀ v (N : Addr → Prop) H', (∀ a, N a → H a = none) → Ex H H' → Tr K (msk (fun a => S a ∨ N a) H') H' N v t → Q v H'
  | .er c => ∀ H', Ex H H' → E (.ref (He.ga K c)) none H'
  | .st => False

def spF (K : Kw) (md : List Bool) (g : List D → Rz) : Sp := fun vs H Q E => ∃ (S : Addr → Prop) (ds : List D), (∀ a, S a → Mut H a) ∧ RelM K S H md vs ds ∧ RzP K S H Q E (g ds)

def spF1 (K : Kw) (md : List Bool) (g : List D → Rz) (ds : List D) : Sp := fun vs H Q E => ∃ (S : Addr → Prop), (∀ a, S a → Mut H a) ∧ RelM K S H md vs ds ∧ RzP K S H Q E (g ds)
def Rz.r : Rz → R D
  | .ok d => .ok d
  | .nw xs => .ok (.list xs)
  | .nt t => R.of t.D
  | .er c => .er c
  | .st => .st
def Rz.tn : Rz → R Tn
  | .nt t => .ok t
  | .er c => .er c
  | _ => .st
def Rz.n : Rz → R (List D)
  | .nw xs => .ok xs
  | .er c => .er c
  | _ => .st
theorem relm_len {S : Addr → Prop} {H : Hp} : ∀ {md : List Bool} {vs : List V} {ds : List D}, RelM K S H md vs ds → vs.length = md.length ∧ ds.length = md.length
  | [], [], [], _ => ⟨rfl, rfl⟩
  | _ :: _, _ :: _, _ :: _, h => by
    obtain ⟨a, b⟩ := relm_len h.2
    exact ⟨by simp [a], by simp [b]⟩
  | [], [], _ :: _, h => h.elim
  | [], _ :: _, _, h => h.elim
  | _ :: _, [], _, h => h.elim
  | _ :: _, _ :: _, [], h => h.elim
theorem spF_len {md : List Bool} {g : List D → Rz} {vs : List V} {H : Hp} {Q : VK} {XE : XK} (h : spF K md g vs H Q XE) : vs.length = md.length := by
  obtain ⟨S, ds, _, h, _⟩ := h
  exact (relm_len h).1

theorem rzP_of {ρ : Env} {own : Own} {σ : L2.St} {H H1 : Hp} {Q : VK} {XE : XK} {z : Rz} (Rr : Rs K co ρ own σ H) (e1 : Ex H H1) (q : Pst z.r (fun d => ∀ v H2, Ex H H2 → Dr K (msk (Sx co own) H2) v d → Q v H2) fun c => ∀ H2, Ex H1 H2 → XE (.ref (He.ga K c)) none H2) : RzP K (Sx co own) H1 Q XE z := by
  cases z with
  | ok d => exact fun v H2 e2 hv => q v H2 (e1.trans e2) hv
  | nw xs =>
    intro p vs H2 hp e2 hl hd
    have ns : ¬ Sx co own p := fun z => ((Rr.up e1).mut p z).ne hp
    exact q _ H2 (e1.trans e2) (.lst (by rw [msk_at ns]; exact hl) (hd.mono (msk_sub fun a z => .inl z)))
  | nt t =>
    intro v N H2 hN e2 ht
    obtain ⟨d, h1, k⟩ := Pst.of (show Pst (Sm.R.of t.D) _ _ from q)
    have ns : ∀ a, N a → ¬ Sx co own a := fun a z y => ((Rr.up e1).mut a y).ne (hN a z)
    have h2 : Tr K (msk (fun a => Sx co own a ∨ N a) H2) (msk (Sx co own) H2) N v t := ht.mono (Ex.refl _) fun a z u hu => by rw [msk_at (ns a z)]; exact hu
    exact k v H2 (e1.trans e2) (h2.dr (msk_sub fun a z => .inl z) h1)
  | er c => exact q
  | st => exact q.elim
def xCall (g : List D → Rz) (fr : Env → R (List D)) : Env → R D := fun ρ => (fr ρ).bind fun ds => (g ds).r
def nCall (g : List D → Rz) (fr : Env → R (List D)) : Env → R (List D) := fun ρ => (fr ρ).bind fun ds => (g ds).n

def EOk (E : L2.St → XK) (σ : L2.St) (E0 : XK) : Prop := ∀ c H, E σ c none H → E0 c none H
def Eno : L2.St → XK := fun _ _ _ _ => False
theorem eok_self {E0 : XK} {σ : L2.St} : EOk (fun _ => E0) σ E0 := fun _ _ h => h
theorem eok_no {E0 : XK} {σ : L2.St} : EOk Eno σ E0 := fun _ _ h => h.elim
theorem se_callG {md : List Bool} {g : List D → Rz} {E0 : XK} (hE : ∀ σ, EOk E σ E0) (h : SimA K co E md tr fr) : SimE K co E false (tCall (spF K md g) [] E0 tr) (xCall g fr) := fun ρ own σ H R Q q => by
  refine h ρ own σ H R _ ((q.bind).mono (fun ds _ q2 vs H1 e1 hv => ?_) fun _ _ z => z)
  rw [List.append_nil]
  exact ⟨Sx co own, ds, (R.up e1).mut, hv, rzP_of R e1 (q2.mono (fun _ _ z => z) fun c _ z H2 e2 => hE σ _ _ (z H2 (e1.trans e2)))⟩
theorem sn_callG {md : List Bool} {g : List D → Rz} {E0 : XK} (hE : ∀ σ, EOk E σ E0) (h : SimA K co E md tr fr) : SimN K co E (tCall (spF K md g) [] E0 tr) (nCall g fr) := fun ρ own σ H R Q q => by
  refine h ρ own σ H R _ ((q.bind).mono (fun ds _ q2 vs H1 e1 hv => ?_) fun _ _ z => z)
  rw [List.append_nil]
  refine ⟨Sx co own, ds, (R.up e1).mut, hv, ?_⟩
  cases hz : g ds with
  | ok d => rw [hz] at q2; exact q2.elim
  | nw xs => rw [hz] at q2; exact fun p vs H2 hp e2 hl hd => q2 p vs H2 (fresh_back e1 hp) (e1.trans e2) hl hd
  | nt t => rw [hz] at q2; exact q2.elim
  | er c => rw [hz] at q2; exact fun H2 e2 => hE σ _ _ (q2 H2 (e1.trans e2))
  | st => rw [hz] at q2; exact q2.elim
theorem se_call {md : List Bool} {g : List D → Rz} {E0 : XK} (h : SimA K co (fun _ => E0) md tr fr) : SimE K co (fun _ => E0) false (tCall (spF K md g) [] E0 tr) (xCall g fr) := se_callG (fun _ => eok_self) h
theorem se_callB {md : List Bool} {g : List D → Rz} {E0 : XK} (h : SimA K co Eno md tr fr) : SimE K co Eno false (tCall (spF K md g) [] E0 tr) (xCall g fr) := se_callG (fun _ => eok_no) h
theorem sn_call {md : List Bool} {g : List D → Rz} {E0 : XK} (h : SimA K co (fun _ => E0) md tr fr) : SimN K co (fun _ => E0) (tCall (spF K md g) [] E0 tr) (nCall g fr) := sn_callG (fun _ => eok_self) h
theorem sn_callB {md : List Bool} {g : List D → Rz} {E0 : XK} (h : SimA K co Eno md tr fr) : SimN K co Eno (tCall (spF K md g) [] E0 tr) (nCall g fr) := sn_callG (fun _ => eok_no) h
theorem se_callS {md : List Bool} {g : List D → Rz} (h : SimA K co E md tr fr) : SimE K co E false (tCallS (spF K md g) E tr) (xCall g fr) := fun ρ own σ H R Q q => by
  refine h ρ own σ H R _ ((q.bind).mono (fun ds _ q2 vs H1 e1 hv => ?_) fun _ _ z => z)
  exact ⟨Sx co own, ds, (R.up e1).mut, hv, rzP_of R e1 (q2.mono (fun _ _ z => z) fun c _ z H2 e2 => z H2 (e1.trans e2))⟩
theorem sn_callS {md : List Bool} {g : List D → Rz} (h : SimA K co E md tr fr) : SimN K co E (tCallS (spF K md g) E tr) (nCall g fr) := fun ρ own σ H R Q q => by
  refine h ρ own σ H R _ ((q.bind).mono (fun ds _ q2 vs H1 e1 hv => ?_) fun _ _ z => z)
  refine ⟨Sx co own, ds, (R.up e1).mut, hv, ?_⟩
  cases hz : g ds with
  | ok d => rw [hz] at q2; exact q2.elim
  | nw xs => rw [hz] at q2; exact fun p vs H2 hp e2 hl hd => q2 p vs H2 (fresh_back e1 hp) (e1.trans e2) hl hd
  | nt t => rw [hz] at q2; exact q2.elim
  | er c => rw [hz] at q2; exact fun H2 e2 => (q2 H2 (e1.trans e2))
  | st => rw [hz] at q2; exact q2.elim

def dFld (cs : List Str) (n : Str) : D → Option D
  | .obj c ns ds => if cs.contains c = true then (ns.zip ds).lookup n else none
  | _ => none
theorem se_fld {cs : List Str} {n : Str} (hc : ∀ c ∈ cs, Cls K (He.ga K c) ∧ NoAttr K (He.ga K c) n) (h : SimE K co E w ta fa) : SimE K co E w (tFld K ta n) (x1 (dFld cs n) fa) := fun ρ own σ H R Q q => by
  refine h ρ own σ H R _ ((q.bind).mono (fun a _ q2 x H1 e1 hx => ?_) fun _ _ z => z)
  obtain ⟨d, hg, k⟩ := q2.of
  cases hx with
  | @obj _ _ _ ns vs es h l a =>
    simp only [dFld] at hg
    split at hg
    · rename_i hcc
      obtain ⟨c1, c2⟩ := hc _ (by simpa using hcc)
      have z := DrA.lookup (ns := ns) (f := n) a
      rw [hg] at z
      obtain ⟨v, z1, z2⟩ := z
      exact ⟨_, _, _, _, v, rfl, (msk_some h).2, c1, c2, z1, k v H1 e1 z2⟩
    · cases hg
  | _ => cases hg

def noAttr (c m : Str) : D → Bool
  | .obj c' ns ds => c == c' && ((ns.zip ds).lookup m).isNone
  | _ => false
def xMeth (c m : Str) (g : List D → Rz) (fa : Env → R D) (fr : Env → R (List D)) : Env → R D := fun ρ => (fa ρ).bind fun a => if noAttr c m a = true then (fr ρ).bind fun ds => (g (a :: ds)).r else .st
def nMeth (c m : Str) (g : List D → Rz) (fa : Env → R D) (fr : Env → R (List D)) : Env → R (List D) := fun ρ => (fa ρ).bind fun a => if noAttr c m a = true then (fr ρ).bind fun ds => (g (a :: ds)).n else .st
theorem noAttr_of {S : Addr → Prop} {H : Hp} {x : V} {a : D} {c m : Str} (h : Dr K (msk S H) x a) (z : noAttr c m a = true) : ∃ p dx fs, x = .ref p ∧ H p = some (.ins (He.ga K c) dx fs) ∧ fs.lookup m = none := by
  cases h with
  | @obj _ _ _ ns vs es h l a =>
    simp only [noAttr, Bool.and_eq_true, beq_iff_eq] at z
    obtain ⟨rfl, z⟩ := z
    have y := DrA.lookup (ns := ns) (f := m) a
    rw [Option.isNone_iff_eq_none] at z
    rw [z] at y
    exact ⟨_, _, _, rfl, (msk_some h).2, y⟩
  | _ => simp [noAttr] at z
theorem se_methG {b : Bool} {md : List Bool} {c m : Str} {g : List D → Rz} {E0 : XK} (hE : ∀ σ, EOk E σ E0) (ha : SimE K co E (!b) ta fa) (h : SimA K co E md tr fr) : SimE K co E false (tMeth (He.ga K c) m (spF K (b :: md) g) [] E0 ta tr) (xMeth c m g fa fr) := fun ρ own σ H R Q q => by
  refine ha ρ own σ H R _ ((q.bind).mono (fun a _ q2 x H1 e1 hx => ?_) fun _ _ z => z)
  split at q2
  · rename_i hn
    obtain ⟨p, dx, fs, rfl, hp, hm⟩ := noAttr_of hx hn
    refine ⟨p, dx, fs, rfl, hp, hm, h ρ own σ H1 (R.up e1) _ ((q2.bind).mono (fun ds _ q3 vs H2 e2 hv => ?_) fun c _ z => z.mono e1)⟩
    rw [List.append_nil]
    refine ⟨Sx co own, a :: ds, (R.up (e1.trans e2)).mut, ⟨?_, hv⟩, rzP_of R (e1.trans e2) (q3.mono (fun _ _ z => z) fun c _ z H2 e3 => hE σ _ _ (z H2 ((e1.trans e2).trans e3)))⟩
    have hx := hx.mono (msk_ex e2)
    cases b with
    | true => exact hx
    | false => exact hx
  · exact q2.elim
theorem sn_methG {b : Bool} {md : List Bool} {c m : Str} {g : List D → Rz} {E0 : XK} (hE : ∀ σ, EOk E σ E0) (ha : SimE K co E (!b) ta fa) (h : SimA K co E md tr fr) : SimN K co E (tMeth (He.ga K c) m (spF K (b :: md) g) [] E0 ta tr) (nMeth c m g fa fr) := fun ρ own σ H R Q q => by
  refine ha ρ own σ H R _ ((q.bind).mono (fun a _ q2 x H1 e1 hx => ?_) fun _ _ z => z)
  split at q2
  · rename_i hn
    obtain ⟨p, dx, fs, rfl, hp, hm⟩ := noAttr_of hx hn
    refine ⟨p, dx, fs, rfl, hp, hm, h ρ own σ H1 (R.up e1) _ ((q2.bind).mono (fun ds _ q3 vs H2 e2 hv => ?_) fun c _ z => z.mono e1)⟩
    rw [List.append_nil]
    have e12 := e1.trans e2
    refine ⟨Sx co own, a :: ds, (R.up e12).mut, ⟨?_, hv⟩, ?_⟩
    · have hx := hx.mono (msk_ex e2)
      cases b with
      | true => exact hx
      | false => exact hx
    · cases hz : g (a :: ds) with
      | ok d => rw [hz] at q3; exact q3.elim
      | nw xs => rw [hz] at q3; exact fun p vs H2 hp e3 hl hd => q3 p vs H2 (fresh_back e12 hp) (e12.trans e3) hl hd
      | nt t => rw [hz] at q3; exact q3.elim
      | er c => rw [hz] at q3; exact fun H2 e3 => hE σ _ _ (q3 H2 (e12.trans e3))
      | st => rw [hz] at q3; exact q3.elim
  · exact q2.elim
theorem se_meth {b : Bool} {md : List Bool} {c m : Str} {g : List D → Rz} {E0 : XK} (ha : SimE K co (fun _ => E0) (!b) ta fa) (h : SimA K co (fun _ => E0) md tr fr) : SimE K co (fun _ => E0) false (tMeth (He.ga K c) m (spF K (b :: md) g) [] E0 ta tr) (xMeth c m g fa fr) := se_methG (fun _ => eok_self) ha h
theorem se_methB {b : Bool} {md : List Bool} {c m : Str} {g : List D → Rz} {E0 : XK} (ha : SimE K co Eno (!b) ta fa) (h : SimA K co Eno md tr fr) : SimE K co Eno false (tMeth (He.ga K c) m (spF K (b :: md) g) [] E0 ta tr) (xMeth c m g fa fr) := se_methG (fun _ => eok_no) ha h
theorem sn_meth {b : Bool} {md : List Bool} {c m : Str} {g : List D → Rz} {E0 : XK} (ha : SimE K co (fun _ => E0) (!b) ta fa) (h : SimA K co (fun _ => E0) md tr fr) : SimN K co (fun _ => E0) (tMeth (He.ga K c) m (spF K (b :: md) g) [] E0 ta tr) (nMeth c m g fa fr) := sn_methG (fun _ => eok_self) ha h
theorem sn_methB {b : Bool} {md : List Bool} {c m : Str} {g : List D → Rz} {E0 : XK} (ha : SimE K co Eno (!b) ta fa) (h : SimA K co Eno md tr fr) : SimN K co Eno (tMeth (He.ga K c) m (spF K (b :: md) g) [] E0 ta tr) (nMeth c m g fa fr) := sn_methG (fun _ => eok_no) ha h
theorem se_methS {b : Bool} {md : List Bool} {c m : Str} {g : List D → Rz} (ha : SimE K co E (!b) ta fa) (h : SimA K co E md tr fr) : SimE K co E false (tMethS (He.ga K c) m (spF K (b :: md) g) E ta tr) (xMeth c m g fa fr) := fun ρ own σ H R Q q => by
  have z := se_methG (E0 := E σ) (E := fun _ => E σ) (K := K) (co := co) (tr := tr) (fr := fr) (ta := ta) (fa := fa) (b := b) (md := md) (c := c) (m := m) (g := g) (fun _ => eok_self)
  refine ha ρ own σ H R _ ((q.bind).mono (fun a _ q2 x H1 e1 hx => ?_) fun _ _ z => z)
  split at q2
  · rename_i hn
    obtain ⟨p, dx, fs, rfl, hp, hm⟩ := noAttr_of hx hn
    refine ⟨p, dx, fs, rfl, hp, hm, h ρ own σ H1 (R.up e1) _ ((q2.bind).mono (fun ds _ q3 vs H2 e2 hv => ?_) fun c _ z => z.mono e1)⟩
    refine ⟨Sx co own, a :: ds, (R.up (e1.trans e2)).mut, ⟨?_, hv⟩, rzP_of R (e1.trans e2) (q3.mono (fun _ _ z => z) fun c _ z H2 e3 => (z H2 ((e1.trans e2).trans e3)))⟩
    have hx := hx.mono (msk_ex e2)
    cases b with
    | true => exact hx
    | false => exact hx
  · exact q2.elim

def spI (K : Kw) (c : Str) (md : List Bool) (g : List D → Rz) : Sp := fun vs H Q E => ∃ (H1 : Hp) (y dy : Addr) (us : List V) (S : Addr → Prop) (ds : List D), vs = .ref y :: us ∧ H1 y = none ∧ H1 dy = none ∧ dy ≠ y ∧
  H = upd (upd H1 dy (.own y)) y (.ins (He.ga K c) dy []) ∧ (∀ a, S a → Mut H1 a) ∧ RelM K S H1 md us ds ∧ RzP K S H1 (fun v H2 => v = .ref y → Q .non H2) E (g ds)
theorem spI_len {md : List Bool} {c : Str} {g : List D → Rz} {vs : List V} {H : Hp} {Q : VK} {XE : XK} (h : spI K c md g vs H Q XE) : vs.length = md.length + 1 := by
  obtain ⟨_, _, _, us, S, ds, rfl, _, _, _, _, _, h, _⟩ := h
  rw [List.length_cons, (relm_len h).1]
theorem rzP_make {ρ : Env} {own : Own} {σ : L2.St} {H H1 : Hp} {Q : VK} {XE : XK} {z : Rz} {y : Addr} (Rr : Rs K co ρ own σ H) (e1 : Ex H H1) (q : Pst z.r (fun d => ∀ v H2, Ex H H2 → Dr K (msk (Sx co own) H2) v d → Q v H2) fun c => ∀ H2, Ex H1 H2 → XE (.ref (He.ga K c)) none H2) : RzP K (Sx co own) H1 (fun v H2 => v = .ref y → V.non = .non ∧ Q (.ref y) H2) XE z := by
  refine rzP_of Rr e1 (q.mono (fun d _ k v H2 e2 hv ev => ?_) fun _ _ z => z)
  subst ev
  exact ⟨rfl, k _ H2 e2 hv⟩
theorem se_makeG {md : List Bool} {c : Str} {g : List D → Rz} {E0 : XK} (hE : ∀ σ, EOk E σ E0) (h : SimA K co E md tr fr) : SimE K co E false (tMake (He.ga K c) (spI K c md g) [] E0 tr) (xCall g fr) := fun ρ own σ H R Q q => by
  refine h ρ own σ H R _ ((q.bind).mono (fun ds _ q2 vs H1 e1 hv => ?_) fun _ _ z => z)
  intro y dy hy hd hne
  rw [List.append_nil]
  exact ⟨H1, y, dy, vs, Sx co own, ds, rfl, hy, hd, hne, rfl, (R.up e1).mut, hv, rzP_make R e1 (q2.mono (fun _ _ z => z) fun c _ z H2 e2 => hE σ _ _ (z H2 (e1.trans e2)))⟩
theorem se_make {md : List Bool} {c : Str} {g : List D → Rz} {E0 : XK} (h : SimA K co (fun _ => E0) md tr fr) : SimE K co (fun _ => E0) false (tMake (He.ga K c) (spI K c md g) [] E0 tr) (xCall g fr) := se_makeG (fun _ => eok_self) h
theorem se_makeB {md : List Bool} {c : Str} {g : List D → Rz} {E0 : XK} (h : SimA K co Eno md tr fr) : SimE K co Eno false (tMake (He.ga K c) (spI K c md g) [] E0 tr) (xCall g fr) := se_makeG (fun _ => eok_no) h
theorem se_makeS {md : List Bool} {c : Str} {g : List D → Rz} (h : SimA K co E md tr fr) : SimE K co E false (tMakeS (He.ga K c) (spI K c md g) E tr) (xCall g fr) := fun ρ own σ H R Q q => by
  refine h ρ own σ H R _ ((q.bind).mono (fun ds _ q2 vs H1 e1 hv => ?_) fun _ _ z => z)
  intro y dy hy hd hne
  exact ⟨H1, y, dy, vs, Sx co own, ds, rfl, hy, hd, hne, rfl, (R.up e1).mut, hv, rzP_make R e1 (q2.mono (fun _ _ z => z) fun c _ z H2 e2 => (z H2 (e1.trans e2)))⟩

theorem se_orL {t' : TE} (h : SimE K co E w te f) : SimE K co E w (fun σ H Q => te σ H Q ∨ t' σ H Q) f := fun ρ own σ H R Q q => .inl (h ρ own σ H R Q q)
def xOrE (f g : Env → R D) : Env → R D := fun ρ => match f ρ with
  | .st => g ρ
  | r => r
theorem se_or2 {t' : TE} {g : Env → R D} (h : SimE K co E w te f) (h' : SimE K co E w t' g) : SimE K co E w (fun σ H Q => te σ H Q ∨ t' σ H Q) (xOrE f g) := fun ρ own σ H R Q q => by
  unfold xOrE at q
  cases e : f ρ with
  | st => rw [e] at q; exact .inr (h' ρ own σ H R Q q)
  | ok d => rw [e] at q; exact .inl (h ρ own σ H R Q (by rw [e]; exact q))
  | er c => rw [e] at q; exact .inl (h ρ own σ H R Q (by rw [e]; exact q))
def nOrE (f g : Env → R (List D)) : Env → R (List D) := fun ρ => match f ρ with
  | .st => g ρ
  | r => r
theorem sn_or2 {t' : TE} {f g : Env → R (List D)} (h : SimN K co E te f) (h' : SimN K co E t' g) : SimN K co E (fun σ H Q => te σ H Q ∨ t' σ H Q) (nOrE f g) := fun ρ own σ H R Q q => by
  unfold nOrE at q
  cases e : f ρ with
  | st => rw [e] at q; exact .inr (h' ρ own σ H R Q q)
  | ok d => rw [e] at q; exact .inl (h ρ own σ H R Q (by rw [e]; exact q))
  | er c => rw [e] at q; exact .inl (h ρ own σ H R Q (by rw [e]; exact q))
end


inductive Out where
  | nx (ρ : Env) | rt (d : D) | rn (xs : List D) | rnT (t : Tn) | bk (ρ : Env) | ct (ρ : Env) | er (c : Str) (ρ : Env) | st
def OP (K : Kw) (co : Co) (E : L2.St → XK) (Dn : Ends) : Out → Prop
  | .nx ρ => ∀ own σ H, Rs K co ρ own σ H → Dn.nx σ H
  | .bk ρ => ∀ own σ H, Rs K co ρ own σ H → Dn.bk σ H
  | .ct ρ => ∀ own σ H, Rs K co ρ own σ H → Dn.ct σ H
  | .rt d => ∀ v H, Ex co.H0 H → Dr K (msk co.S0 H) v d → Dn.rt v H
  | .rn xs => ∀ p vs H, co.H0 p = none → Ex co.H0 H → H p = some (.lst vs) → ¬ co.S0 p → DrA K (msk (fun a => co.S0 a ∨ a = p) H) vs xs → Dn.rt (.ref p) H
  | .rnT t => ∀ v (N : Addr → Prop) H, (∀ a, N a → co.H0 a = none) → Ex co.H0 H → (∀ a, N a → ¬ co.S0 a) → Tr K (msk (fun a => co.S0 a ∨ N a) H) H N v t → Dn.rt v H
  | .er c ρ => ∀ own σ H, Rs K co ρ own σ H → E σ (.ref (He.ga K c)) none H
  | .st => False
def SimS (K : Kw) (co : Co) (E : L2.St → XK) (ts : TS) (F : Env → Out) : Prop := ∀ ρ own σ H, Rs K co ρ own σ H → ∀ Dn : Ends, OP K co E Dn (F ρ) → ts Dn σ H
def xSeq (F G : Env → Out) : Env → Out := fun ρ => match F ρ with
  | .nx ρ' => G ρ'
  | o => o
def xOut (f : Env → R D) (k : D → Env → Out) : Env → Out := fun ρ => match f ρ with
  | .ok d => k d ρ
  | .er c => .er c ρ
  | .st => .st
def xOutN (f : Env → R (List D)) (k : List D → Env → Out) : Env → Out := fun ρ => match f ρ with
  | .ok d => k d ρ
  | .er c => .er c ρ
  | .st => .st
def xOutT (f : Env → R Bool) (k : Bool → Env → Out) : Env → Out := fun ρ => match f ρ with
  | .ok d => k d ρ
  | .er c => .er c ρ
  | .st => .st
def xNext : Env → Out := fun ρ => .nx ρ
def xBreak : Env → Out := fun ρ => .bk ρ
def xCont : Env → Out := fun ρ => .ct ρ
def xSet (i : Nat) (f : Env → R D) : Env → Out := xOut f fun d ρ => .nx (ρ.set i (.d d))
def xSetN (i : Nat) (f : Env → R (List D)) : Env → Out := xOutN f fun d ρ => if i < ρ.length then .nx (ρ.set i (.m d)) else .st
def xDrop (f : Env → R D) : Env → Out := xOut f fun _ ρ => .nx ρ
def xRet (f : Env → R D) : Env → Out := xOut f fun d _ => .rt d
def xRetN (f : Env → R (List D)) : Env → Out := xOutN f fun d _ => .rn d
def xIfS (t : Env → R Bool) (F G : Env → Out) : Env → Out := xOutT t fun b ρ => if b = true then F ρ else G ρ
def xRaise (c : Str) : Env → Out := fun ρ => .er c ρ
section
variable {K : Kw} {co : Co} {E : L2.St → XK} {w w1 w2 w3 : Bool} {te ta tb tc : TE} {tr : TA} {tt : TT} {ts tu : TS} {F G : Env → Out} {f fa fb fc : Env → R D} {fr fn : Env → R (List D)} {t : Env → R Bool} {d : D} {i j : Nat} {v : V}
theorem ss_seq (h1 : SimS K co E ts F) (h2 : SimS K co E tu G) : SimS K co E (tSeq ts tu) (xSeq F G) := fun ρ own σ H R Dn q => by
  refine h1 ρ own σ H R { Dn with nx := tu Dn } ?_
  unfold xSeq at q
  cases e : F ρ with
  | nx ρ' => rw [e] at q; exact fun own σ H R' => h2 ρ' own σ H R' Dn q
  | rt d => rw [e] at q; exact q
  | rn d => rw [e] at q; exact q
  | rnT d => rw [e] at q; exact q
  | bk d => rw [e] at q; exact q
  | ct d => rw [e] at q; exact q
  | er c d => rw [e] at q; exact q
  | st => rw [e] at q; exact q
theorem ss_next : SimS K co E tNext xNext := fun ρ own σ H R Dn q => q own σ H R
theorem ss_break : SimS K co E tBreak xBreak := fun ρ own σ H R Dn q => q own σ H R
theorem ss_cont : SimS K co E tCont xCont := fun ρ own σ H R Dn q => q own σ H R

theorem out_of {ρ : Env} {own : Own} {σ : L2.St} {H : Hp} {Dn : Ends} {k : D → Env → Out} {Kp : D → Prop} (R : Rs K co ρ own σ H) (q : OP K co E Dn (xOut f k ρ)) (h : ∀ d, f ρ = .ok d → OP K co E Dn (k d ρ) → Kp d) : Pst (f ρ) Kp (ErrS K E σ H) := by
  unfold xOut at q
  cases e : f ρ with
  | ok d => rw [e] at q; exact h d e q
  | er c => rw [e] at q; exact fun H2 e2 => q own σ H2 (R.up e2)
  | st => rw [e] at q; exact q
theorem outN_of {ρ : Env} {own : Own} {σ : L2.St} {H : Hp} {Dn : Ends} {k : List D → Env → Out} {Kp : List D → Prop} (R : Rs K co ρ own σ H) (q : OP K co E Dn (xOutN fn k ρ)) (h : ∀ d, fn ρ = .ok d → OP K co E Dn (k d ρ) → Kp d) : Pst (fn ρ) Kp (ErrS K E σ H) := by
  unfold xOutN at q
  cases e : fn ρ with
  | ok d => rw [e] at q; exact h d e q
  | er c => rw [e] at q; exact fun H2 e2 => q own σ H2 (R.up e2)
  | st => rw [e] at q; exact q
theorem outT_of {ρ : Env} {own : Own} {σ : L2.St} {H : Hp} {Dn : Ends} {k : Bool → Env → Out} {Kp : Bool → Prop} (R : Rs K co ρ own σ H) (q : OP K co E Dn (xOutT t k ρ)) (h : ∀ d, t ρ = .ok d → OP K co E Dn (k d ρ) → Kp d) : Pst (t ρ) Kp (ErrS K E σ H) := by
  unfold xOutT at q
  cases e : t ρ with
  | ok d => rw [e] at q; exact h d e q
  | er c => rw [e] at q; exact fun H2 e2 => q own σ H2 (R.up e2)
  | st => rw [e] at q; exact q
theorem ss_set (h : SimE K co E false te f) : SimS K co E (tAsg te (gName i)) (xSet i f) := fun ρ own σ H R Dn q => by
  refine h ρ own σ H R _ (out_of R q fun d _ k v H2 e2 hv => ?_)
  exact k _ _ H2 ((R.up e2).setD hv)
theorem ss_setN (h : SimN K co E te fn) : SimS K co E (tAsg te (gName i)) (xSetN i fn) := fun ρ own σ H R Dn q => by
  refine h ρ own σ H R _ (outN_of R q fun d _ k p vs H2 hp e2 hl hv => ?_)
  split at k
  · exact k _ _ H2 (R.setM (by assumption) e2 hp hl hv)
  · exact k.elim
theorem ss_drop (h : SimE K co E w te f) : SimS K co E (tDrop te) (xDrop f) := fun ρ own σ H R Dn q => by
  refine h ρ own σ H R _ (out_of R q fun d _ k v H2 e2 hv => ?_)
  exact k _ _ H2 (R.up e2)
theorem ss_ret (h : SimE K co E false te f) : SimS K co E (tRet te) (xRet f) := fun ρ own σ H R Dn q => by
  refine h ρ own σ H R _ (out_of R q fun d _ k v H2 e2 hv => ?_)
  exact k v H2 (R.ex.trans e2) (hv.mono (msk_sub fun a z => .inl z))
theorem ss_retN0 : SimS K co E tRetN (xRet (xC .none)) := fun ρ own σ H R Dn q => q .non H R.ex .non
theorem ss_retN (h : SimN K co E te fn) : SimS K co E (tRet te) (xRetN fn) := fun ρ own σ H R Dn q => by
  refine h ρ own σ H R _ (outN_of R q fun d _ k p vs H2 hp e2 hl hv => ?_)
  exact k p vs H2 (fresh_back R.ex hp) (R.ex.trans e2) hl (fun z => (R.s0 p z).ne hp) (hv.mono (msk_sub fun a z => by rcases z with z | z; exact .inl (.inl z); exact .inr z))

def xRetT (i : Nat) : Env → Out := fun ρ => match ρ[i]? with
  | some (.t _ t) => .rnT t
  | _ => .st
theorem ss_retT : SimS K co E (tRet (tVar i)) (xRetT i) := fun ρ own σ H R Dn q => by
  unfold xRetT at q
  cases e : ρ[i]? with
  | none => rw [e] at q; exact q.elim
  | some s =>
    rw [e] at q
    cases s with
    | t r t =>
      obtain ⟨v, h1, _, h2⟩ := R.sl i _ e
      refine ⟨_, join_some h1, q v (own i) H (fun a z => R.new i a z) R.ex (fun a z => R.dis i a z) (h2.mono (msk_sub fun a z => ?_) fun _ _ _ u => u)⟩
      rcases z with z | z
      · exact .inl z
      · exact .inr ⟨i, z⟩
    | _ => exact q.elim

def xRetM (i : Nat) : Env → Out := fun ρ => match ρ[i]? with
  | some (.m xs) => .rn xs
  | some (.d x) => .rt x
  | _ => .st
theorem ss_retM : SimS K co E (tRet (tVar i)) (xRetM i) := fun ρ own σ H R Dn q => by
  unfold xRetM at q
  cases e : ρ[i]? with
  | none => rw [e] at q; exact q.elim
  | some s =>
    rw [e] at q
    cases s with
    | m xs =>
      obtain ⟨p, vs, h1, h2, h3, h4⟩ := R.sl i _ e
      refine ⟨_, join_some h1, q p vs H (R.new i p (mem1 h2)) R.ex h3 (R.dis i p (mem1 h2)) (h4.mono (msk_sub fun a z => ?_))⟩
      rcases z with z | z
      · exact .inl z
      · exact .inr ⟨i, by rw [z]; exact mem1 h2⟩
    | d x =>
      obtain ⟨_, v, h1, h2⟩ := R.sl i _ e
      exact ⟨v, join_some h1, q v H R.ex (h2.mono (msk_sub fun a z => .inl z))⟩
    | _ => exact q.elim
theorem ss_if (ht : SimT K co E tt t) (h1 : SimS K co E ts F) (h2 : SimS K co E tu G) : SimS K co E (tIfS tt ts tu) (xIfS t F G) := fun ρ own σ H R Dn q => by
  refine ht ρ own σ H R _ (outT_of R q fun b _ k H2 e2 => ?_)
  cases b with
  | true => exact h1 ρ own σ H2 (R.up e2) Dn k
  | false => exact h2 ρ own σ H2 (R.up e2) Dn k
theorem ss_raise {c : Str} : SimS K co E (fun _ σ H => E σ (.ref (He.ga K c)) none H) (xRaise c) := fun ρ own σ H R Dn q => q own σ H R

def xAug (i : Nat) (g : D → D → Option D) (f : Env → R D) : Env → Out := fun ρ => match ρ[i]? with
  | some (.d x) => xOut f (fun y ρ => match g x y with
    | some z => .nx (ρ.set i (.d z))
    | none => .st) ρ
  | _ => .st
theorem ss_aug {op : Int → Int → Int} {g : D → D → Option D} (hg : ∀ x y z, g x y = some z → ∃ a b, x = .int a ∧ y = .int b ∧ z = .int (op a b)) (h : SimE K co E w te f) : SimS K co E (tAug i te (ipI op)) (xAug i g f) := fun ρ own σ H R Dn q => by
  unfold xAug at q
  cases e : ρ[i]? with
  | none => rw [e] at q; exact q.elim
  | some s =>
    rw [e] at q
    cases s with
    | d x =>
      obtain ⟨_, v, h1, h2⟩ := R.sl i _ e
      refine ⟨v, join_some h1, h ρ own σ H R _ (out_of R q fun y _ k u H2 e2 hu => ?_)⟩
      cases eg : g x y with
      | none => rw [eg] at k; exact k.elim
      | some z =>
        rw [eg] at k
        obtain ⟨a, b, rfl, rfl, rfl⟩ := hg x y z eg
        cases h2
        cases hu
        exact ⟨a, b, rfl, rfl, k _ _ H2 ((R.up e2).setD (.int _))⟩
    | _ => exact q.elim
theorem aug_add : ∀ x y z, dAdd x y = some z → ∃ a b, x = .int a ∧ y = .int b ∧ z = .int (a + b) := fun x y z h => by
  cases x <;> cases y <;> simp [dAdd] at h
  exact ⟨_, _, rfl, rfl, h.symm⟩
theorem aug_sub : ∀ x y z, dSub x y = some z → ∃ a b, x = .int a ∧ y = .int b ∧ z = .int (a - b) := fun x y z h => by
  cases x <;> cases y <;> simp [dSub] at h
  exact ⟨_, _, rfl, rfl, h.symm⟩

def xOnM (i : Nat) (f : Env → R D) (g : List D → D → Option (List D)) : Env → Out := fun ρ => match ρ[i]? with
  | some (.m xs) => xOut f (fun y ρ => match g xs y with
    | some z => .nx (ρ.set i (.m z))
    | none => .st) ρ
  | _ => .st
def gApp (xs : List D) (d : D) : Option (List D) := if xs.length < 1000000 then some (xs ++ [d]) else none
theorem onM {ρ : Env} {own : Own} {σ : L2.St} {H : Hp} {Dn : Ends} {g : List D → D → Option (List D)} (R : Rs K co ρ own σ H) (q : OP K co E Dn (xOnM i f g ρ)) : ∃ p vs xs, ρ[i]? = some (.m xs) ∧ σ[i]? = some (some (.ref p)) ∧ own i = One p ∧ H p = some (.lst vs) ∧ DrA K (msk (Sx co own) H) vs xs ∧
    OP K co E Dn (xOut f (fun y ρ => match g xs y with
    | some z => .nx (ρ.set i (.m z))
    | none => .st) ρ) := by
  unfold xOnM at q
  cases e : ρ[i]? with
  | none => rw [e] at q; exact q.elim
  | some s =>
    rw [e] at q
    cases s with
    | m xs =>
      obtain ⟨p, vs, h1, h2, h3, h4⟩ := R.sl i _ e
      exact ⟨p, vs, xs, rfl, join_some h1, h2, h3, h4, q⟩
    | _ => exact q.elim
theorem Rs.putM {ρ : Env} {own : Own} {σ : L2.St} {H : Hp} {p : Addr} {vs : List V} {xs : List D} (R : Rs K co ρ own σ H) (hs : σ[i]? = some (some (.ref p))) (hi : own i = One p) (hd : DrA K (msk (Sx co own) H) vs xs) : Rs K co (ρ.set i (.m xs)) own σ (upd H p (.lst vs)) :=
  R.put (mem1 hi) ⟨p, vs, by rw [hs]; rfl, hi, upd_same, by rw [msk_upd (.inr ⟨i, mem1 hi⟩)]; exact hd⟩
theorem ss_app (h : SimE K co E false te f) : SimS K co E (tDrop (tBM K "list" rAppend (tVar i) (tCons te tNil))) (xOnM i f gApp) := fun ρ own σ H R Dn q => by
  obtain ⟨p, vs, xs, e, h1, h2, h3, h4, q⟩ := onM R q
  refine ⟨_, h1, Or.inl ⟨rfl, vs, sq_of h3⟩, h ρ own σ H R _ (out_of R q fun y _ k v H2 e2 hv => ?_)⟩
  simp only [gApp] at k
  by_cases hl : xs.length < 1000000
  · rw [if_pos hl] at k
    refine ⟨p, vs, v, rfl, rfl, e2 _ _ h3, szl (by rw [h4.length]; exact hl), k _ _ _ ((R.up e2).putM h1 h2 ((h4.mono (msk_ex e2)).append (.one hv)))⟩
  · rw [if_neg hl] at k; exact k.elim

def xPut (i : Nat) (fj f : Env → R D) : Env → Out := fun ρ => match ρ[i]? with
  | some (.m xs) => xOut f (fun y ρ => xOut fj (fun j ρ => match j with
    | .int n => match ixN xs.length n with
      | some k => .nx (ρ.set i (.m (xs.set k y)))
      | none => .st
    | _ => .st) ρ) ρ
  | _ => .st
theorem ss_put (h : SimE K co E false te f) (hj : SimE K co E w tb fb) : SimS K co E (tAsg te (gSub (tVar i) tb rSetL)) (xPut i fb f) := fun ρ own σ H R Dn q => by
  unfold xPut at q
  cases e : ρ[i]? with
  | none => rw [e] at q; exact q.elim
  | some s =>
    rw [e] at q
    cases s with
    | m xs =>
      obtain ⟨p, vs, h1, h2, h3, h4⟩ := R.sl i _ e
      refine h ρ own σ H R _ (out_of R q fun y _ k v H2 e2 hv => ⟨_, join_some h1, ?_⟩)
      refine hj ρ own σ H2 (R.up e2) _ (out_of (R.up e2) k fun z _ k2 u H3 e3 hu => ?_)
      cases hu with
      | int n =>
        dsimp only at k2
        cases en : ixN xs.length n with
        | none => rw [en] at k2; exact k2.elim
        | some kk =>
          rw [en] at k2
          have e23 := e2.trans e3
          refine ⟨p, vs, n, kk, rfl, rfl, e23 _ _ h3, by rw [h4.length]; exact en, k2 _ _ _ ((R.up e23).putM (join_some h1) h2 ((h4.mono (msk_ex e23)).set kk (hv.mono (msk_ex e3))))⟩
      | _ => exact k2.elim
    | _ => exact q.elim

def xPopAt (i l : Nat) (f : Env → R D) : Env → Out := fun ρ => match ρ[l]? with
  | some (.m xs) => xOut f (fun y ρ => match y with
    | .int n => match ixN xs.length n with
      | some k => match xs[k]? with
        | some d => if n ≤ 1000000 ∧ -1000000 ≤ n then .nx ((ρ.set l (.m (xs.eraseIdx k))).set i (.d d)) else .st
        | none => .st
      | none => .st
    | _ => .st) ρ
  | _ => .st
theorem ss_popAt {l : Nat} (h : SimE K co E w tb fb) : SimS K co E (tAsg (tBM K "list" rPopAt (tVar l) (tCons tb tNil)) (gName i)) (xPopAt i l fb) := fun ρ own σ H R Dn q => by
  unfold xPopAt at q
  cases e : ρ[l]? with
  | none => rw [e] at q; exact q.elim
  | some s =>
    rw [e] at q
    cases s with
    | m xs =>
      obtain ⟨p, vs, h1, h2, h3, h4⟩ := R.sl l _ e
      refine ⟨_, join_some h1, Or.inl ⟨rfl, vs, sq_of h3⟩, h ρ own σ H R _ (out_of R q fun y _ k u H2 e2 hu => ?_)⟩
      cases hu with
      | int n =>
        dsimp only at k
        cases en : ixN xs.length n with
        | none => rw [en] at k; exact k.elim
        | some kk =>
          rw [en] at k
          dsimp only at k
          cases ek : xs[kk]? with
          | none => rw [ek] at k; exact k.elim
          | some d =>
            rw [ek] at k
            dsimp only at k
            split at k
            · rename_i hn
              have h4 := h4.mono (msk_ex e2)
              obtain ⟨v, hv1, hv2⟩ := h4.get' ek
              have q2 := ixN_seq (n := vs.length) (i := n) (j := kk) (by rw [h4.length]; exact en)
              refine ⟨p, vs, n, kk, v, rfl, rfl, e2 _ _ h3, by omega, by omega, q2.1, hv1, ?_⟩
              have RR := (R.up e2).putM (join_some h1) h2 (h4.erase kk)
              refine k _ _ _ (RR.setD ?_)
              rw [msk_upd (.inr ⟨l, mem1 h2⟩)]
              exact hv2
            · exact k.elim
      | _ => exact k.elim
    | _ => exact q.elim

def xRevM (i : Nat) : Env → Out := fun ρ => match ρ[i]? with
  | some (.m xs) => .nx (ρ.set i (.m xs.reverse))
  | _ => .st
theorem ss_revM : SimS K co E (tDrop (tBM0 K "list" rReverse (tVar i))) (xRevM i) := fun ρ own σ H R Dn q => by
  unfold xRevM at q
  cases e : ρ[i]? with
  | none => rw [e] at q; exact q.elim
  | some s =>
    rw [e] at q
    cases s with
    | m xs =>
      obtain ⟨p, vs, h1, h2, h3, h4⟩ := R.sl i _ e
      exact ⟨_, join_some h1, Or.inl ⟨rfl, vs, sq_of h3⟩, p, vs, rfl, rfl, h3, q _ _ _ (R.putM (join_some h1) h2 h4.reverse)⟩
    | _ => exact q.elim

def xFreeze (i : Nat) : Env → Env := fun ρ => match ρ[i]? with
  | some (.m xs) => ρ.set i (.d (.list xs))
  | _ => ρ
theorem Rs.freeze {ρ : Env} {own : Own} {σ : L2.St} {H : Hp} (R : Rs K co ρ own σ H) : ∃ own', Rs K co (xFreeze i ρ) own' σ H := by
  unfold xFreeze
  cases e : ρ[i]? with
  | none => exact ⟨own, R⟩
  | some s =>
    cases s with
    | m xs =>
      obtain ⟨p, vs, h1, h2, h3, h4⟩ := R.sl i _ e
      have hs := join_some h1
      have hl : i < σ.length := (List.getElem?_eq_some_iff.mp hs).1
      have ns : ¬ Sx co (oset own i Z) p := fun z => by
        rcases z with z | ⟨j, z⟩
        · exact R.dis i p (mem1 h2) z
        · by_cases ej : j = i
          · subst ej; rw [oset_same] at z; cases z
          · rw [oset_ne ej] at z; exact ej (R.inj j i p z (mem1 h2))
      have RR := R.set (i := i) (v := .ref p) (s := .d (.list xs)) ⟨oset_same, .ref p, rfl, .lst (by rw [msk_at ns]; exact h3) (h4.mono (msk_sub (sx_less co own i)))⟩
      have es : σ.set i (some (.ref p)) = σ := by
        apply List.ext_getElem?
        intro k
        by_cases hk : k = i
        · subst hk; rw [List.getElem?_set_self hl, hs]
        · rw [get_set_ne hk]
      rw [es] at RR
      exact ⟨_, RR⟩
    | _ => exact ⟨own, R⟩
def xFrz (is : List Nat) (F : Env → Out) : Env → Out := fun ρ => F (is.foldl (fun ρ i => xFreeze i ρ) ρ)
theorem Rs.freezes {own : Own} {σ : L2.St} {H : Hp} : ∀ {is : List Nat} {ρ : Env} {own : Own}, Rs K co ρ own σ H → ∃ own', Rs K co (is.foldl (fun ρ i => xFreeze i ρ) ρ) own' σ H
  | [], ρ, own, R => ⟨own, R⟩
  | i :: is, ρ, own, R => by
    obtain ⟨o1, R1⟩ := R.freeze (i := i)
    exact Rs.freezes (own := own) (is := is) R1
theorem ss_frz {is : List Nat} (h : SimS K co E ts F) : SimS K co E ts (xFrz is F) := fun ρ own σ H R Dn q => by
  obtain ⟨o1, R1⟩ := Rs.freezes (own := own) (is := is) R
  exact h _ _ σ H R1 Dn q

theorem putF_zip {f : Str} {y : V} : ∀ {ns : List Str} {vs : List V}, ns.length = vs.length → ns.contains f = false → putF f y (ns.zip vs) = (ns ++ [f]).zip (vs ++ [y])
  | [], [], _, _ => rfl
  | n :: ns, v :: vs, hl, h => by
    have hn : n ≠ f := fun z => by subst z; simp at h
    have h2 : ns.contains f = false := by
      cases e : ns.contains f with
      | false => rfl
      | true =>
        have : (n :: ns).contains f = true := by
          rw [List.contains_cons, e, Bool.or_true]
        rw [this] at h; cases h
    show putF f y ((n, v) :: ns.zip vs) = _
    unfold putF
    rw [if_neg hn, putF_zip (by simpa using hl) h2]
    rfl
def xFldS (i : Nat) (c n : Str) (f : Env → R D) : Env → Out := xOut f fun d ρ => match ρ[i]? with
  | some (.o c' ns ds) => if c = c' ∧ ns.contains n = false ∧ ns.length < 900 then .nx (ρ.set i (.o c' (ns ++ [n]) (ds ++ [d]))) else .st
  | _ => .st
theorem ss_fld {c n : Str} (hc : Cls K (He.ga K c)) (hn : NoAttr K (He.ga K c) n) (h : SimE K co E false te f) : SimS K co E (sFld K (tVar i) te n) (xFldS i c n f) := fun ρ own σ H R Dn q => by
  refine h ρ own σ H R _ (out_of R q fun d _ k v H2 e2 hv => ?_)
  have R2 := R.up e2
  cases e : ρ[i]? with
  | none => rw [e] at k; exact k.elim
  | some s =>
    rw [e] at k
    cases s with
    | o c' ns ds =>
      dsimp only at k
      obtain ⟨dx, vs, h1, h2, h3, h4, h5⟩ := R2.sl i _ e
      split at k
      · rename_i hh
        obtain ⟨rfl, hz, hl⟩ := hh
        refine ⟨_, join_some h1, co.yo, _, dx, _, rfl, h3, hc, hn, ?_, k _ _ _ (R2.put (mem1 h2) ⟨dx, vs ++ [v], h1, h2, ?_, ?_, ?_⟩)⟩
        · rw [List.length_zip]; omega
        · rw [upd_same, putF_zip h4 hz]
        · simp [h4]
        · rw [msk_upd (.inr ⟨i, mem1 h2⟩)]
          exact h5.append (.one hv)
      · exact k.elim
    | _ => exact k.elim
end
end Sm

namespace Sm
open PySem L2 Evl Al
section
variable {K : Kw} {co : Co} {E : L2.St → XK} {w w1 w2 w3 : Bool} {te ta tb tc : TE} {tr : TA} {tt : TT} {ts tu : TS} {F G : Env → Out} {f fa fb fc : Env → R D} {fr fn : Env → R (List D)} {t : Env → R Bool} {d : D} {i j : Nat} {v : V}

def ItR (K : Kw) (S : Addr → Prop) (Ha H : Hp) : Sv → V → Prop
  | .d x, v => Dr K (msk S H) v x
  | .a x, v => Dr K Ha v x
  | _, _ => False

def Yld (K : Kw) (S0 : Addr → Prop) (Ha Hb : Hp) (J : It) (items : List Sv) : Prop := ∀ (S : Addr → Prop) (H : Hp), (∀ a, S a → H a ≠ none) → Ex Hb H → Ex (msk S0 Hb) (msk S H) → ∀ n,
  (∀ s, items[n]? = some s → J.go n H ∧ ∀ x H', J.yld n H x H' → Ex H H' ∧ ItR K S Ha H' s x) ∧ (items.length ≤ n → J.stop n H)

noncomputable def Hbase (own : Own) (H : Hp) : Bool → Hp
  | true => H
  | false => msk (Ow own) H
def Sbase (co : Co) (own : Own) : Bool → Addr → Prop
  | true => Sx co own
  | false => co.S0
def SimI (K : Kw) (co : Co) (E : L2.St → XK) (w : Bool) (ti : TI) (src : Env → R (List Sv)) : Prop := ∀ ρ own σ H, Rs K co ρ own σ H → ∀ Q : It → Hp → Prop,
  Pst (src ρ) (fun items => ∀ J H1, Ex H H1 → Yld K (Sbase co own w) co.Ha (Hbase own H1 w) J items → Q J H1) (ErrS K E σ H) → ti σ H Q
def sD (xs : List D) : List Sv := xs.map Sv.d
def sA (xs : List D) : List Sv := xs.map Sv.a
theorem atH : ∀ {xs : List D} {n : Nat} {s : Sv}, (sD xs)[n]? = some s → ∃ x, xs[n]? = some x ∧ s = .d x := fun {xs n s} h => by
  unfold sD at h
  rw [List.getElem?_map] at h
  cases e : xs[n]? with
  | none => rw [e] at h; cases h
  | some x => rw [e] at h; cases h; exact ⟨x, rfl, rfl⟩
theorem atA : ∀ {xs : List D} {n : Nat} {s : Sv}, (sA xs)[n]? = some s → ∃ x, xs[n]? = some x ∧ s = .a x := fun {xs n s} h => by
  unfold sA at h
  rw [List.getElem?_map] at h
  cases e : xs[n]? with
  | none => rw [e] at h; cases h
  | some x => rw [e] at h; cases h; exact ⟨x, rfl, rfl⟩
theorem yld_list {S0 : Addr → Prop} {Ha Hb : Hp} {p : Addr} {vs : List V} {xs : List D} (h : Hb p = some (.lst vs)) (hd : DrA K (msk S0 Hb) vs xs) : Yld K S0 Ha Hb (Itl K p) (sD xs) := fun S H hS e1 e2 n => by
  have hp : SqL K H p vs := sq_of (e1 _ _ h)
  refine ⟨fun s hs => ?_, fun hl => ⟨vs, hp, by rw [hd.length]; rw [sD, List.length_map] at hl; exact hl⟩⟩
  obtain ⟨x, hx, rfl⟩ := atH hs
  obtain ⟨v, hv, hr⟩ := hd.get' hx
  refine ⟨⟨vs, v, hp, hv⟩, fun y H' z => ?_⟩
  obtain ⟨rfl, z⟩ := z
  have := z vs hp
  rw [hv] at this
  cases this
  exact ⟨Ex.refl _, hr.mono e2⟩
theorem yld_tup {S0 : Addr → Prop} {Ha Hb : Hp} {p : Addr} {vs : List V} {xs : List D} (h : SqT K Hb p vs) (hd : DrA K (msk S0 Hb) vs xs) : Yld K S0 Ha Hb (Itt K p) (sD xs) := fun S H hS e1 e2 n => by
  have hp : SqT K H p vs := ex_t e1 h
  refine ⟨fun s hs => ?_, fun hl => ⟨vs, hp, by rw [hd.length]; rw [sD, List.length_map] at hl; exact hl⟩⟩
  obtain ⟨x, hx, rfl⟩ := atH hs
  obtain ⟨v, hv, hr⟩ := hd.get' hx
  refine ⟨⟨vs, v, hp, hv⟩, fun y H' z => ?_⟩
  obtain ⟨rfl, z⟩ := z
  have := z vs hp
  rw [hv] at this
  cases this
  exact ⟨Ex.refl _, hr.mono e2⟩
theorem base_sx {own : Own} {H : Hp} (w : Bool) : Ex (msk (Sx co own) H) (msk (Sbase co own w) (Hbase own H w)) := by
  cases w with
  | true => exact Ex.refl _
  | false =>
    intro a o z
    obtain ⟨h1, h2⟩ := msk_some z
    show msk co.S0 (msk (Ow own) H) a = some o
    rw [msk_at (fun y => h1 (.inl y)), msk_at (fun y => h1 (.inr y))]
    exact h2
theorem base_in {own : Own} {H : Hp} (w : Bool) : Ex (msk (Sx co own) H) (Hbase own H w) := by
  cases w with
  | true => exact msk_le
  | false => exact msk_sub fun a z => .inr z

def srcF (f : Env → R D) : Env → R (List Sv) := fun ρ => (f ρ).bind fun d => R.of ((itemsD d).map sD)
theorem si_seq (h : SimE K co E false ta fa) : SimI K co E w (iSeq K ta) (srcF fa) := fun ρ own σ H R Q q => by
  have key : ∀ d, fa ρ = .ok d → (iSeq K ta σ H Q) := fun d hd => by
    unfold srcF at q
    rw [hd] at q
    have q2 : Pst (Sm.R.of ((itemsD d).map sD)) _ _ := q
    obtain ⟨items, hg, k⟩ := q2.of
    cases d with
    | list xs =>
      cases hg
      refine .inl (h ρ own σ H R _ (by
        rw [hd]
        intro v H1 e1 hv
        cases hv with
        | lst hl ha => exact ⟨_, rfl, ⟨_, sq_of (msk_some hl).2⟩, k _ H1 e1 (yld_list (base_in w _ _ hl) (ha.mono (base_sx w)))⟩))
    | tup xs =>
      cases hg
      refine .inr (h ρ own σ H R _ (by
        rw [hd]
        intro v H1 e1 hv
        cases hv with
        | tup hl ha => exact ⟨_, rfl, ⟨_, ex_t msk_le hl⟩, k _ H1 e1 (yld_tup (ex_t (base_in w) hl) (ha.mono (base_sx w)))⟩))
    | _ => cases hg
  cases e : fa ρ with
  | ok d => exact key d e
  | er c =>
    refine .inl (h ρ own σ H R _ ?_)
    unfold srcF at q
    rw [e] at q ⊢
    exact q
  | st =>
    unfold srcF at q
    rw [e] at q
    exact q.elim

def srcA (i : Nat) : Env → R (List Sv) := fun ρ => match ρ[i]? with
  | some (.a x) => R.of ((itemsD x).map sA)
  | some (.d x) => R.of ((itemsD x).map sD)
  | _ => .st
theorem si_varA : SimI K co E w (iSeq K (tVar i)) (srcA i) := fun ρ own σ H R Q q => by
  unfold srcA at q
  cases e : ρ[i]? with
  | none => rw [e] at q; exact q.elim
  | some s =>
    rw [e] at q
    cases s with
    | a x =>
      have q2 : Pst (Sm.R.of ((itemsD x).map sA)) _ _ := q
      obtain ⟨items, hg, k⟩ := q2.of
      obtain ⟨_, v, h1, h2⟩ := R.sl i _ e
      have hb : Ex co.Ha (Hbase own H w) := fun a o z => by
        have z2 := (R.ha.trans R.ex) _ _ z
        cases w with
        | true => exact z2
        | false =>
          show msk (Ow own) H a = some o
          rw [msk_at (fun y => by
            obtain ⟨n, hn⟩ := y
            have y2 := R.new n a hn
            rw [R.ha _ _ z] at y2
            cases y2)]
          exact z2
      cases h2 with
      | @lst p vs xs hl ha =>
        cases hg
        refine .inl ⟨_, join_some h1, p, rfl, ⟨vs, sq_of ((R.ha.trans R.ex) _ _ hl)⟩, k _ H (Ex.refl H) ?_⟩
        intro S H' hS e1 e2 n
        have hp : SqL K H' p vs := sq_of (e1 _ _ (hb _ _ hl))
        refine ⟨fun s hs => ?_, fun hl => ⟨vs, hp, by rw [ha.length]; rw [sA, List.length_map] at hl; exact hl⟩⟩
        obtain ⟨x, hx, rfl⟩ := atA hs
        obtain ⟨v, hv, hr⟩ := ha.get' hx
        refine ⟨⟨vs, v, hp, hv⟩, fun y H' z => ?_⟩
        obtain ⟨rfl, z⟩ := z
        have := z vs hp
        rw [hv] at this
        cases this
        exact ⟨Ex.refl _, hr⟩
      | @tup p vs xs hl ha =>
        cases hg
        refine .inr ⟨_, join_some h1, p, rfl, ⟨vs, ex_t (R.ha.trans R.ex) hl⟩, k _ H (Ex.refl H) ?_⟩
        intro S H' hS e1 e2 n
        have hp : SqT K H' p vs := ex_t (hb.trans e1) hl
        refine ⟨fun s hs => ?_, fun hl => ⟨vs, hp, by rw [ha.length]; rw [sA, List.length_map] at hl; exact hl⟩⟩
        obtain ⟨x, hx, rfl⟩ := atA hs
        obtain ⟨v, hv, hr⟩ := ha.get' hx
        refine ⟨⟨vs, v, hp, hv⟩, fun y H' z => ?_⟩
        obtain ⟨rfl, z⟩ := z
        have := z vs hp
        rw [hv] at this
        cases this
        exact ⟨Ex.refl _, hr⟩
      | _ => cases hg
    | d x => exact si_seq (w := w) (se_f (i := i)) ρ own σ H R Q (by unfold srcF xF; rw [e]; exact q)
    | _ => exact q.elim

def srcM (i : Nat) : Env → R (List Sv) := fun ρ => match ρ[i]? with
  | some (.m xs) => .ok (sD xs)
  | some (.d x) => R.of ((itemsD x).map sD)
  | _ => .st
theorem si_varM : SimI K co E true (iSeq K (tVar i)) (srcM i) := fun ρ own σ H R Q q => by
  unfold srcM at q
  cases e : ρ[i]? with
  | none => rw [e] at q; exact q.elim
  | some s =>
    rw [e] at q
    cases s with
    | m xs =>
      obtain ⟨p, vs, h1, h2, h3, h4⟩ := R.sl i _ e
      exact .inl ⟨_, join_some h1, p, rfl, ⟨vs, sq_of h3⟩, q _ H (Ex.refl H) (yld_list h3 h4)⟩
    | d x => exact si_seq (w := true) (se_f (i := i)) ρ own σ H R Q (by unfold srcF xF; rw [e]; exact q)
    | _ => exact q.elim

def rgS (a b : Int) : List Sv := sD (rgD a b)
def srcRg (fa fb : Env → R D) : Env → R (List Sv) := fun ρ => (fa ρ).bind fun a => (fb ρ).bind fun b => match a, b with
  | .int i, .int j => if -1000000000 ≤ i ∧ i ≤ 1000000000 ∧ -1000000000 ≤ j ∧ j ≤ 1000000000 then .ok (rgS i j) else .st
  | _, _ => .st
theorem yld_rg {S0 : Addr → Prop} {Ha Hb : Hp} (a b : Int) : Yld K S0 Ha Hb (Itr a (b - a).toNat) (rgS a b) := fun S H hS e1 e2 n => by
  refine ⟨fun s hs => ?_, fun hl => ?_⟩
  · obtain ⟨x, hx, rfl⟩ := atH hs
    unfold rgD at hx
    rw [List.getElem?_map] at hx
    cases e : (List.range (b - a).toNat)[n]? with
    | none => rw [e] at hx; cases hx
    | some m =>
      rw [e] at hx; cases hx
      obtain ⟨hn, he⟩ := List.getElem?_eq_some_iff.mp e
      rw [List.length_range] at hn
      rw [List.getElem_range] at he
      subst he
      refine ⟨hn, fun x H' z => ?_⟩
      obtain ⟨rfl, rfl⟩ := z
      exact ⟨Ex.refl _, .int _⟩
  · rw [rgS, sD, List.length_map, rgD, List.length_map, List.length_range] at hl
    exact hl
theorem si_rg1 (h : SimE K co E w1 ta fa) : SimI K co E w (iRng1 (tCons ta tNil)) (srcRg (xC (.int 0)) fa) := fun ρ own σ H R Q q => by
  refine h ρ own σ H R _ (Pst.mono (Pst.bind (r := fa ρ) q) (fun b _ k x H1 e1 hx => ?_) fun _ _ z => z)
  cases hx with
  | int n =>
    dsimp only at k
    split at k
    · refine ⟨n, rfl, by omega, by omega, k _ H1 e1 ?_⟩
      have := yld_rg (K := K) (S0 := Sbase co own w) (Ha := co.Ha) (Hb := Hbase own H1 w) 0 n
      rw [Int.sub_zero] at this
      exact this
    · exact k.elim
  | _ => exact k.elim
theorem si_rg2 (h : SimE K co E w1 ta fa) (h2 : SimE K co E w2 tb fb) : SimI K co E w (iRng2 (tCons ta (tCons tb tNil))) (srcRg fa fb) := fun ρ own σ H R Q q => by
  refine h ρ own σ H R _ ((q.bind).mono (fun a _ q2 x H1 e1 hx => ?_) fun _ _ z => z)
  refine h2 ρ own σ H1 (R.up e1) _ ((q2.bind).mono (fun b _ k y H2 e2 hy => ?_) fun c _ z => z.mono e1)
  cases hx with
  | int n =>
    cases hy with
    | int m =>
      dsimp only at k
      split at k
      · exact ⟨n, m, rfl, ⟨by omega, by omega, by omega, by omega⟩, k _ H2 (e1.trans e2) (yld_rg n m)⟩
      · exact k.elim
    | _ => exact k.elim
  | _ => cases b <;> exact k.elim

def enS (xs : List D) : List Sv := (List.range xs.length).filterMap fun n => xs[n]?.map fun x => Sv.d (.tup [.int (n : Nat), x])

def SimG (K : Kw) (co : Co) (js : List Nat) (tg : TG) (g : Sv → Env → R Env) : Prop := ∀ ρ own σ H s v, Rs K co ρ own σ H → ItR K (Sx co own) co.Ha H s v → ∀ Q : L2.St → Hp → Prop,
  (match g s ρ with
    | .ok ρ' => ∀ own' σ', Rs K co ρ' own' σ' H → (∀ a, Sx co own' a → Sx co own a) → (∀ j, j ∉ js → own' j = own j) → (∀ vs : List Nat, (∀ j ∈ js, j ∈ vs) → L2.wipe σ' vs = L2.wipe σ vs) → Q σ' H
    | _ => False) → tg v σ H Q
theorem wipe_get : ∀ (vs : List Nat) (σ : L2.St) (n : Nat), (L2.wipe σ vs)[n]? = if n ∈ vs ∧ n < σ.length then some none else σ[n]?
  | [], σ, n => by simp [L2.wipe]
  | v :: vs, σ, n => by
    show ((L2.wipe σ vs).set v none)[n]? = _
    by_cases e : n = v
    · subst e
      by_cases hl : n < σ.length
      · rw [List.getElem?_set_self (by rw [L2.wipe_length]; exact hl), if_pos ⟨by simp, hl⟩]
      · rw [List.getElem?_eq_none (by rw [List.length_set, L2.wipe_length]; omega), if_neg (fun z => hl z.2), List.getElem?_eq_none (by omega)]
    · rw [get_set_ne e, wipe_get vs σ n]
      by_cases h : n ∈ vs ∧ n < σ.length
      · rw [if_pos h, if_pos ⟨by simp [h.1], h.2⟩]
      · rw [if_neg h, if_neg (fun z => h ⟨by simpa [e] using z.1, z.2⟩)]
theorem wipe_set {σ : L2.St} {n : Nat} {x : Option V} {vs : List Nat} (h : n ∈ vs) : L2.wipe (σ.set n x) vs = L2.wipe σ vs := by
  apply List.ext_getElem?
  intro k
  rw [wipe_get, wipe_get, List.length_set]
  by_cases e : k = n
  · subst e
    by_cases hl : k < σ.length
    · rw [if_pos ⟨h, hl⟩, if_pos ⟨h, hl⟩]
    · rw [if_neg (fun z => hl z.2), if_neg (fun z => hl z.2), List.getElem?_eq_none (by rw [List.length_set]; omega), List.getElem?_eq_none (by omega)]
  · rw [get_set_ne e]
def bName (i : Nat) : Sv → Env → R Env := fun s ρ => match s with
  | .d x => .ok (ρ.set i (.d x))
  | .a x => .ok (ρ.set i (.a x))
  | _ => .st
theorem sg_name : SimG K co [i] (gName i) (bName i) := fun ρ own σ H s v R hs Q q => by
  cases s with
  | d x => exact q _ _ (R.setD hs) (sx_less co own i) (fun j hj => oset_ne (by simpa using hj)) fun vs h => wipe_set (h i (by simp))
  | a x => exact q _ _ (R.setA hs) (sx_less co own i) (fun j hj => oset_ne (by simpa using hj)) fun vs h => wipe_set (h i (by simp))
  | _ => exact hs.elim

def SimGs (K : Kw) (co : Co) (js : List Nat) (tg : TGs) (g : List Sv → Env → R Env) : Prop := ∀ ρ own σ H ss vs, Rs K co ρ own σ H → (∀ n : Nat, ∀ s, ss[n]? = some s → ∃ v, vs[n]? = some v ∧ ItR K (Sx co own) co.Ha H s v) → ss.length = vs.length → ∀ Q : L2.St → Hp → Prop,
  (match g ss ρ with
    | .ok ρ' => ∀ own' σ', Rs K co ρ' own' σ' H → (∀ a, Sx co own' a → Sx co own a) → (∀ j, j ∉ js → own' j = own j) → (∀ ws : List Nat, (∀ j ∈ js, j ∈ ws) → L2.wipe σ' ws = L2.wipe σ ws) → Q σ' H
    | _ => False) → tg vs σ H Q
def bNil : List Sv → Env → R Env := fun ss ρ => match ss with
  | [] => .ok ρ
  | _ => .st
def bCons (g : Sv → Env → R Env) (gs : List Sv → Env → R Env) : List Sv → Env → R Env := fun ss ρ => match ss with
  | s :: r => (g s ρ).bind fun ρ' => gs r ρ'
  | [] => .st
theorem sg_nil : SimGs K co [] gNil bNil := fun ρ own σ H ss vs R hs hl Q q => by
  cases ss with
  | nil =>
    cases vs with
    | nil => exact ⟨rfl, q own σ R (fun _ z => z) (fun _ _ => rfl) fun _ _ => rfl⟩
    | cons _ _ => cases hl
  | cons _ _ => exact q.elim
theorem ItR.sub {S T : Addr → Prop} {Ha H : Hp} {s : Sv} {v : V} (h : ItR K S Ha H s v) (z : ∀ a, T a → S a) : ItR K T Ha H s v := by
  cases s with
  | d x => exact Dr.mono (msk_sub z) h
  | a x => exact h
  | _ => exact h.elim
theorem sg_cons {js ks : List Nat} {tg : TG} {tgs : TGs} {g : Sv → Env → R Env} {gs : List Sv → Env → R Env} (h : SimG K co js tg g) (h2 : SimGs K co ks tgs gs) : SimGs K co (js ++ ks) (gCons tg tgs) (bCons g gs) := fun ρ own σ H ss vs R hs hl Q q => by
  cases ss with
  | nil => exact q.elim
  | cons s r =>
    cases vs with
    | nil => cases hl
    | cons v vs =>
      refine ⟨v, vs, rfl, h ρ own σ H s v R (by obtain ⟨u, h1, h2⟩ := hs 0 s rfl; cases h1; exact h2) _ ?_⟩
      dsimp only [bCons] at q
      cases e : g s ρ with
      | ok ρ' =>
        rw [e] at q
        intro own' σ' R' sub oe wp
        refine h2 ρ' own' σ' H r vs R' (fun n s hn => ?_) (by simpa using hl) Q ?_
        · obtain ⟨u, h1, h2⟩ := hs (n + 1) s hn
          exact ⟨u, h1, h2.sub sub⟩
        · have q : (match gs r ρ' with
            | .ok ρ' => ∀ own' σ', Rs K co ρ' own' σ' H → (∀ a, Sx co own' a → Sx co own a) → (∀ j, j ∉ js ++ ks → own' j = own j) → (∀ ws : List Nat, (∀ j ∈ js ++ ks, j ∈ ws) → L2.wipe σ' ws = L2.wipe σ ws) → Q σ' H
            | _ => False) := q
          cases e2 : gs r ρ' with
          | ok ρ2 =>
            rw [e2] at q
            exact fun own2 σ2 R2 sub2 oe2 wp2 => q own2 σ2 R2 (fun a z => sub a (sub2 a z)) (fun j hj => (oe2 j (fun z => hj (by simp [z]))).trans (oe j (fun z => hj (by simp [z])))) fun ws hw => (wp2 ws fun j hj => hw j (by simp [hj])).trans (wp ws fun j hj => hw j (by simp [hj]))
          | er c => rw [e2] at q; exact q
          | st => rw [e2] at q; exact q
      | er c => rw [e] at q; exact q
      | st => rw [e] at q; exact q
def partsS : Sv → Option (List Sv)
  | .d x => (itemsD x).map sD
  | .a x => (itemsD x).map sA
  | _ => none
def bSeq (n : Nat) (gs : List Sv → Env → R Env) : Sv → Env → R Env := fun s ρ => match partsS s with
  | some ss => if ss.length = n then gs ss ρ else .st
  | none => .st
theorem seq_items {S : Addr → Prop} {H Hq : Hp} {v : V} {x : D} {xs : List D} (h : Dr K H v x) (hi : itemsD x = some xs) (e : Ex H Hq) : ∃ p vs, v = .ref p ∧ (SqL K Hq p vs ∨ SqT K Hq p vs) ∧ DrA K H vs xs := by
  cases h with
  | lst h a => cases hi; exact ⟨_, _, rfl, .inl (sq_of (e _ _ h)), a⟩
  | tup h a => cases hi; exact ⟨_, _, rfl, .inr (ex_t e h), a⟩
  | _ => cases hi
theorem sg_seq {js : List Nat} {n : Nat} {tgs : TGs} {gs : List Sv → Env → R Env} (h : SimGs K co js tgs gs) : SimG K co js (gSeq K n tgs) (bSeq n gs) := fun ρ own σ H s v R hs Q q => by
  unfold bSeq at q
  cases s with
  | d x =>
    cases hi : itemsD x with
    | none => simp only [partsS, hi, Option.map_none] at q
    | some xs =>
      simp only [partsS, hi, Option.map_some] at q
      obtain ⟨p, vs, rfl, hp, ha⟩ := seq_items (S := Sx co own) hs hi msk_le
      by_cases hl : (sD xs).length = n
      · rw [if_pos hl] at q
        have hl : xs.length = n := by rw [sD, List.length_map] at hl; exact hl
        have kk : tgs vs σ H Q := h ρ own σ H (sD xs) vs R (fun k s hk => by
          obtain ⟨y, hy, rfl⟩ := atH hk
          exact ha.get' hy) (by rw [sD, List.length_map, ha.length]) Q q
        rcases hp with hp | hp
        · exact .inr ⟨p, vs, rfl, hp, by rw [ha.length]; exact hl, kk⟩
        · exact .inl ⟨p, vs, rfl, hp, by rw [ha.length]; exact hl, kk⟩
      · rw [if_neg hl] at q; exact q.elim
  | a x =>
    cases hi : itemsD x with
    | none => simp only [partsS, hi, Option.map_none] at q
    | some xs =>
      simp only [partsS, hi, Option.map_some] at q
      obtain ⟨p, vs, rfl, hp, ha⟩ := seq_items (S := Sx co own) hs hi (R.ha.trans R.ex)
      by_cases hl : (sA xs).length = n
      · rw [if_pos hl] at q
        have hl : xs.length = n := by rw [sA, List.length_map] at hl; exact hl
        have kk : tgs vs σ H Q := h ρ own σ H (sA xs) vs R (fun k s hk => by
          obtain ⟨y, hy, rfl⟩ := atA hk
          exact ha.get' hy) (by rw [sA, List.length_map, ha.length]) Q q
        rcases hp with hp | hp
        · exact .inr ⟨p, vs, rfl, hp, by rw [ha.length]; exact hl, kk⟩
        · exact .inl ⟨p, vs, rfl, hp, by rw [ha.length]; exact hl, kk⟩
      · rw [if_neg hl] at q; exact q.elim
  | _ => exact hs.elim

def xUn (g : Sv → Env → R Env) (f : Env → R D) : Env → Out := xOut f fun d ρ => match g (.d d) ρ with
  | .ok ρ' => .nx ρ'
  | _ => .st
theorem ss_un {js : List Nat} {tg : TG} {g : Sv → Env → R Env} (hg : SimG K co js tg g) (h : SimE K co E false te f) : SimS K co E (tAsg te tg) (xUn g f) := fun ρ own σ H R Dn q => by
  refine h ρ own σ H R _ (out_of R q fun d _ k v H2 e2 hv => ?_)
  refine hg ρ own σ H2 (.d d) v (R.up e2) hv _ ?_
  cases e : g (.d d) ρ with
  | ok ρ' => rw [e] at k; exact fun own' σ' R' _ _ _ => k own' σ' H2 R'
  | er c => rw [e] at k; exact k
  | st => rw [e] at k; exact k

def loopL (g : Sv → Env → R Env) (F : Env → Out) : List Sv → Env → Out
  | [], ρ => .nx ρ
  | s :: r, ρ => match g s ρ with
    | .ok ρ1 => match F ρ1 with
      | .nx ρ2 => loopL g F r ρ2
      | .ct ρ2 => loopL g F r ρ2
      | .bk ρ2 => .nx ρ2
      | o => o
    | _ => .st
def xFor (src : Env → R (List Sv)) (g : Sv → Env → R Env) (F : Env → Out) : Env → Out := fun ρ => match src ρ with
  | .ok items => loopL g F items ρ
  | .er c => .er c ρ
  | .st => .st

def co_at (co : Co) (H : Hp) : Co := { co with H0 := H }
theorem Rs.anchor {ρ : Env} {own : Own} {σ : L2.St} {H : Hp} (R : Rs K co ρ own σ H) : Rs K (co_at co (msk (Ow own) H)) ρ own σ H := by
  refine ⟨R.len, R.sl, R.out, fun i p h => msk_in ⟨i, h⟩, R.dis, R.inj, msk_le, fun a o z => ?_, R.s0⟩
  show msk (Ow own) H a = some o
  rw [msk_at (fun y => by
    obtain ⟨n, hn⟩ := y
    have y2 := R.new n a hn
    rw [R.ha _ _ z] at y2
    cases y2)]
  exact (R.ha.trans R.ex) _ _ z
theorem Rs.back {Hx : Hp} {ρ : Env} {own : Own} {σ : L2.St} {H : Hp} (R : Rs K (co_at co Hx) ρ own σ H) (e : Ex co.H0 Hx) (ha : Ex co.Ha co.H0) : Rs K co ρ own σ H :=
  ⟨R.len, R.sl, R.out, fun i p h => fresh_back e (R.new i p h), R.dis, R.inj, e.trans R.ex, ha, R.s0⟩
theorem OP.re {Hx : Hp} {Dn : Ends} {o : Out} (h : OP K co E Dn o) (e : Ex co.H0 Hx) (ha : Ex co.Ha co.H0) : OP K (co_at co Hx) E Dn o := by
  cases o with
  | nx ρ => exact fun own σ H R => h own σ H (R.back e ha)
  | bk ρ => exact fun own σ H R => h own σ H (R.back e ha)
  | ct ρ => exact fun own σ H R => h own σ H (R.back e ha)
  | rt d => exact fun v H e2 hv => h v H (e.trans e2) hv
  | rn xs => exact fun p vs H hp e2 hl hs hd => h p vs H (fresh_back e hp) (e.trans e2) hl hs hd
  | rnT t => exact fun v N H hN e2 hs ht => h v N H (fun a z => fresh_back e (hN a z)) (e.trans e2) hs ht
  | er c ρ => exact fun own σ H R => h own σ H (R.back e ha)
  | st => exact h
theorem loop_sim {js : List Nat} {tg : TG} {g : Sv → Env → R Env} {J : It} {items : List Sv} {H1 : Hp} {Dn : Ends} (hg : SimG K co js tg g) (hF : SimS K co E tu F)
    (hy : Yld K co.S0 co.Ha co.H0 J items) {ρ : Env} {own : Own} {σ : L2.St} {H : Hp} (R : Rs K co ρ own σ H) (q : OP K co E Dn (loopL g F items ρ)) :
    ∃ W : Nat → Nat → L2.St → Hp → Prop, (∃ m, W 0 m σ H) ∧ ∀ i m σ H, W i m σ H → (J.stop i H ∧ Dn.nx σ H) ∨ (J.go i H ∧ ∃ N : L2.St → Hp → Prop, (∀ σ' H', N σ' H' → ∃ m', m' < m ∧ W (i + 1) m' σ' H') ∧ ∀ x H', J.yld i H x H' → tg x σ H' fun σ2 H2 => tu { Dn with nx := N, ct := N, bk := Dn.nx } σ2 H2) := by
  refine ⟨fun i m σ H => i + m = items.length ∧ ∃ ρ own, Rs K co ρ own σ H ∧ OP K co E Dn (loopL g F (items.drop i) ρ), ⟨items.length, by omega, ρ, own, R, by simpa using q⟩, ?_⟩
  rintro i m σ H ⟨hm, ρ, own, R, q⟩
  have e2 : Ex (msk co.S0 co.H0) (msk (Sx co own) H) := msk_to R.ex fun a z => by
    rcases z with z | ⟨n, z⟩
    · exact .inl z
    · exact .inr (R.new n a z)
  obtain ⟨y1, y2⟩ := hy (Sx co own) H (fun a z => (R.mut a z).ne) R.ex e2 i
  cases m with
  | zero =>
    refine .inl ⟨y2 (by omega), ?_⟩
    rw [List.drop_eq_nil_of_le (by omega)] at q
    exact q own σ H R
  | succ m =>
    have hl : i < items.length := by omega
    obtain ⟨go, yl⟩ := y1 _ (List.getElem?_eq_getElem hl)
    refine .inr ⟨go, fun σ' H' => i + 1 + m = items.length ∧ ∃ ρ own, Rs K co ρ own σ' H' ∧ OP K co E Dn (loopL g F (items.drop (i + 1)) ρ), fun σ' H' n => ⟨m, by omega, n⟩, fun x H' yx => ?_⟩
    obtain ⟨e3, it⟩ := yl x H' yx
    rw [List.drop_eq_getElem_cons hl] at q
    refine hg ρ own σ H' items[i] x (R.up e3) it _ ?_
    unfold loopL at q
    cases e : g items[i] ρ with
    | ok ρ1 =>
      rw [e] at q
      intro own' σ' R' _ _ _
      refine hF ρ1 own' σ' H' R' _ ?_
      dsimp only at q
      cases e2 : F ρ1 with
      | nx ρ2 => rw [e2] at q; exact fun own2 σ2 H2 R2 => ⟨by omega, ρ2, own2, R2, q⟩
      | ct ρ2 => rw [e2] at q; exact fun own2 σ2 H2 R2 => ⟨by omega, ρ2, own2, R2, q⟩
      | bk ρ2 => rw [e2] at q; exact fun own2 σ2 H2 R2 => q own2 σ2 H2 R2
      | rt d => rw [e2] at q; exact q
      | rn d => rw [e2] at q; exact q
      | rnT d => rw [e2] at q; exact q
      | er c d => rw [e2] at q; exact q
      | st => rw [e2] at q; exact q
    | er c => rw [e] at q; exact q
    | st => rw [e] at q; exact q
theorem ss_for {js : List Nat} {ti : TI} {tg : TG} {src : Env → R (List Sv)} {g : Sv → Env → R Env} (hi : SimI K co E false ti src) (hg : ∀ Hx, SimG K (co_at co Hx) js tg g) (hF : ∀ Hx, SimS K (co_at co Hx) E tu F) : SimS K co E (tFor ti tg tu) (xFor src g F) := fun ρ own σ H R Dn q => by
  refine hi ρ own σ H R _ ?_
  unfold xFor at q
  cases e : src ρ with
  | ok items =>
    rw [e] at q
    intro J H1 e1 hy
    have R1 := (R.up e1).anchor
    have e0 : Ex co.H0 (msk (Ow own) H1) := fun a o z => by
      rw [msk_at (fun y => by
        obtain ⟨n, hn⟩ := y
        have y2 := R.new n a hn
        rw [z] at y2
        cases y2)]
      exact (R.ex.trans e1) _ _ z
    exact loop_sim (co := co_at co (msk (Ow own) H1)) (H1 := H1) (hg _) (hF _) hy R1 (q.re e0 R.ha)
  | er c => rw [e] at q; exact fun H2 e2 => q own σ H2 (R.up e2)
  | st => rw [e] at q; exact q

def turns (t : Env → R Bool) (F : Env → Out) : Nat → Env → Option Out
  | 0, _ => none
  | n + 1, ρ => match t ρ with
    | .ok true => match F ρ with
      | .nx ρ2 => turns t F n ρ2
      | .ct ρ2 => turns t F n ρ2
      | .bk ρ2 => some (.nx ρ2)
      | o => some o
    | .ok false => some (.nx ρ)
    | .er c => some (.er c ρ)
    | .st => some .st
open Classical in
noncomputable def xWhile (t : Env → R Bool) (F : Env → Out) : Env → Out := fun ρ => if h : ∃ n o, turns t F n ρ = some o then h.choose_spec.choose else .st
theorem turns_more {n m : Nat} {ρ : Env} {o : Out} (h : turns t F n ρ = some o) (hm : n ≤ m) : turns t F m ρ = some o := by
  induction n generalizing m ρ with
  | zero => cases h
  | succ n ih =>
    obtain ⟨m, rfl⟩ : ∃ k, m = k + 1 := ⟨m - 1, by omega⟩
    unfold turns at h ⊢
    cases et : t ρ with
    | ok b =>
      rw [et] at h
      cases b with
      | true =>
        dsimp only at h ⊢
        cases eF : F ρ with
        | nx ρ2 => rw [eF] at h; exact ih h (by omega)
        | ct ρ2 => rw [eF] at h; exact ih h (by omega)
        | _ => rw [eF] at h; exact h
      | false => exact h
    | er c => rw [et] at h; exact h
    | st => rw [et] at h; exact h
theorem xWhile_of {n : Nat} {ρ : Env} {o : Out} (h : turns t F n ρ = some o) : xWhile t F ρ = o := by
  unfold xWhile
  have hx : ∃ n o, turns t F n ρ = some o := ⟨n, o, h⟩
  rw [dif_pos hx]
  have h2 := hx.choose_spec.choose_spec
  have h3 := turns_more h (Nat.le_max_left n hx.choose)
  have h4 := turns_more h2 (Nat.le_max_right n hx.choose)
  rw [h3] at h4
  exact (Option.some.inj h4).symm
theorem xWhile_some {ρ : Env} (h : xWhile t F ρ ≠ .st) : ∃ n, turns t F n ρ = some (xWhile t F ρ) := by
  by_cases hx : ∃ n o, turns t F n ρ = some o
  · obtain ⟨n, o, h2⟩ := hx
    exact ⟨n, by rw [xWhile_of h2]; exact h2⟩
  · exact absurd (by unfold xWhile; rw [dif_neg hx]) h

theorem xWhile_eq (ρ : Env) : xWhile t F ρ = match t ρ with
    | .ok true => match F ρ with
      | .nx ρ2 => xWhile t F ρ2
      | .ct ρ2 => xWhile t F ρ2
      | .bk ρ2 => .nx ρ2
      | o => o
    | .ok false => .nx ρ
    | .er c => .er c ρ
    | .st => .st := by
  have key : ∀ ρ2, (∀ n o, turns t F n ρ2 = some o → turns t F (n + 1) ρ = some o) → (∀ n o, turns t F (n + 1) ρ = some o → turns t F n ρ2 = some o) → xWhile t F ρ = xWhile t F ρ2 := fun ρ2 h1 h2 => by
    by_cases hx : ∃ n o, turns t F n ρ2 = some o
    · obtain ⟨n, o, h⟩ := hx
      rw [xWhile_of h, xWhile_of (h1 n o h)]
    · have hy : ¬ ∃ n o, turns t F n ρ = some o := fun ⟨n, o, h⟩ => hx (by
        cases n with
        | zero => cases h
        | succ n => exact ⟨n, o, h2 n o h⟩)
      unfold xWhile
      rw [dif_neg hx, dif_neg hy]
  cases et : t ρ with
  | ok b =>
    cases b with
    | true =>
      dsimp only
      cases eF : F ρ with
      | nx ρ2 => exact key ρ2 (fun n o h => by unfold turns; rw [et]; dsimp only; rw [eF]; exact h) fun n o h => by unfold turns at h; rw [et] at h; dsimp only at h; rw [eF] at h; exact h
      | ct ρ2 => exact key ρ2 (fun n o h => by unfold turns; rw [et]; dsimp only; rw [eF]; exact h) fun n o h => by unfold turns at h; rw [et] at h; dsimp only at h; rw [eF] at h; exact h
      | _ => exact xWhile_of (n := 1) (by unfold turns; rw [et]; dsimp only; rw [eF])
    | false => exact xWhile_of (n := 1) (by unfold turns; rw [et])
  | er c => exact xWhile_of (n := 1) (by unfold turns; rw [et])
  | st => exact xWhile_of (n := 1) (by unfold turns; rw [et])
theorem ss_while (ht : SimT K co E tt t) (hF : SimS K co E tu F) : SimS K co E (tWhile tt tu) (xWhile t F) := fun ρ own σ H R Dn q => by
  have ne : xWhile t F ρ ≠ .st := fun z => by rw [z] at q; exact q
  obtain ⟨n, hn⟩ := xWhile_some ne
  refine ⟨fun m σ H => ∃ ρ own o, Rs K co ρ own σ H ∧ turns t F m ρ = some o ∧ OP K co E Dn o, ⟨n, ρ, own, _, R, hn, q⟩, ?_⟩
  rintro m σ H ⟨ρ, own, o, R, hm, q⟩
  cases m with
  | zero => cases hm
  | succ m =>
    unfold turns at hm
    refine ht ρ own σ H R _ ?_
    cases et : t ρ with
    | ok b =>
      rw [et] at hm
      intro H2 e2
      cases b with
      | true =>
        dsimp only at hm
        show ∃ N : L2.St → Hp → Prop, _ ∧ tu _ σ H2
        refine ⟨fun σ' H' => ∃ ρ own o, Rs K co ρ own σ' H' ∧ turns t F m ρ = some o ∧ OP K co E Dn o, fun σ' H' z => ⟨m, by omega, z⟩, hF ρ own σ H2 (R.up e2) _ ?_⟩
        cases eF : F ρ with
        | nx ρ2 => rw [eF] at hm; exact fun own2 σ2 H3 R2 => ⟨ρ2, own2, o, R2, hm, q⟩
        | ct ρ2 => rw [eF] at hm; exact fun own2 σ2 H3 R2 => ⟨ρ2, own2, o, R2, hm, q⟩
        | bk ρ2 => rw [eF] at hm; cases hm; exact fun own2 σ2 H3 R2 => q own2 σ2 H3 R2
        | rt d => rw [eF] at hm; cases hm; exact q
        | rn d => rw [eF] at hm; cases hm; exact q
        | rnT d => rw [eF] at hm; cases hm; exact q
        | er c d => rw [eF] at hm; cases hm; exact q
        | st => rw [eF] at hm; cases hm; exact q
      | false =>
        cases hm
        show Dn.nx σ H2
        exact q own σ H2 (R.up e2)
    | er c => rw [et] at hm; cases hm; exact fun H2 e2 => q own σ H2 (R.up e2)
    | st => rw [et] at hm; cases hm; exact q

def lcL (g : Sv → Env → R Env) (t : Env → R Bool) (f : Env → R D) (ρ : Env) : List Sv → R (List D)
  | [] => .ok []
  | s :: r => match g s ρ with
    | .ok ρ1 => match t ρ1 with
      | .ok true => match f ρ1 with
        | .ok d => (lcL g t f ρ r).bind fun ds => .ok (d :: ds)
        | _ => .st
      | .ok false => lcL g t f ρ r
      | _ => .st
    | _ => .st
def wipeE (ρ : Env) : List Nat → Env
  | [] => ρ
  | v :: vs => (wipeE ρ vs).set v .no
def notOwn (ρ : Env) (i : Nat) : Bool := match ρ[i]? with
  | some (.m _) => false
  | some (.o _ _ _) => false
  | some (.k _ _) => false
  | some (.t _ _) => false
  | some (.z _ _) => false
  | _ => true
def nLc (src : Env → R (List Sv)) (vs : List Nat) (g : Sv → Env → R Env) (t : Env → R Bool) (f : Env → R D) : Env → R (List D) := fun ρ => (src ρ).bind fun items => if items.length ≤ 1000000 ∧ vs.all (notOwn ρ) = true then match lcL g t f (wipeE ρ vs) items with
  | .ok ds => .ok ds
  | _ => .st else .st
def yYes : Env → R Bool := fun _ => .ok true
theorem st_yes : SimT K co E tYes yYes := fun ρ own σ H R Q q => q H (Ex.refl H)
theorem Rs.notOwn {ρ : Env} {own : Own} {σ : L2.St} {H : Hp} (R : Rs K co ρ own σ H) (h : notOwn ρ i = true) : own i = Z := by
  unfold Sm.notOwn at h
  cases e : ρ[i]? with
  | none => exact R.out i (by rcases Nat.lt_or_ge i ρ.length with z | z; rw [List.getElem?_eq_getElem z] at e; cases e; exact z)
  | some s =>
    rw [e] at h
    have q := R.sl i s e
    cases s with
    | m xs => cases h
    | o c ns ds => cases h
    | k ks vs => cases h
    | t _ _ => cases h
    | z _ _ => cases h
    | no => exact q
    | d x => exact q.1
    | a x => exact q.1
    | x c => exact q.1
theorem Rs.wipe {ρ : Env} {own : Own} {σ : L2.St} {H : Hp} (R : Rs K co ρ own σ H) : ∀ vs : List Nat, ∃ own', Rs K co (wipeE ρ vs) own' (L2.wipe σ vs) H ∧ (∀ a, Sx co own' a → Sx co own a) ∧ ∀ j, j ∉ vs → own' j = own j
  | [] => ⟨own, R, fun _ z => z, fun _ _ => rfl⟩
  | v :: vs => by
    obtain ⟨o1, R1, s1, s2⟩ := R.wipe vs
    exact ⟨_, R1.setO (i := v) (o := none), fun a z => s1 a (sx_less co o1 v a z), fun j hj => (oset_ne (fun z => hj (by simp [z]))).trans (s2 j (fun z => hj (by simp [z])))⟩
theorem wipe_wipe (σ : L2.St) (vs : List Nat) : L2.wipe (L2.wipe σ vs) vs = L2.wipe σ vs := by
  apply List.ext_getElem?
  intro k
  rw [wipe_get, L2.wipe_length, wipe_get]
  by_cases h : k ∈ vs ∧ k < σ.length
  · rw [if_pos h, if_pos h]
  · rw [if_neg h]
def co_up (co : Co) (p : Addr) : Co := { co with S0 := fun a => co.S0 a ∨ a = p }
theorem Rs.laid {ρ : Env} {own : Own} {σ : L2.St} {H H' : Hp} {p : Addr} (R : Rs K co ρ own σ H) (e : Ex H H') (hp : H p = none) (hm : Mut H' p) : Rs K (co_up co p) ρ own σ H' := by
  have sx : ∀ a, Sx (co_up co p) own a → Sx co own a ∨ H a = none := fun a z => by
    rcases z with (z | z) | z
    · exact .inl (.inl z)
    · subst z; exact .inr hp
    · exact .inl (.inr z)
  refine ⟨R.len, fun i s h => (R.sl i s h).re rfl (msk_to e sx) (fun q _ u hu => e _ _ hu) (Ex.refl _) rfl ⟨rfl, rfl, rfl, rfl, rfl⟩, R.out, R.new, fun i q h z => ?_, R.inj, R.ex.trans e, R.ha, fun a z => ?_⟩
  · rcases z with z | z
    · exact R.dis i q h z
    · subst z; exact (R.mutO h).ne hp
  · rcases z with z | z
    · exact (R.s0 a z).ex e
    · subst z; exact hm

theorem Rs.back2 {ρ : Env} {own : Own} {σ : L2.St} {H : Hp} {p : Addr} {u : HO} (R : Rs K (co_up co p) ρ own σ H) (hm : ∃ xs, u = .lst xs) : Rs K (co_up co p) ρ own σ (upd H p u) ∨ ¬ Ex co.H0 (upd H p u) := by
  by_cases ee : Ex co.H0 (upd H p u)
  · left
    have em : msk (Sx (co_up co p) own) (upd H p u) = msk (Sx (co_up co p) own) H := msk_upd (.inl (.inr rfl))
    refine ⟨R.len, fun i s h => (R.sl i s h).re rfl (by rw [em]; exact Ex.refl _) (fun q hq w hw => ?_) (Ex.refl _) rfl ⟨rfl, rfl, rfl, rfl, rfl⟩, R.out, R.new, R.dis, R.inj, ee, R.ha, fun a z => ?_⟩
    · rw [upd_ne (fun z => R.dis i q hq (.inr z))]; exact hw
    · by_cases ea : a = p
      · subst ea; obtain ⟨xs, rfl⟩ := hm; exact .l upd_same
      · obtain ⟨w, y, m⟩ := R.s0 a z
        exact ⟨w, by rw [upd_ne ea]; exact y, m⟩
  · exact .inr ee
theorem lcL_take {g : Sv → Env → R Env} {ρ : Env} : ∀ {items : List Sv} {ds : List D}, lcL g t f ρ items = .ok ds → ∀ n, n < items.length → ∃ d1 d2 s ρ1 b, lcL g t f ρ (items.take n) = .ok d1 ∧ items[n]? = some s ∧ g s ρ = .ok ρ1 ∧ t ρ1 = .ok b ∧ (b = true → f ρ1 = .ok d2) ∧ lcL g t f ρ (items.take (n + 1)) = .ok (d1 ++ if b = true then [d2] else [])
  | [], _, _, n, hn => by simp at hn
  | s :: r, ds, h, n, hn => by
    unfold lcL at h
    cases eg : g s ρ with
    | ok ρ1 =>
      rw [eg] at h
      dsimp only at h
      cases et : t ρ1 with
      | ok b =>
        rw [et] at h
        cases b with
        | true =>
          dsimp only at h
          cases ef : f ρ1 with
          | ok d =>
            rw [ef] at h
            cases er : lcL g t f ρ r with
            | ok rs =>
              cases n with
              | zero => exact ⟨[], d, s, ρ1, true, by simp [lcL], rfl, eg, et, fun _ => ef, by simp [lcL, eg, et, ef, Sm.R.bind]⟩
              | succ n =>
                obtain ⟨d1, d2, s', ρ2, b, h1, h2, h3, h4, h5, h6⟩ := lcL_take er n (by simpa using hn)
                refine ⟨d :: d1, d2, s', ρ2, b, ?_, h2, h3, h4, h5, ?_⟩
                · simp only [List.take_succ_cons, lcL, eg, et, ef, h1, R.bind]
                · rw [List.take_succ_cons]
                  simp only [lcL, eg, et, ef, h6, R.bind, List.cons_append]
            | er c => rw [er] at h; cases h
            | st => rw [er] at h; cases h
          | er c => rw [ef] at h; cases h
          | st => rw [ef] at h; cases h
        | false =>
          dsimp only at h
          cases n with
          | zero => exact ⟨[], .none, s, ρ1, false, by simp [lcL], rfl, eg, et, (fun z => by cases z), by simp [lcL, eg, et]⟩
          | succ n =>
            obtain ⟨d1, d2, s', ρ2, b, h1, h2, h3, h4, h5, h6⟩ := lcL_take h n (by simpa using hn)
            refine ⟨d1, d2, s', ρ2, b, ?_, h2, h3, h4, h5, ?_⟩
            · simp only [List.take_succ_cons, lcL, eg, et, h1]
            · rw [List.take_succ_cons]
              simp only [lcL, eg, et, h6]
      | er c => rw [et] at h; cases h
      | st => rw [et] at h; cases h
    | er c => rw [eg] at h; cases h
    | st => rw [eg] at h; cases h
theorem lcL_len {g : Sv → Env → R Env} {ρ : Env} : ∀ {items : List Sv} {ds : List D}, lcL g t f ρ items = .ok ds → ds.length ≤ items.length
  | [], ds, h => by cases h; simp
  | s :: r, ds, h => by
    unfold lcL at h
    cases eg : g s ρ with
    | ok ρ1 =>
      rw [eg] at h; dsimp only at h
      cases et : t ρ1 with
      | ok b =>
        rw [et] at h
        cases b with
        | true =>
          dsimp only at h
          cases ef : f ρ1 with
          | ok d =>
            rw [ef] at h
            cases er : lcL g t f ρ r with
            | ok rs => rw [er] at h; cases h; have := lcL_len er; simp; omega
            | er c => rw [er] at h; cases h
            | st => rw [er] at h; cases h
          | er c => rw [ef] at h; cases h
          | st => rw [ef] at h; cases h
        | false => have := lcL_len h; simp; omega
      | er c => rw [et] at h; cases h
      | st => rw [et] at h; cases h
    | er c => rw [eg] at h; cases h
    | st => rw [eg] at h; cases h
theorem sn_lc {js vs : List Nat} {ti : TI} {tg : TG} {src : Env → R (List Sv)} {g : Sv → Env → R Env} (hi : SimI K co E true ti src) (hg : ∀ p, SimG K (co_up co p) js tg g) (hj : ∀ j ∈ js, j ∈ vs) (ht : ∀ p, SimT K (co_up co p) Eno tt t) (he : ∀ p, SimE K (co_up co p) Eno false te f) :
    SimN K co E (tLc ti tg tt te vs) (nLc src vs g t f) := fun ρ own σ H R Q q => by
  refine hi ρ own σ H R _ ((q.bind).mono (fun items _ k J H1 e1 hy => ?_) fun _ _ z => z)
  split at k
  · rename_i hsz
    cases el : lcL g t f (wipeE ρ vs) items with
    | er c => rw [el] at k; exact k.elim
    | st => rw [el] at k; exact k.elim
    | ok ds =>
      rw [el] at k
      intro Dl hD
      obtain ⟨ow, Rw, sw, sw2⟩ := (R.up e1).wipe vs
      have ms : ∀ a, Sx (co_up co Dl) ow a → Sx co own a ∨ a = Dl := fun a z => by
        rcases z with (z | z) | z
        · exact .inl (.inl z)
        · exact .inr z
        · exact .inl (sw a (.inr z))
      let Iv : Nat → Hp → Prop := fun n H' => Rs K (co_up co Dl) (wipeE ρ vs) ow (L2.wipe σ vs) H' ∧ Ex H1 H' ∧ ∃ acc d1, H' Dl = some (.lst acc) ∧ lcL g t f (wipeE ρ vs) (items.take n) = .ok d1 ∧ DrA K (msk (fun a => Sx co own a ∨ a = Dl) H') acc d1
      have i0 : Iv 0 (upd H1 Dl (.lst [])) := ⟨Rw.laid (Ex.new hD) hD (.l upd_same), Ex.new hD, [], [], upd_same, by simp [lcL], .nil⟩
      refine ⟨fun n m H' => n + m = items.length ∧ Iv n H', ⟨items.length, by omega, i0⟩, ?_⟩
      rintro n m H' ⟨hm, R', eH, acc, d1, hl, hd1, hda⟩
      have e2 : Ex (msk (Sx co own) H1) (msk (fun a => Sx co own a ∨ a = Dl) H') := msk_to eH fun a z => by
        rcases z with z | z
        · exact .inl z
        · subst z; exact .inr hD
      have ee2 : Ex (msk (Sx co own) H1) (msk (Sx (co_up co Dl) ow) H') := e2.trans (msk_sub ms)
      obtain ⟨y1, y2⟩ := hy (Sx (co_up co Dl) ow) H' (fun a z => (R'.mut a z).ne) eH ee2 n
      cases m with
      | zero =>
        refine .inl ⟨y2 (by omega), ?_⟩
        rw [List.take_of_length_le (by omega), el] at hd1
        cases hd1
        exact k Dl acc H' (fresh_back e1 hD) (e1.trans eH) hl hda
      | succ m =>
        have hn : n < items.length := by omega
        obtain ⟨d1', d2, s, ρ1, b, h1, h2, h3, h4, h5, h6⟩ := lcL_take el n hn
        rw [hd1] at h1
        cases h1
        obtain ⟨go, yl⟩ := y1 s h2
        refine .inr ⟨go, fun H'' => n + 1 + m = items.length ∧ Iv (n + 1) H'', fun H'' z => ⟨m, by omega, z⟩, fun x Hy yx => ?_⟩
        obtain ⟨e3, it⟩ := yl x Hy yx
        refine hg Dl (wipeE ρ vs) ow (L2.wipe σ vs) Hy s x (R'.up e3) it _ ?_
        rw [h3]
        intro own2 σ2 R2 sub2 oe2 wp2
        refine ⟨by rw [wp2 vs hj, wipe_wipe], ht Dl ρ1 own2 σ2 Hy R2 _ ?_⟩
        rw [h4]
        intro H3 e4
        cases b with
        | true =>
          rw [if_pos rfl]
          have e34 := e3.trans e4
          refine he Dl ρ1 own2 σ2 H3 (R2.up e4) _ ?_
          rw [h5 rfl]
          intro y H4 e5 hy4
          have e345 := e34.trans e5
          have hl4 := e345 _ _ hl
          refine ⟨acc, hl4, szl (by rw [hda.length]; have := lcL_len hd1; rw [List.length_take] at this; omega), by omega, ?_, eH.trans e345 |>.mut hD, acc ++ [y], d1 ++ [d2], upd_same, by rw [h6, if_pos rfl], ?_⟩
          · rcases (R'.up e345).back2 (u := .lst (acc ++ [y])) ⟨_, rfl⟩ with z | z
            · exact z
            · exact absurd ((R.ex.trans e1).trans ((eH.trans e345).mut hD)) z
          · rw [msk_upd (S := fun a => Sx co own a ∨ a = Dl) (.inr rfl)]
            refine (hda.mono (msk_ex e345)).append (.one (hy4.mono (msk_sub fun a z => ?_)))
            rcases z with z | z
            · rcases z with z | ⟨n, z⟩
              · exact .inl (.inl z)
              · by_cases hv : n ∈ vs
                · rw [R.notOwn (List.all_eq_true.mp hsz.2 n hv)] at z
                  cases z
                · exact .inr ⟨n, by rw [oe2 n (fun y => hv (hj n y)), sw2 n hv]; exact z⟩
            · exact .inl (.inr z)
        | false =>
          rw [if_neg (by decide)]
          have e34 := e3.trans e4
          exact ⟨by omega, R'.up e34, eH.trans e34, acc, d1, e34 _ _ hl, by rw [h6]; simp, hda.mono (msk_ex e34)⟩
  · exact k.elim
end
end Sm
namespace Sm
open PySem L2 Al PySem.Spec PyProof.Rows
open Evl (Ex)

def tRevT (K : PySem.W.Frag) (te : TE) : TE := fun σ H Q => te σ H fun x H1 => ∃ a xs, x = .ref a ∧ SqT K H1 a xs ∧ ∀ p, H1 p = none → Q (.ref p) (upd H1 p (.tup xs.reverse))
theorem places_back (n : Nat) : Builtin.Slice.slicePlaces ((n : Int) - 1) (-1) (-1) = n := by
  unfold Builtin.Slice.slicePlaces
  rw [if_neg (by decide)]
  by_cases h : (n : Int) - 1 > -1
  · rw [if_pos h, show ((n : Int) - 1 - -1 - 1) / - -1 + 1 = (n : Int) by rw [show (- -1 : Int) = 1 by decide, Int.ediv_one]; omega]
    omega
  · rw [if_neg h]
    omega
theorem applied_back {prog : Program} {w : World} {A : Around} {E : Value → Shared → Prop} {s : Shared} {sl : Addr} {vk : Value} {n : Nat} {Q : Int × Int × Nat → Shared → Prop} (hs : s.heap.IsSliceOf sl .none .none vk) (pk : IsPart vk (some (-1)))
    (h : Q ((n : Int) - 1, -1, n) s) : wpAny (model prog w) A (Builtin.Slice.sliceApplied (.ref sl) (pure (n : Int))) Q E s := by
  obtain ⟨os, hos, hcs, hds⟩ := id hs
  unfold Builtin.Slice.sliceApplied Builtin.Slice.sliceFields
  refine wpAny_bind (wpAny_bind (wpAny_field hos hds (x := .none) rfl (wpAny_bind (wpAny_field hos hds (x := .none) rfl (wpAny_bind (wpAny_field hos hds (x := vk) rfl (wpAny_pure ?_)))))))
  refine wpAny_bind (HT.slicePart_ pk ?_)
  show wpAny _ _ (if ((-1 : Int) == 0) = true then _ else _) _ _ s
  rw [if_neg (by decide)]
  refine wpAny_bind (slicePart_none (wpAny_bind (slicePart_none (wpAny_bind (wpAny_pure ?_)))))
  show wpAny _ _ (pure ((n : Int) - 1, (-1 : Int), Builtin.Slice.slicePlaces ((n : Int) - 1) (-1) (-1))) _ _ s
  rw [places_back]
  exact wpAny_pure h
theorem pick_alike {α β : Type} {f g : α → Option β} : ∀ (l : List α), (∀ m ∈ l, f m = g m) → l.filterMap f = l.filterMap g
  | [], _ => rfl
  | x :: l, h => by
    rw [List.filterMap_cons, List.filterMap_cons, h x List.mem_cons_self, pick_alike l fun m hm => h m (List.mem_cons_of_mem _ hm)]
theorem pick_back (xs : Array Value) : ((List.range xs.size).filterMap fun (m : Nat) => xs[(((xs.size : Nat) : Int) - 1 + (m : Int) * -1).toNat]?).toArray = xs.toList.reverse.toArray := by
  congr 1
  have e : (List.range xs.size).filterMap (fun (m : Nat) => xs[(((xs.size : Nat) : Int) - 1 + (m : Int) * -1).toNat]?) = ((List.range xs.size).map fun k => xs.size - 1 - k).filterMap (xs[·]?) := by
    rw [List.filterMap_map]
    refine pick_alike _ fun m hm => ?_
    have := List.mem_range.mp hm
    show xs[(((xs.size : Nat) : Int) - 1 + (m : Int) * -1).toNat]? = xs[xs.size - 1 - m]?
    rw [show (((xs.size : Nat) : Int) - 1 + (m : Int) * -1).toNat = xs.size - 1 - m by omega]
  rw [e, PySem.W.krv_range, List.filterMap_reverse, PySem.W.krv_all]
theorem item_back {prog : Program} {w : World} {A : Around} {E : Value → Shared → Prop} {s : Shared} {t sl : Addr} {items : Array Value} {vk : Value} {Q : Value → Shared → Prop} (ht : IsTup s.heap t items) (hs : s.heap.IsSliceOf sl .none .none vk) (pk : IsPart vk (some (-1)))
    (h : Q (.ref s.heap.objs.size) { s with heap := s.heap.push { cls := .type "tuple", data := .seq items.toList.reverse.toArray } }) (hsz : items.size ≤ sizeLine) : wpAny (model prog w) A (getItem (.ref t) (.ref sl)) Q E s := by
  have room : sizeOk (.seq items.toList.reverse.toArray) := by
    show items.toList.reverse.toArray.size ≤ sizeLine
    rw [List.size_toArray, List.length_reverse, Array.length_toList]
    exact hsz
  obtain ⟨os, hos, hcs, _⟩ := id hs
  have isl : s.TypeIs (.ref sl) "slice" := ⟨os, hos, hcs⟩
  unfold getItem
  try with_reducible refine wpAny_holding ?_
  first | refine wpAny_bind (wpAny_pure ?_) | skip
  refine wpAny_bind (wpAny_sequenceKey ht.typeIs (by decide) (wpAny_bind ?_))
  refine wpAny_callSpecial?_slot (name := Str.ofString "__getitem__") ht.typeIs PyProof.Rows.slot_tuple_getitem
    (wpAny_call_entry PyProof.Rows.slot_tuple_getitem ht.typeIs entry_tuple_getitem ?_ (args_tuple_getitem _ _))
  show wpAny _ _ (Builtin.Tuple.tupleItemsOf (.ref t) >>= _) _ _ s
  refine wpAny_bind (tupleItemsOf_ ht (wpAny_bind (wpAny_typeOf isl ?_)))
  rw [if_pos (by decide)]
  refine wpAny_bind (applied_back hs pk ?_)
  have no : ¬ ((((items.size : Nat) : Int) - 1 == 0 && (-1 : Int) == 1 && items.size == items.size) = true) := by
    intro q
    rw [Bool.and_eq_true, Bool.and_eq_true] at q
    exact absurd q.1.2 (by decide)
  show wpAny _ _ (if (((items.size : Nat) : Int) - 1 == 0 && (-1 : Int) == 1 && items.size == items.size) = true then _ else _) _ _ s
  rw [if_neg no, pick_back]
  first
    | exact wpAny_bind (m := Builtin.Tuple.tupleExact _) (wpAny_newObj_type (wpAny_pure ⟨_, rfl, wpAny_pure h⟩) room)
    | exact wpAny_bind (wpAny_bind (m := Builtin.Tuple.tupleExact _) (wpAny_newObj_type (wpAny_pure (wpAny_pure ⟨_, rfl, wpAny_pure h⟩)) room))
    | exact wpAny_bind (wpAny_bind (m := Builtin.Tuple.tupleExact _) (wpAny_newObj_type (wpAny_pure ⟨_, rfl, wpAny_pure h⟩) room))
theorem pe_revT {X : Cx} {e : Expr} {te : TE} {k : Nat} {p1 p2 p3 pos : Pos} (he : PE X e te) : PE X (.Subscript e (.Slice none none (some (.UnaryOp .USub (.Constant (.int 1) k p1) p2)) p3) pos) (tRevT X.K te) := by
  refine ⟨fun pins s σ H Q I h => Subscript_ (thn (he.run pins s σ H _ I h) fun v s1 ⟨x, H1, I1, r1, q1⟩ => ?_)⟩
  obtain ⟨a, xs, ex, hx, q⟩ := q1
  subst ex
  cases r1
  have step : PO X (some (.UnaryOp .USub (.Constant (.int 1) k p1) p2)) (tPart (tUn (rU fun i => .int (-i)) (tC (.int 1)))) := po_some (pe_un un_neg pe_int)
  refine wpAny_Slice (thn (po_none.run pins s1 σ H1 (fun o H2 => o = none ∧ H2 = H1) I1 ⟨rfl, rfl⟩) fun vl s2 ⟨l, H2, I2, pl, el, e2⟩ => ?_)
  subst el e2
  refine thn (po_none.run pins s2 σ H2 (fun o H3 => o = none ∧ H3 = H2) I2 ⟨rfl, rfl⟩) fun vu s3 ⟨u, H3, I3, pu, eu, e3⟩ => ?_
  subst eu e3
  refine thn (step.run pins s3 σ H3 (fun o H4 => o = some (-1) ∧ H4 = H3) I3 ⟨1, rfl, -1, rfl, rfl, rfl⟩) fun vs s4 ⟨o, H4, I4, ps, eo, e4⟩ => ?_
  subst eo e4
  cases pl
  cases pu
  have I5 : Inv X pins σ H4 { s4 with heap := s4.heap.push { cls := .type "slice", data := .fields #[.none, .none, vs] } } := I4.kept (t' := s4.toks) fun b ob q => Heap.get?_push_of_some _ q
  obtain ⟨its, r, ht, hz⟩ := I5.tuple hx
  have len := r.length
  show wpAny (model X.prog X.w) X.A (subscriptTail e (.Slice none none (some (.UnaryOp .USub (.Constant (.int 1) k p1) p2)) p3) (.ref a) (.ref s4.heap.objs.size)) (EP X pins σ Q) X.xe { s4 with heap := s4.heap.push { cls := .type "slice", data := .fields #[.none, .none, vs] } }
  refine tail_any (ops := [.ref a, .ref s4.heap.objs.size]) ht.typeIs (PyProof.Rows.slot_tuple_getitem.lookup) ?_ (by with_unfolding_all rfl)
  refine item_back ht (Heap.IsSliceOf.new _ .none .none vs) ps ?_ (by rw [List.size_toArray]; omega)
  refine ⟨.ref _, _, I5.laid (t' := s4.toks) (o := .tup xs.reverse) (fun b ob q => Heap.get?_push_of_some _ q) (Nat.le_refl _) ?_, rfl, q _ (I5.hok.fresh (Nat.le_refl _))⟩
  exact ⟨by rw [List.length_reverse]; exact hz, _, r.reverse, IsTup.new _ _⟩
theorem ed_revT {K : PySem.W.Frag} {σ : L2.St} {H : Hp} {te : TE} {ds : List PyData} (h : Ed K te σ H (.tuple ds)) : Ed K (tRevT K te) σ H (.tuple ds.reverse) := fun H1 e Q q => h H1 e _ fun v H2 e2 hv => by
  obtain ⟨p, xs, rfl, hs, hd⟩ := L2.Dp.tup_inv hv
  exact ⟨p, xs, rfl, hs, fun l hl => q _ _ (e2.trans (Ex.new hl)) (.tup (Evl.st_of upd_same) (L2.DpAll.mono (Ex.new hl) (L2.DpAll.reverse hd)))⟩
theorem pe_revTK {X : Cx} {K : PySem.W.Frag} (hK : X.K = K) {e : Expr} {te : TE} {k : Nat} {p1 p2 p3 pos : Pos} (he : PE X e te) : PE X (.Subscript e (.Slice none none (some (.UnaryOp .USub (.Constant (.int 1) k p1) p2)) p3) pos) (tRevT K te) := hK ▸ pe_revT he

theorem ext_tup (l : Addr) (items : Array Value) (n : Nat) (b : Addr) (items2 : Array Value) (n2 : Nat) (dd : Option Addr) (sl : Array (Option Value)) (h0 : ¬(!items.isEmpty && Builtin.List.listTooLong (items.size + items2.size)) = true) (h1 : items.size ≤ sizeLine) (h2 : items.size + items2.size ≤ sizeLine + 1) :
    Meets (Builtin.«list.extend» ⟨[.ref l, .ref b], []⟩) (fun _ R s => s.heap.get? l = some { cls := .type "list", dict := none, data := .seq items n, slots := #[] } ∧ s.heap.get? b = some { cls := .type "tuple", dict := dd, data := .seq items2 n2, slots := sl } ∧
      R (.ok (.ret Value.none)) { s with heap := s.heap.update l (Obj.mapSeq fun x => x ++ items2), toks := s.toks }) :=
  .of_wp fun prog w A R s h => by
    obtain ⟨hp, g, d, tk, os⟩ := s
    obtain ⟨hl, hb, h⟩ := h
    have f1 := PySem.AutoSeq1.idx_int
    have f2 := PySem.AutoSeq1.sub_tuple_tuple
    have f3 := PySem.AutoSeq1.sub_list_list
    have f4 := PySem.AutoSeq1.sub_tuple_list
    have f5 := PySem.AutoSeq1.sub_list_tuple
    have fits : (items ++ items2).size ≤ sizeLine + 1 := by rw [Array.size_append]; exact h2
    wp_walk using (wpAny_updateSeq hl rfl (hz := h1) (_hz' := fits)), wpAny_loadPart' hl, wpAny_loadPart' hb
    exact ⟨_, rfl, h⟩
def rExtendT (K : PySem.W.Frag) : V → List V → Hp → VK → Prop := fun x vs H Q => ∃ l b xs zs, x = .ref l ∧ vs = [.ref b] ∧ H l = some (.lst xs) ∧ SqT K H b zs ∧ xs.length + zs.length ≤ sizeLine ∧ Q .non (upd H l (.lst (xs ++ zs)))
theorem mt_extendT {X : Cx} : MtM X "list.extend" (rExtendT X.K) := by
  intro pins s σ H x vs v us Q I rx rv h
  obtain ⟨l, b, xs, zs, rfl, rfl, hH, hB, hz, q⟩ := h
  cases rx
  obtain ⟨u, rfl, ru⟩ := rv.one
  cases ru
  obtain ⟨z, its, n, r, hl, e⟩ := I.lstM hH
  obtain ⟨its2, r2, ⟨⟨c, dd, dt, sl⟩, ho, hc, n2, hd⟩, hz2⟩ := I.tuple hB
  dsimp only at hc hd
  subst hc hd
  have len := r.length
  have len2 := r2.length
  have fits : its.toArray.size + its2.toArray.size ≤ sizeLine := by rw [List.size_toArray, List.size_toArray]; omega
  have long : ¬ (!its.toArray.isEmpty && Builtin.List.listTooLong (its.toArray.size + its2.toArray.size)) = true := by
    rw [notLongL fits, Bool.and_false]
    exact Bool.false_ne_true
  refine call_meets PySem.F.slot_list_extend ⟨_, e, rfl⟩ PySem.F.entry_list_extend (PySem.F.args_list_extend_2 _ _)
    (ext_tup l its.toArray n b its2.toArray n2 dd sl long (by rw [List.size_toArray]; omega) (by omega)) ⟨e, ho, ?_⟩
  refine ⟨.non, _, I.lset (its' := its ++ its2) hH e (by simp) (r.append r2) (by rw [List.length_append]; omega), rfl, q⟩
section
variable {K : PySem.W.Frag} {σ : L2.St} {H : Hp} {ta te : TE} {tz : TS} {D : Ends} {ds : List PyData} {p : Addr} {xs : List V}
theorem s_extT (ho : Eg K ta σ H (.v (.ref p))) (hp : H p = some (.lst xs)) (h : Ed K te σ H (.tuple ds)) (hz : xs.length + ds.length ≤ 1000000)
    (k : ∀ zs H1, Ex H H1 → DpAll K H1 zs ds → D.nx σ (upd H1 p (.lst (xs ++ zs)))) : tDrop (tBM K "list" (rExtendT K) ta (tCons te tNil)) D σ H := ho H (Ex.refl H) _ fun v H1 e1 hv => by
  cases hv
  refine ⟨Or.inl ⟨rfl, xs, Evl.sq_of (e1 p _ hp)⟩, h H1 e1 _ fun w H2 e2 r => ?_⟩
  obtain ⟨b, zs, rfl, hs, hd⟩ := L2.Dp.tup_inv r
  exact ⟨p, b, xs, zs, rfl, rfl, e2 p _ (e1 p _ hp), hs, by rw [L2.DpAll.length hd, sizeLine_eq]; omega, k zs H2 (e1.trans e2) hd⟩
theorem q_extT (ho : Eg K ta σ H (.v (.ref p))) (hp : H p = some (.lst xs)) (h : Ed K te σ H (.tuple ds)) (hz : xs.length + ds.length ≤ 1000000)
    (k : ∀ zs H1, Ex H H1 → DpAll K H1 zs ds → tz D σ (upd H1 p (.lst (xs ++ zs)))) : tSeq (tDrop (tBM K "list" (rExtendT K) ta (tCons te tNil))) tz D σ H := s_extT (D := { D with nx := tz D }) ho hp h hz k
end


def metN (ns : List Int) : Nat := (firstMet (fun i => ns.getD i 0) ns.length).length
def tLenSet (K : PySem.W.Frag) (ta : TE) : TE := fun σ H Q => ta σ H fun x H1 => ∃ (l : Addr) (ns : List Int), x = .ref l ∧ SqL K H1 l (ns.map V.int) ∧ ns.length ≤ 4000 ∧ Q (.int (metN ns : Nat)) H1
theorem ints_vals : ∀ {ns : List Int} {us : List Value}, Vals (ns.map V.int) us → PyProof.Rows.IntsAre us ns
  | [], _, .nil => .nil
  | n :: ns, _, .cons r t => by
    obtain ⟨k, rfl⟩ := r
    exact .cons n k (ints_vals t)
theorem pe_lenSet {X : Cx} {a : Expr} {ta : TE} {p p2 q pos : Pos} (hg : Gl X "len") (hm : X.mg "len" = none) (hg2 : Gl X "set") (hm2 : X.mg "set" = none) (ha : PE X a ta) (hc : X.calm = true := by rfl)
    (na : starEach [a] X.env = (false, eval a X.env) :: starEach [] X.env := by rfl) : PE X (.Call (.Name "len" p) [.Call (.Name "set" p2) [a] [] q] [] pos) (tLenSet X.K ta) := by
  refine ⟨fun pins s σ H Q I h => Call_ (ld_blt I hg hm boot_len ?_)⟩
  refine PyProof.Rows.callWith_builtin1 (PyProof.Rows.args_cons (Call_ (ld_blt I hg2 hm2 boot_set ?_)) rfl) rfl rfl
  refine PyProof.Rows.callWith_type1 (PyProof.Rows.args_cons (thn (ha.run pins s σ H _ I h) fun v s1 ⟨x, H1, I1, r1, q1⟩ => PyProof.Rows.args_nil ?_) na) na rfl
  obtain ⟨l, ns, rfl, hq, hl, q1⟩ := q1
  cases r1
  obtain ⟨its, r, pl, hz⟩ := I1.list hq
  have len : its.toArray.size = ns.length := by rw [List.size_toArray, ← r.length, List.length_map]
  refine call_set_list (I1.ok.hd hc) pl.isList (by simpa using ints_vals r) (by rw [len]; unfold scanBound; omega) fun h' tk hS hk => PyProof.Rows.args_nil ?_
  rw [len] at hS
  obtain ⟨o, es, ep, t, ho, hex, hd, _, _, _, hf, hn⟩ := hS
  have I2 : Inv X pins σ H1 { s1 with heap := h', toks := tk } := I1.kept fun b o e => hk b o (Heap.lt_size e) e
  have few : metN ns ≤ 4000 := Nat.le_trans (by unfold metN; exact firstMet_length_le _ _) hl
  exact call_len_set ho hex hd hf (by rw [hn] <;> (unfold metN at few; omega)) ⟨.int (metN ns : Nat), H1, I2.tok _, ⟨_, by rw [hn]; rfl⟩, q1⟩
theorem ei_lenSet {K : PySem.W.Frag} {σ : L2.St} {H : Hp} {te : TE} {ns : List Int} (h : Ed K te σ H (.list (ns.map .int))) (hl : ns.length ≤ 4000) : Ei K (tLenSet K te) σ H (metN ns : Nat) := fun H1 e Q q => h H1 e _ fun v H2 e2 hv => by
  obtain ⟨p, xs, rfl, hs, hd⟩ := L2.Dp.list_inv hv
  rw [L2.DpAll.of_ints hd] at hs
  exact ⟨p, ns, rfl, hs, hl, q _ H2 e2 (.int _)⟩
theorem dedup_len : ∀ (ns acc : List Int), (ns.foldl step_dedup acc).length ≤ acc.length + ns.length ∧ ((ns.foldl step_dedup acc).length = acc.length + ns.length ↔ ns.Nodup ∧ ∀ x ∈ ns, x ∉ acc)
  | [], acc => by simp
  | x :: ns, acc => by
    rw [List.foldl_cons, List.length_cons]
    unfold step_dedup
    by_cases h : acc.any (· == x) = true
    · rw [if_pos h]
      have ih := dedup_len ns acc
      have hx : x ∈ acc := by
        obtain ⟨y, hy, e⟩ := List.any_eq_true.mp h
        rw [← eq_of_beq e]
        exact hy
      unfold step_dedup at ih
      exact ⟨by omega, fun z => by omega, fun z => absurd hx (z.2 x List.mem_cons_self)⟩
    · rw [if_neg h]
      have ih := dedup_len ns (acc ++ [x])
      have hx : x ∉ acc := fun z => h (List.any_eq_true.mpr ⟨x, z, by simp⟩)
      rw [List.length_append, List.length_singleton] at ih
      unfold step_dedup at ih
      refine ⟨by omega, fun z => ?_, fun z => ?_⟩
      · obtain ⟨n1, n2⟩ := ih.2.mp (by omega)
        refine ⟨List.nodup_cons.mpr ⟨fun q => n2 x q (by simp), n1⟩, fun y hy => ?_⟩
        rcases List.mem_cons.mp hy with rfl | hy
        · exact hx
        · exact fun q => n2 y hy (by simp [q])
      · have n := List.nodup_cons.mp z.1
        have := ih.2.mpr ⟨n.2, fun y hy q => by
          rcases List.mem_append.mp q with q | q
          · exact z.2 y (List.mem_cons_of_mem _ hy) q
          · rw [List.mem_singleton] at q
            subst q
            exact n.1 hy⟩
        omega
theorem metN_eq {ns : List Int} : metN ns = ns.length ↔ ns.Nodup := by
  have e : (List.range ns.length).map (fun i => ns.getD i 0) = ns := by
    apply List.ext_getElem
    · simp
    · intro i h1 h2
      simp [List.getD_eq_getElem?_getD, List.getElem?_eq_getElem h2]
  unfold metN firstMet
  rw [e]
  have := (dedup_len ns []).2
  simpa using this
end Sm

namespace Sm
open PySem L2 Evl Al
section
variable {K : Kw} {co : Co} {E : L2.St → XK} {w w1 w2 w3 : Bool} {te ta tb tc : TE} {tr : TA} {tt : TT} {ts tu : TS} {F G : Env → Out} {f fa fb fc : Env → R D} {fr fn : Env → R (List D)} {t : Env → R Bool} {d : D} {i j : Nat} {v : V}

theorem se_revT (h : SimE K co E w ta fa) : SimE K co E w (tRevT K ta) (x1 dRevT fa) := fun ρ own σ H R Q q => by
  refine h ρ own σ H R _ ((q.bind).mono (fun a _ q2 x H1 e1 hx => ?_) fun _ _ z => z)
  obtain ⟨d, hg, k⟩ := q2.of
  cases hx with
  | tup h a =>
    cases hg
    refine ⟨_, _, rfl, ex_t msk_le h, fun p hp => k _ _ (e1.trans (Ex.new hp)) (.tup (st_of ?_) (a.reverse.mono (msk_ex (Ex.new hp))))⟩
    rw [msk_at (fun z => (sw_mut (R.up e1) w p z).ne hp)]
    exact upd_same
  | _ => cases hg
def dLenSet : D → Option D
  | .list xs => (intsD xs).bind fun ns => if ns.length ≤ 4000 then some (.int (metN ns : Nat)) else none
  | _ => none
theorem se_lenSet (h : SimE K co E w1 ta fa) : SimE K co E w (tLenSet K ta) (x1 dLenSet fa) := fun ρ own σ H R Q q => by
  refine h ρ own σ H R _ ((q.bind).mono (fun a _ q2 x H1 e1 hx => ?_) fun _ _ z => z)
  obtain ⟨d, hg, k⟩ := q2.of
  cases dr_full hx with
  | lst h a =>
    obtain ⟨ns, hb, hg⟩ := Option.bind_eq_some_iff.mp hg
    split at hg
    · cases hg
      rename_i hl
      rw [ints_of a hb] at h
      exact ⟨_, ns, rfl, sq_of h, hl, k _ H1 e1 (.int _)⟩
    · cases hg
  | _ => cases hg
def rExtU (K : PySem.W.Frag) : V → List V → Hp → VK → Prop := fun x vs H Q => rExtend x vs H Q ∨ rExtendT K x vs H Q
theorem mt_extU {X : Cx} {K : PySem.W.Frag} (h : X.K = K) : MtM X "list.extend" (rExtU K) := fun pins s σ H x xs v us Q I rx rv q => by
  subst h
  rcases q with q | q
  · exact mt_extend pins s σ H x xs v us Q I rx rv q
  · exact mt_extendT pins s σ H x xs v us Q I rx rv q
def gExt (xs : List D) (d : D) : Option (List D) := (itemsD d).bind fun ys => if xs.length + ys.length ≤ 1000000 then some (xs ++ ys) else none
theorem ss_ext (h : SimE K co E false te f) : SimS K co E (tDrop (tBM K "list" (rExtU K) (tVar i) (tCons te tNil))) (xOnM i f gExt) := fun ρ own σ H R Dn q => by
  obtain ⟨p, vs, xs, e, h1, h2, h3, h4, q⟩ := onM R q
  refine ⟨_, h1, Or.inl ⟨rfl, vs, sq_of h3⟩, h ρ own σ H R _ (out_of R q fun y _ k v H2 e2 hv => ?_)⟩
  cases eg : gExt xs y with
  | none => simp only [eg] at k; exact k.elim
  | some z =>
    simp only [eg] at k
    unfold gExt at eg
    obtain ⟨ys, h5, h6⟩ := Option.bind_eq_some_iff.mp eg
    split at h6
    · cases h6
      rename_i hl
      have h4 := h4.mono (msk_ex e2)
      cases hv with
      | lst hh ha =>
        cases h5
        exact .inl ⟨p, _, vs, _, rfl, rfl, e2 _ _ h3, (msk_some hh).2, szm (by rw [h4.length, ha.length]; exact hl), k _ _ _ ((R.up e2).putM h1 h2 (h4.append ha))⟩
      | tup hh ha =>
        cases h5
        exact .inr ⟨p, _, vs, _, rfl, rfl, e2 _ _ h3, ex_t msk_le hh, szm (by rw [h4.length, ha.length]; exact hl), k _ _ _ ((R.up e2).putM h1 h2 (h4.append ha))⟩
      | _ => cases h5
    · cases h6

def ParR (K : Kw) (T : Addr → Prop) (H H2 : Hp) : List V → List Sv → List Addr → Prop
  | [], [], [] => True
  | v :: vs, .d x :: ss, ps => Dr K (msk T H2) v x ∧ ParR K T H H2 vs ss ps
  | v :: vs, .m xs :: ss, p :: ps => v = .ref p ∧ H p = none ∧ T p ∧ p ∉ ps ∧ (∃ us, H2 p = some (.lst us) ∧ DrA K (msk T H2) us xs) ∧ ParR K T H H2 vs ss ps
  | _, _, _ => False
def SimP (K : Kw) (co : Co) (E : L2.St → XK) (ta : TA) (fp : Env → R (List Sv)) : Prop := ∀ ρ own σ H, Rs K co ρ own σ H → ∀ Q : List V → Hp → Prop,
  Pst (fp ρ) (fun ss => ∀ vs (T : Addr → Prop) ps H2, Ex H H2 → (∀ a, Sx co own a → T a) → (∀ a, T a → Mut H2 a) → (∀ a, T a → Sx co own a ∨ H a = none) → ParR K T H H2 vs ss ps → Q vs H2) (ErrS K E σ H) → ta σ H Q
def pNil : Env → R (List Sv) := fun _ => .ok []
def pE (f : Env → R D) (r : Env → R (List Sv)) : Env → R (List Sv) := fun ρ => (f ρ).bind fun d => (r ρ).bind fun ss => .ok (.d d :: ss)
def pN (f : Env → R (List D)) (r : Env → R (List Sv)) : Env → R (List Sv) := fun ρ => (f ρ).bind fun d => (r ρ).bind fun ss => .ok (.m d :: ss)
theorem ParR.back {T : Addr → Prop} {H H1 H2 : Hp} (e : Ex H H1) : ∀ {vs : List V} {ss : List Sv} {ps : List Addr}, ParR K T H1 H2 vs ss ps → ParR K T H H2 vs ss ps
  | [], [], [], _ => trivial
  | _ :: _, .d _ :: _, _, h => ⟨h.1, ParR.back e h.2⟩
  | _ :: _, .m _ :: _, _ :: _, h => ⟨h.1, fresh_back e h.2.1, h.2.2.1, h.2.2.2.1, h.2.2.2.2.1, ParR.back e h.2.2.2.2.2⟩
  | [], [], _ :: _, h => h.elim
  | [], _ :: _, _, h => h.elim
  | _ :: _, [], _, h => h.elim
  | _ :: _, .m _ :: _, [], h => h.elim
  | _ :: _, .no :: _, _, h => h.elim
  | _ :: _, .a _ :: _, _, h => h.elim
  | _ :: _, .o _ _ _ :: _, _, h => h.elim
  | _ :: _, .x _ :: _, _, h => h.elim
  | _ :: _, .k _ _ :: _, _, h => h.elim
  | _ :: _, .t _ _ :: _, _, h => h.elim
  | _ :: _, .z _ _ :: _, _, h => h.elim
theorem ParR.new {T : Addr → Prop} {H H2 : Hp} : ∀ {vs : List V} {ss : List Sv} {ps : List Addr}, ParR K T H H2 vs ss ps → ∀ p ∈ ps, H p = none
  | [], [], [], _, _, h => by cases h
  | _ :: _, .d _ :: _, _, h, p, hp => ParR.new h.2 p hp
  | _ :: _, .m _ :: _, q :: _, h, p, hp => by
    rcases List.mem_cons.mp hp with rfl | hp
    · exact h.2.1
    · exact ParR.new h.2.2.2.2.2 p hp
  | [], [], _ :: _, h, _, _ => h.elim
  | [], _ :: _, _, h, _, _ => h.elim
  | _ :: _, [], _, h, _, _ => h.elim
  | _ :: _, .m _ :: _, [], h, _, _ => h.elim
  | _ :: _, .no :: _, _, h, _, _ => h.elim
  | _ :: _, .a _ :: _, _, h, _, _ => h.elim
  | _ :: _, .o _ _ _ :: _, _, h, _, _ => h.elim
  | _ :: _, .x _ :: _, _, h, _, _ => h.elim
  | _ :: _, .k _ _ :: _, _, h, _, _ => h.elim
  | _ :: _, .t _ _ :: _, _, h, _, _ => h.elim
  | _ :: _, .z _ _ :: _, _, h, _, _ => h.elim
theorem sp_nil : SimP K co E tNil pNil := fun ρ own σ H R Q q => q [] (Sx co own) [] H (Ex.refl H) (fun _ z => z) R.mut (fun _ z => .inl z) trivial
theorem sp_e {fp : Env → R (List Sv)} (h : SimE K co E false te f) (hr : SimP K co E tr fp) : SimP K co E (tCons te tr) (pE f fp) := fun ρ own σ H R Q q => by
  refine h ρ own σ H R _ ((q.bind).mono (fun a _ q2 x H1 e1 hx => ?_) fun _ _ z => z)
  refine hr ρ own σ H1 (R.up e1) _ ((q2.bind).mono (fun ss _ q3 vs T ps H2 e2 h1 h2 h3 hp => ?_) fun c _ z => z.mono e1)
  refine q3 (x :: vs) T ps H2 (e1.trans e2) h1 h2 (fun a z => ?_) ⟨hx.mono (msk_to e2 h3), hp.back e1⟩
  rcases h3 a z with y | y
  · exact .inl y
  · exact .inr (fresh_back e1 y)
theorem sp_n {fp : Env → R (List Sv)} (h : SimN K co E te fn) (hr : ∀ p, SimP K (co_up co p) E tr fp) : SimP K co E (tCons te tr) (pN fn fp) := fun ρ own σ H R Q q => by
  refine h ρ own σ H R _ ((q.bind).mono (fun a _ q2 p us H1 hp e1 hl hd => ?_) fun _ _ z => z)
  refine hr p ρ own σ H1 (R.laid e1 hp (.l hl)) _ ((q2.bind).mono (fun ss _ q3 vs T ps H2 e2 h1 h2 h3 hpr => ?_) fun c _ z => z.mono e1)
  have tp : T p := h1 p (.inl (.inr rfl))
  refine q3 (.ref p :: vs) T (p :: ps) H2 (e1.trans e2) (fun a z => h1 a (by rcases z with z | z; exact .inl (.inl z); exact .inr z)) h2 (fun a z => ?_) ⟨rfl, hp, tp, fun z => ?_, ⟨us, e2 _ _ hl, hd.mono (msk_to e2 fun a z => ?_)⟩, hpr.back e1⟩
  · rcases h3 a z with ((y | y) | y) | y
    · exact .inl (.inl y)
    · subst y; exact .inr hp
    · exact .inl (.inr y)
    · exact .inr (fresh_back e1 y)
  · have := hpr.new p z
    rw [hl] at this
    cases this
  · rcases h3 a z with ((y | y) | y) | y
    · exact .inl (.inl (.inl y))
    · exact .inl (.inr y)
    · exact .inl (.inl (.inr y))
    · exact .inr y
def setAll : List Nat → List Sv → Env → Env
  | i :: is, s :: ss, ρ => setAll is ss (ρ.set i s)
  | _, _, ρ => ρ
def setAllV : List Nat → List V → L2.St → L2.St
  | i :: is, s :: ss, ρ => setAllV is ss (ρ.set i (some s))
  | _, _, ρ => ρ
theorem Rs.less {S : Addr → Prop} {ρ : Env} {own : Own} {σ : L2.St} {H : Hp} (R : Rs K { co with S0 := S } ρ own σ H) (h : ∀ a, co.S0 a → S a) : Rs K co ρ own σ H :=
  ⟨R.len, fun i s z => (R.sl i s z).re rfl (msk_sub fun a y => by rcases y with y | y; exact .inl (h a y); exact .inr y) (fun _ _ _ u => u) (Ex.refl _) rfl ⟨rfl, rfl, rfl, rfl, rfl⟩, R.out, R.new, fun i p z y => R.dis i p z (h p y), R.inj, R.ex, R.ha, fun a z => R.s0 a (h a z)⟩
theorem Rs.claim {S : Addr → Prop} {ρ : Env} {own : Own} {σ : L2.St} {H : Hp} {p : Addr} {vs : List V} {xs : List D} (R : Rs K { co with S0 := S } ρ own σ H) (hi : i < ρ.length) (hS : S p) (h0 : co.H0 p = none) (hl : H p = some (.lst vs)) (hd : DrA K (msk (Sx { co with S0 := S } own) H) vs xs) :
    Rs K { co with S0 := fun a => S a ∧ a ≠ p } (ρ.set i (.m xs)) (oset own i (One p)) (σ.set i (some (.ref p))) H := by
  have sub : ∀ a, Sx { co with S0 := fun a => S a ∧ a ≠ p } (oset own i (One p)) a → Sx { co with S0 := S } own a := fun a z => by
    rcases z with z | ⟨j, z⟩
    · exact .inl z.1
    · by_cases e : j = i
      · subst e; rw [oset_same] at z; cases z; exact .inl hS
      · rw [oset_ne e] at z; exact .inr ⟨j, z⟩
  refine ⟨by rw [List.length_set, List.length_set]; exact R.len, fun j t hj => ?_, fun j hj => ?_, fun j q z => ?_, fun j q z => ?_, fun j k q z y => ?_, R.ex, R.ha, fun a z => R.s0 a z.1⟩
  · by_cases ej : j = i
    · subst ej
      rw [List.getElem?_set_self hi] at hj
      cases hj
      rw [set_join (by rw [← R.len]; exact hi)]
      exact ⟨p, vs, rfl, oset_same, hl, hd.mono (msk_sub sub)⟩
    · rw [get_set_ne ej] at hj
      rw [get_set_ne ej]
      exact (R.sl j t hj).re (oset_ne ej) (msk_sub sub) (fun _ _ _ u => u) (Ex.refl _) rfl ⟨rfl, rfl, rfl, rfl, rfl⟩
  · rw [List.length_set] at hj
    rw [oset_ne (by omega)]
    exact R.out j hj
  · by_cases ej : j = i
    · subst ej; rw [oset_same] at z; cases z; exact h0
    · rw [oset_ne ej] at z; exact R.new j q z
  · by_cases ej : j = i
    · subst ej; rw [oset_same] at z; cases z; exact fun y => y.2 rfl
    · rw [oset_ne ej] at z; exact fun y => R.dis j q z y.1
  · by_cases ej : j = i
    · subst ej
      rw [oset_same] at z; cases z
      by_cases ek : k = j
      · exact ek.symm
      · rw [oset_ne ek] at y; exact absurd hS (R.dis k _ y)
    · rw [oset_ne ej] at z
      by_cases ek : k = i
      · subst ek; rw [oset_same] at y; cases y; exact absurd hS (R.dis j _ z)
      · rw [oset_ne ek] at y; exact R.inj j k q z y
theorem Rs.all {T : Addr → Prop} {H Hq : Hp} (e0 : Ex co.H0 H) : ∀ {is : List Nat} {vs : List V} {ss : List Sv} {ps : List Addr} {S : Addr → Prop} {ρ : Env} {own : Own} {σ : L2.St}, Rs K { co with S0 := S } ρ own σ Hq → (∀ a, Sx { co with S0 := S } own a → T a) → (∀ a, co.S0 a → S a) → (∀ p ∈ ps, S p) → (∀ i ∈ is, i < ρ.length) → ParR K T H Hq vs ss ps → (∀ p ∈ ps, ¬ co.S0 p) →
    ∃ own', Rs K co (setAll is ss ρ) own' (setAllV is vs σ) Hq
  | [], _, _, _, S, ρ, own, σ, R, _, h, _, _, _, _ => ⟨own, by
    have := R.less h
    unfold setAll setAllV
    exact this⟩
  | i :: is, [], [], [], S, ρ, own, σ, R, _, h, _, _, _, _ => ⟨own, by
    have := R.less h
    unfold setAll setAllV
    exact this⟩
  | i :: is, v :: vs, .d x :: ss, ps, S, ρ, own, σ, R, hT, h, hps, hi, hp, hn => by
    have R2 := R.setD (i := i) (hp.1.mono (msk_sub hT))
    exact Rs.all e0 (is := is) R2 (fun a z => hT a (sx_less _ own i a z)) h hps (fun j hj => by rw [List.length_set]; exact hi j (by simp [hj])) hp.2 hn
  | i :: is, v :: vs, .m xs :: ss, p :: ps, S, ρ, own, σ, R, hT, h, hps, hi, hp, hn => by
    obtain ⟨rfl, h1, h2, h3, ⟨us, h4, h5⟩, h6⟩ := hp
    have R2 := R.claim (hi i (by simp)) (hps p (by simp)) (fresh_back e0 h1) h4 (h5.mono (msk_sub hT))
    refine Rs.all e0 (is := is) (S := fun a => S a ∧ a ≠ p) R2 (fun a z => ?_) (fun a z => ⟨h a z, fun y => hn p (by simp) (y ▸ z)⟩) (fun q hq => ⟨hps q (by simp [hq]), fun y => h3 (y ▸ hq)⟩) (fun j hj => by rw [List.length_set]; exact hi j (by simp [hj])) h6 (fun q hq => hn q (by simp [hq]))
    rcases z with z | ⟨j, z⟩
    · exact hT a (.inl z.1)
    · by_cases ej : j = i
      · subst ej; rw [oset_same] at z; cases z; exact h2
      · rw [oset_ne ej] at z; exact hT a (.inr ⟨j, z⟩)
  | _ :: _, [], [], _ :: _, _, _, _, _, _, _, _, _, _, h, _ => h.elim
  | _ :: _, [], _ :: _, _, _, _, _, _, _, _, _, _, _, h, _ => h.elim
  | _ :: _, _ :: _, [], _, _, _, _, _, _, _, _, _, _, h, _ => h.elim
  | _ :: _, _ :: _, .m _ :: _, [], _, _, _, _, _, _, _, _, _, h, _ => h.elim
  | _ :: _, _ :: _, .no :: _, _, _, _, _, _, _, _, _, _, _, h, _ => h.elim
  | _ :: _, _ :: _, .a _ :: _, _, _, _, _, _, _, _, _, _, _, h, _ => h.elim
  | _ :: _, _ :: _, .o _ _ _ :: _, _, _, _, _, _, _, _, _, _, _, h, _ => h.elim
  | _ :: _, _ :: _, .x _ :: _, _, _, _, _, _, _, _, _, _, _, h, _ => h.elim
def xOutP (f : Env → R (List Sv)) (k : List Sv → Env → Out) : Env → Out := fun ρ => match f ρ with
  | .ok d => k d ρ
  | .er c => .er c ρ
  | .st => .st
def xPar (is : List Nat) (fp : Env → R (List Sv)) : Env → Out := xOutP fp fun ss ρ => if ss.length = is.length ∧ is.all (fun i => decide (i < ρ.length)) = true then .nx (setAll is ss ρ) else .st
theorem ParR.len {T : Addr → Prop} {H H2 : Hp} : ∀ {vs : List V} {ss : List Sv} {ps : List Addr}, ParR K T H H2 vs ss ps → vs.length = ss.length
  | [], [], [], _ => rfl
  | _ :: _, .d _ :: _, _, h => by simp [ParR.len h.2]
  | _ :: _, .m _ :: _, _ :: _, h => by simp [ParR.len h.2.2.2.2.2]
  | [], [], _ :: _, h => h.elim
  | [], _ :: _, _, h => h.elim
  | _ :: _, [], _, h => h.elim
  | _ :: _, .m _ :: _, [], h => h.elim
  | _ :: _, .no :: _, _, h => h.elim
  | _ :: _, .a _ :: _, _, h => h.elim
  | _ :: _, .o _ _ _ :: _, _, h => h.elim
  | _ :: _, .x _ :: _, _, h => h.elim
  | _ :: _, .k _ _ :: _, _, h => h.elim
  | _ :: _, .t _ _ :: _, _, h => h.elim
  | _ :: _, .z _ _ :: _, _, h => h.elim
theorem ParR.inT {T : Addr → Prop} {H H2 : Hp} : ∀ {vs : List V} {ss : List Sv} {ps : List Addr}, ParR K T H H2 vs ss ps → ∀ p ∈ ps, T p
  | [], [], [], _, _, h => by cases h
  | _ :: _, .d _ :: _, _, h, p, hp => ParR.inT h.2 p hp
  | _ :: _, .m _ :: _, q :: _, h, p, hp => by
    rcases List.mem_cons.mp hp with rfl | hp
    · exact h.2.2.1
    · exact ParR.inT h.2.2.2.2.2 p hp
  | [], [], _ :: _, h, _, _ => h.elim
  | [], _ :: _, _, h, _, _ => h.elim
  | _ :: _, [], _, h, _, _ => h.elim
  | _ :: _, .m _ :: _, [], h, _, _ => h.elim
  | _ :: _, .no :: _, _, h, _, _ => h.elim
  | _ :: _, .a _ :: _, _, h, _, _ => h.elim
  | _ :: _, .o _ _ _ :: _, _, h, _, _ => h.elim
  | _ :: _, .x _ :: _, _, h, _, _ => h.elim
  | _ :: _, .k _ _ :: _, _, h, _, _ => h.elim
  | _ :: _, .t _ _ :: _, _, h, _, _ => h.elim
  | _ :: _, .z _ _ :: _, _, h, _, _ => h.elim

theorem par_end {T : Addr → Prop} {ρ : Env} {own : Own} {σ : L2.St} {H H2 : Hp} {vs : List V} {ss : List Sv} {ps : List Addr} {is : List Nat} (R : Rs K co ρ own σ H) (e : Ex H H2) (h1 : ∀ a, Sx co own a → T a) (h2 : ∀ a, T a → Mut H2 a) (h3 : ∀ a, T a → Sx co own a ∨ H a = none) (hp : ParR K T H H2 vs ss ps) (hi : ∀ i ∈ is, i < ρ.length) :
    ∃ own', Rs K co (setAll is ss ρ) own' (setAllV is vs σ) H2 := by
  have sxT : ∀ a, Sx { co with S0 := fun a => T a ∧ ¬ Ow own a } own a → T a := fun a z => by
    rcases z with z | z
    · exact z.1
    · exact h1 a (.inr z)
  have RT : Rs K { co with S0 := fun a => T a ∧ ¬ Ow own a } ρ own σ H2 :=
    ⟨R.len, fun i s z => (R.sl i s z).re rfl (msk_to e fun a y => h3 a (sxT a y)) (fun _ _ u hu => e _ _ hu) (Ex.refl _) rfl ⟨rfl, rfl, rfl, rfl, rfl⟩, R.out, R.new, fun i p z y => y.2 ⟨i, z⟩, R.inj, R.ex.trans e, R.ha, fun a z => h2 a z.1⟩
  refine Rs.all (T := T) (H := H) R.ex RT sxT (fun a z => ⟨h1 a (.inl z), fun y => ?_⟩) (fun p hq => ⟨hp.inT p hq, fun y => ?_⟩) hi hp (fun p hq z => ?_)
  · obtain ⟨n, hn⟩ := y
    exact R.dis n a hn z
  · obtain ⟨n, hn⟩ := y
    exact (R.mutO hn).ne (hp.new p hq)
  · exact (R.s0 p z).ne (hp.new p hq)
theorem outP_of {fp : Env → R (List Sv)} {ρ : Env} {own : Own} {σ : L2.St} {H : Hp} {Dn : Ends} {k : List Sv → Env → Out} {Kp : List Sv → Prop} (R : Rs K co ρ own σ H) (q : OP K co E Dn (xOutP fp k ρ)) (h : ∀ d, fp ρ = .ok d → OP K co E Dn (k d ρ) → Kp d) : Pst (fp ρ) Kp (ErrS K E σ H) := by
  unfold xOutP at q
  cases e : fp ρ with
  | ok d => rw [e] at q; exact h d e q
  | er c => rw [e] at q; exact fun H2 e2 => q own σ H2 (R.up e2)
  | st => rw [e] at q; exact q
theorem ss_par {fp : Env → R (List Sv)} (h : SimP K co E (tCons ta (tCons tb tNil)) fp) : SimS K co E (tPar i j (tCons ta (tCons tb tNil))) (xPar [i, j] fp) := fun ρ own σ H R Dn q => by
  refine h ρ own σ H R _ (outP_of R q fun ss _ k vs T ps H2 e h1 h2 h3 hp => ?_)
  split at k
  · rename_i hc
    obtain ⟨hl, hi⟩ := hc
    have hv := hp.len
    rw [hl] at hv
    match vs, hv with
    | [v, w], _ =>
      obtain ⟨o', R'⟩ := par_end (is := [i, j]) R e h1 h2 h3 hp (fun n hn => by simpa using List.all_eq_true.mp hi n hn)
      exact ⟨v, w, rfl, k o' _ H2 R'⟩
  · exact k.elim

def gNames : List Nat → TGs
  | [] => gNil
  | i :: is => gCons (gName i) (gNames is)
theorem gNames_ok {Q : L2.St → Hp → Prop} {H : Hp} : ∀ {is : List Nat} {vs : List V} {σ : L2.St}, vs.length = is.length → Q (setAllV is vs σ) H → gNames is vs σ H Q
  | [], [], σ, _, q => ⟨rfl, q⟩
  | i :: is, v :: vs, σ, h, q => ⟨v, vs, rfl, gNames_ok (is := is) (vs := vs) (by simpa using h) q⟩
  | [], _ :: _, _, h, _ => by cases h
  | _ :: _, [], _, h, _ => by cases h
theorem ss_parT {fp : Env → R (List Sv)} {is : List Nat} {n : Nat} {tgs : TGs} (h : SimP K co E tr fp) (hg : tgs = gNames is) (hn : n = is.length) (hz0 : is.length ≤ 1000) : SimS K co E (tAsg (tTup tr) (gSeq K n tgs)) (xPar is fp) := fun ρ own σ H R Dn q => by
  subst hg
  have hz : n ≤ 1000 := hn ▸ hz0
  refine h ρ own σ H R _ (outP_of R q fun ss _ k vs T ps H2 e h1 h2 h3 hp => ?_)
  split at k
  · rename_i hc
    obtain ⟨hl, hi⟩ := hc
    have hv := hp.len
    rw [hl] at hv
    refine ⟨szm (by omega), fun p hpn => .inl ⟨p, vs, rfl, st_of upd_same, by omega, gNames_ok hv ?_⟩⟩
    obtain ⟨o', R'⟩ := par_end (is := is) R e h1 h2 h3 hp (fun n hn => by simpa using List.all_eq_true.mp hi n hn)
    exact k o' _ _ (R'.up (Ex.new hpn))
  · exact k.elim

def notX : Sv → Bool
  | .x _ => false
  | _ => true
theorem Rs.xch {a : Addr} {cls : Value} {dd : Option Addr} {ρ : Env} {own : Own} {σ : L2.St} {H : Hp} (R : Rs K co ρ own σ H) (h : ρ.all notX = true) : Rs K { co with xa := a, xc := cls, xd := dd } ρ own σ H := by
  refine ⟨R.len, fun i s z => ?_, R.out, R.new, R.dis, R.inj, R.ex, R.ha, R.s0⟩
  have q := R.sl i s z
  have hx := List.all_eq_true.mp h s (List.mem_of_getElem? z)
  cases s with
  | x c => cases hx
  | _ => exact q
theorem Rs.xch2 {a : Addr} {cls : Value} {dd : Option Addr} {ρ : Env} {own : Own} {σ : L2.St} {H : Hp} (R : Rs K { co with xa := a, xc := cls, xd := dd } ρ own σ H) (h : ρ.all notX = true) : Rs K co ρ own σ H := by
  refine ⟨R.len, fun i s z => ?_, R.out, R.new, R.dis, R.inj, R.ex, R.ha, R.s0⟩
  have q := R.sl i s z
  have hx := List.all_eq_true.mp h s (List.mem_of_getElem? z)
  cases s with
  | x c => cases hx
  | _ => exact q
def aft (i : Nat) : Out → Out
  | .nx ρ => if (ρ.set i .no).all notX = true then .nx (ρ.set i .no) else .st
  | .bk ρ => if (ρ.set i .no).all notX = true then .bk (ρ.set i .no) else .st
  | .ct ρ => if (ρ.set i .no).all notX = true then .ct (ρ.set i .no) else .st
  | .rt d => .rt d
  | .rn d => .rn d
  | .rnT d => .rnT d
  | _ => .st
def xTry (i : Nat) (ok : List Str) (F G : Env → Out) : Env → Out := fun ρ => match F ρ with
  | .er c ρ' => if ok.contains c = true ∧ ρ'.all notX = true ∧ i < ρ'.length then aft i (G (ρ'.set i (.x c))) else .st
  | o => o
theorem ss_try {x : Str} {ok : List Str} {tb : WX → TS} {tsu : Addr → Value → Option Addr → TS} {Wout : WX} (hx : ∀ c ∈ ok, PySem.W.exmOne K (.ref (He.ga K c)) (.ref (He.ga K x)) = some true) (hF : ∀ W : WX, SimS K co (WE W) (tb W) F)
    (hG : ∀ (a : Addr) (cls : Value) (dd : Option Addr), SimS K { co with xa := a, xc := cls, xd := dd } Eno (tsu a cls dd) G) : SimS K co E (fun Dn σ H => tb (wAs K (.ref (He.ga K x)) i tsu Wout Dn) Dn σ H) (xTry i ok F G) := fun ρ own σ H R Dn q => by
  refine hF _ ρ own σ H R Dn ?_
  unfold xTry at q
  cases e : F ρ with
  | er c ρ' =>
    rw [e] at q
    dsimp only at q
    split at q
    · rename_i hc
      obtain ⟨hc, hnx, hil⟩ := hc
      intro own2 σ2 H2 R2
      refine ⟨true, hx c (by simpa using hc), fun _ a ha => ?_, fun z => nomatch z⟩
      have R3 := R2.xch (a := a) (cls := .ref (He.ga K c)) (dd := none) hnx
      have R4 := R3.set (i := i) (v := .ref a) (s := .x c) ⟨oset_same, rfl, rfl, rfl⟩
      refine hG a _ none _ _ _ H2 R4 _ ?_
      have fin : ∀ {ρ'' : Env}, (ρ''.set i Sv.no).all notX = true → ∀ own σ H, Rs K { co with xa := a, xc := .ref (He.ga K c), xd := none } ρ'' own σ H → Rs K co (ρ''.set i .no) (oset own i Z) (σ.set i none) H := fun hh own σ H R => (R.setO (i := i) (o := none)).xch2 hh
      cases eg : G (ρ'.set i (.x c)) with
      | nx ρ'' =>
        rw [eg] at q
        dsimp only [aft] at q
        split at q
        · rename_i hh; exact fun own σ H R => q _ _ H (fin hh own σ H R)
        · exact q.elim
      | bk ρ'' =>
        rw [eg] at q
        dsimp only [aft] at q
        split at q
        · rename_i hh; exact fun own σ H R => q _ _ H (fin hh own σ H R)
        · exact q.elim
      | ct ρ'' =>
        rw [eg] at q
        dsimp only [aft] at q
        split at q
        · rename_i hh; exact fun own σ H R => q _ _ H (fin hh own σ H R)
        · exact q.elim
      | rt d => rw [eg] at q; exact q
      | rn d => rw [eg] at q; exact q
      | rnT d => rw [eg] at q; exact q
      | er c d => rw [eg] at q; exact q.elim
      | st => rw [eg] at q; exact q.elim
    · exact q.elim
  | nx ρ' => rw [e] at q; exact q
  | bk ρ' => rw [e] at q; exact q
  | ct ρ' => rw [e] at q; exact q
  | rt d => rw [e] at q; exact q
  | rn d => rw [e] at q; exact q
  | rnT d => rw [e] at q; exact q
  | st => rw [e] at q; exact q.elim
def xTryO (ok : List Str) (F G : Env → Out) : Env → Out := fun ρ => match F ρ with
  | .er c ρ' => if ok.contains c = true ∧ ρ'.all notX = true then (match G ρ' with
    | .nx ρ => if ρ.all notX = true then .nx ρ else .st
    | .bk ρ => if ρ.all notX = true then .bk ρ else .st
    | .ct ρ => if ρ.all notX = true then .ct ρ else .st
    | .rt d => .rt d
    | .rn d => .rn d
    | .rnT d => .rnT d
    | _ => .st) else .st
  | o => o
theorem ss_tryO {x : Str} {ok : List Str} {tb : WX → TS} {tsu : Addr → Value → Option Addr → TS} {Wout : WX} (hx : ∀ c ∈ ok, PySem.W.exmOne K (.ref (He.ga K c)) (.ref (He.ga K x)) = some true) (hF : ∀ W : WX, SimS K co (WE W) (tb W) F)
    (hG : ∀ (a : Addr) (cls : Value) (dd : Option Addr), SimS K { co with xa := a, xc := cls, xd := dd } Eno (tsu a cls dd) G) : SimS K co E (fun Dn σ H => tb (wOnly K (.ref (He.ga K x)) tsu Wout Dn) Dn σ H) (xTryO ok F G) := fun ρ own σ H R Dn q => by
  refine hF _ ρ own σ H R Dn ?_
  unfold xTryO at q
  cases e : F ρ with
  | er c ρ' =>
    rw [e] at q
    dsimp only at q
    split at q
    · rename_i hc
      obtain ⟨hc, hnx⟩ := hc
      intro own2 σ2 H2 R2
      refine ⟨true, hx c (by simpa using hc), fun _ a ha => ?_, fun z => nomatch z⟩
      have R3 := R2.xch (a := a) (cls := .ref (He.ga K c)) (dd := none) hnx
      refine hG a _ none _ _ _ H2 R3 _ ?_
      cases eg : G ρ' with
      | nx ρ'' =>
        rw [eg] at q
        dsimp only at q
        split at q
        · rename_i hh; exact fun own σ H R => q _ _ H (R.xch2 hh)
        · exact q.elim
      | bk ρ'' =>
        rw [eg] at q
        dsimp only at q
        split at q
        · rename_i hh; exact fun own σ H R => q _ _ H (R.xch2 hh)
        · exact q.elim
      | ct ρ'' =>
        rw [eg] at q
        dsimp only at q
        split at q
        · rename_i hh; exact fun own σ H R => q _ _ H (R.xch2 hh)
        · exact q.elim
      | rt d => rw [eg] at q; exact q
      | rn d => rw [eg] at q; exact q
      | rnT d => rw [eg] at q; exact q
      | er c d => rw [eg] at q; exact q.elim
      | st => rw [eg] at q; exact q.elim
    · exact q.elim
  | nx ρ' => rw [e] at q; exact q
  | bk ρ' => rw [e] at q; exact q
  | ct ρ' => rw [e] at q; exact q
  | rt d => rw [e] at q; exact q
  | rn d => rw [e] at q; exact q
  | rnT d => rw [e] at q; exact q
  | st => rw [e] at q; exact q.elim
end

def zOut : Out → Rz
  | .nx _ => .ok .none
  | .rt d => .ok d
  | .rn xs => .nw xs
  | .rnT t => .nt t
  | .er c _ => .er c
  | _ => .st
def envA : List Bool → List D → Env
  | b :: md, d :: ds => (if b then .d d else .a d) :: envA md ds
  | _, _ => []
def env0 (n : Nat) (md : List Bool) (ds : List D) : Env := envA md ds ++ List.replicate (n - md.length) .no
section
variable {K : Kw} {E : XK} {t : TS} {F : Env → Out} {N : List Str} {md : List Bool}
def coOf (H : Hp) (S : Addr → Prop) : Co := ⟨H, H, S, 0, 0, .none, none, 0, .lst []⟩
theorem rel_sl {co : Co} {own : Own} {H H' : Hp} {S : Addr → Prop} (e : Ex H co.Ha) (e2 : Ex (msk S H) (msk (Sx co own) H')) : ∀ {md : List Bool} {vs : List V} {ds : List D} (p : Nat → Nat), (∀ i, own (p i) = Z) → RelM K S H md vs ds → ∀ i s, (envA md ds)[i]? = some s → SvR K co own (p i) H' ((vs.map some)[i]?).join s
  | [], [], [], _, _, _, i, s, h => by cases h
  | b :: md, v :: vs, d :: ds, p, hp, r, 0, s, h => by
    simp only [envA, List.getElem?_cons_zero, Option.some.injEq] at h
    subst h
    cases b with
    | true => exact ⟨hp 0, v, rfl, r.1.mono e2⟩
    | false =>
      have r1 : Dr K (msk (fun _ => False) H) v d := r.1
      rw [msk_no] at r1
      exact ⟨hp 0, v, rfl, r1.mono e⟩
  | b :: md, v :: vs, d :: ds, p, hp, r, i + 1, s, h => by
    have q := rel_sl (co := co) (own := own) (H := H) (H' := H') e e2 (fun n => p (n + 1)) (fun n => hp (n + 1)) r.2 i s (by simpa [envA] using h)
    cases s <;> exact q
  | [], [], _ :: _, _, _, h, _, _, _ => h.elim
  | [], _ :: _, _, _, _, h, _, _, _ => h.elim
  | _ :: _, [], _, _, _, h, _, _, _ => h.elim
  | _ :: _, _ :: _, [], _, _, h, _, _, _ => h.elim
theorem envA_len : ∀ {md : List Bool} {vs : List V} {ds : List D} {S : Addr → Prop} {H : Hp}, RelM K S H md vs ds → (envA md ds).length = md.length
  | [], [], [], _, _, _ => rfl
  | _ :: _, _ :: _, _ :: _, _, _, h => by simp [envA, envA_len h.2]
  | [], [], _ :: _, _, _, h => h.elim
  | [], _ :: _, _, _, _, h => h.elim
  | _ :: _, [], _, _, _, h => h.elim
  | _ :: _, _ :: _, [], _, _, h => h.elim
theorem of_sim {H : Hp} {vs : List V} {Q : VK} (h : ∀ co, SimS K co (fun _ => E) t F) (hn : md.length ≤ N.length) (hsp : spF K md (fun ds => zOut (F (env0 N.length md ds))) vs H Q E) :
    t { nx := fun _ H' => Q .non H', rt := Q } (L2.start N vs) H := by
  obtain ⟨S, ds, hS, hr, hz⟩ := hsp
  have hl := relm_len hr
  have e2 : Ex (msk S H) (msk (Sx (coOf H S) fun _ => Z) H) := msk_sub fun a z => by
    rcases z with z | ⟨n, z⟩
    · exact z
    · cases z
  have R0 : Rs K (coOf H S) (env0 N.length md ds) (fun _ => Z) (L2.start N vs) H := by
    refine ⟨?_, fun i s hs => ?_, fun _ _ => rfl, (fun _ _ z => by cases z), (fun _ _ z => by cases z), (fun _ _ _ z => by cases z), Ex.refl _, Ex.refl _, hS⟩
    · unfold env0 L2.start
      rw [List.length_append, List.length_append, envA_len hr, List.length_map, List.length_replicate, List.length_replicate, hl.1]
    · unfold env0 at hs
      unfold L2.start
      rcases Nat.lt_or_ge i md.length with hi | hi
      · rw [List.getElem?_append_left (by rw [envA_len hr]; exact hi)] at hs
        rw [List.getElem?_append_left (by rw [List.length_map, hl.1]; exact hi)]
        exact rel_sl (co := coOf H S) (own := fun _ => Z) (H := H) (H' := H) (Ex.refl _) e2 (fun n => n) (fun _ => rfl) hr i s hs
      · rw [List.getElem?_append_right (by rw [envA_len hr]; exact hi)] at hs
        obtain ⟨_, rfl⟩ := List.getElem?_eq_some_iff.mp hs
        rw [List.getElem_replicate]
        rfl
  refine h _ _ _ _ H R0 _ ?_
  have hz : RzP K S H Q E (zOut (F (env0 N.length md ds))) := hz
  cases e : F (env0 N.length md ds) with
  | nx ρ => rw [e] at hz; exact fun own σ H' R => hz .non H' R.ex .non
  | rt d => rw [e] at hz; exact hz
  | rn xs => rw [e] at hz; exact fun p us H' h1 h2 h3 _ h4 => hz p us H' h1 h2 h3 h4
  | rnT t => rw [e] at hz; exact fun v N H' h1 h2 h3 h4 => hz v N H' h1 h2 h4
  | bk ρ => rw [e] at hz; exact hz.elim
  | ct ρ => rw [e] at hz; exact hz.elim
  | er c ρ => rw [e] at hz; exact fun own σ H' R => hz H' R.ex
  | st => rw [e] at hz; exact hz
def zInit : Out → Rz
  | .nx ρ => match (ρ[(0 : Nat)]? : Option Sv) with
    | some (.o c ns ds) => .ok (.obj c ns ds)
    | _ => .st
  | .er c _ => .er c
  | _ => .st
def env0I (c : Str) (n : Nat) (md : List Bool) (ds : List D) : Env := .o c [] [] :: env0 (n - 1) md ds
theorem of_simI {c : Str} {H : Hp} {vs : List V} {Q : VK} (h : ∀ co, SimS K co (fun _ => E) t F) (hn : md.length + 1 ≤ N.length) (hsp : spI K c md (fun ds => zInit (F (env0I c N.length md ds))) vs H Q E) :
    t { nx := fun _ H' => Q .non H', rt := Q } (L2.start N vs) H := by
  obtain ⟨H1, y, dy, us, S, ds, rfl, hy, hd, hne, rfl, hS, hr, hz⟩ := hsp
  have hl := relm_len hr
  have Hd : (upd H1 dy (.own y)) y = none := by rw [upd_ne hne.symm]; exact hy
  let co : Co := ⟨upd H1 dy (.own y), upd H1 dy (.own y), S, y, 0, .none, none, 0, .lst []⟩
  let own : Own := fun i => if i = 0 then One y else Z
  have ns : ¬ S y := fun z => (hS y z).ne hy
  have e2 : Ex (msk S H1) (msk (Sx co own) (upd (upd H1 dy (.own y)) y (.ins (He.ga K c) dy []))) := msk_to ((Ex.new hd).trans (Ex.new Hd)) fun a z => by
    rcases z with z | ⟨n, z⟩
    · exact .inl z
    · by_cases e : n = 0
      · subst e
        have z : One y a := z
        cases z
        exact .inr hy
      · have z : (if n = 0 then One y else Z) a := z
        rw [if_neg e] at z
        cases z
  have R0 : Rs K co (env0I c N.length md ds) own (L2.start N (.ref y :: us)) (upd (upd H1 dy (.own y)) y (.ins (He.ga K c) dy [])) := by
    refine ⟨?_, fun i s hs => ?_, fun i hi => ?_, fun i p z => ?_, fun i p z => ?_, fun i j p z z2 => ?_, Ex.new Hd, Ex.refl _, fun a z => ((hS a z).ex ((Ex.new hd).trans (Ex.new Hd)))⟩
    · unfold env0I env0 L2.start
      rw [List.length_cons, List.length_append, List.length_append, envA_len hr, List.length_map, List.length_replicate, List.length_replicate, List.length_cons, hl.1]
      omega
    · cases i with
      | zero =>
        unfold env0I at hs
        simp only [List.getElem?_cons_zero, Option.some.injEq] at hs
        subst hs
        exact ⟨dy, [], rfl, rfl, upd_same, rfl, .nil⟩
      | succ i =>
        unfold env0I env0 at hs
        rw [List.getElem?_cons_succ] at hs
        unfold L2.start
        rw [List.map_cons, List.cons_append, List.getElem?_cons_succ]
        rcases Nat.lt_or_ge i md.length with hi | hi
        · rw [List.getElem?_append_left (by rw [envA_len hr]; exact hi)] at hs
          rw [List.getElem?_append_left (by rw [List.length_map, hl.1]; exact hi)]
          exact rel_sl (co := co) (own := own) (H := H1) (Ex.new hd) e2 (fun n => n + 1) (fun _ => rfl) hr i s hs
        · rw [List.getElem?_append_right (by rw [envA_len hr]; exact hi)] at hs
          obtain ⟨_, rfl⟩ := List.getElem?_eq_some_iff.mp hs
          rw [List.getElem_replicate]
          rfl
    · unfold env0I at hi
      rw [List.length_cons] at hi
      show (if i = 0 then One y else Z) = Z
      rw [if_neg (by omega)]
    · have z : (if i = 0 then One y else Z) p := z
      split at z
      · cases z; exact Hd
      · cases z
    · have z : (if i = 0 then One y else Z) p := z
      split at z
      · cases z; exact ns
      · cases z
    · have z : (if i = 0 then One y else Z) p := z
      have z2 : (if j = 0 then One y else Z) p := z2
      split at z
      · split at z2
        · omega
        · cases z2
      · cases z
  refine h _ _ _ _ _ R0 _ ?_
  have hz : RzP K S H1 (fun v H2 => v = .ref y → Q .non H2) E (zInit (F (env0I c N.length md ds))) := hz
  cases e : F (env0I c N.length md ds) with
  | nx ρ =>
    rw [e] at hz
    intro own' σ H' R
    unfold zInit at hz
    cases e0 : ρ[0]? with
    | none => simp only [e0] at hz; exact hz.elim
    | some s =>
      simp only [e0] at hz
      cases s with
      | o c' ns' ds' =>
        obtain ⟨dx, us', h1, h2, h3, h4, h5⟩ := R.sl 0 _ e0
        refine hz (.ref y) H' ((Ex.new hd).trans R.ex) (.obj (by rw [msk_at ns]; exact h3) h4 (h5.mono (msk_sub fun a z => .inl z))) rfl
      | _ => exact hz.elim
  | er c' ρ => rw [e] at hz; exact fun own σ H' R => hz H' ((Ex.new hd).trans R.ex)
  | _ => rw [e] at hz; exact hz.elim
end
end Sm

namespace Sm
open PySem L2 Evl Al
section
variable {K : Kw} {co : Co} {E : L2.St → XK} {w w1 w2 w3 : Bool} {te ta tb tc : TE} {tr : TA} {tt : TT} {ts tu : TS} {F G : Env → Out} {f fa fb fc : Env → R D} {fr fn ga gb : Env → R (List D)} {t : Env → R Bool} {d : D} {i j : Nat} {v : V}

def SimV (K : Kw) (co : Co) (E : L2.St → XK) (te : TE) (f : Env → R D) : Prop := ∀ ρ own σ H, Rs K co ρ own σ H → ∀ Q : VK,
  Pst (f ρ) (fun d => ∀ v H2, Ex H H2 → Dr K co.Ha v d → Q v H2) (ErrS K E σ H) → te σ H Q
def xA (i : Nat) : Env → R D := fun ρ => match ρ[i]? with
  | some (.a x) => .ok x
  | _ => .st
theorem SimV.p (h : SimV K co E te f) : SimE K co E true te f := fun ρ own σ H R Q q => h ρ own σ H R Q (q.mono (fun d _ k v H2 e hv => k v H2 e (by
  show Dr K (msk (fun _ => False) H2) v d
  rw [msk_no]
  exact hv.mono ((R.ha.trans R.ex).trans e))) fun _ _ z => z)
theorem sv_var : SimV K co E (tVar i) (xA i) := fun ρ own σ H R Q q => by
  unfold xA at q
  cases e : ρ[i]? with
  | none => rw [e] at q; exact q.elim
  | some s =>
    rw [e] at q
    cases s with
    | a x =>
      obtain ⟨_, v, h1, h2⟩ := R.sl i _ e
      exact ⟨v, join_some h1, q v H (Ex.refl H) h2⟩
    | _ => exact q.elim
theorem sv_fld {cs : List Str} {n : Str} (hc : ∀ c ∈ cs, Cls K (He.ga K c) ∧ NoAttr K (He.ga K c) n) (h : SimV K co E ta fa) : SimV K co E (tFld K ta n) (x1 (dFld cs n) fa) := fun ρ own σ H R Q q => by
  refine h ρ own σ H R _ ((q.bind).mono (fun a _ q2 x H1 e1 hx => ?_) fun _ _ z => z)
  obtain ⟨d, hg, k⟩ := q2.of
  cases hx with
  | @obj _ _ _ ns vs es h l a =>
    simp only [dFld] at hg
    split at hg
    · rename_i hcc
      obtain ⟨c1, c2⟩ := hc _ (by simpa using hcc)
      have z := DrA.lookup (ns := ns) (f := n) a
      rw [hg] at z
      obtain ⟨v, z1, z2⟩ := z
      exact ⟨_, _, _, _, v, rfl, ((R.ha.trans R.ex).trans e1) _ _ h, c1, c2, z1, k v H1 e1 z2⟩
    · cases hg
  | _ => cases hg
theorem sv_ix (ha : SimV K co E ta fa) (hb : SimE K co E w tb fb) : SimV K co E (tOp (rIxW K.f K.w) ta tb) (x2 dIx fa fb) := fun ρ own σ H R Q q => by
  refine ha ρ own σ H R _ ((q.bind).mono (fun a _ q2 x H1 e1 hx => ?_) fun _ _ z => z)
  refine hb ρ own σ H1 (R.up e1) _ ((q2.bind).mono (fun b _ q3 y H2 e2 hy => ?_) fun c _ z => z.mono e1)
  obtain ⟨d, hg, k⟩ := q3.of
  have eh := ((R.ha.trans R.ex).trans e1).trans e2
  have e12 := e1.trans e2
  by_cases hdd : ∃ ks vs, a = .dict ks vs
  · obtain ⟨ks, vs, rfl⟩ := hdd
    exact .inr (.inl (ixN_of' eh hx (hy.mono msk_le) hg fun v hv => k v H2 e12 hv))
  by_cases hdj : ∃ ks vs, a = .dct ks vs
  · obtain ⟨ks, vs, rfl⟩ := hdj
    exact .inr (.inr (ixJ_of eh hx hy hg fun v hv => k v H2 e12 hv))
  refine .inl ?_
  cases hy with
  | int n =>
    cases hx with
    | lst h z =>
      obtain ⟨v, h1, h2⟩ := DrA.at' z hg
      exact .inl ⟨_, _, n, v, rfl, rfl, sq_of (eh _ _ h), h1, k v H2 e12 h2⟩
    | tup h z =>
      obtain ⟨v, h1, h2⟩ := DrA.at' z hg
      exact .inr (.inl ⟨_, _, n, v, rfl, rfl, ex_t eh h, h1, k v H2 e12 h2⟩)
    | str s =>
      simp only [dIx] at hg
      by_cases hl : s.length ≤ 1000000
      · rw [if_pos hl] at hg
        cases e : atI s.cps.toList n with
        | none => rw [e] at hg; cases hg
        | some c => rw [e] at hg; cases hg; exact .inr (.inr ⟨s, n, c, rfl, rfl, szm hl, e, k _ H2 e12 (.str _)⟩)
      · rw [if_neg hl] at hg; cases hg
    | dic _ _ _ _ => exact absurd ⟨_, _, rfl⟩ hdd
    | dct _ _ => exact absurd ⟨_, _, rfl⟩ hdj
    | _ => simp [dIx] at hg
  | _ => cases a <;> first | (simp [dIx] at hg; done) | exact absurd ⟨_, _, rfl⟩ hdd | exact absurd ⟨_, _, rfl⟩ hdj
theorem sv_if (ht : SimT K co E tt t) (ha : SimV K co E ta fa) (hb : SimV K co E tb fb) : SimV K co E (tIf tt ta tb) (xIf t fa fb) := fun ρ own σ H R Q q => by
  refine ht ρ own σ H R _ ((q.bind).mono (fun b _ q2 H1 e1 => ?_) fun _ _ z => z)
  cases b with
  | true => exact ha ρ own σ H1 (R.up e1) _ (Pst.mono q2 (fun a _ k v H2 e2 hv => k v H2 (e1.trans e2) hv) fun c _ z => z.mono e1)
  | false => exact hb ρ own σ H1 (R.up e1) _ (Pst.mono q2 (fun a _ k v H2 e2 hv => k v H2 (e1.trans e2) hv) fun c _ z => z.mono e1)
def xSetA (i : Nat) (f : Env → R D) : Env → Out := xOut f fun d ρ => .nx (ρ.set i (.a d))
theorem ss_setA (h : SimV K co E te f) : SimS K co E (tAsg te (gName i)) (xSetA i f) := fun ρ own σ H R Dn q => by
  refine h ρ own σ H R _ (out_of R q fun d _ k v H2 e2 hv => ?_)
  exact k _ _ H2 ((R.up e2).setA hv)
def xUnA (g : Sv → Env → R Env) (f : Env → R D) : Env → Out := xOut f fun d ρ => match g (.a d) ρ with
  | .ok ρ' => .nx ρ'
  | _ => .st
theorem ss_unA {js : List Nat} {tg : TG} {g : Sv → Env → R Env} (hg : SimG K co js tg g) (h : SimV K co E te f) : SimS K co E (tAsg te tg) (xUnA g f) := fun ρ own σ H R Dn q => by
  refine h ρ own σ H R _ (out_of R q fun d _ k v H2 e2 hv => ?_)
  refine hg ρ own σ H2 (.a d) v (R.up e2) hv _ ?_
  cases e : g (.a d) ρ with
  | ok ρ' => rw [e] at k; exact fun own' σ' R' _ _ _ => k own' σ' H2 R'
  | er c => rw [e] at k; exact k
  | st => rw [e] at k; exact k
def srcV (f : Env → R D) : Env → R (List Sv) := fun ρ => (f ρ).bind fun d => R.of ((itemsD d).map sA)
theorem si_seqV (h : SimV K co E ta fa) : SimI K co E w (iSeq K ta) (srcV fa) := fun ρ own σ H R Q q => by
  have hb : ∀ {H1}, Ex H H1 → Ex co.Ha (Hbase own H1 w) := fun {H1} e1 a o z => by
    have z2 := ((R.ha.trans R.ex).trans e1) _ _ z
    cases w with
    | true => exact z2
    | false =>
      show msk (Ow own) H1 a = some o
      rw [msk_at (fun y => by
        obtain ⟨n, hn⟩ := y
        have y2 := R.new n a hn
        rw [R.ha _ _ z] at y2
        cases y2)]
      exact z2
  cases ed : fa ρ with
  | st => unfold srcV at q; rw [ed] at q; exact q.elim
  | er c =>
    refine .inl (h ρ own σ H R _ ?_)
    unfold srcV at q
    rw [ed] at q ⊢
    exact q
  | ok x =>
    unfold srcV at q
    rw [ed] at q
    have q2 : Pst (Sm.R.of ((itemsD x).map sA)) _ _ := q
    obtain ⟨items, hg, k⟩ := q2.of
    cases x with
    | list xs =>
      cases hg
      refine .inl (h ρ own σ H R _ (by
        rw [ed]
        intro v H1 e1 hv
        cases hv with
        | @lst p vs _ hl ha =>
          refine ⟨_, rfl, ⟨_, sq_of (((R.ha.trans R.ex).trans e1) _ _ hl)⟩, k _ H1 e1 ?_⟩
          intro S H' hS e2 e3 n
          have hp : SqL K H' p vs := sq_of (e2 _ _ (hb e1 _ _ hl))
          refine ⟨fun s hs => ?_, fun hl => ⟨vs, hp, by rw [ha.length]; rw [sA, List.length_map] at hl; exact hl⟩⟩
          obtain ⟨x, hx, rfl⟩ := atA hs
          obtain ⟨v, hv, hr⟩ := ha.get' hx
          refine ⟨⟨vs, v, hp, hv⟩, fun y H' z => ?_⟩
          obtain ⟨rfl, z⟩ := z
          have := z vs hp
          rw [hv] at this
          cases this
          exact ⟨Ex.refl _, hr⟩))
    | tup xs =>
      cases hg
      refine .inr (h ρ own σ H R _ (by
        rw [ed]
        intro v H1 e1 hv
        cases hv with
        | @tup p vs _ hl ha =>
          refine ⟨_, rfl, ⟨_, ex_t ((R.ha.trans R.ex).trans e1) hl⟩, k _ H1 e1 ?_⟩
          intro S H' hS e2 e3 n
          have hp : SqT K H' p vs := ex_t ((hb e1).trans e2) hl
          refine ⟨fun s hs => ?_, fun hl => ⟨vs, hp, by rw [ha.length]; rw [sA, List.length_map] at hl; exact hl⟩⟩
          obtain ⟨x, hx, rfl⟩ := atA hs
          obtain ⟨v, hv, hr⟩ := ha.get' hx
          refine ⟨⟨vs, v, hp, hv⟩, fun y H' z => ?_⟩
          obtain ⟨rfl, z⟩ := z
          have := z vs hp
          rw [hv] at this
          cases this
          exact ⟨Ex.refl _, hr⟩))
    | _ => cases hg

def SimL (K : Kw) (co : Co) (E : L2.St → XK) (te : TE) (f : Env → R (List D)) : Prop := ∀ ρ own σ H, Rs K co ρ own σ H → ∀ Q : VK,
  Pst (f ρ) (fun ds => ∀ p vs H2, Ex H H2 → H2 p = some (.lst vs) → DrA K (msk (Sx co own) H2) vs ds → Q (.ref p) H2) (ErrS K E σ H) → te σ H Q
def lM (i : Nat) : Env → R (List D) := fun ρ => match ρ[i]? with
  | some (.m xs) => .ok xs
  | some (.d (.list xs)) => .ok xs
  | _ => .st
def lE (f : Env → R D) : Env → R (List D) := fun ρ => (f ρ).bind fun d => match d with
  | .list xs => .ok xs
  | _ => .st
theorem sl_m : SimL K co E (tVar i) (lM i) := fun ρ own σ H R Q q => by
  unfold lM at q
  cases e : ρ[i]? with
  | none => rw [e] at q; exact q.elim
  | some s =>
    rw [e] at q
    cases s with
    | m xs =>
      obtain ⟨p, vs, h1, h2, h3, h4⟩ := R.sl i _ e
      exact ⟨_, join_some h1, q p vs H (Ex.refl H) h3 h4⟩
    | d x =>
      obtain ⟨_, v, h1, h2⟩ := R.sl i _ e
      cases h2 with
      | lst h a => exact ⟨_, join_some h1, q _ _ H (Ex.refl H) (msk_some h).2 a⟩
      | _ => exact q.elim
    | _ => exact q.elim
theorem sl_e (h : SimE K co E false te f) : SimL K co E te (lE f) := fun ρ own σ H R Q q => by
  refine h ρ own σ H R _ ((q.bind).mono (fun a _ q2 x H1 e1 hx => ?_) fun _ _ z => z)
  cases hx with
  | lst h a => exact q2 _ _ H1 e1 (msk_some h).2 a
  | _ => exact q2.elim
theorem sl_n (h : SimN K co E te fn) : SimL K co E te fn := fun ρ own σ H R Q q => h ρ own σ H R Q (q.mono (fun ds _ k p vs H2 hp e hl hd => k p vs H2 e hl (hd.mono (msk_sub fun a z => .inl z))) fun _ _ z => z)
def xIxL (fa : Env → R (List D)) (fb : Env → R D) : Env → R D := fun ρ => (fa ρ).bind fun a => (fb ρ).bind fun b => R.of (dIx (.list a) b)
theorem se_ixL (ha : SimL K co E ta ga) (hb : SimE K co E w tb fb) : SimE K co E false (tOp (rIxW K.f K.w) ta tb) (xIxL ga fb) := fun ρ own σ H R Q q => by
  refine ha ρ own σ H R _ ((q.bind).mono (fun a _ q2 p vs H1 e1 hl hd => ?_) fun _ _ z => z)
  refine hb ρ own σ H1 (R.up e1) _ ((q2.bind).mono (fun b _ q3 y H2 e2 hy => ?_) fun c _ z => z.mono e1)
  obtain ⟨d, hg, k⟩ := q3.of
  cases hy with
  | int n =>
    obtain ⟨v, h1, h2⟩ := DrA.at' (hd.mono (msk_ex e2)) hg
    exact .inl (.inl ⟨p, vs, n, v, rfl, rfl, sq_of (e2 _ _ hl), h1, k v H2 (e1.trans e2) h2⟩)
  | _ => cases hg
def nAddL (fa fb : Env → R (List D)) : Env → R (List D) := fun ρ => (fa ρ).bind fun a => (fb ρ).bind fun b => if a.length + b.length ≤ 1000000 then .ok (a ++ b) else .st
theorem sn_addL (ha : SimL K co E ta ga) (hb : SimL K co E tb gb) : SimN K co E (tOp (rAddU K) ta tb) (nAddL ga gb) := fun ρ own σ H R Q q => by
  refine ha ρ own σ H R _ ((q.bind).mono (fun a _ q2 p vs H1 e1 hl hd => ?_) fun _ _ z => z)
  refine hb ρ own σ H1 (R.up e1) _ ((q2.bind).mono (fun b _ q3 p' us H2 e2 hl' hd' => ?_) fun c _ z => z.mono e1)
  have hd := hd.mono (msk_ex e2)
  split at q3
  · rename_i hh
    have e12 := e1.trans e2
    exact .inr (.inr (.inr ⟨p, p', vs, us, rfl, rfl, e2 _ _ hl, hl', szm (by rw [hd.length, hd'.length]; exact hh), fun l hl2 => q3 l _ _ (fresh_back e12 hl2) (e12.trans (Ex.new hl2)) upd_same (new_of (hd.append hd') hl2)⟩))
  · exact q3.elim
def nMulL (fa : Env → R (List D)) (fb : Env → R D) : Env → R (List D) := fun ρ => (fa ρ).bind fun a => (fb ρ).bind fun b => match b with
  | .int n => if -1000000 ≤ n ∧ n ≤ 1000000 ∧ a.length * n.toNat ≤ 1000000 then .ok (List.replicate n.toNat a).flatten else .st
  | _ => .st
theorem sn_mulL (ha : SimL K co E ta ga) (hb : SimE K co E w tb fb) : SimN K co E (tOp (rMulU K) ta tb) (nMulL ga fb) := fun ρ own σ H R Q q => by
  refine ha ρ own σ H R _ ((q.bind).mono (fun a _ q2 p vs H1 e1 hl hd => ?_) fun _ _ z => z)
  refine hb ρ own σ H1 (R.up e1) _ ((q2.bind).mono (fun b _ q3 y H2 e2 hy => ?_) fun c _ z => z.mono e1)
  have hd := hd.mono (msk_ex e2)
  cases hy with
  | int n =>
    dsimp only at q3
    split at q3
    · rename_i hh
      have e12 := e1.trans e2
      exact .inr (.inl ⟨p, n, vs, rfl, rfl, e2 _ _ hl, by omega, by omega, szm (by rw [hd.length]; exact hh.2.2), fun l hl2 => q3 l _ _ (fresh_back e12 hl2) (e12.trans (Ex.new hl2)) upd_same (new_of (hd.rep _) hl2)⟩)
    · exact q3.elim
  | _ => exact q3.elim
theorem sn_listL (ha : SimL K co E ta ga) : SimN K co E (tCB (rListOf K) (tCons ta tNil)) ga := fun ρ own σ H R Q q => by
  refine ha ρ own σ H R _ (q.mono (fun a _ k p vs H1 e1 hl hd => ?_) fun _ _ z => z)
  exact ⟨p, vs, rfl, .inl (sq_of hl), fun l hl2 => k l vs _ (fresh_back e1 hl2) (e1.trans (Ex.new hl2)) upd_same (new_of hd hl2)⟩
def xTupL (fa : Env → R (List D)) : Env → R D := fun ρ => (fa ρ).bind fun a => .ok (.tup a)
theorem se_tupleL (ha : SimL K co E ta ga) : SimE K co E false (tCB (rTupOf K) (tCons ta tNil)) (xTupL ga) := fun ρ own σ H R Q q => by
  refine ha ρ own σ H R _ ((q.bind).mono (fun a _ k p vs H1 e1 hl hd => ?_) fun _ _ z => z)
  refine ⟨p, vs, rfl, .inl ⟨sq_of hl, fun l hl2 => k _ _ (e1.trans (Ex.new hl2)) (.tup (st_of ?_) (hd.mono (msk_ex (Ex.new hl2))))⟩⟩
  have ns : ¬ Sx co own l := fun z => (((R.up e1).mut l z).ne hl2)
  rw [msk_at (show ¬ Sw co own false l from ns)]
  exact upd_same
def nSlL (fa : Env → R (List D)) (lo hi : Env → R (Option Int)) : Env → R (List D) := fun ρ => (fa ρ).bind fun a => (lo ρ).bind fun l => (hi ρ).bind fun h => .ok (cutD a l h)
theorem sn_slL {tl th : TO} {lo hi : Env → R (Option Int)} (h : SimL K co E ta ga) (h1 : SimO K co E tl lo) (h2 : SimO K co E th hi) : SimN K co E (tSl (rSlU K) ta tl th) (nSlL ga lo hi) := fun ρ own σ H R Q q => by
  refine h ρ own σ H R _ ((q.bind).mono (fun a _ q2 p vs H1 e1 hl hd => ?_) fun _ _ z => z)
  refine h1 ρ own σ H1 (R.up e1) _ ((q2.bind).mono (fun l _ q3 H2 e2 => ?_) fun c _ z => z.mono e1)
  refine h2 ρ own σ H2 (R.up (e1.trans e2)) _ ((q3.bind).mono (fun u _ k H3 e3 => ?_) fun c _ z => z.mono (e1.trans e2))
  have e13 := (e1.trans e2).trans e3
  have hd := hd.mono (msk_ex (e2.trans e3))
  exact .inl ⟨p, vs, rfl, sq_of ((e2.trans e3) _ _ hl), fun l hl2 => k l _ _ (fresh_back e13 hl2) (e13.trans (Ex.new hl2)) upd_same (new_of (DrA.cut hd _ _) hl2)⟩
theorem se_lenL (h : SimL K co E ta ga) : SimE K co E w (tCB (rLenW K.f K.w) (tCons ta tNil)) (fun ρ => (ga ρ).bind fun a => .ok (.int (a.length : Nat))) := fun ρ own σ H R Q q => by
  refine h ρ own σ H R _ ((q.bind).mono (fun a _ k p vs H1 e1 hl hd => ?_) fun _ _ z => z)
  exact .inl ⟨_, _, rfl, .inl ⟨vs, sq_of hl, hd.length.symm⟩, k _ H1 e1 (.int _)⟩
end

section
variable {K : Kw} {E : XK} {t : TS} {F : Env → Out} {N : List Str}
def sp_lawS (K : PySem.W.Frag) : Sp := fun vs H Q _ => ∃ (a : Addr) (ns : List Int), vs = [.ref a] ∧ SqL K H a (ns.map V.int) ∧ ns.length ≤ 63 ∧ ∀ H', Q (.bl true) H'
theorem of_law {H : Hp} {Q : VK} (h : ∀ co, SimS K co (fun _ => E) t F) (hn : 1 ≤ N.length) (hl : ∀ ns : List Int, ns.length ≤ 63 → F (env0 N.length [false] [.scr ns]) = .rt (.bool true)) {a : Addr} {ns : List Int} (hs : SqL K H a (ns.map V.int)) (hlen : ns.length ≤ 63) (hQ : ∀ H', Q (.bl true) H') :
    t { nx := fun _ H' => Q .non H', rt := Q } (L2.start N [.ref a]) H := by
  refine of_sim (md := [false]) (K := K) (E := E) h hn ⟨fun _ => False, [.scr ns], fun _ z => z.elim, ⟨?_, trivial⟩, ?_⟩
  · show Dr K (msk (fun _ => False) H) _ _
    rw [msk_no]
    exact .scr hs
  · show RzP K _ H Q E (zOut (F (env0 N.length [false] [.scr ns])))
    rw [hl ns hlen]
    intro v H' e hv
    cases hv
    exact hQ H'
end
end Sm

namespace Sm
open PySem L2 Evl Al
theorem all_nil (P : Str → Prop) : ∀ c ∈ ([] : List Str), P c := fun c h => by cases h
theorem all_cons {P : Str → Prop} {c : Str} {cs : List Str} (h : P c) (r : ∀ x ∈ cs, P x) : ∀ x ∈ c :: cs, P x := fun x hx => by
  rcases List.mem_cons.mp hx with rfl | hx
  · exact h
  · exact r x hx
section
variable {X : Cx} {K : PySem.W.Frag}
theorem op_inU (h : X.K = K) : OpR X (compareOp .In) (rIn K false) := h ▸ op_in_seq
theorem op_ninU (h : X.K = K) : OpR X (compareOp .NotIn) (rIn K true) := h ▸ op_notIn_seq
theorem cr_allK (h : X.K = K) (hc : X.calm = true) : CallR X (.builtin "all") (rAll K) := h ▸ cr_all hc
theorem cr_anyK (h : X.K = K) (hc : X.calm = true) : CallR X (.builtin "any") (rAny K) := h ▸ cr_any hc
theorem cr_sumK (h : X.K = K) (hc : X.calm = true) : CallR X (.builtin "sum") (rSum K) := h ▸ cr_sum hc
theorem pt_truK (h : X.K = K) {e : Expr} {te : TE} (ha : PE X e te) (he : ∀ whole, isTrue e X.env whole = (do let v ← whole; standAt e.pos; holding [v] (truthy v)) := by intro _; rfl) : PT X e (tTru K te) := h ▸ pt_tru ha he
theorem pe_lenSetK (h : X.K = K) {a : Expr} {ta : TE} {p p2 q pos : Pos} (hg : Gl X "len") (hm : X.mg "len" = none) (hg2 : Gl X "set") (hm2 : X.mg "set" = none) (ha : PE X a ta) (hc : X.calm = true := by rfl)
    (na : starEach [a] X.env = (false, eval a X.env) :: starEach [] X.env := by rfl) : PE X (.Call (.Name "len" p) [.Call (.Name "set" p2) [a] [] q] [] pos) (tLenSet K ta) := h ▸ pe_lenSet hg hm hg2 hm2 ha hc na
def isBV (b : Bool) : V → Option Bool
  | .bl a => some (a == b)
  | .non => some false
  | .int _ => some false
  | .str _ => some false
  | .ref _ => some false
  | _ => none
def rIsB : R2 := fun x y H Q => ∃ b c, y = .bl b ∧ isBV b x = some c ∧ Q (.bl c) H
theorem op_isB : OpR X (compareOp .Is) rIsB := by
  intro pins s σ H x y v u Q I rx ry h
  obtain ⟨b, c, rfl, hc, q⟩ := h
  cases ry
  have key : ∀ w : Value, RelV x w → plainIs w (.bool b) = true ∧ (w == Value.bool b) = c := fun w hw => by
    cases x with
    | bl a => cases hw; cases hc; exact ⟨rfl, by cases a <;> cases b <;> rfl⟩
    | non => cases hw; cases hc; exact ⟨rfl, by cases b <;> rfl⟩
    | int i => obtain ⟨t, rfl⟩ := hw; cases hc; exact ⟨rfl, by cases b <;> rfl⟩
    | str i => obtain ⟨t, rfl⟩ := hw; cases hc; exact ⟨rfl, by cases b <;> rfl⟩
    | ref p => cases hw; cases hc; exact ⟨rfl, by cases b <;> rfl⟩
    | _ => cases hc
  obtain ⟨k1, k2⟩ := key v rx
  show wpAny _ _ ((isSame v (Value.bool b)) >>= fun z => pure (Value.bool z)) _ _ s
  refine wpAny_bind (wpAny_isSame_plain k1 (wpAny_pure (fin_bl I q ?_)))
  rw [k2]
end
def dIsB (b : Bool) : D → Option D
  | .bool a => some (.bool (a == b))
  | .none => some (.bool false)
  | .int _ => some (.bool false)
  | .str _ => some (.bool false)
  | .list _ => some (.bool false)
  | .tup _ => some (.bool false)
  | _ => none
section
variable {K : Kw} {co : Co} {E : L2.St → XK} {w w1 w2 w3 : Bool} {te ta tb tc : TE} {tr : TA} {f fa fb fc : Env → R D} {fr fn ga gb : Env → R (List D)} {d : D} {i j : Nat} {v : V} {b : Bool}
theorem se_isB (h : SimE K co E w1 ta fa) : SimE K co E w (tOp rIsB ta (tC (.bl b))) (x1 (dIsB b) fa) := fun ρ own σ H R Q q => by
  refine h ρ own σ H R _ ((q.bind).mono (fun a _ q2 x H1 e1 hx => ?_) fun _ _ z => z)
  obtain ⟨d, hg, k⟩ := q2.of
  cases hx with
  | bl a => cases hg; exact ⟨_, _, rfl, rfl, k _ H1 e1 (.bl _)⟩
  | non => cases hg; exact ⟨_, _, rfl, rfl, k _ H1 e1 (.bl _)⟩
  | int a => cases hg; exact ⟨_, _, rfl, rfl, k _ H1 e1 (.bl _)⟩
  | str a => cases hg; exact ⟨_, _, rfl, rfl, k _ H1 e1 (.bl _)⟩
  | lst h a => cases hg; exact ⟨_, _, rfl, rfl, k _ H1 e1 (.bl _)⟩
  | tup h a => cases hg; exact ⟨_, _, rfl, rfl, k _ H1 e1 (.bl _)⟩
  | _ => cases hg

def dLtU : D → D → Option D
  | .int a, .int b => some (.bool (decide (a < b)))
  | .tup a, .tup b => (intsD a).bind fun x => (intsD b).map fun y => .bool (HT.lexLt x y)
  | _, _ => none
theorem of_ltU : OpF K (rLtU K) dLtU := fun H x y a b d Q hx hy hg k => by
  cases hx with
  | int i =>
    cases hy with
    | int j => cases hg; exact .inl ⟨_, _, rfl, rfl, k _ fun _ => .bl _⟩
    | _ => cases hg
  | tup h z =>
    cases hy with
    | tup h' z' =>
      obtain ⟨n, h1, hg⟩ := Option.bind_eq_some_iff.mp hg
      obtain ⟨m, h2, rfl⟩ := Option.map_eq_some_iff.mp hg
      rw [ints_of z h1] at h
      rw [ints_of z' h2] at h'
      exact .inr ⟨_, _, n, m, rfl, rfl, h, h', k _ fun _ => .bl _⟩
    | _ => cases hg
  | _ => cases hg
theorem se_tupRg2 (ha : SimE K co E w1 ta fa) (hb : SimE K co E w2 tb fb) : SimE K co E w (tTupRg (tRg2 ta tb)) (xTupRg fa fb) := fun ρ own σ H R Q q => by
  have q2 : Pst ((fa ρ).bind fun a => (fb ρ).bind fun b => Sm.R.of ((rg2 a b).map fun z => rgD z.1 z.2)) _ _ := q.bind
  refine ha ρ own σ H R _ ((q2.bind).mono (fun a _ q3 x H1 e1 hx => ?_) fun _ _ z => z)
  refine hb ρ own σ H1 (R.up e1) _ ((q3.bind).mono (fun b _ q4 y H2 e2 hy => ?_) fun c _ z => z.mono e1)
  obtain ⟨ds, hg, k⟩ := q4.of
  cases ez : rg2 a b with
  | none => rw [ez] at hg; cases hg
  | some z =>
    rw [ez] at hg; cases hg
    obtain ⟨i, j, rfl, rfl, rfl, h1, h2, h3, h4⟩ := rg2_of ez
    cases hx; cases hy
    refine ⟨i, j, rfl, rfl, RgOk.of_le (by omega) (by omega) (by omega) (by omega), fun p hp => k _ _ ((e1.trans e2).trans (Ex.new hp)) (.tup (st_of ?_) (rgV_rel _ _))⟩
    rw [msk_at (fun z => (sw_mut (R.up (e1.trans e2)) w p z).ne hp)]
    exact upd_same
theorem se_alt {g : Env → R D} (h : SimE K co E w te f) (h' : SimE K co E w te g) : SimE K co E w te (xOrE f g) := fun ρ own σ H R Q q => by
  unfold xOrE at q
  cases e : f ρ with
  | st => rw [e] at q; exact h' ρ own σ H R Q q
  | ok d => rw [e] at q; exact h ρ own σ H R Q (by rw [e]; exact q)
  | er c => rw [e] at q; exact h ρ own σ H R Q (by rw [e]; exact q)
def dStr : D → Option D
  | .int i => if i.natAbs.log2 < 1920 then some (.str (toString i)) else none
  | _ => none
theorem se_str (h : SimE K co E w1 ta fa) : SimE K co E w (tCB (fun xs H Q => ∃ i : Int, xs = [.int i] ∧ i.natAbs.log2 < 1920 ∧ Q (.str (toString i)) H) (tCons ta tNil)) (x1 dStr fa) := fun ρ own σ H R Q q => by
  refine h ρ own σ H R _ ((q.bind).mono (fun a _ q2 x H1 e1 hx => ?_) fun _ _ z => z)
  obtain ⟨d, hg, k⟩ := q2.of
  cases hx with
  | int i =>
    simp only [dStr] at hg
    split at hg
    · cases hg; rename_i hc; exact ⟨i, rfl, hc, k _ H1 e1 (.str _)⟩
    · cases hg
  | _ => cases hg

def xAppGo (fn : Env → R (List D)) (f : Env → R D) : Env → Out := fun ρ => match fn ρ with
  | .ok xs => if xs.length < 1000000 then xOut f (fun _ ρ => .nx ρ) ρ else .st
  | .er c => .er c ρ
  | .st => .st
theorem ss_appGo (hn : SimN K co E ta fn) (h : ∀ p, SimE K (co_up co p) E false te f) : SimS K co E (tDrop (tBM K "list" rAppend ta (tCons te tNil))) (xAppGo fn f) := fun ρ own σ H R Dn q => by
  unfold xAppGo at q
  refine hn ρ own σ H R _ ?_
  cases e : fn ρ with
  | st => rw [e] at q; exact q.elim
  | er c => rw [e] at q; exact fun H2 e2 => q own σ H2 (R.up e2)
  | ok xs =>
    rw [e] at q
    intro p vs H1 hp e1 hl hd
    dsimp only at q
    split at q
    · rename_i hz
      refine ⟨Or.inl ⟨rfl, vs, sq_of hl⟩, ?_⟩
      have R1 := R.laid e1 hp (.l hl)
      refine h p ρ own σ H1 R1 _ ?_
      have q := out_of (Kp := fun d => ∀ v H2, Ex H1 H2 → Dr K (msk (Sw (co_up co p) own false) H2) v d → rAppend (.ref p) [v] H2 fun _ H3 => Dn.nx σ H3) (R.up e1) q fun d _ k v H2 e2 hv => ?_
      · exact q
      · refine ⟨p, vs, v, rfl, rfl, e2 _ _ hl, szl (by rw [hd.length]; exact hz), ?_⟩
        have R2 := (R1.up e2).back2 (u := .lst (vs ++ [v])) ⟨_, rfl⟩
        have e3 : Ex co.H0 (upd H2 p (.lst (vs ++ [v]))) := (R.ex.trans (e1.trans e2)).mut (fresh_back R.ex hp)
        rcases R2 with R2 | R2
        · exact k own σ _ (Rs.less (S := fun a => co.S0 a ∨ a = p) R2 fun a z => .inl z)
        · exact absurd e3 R2
    · exact q.elim
end

def tTryA (K : PySem.W.Frag) (c : Value) (i : Nat) (tsu : Addr → Value → Option Addr → TS) (Wout : WX) (tb : WX → TS) : TS := fun D σ H => tb (wAs K c i tsu Wout D) D σ H
def tTryB (K : PySem.W.Frag) (c : Value) (tsu : Addr → Value → Option Addr → TS) (Wout : WX) (tb : WX → TS) : TS := fun D σ H => tb (wOnly K c tsu Wout D) D σ H
section
variable {X : Cx} {K : PySem.W.Frag} {x n : Str} {c : Value} {i : Nat} {body suite : List Stmt} {b₀ : Stmt} {np pos pos' : Pos} {tb : WX → TS} {ts : Addr → Value → Option Addr → TS} {Wout : WX}
theorem ps_tryA (hK : X.K = K) (hs : X.stack = X.env :: X.outer) (hf : X.env.frame = some X.env.locals) (hN : X.N.Nodup) (hi : X.N[i]? = some n) (hln : X.env.kindOf n = some .local) (hc : Names X x c) (tk : Takes X Wout)
    (hb : ∀ (W : WX) (pn : List (Addr × Obj)) (xe : Value → Shared → Prop), Takes (X.tr pn xe) W → PassesOwn (model X.prog X.w) X.A X.env xe → PSs (X.tr pn xe) body (tb W))
    (hsu : ∀ (a : Addr) (oe : Obj) (cls : Value) (d : Option Addr) (pn : List (Addr × Obj)), Zc cls d oe → (∃ vs, oe.data = .fields vs) → PSs (X.suite a ((a, oe) :: pn)) (b₀ :: suite) (ts a cls d)) :
    PS X (.Try body [.ExceptHandler (some (.Name x np)) (some n) (b₀ :: suite) pos'] [] [] pos) (tTryA K c i ts Wout tb) := by
  subst hK
  exact ps_try_as hs hf hN hi hln hc tk hb hsu
theorem ps_tryB (hK : X.K = K) (hs : X.stack = X.env :: X.outer) (hf : X.env.frame = some X.env.locals) (hc : Names X x c) (tk : Takes X Wout)
    (hb : ∀ (W : WX) (pn : List (Addr × Obj)) (xe : Value → Shared → Prop), Takes (X.tr pn xe) W → PassesOwn (model X.prog X.w) X.A X.env xe → PSs (X.tr pn xe) body (tb W))
    (hsu : ∀ (a : Addr) (oe : Obj) (cls : Value) (d : Option Addr) (pn : List (Addr × Obj)), Zc cls d oe → (∃ vs, oe.data = .fields vs) → PSs (X.suite a ((a, oe) :: pn)) (b₀ :: suite) (ts a cls d)) :
    PS X (.Try body [.ExceptHandler (some (.Name x np)) none (b₀ :: suite) pos'] [] [] pos) (tTryB K c ts Wout tb) := by
  subst hK
  exact ps_try_only hs hf hc tk hb hsu
end
section
variable {K : Kw} {co : Co} {E : L2.St → XK} {F G : Sm.Env → Out} {i : Nat} {x : Str} {ok : List Str} {tb : WX → TS} {tsu : Addr → Value → Option Addr → TS} {Wout : WX}
theorem ss_tryA (hx : ∀ c ∈ ok, PySem.W.exmOne K (.ref (He.ga K c)) (.ref (He.ga K x)) = some true) (hF : ∀ W : WX, SimS K co (WE W) (tb W) F)
    (hG : ∀ (a : Addr) (cls : Value) (dd : Option Addr), SimS K { co with xa := a, xc := cls, xd := dd } Eno (tsu a cls dd) G) : SimS K co E (tTryA K (.ref (He.ga K x)) i tsu Wout tb) (xTry i ok F G) := ss_try hx hF hG
theorem ss_tryB (hx : ∀ c ∈ ok, PySem.W.exmOne K (.ref (He.ga K c)) (.ref (He.ga K x)) = some true) (hF : ∀ W : WX, SimS K co (WE W) (tb W) F)
    (hG : ∀ (a : Addr) (cls : Value) (dd : Option Addr), SimS K { co with xa := a, xc := cls, xd := dd } Eno (tsu a cls dd) G) : SimS K co E (tTryB K (.ref (He.ga K x)) tsu Wout tb) (xTryO ok F G) := ss_tryO hx hF hG
end

theorem df_st {fs : List Fact} {fn : List He.DefD} {P : Program} {w : World} {K : PySem.W.Frag} {mg : Str → Option Value} {base : Heap} (T : Top fs fn K mg) (i : Nat) {at_ : Str × Option Str} {name qual : Str} {s : Stmt} {ps : List Str} {k : Nat} {md : List Bool} {g : List D → Rz} (h : fn[i]? = some (dd at_ name qual s))
    (hb : ∀ (kV doc pm : Value) (an : Option Addr) (cdv ct : Value) (us : List Value), us.length = ps.length → bindArgs (PySem.W.fnOf name qual (defArgs s) (defBody s) (defScope s) .none kV doc pm an cdv ct) ⟨us, []⟩ = pure (ps.zip us)) (hg : ∀ ds, g ds = .st) : Df P w K mg base k at_ ps (spF ⟨K, w⟩ md g) := by
  obtain ⟨fd, F⟩ := T.def_ i h
  have no : ∀ {vs : List V} {H : Hp} {Q : VK} {E : XK}, spF ⟨K, w⟩ md g vs H Q E → False := fun z => by
    obtain ⟨S, ds, _, _, z⟩ := z
    rw [hg ds] at z
    exact z
  exact ⟨⟨fd, ⟨fun _ _ _ _ z => (no z).elim, fun _ _ _ _ _ _ _ _ _ _ _ _ _ z => (no z).elim⟩, FunD.bindsN F hb⟩, F.kp⟩
section
variable {K : Kw} {co : Co} {E : L2.St → XK} {w w1 : Bool} {te tb : TE} {f fb : Env → R D} {i : Nat}

def xUnPut (i n : Nat) (fb : Env → R D) (gs : List Sv → Env → R Env) (f : Env → R D) : Env → Out := xOut f fun d ρ => match itemsD d with
  | some (y :: r) => if r.length + 1 = n then (match ρ[i]? with
    | some (.m xs) => xOut fb (fun z ρ => match z with
      | .int k => match ixN xs.length k with
        | some kk => match gs (sD r) (ρ.set i (.m (xs.set kk y))) with
          | .ok ρ' => .nx ρ'
          | _ => .st
        | none => .st
      | _ => .st) ρ
    | _ => .st) else .st
  | _ => .st
theorem ss_unPut {js : List Nat} {n : Nat} {tgs : TGs} {gs : List Sv → Env → R Env} (hg : SimGs K co js tgs gs) (h : SimE K co E false te f) (hj : SimE K co E w tb fb) : SimS K co E (tAsg te (gSeq K n (gCons (gSub (tVar i) tb rSetL) tgs))) (xUnPut i n fb gs f) := fun ρ own σ H R Dn q => by
  refine h ρ own σ H R _ (out_of R q fun d _ k v H2 e2 hv => ?_)
  have R2 := R.up e2
  cases hi : itemsD d with
  | none => rw [hi] at k; exact k.elim
  | some ys =>
    rw [hi] at k
    obtain ⟨p, vs, rfl, hp, ha⟩ := seq_items (S := Sx co own) (Hq := H2) hv hi msk_le
    cases ys with
    | nil => exact k.elim
    | cons y r =>
      dsimp only at k
      by_cases hn : r.length + 1 = n
      · rw [if_pos hn] at k
        cases ha with
        | cons hy hr =>
          rename_i v0 vr
          have kk : gCons (gSub (tVar i) tb rSetL) tgs (v0 :: vr) σ H2 Dn.nx := by
            refine ⟨v0, vr, rfl, ?_⟩
            cases e : ρ[i]? with
            | none => rw [e] at k; exact k.elim
            | some s =>
              rw [e] at k
              cases s with
              | m xs =>
                obtain ⟨l, us, h1, h2, h3, h4⟩ := R2.sl i _ e
                refine ⟨_, join_some h1, hj ρ own σ H2 R2 _ (out_of R2 k fun z _ k2 u H3 e3 hu => ?_)⟩
                cases hu with
                | int m =>
                  dsimp only at k2
                  cases en : ixN xs.length m with
                  | none => rw [en] at k2; exact k2.elim
                  | some kk =>
                    rw [en] at k2
                    dsimp only at k2
                    refine ⟨l, us, m, kk, rfl, rfl, e3 _ _ h3, by rw [h4.length]; exact en, ?_⟩
                    have R4 := (R2.up e3).putM (join_some h1) h2 ((h4.mono (msk_ex e3)).set kk (hy.mono (msk_ex e3)))
                    refine hg _ own σ _ (sD r) vr R4 (fun k s hk => ?_) (by rw [sD, List.length_map, hr.length]) _ ?_
                    · obtain ⟨y2, hy2, rfl⟩ := atH hk
                      obtain ⟨u2, hu1, hu2⟩ := hr.get' hy2
                      exact ⟨u2, hu1, by
                        show Dr K (msk (Sx co own) _) u2 y2
                        rw [msk_upd (.inr ⟨i, mem1 h2⟩)]
                        exact hu2.mono (msk_ex e3)⟩
                    · cases eg : gs (sD r) (ρ.set i (.m (xs.set kk y))) with
                      | ok ρ' => rw [eg] at k2; exact fun own' σ' R' _ _ _ => k2 own' σ' _ R'
                      | er c => rw [eg] at k2; exact k2
                      | st => rw [eg] at k2; exact k2
                | _ => exact k2.elim
              | _ => exact k.elim
          rcases hp with hp | hp
          · exact .inr ⟨p, _, rfl, hp, by rw [List.length_cons, hr.length]; exact hn, kk⟩
          · exact .inl ⟨p, _, rfl, hp, by rw [List.length_cons, hr.length]; exact hn, kk⟩
      · rw [if_neg hn] at k; exact k.elim
end
section
variable {K : Kw} {co : Co} {E : L2.St → XK} {w : Bool} {ta : TE} {fa : Env → R D}

theorem pi_enumerateK {X : Cx} {K : PySem.W.Frag} {e : Expr} {ta : TA} {p pos tpos : Pos} {elts : List Expr} {kk : Nat} (hK : X.K = K) (hg : Gl X "enumerate") (hm : X.mg "enumerate" = none) (ha : PA X [e] ta) (hs : starEach [e] X.env = [(false, eval e X.env)] := by rfl) :
    PI X (.Tuple elts kk tpos) (.Call (.Name "enumerate" p) [e] [] pos) (iEnum K ta) := hK ▸ pi_enum hg hm ha hs
def enD : Nat → List D → List D
  | _, [] => []
  | i, x :: r => .tup [.int (i : Int), x] :: enD (i + 1) r
theorem enD_get : ∀ {xs : List D} {i n : Nat} {d : D}, (enD i xs)[n]? = some d → ∃ x, xs[n]? = some x ∧ d = .tup [.int ((i + n : Nat) : Int), x]
  | [], i, n, d, h => by simp [enD] at h
  | x :: r, i, 0, d, h => by
    simp only [enD, List.getElem?_cons_zero, Option.some.injEq] at h
    exact ⟨x, rfl, by rw [← h]; rfl⟩
  | x :: r, i, n + 1, d, h => by
    have h : (enD (i + 1) r)[n]? = some d := by simpa [enD] using h
    obtain ⟨y, h1, h2⟩ := enD_get h
    exact ⟨y, by simpa using h1, by rw [h2, show i + 1 + n = i + (n + 1) by omega]⟩
theorem enD_len : ∀ (xs : List D) (i : Nat), (enD i xs).length = xs.length
  | [], _ => rfl
  | x :: r, i => by rw [enD, List.length_cons, List.length_cons, enD_len r]
def srcEn (f : Env → R D) : Env → R (List Sv) := fun ρ => (f ρ).bind fun d => R.of (match d with
  | .list xs => some (sD (enD 0 xs))
  | _ => none)
theorem yld_enum {S0 : Addr → Prop} {Ha Hb : Hp} {p : Addr} {vs : List V} {xs : List D} (h : Hb p = some (.lst vs)) (hd : DrA K (msk S0 Hb) vs xs) : Yld K S0 Ha Hb (Ite K p) (sD (enD 0 xs)) := fun S H hS e1 e2 n => by
  have hp : SqL K H p vs := sq_of (e1 _ _ h)
  refine ⟨fun s hs => ?_, fun hl => ⟨vs, hp, by rw [hd.length]; rw [sD, List.length_map, enD_len] at hl; exact hl⟩⟩
  obtain ⟨d, hx, rfl⟩ := atH hs
  obtain ⟨x, hx2, rfl⟩ := enD_get hx
  obtain ⟨v, hv, hr⟩ := hd.get' hx2
  refine ⟨⟨vs, v, hp, hv⟩, fun y H' z => ?_⟩
  obtain ⟨T, u, rfl, hT, rfl, z⟩ := z
  have := z vs hp
  rw [hv] at this
  cases this
  have ns : ¬ S T := fun q => hS T q hT
  refine ⟨Ex.new hT, ?_⟩
  show Dr K (msk S _) (.ref T) (.tup [.int ((0 + n : Nat) : Int), x])
  rw [Nat.zero_add]
  exact .tup (st_of (by rw [msk_at ns]; exact upd_same)) (.cons (.int _) (.cons ((hr.mono e2).mono (msk_ex (Ex.new hT))) .nil))
theorem si_enum (h : SimE K co E false ta fa) : SimI K co E w (iEnum K (tCons ta tNil)) (srcEn fa) := fun ρ own σ H R Q q => by
  have key : ∀ d, fa ρ = .ok d → (iEnum K (tCons ta tNil) σ H Q) := fun d hd => by
    unfold srcEn at q
    rw [hd] at q
    have q2 : Pst (Sm.R.of (match d with
      | .list xs => some (sD (enD 0 xs))
      | _ => none)) _ _ := q
    obtain ⟨items, hg, k⟩ := q2.of
    cases d with
    | list xs =>
      cases hg
      refine h ρ own σ H R _ (by
        rw [hd]
        intro v H1 e1 hv
        cases hv with
        | lst hl ha => exact ⟨_, _, rfl, sq_of (msk_some hl).2, k _ H1 e1 (yld_enum (base_in w _ _ hl) (ha.mono (base_sx w)))⟩)
    | _ => cases hg
  cases e : fa ρ with
  | ok d => exact key d e
  | er c =>
    unfold srcEn at q
    rw [e] at q
    refine h ρ own σ H R _ (by rw [e]; exact q)
  | st =>
    unfold srcEn at q
    rw [e] at q
    exact q.elim
end

mutual
def relD (K : PySem.W.Frag) : D → Value → Bool
  | .int i, .int j _ => decide (i = j)
  | .str x, .str y _ => decide (x = y)
  | .tup ds, .ref a => match K.lookup a with
    | some ⟨.type c, _, .seq its _, _⟩ => decide (c = "tuple") && (decide (its.size ≤ sizeLine) && relDA K ds its.toList)
    | _ => false
  | _, _ => false
termination_by structural d => d
def relDA (K : PySem.W.Frag) : List D → List Value → Bool
  | [], [] => true
  | d :: ds, u :: us => relD K d u && relDA K ds us
  | _, _ => false
termination_by structural ds => ds
end
mutual
theorem relD_ok {K : Kw} : ∀ (d : D) (u : Value), relD K d u = true → ∃ v : V, RelV v u ∧ (∀ a, u = .ref a → v = .ref a) ∧ ∀ H, Dr K H v d
  | .int i, u, h => by
    cases u with
    | int j t =>
      have e : i = j := by simpa [relD] using h
      subst e
      exact ⟨.int i, ⟨t, rfl⟩, (fun _ z => by cases z), fun _ => .int _⟩
    | _ => simp [relD] at h
  | .str x, u, h => by
    cases u with
    | str y t =>
      have e : x = y := by simpa [relD] using h
      subst e
      exact ⟨.str x, ⟨t, rfl⟩, (fun _ z => by cases z), fun _ => .str _⟩
    | _ => simp [relD] at h
  | .tup ds, u, h => by
    cases u with
    | ref a =>
      unfold relD at h
      cases q : K.f.lookup a with
      | none => rw [q] at h; cases h
      | some o =>
        obtain ⟨oc, od, dt, osl⟩ := o
        rw [q] at h
        cases oc with
        | type c =>
          cases dt with
          | seq its n =>
            obtain ⟨h1, h2⟩ := He.ba (show (decide (c = "tuple") && (decide (its.size ≤ sizeLine) && relDA K ds its.toList)) = true from h)
            obtain ⟨h3, h4⟩ := He.ba h2
            obtain ⟨vs, k1, k2⟩ := relDA_ok ds its.toList h4
            exact ⟨.ref a, rfl, (fun b z => by cases z; rfl), fun H => .tup (.inr ⟨_, its, n, q, congrArg Value.type (of_decide_eq_true h1), rfl, of_decide_eq_true h3, k1⟩) (k2 H)⟩
          | _ => cases h
        | _ => cases dt <;> cases h
    | _ => simp [relD] at h
  | .none, u, h => by simp [relD] at h
  | .bool _, u, h => by simp [relD] at h
  | .list _, u, h => by simp [relD] at h
  | .obj _ _ _, u, h => by simp [relD] at h
  | .scr _, u, h => by simp [relD] at h
  | .dict _ _, u, h => by simp [relD] at h
  | .dct _ _, u, h => by simp [relD] at h
  | .rng _ _, u, h => by simp [relD] at h
theorem relDA_ok {K : Kw} : ∀ (ds : List D) (us : List Value), relDA K ds us = true → ∃ vs : List V, Vals vs us ∧ ∀ H, DrA K H vs ds
  | [], us, h => by
    cases us with
    | nil => exact ⟨[], .nil, fun _ => .nil⟩
    | cons _ _ => simp [relDA] at h
  | d :: ds, us, h => by
    cases us with
    | nil => simp [relDA] at h
    | cons u us =>
      unfold relDA at h
      obtain ⟨h1, h2⟩ := He.ba h
      obtain ⟨v, k1, _, k2⟩ := relD_ok d u h1
      obtain ⟨vs, k3, k4⟩ := relDA_ok ds us h2
      exact ⟨v :: vs, .cons k1 k3, fun H => .cons (k2 H) (k4 H)⟩
end
def fCst (x : Str) (d : D) : Fact := fun K => (He.Fa.glo x).ok K && relD K d (.ref (He.ga K x))
theorem cst_ok {K : Kw} {x : Str} {d : D} (h : fCst x d K = true) (H : Hp) : Dr K H (.ref (He.ga K x)) d := by
  obtain ⟨v, _, e, k⟩ := relD_ok d _ (He.ba h).2
  rw [← e _ rfl]
  exact k H
end Sm
namespace Al
open PySem L2 Evl
theorem Top.cst {fs : List Fact} {fn : List He.DefD} {K : PySem.W.Frag} {mg : Str → Option Value} (T : Top fs fn K mg) (i : Nat) {x : Str} {d : Sm.D} (h : fs[i]? = some (Sm.fCst x d) := by rfl) : mg x = some (.ref (He.ga K x)) ∧ ∀ w H, Sm.Dr ⟨K, w⟩ H (.ref (He.ga K x)) d := by
  obtain ⟨_, a, b, c⟩ := T
  exact ⟨He.glo_ok a b (He.ba (c.fact i h)).1, fun w => Sm.cst_ok (K := ⟨K, w⟩) (c.fact i h)⟩
end Al

namespace Sm
open PySem L2 Evl Al PySem.Spec PyProof.Rows
def setV : List D → List D → NestedKey → D → List D
  | k :: ks, v :: vs, n, d => (if keyD k = some n then d else v) :: setV ks vs n d
  | _, vs, _, _ => vs
def putD (ks vs : List D) (n : NestedKey) (kd vd : D) : List D × List D := if (lookD ks vs n).isSome = true then (ks, setV ks vs n vd) else (ks ++ [kd], vs ++ [vd])
theorem keysD_app : ∀ {ks : List D} {ns : List NestedKey} {k : D} {n : NestedKey}, keysD ks = some ns → keyD k = some n → keysD (ks ++ [k]) = some (ns ++ [n])
  | [], ns, k, n, h, e => by cases h; simp [keysD, e]
  | d :: ds, ns, k, n, h, e => by
    simp only [keysD] at h
    obtain ⟨m, h1, h⟩ := Option.bind_eq_some_iff.mp h
    obtain ⟨ms, h2, rfl⟩ := Option.map_eq_some_iff.mp h
    simp [keysD, h1, keysD_app h2 e]
theorem setV_ok {K : Kw} {H : Hp} {n : NestedKey} {v : V} {d : D} (hv : Dr K H v d) : ∀ {es : List Ent} {ks vs : List D}, DrA K H (es.map fun e => e.2.2) vs → keysD ks = some (es.map fun e => e.1) → DrA K H ((es.map fun e => if e.1 = n then (e.1, e.2.1, v) else e).map fun e => e.2.2) (setV ks vs n d)
  | [], [], vs, h, _ => h
  | [], k :: ks, vs, _, hk => by
    simp only [keysD] at hk
    obtain ⟨m, e1, hk⟩ := Option.bind_eq_some_iff.mp hk
    obtain ⟨ns, e2, e3⟩ := Option.map_eq_some_iff.mp hk
    cases e3
  | e :: es, [], _, _, hk => by cases hk
  | e :: es, k :: ks, [], h, _ => by cases h
  | e :: es, k :: ks, x :: vs, h, hk => by
    cases h with
    | cons h1 h2 =>
      simp only [keysD] at hk
      obtain ⟨m, e1, hk⟩ := Option.bind_eq_some_iff.mp hk
      obtain ⟨ns, e2, e3⟩ := Option.map_eq_some_iff.mp hk
      rw [List.map_cons, List.cons.injEq] at e3
      obtain ⟨e3, e4⟩ := e3
      unfold setV
      rw [e1]
      refine .cons ?_ (setV_ok hv h2 (by rw [e2, e4]))
      by_cases hn : m = n
      · subst hn
        rw [if_pos rfl]
        show Dr K H (if e.1 = m then _ else _ : Ent).2.2 d
        rw [if_pos e3.symm]; exact hv
      · rw [if_neg (fun z => hn (Option.some.inj z))]
        show Dr K H (if e.1 = n then _ else _ : Ent).2.2 x
        rw [if_neg (fun z => hn (e3.trans z))]; exact h1
theorem dic_put {K : Kw} {H : Hp} {es : List Ent} {ks vs : List D} {n : NestedKey} {b : Addr} {v : V} {kd vd : D} (h : DicR K H es ks vs) (hk : Dr K H (.ref b) kd) (en : keyD kd = some n) (hv : Dr K H v vd) : DicR K H (putN es n b v) (putD ks vs n kd vd).1 (putD ks vs n kd vd).2 := by
  obtain ⟨h1, h2, h3⟩ := h
  have dv := dic_val (n := n) h2 h3
  have es' : (valN es n).isSome = (lookD ks vs n).isSome := by
    cases hl : lookD ks vs n with
    | none => rw [hl] at dv; rw [dv]; rfl
    | some d => rw [hl] at dv; obtain ⟨v, hv, _⟩ := dv; rw [hv]; rfl
  unfold putN putD
  rw [es']
  by_cases c : (lookD ks vs n).isSome = true
  · rw [if_pos c, if_pos c]
    refine ⟨?_, setV_ok hv h2 h3, ?_⟩
    · rw [List.map_map, show (es.map ((fun e : Ent => V.ref e.2.1) ∘ fun e : Ent => if e.1 = n then (e.1, e.2.1, v) else e)) = es.map (fun e => V.ref e.2.1) from List.map_congr_left fun e _ => by show V.ref (if e.1 = n then _ else _ : Ent).2.1 = _; split <;> rfl]
      exact h1
    · rw [List.map_map, show (es.map ((fun e : Ent => e.1) ∘ fun e : Ent => if e.1 = n then (e.1, e.2.1, v) else e)) = es.map (fun e => e.1) from List.map_congr_left fun e _ => by show (if e.1 = n then _ else _ : Ent).1 = _; split <;> rfl]
      exact h3
  · rw [if_neg c, if_neg c]
    refine ⟨?_, ?_, ?_⟩
    · rw [List.map_append]; exact h1.append (.one hk)
    · rw [List.map_append]; exact h2.append (.one hv)
    · rw [List.map_append]; exact keysD_app h3 en

def xSetK (i : Nat) : Env → Out := fun ρ => if i < ρ.length then .nx (ρ.set i (.k [] [])) else .st

def xPutK (i : Nat) (fk fv : Env → R D) : Env → Out := fun ρ => match ρ[i]? with
  | some (.k ks vs) => xOut fv (fun v ρ => xOut fk (fun k ρ => match keyD k with
    | some n => if ks.length < 1000000 then .nx (ρ.set i (.k (putD ks vs n k v).1 (putD ks vs n k v).2)) else .st
    | none => .st) ρ) ρ
  | _ => .st

def xIxK (i : Nat) (fb : Env → R D) : Env → R D := fun ρ => match ρ[i]? with
  | some (.k ks vs) => (fb ρ).bind fun b => R.of ((keyD b).bind (lookD ks vs))
  | _ => .st
section
variable {K : Kw} {co : Co} {E : L2.St → XK} {w : Bool} {te tb : TE} {f fb : Env → R D} {i : Nat} {p : Addr} {ρ : Env} {own : Own} {σ : L2.St} {H H' : Hp}
theorem Rs.setG {s' : Sv} (r : Rs K co ρ own σ H) (hi : i < ρ.length) (e : Ex H H') (hp : H p = none) (hs : SvR K co (oset own i (One p)) i H' (some (.ref p)) s') :
    Rs K co (ρ.set i s') (oset own i (One p)) (σ.set i (some (.ref p))) H' := by
  have fwd : ∀ a, Sx co (oset own i (One p)) a → Sx co own a ∨ a = p := fun a z => by
    rcases z with z | ⟨j, z⟩
    · exact .inl (.inl z)
    · by_cases e : j = i
      · subst e; rw [oset_same] at z; cases z; exact .inr rfl
      · rw [oset_ne e] at z; exact .inl (.inr ⟨j, z⟩)
  have ne : ∀ {j q}, own j q → q ≠ p := fun {j q} z y => by
    subst y
    exact (r.mutO z).ne hp
  have old : Ex (msk (Sx co own) H) (msk (Sx co (oset own i (One p))) H') := msk_to e fun a z => by
    rcases fwd a z with y | y
    · exact .inl y
    · subst y; exact .inr hp
  refine ⟨by rw [List.length_set, List.length_set]; exact r.len, fun j t hj => ?_, fun j hj => ?_, fun j q z => ?_, fun j q z => ?_, fun j k q z y => ?_, r.ex.trans e, r.ha, fun a h => (r.s0 a h).ex e⟩
  · by_cases ej : j = i
    · subst ej
      rw [List.getElem?_set_self hi] at hj
      cases hj
      rw [set_join (by rw [← r.len]; exact hi)]
      exact hs
    · rw [get_set_ne ej] at hj
      rw [get_set_ne ej]
      exact (r.sl j t hj).re (oset_ne ej) old (fun q _ u hu => e _ _ hu) (Ex.refl _) rfl ⟨rfl, rfl, rfl, rfl, rfl⟩
  · rw [List.length_set] at hj
    rw [oset_ne (by omega)]
    exact r.out j hj
  · by_cases ej : j = i
    · subst ej; rw [oset_same] at z; cases z; exact fresh_back r.ex hp
    · rw [oset_ne ej] at z; exact r.new j q z
  · by_cases ej : j = i
    · subst ej; rw [oset_same] at z; cases z
      exact fun y => (r.s0 _ y).ne hp
    · rw [oset_ne ej] at z; exact r.dis j q z
  · by_cases ej : j = i
    · subst ej
      rw [oset_same] at z; cases z
      by_cases ek : k = j
      · exact ek.symm
      · rw [oset_ne ek] at y; exact absurd rfl (ne y)
    · rw [oset_ne ej] at z
      by_cases ek : k = i
      · subst ek; rw [oset_same] at y; cases y; exact absurd rfl (ne z)
      · rw [oset_ne ek] at y; exact r.inj j k q z y
theorem ss_setK : SimS K co E (tAsg (tNewN K.w) (gName i)) (xSetK i) := fun ρ own σ H R Dn q => by
  unfold xSetK at q
  split at q
  · rename_i hi
    intro p hp
    exact q _ _ _ (R.setG hi (Ex.new hp) hp ⟨p, [], rfl, oset_same, upd_same, .nil, .nil, rfl⟩)
  · exact q.elim
theorem ss_putK (h : SimE K co E false te f) (hk : SimE K co E false tb fb) : SimS K co E (sPutN K.f K.w (tVar i) tb te) (xPutK i fb f) := fun ρ own σ H R Dn q => by
  unfold xPutK at q
  cases e : ρ[i]? with
  | none => rw [e] at q; exact q.elim
  | some s =>
    rw [e] at q
    cases s with
    | k ks vs =>
      obtain ⟨p, es, h1, h2, h3, h4⟩ := R.sl i _ e
      refine h ρ own σ H R _ (out_of R q fun y _ k v H2 e2 hv => ⟨_, join_some h1, ?_⟩)
      refine hk ρ own σ H2 (R.up e2) _ (out_of (R.up e2) k fun z _ k2 u H3 e3 hu => ?_)
      cases en : keyD z with
      | none => rw [en] at k2; exact k2.elim
      | some n =>
        rw [en] at k2
        dsimp only at k2
        split at k2
        · rename_i hz
          have e23 := e2.trans e3
          have h5 := h4.mono (msk_ex (S := Sx co own) e23)
          obtain ⟨b, rfl, nk, dk⟩ := key_at (hu.mono msk_le) en
          have hlen : es.length < 1000000 := by
            have := h4.1.length
            rw [List.length_map] at this
            omega
          refine ⟨p, es, b, n, rfl, e23 _ _ h3, (dic_keys h5.1 h5.2.2).tx (msk_le (S := Sx co own)).tx, szl hlen, ⟨rfl, nk, dk⟩, k2 _ _ _ ((R.up e23).put (mem1 h2) ⟨p, _, by rw [join_some h1]; rfl, h2, upd_same, ?_⟩)⟩
          rw [msk_upd (.inr ⟨i, mem1 h2⟩)]
          exact dic_put h5 hu en (hv.mono (msk_ex e3))
        · exact k2.elim
    | _ => exact q.elim
theorem se_ixK (hb : SimE K co E w tb fb) : SimE K co E false (tOp (rIxW K.f K.w) (tVar i) tb) (xIxK i fb) := fun ρ own σ H R Q q => by
  unfold xIxK at q
  cases e : ρ[i]? with
  | none => rw [e] at q; exact q.elim
  | some s =>
    rw [e] at q
    cases s with
    | k ks vs =>
      obtain ⟨p, es, h1, h2, h3, h4⟩ := R.sl i _ e
      refine ⟨_, join_some h1, ?_⟩
      refine hb ρ own σ H R _ ((q.bind).mono (fun b _ q2 y H2 e2 hy => ?_) fun _ _ z => z)
      obtain ⟨d, hg, k⟩ := q2.of
      obtain ⟨n, hn, hg⟩ := Option.bind_eq_some_iff.mp hg
      have h5 := h4.mono (msk_ex (S := Sx co own) e2)
      obtain ⟨b, hb⟩ := key_at (hy.mono msk_le) hn
      have dv := dic_val (n := n) h5.2.1 h5.2.2
      rw [hg] at dv
      obtain ⟨v, hv, hd⟩ := dv
      exact .inr (.inl ⟨_, _, b, n, v, rfl, e2 _ _ h3, (dic_keys h5.1 h5.2.2).tx (msk_le (S := Sx co own)).tx, hb, hv, k v H2 e2 hd⟩)
    | _ => exact q.elim
end

theorem pick_rev (items : Array Value) : slicePick items none none (some (-1)) = items.toList.reverse.toArray := by
  unfold slicePick
  have hb : sliceBounds none none (some (-1)) items.size = (((items.size : Nat) : Int) - 1, -1, -1) := by
    unfold sliceBounds
    simp
  rw [hb]
  dsimp only
  have hr : sliceRange (((items.size : Nat) : Int) - 1) (-1) (-1) = (List.range items.size).map fun k => items.size - 1 - k := by
    unfold sliceRange
    rw [if_neg (by decide)]
    by_cases h : ((items.size : Nat) : Int) - 1 > -1
    · rw [if_pos h]
      have e : ((((items.size : Nat) : Int) - 1 - -1 - -1 - 1) / - -1).toNat = items.size := by
        rw [show (- -1 : Int) = 1 by decide, Int.ediv_one]; omega
      dsimp only
      rw [e]
      refine List.map_congr_left fun k hk => ?_
      have := List.mem_range.mp hk
      omega
    · rw [if_neg h, show items.size = 0 by omega]; rfl
  rw [hr, PySem.W.krv_range, List.filterMap_reverse, PySem.W.krv_all]
def tRevW (K : PySem.W.Frag) (te : TE) : TE := fun σ H Q => te σ H fun x H1 => (∃ a xs, x = .ref a ∧ SqT K H1 a xs ∧ ∀ p, H1 p = none → Q (.ref p) (upd H1 p (.tup xs.reverse))) ∨ ∃ a xs, x = .ref a ∧ SqL K H1 a xs ∧ ∀ p, H1 p = none → Q (.ref p) (upd H1 p (.lst xs.reverse))
theorem pe_revW {X : Cx} {K : PySem.W.Frag} (hK : X.K = K) {e : Expr} {te : TE} {k : Nat} {p1 p2 p3 pos : Pos} (he : PE X e te) : PE X (.Subscript e (.Slice none none (some (.UnaryOp .USub (.Constant (.int 1) k p1) p2)) p3) pos) (tRevW K te) := by
  subst hK
  refine ⟨fun pins s σ H Q I h => Subscript_ (thn (he.run pins s σ H _ I h) fun v s1 ⟨x, H1, I1, r1, q1⟩ => ?_)⟩
  have step : PO X (some (.UnaryOp .USub (.Constant (.int 1) k p1) p2)) (tPart (tUn (rU fun i => .int (-i)) (tC (.int 1)))) := po_some (pe_un un_neg pe_int)
  refine wpAny_Slice (thn (po_none.run pins s1 σ H1 (fun o H2 => o = none ∧ H2 = H1) I1 ⟨rfl, rfl⟩) fun vl s2 ⟨l, H2, I2, pl, el, e2⟩ => ?_)
  subst el e2
  refine thn (po_none.run pins s2 σ H2 (fun o H3 => o = none ∧ H3 = H2) I2 ⟨rfl, rfl⟩) fun vu s3 ⟨u, H3, I3, pu, eu, e3⟩ => ?_
  subst eu e3
  refine thn (step.run pins s3 σ H3 (fun o H4 => o = some (-1) ∧ H4 = H3) I3 ⟨1, rfl, -1, rfl, rfl, rfl⟩) fun vs s4 ⟨o, H4, I4, ps, eo, e4⟩ => ?_
  subst eo e4
  cases pl
  cases pu
  have I5 : Inv X pins σ H4 { s4 with heap := s4.heap.push { cls := .type "slice", data := .fields #[.none, .none, vs] } } := I4.kept (t' := s4.toks) fun b ob q => Heap.get?_push_of_some _ q
  rcases q1 with ⟨a, xs, ex, hx, q⟩ | ⟨a, xs, ex, hx, q⟩
  · subst ex
    cases r1
    obtain ⟨its, r, ht, hz⟩ := I5.tuple hx
    have len := r.length
    show wpAny (model X.prog X.w) X.A (subscriptTail e (.Slice none none (some (.UnaryOp .USub (.Constant (.int 1) k p1) p2)) p3) (.ref a) (.ref s4.heap.objs.size)) (EP X pins σ Q) X.xe { s4 with heap := s4.heap.push { cls := .type "slice", data := .fields #[.none, .none, vs] } }
    refine tail_any (ops := [.ref a, .ref s4.heap.objs.size]) ht.typeIs (PyProof.Rows.slot_tuple_getitem.lookup) ?_ (by with_unfolding_all rfl)
    refine item_back ht (Heap.IsSliceOf.new _ .none .none vs) ps ?_ (by rw [List.size_toArray]; omega)
    refine ⟨.ref _, _, I5.laid (t' := s4.toks) (o := .tup xs.reverse) (fun b ob q => Heap.get?_push_of_some _ q) (Nat.le_refl _) ?_, rfl, q _ (I5.hok.fresh (Nat.le_refl _))⟩
    exact ⟨by rw [List.length_reverse]; exact hz, _, r.reverse, IsTup.new _ _⟩
  · subst ex
    cases r1
    obtain ⟨its, r, pl, hz⟩ := I5.list hx
    have len := r.length
    show wpAny (model X.prog X.w) X.A (subscriptTail e (.Slice none none (some (.UnaryOp .USub (.Constant (.int 1) k p1) p2)) p3) (.ref a) (.ref s4.heap.objs.size)) (EP X pins σ Q) X.xe { s4 with heap := s4.heap.push { cls := .type "slice", data := .fields #[.none, .none, vs] } }
    refine tail_any (ops := [.ref a, .ref s4.heap.objs.size]) pl.isList.typeIs (slot_list_getitem.lookup) ?_ (by with_unfolding_all rfl)
    refine wpAny_getItem_list_slice (lo := none) (hi := none) (st := some (-1)) pl.isList (Heap.IsSliceOf.new _ .none .none vs) .none .none ps (by decide) ?_ (by rw [List.size_toArray]; omega)
    rw [pick_rev]
    refine ⟨.ref _, _, I5.laid (t' := s4.toks) (o := .lst xs.reverse) (fun b ob q => Heap.get?_push_of_some _ q) (Nat.le_refl _) ?_, rfl, q _ (I5.hok.fresh (Nat.le_refl _))⟩
    exact ⟨by rw [List.length_reverse]; exact hz, its.reverse, 0, r.reverse, Heap.get?_push_size _ rfl⟩
section
variable {K : Kw} {co : Co} {E : L2.St → XK} {w w1 : Bool} {ta : TE} {fa : Env → R D} {fn : Env → R (List D)}
theorem se_revW (h : SimE K co E w ta fa) : SimE K co E w (tRevW K.f ta) (x1 dRevT fa) := fun ρ own σ H R Q q => by
  refine h ρ own σ H R _ ((q.bind).mono (fun a _ q2 x H1 e1 hx => ?_) fun _ _ z => z)
  obtain ⟨d, hg, k⟩ := q2.of
  cases hx with
  | tup h a =>
    cases hg
    refine .inl ⟨_, _, rfl, ex_t msk_le h, fun p hp => k _ _ (e1.trans (Ex.new hp)) (.tup (st_of ?_) (a.reverse.mono (msk_ex (Ex.new hp))))⟩
    rw [msk_at (fun z => (sw_mut (R.up e1) w p z).ne hp)]
    exact upd_same
  | _ => cases hg
def nRevL (fn : Env → R (List D)) : Env → R (List D) := fun ρ => (fn ρ).bind fun xs => .ok xs.reverse
theorem sn_revW (h : SimL K co E ta fn) : SimN K co E (tRevW K.f ta) (nRevL fn) := fun ρ own σ H R Q q => by
  refine h ρ own σ H R _ ((q.bind).mono (fun xs _ k p vs H1 e1 hl hd => ?_) fun _ _ z => z)
  exact .inr ⟨p, vs, rfl, sq_of hl, fun l hl2 => k l _ _ (fresh_back e1 hl2) (e1.trans (Ex.new hl2)) upd_same (new_of hd.reverse hl2)⟩
end

section
variable {K : PySem.W.Frag} {w : World} {co : Co} {E : L2.St → XK} {b b1 b2 : Bool} {te ta tb : TE} {f fa fb : Env → R D} {fn ga : Env → R (List D)} {i : Nat}
theorem os_ixK : OpS ⟨K, w⟩ b (rIxW K w) dIx := os_ix
theorem of_inK : OpF ⟨K, w⟩ (rInW K w false) dIn := of_in
theorem of_ninK : OpF ⟨K, w⟩ (rInW K w true) dNin := of_nin
theorem se_lenK (h : SimE ⟨K, w⟩ co E b1 ta fa) : SimE ⟨K, w⟩ co E b (tCB (rLenW K w) (tCons ta tNil)) (x1 dLen fa) := se_len h
theorem se_lenLK (h : SimL ⟨K, w⟩ co E ta ga) : SimE ⟨K, w⟩ co E b (tCB (rLenW K w) (tCons ta tNil)) (fun ρ => (ga ρ).bind fun a => .ok (.int (a.length : Nat))) := se_lenL h
theorem sv_ixK (ha : SimV ⟨K, w⟩ co E ta fa) (hb : SimE ⟨K, w⟩ co E b tb fb) : SimV ⟨K, w⟩ co E (tOp (rIxW K w) ta tb) (x2 dIx fa fb) := sv_ix ha hb
theorem se_ixLK (ha : SimL ⟨K, w⟩ co E ta ga) (hb : SimE ⟨K, w⟩ co E b tb fb) : SimE ⟨K, w⟩ co E false (tOp (rIxW K w) ta tb) (xIxL ga fb) := se_ixL ha hb
theorem se_ixKK (hb : SimE ⟨K, w⟩ co E b tb fb) : SimE ⟨K, w⟩ co E false (tOp (rIxW K w) (tVar i) tb) (xIxK i fb) := se_ixK hb
theorem ss_setKK : SimS ⟨K, w⟩ co E (tAsg (tNewN w) (gName i)) (xSetK i) := ss_setK
theorem ss_putKK (h : SimE ⟨K, w⟩ co E false te f) (hk : SimE ⟨K, w⟩ co E false tb fb) : SimS ⟨K, w⟩ co E (sPutN K w (tVar i) tb te) (xPutK i fb f) := ss_putK h hk
theorem se_revWK (h : SimE ⟨K, w⟩ co E b ta fa) : SimE ⟨K, w⟩ co E b (tRevW K ta) (x1 dRevT fa) := se_revW h
theorem sn_revWK (h : SimL ⟨K, w⟩ co E ta fn) : SimN ⟨K, w⟩ co E (tRevW K ta) (nRevL fn) := sn_revW h
end
end Sm

namespace Sm
open PySem L2 Evl Al PySem.Spec PyProof.Rows
section
variable {K : Kw} {co : Co} {E : L2.St → XK} {ta tb tc : TE} {i j l : Nat}
theorem ss_par3 {fp : Env → R (List Sv)} (h : SimP K co E (tCons ta (tCons tb (tCons tc tNil))) fp) : SimS K co E (tPar3 i j l (tCons ta (tCons tb (tCons tc tNil)))) (xPar [i, j, l] fp) := fun ρ own σ H R Dn q => by
  refine h ρ own σ H R _ (outP_of R q fun ss _ k vs T ps H2 e h1 h2 h3 hp => ?_)
  split at k
  · rename_i hc
    obtain ⟨hl, hi⟩ := hc
    have hv := hp.len
    rw [hl] at hv
    match vs, hv with
    | [v, w, u], _ =>
      obtain ⟨o', R'⟩ := par_end (is := [i, j, l]) R e h1 h2 h3 hp (fun n hn => by simpa using List.all_eq_true.mp hi n hn)
      exact ⟨v, w, u, rfl, k o' _ H2 R'⟩
  · exact k.elim
end

def srtI (ns : List Int) : List Int := ns.mergeSort fun a b => decide (a ≤ b)
theorem srt_one : ∀ {a b : List Int}, a.Perm b → a.Pairwise (· ≤ ·) → b.Pairwise (· ≤ ·) → a = b
  | [], b, h, _, _ => by rw [List.nil_perm] at h; exact h.symm
  | x :: a, [], h, _, _ => by have := h.length_eq; simp at this
  | x :: a, y :: b, h, ha, hb => by
    have ha' := List.pairwise_cons.mp ha
    have hb' := List.pairwise_cons.mp hb
    have hxy : x = y := by
      have h1 : x ∈ y :: b := h.mem_iff.mp (by simp)
      have h2 : y ∈ x :: a := h.mem_iff.mpr (by simp)
      rcases List.mem_cons.mp h1 with h1 | h1
      · exact h1
      · rcases List.mem_cons.mp h2 with h2 | h2
        · exact h2.symm
        · have := ha'.1 y h2
          have := hb'.1 x h1
          omega
    subst hxy
    rw [srt_one (List.Perm.cons_inv h) ha'.2 hb'.2]
theorem srtI_of {ns ns' : List Int} (h : ns'.Perm ns) (hs : ns'.Pairwise (· ≤ ·)) : ns' = srtI ns := by
  refine srt_one (h.trans (List.mergeSort_perm ns _).symm) hs ?_
  refine (List.pairwise_mergeSort (le := fun a b : Int => decide (a ≤ b)) (fun a b c h1 h2 => ?_) (fun a b => ?_) ns).imp fun h => of_decide_eq_true h
  · have := of_decide_eq_true h1
    have := of_decide_eq_true h2
    exact decide_eq_true (by omega)
  · rcases Int.le_total a b with h | h <;> simp [h]
def sortD : D → Option (List D)
  | .list xs => (intsD xs).map fun ns => (srtI ns).map .int
  | _ => none
def nSort (f : Env → R D) : Env → R (List D) := fun ρ => (f ρ).bind fun d => R.of (sortD d)
section
variable {K : Kw} {co : Co} {E : L2.St → XK} {ta : TE} {fa : Env → R D} {w : Bool}
theorem ints_rel {H : Hp} : ∀ ns : List Int, DrA K H (ns.map V.int) (ns.map D.int)
  | [] => .nil
  | n :: ns => .cons (.int _) (ints_rel ns)
theorem sn_sort (h : SimE K co E w ta fa) : SimN K co E (tCB (rSortedI K.f) (tCons ta tNil)) (nSort fa) := fun ρ own σ H R Q q => by
  refine h ρ own σ H R _ ((q.bind).mono (fun a _ q2 x H1 e1 hx => ?_) fun _ _ z => z)
  obtain ⟨d, hg, k⟩ := q2.of
  cases dr_full hx with
  | lst h a =>
    obtain ⟨bs, hb, rfl⟩ := Option.map_eq_some_iff.mp hg
    rw [ints_of a hb] at h
    refine ⟨_, bs, rfl, sq_of h, fun ns' p hp hs hl => ?_⟩
    rw [srtI_of hp hs]
    exact k p _ _ (fresh_back e1 hl) (e1.trans (Ex.new hl)) upd_same (ints_rel _)
  | _ => cases hg
end
theorem cr_sortedK {X : Cx} {K : PySem.W.Frag} (h : X.K = K) : CallR X (.builtin "sorted") (rSortedI K) := h ▸ cr_sortedI
end Sm

namespace Sm
open PySem L2 Evl Al PySem.Spec PyProof.Rows
section
variable {K : Kw} {co : Co} {E : L2.St → XK} {w w1 : Bool} {te ta tb tc : TE} {f fa fb : Env → R D} {i j l : Nat}

def xAppPop (i l : Nat) (f : Env → R D) : Env → Out := fun ρ => if i = l then .st else match ρ[i]?, ρ[l]? with
  | some (.m ys), some (.m xs) => xOut f (fun y ρ => match y with
    | .int n => match ixN xs.length n with
      | some k => match xs[k]? with
        | some d => if n ≤ 1000000 ∧ -1000000 ≤ n ∧ ys.length < 1000000 then .nx ((ρ.set l (.m (xs.eraseIdx k))).set i (.m (ys ++ [d]))) else .st
        | none => .st
      | none => .st
    | _ => .st) ρ
  | _, _ => .st
theorem ss_appPop (h : SimE K co E w tb fb) : SimS K co E (tDrop (tBM K "list" rAppend (tVar i) (tCons (tBM K "list" rPopAt (tVar l) (tCons tb tNil)) tNil))) (xAppPop i l fb) := fun ρ own σ H R Dn q => by
  unfold xAppPop at q
  by_cases hil : i = l
  · rw [if_pos hil] at q; exact q.elim
  · rw [if_neg hil] at q
    cases ei : ρ[i]? with
    | none => rw [ei] at q; exact q.elim
    | some si =>
      cases el : ρ[l]? with
      | none => rw [ei, el] at q; cases si <;> exact q.elim
      | some sl =>
        rw [ei, el] at q
        cases si with
        | m ys =>
          cases sl with
          | m xs =>
            obtain ⟨p0, us0, g1, g2, g3, g4⟩ := R.sl i _ ei
            obtain ⟨p, vs, h1, h2, h3, h4⟩ := R.sl l _ el
            refine ⟨_, join_some g1, Or.inl ⟨rfl, us0, sq_of g3⟩, ?_⟩
            refine ⟨_, join_some h1, Or.inl ⟨rfl, vs, sq_of h3⟩, h ρ own σ H R _ (out_of R q fun y _ k u H2 e2 hu => ?_)⟩
            cases hu with
            | int n =>
              dsimp only at k
              cases en : ixN xs.length n with
              | none => rw [en] at k; exact k.elim
              | some kk =>
                rw [en] at k
                dsimp only at k
                cases ek : xs[kk]? with
                | none => rw [ek] at k; exact k.elim
                | some d =>
                  rw [ek] at k
                  dsimp only at k
                  split at k
                  · rename_i hn
                    have h4 := h4.mono (msk_ex e2)
                    obtain ⟨v, hv1, hv2⟩ := h4.get' ek
                    have q2 := ixN_seq (n := vs.length) (i := n) (j := kk) (by rw [h4.length]; exact en)
                    refine ⟨p, vs, n, kk, v, rfl, rfl, e2 _ _ h3, by omega, by omega, q2.1, hv1, ?_⟩
                    have RR := (R.up e2).putM (join_some h1) h2 (h4.erase kk)
                    have ei2 : (ρ.set l (.m (xs.eraseIdx kk)))[i]? = some (.m ys) := by rw [get_set_ne hil]; exact ei
                    obtain ⟨p1, us, k1, k2, k3, k4⟩ := RR.sl i _ ei2
                    rw [g1] at k1
                    cases k1
                    refine ⟨p0, us, v, rfl, rfl, k3, szl (by rw [k4.length]; omega), k _ _ _ (RR.putM (join_some g1) k2 (k4.append (.one ?_)))⟩
                    rw [msk_upd (.inr ⟨l, mem1 h2⟩)]
                    exact hv2
                  · exact k.elim
            | _ => exact k.elim
          | _ => exact q.elim
        | _ => cases sl <;> exact q.elim

def xPutV (i : Nat) (fj : Env → R D) (y : D) : Env → Out := fun ρ => match ρ[i]? with
  | some (.m xs) => xOut fj (fun z ρ => match z with
    | .int n => match ixN xs.length n with
      | some k => .nx (ρ.set i (.m (xs.set k y)))
      | none => .st
    | _ => .st) ρ
  | _ => .st
theorem sg_sub {ρ : Env} {own : Own} {σ : L2.St} {H : Hp} {v : V} {y : D} {Dn : Ends} {Q : L2.St → Hp → Prop} (hj : SimE K co E w tb fb) (R : Rs K co ρ own σ H) (hy : Dr K (msk (Sx co own) H) v y) (q : OP K co E Dn (xPutV i fb y ρ))
    (k : ∀ ρ' H', xPutV i fb y ρ = .nx ρ' → Rs K co ρ' own σ H' → Ex (msk (Sx co own) H) (msk (Sx co own) H') → Q σ H') : gSub (tVar i) tb rSetL v σ H Q := by
  unfold xPutV at q
  cases e : ρ[i]? with
  | none => rw [e] at q; exact q.elim
  | some s =>
    rw [e] at q
    cases s with
    | m xs =>
      obtain ⟨p, vs, h1, h2, h3, h4⟩ := R.sl i _ e
      refine ⟨_, join_some h1, hj ρ own σ H R _ (out_of R q fun z ez k2 u H3 e3 hu => ?_)⟩
      cases hu with
      | int n =>
        dsimp only at k2
        cases en : ixN xs.length n with
        | none => rw [en] at k2; exact k2.elim
        | some kk =>
          refine ⟨p, vs, n, kk, rfl, rfl, e3 _ _ h3, by rw [h4.length]; exact en, k (ρ.set i (.m (xs.set kk y))) _ ?_ ((R.up e3).putM (join_some h1) h2 ((h4.mono (msk_ex e3)).set kk (hy.mono (msk_ex e3)))) ?_⟩
          · unfold xPutV xOut
            rw [e]; dsimp only; rw [ez]; dsimp only; rw [en]
          · rw [msk_upd (.inr ⟨i, mem1 h2⟩)]; exact msk_ex e3
      | _ => exact k2.elim
    | _ => exact q.elim

def xPut2 (i : Nat) (fa : Env → R D) (j : Nat) (fb : Env → R D) (f : Env → R D) : Env → Out := xOut f fun d ρ => match itemsD d with
  | some [x, y] => xSeq (xPutV i fa x) (xPutV j fb y) ρ
  | _ => .st
theorem ss_put2 (h : SimE K co E false te f) (ha : SimE K co E w ta fa) (hb : SimE K co E w1 tb fb) : SimS K co E (tAsg te (gSeq K 2 (gCons (gSub (tVar i) ta rSetL) (gCons (gSub (tVar j) tb rSetL) gNil)))) (xPut2 i fa j fb f) := fun ρ own σ H R Dn q => by
  refine h ρ own σ H R _ (out_of R q fun d _ k v H2 e2 hv => ?_)
  have R2 := R.up e2
  cases hi : itemsD d with
  | none => rw [hi] at k; exact k.elim
  | some ys =>
    rw [hi] at k
    obtain ⟨p, vs, rfl, hp, hd⟩ := seq_items (S := Sx co own) (Hq := H2) hv hi msk_le
    cases hd with
    | nil => exact k.elim
    | @cons v1 vs1 x xs1 hx hr =>
      cases hr with
      | nil => exact k.elim
      | @cons v2 vs2 y xs2 hy hn =>
        cases hn with
        | cons _ _ => exact k.elim
        | nil =>
          dsimp only at k
          have kk : gCons (gSub (tVar i) ta rSetL) (gCons (gSub (tVar j) tb rSetL) gNil) [v1, v2] σ H2 Dn.nx := by
            refine ⟨v1, [v2], rfl, sg_sub (Dn := { Dn with nx := fun _ _ => True }) ha R2 hx ?_ fun ρ' H' e' R' ee => ?_⟩
            · unfold xSeq at k
              cases eo : xPutV i fa x ρ with
              | nx ρ' => exact fun _ _ _ _ => trivial
              | rt d => rw [eo] at k; exact k
              | rn d => rw [eo] at k; exact k
              | rnT d => rw [eo] at k; exact k
              | bk d => rw [eo] at k; exact k
              | ct d => rw [eo] at k; exact k
              | er c d => rw [eo] at k; exact k
              | st => rw [eo] at k; exact k
            · unfold xSeq at k
              rw [e'] at k
              dsimp only at k
              refine ⟨v2, [], rfl, sg_sub (Dn := Dn) hb R' (hy.mono ee) k fun ρ2 H3 e3 R3 _ => ?_⟩
              rw [e3] at k
              exact ⟨rfl, k own σ H3 R3⟩
          rcases hp with hp | hp
          · exact .inr ⟨p, _, rfl, hp, rfl, kk⟩
          · exact .inl ⟨p, _, rfl, hp, rfl, kk⟩
end

def cmpOkL (f : PyData → PyData → Bool) : List PyData → List PyData → Bool
  | x :: xs, y :: ys => (PyData.eqv x y || f x y) && cmpOkL f xs ys
  | _, _ => true

def cmpOk : Nat → PyData → PyData → Bool
  | 0 => fun p q => match p, q with
    | .int _, .int _ => true
    | _, _ => false
  | n + 1 => fun p q => match p, q with
    | .int _, .int _ => true
    | .tuple xs, .tuple ys => cmpOkL (cmpOk n) xs ys
    | _, _ => false
def cmpBL (le : Bool) (f : PyData → PyData → Bool) : List PyData → List PyData → Bool
  | [], ys => le || !ys.isEmpty
  | _ :: _, [] => false
  | x :: xs, y :: ys => if PyData.eqv x y = true then cmpBL le f xs ys else f x y

def cmpB (le : Bool) : Nat → PyData → PyData → Bool
  | 0 => fun p q => match p, q with
    | .int a, .int b => if le = true then decide (a ≤ b) else decide (a < b)
    | _, _ => false
  | n + 1 => fun p q => match p, q with
    | .int a, .int b => if le = true then decide (a ≤ b) else decide (a < b)
    | .tuple xs, .tuple ys => cmpBL le (cmpB le n) xs ys
    | _, _ => false
section
open PySem.SeqAt
def cmpZ (le : Bool) (n m : Nat) : Bool := if le = true then decide (n ≤ m) else decide (n < m)

def cmpAt (f : PyData → PyData → Bool) : List PyData → List PyData → Nat → Bool
  | x :: _, y :: _, 0 => f x y
  | _ :: xs, _ :: ys, j + 1 => cmpAt f xs ys j
  | _, _, _ => false
theorem lexAt_cmp {le : Bool} {f : PyData → PyData → Bool} {e r : Nat → Bool} : ∀ (xs ys : List PyData) (i : Nat), (∀ j, j < xs.length → j < ys.length → e (i + j) = pairEq xs ys j) → (∀ j, j < xs.length → j < ys.length → r (i + j) = cmpAt f xs ys j) →
    Ob.lexAt e r (cmpZ le xs.length ys.length) i (min xs.length ys.length) = cmpBL le f xs ys
  | [], ys, i, _, _ => by
    rw [show min ([] : List PyData).length ys.length = 0 by simp, Ob.lexAt_zero]
    unfold cmpZ cmpBL
    cases le <;> cases ys <;> simp
  | x :: xs, [], i, _, _ => by
    rw [show min (x :: xs).length ([] : List PyData).length = 0 by simp, Ob.lexAt_zero]
    unfold cmpZ cmpBL
    cases le <;> simp
  | x :: xs, y :: ys, i, he, hr => by
    rw [show min (x :: xs).length (y :: ys).length = min xs.length ys.length + 1 by rw [List.length_cons, List.length_cons]; omega, Ob.lexAt_succ]
    have h0 := he 0 (by simp) (by simp)
    have h1 := hr 0 (by simp) (by simp)
    rw [Nat.add_zero] at h0 h1
    rw [h0, h1]
    have z : cmpZ le (x :: xs).length (y :: ys).length = cmpZ le xs.length ys.length := by
      unfold cmpZ
      simp
    rw [z]
    unfold cmpBL
    by_cases q : PyData.eqv x y = true
    · rw [if_pos q, if_pos (show pairEq (x :: xs) (y :: ys) 0 = true from q)]
      exact lexAt_cmp xs ys (i + 1) (fun j a b => by rw [show i + 1 + j = i + (j + 1) by omega]; exact he (j + 1) (by simp; omega) (by simp; omega)) (fun j a b => by rw [show i + 1 + j = i + (j + 1) by omega]; exact hr (j + 1) (by simp; omega) (by simp; omega))
    · rw [if_neg q, if_neg (show ¬ pairEq (x :: xs) (y :: ys) 0 = true from q)]
      rfl
def opOf (le : Bool) : CmpOp := if le = true then .LtE else .Lt
theorem rc_tuples {le : Bool} {A : Around} {s : Shared} {l b : Addr} {items items2 : Array Value} {e r : Nat → Bool} (hl : s.heap.IsTuple l items) (hb : s.heap.IsTuple b items2) (hu : A.units < cLine)
    (he : ∀ j (h1 : j < items.size) (h2 : j < items2.size), EqAt A.in1 s items[j] items2[j] (e j))
    (hr : ∀ j (h1 : j < items.size) (h2 : j < items2.size), e j = false → Ob.RcOp (opOf le) A.in1 s items[j] items2[j] (r j)) :
    Ob.RcOp (opOf le) A s (.ref l) (.ref b) (Ob.lexAt e r (cmpZ le items.size items2.size) 0 (min items.size items2.size)) := by
  cases le with
  | true => exact Ob.RcOp.tuples_le hl hb hu he hr
  | false => exact Ob.RcOp.tuples_lt hl hb hu he hr
def RcAll (le : Bool) (n : Nat) : Prop := ∀ (p q : PyData) (A : Around) (s : Shared) (a b : Value) (as bs : List Addr), Reads s.heap a p as → Reads s.heap b q bs → p.canLay0 = true → q.canLay0 = true → p.depth ≤ 30 + n → cmpOk n p q = true → A.units + n + 60 < cLine → Ob.RcOp (opOf le) A s a b (cmpB le n p q)
theorem rc_list {le : Bool} {n : Nat} (H : RcAll le n) : ∀ (xs ys : List PyData) (A : Around) (s : Shared) (vs ws : List Value) (as bs : List Addr), ReadsAll s.heap vs xs as → ReadsAll s.heap ws ys bs → PyData.canLayAll0 xs = true → PyData.canLayAll0 ys = true → PyData.depthAll xs ≤ 30 + n → cmpOkL (cmpOk n) xs ys = true → A.units + n + 60 < cLine →
    ∀ j (h1 : j < vs.length) (h2 : j < ws.length), pairEq xs ys j = false → Ob.RcOp (opOf le) A s vs[j] ws[j] (cmpAt (cmpB le n) xs ys j)
  | [], _, _, _, _, _, _, _, ra, _, _, _, _, _, _, j, h1, _, _ => by cases ra; exact absurd h1 (Nat.not_lt_zero _)
  | _ :: _, [], _, _, _, _, _, _, _, rb, _, _, _, _, _, j, _, h2, _ => by cases rb; exact absurd h2 (Nat.not_lt_zero _)
  | x :: xs, y :: ys, A, s, _, _, _, _, ra, rb, ha, hb, hd, hk, hu, j, h1, h2, ej => by
    have ha' : x.canLay0 = true ∧ PyData.canLayAll0 xs = true := by simpa [PyData.canLayAll0] using ha
    have hb' : y.canLay0 = true ∧ PyData.canLayAll0 ys = true := by simpa [PyData.canLayAll0] using hb
    have hd' : x.depth ≤ 30 + n ∧ PyData.depthAll xs ≤ 30 + n := by simp only [PyData.depthAll] at hd; omega
    have hk' : (PyData.eqv x y || cmpOk n x y) = true ∧ cmpOkL (cmpOk n) xs ys = true := by simpa only [cmpOkL, Bool.and_eq_true] using hk
    cases ra with
    | cons r rs =>
      cases rb with
      | cons r' rs' =>
        cases j with
        | zero =>
          have ex : PyData.eqv x y = false := ej
          have hkx := hk'.1
          rw [ex, Bool.false_or] at hkx
          exact H x y A s _ _ _ _ r r' ha'.1 hb'.1 hd'.1 hkx hu
        | succ j => exact rc_list H xs ys A s _ _ _ _ rs rs' ha'.2 hb'.2 hd'.2 hk'.2 hu j (Nat.lt_of_succ_lt_succ h1) (Nat.lt_of_succ_lt_succ h2) ej
theorem rc_int {le : Bool} {A : Around} {s : Shared} (a b : Int) (t u : Tok) : Ob.RcOp (opOf le) A s (.int a t) (.int b u) (if le = true then decide (a ≤ b) else decide (a < b)) := by
  cases le with
  | true => exact Ob.RcOp.le_int _ _ _ _
  | false => exact Ob.RcOp.lt_int _ _ _ _
theorem rc_cmp {le : Bool} : ∀ n : Nat, RcAll le n
  | 0 => fun p q A s a b as bs ra rb ha hb hd hk hu => by
    match p, q, ra, rb, hk with
    | .int x, .int y, ra, rb, _ =>
      cases ra
      cases rb
      exact rc_int _ _ _ _
  | n + 1 => fun p q A s a b as bs ra rb ha hb hd hk hu => by
    match p, q, ra, rb, ha, hb, hd, hk with
    | .int x, .int y, ra, rb, _, _, _, _ =>
      cases ra
      cases rb
      exact rc_int _ _ _ _
    | .tuple xs, .tuple ys, ra, rb, ha, hb, hd, hk =>
      cases ra with
      | @tuple l o vs m _ as' h1 h2 h3 h4 =>
        cases rb with
        | @tuple l' o' vs' m' _ bs' k1 k2 k3 k4 =>
          have hl : s.heap.IsTuple l vs := ⟨_, h1, h2, _, h3⟩
          have hl' : s.heap.IsTuple l' vs' := ⟨_, k1, k2, _, k3⟩
          have n1 := ReadsAll.length _ _ _ h4
          have n2 := ReadsAll.length _ _ _ k4
          have hx : PyData.canLayAll0 xs = true := by simpa [PyData.canLay0] using ha
          have hy : PyData.canLayAll0 ys = true := by simpa [PyData.canLay0] using hb
          have hdx : PyData.depthAll xs ≤ 30 + n := by simp only [PyData.depth] at hd; omega
          have ui : A.in1.units = A.units + 1 := rfl
          have hm : min (PyData.depthAll xs) (PyData.depthAll ys) ≤ PyData.depthAll xs := Nat.min_le_left _ _
          have RR := rc_tuples (le := le) (A := A) (s := s) (e := pairEq xs ys) (r := cmpAt (cmpB le n) xs ys) hl hl' (by omega) (fun j j1 j2 => by
            have := eqAt_readsAll xs ys A.in1 s vs.toList vs'.toList _ _ h4 k4 hx hy (by rw [ui]; omega) j (by simpa using j1) (by simpa using j2)
            simpa using this) (fun j j1 j2 ej => by
            have := rc_list (rc_cmp (le := le) n) xs ys A.in1 s vs.toList vs'.toList _ _ h4 k4 hx hy hdx hk (by rw [ui]; omega) j (by simpa using j1) (by simpa using j2) ej
            simpa using this)
          have sz1 : vs.size = xs.length := by rw [← Array.length_toList]; exact n1
          have sz2 : vs'.size = ys.length := by rw [← Array.length_toList]; exact n2
          rw [sz1, sz2, lexAt_cmp (f := cmpB le n) xs ys 0 (fun j _ _ => by rw [Nat.zero_add]) (fun j _ _ => by rw [Nat.zero_add])] at RR
          exact RR
end
def rOrd (K : PySem.W.Frag) (le : Bool) : R2 := fun x y H Q => ∃ p q, Dp K H x p ∧ Dp K H y q ∧ p.canLay0 = true ∧ q.canLay0 = true ∧ p.depth ≤ 30 ∧ cmpOk 4 p q = true ∧ Q (.bl (cmpB le 4 p q)) H
theorem op_ordLt {X : Cx} {K : PySem.W.Frag} (h : X.K = K) (hu : X.A.units + 64 < cLine) : OpR X (compareOp .Lt) (rOrd K false) := by
  subst h
  intro pins s σ H x y v u Q I rx ry h
  obtain ⟨p, q, hx, hy, c1, c2, d1, ok, k⟩ := h
  obtain ⟨as, r1⟩ := Dp.reads I p x v hx rx
  obtain ⟨bs, r2⟩ := Dp.reads I q y u hy ry
  exact rc_cmp (le := false) 4 p q X.A s v u as bs r1 r2 c1 c2 (by omega) ok (by omega) X.prog X.w X.xe (EP X pins σ Q) ⟨.bl _, H, I, rfl, k⟩
theorem op_ordLe {X : Cx} {K : PySem.W.Frag} (h : X.K = K) (hu : X.A.units + 64 < cLine) : OpR X (compareOp .LtE) (rOrd K true) := by
  subst h
  intro pins s σ H x y v u Q I rx ry h
  obtain ⟨p, q, hx, hy, c1, c2, d1, ok, k⟩ := h
  obtain ⟨as, r1⟩ := Dp.reads I p x v hx rx
  obtain ⟨bs, r2⟩ := Dp.reads I q y u hy ry
  exact rc_cmp (le := true) 4 p q X.A s v u as bs r1 r2 c1 c2 (by omega) ok (by omega) X.prog X.w X.xe (EP X pins σ Q) ⟨.bl _, H, I, rfl, k⟩
def dOrd (le : Bool) (a b : D) : Option D := match D.py a, D.py b with
  | some p, some q => if (p.canLay0 && q.canLay0 && decide (p.depth ≤ 30) && cmpOk 4 p q) = true then some (.bool (cmpB le 4 p q)) else none
  | _, _ => none
theorem of_ord {K : Kw} {le : Bool} : OpF K (rOrd K le) (dOrd le) := fun H x y a b d Q hx hy hg k => by
  unfold dOrd at hg
  cases e1 : D.py a with
  | none => rw [e1] at hg; cases hg
  | some p =>
    cases e2 : D.py b with
    | none => rw [e1, e2] at hg; cases hg
    | some q =>
      rw [e1, e2] at hg
      dsimp only at hg
      split at hg
      · cases hg
        rename_i hc
        simp only [Bool.and_eq_true, decide_eq_true_eq] at hc
        exact ⟨p, q, hx.dp e1, hy.dp e2, hc.1.1.1, hc.1.1.2, hc.1.2, hc.2, k _ fun _ => .bl _⟩
      · cases hg
end Sm

namespace Sm
open PySem L2 Evl Al PySem.Spec PyProof.Rows

def Tn.kids : Tn → List Tn
  | .f _ => []
  | .l ts => ts
  | .k _ ts => ts
  | .j _ ts => ts
  | .jz _ ts => ts
  | .o _ _ ts => ts
def Tn.withKids : Tn → List Tn → Tn
  | .f d, _ => .f d
  | .l _, ts => .l ts
  | .k ks _, ts => .k ks ts
  | .j ks _, ts => .j ks ts
  | .jz ks _, ts => .jz ks ts
  | .o c ns _, ts => .o c ns ts
def Tn.at : List Nat → Tn → Option Tn
  | [], t => some t
  | n :: π, t => (t.kids[n]?).bind (Tn.at π)
def Tn.put : List Nat → Tn → Tn → Tn
  | [], _, u => u
  | n :: π, t, u => match t.kids[n]? with
    | some c => t.withKids (t.kids.set n (Tn.put π c u))
    | none => t
section
variable {K : Kw} {M M' M2 H H' H2 : Hp} {S S' T : Addr → Prop} {v w : V} {vs : List V} {t u c : Tn} {ts : List Tn} {p : Addr} {n : Nat}

inductive Nd (K : Kw) (M H : Hp) : Addr → Tn → List V → Prop
  | l {p : Addr} {vs : List V} {ts : List Tn} : H p = some (.lst vs) → Nd K M H p (.l ts) vs
  | k {p : Addr} {es : List Ent} {ks : List D} {ts : List Tn} : H p = some (dN K.w p es) → DrA K M (es.map fun e => V.ref e.2.1) ks → keysD ks = some (es.map fun e => e.1) → Nd K M H p (.k ks ts) (es.map fun e => e.2.2)
  | j {p : Addr} {kvs : List (Key × V)} {ts : List Tn} : H p = some (.dK kvs) → Nd K M H p (.j (kvs.map (·.1)) ts) (kvs.map (·.2))
  | jz {p : Addr} {o : Obj} {kvs : List (Key × V)} {ts : List Tn} : H p = some (.frz o (.dK kvs)) → Nd K M H p (.jz (kvs.map (·.1)) ts) (kvs.map (·.2))
  | o {p dx : Addr} {c : Str} {ns : List Str} {xs : List V} {ts : List Tn} : H p = some (.ins (He.ga K c) dx (ns.zip xs)) → ns.length = xs.length → Nd K M H p (.o c ns ts) xs
def Tn.isF : Tn → Bool
  | .f _ => true
  | _ => false
theorem Tr.node (h : Tr K M H S v t) (hf : t.isF = false) : ∃ p vs S0, v = .ref p ∧ Nd K M H p t vs ∧ TrA K M H S0 vs t.kids ∧ ¬ S0 p ∧ S = fun a => a = p ∨ S0 a := by
  cases h with
  | f _ => cases hf
  | l h t n => exact ⟨_, _, _, rfl, .l h, t, n, rfl⟩
  | k h h1 h2 t n => exact ⟨_, _, _, rfl, .k h h1 h2, t, n, rfl⟩
  | j h t n => exact ⟨_, _, _, rfl, .j h, t, n, rfl⟩
  | jz h t n => exact ⟨_, _, _, rfl, .jz h, t, n, rfl⟩
  | o h l t n => exact ⟨_, _, _, rfl, .o h l, t, n, rfl⟩
theorem Nd.tr (h : Nd K M H p t vs) (n : t.isF = false) (a : TrA K M H S vs t.kids) (ns : ¬ S p) : Tr K M H (fun a => a = p ∨ S a) (.ref p) t := by
  cases h with
  | l h => exact .l h a ns
  | k h h1 h2 => exact .k h h1 h2 a ns
  | j h => exact .j h a ns
  | jz h => exact .jz h a ns
  | o h l => exact .o h l a ns
theorem Nd.mono (h : Nd K M H p t vs) (e : Ex M M') (k : ∀ u, H p = some u → H' p = some u) : Nd K M' H' p t vs := by
  cases h with
  | l h => exact .l (k _ h)
  | k h h1 h2 => exact .k (k _ h) (h1.mono e) h2
  | j h => exact .j (k _ h)
  | jz h => exact .jz (k _ h)
  | o h l => exact .o (k _ h) l

theorem Nd.kids (h : Nd K M H p t vs) (ts : List Tn) : Nd K M H p (t.withKids ts) vs := by
  cases h with
  | l h => exact .l h
  | k h h1 h2 => exact .k h h1 h2
  | j h => exact .j h
  | jz h => exact .jz h
  | o h l => exact .o h l
theorem kids_with (n : t.isF = false) (ts : List Tn) : (t.withKids ts).kids = ts ∧ (t.withKids ts).isF = false := by
  cases t <;> first | exact ⟨rfl, rfl⟩ | cases n
theorem TrA.length : ∀ {S : Addr → Prop} {vs : List V} {ts : List Tn}, TrA K M H S vs ts → vs.length = ts.length
  | _, _, _, .nil => rfl
  | _, _, _, .cons _ t _ => by simp [TrA.length t]

theorem TrA.nth : ∀ {S : Addr → Prop} {vs : List V} {ts : List Tn} {n : Nat} {c : Tn}, TrA K M H S vs ts → ts[n]? = some c → ∃ w S', vs[n]? = some w ∧ Tr K M H S' w c ∧ (∀ a, S' a → S a) ∧
    ∀ (M2 H2 : Hp) (S2 : Addr → Prop) (u2 : Tn), Ex M M2 → (∀ a, S a → ¬ S' a → ∀ o, H a = some o → H2 a = some o) → Tr K M2 H2 S2 w u2 → (∀ a, S2 a → S' a ∨ ¬ S a) → ∃ Sn, TrA K M2 H2 Sn vs (ts.set n u2) ∧ ∀ a, Sn a ↔ S2 a ∨ (S a ∧ ¬ S' a)
  | _, _, _, n, c, .nil, e => by cases n <;> cases e
  | _, _, _, 0, c, .cons (S := S) (T := T) (v := v) (vs := vs) h t n, e => by
    rw [List.getElem?_cons_zero, Option.some.injEq] at e
    subst e
    refine ⟨v, S, rfl, h, fun a z => .inl z, fun M2 H2 S2 u2 em k h2 sub => ⟨_, .cons h2 (t.mono em fun a z => k a (.inr z) (fun y => n a y z)) (fun a z y => ?_), fun a => ?_⟩⟩
    · rcases sub a z with q | q
      · exact n a q y
      · exact q (.inr y)
    · constructor
      · rintro (z | z)
        · exact .inl z
        · exact .inr ⟨.inr z, fun y => n a y z⟩
      · rintro (z | ⟨z | z, y⟩)
        · exact .inl z
        · exact absurd z y
        · exact .inr z
  | _, _, _, n + 1, c, .cons (S := S) (T := T) (v := v) (vs := vs) (ts := ts) h t nn, e => by
    rw [List.getElem?_cons_succ] at e
    obtain ⟨w, S', h1, h2, h3, h4⟩ := TrA.nth t e
    refine ⟨w, S', by rw [List.getElem?_cons_succ]; exact h1, h2, fun a z => .inr (h3 a z), fun M2 H2 S2 u2 em k hu sub => ?_⟩
    obtain ⟨Sn, a1, a2⟩ := h4 M2 H2 S2 u2 em (fun a z y => k a (.inr z) y) hu (fun a z => by
      rcases sub a z with q | q
      · exact .inl q
      · exact .inr fun y => q (.inr y))
    refine ⟨_, .cons (h.mono em fun a z => k a (.inl z) (fun y => nn a z (h3 a y))) a1 (fun a z y => ?_), fun a => ?_⟩
    · rcases (a2 a).mp y with q | q
      · rcases sub a q with r | r
        · exact nn a z (h3 a r)
        · exact r (.inl z)
      · exact nn a z q.1
    · constructor
      · rintro (z | z)
        · exact .inr ⟨.inl z, fun y => nn a z (h3 a y)⟩
        · rcases (a2 a).mp z with q | q
          · exact .inl q
          · exact .inr ⟨.inr q.1, q.2⟩
      · rintro (z | ⟨z | z, y⟩)
        · exact .inr ((a2 a).mpr (.inl z))
        · exact .inl z
        · exact .inr ((a2 a).mpr (.inr ⟨z, y⟩))

def Foc (K : Kw) (M H : Hp) (S : Addr → Prop) (v : V) (t : Tn) (π : List Nat) (w : V) (u : Tn) : Prop := ∃ S', Tr K M H S' w u ∧ (∀ a, S' a → S a) ∧
  ∀ (M2 H2 : Hp) (S2 : Addr → Prop) (u2 : Tn), Ex M M2 → (∀ a, S a → ¬ S' a → ∀ o, H a = some o → H2 a = some o) → Tr K M2 H2 S2 w u2 → (∀ a, S2 a → S' a ∨ ¬ S a) → ∃ Sn, Tr K M2 H2 Sn v (t.put π u2) ∧ ∀ a, Sn a ↔ S2 a ∨ (S a ∧ ¬ S' a)
theorem Foc.start (h : Tr K M H S v t) : Foc K M H S v t [] v t := ⟨S, h, fun _ z => z, fun M2 H2 S2 u2 _ _ h2 _ => ⟨S2, h2, fun a => ⟨.inl, fun z => z.elim id fun y => absurd y.1 y.2⟩⟩⟩
theorem Foc.up {π : List Nat} (h : Foc K M H S v t π w u) (hS : ∀ a, S a → H a ≠ none) (em : Ex M M') (e : Ex H H') : Foc K M' H' S v t π w u := by
  obtain ⟨S', h1, h2, h3⟩ := h
  refine ⟨S', h1.mono em fun a _ o z => e a o z, h2, fun M2 H2 S2 u2 em2 k hu sub => h3 M2 H2 S2 u2 (em.trans em2) (fun a z y o ho => k a z y o (e a o ho)) hu sub⟩
theorem put_app : ∀ (π : List Nat) (t : Tn) (n : Nat) (u c u2 : Tn), t.at π = some u → u.kids[n]? = some c → t.put (π ++ [n]) u2 = t.put π (u.withKids (u.kids.set n u2))
  | [], t, n, u, c, u2, h, hc => by
    cases h
    show Tn.put [n] t u2 = _
    unfold Tn.put
    rw [hc]; rfl
  | m :: π, t, n, u, c, u2, h, hc => by
    obtain ⟨x, h1, h2⟩ := Option.bind_eq_some_iff.mp (show (t.kids[m]?).bind (Tn.at π) = some u from h)
    show Tn.put (m :: (π ++ [n])) t u2 = Tn.put (m :: π) t _
    unfold Tn.put
    rw [h1]
    dsimp only
    rw [put_app π x n u c u2 h2 hc]
theorem Foc.child {π : List Nat} (h : Foc K M H S v t π w u) (ht : t.at π = some u) (hu : u.isF = false) (hc : u.kids[n]? = some c) : ∃ p vs x, w = .ref p ∧ Nd K M H p u vs ∧ vs.length = u.kids.length ∧ vs[n]? = some x ∧ Foc K M H S v t (π ++ [n]) x c := by
  obtain ⟨S', h1, h2, h3⟩ := h
  obtain ⟨p, vs, S0, rfl, nd, a, ns, rfl⟩ := h1.node hu
  obtain ⟨x, S1, b1, b2, b3, b4⟩ := a.nth hc
  refine ⟨p, vs, x, rfl, nd, a.length, b1, S1, b2, fun a z => h2 a (.inr (b3 a z)), fun M2 H2 S2 u2 em k hu2 sub => ?_⟩
  obtain ⟨Sn, c1, c2⟩ := b4 M2 H2 S2 u2 em (fun a z y => k a (h2 a (.inr z)) y) hu2 (fun a z => by
    rcases sub a z with q | q
    · exact .inl q
    · exact .inr fun y => q (h2 a (.inr y)))
  have np : ¬ Sn p := fun z => by
    rcases (c2 p).mp z with q | q
    · rcases sub p q with r | r
      · exact ns (b3 p r)
      · exact r (h2 p (.inl rfl))
    · exact ns q.1
  have kp : ∀ o, H p = some o → H2 p = some o := k p (h2 p (.inl rfl)) (fun z => ns (b3 p z))
  have kw := kids_with hu (u.kids.set n u2)
  have nt := ((nd.mono em kp).kids (u.kids.set n u2)).tr kw.2 (by rw [kw.1]; exact c1) np
  obtain ⟨Sm, d1, d2⟩ := h3 M2 H2 _ _ em (fun a z y => k a z (fun q => y (.inr (b3 a q)))) nt (fun a z => by
    rcases z with rfl | z
    · exact .inl (.inl rfl)
    · rcases (c2 a).mp z with q | q
      · rcases sub a q with r | r
        · exact .inl (.inr (b3 a r))
        · exact .inr r
      · exact .inl (.inr q.1))
  refine ⟨Sm, by rw [put_app π t n u c u2 ht hc]; exact d1, fun a => ?_⟩
  rw [d2, c2]
  constructor
  · rintro ((rfl | z | z) | z)
    · exact .inr ⟨h2 _ (.inl rfl), fun y => ns (b3 _ y)⟩
    · exact .inl z
    · exact .inr ⟨h2 a (.inr z.1), z.2⟩
    · exact .inr ⟨z.1, fun y => z.2 (.inr (b3 a y))⟩
  · rintro (z | ⟨z, y⟩)
    · exact .inl (.inr (.inl z))
    · by_cases q : a = p ∨ S0 a
      · rcases q with q | q
        · exact .inl (.inl q)
        · exact .inl (.inr (.inr ⟨q, y⟩))
      · exact .inr ⟨z, q⟩
end

section
variable {K : Kw} {co : Co} {ρ : Env} {own : Own} {σ : L2.St} {H H2 : Hp} {i : Nat} {v : V} {t u : Tn} {p : Addr} {π : List Nat}
theorem Rs.putG {S2 : Addr → Prop} {s' : Sv} (R : Rs K co ρ own σ H) (hi : i < ρ.length) (hk : ∀ a, ¬ own i a → ∀ o, H a = some o → H2 a = some o) (hn : ∀ a, S2 a → own i a ∨ H a = none)
    (hs : Ex (msk (Sx co own) H) (msk (Sx co (oset own i S2)) H2) → SvR K co (oset own i S2) i H2 (σ[i]?).join s') : Rs K co (ρ.set i s') (oset own i S2) σ H2 := by
  have em : Ex (msk (Sx co own) H) (msk (Sx co (oset own i S2)) H2) := fun a o z => by
    obtain ⟨h1, h2⟩ := msk_some z
    rw [msk_at]
    · exact hk a (fun y => h1 (.inr ⟨i, y⟩)) o h2
    · rintro (y | ⟨j, y⟩)
      · exact h1 (.inl y)
      · by_cases e : j = i
        · subst e
          rw [oset_same] at y
          rcases hn a y with q | q
          · exact h1 (.inr ⟨j, q⟩)
          · rw [q] at h2; cases h2
        · rw [oset_ne e] at y; exact h1 (.inr ⟨j, y⟩)
  have ex : Ex co.H0 H2 := fun a o z => hk a (fun y => by rw [R.new i a y] at z; cases z) o (R.ex a o z)
  refine ⟨by rw [List.length_set]; exact R.len, fun j s hj => ?_, fun j hj => ?_, fun j q z => ?_, fun j q z => ?_, fun j k q z y => ?_, ex, R.ha, fun a z => ?_⟩
  · by_cases e : j = i
    · subst e
      rw [List.getElem?_set_self hi] at hj
      cases hj
      exact hs em
    · rw [get_set_ne e] at hj
      exact (R.sl j s hj).re (oset_ne e) em (fun q hq o ho => hk q (fun y => e (R.inj j i q hq y)) o ho) (Ex.refl _) rfl ⟨rfl, rfl, rfl, rfl, rfl⟩
  · rw [List.length_set] at hj
    rw [oset_ne (by omega)]
    exact R.out j hj
  · by_cases e : j = i
    · subst e
      rw [oset_same] at z
      rcases hn q z with y | y
      · exact R.new j q y
      · exact fresh_back R.ex y
    · rw [oset_ne e] at z; exact R.new j q z
  · by_cases e : j = i
    · subst e
      rw [oset_same] at z
      rcases hn q z with y | y
      · exact R.dis j q y
      · exact fun x => (R.s0 q x).ne y
    · rw [oset_ne e] at z; exact R.dis j q z
  · have key : ∀ {j k}, j ≠ i → own j q → oset own i S2 k q → j = k := fun {j k} ej zz yy => by
      by_cases ek : k = i
      · subst ek
        rw [oset_same] at yy
        rcases hn q yy with x | x
        · exact R.inj j k q zz x
        · exact absurd x (R.mutO zz).ne
      · rw [oset_ne ek] at yy; exact R.inj j k q zz yy
    by_cases ej : j = i
    · subst ej
      by_cases ek : k = j
      · exact ek.symm
      · rw [oset_ne ek] at y; exact (key ek y z).symm
    · rw [oset_ne ej] at z; exact key ej z y
  · obtain ⟨o, h1, h2⟩ := R.s0 a z
    exact ⟨o, hk a (fun y => R.dis i a y z) o h1, h2⟩

theorem Rs.node {N : Addr → Prop} {u2 : Tn} (R : Rs K co ρ own σ H) {r : Bool} (ei : ρ[i]? = some (.t r t)) (hv : (σ[i]?).join = some v) (F : Foc K (msk (Sx co own) H) H (own i) v t π (.ref p) u)
    (hk : ∀ a, a ≠ p → ∀ o, H a = some o → H2 a = some o) (hN : ∀ a, N a → H a = none)
    (mk : ∀ S' : Addr → Prop, Tr K (msk (Sx co own) H) H S' (.ref p) u → ∃ S2, (∀ a, S2 a → S' a ∨ N a) ∧ ∀ M2, Ex (msk (Sx co own) H) M2 → Ex (msk (fun a => Sx co own a ∨ N a) H2) M2 → Tr K M2 H2 S2 (.ref p) u2)
    (hp : u.isF = false) : ∃ own', Rs K co (ρ.set i (.t r (t.put π u2))) own' σ H2 := by
  obtain ⟨S', h1, h2, h3⟩ := F
  obtain ⟨S2, m1, m2⟩ := mk S' h1
  have hS'p : S' p := by
    obtain ⟨q, vs, S0, e, _, _, _, rfl⟩ := h1.node hp
    cases e
    exact .inl rfl
  let Sn : Addr → Prop := fun a => S2 a ∨ (own i a ∧ ¬ S' a)
  have sub : ∀ a, Sn a → own i a ∨ N a := fun a z => by
    rcases z with z | z
    · rcases m1 a z with y | y
      · exact .inl (h2 a y)
      · exact .inr y
    · exact .inl z.1
  refine ⟨oset own i Sn, R.putG (List.getElem?_eq_some_iff.mp ei).1 (fun a z o ho => hk a (fun y => z (y ▸ h2 p hS'p)) o ho) (fun a z => (sub a z).elim .inl fun y => .inr (hN a y)) fun em => ⟨v, hv, fun hr => ?_, ?_⟩⟩
  · obtain ⟨v', g1, g2, _⟩ := R.sl i _ ei
    rw [hv] at g1
    cases g1
    exact g2 hr
  have em2 : Ex (msk (fun a => Sx co own a ∨ N a) H2) (msk (Sx co (oset own i Sn)) H2) := msk_sub fun a z => by
    rcases z with z | ⟨j, z⟩
    · exact .inl (.inl z)
    · by_cases e : j = i
      · subst e
        rw [oset_same] at z
        exact (sub a z).elim (fun y => .inl (.inr ⟨j, y⟩)) .inr
      · rw [oset_ne e] at z; exact .inl (.inr ⟨j, z⟩)
  obtain ⟨Sx', k1, k2⟩ := h3 _ H2 S2 u2 em (fun a z y o ho => hk a (fun q => y (q ▸ hS'p)) o ho) (m2 _ em em2) (fun a z => by
    rcases m1 a z with y | y
    · exact .inl y
    · exact .inr fun q => (R.mutO q).ne (hN a y))
  have e : Sx' = Sn := funext fun a => propext (k2 a)
  have k3 : Tr K (msk (Sx co (oset own i Sn)) H2) H2 Sn v (t.put π u2) := e ▸ k1
  rw [oset_same]
  exact k3
end
end Sm

namespace Sm
open PySem L2 Evl Al PySem.Spec PyProof.Rows

section
variable {K : Kw} {M M2 H H2 : Hp} {S T : Addr → Prop} {v : V} {t : Tn}
theorem TrA.cast {vs : List V} {ts : List Tn} (e : ∀ a, S a ↔ T a) (h : TrA K M H S vs ts) : TrA K M H T vs ts := (funext fun a => propext (e a) : S = T) ▸ h
theorem Tr.cast (e : ∀ a, S a ↔ T a) (h : Tr K M H S v t) : Tr K M H T v t := (funext fun a => propext (e a) : S = T) ▸ h
theorem TrA.snoc : ∀ {S : Addr → Prop} {vs : List V} {ts : List Tn}, TrA K M H S vs ts → Tr K M H T v t → (∀ a, S a → ¬ T a) → TrA K M H (fun a => S a ∨ T a) (vs ++ [v]) (ts ++ [t])
  | _, _, _, .nil, h, _ => by
    have q : TrA K M H (fun a => T a ∨ Z a) [v] [t] := TrA.cons h .nil (fun _ _ z => nomatch z)
    refine TrA.cast (fun a => ?_) q
    constructor
    · rintro (z | z)
      · exact Or.inr z
      · exact nomatch z
    · rintro (z | z)
      · exact nomatch z
      · exact Or.inl z
  | _, _, _, .cons (S := S) (T := T') (v := x) (vs := xs) (t := c) (ts := cs) h1 t1 n, h, d => by
    have q : TrA K M H (fun a => S a ∨ (T' a ∨ T a)) (x :: (xs ++ [v])) (c :: (cs ++ [t])) := TrA.cons h1 (TrA.snoc t1 h fun a z => d a (Or.inr z)) (fun a z y => by
      rcases y with y | y
      · exact n a z y
      · exact d a (Or.inl z) y)
    refine TrA.cast (fun a => ?_) q
    constructor
    · rintro (z | z | z)
      · exact Or.inl (Or.inl z)
      · exact Or.inl (Or.inr z)
      · exact Or.inr z
    · rintro ((z | z) | z)
      · exact Or.inl z
      · exact Or.inr (Or.inl z)
      · exact Or.inr (Or.inr z)

theorem TrA.setv : ∀ {S : Addr → Prop} {vs : List V} {ts : List Tn} (n : Nat), TrA K M H S vs ts → n < ts.length → ∃ S1 : Addr → Prop, (∀ a, S1 a → S a) ∧ ∀ (M2 H2 : Hp) (T : Addr → Prop) (v : V) (t : Tn), Ex M M2 → (∀ a, S a → ∀ o, H a = some o → H2 a = some o) → Tr K M2 H2 T v t → (∀ a, T a → ¬ S a) → TrA K M2 H2 (fun a => S1 a ∨ T a) (vs.set n v) (ts.set n t)
  | _, _, _, _, .nil, h => absurd h (Nat.not_lt_zero _)
  | _, _, _, 0, .cons (S := S) (T := T') (v := x) (vs := xs) (t := c) (ts := cs) h1 t1 n, _ => by
    refine ⟨T', fun a z => Or.inr z, fun M2 H2 T v t em k h d => ?_⟩
    have q : TrA K M2 H2 (fun a => T a ∨ T' a) (v :: xs) (t :: cs) := TrA.cons h (t1.mono em fun a z => k a (Or.inr z)) (fun a z y => d a z (Or.inr y))
    exact TrA.cast (fun a => Or.comm) q
  | _, _, _, n + 1, .cons (S := S) (T := T') (v := x) (vs := xs) (t := c) (ts := cs) h1 t1 nn, hl => by
    obtain ⟨S1, a1, a2⟩ := TrA.setv n t1 (by simpa using hl)
    refine ⟨fun a => S a ∨ S1 a, fun a z => by
      rcases z with z | z
      · exact Or.inl z
      · exact Or.inr (a1 a z), fun M2 H2 T v t em k h d => ?_⟩
    have q : TrA K M2 H2 (fun a => S a ∨ (S1 a ∨ T a)) (x :: xs.set n v) (c :: cs.set n t) := TrA.cons (h1.mono em fun a z => k a (Or.inl z)) (a2 M2 H2 T v t em (fun a z => k a (Or.inr z)) h fun a z y => d a z (Or.inr y)) (fun a z y => by
      rcases y with y | y
      · exact nn a z (a1 a y)
      · exact d a y (Or.inl z))
    exact TrA.cast (fun a => or_assoc.symm) q
theorem TrA.erase : ∀ {S : Addr → Prop} {vs : List V} {ts : List Tn} (n : Nat), TrA K M H S vs ts → ∃ S1 : Addr → Prop, (∀ a, S1 a → S a) ∧ ∀ (M2 H2 : Hp), Ex M M2 → (∀ a, S a → ∀ o, H a = some o → H2 a = some o) → TrA K M2 H2 S1 (vs.eraseIdx n) (ts.eraseIdx n)
  | _, _, _, _, .nil => ⟨Z, fun _ z => z, fun _ _ _ _ => by simp; exact .nil⟩
  | _, _, _, 0, .cons (S := S) (T := T') h1 t1 n => ⟨T', fun a z => .inr z, fun M2 H2 em k => t1.mono em fun a z => k a (.inr z)⟩
  | _, _, _, n + 1, .cons (S := S) (T := T') h1 t1 nn => by
    obtain ⟨S1, a1, a2⟩ := TrA.erase n t1
    exact ⟨fun a => S a ∨ S1 a, fun a z => z.elim .inl fun z => .inr (a1 a z), fun M2 H2 em k => TrA.cons (h1.mono em fun a z => k a (.inl z)) (a2 M2 H2 em fun a z => k a (.inr z)) fun a z y => nn a z (a1 a y)⟩
end
theorem at_app : ∀ (π : List Nat) {t u c : Tn} {n : Nat}, t.at π = some u → u.kids[n]? = some c → t.at (π ++ [n]) = some c
  | [], t, u, c, n, h, hc => by
    cases h
    show (t.kids[n]?).bind (Tn.at []) = _
    rw [hc]; rfl
  | m :: π, t, u, c, n, h, hc => by
    obtain ⟨x, h1, h2⟩ := Option.bind_eq_some_iff.mp (show (t.kids[m]?).bind (Tn.at π) = some u from h)
    show (t.kids[m]?).bind (Tn.at (π ++ [n])) = _
    rw [h1]
    exact at_app π h2 hc

section
variable {K : Kw} {co : Co} {E : L2.St → XK} {w w1 : Bool} {te ta tb tc th : TE} {f fa fb : Env → R D} {fn : Env → R (List D)} {h : Env → R (List Nat × Tn)} {i j : Nat}
def SimH (K : Kw) (co : Co) (E : L2.St → XK) (i : Nat) (te : TE) (h : Env → R (List Nat × Tn)) : Prop := ∀ ρ own σ H, Rs K co ρ own σ H → ∀ Q : VK,
  Pst (h ρ) (fun x => ∀ r t v y H2, ρ[i]? = some (.t r t) → (σ[i]?).join = some v → t.at x.1 = some x.2 → Ex H H2 → Foc K (msk (Sx co own) H2) H2 (own i) v t x.1 y x.2 → Q y H2) (ErrS K E σ H) → te σ H Q
def hVar (i : Nat) : Env → R (List Nat × Tn) := fun ρ => match ρ[i]? with
  | some (.t _ t) => .ok ([], t)
  | _ => .st
theorem sh_var : SimH K co E i (tVar i) (hVar i) := fun ρ own σ H R Q q => by
  unfold hVar at q
  cases e : ρ[i]? with
  | none => rw [e] at q; exact q.elim
  | some s =>
    rw [e] at q
    cases s with
    | t r t =>
      obtain ⟨v, h1, _, h2⟩ := R.sl i _ e
      exact ⟨v, join_some h1, q r t v v H rfl h1 rfl (Ex.refl H) (Foc.start h2)⟩
    | _ => exact q.elim
def hKid (x : List Nat × Tn) (n : Option Nat) : R (List Nat × Tn) := match n with
  | some k => match x.2.kids[k]? with
    | some c => .ok (x.1 ++ [k], c)
    | none => .st
  | none => .st
theorem kid_of {x : List Nat × Tn} {n : Option Nat} {k : List Nat × Tn → Prop} {e : Str → Prop} (h : Pst (hKid x n) k e) : ∃ m c, n = some m ∧ x.2.kids[m]? = some c ∧ k (x.1 ++ [m], c) := by
  unfold hKid at h
  cases n with
  | none => exact h.elim
  | some m =>
    dsimp only at h
    cases ek : x.2.kids[m]? with
    | none => rw [ek] at h; exact h.elim
    | some c => rw [ek] at h; exact ⟨m, c, rfl, ek, h⟩
def idxK (ks : List D) (n : NestedKey) : Option Nat := ks.findIdx? fun d => decide (keyD d = some n)
theorem valN_idx {n : NestedKey} : ∀ {es : List Ent} {ks : List D} {m : Nat}, keysD ks = some (es.map fun e => e.1) → idxK ks n = some m → valN es n = (es.map fun e => e.2.2)[m]?
  | es, [], m, _, h => by simp [idxK] at h
  | es, d :: ks, m, e, h => by
    simp only [keysD] at e
    obtain ⟨k, h1, e⟩ := Option.bind_eq_some_iff.mp e
    obtain ⟨ns, h2, h3⟩ := Option.map_eq_some_iff.mp e
    cases es with
    | nil => cases h3
    | cons p r =>
      rw [List.map_cons] at h3
      injection h3 with h4 h5
      unfold idxK at h
      rw [List.findIdx?_cons] at h
      by_cases c : k = n
      · rw [if_pos (decide_eq_true (by rw [h1, c])), Option.some.injEq] at h
        subst h
        rw [valN_pos (h4.symm.trans c)]; rfl
      · rw [if_neg (by rw [h1]; simpa using c)] at h
        obtain ⟨m', h6, rfl⟩ := Option.map_eq_some_iff.mp h
        rw [valN_neg (fun z => c (h4.trans z)), valN_idx (es := r) (ks := ks) (by rw [h2, h5]) h6]
        rfl
def ixT (t : Tn) (b : D) : Option Nat := match t with
  | .l ts => (match b with
    | .int n => ixN ts.length n
    | _ => none)
  | .j ks _ => (keyJ b).bind (idxJ ks)
  | .jz ks _ => (keyJ b).bind (idxJ ks)
  | .k ks _ => (keyD b).bind (idxK ks)
  | _ => none
def hIx (h : Env → R (List Nat × Tn)) (fb : Env → R D) : Env → R (List Nat × Tn) := fun ρ => (h ρ).bind fun x => (fb ρ).bind fun b => hKid x (ixT x.2 b)
theorem atI_at {α : Type} {xs : List α} {n : Int} {k : Nat} {x : α} (h : ixN xs.length n = some k) (e : xs[k]? = some x) : atI xs n = some x := by
  unfold atI
  rw [h]
  exact e
theorem sh_ix (hh : SimH K co E i th h) (hb : SimE K co E w tb fb) : SimH K co E i (tOp (rIxW K.f K.w) th tb) (hIx h fb) := fun ρ own σ H R Q q => by
  refine hh ρ own σ H R _ ((q.bind).mono (fun x _ q2 rr t v y H1 ei ev ea e1 F => ?_) fun _ _ z => z)
  refine hb ρ own σ H1 (R.up e1) _ ((q2.bind).mono (fun b _ q3 z H2 e2 hz => ?_) fun c _ z => z.mono e1)
  obtain ⟨m, c, hm, hc, k⟩ := kid_of q3
  have F2 := F.up (fun a za => ((R.up e1).mutO za).ne) (msk_ex e2) e2
  obtain ⟨π, u⟩ := x
  cases u with
  | l ts =>
    cases hz with
    | int n =>
      obtain ⟨p, vs, x, rfl, nd, hl, hx, F3⟩ := F2.child ea rfl hc
      cases nd with
      | l hp =>
        have hm : ixN ts.length n = some m := hm
        have hl : vs.length = ts.length := hl
        exact .inl (.inl ⟨p, vs, n, x, rfl, rfl, sq_of hp, atI_at (by rw [hl]; exact hm) hx, k rr t v x H2 ei ev (at_app π ea hc) (e1.trans e2) F3⟩)
    | _ => cases hm
  | j ks ts =>
    obtain ⟨kk, h1, h2⟩ := Option.bind_eq_some_iff.mp (show (keyJ b).bind (idxJ ks) = some m from hm)
    obtain ⟨p, vs, x, rfl, nd, hl, hx, F3⟩ := F2.child ea rfl hc
    cases nd with
    | j hp =>
      have := keyJ_of (hz.mono msk_le) h1
      subst this
      refine .inr (.inr ⟨p, x, rfl, ?_, k rr t v x H2 ei ev (at_app π ea hc) (e1.trans e2) F3⟩)
      have g := DGet.k (k := kk) hp
      rw [valV_idx h2, hx] at g
      exact g
  | jz ks ts =>
    obtain ⟨kk, h1, h2⟩ := Option.bind_eq_some_iff.mp (show (keyJ b).bind (idxJ ks) = some m from hm)
    obtain ⟨p, vs, x, rfl, nd, hl, hx, F3⟩ := F2.child ea rfl hc
    cases nd with
    | jz hp =>
      have := keyJ_of (hz.mono msk_le) h1
      subst this
      refine .inr (.inr ⟨p, x, rfl, .inl ⟨_, kk, .inr ⟨_, hp⟩, rfl, ?_⟩, k rr t v x H2 ei ev (at_app π ea hc) (e1.trans e2) F3⟩)
      rw [valV_idx h2, hx]
  | k ks ts =>
    obtain ⟨kk, h1, h2⟩ := Option.bind_eq_some_iff.mp (show (keyD b).bind (idxK ks) = some m from hm)
    obtain ⟨p, vs, x, rfl, nd, hl, hx, F3⟩ := F2.child ea rfl hc
    cases nd with
    | k hp hk1 hk2 =>
      obtain ⟨b', hb'⟩ := key_at (hz.mono msk_le) h1
      exact .inr (.inl ⟨_, _, b', kk, x, rfl, hp, (dic_keys hk1 hk2).tx (msk_le (S := Sx co own)).tx, hb', by rw [valN_idx hk2 h2]; exact hx, k rr t v x H2 ei ev (at_app π ea hc) (e1.trans e2) F3⟩)
  | _ => cases hm
def ixF (cs : List Str) (n : Str) (t : Tn) : Option Nat := match t with
  | .o c ns _ => if cs.contains c = true then ns.findIdx? (fun k => n == k) else none
  | _ => none
def hFld (cs : List Str) (n : Str) (h : Env → R (List Nat × Tn)) : Env → R (List Nat × Tn) := fun ρ => (h ρ).bind fun x => hKid x (ixF cs n x.2)
theorem lookup_idx {n : Str} : ∀ {ns : List Str} {xs : List V} {k : Nat} {x : V}, ns.findIdx? (fun k => n == k) = some k → xs[k]? = some x → (ns.zip xs).lookup n = some x
  | [], _, _, _, h, _ => by simp at h
  | m :: ns, [], k, x, h, hx => by simp at hx
  | m :: ns, y :: xs, k, x, h, hx => by
    rw [List.findIdx?_cons] at h
    rw [List.zip_cons_cons, List.lookup_cons]
    cases e : n == m with
    | true =>
      rw [e, if_pos rfl, Option.some.injEq] at h
      subst h
      simpa using hx
    | false =>
      rw [e, if_neg (by decide)] at h
      obtain ⟨k', h1, rfl⟩ := Option.map_eq_some_iff.mp h
      exact lookup_idx h1 (by simpa using hx)
theorem sh_fld {cs : List Str} {n : Str} (hcl : ∀ c ∈ cs, Cls K (He.ga K c) ∧ NoAttr K (He.ga K c) n) (hh : SimH K co E i th h) : SimH K co E i (tFld K th n) (hFld cs n h) := fun ρ own σ H R Q q => by
  refine hh ρ own σ H R _ ((q.bind).mono (fun x _ q3 rr t v y H1 ei ev ea e1 F => ?_) fun _ _ z => z)
  obtain ⟨m, c, hm, hc, k⟩ := kid_of q3
  obtain ⟨π, u⟩ := x
  cases u with
  | o cl ns ts =>
    have hm : (if cs.contains cl = true then ns.findIdx? (fun k => n == k) else none) = some m := hm
    split at hm
    · rename_i hcc
      obtain ⟨c1, c2⟩ := hcl _ (by simpa using hcc)
      obtain ⟨p, vs, x, rfl, nd, hl, hx, F3⟩ := F.child ea rfl hc
      cases nd with
      | o hp hlen => exact ⟨p, _, _, _, x, rfl, hp, c1, c2, lookup_idx hm hx, k rr t v x H1 ei ev (at_app π ea hc) e1 F3⟩
    · cases hm
  | _ => cases hm

def xTr (h : Env → R (List Nat × Tn)) : Env → R D := fun ρ => (h ρ).bind fun x => R.of x.2.D
theorem se_tr (hh : SimH K co E i th h) (hi : ∀ ρ x, h ρ = .ok x → ∃ r t, ρ[i]? = some (.t r t) ∧ t.at x.1 = some x.2) : SimE K co E true th (xTr h) := fun ρ own σ H R Q q => by
  cases eh : h ρ with
  | st => unfold xTr at q; rw [eh] at q; exact q.elim
  | er c =>
    refine hh ρ own σ H R _ ?_
    unfold xTr at q
    rw [eh] at q ⊢
    exact q
  | ok x =>
    refine hh ρ own σ H R _ ?_
    unfold xTr at q
    rw [eh] at q ⊢
    intro rr t v y H1 ei ev ea e1 F
    obtain ⟨d, hd, k⟩ := Pst.of (show Pst (Sm.R.of x.2.D) _ _ from q)
    obtain ⟨S', f1, _, _⟩ := F
    refine k y H1 e1 ?_
    show Dr K (msk (fun _ => False) H1) y d
    rw [msk_no]
    exact f1.dr msk_le hd
def xTrF (h : Env → R (List Nat × Tn)) : Env → R D := fun ρ => (h ρ).bind fun x => match x.2 with
  | .f d => .ok d
  | _ => .st
theorem se_trF (hh : SimH K co E i th h) : SimE K co E false th (xTrF h) := fun ρ own σ H R Q q => by
  refine hh ρ own σ H R _ ((q.bind).mono (fun x _ q3 rr t v y H1 ei ev ea e1 F => ?_) fun _ _ z => z)
  obtain ⟨π, u⟩ := x
  cases u with
  | f d =>
    obtain ⟨S', f1, _, _⟩ := F
    cases f1 with
    | f hd => exact q3 y H1 e1 hd
  | _ => exact q3.elim
end
end Sm

namespace Sm
open PySem L2 Evl Al PySem.Spec PyProof.Rows
section
variable {K : Kw} {co : Co} {E : L2.St → XK} {w w1 : Bool} {te ta tb tc th : TE} {tr : TA} {f fa fb : Env → R D} {fn fr : Env → R (List D)} {h : Env → R (List Nat × Tn)} {i j l : Nat} {ft : Env → R Tn}
def xOutH (h : Env → R (List Nat × Tn)) (k : List Nat × Tn → Env → Out) : Env → Out := fun ρ => match h ρ with
  | .ok d => k d ρ
  | .er c => .er c ρ
  | .st => .st
theorem outH_of {ρ : Env} {own : Own} {σ : L2.St} {H : Hp} {Dn : Ends} {k : List Nat × Tn → Env → Out} {Kp : List Nat × Tn → Prop} (R : Rs K co ρ own σ H) (q : OP K co E Dn (xOutH h k ρ)) (hk : ∀ d, h ρ = .ok d → OP K co E Dn (k d ρ) → Kp d) : Pst (h ρ) Kp (ErrS K E σ H) := by
  unfold xOutH at q
  cases e : h ρ with
  | ok d => rw [e] at q; exact hk d e q
  | er c => rw [e] at q; exact fun H2 e2 => q own σ H2 (R.up e2)
  | st => rw [e] at q; exact q

def tPut (i : Nat) (π : List Nat) (u : Tn) : Env → Out := fun ρ => match ρ[i]? with
  | some (.t r t) => .nx (ρ.set i (.t r (t.put π u)))
  | _ => .st

def xTApp (i : Nat) (h : Env → R (List Nat × Tn)) (f : Env → R D) : Env → Out := xOutH h fun x => match x.2 with
  | .l ts => xOut f fun d ρ => if ts.length < 1000000 then tPut i x.1 (.l (ts ++ [.f d])) ρ else .st
  | _ => fun _ => .st
theorem list_node {M H : Hp} {S : Addr → Prop} {y : V} {ts : List Tn} (h : Tr K M H S y (.l ts)) : ∃ p vs S0, y = .ref p ∧ H p = some (.lst vs) ∧ TrA K M H S0 vs ts ∧ ¬ S0 p ∧ S = fun a => a = p ∨ S0 a := by
  obtain ⟨p, vs, S0, rfl, nd, a, ns, rfl⟩ := h.node rfl
  cases nd with
  | l hp => exact ⟨p, vs, S0, rfl, hp, a, ns, rfl⟩
theorem foc_own {M H : Hp} {S : Addr → Prop} {v : V} {t u : Tn} {π : List Nat} {p : Addr} (F : Foc K M H S v t π (.ref p) u) (hu : u.isF = false) : S p := by
  obtain ⟨S', g1, g2, _⟩ := F
  obtain ⟨_, _, _, e, _, _, _, rfl⟩ := g1.node hu
  cases e
  exact g2 _ (.inl rfl)
theorem mask_f {own : Own} {H : Hp} {p : Addr} {o : HO} (hp : own i p) : Ex (msk (Sx co own) H) (msk (fun a => Sx co own a ∨ Z a) (upd H p o)) := fun a o y => by
  obtain ⟨y1, y2⟩ := msk_some y
  rw [msk_at]
  · rw [upd_ne]
    · exact y2
    · rintro rfl
      exact y1 (.inr ⟨i, hp⟩)
  · rintro (y | y)
    · exact y1 y
    · exact nomatch y

theorem Rs.nodeOp {ρ : Env} {own : Own} {σ : L2.St} {H1 H2 : Hp} {v : V} {t u u2 : Tn} {π : List Nat} {p : Addr} {o : HO} {r : Bool} (R1 : Rs K co ρ own σ H1) (ei : ρ[i]? = some (.t r t)) (ev : (σ[i]?).join = some v) (F : Foc K (msk (Sx co own) H1) H1 (own i) v t π (.ref p) u) (hu : u.isF = false) (e2 : Ex H1 H2)
    (mk : ∀ (S0 : Addr → Prop) vs, Nd K (msk (Sx co own) H1) H1 p u vs → TrA K (msk (Sx co own) H1) H1 S0 vs u.kids → ∃ S3 : Addr → Prop, (∀ a, S3 a → S0 a) ∧ ∀ M2, Ex (msk (Sx co own) H1) M2 → Ex (msk (Sx co own) H2) M2 → (∀ a, S0 a → ∀ o', H1 a = some o' → (upd H2 p o) a = some o') → ∃ vs', Nd K M2 (upd H2 p o) p u2 vs' ∧ TrA K M2 (upd H2 p o) S3 vs' u2.kids)
    (h2 : u2.isF = false) : ∃ own', Rs K co (ρ.set i (.t r (t.put π u2))) own' σ (upd H2 p o) := by
  have hp := foc_own F hu
  refine R1.node (N := Z) (H2 := upd H2 p o) (u2 := u2) ei ev F (fun a na o ho => by rw [upd_ne na]; exact e2 _ _ ho) (fun _ z => nomatch z) (fun S' h' => ?_) hu
  obtain ⟨_, vs, S0, e, nd, a, ns, rfl⟩ := h'.node hu
  cases e
  obtain ⟨S3, s1, s2⟩ := mk S0 vs nd a
  refine ⟨fun a => a = p ∨ S3 a, fun a z => ?_, fun M2 em em2 => ?_⟩
  · rcases z with z | z
    · exact .inl (.inl z)
    · exact .inl (.inr (s1 a z))
  · obtain ⟨vs', n2, a2⟩ := s2 M2 em ((mask_f hp).trans em2) (fun b zb o ho => by rw [upd_ne (fun y => ns (by rw [← y]; exact zb))]; exact e2 _ _ ho)
    exact n2.tr h2 a2 fun z => ns (s1 _ z)
theorem orZ {S : Addr → Prop} (a : Addr) : (S a ∨ Z a) ↔ S a := ⟨fun z => by
  rcases z with z | z
  · exact z
  · exact (nomatch z), Or.inl⟩
theorem snoc_f {M2 H3 : Hp} {S0 : Addr → Prop} {vs : List V} {ts : List Tn} {z : V} {d : D} (a : TrA K M2 H3 S0 vs ts) (hd : Dr K M2 z d) : TrA K M2 H3 S0 (vs ++ [z]) (ts ++ [.f d]) :=
  TrA.cast orZ (a.snoc (.f hd) fun _ _ z => nomatch z)
theorem ss_tApp (hh : SimH K co E i th h) (hf : SimE K co E false te f) : SimS K co E (tDrop (tBM K "list" rAppend th (tCons te tNil))) (xTApp i h f) := fun ρ own σ H R Dn q => by
  refine hh ρ own σ H R _ (outH_of R q fun x _ k rr t v y H1 ei ev ea e1 F => ?_)
  obtain ⟨π, u⟩ := x
  cases u with
  | l ts =>
    have R1 := R.up e1
    obtain ⟨S', f1, _, _⟩ := id F
    obtain ⟨p, vs, S0, rfl, hp, a0, _, _⟩ := list_node f1
    refine ⟨Or.inl ⟨rfl, vs, sq_of hp⟩, hf ρ own σ H1 R1 _ (out_of R1 k fun d _ k2 z H2 e2 hz => ?_)⟩
    split at k2
    · rename_i hl
      unfold tPut at k2
      rw [ei] at k2
      refine ⟨p, vs, z, rfl, rfl, e2 _ _ hp, szl (by rw [a0.length]; exact hl), ?_⟩
      obtain ⟨own', R'⟩ := R1.nodeOp (o := .lst (vs ++ [z])) (u2 := .l (ts ++ [.f d])) ei ev F rfl e2 (fun S0 vs' nd a => by
        cases nd with
        | l hp' =>
          rw [hp] at hp'
          cases hp'
          exact ⟨S0, fun _ z => z, fun M2 em em2 kp => ⟨_, .l upd_same, snoc_f (a.mono em kp) (hz.mono em2)⟩⟩) rfl
      exact k2 own' σ _ R'
    · exact k2.elim
  | _ => exact k.elim

def xTPutL (i : Nat) (h : Env → R (List Nat × Tn)) (fj f : Env → R D) : Env → Out := xOut f fun d => xOutH h fun x => xOut fj fun b ρ => match x.2, ixT x.2 b with
  | .l ts, some n => tPut i x.1 (.l (ts.set n (.f d))) ρ
  | _, _ => .st
theorem setv_f {M H M2 H3 : Hp} {S0 : Addr → Prop} {vs : List V} {ts : List Tn} (n : Nat) (a : TrA K M H S0 vs ts) (hn : n < ts.length) : ∃ S3 : Addr → Prop, (∀ a, S3 a → S0 a) ∧ ∀ M2 H3 z d, Ex M M2 → (∀ a, S0 a → ∀ o, H a = some o → H3 a = some o) → Dr K M2 z d → TrA K M2 H3 S3 (vs.set n z) (ts.set n (.f d)) := by
  obtain ⟨S1, s1, s2⟩ := a.setv n hn
  exact ⟨S1, s1, fun M2 H3 z d em kp hd => TrA.cast orZ (s2 M2 H3 Z z (.f d) em kp (.f hd) fun _ z => nomatch z)⟩
theorem ss_tPutL (hf : SimE K co E false te f) (hh : SimH K co E i th h) (hb : SimE K co E w tb fb) : SimS K co E (tAsg te (gSub th tb rSetL)) (xTPutL i h fb f) := fun ρ own σ H R Dn q => by
  refine hf ρ own σ H R _ (out_of R q fun d _ q2 z H0 e0 hz => ?_)
  refine hh ρ own σ H0 (R.up e0) _ (outH_of (R.up e0) q2 fun x _ k rr t v y H1 ei ev ea e1 F => ?_)
  have R1 := (R.up e0).up e1
  refine hb ρ own σ H1 R1 _ (out_of R1 k fun b _ k2 c H2 e2 hc => ?_)
  obtain ⟨π, u⟩ := x
  cases u with
  | l ts =>
    dsimp only at k2
    cases hm : ixT (.l ts) b with
    | none => rw [hm] at k2; exact k2.elim
    | some n =>
      rw [hm] at k2
      dsimp only at k2
      cases hc with
      | int m =>
        have hm : ixN ts.length m = some n := hm
        unfold tPut at k2
        rw [ei] at k2
        obtain ⟨S', f1, _, _⟩ := id F
        obtain ⟨p, vs, S0, rfl, hp, a0, _, _⟩ := list_node f1
        refine ⟨p, vs, m, n, rfl, rfl, e2 _ _ hp, by rw [a0.length]; exact hm, ?_⟩
        have hn := (ixN_seq hm).2.1
        obtain ⟨own', R'⟩ := R1.nodeOp (o := .lst (vs.set n z)) (u2 := .l (ts.set n (.f d))) ei ev F rfl e2 (fun S0 vs' nd a => by
          cases nd with
          | l hp' =>
            rw [hp] at hp'
            cases hp'
            obtain ⟨S3, s1, s2⟩ := setv_f (M2 := H) (H3 := H) n a hn
            exact ⟨S3, s1, fun M2 em em2 kp => ⟨_, .l upd_same, s2 M2 _ z d em kp ((hz.mono (msk_ex e1)).mono em)⟩⟩) rfl
        exact k2 own' σ _ R'
      | _ => cases hm
  | _ => exact k2.elim

def setJ (k : Key) (u : Tn) : List Key → List Tn → List Tn
  | x :: ks, t :: ts => (if x = k then u else t) :: setJ k u ks ts
  | _, _ => []
def putJ (ks : List Key) (ts : List Tn) (k : Key) (u : Tn) : List Key × List Tn := if (idxJ ks k).isSome = true then (ks, setJ k u ks ts) else (ks ++ [k], ts ++ [u])
def xTPutJ (i : Nat) (h : Env → R (List Nat × Tn)) (fj f : Env → R D) : Env → Out := xOut f fun d => xOutH h fun x => xOut fj fun b ρ => match x.2, keyJ b with
  | .j ks ts, some k => if ks.length < 1000000 then tPut i x.1 (.j (putJ ks ts k (.f d)).1 (putJ ks ts k (.f d)).2) ρ else .st
  | _, _ => .st
theorem Nd.jInv {M H : Hp} {p : Addr} {ks : List Key} {ts : List Tn} {vs : List V} (h : Nd K M H p (.j ks ts) vs) : ∃ kvs, H p = some (.dK kvs) ∧ ks = kvs.map (·.1) ∧ vs = kvs.map (·.2) := by
  cases h with
  | j h => exact ⟨_, h, rfl, rfl⟩
theorem idxJ_any {k : Key} : ∀ {kvs : List (Key × V)}, (kvs.any fun kv => decide (kv.1 = k)) = (idxJ (kvs.map (·.1)) k).isSome
  | [] => rfl
  | p :: r => by
    unfold idxJ
    rw [List.any_cons, List.map_cons, List.findIdx?_cons]
    by_cases e : p.1 = k
    · rw [decide_eq_true e]; rfl
    · rw [decide_eq_false e, if_neg (by decide), Option.isSome_map, Bool.false_or]
      exact idxJ_any
theorem repl_keys {k : Key} {z : V} (kvs : List (Key × V)) : (kvs.map fun kv => if kv.1 = k then (kv.1, z) else kv).map (·.1) = kvs.map (·.1) := by
  rw [List.map_map]
  refine List.map_congr_left fun x _ => ?_
  show (if x.1 = k then (x.1, z) else x).1 = x.1
  split <;> rfl
theorem repl_f {k : Key} {M H : Hp} : ∀ {kvs : List (Key × V)} {S0 : Addr → Prop} {ts : List Tn}, TrA K M H S0 (kvs.map (·.2)) ts → ∃ S3 : Addr → Prop, (∀ a, S3 a → S0 a) ∧ ∀ M2 H3 z d, Ex M M2 → (∀ a, S0 a → ∀ o, H a = some o → H3 a = some o) → Dr K M2 z d → TrA K M2 H3 S3 ((kvs.map fun kv => if kv.1 = k then (kv.1, z) else kv).map (·.2)) (setJ k (.f d) (kvs.map (·.1)) ts)
  | [], _, _, h => by
    cases h with
    | nil => exact ⟨Z, fun _ z => z, fun _ _ _ _ _ _ _ => .nil⟩
  | p :: r, _, _, h => by
    cases h with
    | @cons S T _ _ t ts h1 t1 n =>
      obtain ⟨S3, s1, s2⟩ := repl_f (k := k) (kvs := r) t1
      by_cases e : p.1 = k
      · refine ⟨fun a => Z a ∨ S3 a, fun a z => ?_, fun M2 H3 z d em kp hd => ?_⟩
        · rcases z with z | z
          · exact nomatch z
          · exact .inr (s1 a z)
        · rw [List.map_cons, List.map_cons, List.map_cons, if_pos e]
          show TrA K M2 H3 _ (z :: _) ((if p.1 = k then Tn.f d else t) :: _)
          rw [if_pos e]
          exact .cons (.f hd) (s2 M2 H3 z d em (fun a za => kp a (.inr za)) hd) fun _ z => nomatch z
      · refine ⟨fun a => S a ∨ S3 a, fun a z => ?_, fun M2 H3 z d em kp hd => ?_⟩
        · rcases z with z | z
          · exact .inl z
          · exact .inr (s1 a z)
        · rw [List.map_cons, List.map_cons, List.map_cons, if_neg e]
          show TrA K M2 H3 _ (p.2 :: _) ((if p.1 = k then Tn.f d else t) :: _)
          rw [if_neg e]
          exact .cons (h1.mono em fun a za => kp a (.inl za)) (s2 M2 H3 z d em (fun a za => kp a (.inr za)) hd) fun a za y => n a za (s1 a y)
theorem ss_tPutJ (hf : SimE K co E false te f) (hh : SimH K co E i th h) (hb : SimE K co E w tb fb) : SimS K co E (sDPut th tb te) (xTPutJ i h fb f) := fun ρ own σ H R Dn q => by
  refine hf ρ own σ H R _ (out_of R q fun d _ q2 z H0 e0 hz => ?_)
  refine hh ρ own σ H0 (R.up e0) _ (outH_of (R.up e0) q2 fun x _ k rr t v y H1 ei ev ea e1 F => ?_)
  have R1 := (R.up e0).up e1
  refine hb ρ own σ H1 R1 _ (out_of R1 k fun b _ k2 c H2 e2 hc => ?_)
  obtain ⟨π, u⟩ := x
  cases u with
  | j ks ts =>
    dsimp only at k2
    cases hm : keyJ b with
    | none => rw [hm] at k2; exact k2.elim
    | some kk =>
      rw [hm] at k2
      dsimp only at k2
      split at k2
      · rename_i hl
        unfold tPut at k2
        rw [ei] at k2
        have := keyJ_of (hc.mono msk_le) hm
        subst this
        obtain ⟨S', f1, _, _⟩ := id F
        obtain ⟨p, vs, S0, rfl, nd0, a0, _, _⟩ := f1.node rfl
        obtain ⟨kvs, hp, rfl, rfl⟩ := nd0.jInv
        · refine ⟨p, upd H2 p (.dK (putK kvs kk z)), rfl, DPut.k (e2 _ _ hp) (szl (by simpa using hl)), ?_⟩
          obtain ⟨own', R'⟩ := R1.nodeOp (o := .dK (putK kvs kk z)) (u2 := .j (putJ (kvs.map (·.1)) ts kk (.f d)).1 (putJ (kvs.map (·.1)) ts kk (.f d)).2) ei ev F rfl e2 (fun S0 vs' nd a => by
            obtain ⟨kvs', hp', _, rfl⟩ := nd.jInv
            rw [hp] at hp'
            cases hp'
            have a : TrA K (msk (Sx co own) H1) H1 S0 (kvs.map (·.2)) ts := a
            unfold putJ putK
            rw [idxJ_any]
            by_cases hc : (idxJ (kvs.map (·.1)) kk).isSome = true
            · rw [if_pos hc, if_pos hc]
              obtain ⟨S3, s1, s2⟩ := repl_f (k := kk) a
              refine ⟨S3, s1, fun M2 em em2 kp => ⟨_, ?_, s2 M2 _ z d em kp ((hz.mono (msk_ex e1)).mono em)⟩⟩
              have n2 := Nd.j (K := K) (M := M2) (H := upd H2 p (.dK (kvs.map fun kv => if kv.1 = kk then (kv.1, z) else kv))) (ts := setJ kk (.f d) (kvs.map (·.1)) ts) (kvs := kvs.map fun kv => if kv.1 = kk then (kv.1, z) else kv) (p := p) upd_same
              rw [repl_keys] at n2
              exact n2
            · rw [if_neg hc, if_neg hc]
              refine ⟨S0, fun _ z => z, fun M2 em em2 kp => ⟨(kvs ++ [(kk, z)]).map (·.2), ?_, ?_⟩⟩
              · have n2 := Nd.j (K := K) (M := M2) (H := upd H2 p (.dK (kvs ++ [(kk, z)]))) (ts := ts ++ [.f d]) (kvs := kvs ++ [(kk, z)]) (p := p) upd_same
                rw [List.map_append] at n2
                exact n2
              · rw [List.map_append]
                exact snoc_f (a.mono em kp) ((hz.mono (msk_ex e1)).mono em)) rfl
          exact k2 own' σ _ R'
      · exact k2.elim
  | _ => exact k2.elim
end
end Sm

namespace Sm
open PySem L2 Evl Al PySem.Spec PyProof.Rows
section
variable {K : Kw} {co : Co} {E : L2.St → XK} {w w1 : Bool} {te ta tb tc th : TE} {tr : TA} {f fa fb : Env → R D} {fn fr : Env → R (List D)} {h : Env → R (List Nat × Tn)} {i j l : Nat} {ft : Env → R Tn}
def SimNT (K : Kw) (co : Co) (E : L2.St → XK) (te : TE) (f : Env → R Tn) : Prop := ∀ ρ own σ H, Rs K co ρ own σ H → ∀ Q : VK,
  Pst (f ρ) (fun t => ∀ v (N : Addr → Prop) H2, (∀ a, N a → H a = none) → Ex H H2 → Tr K (msk (fun a => Sx co own a ∨ N a) H2) H2 N v t → Q v H2) (ErrS K E σ H) → te σ H Q
def tOfN (fn : Env → R (List D)) : Env → R Tn := fun ρ => (fn ρ).bind fun ds => .ok (.l (ds.map .f))
def tOfE (f : Env → R D) : Env → R Tn := fun ρ => (f ρ).bind fun d => .ok (.f d)
theorem TrA.fs {M H : Hp} : ∀ {vs : List V} {ds : List D}, DrA K M vs ds → TrA K M H Z vs (ds.map .f)
  | _, _, .nil => .nil
  | _, _, .cons h t => TrA.cast (fun a => ⟨fun z => by
      rcases z with z | z
      · exact z
      · exact z, Or.inl⟩) (TrA.cons (.f h) (TrA.fs t) fun _ z => nomatch z)
theorem snt_n (hn : SimN K co E te fn) : SimNT K co E te (tOfN fn) := fun ρ own σ H R Q q => by
  refine hn ρ own σ H R _ ((q.bind).mono (fun ds _ k p vs H2 hp e hl hd => ?_) fun _ _ z => z)
  refine k (.ref p) (fun a => a = p ∨ Z a) H2 (fun a z => ?_) e ?_
  · rcases z with rfl | z
    · exact hp
    · exact nomatch z
  · have q := TrA.fs (H := H2) hd
    rw [show (fun a => Sx co own a ∨ (a = p ∨ Z a)) = (fun a => Sx co own a ∨ a = p) from funext fun a => propext (by rw [orZ (S := fun a => a = p)])]
    exact .l hl q fun z => nomatch z
theorem snt_e (hf : SimE K co E false te f) : SimNT K co E te (tOfE f) := fun ρ own σ H R Q q => by
  refine hf ρ own σ H R _ ((q.bind).mono (fun d _ k v H2 e hd => ?_) fun _ _ z => z)
  refine k v Z H2 (fun a z => nomatch z) e ?_
  rw [show (fun a => Sx co own a ∨ Z a) = Sx co own from funext fun a => propext (orZ a)]
  exact .f hd

def tNilK : Env → R Tn := fun _ => .ok (.k [] [])
def tNilJ : Env → R Tn := fun _ => .ok (.j [] [])
theorem snt_newK : SimNT K co E (tNewN K.w) tNilK := fun ρ own σ H R Q q p hp =>
  q (.ref p) (fun a => a = p ∨ Z a) _ (fun a z => by
    rcases z with rfl | z
    · exact hp
    · exact nomatch z) (Ex.new hp) (.k (es := []) upd_same .nil rfl .nil fun z => nomatch z)
theorem snt_newJ : SimNT K co E tDNewK tNilJ := fun ρ own σ H R Q q p hp =>
  q (.ref p) (fun a => a = p ∨ Z a) _ (fun a z => by
    rcases z with rfl | z
    · exact hp
    · exact nomatch z) (Ex.new hp) (.j (kvs := []) upd_same .nil fun z => nomatch z)

def xSetT (i : Nat) (f : Env → R Tn) : Env → Out := fun ρ => match f ρ with
  | .ok t => if i < ρ.length then .nx (ρ.set i (.t false t)) else .st
  | .er c => .er c ρ
  | .st => .st
theorem Rs.setT {ρ : Env} {own : Own} {σ : L2.St} {H H' : Hp} {N : Addr → Prop} {v : V} {t : Tn} (R : Rs K co ρ own σ H) (hi : i < ρ.length) (hN : ∀ a, N a → H a = none) (e : Ex H H') (ht : Tr K (msk (fun a => Sx co own a ∨ N a) H') H' N v t) :
    Rs K co (ρ.set i (.t false t)) (oset own i N) (σ.set i (some v)) H' := by
  have fwd : ∀ a, Sx co (oset own i N) a → Sx co own a ∨ N a := fun a z => by
    rcases z with z | ⟨j, z⟩
    · exact .inl (.inl z)
    · by_cases e : j = i
      · subst e; rw [oset_same] at z; exact .inr z
      · rw [oset_ne e] at z; exact .inl (.inr ⟨j, z⟩)
  have ne : ∀ {j q}, own j q → ¬ N q := fun {j q} z y => (R.mutO z).ne (hN q y)
  have old : Ex (msk (Sx co own) H) (msk (Sx co (oset own i N)) H') := msk_to e fun a z => by
    rcases fwd a z with y | y
    · exact .inl y
    · exact .inr (hN a y)
  refine ⟨by rw [List.length_set, List.length_set]; exact R.len, fun j s hj => ?_, fun j hj => ?_, fun j q z => ?_, fun j q z => ?_, fun j k q z y => ?_, R.ex.trans e, R.ha, fun a h => (R.s0 a h).ex e⟩
  · by_cases ej : j = i
    · subst ej
      rw [List.getElem?_set_self hi] at hj
      cases hj
      rw [set_join (by rw [← R.len]; exact hi)]
      refine ⟨v, rfl, (fun z => by cases z), ?_⟩
      rw [oset_same]
      exact ht.mono (msk_sub fwd) fun _ _ _ u => u
    · rw [get_set_ne ej] at hj
      rw [get_set_ne ej]
      exact (R.sl j s hj).re (oset_ne ej) old (fun q _ u hu => e _ _ hu) (Ex.refl _) rfl ⟨rfl, rfl, rfl, rfl, rfl⟩
  · rw [List.length_set] at hj
    rw [oset_ne (by omega)]
    exact R.out j hj
  · by_cases ej : j = i
    · subst ej; rw [oset_same] at z; exact fresh_back R.ex (hN q z)
    · rw [oset_ne ej] at z; exact R.new j q z
  · by_cases ej : j = i
    · subst ej; rw [oset_same] at z
      exact fun y => (R.s0 _ y).ne (hN q z)
    · rw [oset_ne ej] at z; exact R.dis j q z
  · by_cases ej : j = i
    · subst ej
      rw [oset_same] at z
      by_cases ek : k = j
      · exact ek.symm
      · rw [oset_ne ek] at y; exact absurd z (ne y)
    · rw [oset_ne ej] at z
      by_cases ek : k = i
      · subst ek; rw [oset_same] at y; exact absurd y (ne z)
      · rw [oset_ne ek] at y; exact R.inj j k q z y
theorem outNT_of {ρ : Env} {own : Own} {σ : L2.St} {H : Hp} {Dn : Ends} {k : Tn → Out} {Kp : Tn → Prop} (R : Rs K co ρ own σ H) (q : OP K co E Dn (match ft ρ with
  | .ok t => k t
  | .er c => .er c ρ
  | .st => .st)) (hk : ∀ d, ft ρ = .ok d → OP K co E Dn (k d) → Kp d) : Pst (ft ρ) Kp (ErrS K E σ H) := by
  cases e : ft ρ with
  | ok d => rw [e] at q; exact hk d e q
  | er c => rw [e] at q; exact fun H2 e2 => q own σ H2 (R.up e2)
  | st => rw [e] at q; exact q
theorem ss_setT (ht : SimNT K co E te ft) : SimS K co E (tAsg te (gName i)) (xSetT i ft) := fun ρ own σ H R Dn q => by
  refine ht ρ own σ H R _ (outNT_of R q fun t _ k v N H2 hN e2 hv => ?_)
  split at k
  · exact k _ _ H2 (R.setT (by assumption) hN e2 hv)
  · exact k.elim

def SimNA (K : Kw) (co : Co) (E : L2.St → XK) (ta : TA) (f : Env → R (List Tn)) : Prop := ∀ ρ own σ H, Rs K co ρ own σ H → ∀ Q : List V → Hp → Prop,
  Pst (f ρ) (fun ts => ∀ vs (N : Addr → Prop) H2, (∀ a, N a → H a = none) → Ex H H2 → TrA K (msk (fun a => Sx co own a ∨ N a) H2) H2 N vs ts → Q vs H2) (ErrS K E σ H) → ta σ H Q
def naNil : Env → R (List Tn) := fun _ => .ok []
def naCons (f : Env → R Tn) (g : Env → R (List Tn)) : Env → R (List Tn) := fun ρ => (f ρ).bind fun t => (g ρ).bind fun ts => .ok (t :: ts)
theorem sna_nil : SimNA K co E tNil naNil := fun ρ own σ H R Q q => q [] Z H (fun _ z => nomatch z) (Ex.refl H) .nil
theorem sna_cons {gn : Env → R (List Tn)} (h1 : SimNT K co E te ft) (h2 : ∀ N : Addr → Prop, SimNA K { co with S0 := fun a => co.S0 a ∨ N a } E tr gn) : SimNA K co E (tCons te tr) (naCons ft gn) := fun ρ own σ H R Q q => by
  refine h1 ρ own σ H R _ ((q.bind).mono (fun t _ q2 v N H1 hN e1 hv => ?_) fun _ _ z => z)
  have R1 : Rs K { co with S0 := fun a => co.S0 a ∨ N a } ρ own σ H1 := by
    have sx : ∀ a, Sx { co with S0 := fun a => co.S0 a ∨ N a } own a → Sx co own a ∨ H a = none := fun a z => by
      rcases z with (z | z) | z
      · exact .inl (.inl z)
      · exact .inr (hN a z)
      · exact .inl (.inr z)
    refine ⟨R.len, fun i s hs => (R.sl i s hs).re rfl (msk_to e1 sx) (fun q _ u hu => e1 _ _ hu) (Ex.refl _) rfl ⟨rfl, rfl, rfl, rfl, rfl⟩, R.out, R.new, fun i q z y => ?_, R.inj, R.ex.trans e1, R.ha, fun a z => ?_⟩
    · rcases y with y | y
      · exact R.dis i q z y
      · exact (R.mutO z).ne (hN q y)
    · rcases z with z | z
      · exact (R.s0 a z).ex e1
      · exact hv.mut a z
  refine h2 N ρ own σ H1 R1 _ ((q2.bind).mono (fun ts _ k vs N2 H2 hN2 e2 hvs => ?_) fun c _ z => z.mono e1)
  have eq : (fun a => Sx { co with S0 := fun a => co.S0 a ∨ N a } own a ∨ N2 a) = (fun a => Sx co own a ∨ (N a ∨ N2 a)) := funext fun a => propext ⟨fun z => by
    rcases z with ((z | z) | z) | z
    · exact .inl (.inl z)
    · exact .inr (.inl z)
    · exact .inl (.inr z)
    · exact .inr (.inr z), fun z => by
    rcases z with (z | z) | z | z
    · exact .inl (.inl (.inl z))
    · exact .inl (.inr z)
    · exact .inl (.inl (.inr z))
    · exact .inr z⟩
  rw [eq] at hvs
  refine k (v :: vs) (fun a => N a ∨ N2 a) H2 (fun a z => ?_) (e1.trans e2) (.cons (hv.mono (msk_to e2 fun a z => ?_) fun a _ u z => e2 a u z) hvs fun a z y => (hv.mut a z).ne (hN2 a y))
  · rcases z with z | z
    · exact hN a z
    · exact fresh_back e1 (hN2 a z)
  · rcases z with z | z | z
    · exact .inl (.inl z)
    · exact .inl (.inr z)
    · exact .inr (hN2 a z)

def tLstT (f : Env → R (List Tn)) : Env → R Tn := fun ρ => (f ρ).bind fun ts => if ts.length ≤ 1000000 then .ok (.l ts) else .st
theorem snt_lst {gn : Env → R (List Tn)} (hn : SimNA K co E tr gn) : SimNT K co E (tLst tr) (tLstT gn) := fun ρ own σ H R Q q => by
  refine hn ρ own σ H R _ ((q.bind).mono (fun ts _ k vs N H1 hN e1 hv => ?_) fun _ _ z => z)
  split at k
  · rename_i hl
    refine ⟨szm (by rw [hv.length]; exact hl), fun p hp => k (.ref p) (fun a => a = p ∨ N a) _ (fun a z => ?_) (e1.trans (Ex.new hp)) ?_⟩
    · rcases z with rfl | z
      · exact fresh_back e1 hp
      · exact hN a z
    · refine .l upd_same (hv.mono (msk_to (Ex.new hp) fun a z => ?_) fun a _ u z => Ex.new hp a u z) fun z => (hv.mut p z).ne hp
      rcases z with z | rfl | z
      · exact .inl (.inl z)
      · exact .inr hp
      · exact .inl (.inr z)
  · exact k.elim
end
end Sm

namespace Sm
open PySem L2 Evl Al PySem.Spec PyProof.Rows
section
variable {K : Kw} {co : Co} {E : L2.St → XK} {w w1 : Bool} {te ta tb tc th : TE} {tr : TA} {f fa fb : Env → R D} {fn fr : Env → R (List D)} {h : Env → R (List Nat × Tn)} {i j l : Nat} {ft : Env → R Tn} {gn : Env → R (List Tn)}
abbrev coN (co : Co) (N : Addr → Prop) : Co := { co with S0 := fun a => co.S0 a ∨ N a }

theorem Rs.hide {ρ : Env} {own : Own} {σ : L2.St} {H H1 : Hp} {N : Addr → Prop} (R : Rs K co ρ own σ H) (e1 : Ex H H1) (hN : ∀ a, N a → H a = none) (hm : ∀ a, N a → Mut H1 a) : Rs K (coN co N) ρ own σ H1 := by
  have sx : ∀ a, Sx (coN co N) own a → Sx co own a ∨ H a = none := fun a z => by
    rcases z with (z | z) | z
    · exact .inl (.inl z)
    · exact .inr (hN a z)
    · exact .inl (.inr z)
  refine ⟨R.len, fun i s hs => (R.sl i s hs).re rfl (msk_to e1 sx) (fun q _ u hu => e1 _ _ hu) (Ex.refl _) rfl ⟨rfl, rfl, rfl, rfl, rfl⟩, R.out, R.new, fun i q z y => ?_, R.inj, R.ex.trans e1, R.ha, fun a z => ?_⟩
  · rcases y with y | y
    · exact R.dis i q z y
    · exact (R.mutO z).ne (hN q y)
  · rcases z with z | z
    · exact (R.s0 a z).ex e1
    · exact hm a z
theorem sx_coN (co : Co) (N : Addr → Prop) (own : Own) : (fun a => Sx co own a ∨ N a) = Sx (coN co N) own := funext fun a => propext ⟨fun z => by
  rcases z with (z | z) | z
  · exact .inl (.inl z)
  · exact .inr z
  · exact .inl (.inr z), fun z => by
  rcases z with (z | z) | z
  · exact .inl (.inl z)
  · exact .inr z
  · exact .inl (.inr z)⟩

theorem Rs.claimT {ρ : Env} {own : Own} {σ : L2.St} {H : Hp} {S N : Addr → Prop} {v : V} {s : Sv} (R : Rs K { co with S0 := fun a => S a ∨ N a } ρ own σ H) (hi : i < ρ.length) (h0 : ∀ a, N a → co.H0 a = none) (hd : ∀ a, N a → ¬ S a)
    (hs : Ex (msk (Sx { co with S0 := fun a => S a ∨ N a } own) H) (msk (Sx { co with S0 := S } (oset own i N)) H) → SvR K { co with S0 := S } (oset own i N) i H (some v) s) : Rs K { co with S0 := S } (ρ.set i s) (oset own i N) (σ.set i (some v)) H := by
  have sub : ∀ a, Sx { co with S0 := S } (oset own i N) a → Sx { co with S0 := fun a => S a ∨ N a } own a := fun a z => by
    rcases z with z | ⟨j, z⟩
    · exact .inl (.inl z)
    · by_cases e : j = i
      · subst e; rw [oset_same] at z; exact .inl (.inr z)
      · rw [oset_ne e] at z; exact .inr ⟨j, z⟩
  refine ⟨by rw [List.length_set, List.length_set]; exact R.len, fun j t hj => ?_, fun j hj => ?_, fun j q z => ?_, fun j q z => ?_, fun j k q z y => ?_, R.ex, R.ha, fun a z => R.s0 a (.inl z)⟩
  · by_cases ej : j = i
    · subst ej
      rw [List.getElem?_set_self hi] at hj
      cases hj
      rw [set_join (by rw [← R.len]; exact hi)]
      exact hs (msk_sub sub)
    · rw [get_set_ne ej] at hj
      rw [get_set_ne ej]
      exact (R.sl j t hj).re (oset_ne ej) (msk_sub sub) (fun _ _ _ u => u) (Ex.refl _) rfl ⟨rfl, rfl, rfl, rfl, rfl⟩
  · rw [List.length_set] at hj
    rw [oset_ne (by omega)]
    exact R.out j hj
  · by_cases ej : j = i
    · subst ej; rw [oset_same] at z; exact h0 q z
    · rw [oset_ne ej] at z; exact R.new j q z
  · by_cases ej : j = i
    · subst ej; rw [oset_same] at z; exact hd q z
    · rw [oset_ne ej] at z; exact fun y => R.dis j q z (.inl y)
  · by_cases ej : j = i
    · subst ej
      rw [oset_same] at z
      by_cases ek : k = j
      · exact ek.symm
      · rw [oset_ne ek] at y; exact absurd (.inr z) (R.dis k q y)
    · rw [oset_ne ej] at z
      by_cases ek : k = i
      · subst ek; rw [oset_same] at y; exact absurd (.inr y) (R.dis j q z)
      · rw [oset_ne ek] at y; exact R.inj j k q z y

inductive Kd where
  | d | m | k | t
def allF : List Tn → Option (List D)
  | [] => some []
  | .f d :: ts => (allF ts).map fun ds => d :: ds
  | _ :: _ => none
def slotOf : Kd → Tn → Option Sv
  | .d, .f d => some (.d d)
  | .m, .l ts => (allF ts).map .m
  | .k, .k ks ts => (allF ts).map (.k ks)
  | .t, t => some (.t false t)
  | _, _ => none
theorem oneZ (p : Addr) : (fun a => a = p ∨ Z a) = One p := funext fun a => propext ⟨fun z => by
  rcases z with rfl | z
  · exact .mk
  · exact (nomatch z), fun z => by cases z; exact .inl rfl⟩
theorem TrA.allF {M H : Hp} : ∀ {S : Addr → Prop} {vs : List V} {ts : List Tn} {ds : List D}, TrA K M H S vs ts → Sm.allF ts = some ds → DrA K M vs ds ∧ S = Z
  | _, _, _, _, .nil, e => by simp only [Sm.allF, Option.some.injEq] at e; subst e; exact ⟨.nil, rfl⟩
  | _, _, _, _, .cons (t := t) h t1 n, e => by
    cases h with
    | f hd =>
      simp only [Sm.allF] at e
      obtain ⟨ds, h1, rfl⟩ := Option.map_eq_some_iff.mp e
      obtain ⟨a, b⟩ := TrA.allF t1 h1
      subst b
      exact ⟨.cons hd a, funext fun a => propext (orZ a)⟩
    | _ => simp [Sm.allF] at e
theorem slot_ok {M H : Hp} {own : Own} {N : Addr → Prop} {k : Kd} {v : V} {t : Tn} {s : Sv} (ht : Tr K M H N v t) (e : slotOf k t = some s) (ho : own i = N) (em : Ex M (msk (Sx co own) H)) : SvR K co own i H (some v) s := by
  cases k with
  | d =>
    cases ht with
    | f hd => simp only [slotOf, Option.some.injEq] at e; subst e; exact ⟨ho, v, rfl, hd.mono em⟩
    | _ => simp [slotOf] at e
  | m =>
    cases ht with
    | l hp a ns =>
      simp only [slotOf] at e
      obtain ⟨ds, h1, rfl⟩ := Option.map_eq_some_iff.mp e
      obtain ⟨a1, rfl⟩ := a.allF h1
      refine ⟨_, _, rfl, ho.trans ?_, hp, a1.mono em⟩
      exact oneZ _
    | _ => simp [slotOf] at e
  | k =>
    cases ht with
    | k hp hk hk2 a ns =>
      simp only [slotOf] at e
      obtain ⟨ds, h1, rfl⟩ := Option.map_eq_some_iff.mp e
      obtain ⟨a1, rfl⟩ := a.allF h1
      refine ⟨_, _, rfl, ho.trans ?_, hp, hk.mono em, a1.mono em, hk2⟩
      exact oneZ _
    | _ => simp [slotOf] at e
  | t =>
    simp only [slotOf, Option.some.injEq] at e
    subst e
    refine ⟨v, rfl, (fun z => by cases z), ?_⟩
    rw [ho]
    exact ht.mono em fun _ _ _ u => u
def setAllT : List Nat → List Kd → List Tn → Env → Option Env
  | [], [], [], ρ => some ρ
  | i :: is, k :: ks, t :: ts, ρ => if i < ρ.length then (slotOf k t).bind fun s => setAllT is ks ts (ρ.set i s) else none
  | _, _, _, _ => none
theorem Rs.allT {H0' : Hp} : ∀ {is : List Nat} {ks : List Kd} {vs : List V} {ts : List Tn} {S N : Addr → Prop} {M : Hp} {ρ ρ' : Env} {own : Own} {σ : L2.St} {H : Hp}, Rs K { co with S0 := fun a => S a ∨ N a } ρ own σ H → TrA K M H N vs ts → Ex M (msk (Sx { co with S0 := fun a => S a ∨ N a } own) H) → (∀ a, N a → co.H0 a = none) → (∀ a, N a → ¬ S a) → setAllT is ks ts ρ = some ρ' → ∃ own', Rs K { co with S0 := S } ρ' own' (setAllV is vs σ) H
  | [], [], [], [], S, N, M, ρ, ρ', own, σ, H, R, a, em, h0, hd, e => by
    cases a
    simp only [setAllT, Option.some.injEq] at e
    subst e
    refine ⟨own, ?_⟩
    have : (fun a => S a ∨ Z a) = S := funext fun a => propext (orZ a)
    rw [this] at R
    exact R
  | i :: is, k :: ks, v :: vs, t :: ts, S, N, M, ρ, ρ', own, σ, H, R, a, em, h0, hd, e => by
    simp only [setAllT] at e
    split at e
    · rename_i hi
      obtain ⟨s, h1, h2⟩ := Option.bind_eq_some_iff.mp e
      cases a with
      | @cons N1 N2 _ _ _ _ ht ha nn =>
        have eqS : (fun a => S a ∨ (N1 a ∨ N2 a)) = (fun a => (S a ∨ N2 a) ∨ N1 a) := funext fun a => propext ⟨fun z => by
          rcases z with z | z | z
          · exact .inl (.inl z)
          · exact .inr z
          · exact .inl (.inr z), fun z => by
          rcases z with (z | z) | z
          · exact .inl z
          · exact .inr (.inr z)
          · exact .inr (.inl z)⟩
        have R' : Rs K { co with S0 := fun a => (S a ∨ N2 a) ∨ N1 a } ρ own σ H := by
          have R := R
          simp only [eqS] at R
          exact R
        have em' : Ex M (msk (Sx { co with S0 := fun a => (S a ∨ N2 a) ∨ N1 a } own) H) := by
          have em := em
          simp only [eqS] at em
          exact em
        have R2 := R'.claimT (co := co) (i := i) (v := v) (s := s) hi (fun a z => h0 a (.inl z)) (fun a z y => by
          rcases y with y | y
          · exact hd a (.inl z) y
          · exact nn a z y) (fun em2 => slot_ok ht h1 oset_same (em'.trans em2))
        refine Rs.allT (H0' := H0') (is := is) (ks := ks) (vs := vs) (ts := ts) (S := S) (N := N2) R2 ha ?_ (fun a z => h0 a (.inr z)) (fun a z => hd a (.inr z)) h2
        refine em'.trans (msk_sub fun a z => ?_)
        rcases z with z | ⟨j, z⟩
        · exact .inl (.inl z)
        · by_cases ej : j = i
          · subst ej; rw [oset_same] at z; exact .inl (.inr z)
          · rw [oset_ne ej] at z; exact .inr ⟨j, z⟩
    · cases e
  | [], _ :: _, _, _, _, _, _, _, _, _, _, _, _, _, _, _, _, e => by simp [setAllT] at e
  | [], [], _, _ :: _, _, _, _, _, _, _, _, _, _, _, _, _, _, e => by simp [setAllT] at e
  | [], [], _ :: _, [], _, _, _, _, _, _, _, _, _, a, _, _, _, e => by cases a
  | _ :: _, [], _, _, _, _, _, _, _, _, _, _, _, _, _, _, _, e => by simp [setAllT] at e
  | _ :: _, _ :: _, _, [], _, _, _, _, _, _, _, _, _, _, _, _, _, e => by simp [setAllT] at e
  | _ :: _, _ :: _, [], _ :: _, _, _, _, _, _, _, _, _, _, a, _, _, _, e => by cases a
def xParT (is : List Nat) (ks : List Kd) (f : Env → R (List Tn)) : Env → Out := fun ρ => match f ρ with
  | .ok ts => match setAllT is ks ts ρ with
    | some ρ' => .nx ρ'
    | none => .st
  | .er c => .er c ρ
  | .st => .st
theorem outNA_of {ρ : Env} {own : Own} {σ : L2.St} {H : Hp} {Dn : Ends} {k : List Tn → Out} {Kp : List Tn → Prop} (R : Rs K co ρ own σ H) (q : OP K co E Dn (match gn ρ with
  | .ok t => k t
  | .er c => .er c ρ
  | .st => .st)) (hk : ∀ d, gn ρ = .ok d → OP K co E Dn (k d) → Kp d) : Pst (gn ρ) Kp (ErrS K E σ H) := by
  cases e : gn ρ with
  | ok d => rw [e] at q; exact hk d e q
  | er c => rw [e] at q; exact fun H2 e2 => q own σ H2 (R.up e2)
  | st => rw [e] at q; exact q
theorem parT_end {ρ ρ' : Env} {own : Own} {σ : L2.St} {H H2 : Hp} {is : List Nat} {ks : List Kd} {vs : List V} {ts : List Tn} {N : Addr → Prop} (R : Rs K co ρ own σ H) (hN : ∀ a, N a → H a = none) (e : Ex H H2) (a : TrA K (msk (fun a => Sx co own a ∨ N a) H2) H2 N vs ts) (hs : setAllT is ks ts ρ = some ρ') : ∃ own', Rs K co ρ' own' (setAllV is vs σ) H2 := by
  have R2 := R.hide e hN a.mut
  rw [sx_coN] at a
  exact Rs.allT (H0' := H) (co := co) (S := co.S0) R2 a (Ex.refl _) (fun a z => fresh_back R.ex (hN a z)) (fun a z y => (R.s0 a y).ne (hN a z)) hs
theorem ss_parT2 (hn : SimNA K co E (tCons ta (tCons tb tNil)) gn) {k1 k2 : Kd} : SimS K co E (tPar i j (tCons ta (tCons tb tNil))) (xParT [i, j] [k1, k2] gn) := fun ρ own σ H R Dn q => by
  refine hn ρ own σ H R _ (outNA_of R q fun ts _ k vs N H2 hN e a => ?_)
  cases es : setAllT [i, j] [k1, k2] ts ρ with
  | none => rw [es] at k; exact k.elim
  | some ρ' =>
    rw [es] at k
    obtain ⟨own', R'⟩ := parT_end R hN e a es
    have hv := a.length
    match ts, vs, hv, es with
    | [_, _], [v, w], _, _ => exact ⟨v, w, rfl, k own' _ H2 R'⟩
    | [], _, _, es => simp [setAllT] at es
    | [_], _, _, es => simp [setAllT] at es
    | _ :: _ :: _ :: _, _, _, es => simp [setAllT] at es
theorem ss_parT3 (hn : SimNA K co E (tCons ta (tCons tb (tCons tc tNil))) gn) {k1 k2 k3 : Kd} : SimS K co E (tPar3 i j l (tCons ta (tCons tb (tCons tc tNil)))) (xParT [i, j, l] [k1, k2, k3] gn) := fun ρ own σ H R Dn q => by
  refine hn ρ own σ H R _ (outNA_of R q fun ts _ k vs N H2 hN e a => ?_)
  cases es : setAllT [i, j, l] [k1, k2, k3] ts ρ with
  | none => rw [es] at k; exact k.elim
  | some ρ' =>
    rw [es] at k
    obtain ⟨own', R'⟩ := parT_end R hN e a es
    have hv := a.length
    match ts, vs, hv, es with
    | [_, _, _], [v, w, u], _, _ => exact ⟨v, w, u, rfl, k own' _ H2 R'⟩
    | [], _, _, es => simp [setAllT] at es
    | [_], _, _, es => simp [setAllT] at es
    | [_, _], _, _, es => simp [setAllT] at es
    | _ :: _ :: _ :: _ :: _, _, _, es => simp [setAllT] at es
end
end Sm

namespace Sm
open PySem L2 Evl Al PySem.Spec PyProof.Rows

def tNewN1 (K : PySem.W.Frag) (w : World) (tk tv : TE) : TE := fun σ H Q => ∀ p, H p = none → tk σ (upd H p (dN w p [])) fun y H1 => tv σ H1 fun v H2 => ∃ b k, H2 p = some (dN w p []) ∧ KeyAt K H2 y b k ∧ Q (.ref p) (upd H2 p (dN w p [(k, b, v)]))
theorem pe_newN1 {X : Cx} {K : PySem.W.Frag} {w : World} {ek ev : Expr} {pos : Pos} {tk tv : TE} (hK : X.K = K) (hw : X.w = w) (hu : X.A.units + 64 < cLine) (hk : PE X ek tk) (hv : PE X ev tv) : PE X (.Dict [some ek] [ev] pos) (tNewN1 K w tk tv) := by
  subst hK
  subst hw
  refine ⟨fun pins s σ H Q I q => ?_⟩
  have hn := I.hok.fresh (Nat.le_refl s.heap.objs.size)
  have I1 := I.laid (a := s.heap.objs.size) (o := dN X.w s.heap.objs.size []) (h' := s.heap.push { cls := .type "dict", data := .dict #[] }) (t' := s.toks) (fun _ _ q => Heap.get?_push_of_some _ q) (Nat.le_refl _) (dn_empty s.heap I.big)
  rw [arm_eval_Dict, zip_pairTrees [some ek] [ev] _ _ rfl rfl, dictDisplay_pairs _ (by simp [pairTrees]) (by simp [pairTrees])]
  refine wpAny_bind (wpAny_standAt (wpAny_bind (wpAny_subDictH (knd := nestedKind X.prog X.w) (show X.A.units + 8 < cLine by omega) (by simp [pairTrees]) ?_)))
  refine pairTrees_cons_walk (thn (hk.run pins _ σ _ _ I1 (q _ hn)) fun u s1 ⟨y, H1, I2, ry, q1⟩ => thn (hv.run pins s1 σ H1 _ I2 q1) fun r s2 ⟨v, H2, I3, rv, b, k, e, ⟨ey, nk, dk⟩, q2⟩ => pairTrees_nil_walk ?_)
  subst ey
  cases (show u = Value.ref b from ry)
  obtain ⟨z, hd, xs, rel, dd⟩ := dn_at I3 rfl e (fun _ z => nomatch z)
  cases rel
  refine ⟨[(k, b, r)], ⟨rfl, rfl, key_isN I3 nk dk, trivial⟩, dd, fun h' tk dd' hs => wpAny_pure ?_⟩
  obtain ⟨o, ds, ep, hq, h2, h3, h4, _, h5⟩ := dd'
  refine ⟨.ref s.heap.objs.size, _, d_write I3 (by rw [e]; exact True.intro) hs ⟨o, hq⟩ ?_, rfl, q2⟩
  exact dn_new (by rw [sizeLine_eq]; simp) hd (by simp) (.cons ⟨rfl, rfl, rv⟩ .nil) ⟨o, ds, ep, hq, h2, h3, h4⟩
section
variable {K : Kw} {co : Co} {E : L2.St → XK} {w w1 : Bool} {te ta tb tc th tk tv : TE} {tr : TA} {f fa fb fk fv : Env → R D} {fn fr : Env → R (List D)} {h : Env → R (List Nat × Tn)} {i j l : Nat} {ft : Env → R Tn} {gn : Env → R (List Tn)}
def tK1 (fk fv : Env → R D) : Env → R Tn := fun ρ => (fk ρ).bind fun k => (fv ρ).bind fun v => if (keyD k).isSome = true then .ok (.k [k] [.f v]) else .st
theorem snt_K1 (hk : ∀ N : Addr → Prop, SimE K (coN co N) E false tk fk) (hv : ∀ N : Addr → Prop, SimE K (coN co N) E false tv fv) : SimNT K co E (tNewN1 K.f K.w tk tv) (tK1 fk fv) := fun ρ own σ H R Q q p hp => by
  have R1 : Rs K (coN co fun a => a = p ∨ Z a) ρ own σ (upd H p (dN K.w p [])) := R.hide (Ex.new hp) (fun a z => by
    rcases z with rfl | z
    · exact hp
    · exact (nomatch z)) (fun a z => by
    rcases z with rfl | z
    · exact .n upd_same
    · exact (nomatch z))
  refine hk _ ρ own σ _ R1 _ ((q.bind).mono (fun a _ q2 y H1 e1 hy => ?_) fun c _ z => z.mono (Ex.new hp))
  refine hv _ ρ own σ H1 (R1.up e1) _ ((q2.bind).mono (fun b _ q3 v H2 e2 hz => ?_) fun c _ z => z.mono ((Ex.new hp).trans e1))
  split at q3
  · rename_i hk1
    obtain ⟨n, hn⟩ := Option.isSome_iff_exists.mp hk1
    have hy2 := hy.mono (msk_ex (S := Sw (coN co fun a => a = p ∨ Z a) own false) e2)
    obtain ⟨b', rfl, nk, dk⟩ := key_at (dr_full hy2) hn
    have hpp : H2 p = some (dN K.w p []) := e2 _ _ (e1 _ _ upd_same)
    refine ⟨b', n, hpp, ⟨rfl, nk, dk⟩, q3 (.ref p) (fun a => a = p ∨ Z a) _ (fun a z => ?_) ?_ ?_⟩
    · rcases z with rfl | z
      · exact hp
      · exact (nomatch z)
    · refine fun a o ho => ?_
      rw [upd_ne (fun y => by subst y; rw [hp] at ho; cases ho)]
      exact ((Ex.new hp).trans (e1.trans e2)) _ _ ho
    · have ep : (fun a => Sx co own a ∨ (a = p ∨ Z a)) = Sx (coN co fun a => a = p ∨ Z a) own := sx_coN co _ own
      rw [ep, msk_upd (show Sx (coN co fun a => a = p ∨ Z a) own p from .inl (.inr (.inl rfl)))]
      refine .k (es := [(n, b', v)]) upd_same (.cons hy2 .nil) (by simp [keysD, hn]) (TrA.fs (ds := [b]) (.cons hz .nil)) fun z => nomatch z
  · exact q3.elim

theorem setAllT_len : ∀ {is : List Nat} {ks : List Kd} {ts : List Tn} {ρ ρ' : Env}, setAllT is ks ts ρ = some ρ' → ts.length = is.length
  | [], [], [], _, _, _ => rfl
  | i :: is, k :: ks, t :: ts, ρ, ρ', e => by
    simp only [setAllT] at e
    split at e
    · obtain ⟨s, _, h2⟩ := Option.bind_eq_some_iff.mp e
      simp [setAllT_len h2]
    · cases e
  | [], [], _ :: _, _, _, e => by simp [setAllT] at e
  | [], _ :: _, _, _, _, e => by simp [setAllT] at e
  | _ :: _, [], _, _, _, e => by simp [setAllT] at e
  | _ :: _, _ :: _, [], _, _, e => by simp [setAllT] at e
theorem ss_parTG {is : List Nat} {ks : List Kd} {n : Nat} {tgs : TGs} (hn : SimNA K co E tr gn) (hg : tgs = gNames is) (hl : n = is.length) (hz0 : is.length ≤ 1000) : SimS K co E (tAsg (tTup tr) (gSeq K n tgs)) (xParT is ks gn) := fun ρ own σ H R Dn q => by
  subst hg
  subst hl
  refine hn ρ own σ H R _ (outNA_of R q fun ts _ k vs N H2 hN e a => ?_)
  cases es : setAllT is ks ts ρ with
  | none => rw [es] at k; exact k.elim
  | some ρ' =>
    rw [es] at k
    obtain ⟨own', R'⟩ := parT_end R hN e a es
    have hv := a.length
    have hts := setAllT_len es
    refine ⟨szm (by omega), fun p hpn => .inl ⟨p, vs, rfl, st_of upd_same, by omega, gNames_ok (by omega) ?_⟩⟩
    exact k own' _ _ (R'.up (Ex.new hpn))

def HOk (i : Nat) (h : Env → R (List Nat × Tn)) : Prop := ∀ ρ x, h ρ = .ok x → ∃ r t, ρ[i]? = some (.t r t) ∧ t.at x.1 = some x.2
theorem ho_var : HOk i (hVar i) := fun ρ x e => by
  unfold hVar at e
  cases es : ρ[i]? with
  | none => rw [es] at e; cases e
  | some s =>
    rw [es] at e
    cases s with
    | t r t => cases e; exact ⟨r, t, rfl, rfl⟩
    | _ => cases e
theorem Rb_ok {α β : Type} {r : R α} {k : α → R β} {y : β} (e : r.bind k = .ok y) : ∃ x, r = .ok x ∧ k x = .ok y := by
  cases r with
  | ok x => exact ⟨x, rfl, e⟩
  | er c => cases e
  | st => cases e
theorem kid_ok {x y : List Nat × Tn} {n : Option Nat} (e : hKid x n = .ok y) : ∃ m c, n = some m ∧ x.2.kids[m]? = some c ∧ y = (x.1 ++ [m], c) := by
  unfold hKid at e
  cases n with
  | none => cases e
  | some m =>
    dsimp only at e
    cases ek : x.2.kids[m]? with
    | none => rw [ek] at e; cases e
    | some c => rw [ek] at e; cases e; exact ⟨m, c, rfl, ek, rfl⟩
theorem ho_kid {x y : List Nat × Tn} {n : Option Nat} {t : Tn} (e : hKid x n = .ok y) (ht : t.at x.1 = some x.2) : t.at y.1 = some y.2 := by
  obtain ⟨m, c, _, hc, rfl⟩ := kid_ok e
  exact at_app x.1 ht hc
theorem ho_ix (ho : HOk i h) : HOk i (hIx h fb) := fun ρ x e => by
  obtain ⟨a, h1, e⟩ := Rb_ok e
  obtain ⟨b, h2, e⟩ := Rb_ok e
  obtain ⟨r, t, h3, h4⟩ := ho ρ a h1
  exact ⟨r, t, h3, ho_kid e h4⟩
theorem ho_fld {cs : List Str} {n : Str} (ho : HOk i h) : HOk i (hFld cs n h) := fun ρ x e => by
  obtain ⟨a, h1, e⟩ := Rb_ok e
  obtain ⟨r, t, h3, h4⟩ := ho ρ a h1
  exact ⟨r, t, h3, ho_kid e h4⟩

def lT (h : Env → R (List Nat × Tn)) : Env → R (List D) := fun ρ => (h ρ).bind fun x => match x.2 with
  | .l ts => R.of (allF ts)
  | .f (.list ds) => .ok ds
  | _ => .st
theorem sl_t (hh : SimH K co E i th h) : SimL K co E th (lT h) := fun ρ own σ H R Q q => by
  refine hh ρ own σ H R _ ((q.bind).mono (fun x _ q3 rr t v y H1 ei ev ea e1 F => ?_) fun _ _ z => z)
  obtain ⟨π, u⟩ := x
  obtain ⟨S', f1, _, _⟩ := F
  cases u with
  | l ts =>
    obtain ⟨ds, h1, k⟩ := Pst.of (show Pst (Sm.R.of (allF ts)) _ _ from q3)
    obtain ⟨p, vs, S0, rfl, hp, a, _, _⟩ := list_node f1
    exact k p vs H1 e1 hp (a.allF h1).1
  | f d =>
    cases d with
    | list ds =>
      cases f1 with
      | f hd =>
        cases hd with
        | lst hp a => exact q3 _ _ H1 e1 (msk_some hp).2 a
    | _ => exact q3.elim
  | _ => exact q3.elim

def srcT (h : Env → R (List Nat × Tn)) : Env → R (List Sv) := fun ρ => (lT h ρ).bind fun ds => .ok (sD ds)
theorem si_t (hh : SimH K co E i th h) : SimI K co E true (iSeq K th) (srcT h) := fun ρ own σ H R Q q => by
  exact .inl (sl_t hh ρ own σ H R _ ((q.bind).mono (fun ds _ k p vs H1 e1 hp hd => ⟨p, rfl, ⟨vs, sq_of hp⟩, k _ H1 e1 (yld_list hp hd)⟩) fun _ _ z => z))
end
end Sm

namespace Sm
open PySem L2 Evl Al PySem.Spec PyProof.Rows
section
variable {K : Kw} {co : Co} {E : L2.St → XK} {w w1 b : Bool} {te ta tb tc th tk tv : TE} {tr : TA} {f fa fb fk fv : Env → R D} {fn fr : Env → R (List D)} {h : Env → R (List Nat × Tn)} {i j l : Nat} {ft : Env → R Tn} {gn : Env → R (List Tn)} {trs : List (TE × TE)} {ks : List Key} {k : Key}

def SimNP (K : Kw) (co : Co) (E : L2.St → XK) (trs : List (TE × TE)) (ks : List Key) (f : Env → R (List Tn)) : Prop := ∀ ρ own σ H, Rs K co ρ own σ H → ∀ Q : List (V × V) → Hp → Prop,
  Pst (f ρ) (fun ts => ∀ (kvs : List (Key × V)) (N : Addr → Prop) H2, (∀ a, N a → H a = none) → Ex H H2 → kvs.map (·.1) = ks → TrA K (msk (fun a => Sx co own a ∨ N a) H2) H2 N (kvs.map (·.2)) ts → Q (kvs.map fun kv => (kV kv.1, kv.2)) H2) (ErrS K E σ H) → tPairs trs σ H Q
theorem snp_nil : SimNP K co E [] [] naNil := fun ρ own σ H R Q q => q [] Z H (fun _ z => nomatch z) (Ex.refl H) rfl .nil
theorem snp_cons (h1 : SimNT K co E tv ft) (h2 : ∀ N : Addr → Prop, SimNP K (coN co N) E trs ks gn) : SimNP K co E ((tC (kV k), tv) :: trs) (k :: ks) (naCons ft gn) := fun ρ own σ H R Q q => by
  refine h1 ρ own σ H R _ ((q.bind).mono (fun t _ q2 v N H1 hN e1 hv => ?_) fun _ _ z => z)
  have R1 := R.hide e1 hN hv.mut
  refine h2 N ρ own σ H1 R1 _ ((q2.bind).mono (fun ts _ k2 kvs N2 H2 hN2 e2 hk hvs => ?_) fun c _ z => z.mono e1)
  have eq : (fun a => Sx (coN co N) own a ∨ N2 a) = (fun a => Sx co own a ∨ (N a ∨ N2 a)) := funext fun a => propext ⟨fun z => by
    rcases z with ((z | z) | z) | z
    · exact .inl (.inl z)
    · exact .inr (.inl z)
    · exact .inl (.inr z)
    · exact .inr (.inr z), fun z => by
    rcases z with (z | z) | z | z
    · exact .inl (.inl (.inl z))
    · exact .inl (.inr z)
    · exact .inl (.inl (.inr z))
    · exact .inr z⟩
  rw [eq] at hvs
  refine k2 ((k, v) :: kvs) (fun a => N a ∨ N2 a) H2 (fun a z => ?_) (e1.trans e2) (by rw [List.map_cons, hk]) (.cons (hv.mono (msk_to e2 fun a z => ?_) fun a _ u z => e2 a u z) hvs fun a z y => (hv.mut a z).ne (hN2 a y))
  · rcases z with z | z
    · exact hN a z
    · exact fresh_back e1 (hN2 a z)
  · rcases z with z | z | z
    · exact .inl (.inl z)
    · exact .inl (.inr z)
    · exact .inr (hN2 a z)
theorem putK_new {k : Key} {v : V} : ∀ {kvs : List (Key × V)}, k ∉ kvs.map (·.1) → putK kvs k v = kvs ++ [(k, v)] := fun {kvs} h => by
  unfold putK
  rw [if_neg]
  intro z
  obtain ⟨p, hp, e⟩ := List.any_eq_true.mp z
  exact h (List.mem_map.mpr ⟨p, hp, by simpa using e⟩)
theorem mergeK_new : ∀ {more kvs : List (Key × V)}, (more.map (·.1)).Nodup → (∀ k ∈ more.map (·.1), k ∉ kvs.map (·.1)) → mergeK kvs more = kvs ++ more
  | [], kvs, _, _ => by simp [mergeK]
  | p :: r, kvs, h, d => by
    show mergeK (putK kvs p.1 p.2) r = _
    rw [List.map_cons, List.nodup_cons] at h
    rw [putK_new (d p.1 (by simp)), mergeK_new h.2 fun k hk z => ?_]
    · simp
    · rw [List.map_append, List.mem_append] at z
      rcases z with z | z
      · exact d k (by simp at hk ⊢; exact .inr hk) z
      · simp at z
        subst z
        exact h.1 hk
def tDispJ (ks : List Key) (gn : Env → R (List Tn)) : Env → R Tn := fun ρ => (gn ρ).bind fun ts => if ks.Nodup ∧ ks.length ≤ 15 then .ok (.j ks ts) else .st
theorem snt_disp (hn : ∀ N : Addr → Prop, SimNP K (coN co N) E trs ks gn) : SimNT K co E (tDisp trs) (tDispJ ks gn) := fun ρ own σ H R Q q p hp => by
  have hNp : ∀ a, (a = p ∨ Z a) → H a = none := fun a z => by
    rcases z with rfl | z
    · exact hp
    · exact (nomatch z)
  have R1 : Rs K (coN co fun a => a = p ∨ Z a) ρ own σ (upd H p (.dK [])) := R.hide (Ex.new hp) hNp (fun a z => by
    rcases z with rfl | z
    · exact .j upd_same
    · exact (nomatch z))
  refine hn _ ρ own σ _ R1 _ ((q.bind).mono (fun ts _ q2 kvs N H2 hN e hk a => ?_) fun c _ z => z.mono (Ex.new hp))
  split at q2
  · rename_i hc
    subst hk
    refine ⟨e _ _ upd_same, kvs, rfl, by have := hc.2; rw [List.length_map] at this; exact this, ?_⟩
    rw [mergeK_new hc.1 (fun _ _ z => by cases z), List.nil_append]
    have np : ¬ N p := fun z => by have := hN p z; rw [upd_same] at this; cases this
    refine q2 (.ref p) (fun a => a = p ∨ N a) _ (fun a z => ?_) ?_ (.j upd_same ?_ np)
    · rcases z with rfl | z
      · exact hp
      · exact fresh_back (Ex.new hp) (hN a z)
    · refine fun a o ho => ?_
      rw [upd_ne (fun y => by subst y; rw [hp] at ho; cases ho)]
      exact ((Ex.new hp).trans e) _ _ ho
    · refine a.mono ?_ fun a z u hu => by rw [upd_ne (fun y => np (by rw [← y]; exact z))]; exact hu
      rw [show (fun a => Sx co own a ∨ (a = p ∨ N a)) = (fun a => Sx (coN co fun a => a = p ∨ Z a) own a ∨ N a) from funext fun a => propext ⟨fun z => by
        rcases z with (z | z) | z | z
        · exact .inl (.inl (.inl z))
        · exact .inl (.inr z)
        · exact .inl (.inl (.inr (.inl z)))
        · exact .inr z, fun z => by
        rcases z with ((z | z | z) | z) | z
        · exact .inl (.inl z)
        · exact .inr (.inl z)
        · exact (nomatch z)
        · exact .inl (.inr z)
        · exact .inr (.inr z)⟩, msk_upd (.inl (.inl (.inr (.inl rfl))))]
      exact Ex.refl _
  · exact q2.elim

def xTPop (i : Nat) (h : Env → R (List Nat × Tn)) : Env → Out := xOutH h fun x ρ => match x.2 with
  | .l ts => if ts.isEmpty = false then tPut i x.1 (.l (ts.eraseIdx (ts.length - 1))) ρ else .st
  | _ => .st
theorem erase_last {α : Type} : ∀ xs : List α, xs.eraseIdx (xs.length - 1) = xs.dropLast
  | [] => rfl
  | [x] => rfl
  | x :: y :: r => by
    have := erase_last (y :: r)
    simp at this ⊢
    exact this
theorem ss_tPop (hh : SimH K co E i th h) : SimS K co E (tDrop (tBM0 K "list" rPop th)) (xTPop i h) := fun ρ own σ H R Dn q => by
  refine hh ρ own σ H R _ (outH_of R q fun x _ k rr t v y H1 ei ev ea e1 F => ?_)
  obtain ⟨π, u⟩ := x
  cases u with
  | l ts =>
    dsimp only at k
    split at k
    · rename_i hne
      have R1 := R.up e1
      obtain ⟨S', f1, _, _⟩ := id F
      obtain ⟨p, vs, S0, rfl, hp, a0, _, _⟩ := list_node f1
      have hlen := a0.length
      have hpos : 0 < vs.length := by
        rw [hlen]
        cases ts with
        | nil => cases hne
        | cons => simp
      obtain ⟨y, hy⟩ : ∃ y, vs[vs.length - 1]? = some y := ⟨_, List.getElem?_eq_getElem (by omega)⟩
      unfold tPut at k
      rw [ei] at k
      refine ⟨Or.inl ⟨rfl, vs, sq_of hp⟩, p, vs, y, rfl, rfl, hp, hy, ?_⟩
      obtain ⟨own', R'⟩ := R1.nodeOp (o := .lst vs.dropLast) (u2 := .l (ts.eraseIdx (ts.length - 1))) ei ev F rfl (Ex.refl H1) (fun S0 vs' nd a => by
        cases nd with
        | l hp' =>
          rw [hp] at hp'
          cases hp'
          obtain ⟨S3, s1, s2⟩ := a.erase (ts.length - 1)
          refine ⟨S3, s1, fun M2 em em2 kp => ⟨vs.dropLast, .l upd_same, ?_⟩⟩
          have := s2 M2 _ em kp
          rw [show vs.dropLast = vs.eraseIdx (ts.length - 1) from by rw [← erase_last, hlen]]
          rw [show vs.dropLast = vs.eraseIdx (ts.length - 1) from by rw [← erase_last, hlen]] at this
          exact this) rfl
      exact k own' σ _ R'
    · exact k.elim
  | _ => exact k.elim

def tCallN (g : List D → Rz) (fr : Env → R (List D)) : Env → R Tn := fun ρ => (fr ρ).bind fun ds => (g ds).tn
theorem rzP_tn {ρ : Env} {own : Own} {σ : L2.St} {H H1 : Hp} {Q : VK} {XE : XK} {z : Rz} (Rr : Rs K co ρ own σ H) (e1 : Ex H H1) (q : Pst z.tn (fun t => ∀ v (N : Addr → Prop) H2, (∀ a, N a → H a = none) → Ex H H2 → Tr K (msk (fun a => Sx co own a ∨ N a) H2) H2 N v t → Q v H2) fun c => ∀ H2, Ex H1 H2 → XE (.ref (He.ga K c)) none H2) : RzP K (Sx co own) H1 Q XE z := by
  cases z with
  | ok d => exact q.elim
  | nw xs => exact q.elim
  | nt t => exact fun v N H2 hN e2 ht => q v N H2 (fun a z => fresh_back e1 (hN a z)) (e1.trans e2) ht
  | er c => exact q
  | st => exact q.elim
theorem snt_callG {md : List Bool} {g : List D → Rz} {E0 : XK} (hE : ∀ σ, EOk E σ E0) (h : SimA K co E md tr fr) : SimNT K co E (tCall (spF K md g) [] E0 tr) (tCallN g fr) := fun ρ own σ H R Q q => by
  refine h ρ own σ H R _ ((q.bind).mono (fun ds _ q2 vs H1 e1 hv => ?_) fun _ _ z => z)
  rw [List.append_nil]
  exact ⟨Sx co own, ds, (R.up e1).mut, hv, rzP_tn R e1 (q2.mono (fun _ _ z => z) fun c _ z H2 e2 => hE σ _ _ (z H2 (e1.trans e2)))⟩
theorem snt_call {md : List Bool} {g : List D → Rz} {E0 : XK} (h : SimA K co (fun _ => E0) md tr fr) : SimNT K co (fun _ => E0) (tCall (spF K md g) [] E0 tr) (tCallN g fr) := snt_callG (fun _ => eok_self) h
theorem snt_callB {md : List Bool} {g : List D → Rz} {E0 : XK} (h : SimA K co Eno md tr fr) : SimNT K co Eno (tCall (spF K md g) [] E0 tr) (tCallN g fr) := snt_callG (fun _ => eok_no) h

theorem se_tD (hh : SimH K co E i th h) (ho : HOk i h) : SimE K co E true th (xTr h) := se_tr hh ho
end

section
variable {K : PySem.W.Frag} {w : World} {co : Co} {E : L2.St → XK} {b b1 b2 : Bool} {te ta tb th tk tv : TE} {f fa fb fk fv : Env → R D} {fn ga : Env → R (List D)} {i : Nat} {h : Env → R (List Nat × Tn)}
theorem snt_newKK : SimNT ⟨K, w⟩ co E (tNewN w) tNilK := snt_newK
theorem snt_K1K (hk : ∀ N : Addr → Prop, SimE ⟨K, w⟩ (coN co N) E false tk fk) (hv : ∀ N : Addr → Prop, SimE ⟨K, w⟩ (coN co N) E false tv fv) : SimNT ⟨K, w⟩ co E (tNewN1 K w tk tv) (tK1 fk fv) := snt_K1 hk hv
theorem sh_ixK (hh : SimH ⟨K, w⟩ co E i th h) (hb : SimE ⟨K, w⟩ co E b tb fb) : SimH ⟨K, w⟩ co E i (tOp (rIxW K w) th tb) (hIx h fb) := sh_ix hh hb
end
end Sm

namespace Sm
open PySem L2 Evl Al PySem.Spec PyProof.Rows
section
variable {K : Kw} {co : Co} {E : L2.St → XK} {w w1 b : Bool} {te ta tb tc th tk tv : TE} {tr : TA} {f fa fb fk fv : Env → R D} {fn fr : Env → R (List D)} {h : Env → R (List Nat × Tn)} {i j l : Nat} {ft : Env → R Tn} {gn : Env → R (List Tn)}

def xFldT (i : Nat) (c n : Str) (ft : Env → R Tn) : Env → Out := fun ρ => match ft ρ with
  | .ok t => (match ρ[i]? with
    | some (.t r (.o c' ns ts)) => if c = c' ∧ ns.contains n = false ∧ ns.length < 900 then .nx (ρ.set i (.t r (.o c' (ns ++ [n]) (ts ++ [t])))) else .st
    | _ => .st)
  | .er c => .er c ρ
  | .st => .st
theorem Nd.oInv {M H : Hp} {p : Addr} {c : Str} {ns : List Str} {ts : List Tn} {vs : List V} (h : Nd K M H p (.o c ns ts) vs) : ∃ dx, H p = some (.ins (He.ga K c) dx (ns.zip vs)) ∧ ns.length = vs.length := by
  cases h with
  | o h l => exact ⟨_, h, l⟩
theorem ss_fldT {c n : Str} (hc : Cls K (He.ga K c)) (hn : NoAttr K (He.ga K c) n) (h : SimNT K co E te ft) : SimS K co E (sFld K (tVar i) te n) (xFldT i c n ft) := fun ρ own σ H R Dn q => by
  refine h ρ own σ H R _ (outNT_of R q fun t _ k v N H2 hN e2 hv => ?_)
  cases e : ρ[i]? with
  | none => rw [e] at k; exact k.elim
  | some s =>
    rw [e] at k
    cases s with
    | t r u =>
      cases u with
      | o c' ns ts =>
        dsimp only at k
        split at k
        · rename_i hh
          obtain ⟨rfl, hz, hl⟩ := hh
          obtain ⟨y, h1, _, h2⟩ := R.sl i _ e
          obtain ⟨p, vs, S0, rfl, nd, a0, ns0, eS⟩ := id h2.node rfl
          obtain ⟨dx, hp, hlen⟩ := nd.oInv
          · have F := Foc.start h2
            have op : own i p := by rw [eS]; exact .inl rfl
            have np : ¬ N p := fun z => by have := hN p z; rw [hp] at this; cases this
            obtain ⟨own', R'⟩ := R.node (N := N) (H2 := upd H2 p (.ins (He.ga K c) dx (putF n v (ns.zip vs)))) (u2 := .o c (ns ++ [n]) (ts ++ [t])) e h1 F (fun a na o ho => by rw [upd_ne na]; exact e2 _ _ ho) hN (fun S' h' => by
              obtain ⟨p', vs', S1, ep, nd', a1, ns1, rfl⟩ := h'.node rfl
              cases ep
              obtain ⟨dx', hp', hlen'⟩ := nd'.oInv
              · rw [hp] at hp'
                have ezip : ns.zip vs = ns.zip vs' ∧ dx = dx' := by
                  injection hp' with hp'
                  injection hp' with _ h5 h6
                  exact ⟨h6, h5⟩
                refine ⟨fun a => a = p ∨ (S1 a ∨ N a), fun a z => ?_, fun M2 em em2 => ?_⟩
                · rcases z with z | z | z
                  · exact .inl (.inl z)
                  · exact .inl (.inr z)
                  · exact .inr z
                · have mut1 : ∀ a, S1 a → Mut H a := a1.mut
                  refine .o (dx := dx) (xs := vs' ++ [v]) ?_ (by simp [hlen']) ?_ ?_
                  · rw [upd_same, ezip.1, putF_zip hlen' hz]
                  · refine (a1.mono em fun a z u hu => ?_).snoc (hv.mono ?_ fun a z u hu => ?_) fun a z y => (mut1 a z).ne (hN a y)
                    · rw [upd_ne (fun y => ns1 (by rw [← y]; exact z))]
                      exact e2 _ _ hu
                    · refine Ex.trans ?_ em2
                      rw [msk_upd (S := fun a => Sx co own a ∨ N a) (.inl (.inr ⟨i, op⟩))]
                      exact Ex.refl _
                    · rw [upd_ne (fun y => np (by rw [← y]; exact z))]
                      exact hu
                  · rintro (z | z)
                    · exact ns1 z
                    · exact np z) rfl
            refine ⟨_, join_some h1, p, _, dx, _, rfl, e2 _ _ hp, hc, hn, ?_, k own' σ _ R'⟩
            rw [List.length_zip]; omega
        · exact k.elim
      | _ => exact k.elim
    | _ => exact k.elim
end

def zInitT : Out → Rz
  | .nx ρ => match (ρ[(0 : Nat)]? : Option Sv) with
    | some (.t true t) => match t.D with
      | some (.obj c ns ds) => .ok (.obj c ns ds)
      | _ => .st
    | _ => .st
  | .er c _ => .er c
  | _ => .st
def env0T (c : Str) (n : Nat) (md : List Bool) (ds : List D) : Env := .t true (.o c [] []) :: env0 (n - 1) md ds
section
variable {K : Kw} {E : XK} {t : TS} {F : Env → Out} {N : List Str} {md : List Bool}
theorem of_simIT {c : Str} {H : Hp} {vs : List V} {Q : VK} (h : ∀ co, SimS K co (fun _ => E) t F) (hn : md.length + 1 ≤ N.length) (hsp : spI K c md (fun ds => zInitT (F (env0T c N.length md ds))) vs H Q E) :
    t { nx := fun _ H' => Q .non H', rt := Q } (L2.start N vs) H := by
  obtain ⟨H1, y, dy, us, S, ds, rfl, hy, hd, hne, rfl, hS, hr, hz⟩ := hsp
  have hl := relm_len hr
  have Hd : (upd H1 dy (.own y)) y = none := by rw [upd_ne hne.symm]; exact hy
  let co : Co := ⟨upd H1 dy (.own y), upd H1 dy (.own y), S, y, 0, .none, none, 0, .lst []⟩
  let Y : Addr → Prop := fun a => a = y ∨ Z a
  let own : Own := fun i => if i = 0 then Y else Z
  have ns : ¬ S y := fun z => (hS y z).ne hy
  have yY : ∀ a, Y a → a = y := fun a z => by
    rcases z with z | z
    · exact z
    · exact (nomatch z)
  have e2 : Ex (msk S H1) (msk (Sx co own) (upd (upd H1 dy (.own y)) y (.ins (He.ga K c) dy []))) := msk_to ((Ex.new hd).trans (Ex.new Hd)) fun a z => by
    rcases z with z | ⟨n, z⟩
    · exact .inl z
    · by_cases e : n = 0
      · subst e
        have z : Y a := z
        rw [yY a z]
        exact .inr hy
      · have z : (if n = 0 then Y else Z) a := z
        rw [if_neg e] at z
        cases z
  have R0 : Rs K co (env0T c N.length md ds) own (L2.start N (.ref y :: us)) (upd (upd H1 dy (.own y)) y (.ins (He.ga K c) dy [])) := by
    refine ⟨?_, fun i s hs => ?_, fun i hi => ?_, fun i p z => ?_, fun i p z => ?_, fun i j p z z2 => ?_, Ex.new Hd, Ex.refl _, fun a z => ((hS a z).ex ((Ex.new hd).trans (Ex.new Hd)))⟩
    · unfold env0T env0 L2.start
      rw [List.length_cons, List.length_append, List.length_append, envA_len hr, List.length_map, List.length_replicate, List.length_replicate, List.length_cons, hl.1]
      omega
    · cases i with
      | zero =>
        unfold env0T at hs
        simp only [List.getElem?_cons_zero, Option.some.injEq] at hs
        subst hs
        exact ⟨.ref y, rfl, fun _ => rfl, .o (dx := dy) (xs := []) upd_same rfl .nil fun z => nomatch z⟩
      | succ i =>
        unfold env0T env0 at hs
        rw [List.getElem?_cons_succ] at hs
        unfold L2.start
        rw [List.map_cons, List.cons_append, List.getElem?_cons_succ]
        rcases Nat.lt_or_ge i md.length with hi | hi
        · rw [List.getElem?_append_left (by rw [envA_len hr]; exact hi)] at hs
          rw [List.getElem?_append_left (by rw [List.length_map, hl.1]; exact hi)]
          exact rel_sl (co := co) (own := own) (H := H1) (Ex.new hd) e2 (fun n => n + 1) (fun _ => rfl) hr i s hs
        · rw [List.getElem?_append_right (by rw [envA_len hr]; exact hi)] at hs
          obtain ⟨_, rfl⟩ := List.getElem?_eq_some_iff.mp hs
          rw [List.getElem_replicate]
          rfl
    · unfold env0T at hi
      rw [List.length_cons] at hi
      show (if i = 0 then Y else Z) = Z
      rw [if_neg (by omega)]
    · have z : (if i = 0 then Y else Z) p := z
      split at z
      · rw [yY p z]; exact Hd
      · cases z
    · have z : (if i = 0 then Y else Z) p := z
      split at z
      · rw [yY p z]; exact ns
      · cases z
    · have z : (if i = 0 then Y else Z) p := z
      have z2 : (if j = 0 then Y else Z) p := z2
      split at z
      · split at z2
        · omega
        · cases z2
      · cases z
  refine h _ _ _ _ _ R0 _ ?_
  have hz : RzP K S H1 (fun v H2 => v = .ref y → Q .non H2) E (zInitT (F (env0T c N.length md ds))) := hz
  cases e : F (env0T c N.length md ds) with
  | nx ρ =>
    rw [e] at hz
    intro own' σ H' R
    unfold zInitT at hz
    cases e0 : ρ[0]? with
    | none => simp only [e0] at hz; exact hz.elim
    | some s =>
      simp only [e0] at hz
      cases s with
      | t r u =>
        cases r with
        | true =>
          dsimp only at hz
          obtain ⟨v, h1, h2, h3⟩ := R.sl 0 _ e0
          have hv := h2 rfl
          subst hv
          cases eD : u.D with
          | none => rw [eD] at hz; exact hz.elim
          | some d =>
            rw [eD] at hz
            have h4 : Tr K (msk (Sx co own') H') (msk S H') (own' 0) (.ref y) u := h3.mono (Ex.refl _) fun a z o ho => by rw [msk_at (R.dis 0 a z)]; exact ho
            have h5 := h4.dr (msk_sub fun a z => .inl z) eD
            cases d with
            | obj c' ns' ds' => exact hz (.ref y) H' ((Ex.new hd).trans R.ex) h5 rfl
            | _ => exact hz.elim
        | false => exact hz.elim
      | _ => exact hz.elim
  | er c' ρ => rw [e] at hz; exact fun own σ H' R => hz H' ((Ex.new hd).trans R.ex)
  | _ => rw [e] at hz; exact hz.elim
end
end Sm

namespace Sm
open PySem L2 Evl Al PySem.Spec PyProof.Rows
def keyDat : Key → D
  | .inl n => .int n
  | .inr s => .str s
def leaf : Tn → Option D
  | .f d => some d
  | _ => none
def notZ : Sv → Bool
  | .z _ _ => false
  | _ => true
section
variable {K : Kw} {co : Co} {E : L2.St → XK} {w w1 w2 b : Bool} {te ta tb tc th tk tv td : TE} {tr : TA} {ts tu : TS} {F : Env → Out} {f fa fb fk fv fd : Env → R D} {i j l : Nat}
theorem keyDat_dr {M : Hp} (k : Key) : Dr K M (kV k) (keyDat k) := by
  cases k with
  | inl n => exact .int n
  | inr s => exact .str s

def xIxJ (i : Nat) (fb : Env → R D) : Env → R D := fun ρ => match ρ[i]? with
  | some (.t _ (.j ks ts)) => (fb ρ).bind fun b => R.of ((keyJ b).bind fun k => (idxJ ks k).bind fun n => (ts[n]?).bind leaf)
  | some (.z ks ds) => (fb ρ).bind fun b => R.of ((keyJ b).bind fun k => (idxJ ks k).bind fun n => ds[n]?)
  | _ => .st
theorem se_ixJ (hb : SimE K co E w tb fb) : SimE K co E false (tOp (rIxW K.f K.w) (tVar i) tb) (xIxJ i fb) := fun ρ own σ H R Q q => by
  unfold xIxJ at q
  cases e : ρ[i]? with
  | none => rw [e] at q; exact q.elim
  | some s =>
    rw [e] at q
    cases s with
    | t r t =>
      cases t with
      | j ks ts =>
        dsimp only at q
        refine se_trF (sh_ix (i := i) sh_var hb) ρ own σ H R Q ?_
        have e1 : hVar i ρ = .ok ([], .j ks ts) := by unfold hVar; rw [e]
        unfold xTrF hIx
        rw [e1]
        show Pst (Sm.R.bind (Sm.R.bind (fb ρ) fun b => hKid ([], .j ks ts) (ixT (.j ks ts) b)) _) _ _
        cases ef : fb ρ with
        | st => rw [ef] at q; exact q
        | er c => rw [ef] at q; exact q
        | ok b =>
          rw [ef] at q
          have q : Pst (Sm.R.of ((keyJ b).bind fun k => (idxJ ks k).bind fun n => (ts[n]?).bind leaf)) _ _ := q
          obtain ⟨d, hd, k⟩ := q.of
          obtain ⟨kk, h1, hd⟩ := Option.bind_eq_some_iff.mp hd
          obtain ⟨n, h2, hd⟩ := Option.bind_eq_some_iff.mp hd
          obtain ⟨c, h3, hd⟩ := Option.bind_eq_some_iff.mp hd
          cases c with
          | f d' =>
            cases hd
            show Pst (Sm.R.bind (hKid ([], .j ks ts) ((keyJ b).bind (idxJ ks))) _) _ _
            rw [h1]
            show Pst (Sm.R.bind (hKid ([], .j ks ts) (idxJ ks kk)) _) _ _
            rw [h2]
            unfold hKid
            dsimp only [Tn.kids]
            rw [h3]
            exact k
          | _ => cases hd
      | _ => exact q.elim
    | z ks ds =>
      dsimp only at q
      obtain ⟨od, kvs, h1, h2, h3, h4, rfl, h6⟩ := R.sl i _ e
      refine ⟨_, join_some h1, hb ρ own σ H R _ ((q.bind).mono (fun b _ q2 y H2 e2 hy => ?_) fun _ _ z => z)⟩
      obtain ⟨d, hd, k⟩ := q2.of
      obtain ⟨kk, g1, hd⟩ := Option.bind_eq_some_iff.mp hd
      obtain ⟨n, g2, hd⟩ := Option.bind_eq_some_iff.mp hd
      have := keyJ_of (hy.mono msk_le) g1
      subst this
      obtain ⟨x, hx, hdx⟩ := (h6.mono (msk_ex (S := Sx co own) e2)).get' hd
      refine .inr (.inr ⟨co.zd, x, rfl, .inl ⟨kvs, kk, .inr ⟨od, by rw [← h3]; exact e2 _ _ h4⟩, rfl, ?_⟩, k x H2 e2 hdx⟩)
      rw [valV_idx g2, hx]
    | _ => exact q.elim

def xGetJ (i : Nat) (fb fd : Env → R D) : Env → R D := fun ρ => match ρ[i]? with
  | some (.t _ (.j ks ts)) => (fb ρ).bind fun b => (fd ρ).bind fun d0 => R.of ((keyJ b).bind fun k => match idxJ ks k with
    | none => some d0
    | some n => (ts[n]?).bind leaf)
  | _ => .st
theorem tra_leaf {M H : Hp} : ∀ {S : Addr → Prop} {vs : List V} {ts : List Tn} {n : Nat} {d : D}, TrA K M H S vs ts → (ts[n]?).bind leaf = some d → ∃ v, vs[n]? = some v ∧ Dr K M v d
  | _, _, _, n, d, .nil, h => by simp at h
  | _, _, _, 0, d, .cons h1 _ _, h => by
    rw [List.getElem?_cons_zero] at h
    cases h1 with
    | f hd => cases h; exact ⟨_, rfl, hd⟩
    | _ => cases h
  | _, _, _, n + 1, d, .cons _ t1 _, h => by
    rw [List.getElem?_cons_succ] at h
    obtain ⟨v, a, b⟩ := tra_leaf t1 h
    exact ⟨v, by rw [List.getElem?_cons_succ]; exact a, b⟩
theorem se_getJ (hb : SimE K co E w1 tb fb) (hd : SimE K co E false td fd) : SimE K co E false (tDGet2 (tVar i) tb td) (xGetJ i fb fd) := fun ρ own σ H R Q q => by
  unfold xGetJ at q
  cases e : ρ[i]? with
  | none => rw [e] at q; exact q.elim
  | some s =>
    rw [e] at q
    cases s with
    | t r t =>
      cases t with
      | j ks ts =>
        dsimp only at q
        obtain ⟨v, h1, _, h2⟩ := R.sl i _ e
        obtain ⟨p, vs, S0, rfl, nd, a0, _, _⟩ := h2.node rfl
        obtain ⟨kvs, hp, rfl, rfl⟩ := nd.jInv
        refine ⟨_, join_some h1, p, rfl, .inl ⟨kvs, .inl hp⟩, hb ρ own σ H R _ ((q.bind).mono (fun b _ q2 y H2 e2 hy => ?_) fun _ _ z => z)⟩
        refine hd ρ own σ H2 (R.up e2) _ ((q2.bind).mono (fun d0 _ q3 z H3 e3 hz => ?_) fun c _ z => z.mono e2)
        obtain ⟨d, hd, k⟩ := q3.of
        obtain ⟨kk, g1, hd⟩ := Option.bind_eq_some_iff.mp hd
        have := keyJ_of (hy.mono msk_le) g1
        subst this
        have e23 := e2.trans e3
        have g := DGet.k (k := kk) (e23 _ _ hp)
        cases ei : idxJ (kvs.map (·.1)) kk with
        | none =>
          rw [ei] at hd
          cases hd
          rw [valV_no ei] at g
          exact ⟨none, g, k z H3 e23 hz⟩
        | some n =>
          rw [ei] at hd
          obtain ⟨x, hx, hdx⟩ := tra_leaf (show TrA K _ _ _ (kvs.map (·.2)) ts from a0) hd
          rw [valV_idx ei, hx] at g
          exact ⟨some x, g, k x H3 e23 (hdx.mono (msk_ex e23))⟩
      | _ => exact q.elim
    | _ => exact q.elim

def loopZ (i : Nat) (g : Sv → Env → R Env) (F : Env → Out) : List Key → Env → Out
  | [], ρ => .nx ρ
  | k :: r, ρ => match ρ[i]? with
    | some (.z _ _) => (match g (.d (keyDat k)) ρ with
      | .ok ρ1 => (match F ρ1 with
        | .nx ρ2 => loopZ i g F r ρ2
        | .ct ρ2 => loopZ i g F r ρ2
        | .bk ρ2 => .nx ρ2
        | _ => .st)
      | _ => .st)
    | _ => .st
def unZ (i : Nat) : Out → Out
  | .nx ρ => (match ρ[i]? with
    | some (.z ks ds) => if (ρ.set i .no).all notZ = true then .nx (ρ.set i (.t false (.j ks (ds.map .f)))) else .st
    | _ => .st)
  | _ => .st
def xForK (i : Nat) (g : Sv → Env → R Env) (F : Env → Out) : Env → Out := fun ρ => match ρ[i]? with
  | some (.t false (.j ks ts)) => (match allF ts with
    | some ds => if ρ.all notZ = true then unZ i (loopZ i g F ks (ρ.set i (.z ks ds))) else .st
    | none => .st)
  | _ => .st
abbrev coZ (co : Co) (p : Addr) (u : HO) : Co := { co with zd := p, zo := u }
theorem Rs.toZ {ρ : Env} {own : Own} {σ : L2.St} {H : Hp} {p : Addr} {u : HO} (R : Rs K co ρ own σ H) (h : ρ.all notZ = true) : Rs K (coZ co p u) ρ own σ H := by
  refine ⟨R.len, fun i s z => ?_, R.out, R.new, R.dis, R.inj, R.ex, R.ha, R.s0⟩
  have q := R.sl i s z
  have hx := List.all_eq_true.mp h s (List.mem_of_getElem? z)
  cases s with
  | z ks ds => cases hx
  | _ => exact q
theorem Rs.ofZ {ρ : Env} {own : Own} {σ : L2.St} {H : Hp} {p : Addr} {u : HO} (R : Rs K (coZ co p u) ρ own σ H) (h : ρ.all notZ = true) : Rs K co ρ own σ H := by
  refine ⟨R.len, fun i s z => ?_, R.out, R.new, R.dis, R.inj, R.ex, R.ha, R.s0⟩
  have q := R.sl i s z
  have hx := List.all_eq_true.mp h s (List.mem_of_getElem? z)
  cases s with
  | z ks ds => cases hx
  | _ => exact q
theorem all_set {ρ : Env} {i : Nat} {s : Sv} (h : (ρ.set i .no).all notZ = true) (hs : notZ s = true) : (ρ.set i s).all notZ = true := by
  rw [List.all_eq_true] at h ⊢
  intro x hx
  rcases List.mem_or_eq_of_mem_set hx with hx | rfl
  · obtain ⟨n, hn, e⟩ := List.getElem_of_mem hx
    by_cases hni : n = i
    · subst hni
      obtain ⟨m, hm, em⟩ := List.getElem_of_mem ‹x ∈ ρ.set n s›
      by_cases hmi : m = n
      · subst hmi
        rw [List.getElem_set_self] at em
        rw [← em]; exact hs
      · rw [List.getElem_set_ne (Ne.symm hmi)] at em
        rw [List.length_set] at hm
        refine h x (List.mem_iff_getElem.mpr ⟨m, by rw [List.length_set]; exact hm, ?_⟩)
        rw [List.getElem_set_ne (Ne.symm hmi)]
        exact em
    · refine h x (List.mem_iff_getElem.mpr ⟨n, by rw [List.length_set]; exact hn, ?_⟩)
      rw [List.getElem_set_ne (Ne.symm hni)]
      exact e
  · exact hs
theorem ss_forK {js : List Nat} {tg : TG} {g : Sv → Env → R Env} (hg : ∀ p u, SimG K (coZ co p u) js tg g) (hF : ∀ p u, SimS K (coZ co p u) E tu F) : SimS K co E (tLock (tFor (iKeys (tVar i)) tg tu)) (xForK i g F) := fun ρ own σ H R Dn q => by
  unfold xForK at q
  cases e : ρ[i]? with
  | none => rw [e] at q; exact q.elim
  | some s =>
    rw [e] at q
    cases s with
    | t r t =>
      cases r with
      | true => exact q.elim
      | false =>
        cases t with
        | j ks ts =>
          dsimp only at q
          cases ea : allF ts with
          | none => rw [ea] at q; exact q.elim
          | some ds =>
            rw [ea] at q
            dsimp only at q
            split at q
            · rename_i hnz
              obtain ⟨v, h1, _, h2⟩ := R.sl i _ e
              obtain ⟨p, vs, S0, rfl, nd, a0, _, eS⟩ := h2.node rfl
              obtain ⟨kvs, hp, rfl, rfl⟩ := nd.jInv
              obtain ⟨da, rfl⟩ := TrA.allF (show TrA K _ _ _ (kvs.map (·.2)) ts from a0) ea
              have eo : own i = One p := eS.trans (oneZ p)
              have hi := (List.getElem?_eq_some_iff.mp e).1
              refine ⟨p, .dK kvs, hp, trivial, fun od => ?_⟩
              have op : own i p := by rw [eo]; exact .mk
              have R1 : Rs K (coZ co p (.frz od (.dK kvs))) (ρ.set i (.z (kvs.map (·.1)) ds)) (oset own i (One p)) σ (upd H p (.frz od (.dK kvs))) := by
                refine (R.toZ (p := p) (u := .frz od (.dK kvs)) hnz).putG hi (fun a na o ho => ?_) (fun a z => ?_) fun em => ?_
                · rw [upd_ne (fun y => na (by rw [y]; exact op))]; exact ho
                · cases z; exact .inl op
                · exact ⟨od, kvs, h1, oset_same, rfl, upd_same, rfl, da.mono em⟩
              refine ⟨_, join_some h1, p, od, rfl, .inl ⟨kvs, upd_same, ?_⟩⟩
              refine ⟨fun n m σ H => n + m = kvs.length ∧ ∃ ρ own, Rs K (coZ co p (.frz od (.dK kvs))) ρ own σ H ∧ OP K co E Dn (unZ i (loopZ i g F ((kvs.map (·.1)).drop n) ρ)), ⟨kvs.length, by omega, _, _, R1, by rw [List.drop_zero]; exact q⟩, ?_⟩
              rintro n m σ2 H2 ⟨hm, ρ2, own2, R2, q2⟩
              have fin : ∀ {ρ2 : Env} {own2 : Own} {σ2 : L2.St} {H2 : Hp}, Rs K (coZ co p (.frz od (.dK kvs))) ρ2 own2 σ2 H2 → OP K co E Dn (unZ i (.nx ρ2)) → H2 p = some (.frz od (.dK kvs)) ∧ Dn.nx σ2 (upd H2 p (.dK kvs)) := fun {ρ2 own2 σ2 H2} R2 q2 => by
                unfold unZ at q2
                cases e2 : ρ2[i]? with
                | none => simp only [e2] at q2; exact q2.elim
                | some s2 =>
                  simp only [e2] at q2
                  cases s2 with
                  | z ks' ds' =>
                    dsimp only at q2
                    split at q2
                    · rename_i hz
                      obtain ⟨od', kvs', g1, g2, g3, g4, rfl, g6⟩ := R2.sl i _ e2
                      have g3 : HO.frz od (.dK kvs) = .frz od' (.dK kvs') := g3
                      injection g3 with g3 g3'
                      injection g3' with g3'
                      subst g3 g3'
                      have g4 : H2 p = some (.frz od (.dK kvs)) := g4
                      have g2 : own2 i = One p := g2
                      have op2 : own2 i p := by rw [g2]; exact .mk
                      refine ⟨g4, ?_⟩
                      have R3 : Rs K (coZ co p (.frz od (.dK kvs))) (ρ2.set i (.t false (.j (kvs.map (·.1)) (ds'.map .f)))) (oset own2 i fun a => a = p ∨ Z a) σ2 (upd H2 p (.dK kvs)) := by
                        refine R2.putG (List.getElem?_eq_some_iff.mp e2).1 (fun a na o ho => ?_) (fun a z => ?_) fun em => ?_
                        · rw [upd_ne (fun y => na (by rw [y]; exact op2))]; exact ho
                        · rcases z with rfl | z
                          · exact .inl op2
                          · exact (nomatch z)
                        · refine ⟨_, g1, (fun z => by cases z), ?_⟩
                          rw [oset_same]
                          exact .j upd_same (TrA.fs (g6.mono em)) fun z => nomatch z
                      exact q2 _ _ _ (R3.ofZ (all_set hz rfl))
                    · exact q2.elim
                  | _ => exact q2.elim
              cases m with
              | zero =>
                rw [List.drop_eq_nil_of_le (by rw [List.length_map]; omega)] at q2
                obtain ⟨f1, f2⟩ := fin R2 q2
                exact .inl ⟨⟨f1, by omega⟩, f1, f2⟩
              | succ m =>
                have hn : n < kvs.length := by omega
                have hn2 : n < (kvs.map (·.1)).length := by rw [List.length_map]; exact hn
                rw [List.drop_eq_getElem_cons hn2] at q2
                unfold loopZ at q2
                cases e2 : ρ2[i]? with
                | none => simp only [e2] at q2; exact q2.elim
                | some s2 =>
                  simp only [e2] at q2
                  cases s2 with
                  | z ks' ds' =>
                    dsimp only at q2
                    obtain ⟨od', kvs', g1, g2, g3, g4, _, g6⟩ := R2.sl i _ e2
                    have g4 : H2 p = some (.frz od (.dK kvs)) := g4
                    refine .inr ⟨⟨g4, hn⟩, fun σ' H' => n + 1 + m = kvs.length ∧ ∃ ρ own, Rs K (coZ co p (.frz od (.dK kvs))) ρ own σ' H' ∧ OP K co E Dn (unZ i (loopZ i g F ((kvs.map (·.1)).drop (n + 1)) ρ)), fun σ' H' z => ⟨m, by omega, z⟩, fun x H' yx => ?_⟩
                    obtain ⟨rfl, k, vv, hk, rfl⟩ := yx
                    have ek : (kvs.map (·.1))[n] = k := by
                      rw [List.getElem_map]
                      rw [List.getElem?_eq_getElem hn] at hk
                      cases hk' : kvs[n] with
                      | mk a b => rw [hk'] at hk; cases hk; rfl
                    rw [ek] at q2
                    refine hg p (.frz od (.dK kvs)) ρ2 own2 σ2 H' (.d (keyDat k)) (kV k) R2 (keyDat_dr k) _ ?_
                    cases eg : g (.d (keyDat k)) ρ2 with
                    | ok ρ3 =>
                      rw [eg] at q2
                      intro own3 σ3 R3 _ _ _
                      refine hF p (.frz od (.dK kvs)) ρ3 own3 σ3 H' R3 _ ?_
                      dsimp only at q2
                      cases eF : F ρ3 with
                      | nx ρ4 => rw [eF] at q2; exact fun own4 σ4 H4 R4 => ⟨by omega, ρ4, own4, R4, q2⟩
                      | ct ρ4 => rw [eF] at q2; exact fun own4 σ4 H4 R4 => ⟨by omega, ρ4, own4, R4, q2⟩
                      | bk ρ4 => rw [eF] at q2; exact fun own4 σ4 H4 R4 => fin R4 q2
                      | rt d => rw [eF] at q2; exact q2.elim
                      | rn d => rw [eF] at q2; exact q2.elim
                      | rnT d => rw [eF] at q2; exact q2.elim
                      | er c d => rw [eF] at q2; exact q2.elim
                      | st => rw [eF] at q2; exact q2.elim
                    | er c => rw [eg] at q2; exact q2.elim
                    | st => rw [eg] at q2; exact q2.elim
                  | _ => exact q2.elim
            · exact q.elim
        | _ => exact q.elim
    | _ => exact q.elim
end

section
variable {K : PySem.W.Frag} {w : World} {co : Co} {E : L2.St → XK} {b : Bool} {tb : TE} {fb : Env → R D} {i : Nat}
theorem se_ixJK (hb : SimE ⟨K, w⟩ co E b tb fb) : SimE ⟨K, w⟩ co E false (tOp (rIxW K w) (tVar i) tb) (xIxJ i fb) := se_ixJ hb
end
end Sm

namespace Sm
open PySem L2 Evl Al PySem.Spec PyProof.Rows
section
variable {K : Kw} {co : Co} {E : L2.St → XK} {w w1 w2 b : Bool} {te ta tb tc th tk tv td : TE} {tr : TA} {F : Env → Out} {f fa fb fk fv fd : Env → R D} {h : Env → R (List Nat × Tn)} {ft : Env → R Tn} {i j l : Nat}
theorem Rs.putC {N S2 : Addr → Prop} {ρ : Env} {own : Own} {σ : L2.St} {H H2 : Hp} {s' : Sv} (R : Rs K (coN co N) ρ own σ H) (hi : i < ρ.length) (hk : ∀ a, ¬ own i a → ∀ o, H a = some o → H2 a = some o) (hn : ∀ a, S2 a → own i a ∨ N a) (h0 : ∀ a, N a → co.H0 a = none) (hd : ∀ a, N a → ¬ co.S0 a)
    (hs : Ex (msk (Sx (coN co N) own) H) (msk (Sx co (oset own i S2)) H2) → SvR K co (oset own i S2) i H2 (σ[i]?).join s') : Rs K co (ρ.set i s') (oset own i S2) σ H2 := by
  have em : Ex (msk (Sx (coN co N) own) H) (msk (Sx co (oset own i S2)) H2) := fun a o z => by
    obtain ⟨h1, h2⟩ := msk_some z
    rw [msk_at]
    · exact hk a (fun y => h1 (.inr ⟨i, y⟩)) o h2
    · rintro (y | ⟨j, y⟩)
      · exact h1 (.inl (.inl y))
      · by_cases e : j = i
        · subst e
          rw [oset_same] at y
          rcases hn a y with q | q
          · exact h1 (.inr ⟨j, q⟩)
          · exact h1 (.inl (.inr q))
        · rw [oset_ne e] at y; exact h1 (.inr ⟨j, y⟩)
  have ex : Ex co.H0 H2 := fun a o z => hk a (fun y => by have := R.new i a y; rw [z] at this; cases this) o (R.ex a o z)
  refine ⟨by rw [List.length_set]; exact R.len, fun j s hj => ?_, fun j hj => ?_, fun j q z => ?_, fun j q z => ?_, fun j k q z y => ?_, ex, R.ha, fun a z => ?_⟩
  · by_cases e : j = i
    · subst e
      rw [List.getElem?_set_self hi] at hj
      cases hj
      exact hs em
    · rw [get_set_ne e] at hj
      exact (R.sl j s hj).re (oset_ne e) em (fun q hq o ho => hk q (fun y => e (R.inj j i q hq y)) o ho) (Ex.refl _) rfl ⟨rfl, rfl, rfl, rfl, rfl⟩
  · rw [List.length_set] at hj
    rw [oset_ne (by omega)]
    exact R.out j hj
  · by_cases e : j = i
    · subst e
      rw [oset_same] at z
      rcases hn q z with y | y
      · exact R.new j q y
      · exact h0 q y
    · rw [oset_ne e] at z; exact R.new j q z
  · by_cases e : j = i
    · subst e
      rw [oset_same] at z
      rcases hn q z with y | y
      · exact fun x => R.dis j q y (.inl x)
      · exact hd q y
    · rw [oset_ne e] at z; exact fun x => R.dis j q z (.inl x)
  · have key : ∀ {j k}, j ≠ i → own j q → oset own i S2 k q → j = k := fun {j k} ej zz yy => by
      by_cases ek : k = i
      · subst ek
        rw [oset_same] at yy
        rcases hn q yy with x | x
        · exact R.inj j k q zz x
        · exact absurd (.inr x) (R.dis j q zz)
      · rw [oset_ne ek] at yy; exact R.inj j k q zz yy
    by_cases ej : j = i
    · subst ej
      by_cases ek : k = j
      · exact ek.symm
      · rw [oset_ne ek] at y; exact (key ek y z).symm
    · rw [oset_ne ej] at z; exact key ej z y
  · obtain ⟨o, h1, h2⟩ := R.s0 a (.inl z)
    exact ⟨o, hk a (fun y => R.dis i a y (.inl z)) o h1, h2⟩

theorem Rs.nodeC {N : Addr → Prop} {ρ : Env} {own : Own} {σ : L2.St} {H H2 : Hp} {v : V} {t u u2 : Tn} {p : Addr} {π : List Nat} {r : Bool} (R : Rs K (coN co N) ρ own σ H) (ei : ρ[i]? = some (.t r t)) (hv : (σ[i]?).join = some v) (F : Foc K (msk (Sx (coN co N) own) H) H (own i) v t π (.ref p) u)
    (hk : ∀ a, a ≠ p → ∀ o, H a = some o → H2 a = some o) (h0 : ∀ a, N a → co.H0 a = none) (hd : ∀ a, N a → ¬ co.S0 a)
    (mk : ∀ S' : Addr → Prop, Tr K (msk (Sx (coN co N) own) H) H S' (.ref p) u → (∀ a, S' a → own i a) → ∃ S2, (∀ a, S2 a → S' a ∨ N a) ∧ ∀ M2, Ex (msk (Sx (coN co N) own) H) M2 → Tr K M2 H2 S2 (.ref p) u2)
    (hp : u.isF = false) : ∃ own', Rs K co (ρ.set i (.t r (t.put π u2))) own' σ H2 := by
  obtain ⟨S', h1, h2, h3⟩ := F
  obtain ⟨S2, m1, m2⟩ := mk S' h1 h2
  have hS'p : S' p := by
    obtain ⟨q, vs, S0, e, _, _, _, rfl⟩ := h1.node hp
    cases e
    exact .inl rfl
  let Sn : Addr → Prop := fun a => S2 a ∨ (own i a ∧ ¬ S' a)
  have sub : ∀ a, Sn a → own i a ∨ N a := fun a z => by
    rcases z with z | z
    · rcases m1 a z with y | y
      · exact .inl (h2 a y)
      · exact .inr y
    · exact .inl z.1
  refine ⟨oset own i Sn, R.putC (List.getElem?_eq_some_iff.mp ei).1 (fun a z o ho => hk a (fun y => z (y ▸ h2 p hS'p)) o ho) sub h0 hd fun em => ⟨v, hv, fun hr => ?_, ?_⟩⟩
  · obtain ⟨v', g1, g2, _⟩ := R.sl i _ ei
    rw [hv] at g1
    cases g1
    exact g2 hr
  obtain ⟨Sx', k1, k2⟩ := h3 _ H2 S2 u2 em (fun a z y o ho => hk a (fun q => y (q ▸ hS'p)) o ho) (m2 _ em) (fun a z => by
    rcases m1 a z with y | y
    · exact .inl y
    · exact .inr fun q => R.dis i a q (.inr y))
  have e : Sx' = Sn := funext fun a => propext (k2 a)
  have k3 : Tr K (msk (Sx co (oset own i Sn)) H2) H2 Sn v (t.put π u2) := e ▸ k1
  rw [oset_same]
  exact k3

def xTPutT (i : Nat) (h : Env → R (List Nat × Tn)) (fj : Env → R D) (ft : Env → R Tn) : Env → Out := fun ρ => match ft ρ with
  | .ok t => xOutH h (fun x => xOut fj fun b ρ => match x.2, ixT x.2 b with
    | .l ts, some n => tPut i x.1 (.l (ts.set n t)) ρ
    | _, _ => .st) ρ
  | .er c => .er c ρ
  | .st => .st
theorem ss_tPutT (ht : SimNT K co E te ft) (hh : ∀ N : Addr → Prop, SimH K (coN co N) E i th h) (hb : ∀ N : Addr → Prop, SimE K (coN co N) E w tb fb) : SimS K co E (tAsg te (gSub th tb rSetL)) (xTPutT i h fb ft) := fun ρ own σ H R Dn q => by
  refine ht ρ own σ H R _ (outNT_of R q fun nt _ q2 z N H0 hN e0 hz => ?_)
  have R0 := R.hide e0 hN hz.mut
  have up : ∀ {σ2 : L2.St} {ρ2 : Env} {c : Str} {own2 : Own} {H2 : Hp}, Ex H0 H2 → True := fun _ => trivial
  have q2' : OP K (coN co N) E Dn (xOutH h (fun x => xOut fb fun b ρ => match x.2, ixT x.2 b with
    | .l ts, some n => tPut i x.1 (.l (ts.set n nt)) ρ
    | _, _ => .st) ρ) ∨ True := .inr trivial
  refine hh N ρ own σ H0 R0 _ ?_
  unfold xOutH at q2
  cases eh : h ρ with
  | st => rw [eh] at q2; exact q2.elim
  | er c => rw [eh] at q2; exact fun H2 e2 => q2 own σ H2 ((R.up e0).up e2)
  | ok x =>
    rw [eh] at q2
    dsimp only at q2
    intro rr t v y H1 ei ev ea e1 F
    have R1 := R0.up e1
    refine hb N ρ own σ H1 R1 _ ?_
    unfold xOut at q2
    cases ef : fb ρ with
    | st => rw [ef] at q2; exact q2.elim
    | er c => rw [ef] at q2; exact fun H2 e2 => q2 own σ H2 (((R.up e0).up e1).up e2)
    | ok b =>
      rw [ef] at q2
      intro c H2 e2 hc
      obtain ⟨π, u⟩ := x
      cases u with
      | l ts =>
        dsimp only at q2
        cases hm : ixT (.l ts) b with
        | none => rw [hm] at q2; exact q2.elim
        | some n =>
          rw [hm] at q2
          dsimp only at q2
          cases hc with
          | int m =>
            have hm : ixN ts.length m = some n := hm
            unfold tPut at q2
            rw [ei] at q2
            have R2 := R1.up e2
            have F2 := F.up (fun a za => (R1.mutO za).ne) (msk_ex e2) e2
            obtain ⟨S', f1, f2, _⟩ := id F2
            obtain ⟨p, vs, S0, rfl, hp, a0, _, eS⟩ := list_node f1
            refine ⟨p, vs, m, n, rfl, rfl, hp, by rw [a0.length]; exact hm, ?_⟩
            have hn := (ixN_seq hm).2.1
            have e12 := e1.trans e2
            obtain ⟨own', R'⟩ := R2.nodeC (H2 := upd H2 p (.lst (vs.set n z))) (u2 := .l (ts.set n nt)) ei ev F2 (fun a na o ho => by rw [upd_ne na]; exact ho) (fun a z => fresh_back R.ex (hN a z)) (fun a z y => (R.s0 a y).ne (hN a z)) (fun S' h' hsub => by
              obtain ⟨p', vs', S1, ep, hp', a1, ns1, rfl⟩ := list_node h'
              cases ep
              rw [hp] at hp'
              cases hp'
              obtain ⟨S3, s1, s2⟩ := a1.setv n hn
              have np : ¬ N p := fun y => R2.dis i p (hsub p (.inl rfl)) (.inr y)
              refine ⟨fun a => a = p ∨ (S3 a ∨ N a), fun a y => ?_, fun M2 em => ?_⟩
              · rcases y with y | y | y
                · exact .inl (.inl y)
                · exact .inl (.inr (s1 a y))
                · exact .inr y
              · refine .l upd_same (s2 M2 _ N z nt em (fun a za o ho => ?_) (hz.mono ?_ fun a za o ho => ?_) fun a za y => ?_) ?_
                · rw [upd_ne (fun y => ns1 (by rw [← y]; exact za))]; exact ho
                · rw [sx_coN]
                  exact (msk_ex e12).trans em
                · rw [upd_ne (fun y => np (by rw [← y]; exact za))]
                  exact e12 _ _ ho
                · exact R2.dis i a (hsub a (.inr y)) (.inr za)
                · rintro (y | y)
                  · exact ns1 (s1 p y)
                  · exact np y) rfl
            exact q2 own' σ _ R'
          | _ => cases hm
      | _ => exact q2.elim

def xTupPop (i l : Nat) (fb : Env → R D) : Env → Out := fun ρ => match ρ[l]? with
  | some (.m xs) => xOut fb (fun d ρ => match d with
    | .int n => (match ixN xs.length n with
      | some k => (match xs[k]? with
        | some x => if n ≤ 1000000 ∧ -1000000 ≤ n then .nx ((ρ.set l (.m (xs.eraseIdx k))).set i (.d (.tup [x]))) else .st
        | none => .st)
      | none => .st)
    | _ => .st) ρ
  | _ => .st
theorem ss_tupPop (h : SimE K co E w tb fb) : SimS K co E (tAsg (tTup (tCons (tBM K "list" rPopAt (tVar l) (tCons tb tNil)) tNil)) (gName i)) (xTupPop i l fb) := fun ρ own σ H R Dn q => by
  unfold xTupPop at q
  cases e : ρ[l]? with
  | none => rw [e] at q; exact q.elim
  | some s =>
    rw [e] at q
    cases s with
    | m xs =>
      obtain ⟨p, vs, h1, h2, h3, h4⟩ := R.sl l _ e
      refine ⟨_, join_some h1, Or.inl ⟨rfl, vs, sq_of h3⟩, h ρ own σ H R _ (out_of R q fun y _ k u H2 e2 hu => ?_)⟩
      cases hu with
      | int n =>
        dsimp only at k
        cases en : ixN xs.length n with
        | none => rw [en] at k; exact k.elim
        | some kk =>
          rw [en] at k
          dsimp only at k
          cases ek : xs[kk]? with
          | none => rw [ek] at k; exact k.elim
          | some d =>
            rw [ek] at k
            dsimp only at k
            split at k
            · rename_i hn
              have h4 := h4.mono (msk_ex e2)
              obtain ⟨v, hv1, hv2⟩ := h4.get' ek
              have q2 := ixN_seq (n := vs.length) (i := n) (j := kk) (by rw [h4.length]; exact en)
              refine ⟨p, vs, n, kk, v, rfl, rfl, e2 _ _ h3, by omega, by omega, q2.1, hv1, ?_⟩
              refine ⟨szm (by simp), fun tp hp2 => ?_⟩
              have RR := ((R.up e2).putM (join_some h1) h2 (h4.erase kk)).up (Ex.new (o := .tup [v]) hp2)
              refine k _ _ _ (RR.setD (.tup (xs := [v]) (st_of ?_) (.one ?_)))
              · rw [msk_at (fun z => (((R.up e2).putM (join_some h1) h2 (h4.erase kk)).mut tp z).ne hp2)]
                exact upd_same
              · refine Dr.mono (msk_ex (Ex.new hp2)) ?_
                rw [msk_upd (.inr ⟨l, mem1 h2⟩)]
                exact hv2
            · exact k.elim
      | _ => exact k.elim
    | _ => exact q.elim

def setTK (n : NestedKey) (u : Tn) : List D → List Tn → List Tn
  | d :: ks, t :: ts => (if keyD d = some n then u else t) :: setTK n u ks ts
  | _, _ => []
def putTK (ks : List D) (ts : List Tn) (n : NestedKey) (b : D) (u : Tn) : List D × List Tn := if (idxK ks n).isSome = true then (ks, setTK n u ks ts) else (ks ++ [b], ts ++ [u])
theorem valN_idxK {n : NestedKey} : ∀ {es : List Ent} {ks : List D}, keysD ks = some (es.map fun e => e.1) → (valN es n).isSome = (idxK ks n).isSome
  | [], [], _ => rfl
  | p :: r, [], e => by cases e
  | es, d :: ks, e => by
    simp only [keysD] at e
    obtain ⟨k, h1, e⟩ := Option.bind_eq_some_iff.mp e
    obtain ⟨ns, h2, h3⟩ := Option.map_eq_some_iff.mp e
    cases es with
    | nil => cases h3
    | cons p r =>
      rw [List.map_cons] at h3
      injection h3 with h4 h5
      unfold idxK
      rw [List.findIdx?_cons]
      by_cases c : k = n
      · rw [if_pos (decide_eq_true (by rw [h1, c])), valN_pos (h4.symm.trans c)]; rfl
      · rw [if_neg (by rw [h1]; simpa using c), Option.isSome_map, valN_neg (fun z => c (h4.trans z))]
        exact valN_idxK (es := r) (ks := ks) (by rw [h2, h5])
theorem repl_k {n : NestedKey} {M H : Hp} : ∀ {es : List Ent} {ks : List D} {S0 : Addr → Prop} {ts : List Tn}, keysD ks = some (es.map fun e => e.1) → TrA K M H S0 (es.map fun e => e.2.2) ts → ∃ S3 : Addr → Prop, (∀ a, S3 a → S0 a) ∧ ∀ M2 H3 z d, Ex M M2 → (∀ a, S0 a → ∀ o, H a = some o → H3 a = some o) → Dr K M2 z d → TrA K M2 H3 S3 ((es.map fun e => if e.1 = n then ((e.1, e.2.1, z) : Ent) else e).map fun e => e.2.2) (setTK n (.f d) ks ts)
  | [], ks, _, _, e, h => by
    cases h with
    | nil => exact ⟨Z, fun _ z => z, fun _ _ _ _ _ _ _ => by cases ks <;> exact .nil⟩
  | p :: r, [], _, _, e, h => by cases e
  | p :: r, d0 :: ks, _, _, e, h => by
    simp only [keysD] at e
    obtain ⟨k, h1, e⟩ := Option.bind_eq_some_iff.mp e
    obtain ⟨ns, h2, h3⟩ := Option.map_eq_some_iff.mp e
    rw [List.map_cons] at h3
    injection h3 with h4 h5
    cases h with
    | @cons S T _ _ t ts h6 t1 nn =>
      obtain ⟨S3, s1, s2⟩ := repl_k (n := n) (es := r) (ks := ks) (by rw [h2, h5]) t1
      by_cases c : p.1 = n
      · have c2 : keyD d0 = some n := by rw [h1, h4, c]
        refine ⟨fun a => Z a ∨ S3 a, fun a z => ?_, fun M2 H3 z d em kp hd => ?_⟩
        · rcases z with z | z
          · exact nomatch z
          · exact .inr (s1 a z)
        · rw [List.map_cons, List.map_cons, if_pos c]
          show TrA K M2 H3 _ (z :: _) ((if keyD d0 = some n then Tn.f d else t) :: _)
          rw [if_pos c2]
          exact .cons (.f hd) (s2 M2 H3 z d em (fun a za => kp a (.inr za)) hd) fun _ z => nomatch z
      · have c2 : ¬ keyD d0 = some n := fun z => c (by rw [h1] at z; rw [← h4]; exact Option.some.inj z)
        refine ⟨fun a => S a ∨ S3 a, fun a z => ?_, fun M2 H3 z d em kp hd => ?_⟩
        · rcases z with z | z
          · exact .inl z
          · exact .inr (s1 a z)
        · rw [List.map_cons, List.map_cons, if_neg c]
          show TrA K M2 H3 _ (p.2.2 :: _) ((if keyD d0 = some n then Tn.f d else t) :: _)
          rw [if_neg c2]
          exact .cons (h6.mono em fun a za => kp a (.inl za)) (s2 M2 H3 z d em (fun a za => kp a (.inr za)) hd) fun a za y => nn a za (s1 a y)
theorem Nd.kInv {M H : Hp} {p : Addr} {ks : List D} {ts : List Tn} {vs : List V} (h : Nd K M H p (.k ks ts) vs) : ∃ es, H p = some (dN K.w p es) ∧ DrA K M (es.map fun e => V.ref e.2.1) ks ∧ keysD ks = some (es.map fun e => e.1) ∧ vs = es.map fun e => e.2.2 := by
  cases h with
  | k h h1 h2 => exact ⟨_, h, h1, h2, rfl⟩
theorem Rs.nodeW {S' : Addr → Prop} {ρ : Env} {own : Own} {σ : L2.St} {H H2 : Hp} {v : V} {t u2 : Tn} {p : Addr} {π : List Nat} {r : Bool} (R : Rs K co ρ own σ H) (ei : ρ[i]? = some (.t r t)) (hv : (σ[i]?).join = some v) (h2 : ∀ a, S' a → own i a)
    (h3 : ∀ (M2 H2 : Hp) (S2 : Addr → Prop) (u2 : Tn), Ex (msk (Sx co own) H) M2 → (∀ a, own i a → ¬ S' a → ∀ o, H a = some o → H2 a = some o) → Tr K M2 H2 S2 (.ref p) u2 → (∀ a, S2 a → S' a ∨ ¬ own i a) → ∃ Sn, Tr K M2 H2 Sn v (t.put π u2) ∧ ∀ a, Sn a ↔ S2 a ∨ (own i a ∧ ¬ S' a))
    (hp : S' p) (hk : ∀ a, a ≠ p → ∀ o, H a = some o → H2 a = some o) (mk : ∃ S2 : Addr → Prop, (∀ a, S2 a → S' a) ∧ ∀ M2, Ex (msk (Sx co own) H) M2 → Tr K M2 H2 S2 (.ref p) u2) : ∃ own', Rs K co (ρ.set i (.t r (t.put π u2))) own' σ H2 := by
  obtain ⟨S2, m1, m2⟩ := mk
  let Sn : Addr → Prop := fun a => S2 a ∨ (own i a ∧ ¬ S' a)
  have sub : ∀ a, Sn a → own i a := fun a z => by
    rcases z with z | z
    · exact h2 a (m1 a z)
    · exact z.1
  refine ⟨oset own i Sn, R.putG (List.getElem?_eq_some_iff.mp ei).1 (fun a z o ho => hk a (fun y => z (y ▸ h2 p hp)) o ho) (fun a z => .inl (sub a z)) fun em => ⟨v, hv, fun hr => ?_, ?_⟩⟩
  · obtain ⟨v', g1, g2, _⟩ := R.sl i _ ei
    rw [hv] at g1
    cases g1
    exact g2 hr
  obtain ⟨Sx', k1, k2⟩ := h3 _ H2 S2 u2 em (fun a z y o ho => hk a (fun q => y (q ▸ hp)) o ho) (m2 _ em) (fun a z => .inl (m1 a z))
  have e : Sx' = Sn := funext fun a => propext (k2 a)
  have k3 : Tr K (msk (Sx co (oset own i Sn)) H2) H2 Sn v (t.put π u2) := e ▸ k1
  rw [oset_same]
  exact k3
def xTPutK (i : Nat) (h : Env → R (List Nat × Tn)) (fj f : Env → R D) : Env → Out := xOut f fun d => xOutH h fun x => xOut fj fun b ρ => match x.2, keyD b with
  | .k ks ts, some n => if ks.length < 1000000 then tPut i x.1 (.k (putTK ks ts n b (.f d)).1 (putTK ks ts n b (.f d)).2) ρ else .st
  | _, _ => .st
theorem ss_tPutK (hf : SimE K co E false te f) (hh : SimH K co E i th h) (hb : SimE K co E false tb fb) : SimS K co E (sPutN K.f K.w th tb te) (xTPutK i h fb f) := fun ρ own σ H R Dn q => by
  refine hf ρ own σ H R _ (out_of R q fun d _ q2 z H0 e0 hz => ?_)
  refine hh ρ own σ H0 (R.up e0) _ (outH_of (R.up e0) q2 fun x _ k rr t v y H1 ei ev ea e1 F => ?_)
  have R1 := (R.up e0).up e1
  refine hb ρ own σ H1 R1 _ (out_of R1 k fun b _ k2 c H2 e2 hc => ?_)
  obtain ⟨π, u⟩ := x
  cases u with
  | k ks ts =>
    dsimp only at k2
    cases hm : keyD b with
    | none => rw [hm] at k2; exact k2.elim
    | some kk =>
      rw [hm] at k2
      dsimp only at k2
      split at k2
      · rename_i hl
        unfold tPut at k2
        rw [ei] at k2
        have R2 := R1.up e2
        have F2 := F.up (fun a za => (R1.mutO za).ne) (msk_ex e2) e2
        have hc' := hc
        obtain ⟨ka, rfl, nk, dk⟩ := key_at (dr_full hc) hm
        obtain ⟨S', f1, f2, f3⟩ := F2
        obtain ⟨p, vs, S0, rfl, nd0, a0, ns0, rfl⟩ := f1.node rfl
        obtain ⟨es, hp, hk1, hk2, rfl⟩ := nd0.kInv
        have a : TrA K (msk (Sx co own) H2) H2 S0 (es.map fun e => e.2.2) ts := a0
        have hlen : es.length = ks.length := by
          have := hk1.length
          rw [List.length_map] at this
          exact this
        refine ⟨p, es, ka, kk, rfl, hp, (dic_keys hk1 hk2).tx (msk_le (S := Sx co own)).tx, szl (by omega), ⟨rfl, nk, dk⟩, ?_⟩
        have hvi := valN_idxK (n := kk) hk2
        have hz2 := hz.mono (msk_ex (S := Sx co own) (e1.trans e2))
        obtain ⟨own', R'⟩ := R2.nodeW (H2 := upd H2 p (dN K.w p (putN es kk ka z))) (u2 := .k (putTK ks ts kk b (.f d)).1 (putTK ks ts kk b (.f d)).2) ei ev f2 f3 (.inl rfl) (fun a na o ho => by rw [upd_ne na]; exact ho) (by
          have kp : ∀ a, S0 a → ∀ o, H2 a = some o → (upd H2 p (dN K.w p (putN es kk ka z))) a = some o := fun a za o ho => by
            rw [upd_ne (fun y => ns0 (by rw [← y]; exact za))]; exact ho
          unfold putTK putN
          unfold putN at kp
          rw [hvi] at kp ⊢
          by_cases hc : (idxK ks kk).isSome = true
          · rw [if_pos hc] at kp
            rw [if_pos hc, if_pos hc]
            obtain ⟨S3, s1, s2⟩ := repl_k (n := kk) hk2 a
            refine ⟨fun a => a = p ∨ S3 a, fun a y => ?_, fun M2 em => ?_⟩
            · rcases y with y | y
              · exact .inl y
              · exact .inr (s1 a y)
            · have em' : (es.map fun e => if e.1 = kk then ((e.1, e.2.1, z) : Ent) else e).map (fun e => V.ref e.2.1) = es.map fun e => V.ref e.2.1 := by
                rw [List.map_map]
                exact List.map_congr_left fun e _ => by show V.ref (if e.1 = kk then _ else _ : Ent).2.1 = _; split <;> rfl
              have ek' : (es.map fun e => if e.1 = kk then ((e.1, e.2.1, z) : Ent) else e).map (fun e => e.1) = es.map fun e => e.1 := by
                rw [List.map_map]
                exact List.map_congr_left fun e _ => by show (if e.1 = kk then _ else _ : Ent).1 = _; split <;> rfl
              exact .k (es := es.map fun e => if e.1 = kk then ((e.1, e.2.1, z) : Ent) else e) upd_same (by rw [em']; exact hk1.mono em) (by rw [ek']; exact hk2) (s2 M2 _ z d em kp (hz2.mono em)) fun y => ns0 (s1 p y)
          · rw [if_neg hc] at kp
            rw [if_neg hc, if_neg hc]
            refine ⟨fun a => a = p ∨ S0 a, fun a y => y, fun M2 em => ?_⟩
            refine .k (es := es ++ [(kk, ka, z)]) upd_same ?_ ?_ ?_ ns0
            · rw [List.map_append]
              exact (hk1.mono em).append (.one (hc'.mono em))
            · rw [List.map_append]
              exact keysD_app hk2 hm
            · rw [List.map_append]
              exact snoc_f (a.mono em kp) (hz2.mono em))
        exact k2 own' σ _ R'
      · exact k2.elim
  | _ => exact k2.elim
end
end Sm

namespace Sm
open PySem L2 Evl Al PySem.Spec PyProof.Rows
def gFldP (K : PySem.W.Frag) (ta : TE) (f : Str) : TG := fun v σ H Q => ta σ H fun x H1 => ∃ a C dx fs, x = .ref a ∧ H1 a = some (.ins C dx fs) ∧ Cls K C ∧ NoAttr K C f ∧ fs.length < 1000 ∧ Q σ (upd H1 a (.ins C dx (putF f v fs)))
theorem pg_fldP {X : Cx} {K : PySem.W.Frag} {o : Expr} {ta : TE} {f : Str} {pos : Pos} (hK : X.K = K) (ha : PE X o ta) : PG X (.Attribute o f pos) (gFldP K ta f) := by
  subst hK
  refine ⟨fun pins s σ H v u Q I rv h => ?_⟩
  rw [PySem.assign_Attribute]
  refine wpAny_bind (wpAny_holding (thn (ha.run pins s σ H _ I h) fun ov s2 ⟨x, H1, I1, rx, a, C, dx, fs, ex, ea, c, n, l, q2⟩ => ?_))
  subst ex
  obtain rfl : ov = Value.ref a := rx
  refine wpAny_bind (wpAny_standAt (wpAny_bind (wpAny_holding ?_)))
  refine setattr_ok I1 ea c n l rv fun s3 I3 => ?_
  exact wpAny_release ⟨σ, _, I3, q2⟩

section
variable {K : Kw} {M H : Hp}
theorem TrA.app : ∀ {S T : Addr → Prop} {vs ws : List V} {ts us : List Tn}, TrA K M H S vs ts → TrA K M H T ws us → (∀ a, S a → ¬ T a) → TrA K M H (fun a => S a ∨ T a) (vs ++ ws) (ts ++ us)
  | _, _, _, _, _, _, .nil, h, _ => h.cast fun a => by
    constructor
    · exact Or.inr
    · rintro (z | z)
      · exact nomatch z
      · exact z
  | _, T, _, ws, _, us, .cons (S := S) (T := T') (v := x) (vs := xs) (t := c) (ts := cs) h1 t1 n, h, d => by
    have q : TrA K M H (fun a => S a ∨ (T' a ∨ T a)) (x :: (xs ++ ws)) (c :: (cs ++ us)) := TrA.cons h1 (TrA.app t1 h fun a z => d a (Or.inr z)) (fun a z y => by
      rcases y with y | y
      · exact n a z y
      · exact d a (Or.inl z) y)
    exact TrA.cast (fun a => or_assoc.symm) q
end
section
variable {K : PySem.W.Frag}
def gFldPs (K : PySem.W.Frag) (ta : TE) : List Str → TGs
  | [] => gNil
  | n :: ns => gCons (gFldP K ta n) (gFldPs K ta ns)

def newNs : List Str → List Str → Bool
  | _, [] => true
  | ns, n :: ms => !ns.contains n && newNs (ns ++ [n]) ms
theorem gFldPs_ok {i : Nat} {p C dx : Addr} {σ : L2.St} {Q : L2.St → Hp → Prop} (hc : Cls K C) (hs : σ[i]? = some (some (.ref p))) : ∀ {ms : List Str} {ws : List V} {ns : List Str} {xs : List V} {H : Hp}, H p = some (.ins C dx (ns.zip xs)) → ns.length = xs.length → ms.length = ws.length → newNs ns ms = true → (∀ m, m ∈ ms → NoAttr K C m) → ns.length + ms.length < 1000 → Q σ (upd H p (.ins C dx ((ns ++ ms).zip (xs ++ ws)))) → gFldPs K (tVar i) ms ws σ H Q
  | [], [], ns, xs, H, hp, _, _, _, _, _, q => ⟨rfl, by
    rw [List.append_nil, List.append_nil, show upd H p (.ins C dx (ns.zip xs)) = H from funext fun a => by
      by_cases e : a = p
      · rw [e, upd_same, hp]
      · rw [upd_ne e]] at q
    exact q⟩
  | m :: ms, v :: ws, ns, xs, H, hp, hl, hm, hn, ha, h0, q => by
    simp only [newNs, Bool.and_eq_true, Bool.not_eq_true'] at hn
    simp only [List.length_cons] at hm h0
    refine ⟨v, ws, rfl, .ref p, hs, p, C, dx, _, rfl, hp, hc, ha m (List.mem_cons_self ..), by rw [List.length_zip]; omega, ?_⟩
    refine gFldPs_ok (ns := ns ++ [m]) (xs := xs ++ [v]) (dx := dx) hc hs (by rw [upd_same, putF_zip hl hn.1]) (by simp [hl]) (by omega) hn.2 (fun m hm => ha m (List.mem_cons_of_mem _ hm)) (by simp; omega) ?_
    rw [upd_upd, List.append_assoc, List.append_assoc]
    exact q
  | [], _ :: _, _, _, _, _, _, hm, _, _, _, _ => by simp at hm
  | _ :: _, [], _, _, _, _, _, hm, _, _, _, _ => by simp at hm
end

section
variable {K : Kw} {co : Co} {E : L2.St → XK} {tr : TA} {gn : Env → R (List Tn)} {i : Nat}

def xFldPar (i : Nat) (c : Str) (ms : List Str) (gn : Env → R (List Tn)) : Env → Out := fun ρ => match gn ρ with
  | .ok us => (match ρ[i]? with
    | some (.t r (.o c' ns ts)) => if c = c' ∧ us.length = ms.length ∧ newNs ns ms = true ∧ ns.length + ms.length < 900 then .nx (ρ.set i (.t r (.o c' (ns ++ ms) (ts ++ us)))) else .st
    | _ => .st)
  | .er c => .er c ρ
  | .st => .st
theorem ss_fldPar {c : Str} {n : Nat} {ms : List Str} {tgs : TGs} (hc : Cls K (He.ga K c)) (hm : ∀ m, m ∈ ms → NoAttr K (He.ga K c) m) (hn : SimNA K co E tr gn) (hg : tgs = gFldPs K (tVar i) ms) (hz : n = ms.length) : SimS K co E (tAsg (tTup tr) (gSeq K n tgs)) (xFldPar i c ms gn) := fun ρ own σ H R Dn q => by
  subst hg
  subst hz
  refine hn ρ own σ H R _ (outNA_of R q fun us _ k ws N H2 hN e2 hv => ?_)
  cases e : ρ[i]? with
  | none => rw [e] at k; exact k.elim
  | some s =>
    rw [e] at k
    cases s with
    | t r u =>
      cases u with
      | o c' ns ts =>
        dsimp only at k
        split at k
        · rename_i hh
          obtain ⟨rfl, hul, hz, hl⟩ := hh
          have hwl := hv.length
          refine ⟨szm (by omega), fun pt hpt => .inl ⟨pt, ws, rfl, st_of upd_same, by omega, ?_⟩⟩
          obtain ⟨y, h1, _, h2⟩ := R.sl i _ e
          obtain ⟨p, vs, S0, rfl, nd, a0, ns0, eS⟩ := id h2.node rfl
          obtain ⟨dx, hp, hlen⟩ := nd.oInv
          have F := Foc.start h2
          have op : own i p := by rw [eS]; exact .inl rfl
          have np : ¬ N p := fun z => by have := hN p z; rw [hp] at this; cases this
          have ex3 : Ex H2 (upd H2 pt (.tup ws)) := Ex.new hpt
          have ppt : p ≠ pt := fun z => by
            have := e2 _ _ hp
            rw [z, hpt] at this
            cases this
          obtain ⟨own', R'⟩ := R.node (N := N) (H2 := upd (upd H2 pt (.tup ws)) p (.ins (He.ga K c) dx ((ns ++ ms).zip (vs ++ ws)))) (u2 := .o c (ns ++ ms) (ts ++ us)) e h1 F (fun a na o ho => by rw [upd_ne na]; exact ex3 _ _ (e2 _ _ ho)) hN (fun S' h' => by
            obtain ⟨p', vs', S1, ep, nd', a1, ns1, rfl⟩ := h'.node rfl
            cases ep
            obtain ⟨dx', hp', hlen'⟩ := nd'.oInv
            rw [hp] at hp'
            have ezip : ns.zip vs = ns.zip vs' ∧ dx = dx' := by
              injection hp' with hp'
              injection hp' with _ h5 h6
              exact ⟨h6, h5⟩
            have evs : vs = vs' := by
              have h7 := congrArg (List.map Prod.snd) ezip.1
              rwa [List.map_snd_zip (by omega), List.map_snd_zip (by omega)] at h7
            subst evs
            refine ⟨fun a => a = p ∨ (S1 a ∨ N a), fun a z => ?_, fun M2 em em2 => ?_⟩
            · rcases z with z | z | z
              · exact .inl (.inl z)
              · exact .inl (.inr z)
              · exact .inr z
            · have mut1 : ∀ a, S1 a → Mut H a := a1.mut
              refine .o (dx := dx) (xs := vs ++ ws) ?_ (by simp [hlen', hwl, hul]) ?_ ?_
              · rw [upd_same]
              · refine (a1.mono em fun a z u hu => ?_).app (hv.mono ?_ fun a z u hu => ?_) fun a z y => (mut1 a z).ne (hN a y)
                · rw [upd_ne (fun y => ns1 (by rw [← y]; exact z))]
                  exact ex3 _ _ (e2 _ _ hu)
                · refine Ex.trans ?_ em2
                  rw [msk_upd (S := fun a => Sx co own a ∨ N a) (.inl (.inr ⟨i, op⟩))]
                  exact msk_ex ex3
                · rw [upd_ne (fun y => np (by rw [← y]; exact z))]
                  exact ex3 _ _ hu
              · rintro (z | z)
                · exact ns1 z
                · exact np z) rfl
          exact gFldPs_ok (dx := dx) hc (join_some h1) (ex3 _ _ (e2 _ _ hp)) hlen (by omega) hz hm (by omega) (k own' σ _ R')
        · exact k.elim
      | _ => exact k.elim
    | _ => exact k.elim
end
end Sm

namespace Sm
open PySem L2 Evl Al PySem.Spec PyProof.Rows
section
variable {X : Cx} {tg : Expr}
def rRg1 : List V → Hp → VK → Prop := fun vs H Q => ∃ j, vs = [V.int j] ∧ ∀ p, H p = none → Q (.ref p) (upd H p (.rng 0 j))
theorem cr_range1 : CallR X (.type "range") rRg1 := by
  intro pins s σ H vs us Q I r h
  obtain ⟨j, rfl, q⟩ := h
  cases r with
  | cons rj rr =>
    cases rr
    obtain ⟨u, rfl⟩ := rj
    refine call_range_1 ⟨.ref s.heap.objs.size, upd H s.heap.objs.size (.rng 0 j), I.laid (t' := s.toks + 1 + 1) (fun b o e => Heap.get?_push_of_some _ e) (Nat.le_refl _) ?_, rfl, q _ (I.hok.fresh (Nat.le_refl _))⟩
    exact ⟨s.toks, u, s.toks + 1, Heap.get?_push_size _ rfl⟩
def iRgV (tl : TE) : TI := fun σ H R => tl σ H fun x H1 => ∃ a lo hi, x = .ref a ∧ H1 a = some (.rng lo hi) ∧ (-(2 ^ 62) ≤ lo ∧ lo < 2 ^ 62 ∧ -(2 ^ 62) ≤ hi ∧ hi < 2 ^ 62) ∧ R (Itr lo (hi - lo).toNat) H1
theorem pi_rgV {l : Expr} {tl : TE} (hl : PE X l tl) : PI X tg l (iRgV tl) := by
  refine ⟨fun pins s σ H R I h => ?_⟩
  refine thn (hl.run pins s σ H _ I h) fun v s1 ⟨x, H1, I1, r1, q1⟩ => ?_
  obtain ⟨a, lo, hi, e, ha, ⟨h1, h2, h3, h4⟩, q⟩ := q1
  subst e
  cases r1
  obtain ⟨t, u, v, ho⟩ := I1.hok a _ ha
  refine wpAny_pyIter_range (show IsRange s1.heap a lo hi 1 t u v from ho) (small_one h1 h2 h3 h4) ?_
  refine ⟨s1.heap.objs.size, [s1.heap.objs.size], _, _, H1, rfl, I1.kept (t' := s1.toks) fun b o e => Heap.get?_push_of_some _ e, turn_range _ lo (hi - lo).toNat, ?_, fun b hb => ?_, q⟩
  · have e1 : lo + ((0 : Nat) : Int) * 1 = lo := by simp
    have e2 : (((hi - lo).toNat : Nat) : Int) - ((0 : Nat) : Int) = Builtin.Range.rangeSize lo hi 1 := by rw [rangeSize_one]; split <;> omega
    show IsRangeIter _ _ (lo + ((0 : Nat) : Int) * 1) ((((hi - lo).toNat : Nat) : Int) - ((0 : Nat) : Int)) 1
    rw [e1, e2]
    exact Heap.get?_push_size _ rfl
  · have e : b = s1.heap.objs.size := by simpa using hb
    subst e
    exact I1.fpOk (Nat.le_refl _) (I1.hok.fresh (Nat.le_refl _))
end
section
variable {K : Kw} {co : Co} {E : L2.St → XK} {w w1 w2 : Bool} {te ta tb : TE} {f fa fb : Env → R D}

def xRng (fb : Env → R D) : Env → R D := fun ρ => (fb ρ).bind fun b => match b with
  | .int j => .ok (.rng 0 j)
  | _ => .st
theorem se_rng (h : SimE K co E w1 tb fb) : SimE K co E w (tCB rRg1 (tCons tb tNil)) (xRng fb) := fun ρ own σ H R Q q => by
  refine h ρ own σ H R _ ((q.bind).mono (fun a _ k x H1 e1 hx => ?_) fun _ _ z => z)
  cases hx with
  | int n =>
    refine ⟨n, rfl, fun p hp => k _ _ (e1.trans (Ex.new hp)) ?_⟩
    have ns : ¬ Sw co own w p := fun z => (sw_mut (R.up e1) w p z).ne hp
    exact .rng (by rw [msk_at ns]; exact upd_same)
  | _ => exact k.elim

def srcRgV (f : Env → R D) : Env → R (List Sv) := fun ρ => (f ρ).bind fun a => match a with
  | .rng i j => if -1000000000 ≤ i ∧ i ≤ 1000000000 ∧ -1000000000 ≤ j ∧ j ≤ 1000000000 then .ok (rgS i j) else .st
  | _ => .st
theorem si_rgV (h : SimE K co E w1 te f) : SimI K co E w (iRgV te) (srcRgV f) := fun ρ own σ H R Q q => by
  refine h ρ own σ H R _ ((q.bind).mono (fun a _ k x H1 e1 hx => ?_) fun _ _ z => z)
  cases hx with
  | rng hh =>
    dsimp only at k
    split at k
    · exact ⟨_, _, _, rfl, (msk_some hh).2, ⟨by omega, by omega, by omega, by omega⟩, k _ H1 e1 (yld_rg _ _)⟩
    · exact k.elim
  | _ => exact k.elim
end
end Sm

namespace Sm
open PySem L2 Al PySem.Spec PyProof.Rows
open Evl (Ex)

def ev2 {α : Type} : List α → List α
  | [] => []
  | [x] => [x]
  | x :: _ :: r => x :: ev2 r
theorem ev2_get {α : Type} : ∀ (l : List α) (m : Nat), (ev2 l)[m]? = l[2 * m]?
  | [], m => by simp [ev2]
  | [x], 0 => rfl
  | [x], m + 1 => by
    show ([] : List α)[m]? = _
    rw [show 2 * (m + 1) = (2 * m + 1) + 1 by omega]
    simp
  | x :: y :: r, 0 => rfl
  | x :: y :: r, m + 1 => by
    show (ev2 r)[m]? = _
    rw [ev2_get r m, show 2 * (m + 1) = (2 * m + 1) + 1 by omega]
    rfl
theorem ev2_len {α : Type} : ∀ l : List α, (ev2 l).length = (l.length + 1) / 2
  | [] => by simp [ev2]
  | [x] => by simp [ev2]
  | x :: y :: r => by
    show (ev2 r).length + 1 = _
    rw [ev2_len r, List.length_cons, List.length_cons]
    omega
theorem ev2_vals {xs : List V} {us : List Value} : Vals xs us → Vals (ev2 xs) (ev2 us)
  | .nil => .nil
  | .cons h .nil => .cons h .nil
  | .cons h (.cons _ r) => .cons h (ev2_vals r)
theorem drop_vals : ∀ (n : Nat) {xs : List V} {us : List Value}, Vals xs us → Vals (xs.drop n) (us.drop n)
  | 0, _, _, h => h
  | n + 1, _, _, .nil => .nil
  | n + 1, _, _, .cons _ r => drop_vals n r
theorem dra_ev2 {K : Kw} {H : Hp} : ∀ {vs : List V} {ds : List D}, DrA K H vs ds → DrA K H (ev2 vs) (ev2 ds)
  | _, _, .nil => .nil
  | _, _, .cons h .nil => .cons h .nil
  | _, _, .cons h (.cons _ r) => .cons h (dra_ev2 r)
theorem dra_dropN {K : Kw} {H : Hp} : ∀ (n : Nat) {vs : List V} {ds : List D}, DrA K H vs ds → DrA K H (vs.drop n) (ds.drop n)
  | 0, _, _, h => h
  | n + 1, _, _, .nil => .nil
  | n + 1, _, _, .cons _ r => dra_dropN n r
def tEv (K : PySem.W.Frag) (n : Nat) (te : TE) : TE := fun σ H Q => te σ H fun x H1 => ∃ a xs, x = .ref a ∧ SqT K H1 a xs ∧ ∀ p, H1 p = none → Q (.ref p) (upd H1 p (.tup (ev2 (xs.drop n))))
theorem places_ev (a n : Nat) : Builtin.Slice.slicePlaces (a : Int) (n : Int) 2 = (n - a + 1) / 2 := by
  unfold Builtin.Slice.slicePlaces
  have h1 : (2 : Int) > 0 := by omega
  simp only [h1, if_true]
  split <;> omega
theorem adjust_ev (lo : Option Int) (n : Nat) : Builtin.Slice.sliceAdjust lo none 2 (n : Int) = (((HT.sIx n 0 lo : Nat) : Int), (n : Int)) := by
  have h1 : ¬ ((2 : Int) < 0) := by omega
  unfold Builtin.Slice.sliceAdjust
  simp only [h1, if_false]
  refine Prod.ext ?_ rfl
  cases lo with
  | none => rfl
  | some v => exact HT.clip_eq v n 0
theorem applied_ev {prog : Program} {w : World} {A : Around} {E : Value → Shared → Prop} {s : Shared} {sl : Addr} {vl vk : Value} {lo : Option Int} {n : Nat} {Q : Int × Int × Nat → Shared → Prop} (hs : s.heap.IsSliceOf sl vl .none vk) (pl : IsPart vl lo) (pk : IsPart vk (some 2))
    (h : Q (((HT.sIx n 0 lo : Nat) : Int), 2, (n - HT.sIx n 0 lo + 1) / 2) s) : wpAny (model prog w) A (Builtin.Slice.sliceApplied (.ref sl) (pure (n : Int))) Q E s := by
  obtain ⟨os, hos, hcs, hds⟩ := id hs
  unfold Builtin.Slice.sliceApplied Builtin.Slice.sliceFields
  refine wpAny_bind (wpAny_bind (wpAny_field hos hds (x := vl) rfl (wpAny_bind (wpAny_field hos hds (x := .none) rfl (wpAny_bind (wpAny_field hos hds (x := vk) rfl (wpAny_pure ?_)))))))
  refine wpAny_bind (HT.slicePart_ pk ?_)
  show wpAny _ _ (if ((2 : Int) == 0) = true then _ else _) _ _ s
  rw [if_neg (by decide)]
  refine wpAny_bind (HT.slicePart_ pl (wpAny_bind (slicePart_none (wpAny_bind (wpAny_pure ?_)))))
  show wpAny _ _ (match Builtin.Slice.sliceAdjust lo none 2 (n : Int) with | (lo, hi) => pure (lo, (2 : Int), Builtin.Slice.slicePlaces lo hi 2)) _ _ s
  rw [adjust_ev lo n]
  show wpAny _ _ (pure (((HT.sIx n 0 lo : Nat) : Int), (2 : Int), Builtin.Slice.slicePlaces ((HT.sIx n 0 lo : Nat) : Int) (n : Int) 2)) _ _ s
  rw [places_ev]
  exact wpAny_pure h
theorem pick_ev (xs : Array Value) (a : Nat) : ((List.range ((xs.size - a + 1) / 2)).filterMap fun (m : Nat) => xs[((a : Int) + (m : Int) * 2).toNat]?).toArray = (ev2 (xs.toList.drop a)).toArray := by
  congr 1
  have hl : (ev2 (xs.toList.drop a)).toArray.size = (xs.size - a + 1) / 2 := by rw [List.size_toArray, ev2_len, List.length_drop, Array.length_toList]
  have e := PySem.W.krv_all (ev2 (xs.toList.drop a)).toArray
  rw [hl] at e
  rw [show (ev2 (xs.toList.drop a)) = (ev2 (xs.toList.drop a)).toArray.toList from rfl, ← e]
  refine pick_alike _ fun m _ => ?_
  rw [show ((a : Int) + (m : Int) * 2).toNat = a + 2 * m by omega, show (ev2 (xs.toList.drop a)).toArray[m]? = (ev2 (xs.toList.drop a))[m]? from List.getElem?_toArray, ev2_get, List.getElem?_drop, ← Array.getElem?_toList]
theorem item_ev {prog : Program} {w : World} {A : Around} {E : Value → Shared → Prop} {s : Shared} {t sl : Addr} {items : Array Value} {vl vk : Value} {lo : Option Int} {Q : Value → Shared → Prop} (ht : IsTup s.heap t items) (hs : s.heap.IsSliceOf sl vl .none vk) (pl : IsPart vl lo) (pk : IsPart vk (some 2))
    (h : Q (.ref s.heap.objs.size) { s with heap := s.heap.push { cls := .type "tuple", data := .seq (ev2 (items.toList.drop (HT.sIx items.size 0 lo))).toArray } }) (hsz : items.size ≤ sizeLine) : wpAny (model prog w) A (getItem (.ref t) (.ref sl)) Q E s := by
  have room : sizeOk (.seq (ev2 (items.toList.drop (HT.sIx items.size 0 lo))).toArray) := by
    show (ev2 (items.toList.drop (HT.sIx items.size 0 lo))).toArray.size ≤ sizeLine
    rw [List.size_toArray, ev2_len, List.length_drop, Array.length_toList]
    omega
  obtain ⟨os, hos, hcs, _⟩ := id hs
  have isl : s.TypeIs (.ref sl) "slice" := ⟨os, hos, hcs⟩
  unfold getItem
  try with_reducible refine wpAny_holding ?_
  first | refine wpAny_bind (wpAny_pure ?_) | skip
  refine wpAny_bind (wpAny_sequenceKey ht.typeIs (by decide) (wpAny_bind ?_))
  refine wpAny_callSpecial?_slot (name := Str.ofString "__getitem__") ht.typeIs PyProof.Rows.slot_tuple_getitem
    (wpAny_call_entry PyProof.Rows.slot_tuple_getitem ht.typeIs entry_tuple_getitem ?_ (args_tuple_getitem _ _))
  show wpAny _ _ (Builtin.Tuple.tupleItemsOf (.ref t) >>= _) _ _ s
  refine wpAny_bind (tupleItemsOf_ ht (wpAny_bind (wpAny_typeOf isl ?_)))
  rw [if_pos (by decide)]
  refine wpAny_bind (applied_ev hs pl pk ?_)
  have no : ¬ ((((HT.sIx items.size 0 lo : Nat) : Int) == 0 && (2 : Int) == 1 && (items.size - HT.sIx items.size 0 lo + 1) / 2 == items.size) = true) := by
    intro q
    rw [Bool.and_eq_true, Bool.and_eq_true] at q
    exact absurd q.1.2 (by decide)
  show wpAny _ _ (if (((HT.sIx items.size 0 lo : Nat) : Int) == 0 && (2 : Int) == 1 && (items.size - HT.sIx items.size 0 lo + 1) / 2 == items.size) = true then _ else _) _ _ s
  rw [if_neg no, pick_ev]
  first
    | exact wpAny_bind (m := Builtin.Tuple.tupleExact _) (wpAny_newObj_type (wpAny_pure ⟨_, rfl, wpAny_pure h⟩) room)
    | exact wpAny_bind (wpAny_bind (m := Builtin.Tuple.tupleExact _) (wpAny_newObj_type (wpAny_pure (wpAny_pure ⟨_, rfl, wpAny_pure h⟩)) room))
    | exact wpAny_bind (wpAny_bind (m := Builtin.Tuple.tupleExact _) (wpAny_newObj_type (wpAny_pure ⟨_, rfl, wpAny_pure h⟩) room))
theorem sIx_nat0 (n a : Nat) : HT.sIx n 0 (some (a : Int)) = min a n := HT.sIx_nat ..
theorem pe_ev {X : Cx} {K : PySem.W.Frag} (hK : X.K = K) {e : Expr} {te : TE} {k : Nat} {p1 p3 pos : Pos} (he : PE X e te) : PE X (.Subscript e (.Slice none none (some (.Constant (.int 2) k p1)) p3) pos) (tEv K 0 te) := by
  subst hK
  refine ⟨fun pins s σ H Q I h => Subscript_ (thn (he.run pins s σ H _ I h) fun v s1 ⟨x, H1, I1, r1, q1⟩ => ?_)⟩
  obtain ⟨a, xs, ex, hx, q⟩ := q1
  subst ex
  cases r1
  have step : PO X (some (.Constant (.int 2) k p1)) (tPart (tC (.int 2))) := po_some pe_int
  refine wpAny_Slice (thn (po_none.run pins s1 σ H1 (fun o H2 => o = none ∧ H2 = H1) I1 ⟨rfl, rfl⟩) fun vl s2 ⟨l, H2, I2, pl, el, e2⟩ => ?_)
  subst el e2
  refine thn (po_none.run pins s2 σ H2 (fun o H3 => o = none ∧ H3 = H2) I2 ⟨rfl, rfl⟩) fun vu s3 ⟨u, H3, I3, pu, eu, e3⟩ => ?_
  subst eu e3
  refine thn (step.run pins s3 σ H3 (fun o H4 => o = some 2 ∧ H4 = H3) I3 ⟨2, rfl, rfl, rfl⟩) fun vs s4 ⟨o, H4, I4, ps, eo, e4⟩ => ?_
  subst eo e4
  cases pl
  cases pu
  have I5 : Inv X pins σ H4 { s4 with heap := s4.heap.push { cls := .type "slice", data := .fields #[.none, .none, vs] } } := I4.kept (t' := s4.toks) fun b ob q => Heap.get?_push_of_some _ q
  obtain ⟨its, r, ht, hz⟩ := I5.tuple hx
  have len := r.length
  show wpAny (model X.prog X.w) X.A (subscriptTail e (.Slice none none (some (.Constant (.int 2) k p1)) p3) (.ref a) (.ref s4.heap.objs.size)) (EP X pins σ Q) X.xe { s4 with heap := s4.heap.push { cls := .type "slice", data := .fields #[.none, .none, vs] } }
  refine tail_any (ops := [.ref a, .ref s4.heap.objs.size]) ht.typeIs (PyProof.Rows.slot_tuple_getitem.lookup) ?_ (by with_unfolding_all rfl)
  refine item_ev (lo := none) ht (Heap.IsSliceOf.new _ .none .none vs) .none ps ?_ (by rw [List.size_toArray]; omega)
  refine ⟨.ref _, _, I5.laid (t' := s4.toks) (o := .tup (ev2 (xs.drop 0))) (fun b ob q => Heap.get?_push_of_some _ q) (Nat.le_refl _) ?_, rfl, q _ (I5.hok.fresh (Nat.le_refl _))⟩
  exact ⟨by rw [ev2_len, List.drop_zero]; omega, _, ev2_vals (drop_vals 0 r), IsTup.new _ _⟩
theorem pe_ev1 {X : Cx} {K : PySem.W.Frag} (hK : X.K = K) {e : Expr} {te : TE} {k k0 : Nat} {p0 p1 p3 pos : Pos} (he : PE X e te) : PE X (.Subscript e (.Slice (some (.Constant (.int 1) k0 p0)) none (some (.Constant (.int 2) k p1)) p3) pos) (tEv K 1 te) := by
  subst hK
  refine ⟨fun pins s σ H Q I h => Subscript_ (thn (he.run pins s σ H _ I h) fun v s1 ⟨x, H1, I1, r1, q1⟩ => ?_)⟩
  obtain ⟨a, xs, ex, hx, q⟩ := q1
  subst ex
  cases r1
  have low : PO X (some (.Constant (.int 1) k0 p0)) (tPart (tC (.int 1))) := po_some pe_int
  have step : PO X (some (.Constant (.int 2) k p1)) (tPart (tC (.int 2))) := po_some pe_int
  refine wpAny_Slice (thn (low.run pins s1 σ H1 (fun o H2 => o = some 1 ∧ H2 = H1) I1 ⟨1, rfl, rfl, rfl⟩) fun vl s2 ⟨l, H2, I2, pl, el, e2⟩ => ?_)
  subst el e2
  refine thn (po_none.run pins s2 σ H2 (fun o H3 => o = none ∧ H3 = H2) I2 ⟨rfl, rfl⟩) fun vu s3 ⟨u, H3, I3, pu, eu, e3⟩ => ?_
  subst eu e3
  refine thn (step.run pins s3 σ H3 (fun o H4 => o = some 2 ∧ H4 = H3) I3 ⟨2, rfl, rfl, rfl⟩) fun vs s4 ⟨o, H4, I4, ps, eo, e4⟩ => ?_
  subst eo e4
  cases pu
  have I5 : Inv X pins σ H4 { s4 with heap := s4.heap.push { cls := .type "slice", data := .fields #[vl, .none, vs] } } := I4.kept (t' := s4.toks) fun b ob q => Heap.get?_push_of_some _ q
  obtain ⟨its, r, ht, hz⟩ := I5.tuple hx
  have len := r.length
  show wpAny (model X.prog X.w) X.A (subscriptTail e (.Slice (some (.Constant (.int 1) k0 p0)) none (some (.Constant (.int 2) k p1)) p3) (.ref a) (.ref s4.heap.objs.size)) (EP X pins σ Q) X.xe { s4 with heap := s4.heap.push { cls := .type "slice", data := .fields #[vl, .none, vs] } }
  refine tail_any (ops := [.ref a, .ref s4.heap.objs.size]) ht.typeIs (PyProof.Rows.slot_tuple_getitem.lookup) ?_ (by with_unfolding_all rfl)
  refine item_ev (lo := some 1) ht (Heap.IsSliceOf.new _ vl .none vs) pl ps ?_ (by rw [List.size_toArray]; omega)
  have e1 : ev2 (its.drop (HT.sIx its.toArray.size 0 (some 1))) = ev2 (its.drop 1) := by
    rw [show (1 : Int) = ((1 : Nat) : Int) from rfl, sIx_nat0, List.size_toArray]
    cases its with
    | nil => rfl
    | cons x its => rw [Nat.min_eq_left (by simp)]
  refine ⟨.ref _, _, I5.laid (t' := s4.toks) (o := .tup (ev2 (xs.drop 1))) (fun b ob q => Heap.get?_push_of_some _ q) (Nat.le_refl _) ?_, rfl, q _ (I5.hok.fresh (Nat.le_refl _))⟩
  refine ⟨by rw [ev2_len, List.length_drop]; omega, _, ev2_vals (drop_vals 1 r), ?_⟩
  show IsTup _ _ (ev2 (its.drop 1)).toArray
  rw [← e1]
  exact IsTup.new _ _
def dEv (n : Nat) : D → Option D
  | .tup xs => some (.tup (ev2 (xs.drop n)))
  | _ => none
section
variable {K : PySem.W.Frag} {w : World} {co : Co} {E : L2.St → XK} {b : Bool} {ta : TE} {fa : Env → R D}
theorem se_ev {n : Nat} (h : SimE ⟨K, w⟩ co E b ta fa) : SimE ⟨K, w⟩ co E b (tEv K n ta) (x1 (dEv n) fa) := fun ρ own σ H R Q q => by
  refine h ρ own σ H R _ ((q.bind).mono (fun a _ q2 x H1 e1 hx => ?_) fun _ _ z => z)
  obtain ⟨d, hg, k⟩ := q2.of
  cases hx with
  | tup h a =>
    cases hg
    refine ⟨_, _, rfl, Evl.ex_t msk_le h, fun p hp => k _ _ (e1.trans (Ex.new hp)) (.tup (Evl.st_of ?_) ((dra_ev2 (dra_dropN n a)).mono (msk_ex (Ex.new hp))))⟩
    rw [msk_at (fun z => (sw_mut (R.up e1) b p z).ne hp)]
    exact upd_same
  | _ => cases hg
end
end Sm

namespace PySem
open Sem (wp)
open AutoSeq1 (wpAny_loadPart')
theorem sm_enumerate_newT (l : Addr) (items : Array Value) (n : Nat) (dct : Option Addr) (sl : Array (Option Value)) :
    Meets (Builtin.«enumerate.__new__» ⟨[.type "enumerate", .ref l], []⟩) (fun _ R s => s.heap.get? l = some { cls := .type "tuple", dict := dct, data := .seq items n, slots := sl } ∧
      R (.ok (.ret (.ref (s.heap.push { cls := .type "tuple_iterator", data := .fields #[.ref l, .int 0 0] }).objs.size)))
        { s with heap := (s.heap.push { cls := .type "tuple_iterator", data := .fields #[.ref l, .int 0 0] }).push { cls := .type "enumerate", data := .fields #[.none, .bool false, .ref s.heap.objs.size, rawInt 0, .none, .none] } }) :=
  .of_wp fun prog w A R s h => by
    obtain ⟨hp, g, d, tk, os⟩ := s; obtain ⟨hl, h⟩ := h
    have hsub := sub_enumerate
    have hL : Heap.IsTuple (Shared.heap ⟨hp, g, d, tk, os⟩) l items := ⟨_, hl, rfl, n, rfl⟩
    wp_walk using wpAny_loadPart' hl
    refine wpAny_stack_any fun st => wpAny_pure ?_
    split
    · rename_i c _ _ _ _ _
      cases (c == Value.type "enumerate")
      · wp_walk using wpAny_loadPart' hl, wpAny_pyIter_tuple hL
        exact ⟨_, rfl, h⟩
      · wp_walk using wpAny_loadPart' hl, wpAny_pyIter_tuple hL
        exact ⟨_, rfl, h⟩
    · wp_walk using wpAny_loadPart' hl, wpAny_pyIter_tuple hL
      exact ⟨_, rfl, h⟩
theorem sm_enumerate_tup {prog : Program} {w : World} {A : Around} {E : Value → Shared → Prop} {s : Shared} {l : Addr} {items : Array Value} {Q : Value → Shared → Prop} (hL : s.heap.IsTuple l items)
    (h : ∀ h', IsEnum h' (s.heap.objs.size + 1) s.heap.objs.size 0 .none → h'.IsTupleIter s.heap.objs.size l 0 → h'.objs.size = s.heap.objs.size + 2 →
      (∀ b o, s.heap.get? b = some o → h'.get? b = some o) → Q (.ref (s.heap.objs.size + 1)) { s with heap := h' }) :
    wpAny (model prog w) A (call (.type "enumerate") [.ref l]) Q E s := by
  obtain ⟨⟨c, dct, dt, sl⟩, hl, hc, n, hd⟩ := hL
  replace hc : c = .type "tuple" := hc
  replace hd : dt = .seq items n := hd
  subst hc hd
  refine callType_new F.called_enumerate (by decide) (F.typeCall_enumerate_1 _) (F.newCall_enumerate_1 _) (fun obj => F.args_object_init_2 obj _) F.entry_enumerate_new
    (sm_enumerate_newT l items n dct sl) ⟨hl, ?_⟩
  have hz : (s.heap.push { cls := .type "tuple_iterator", data := .fields #[.ref l, .int 0 0] }).objs.size = s.heap.objs.size + 1 := Heap.size_push ..
  show _ ∧ _
  rw [hz]
  have he : IsEnum ((s.heap.push { cls := .type "tuple_iterator", data := .fields #[.ref l, .int 0 0] }).push
      { cls := .type "enumerate", data := .fields #[.none, .bool false, .ref s.heap.objs.size, rawInt 0, .none, .none] }) (s.heap.objs.size + 1) s.heap.objs.size 0 .none := by
    have := Heap.get?_push_size (s.heap.push { cls := .type "tuple_iterator", data := .fields #[.ref l, .int 0 0] })
      (o := { cls := .type "enumerate", data := .fields #[.none, .bool false, .ref s.heap.objs.size, rawInt 0, .none, .none] }) rfl
    rw [hz] at this; exact this
  refine ⟨⟨_, he, rfl⟩, h _ he ⟨_, Heap.get?_push_of_some _ (Heap.get?_push_size _ rfl), rfl, rfl⟩ (by rw [Heap.size_push, hz]) fun b o x => Heap.get?_push_of_some _ (Heap.get?_push_of_some _ x)⟩
theorem sm_enum_endT {prog : Program} {w : World} {A : Around} {E : Value → Shared → Prop} {s : Shared} {e it l : Addr} {i : Nat} {items : Array Value} {old : Value} {Q : Option Value → Shared → Prop} (hh : A.handled = none)
    (he : IsEnum s.heap e it i old) (hit : s.heap.IsTupleIter it l i) (hl : s.heap.IsTuple l items) (hx : items[i]? = none)
    (hQ : ∀ h', Heap.ExtBut it s.heap h' → Q none { s with heap := h' }) : wpAny (model prog w) A (pyNext (.ref e)) Q E s := by
  have hT : s.TypeIs (.ref e) "enumerate" := ⟨_, he, rfl⟩
  unfold pyNext
  refine wpAny_bind (wpAny_attempt (wpAny_callSpecial?_slot (name := Str.ofString "__next__") hT F.slot_enumerate_next
    (wpAny_call_entry F.slot_enumerate_next hT F.entry_enumerate_next ?_ (F.args_enumerate_next_1 _))))
  show wpAny _ _ (field (.ref e) 2 >>= _) _ _ _
  refine wpAny_bind (wpAny_field he rfl (x := .ref it) rfl ?_)
  refine wpAny_bind (wpAny_nextOf_tuple_end hh hit hl hx fun h' x he' hx' => ?_)
  obtain ⟨o, ho, hc⟩ := hx'
  refine wpAny_bind (wpAny_isInstance (T := "StopIteration") (b := true) ⟨o, ho, hc⟩ isSubtype_stop ?_)
  exact wpAny_pure (hQ _ he')
end PySem
namespace Sm
open PySem L2 Evl Al PySem.Spec PyProof.Rows
def IteT (K : PySem.W.Frag) (a : Addr) : It :=
  ⟨fun i H => ∃ (xs : List V) (x : V), SqT K H a xs ∧ xs[i]? = some x, fun i H v H' => ∃ T x, v = .ref T ∧ H T = none ∧ H' = upd H T (.tup [.int (i : Nat), x]) ∧ ∀ xs, SqT K H a xs → xs[i]? = some x, fun i H => ∃ xs : List V, SqT K H a xs ∧ xs.length ≤ i⟩
theorem turn_enumT {P : Program} {w : World} {K : PySem.W.Frag} {elts : List Expr} {kk : Nat} {tpos : Pos} (a e it : Addr) :
    Turn P w K (.Tuple elts kk tpos) (IteT K a) [e, it] e (fun i h => (∃ old, IsEnum h e it ((i : Nat) : Int) old) ∧ h.IsTupleIter it a i ∧ e ≠ it) where
  mem := by simp
  obj := fun i h st b hb => by
    obtain ⟨⟨old, he⟩, ⟨o, ho, hc, hd⟩, _⟩ := st
    have e' : b = e ∨ b = it := by simpa using hb
    rcases e' with z | z
    · rw [z]; exact ⟨_, he, fun v q => nomatch q⟩
    · rw [z]; exact ⟨o, ho, fun v q => by rw [hd] at q; cases q⟩
  keep := fun i h h' st k => let ⟨⟨old, he⟩, hi, hne⟩ := st; ⟨⟨old, k e (by simp) _ he⟩, hi.at fun o q => k it (by simp) o q, hne⟩
  item := by
    intro X hP hw hK hc i pins s σ H E I hf st hg
    subst hP hw hK
    obtain ⟨⟨old, he⟩, hit, hne⟩ := st
    obtain ⟨xs, x, hq, hx⟩ := hg
    obtain ⟨its, rv, p, hz⟩ := I.tuple hq
    obtain ⟨u, hu, ru⟩ := rv.get hx
    have hel : e < s.heap.objs.size := Heap.lt_size he
    have hil : it < s.heap.objs.size := by obtain ⟨_, q, _⟩ := hit; exact Heap.lt_size q
    have p : s.heap.IsTuple a its.toArray := p
    have hae : a ≠ e := fun z => by
      obtain ⟨o, q1, q2, _⟩ := p
      rw [z, he] at q1
      cases q1
      injection q2 with q2
      exact absurd q2 (by decide)
    have hai : a ≠ it := fun z => by
      obtain ⟨o, q1, q2, _⟩ := p
      obtain ⟨o', q3, q4, _⟩ := hit
      rw [z, q3] at q1
      cases q1
      rw [q4] at q2
      injection q2 with q2
      exact absurd q2 (by decide)
    have hui : u = its.toArray[i]'(by simpa using (List.getElem?_eq_some_iff.mp hu).1) := by
      obtain ⟨h1, h2⟩ := List.getElem?_eq_some_iff.mp hu
      simpa using h2.symm
    have hlt : i < its.toArray.size := by simpa using (List.getElem?_eq_some_iff.mp hu).1
    refine wpAny_pyNext_enum_itemD (Draws.tuple (A := X.A.in1) (I.ok.hd hc) it a hai its.toArray) he ⟨hit, p⟩ hlt hne (by simp [hne, Ne.symm hae]) fun y h' tk hy ho hst hT hsz hk => ?_
    have hyu : y = u := by
      have hy : its.toArray[i]? = some y := hy
      rw [Array.getElem?_eq_getElem hlt, ← hui] at hy
      exact (Option.some.inj hy).symm
    subst hyu
    obtain ⟨hit', _⟩ := hst
    refine ⟨_, rfl, wpAny_letOwnedTupleGo_enum (s := { s with heap := h', toks := tk + 1 }) ho fun h'' he' sb => ?_⟩
    have hT2 : h''.get? s.heap.objs.size = some { cls := .type "tuple", data := .seq #[.int i tk, y] } := (sb.2 _ (Nat.ne_of_gt hel)).trans hT
    have new : ObjOk X.prog X.w (upd H s.heap.objs.size (.tup [.int (i : Nat), x])) h'' s.heap.objs.size (.tup [.int (i : Nat), x]) :=
      ⟨by show 2 ≤ sizeLine; decide, [.int i tk, y], .cons ⟨_, rfl⟩ (.cons ru .nil), ⟨_, hT2, rfl, _, rfl⟩⟩
    have I1 : Inv X pins σ (upd H s.heap.objs.size (.tup [.int (i : Nat), x])) { s with heap := h'', toks := tk + 1 } :=
      I.turnedNew (ch := [e, it]) (fun b ob hb q => (sb.2 b (fun z => hb (by simp [z]))).trans (hk b ob (fun z => hb (by simp [z])) (fun z => hb (by simp [z])) q)) hf (Nat.le_refl _) new
    refine ⟨.ref s.heap.objs.size, _, I1, rfl, ⟨_, x, rfl, I.hok.fresh (Nat.le_refl _), rfl, fun ys hy => by rw [I.tuple_inj hy hq]; exact hx⟩, ⟨⟨y, ?_⟩, hit'.at fun o q => (sb.2 it (Ne.symm hne)).trans q, hne⟩, fun b hb => ?_⟩
    · have e1 : ((i + 1 : Nat) : Int) = (i : Int) + 1 := by omega
      rw [e1]; exact he'
    · have hb' : b < s.heap.objs.size := by
        have e' : b = e ∨ b = it := by simpa using hb
        rcases e' with z | z
        · rw [z]; exact hel
        · rw [z]; exact hil
      rw [upd_ne (Nat.ne_of_lt hb')]
      exact (hf b hb).1
  done := by
    intro X hP hw hK hc i pins s σ H E I hf st hg
    subst hP hw hK
    obtain ⟨⟨old, he⟩, hit, hne⟩ := st
    obtain ⟨xs, hq, hx⟩ := hg
    obtain ⟨its, rv, p, hz⟩ := I.tuple hq
    obtain ⟨f0, f1, f2, f3, f4, f5⟩ := hf it (by simp)
    have hl := rv.length
    exact sm_enum_endT (I.ok.hd hc) he hit (show s.heap.IsTuple a its.toArray from p) (by simp; omega) fun h' eb => ⟨rfl, I.turned (t' := s.toks) (fun b o hb q => eb b o hb q) f0 f1 f3 f4 f5⟩
  self := fun A i s Q E st h => let ⟨⟨_, he⟩, _⟩ := st; wpAny_pyIter_enum he h
def iEnumT (K : PySem.W.Frag) (ta : TA) : TI := fun σ H R => ta σ H fun vs H1 => ∃ a xs, vs = [.ref a] ∧ SqT K H1 a xs ∧ R (IteT K a) H1
theorem pi_enumerateT {X : Cx} {K : PySem.W.Frag} {e : Expr} {ta : TA} {p pos tpos : Pos} {elts : List Expr} {kk : Nat} (hK : X.K = K) (hg : Gl X "enumerate") (hm : X.mg "enumerate" = none) (ha : PA X [e] ta) (hs : starEach [e] X.env = [(false, eval e X.env)] := by rfl) :
    PI X (.Tuple elts kk tpos) (.Call (.Name "enumerate" p) [e] [] pos) (iEnumT K ta) := by
  subst hK
  refine ⟨fun pins s σ H R I h => ?_⟩
  refine Call_ (ld_blt I hg hm boot_enumerate (PyProof.Rows.callWith_type1 (thn (ha.run pos pins s σ H _ I h) fun us s1 ⟨vs, H1, I1, r1, q1⟩ => ?_) hs rfl))
  obtain ⟨a, xs, ex, hq, q⟩ := q1
  subst ex
  cases r1 with
  | cons r rr =>
    cases rr
    cases r
    obtain ⟨its, rv, p', hz⟩ := I1.tuple hq
    refine sm_enumerate_tup (show s1.heap.IsTuple a its.toArray from p') fun h' he hit hsz hk => wpAny_pyIter_enum he ?_
    have I2 : Inv X pins σ H1 { s1 with heap := h' } := I1.kept (t' := s1.toks) hk
    refine ⟨s1.heap.objs.size + 1, [s1.heap.objs.size + 1, s1.heap.objs.size], _, _, H1, rfl, I2, turn_enumT a (s1.heap.objs.size + 1) s1.heap.objs.size, ⟨⟨.none, he⟩, hit, Nat.succ_ne_self _⟩, fun b hb => ?_, q⟩
    have e' : b = s1.heap.objs.size + 1 ∨ b = s1.heap.objs.size := by simpa using hb
    have hle : s1.heap.objs.size ≤ b := by
      rcases e' with z | z
      · rw [z]; exact Nat.le_add_right _ _
      · rw [z]; exact Nat.le_refl _
    exact I1.fpOk hle (I1.hok.fresh hle)
section
variable {K : Kw} {co : Co} {E : L2.St → XK} {w : Bool} {ta : TE} {fa : Env → R D}
def srcEnT (f : Env → R D) : Env → R (List Sv) := fun ρ => (f ρ).bind fun d => R.of (match d with
  | .tup xs => some (sD (enD 0 xs))
  | _ => none)
theorem yld_enumT {S0 : Addr → Prop} {Ha Hb : Hp} {p : Addr} {vs : List V} {xs : List D} (h : SqT K Hb p vs) (hd : DrA K (msk S0 Hb) vs xs) : Yld K S0 Ha Hb (IteT K p) (sD (enD 0 xs)) := fun S H hS e1 e2 n => by
  have hp : SqT K H p vs := ex_t e1 h
  refine ⟨fun s hs => ?_, fun hl => ⟨vs, hp, by rw [hd.length]; rw [sD, List.length_map, enD_len] at hl; exact hl⟩⟩
  obtain ⟨d, hx, rfl⟩ := atH hs
  obtain ⟨x, hx2, rfl⟩ := enD_get hx
  obtain ⟨v, hv, hr⟩ := hd.get' hx2
  refine ⟨⟨vs, v, hp, hv⟩, fun y H' z => ?_⟩
  obtain ⟨T, u, rfl, hT, rfl, z⟩ := z
  have := z vs hp
  rw [hv] at this
  cases this
  have ns : ¬ S T := fun q => hS T q hT
  refine ⟨Ex.new hT, ?_⟩
  show Dr K (msk S _) (.ref T) (.tup [.int ((0 + n : Nat) : Int), x])
  rw [Nat.zero_add]
  exact .tup (st_of (by rw [msk_at ns]; exact upd_same)) (.cons (.int _) (.cons ((hr.mono e2).mono (msk_ex (Ex.new hT))) .nil))
theorem si_enumT (h : SimE K co E false ta fa) : SimI K co E w (iEnumT K (tCons ta tNil)) (srcEnT fa) := fun ρ own σ H R Q q => by
  have key : ∀ d, fa ρ = .ok d → (iEnumT K (tCons ta tNil) σ H Q) := fun d hd => by
    unfold srcEnT at q
    rw [hd] at q
    have q2 : Pst (Sm.R.of (match d with
      | .tup xs => some (sD (enD 0 xs))
      | _ => none)) _ _ := q
    obtain ⟨items, hg, k⟩ := q2.of
    cases d with
    | tup xs =>
      cases hg
      refine h ρ own σ H R _ (by
        rw [hd]
        intro v H1 e1 hv
        cases hv with
        | tup hl ha => exact ⟨_, _, rfl, ex_t msk_le hl, k _ H1 e1 (yld_enumT (ex_t (base_in w) hl) (ha.mono (base_sx w)))⟩)
    | _ => cases hg
  cases e : fa ρ with
  | ok d => exact key d e
  | er c =>
    unfold srcEnT at q
    rw [e] at q
    refine h ρ own σ H R _ (by rw [e]; exact q)
  | st =>
    unfold srcEnT at q
    rw [e] at q
    exact q.elim
end
end Sm

namespace Sm
open PySem L2 Evl Al
section
open PySem.Spec PyProof.Rows
theorem pe_bmK {X : Cx} {Fr : PySem.W.Frag} (hK : X.K = Fr) {o e : Expr} {es : List Expr} {to : TE} {t : TA} {name : Str} {apos cpos : Pos} {T id : String} {r : V → List V → Hp → VK → Prop}
    (pa : PlainAttrs T) (slot : Slot T name id) (hty : typeOf (.builtin id) = pure (.type "method_descriptor")) (hm : MtR X id r) (ho : PE X o to) (ha : PA X (e :: es) t)
    (hbase : attributeBase o name X.env (eval o X.env) = eval o X.env := by rfl)
    (hfew : ((backTo cpos (starEach (e :: es) X.env)).all (fun x => !x.1) && (backToKw cpos (keywordEach [] X.env)).all (fun x => x.1.isSome)
      && decide ((e :: es).length + ([] : List Keyword).length + (if ([] : List Keyword).isEmpty then 0 else 1) < 30)) = true := by rfl)
    (hline : (apos.endLine == cpos.line) = true := by rfl) (hs : starEach (e :: es) X.env = (false, eval e X.env) :: starEach es X.env := by rfl) (hplain : (backTo cpos (starEach es X.env)).any (·.1) = false := by rfl) :
    PE X (.Call (.Attribute o name apos) (e :: es) [] cpos) (tBM Fr T r to t) := by
  subst hK
  exact pe_bm pa slot hty hm ho ha hbase hfew hline hs hplain
end
section
variable {K : Kw} {co : Co} {E : L2.St → XK} {w w1 : Bool} {te ta tb tc : TE} {f fa fb : Env → R D} {i j l : Nat}

def xDropPop (l : Nat) (f : Env → R D) : Env → Out := fun ρ => match ρ[l]? with
  | some (.m xs) => xOut f (fun y ρ => match y with
    | .int n => match ixN xs.length n with
      | some k => if n ≤ 1000000 ∧ -1000000 ≤ n then .nx (ρ.set l (.m (xs.eraseIdx k))) else .st
      | none => .st
    | _ => .st) ρ
  | _ => .st
theorem ss_dropPop {l : Nat} (h : SimE K co E w tb fb) : SimS K co E (tDrop (tBM K "list" rPopAt (tVar l) (tCons tb tNil))) (xDropPop l fb) := fun ρ own σ H R Dn q => by
  unfold xDropPop at q
  cases e : ρ[l]? with
  | none => rw [e] at q; exact q.elim
  | some s =>
    rw [e] at q
    cases s with
    | m xs =>
      obtain ⟨p, vs, h1, h2, h3, h4⟩ := R.sl l _ e
      refine ⟨_, join_some h1, Or.inl ⟨rfl, vs, sq_of h3⟩, h ρ own σ H R _ (out_of R q fun y _ k u H2 e2 hu => ?_)⟩
      cases hu with
      | int n =>
        dsimp only at k
        cases en : ixN xs.length n with
        | none => rw [en] at k; exact k.elim
        | some kk =>
          rw [en] at k
          dsimp only at k
          split at k
          · rename_i hn
            have h4 := h4.mono (msk_ex e2)
            have q2 := ixN_seq (n := vs.length) (i := n) (j := kk) (by rw [h4.length]; exact en)
            have hkl : kk < vs.length := q2.2.1
            refine ⟨p, vs, n, kk, vs[kk], rfl, rfl, e2 _ _ h3, by omega, by omega, q2.1, List.getElem?_eq_getElem hkl, ?_⟩
            exact k _ _ _ ((R.up e2).putM (join_some h1) h2 (h4.erase kk))
          · exact k.elim
      | _ => exact k.elim
    | _ => exact q.elim

theorem Rs.adopt {ρ : Env} {own : Own} {σ : L2.St} {H : Hp} {p : Addr} {vs : List V} {xs : List D} (R : Rs K (co_up co p) ρ own σ H) (hs : ¬ co.S0 p)
    (hl : H p = some (.lst vs)) (hd : DrA K (msk (Sx (co_up co p) own) H) vs xs) : Rs K co (ρ.set i (.d (.list xs))) (oset own i Z) (σ.set i (some (.ref p))) H := by
  have fwd : ∀ a, Sx co own a → Sx (co_up co p) own a := fun a z => by
    rcases z with z | z
    · exact .inl (.inl z)
    · exact .inr z
  have R0 : Rs K co ρ own σ H := ⟨R.len, fun j t hj => (R.sl j t hj).re rfl (msk_sub fwd) (fun q _ u hu => hu) (Ex.refl _) rfl ⟨rfl, rfl, rfl, rfl, rfl⟩, R.out, R.new, fun j q z y => R.dis j q z (.inl y), R.inj, R.ex, R.ha, fun a h => R.s0 a (.inl h)⟩
  refine R0.setD (.lst ?_ (hd.mono (msk_sub fwd)))
  rw [msk_at]
  · exact hl
  · rintro (z | ⟨j, z⟩)
    · exact hs z
    · exact R.dis j p z (.inr rfl)

def lcP (l : Nat) (vs : List Nat) (g : Sv → Env → R Env) (f : Env → R D) : Env → List Sv → Option (List D × Env)
  | ρ, [] => some ([], ρ)
  | ρ, s :: r => match g s (wipeE ρ vs) with
    | .ok ρ1 => match ρ1[l]? with
      | some (.m xs) => match f ρ1 with
        | .ok (.int n) => match ixN xs.length n with
          | some k => match xs[k]? with
            | some d => if n ≤ 1000000 ∧ -1000000 ≤ n then (lcP l vs g f (ρ.set l (.m (xs.eraseIdx k))) r).map fun z => (d :: z.1, z.2) else none
            | none => none
          | none => none
        | _ => none
      | _ => none
    | _ => none
theorem lcP_cons {vs : List Nat} {g : Sv → Env → R Env} {ρ ρ' : Env} {s : Sv} {r : List Sv} {ds : List D} (h : lcP l vs g f ρ (s :: r) = some (ds, ρ')) :
    ∃ ρ1 xs n k d ds2, g s (wipeE ρ vs) = .ok ρ1 ∧ ρ1[l]? = some (.m xs) ∧ f ρ1 = .ok (.int n) ∧ ixN xs.length n = some k ∧ xs[k]? = some d ∧ (n ≤ 1000000 ∧ -1000000 ≤ n) ∧
      lcP l vs g f (ρ.set l (.m (xs.eraseIdx k))) r = some (ds2, ρ') ∧ ds = d :: ds2 := by
  unfold lcP at h
  split at h
  · rename_i ρ1 e1
    split at h
    · rename_i xs e2
      split at h
      · rename_i n e3
        split at h
        · rename_i k e4
          split at h
          · rename_i d e5
            split at h
            · rename_i hn
              cases e6 : lcP l vs g f (ρ.set l (.m (xs.eraseIdx k))) r with
              | none => rw [e6] at h; cases h
              | some z =>
                rw [e6] at h
                obtain ⟨z1, z2⟩ := z
                simp only [Option.map_some, Option.some.injEq, Prod.mk.injEq] at h
                exact ⟨ρ1, xs, n, k, d, z1, e1, e2, e3, e4, e5, hn, by rw [e6, h.2], h.1.symm⟩
            · cases h
          · cases h
        · cases h
      · cases h
    · cases h
  · cases h

def xLcPop (i l : Nat) (src : Env → R (List Sv)) (vs : List Nat) (g : Sv → Env → R Env) (f : Env → R D) : Env → Out := fun ρ => match src ρ with
  | .ok items => if items.length ≤ 1000000 ∧ vs.all (notOwn ρ) = true ∧ vs.contains l = false ∧ i < ρ.length then match lcP l vs g f ρ items with
    | some (ds, ρ') => .nx (ρ'.set i (.d (.list ds)))
    | none => .st else .st
  | .er c => .er c ρ
  | .st => .st
theorem lcP_len {vs : List Nat} {g : Sv → Env → R Env} : ∀ {r : List Sv} {ρ ρ' : Env} {ds : List D}, lcP l vs g f ρ r = some (ds, ρ') → ρ'.length = ρ.length
  | [], ρ, ρ', ds, h => by cases h; rfl
  | s :: r, ρ, ρ', ds, h => by
    obtain ⟨_, _, _, _, _, _, _, _, _, _, _, _, h2, _⟩ := lcP_cons h
    rw [lcP_len h2, List.length_set]
theorem ss_lcPop {js vs : List Nat} {ti : TI} {tg : TG} {src : Env → R (List Sv)} {g : Sv → Env → R Env} (hi : SimI K co E false ti src) (hg : ∀ Hx p, SimG K (co_up (co_at co Hx) p) js tg g) (hj : ∀ j ∈ js, j ∈ vs)
    (he : ∀ Hx p, SimE K (co_up (co_at co Hx) p) Eno w te f) : SimS K co E (tAsg (tLc ti tg tYes (tBM K "list" rPopAt (tVar l) (tCons te tNil)) vs) (gName i)) (xLcPop i l src vs g f) := fun ρ own σ H R Dn q => by
  refine hi ρ own σ H R _ ?_
  unfold xLcPop at q
  cases e : src ρ with
  | er c => rw [e] at q; exact fun H2 e2 => q own σ H2 (R.up e2)
  | st => rw [e] at q; exact q
  | ok items =>
    rw [e] at q
    intro J H1 e1 hy
    dsimp only at q
    split at q
    · rename_i hc
      obtain ⟨hc1, hc2, hc3, hc4⟩ := hc
      have hlv : l ∉ vs := fun z => by
        rw [List.contains_iff_mem.mpr z] at hc3
        cases hc3
      cases el : lcP l vs g f ρ items with
      | none => rw [el] at q; exact q.elim
      | some r =>
        obtain ⟨ds, ρ'⟩ := r
        rw [el] at q
        intro Dl hD
        have R1 := (R.up e1).anchor
        have R2 := R1.laid (Ex.new (o := .lst []) hD) hD (.l upd_same)
        have hZ : ∀ n ∈ vs, own n = Z := fun n hn => R.notOwn (List.all_eq_true.mp hc2 n hn)
        have hb : msk (Ow own) H1 Dl = none := by
          unfold msk
          split
          · rfl
          · exact hD
        have e0 : Ex co.H0 (msk (Ow own) H1) := fun a o z => by
          rw [msk_at (fun y => by
            obtain ⟨n, hn⟩ := y
            have y2 := R.new n a hn
            rw [z] at y2
            cases y2)]
          exact (R.ex.trans e1) _ _ z
        have hs0 : ¬ co.S0 Dl := fun z => (((R.up e1).s0 _ z).ne) hD
        refine ⟨fun n m H' => n + m = items.length ∧ ∃ ρn acc d1 d2, Rs K (co_up (co_at co (msk (Ow own) H1)) Dl) ρn own σ H' ∧ H' Dl = some (.lst acc) ∧ lcP l vs g f ρn (items.drop n) = some (d2, ρ') ∧ d1 ++ d2 = ds ∧
          DrA K (msk (Sx (co_up (co_at co (msk (Ow own) H1)) Dl) own) H') acc d1 ∧ d1.length ≤ n, ⟨items.length, by omega, ρ, [], [], ds, R2, upd_same, by simpa using el, rfl, .nil, by simp⟩, ?_⟩
        rintro n m H' ⟨hm, ρn, acc, d1, d2, Rn, hl, hd2, hds, hda, hln⟩
        obtain ⟨ow, Rw, sw, sw2⟩ := Rn.wipe vs
        have e2 : Ex (msk co.S0 (msk (Ow own) H1)) (msk (Sx (co_up (co_at co (msk (Ow own) H1)) Dl) ow) H') := msk_to Rn.ex fun a z => by
          rcases sw a z with z | z
          · rcases z with z | z
            · exact .inl z
            · subst z; exact .inr hb
          · exact .inr (msk_in z)
        obtain ⟨y1, y2⟩ := hy _ H' (fun a z => (Rw.mut a z).ne) Rn.ex e2 n
        cases m with
        | zero =>
          refine .inl ⟨y2 (by omega), ?_⟩
          rw [List.drop_eq_nil_of_le (by omega)] at hd2
          simp only [lcP, Option.some.injEq, Prod.mk.injEq] at hd2
          obtain ⟨rfl, rfl⟩ := hd2
          rw [List.append_nil] at hds
          subst hds
          exact q _ _ H' ((Rn.adopt (i := i) hs0 hl hda).back e0 R.ha)
        | succ m =>
          have hn : n < items.length := by omega
          rw [List.drop_eq_getElem_cons hn] at hd2
          obtain ⟨ρ1, xs, nn, kk, d, ds2, eg, ex1, ef, ek, exk, hnn, erest, rfl⟩ := lcP_cons hd2
          obtain ⟨go, yl⟩ := y1 _ (List.getElem?_eq_getElem hn)
          refine .inr ⟨go, fun H'' => n + 1 + m = items.length ∧ ∃ ρn acc d1 d2, Rs K (co_up (co_at co (msk (Ow own) H1)) Dl) ρn own σ H'' ∧ H'' Dl = some (.lst acc) ∧ lcP l vs g f ρn (items.drop (n + 1)) = some (d2, ρ') ∧ d1 ++ d2 = ds ∧
            DrA K (msk (Sx (co_up (co_at co (msk (Ow own) H1)) Dl) own) H'') acc d1 ∧ d1.length ≤ n + 1, fun H'' z => ⟨m, by omega, z⟩, fun x Hy yx => ?_⟩
          obtain ⟨e3, it⟩ := yl x Hy yx
          refine hg _ Dl (wipeE ρn vs) ow (L2.wipe σ vs) Hy items[n] x (Rw.up e3) it _ ?_
          rw [eg]
          intro own2 σ2 R2' sub2 oe2 wp2
          refine ⟨by rw [wp2 vs hj, wipe_wipe], ?_⟩
          unfold L2.tYes
          dsimp only
          rw [if_pos rfl]
          obtain ⟨p, vs1, h1, h2, h3, h4⟩ := R2'.sl l _ ex1
          refine ⟨_, join_some h1, Or.inl ⟨rfl, vs1, sq_of h3⟩, he _ Dl ρ1 own2 σ2 Hy R2' _ ?_⟩
          rw [ef]
          intro u H4 e5 hu
          cases hu with
          | int _ =>
            have hlj : l ∉ js := fun z => hlv (hj l z)
            have hol : own l = One p := by rw [← sw2 l hlv, ← oe2 l hlj]; exact h2
            have hpD : p ≠ Dl := fun z => R2'.dis l p (mem1 h2) (.inr z)
            have hσ : σ[l]? = some (some (.ref p)) := by
              have z1 := join_some h1
              have z2 := congrArg (fun z : L2.St => z[l]?) (wp2 vs hj)
              skip
              rw [wipe_wipe, wipe_get, wipe_get, if_neg (fun z => hlv z.1), if_neg (fun z => hlv z.1)] at z2
              rw [← z2]; exact z1
            have hsub : ∀ a, Sx (co_up (co_at co (msk (Ow own) H1)) Dl) own a → Sx (co_up (co_at co (msk (Ow own) H1)) Dl) own2 a := fun a z => by
              rcases z with z | ⟨k, z⟩
              · exact .inl z
              · by_cases hv : k ∈ vs
                · rw [hZ k hv] at z; cases z
                · exact .inr ⟨k, by rw [oe2 k (fun y => hv (hj k y)), sw2 k hv]; exact z⟩
            have h5 := (h4.mono (msk_ex e5)).mono (msk_sub hsub)
            obtain ⟨v, hv1, hv2⟩ := h5.get' exk
            have q2 := ixN_seq (n := vs1.length) (i := nn) (j := kk) (by rw [h5.length]; exact ek)
            refine ⟨p, vs1, nn, kk, v, rfl, rfl, e5 _ _ h3, by omega, by omega, q2.1, hv1, ?_⟩
            have RM := ((Rn.up e3).up e5).putM hσ hol (h5.erase kk)
            have hb2 : Ex (msk (Ow own) H1) (upd (upd H4 p (.lst (vs1.eraseIdx kk))) Dl (.lst (acc ++ [v]))) := fun a o z => by
              have : a ≠ Dl := fun y => by rw [y, hb] at z; cases z
              rw [upd_ne this]
              exact RM.ex _ _ z
            have RB := (RM.back2 (u := .lst (acc ++ [v])) ⟨_, rfl⟩).resolve_right (fun z => z hb2)
            refine ⟨acc, by rw [upd_ne (Ne.symm hpD)]; exact e5 _ _ (e3 _ _ hl), szl (by rw [hda.length]; omega), by omega, _, acc ++ [v], d1 ++ [d], ds2, RB, upd_same, erest, by rw [← hds]; simp, ?_, by simp; omega⟩
            rw [msk_upd (.inl (.inr rfl)), msk_upd (.inr ⟨l, mem1 hol⟩)]
            exact (hda.mono (msk_ex (e3.trans e5))).append (.one hv2)
    · exact q.elim
end
end Sm

namespace L2
open PySem PySem.Spec PyProof.Rows
section
variable {X : Cx}
theorem pss_dead {ss : List Stmt} : PSs X ss (fun _ _ _ => False) := ⟨fun _ _ _ _ _ _ h => h.elim⟩

def rCntF (K : PySem.W.Frag) : V → List V → Hp → VK → Prop := fun x xs H Q => ∃ (a : Addr) (ys : List V) (y : V), x = V.ref a ∧ xs = [y] ∧ SqL K H a ys ∧ flatV y = true ∧ ys.all flatV = true ∧ Q (.int (ys.countP (fun z => eqV z y) : Nat)) H
theorem cntF {y : V} (fy : flatV y = true) : ∀ {ys : List V} {us : List Value}, Vals ys us → ys.all flatV = true → us.countP (eqU y) = ys.countP fun z => eqV z y
  | _, _, .nil, _ => rfl
  | z :: ys, u :: us, .cons r t, f => by
    rw [List.all_cons, Bool.and_eq_true] at f
    rw [List.countP_cons, List.countP_cons, cntF fy t f.2, eqU_of r f.1]
theorem mt_cntF : MtR X "list.count" (rCntF X.K) := by
  intro pins s σ H x xs v us Q I rx rxs h
  obtain ⟨a, ys, y, rfl, rfl, hs, fy, fys, q⟩ := h
  cases rx
  cases rxs with
  | cons ry rt =>
    rename_i uy ut
    cases rt
    obtain ⟨its, rv, ⟨⟨cls, dd, data, sl⟩, n, ho, hc, hdn, hd⟩, hlen⟩ := I.list hs
    simp only at hc hd
    subst hc hd
    refine call_meets PySem.F.slot_list_count ⟨_, ho, rfl⟩ PySem.F.entry_list_count (PySem.F.args_list_count_2 _ _)
      (SeqAt.list_countAt a its.toArray n dd sl uy (eqU y)) ⟨ho, fun u' hu' => mem_eqAt ry fy rv fys u' (by simpa using hu'), ?_⟩
    have ec : its.toArray.toList.countP (eqU y) = ys.countP fun z => eqV z y := cntF fy rv fys
    refine ⟨.int (ys.countP (fun z => eqV z y) : Nat), H, I.tok _, ⟨s.toks, ?_⟩, q⟩
    show Value.int ((its.toArray.toList.countP (eqU y) : Nat) : Int) s.toks = _
    rw [ec]

def tLenSetT (K : PySem.W.Frag) (ta : TE) : TE := fun σ H Q => ta σ H fun x H1 => ∃ (l : Addr) (ks : List (Addr × List Int)), x = V.ref l ∧ SqL K H1 l (ks.map fun p => V.ref p.1) ∧ (∀ p ∈ ks, SqT K H1 p.1 (p.2.map V.int)) ∧ ks.length < 64 ∧
  ∀ L : List (Addr × List Int), (L.map (·.2)).Nodup → (∀ p ∈ L, p ∈ ks) → (∀ p ∈ ks, p.2 ∈ L.map (·.2)) → Q (.int L.length) H1
theorem pe_lenSetT {F : PySem.W.Frag} (hF : X.K = F) {a : Expr} {ta : TE} {p p2 q pos : Pos} (hc : X.calm = true) (hu : X.A.units + 64 < cLine) (hg : Gl X "len") (hm : X.mg "len" = none) (hg2 : Gl X "set") (hm2 : X.mg "set" = none) (ha : PE X a ta)
    (na : starEach [a] X.env = (false, eval a X.env) :: starEach [] X.env := by rfl) : PE X (.Call (.Name "len" p) [.Call (.Name "set" p2) [a] [] q] [] pos) (tLenSetT F ta) := by
  subst hF
  refine ⟨fun pins s σ H Q I h => ?_⟩
  refine Call_ (ld_blt I hg hm PySem.boot_len ?_)
  refine PyProof.Rows.callWith_builtin1 (PyProof.Rows.args_cons ?_ rfl) rfl rfl
  refine Call_ (ld_blt I hg2 hm2 PyProof.Rows.boot_set ?_)
  refine PyProof.Rows.callWith_type1 (PyProof.Rows.args_cons (thn (ha.run pins s σ H _ I h) fun v s1 ⟨x, H1, I1, r1, q1⟩ => PyProof.Rows.args_nil ?_) na) na rfl
  obtain ⟨l, ks, rfl, hl, hk, hf, q1⟩ := q1
  cases r1
  obtain ⟨its, rv, pl, hz⟩ := I1.list hl
  refine call_set_tups (P := X.prog) (w := X.w) ks (I1.ok.hd hc) pl.isList (by simpa using refs_of_vals rv) (fun p hp => I1.isT (hk p hp)) hf (by omega) fun h' tk L es ep t R g hk' => ?_
  refine PyProof.Rows.args_nil ?_
  have I2 : Inv X pins σ H1 { s1 with heap := h', toks := tk } := I1.kept fun b o e => hk' b o e
  obtain ⟨o, ho, hex, hd⟩ := R.ob
  have hsz : es.size = L.length := SetTR.size (s := { s1 with heap := h' }) R
  have hfit : t.fits es.size = true := SetTR.fits (s := { s1 with heap := h' }) R
  have hfew := R.few
  refine call_len_set ho hex hd hfit (by rw [hsz]; omega) ⟨.int L.length, H1, I2.tok _, ⟨_, by rw [hsz]⟩, q1 L R.nd (fun p hp => ?_) fun p hp => ?_⟩
  · exact List.mem_of_mem_take (g.sub p hp)
  · exact g.all p (by rw [List.take_length]; exact hp)

variable {CX : CXT} {E : XK} {fe e : Expr} {es : List Expr} {tf : TE} {t : TA} {pos : Pos}
def tPick (S : List (Addr × Sp)) (E : XK) (tf : TE) (t : TA) : TE := fun σ H Q => tf σ H fun y H1 => ∃ p ∈ S, y = V.ref p.1 ∧ t σ H1 fun vs H2 => p.2 (vs ++ []) H2 Q E
theorem mt_indexK {F : PySem.W.Frag} (h : X.K = F) : MtR X "list.index" (rIndex F) := h ▸ mt_index
theorem mt_cntFK {F : PySem.W.Frag} (h : X.K = F) : MtR X "list.count" (rCntF F) := h ▸ mt_cntF
theorem ix_listK {F : PySem.W.Frag} (h : X.K = F) : IxR X (rIxL F) := h ▸ ix_list
theorem allP_nil {α : Type} {P : α → Prop} : ∀ p ∈ ([] : List α), P p := fun p h => by cases h
theorem allP_cons {α : Type} {P : α → Prop} {a : α} {l : List α} (h : P a) (r : ∀ p ∈ l, P p) : ∀ p ∈ a :: l, P p := fun p hp => by
  rcases List.mem_cons.mp hp with rfl | hp
  · exact h
  · exact r p hp
theorem pe_pick {S : List (Addr × Sp)} (hf : PE X fe tf) (A : ∀ p ∈ S, ∃ (k : Nat) (fd : FuncData) (ps : List Str), FnOk X.prog X.w X.K X.mg X.base CX k p.1 fd ps p.2 ∧ Room k X.A ∧ PySem.W.keepIn X.K (.ref p.1) = true ∧ Binds X.K fd ps []) (hx : Passes CX X E) (ha : PA X (e :: es) t)
    (ht : eval (.Call fe (e :: es) [] pos) X.env = (do callWith pos (← eval fe X.env) [] (backTo pos (starEach (e :: es) X.env)) (backToKw pos (keywordEach [] X.env))) := by rfl)
    (he : starEach (e :: es) X.env = (false, eval e X.env) :: starEach es X.env := by rfl) (hpl : (backTo pos (starEach es X.env)).any (·.1) = false := by rfl) : PE X (.Call fe (e :: es) [] pos) (tPick S E tf t) := by
  refine ⟨fun pins s σ H Q I h => ?_⟩
  refine Call_ (thn (hf.run pins s σ H _ I h) fun u s1 ⟨y, H1, I1, ry, p, hp, ey, q⟩ => ?_) ht
  subst ey
  obtain rfl : u = Value.ref p.1 := ry
  obtain ⟨k, fd, ps, F, hr, hk, hb⟩ := A p hp
  refine PySem.W.callWith_K (h₀ := X.base) I1.ok.mod.kin hk (thn (ha.run pos pins s1 σ H1 _ I1 q) fun us s2 ⟨vs, H2, I2, r, q2⟩ => ⟨I2.kIn, ?_⟩) he hpl
  exact run_fn F hr hb .nil hx I2 r q2
end
end L2
namespace Sm
open PySem L2 Evl Al
section
variable {K : Kw} {co : Co} {E : L2.St → XK} {w w1 w2 : Bool} {te ta tb tc : TE} {tr : TA} {f fa fb : Env → R D} {fr : Env → R (List D)} {i j l : Nat}
def xDead : Env → Out := fun _ => .st
theorem ss_dead : SimS K co E (fun _ _ _ => False) xDead := fun ρ own σ H R Dn q => q

def dNotB (b : Bool) (d : D) : Option D := (dIsB b d).bind dNot
def rNotB : R2 := fun x y H Q => ∃ b c, y = .bl b ∧ isBV b x = some c ∧ Q (.bl !c) H
theorem op_notB {X : Cx} : OpR X (compareOp .IsNot) rNotB := by
  intro pins s σ H x y v u Q I rx ry h
  obtain ⟨b, c, rfl, hc, q⟩ := h
  cases ry
  have key : ∀ w : Value, RelV x w → plainIs w (.bool b) = true ∧ (w == Value.bool b) = c := fun w hw => by
    cases x with
    | bl a => cases hw; cases hc; exact ⟨rfl, by cases a <;> cases b <;> rfl⟩
    | non => cases hw; cases hc; exact ⟨rfl, by cases b <;> rfl⟩
    | int i => obtain ⟨t, rfl⟩ := hw; cases hc; exact ⟨rfl, by cases b <;> rfl⟩
    | str i => obtain ⟨t, rfl⟩ := hw; cases hc; exact ⟨rfl, by cases b <;> rfl⟩
    | ref p => cases hw; cases hc; exact ⟨rfl, by cases b <;> rfl⟩
    | _ => cases hc
  obtain ⟨k1, k2⟩ := key v rx
  show wpAny _ _ ((isSame v (Value.bool b)) >>= fun z => pure (Value.bool (!z))) _ _ s
  refine wpAny_bind (wpAny_isSame_plain k1 (wpAny_pure (fin_bl I q ?_)))
  rw [k2]
theorem se_notB {b : Bool} (h : SimE K co E w1 ta fa) : SimE K co E w (tOp rNotB ta (tC (.bl b))) (x1 (dNotB b) fa) := fun ρ own σ H R Q q => by
  refine h ρ own σ H R _ ((q.bind).mono (fun a _ q2 x H1 e1 hx => ?_) fun _ _ z => z)
  obtain ⟨d, hg, k⟩ := q2.of
  cases hx with
  | bl a => cases hg; exact ⟨_, _, rfl, rfl, k _ H1 e1 (.bl _)⟩
  | non => cases hg; exact ⟨_, _, rfl, rfl, k _ H1 e1 (.bl _)⟩
  | int a => cases hg; exact ⟨_, _, rfl, rfl, k _ H1 e1 (.bl _)⟩
  | str a => cases hg; exact ⟨_, _, rfl, rfl, k _ H1 e1 (.bl _)⟩
  | lst h a => cases hg; exact ⟨_, _, rfl, rfl, k _ H1 e1 (.bl _)⟩
  | tup h a => cases hg; exact ⟨_, _, rfl, rfl, k _ H1 e1 (.bl _)⟩
  | _ => cases hg

def xOnL (g : List D → D → Option D) (fa fb : Env → R D) : Env → R D := fun ρ => (fa ρ).bind fun a => match a with
  | .list xs => (fb ρ).bind fun b => R.of (g xs b)
  | _ => .st
def gIdx (xs : List D) (b : D) : Option D := if flatDD b = true ∧ xs.all flatDD = true then (xs.findIdx? fun y => eqFlat y b).map fun j => .int (j : Nat) else none
def gCnt (xs : List D) (b : D) : Option D := if flatDD b = true ∧ xs.all flatDD = true then some (.int (xs.countP (fun y => eqFlat y b) : Nat)) else none
theorem flats_of {H : Hp} : ∀ {vs : List V} {ds : List D}, DrA K H vs ds → ds.all flatDD = true → vs.all flatV = true
  | _, _, .nil, _ => rfl
  | _, _, .cons h t, z => by
    simp only [List.all_cons, Bool.and_eq_true] at z ⊢
    exact ⟨flat_of h z.1, flats_of t z.2⟩
theorem cnt_of {H : Hp} {y : V} {b : D} (hy : Dr K H y b) (fb : flatDD b = true) : ∀ {vs : List V} {ds : List D}, DrA K H vs ds → ds.all flatDD = true → (vs.countP fun z => eqV z y) = ds.countP fun z => eqFlat z b
  | _, _, .nil, _ => rfl
  | _, _, .cons h t, z => by
    simp only [List.all_cons, Bool.and_eq_true] at z
    rw [List.countP_cons, List.countP_cons, cnt_of hy fb t z.2, eqv_flat hy h fb z.1]
theorem se_idx (ha : SimE K co E w1 ta fa) (hb : SimE K co E w2 tb fb) : SimE K co E w (tBM K "list" (rIndex K) ta (tCons tb tNil)) (xOnL gIdx fa fb) := fun ρ own σ H R Q q => by
  refine ha ρ own σ H R _ ((q.bind).mono (fun a _ q2 x H1 e1 hx => ?_) fun _ _ z => z)
  cases hx with
  | @lst p vs xs h hd =>
    have h1 := msk_le _ _ h
    refine ⟨Or.inl ⟨rfl, vs, sq_of h1⟩, hb ρ own σ H1 (R.up e1) _ ((q2.bind).mono (fun b _ q3 u H2 e2 hu => ?_) fun c _ z => z.mono e1)⟩
    obtain ⟨d, hg, k⟩ := q3.of
    unfold gIdx at hg
    split at hg
    · rename_i hc
      obtain ⟨j, hj, rfl⟩ := Option.map_eq_some_iff.mp hg
      obtain ⟨hjl, hj1, hj2⟩ := List.findIdx?_eq_some_iff_getElem.mp hj
      have hu0 := hu.mono (K := K) (msk_le)
      have hd0 := (hd.mono (msk_ex e2)).mono msk_le
      obtain ⟨v, hv1, hv2⟩ := hd0.get' (List.getElem?_eq_getElem hjl)
      have fl := fun m (hm : m < xs.length) => List.all_eq_true.mp hc.2 xs[m] (List.getElem_mem hm)
      refine ⟨p, vs, u, j, v, rfl, rfl, sq_of (e2 _ _ h1), flat_of hu0 hc.1, flats_of hd0 hc.2, hv1, by rw [eqv_flat hu0 hv2 hc.1 (fl j hjl)]; exact hj1, fun m z' hm hz => ?_, k _ H2 (e1.trans e2) (.int _)⟩
      have hml : m < xs.length := by omega
      obtain ⟨v', hv1', hv2'⟩ := hd0.get' (List.getElem?_eq_getElem hml)
      rw [hv1'] at hz
      cases hz
      rw [eqv_flat hu0 hv2' hc.1 (fl m hml)]
      have := hj2 m hm
      simpa using this
    · cases hg
  | _ => exact q2.elim
theorem se_cnt (ha : SimE K co E w1 ta fa) (hb : SimE K co E w2 tb fb) : SimE K co E w (tBM K "list" (rCntF K) ta (tCons tb tNil)) (xOnL gCnt fa fb) := fun ρ own σ H R Q q => by
  refine ha ρ own σ H R _ ((q.bind).mono (fun a _ q2 x H1 e1 hx => ?_) fun _ _ z => z)
  cases hx with
  | @lst p vs xs h hd =>
    have h1 := msk_le _ _ h
    refine ⟨Or.inl ⟨rfl, vs, sq_of h1⟩, hb ρ own σ H1 (R.up e1) _ ((q2.bind).mono (fun b _ q3 u H2 e2 hu => ?_) fun c _ z => z.mono e1)⟩
    obtain ⟨d, hg, k⟩ := q3.of
    unfold gCnt at hg
    split at hg
    · rename_i hc
      cases hg
      have hu0 := hu.mono (K := K) (msk_le)
      have hd0 := (hd.mono (msk_ex e2)).mono msk_le
      refine ⟨p, vs, u, rfl, rfl, sq_of (e2 _ _ h1), flat_of hu0 hc.1, flats_of hd0 hc.2, ?_⟩
      rw [cnt_of hu0 hc.1 hd0 hc.2]
      exact k _ H2 (e1.trans e2) (.int _)
    · cases hg
  | _ => exact q2.elim

def tupsI : List D → Option (List (List Int))
  | [] => some []
  | .tup xs :: r => (intsD xs).bind fun n => (tupsI r).map fun ns => n :: ns
  | _ => none
def ddL : List (List Int) → List (List Int)
  | [] => []
  | x :: r => if x ∈ r then ddL r else x :: ddL r
theorem ddL_mem {x : List Int} : ∀ {l : List (List Int)}, x ∈ ddL l ↔ x ∈ l
  | [] => Iff.rfl
  | y :: r => by
    unfold ddL
    split
    · rename_i h
      rw [ddL_mem, List.mem_cons]
      exact ⟨.inr, fun z => by rcases z with rfl | z; exact h; exact z⟩
    · rw [List.mem_cons, List.mem_cons, ddL_mem]
theorem ddL_nodup : ∀ l : List (List Int), (ddL l).Nodup
  | [] => .nil
  | y :: r => by
    unfold ddL
    split
    · exact ddL_nodup r
    · rename_i h
      exact List.nodup_cons.mpr ⟨fun z => h (ddL_mem.mp z), ddL_nodup r⟩
def dLenT : D → Option D
  | .list xs => (tupsI xs).bind fun ns => if ns.length < 64 then some (.int ((ddL ns).length : Nat)) else none
  | _ => none
theorem tups_of {H : Hp} : ∀ {vs : List V} {ds : List D} {ns : List (List Int)}, DrA K H vs ds → tupsI ds = some ns → ∃ ks : List (Addr × List Int), vs = (ks.map fun p => V.ref p.1) ∧ ks.map (·.2) = ns ∧ ∀ p ∈ ks, SqT K H p.1 (p.2.map V.int)
  | _, _, _, .nil, e => by cases e; exact ⟨[], rfl, rfl, fun p h => by cases h⟩
  | _, _, _, .cons h t, e => by
    cases h with
    | tup hs hd =>
      simp only [tupsI] at e
      obtain ⟨n, h1, e⟩ := Option.bind_eq_some_iff.mp e
      obtain ⟨ns, h2, rfl⟩ := Option.map_eq_some_iff.mp e
      obtain ⟨ks, rfl, h3, h4⟩ := tups_of t h2
      have := ints_of hd h1
      subst this
      refine ⟨(_, n) :: ks, rfl, by rw [List.map_cons, h3], fun p hp => ?_⟩
      rcases List.mem_cons.mp hp with rfl | hp
      · exact hs
      · exact h4 p hp
    | _ => simp [tupsI] at e
theorem se_lenT (h : SimE K co E w1 ta fa) : SimE K co E w (tLenSetT K ta) (x1 dLenT fa) := fun ρ own σ H R Q q => by
  refine h ρ own σ H R _ ((q.bind).mono (fun a _ q2 x H1 e1 hx => ?_) fun _ _ z => z)
  obtain ⟨d, hg, k⟩ := q2.of
  cases hx with
  | lst hl hd =>
    simp only [dLenT] at hg
    obtain ⟨ns, h1, hg⟩ := Option.bind_eq_some_iff.mp hg
    split at hg
    · rename_i hz
      cases hg
      obtain ⟨ks, rfl, h3, h4⟩ := tups_of (hd.mono msk_le) h1
      refine ⟨_, ks, rfl, sq_of (msk_le _ _ hl), h4, by rw [← h3, List.length_map] at hz; exact hz, fun L hn hs ha => ?_⟩
      have : L.length = (ddL ns).length := by
        rw [← List.length_map (as := L) (f := (·.2))]
        refine ((List.perm_ext_iff_of_nodup hn (ddL_nodup ns)).mpr fun y => ?_).length_eq
        rw [ddL_mem, ← h3]
        constructor
        · intro hy
          obtain ⟨p, hp, rfl⟩ := List.mem_map.mp hy
          exact List.mem_map.mpr ⟨p, hs p hp, rfl⟩
        · intro hy
          obtain ⟨p, hp, rfl⟩ := List.mem_map.mp hy
          exact ha p hp
      rw [this]
      exact k _ H1 e1 (.int _)
    · cases hg
  | _ => cases hg

def tRefs : List Addr → TA
  | [] => tNil
  | a :: r => tCons (tC (.ref a)) (tRefs r)
theorem tRefs_run {σ : L2.St} {H : Hp} : ∀ {as : List Addr} {Q : List V → Hp → Prop}, Q (as.map V.ref) H → tRefs as σ H Q
  | [], Q, h => h
  | a :: r, Q, h => by
    show tRefs r σ H fun vs H1 => Q (.ref a :: vs) H1
    exact tRefs_run (as := r) h
theorem RelM.weak {S : Addr → Prop} {H : Hp} : ∀ {md : List Bool} {n : Nat} {vs : List V} {ds : List D}, md.length = n → RelM K S H (List.replicate n true) vs ds → RelM K S H md vs ds
  | [], _, vs, ds, rfl, h => h
  | b :: md, _, vs, ds, rfl, h => by
    rw [List.length_cons, List.replicate_succ] at h
    cases vs with
    | nil => cases ds <;> exact h.elim
    | cons v vs =>
      cases ds with
      | nil => exact h.elim
      | cons d ds =>
        refine ⟨?_, RelM.weak rfl h.2⟩
        cases b with
        | true => exact h.1
        | false => exact h.1.mono (msk_sub fun a z => z.elim)
def xPick (gs : List (List D → Rz)) (fb : Env → R D) (fr : Env → R (List D)) : Env → R D := fun ρ => (fb ρ).bind fun b => match b with
  | .int n => match ixN gs.length n with
    | some k => match gs[k]? with
      | some g => (fr ρ).bind fun ds => (g ds).r
      | none => .st
    | none => .st
  | _ => .st
theorem se_pick {cs : List (Addr × List Bool × (List D → Rz))} {E0 : XK} {n : Nat} (hs : cs.length ≤ 60) (hn : ∀ c ∈ cs, c.2.1.length = n) (hb : SimE K co (fun _ => E0) w1 tb fb) (hA : SimA K co (fun _ => E0) (List.replicate n true) tr fr) :
    SimE K co (fun _ => E0) false (tPick (cs.map fun c => (c.1, spF K c.2.1 c.2.2)) E0 (tOp (rIxL K) (tLst (tRefs (cs.map (·.1)))) tb) tr) (xPick (cs.map (·.2.2)) fb fr) := fun ρ own σ H R Q q => by
  unfold xPick at q
  refine tRefs_run ⟨?_, fun p hp => ?_⟩
  · rw [List.length_map, List.length_map, sizeLine_eq]; omega
  refine hb ρ own σ _ (R.up (Ex.new hp)) _ ((q.bind).mono (fun b _ q2 u H2 e2 hu => ?_) fun c _ z => z.mono (Ex.new hp))
  cases hu with
  | int m =>
    dsimp only at q2
    rw [List.length_map] at q2
    cases en : ixN cs.length m with
    | none => rw [en] at q2; exact q2.elim
    | some k =>
      rw [en] at q2
      dsimp only at q2
      rw [List.getElem?_map] at q2
      have hk := (ixN_seq en).2.1
      rw [List.getElem?_eq_getElem hk] at q2
      dsimp only [Option.map_some] at q2
      have e02 := (Ex.new (o := .lst ((cs.map (·.1)).map V.ref)) hp).trans e2
      have hat : atI ((cs.map (·.1)).map V.ref) m = some (.ref cs[k].1) := by
        unfold atI
        rw [List.length_map, List.length_map, en]
        show ((cs.map (·.1)).map V.ref)[k]? = _
        rw [List.getElem?_map, List.getElem?_map, List.getElem?_eq_getElem hk]; rfl
      refine ⟨p, _, m, _, rfl, rfl, sq_of (e2 _ _ upd_same), hat, (cs[k].1, spF K cs[k].2.1 cs[k].2.2), List.mem_map.mpr ⟨cs[k], List.getElem_mem hk, rfl⟩, rfl, ?_⟩
      refine hA ρ own σ H2 (R.up e02) _ ((q2.bind).mono (fun ds _ q4 vs H3 e3 hv => ?_) fun c _ z => z.mono e02)
      rw [List.append_nil]
      exact ⟨Sx co own, ds, (R.up (e02.trans e3)).mut, RelM.weak (hn _ (List.getElem_mem hk)) hv, rzP_of R (e02.trans e3) (q4.mono (fun _ _ z => z) fun c _ z H4 e4 => eok_self (σ := σ) _ _ (z H4 ((e02.trans e3).trans e4)))⟩
  | _ => exact q2.elim
end
end Sm

namespace Sm
open PySem L2
section
variable {ρ : Sm.Env} {f fa fb fc : Sm.Env → Sm.R D} {t u : Sm.Env → Sm.R Bool} {fn fr ga gb : Sm.Env → Sm.R (List D)} {lo hi : Sm.Env → Sm.R (Option Int)} {F G A B : Sm.Env → Sm.Out} {d a b c x y : D} {xs ys ds : List D} {i j n m : Nat} {p q : Bool} {k l : Int} {g : List D → Rz} {h1 : D → Option D} {h2 : D → D → Option D} {cn mn : Str}
theorem e_is {α : Type} {f : Sm.Env → Sm.R α} {x y : α} (h : f ρ = .ok x) (e : x = y) : f ρ = .ok y := e ▸ h
theorem e_c : xC d ρ = .ok d := rfl
theorem e_f (h : ρ[i]? = some (.d d)) : xF i ρ = .ok d := by unfold xF; rw [h]
theorem e_a (h : ρ[i]? = some (.a d)) : xA i ρ = .ok d := by unfold xA; rw [h]
theorem e_pd (h : ρ[i]? = some (.d d)) : xP i ρ = .ok d := by unfold xP; rw [h]
theorem e_pa (h : ρ[i]? = some (.a d)) : xP i ρ = .ok d := by unfold xP; rw [h]
theorem e_pm (h : ρ[i]? = some (.m xs)) : xP i ρ = .ok (.list xs) := by unfold xP; rw [h]
theorem e_po {c : Str} {ns : List Str} (h : ρ[i]? = some (.o c ns ds)) : xP i ρ = .ok (.obj c ns ds) := by unfold xP; rw [h]
theorem e_lm (h : ρ[i]? = some (.m xs)) : lM i ρ = .ok xs := by unfold lM; rw [h]
theorem e_ld (h : ρ[i]? = some (.d (.list xs))) : lM i ρ = .ok xs := by unfold lM; rw [h]
theorem e_1 (ha : fa ρ = .ok a) (hg : h1 a = some d) : x1 h1 fa ρ = .ok d := by unfold x1; rw [ha]; show R.of (h1 a) = _; rw [hg]; rfl
theorem e_2 (ha : fa ρ = .ok a) (hb : fb ρ = .ok b) (hg : h2 a b = some d) : x2 h2 fa fb ρ = .ok d := by
  unfold x2; rw [ha]; show (fb ρ).bind _ = _; rw [hb]; show R.of (h2 a b) = _; rw [hg]; rfl
theorem e_low (h : f ρ = .ok d) (z : tupO d = true) : xLow f ρ = .ok d := by unfold xLow; rw [h]; show (if tupO d = true then R.ok d else R.st) = _; rw [if_pos z]
theorem e_L (h : fn ρ = .ok xs) : xL fn ρ = .ok (.list xs) := by unfold xL; rw [h]; rfl
theorem e_lE (h : f ρ = .ok (.list xs)) : lE f ρ = .ok xs := by unfold lE; rw [h]; rfl
theorem e_alt (h : f ρ = .ok d) : xOrE f fa ρ = .ok d := by unfold xOrE; rw [h]
theorem e_alt2 (h : f ρ = .st) (h' : fa ρ = .ok d) : xOrE f fa ρ = .ok d := by unfold xOrE; rw [h]; exact h'
theorem e_and (ha : fa ρ = .ok (.bool p)) (hb : p = true → fb ρ = .ok (.bool q)) : xAnd fa fb ρ = .ok (.bool (p && q)) := by
  unfold xAnd; rw [ha]
  cases p with
  | true => exact hb rfl
  | false => rfl
theorem e_or (ha : fa ρ = .ok (.bool p)) (hb : p = false → fb ρ = .ok (.bool q)) : xOr fa fb ρ = .ok (.bool (p || q)) := by
  unfold xOr; rw [ha]
  cases p with
  | true => rfl
  | false => exact hb rfl
theorem e_if (ht : t ρ = .ok p) (h1 : p = true → fa ρ = .ok x) (h2 : p = false → fb ρ = .ok y) : xIf t fa fb ρ = .ok (if p = true then x else y) := by
  unfold xIf; rw [ht]
  cases p with
  | true => exact h1 rfl
  | false => exact h2 rfl
theorem e_ifT (ht : t ρ = .ok true) (h1 : fa ρ = .ok x) : xIf t fa fb ρ = .ok x := by unfold xIf; rw [ht]; exact h1
theorem e_ifF (ht : t ρ = .ok false) (h1 : fb ρ = .ok x) : xIf t fa fb ρ = .ok x := by unfold xIf; rw [ht]; exact h1
theorem e_chain {g g' : D → D → Option D} (ha : fa ρ = .ok a) (hb : fb ρ = .ok b) (hc : fc ρ = .ok c) (hg : g a b = some (.bool p)) (hg' : g' b c = some (.bool q)) : xChain g g' fa fb fc ρ = .ok (.bool (p && q)) := by
  unfold xChain; rw [ha]; show (fb ρ).bind _ = _; rw [hb]; show (R.of (g a b)).bind _ = _; rw [hg]
  cases p with
  | true => show (fc ρ).bind _ = _; rw [hc]; show R.of (g' b c) = _; rw [hg']; rfl
  | false => rfl
theorem e_chainF {g g' : D → D → Option D} (ha : fa ρ = .ok a) (hb : fb ρ = .ok b) (hg : g a b = some (.bool false)) : xChain g g' fa fb fc ρ = .ok (.bool false) := by
  unfold xChain; rw [ha]; show (fb ρ).bind _ = _; rw [hb]; show (R.of (g a b)).bind _ = _; rw [hg]; rfl
theorem a_nil : aNil ρ = .ok [] := rfl
theorem a_cons (ha : fa ρ = .ok d) (hr : fr ρ = .ok ds) : aCons fa fr ρ = .ok (d :: ds) := by unfold aCons; rw [ha]; show (fr ρ).bind _ = _; rw [hr]; rfl
theorem n_lst (h : fn ρ = .ok xs) (z : xs.length ≤ 1000000) : nLst fn ρ = .ok xs := by unfold nLst; rw [h]; show (if xs.length ≤ 1000000 then R.ok xs else R.st) = _; rw [if_pos z]
theorem e_tup (h : fn ρ = .ok xs) (z : xs.length ≤ 1000000) : xTup fn ρ = .ok (.tup xs) := by unfold xTup; rw [h]; show (if xs.length ≤ 1000000 then R.ok (D.tup xs) else R.st) = _; rw [if_pos z]
theorem e_tupL (h : fn ρ = .ok xs) : xTupL fn ρ = .ok (.tup xs) := by unfold xTupL; rw [h]; rfl
theorem e_tuple (h : f ρ = .ok d) (z : itemsD d = some xs) : xTuple f ρ = .ok (.tup xs) := by unfold xTuple; rw [h]; show R.of ((itemsD d).map D.tup) = _; rw [z]; rfl
theorem n_list {w : Bool} (h : f ρ = .ok d) (z : itemsD d = some xs) (y : lowA w xs = true) : nList w f ρ = .ok xs := by
  unfold nList; rw [h]; show R.of ((itemsD d).bind fun xs => if lowA w xs = true then some xs else none) = _; rw [z]
  show R.of (if lowA w xs = true then some xs else none) = _
  rw [if_pos y]; rfl
theorem n_rg (ha : fa ρ = .ok (.int k)) (hb : fb ρ = .ok (.int l)) (h : 0 ≤ k ∧ k ≤ 1000000 ∧ 0 ≤ l ∧ l ≤ 1000000) : nRg fa fb ρ = .ok (rgD k l) := by
  unfold nRg; rw [ha]; show (fb ρ).bind _ = _; rw [hb]; show R.of ((rg2 (.int k) (.int l)).map _) = _
  unfold rg2; dsimp only; rw [if_pos h]; rfl
theorem e_tupRg (h : nRg fa fb ρ = .ok xs) : xTupRg fa fb ρ = .ok (.tup xs) := by unfold xTupRg; rw [h]; rfl
theorem o_no : oNo ρ = .ok none := rfl
theorem o_so (h : f ρ = .ok (.int k)) : oSo f ρ = .ok (some k) := by unfold oSo; rw [h]; rfl
theorem e_sl {o o' : Option Int} (h : f ρ = .ok d) (h1 : lo ρ = .ok o) (h2 : hi ρ = .ok o') (z : dSl d o o' = some x) : xSl f lo hi ρ = .ok x := by
  unfold xSl; rw [h]; show (lo ρ).bind _ = _; rw [h1]; show (hi ρ).bind _ = _; rw [h2]; show R.of (dSl d o o') = _; rw [z]; rfl
theorem n_sl {w : Bool} {o o' : Option Int} (h : f ρ = .ok d) (h1 : lo ρ = .ok o) (h2 : hi ρ = .ok o') (z : dSl d o o' = some (.list xs)) (y : lowA w xs = true) : nSl w f lo hi ρ = .ok xs := by
  unfold nSl; rw [h]; show (lo ρ).bind _ = _; rw [h1]; show (hi ρ).bind _ = _; rw [h2]; show R.of ((dSl d o o').bind _) = _; rw [z]
  show R.of (if lowA w xs = true then some xs else none) = _
  rw [if_pos y]; rfl
theorem n_slT {w : Bool} {o o' : Option Int} (h : f ρ = .ok (.tup xs)) (h1 : lo ρ = .ok o) (h2 : hi ρ = .ok o') : nSl w f lo hi ρ = .st := by
  unfold nSl; rw [h]; show (lo ρ).bind _ = _; rw [h1]; show (hi ρ).bind _ = _; rw [h2]; rfl
theorem e_LST (h : fn ρ = .st) : xL fn ρ = .st := by unfold xL; rw [h]; rfl
theorem n_slL {o o' : Option Int} (h : fn ρ = .ok xs) (h1 : lo ρ = .ok o) (h2 : hi ρ = .ok o') : nSlL fn lo hi ρ = .ok (cutD xs o o') := by
  unfold nSlL; rw [h]; show (lo ρ).bind _ = _; rw [h1]; show (hi ρ).bind _ = _; rw [h2]; rfl
theorem e_ixL (h : fn ρ = .ok xs) (hb : fb ρ = .ok b) (z : dIx (.list xs) b = some d) : xIxL fn fb ρ = .ok d := by
  unfold xIxL; rw [h]; show (fb ρ).bind _ = _; rw [hb]; show R.of (dIx (.list xs) b) = _; rw [z]; rfl
theorem n_addL (ha : ga ρ = .ok xs) (hb : gb ρ = .ok ys) (z : xs.length + ys.length ≤ 1000000) : nAddL ga gb ρ = .ok (xs ++ ys) := by
  unfold nAddL; rw [ha]; show (gb ρ).bind _ = _; rw [hb]; show (if xs.length + ys.length ≤ 1000000 then R.ok (xs ++ ys) else R.st) = _; rw [if_pos z]
theorem n_mulL (ha : ga ρ = .ok xs) (hb : fb ρ = .ok (.int k)) (z : -1000000 ≤ k ∧ k ≤ 1000000 ∧ xs.length * k.toNat ≤ 1000000) : nMulL ga fb ρ = .ok (List.replicate k.toNat xs).flatten := by
  unfold nMulL; rw [ha]; show (fb ρ).bind _ = _; rw [hb]; show (if _ then _ else _) = _; rw [if_pos z]

theorem e_call (h : fr ρ = .ok ds) (hg : g ds = .ok d) : xCall g fr ρ = .ok d := by unfold xCall; rw [h]; show (g ds).r = _; rw [hg]; rfl
theorem e_callN (h : fr ρ = .ok ds) (hg : g ds = .nw xs) : xCall g fr ρ = .ok (.list xs) := by unfold xCall; rw [h]; show (g ds).r = _; rw [hg]; rfl
theorem e_callE {e : Str} (h : fr ρ = .ok ds) (hg : g ds = .er e) : xCall g fr ρ = .er e := by unfold xCall; rw [h]; show (g ds).r = _; rw [hg]; rfl
theorem n_call (h : fr ρ = .ok ds) (hg : g ds = .nw xs) : nCall g fr ρ = .ok xs := by unfold nCall; rw [h]; show (g ds).n = _; rw [hg]; rfl
theorem e_meth (ha : fa ρ = .ok a) (z : noAttr cn mn a = true) (h : fr ρ = .ok ds) (hg : g (a :: ds) = .ok d) : xMeth cn mn g fa fr ρ = .ok d := by
  unfold xMeth; rw [ha]; show (if noAttr cn mn a = true then _ else _) = _; rw [if_pos z, h]; show (g (a :: ds)).r = _; rw [hg]; rfl
theorem e_methN (ha : fa ρ = .ok a) (z : noAttr cn mn a = true) (h : fr ρ = .ok ds) (hg : g (a :: ds) = .nw xs) : xMeth cn mn g fa fr ρ = .ok (.list xs) := by
  unfold xMeth; rw [ha]; show (if noAttr cn mn a = true then _ else _) = _; rw [if_pos z, h]; show (g (a :: ds)).r = _; rw [hg]; rfl
theorem e_methE {e : Str} (ha : fa ρ = .ok a) (z : noAttr cn mn a = true) (h : fr ρ = .ok ds) (hg : g (a :: ds) = .er e) : xMeth cn mn g fa fr ρ = .er e := by
  unfold xMeth; rw [ha]; show (if noAttr cn mn a = true then _ else _) = _; rw [if_pos z, h]; show (g (a :: ds)).r = _; rw [hg]; rfl
theorem n_meth (ha : fa ρ = .ok a) (z : noAttr cn mn a = true) (h : fr ρ = .ok ds) (hg : g (a :: ds) = .nw xs) : nMeth cn mn g fa fr ρ = .ok xs := by
  unfold nMeth; rw [ha]; show (if noAttr cn mn a = true then _ else _) = _; rw [if_pos z, h]; show (g (a :: ds)).n = _; rw [hg]; rfl

theorem y_T (h : f ρ = .ok (.bool p)) : yT f ρ = .ok p := by unfold yT; rw [h]; rfl
theorem y_tru (h : f ρ = .ok d) (z : dTru d = some p) : yTru f ρ = .ok p := by unfold yTru; rw [h]; show R.of (dTru d) = _; rw [z]; rfl
theorem y_not (h : t ρ = .ok p) : yNot t ρ = .ok (!p) := by unfold yNot; rw [h]; rfl
theorem y_and (h : t ρ = .ok p) (h' : p = true → u ρ = .ok q) : yAnd t u ρ = .ok (p && q) := by
  unfold yAnd; rw [h]
  cases p with
  | true => exact h' rfl
  | false => rfl
theorem y_or (h : t ρ = .ok p) (h' : p = false → u ρ = .ok q) : yOr t u ρ = .ok (p || q) := by
  unfold yOr; rw [h]
  cases p with
  | true => rfl
  | false => exact h' rfl
theorem y_is (h : t ρ = .ok p) (e : p = q) : t ρ = .ok q := e ▸ h

theorem q_set (h : f ρ = .ok d) : xSeq (xSet i f) G ρ = G (ρ.set i (.d d)) := by unfold xSeq xSet xOut; rw [h]
theorem q_setA (h : f ρ = .ok d) : xSeq (xSetA i f) G ρ = G (ρ.set i (.a d)) := by unfold xSeq xSetA xOut; rw [h]
theorem q_setN (h : fn ρ = .ok xs) (z : i < ρ.length) : xSeq (xSetN i fn) G ρ = G (ρ.set i (.m xs)) := by unfold xSeq xSetN xOutN; rw [h]; dsimp only; rw [if_pos z]
theorem s_set (h : f ρ = .ok d) : xSet i f ρ = .nx (ρ.set i (.d d)) := by unfold xSet xOut; rw [h]
theorem s_setA (h : f ρ = .ok d) : xSetA i f ρ = .nx (ρ.set i (.a d)) := by unfold xSetA xOut; rw [h]
theorem s_setN (h : fn ρ = .ok xs) (z : i < ρ.length) : xSetN i fn ρ = .nx (ρ.set i (.m xs)) := by unfold xSetN xOutN; rw [h]; dsimp only; rw [if_pos z]
theorem q_drop (h : f ρ = .ok d) : xSeq (xDrop f) G ρ = G ρ := by unfold xSeq xDrop xOut; rw [h]
theorem s_ret (h : f ρ = .ok d) : xRet f ρ = .rt d := by unfold xRet xOut; rw [h]
theorem s_retE {e : Str} (h : f ρ = .er e) : xRet f ρ = .er e ρ := by unfold xRet xOut; rw [h]
theorem s_dropE {e : Str} (h : f ρ = .er e) : xDrop f ρ = .er e ρ := by unfold xDrop xOut; rw [h]
theorem s_drop (h : f ρ = .ok d) : xDrop f ρ = .nx ρ := by unfold xDrop xOut; rw [h]
theorem s_retN (h : fn ρ = .ok xs) : xRetN fn ρ = .rn xs := by unfold xRetN xOutN; rw [h]
theorem s_retM (h : ρ[i]? = some (.m xs)) : xRetM i ρ = .rn xs := by unfold xRetM; rw [h]
theorem q_nx {ρ' : Sm.Env} (h : F ρ = .nx ρ') : xSeq F G ρ = G ρ' := by unfold xSeq; rw [h]
theorem q_rt (h : F ρ = .rt d) : xSeq F G ρ = .rt d := by unfold xSeq; rw [h]
theorem q_rn (h : F ρ = .rn xs) : xSeq F G ρ = .rn xs := by unfold xSeq; rw [h]
theorem q_er {ρ' : Sm.Env} (h : F ρ = .er cn ρ') : xSeq F G ρ = .er cn ρ' := by unfold xSeq; rw [h]
theorem q_bk {ρ' : Sm.Env} (h : F ρ = .bk ρ') : xSeq F G ρ = .bk ρ' := by unfold xSeq; rw [h]
theorem q_ct {ρ' : Sm.Env} (h : F ρ = .ct ρ') : xSeq F G ρ = .ct ρ' := by unfold xSeq; rw [h]
theorem s_if (h : t ρ = .ok p) : xIfS t A B ρ = if p = true then A ρ else B ρ := by unfold xIfS xOutT; rw [h]
theorem s_ifT (h : t ρ = .ok true) : xIfS t A B ρ = A ρ := s_if h
theorem s_ifF (h : t ρ = .ok false) : xIfS t A B ρ = B ρ := by rw [s_if h]; rfl
theorem q_ifT (h : t ρ = .ok true) : xSeq (xIfS t A B) G ρ = xSeq A G ρ := by unfold xSeq; rw [s_ifT h]
theorem q_ifF (h : t ρ = .ok false) : xSeq (xIfS t A B) G ρ = xSeq B G ρ := by unfold xSeq; rw [s_ifF h]
theorem q_skip (h : t ρ = .ok false) : xSeq (xIfS t A xNext) G ρ = G ρ := by rw [q_ifF h]; rfl
theorem s_skip (h : t ρ = .ok false) : xIfS t A xNext ρ = .nx ρ := by rw [s_ifF h]; rfl
theorem q_app (e : ρ[i]? = some (.m xs)) (h : f ρ = .ok d) (z : xs.length < 1000000) : xSeq (xOnM i f gApp) G ρ = G (ρ.set i (.m (xs ++ [d]))) := by
  unfold xSeq xOnM; rw [e]; unfold xOut; dsimp only; rw [h]; dsimp only [gApp]; rw [if_pos z]
theorem s_app (e : ρ[i]? = some (.m xs)) (h : f ρ = .ok d) (z : xs.length < 1000000) : xOnM i f gApp ρ = .nx (ρ.set i (.m (xs ++ [d]))) := by
  unfold xOnM; rw [e]; unfold xOut; dsimp only; rw [h]; dsimp only [gApp]; rw [if_pos z]
theorem s_ext (e : ρ[i]? = some (.m xs)) (h : f ρ = .ok d) (y : itemsD d = some ys) (z : xs.length + ys.length ≤ 1000000) : xOnM i f gExt ρ = .nx (ρ.set i (.m (xs ++ ys))) := by
  unfold xOnM; rw [e]; unfold xOut; dsimp only; rw [h]; dsimp only [gExt]; rw [y]; show (match (if xs.length + ys.length ≤ 1000000 then some (xs ++ ys) else none) with | some z => _ | none => _) = _; rw [if_pos z]
theorem s_put (e : ρ[i]? = some (.m xs)) (h : f ρ = .ok d) (hj : fb ρ = .ok (.int k)) (z : L2.ixN xs.length k = some n) : xPut i fb f ρ = .nx (ρ.set i (.m (xs.set n d))) := by
  unfold xPut; rw [e]; unfold xOut; dsimp only; rw [h]; dsimp only; rw [hj]; dsimp only; rw [z]
theorem s_popAt (e : ρ[j]? = some (.m xs)) (h : f ρ = .ok (.int k)) (z : L2.ixN xs.length k = some n) (y : xs[n]? = some d) (b : k ≤ 1000000 ∧ -1000000 ≤ k) : xPopAt i j f ρ = .nx ((ρ.set j (.m (xs.eraseIdx n))).set i (.d d)) := by
  unfold xPopAt; rw [e]; unfold xOut; dsimp only; rw [h]; dsimp only; rw [z]; dsimp only; rw [y]; dsimp only; rw [if_pos b]
theorem s_dropPop (e : ρ[j]? = some (.m xs)) (h : f ρ = .ok (.int k)) (z : L2.ixN xs.length k = some n) (b : k ≤ 1000000 ∧ -1000000 ≤ k) : xDropPop j f ρ = .nx (ρ.set j (.m (xs.eraseIdx n))) := by
  unfold xDropPop; rw [e]; unfold xOut; dsimp only; rw [h]; dsimp only; rw [z]; dsimp only; rw [if_pos b]
theorem lcP_step {g : Sv → Sm.Env → Sm.R Sm.Env} {ρ1 : Sm.Env} {l : Nat} {vs : List Nat} {s : Sv} {r : List Sv} (hg : g s (wipeE ρ vs) = .ok ρ1) (e : ρ1[l]? = some (.m xs)) (h : f ρ1 = .ok (.int k)) (z : L2.ixN xs.length k = some n) (y : xs[n]? = some d) (b : k ≤ 1000000 ∧ -1000000 ≤ k) :
    lcP l vs g f ρ (s :: r) = (lcP l vs g f (ρ.set l (.m (xs.eraseIdx n))) r).map fun z => (d :: z.1, z.2) := by
  show (match g s (wipeE ρ vs) with | .ok ρ1 => _ | _ => none) = _
  rw [hg]; dsimp only; rw [e]; dsimp only; rw [h]; dsimp only; rw [z]; dsimp only; rw [y]; dsimp only; rw [if_pos b]
theorem s_lcPop {src : Sm.Env → Sm.R (List Sv)} {g : Sv → Sm.Env → Sm.R Sm.Env} {l : Nat} {vs : List Nat} {items : List Sv} {ρ' : Sm.Env} (hs : src ρ = .ok items) (hc : items.length ≤ 1000000 ∧ vs.all (notOwn ρ) = true ∧ vs.contains l = false ∧ i < ρ.length) (h : lcP l vs g f ρ items = some (xs, ρ')) :
    xLcPop i l src vs g f ρ = .nx (ρ'.set i (.d (.list xs))) := by
  unfold xLcPop; rw [hs]; dsimp only; rw [if_pos hc, h]
theorem s_revM (e : ρ[i]? = some (.m xs)) : xRevM i ρ = .nx (ρ.set i (.m xs.reverse)) := by unfold xRevM; rw [e]
theorem q_appGo (h : fn ρ = .ok xs) (z : xs.length < 1000000) (h' : f ρ = .ok d) : xSeq (xAppGo fn f) G ρ = G ρ := by
  unfold xSeq xAppGo; rw [h]; dsimp only; rw [if_pos z]; unfold xOut; rw [h']
theorem q_un {gg : Sv → Sm.Env → Sm.R Sm.Env} {ρ' : Sm.Env} (h : f ρ = .ok d) (e : gg (.d d) ρ = .ok ρ') : xSeq (xUn gg f) G ρ = G ρ' := by unfold xSeq xUn xOut; rw [h]; dsimp only; rw [e]
theorem q_unA {gg : Sv → Sm.Env → Sm.R Sm.Env} {ρ' : Sm.Env} (h : f ρ = .ok d) (e : gg (.a d) ρ = .ok ρ') : xSeq (xUnA gg f) G ρ = G ρ' := by unfold xSeq xUnA xOut; rw [h]; dsimp only; rw [e]
theorem p_nil : pNil ρ = .ok [] := rfl
theorem p_e {fp : Sm.Env → Sm.R (List Sv)} {ss : List Sv} (h : f ρ = .ok d) (hr : fp ρ = .ok ss) : pE f fp ρ = .ok (.d d :: ss) := by unfold pE; rw [h]; show (fp ρ).bind _ = _; rw [hr]; rfl
theorem p_n {fp : Sm.Env → Sm.R (List Sv)} {ss : List Sv} (h : fn ρ = .ok xs) (hr : fp ρ = .ok ss) : pN fn fp ρ = .ok (.m xs :: ss) := by unfold pN; rw [h]; show (fp ρ).bind _ = _; rw [hr]; rfl
theorem q_par {fp : Sm.Env → Sm.R (List Sv)} {ss : List Sv} {is : List Nat} (h : fp ρ = .ok ss) (z : ss.length = is.length ∧ is.all (fun i => decide (i < ρ.length)) = true) : xSeq (xPar is fp) G ρ = G (setAll is ss ρ) := by
  unfold xSeq xPar xOutP; rw [h]; dsimp only; rw [if_pos z]
theorem s_par {fp : Sm.Env → Sm.R (List Sv)} {ss : List Sv} {is : List Nat} (h : fp ρ = .ok ss) (z : ss.length = is.length ∧ is.all (fun i => decide (i < ρ.length)) = true) : xPar is fp ρ = .nx (setAll is ss ρ) := by
  unfold xPar xOutP; rw [h]; dsimp only; rw [if_pos z]
theorem s_fld {ns : List Str} {ds : List D} {cn fd : Str} (h : f ρ = .ok d) (e : ρ[i]? = some (.o cn ns ds)) (z : ns.contains fd = false ∧ ns.length < 900) : xFldS i cn fd f ρ = .nx (ρ.set i (.o cn (ns ++ [fd]) (ds ++ [d]))) := by
  unfold xFldS xOut; rw [h]; dsimp only; rw [e]; dsimp only; rw [if_pos ⟨rfl, z⟩]
theorem q_fld {ns : List Str} {ds : List D} {cn fd : Str} (h : f ρ = .ok d) (e : ρ[i]? = some (.o cn ns ds)) (z : ns.contains fd = false ∧ ns.length < 900) : xSeq (xFldS i cn fd f) G ρ = G (ρ.set i (.o cn (ns ++ [fd]) (ds ++ [d]))) := q_nx (s_fld h e z)
theorem q_aug {g : D → D → Option D} (e : ρ[i]? = some (.d x)) (h : f ρ = .ok y) (z : g x y = some d) : xSeq (xAug i g f) G ρ = G (ρ.set i (.d d)) := by unfold xSeq xAug; rw [e]; unfold xOut; dsimp only; rw [h]; dsimp only; rw [z]
theorem s_aug {g : D → D → Option D} (e : ρ[i]? = some (.d x)) (h : f ρ = .ok y) (z : g x y = some d) : xAug i g f ρ = .nx (ρ.set i (.d d)) := by unfold xAug; rw [e]; unfold xOut; dsimp only; rw [h]; dsimp only; rw [z]

theorem s_tryOk {ok : List Str} (h : ∀ c ρ', F ρ ≠ .er c ρ') : xTry i ok F G ρ = F ρ := by
  unfold xTry
  cases e : F ρ with
  | er c ρ' => exact absurd e (h c ρ')
  | _ => rfl
theorem s_tryR {ok : List Str} (h : F ρ = .rt d) : xTry i ok F G ρ = .rt d := by unfold xTry; rw [h]
theorem s_tryN {ok : List Str} {ρ' : Sm.Env} (h : F ρ = .nx ρ') : xTry i ok F G ρ = .nx ρ' := by unfold xTry; rw [h]
theorem s_tryE {ok : List Str} {e : Str} {ρ' : Sm.Env} (h : F ρ = .er e ρ') (z : ok.contains e = true ∧ ρ'.all notX = true ∧ i < ρ'.length) (h' : G (ρ'.set i (.x e)) = .rt d) : xTry i ok F G ρ = .rt d := by
  unfold xTry; rw [h]; dsimp only; rw [if_pos z, h']; rfl
theorem a_consE {e : Str} (h : fa ρ = .er e) : aCons fa fr ρ = .er e := by unfold aCons; rw [h]; rfl
theorem n_lstE {e : Str} (h : fn ρ = .er e) : nLst fn ρ = .er e := by unfold nLst; rw [h]; rfl
theorem s_setNE {e : Str} (h : fn ρ = .er e) : xSetN i fn ρ = .er e ρ := by unfold xSetN xOutN; rw [h]
theorem s_setE {e : Str} (h : f ρ = .er e) : xSet i f ρ = .er e ρ := by unfold xSet xOut; rw [h]
theorem notX_a : notX (.a d) = true := rfl
theorem notX_d : notX (.d d) = true := rfl
theorem notX_m : notX (.m xs) = true := rfl
theorem notX_no : notX .no = true := rfl
theorem s_tryEN {ok : List Str} {e : Str} {ρ' ρ2 : Sm.Env} (h : F ρ = .er e ρ') (z : ok.contains e = true ∧ ρ'.all notX = true ∧ i < ρ'.length) (h' : G (ρ'.set i (.x e)) = .nx ρ2) (y : (ρ2.set i .no).all notX = true) : xTry i ok F G ρ = .nx (ρ2.set i .no) := by
  unfold xTry; rw [h]; dsimp only; rw [if_pos z, h']
  show (if (ρ2.set i .no).all notX = true then Sm.Out.nx (ρ2.set i .no) else Sm.Out.st) = _
  rw [if_pos y]
theorem e_isX {all yes : List Str} {e : Str} (h : ρ[i]? = some (.x e)) (z : all.contains e = true) : xIsX i all yes ρ = .ok (.bool (yes.contains e)) := by unfold xIsX; rw [h]; dsimp only; rw [if_pos z]

theorem r_F (h : f ρ = .ok d) (z : itemsD d = some xs) : srcF f ρ = .ok (sD xs) := by unfold srcF; rw [h]; show R.of ((itemsD d).map sD) = _; rw [z]; rfl
theorem r_V (h : f ρ = .ok d) (z : itemsD d = some xs) : srcV f ρ = .ok (sA xs) := by unfold srcV; rw [h]; show R.of ((itemsD d).map sA) = _; rw [z]; rfl
theorem r_A (h : ρ[i]? = some (.a d)) (z : itemsD d = some xs) : srcA i ρ = .ok (sA xs) := by unfold srcA; rw [h]; show R.of ((itemsD d).map sA) = _; rw [z]; rfl
theorem r_AD (h : ρ[i]? = some (.d d)) (z : itemsD d = some xs) : srcA i ρ = .ok (sD xs) := by unfold srcA; rw [h]; show R.of ((itemsD d).map sD) = _; rw [z]; rfl
theorem r_M (h : ρ[i]? = some (.m xs)) : srcM i ρ = .ok (sD xs) := by unfold srcM; rw [h]
theorem r_MD (h : ρ[i]? = some (.d d)) (z : itemsD d = some xs) : srcM i ρ = .ok (sD xs) := by unfold srcM; rw [h]; show R.of ((itemsD d).map sD) = _; rw [z]; rfl
theorem r_rg (ha : fa ρ = .ok (.int k)) (hb : fb ρ = .ok (.int l)) (h : -1000000000 ≤ k ∧ k ≤ 1000000000 ∧ -1000000000 ≤ l ∧ l ≤ 1000000000) : srcRg fa fb ρ = .ok (rgS k l) := by
  unfold srcRg; rw [ha]; show (fb ρ).bind _ = _; rw [hb]; show (if _ then _ else _) = _; rw [if_pos h]
theorem s_for {src : Sm.Env → Sm.R (List Sv)} {gg : Sv → Sm.Env → Sm.R Sm.Env} {items : List Sv} (h : src ρ = .ok items) : xFor src gg F ρ = loopL gg F items ρ := by unfold xFor; rw [h]

theorem loop_inv {gg : Sv → Sm.Env → Sm.R Sm.Env} (I : Nat → Sm.Env → Prop) : ∀ (items : List Sv) (n : Nat) (ρ : Sm.Env), I n ρ → (∀ i s ρ, items[i]? = some s → I (n + i) ρ → ∃ ρ1 ρ2, gg s ρ = .ok ρ1 ∧ (F ρ1 = .nx ρ2 ∨ F ρ1 = .ct ρ2) ∧ I (n + i + 1) ρ2) → ∃ ρ', loopL gg F items ρ = .nx ρ' ∧ I (n + items.length) ρ'
  | [], n, ρ, h, _ => ⟨ρ, rfl, h⟩
  | s :: r, n, ρ, h, st => by
    obtain ⟨ρ1, ρ2, e1, e2, h2⟩ := st 0 s ρ rfl h
    obtain ⟨ρ', e3, h3⟩ := loop_inv I r (n + 1) ρ2 h2 (fun i t ρ hi hI => by
      have := st (i + 1) t ρ hi (by rw [show n + (i + 1) = n + 1 + i by omega]; exact hI)
      rw [show n + (i + 1) + 1 = n + 1 + i + 1 by omega] at this
      exact this)
    refine ⟨ρ', ?_, by rw [List.length_cons, show n + (r.length + 1) = n + 1 + r.length by omega]; exact h3⟩
    unfold loopL
    rw [e1]
    dsimp only
    rcases e2 with e2 | e2 <;> rw [e2] <;> exact e3

theorem for_inv {src : Sm.Env → Sm.R (List Sv)} {gg : Sv → Sm.Env → Sm.R Sm.Env} {items : List Sv} (I : Nat → Sm.Env → Prop) (h : src ρ = .ok items) (h0 : I 0 ρ) (st : ∀ i s ρ, items[i]? = some s → I i ρ → ∃ ρ1 ρ2, gg s ρ = .ok ρ1 ∧ (F ρ1 = .nx ρ2 ∨ F ρ1 = .ct ρ2) ∧ I (i + 1) ρ2) : ∃ ρ', xFor src gg F ρ = .nx ρ' ∧ I items.length ρ' := by
  obtain ⟨ρ', h1, h2⟩ := loop_inv (F := F) (gg := gg) I items 0 ρ h0 (fun i s ρ hi hI => by
    rw [Nat.zero_add] at hI ⊢
    exact st i s ρ hi hI)
  rw [Nat.zero_add] at h2
  exact ⟨ρ', by rw [s_for h, h1], h2⟩
theorem rgS_get {a b : Int} {s : Sv} (h : (rgS a b)[n]? = some s) : s = .d (.int (a + (n : Int))) ∧ a + (n : Int) < b := by
  unfold rgS at h
  obtain ⟨x, hx, rfl⟩ := atH h
  unfold rgD at hx
  rw [List.getElem?_map] at hx
  cases e : (List.range (b - a).toNat)[n]? with
  | none => rw [e] at hx; cases hx
  | some m =>
    rw [e] at hx; cases hx
    obtain ⟨hn, he⟩ := List.getElem?_eq_some_iff.mp e
    rw [List.length_range] at hn
    rw [List.getElem_range] at he
    subst he
    exact ⟨rfl, by omega⟩
theorem rgS_len {a b : Int} : (rgS a b).length = (b - a).toNat := by unfold rgS sD rgD; simp

theorem for_rg {gg : Sv → Sm.Env → Sm.R Sm.Env} (I : Nat → Sm.Env → Prop) (ha : fa ρ = .ok (.int k)) (hb : fb ρ = .ok (.int l)) (hk : -1000000000 ≤ k ∧ k ≤ 1000000000 ∧ -1000000000 ≤ l ∧ l ≤ 1000000000) (h0 : I 0 ρ)
    (st : ∀ (i : Nat) ρ, k + (i : Int) < l → I i ρ → ∃ ρ1 ρ2, gg (.d (.int (k + (i : Int)))) ρ = .ok ρ1 ∧ (F ρ1 = .nx ρ2 ∨ F ρ1 = .ct ρ2) ∧ I (i + 1) ρ2) : ∃ ρ', xFor (srcRg fa fb) gg F ρ = .nx ρ' ∧ I (l - k).toNat ρ' := by
  obtain ⟨ρ', h1, h2⟩ := for_inv (F := F) (gg := gg) I (r_rg ha hb hk) h0 (fun i s ρ hi hI => by
    obtain ⟨rfl, hl⟩ := rgS_get hi
    exact st i ρ hl hI)
  rw [rgS_len] at h2
  exact ⟨ρ', h1, h2⟩
theorem sD_get {s : Sv} (h : (sD xs)[n]? = some s) : ∃ x, xs[n]? = some x ∧ s = .d x := atH h
theorem sA_get {s : Sv} (h : (sA xs)[n]? = some s) : ∃ x, xs[n]? = some x ∧ s = .a x := atA h
theorem sD_len : (sD xs).length = xs.length := by unfold sD; simp
theorem sA_len : (sA xs).length = xs.length := by unfold sA; simp

theorem k_forI {src : Sm.Env → Sm.R (List Sv)} {gg : Sv → Sm.Env → Sm.R Sm.Env} {items : List Sv} {o : Sm.Out} (I : Nat → Sm.Env → Prop) (h : src ρ = .ok items) (h0 : I 0 ρ) (st : ∀ i s ρ, items[i]? = some s → I i ρ → ∃ ρ1 ρ2, gg s ρ = .ok ρ1 ∧ (F ρ1 = .nx ρ2 ∨ F ρ1 = .ct ρ2) ∧ I (i + 1) ρ2) (k : ∀ ρ', I items.length ρ' → G ρ' = o) : xSeq (xFor src gg F) G ρ = o := by
  obtain ⟨ρ', h1, h2⟩ := for_inv (F := F) I h h0 st
  exact (q_nx h1).trans (k ρ' h2)
theorem k_rg {o : Sm.Out} {K0 L0 : Int} (I : Nat → Sm.Env → Prop) (ha : fa ρ = .ok (.int K0)) (hb : fb ρ = .ok (.int L0)) (hk : -1000000000 ≤ K0 ∧ K0 ≤ 1000000000 ∧ -1000000000 ≤ L0 ∧ L0 ≤ 1000000000) (h0 : I 0 ρ)
    (st : ∀ (n : Nat) ρ, K0 + (n : Int) < L0 → I n ρ → ∃ ρ2, F (ρ.set j (.d (.int (K0 + (n : Int))))) = .nx ρ2 ∧ I (n + 1) ρ2) (k : ∀ ρ', I (L0 - K0).toNat ρ' → G ρ' = o) : xSeq (xFor (srcRg fa fb) (bName j) F) G ρ = o := by
  obtain ⟨ρ', h1, h2⟩ := for_rg (F := F) (gg := bName j) I ha hb hk h0 (fun n ρ hn hI => by
    obtain ⟨ρ2, e, e2⟩ := st n ρ hn hI
    exact ⟨_, ρ2, rfl, .inl e, e2⟩)
  exact (q_nx h1).trans (k ρ' h2)
theorem j_rg {o : Sm.Out} {K0 L0 : Int} (I : Nat → Sm.Env → Prop) (ha : fa ρ = .ok (.int K0)) (hb : fb ρ = .ok (.int L0)) (hk : -1000000000 ≤ K0 ∧ K0 ≤ 1000000000 ∧ -1000000000 ≤ L0 ∧ L0 ≤ 1000000000) (h0 : I 0 ρ)
    (st : ∀ (n : Nat) ρ, K0 + (n : Int) < L0 → I n ρ → ∃ ρ2, F (ρ.set j (.d (.int (K0 + (n : Int))))) = .nx ρ2 ∧ I (n + 1) ρ2) (k : ∀ ρ', I (L0 - K0).toNat ρ' → .nx ρ' = o) : xFor (srcRg fa fb) (bName j) F ρ = o := by
  obtain ⟨ρ', h1, h2⟩ := for_rg (F := F) (gg := bName j) I ha hb hk h0 (fun n ρ hn hI => by
    obtain ⟨ρ2, e, e2⟩ := st n ρ hn hI
    exact ⟨_, ρ2, rfl, .inl e, e2⟩)
  exact h1.trans (k ρ' h2)

theorem k_lst {o : Sm.Out} {L : List D} (I : Nat → Sm.Env → Prop) (h : f ρ = .ok d) (z : itemsD d = some L) (h0 : I 0 ρ)
    (st : ∀ (n : Nat) x ρ, L[n]? = some x → I n ρ → ∃ ρ2, F (ρ.set j (.d x)) = .nx ρ2 ∧ I (n + 1) ρ2) (k : ∀ ρ', I L.length ρ' → G ρ' = o) : xSeq (xFor (srcF f) (bName j) F) G ρ = o :=
  k_forI I (r_F h z) h0 (fun i s ρ hi hI => by
    obtain ⟨x, hx, rfl⟩ := atH hi
    obtain ⟨ρ2, e, e2⟩ := st i x ρ hx hI
    exact ⟨_, ρ2, rfl, .inl e, e2⟩) (by
    rw [show (sD L).length = L.length by unfold sD; simp]
    exact k)
theorem k_lstV {o : Sm.Out} {L : List D} (I : Nat → Sm.Env → Prop) (h : f ρ = .ok d) (z : itemsD d = some L) (h0 : I 0 ρ)
    (st : ∀ (n : Nat) x ρ, L[n]? = some x → I n ρ → ∃ ρ2, F (ρ.set j (.a x)) = .nx ρ2 ∧ I (n + 1) ρ2) (k : ∀ ρ', I L.length ρ' → G ρ' = o) : xSeq (xFor (srcV f) (bName j) F) G ρ = o :=
  k_forI I (r_V h z) h0 (fun i s ρ hi hI => by
    obtain ⟨x, hx, rfl⟩ := atA hi
    obtain ⟨ρ2, e, e2⟩ := st i x ρ hx hI
    exact ⟨_, ρ2, rfl, .inl e, e2⟩) (by
    rw [show (sA L).length = L.length by unfold sA; simp]
    exact k)

theorem k_each {o : Sm.Out} {L : List D} (I : Sm.Env → Prop) (h : f ρ = .ok d) (z : itemsD d = some L) (h0 : I ρ)
    (st : ∀ x ∈ L, ∀ ρ, I ρ → ∃ ρ2, F (ρ.set j (.d x)) = .nx ρ2 ∧ I ρ2) (k : ∀ ρ', I ρ' → G ρ' = o) : xSeq (xFor (srcF f) (bName j) F) G ρ = o :=
  k_lst (fun _ => I) h z h0 (fun n x ρ hx hI => st x (List.mem_of_getElem? hx) ρ hI) k
theorem k_eachR {o : Sm.Out} {K0 L0 : Int} (I : Sm.Env → Prop) (ha : fa ρ = .ok (.int K0)) (hb : fb ρ = .ok (.int L0)) (hk : -1000000000 ≤ K0 ∧ K0 ≤ 1000000000 ∧ -1000000000 ≤ L0 ∧ L0 ≤ 1000000000) (h0 : I ρ)
    (st : ∀ (n : Nat) ρ, K0 + (n : Int) < L0 → I ρ → ∃ ρ2, F (ρ.set j (.d (.int (K0 + (n : Int))))) = .nx ρ2 ∧ I ρ2) (k : ∀ ρ', I ρ' → G ρ' = o) : xSeq (xFor (srcRg fa fb) (bName j) F) G ρ = o :=
  k_rg (fun _ => I) ha hb hk h0 st k

theorem lc_map {gg : Sv → Sm.Env → Sm.R Sm.Env} {φ : Nat → D} {items : List Sv} (h : ∀ i s, items[i]? = some s → ∃ ρ1, gg s ρ = .ok ρ1 ∧ t ρ1 = .ok true ∧ f ρ1 = .ok (φ i)) : lcL gg t f ρ items = .ok ((List.range items.length).map φ) := by
  induction items generalizing φ with
  | nil => rfl
  | cons s r ih =>
    obtain ⟨ρ1, h1, h2, h3⟩ := h 0 s rfl
    have := ih (φ := fun i => φ (i + 1)) (fun i s hs => h (i + 1) s hs)
    unfold lcL
    rw [h1]; dsimp only; rw [h2]; dsimp only; rw [h3]; dsimp only; rw [this]
    show R.ok _ = _
    rw [List.length_cons, List.range_succ_eq_map, List.map_cons, List.map_map]
    rfl
theorem n_lc {gg : Sv → Sm.Env → Sm.R Sm.Env} {src : Sm.Env → Sm.R (List Sv)} {vs : List Nat} {items : List Sv} (hs : src ρ = .ok items) (hz : items.length ≤ 1000000) (hv : vs.all (notOwn ρ) = true) (h : lcL gg t f (wipeE ρ vs) items = .ok xs) : nLc src vs gg t f ρ = .ok xs := by
  unfold nLc; rw [hs]; show (if items.length ≤ 1000000 ∧ _ then _ else _) = _; rw [if_pos ⟨hz, hv⟩, h]

theorem n_lcR {i : Nat} {φ : Nat → D} (ha : fa ρ = .ok (.int k)) (hb : fb ρ = .ok (.int l)) (hk : -1000000000 ≤ k ∧ k ≤ 1000000000 ∧ -1000000000 ≤ l ∧ l ≤ 1000000000) (hz : l - k ≤ 1000000) (hv : notOwn ρ i = true)
    (h : ∀ n : Nat, k + (n : Int) < l → f ((wipeE ρ [i]).set i (.d (.int (k + (n : Int))))) = .ok (φ n)) : nLc (srcRg fa fb) [i] (bName i) yYes f ρ = .ok ((List.range (l - k).toNat).map φ) := by
  refine n_lc (items := rgS k l) (r_rg ha hb hk) (by rw [rgS_len]; omega) (by simpa using hv) ?_
  rw [← rgS_len]
  refine lc_map fun n s hs => ?_
  obtain ⟨rfl, hl⟩ := rgS_get hs
  exact ⟨_, rfl, rfl, h n hl⟩

theorem lc_mapD {i : Nat} {φ : D → D} (h : ∀ x ∈ xs, f (ρ.set i (.d x)) = .ok (φ x)) : lcL (bName i) yYes f ρ (sD xs) = .ok (xs.map φ) := by
  have := lc_map (gg := bName i) (t := yYes) (f := f) (ρ := ρ) (items := sD xs) (φ := fun n => φ (xs.getD n .none)) (fun n s hs => by
    obtain ⟨x, hx, rfl⟩ := sD_get hs
    exact ⟨_, rfl, rfl, by
      rw [h x (List.mem_of_getElem? hx), List.getD_eq_getElem?_getD, hx]; rfl⟩)
  rw [this, sD_len]
  congr 1
  apply List.ext_getElem?
  intro n
  rw [List.getElem?_map, List.getElem?_map]
  rcases Nat.lt_or_ge n xs.length with hn | hn
  · rw [List.getElem?_eq_getElem (by simpa using hn), List.getElem?_eq_getElem hn]
    simp [hn]
  · rw [List.getElem?_eq_none (by simpa using hn), List.getElem?_eq_none hn]; rfl
theorem lc_mapA {i : Nat} {φ : D → D} (h : ∀ x ∈ xs, f (ρ.set i (.a x)) = .ok (φ x)) : lcL (bName i) yYes f ρ (sA xs) = .ok (xs.map φ) := by
  have := lc_map (gg := bName i) (t := yYes) (f := f) (ρ := ρ) (items := sA xs) (φ := fun n => φ (xs.getD n .none)) (fun n s hs => by
    obtain ⟨x, hx, rfl⟩ := sA_get hs
    exact ⟨_, rfl, rfl, by
      rw [h x (List.mem_of_getElem? hx), List.getD_eq_getElem?_getD, hx]; rfl⟩)
  rw [this, sA_len]
  congr 1
  apply List.ext_getElem?
  intro n
  rw [List.getElem?_map, List.getElem?_map]
  rcases Nat.lt_or_ge n xs.length with hn | hn
  · rw [List.getElem?_eq_getElem (by simpa using hn), List.getElem?_eq_getElem hn]
    simp [hn]
  · rw [List.getElem?_eq_none (by simpa using hn), List.getElem?_eq_none hn]; rfl
theorem n_lcF {i : Nat} {φ : D → D} (hs : fa ρ = .ok d) (z : itemsD d = some xs) (hz : xs.length ≤ 1000000) (hv : notOwn ρ i = true) (h : ∀ x ∈ xs, f ((wipeE ρ [i]).set i (.d x)) = .ok (φ x)) : nLc (srcF fa) [i] (bName i) yYes f ρ = .ok (xs.map φ) :=
  n_lc (items := sD xs) (r_F hs z) (by rw [sD_len]; exact hz) (by simpa using hv) (lc_mapD h)
theorem n_lcV {i : Nat} {φ : D → D} (hs : fa ρ = .ok d) (z : itemsD d = some xs) (hz : xs.length ≤ 1000000) (hv : notOwn ρ i = true) (h : ∀ x ∈ xs, f ((wipeE ρ [i]).set i (.a x)) = .ok (φ x)) : nLc (srcV fa) [i] (bName i) yYes f ρ = .ok (xs.map φ) :=
  n_lc (items := sA xs) (r_V hs z) (by rw [sA_len]; exact hz) (by simpa using hv) (lc_mapA h)

theorem lc_filter {gg : Sv → Sm.Env → Sm.R Sm.Env} {φ : Nat → D} {κ : Nat → Bool} {items : List Sv} (h : ∀ i s, items[i]? = some s → ∃ ρ1, gg s ρ = .ok ρ1 ∧ t ρ1 = .ok (κ i) ∧ (κ i = true → f ρ1 = .ok (φ i))) : lcL gg t f ρ items = .ok (((List.range items.length).filter κ).map φ) := by
  induction items generalizing φ κ with
  | nil => rfl
  | cons s r ih =>
    obtain ⟨ρ1, h1, h2, h3⟩ := h 0 s rfl
    have := ih (φ := fun i => φ (i + 1)) (κ := fun i => κ (i + 1)) (fun i s hs => h (i + 1) s hs)
    unfold lcL
    rw [h1]; dsimp only; rw [h2]
    rw [List.length_cons, List.range_succ_eq_map, List.filter_cons, List.filter_map, ]
    cases hk : κ 0 with
    | true =>
      dsimp only; rw [h3 hk]; dsimp only; rw [this]
      show R.ok _ = _
      rw [if_pos rfl, List.map_cons, List.map_map]
      rfl
    | false =>
      dsimp only; rw [this, if_neg (by decide), List.map_map]
      rfl
theorem n_lcRf {i : Nat} {φ : Nat → D} {κ : Nat → Bool} (ha : fa ρ = .ok (.int k)) (hb : fb ρ = .ok (.int l)) (hk : -1000000000 ≤ k ∧ k ≤ 1000000000 ∧ -1000000000 ≤ l ∧ l ≤ 1000000000) (hz : l - k ≤ 1000000) (hv : notOwn ρ i = true)
    (h : ∀ n : Nat, k + (n : Int) < l → t ((wipeE ρ [i]).set i (.d (.int (k + (n : Int))))) = .ok (κ n) ∧ (κ n = true → f ((wipeE ρ [i]).set i (.d (.int (k + (n : Int))))) = .ok (φ n))) : nLc (srcRg fa fb) [i] (bName i) t f ρ = .ok (((List.range (l - k).toNat).filter κ).map φ) := by
  refine n_lc (items := rgS k l) (r_rg ha hb hk) (by rw [rgS_len]; omega) (by simpa using hv) ?_
  rw [← rgS_len]
  refine lc_filter fun n s hs => ?_
  obtain ⟨rfl, hl⟩ := rgS_get hs
  exact ⟨_, rfl, (h n hl).1, (h n hl).2⟩
end

section
variable {ρ : Sm.Env} {f fa fb fc : Sm.Env → Sm.R D} {t u : Sm.Env → Sm.R Bool} {fn fr ga gb : Sm.Env → Sm.R (List D)} {F G A B : Sm.Env → Sm.Out} {d a b c x y : D} {xs ys ds : List D} {i j n m : Nat} {p q : Bool} {k l : Int} {o : Sm.Out} {cn : Str}
theorem k_set (h : f ρ = .ok d) (k : G (ρ.set i (.d d)) = o) : xSeq (xSet i f) G ρ = o := (q_set h).trans k
theorem k_setN (h : fn ρ = .ok xs) (z : i < ρ.length) (k : G (ρ.set i (.m xs)) = o) : xSeq (xSetN i fn) G ρ = o := (q_setN h z).trans k
theorem k_setA (h : f ρ = .ok d) (k : G (ρ.set i (.a d)) = o) : xSeq (xSetA i f) G ρ = o := (q_setA h).trans k
theorem k_skip (h : t ρ = .ok false) (k : G ρ = o) : xSeq (xIfS t A xNext) G ρ = o := (q_skip h).trans k
theorem k_skip' (h : t ρ = .ok p) (e : p = false) (k : G ρ = o) : xSeq (xIfS t A xNext) G ρ = o := k_skip (e ▸ h) k
theorem k_ifT (h : t ρ = .ok true) (k : xSeq A G ρ = o) : xSeq (xIfS t A B) G ρ = o := (q_ifT h).trans k
theorem k_ifF (h : t ρ = .ok false) (k : xSeq B G ρ = o) : xSeq (xIfS t A B) G ρ = o := (q_ifF h).trans k
theorem k_ifT' (h : t ρ = .ok p) (e : p = true) (k : xSeq A G ρ = o) : xSeq (xIfS t A B) G ρ = o := k_ifT (e ▸ h) k
theorem k_ifF' (h : t ρ = .ok p) (e : p = false) (k : xSeq B G ρ = o) : xSeq (xIfS t A B) G ρ = o := k_ifF (e ▸ h) k
theorem j_ifT (h : t ρ = .ok true) (k : A ρ = o) : xIfS t A B ρ = o := (s_ifT h).trans k
theorem j_ifF (h : t ρ = .ok false) (k : B ρ = o) : xIfS t A B ρ = o := (s_ifF h).trans k
theorem j_ifT' (h : t ρ = .ok p) (e : p = true) (k : A ρ = o) : xIfS t A B ρ = o := j_ifT (e ▸ h) k
theorem j_ifF' (h : t ρ = .ok p) (e : p = false) (k : B ρ = o) : xIfS t A B ρ = o := j_ifF (e ▸ h) k
theorem j_skip' (h : t ρ = .ok p) (e : p = false) : xIfS t A xNext ρ = .nx ρ := s_skip (e ▸ h)
theorem k_app (e : ρ[i]? = some (.m xs)) (h : f ρ = .ok d) (z : xs.length < 1000000) (k : G (ρ.set i (.m (xs ++ [d]))) = o) : xSeq (xOnM i f gApp) G ρ = o := (q_app e h z).trans k
theorem k_ext (e : ρ[i]? = some (.m xs)) (h : f ρ = .ok d) (y : itemsD d = some ys) (z : xs.length + ys.length ≤ 1000000) (k : G (ρ.set i (.m (xs ++ ys))) = o) : xSeq (xOnM i f gExt) G ρ = o := (q_nx (s_ext e h y z)).trans k
theorem k_put (e : ρ[i]? = some (.m xs)) (h : f ρ = .ok d) (hj : fb ρ = .ok (.int k)) (z : L2.ixN xs.length k = some n) (kk : G (ρ.set i (.m (xs.set n d))) = o) : xSeq (xPut i fb f) G ρ = o := (q_nx (s_put e h hj z)).trans kk
theorem k_popAt (e : ρ[j]? = some (.m xs)) (h : f ρ = .ok (.int k)) (z : L2.ixN xs.length k = some n) (y : xs[n]? = some d) (b : k ≤ 1000000 ∧ -1000000 ≤ k) (kk : G ((ρ.set j (.m (xs.eraseIdx n))).set i (.d d)) = o) : xSeq (xPopAt i j f) G ρ = o := (q_nx (s_popAt e h z y b)).trans kk
theorem k_dropPop (e : ρ[j]? = some (.m xs)) (h : f ρ = .ok (.int k)) (z : L2.ixN xs.length k = some n) (b : k ≤ 1000000 ∧ -1000000 ≤ k) (kk : G (ρ.set j (.m (xs.eraseIdx n))) = o) : xSeq (xDropPop j f) G ρ = o := (q_nx (s_dropPop e h z b)).trans kk
theorem k_lcPop {src : Sm.Env → Sm.R (List Sv)} {g : Sv → Sm.Env → Sm.R Sm.Env} {l : Nat} {vs : List Nat} {items : List Sv} {ρ' : Sm.Env} (hs : src ρ = .ok items) (hc : items.length ≤ 1000000 ∧ vs.all (notOwn ρ) = true ∧ vs.contains l = false ∧ i < ρ.length) (h : lcP l vs g f ρ items = some (xs, ρ'))
    (kk : G (ρ'.set i (.d (.list xs))) = o) : xSeq (xLcPop i l src vs g f) G ρ = o := (q_nx (s_lcPop hs hc h)).trans kk
theorem k_revM (e : ρ[i]? = some (.m xs)) (k : G (ρ.set i (.m xs.reverse)) = o) : xSeq (xRevM i) G ρ = o := (q_nx (s_revM e)).trans k
theorem k_appGo (h : fn ρ = .ok xs) (z : xs.length < 1000000) (h' : f ρ = .ok d) (k : G ρ = o) : xSeq (xAppGo fn f) G ρ = o := (q_appGo h z h').trans k
theorem k_un {gg : Sv → Sm.Env → Sm.R Sm.Env} {ρ' : Sm.Env} (h : f ρ = .ok d) (e : gg (.d d) ρ = .ok ρ') (k : G ρ' = o) : xSeq (xUn gg f) G ρ = o := (q_un h e).trans k
theorem k_unA {gg : Sv → Sm.Env → Sm.R Sm.Env} {ρ' : Sm.Env} (h : f ρ = .ok d) (e : gg (.a d) ρ = .ok ρ') (k : G ρ' = o) : xSeq (xUnA gg f) G ρ = o := (q_unA h e).trans k
theorem k_par {fp : Sm.Env → Sm.R (List Sv)} {ss : List Sv} {is : List Nat} (h : fp ρ = .ok ss) (z : ss.length = is.length ∧ is.all (fun i => decide (i < ρ.length)) = true) (k : G (setAll is ss ρ) = o) : xSeq (xPar is fp) G ρ = o := (q_par h z).trans k
theorem k_fld {ns : List Str} {ds : List D} {fd : Str} (h : f ρ = .ok d) (e : ρ[i]? = some (.o cn ns ds)) (z : ns.contains fd = false ∧ ns.length < 900) (k : G (ρ.set i (.o cn (ns ++ [fd]) (ds ++ [d]))) = o) : xSeq (xFldS i cn fd f) G ρ = o := (q_fld h e z).trans k
theorem k_aug {g : D → D → Option D} (e : ρ[i]? = some (.d x)) (h : f ρ = .ok y) (z : g x y = some d) (k : G (ρ.set i (.d d)) = o) : xSeq (xAug i g f) G ρ = o := (q_aug e h z).trans k
theorem k_drop (h : f ρ = .ok d) (k : G ρ = o) : xSeq (xDrop f) G ρ = o := (q_drop h).trans k
theorem k_nx {ρ' : Sm.Env} (h : F ρ = .nx ρ') (k : G ρ' = o) : xSeq F G ρ = o := (q_nx h).trans k
theorem j_set (h : f ρ = .ok d) (k : .nx (ρ.set i (.d d)) = o) : xSet i f ρ = o := (s_set h).trans k
theorem j_setA (h : f ρ = .ok d) (k : .nx (ρ.set i (.a d)) = o) : xSetA i f ρ = o := (s_setA h).trans k
theorem j_setN (h : fn ρ = .ok xs) (z : i < ρ.length) (k : .nx (ρ.set i (.m xs)) = o) : xSetN i fn ρ = o := (s_setN h z).trans k
theorem j_app (e : ρ[i]? = some (.m xs)) (h : f ρ = .ok d) (z : xs.length < 1000000) (k : .nx (ρ.set i (.m (xs ++ [d]))) = o) : xOnM i f gApp ρ = o := (s_app e h z).trans k
theorem j_ext (e : ρ[i]? = some (.m xs)) (h : f ρ = .ok d) (y : itemsD d = some ys) (z : xs.length + ys.length ≤ 1000000) (k : .nx (ρ.set i (.m (xs ++ ys))) = o) : xOnM i f gExt ρ = o := (s_ext e h y z).trans k
theorem j_put (e : ρ[i]? = some (.m xs)) (h : f ρ = .ok d) (hj : fb ρ = .ok (.int k)) (z : L2.ixN xs.length k = some n) (kk : .nx (ρ.set i (.m (xs.set n d))) = o) : xPut i fb f ρ = o := (s_put e h hj z).trans kk
theorem j_fld {ns : List Str} {ds : List D} {fd : Str} (h : f ρ = .ok d) (e : ρ[i]? = some (.o cn ns ds)) (z : ns.contains fd = false ∧ ns.length < 900) (k : .nx (ρ.set i (.o cn (ns ++ [fd]) (ds ++ [d]))) = o) : xFldS i cn fd f ρ = o := (s_fld h e z).trans k
theorem j_par {fp : Sm.Env → Sm.R (List Sv)} {ss : List Sv} {is : List Nat} (h : fp ρ = .ok ss) (z : ss.length = is.length ∧ is.all (fun i => decide (i < ρ.length)) = true) (k : .nx (setAll is ss ρ) = o) : xPar is fp ρ = o := (s_par h z).trans k
theorem j_aug {g : D → D → Option D} (e : ρ[i]? = some (.d x)) (h : f ρ = .ok y) (z : g x y = some d) (k : .nx (ρ.set i (.d d)) = o) : xAug i g f ρ = o := (s_aug e h z).trans k
theorem j_unPut {gs : List Sv → Sm.Env → Sm.R Sm.Env} {ρ' : Sm.Env} {k : Int} {kk r : _} (h : f ρ = .ok d) (hi : itemsD d = some (y :: r)) (hn : r.length + 1 = n) (e : ρ[i]? = some (.m xs)) (hb : fb ρ = .ok (.int k)) (z : L2.ixN xs.length k = some kk) (hg : gs (sD r) (ρ.set i (.m (xs.set kk y))) = .ok ρ') (kx : .nx ρ' = o) : xUnPut i n fb gs f ρ = o := by
  unfold xUnPut xOut; rw [h]; dsimp only; rw [hi]; dsimp only; rw [if_pos hn, e]; dsimp only; rw [hb]; dsimp only; rw [z]; dsimp only; rw [hg]; exact kx
theorem k_frz {is : List Nat} {ρ' : Sm.Env} (h : is.foldl (fun ρ i => xFreeze i ρ) ρ = ρ') (k : F ρ' = o) : xFrz is F ρ = o := by unfold xFrz; rw [h]; exact k
theorem k_frzS {is : List Nat} {ρ' : Sm.Env} (h : is.foldl (fun ρ i => xFreeze i ρ) ρ = ρ') (k : xSeq F G ρ' = o) : xSeq (xFrz is F) G ρ = o := by subst h; exact k
theorem l_cons {gg : Sv → Sm.Env → Sm.R Sm.Env} {s : Sv} {r : List Sv} {ρ1 ρ2 : Sm.Env} (h : gg s ρ = .ok ρ1) (h2 : F ρ1 = .nx ρ2) (k : loopL gg F r ρ2 = o) : loopL gg F (s :: r) ρ = o := by
  unfold loopL; rw [h]; dsimp only; rw [h2]; exact k
theorem l_bk {gg : Sv → Sm.Env → Sm.R Sm.Env} {s : Sv} {r : List Sv} {ρ1 ρ2 : Sm.Env} (h : gg s ρ = .ok ρ1) (h2 : F ρ1 = .bk ρ2) : loopL gg F (s :: r) ρ = .nx ρ2 := by
  unfold loopL; rw [h]; dsimp only; rw [h2]
theorem l_rt {gg : Sv → Sm.Env → Sm.R Sm.Env} {s : Sv} {r : List Sv} {ρ1 : Sm.Env} (h : gg s ρ = .ok ρ1) (h2 : F ρ1 = .rt d) : loopL gg F (s :: r) ρ = .rt d := by
  unfold loopL; rw [h]; dsimp only; rw [h2]
theorem l_rn {gg : Sv → Sm.Env → Sm.R Sm.Env} {s : Sv} {r : List Sv} {ρ1 : Sm.Env} (h : gg s ρ = .ok ρ1) (h2 : F ρ1 = .rn xs) : loopL gg F (s :: r) ρ = .rn xs := by
  unfold loopL; rw [h]; dsimp only; rw [h2]
theorem l_er {gg : Sv → Sm.Env → Sm.R Sm.Env} {s : Sv} {r : List Sv} {ρ1 ρ2 : Sm.Env} (h : gg s ρ = .ok ρ1) (h2 : F ρ1 = .er cn ρ2) : loopL gg F (s :: r) ρ = .er cn ρ2 := by
  unfold loopL; rw [h]; dsimp only; rw [h2]
theorem z_rt (h : F ρ = .rt d) : zOut (F ρ) = .ok d := by rw [h]; rfl
theorem z_rn (h : F ρ = .rn xs) : zOut (F ρ) = .nw xs := by rw [h]; rfl
theorem z_nx {ρ' : Sm.Env} (h : F ρ = .nx ρ') : zOut (F ρ) = .ok .none := by rw [h]; rfl
theorem z_er {ρ' : Sm.Env} (h : F ρ = .er cn ρ') : zOut (F ρ) = .er cn := by rw [h]; rfl
theorem i_er {ρ' : Sm.Env} (h : F ρ = .er cn ρ') : zInit (F ρ) = .er cn := by rw [h]; rfl
theorem i_nx {ρ' : Sm.Env} {ns : List Str} (h : F ρ = .nx ρ') (e : ρ'[0]? = some (.o cn ns ds)) : zInit (F ρ) = .ok (.obj cn ns ds) := by
  rw [h]; unfold zInit; dsimp only; rw [e]
end

mutual

def shD : Nat → D → Bool
  | _, .none => true
  | _, .bool _ => true
  | _, .int _ => true
  | _, .str s => PyData.strOk s
  | 0, .list _ => false
  | 0, .tup _ => false
  | n + 1, .list xs => shA n xs
  | n + 1, .tup xs => shA n xs
  | _, .obj _ _ _ => false
  | _, .scr _ => false
  | _, .dict _ _ => false
  | _, .dct _ _ => false
  | _, .rng _ _ => false
def shA : Nat → List D → Bool
  | _, [] => true
  | n, d :: ds => shD n d && shA n ds
end
mutual
theorem shD_of : ∀ (n : Nat) (d : D), shD n d = true → ∃ p, D.py d = some p ∧ p.canLay0 = true ∧ p.depth ≤ n
  | n, .none, _ => ⟨_, rfl, by simp [PyData.canLay0], by simp [PyData.depth]⟩
  | n, .bool b, _ => ⟨_, rfl, by simp [PyData.canLay0], by simp [PyData.depth]⟩
  | n, .int i, _ => ⟨_, rfl, by simp [PyData.canLay0], by simp [PyData.depth]⟩
  | n, .str s, h => ⟨_, rfl, by simpa [PyData.canLay0, shD] using h, by simp [PyData.depth]⟩
  | 0, .list xs, h => by simp [shD] at h
  | 0, .tup xs, h => by simp [shD] at h
  | n + 1, .list xs, h => by
    obtain ⟨ps, h1, h2, h3⟩ := shA_of n xs (by simpa [shD] using h)
    exact ⟨_, by rw [D.py, h1]; rfl, by simpa [PyData.canLay0] using h2, by simp only [PyData.depth]; omega⟩
  | n + 1, .tup xs, h => by
    obtain ⟨ps, h1, h2, h3⟩ := shA_of n xs (by simpa [shD] using h)
    exact ⟨_, by rw [D.py, h1]; rfl, by simpa [PyData.canLay0] using h2, by simp only [PyData.depth]; omega⟩
  | n, .obj _ _ _, h => by simp [shD] at h
  | n, .scr _, h => by simp [shD] at h
  | n, .dict _ _, h => by simp [shD] at h
  | n, .dct _ _, h => by simp [shD] at h
  | n, .rng _ _, h => by simp [shD] at h
theorem shA_of : ∀ (n : Nat) (ds : List D), shA n ds = true → ∃ ps, pyA ds = some ps ∧ PyData.canLayAll0 ps = true ∧ PyData.depthAll ps ≤ n
  | n, [], _ => ⟨[], rfl, by simp [PyData.canLayAll0], by simp [PyData.depthAll]⟩
  | n, d :: ds, h => by
    simp only [shA, Bool.and_eq_true] at h
    obtain ⟨p, h1, h2, h3⟩ := shD_of n d h.1
    obtain ⟨ps, h4, h5, h6⟩ := shA_of n ds h.2
    refine ⟨p :: ps, by rw [pyA, h1, h4]; rfl, by simp [PyData.canLayAll0, h2, h5], ?_⟩
    simp only [PyData.depthAll]
    omega
end
mutual
theorem eqv_refl : ∀ p : PyData, p.canLay0 = true → PyData.eqv p p = true
  | .none, _ => rfl
  | .bool b, _ => by simp [PyData.eqv]
  | .int i, _ => by simp [PyData.eqv]
  | .str s, _ => by simp [PyData.eqv]
  | .list xs, h => by simpa [PyData.eqv] using eqvAll_refl xs (by simpa [PyData.canLay0] using h)
  | .tuple xs, h => by simpa [PyData.eqv] using eqvAll_refl xs (by simpa [PyData.canLay0] using h)
  | .dict _, h => by simp [PyData.canLay0] at h
theorem eqvAll_refl : ∀ ps : List PyData, PyData.canLayAll0 ps = true → PyData.eqvAll ps ps = true
  | [], _ => rfl
  | p :: ps, h => by
    simp only [PyData.canLayAll0, Bool.and_eq_true] at h
    simp [PyData.eqvAll, eqv_refl p h.1, eqvAll_refl ps h.2]
end
theorem dEq_py {a b : D} {n m : Nat} (ha : shD n a = true) (hb : shD m b = true) (hn : n ≤ 64) (hm : m ≤ 64) : ∃ p q, D.py a = some p ∧ D.py b = some q ∧ dEq a b = some (.bool (PyData.eqv p q)) ∧ p.canLay0 = true ∧ q.canLay0 = true := by
  obtain ⟨p, h1, h2, h3⟩ := shD_of n a ha
  obtain ⟨q, h4, h5, h6⟩ := shD_of m b hb
  refine ⟨p, q, h1, h4, ?_, h2, h5⟩
  unfold dEq
  rw [h1, h4]
  dsimp only
  rw [if_pos]
  constructor <;> (unfold SeqAt.shaped; rw [Bool.and_eq_true]; exact ⟨by assumption, decide_eq_true (by omega)⟩)
theorem dEq_same {a : D} (h : shD 60 a = true) : dEq a a = some (.bool true) := by
  obtain ⟨p, q, h1, h2, h3, h4, _⟩ := dEq_py h h (by decide) (by decide)
  rw [h3]
  rw [h1] at h2
  cases h2
  rw [eqv_refl p h4]
theorem dNe_same {a : D} (h : shD 60 a = true) : dNe a a = some (.bool false) := by unfold dNe; rw [dEq_same h]; rfl
theorem dEq_int {a b : Int} : dEq (.int a) (.int b) = some (.bool (decide (a = b))) := by
  obtain ⟨p, q, h1, h2, h3, _⟩ := dEq_py (n := 0) (m := 0) (a := .int a) (b := .int b) rfl rfl (by decide) (by decide)
  rw [h3]
  cases h1; cases h2
  simp only [PyData.eqv]
  congr 2
theorem dNe_int {a b : Int} : dNe (.int a) (.int b) = some (.bool (!decide (a = b))) := by unfold dNe; rw [dEq_int]; rfl
theorem dEq_bool {a b : Bool} : dEq (.bool a) (.bool b) = some (.bool (a == b)) := by
  obtain ⟨p, q, h1, h2, h3, _⟩ := dEq_py (n := 0) (m := 0) (a := .bool a) (b := .bool b) rfl rfl (by decide) (by decide)
  rw [h3]
  cases h1; cases h2
  simp only [PyData.eqv]
theorem dNe_bool {a b : Bool} : dNe (.bool a) (.bool b) = some (.bool (!(a == b))) := by unfold dNe; rw [dEq_bool]; rfl
theorem dEq_str {a b : Str} (ha : PyData.strOk a = true) (hb : PyData.strOk b = true) : dEq (.str a) (.str b) = some (.bool (a == b)) := by
  obtain ⟨p, q, h1, h2, h3, _⟩ := dEq_py (n := 0) (m := 0) (a := .str a) (b := .str b) ha hb (by decide) (by decide)
  rw [h3]
  cases h1; cases h2
  simp only [PyData.eqv]
theorem e_ne_same {ρ : Sm.Env} {fa fb : Sm.Env → Sm.R D} {a : D} (ha : fa ρ = .ok a) (hb : fb ρ = .ok a) (h : shD 60 a = true) : x2 dNe fa fb ρ = .ok (.bool false) := e_2 ha hb (dNe_same h)
theorem e_eq_same {ρ : Sm.Env} {fa fb : Sm.Env → Sm.R D} {a : D} (ha : fa ρ = .ok a) (hb : fb ρ = .ok a) (h : shD 60 a = true) : x2 dEq fa fb ρ = .ok (.bool true) := e_2 ha hb (dEq_same h)
theorem shA_map {α : Type} {f : α → D} {n : Nat} : ∀ {xs : List α}, (∀ x ∈ xs, shD n (f x) = true) → shA n (xs.map f) = true
  | [], _ => rfl
  | x :: xs, h => by
    simp only [List.map_cons, shA, Bool.and_eq_true]
    exact ⟨h x (by simp), shA_map fun y hy => h y (by simp [hy])⟩
theorem shA_all {n : Nat} : ∀ {xs : List D}, (∀ x ∈ xs, shD n x = true) → shA n xs = true
  | [], _ => rfl
  | x :: xs, h => by
    simp only [shA, Bool.and_eq_true]
    exact ⟨h x (by simp), shA_all fun y hy => h y (by simp [hy])⟩
theorem shA_mem {n : Nat} : ∀ {xs : List D}, shA n xs = true → ∀ x ∈ xs, shD n x = true
  | [], _, x, hx => by cases hx
  | y :: xs, h, x, hx => by
    simp only [shA, Bool.and_eq_true] at h
    rcases List.mem_cons.mp hx with rfl | hx
    · exact h.1
    · exact shA_mem h.2 x hx
theorem tupA_map {α : Type} {f : α → D} : ∀ {xs : List α}, (∀ x ∈ xs, tupO (f x) = true) → tupA (xs.map f) = true
  | [], _ => rfl
  | x :: xs, h => by
    simp only [List.map_cons, tupA, Bool.and_eq_true]
    exact ⟨h x (by simp), tupA_map fun y hy => h y (by simp [hy])⟩
theorem tupA_ints (ns : List Int) : tupA (ns.map .int) = true := tupA_map fun _ _ => rfl
theorem shA_ints (n : Nat) (ns : List Int) : shA n (ns.map .int) = true := shA_map fun _ _ => by simp [shD]
theorem lowA_f (xs : List D) : lowA false xs = true := rfl
theorem lowA_t {w : Bool} {xs : List D} (h : tupA xs = true) : lowA w xs = true := by unfold lowA; rw [h]; simp
theorem ixN_of {n : Nat} {k : Int} (h0 : 0 ≤ k) (h1 : k < n) : L2.ixN n k = some k.toNat := by unfold L2.ixN; rw [if_pos h0, if_pos h1]
theorem atI_get {α : Type} {xs : List α} {k : Int} {x : α} (h0 : 0 ≤ k) (h : xs[k.toNat]? = some x) : L2.atI xs k = some x := by
  unfold L2.atI
  have hl := (List.getElem?_eq_some_iff.mp h).1
  rw [ixN_of h0 (by omega)]
  exact h
theorem atI_map {α : Type} {f : α → D} {xs : List α} {k : Int} {x : α} (h0 : 0 ≤ k) (h : xs[k.toNat]? = some x) : L2.atI (xs.map f) k = some (f x) := atI_get h0 (by rw [List.getElem?_map, h]; rfl)

def nth (ns : List Int) (k : Int) : Int := ns.getD k.toNat 0
theorem nth_get {ns : List Int} {k : Int} (h0 : 0 ≤ k) (h1 : k < ns.length) : ns[k.toNat]? = some (nth ns k) := by
  unfold nth
  rw [List.getD_eq_getElem?_getD, List.getElem?_eq_getElem (by omega)]
  rfl
theorem dIx_ints {ns : List Int} {k : Int} (h0 : 0 ≤ k) (h1 : k < ns.length) : dIx (.list (ns.map .int)) (.int k) = some (.int (nth ns k)) := atI_map h0 (nth_get h0 h1)
theorem dIx_intsT {ns : List Int} {k : Int} (h0 : 0 ≤ k) (h1 : k < ns.length) : dIx (.tup (ns.map .int)) (.int k) = some (.int (nth ns k)) := atI_map h0 (nth_get h0 h1)
theorem nth_mem {ns : List Int} {k : Int} (h0 : 0 ≤ k) (h1 : k < ns.length) : nth ns k ∈ ns := List.mem_of_getElem? (nth_get h0 h1)
theorem sIx_lo (n k : Nat) : HT.sIx n 0 (some (k : Int)) = min k n := HT.sIx_nat ..
theorem cutD_from {xs : List D} (k : Nat) : cutD xs (some (k : Int)) none = xs.drop k := by
  unfold cutD
  have h1 : HT.sIx xs.length 0 (some (k : Int)) = min k xs.length := HT.sIx_nat ..
  have h2 : HT.sIx xs.length xs.length none = xs.length := rfl
  rw [h1, h2]
  rcases Nat.le_total k xs.length with h | h
  · rw [Nat.min_eq_left h, List.take_of_length_le (by rw [List.length_drop]; omega)]
  · rw [Nat.min_eq_right h, List.drop_of_length_le (Nat.le_refl _), List.drop_of_length_le h, List.take_nil]
theorem cutD_upto {xs : List D} (k : Nat) : cutD xs none (some (k : Int)) = xs.take k := by
  unfold cutD
  have h1 : HT.sIx xs.length 0 none = 0 := rfl
  have h2 : HT.sIx xs.length xs.length (some (k : Int)) = min k xs.length := HT.sIx_nat ..
  rw [h1, h2, List.drop_zero, Nat.sub_zero]
  rcases Nat.le_total k xs.length with h | h
  · rw [Nat.min_eq_left h]
  · rw [Nat.min_eq_right h, List.take_length, List.take_of_length_le h]
theorem cutD_mid {xs : List D} (j k : Nat) : cutD xs (some (j : Int)) (some (k : Int)) = (xs.drop j).take (k - j) := by
  unfold cutD
  have h1 : HT.sIx xs.length 0 (some (j : Int)) = min j xs.length := HT.sIx_nat ..
  have h2 : HT.sIx xs.length xs.length (some (k : Int)) = min k xs.length := HT.sIx_nat ..
  rw [h1, h2]
  rcases Nat.le_total j xs.length with h | h
  · rw [Nat.min_eq_left h]
    rcases Nat.le_total k xs.length with h' | h'
    · rw [Nat.min_eq_left h']
    · rw [Nat.min_eq_right h', List.take_of_length_le (by rw [List.length_drop]; omega), List.take_of_length_le (by rw [List.length_drop]; omega)]
  · rw [Nat.min_eq_right h, List.drop_of_length_le (Nat.le_refl _), List.drop_of_length_le h, List.take_nil, List.take_nil]
theorem dMod_ok {a b : Int} (h : 0 < b) : dMod (.int a) (.int b) = some (.int (a % b)) := by unfold dMod; dsimp only; rw [if_pos h]
theorem dDiv_ok {a b : Int} (h : 0 < b ∧ b < 1073741824) : dDiv (.int a) (.int b) = some (.int (a / b)) := by unfold dDiv; dsimp only; rw [if_pos h]
theorem dMul_ok {a b : Int} (h : (-18446744073709551616 < a ∧ a < 18446744073709551616) ∨ (-18446744073709551616 < b ∧ b < 18446744073709551616)) : dMulU (.int a) (.int b) = some (.int (a * b)) := by unfold dMulU; dsimp only; rw [if_pos h]
theorem dPow_ok {a b : Int} (h : 0 ≤ b ∧ b ≤ 1000000 ∧ a.natAbs < 18446744073709551616) : dPow (.int a) (.int b) = some (.int (a ^ b.toNat)) := by unfold dPow; dsimp only; rw [if_pos h]
theorem dAdd_tupX {a b : List D} (h : a.length + b.length ≤ 16000000) : dAddU (.tup a) (.tup b) = some (.tup (a ++ b)) := by unfold dAddU; dsimp only; rw [if_pos h]
theorem dAdd_tup {a b : List D} (h : a.length + b.length ≤ 1000000) : dAddU (.tup a) (.tup b) = some (.tup (a ++ b)) := dAdd_tupX (by omega)
theorem dAdd_list {a b : List D} (h : a.length + b.length ≤ 1000000) : dAddU (.list a) (.list b) = some (.list (a ++ b)) := by unfold dAddU; dsimp only; rw [if_pos h]
theorem dMul_tup {xs : List D} {n : Int} (h : xs ≠ [] ∧ 2 ≤ n ∧ ((xs.length : Nat) : Int) * n ≤ 1000000) : dMulU (.tup xs) (.int n) = some (.tup (List.replicate n.toNat xs).flatten) := by unfold dMulU; dsimp only; rw [if_pos h]

def isI : D → Bool
  | .int _ => true
  | .bool _ => true
  | _ => false
def isB : D → Bool
  | .bool _ => true
  | _ => false
def isS : D → Bool
  | .str _ => true
  | _ => false
def isL : D → Bool
  | .list _ => true
  | _ => false
def isT : D → Bool
  | .tup _ => true
  | _ => false
def pln : D → Bool
  | .obj _ _ _ => false
  | .scr _ => false
  | .dict _ _ => false
  | .dct _ _ => false
  | .rng _ _ => false
  | _ => true
theorem isi_int {d : D} (h : pln d = true) : dIsi "int" d = some (.bool (isI d)) := by
  cases d <;> first | (simp [pln] at h; done) | skip
  · show (kitB "NoneType" "int").map D.bool = _; rw [show kitB "NoneType" "int" = some false by decide +kernel]; rfl
  · show (kitB "bool" "int").map D.bool = _; rw [show kitB "bool" "int" = some true by decide +kernel]; rfl
  · show (kitB "int" "int").map D.bool = _; rw [show kitB "int" "int" = some true by decide +kernel]; rfl
  · show (kitB "str" "int").map D.bool = _; rw [show kitB "str" "int" = some false by decide +kernel]; rfl
  · show (kitB "list" "int").map D.bool = _; rw [show kitB "list" "int" = some false by decide +kernel]; rfl
  · show (kitB "tuple" "int").map D.bool = _; rw [show kitB "tuple" "int" = some false by decide +kernel]; rfl
theorem isi_bool {d : D} (h : pln d = true) : dIsi "bool" d = some (.bool (isB d)) := by
  cases d <;> first | (simp [pln] at h; done) | skip
  · show (kitB "NoneType" "bool").map D.bool = _; rw [show kitB "NoneType" "bool" = some false by decide +kernel]; rfl
  · show (kitB "bool" "bool").map D.bool = _; rw [show kitB "bool" "bool" = some true by decide +kernel]; rfl
  · show (kitB "int" "bool").map D.bool = _; rw [show kitB "int" "bool" = some false by decide +kernel]; rfl
  · show (kitB "str" "bool").map D.bool = _; rw [show kitB "str" "bool" = some false by decide +kernel]; rfl
  · show (kitB "list" "bool").map D.bool = _; rw [show kitB "list" "bool" = some false by decide +kernel]; rfl
  · show (kitB "tuple" "bool").map D.bool = _; rw [show kitB "tuple" "bool" = some false by decide +kernel]; rfl
theorem isi_str {d : D} (h : pln d = true) : dIsi "str" d = some (.bool (isS d)) := by
  cases d <;> first | (simp [pln] at h; done) | skip
  · show (kitB "NoneType" "str").map D.bool = _; rw [show kitB "NoneType" "str" = some false by decide +kernel]; rfl
  · show (kitB "bool" "str").map D.bool = _; rw [show kitB "bool" "str" = some false by decide +kernel]; rfl
  · show (kitB "int" "str").map D.bool = _; rw [show kitB "int" "str" = some false by decide +kernel]; rfl
  · show (kitB "str" "str").map D.bool = _; rw [show kitB "str" "str" = some true by decide +kernel]; rfl
  · show (kitB "list" "str").map D.bool = _; rw [show kitB "list" "str" = some false by decide +kernel]; rfl
  · show (kitB "tuple" "str").map D.bool = _; rw [show kitB "tuple" "str" = some false by decide +kernel]; rfl
theorem isi_list {d : D} (h : pln d = true) : dIsi "list" d = some (.bool (isL d)) := by
  cases d <;> first | (simp [pln] at h; done) | skip
  · show (kitB "NoneType" "list").map D.bool = _; rw [show kitB "NoneType" "list" = some false by decide +kernel]; rfl
  · show (kitB "bool" "list").map D.bool = _; rw [show kitB "bool" "list" = some false by decide +kernel]; rfl
  · show (kitB "int" "list").map D.bool = _; rw [show kitB "int" "list" = some false by decide +kernel]; rfl
  · show (kitB "str" "list").map D.bool = _; rw [show kitB "str" "list" = some false by decide +kernel]; rfl
  · show (kitB "list" "list").map D.bool = _; rw [show kitB "list" "list" = some true by decide +kernel]; rfl
  · show (kitB "tuple" "list").map D.bool = _; rw [show kitB "tuple" "list" = some false by decide +kernel]; rfl
theorem isi_tuple {d : D} (h : pln d = true) : dIsi "tuple" d = some (.bool (isT d)) := by
  cases d <;> first | (simp [pln] at h; done) | skip
  · show (kitB "NoneType" "tuple").map D.bool = _; rw [show kitB "NoneType" "tuple" = some false by decide +kernel]; rfl
  · show (kitB "bool" "tuple").map D.bool = _; rw [show kitB "bool" "tuple" = some false by decide +kernel]; rfl
  · show (kitB "int" "tuple").map D.bool = _; rw [show kitB "int" "tuple" = some false by decide +kernel]; rfl
  · show (kitB "str" "tuple").map D.bool = _; rw [show kitB "str" "tuple" = some false by decide +kernel]; rfl
  · show (kitB "list" "tuple").map D.bool = _; rw [show kitB "list" "tuple" = some false by decide +kernel]; rfl
  · show (kitB "tuple" "tuple").map D.bool = _; rw [show kitB "tuple" "tuple" = some true by decide +kernel]; rfl
theorem bools_map {α : Type} {f : α → Bool} : ∀ xs : List α, boolsD (xs.map fun x => D.bool (f x)) = some (xs.map f)
  | [] => rfl
  | x :: xs => by simp [boolsD, bools_map xs]
theorem ints_map {α : Type} {f : α → Int} : ∀ xs : List α, intsD (xs.map fun x => D.int (f x)) = some (xs.map f)
  | [] => rfl
  | x :: xs => by simp [intsD, ints_map xs]
theorem intsD_int (ns : List Int) : intsD (ns.map D.int) = some ns := by
  have := ints_map (f := fun x : Int => x) ns
  simpa using this
theorem dAll_map {α : Type} {f : α → Bool} {xs : List α} : dAll (.list (xs.map fun x => D.bool (f x))) = some (.bool (xs.all f)) := by
  unfold dAll; dsimp only; rw [bools_map]; simp
theorem dAny_map {α : Type} {f : α → Bool} {xs : List α} : dAny (.list (xs.map fun x => D.bool (f x))) = some (.bool (xs.any f)) := by
  unfold dAny; dsimp only; rw [bools_map]; simp
theorem dSum_map {α : Type} {f : α → Int} {xs : List α} : dSum (.list (xs.map fun x => D.int (f x))) = some (.int (xs.map f).sum) := by
  unfold dSum; dsimp only; rw [ints_map]; simp
theorem dIn_of0 {a b d : D} (hb : ∀ ks vs, b ≠ .dict ks vs) (hb2 : ∀ ks vs, b ≠ .dct ks vs) (h : dIn0 a b = some d) : dIn a b = some d := by
  have : dIn a b = (match dIn0 a b with
    | some d => some d
    | none => dInD a b) := by
    cases b <;> first | rfl | exact absurd rfl (hb _ _) | exact absurd rfl (hb2 _ _)
  rw [this, h]
theorem py_sh {n : Nat} {a : D} (h : shD n a = true) (hn : n ≤ 60) : ∃ p, D.py a = some p ∧ p.canLay0 = true ∧ p.depth ≤ 60 := by
  obtain ⟨p, h1, h2, h3⟩ := shD_of n a h
  exact ⟨p, h1, h2, by omega⟩

theorem dIn_mem {a : D} {xs : List D} {n m : Nat} (hm : a ∈ xs) (ha : shD n a = true) (hn : n ≤ 60) (hxs : shA m xs = true) : dIn a (.tup xs) = some (.bool true) ∧ dIn a (.list xs) = some (.bool true) := by
  obtain ⟨p, h1, h2, h3⟩ := py_sh ha hn
  have key : ∀ b, (b = .tup xs ∨ b = .list xs) → dIn a b = some (.bool true) := fun b hb => by
    have hnd : ∀ ks vs, b ≠ .dict ks vs := by rcases hb with rfl | rfl <;> exact fun _ _ z => by cases z
    have hnj : ∀ ks vs, b ≠ .dct ks vs := by rcases hb with rfl | rfl <;> exact fun _ _ z => by cases z
    have it : itemsD b = some xs := by rcases hb with rfl | rfl <;> rfl
    by_cases hf : flatDD a = true ∧ xs.all flatDD = true
    · refine dIn_of0 hnd hnj ?_
      unfold dIn0
      rw [it]
      show (if flatDD a = true ∧ xs.all flatDD = true then some (D.bool (xs.any fun y => eqFlat y a)) else none) = _
      rw [if_pos hf]
      congr 2
      rw [List.any_eq_true]
      refine ⟨a, hm, ?_⟩
      unfold eqFlat
      rw [h1]
      exact eqv_refl p h2
    · have h0 : dIn0 a b = none := by
        unfold dIn0
        rw [it]
        show (if flatDD a = true ∧ xs.all flatDD = true then some (D.bool (xs.any fun y => eqFlat y a)) else none) = _
        rw [if_neg hf]
      have e : dIn a b = dInD a b := by
        have : dIn a b = (match dIn0 a b with
          | some d => some d
          | none => dInD a b) := by
          cases b <;> first | rfl | exact absurd rfl (hnd _ _) | exact absurd rfl (hnj _ _)
        rw [this, h0]
      rw [e, show dInD a b = deepIn a xs by rcases hb with rfl | rfl <;> rfl]
      obtain ⟨ps, q1, q2, q3⟩ := shA_of m xs hxs
      unfold deepIn
      rw [h1, q1]
      show (if (p.canLay0 && decide (p.depth ≤ 60) && PyData.canLayAll0 ps) = true then some (D.bool (ps.any fun q => PyData.eqv q p)) else none) = _
      rw [h2, q2, decide_eq_true h3, if_pos (by decide)]
      congr 2
      rw [List.any_eq_true]
      refine ⟨p, ?_, eqv_refl p h2⟩
      clear q2 q3 hf h0 e it hnd hb hxs
      induction xs generalizing ps with
      | nil => cases hm
      | cons x xs ih =>
        simp only [pyA] at q1
        obtain ⟨p', e1, q1⟩ := Option.bind_eq_some_iff.mp q1
        obtain ⟨ps', e2, rfl⟩ := Option.map_eq_some_iff.mp q1
        rcases List.mem_cons.mp hm with rfl | hm
        · rw [h1] at e1; cases e1; exact List.mem_cons_self
        · exact List.mem_cons_of_mem _ (ih hm ps' e2)
  exact ⟨key _ (.inl rfl), key _ (.inr rfl)⟩

section
variable {ρ : Sm.Env} {f fa fb : Sm.Env → Sm.R D} {G : Sm.Env → Sm.Out} {d x y : D} {xs ys : List D} {i j l n m : Nat} {k k2 : Int} {o : Sm.Out}
theorem s_appPop (hil : i ≠ l) (ei : ρ[i]? = some (.m ys)) (el : ρ[l]? = some (.m xs)) (h : f ρ = .ok (.int k)) (z : L2.ixN xs.length k = some n) (e : xs[n]? = some d) (b : k ≤ 1000000 ∧ -1000000 ≤ k ∧ ys.length < 1000000) : xAppPop i l f ρ = .nx ((ρ.set l (.m (xs.eraseIdx n))).set i (.m (ys ++ [d]))) := by
  unfold xAppPop
  rw [if_neg hil, ei, el]
  dsimp only
  unfold xOut
  rw [h]; dsimp only; rw [z]; dsimp only; rw [e]; dsimp only; rw [if_pos b]
theorem s_putV (e : ρ[i]? = some (.m xs)) (hj : fb ρ = .ok (.int k)) (z : L2.ixN xs.length k = some n) : xPutV i fb y ρ = .nx (ρ.set i (.m (xs.set n y))) := by
  unfold xPutV; rw [e]; unfold xOut; dsimp only; rw [hj]; dsimp only; rw [z]
theorem s_put2 (h : f ρ = .ok d) (hi : itemsD d = some [x, y]) (e1 : ρ[i]? = some (.m xs)) (ha : fa ρ = .ok (.int k)) (z1 : L2.ixN xs.length k = some n) (e2 : (ρ.set i (.m (xs.set n x)))[j]? = some (.m ys)) (hb : fb (ρ.set i (.m (xs.set n x))) = .ok (.int k2)) (z2 : L2.ixN ys.length k2 = some m) :
    xPut2 i fa j fb f ρ = .nx ((ρ.set i (.m (xs.set n x))).set j (.m (ys.set m y))) := by
  unfold xPut2 xOut
  rw [h]; dsimp only; rw [hi]; dsimp only
  unfold xSeq
  rw [s_putV e1 ha z1]
  exact s_putV e2 hb z2
theorem n_sort {ns : List Int} (h : f ρ = .ok (.list (ns.map .int))) : nSort f ρ = .ok ((srtI ns).map .int) := by
  unfold nSort
  rw [h]
  show R.of ((intsD (ns.map .int)).map fun ns => (srtI ns).map D.int) = _
  rw [intsD_int]; rfl
end

section
variable {ρ : Sm.Env} {f fa fb fk fv : Sm.Env → Sm.R D} {t : Sm.Env → Sm.R Bool} {F G : Sm.Env → Sm.Out} {d b kd vd : D} {xs ks vs : List D} {i : Nat} {n : NestedKey} {o : Sm.Out} {fn : Sm.Env → Sm.R (List D)}
theorem e_pk (h : ρ[i]? = some (.k ks vs)) : xP i ρ = .ok (.dict ks vs) := by unfold xP; rw [h]
theorem s_putK (e : ρ[i]? = some (.k ks vs)) (h : fv ρ = .ok vd) (hk : fk ρ = .ok kd) (en : keyD kd = some n) (z : ks.length < 1000000) : xPutK i fk fv ρ = .nx (ρ.set i (.k (putD ks vs n kd vd).1 (putD ks vs n kd vd).2)) := by
  unfold xPutK; rw [e]; unfold xOut; dsimp only; rw [h]; dsimp only; rw [hk]; dsimp only; rw [en]; dsimp only; rw [if_pos z]
theorem k_putK (e : ρ[i]? = some (.k ks vs)) (h : fv ρ = .ok vd) (hk : fk ρ = .ok kd) (en : keyD kd = some n) (z : ks.length < 1000000) (k : G (ρ.set i (.k (putD ks vs n kd vd).1 (putD ks vs n kd vd).2)) = o) : xSeq (xPutK i fk fv) G ρ = o := (q_nx (s_putK e h hk en z)).trans k
theorem k_setK (z : i < ρ.length) (k : G (ρ.set i (.k [] [])) = o) : xSeq (xSetK i) G ρ = o := (q_nx (by unfold xSetK; rw [if_pos z])).trans k
theorem e_ixK (e : ρ[i]? = some (.k ks vs)) (h : fb ρ = .ok kd) (en : keyD kd = some n) (l : lookD ks vs n = some d) : xIxK i fb ρ = .ok d := by
  unfold xIxK; rw [e]; dsimp only; rw [h]; show R.of ((keyD kd).bind (lookD ks vs)) = _; rw [en]; show R.of (lookD ks vs n) = _; rw [l]; rfl
theorem n_revL (h : fn ρ = .ok xs) : nRevL fn ρ = .ok xs.reverse := by unfold nRevL; rw [h]; rfl
theorem w_T {ρ' : Sm.Env} (h : t ρ = .ok true) (h2 : F ρ = .nx ρ') (k : xWhile t F ρ' = o) : xWhile t F ρ = o := by rw [xWhile_eq, h]; dsimp only; rw [h2]; exact k
theorem w_F (h : t ρ = .ok false) : xWhile t F ρ = .nx ρ := by rw [xWhile_eq, h]
theorem w_rt (h : t ρ = .ok true) (h2 : F ρ = .rt d) : xWhile t F ρ = .rt d := by rw [xWhile_eq, h]; dsimp only; rw [h2]
theorem w_bk {ρ' : Sm.Env} (h : t ρ = .ok true) (h2 : F ρ = .bk ρ') : xWhile t F ρ = .nx ρ' := by rw [xWhile_eq, h]; dsimp only; rw [h2]
theorem w_er {ρ' : Sm.Env} {c : Str} (h : t ρ = .ok true) (h2 : F ρ = .er c ρ') : xWhile t F ρ = .er c ρ' := by rw [xWhile_eq, h]; dsimp only; rw [h2]
end

section
variable {ρ : Sm.Env} {o : Sm.Out} {G : Sm.Env → Sm.Out} {f fa fb fk fv : Sm.Env → Sm.R D} {fn : Sm.Env → Sm.R (List D)} {ft : Sm.Env → Sm.R Tn} {gn : Sm.Env → Sm.R (List Tn)} {hh : Sm.Env → Sm.R (List Nat × Tn)} {i n : Nat} {d b : D} {t u c : Tn} {ts : List Tn} {ds : List D} {π : List Nat} {r : Bool}
theorem allF_map : ∀ ds : List D, allF (ds.map .f) = some ds
  | [] => rfl
  | d :: ds => by show (allF (ds.map .f)).map _ = _; rw [allF_map ds]; rfl
theorem t_N (h : fn ρ = .ok ds) : tOfN fn ρ = .ok (.l (ds.map .f)) := by unfold tOfN; rw [h]; rfl
theorem t_E (h : f ρ = .ok d) : tOfE f ρ = .ok (.f d) := by unfold tOfE; rw [h]; rfl
theorem t_K1 {k v : D} (hk : fk ρ = .ok k) (hv : fv ρ = .ok v) (z : (keyD k).isSome = true) : tK1 fk fv ρ = .ok (.k [k] [.f v]) := by unfold tK1; rw [hk]; show (fv ρ).bind _ = _; rw [hv]; show (if _ then _ else _) = _; rw [if_pos z]
theorem t_J {ks : List Key} (h : gn ρ = .ok ts) (z : ks.Nodup ∧ ks.length ≤ 15) : tDispJ ks gn ρ = .ok (.j ks ts) := by unfold tDispJ; rw [h]; show (if _ then _ else _) = _; rw [if_pos z]
theorem t_L (h : gn ρ = .ok ts) (z : ts.length ≤ 1000000) : tLstT gn ρ = .ok (.l ts) := by unfold tLstT; rw [h]; show (if _ then _ else _) = _; rw [if_pos z]
theorem na_nil : naNil ρ = .ok [] := rfl
theorem na_cons (h : ft ρ = .ok t) (h2 : gn ρ = .ok ts) : naCons ft gn ρ = .ok (t :: ts) := by unfold naCons; rw [h]; show (gn ρ).bind _ = _; rw [h2]; rfl
theorem s_parT {is : List Nat} {ks : List Kd} {ρ' : Sm.Env} (h : gn ρ = .ok ts) (e : setAllT is ks ts ρ = some ρ') : xParT is ks gn ρ = .nx ρ' := by unfold xParT; rw [h]; dsimp only; rw [e]
theorem k_parT {is : List Nat} {ks : List Kd} {ρ' : Sm.Env} (h : gn ρ = .ok ts) (e : setAllT is ks ts ρ = some ρ') (k : G ρ' = o) : xSeq (xParT is ks gn) G ρ = o := (q_nx (s_parT h e)).trans k
theorem s_setT (h : ft ρ = .ok t) (z : i < ρ.length) : xSetT i ft ρ = .nx (ρ.set i (.t false t)) := by unfold xSetT; rw [h]; dsimp only; rw [if_pos z]
theorem k_setT (h : ft ρ = .ok t) (z : i < ρ.length) (k : G (ρ.set i (.t false t)) = o) : xSeq (xSetT i ft) G ρ = o := (q_nx (s_setT h z)).trans k
theorem h_var (e : ρ[i]? = some (.t r t)) : hVar i ρ = .ok ([], t) := by unfold hVar; rw [e]
theorem h_ix (h : hh ρ = .ok (π, u)) (hb : fb ρ = .ok b) (e : ixT u b = some n) (k : u.kids[n]? = some c) : hIx hh fb ρ = .ok (π ++ [n], c) := by unfold hIx; rw [h]; show (fb ρ).bind _ = _; rw [hb]; show hKid (π, u) (ixT u b) = _; rw [e]; unfold hKid; dsimp only; rw [k]
theorem e_tr (h : hh ρ = .ok (π, u)) (e : u.D = some d) : xTr hh ρ = .ok d := by unfold xTr; rw [h]; show R.of u.D = _; rw [e]; rfl
theorem e_trF (h : hh ρ = .ok (π, .f d)) : xTrF hh ρ = .ok d := by unfold xTrF; rw [h]; rfl
theorem e_lT (h : hh ρ = .ok (π, .l (ds.map .f))) : lT hh ρ = .ok ds := by unfold lT; rw [h]; show R.of (allF (ds.map .f)) = _; rw [allF_map]; rfl
theorem r_T (h : hh ρ = .ok (π, .l (ds.map .f))) : srcT hh ρ = .ok (sD ds) := by unfold srcT; rw [e_lT h]; rfl
theorem s_tApp (h : hh ρ = .ok (π, .l ts)) (hf : f ρ = .ok d) (z : ts.length < 1000000) (e : ρ[i]? = some (.t r t)) : xTApp i hh f ρ = .nx (ρ.set i (.t r (t.put π (.l (ts ++ [.f d]))))) := by
  unfold xTApp xOutH; rw [h]; dsimp only; unfold xOut; rw [hf]; dsimp only; rw [if_pos z]; unfold tPut; rw [e]
theorem k_tApp (h : hh ρ = .ok (π, .l ts)) (hf : f ρ = .ok d) (z : ts.length < 1000000) (e : ρ[i]? = some (.t r t)) (k : G (ρ.set i (.t r (t.put π (.l (ts ++ [.f d]))))) = o) : xSeq (xTApp i hh f) G ρ = o := (q_nx (s_tApp h hf z e)).trans k
theorem s_tPop (h : hh ρ = .ok (π, .l ts)) (z : ts.isEmpty = false) (e : ρ[i]? = some (.t r t)) : xTPop i hh ρ = .nx (ρ.set i (.t r (t.put π (.l (ts.eraseIdx (ts.length - 1)))))) := by
  unfold xTPop xOutH; rw [h]; dsimp only; rw [if_pos z]; unfold tPut; rw [e]
end
end Sm
local macro_rules | `(tactic| walk_at "xc") => `(tactic| fail)
local macro_rules | `(tactic| walk_at "xcn") => `(tactic| fail)
local macro_rules | `(tactic| walk_at "side") => `(tactic| first | rfl | omega | decide | assumption | (simp; done) | (simp [*]; done))
local macro_rules | `(tactic| walk_at "xv1") => `(tactic| first
  | with_reducible exact Sm.e_c
  | with_reducible exact Sm.a_nil
  | with_reducible exact Sm.p_nil
  | with_reducible exact Sm.o_no
  | (intro h_)
  | ((with_reducible apply Sm.e_f); (focus rfl))
  | ((with_reducible apply Sm.e_a); (focus rfl))
  | ((with_reducible apply Sm.e_pd); (focus rfl))
  | ((with_reducible apply Sm.e_pa); (focus rfl))
  | ((with_reducible apply Sm.e_pm); (focus rfl))
  | ((with_reducible apply Sm.e_po); (focus rfl))
  | ((with_reducible apply Sm.e_lm); (focus rfl))
  | ((with_reducible apply Sm.e_ld); (focus rfl))
  | with_reducible apply Sm.a_cons
  | with_reducible apply Sm.p_e
  | with_reducible apply Sm.p_n
  | with_reducible apply Sm.o_so
  | with_reducible apply Sm.y_T
  | with_reducible apply Sm.y_tru
  | with_reducible apply Sm.y_not
  | with_reducible apply Sm.y_and
  | with_reducible apply Sm.y_or
  | with_reducible apply Sm.e_and
  | with_reducible apply Sm.e_or
  | with_reducible apply Sm.e_if
  | with_reducible apply Sm.e_chain
  | with_reducible apply Sm.e_1
  | with_reducible apply Sm.e_2
  | with_reducible apply Sm.e_low
  | with_reducible apply Sm.e_L
  | with_reducible apply Sm.e_lE
  | with_reducible apply Sm.n_lst
  | with_reducible apply Sm.e_tup
  | with_reducible apply Sm.e_tupL
  | with_reducible apply Sm.e_tuple
  | with_reducible apply Sm.n_list
  | with_reducible apply Sm.n_rg
  | with_reducible apply Sm.e_tupRg
  | with_reducible apply Sm.n_slL
  | with_reducible apply Sm.e_ixL
  | with_reducible apply Sm.n_addL
  | with_reducible apply Sm.n_mulL)
local macro_rules | `(tactic| walk_at "xv1") => `(tactic| first
  | ((with_reducible apply Sm.e_call); (focus (walk_at "xv"; done)); (focus (walk_at "xc"; done)))
  | ((with_reducible apply Sm.e_callN); (focus (walk_at "xv"; done)); (focus (walk_at "xcn"; done)))
  | ((with_reducible apply Sm.n_call); (focus (walk_at "xv"; done)); (focus (walk_at "xcn"; done)))
  | ((with_reducible apply Sm.e_meth); (focus (walk_at "xv"; done)); (focus (first | rfl | decide)); (focus (walk_at "xv"; done)); (focus (walk_at "xc"; done)))
  | ((with_reducible apply Sm.e_methN); (focus (walk_at "xv"; done)); (focus (first | rfl | decide)); (focus (walk_at "xv"; done)); (focus (walk_at "xcn"; done)))
  | ((with_reducible apply Sm.n_meth); (focus (walk_at "xv"; done)); (focus (first | rfl | decide)); (focus (walk_at "xv"; done)); (focus (walk_at "xcn"; done))))
local macro_rules | `(tactic| walk_at "xv1") => `(tactic| first
  | with_reducible exact Sm.dEq_int
  | with_reducible exact Sm.dNe_int
  | with_reducible exact Sm.dEq_bool
  | with_reducible exact Sm.dNe_bool
  | with_reducible apply Sm.dIx_ints
  | with_reducible apply Sm.dIx_intsT
  | with_reducible apply Sm.dMod_ok
  | with_reducible apply Sm.dDiv_ok
  | with_reducible apply Sm.dMul_ok
  | with_reducible apply Sm.dPow_ok
  | with_reducible apply Sm.dAdd_tup
  | with_reducible apply Sm.dAdd_list
  | with_reducible apply Sm.isi_int
  | with_reducible apply Sm.isi_bool
  | with_reducible apply Sm.isi_str
  | with_reducible apply Sm.isi_list
  | with_reducible apply Sm.isi_tuple
  | (show (_ : Option _) = some _; with_unfolding_all rfl)
  | (show (_ : Bool) = _; rfl)
  | (show _ ≤ _; first | omega | decide | (simp; omega))
  | (show _ < _; first | omega | decide | (simp; omega))
  | (show _ ∧ _; first | omega | decide)
  | (show _ ∨ _; first | omega | decide)
  | assumption)
local macro_rules | `(tactic| walk_at "xv") => `(tactic| repeat' (walk_at "xv1"))
local macro_rules | `(tactic| walk_at "env") => `(tactic| dsimp only [List.set_cons_zero, List.set_cons_succ, Sm.setAll])
local macro_rules | `(tactic| walk_at "len") => `(tactic| first | decide | omega | (simp; done) | (simp; omega))
local macro_rules | `(tactic| walk_at "q") => `(tactic| first
  | ((with_reducible apply Sm.k_set); (focus (walk_at "xv"; done)); walk_at "env")
  | ((with_reducible apply Sm.k_setN); (focus (walk_at "xv"; done)); (focus (walk_at "len")); walk_at "env")
  | ((with_reducible apply Sm.k_setA); (focus (walk_at "xv"; done)); walk_at "env")
  | ((with_reducible apply Sm.k_par); (focus (walk_at "xv"; done)); (focus (exact ⟨rfl, rfl⟩)); walk_at "env")
  | ((with_reducible apply Sm.k_app); (focus rfl); (focus (walk_at "xv"; done)); (focus (walk_at "len")); walk_at "env")
  | ((with_reducible apply Sm.k_appGo); (focus (walk_at "xv"; done)); (focus (walk_at "len")); (focus (walk_at "xv"; done)))
  | ((with_reducible apply Sm.k_fld); (focus (walk_at "xv"; done)); (focus rfl); (focus (exact ⟨by decide +kernel, by decide⟩)); walk_at "env")
  | ((with_reducible apply Sm.k_un); (focus (walk_at "xv"; done)); (focus rfl))
  | ((with_reducible apply Sm.k_unA); (focus (walk_at "xv"; done)); (focus rfl)))
namespace Lawk37
open PySem Sm
noncomputable def F__law_draws : Sm.Env → Sm.Out :=
  (xSeq (xSetN 2 (nLst aNil))
      (xSeq (xSet 3 (xC (.int 7)))
      (xSeq (xFor (srcF (xOrE (xL (nSl true (xA 0) oNo (oSo (xC (.int 63))))) (xLow (xSl (xA 0) oNo (oSo (xC (.int 63))))))) (bName 4)
      (xSeq (xSet 5 (x1 dAbs (xF 4)))
      (xSeq (xSet 3 (x2 dMod (x1 dInt (x2 dAddU (x2 dAddU (x2 dMulU (xF 3) (xC (.int 48271))) (xF 5)) (xC (.int 11)))) (xC (.int 2147483647))))
      (xIfS (yT (x2 dGe (xF 5) (x2 dPow (xC (.int 10)) (xC (.int 18)))))
      (xFor (srcRg (xC (.int 0)) (xC (.int 60))) (bName 6)
      (xIfS (yT (x2 dGt (xF 5) (xC (.int 0))))
      (xSeq (xOnM 2 (x2 dMod (x1 dInt (xF 5)) (xC (.int 1009))) gApp)
      (xSet 5 (x2 dDiv (xF 5) (xC (.int 1009)))))
      xNext))
      (xOnM 2 (x2 dMod (x2 dDiv (x1 dInt (x2 dAddU (x2 dMulU (xF 3) (xC (.int 16807))) (xC (.int 5)))) (xC (.int 3))) (xC (.int 65521))) gApp)))))
      (xSeq (xFor (srcRg (xC (.int 0)) (xA 1)) (bName 6)
      (xIfS (yT (x2 dLtU (x1 dLen (xP 2)) (xA 1)))
      (xSeq (xSet 3 (x2 dMod (x1 dInt (x2 dAddU (x2 dAddU (x2 dMulU (xF 3) (xC (.int 69621))) (xF 6)) (xC (.int 1)))) (xC (.int 2147483647))))
      (xOnM 2 (x2 dMod (x2 dDiv (x1 dInt (xF 3)) (xC (.int 7))) (xC (.int 65521))) gApp))
      xNext))
      (xRetN (nSlL (lM 2) oNo (oSo (xA 1))))))))
noncomputable def g__law_draws : List Sm.D → Sm.Rz := fun ds => zOut (F__law_draws (env0 7 [false, false] ds))
noncomputable def F_Pair___init__ : Sm.Env → Sm.Out :=
  (xSeq (xIfS (yT (x2 dNe (x1 (dFld ["Book", "Pair"] "letters") (xF 1)) (x1 (dFld ["Book", "Pair"] "letters") (xF 2))))
      (xRaise "BadBook")
      xNext)
      (xSeq (xFldS 0 "Pair" "first" (xF 1))
      (xSeq (xFldS 0 "Pair" "second" (xF 2))
      (xFldS 0 "Pair" "letters" (x1 (dFld ["Book", "Pair"] "letters") (xF 1))))))
noncomputable def g_Pair___init__ : List Sm.D → Sm.Rz := fun ds => zInit (F_Pair___init__ (env0I "Pair" 3 [true, true] ds))
noncomputable def F_is_number : Sm.Env → Sm.Out :=
  (xRet (xAnd (x1 (dIsi "int") (xA 0)) (xAnd (x1 dNot (x1 (dIsi "bool") (xA 0))) (xChain dLe dLe (xA 1) (xA 0) (xA 2)))))
noncomputable def g_is_number : List Sm.D → Sm.Rz := fun ds => zOut (F_is_number (env0 3 [false, false, false] ds))
noncomputable def F_are_letters : Sm.Env → Sm.Out :=
  (xRet (xAnd (x1 (dIsi "tuple") (xA 0)) (x1 dAll (xL (nLc (srcV (xA 0)) [2] (bName 2) yYes (xCall g_is_number (aCons (xA 2) (aCons (xC (.int 0)) (aCons (x2 dSub (xA 1) (xC (.int 1))) aNil)))))))))
noncomputable def g_are_letters : List Sm.D → Sm.Rz := fun ds => zOut (F_are_letters (env0 3 [false, false] ds))
noncomputable def F_is_word : Sm.Env → Sm.Out :=
  (xRet (xAnd (xCall g_are_letters (aCons (xA 0) (aCons (xA 1) aNil))) (xChain dLe dLe (xC (.int 1)) (x1 dLen (xA 0)) (xC (.int 5000)))))
noncomputable def g_is_word : List Sm.D → Sm.Rz := fun ds => zOut (F_is_word (env0 2 [false, false] ds))
noncomputable def F_Book___init__ : Sm.Env → Sm.Out :=
  (xSeq (xIfS (yOr (yNot (yTru (xCall g_is_number (aCons (xA 1) (aCons (xC (.int 0)) (aCons (xC (.int 60)) aNil)))))) (yOr (yNot (yTru (x1 (dIsi "list") (xA 2)))) (yT (x2 dGt (x1 dLen (xA 2)) (xC (.int 60))))))
      (xRaise "BadBook")
      xNext)
      (xSeq (xIfS (yNot (yTru (x1 dAll (xL (nLc (srcV (xA 2)) [3] (bName 3) yYes (xCall g_is_word (aCons (xA 3) (aCons (xA 1) aNil))))))))
      (xRaise "BadBook")
      xNext)
      (xSeq (xFldS 0 "Book" "letters" (xLow (xA 1)))
      (xSeq (xFldS 0 "Book" "size" (x1 dLen (xA 2)))
      (xFldS 0 "Book" "_words" (xL (nList true (xA 2))))))))
noncomputable def g_Book___init__ : List Sm.D → Sm.Rz := fun ds => zInit (F_Book___init__ (env0I "Book" 4 [false, false] ds))
noncomputable def F_Pair_is_even : Sm.Env → Sm.Out :=
  (xRet (x2 dEq (x1 (dFld ["Book"] "size") (x1 (dFld ["Pair"] "first") (xA 0))) (x1 (dFld ["Book"] "size") (x1 (dFld ["Pair"] "second") (xA 0)))))
noncomputable def g_Pair_is_even : List Sm.D → Sm.Rz := fun ds => zOut (F_Pair_is_even (env0 1 [false] ds))
noncomputable def F_check_even : Sm.Env → Sm.Out :=
  (xIfS (yNot (yTru (xMeth "Pair" "is_even" g_Pair_is_even (xA 0) aNil)))
      (xRaise "BadBook")
      xNext)
noncomputable def g_check_even : List Sm.D → Sm.Rz := fun ds => zOut (F_check_even (env0 1 [false] ds))
noncomputable def F__are_different : Sm.Env → Sm.Out :=
  (xRet (x2 dEq (x1 dLenSet (xA 0)) (x1 dLen (xA 0))))
noncomputable def g__are_different : List Sm.D → Sm.Rz := fun ds => zOut (F__are_different (env0 1 [false] ds))
noncomputable def F_Book_starts_apart : Sm.Env → Sm.Out :=
  (xRet (xCall g__are_different (aCons (xL (nLc (srcV (x1 (dFld ["Book"] "_words") (xA 0))) [1] (bName 1) yYes (xLow (x2 dIx (xA 1) (xC (.int 0)))))) aNil)))
noncomputable def g_Book_starts_apart : List Sm.D → Sm.Rz := fun ds => zOut (F_Book_starts_apart (env0 2 [false] ds))
noncomputable def F_Pair_is_apart : Sm.Env → Sm.Out :=
  (xRet (xAnd (xMeth "Book" "starts_apart" g_Book_starts_apart (x1 (dFld ["Pair"] "first") (xA 0)) aNil) (xMeth "Book" "starts_apart" g_Book_starts_apart (x1 (dFld ["Pair"] "second") (xA 0)) aNil)))
noncomputable def g_Pair_is_apart : List Sm.D → Sm.Rz := fun ds => zOut (F_Pair_is_apart (env0 1 [false] ds))
noncomputable def F_check_apart : Sm.Env → Sm.Out :=
  (xIfS (yNot (yTru (xMeth "Pair" "is_apart" g_Pair_is_apart (xA 0) aNil)))
      (xRaise "NotApart")
      xNext)
noncomputable def g_check_apart : List Sm.D → Sm.Rz := fun ds => zOut (F_check_apart (env0 1 [false] ds))
noncomputable def F_check_pair : Sm.Env → Sm.Out :=
  (xSeq (xDrop (xCall g_check_even (aCons (xA 0) aNil)))
      (xDrop (xCall g_check_apart (aCons (xA 0) aNil))))
noncomputable def g_check_pair : List Sm.D → Sm.Rz := fun ds => zOut (F_check_pair (env0 1 [false] ds))
noncomputable def F_lesser : Sm.Env → Sm.Out :=
  (xSeq (xDrop (xCall g_check_pair (aCons (xA 0) aNil)))
      xDead)
noncomputable def g_lesser : List Sm.D → Sm.Rz := fun ds => zOut (F_lesser (env0 7 [false] ds))
noncomputable def F_chain : Sm.Env → Sm.Out :=
  (xSeq (xDrop (xCall g_check_pair (aCons (xF 0) aNil)))
      xDead)
noncomputable def g_chain : List Sm.D → Sm.Rz := fun ds => zOut (F_chain (env0 3 [true] ds))
noncomputable def F_alike_letters : Sm.Env → Sm.Out :=
  (xSeq (xDrop (xCall g_check_pair (aCons (xA 0) aNil)))
      xDead)
noncomputable def g_alike_letters : List Sm.D → Sm.Rz := fun ds => zOut (F_alike_letters (env0 2 [false] ds))
noncomputable def F_Far___init__ : Sm.Env → Sm.Out :=
  (xSeq (xUn (bSeq 2 (bCons (bName 2) (bCons (bName 3) bNil))) (xCall g_chain (aCons (xF 1) aNil)))
      xDead)
noncomputable def g_Far___init__ : List Sm.D → Sm.Rz := fun ds => zInit (F_Far___init__ (env0I "Far" 14 [true] ds))
noncomputable def F_primes : Sm.Env → Sm.Out :=
  (xSeq (xSet 1 (xCall g_Far___init__ (aCons (xF 0) aNil)))
      xDead)
noncomputable def g_primes : List Sm.D → Sm.Rz := fun ds => zOut (F_primes (env0 3 [true] ds))
noncomputable def F_Counts___init__ : Sm.Env → Sm.Out :=
  (xSeq (xFldS 0 "Counts" "far" (xCall g_Far___init__ (aCons (xF 1) aNil)))
      xDead)
noncomputable def g_Counts___init__ : List Sm.D → Sm.Rz := fun ds => zInit (F_Counts___init__ (env0I "Counts" 3 [true] ds))
noncomputable def F_prime_lengths : Sm.Env → Sm.Out :=
  (xSeq (xSet 1 (x1 (dFld ["Counts"] "lengths") (xCall g_Counts___init__ (aCons (xF 0) aNil))))
      xDead)
noncomputable def g_prime_lengths : List Sm.D → Sm.Rz := fun ds => zOut (F_prime_lengths (env0 3 [true] ds))
noncomputable def F_least : Sm.Env → Sm.Out :=
  (xSeq (xSet 1 (xCall g_Counts___init__ (aCons (xF 0) aNil)))
      xDead)
noncomputable def g_least : List Sm.D → Sm.Rz := fun ds => zOut (F_least (env0 3 [true] ds))
noncomputable def F_between : Sm.Env → Sm.Out :=
  (xSeq (xSet 3 (xCall g_Counts___init__ (aCons (xF 0) aNil)))
      xDead)
noncomputable def g_between : List Sm.D → Sm.Rz := fun ds => zOut (F_between (env0 6 [true, false, false] ds))
noncomputable def F_in_primes : Sm.Env → Sm.Out :=
  (xSeq (xUn (bSeq 2 (bCons (bName 2) (bCons (bName 3) bNil))) (xCall g_chain (aCons (xF 0) aNil)))
      xDead)
noncomputable def g_in_primes : List Sm.D → Sm.Rz := fun ds => zOut (F_in_primes (env0 8 [true, false] ds))
noncomputable def F_row_made : Sm.Env → Sm.Out :=
  (xSeq (xSet 2 (xCall g_Far___init__ (aCons (xF 0) aNil)))
      xDead)
noncomputable def g_row_made : List Sm.D → Sm.Rz := fun ds => zOut (F_row_made (env0 5 [true, false] ds))
noncomputable def F_Book_length : Sm.Env → Sm.Out :=
  (xSeq (xIfS (yNot (yTru (xCall g_are_letters (aCons (xA 1) (aCons (x1 (dFld ["Book"] "size") (xA 0)) aNil)))))
      (xRaise "BadRow")
      xNext)
      (xRet (x1 dSum (xL (nLc (srcV (xA 1)) [2] (bName 2) yYes (x1 dLen (x2 dIx (x1 (dFld ["Book"] "_words") (xA 0)) (xA 2))))))))
noncomputable def g_Book_length : List Sm.D → Sm.Rz := fun ds => zOut (F_Book_length (env0 3 [false, false] ds))
noncomputable def F_Book_read : Sm.Env → Sm.Out :=
  (xSeq (xIfS (yT (x2 dGt (xMeth "Book" "length" g_Book_length (xA 0) (aCons (xA 1) aNil)) (xC (.int 100000))))
      (xRaise "TooLong")
      xNext)
      (xSeq (xSetN 2 (nLst aNil))
      (xSeq (xFor (srcV (xA 1)) (bName 3)
      (xOnM 2 (xLow (x2 dIx (x1 (dFld ["Book"] "_words") (xA 0)) (xA 3))) gExt))
      (xRet (xTupL (lM 2))))))
noncomputable def g_Book_read : List Sm.D → Sm.Rz := fun ds => zOut (F_Book_read (env0 4 [false, false] ds))
noncomputable def F_is_alike : Sm.Env → Sm.Out :=
  (xSeq (xDrop (xCall g_check_even (aCons (xA 0) aNil)))
      (xRet (xAnd (x2 dEq (xMeth "Book" "read" g_Book_read (x1 (dFld ["Pair"] "first") (xA 0)) (aCons (xA 1) aNil)) (xMeth "Book" "read" g_Book_read (x1 (dFld ["Pair"] "second") (xA 0)) (aCons (xA 1) aNil))) (x2 dGt (x1 dLen (xA 1)) (xC (.int 0))))))
noncomputable def g_is_alike : List Sm.D → Sm.Rz := fun ds => zOut (F_is_alike (env0 2 [false, false] ds))
noncomputable def F_counts : Sm.Env → Sm.Out :=
  (xSeq (xSet 2 (xCall g_Counts___init__ (aCons (xF 0) aNil)))
      xDead)
noncomputable def g_counts : List Sm.D → Sm.Rz := fun ds => zOut (F_counts (env0 4 [true, false] ds))
noncomputable def F_count_at : Sm.Env → Sm.Out :=
  (xSeq (xSet 2 (xCall g_Counts___init__ (aCons (xF 0) aNil)))
      xDead)
noncomputable def g_count_at : List Sm.D → Sm.Rz := fun ds => zOut (F_count_at (env0 9 [true, false] ds))
noncomputable def F_row_at : Sm.Env → Sm.Out :=
  (xSeq (xSet 2 (xCall g_Counts___init__ (aCons (xF 0) aNil)))
      xDead)
noncomputable def g_row_at : List Sm.D → Sm.Rz := fun ds => zOut (F_row_at (env0 7 [true, false] ds))
noncomputable def F_number_of : Sm.Env → Sm.Out :=
  (xSeq (xSet 2 (xCall g_Counts___init__ (aCons (xF 0) aNil)))
      xDead)
noncomputable def g_number_of : List Sm.D → Sm.Rz := fun ds => zOut (F_number_of (env0 3 [true, false] ds))
noncomputable def F__law_asked : Sm.Env → Sm.Out :=
  (xSeq (xIfS (yT (x2 dIn (xF 0) (xTup (aCons (xC (.str "lesser")) (aCons (xC (.str "chain")) (aCons (xC (.str "letters")) aNil))))))
      (xRet (xPick [g_lesser, g_chain, g_alike_letters] (xOnL gIdx (xL (nLst (aCons (xC (.str "lesser")) (aCons (xC (.str "chain")) (aCons (xC (.str "letters")) aNil))))) (xF 0)) (aCons (xF 1) aNil)))
      xNext)
      (xSeq (xIfS (yT (x2 dEq (xF 0) (xC (.str "far"))))
      (xRet (xCall g_Far___init__ (aCons (xF 1) aNil)))
      xNext)
      (xSeq (xIfS (yT (x2 dIn (xF 0) (xTup (aCons (xC (.str "primes")) (aCons (xC (.str "lengths")) (aCons (xC (.str "least")) aNil))))))
      (xRet (xPick [g_primes, g_prime_lengths, g_least] (xOnL gIdx (xL (nLst (aCons (xC (.str "primes")) (aCons (xC (.str "lengths")) (aCons (xC (.str "least")) aNil))))) (xF 0)) (aCons (xF 1) aNil)))
      xNext)
      (xSeq (xIfS (yT (x2 dEq (xF 0) (xC (.str "between"))))
      (xRet (xCall g_between (aCons (xF 1) (aCons (xF 2) (aCons (xF 2) aNil)))))
      xNext)
      (xSeq (xSet 3 (xL (nLst (aCons (xC (.str "in")) (aCons (xC (.str "made")) (aCons (xC (.str "alike")) (aCons (xC (.str "counts")) (aCons (xC (.str "count")) (aCons (xC (.str "row")) (aCons (xC (.str "number")) aNil))))))))))
      (xRet (xPick [g_in_primes, g_row_made, g_is_alike, g_counts, g_count_at, g_row_at, g_number_of] (xOnL gIdx (xF 3) (xF 0)) (aCons (xF 1) (aCons (xF 2) aNil)))))))))
noncomputable def g__law_asked : List Sm.D → Sm.Rz := fun ds => zOut (F__law_asked (env0 4 [true, true, true] ds))
noncomputable def F__law_told : Sm.Env → Sm.Out :=
  (xTry 3 ["BadBook", "BadNumber", "BadRow", "BadLetter", "NotApart", "TooLong"] (xRet (xCall g__law_asked (aCons (xF 0) (aCons (xF 1) (aCons (xF 2) aNil)))))
      (xSeq (xSet 4 (xL (nLst (aCons (xIsX 3 ["BadBook", "BadNumber", "BadRow", "BadLetter", "NotApart", "TooLong"] ["BadBook"]) (aCons (xIsX 3 ["BadBook", "BadNumber", "BadRow", "BadLetter", "NotApart", "TooLong"] ["NotApart"]) (aCons (xIsX 3 ["BadBook", "BadNumber", "BadRow", "BadLetter", "NotApart", "TooLong"] ["BadRow"]) (aCons (xIsX 3 ["BadBook", "BadNumber", "BadRow", "BadLetter", "NotApart", "TooLong"] ["BadNumber"]) (aCons (xIsX 3 ["BadBook", "BadNumber", "BadRow", "BadLetter", "NotApart", "TooLong"] ["TooLong"]) aNil))))))))
      (xRet (xTup (aCons (xC (.str "refused")) (aCons (xIf (yT (x2 dEq (xOnL gCnt (xF 4) (xC (.bool true))) (xC (.int 1)))) (xIxL (nLst (aCons (xC (.str "book")) (aCons (xC (.str "apart")) (aCons (xC (.str "row")) (aCons (xC (.str "number")) (aCons (xC (.str "long")) aNil)))))) (xOnL gIdx (xF 4) (xC (.bool true)))) (xC (.str "other"))) aNil))))))
noncomputable def g__law_told : List Sm.D → Sm.Rz := fun ds => zOut (F__law_told (env0 5 [true, true, true] ds))
noncomputable def F_Book_words : Sm.Env → Sm.Out :=
  (xRetN (nList true (x1 (dFld ["Book"] "_words") (xA 0))))
noncomputable def g_Book_words : List Sm.D → Sm.Rz := fun ds => zOut (F_Book_words (env0 1 [false] ds))
noncomputable def F_suffixes : Sm.Env → Sm.Out :=
  (xSeq (xSetK 1)
      (xSeq (xFor (srcF (xMeth "Book" "words" g_Book_words (xA 0) aNil)) (bName 2)
      (xFor (srcRg (xC (.int 1)) (x1 dLen (xF 2))) (bName 3)
      (xPutK 1 (xSl (xF 2) (oSo (xF 3)) oNo) (xC (.bool true)))))
      (xRet (x1 dLen (xP 1)))))
noncomputable def g_suffixes : List Sm.D → Sm.Rz := fun ds => zOut (F_suffixes (env0 4 [false] ds))
noncomputable def F_law : Sm.Env → Sm.Out :=
  (xSeq (xSet 1 (xCall g__law_draws (aCons (xA 0) (aCons (xC (.int 20)) aNil))))
      (xSeq (xSet 2 (x2 dAddU (xC (.int 2)) (x2 dMod (x1 dInt (x2 dIx (xF 1) (xC (.int 0)))) (xC (.int 5)))))
      (xSeq (xSet 4 (xL (nLc (srcRg (xC (.int 0)) (xF 2)) [3] (bName 3) yYes (x2 dMulU (xTup (aCons (xF 3) aNil)) (x2 dAddU (xC (.int 1)) (x2 dMod (x1 dInt (x2 dIx (xF 1) (x2 dAddU (xC (.int 1)) (xF 3)))) (xC (.int 3))))))))
      (xSeq (xSet 5 (xL (nAddL (lE (xSl (xF 4) oNo (oSo (x1 dNeg (xC (.int 1)))))) (nLst (aCons (x2 dAddU (xTup (aCons (xC (.int 0)) aNil)) (x2 dMulU (xTup (aCons (x2 dSub (xF 2) (xC (.int 1))) aNil)) (x2 dAddU (xC (.int 1)) (x2 dMod (x1 dInt (x2 dIx (xF 1) (xC (.int 8)))) (xC (.int 3)))))) aNil)))))
      (xSeq (xSet 6 (xL (nLst (aCons (xC (.str "lesser")) (aCons (xC (.str "chain")) (aCons (xC (.str "letters")) (aCons (xC (.str "primes")) (aCons (xC (.str "far")) (aCons (xC (.str "lengths")) (aCons (xC (.str "least")) (aCons (xC (.str "in")) (aCons (xC (.str "made")) (aCons (xC (.str "counts")) (aCons (xC (.str "count")) (aCons (xC (.str "row")) (aCons (xC (.str "number")) (aCons (xC (.str "between")) aNil)))))))))))))))))
      (xSeq (xSet 7 (xIxL (nLst (aCons (xSl (xF 4) (oSo (xC (.int 1))) oNo) (aCons (xSl (xF 5) (oSo (xC (.int 1))) oNo) (aCons (xL (nLst aNil)) aNil)))) (x2 dMod (x1 dInt (x2 dIx (xF 1) (xC (.int 9)))) (xC (.int 3)))))
      (xSeq (xFor (srcF (xL (nLst (aCons (xTup (aCons (xF 4) (aCons (xF 7) (aCons (xC (.str "book")) aNil)))) (aCons (xTup (aCons (xF 5) (aCons (xF 7) (aCons (xC (.str "book")) aNil)))) (aCons (xTup (aCons (xF 4) (aCons (xF 5) (aCons (xC (.str "apart")) aNil)))) (aCons (xTup (aCons (xF 5) (aCons (xF 4) (aCons (xC (.str "apart")) aNil)))) (aCons (xTup (aCons (xF 5) (aCons (xF 5) (aCons (xC (.str "apart")) aNil)))) aNil)))))))) (bSeq 3 (bCons (bName 8) (bCons (bName 9) (bCons (bName 10) bNil))))
      (xSeq (xSet 11 (xCall g_Pair___init__ (aCons (xCall g_Book___init__ (aCons (xF 2) (aCons (xF 8) aNil))) (aCons (xCall g_Book___init__ (aCons (xF 2) (aCons (xF 9) aNil))) aNil))))
      (xSeq (xFor (srcF (xF 6)) (bName 12)
      (xFor (srcF (xL (nLst (aCons (xC .none) (aCons (xTup aNil) (aCons (xTup (aCons (xC (.int 0)) aNil)) (aCons (xC (.int 0)) (aCons (x1 dNeg (xC (.int 1))) (aCons (xTup (aCons (xF 2) aNil)) aNil))))))))) (bName 13)
      (xIfS (yT (x2 dNe (xCall g__law_told (aCons (xF 12) (aCons (xF 11) (aCons (xF 13) aNil)))) (xTup (aCons (xC (.str "refused")) (aCons (xF 10) aNil)))))
      (xRet (xC (.bool false)))
      xNext)))
      (xIfS (yT (x2 dEq (xF 10) (xC (.str "book"))))
      (xIfS (yOr (yT (x2 dNe (xCall g__law_told (aCons (xC (.str "alike")) (aCons (xF 11) (aCons (xTup (aCons (xC (.int 0)) aNil)) aNil)))) (xTup (aCons (xC (.str "refused")) (aCons (xC (.str "book")) aNil))))) (yT (x2 dNe (xCall g__law_told (aCons (xC (.str "alike")) (aCons (xF 11) (aCons (xC .none) aNil)))) (xTup (aCons (xC (.str "refused")) (aCons (xC (.str "book")) aNil))))))
      (xRet (xC (.bool false)))
      xNext)
      (xIfS (yOr (yT (x2 dNe (xCall g__law_told (aCons (xC (.str "alike")) (aCons (xF 11) (aCons (xTup (aCons (xF 2) aNil)) aNil)))) (xTup (aCons (xC (.str "refused")) (aCons (xC (.str "row")) aNil))))) (yT (x1 (dNotB false) (xCall g__law_told (aCons (xC (.str "alike")) (aCons (xF 11) (aCons (xTup aNil) aNil)))))))
      (xRet (xC (.bool false)))
      (xIfS (yOr (yT (x2 dNe (xCall g__law_told (aCons (xC (.str "alike")) (aCons (xF 11) (aCons (xTup (aCons (xC (.int 0)) (aCons (xC (.int 0)) aNil))) aNil)))) (x2 dEq (x2 dIx (xF 8) (xC (.int 0))) (x2 dIx (xF 9) (xC (.int 0)))))) (yT (x2 dNe (xCall g__law_told (aCons (xC (.str "alike")) (aCons (xF 11) (aCons (xC .none) aNil)))) (xTup (aCons (xC (.str "refused")) (aCons (xC (.str "row")) aNil))))))
      (xRet (xC (.bool false)))
      xNext))))))
      (xSeq (xSetN 14 (nLst aNil))
      (xSeq (xFor (srcF (xF 5)) (bName 12)
      (xOnM 14 (xL (nLc (srcRg (xC (.int 1)) (x1 dLen (xF 12))) [15] (bName 15) yYes (xSl (xF 12) (oSo (xF 15)) oNo))) gExt))
      (xSeq (xIfS (yT (x2 dNe (xCall g_suffixes (aCons (xCall g_Book___init__ (aCons (xF 2) (aCons (xF 5) aNil))) aNil)) (x1 dLenT (xP 14))))
      (xRet (xC (.bool false)))
      xNext)
      (xSeq (xSet 16 (xCall g_Pair___init__ (aCons (xCall g_Book___init__ (aCons (xC (.int 1)) (aCons (xL (nLst (aCons (x2 dMulU (xTup (aCons (xC (.int 0)) aNil)) (xC (.int 50))) aNil))) aNil))) (aCons (xCall g_Book___init__ (aCons (xC (.int 1)) (aCons (xL (nLst (aCons (x2 dMulU (xTup (aCons (xC (.int 0)) aNil)) (x2 dAddU (xC (.int 49)) (x2 dMod (x1 dInt (x2 dIx (xF 1) (xC (.int 10)))) (xC (.int 3))))) aNil))) aNil))) aNil))))
      (xSeq (xIfS (yOr (yT (x2 dNe (xCall g__law_told (aCons (xC (.str "alike")) (aCons (xF 16) (aCons (x2 dMulU (xTup (aCons (xC (.int 0)) aNil)) (xC (.int 2001))) aNil)))) (xTup (aCons (xC (.str "refused")) (aCons (xC (.str "long")) aNil))))) (yT (x2 dNe (xCall g__law_told (aCons (xC (.str "alike")) (aCons (xF 16) (aCons (x2 dMulU (xTup (aCons (xC (.int 0)) aNil)) (xC (.int 2101))) aNil)))) (xTup (aCons (xC (.str "refused")) (aCons (xC (.str "long")) aNil))))))
      (xRet (xC (.bool false)))
      xNext)
      (xRet (xAnd (x2 dEq (xCall g__law_told (aCons (xC (.str "alike")) (aCons (xF 16) (aCons (x2 dMulU (xTup (aCons (xC (.int 0)) aNil)) (xC (.int 1900))) aNil)))) (x2 dEq (x2 dMod (x1 dInt (x2 dIx (xF 1) (xC (.int 10)))) (xC (.int 3))) (xC (.int 1)))) (x2 dEq (xCall g__law_told (aCons (xC (.str "alike")) (aCons (xF 16) (aCons (x2 dMulU (xTup (aCons (xC (.int 1)) aNil)) (xC (.int 2101))) aNil)))) (xTup (aCons (xC (.str "refused")) (aCons (xC (.str "row")) aNil))))))))))))))))))
end Lawk37
namespace Lawk37
open PySem Sm

def okDr (ds : List Int) : Prop := ∀ x ∈ ds, 0 ≤ x ∧ x < 65521
theorem okDr.app {ds : List Int} {x : Int} (h : okDr ds) (h0 : 0 ≤ x) (h1 : x < 65521) : okDr (ds ++ [x]) := fun y hy => by
  rcases List.mem_append.mp hy with hy | hy
  · exact h y hy
  · rw [List.mem_singleton] at hy
    subst hy
    exact ⟨h0, h1⟩
theorem map_app1 (ds : List Int) (x : Int) : ds.map D.int ++ [D.int x] = (ds ++ [x]).map D.int := by simp
theorem cut63 (ns : List Int) : ∃ ms : List Int, cutD (ns.map D.int) none (some 63) = ms.map D.int ∧ ms.length ≤ 63 := by
  refine ⟨(ns.drop (HT.sIx (ns.map D.int).length 0 none)).take (HT.sIx (ns.map D.int).length (ns.map D.int).length (some 63) - HT.sIx (ns.map D.int).length 0 none), ?_, ?_⟩
  · unfold cutD
    rw [← List.map_drop, ← List.map_take]
  · rw [List.length_take]
    have h1 : HT.sIx (ns.map D.int).length 0 none = 0 := rfl
    have h2 : HT.sIx (ns.map D.int).length (ns.map D.int).length (some (63 : Int)) ≤ 63 := by
      rw [show (63 : Int) = ((63 : Nat) : Int) from rfl, HT.sIx_nat]
      exact Nat.min_le_left _ _
    omega
theorem cut_to {α : Type} (f : α → D) (ds : List α) (m : Nat) : cutD (ds.map f) none (some (m : Int)) = (ds.take m).map f := by
  unfold cutD
  have h1 : HT.sIx (ds.map f).length 0 none = 0 := rfl
  have h2 : HT.sIx (ds.map f).length (ds.map f).length (some (m : Int)) = min m (ds.map f).length := by rw [HT.sIx_nat]
  rw [h1, h2, List.drop_zero, Nat.sub_zero, ← List.map_take]
  congr 1
  rw [List.length_map]
  rcases Nat.le_total m ds.length with h | h
  · rw [Nat.min_eq_left h]
  · rw [Nat.min_eq_right h, List.take_length, List.take_of_length_le h]
theorem draws_ok (ns : List Int) (m : Int) (h0 : 0 ≤ m) (h1 : m ≤ 5000) : ∃ ds : List Int, g__law_draws [.scr ns, .int m] = .nw (ds.map .int) ∧ ds.length = m.toNat ∧ okDr ds := by
  suffices h : ∃ ds' : List Int, ds'.length = m.toNat ∧ okDr ds' ∧ F__law_draws [.a (.scr ns), .a (.int m), .no, .no, .no, .no, .no] = .rn (ds'.map .int) by
    obtain ⟨ds', h2, h3, h4⟩ := h
    refine ⟨ds', ?_, h2, h3⟩
    show zOut (F__law_draws [.a (.scr ns), .a (.int m), .no, .no, .no, .no, .no]) = _
    rw [h4]
    rfl
  unfold F__law_draws
  obtain ⟨ms, hms, hml⟩ := cut63 ns
  have main : ∀ (ds : List Int) (o3 o4 o5 o6 : Sv) (seed : Int), o3 = .d (.int seed) → okDr ds → ds.length ≤ 3780 → 0 ≤ seed → seed < 2147483647 → ∃ ds' : List Int, ds'.length = m.toNat ∧ okDr ds' ∧
      xSeq (xFor (srcRg (xC (.int 0)) (xA 1)) (bName 6)
      (xIfS (yT (x2 dLtU (x1 dLen (xP 2)) (xA 1)))
      (xSeq (xSet 3 (x2 dMod (x1 dInt (x2 dAddU (x2 dAddU (x2 dMulU (xF 3) (xC (.int 69621))) (xF 6)) (xC (.int 1)))) (xC (.int 2147483647))))
      (xOnM 2 (x2 dMod (x2 dDiv (x1 dInt (xF 3)) (xC (.int 7))) (xC (.int 65521))) gApp))
      xNext))
      (xRetN (nSlL (lM 2) oNo (oSo (xA 1)))) [.a (.scr ns), .a (.int m), .m (ds.map .int), o3, o4, o5, o6] = .rn (ds'.map .int) := by
    rintro ds o3 o4 o5 o6 seed rfl hok hle s0 s1
    obtain ⟨ρ', h1, ds', seed', o6', rfl, hok', hle', hge', _, _⟩ := for_rg (F := xIfS (yT (x2 dLtU (x1 dLen (xP 2)) (xA 1)))
      (xSeq (xSet 3 (x2 dMod (x1 dInt (x2 dAddU (x2 dAddU (x2 dMulU (xF 3) (xC (.int 69621))) (xF 6)) (xC (.int 1)))) (xC (.int 2147483647))))
      (xOnM 2 (x2 dMod (x2 dDiv (x1 dInt (xF 3)) (xC (.int 7))) (xC (.int 65521))) gApp))
      xNext) (gg := bName 6) (fa := xC (.int 0)) (fb := xA 1) (ρ := [.a (.scr ns), .a (.int m), .m (ds.map .int), .d (.int seed), o4, o5, o6]) (k := 0) (l := m)
      (fun i ρ => ∃ (ds : List Int) (seed : Int) (o6 : Sv), ρ = [.a (.scr ns), .a (.int m), .m (ds.map .int), .d (.int seed), o4, o5, o6] ∧ okDr ds ∧ ds.length ≤ 10000 ∧ (i : Int) ≤ ds.length ∧ 0 ≤ seed ∧ seed < 2147483647)
      rfl rfl (by omega) ⟨ds, seed, o6, rfl, hok, by omega, by omega, s0, s1⟩ (by
        rintro i ρ hi ⟨ds, seed, o6, rfl, hok, hle, hge, s0, s1⟩
        refine ⟨[.a (.scr ns), .a (.int m), .m (ds.map .int), .d (.int seed), o4, o5, .d (.int (0 + (i : Int)))], ?_⟩
        by_cases hb : ((ds.length : Nat) : Int) < m
        · have w0 := Int.emod_nonneg (seed * 69621 + (0 + (i : Int)) + 1) (b := 2147483647) (by decide)
          have w1 := Int.emod_lt_of_pos (seed * 69621 + (0 + (i : Int)) + 1) (b := 2147483647) (by decide)
          refine ⟨_, rfl, .inl ((s_ifT ?_).trans ((q_set (d := .int ((seed * 69621 + (0 + (i : Int)) + 1) % 2147483647)) ?_).trans (s_app rfl (d := .int ((seed * 69621 + (0 + (i : Int)) + 1) % 2147483647 / 7 % 65521)) ?_ ?_))), ds ++ [(seed * 69621 + (0 + (i : Int)) + 1) % 2147483647 / 7 % 65521], (seed * 69621 + (0 + (i : Int)) + 1) % 2147483647, .d (.int (0 + (i : Int))), ?_, hok.app (Int.emod_nonneg _ (by decide)) (Int.emod_lt_of_pos _ (by decide)), ?_, ?_, w0, w1⟩
          · refine y_T (e_2 (e_1 (e_pm rfl) rfl) (e_a rfl) ?_)
            show some (D.bool (decide ((((ds.map D.int).length : Nat) : Int) < m))) = _
            rw [List.length_map, decide_eq_true hb]
          · walk_at "xv"
          · walk_at "xv"
          · rw [List.length_map]; omega
          · walk_at "env"
            rw [map_app1]
          · simp; omega
          · simp; omega
        · refine ⟨_, rfl, .inl (s_skip ?_), ds, seed, _, rfl, hok, hle, by omega, s0, s1⟩
          refine y_T (e_2 (e_1 (e_pm rfl) rfl) (e_a rfl) ?_)
          show some (D.bool (decide ((((ds.map D.int).length : Nat) : Int) < m))) = _
          rw [List.length_map, decide_eq_false hb])
    refine ⟨ds'.take m.toNat, ?_, fun x hx => hok' x (List.mem_of_mem_take hx), (q_nx h1).trans (s_retN ?_)⟩
    · rw [List.length_take]; omega
    · refine (n_slL (e_lm rfl) o_no (o_so (e_a rfl))).trans ?_
      rw [show (some m : Option Int) = some ((m.toNat : Nat) : Int) by congr 1; omega, cut_to]
  have src : ∀ ρ : Sm.Env, ρ[0]? = some (.a (.scr ns)) → srcF (xOrE (xL (nSl true (xA 0) oNo (oSo (xC (.int 63))))) (xLow (xSl (xA 0) oNo (oSo (xC (.int 63)))))) ρ = .ok (sD (ms.map .int)) := fun ρ h =>
    r_F (e_alt (e_L (n_sl (e_a h) o_no (o_so e_c) (by show some (D.list (cutD (ns.map D.int) none (some 63))) = _; rw [hms]) (lowA_t (tupA_ints ms))))) rfl
  obtain ⟨ρ', hr, ds, seed, o4, o5, o6, rfl, hok, hle, s0, s1⟩ := for_inv (gg := bName 4) (items := sD (ms.map .int))
    (fun i ρ => ∃ (ds : List Int) (seed : Int) (o4 o5 o6 : Sv), ρ = [.a (.scr ns), .a (.int m), .m (ds.map .int), .d (.int seed), o4, o5, o6] ∧ okDr ds ∧ ds.length ≤ 60 * i ∧ 0 ≤ seed ∧ seed < 2147483647)
    (src [.a (.scr ns), .a (.int m), .m [], .d (.int 7), .no, .no, .no] rfl) ⟨[], 7, .no, .no, .no, rfl, (fun _ z => by cases z), by simp, by omega, by omega⟩ (F := (xSeq (xSet 5 (x1 dAbs (xF 4)))
      (xSeq (xSet 3 (x2 dMod (x1 dInt (x2 dAddU (x2 dAddU (x2 dMulU (xF 3) (xC (.int 48271))) (xF 5)) (xC (.int 11)))) (xC (.int 2147483647))))
      (xIfS (yT (x2 dGe (xF 5) (x2 dPow (xC (.int 10)) (xC (.int 18)))))
      (xFor (srcRg (xC (.int 0)) (xC (.int 60))) (bName 6)
      (xIfS (yT (x2 dGt (xF 5) (xC (.int 0))))
      (xSeq (xOnM 2 (x2 dMod (x1 dInt (xF 5)) (xC (.int 1009))) gApp)
      (xSet 5 (x2 dDiv (xF 5) (xC (.int 1009)))))
      xNext))
      (xOnM 2 (x2 dMod (x2 dDiv (x1 dInt (x2 dAddU (x2 dMulU (xF 3) (xC (.int 16807))) (xC (.int 5)))) (xC (.int 3))) (xC (.int 65521))) gApp))))) (by
      rintro i s ρ hi ⟨ds, seed, o4, o5, o6, rfl, hok, hle, s0, s1⟩
      obtain ⟨x, hx, rfl⟩ := sD_get hi
      rw [List.getElem?_map] at hx
      obtain ⟨z, hz, rfl⟩ := Option.map_eq_some_iff.mp hx
      have hi63 : i < 63 := Nat.lt_of_lt_of_le (List.getElem?_eq_some_iff.mp hz).1 hml
      obtain ⟨nb, hnb⟩ : ∃ nb : Int, nb = (if z < 0 then -z else z) := ⟨_, rfl⟩
      have hnn : 0 ≤ nb := by rw [hnb]; split <;> omega
      have t0 := Int.emod_nonneg (seed * 48271 + nb + 11) (b := 2147483647) (by decide)
      have t1 := Int.emod_lt_of_pos (seed * 48271 + nb + 11) (b := 2147483647) (by decide)
      obtain ⟨sd, hsd⟩ : ∃ sd, sd = (seed * 48271 + nb + 11) % 2147483647 := ⟨_, rfl⟩
      rw [← hsd] at t0 t1
      have pre : ∀ G o, G [.a (.scr ns), .a (.int m), .m (ds.map .int), .d (.int sd), .d (.int z), .d (.int nb), o6] = o → xSeq (xSet 5 (x1 dAbs (xF 4)))
          (xSeq (xSet 3 (x2 dMod (x1 dInt (x2 dAddU (x2 dAddU (x2 dMulU (xF 3) (xC (.int 48271))) (xF 5)) (xC (.int 11)))) (xC (.int 2147483647)))) G) [.a (.scr ns), .a (.int m), .m (ds.map .int), .d (.int seed), .d (.int z), o5, o6] = o := fun G o h => by
        refine (q_set (d := .int nb) ?_).trans ?_
        · rw [hnb]; walk_at "xv"
        walk_at "env"
        refine (q_set (d := .int sd) ?_).trans ?_
        · rw [hsd]; walk_at "xv"
        exact h
      have pw : (10 : Int) ^ (18 : Int).toNat = 1000000000000000000 := by decide
      by_cases hb : (1000000000000000000 : Int) ≤ nb
      · obtain ⟨ρ2, hr2, ds2, nb2, o62, rfl, hok2, hle2, hnn2⟩ := for_rg (F := xIfS (yT (x2 dGt (xF 5) (xC (.int 0))))
          (xSeq (xOnM 2 (x2 dMod (x1 dInt (xF 5)) (xC (.int 1009))) gApp)
          (xSet 5 (x2 dDiv (xF 5) (xC (.int 1009)))))
          xNext) (gg := bName 6) (fa := xC (.int 0)) (fb := xC (.int 60)) (k := 0) (l := 60) (ρ := [.a (.scr ns), .a (.int m), .m (ds.map .int), .d (.int sd), .d (.int z), .d (.int nb), o6])
          (fun j ρ => ∃ (ds : List Int) (nb : Int) (o6 : Sv), ρ = [.a (.scr ns), .a (.int m), .m (ds.map .int), .d (.int sd), .d (.int z), .d (.int nb), o6] ∧ okDr ds ∧ ds.length ≤ 60 * i + j ∧ 0 ≤ nb)
          rfl rfl (by omega) ⟨ds, nb, o6, rfl, hok, by omega, hnn⟩ (by
            rintro j ρ hj ⟨ds, nb, o6, rfl, hok, hle, hnn⟩
            refine ⟨[.a (.scr ns), .a (.int m), .m (ds.map .int), .d (.int sd), .d (.int z), .d (.int nb), .d (.int (0 + (j : Int)))], ?_⟩
            by_cases hb2 : 0 < nb
            · refine ⟨_, rfl, .inl ((s_ifT (y_T (e_2 (e_f rfl) e_c ?_))).trans ((q_app rfl (d := .int (nb % 1009)) ?_ ?_).trans (s_set (d := .int (nb / 1009)) ?_))), ds ++ [nb % 1009], nb / 1009, .d (.int (0 + (j : Int))), ?_, hok.app (Int.emod_nonneg _ (by decide)) (by have := Int.emod_lt_of_pos nb (b := 1009) (by decide); omega), by simp; omega, Int.ediv_nonneg hnn (by decide)⟩
              · show some (D.bool (decide (0 < nb))) = _
                rw [decide_eq_true hb2]
              · walk_at "xv"
              · rw [List.length_map]; omega
              · walk_at "xv"
              · walk_at "env"
                rw [map_app1]
            · refine ⟨_, rfl, .inl (s_skip (y_T (e_2 (e_f rfl) e_c ?_))), ds, nb, _, rfl, hok, by omega, hnn⟩
              show some (D.bool (decide (0 < nb))) = _
              rw [decide_eq_false hb2])
        refine ⟨_, _, rfl, .inl (pre _ _ ((s_ifT ?_).trans hr2)), ds2, sd, _, _, _, rfl, hok2, ?_, t0, t1⟩
        · refine y_T (e_2 (e_f rfl) (e_2 e_c e_c (dPow_ok (by decide))) ?_)
          show some (D.bool (decide ((10 : Int) ^ (18 : Int).toNat ≤ nb))) = _
          rw [pw, decide_eq_true hb]
        · have : (60 - 0 : Int).toNat = 60 := rfl
          omega
      · refine ⟨_, _, rfl, .inl (pre _ _ ((s_ifF ?_).trans (s_app rfl (d := .int ((sd * 16807 + 5) / 3 % 65521)) ?_ ?_))), ds ++ [(sd * 16807 + 5) / 3 % 65521], sd, .d (.int z), .d (.int nb), o6, ?_, hok.app (Int.emod_nonneg _ (by decide)) (Int.emod_lt_of_pos _ (by decide)), by simp; omega, t0, t1⟩
        · refine y_T (e_2 (e_f rfl) (e_2 e_c e_c (dPow_ok (by decide))) ?_)
          show some (D.bool (decide ((10 : Int) ^ (18 : Int).toNat ≤ nb))) = _
          rw [pw, decide_eq_false hb]
        · walk_at "xv"
        · rw [List.length_map]; omega
        · walk_at "env"
          rw [map_app1])
  rw [sD_len, List.length_map] at hle
  obtain ⟨ds', h2, h3, h4⟩ := main ds _ o4 o5 o6 seed rfl hok (by omega) s0 s1
  refine ⟨ds', h2, h3, ?_⟩
  walk_at "q"
  walk_at "q"
  exact (q_nx hr).trans h4
end Lawk37
namespace Lawk37
open PySem Sm

def isNum (d : D) (a b : Int) : Bool := match d with
  | .int i => decide (a ≤ i) && decide (i ≤ b)
  | _ => false
theorem isNum_int {d : D} {a b : Int} (h : isNum d a b = true) : ∃ i, d = .int i ∧ a ≤ i ∧ i ≤ b := by
  cases d <;> simp [isNum] at h
  exact ⟨_, rfl, h⟩
def allNum (xs : List D) (n : Int) : Bool := xs.all fun x => isNum x 0 (n - 1)
def isRowD (d : D) (n : Int) : Bool := match d with
  | .tup xs => allNum xs n
  | _ => false

def fine (d : D) : Prop := pln d = true ∧ ∀ xs, itemsD d = some xs → xs.length ≤ 1000000 ∧ ∀ x ∈ xs, pln x = true
theorem allNum_ints {xs : List D} {n : Int} (h : allNum xs n = true) : ∃ ns : List Int, xs = ns.map .int ∧ ∀ x ∈ ns, 0 ≤ x ∧ x < n := by
  induction xs with
  | nil => exact ⟨[], rfl, fun _ z => by cases z⟩
  | cons x xs ih =>
    simp only [allNum, List.all_cons, Bool.and_eq_true] at h
    obtain ⟨i, rfl, h1, h2⟩ := isNum_int h.1
    obtain ⟨ns, rfl, h3⟩ := ih h.2
    exact ⟨i :: ns, rfl, fun y hy => by
      rcases List.mem_cons.mp hy with rfl | hy
      · omega
      · exact h3 y hy⟩
theorem allNum_of {ns : List Int} {n : Int} (h : ∀ x ∈ ns, 0 ≤ x ∧ x < n) : allNum (ns.map .int) n = true := by
  simp only [allNum, List.all_map, List.all_eq_true]
  intro x hx
  have := h x hx
  simp [isNum]
  omega
theorem fine_ints (ns : List Int) (h : ns.length ≤ 1000000) : fine (.tup (ns.map .int)) := ⟨rfl, fun xs e => by
  cases e
  refine ⟨by simpa using h, fun x hx => ?_⟩
  obtain ⟨i, _, rfl⟩ := List.mem_map.mp hx
  rfl⟩
theorem fine_intsL (ns : List Int) (h : ns.length ≤ 1000000) : fine (.list (ns.map .int)) := ⟨rfl, fun xs e => by
  cases e
  refine ⟨by simpa using h, fun x hx => ?_⟩
  obtain ⟨i, _, rfl⟩ := List.mem_map.mp hx
  rfl⟩
theorem fine_flat {d : D} (h : pln d = true) (h2 : itemsD d = none) : fine d := ⟨h, fun xs e => by rw [h2] at e; cases e⟩
def ascD : List D → Bool
  | .int a :: .int b :: r => decide (a < b) && ascD (.int b :: r)
  | _ => true
def takenD (d : D) (n : Int) : Bool := isRowD d n && (match d with
  | .tup xs => ascD xs
  | _ => false)
theorem asc_all : ∀ ns : List Int, ascD (ns.map .int) = (List.range (ns.length - 1)).all fun i => decide (nth ns i < nth ns (i + 1))
  | [] => rfl
  | [a] => rfl
  | a :: b :: r => by
    have ih := asc_all (b :: r)
    simp only [List.map_cons, ascD, List.length_cons] at ih ⊢
    rw [ih, show r.length + 1 + 1 - 1 = (r.length + 1 - 1) + 1 by omega, List.range_succ_eq_map, List.all_cons, List.all_map]
    congr 1
def machD (s l : Int) (tk tab : List Int) : D := .obj "Machine" ["states", "letters", "takes", "_table"] [.int s, .int l, .tup (tk.map .int), .list (tab.map .int)]
def numOf : D → Int
  | .int i => i
  | _ => 0
def tableD (c : D) (s l : Int) : Bool := match c with
  | .list xs => decide (((xs.length : Nat) : Int) = s * l) && allNum xs s
  | _ => false
def machOk (a b c d : D) : Bool := isNum a 1 400 && isNum b 0 60 && (tableD c (numOf a) (numOf b) && takenD d (numOf a))

def goM (tab : List Int) (l : Int) : Int → List Int → Int
  | s, [] => s
  | s, x :: r => goM tab l (nth tab (s * l + x)) r
theorem place_in {s l st x : Int} {n : Nat} (h1 : (n : Int) = s * l) (hst : 0 ≤ st ∧ st < s) (hx : 0 ≤ x ∧ x < l) : 0 ≤ st * l + x ∧ st * l + x < n := by
  have a : 0 ≤ st * l := Int.mul_nonneg hst.1 (by omega)
  have b : (st + 1) * l ≤ s * l := Int.mul_le_mul_of_nonneg_right (by omega) (by omega)
  rw [Int.add_mul, Int.one_mul] at b
  omega
theorem goM_in {s l : Int} {tab : List Int} (h1 : ((tab.length : Nat) : Int) = s * l) (h2 : ∀ x ∈ tab, 0 ≤ x ∧ x < s) : ∀ {row : List Int} {st : Int}, (0 ≤ st ∧ st < s) → (∀ x ∈ row, 0 ≤ x ∧ x < l) → 0 ≤ goM tab l st row ∧ goM tab l st row < s
  | [], st, h, _ => h
  | x :: r, st, h, hr => by
    obtain ⟨a, b⟩ := place_in h1 h (hr x (by simp))
    exact goM_in (st := nth tab (st * l + x)) h1 h2 (h2 _ (nth_mem a b)) fun y hy => hr y (by simp [hy])
theorem after_loop {s l : Int} {tk tab : List Int} (hs : 1 ≤ s ∧ s ≤ 400) (hl : 0 ≤ l ∧ l ≤ 60) (h1 : ((tab.length : Nat) : Int) = s * l) (h2 : ∀ x ∈ tab, 0 ≤ x ∧ x < s) (o2 : Sv) : ∀ (row : List Int) (st : Int) (o3 : Sv), (0 ≤ st ∧ st < s) → (∀ x ∈ row, 0 ≤ x ∧ x < l) → ∃ o3', loopL (bName 3) (xSetA 1 (x2 dIx (x1 (dFld ["Machine"] "_table") (xA 0)) (x2 dAddU (x2 dMulU (xP 1) (x1 (dFld ["Machine"] "letters") (xA 0))) (xA 3)))) (sA (row.map .int)) [.a (machD s l tk tab), .a (.int st), o2, o3] = .nx [.a (machD s l tk tab), .a (.int (goM tab l st row)), o2, o3']
  | [], st, o3, _, _ => ⟨o3, rfl⟩
  | x :: r, st, o3, h, hr => by
    obtain ⟨a, b⟩ := place_in h1 h (hr x (by simp))
    obtain ⟨o3', e⟩ := after_loop hs hl h1 h2 (tk := tk) o2 r (nth tab (st * l + x)) (.a (.int x)) (h2 _ (nth_mem a b)) (fun y hy => hr y (by simp [hy]))
    exact ⟨o3', l_cons (ρ1 := [.a (machD s l tk tab), .a (.int st), o2, .a (.int x)]) rfl (s_setA (e_2 (e_1 (e_a rfl) rfl) (e_2 (e_2 (e_pa rfl) (e_1 (e_a rfl) rfl) (dMul_ok (by omega))) (e_a rfl) rfl) (dIx_ints a b))) e⟩
theorem in_ints {ns : List Int} {k : Int} : dIn (.int k) (.tup (ns.map .int)) = some (.bool (decide (k ∈ ns))) := by
  have h : (ns.map D.int).all flatDD = true := by
    rw [List.all_eq_true]
    intro x hx
    obtain ⟨i, _, rfl⟩ := List.mem_map.mp hx
    rfl
  refine dIn_of0 (fun _ _ z => by cases z) (fun _ _ z => by cases z) ?_
  show (if flatDD (.int k) = true ∧ (ns.map D.int).all flatDD = true then some (D.bool ((ns.map D.int).any fun y => eqFlat y (.int k))) else none) = _
  rw [if_pos ⟨rfl, h⟩]
  congr 2
  induction ns with
  | nil => rfl
  | cons x ns ih =>
    have ih := ih (by
      rw [List.all_eq_true]
      intro x hx
      obtain ⟨i, _, rfl⟩ := List.mem_map.mp hx
      rfl)
    rw [List.map_cons, List.any_cons, ih]
    have : eqFlat (.int x) (.int k) = decide (k = x) := by
      show (x == k) = _
      by_cases e : k = x
      · subst e; simp
      · rw [decide_eq_false e]; simp; omega
    rw [this]
    by_cases e : k = x
    · simp [e]
    · simp [e]
end Lawk37
namespace Lawk37
open PySem Sm

theorem all1 {α : Type} {P : α → Prop} {x : α} {xs : List α} (h : P x) (r : ∀ y ∈ xs, P y) : ∀ y ∈ x :: xs, P y := fun y hy => by
  rcases List.mem_cons.mp hy with rfl | hy
  · exact h
  · exact r y hy
theorem all0 {α : Type} {P : α → Prop} : ∀ y ∈ ([] : List α), P y := fun y hy => by cases hy
theorem allA {α : Type} {P : α → Prop} {xs ys : List α} (h : ∀ y ∈ xs, P y) (r : ∀ y ∈ ys, P y) : ∀ y ∈ xs ++ ys, P y := fun y hy => by
  rcases List.mem_append.mp hy with hy | hy
  · exact h y hy
  · exact r y hy
theorem fine_list {xs : List D} (h : xs.length ≤ 1000000) (h2 : ∀ x ∈ xs, pln x = true) : fine (.list xs) := ⟨rfl, fun ys e => by cases e; exact ⟨h, h2⟩⟩
theorem fine_tup {xs : List D} (h : xs.length ≤ 1000000) (h2 : ∀ x ∈ xs, pln x = true) : fine (.tup xs) := ⟨rfl, fun ys e => by cases e; exact ⟨h, h2⟩⟩
theorem pln_ints (ns : List Int) : ∀ x ∈ ns.map D.int, pln x = true := fun x hx => by
  obtain ⟨i, _, rfl⟩ := List.mem_map.mp hx
  rfl
theorem cutD_init {xs : List D} (h : 0 < xs.length) : cutD xs none (some (-1)) = xs.take (xs.length - 1) := by
  unfold cutD
  have h1 : HT.sIx xs.length 0 none = 0 := rfl
  have h2 : HT.sIx xs.length xs.length (some (-1)) = xs.length - 1 := by
    unfold HT.sIx
    simp
    omega
  rw [h1, h2, List.drop_zero, Nat.sub_zero]
theorem dr_at {ds : List Int} {n : Nat} {k : Int} (h : okDr ds) (hl : ds.length = n) (h0 : 0 ≤ k) (h1 : k < n) : dIx (.list (ds.map .int)) (.int k) = some (.int (nth ds k)) ∧ 0 ≤ nth ds k ∧ nth ds k < 65521 :=
  ⟨dIx_ints h0 (by omega), h _ (nth_mem h0 (by omega))⟩
theorem takenD_of {ns : List Int} {n : Int} (h : ∀ x ∈ ns, 0 ≤ x ∧ x < n) (ha : ascD (ns.map .int) = true) : takenD (.tup (ns.map .int)) n = true := by
  unfold takenD
  show (allNum (ns.map .int) n && ascD (ns.map .int)) = true
  rw [allNum_of h, ha]; rfl
theorem asc_of : ∀ {ns : List Int}, ns.Pairwise (· < ·) → ascD (ns.map .int) = true
  | [], _ => rfl
  | [a], _ => rfl
  | a :: b :: r, h => by
    show (decide (a < b) && ascD ((b :: r).map .int)) = true
    have h1 := List.pairwise_cons.mp h
    rw [asc_of h1.2, decide_eq_true (h1.1 b (by simp))]
    rfl
end Lawk37
namespace Lawk37
open PySem Sm

theorem is_number_ok (d : D) (a b : Int) (h : pln d = true) : g_is_number [d, .int a, .int b] = .ok (.bool (isNum d a b)) := by
  suffices h : F_is_number [.a d, .a (.int a), .a (.int b)] = .rt (.bool (isNum d a b)) by
    show zOut (F_is_number [.a d, .a (.int a), .a (.int b)]) = _
    rw [h]; rfl
  refine s_ret ?_
  have h1 : x1 (dIsi "int") (xA 0) [.a d, .a (.int a), .a (.int b)] = .ok (.bool (isI d)) := e_1 (e_a rfl) (isi_int h)
  have h2 : x1 dNot (x1 (dIsi "bool") (xA 0)) [.a d, .a (.int a), .a (.int b)] = .ok (.bool (!isB d)) := e_1 (e_1 (e_a rfl) (isi_bool h)) rfl
  cases d with
  | int i =>
    show _ = R.ok (D.bool (isI (.int i) && (!isB (.int i) && (decide (a ≤ i) && decide (i ≤ b)))))
    exact e_and h1 fun _ => e_and h2 fun _ => e_chain (e_a rfl) (e_a rfl) (e_a rfl) rfl rfl
  | bool i => exact (e_and (q := false) h1 fun _ => (e_and (q := true) h2 fun z => (by cases z)))
  | _ => exact e_and (q := false) h1 fun z => (by cases z)
theorem are_letters_ok (d : D) (n : Int) (h : fine d) : g_are_letters [d, .int n] = .ok (.bool (isRowD d n)) := by
  suffices h : F_are_letters [.a d, .a (.int n), .no] = .rt (.bool (isRowD d n)) by
    show zOut (F_are_letters [.a d, .a (.int n), .no]) = _
    rw [h]; rfl
  refine s_ret ?_
  have h1 : x1 (dIsi "tuple") (xA 0) [.a d, .a (.int n), .no] = .ok (.bool (isT d)) := e_1 (e_a rfl) (isi_tuple h.1)
  cases d with
  | tup xs =>
    obtain ⟨hl, hp⟩ := h.2 xs rfl
    refine e_and h1 fun _ => e_1 (e_L (n_lcV (e_a rfl) rfl hl rfl fun x hx => ?_)) dAll_map
    exact e_call (a_cons (e_a rfl) (a_cons e_c (a_cons (e_2 (e_a rfl) e_c rfl) a_nil))) (is_number_ok x 0 (n - 1) (hp x hx))
  | _ => exact e_and (q := false) h1 fun z => (by cases z)
def isWordD (d : D) (n : Int) : Bool := isRowD d n && (match d with
  | .tup xs => decide ((1 : Int) ≤ ((xs.length : Nat) : Int)) && decide (((xs.length : Nat) : Int) ≤ 5000)
  | _ => false)
theorem is_word_ok (d : D) (n : Int) (h : fine d) : g_is_word [d, .int n] = .ok (.bool (isWordD d n)) := by
  show zOut (F_is_word [.a d, .a (.int n)]) = _
  refine z_rt (s_ret ?_)
  refine e_and (e_call (a_cons (e_a rfl) (a_cons (e_a rfl) a_nil)) (are_letters_ok d n h)) fun hr => ?_
  cases d with
  | tup xs => exact e_chain e_c (e_1 (e_a rfl) rfl) e_c rfl rfl
  | _ => simp [isRowD] at hr
def wordsD (ws : List (List Int)) : List D := ws.map fun w => .tup (w.map .int)
def bookD (l : Int) (ws : List (List Int)) : D := .obj "Book" ["letters", "size", "_words"] [.int l, .int ((ws.length : Nat) : Int), .list (wordsD ws)]
theorem wordsD_len (ws : List (List Int)) : (wordsD ws).length = ws.length := List.length_map ..
theorem tupA_words (ws : List (List Int)) : tupA (wordsD ws) = true := tupA_map fun w _ => tupA_ints w
theorem shA_words (n : Nat) (ws : List (List Int)) : shA (n + 1) (wordsD ws) = true := shA_map fun w _ => shA_ints n w
theorem book_ok {l : Int} {ws : List (List Int)} (hl : 0 ≤ l ∧ l ≤ 60) (hw : ws.length ≤ 60) (h : ∀ w ∈ ws, (∀ x ∈ w, 0 ≤ x ∧ x < l) ∧ 1 ≤ w.length ∧ w.length ≤ 5000) : g_Book___init__ [.int l, .list (wordsD ws)] = .ok (bookD l ws) := by
  have hlen : (wordsD ws).length = ws.length := wordsD_len ws
  show zInit (F_Book___init__ [.o "Book" [] [], .a (.int l), .a (.list (wordsD ws)), .no]) = _
  refine i_nx (ρ' := [.o "Book" ["letters", "size", "_words"] [.int l, .int ((ws.length : Nat) : Int), .list (wordsD ws)], .a (.int l), .a (.list (wordsD ws)), .no]) ?_ rfl
  unfold F_Book___init__
  refine k_skip' (y_or (y_not (y_tru (e_call (a_cons (e_a rfl) (a_cons e_c (a_cons e_c a_nil))) (is_number_ok _ 0 60 rfl)) rfl)) fun _ => y_or (y_not (y_tru (e_1 (e_a rfl) (isi_list rfl)) rfl)) fun _ => y_T (e_2 (e_1 (e_a rfl) rfl) e_c rfl)) ?_ ?_
  · show (!isNum (.int l) 0 60 || (!true || decide (60 < (((wordsD ws).length : Nat) : Int)))) = false
    rw [hlen]
    simp [isNum]
    omega
  refine k_skip' (y_not (y_tru (e_1 (e_L (n_lcV (φ := fun x => .bool (isWordD x l)) (e_a rfl) rfl (by rw [hlen]; omega) rfl fun x hx => ?_)) dAll_map) rfl)) ?_ ?_
  · obtain ⟨w, hw', rfl⟩ := List.mem_map.mp hx
    exact e_call (a_cons (e_a rfl) (a_cons (e_a rfl) a_nil)) (is_word_ok _ l (fine_ints w (by have := (h w hw').2.2; omega)))
  · show (!(wordsD ws).all fun x => isWordD x l) = false
    rw [Bool.not_eq_false']
    rw [List.all_eq_true]
    intro x hx
    obtain ⟨w, hw', rfl⟩ := List.mem_map.mp hx
    obtain ⟨a, b, c⟩ := h w hw'
    show (allNum (w.map .int) l && (decide ((1 : Int) ≤ (((w.map D.int).length : Nat) : Int)) && decide ((((w.map D.int).length : Nat) : Int) ≤ 5000))) = true
    rw [allNum_of a, List.length_map, decide_eq_true (by omega), decide_eq_true (by omega)]
    rfl
  refine k_fld (e_low (e_a rfl) rfl) rfl ⟨rfl, by decide⟩ ?_
  refine k_fld (d := .int ((ws.length : Nat) : Int)) (e_1 (e_a rfl) (by show some (D.int (((wordsD ws).length : Nat) : Int)) = _; rw [hlen])) rfl ⟨by decide +kernel, by decide⟩ ?_
  exact j_fld (e_L (n_list (e_a rfl) rfl (lowA_t (tupA_words ws)))) rfl ⟨by decide +kernel, by decide⟩ rfl
theorem words_ok (l : Int) (ws : List (List Int)) : g_Book_words [bookD l ws] = .nw (wordsD ws) := by
  show zOut (F_Book_words [.a (bookD l ws)]) = _
  exact z_rn (s_retN (n_list (e_1 (e_a rfl) rfl) rfl (lowA_t (tupA_words ws))))

def readW (ws : List (List Int)) (row : List Int) : List Int := row.flatMap fun i => ws.getD i.toNat []
end Lawk37
namespace Lawk37
open PySem Sm

structure OkB (l : Int) (ws : List (List Int)) : Prop where
  l0 : 0 ≤ l ∧ l ≤ 60
  sz : ws.length ≤ 60
  wd : ∀ w ∈ ws, (∀ x ∈ w, 0 ≤ x ∧ x < l) ∧ 1 ≤ w.length ∧ w.length ≤ 5000
def okRow (ws : List (List Int)) (r : List Int) : Prop := ∀ x ∈ r, 0 ≤ x ∧ x < ((ws.length : Nat) : Int)
theorem okRow.tail {ws : List (List Int)} {x : Int} {r : List Int} (h : okRow ws (x :: r)) : okRow ws r := fun y hy => h y (by simp [hy])
def wdN (ws : List (List Int)) (x : Int) : List Int := ws.getD x.toNat []
theorem readW_cons (ws : List (List Int)) (x : Int) (r : List Int) : readW ws (x :: r) = wdN ws x ++ readW ws r := by simp [readW, wdN]
theorem readW_app (ws : List (List Int)) (a b : List Int) : readW ws (a ++ b) = readW ws a ++ readW ws b := by simp [readW]
theorem wdN_get {ws : List (List Int)} {x : Int} (h : 0 ≤ x ∧ x < ((ws.length : Nat) : Int)) : ws[x.toNat]? = some (wdN ws x) := by
  unfold wdN
  rw [List.getD_eq_getElem?_getD, List.getElem?_eq_getElem (by omega)]; rfl
theorem wdN_mem {ws : List (List Int)} {x : Int} (h : 0 ≤ x ∧ x < ((ws.length : Nat) : Int)) : wdN ws x ∈ ws := List.mem_of_getElem? (wdN_get h)
theorem ix_word {ws : List (List Int)} {x : Int} (h : 0 ≤ x ∧ x < ((ws.length : Nat) : Int)) : dIx (.list (wordsD ws)) (.int x) = some (.tup ((wdN ws x).map .int)) := atI_map (f := fun w : List Int => D.tup (w.map .int)) h.1 (wdN_get h)
theorem mkB {l : Int} {ws : List (List Int)} (h : OkB l ws) : g_Book___init__ [.int l, .list (wordsD ws)] = .ok (bookD l ws) := book_ok h.l0 h.sz h.wd
theorem readW_len {ws : List (List Int)} {b : Nat} (h : ∀ w ∈ ws, w.length ≤ b) : ∀ {r : List Int}, okRow ws r → (readW ws r).length ≤ b * r.length
  | [], _ => by simp [readW]
  | x :: r, hr => by
    have h1 := h _ (wdN_mem (hr x (by simp)))
    have h2 := readW_len h hr.tail
    rw [readW_cons, List.length_append, List.length_cons, Nat.mul_succ]
    omega
theorem readW_in {l : Int} {ws : List (List Int)} (h : ∀ w ∈ ws, ∀ x ∈ w, 0 ≤ x ∧ x < l) {r : List Int} (hr : okRow ws r) : ∀ x ∈ readW ws r, 0 ≤ x ∧ x < l := fun x hx => by
  obtain ⟨i, hi, hx⟩ := List.mem_flatMap.mp hx
  exact h _ (wdN_mem (hr i hi)) x hx
theorem lsum_read (ws : List (List Int)) : ∀ r : List Int, ((r.map D.int).map fun x => (((wdN ws (numOf x)).length : Nat) : Int)).sum = (((readW ws r).length : Nat) : Int)
  | [] => rfl
  | x :: r => by
    rw [readW_cons, List.map_cons, List.map_cons, List.sum_cons, lsum_read ws r, List.length_append]
    show (((wdN ws x).length : Nat) : Int) + _ = _
    omega
theorem length_ok {l : Int} {ws : List (List Int)} {r : List Int} (hr : okRow ws r) (hz : r.length ≤ 1000000) : g_Book_length [bookD l ws, .tup (r.map .int)] = .ok (.int ((readW ws r).length : Nat)) := by
  show zOut (F_Book_length [.a (bookD l ws), .a (.tup (r.map .int)), .no]) = _
  refine z_rt ?_
  unfold F_Book_length
  refine k_skip (y_is (q := false) (y_not (y_tru (e_call (a_cons (e_a rfl) (a_cons (e_1 (e_a rfl) rfl) a_nil)) (are_letters_ok _ ((ws.length : Nat) : Int) (fine_ints r hz))) rfl)) (by show (!allNum (r.map .int) ((ws.length : Nat) : Int)) = false; rw [allNum_of hr]; rfl)) ?_
  rw [← lsum_read]
  refine s_ret (e_1 (e_L (n_lcV (φ := fun x => .int (((wdN ws (numOf x)).length : Nat) : Int)) (e_a rfl) rfl (by rw [List.length_map]; omega) rfl fun x hx => ?_)) dSum_map)
  obtain ⟨i, hi, rfl⟩ := List.mem_map.mp hx
  refine e_1 (e_2 (e_1 (e_a rfl) rfl) (e_a rfl) (ix_word (hr i hi))) ?_
  show some (D.int ((((wdN ws i).map D.int).length : Nat) : Int)) = _
  rw [List.length_map]; rfl
theorem read_loop {l : Int} {ws : List (List Int)} (s1 : Sv) : ∀ (r acc : List Int) (o3 : Sv), okRow ws r → acc.length + (readW ws r).length ≤ 1000000 → ∃ o3', loopL (bName 3) (xOnM 2 (xLow (x2 dIx (x1 (dFld ["Book"] "_words") (xA 0)) (xA 3))) gExt) (sA (r.map .int)) [.a (bookD l ws), s1, .m (acc.map .int), o3] = .nx [.a (bookD l ws), s1, .m ((acc ++ readW ws r).map .int), o3']
  | [], acc, o3, _, _ => ⟨o3, by rw [show readW ws [] = [] from rfl, List.append_nil]; rfl⟩
  | x :: r, acc, o3, hr, hz => by
    rw [readW_cons, List.length_append] at hz
    obtain ⟨o3', e⟩ := read_loop s1 r (acc ++ wdN ws x) (.a (.int x)) hr.tail (by rw [List.length_append]; omega)
    refine ⟨o3', l_cons (ρ1 := [.a (bookD l ws), s1, .m (acc.map .int), .a (.int x)]) rfl (s_ext rfl (e_low (e_2 (e_1 (e_a rfl) rfl) (e_a rfl) (ix_word (hr x (by simp)))) (tupA_ints _)) rfl (by rw [List.length_map, List.length_map]; omega)) ?_⟩
    walk_at "env"
    rw [readW_cons, ← List.append_assoc, ← List.map_append]
    exact e
theorem read_ok {l : Int} {ws : List (List Int)} {r : List Int} (hr : okRow ws r) (hz : r.length ≤ 1000000) (hl : (readW ws r).length ≤ 100000) : g_Book_read [bookD l ws, .tup (r.map .int)] = .ok (.tup ((readW ws r).map .int)) := by
  show zOut (F_Book_read [.a (bookD l ws), .a (.tup (r.map .int)), .no, .no]) = _
  refine z_rt ?_
  unfold F_Book_read
  refine k_skip (y_is (y_T (e_2 (e_meth (e_a rfl) rfl (a_cons (e_a rfl) a_nil) (length_ok hr hz)) e_c rfl)) (decide_eq_false (by omega))) ?_
  refine k_setN (n_lst a_nil (by simp)) (by simp) ?_
  walk_at "env"
  obtain ⟨o3', e⟩ := read_loop (l := l) (.a (.tup (r.map .int))) r [] .no hr (by simp; omega)
  exact k_nx ((s_for (r_V (e_a rfl) rfl)).trans e) (s_ret (e_tupL (e_lm rfl)))
def thenB (ws us : List (List Int)) : List (List Int) := ws.map (readW us)
def revB (ws : List (List Int)) : List (List Int) := ws.map List.reverse
theorem len_then (ws us : List (List Int)) : (thenB ws us).length = ws.length := List.length_map ..
theorem len_rev (ws : List (List Int)) : (revB ws).length = ws.length := List.length_map ..
theorem rowsOf {l : Int} {ws us : List (List Int)} (h : OkB l ws) (e : ((us.length : Nat) : Int) = l) : ∀ w ∈ ws, okRow us w := fun w hw x hx => by
  have := (h.wd w hw).1 x hx
  omega
theorem read_pos {m : Int} {us : List (List Int)} (h : OkB m us) {w : List Int} (hw : okRow us w) (h1 : 1 ≤ w.length) : 1 ≤ (readW us w).length := by
  cases w with
  | nil => simp at h1
  | cons x w =>
    have := (h.wd _ (wdN_mem (hw x (by simp)))).2.1
    rw [readW_cons, List.length_append]
    omega
theorem OkB.then {l m : Int} {ws us : List (List Int)} (h : OkB l ws) (h2 : OkB m us) (e : ((us.length : Nat) : Int) = l) (hl : ∀ w ∈ ws, (readW us w).length ≤ 5000) : OkB m (thenB ws us) :=
  ⟨h2.l0, by rw [len_then]; exact h.sz, fun w hw => by
    obtain ⟨v, hv, rfl⟩ := List.mem_map.mp hw
    have r := rowsOf h e v hv
    exact ⟨readW_in (fun w hw => (h2.wd w hw).1) r, read_pos h2 r (h.wd v hv).2.1, hl v hv⟩⟩
theorem OkB.rev {l : Int} {ws : List (List Int)} (h : OkB l ws) : OkB l (revB ws) := ⟨h.l0, by rw [len_rev]; exact h.sz, fun w hw => by
  obtain ⟨v, hv, rfl⟩ := List.mem_map.mp hw
  have := h.wd v hv
  exact ⟨fun x hx => this.1 x (List.mem_reverse.mp hx), by rw [List.length_reverse]; exact this.2⟩⟩
def rowW : D → List Int
  | .tup xs => xs.map numOf
  | _ => []
theorem rowW_ints (w : List Int) : rowW (.tup (w.map .int)) = w := by
  show (w.map D.int).map numOf = w
  rw [List.map_map]
  exact (List.map_congr_left fun x _ => rfl).trans (List.map_id w)
theorem any_long {l l' : Int} {ws us : List (List Int)} (h : OkB l ws) (e : ((us.length : Nat) : Int) = l) : yTru (x1 dAny (xL (nLc (srcV (x1 (dFld ["Book"] "_words") (xA 0))) [2] (bName 2) yYes (x2 dGt (xMeth "Book" "length" g_Book_length (xA 1) (aCons (xA 2) aNil)) (xC (.int 5000)))))) [.a (bookD l ws), .a (bookD l' us), .no] = .ok ((wordsD ws).any fun x => decide (5000 < (((readW us (rowW x)).length : Nat) : Int))) := by
  refine y_tru (e_1 (e_L (n_lcV (φ := fun x => .bool (decide (5000 < (((readW us (rowW x)).length : Nat) : Int)))) (e_1 (e_a rfl) rfl) rfl (by rw [wordsD_len]; have := h.sz; omega) rfl fun x hx => ?_)) dAny_map) rfl
  obtain ⟨w, hw, rfl⟩ := List.mem_map.mp hx
  rw [rowW_ints]
  exact e_2 (e_meth (e_a rfl) rfl (a_cons (e_a rfl) a_nil) (length_ok (rowsOf h e w hw) (by have := (h.wd w hw).2.2; omega))) e_c rfl

def hdI (w : List Int) : Int := w.getD 0 0
def apart (ns : List Int) : Bool := decide ((((metN ns : Nat) : Int)) = ((ns.length : Nat) : Int))
theorem are_different_ok (ns : List Int) (h : ns.length ≤ 4000) : g__are_different [.list (ns.map .int)] = .ok (.bool (apart ns)) := by
  show zOut (F__are_different [.a (.list (ns.map .int))]) = _
  refine z_rt (s_ret (e_2 (e_1 (e_a rfl) ?_) (e_1 (e_a rfl) (by show some (D.int (((ns.map D.int).length : Nat) : Int)) = _; rw [List.length_map])) dEq_int))
  show ((intsD (ns.map .int)).bind fun ns => if ns.length ≤ 4000 then some (D.int (metN ns : Nat)) else none) = some (D.int (metN ns : Nat))
  rw [intsD_int]
  show (if ns.length ≤ 4000 then some _ else none) = _
  rw [if_pos h]
theorem ix_hd {w : List Int} (h : 1 ≤ w.length) : dIx (.tup (w.map .int)) (.int 0) = some (.int (hdI w)) := dIx_intsT (by decide) (by omega)
theorem ix_ls {w : List Int} (h : 1 ≤ w.length) : dIx (.tup (w.map .int)) (.int (-1)) = some (.int (hdI w.reverse)) := by
  obtain ⟨v, x, rfl⟩ : ∃ v x, w = v ++ [x] := ⟨w.dropLast, w.getLast (by intro e; subst e; simp at h), (List.dropLast_concat_getLast _).symm⟩
  have e : L2.atI ((v ++ [x]).map D.int) (-1) = some (D.int x) := by
    have hl : ((v ++ [x]).map D.int).length = v.length + 1 := by simp
    unfold L2.atI L2.ixN
    rw [hl, if_neg (by decide), if_pos (by omega)]
    show ((v ++ [x]).map D.int)[(-1 + ((v.length + 1 : Nat) : Int)).toNat]? = _
    rw [show (-1 + ((v.length + 1 : Nat) : Int)).toNat = v.length by omega, List.map_append, List.getElem?_append_right (by simp)]
    simp
  rw [List.reverse_append]
  exact e
theorem starts_ok {l : Int} {ws : List (List Int)} (h : OkB l ws) : g_Book_starts_apart [bookD l ws] = .ok (.bool (apart (ws.map hdI))) := by
  show zOut (F_Book_starts_apart [.a (bookD l ws), .no]) = _
  refine z_rt (s_ret (e_call (a_cons (e_is (e_L (n_lcV (φ := fun x => .int (hdI (rowW x))) (e_1 (e_a rfl) rfl) rfl (by rw [wordsD_len]; have := h.sz; omega) rfl fun x hx => ?_)) (y := .list ((ws.map hdI).map .int)) ?_) a_nil) (are_different_ok _ (by rw [List.length_map]; have := h.sz; omega))))
  · obtain ⟨w, hw, rfl⟩ := List.mem_map.mp hx
    rw [rowW_ints]
    exact e_low (e_2 (e_a rfl) e_c (ix_hd (h.wd w hw).2.1)) rfl
  · unfold wordsD
    rw [List.map_map, List.map_map]
    congr 1
    refine List.map_congr_left fun w _ => ?_
    show D.int (hdI (rowW (.tup (w.map .int)))) = _
    rw [rowW_ints]; rfl

theorem wdN_then {ws us : List (List Int)} {x : Int} (h : 0 ≤ x ∧ x < ((ws.length : Nat) : Int)) : wdN (thenB ws us) x = readW us (wdN ws x) := by
  have e := wdN_get h
  unfold wdN at e ⊢
  unfold thenB
  rw [List.getD_eq_getElem?_getD, List.getElem?_map, e]
  rfl
theorem read_then {ws us : List (List Int)} : ∀ {r : List Int}, okRow ws r → readW (thenB ws us) r = readW us (readW ws r)
  | [], _ => rfl
  | x :: r, h => by rw [readW_cons, readW_cons, readW_app, wdN_then (h x (by simp)), read_then h.tail]
theorem then_then {ws us vs : List (List Int)} (h : ∀ w ∈ ws, okRow us w) : thenB (thenB ws us) vs = thenB ws (thenB us vs) := by
  unfold thenB
  rw [List.map_map]
  exact List.map_congr_left fun w hw => (read_then (h w hw)).symm
theorem rev_rev (ws : List (List Int)) : revB (revB ws) = ws := by
  unfold revB
  rw [List.map_map]
  exact (List.map_congr_left fun w _ => List.reverse_reverse w).trans (List.map_id ws)
theorem wdN_rev (us : List (List Int)) (x : Int) : wdN (revB us) x = (wdN us x).reverse := by
  unfold wdN revB
  rw [List.getD_eq_getElem?_getD, List.getElem?_map, List.getD_eq_getElem?_getD]
  cases us[x.toNat]? <;> rfl
theorem read_rev (us : List (List Int)) : ∀ r : List Int, readW (revB us) r.reverse = (readW us r).reverse
  | [] => rfl
  | x :: r => by rw [List.reverse_cons, readW_app, read_rev us r, readW_cons, readW_cons, show readW (revB us) [] = [] from rfl, List.append_nil, List.reverse_append, wdN_rev]
theorem rev_then (ws us : List (List Int)) : revB (thenB ws us) = thenB (revB ws) (revB us) := by
  unfold thenB revB
  rw [List.map_map, List.map_map]
  exact List.map_congr_left fun w _ => (read_rev us w).symm
end Lawk37
namespace Lawk37
open PySem Sm

def pairD (l : Int) (one two : List (List Int)) : D := .obj "Pair" ["first", "second", "letters"] [bookD l one, bookD l two, .int l]
theorem mkP {l : Int} {one two : List (List Int)} : g_Pair___init__ [bookD l one, bookD l two] = .ok (pairD l one two) := by
  show zInit (F_Pair___init__ [.o "Pair" [] [], .d (bookD l one), .d (bookD l two)]) = _
  refine i_nx (ρ' := [.o "Pair" ["first", "second", "letters"] [bookD l one, bookD l two, .int l], .d (bookD l one), .d (bookD l two)]) ?_ rfl
  unfold F_Pair___init__
  refine k_skip (y_is (y_T (e_2 (e_1 (e_f rfl) rfl) (e_1 (e_f rfl) rfl) dNe_int)) (by rw [decide_eq_true rfl]; rfl)) ?_
  refine k_fld (e_f rfl) rfl ⟨rfl, by decide⟩ ?_
  walk_at "env"
  refine k_fld (e_f rfl) rfl ⟨by decide +kernel, by decide⟩ ?_
  walk_at "env"
  exact j_fld (e_1 (e_f rfl) rfl) rfl ⟨by decide +kernel, by decide⟩ rfl
theorem is_apart_ok {l : Int} {one two : List (List Int)} (h1 : OkB l one) (h2 : OkB l two) : g_Pair_is_apart [pairD l one two] = .ok (.bool (apart (one.map hdI) && apart (two.map hdI))) := by
  show zOut (F_Pair_is_apart [.a (pairD l one two)]) = _
  exact z_rt (s_ret (e_and (e_meth (e_1 (e_a rfl) rfl) rfl a_nil (starts_ok h1)) fun _ => e_meth (e_1 (e_a rfl) rfl) rfl a_nil (starts_ok h2)))
theorem apart_nodup (ns : List Int) : apart ns = true ↔ ns.Nodup := by
  unfold apart
  rw [decide_eq_true_iff, Int.ofNat_inj, metN_eq]
end Lawk37
namespace Lawk37
open PySem Sm

mutual

def smD : Nat → D → Bool
  | _, .none => true
  | _, .bool _ => true
  | _, .int _ => true
  | _, .str s => PyData.strOk s
  | 0, .list _ => false
  | 0, .tup _ => false
  | n + 1, .list xs => decide (xs.length ≤ 1000000) && smA n xs
  | n + 1, .tup xs => decide (xs.length ≤ 1000000) && smA n xs
  | _, .obj _ _ _ => false
  | _, .scr _ => false
  | _, .dict _ _ => false
  | _, .dct _ _ => false
  | _, .rng _ _ => false
def smA : Nat → List D → Bool
  | _, [] => true
  | n, d :: ds => smD n d && smA n ds
end
theorem smA_map {α : Type} {f : α → D} {n : Nat} : ∀ {xs : List α}, (∀ x ∈ xs, smD n (f x) = true) → smA n (xs.map f) = true
  | [], _ => rfl
  | x :: xs, h => by
    simp only [List.map_cons, smA, Bool.and_eq_true]
    exact ⟨h x (by simp), smA_map fun y hy => h y (by simp [hy])⟩
theorem smA_mem {n : Nat} : ∀ {xs : List D}, smA n xs = true → ∀ x ∈ xs, smD n x = true
  | [], _, x, hx => by cases hx
  | y :: xs, h, x, hx => by
    simp only [smA, Bool.and_eq_true] at h
    rcases List.mem_cons.mp hx with rfl | hx
    · exact h.1
    · exact smA_mem h.2 x hx
theorem sm_ints {n : Nat} {ns : List Int} (h : ns.length ≤ 1000000) : smD (n + 1) (.tup (ns.map .int)) = true := by
  rw [smD, smA_map fun _ _ => by cases n <;> rfl, List.length_map, decide_eq_true h]; rfl
mutual
theorem smD_up : ∀ {n : Nat} {d : D}, smD n d = true → smD (n + 1) d = true
  | _, .none, _ => rfl
  | _, .bool _, _ => rfl
  | _, .int _, _ => rfl
  | n, .str s, h => by cases n <;> simpa [smD] using h
  | 0, .list _, h => by simp [smD] at h
  | 0, .tup _, h => by simp [smD] at h
  | n + 1, .list xs, h => by
    simp only [smD, Bool.and_eq_true] at h ⊢
    exact ⟨h.1, smA_up h.2⟩
  | n + 1, .tup xs, h => by
    simp only [smD, Bool.and_eq_true] at h ⊢
    exact ⟨h.1, smA_up h.2⟩
  | n, .obj _ _ _, h => by cases n <;> simp [smD] at h
  | n, .scr _, h => by cases n <;> simp [smD] at h
  | n, .dict _ _, h => by cases n <;> simp [smD] at h
  | n, .dct _ _, h => by cases n <;> simp [smD] at h
  | n, .rng _ _, h => by cases n <;> simp [smD] at h
theorem smA_up : ∀ {n : Nat} {ds : List D}, smA n ds = true → smA (n + 1) ds = true
  | _, [], _ => rfl
  | n, d :: ds, h => by
    simp only [smA, Bool.and_eq_true] at h ⊢
    exact ⟨smD_up h.1, smA_up h.2⟩
end
end Lawk37
namespace Lawk37
open PySem Sm

theorem eqv_ints : ∀ a b : List Int, PyData.eqvAll (a.map .int) (b.map .int) = decide (a = b)
  | [], [] => rfl
  | [], y :: b => rfl
  | x :: a, [] => rfl
  | x :: a, y :: b => by
    rw [List.map_cons, List.map_cons, PyData.eqvAll, eqv_ints a b]
    by_cases h : x = y
    · by_cases h' : a = b
      · simp [PyData.eqv, h, h']
      · simp [PyData.eqv, h, h']
    · simp [PyData.eqv, h]
theorem py_ints : ∀ a : List Int, pyA (a.map .int) = some (a.map .int)
  | [] => rfl
  | x :: a => by rw [List.map_cons, pyA, py_ints a]; rfl
theorem dEq_ints (a b : List Int) : dEq (.tup (a.map .int)) (.tup (b.map .int)) = some (.bool (decide (a = b))) := by
  obtain ⟨p, q, h1, h2, h3, _⟩ := dEq_py (n := 1) (m := 1) (a := .tup (a.map .int)) (b := .tup (b.map .int)) (by show shA 0 _ = true; exact shA_ints 0 a) (by show shA 0 _ = true; exact shA_ints 0 b) (by decide) (by decide)
  rw [h3]
  have e1 : p = .tuple (a.map .int) := by
    have : D.py (.tup (a.map .int)) = some (.tuple (a.map .int)) := by rw [D.py, py_ints a]; rfl
    rw [this] at h1; cases h1; rfl
  have e2 : q = .tuple (b.map .int) := by
    have : D.py (.tup (b.map .int)) = some (.tuple (b.map .int)) := by rw [D.py, py_ints b]; rfl
    rw [this] at h2; cases h2; rfl
  subst e1 e2
  rw [PyData.eqv, eqv_ints]
theorem dNe_ints (a b : List Int) : dNe (.tup (a.map .int)) (.tup (b.map .int)) = some (.bool (!decide (a = b))) := by unfold dNe; rw [dEq_ints]; rfl
theorem sl_upto (a : List Int) (k : Nat) : dSl (.tup (a.map .int)) none (some (k : Int)) = some (.tup ((a.take k).map .int)) := by
  show some (D.tup (cutD _ none (some (k : Int)))) = _
  rw [cutD_upto, List.map_take]
theorem sl_from (a : List Int) (k : Nat) : dSl (.tup (a.map .int)) (some (k : Int)) none = some (.tup ((a.drop k).map .int)) := by
  show some (D.tup (cutD _ (some (k : Int)) none)) = _
  rw [cutD_from, List.map_drop]
theorem len_ints (a : List Int) : dLen (.tup (a.map .int)) = some (.int (a.length : Nat)) := by
  show some (D.int ((a.map D.int).length : Nat)) = _
  rw [List.length_map]
theorem cut_ints {ρ : Sm.Env} {fa fl : Sm.Env → Sm.R D} {a b : List Int} (ha : fa ρ = .ok (.tup (a.map .int))) (hb : fl ρ = .ok (.tup (b.map .int))) :
    xOrE (xL (nSl true fa (oSo (x1 dLen fl)) oNo)) (xLow (xSl fa (oSo (x1 dLen fl)) oNo)) ρ = .ok (.tup ((a.drop b.length).map .int)) :=
  e_alt2 (e_LST (n_slT ha (o_so (e_1 hb (len_ints b))) o_no)) (e_low (e_sl ha (o_so (e_1 hb (len_ints b))) o_no (sl_from a b.length)) (tupA_ints _))

def agr (a b : List Int) : Prop := a.take (min a.length b.length) = b.take (min a.length b.length)
instance (a b : List Int) : Decidable (agr a b) := inferInstanceAs (Decidable (_ = _))
theorem agr_symm {a b : List Int} : agr a b ↔ agr b a := by unfold agr; rw [Nat.min_comm]; exact eq_comm
def evenD : D := .tup [.str "even", .tup []]
def restP (a b : List Int) : D := if agr a b then (if b.length < a.length then .tup [.str "first", .tup ((a.drop b.length).map .int)] else if a.length < b.length then .tup [.str "second", .tup ((b.drop a.length).map .int)] else evenD) else .none
theorem agr_le {a b : List Int} (h : b.length ≤ a.length) : agr a b ↔ a.take b.length = b := by
  unfold agr
  rw [Nat.min_eq_right h, List.take_length]
end Lawk37
namespace Lawk37
open PySem Sm

inductive RR where
  | ev | fi (w : List Int) | se (w : List Int)
deriving DecidableEq
def RR.D : RR → D
  | .ev => evenD
  | .fi w => .tup [.str "first", .tup (w.map .int)]
  | .se w => .tup [.str "second", .tup (w.map .int)]
def RR.w : RR → List Int
  | .ev => []
  | .fi w => w
  | .se w => w
def RR.isF : RR → Bool
  | .fi _ => true
  | _ => false
def RR.isS : RR → Bool
  | .se _ => true
  | _ => false
def RR.tag : RR → Str
  | .ev => "even"
  | .fi _ => "first"
  | .se _ => "second"
theorem RR.D_eq (r : RR) : r.D = .tup [.str r.tag, .tup (r.w.map .int)] := by cases r <;> rfl
def RR.a (r : RR) (o : List Int) : List Int := if r.isF = true then r.w ++ o else o
def RR.b (r : RR) (t : List Int) : List Int := if r.isS = true then r.w ++ t else t
def optR : Option RR → D
  | none => .none
  | some r => r.D
def restR (a b : List Int) : Option RR := if agr a b then some (if b.length < a.length then .fi (a.drop b.length) else if a.length < b.length then .se (b.drop a.length) else .ev) else none
def stepR (o t : List Int) (r : RR) : Option RR := restR (r.a o) (r.b t)
def RR.ok (l : Int) : RR → Prop
  | .ev => True
  | .fi w => (∀ x ∈ w, 0 ≤ x ∧ x < l) ∧ 1 ≤ w.length
  | .se w => (∀ x ∈ w, 0 ≤ x ∧ x < l) ∧ 1 ≤ w.length
theorem RR.ok_w {l : Int} {r : RR} (h : r.ok l) : ∀ x ∈ r.w, 0 ≤ x ∧ x < l := by
  cases r with
  | ev => exact fun x z => by cases z
  | fi w => exact h.1
  | se w => exact h.1
theorem strEq {a b : Str} {c : Bool} (ha : PyData.strOk a = true) (hb : PyData.strOk b = true) (e : (a == b) = c) : dEq (.str a) (.str b) = some (.bool c) := by rw [dEq_str ha hb, e]
theorem RR.isF_eq : ∀ r : RR, dEq (.str r.tag) (.str "first") = some (.bool r.isF)
  | .ev => strEq (a := "even") (c := false) (by decide +kernel) (by decide +kernel) (by decide +kernel)
  | .fi _ => strEq (a := "first") (c := true) (by decide +kernel) (by decide +kernel) (by decide +kernel)
  | .se _ => strEq (a := "second") (c := false) (by decide +kernel) (by decide +kernel) (by decide +kernel)
theorem RR.isS_eq : ∀ r : RR, dEq (.str r.tag) (.str "second") = some (.bool r.isS)
  | .ev => strEq (a := "even") (c := false) (by decide +kernel) (by decide +kernel) (by decide +kernel)
  | .fi _ => strEq (a := "first") (c := false) (by decide +kernel) (by decide +kernel) (by decide +kernel)
  | .se _ => strEq (a := "second") (c := true) (by decide +kernel) (by decide +kernel) (by decide +kernel)
theorem RR.tag_ok : ∀ r : RR, PyData.strOk r.tag = true
  | .ev => show PyData.strOk (Str.ofString "even") = true by decide +kernel
  | .fi _ => show PyData.strOk (Str.ofString "first") = true by decide +kernel
  | .se _ => show PyData.strOk (Str.ofString "second") = true by decide +kernel
theorem RR.ix0 (r : RR) : dIx r.D (.int 0) = some (.str r.tag) := by cases r <;> rfl
theorem RR.ix1 (r : RR) : dIx r.D (.int 1) = some (.tup (r.w.map .int)) := by cases r <;> rfl
theorem restR_w {a b : List Int} {r : RR} (h : restR a b = some r) : r.w.length ≤ max a.length b.length ∧ (∀ l : Int, (∀ x ∈ a, 0 ≤ x ∧ x < l) → (∀ x ∈ b, 0 ≤ x ∧ x < l) → r.ok l) := by
  unfold restR at h
  split at h
  · cases h
    split
    · refine ⟨by show (a.drop b.length).length ≤ _; rw [List.length_drop]; omega, fun l ha _ => ⟨fun x hx => ha x (List.mem_of_mem_drop hx), by rw [List.length_drop]; omega⟩⟩
    · split
      · refine ⟨by show (b.drop a.length).length ≤ _; rw [List.length_drop]; omega, fun l _ hb => ⟨fun x hx => hb x (List.mem_of_mem_drop hx), by rw [List.length_drop]; omega⟩⟩
      · exact ⟨Nat.zero_le _, fun _ _ _ => trivial⟩
  · cases h
theorem RR.a_len (r : RR) (o : List Int) : (r.a o).length ≤ r.w.length + o.length := by unfold RR.a; split <;> simp
theorem RR.b_len (r : RR) (o : List Int) : (r.b o).length ≤ r.w.length + o.length := by unfold RR.b; split <;> simp
theorem stepR_w {o t : List Int} {r r' : RR} (h : stepR o t r = some r') : r'.w.length ≤ r.w.length + max o.length t.length ∧ (∀ l : Int, r.ok l → (∀ x ∈ o, 0 ≤ x ∧ x < l) → (∀ x ∈ t, 0 ≤ x ∧ x < l) → r'.ok l) := by
  obtain ⟨h1, h2⟩ := restR_w h
  have := r.a_len o
  have := r.b_len t
  refine ⟨by omega, fun l hr ho ht => h2 l (fun x hx => ?_) fun x hx => ?_⟩
  · unfold RR.a at hx
    split at hx
    · rcases List.mem_append.mp hx with h | h
      · exact RR.ok_w hr x h
      · exact ho x h
    · exact ho x hx
  · unfold RR.b at hx
    split at hx
    · rcases List.mem_append.mp hx with h | h
      · exact RR.ok_w hr x h
      · exact ht x h
    · exact ht x hx
theorem min_len (a b : List Int) : dMin2 (.int ((a.length : Nat) : Int)) (.int ((b.length : Nat) : Int)) = some (.int ((min a.length b.length : Nat) : Int)) := by
  show some (D.int (if ((b.length : Nat) : Int) < ((a.length : Nat) : Int) then ((b.length : Nat) : Int) else ((a.length : Nat) : Int))) = _
  congr 2
  split <;> omega

theorem restR_eq (a b : List Int) : optR (restR a b) = if agr a b then (if min a.length b.length < a.length then .tup [.str "first", .tup ((a.drop (min a.length b.length)).map .int)] else if min a.length b.length < b.length then .tup [.str "second", .tup ((b.drop (min a.length b.length)).map .int)] else evenD) else .none := by
  unfold restR
  split
  · show RR.D (if _ then _ else _) = _
    by_cases h1 : b.length < a.length
    · rw [if_pos h1, if_pos (by omega), show min a.length b.length = b.length by omega]; rfl
    · rw [if_neg h1, if_neg (show ¬ min a.length b.length < a.length by omega)]
      by_cases h2 : a.length < b.length
      · rw [if_pos h2, if_pos (by omega), show min a.length b.length = a.length by omega]; rfl
      · rw [if_neg h2, if_neg (by omega)]; rfl
  · rfl
theorem is_even_ok {l : Int} {one two : List (List Int)} : g_Pair_is_even [pairD l one two] = .ok (.bool (decide (((one.length : Nat) : Int) = ((two.length : Nat) : Int)))) := by
  show zOut (F_Pair_is_even [.a (pairD l one two)]) = _
  exact z_rt (s_ret (e_2 (e_1 (e_1 (e_a rfl) rfl) rfl) (e_1 (e_1 (e_a rfl) rfl) rfl) dEq_int))
def isRest2 (l : Int) : D → Bool
  | .tup [.str s, x] => isRowD x l && (if (s == "even") = true then (match x with
      | .tup xs => decide (xs.length = 0)
      | _ => false) else (s == "first" || s == "second") && (match x with
      | .tup xs => decide ((1 : Int) ≤ ((xs.length : Nat) : Int)) && decide (((xs.length : Nat) : Int) ≤ 5000)
      | _ => false))
  | _ => false
def fineS (x : D) : Prop := fine x ∧ ∀ s, x = .str s → PyData.strOk s = true
theorem rest2_of {l : Int} {r : RR} (h : r.ok l) (hz : r.w.length ≤ 5000) : isRest2 l r.D = true := by
  cases r with
  | ev =>
    show (true && (if (Str.ofString "even" == Str.ofString "even") = true then true else (Str.ofString "even" == Str.ofString "first" || Str.ofString "even" == Str.ofString "second") && (decide ((1 : Int) ≤ 0) && decide ((0 : Int) ≤ 5000)))) = true
    rw [if_pos (by decide +kernel)]; rfl
  | fi w =>
    show (allNum (w.map .int) l && (if (Str.ofString "first" == Str.ofString "even") = true then _ else (Str.ofString "first" == Str.ofString "first" || Str.ofString "first" == Str.ofString "second") && (decide ((1 : Int) ≤ (((w.map D.int).length : Nat) : Int)) && decide ((((w.map D.int).length : Nat) : Int) ≤ 5000)))) = true
    have := h.2
    have hz : w.length ≤ 5000 := hz
    rw [allNum_of h.1, if_neg (by decide +kernel), List.length_map, decide_eq_true (by omega), decide_eq_true (by omega), show (Str.ofString "first" == Str.ofString "first" || Str.ofString "first" == Str.ofString "second") = true by decide +kernel]
    rfl
  | se w =>
    show (allNum (w.map .int) l && (if (Str.ofString "second" == Str.ofString "even") = true then _ else (Str.ofString "second" == Str.ofString "first" || Str.ofString "second" == Str.ofString "second") && (decide ((1 : Int) ≤ (((w.map D.int).length : Nat) : Int)) && decide ((((w.map D.int).length : Nat) : Int) ≤ 5000)))) = true
    have := h.2
    have hz : w.length ≤ 5000 := hz
    rw [allNum_of h.1, if_neg (by decide +kernel), List.length_map, decide_eq_true (by omega), decide_eq_true (by omega), show (Str.ofString "second" == Str.ofString "first" || Str.ofString "second" == Str.ofString "second") = true by decide +kernel]
    rfl
theorem RR.fineD (r : RR) (h : r.w.length ≤ 1000000) : pln r.D = true ∧ ∀ xs, r.D = .tup xs → xs.length ≤ 1000000 ∧ ∀ x ∈ xs, fineS x := by
  have hs := r.tag_ok
  rw [RR.D_eq]
  exact ⟨rfl, fun xs e => by cases e; exact ⟨by simp, all1 ⟨fine_flat rfl rfl, fun s e => by cases e; exact hs⟩ (all1 ⟨fine_ints _ h, fun s e => by cases e⟩ all0)⟩⟩

def stepZ : Option RR → Rz
  | none => .ok .none
  | some r => if r.w.length ≤ 5000 then .ok r.D else .er "TooLong"

def runZ (one two : List (List Int)) : RR → List Int → Rz
  | r, [] => .ok r.D
  | r, x :: xs => match stepR (wdN one x) (wdN two x) r with
    | none => .ok .none
    | some r' => if r'.w.length ≤ 5000 then runZ one two r' xs else .er "TooLong"
end Lawk37
namespace Lawk37
open PySem Sm

def sd (b : Bool) : Str := if b then "first" else "second"
theorem dEq_sd (b : Bool) : dEq (.str (sd b)) (.str "first") = some (.bool b) := by
  cases b
  · exact (dEq_str (by decide +kernel) (by decide +kernel)).trans (congrArg (fun b => some (D.bool b)) (by decide +kernel))
  · exact (dEq_str (by decide +kernel) (by decide +kernel)).trans (congrArg (fun b => some (D.bool b)) (by decide +kernel))
def isRestD (l : Int) : D → Bool
  | .tup [.str s, x] => (s == "first" || s == "second") && isWordD x l
  | _ => false
theorem check_ok {l : Int} {one two : List (List Int)} (h1 : OkB l one) (h2 : OkB l two) (a1 : apart (one.map hdI) = true) (a2 : apart (two.map hdI) = true) : g_check_apart [pairD l one two] = .ok .none := by
  show zOut (F_check_apart [.a (pairD l one two)]) = _
  exact z_nx (s_skip (y_is (y_not (y_tru (e_meth (e_a rfl) rfl a_nil (is_apart_ok h1 h2)) rfl)) (by rw [a1, a2]; rfl)))
theorem check_bad {l : Int} {one two : List (List Int)} (h1 : OkB l one) (h2 : OkB l two) (a : (apart (one.map hdI) && apart (two.map hdI)) = false) : g_check_apart [pairD l one two] = .er "NotApart" := by
  show zOut (F_check_apart [.a (pairD l one two)]) = _
  exact z_er (ρ' := [.a (pairD l one two)]) (j_ifT (y_is (y_not (y_tru (e_meth (e_a rfl) rfl a_nil (is_apart_ok h1 h2)) rfl)) (by rw [a]; rfl)) rfl)

def begN (ws : List (List Int)) (x : Int) : Option Nat := ws.findIdx? fun w => hdI w == x
def numD : Option Nat → D
  | none => .none
  | some n => .int (n : Int)
theorem beg_lt {ws : List (List Int)} {x : Int} {n : Nat} (h : begN ws x = some n) : n < ws.length ∧ hdI (wdN ws (n : Int)) = x := by
  obtain ⟨hn, h1, _⟩ := List.findIdx?_eq_some_iff_getElem.mp h
  refine ⟨hn, ?_⟩
  unfold wdN
  rw [Int.toNat_natCast, List.getD_eq_getElem?_getD, List.getElem?_eq_getElem hn]
  exact beq_iff_eq.mp h1

def hit (ws : List (List Int)) (w : List Int) : Option Nat := match begN ws (hdI w) with
  | none => none
  | some n => if agr w (wdN ws (n : Int)) then some n else none
def ans (sb : Bool) (ws : List (List Int)) (w : List Int) : D := match hit ws w with
  | none => .none
  | some n => .tup [.int (n : Int), if sb = true then restP w (wdN ws (n : Int)) else restP (wdN ws (n : Int)) w]
theorem restP_none {a b : List Int} (h : ¬ agr a b) : restP a b = .none := by unfold restP; rw [if_neg h]
theorem restP_some {a b : List Int} (h : agr a b) : dIsN (restP a b) = some (.bool false) := by
  unfold restP; rw [if_pos h]
  split
  · rfl
  · split <;> rfl
theorem word_rest {l : Int} {w : List Int} (h : ∀ x ∈ w, 0 ≤ x ∧ x < l) (h1 : 1 ≤ w.length) (h2 : w.length ≤ 5000) : isWordD (.tup (w.map .int)) l = true := by
  show (allNum (w.map .int) l && (decide ((1 : Int) ≤ (((w.map D.int).length : Nat) : Int)) && decide ((((w.map D.int).length : Nat) : Int) ≤ 5000))) = true
  rw [allNum_of h, List.length_map, decide_eq_true (by omega), decide_eq_true (by omega)]
  rfl
end Lawk37
namespace Lawk37
open PySem Sm

abbrev Kn : Type := List (RR × Option RR × Nat)
inductive SRes where
  | row (w : List Int) | opn (n : Nat) | non (rs : List RR)
def SRes.D : SRes → D
  | .row w => .tup [.str "row", .tup (w.map .int)]
  | .opn n => .tup [.str "open", .int (n : Int)]
  | .non rs => .tup [.str "none", .tup (rs.map RR.D)]
def knK (kn : Kn) : List D := kn.map fun e => e.1.D
def knV (kn : Kn) : List D := kn.map fun e => .tup [optR e.2.1, .int (e.2.2 : Int)]
def rkey (r : RR) : NestedKey := .tup [.text r.tag, .tup (r.w.map .num)]
theorem nk_ints : ∀ ns : List Int, nkA (ns.map .int) = some (ns.map .num)
  | [] => rfl
  | n :: ns => by rw [List.map_cons, nkA, nk_ints ns]; rfl
theorem dep_nums : ∀ ns : List Int, NestedKey.depthAll (ns.map .num) = 0
  | [] => rfl
  | n :: ns => by rw [List.map_cons, NestedKey.depthAll, dep_nums ns]; rfl
theorem rkey_of (r : RR) : keyD r.D = some (rkey r) := by
  rw [RR.D_eq]
  show (nkD (.tup [.str r.tag, .tup (r.w.map .int)])).bind _ = _
  have e : nkD (.tup [.str r.tag, .tup (r.w.map .int)]) = some (rkey r) := by
    simp [nkD, nkA, nk_ints, rkey]
  rw [e]
  show (if (rkey r).depth ≤ 8 then some (rkey r) else none) = _
  rw [if_pos]
  simp [rkey, NestedKey.depth, NestedKey.depthAll, dep_nums]
theorem num_inj : ∀ {a b : List Int}, a.map NestedKey.num = b.map NestedKey.num → a = b
  | [], [], _ => rfl
  | [], _ :: _, h => by cases h
  | _ :: _, [], h => by cases h
  | x :: a, y :: b, h => by
    rw [List.map_cons, List.map_cons, List.cons.injEq, NestedKey.num.injEq] at h
    rw [h.1, num_inj h.2]
theorem tags_ne : Str.ofString "even" ≠ Str.ofString "first" ∧ Str.ofString "even" ≠ Str.ofString "second" ∧ Str.ofString "first" ≠ Str.ofString "second" := by decide +kernel
theorem rkey_inj {r r' : RR} (h : rkey r = rkey r') : r = r' := by
  unfold rkey at h
  rw [NestedKey.tup.injEq, List.cons.injEq, NestedKey.text.injEq, List.cons.injEq, NestedKey.tup.injEq] at h
  obtain ⟨h1, h2, _⟩ := h
  have h2 := num_inj h2
  obtain ⟨n1, n2, n3⟩ := tags_ne
  cases r <;> cases r' <;> first | rfl | exact absurd h1 n1 | exact absurd h1 n2 | exact absurd h1 n3 | exact absurd h1.symm n1 | exact absurd h1.symm n2 | exact absurd h1.symm n3 | exact congrArg RR.fi h2 | exact congrArg RR.se h2
def look (kn : Kn) (r : RR) : Option (Option RR × Nat) := (kn.find? fun e => decide (e.1 = r)).map (·.2)
theorem look_cons (e : RR × Option RR × Nat) (kn : Kn) (r : RR) : look (e :: kn) r = if e.1 = r then some e.2 else look kn r := by
  unfold look
  rw [List.find?_cons]
  by_cases h : e.1 = r
  · simp [h]
  · simp [h]
theorem look_kn (r : RR) : ∀ kn : Kn, lookD (knK kn) (knV kn) (rkey r) = (look kn r).map fun p => .tup [optR p.1, .int (p.2 : Int)]
  | [] => rfl
  | e :: kn => by
    show (if keyD e.1.D = some (rkey r) then some (D.tup [optR e.2.1, .int (e.2.2 : Int)]) else lookD (knK kn) (knV kn) (rkey r)) = _
    rw [rkey_of, look_cons, look_kn r kn]
    by_cases h : e.1 = r
    · rw [if_pos (by rw [h]), if_pos h]; rfl
    · rw [if_neg (fun z => h (rkey_inj (Option.some.inj z))), if_neg h]
theorem knK_len (kn : Kn) : (knK kn).length = kn.length := List.length_map ..
theorem put_kn {kn : Kn} {r : RR} {h : Option RR} {n : Nat} (e : look kn r = none) : putD (knK kn) (knV kn) (rkey r) r.D (.tup [optR h, .int (n : Int)]) = (knK (kn ++ [(r, h, n)]), knV (kn ++ [(r, h, n)])) := by
  unfold putD
  rw [look_kn, e]
  show (if (none : Option D).isSome = true then _ else _) = _
  rw [if_neg (by decide)]
  unfold knK knV
  rw [List.map_append, List.map_append]; rfl

inductive WayIs (kn : Kn) : Option RR → List Nat → Prop
  | no : WayIs kn none []
  | go {r : RR} {h : Option RR} {n : Nat} {l : List Nat} : look kn r = some (h, n) → WayIs kn h l → WayIs kn (some r) (l ++ [n])
def natD (n : Nat) : D := .int (n : Int)
def wayF (kn : Kn) : Nat → Option RR → List Nat
  | 0, _ => []
  | _ + 1, none => []
  | f + 1, some r => match look kn r with
    | none => []
    | some (h, n) => wayF kn f h ++ [n]

structure KnOk (l : Int) (kn : Kn) : Prop where
  back : ∀ (i : Nat) e, kn[i]? = some e → e.2.1 = none ∨ ∃ j, j < i ∧ ∃ e', kn[j]? = some e' ∧ e.2.1 = some e'.1
  nd : (kn.map (·.1)).Nodup
  ok : ∀ e ∈ kn, e.1.ok l ∧ e.1.w.length ≤ 5000
theorem look_at {l : Int} {kn : Kn} (h : KnOk l kn) {i : Nat} {e : RR × Option RR × Nat} (he : kn[i]? = some e) : look kn e.1 = some e.2 := by
  have nd := h.nd
  clear h
  induction kn generalizing i with
  | nil => simp at he
  | cons x kn ih =>
    rw [look_cons]
    rw [List.map_cons, List.nodup_cons] at nd
    cases i with
    | zero => cases he; rw [if_pos rfl]
    | succ i =>
      have he : kn[i]? = some e := he
      rw [if_neg (fun z => nd.1 (List.mem_map.mpr ⟨e, List.mem_of_getElem? he, z.symm⟩))]
      exact ih he nd.2
theorem way_at {l : Int} {kn : Kn} (h : KnOk l kn) : ∀ (f i : Nat) e, kn[i]? = some e → i < f → WayIs kn (some e.1) (wayF kn f (some e.1)) ∧ (wayF kn f (some e.1)).length ≤ i + 1
  | 0, i, _, _, hf => by omega
  | f + 1, i, e, he, hf => by
    have hl := look_at h he
    unfold wayF
    rw [hl]
    show WayIs kn (some e.1) (wayF kn f e.2.1 ++ [e.2.2]) ∧ (wayF kn f e.2.1 ++ [e.2.2]).length ≤ i + 1
    rcases h.back i e he with hb | ⟨j, hj, e', he', hb⟩
    · rw [hb]
      have e0 : wayF kn f none = [] := by cases f <;> rfl
      rw [e0]
      exact ⟨.go (by rw [hl, ← hb]) .no, by simp⟩
    · have ih := way_at h f j e' he' (by omega)
      rw [hb]
      exact ⟨.go (by rw [hl, ← hb]) ih.1, by rw [List.length_append, List.length_singleton]; omega⟩
def stepN (one two : List (List Int)) (h : Option RR) (n : Nat) : Option RR := stepR (wdN one (n : Int)) (wdN two (n : Int)) (h.getD .ev)
def inner (one two : List (List Int)) (most : Nat) (h : Option RR) : List Nat → Kn → Kn ⊕ SRes
  | [], kn => .inl kn
  | n :: ns, kn => match stepN one two h n with
    | none => inner one two most h ns kn
    | some .ev => .inr (.row ((wayF kn kn.length h ++ [n]).map fun n : Nat => (n : Int)))
    | some r => if (look kn r).isSome = true then inner one two most h ns kn else if kn.length = most ∨ 5000 < r.w.length then .inr (.opn kn.length) else inner one two most h ns (kn ++ [(r, h, n)])
def hereAt (kn : Kn) : Nat → Option RR
  | 0 => none
  | k + 1 => (kn[k]?).map (·.1)
def outer (one two : List (List Int)) (most : Nat) : Nat → Nat → Kn → SRes
  | 0, _, kn => .non (kn.map (·.1))
  | f + 1, i, kn => if i = kn.length + 1 then .non (kn.map (·.1)) else match inner one two most (hereAt kn i) (List.range one.length) kn with
    | .inl kn' => outer one two most f (i + 1) kn'
    | .inr r => r
def searchM (one two : List (List Int)) (most : Nat) : SRes := outer one two most (most + 1) 0 []
theorem KnOk.add {l : Int} {kn : Kn} (h : KnOk l kn) {r : RR} {q : Option RR} {n : Nat} (hr : r.ok l) (hz : r.w.length ≤ 5000) (hl : look kn r = none) (hq : q = none ∨ ∃ e ∈ kn, q = some e.1) : KnOk l (kn ++ [(r, q, n)]) := by
  refine ⟨fun i e he => ?_, ?_, fun e he => ?_⟩
  · by_cases hi : i < kn.length
    · rw [List.getElem?_append_left hi] at he
      rcases h.back i e he with hb | ⟨j, hj, e', he', hb⟩
      · exact .inl hb
      · exact .inr ⟨j, hj, e', by rw [List.getElem?_append_left (by omega)]; exact he', hb⟩
    · have hlen := (List.getElem?_eq_some_iff.mp he).1
      rw [List.length_append, List.length_singleton] at hlen
      have : i = kn.length := by omega
      subst this
      rw [List.getElem?_append_right (Nat.le_refl _), Nat.sub_self] at he
      cases he
      rcases hq with hq | ⟨e', he', hq⟩
      · exact .inl hq
      · obtain ⟨j, hj, hj2⟩ := List.getElem_of_mem he'
        exact .inr ⟨j, hj, e', by rw [List.getElem?_append_left hj, List.getElem?_eq_getElem hj, hj2], hq⟩
  · rw [List.map_append, List.nodup_append]
    refine ⟨h.nd, by simp, fun x hx y hy e => ?_⟩
    simp only [List.map_cons, List.map_nil, List.mem_singleton] at hy
    subst hy
    subst e
    obtain ⟨e, he, rfl⟩ := List.mem_map.mp hx
    unfold look at hl
    rw [Option.map_eq_none_iff, List.find?_eq_none] at hl
    have := hl e he
    simp at this
  · rcases List.mem_append.mp he with h' | h'
    · exact h.ok e h'
    · rw [List.mem_singleton] at h'
      subst h'
      exact ⟨hr, hz⟩
theorem eq_ev (q : Option RR) (hq : ∀ r, q = some r → r.w.length ≤ 1000000) : dEq (optR q) evenD = some (.bool (decide (q = some .ev))) := by
  cases q with
  | none =>
    obtain ⟨p, p', h1, h2, h3, _⟩ := dEq_py (n := 0) (m := 2) (a := .none) (b := evenD) rfl (by decide +kernel) (by decide) (by decide)
    show dEq .none evenD = _
    rw [h3]
    cases h1
    have : D.py evenD = some (.tuple [.str "even", .tuple []]) := rfl
    rw [this] at h2
    cases h2
    rfl
  | some r =>
    have sh : shD 2 r.D = true := by
      rw [RR.D_eq]
      show (PyData.strOk r.tag && (shA 0 (r.w.map .int) && true)) = true
      rw [r.tag_ok, shA_ints]; rfl
    obtain ⟨p, p', h1, h2, h3, _⟩ := dEq_py (n := 2) (m := 2) (a := r.D) (b := evenD) sh (by decide +kernel) (by decide) (by decide)
    show dEq r.D evenD = _
    rw [h3]
    have e2 : D.py evenD = some (.tuple [.str "even", .tuple []]) := rfl
    rw [e2] at h2
    cases h2
    have e1 : D.py r.D = some (.tuple [.str r.tag, .tuple (r.w.map .int)]) := by
      rw [RR.D_eq]
      show (pyA [.str r.tag, .tup (r.w.map .int)]).map PyData.tuple = _
      simp [pyA, D.py, py_ints]
    rw [e1] at h1
    cases h1
    obtain ⟨n1, n2, n3⟩ := tags_ne
    cases r with
    | ev => simp [PyData.eqv, PyData.eqvAll, RR.tag, RR.w]
    | fi w => simp [PyData.eqv, PyData.eqvAll, RR.tag, RR.w, Ne.symm n1]
    | se w => simp [PyData.eqv, PyData.eqvAll, RR.tag, RR.w, Ne.symm n2]
theorem optR_isN (q : Option RR) : dIsN (optR q) = some (.bool q.isNone) := by
  cases q with
  | none => rfl
  | some r => cases r <;> rfl
theorem optR_notN (q : Option RR) : dNotN (optR q) = some (.bool q.isSome) := by
  unfold dNotN; rw [optR_isN]; cases q <;> rfl
theorem seq_for {src : Sm.Env → Sm.R (List Sv)} {gg : Sv → Sm.Env → Sm.R Sm.Env} {F G : Sm.Env → Sm.Out} {items : List Sv} {ρ : Sm.Env} (h : src ρ = .ok items) : xSeq (xFor src gg F) G ρ = match loopL gg F items ρ with | .nx ρ => G ρ | o => o := by
  unfold xSeq
  rw [s_for h]
  try (cases loopL gg F items ρ <;> rfl)
section
variable {l : Int} {one two : List (List Int)} {most : Nat}
def sEnv (l : Int) (one two : List (List Int)) (most : Nat) (kn : Kn) (o4 o5 o6 o7 o8 : Sv) : Sm.Env := [.a (pairD l one two), .a (.int (most : Int)), .k (knK kn) (knV kn), .m (.none :: knK kn), o4, o5, o6, o7, o8]
def hereOk (l : Int) (kn : Kn) (h : Option RR) : Prop := h = none ∨ ∃ e ∈ kn, h = some e.1
theorem hereOk.ok {kn : Kn} {h : Option RR} (hh : hereOk l kn h) (hk : KnOk l kn) : (h.getD .ev).ok l ∧ (h.getD .ev).w.length ≤ 5000 := by
  rcases hh with rfl | ⟨e, he, rfl⟩
  · exact ⟨trivial, Nat.zero_le _⟩
  · exact hk.ok e he
theorem hereOk.more {kn : Kn} {h : Option RR} {x : RR × Option RR × Nat} (hh : hereOk l kn h) : hereOk l (kn ++ [x]) h := by
  rcases hh with rfl | ⟨e, he, rfl⟩
  · exact .inl rfl
  · exact .inr ⟨e, by simp [he], rfl⟩
theorem rg_nat (a n : Nat) : rgS (a : Int) ((a + n : Nat) : Int) = sD ((List.range' a n).map natD) := by
  unfold rgS rgD
  congr 1
  rw [show (((a + n : Nat) : Int) - (a : Int)).toNat = n by omega, List.range'_eq_map_range, List.map_map]
  refine List.map_congr_left fun k _ => ?_
  show D.int ((a : Int) + (k : Int)) = D.int ((a + k : Nat) : Int)
  rw [Int.natCast_add]
end
end Lawk37
namespace Lawk37
open PySem Sm

section
variable {ρ ρ' : Sm.Env} {f fa fb : Sm.Env → Sm.R D} {F G : Sm.Env → Sm.Out} {e c : Str} {i : Nat} {d : D}
theorem s_fldE {n m : Str} (h : f ρ = .er e) : xFldS i n m f ρ = .er e ρ := by unfold xFldS xOut; rw [h]
theorem s_unE {gg : Sv → Sm.Env → Sm.R Sm.Env} (h : f ρ = .er e) : xUn gg f ρ = .er e ρ := by unfold xUn xOut; rw [h]
theorem e_1E {g : D → Option D} (h : f ρ = .er e) : x1 g f ρ = .er e := by unfold x1; rw [h]; rfl
theorem e_2E {g : D → D → Option D} (h : fa ρ = .er e) : x2 g fa fb ρ = .er e := by unfold x2; rw [h]; rfl
theorem e_andE (h : fa ρ = .er e) : xAnd fa fb ρ = .er e := by unfold xAnd; rw [h]; rfl
theorem e_2E2 {g : D → D → Option D} (h : fa ρ = .ok d) (h2 : fb ρ = .er e) : x2 g fa fb ρ = .er e := by unfold x2; rw [h]; show (fb ρ).bind _ = _; rw [h2]; rfl
theorem y_TE (h : f ρ = .er e) : yT f ρ = .er e := by unfold yT; rw [h]; rfl
theorem s_ifE {t : Sm.Env → Sm.R Bool} (h : t ρ = .er e) : xIfS t F G ρ = .er e ρ := by unfold xIfS xOutT; rw [h]
theorem e_onL {g : List D → D → Option D} {xs : List D} {b : D} (ha : fa ρ = .ok (.list xs)) (hb : fb ρ = .ok b) (h : g xs b = some d) : xOnL g fa fb ρ = .ok d := by
  unfold xOnL; rw [ha]; show (fb ρ).bind _ = _; rw [hb]; show R.of (g xs b) = _; rw [h]; rfl
theorem e_pick {gs : List (List D → Rz)} {fr : Sm.Env → Sm.R (List D)} {k : Int} {j : Nat} {g : List D → Rz} {ds : List D} (hb : fb ρ = .ok (.int k)) (hj : L2.ixN gs.length k = some j) (hg : gs[j]? = some g) (hr : fr ρ = .ok ds) : xPick gs fb fr ρ = (g ds).r := by
  unfold xPick; rw [hb]; show (match L2.ixN gs.length k with | some k => _ | none => _) = _; rw [hj]; dsimp only; rw [hg]; dsimp only; rw [hr]; rfl
end
theorem in_strs (w : Str) (ws : List Str) : dIn (.str w) (.tup (ws.map .str)) = some (.bool (ws.any fun y => y == w)) := by
  have h0 : dIn0 (.str w) (.tup (ws.map .str)) = some (.bool (ws.any fun y => y == w)) := by
    unfold dIn0 itemsD
    have ha : (ws.map D.str).all flatDD = true := by rw [List.all_map]; exact List.all_eq_true.mpr fun _ _ => rfl
    show (if flatDD (.str w) = true ∧ (ws.map D.str).all flatDD = true then _ else none) = _
    rw [if_pos ⟨rfl, ha⟩, List.any_map]
    all_goals first | (congr 3; done) | (congr 3; funext y; simp [eqFlat, D.py, PyData.eqv])
  show (match dIn0 (.str w) (.tup (ws.map .str)) with | some d => some d | none => _) = _
  rw [h0]
theorem idx_strs (w : Str) (ws : List Str) : gIdx (ws.map .str) (.str w) = (ws.findIdx? fun y => y == w).map fun j => .int (j : Nat) := by
  have ha : (ws.map D.str).all flatDD = true := by rw [List.all_map]; exact List.all_eq_true.mpr fun _ _ => rfl
  unfold gIdx
  rw [if_pos ⟨rfl, ha⟩, List.findIdx?_map]
  all_goals first | (congr 2; done) | (congr 2; funext y; simp [eqFlat, D.py, PyData.eqv])

def cOf (b : Bool) : Str := if b = true then "BadBook" else "NotApart"
def dueOf (b : Bool) : Str := if b = true then "book" else "apart"
structure Bad (b : Bool) (l : Int) (one two : List (List Int)) : Prop where
  h1 : OkB l one
  h2 : OkB l two
  ne : b = true → one.length ≠ two.length
  ev : b = false → one.length = two.length
  ap : b = false → (apart (one.map hdI) && apart (two.map hdI)) = false
section
variable {b : Bool} {l : Int} {one two : List (List Int)}
theorem even_bad (h : one.length ≠ two.length) : g_check_even [pairD l one two] = .er "BadBook" := by
  show zOut (F_check_even [.a (pairD l one two)]) = _
  exact z_er (ρ' := [.a (pairD l one two)]) (j_ifT (y_is (y_not (y_tru (e_meth (e_a rfl) rfl a_nil is_even_ok) rfl)) (by rw [decide_eq_false (by omega)]; rfl)) rfl)
theorem even_ok (h : one.length = two.length) : g_check_even [pairD l one two] = .ok .none := by
  show zOut (F_check_even [.a (pairD l one two)]) = _
  unfold F_check_even
  rw [s_skip (y_is (y_not (y_tru (e_meth (e_a rfl) rfl a_nil is_even_ok) rfl)) (by rw [decide_eq_true (by omega)]; rfl))]; rfl
theorem pair_bad (h : Bad b l one two) : g_check_pair [pairD l one two] = .er (cOf b) := by
  show zOut (F_check_pair [.a (pairD l one two)]) = _
  refine z_er (ρ' := [.a (pairD l one two)]) ?_
  unfold F_check_pair
  cases b with
  | true => exact q_er (s_dropE (e_callE (a_cons (e_a rfl) a_nil) (even_bad (h.ne rfl))))
  | false => exact k_drop (e_call (a_cons (e_a rfl) a_nil) (even_ok (h.ev rfl))) (s_dropE (e_callE (a_cons (e_a rfl) a_nil) (check_bad h.h1 h.h2 (h.ap rfl))))
variable (h : Bad b l one two) (u v : D)
include h
theorem lesser_bad : g_lesser [pairD l one two] = .er (cOf b) := by
  show zOut (F_lesser [.a (pairD l one two), .no, .no, .no, .no, .no, .no]) = _
  exact z_er (ρ' := [.a (pairD l one two), .no, .no, .no, .no, .no, .no]) (q_er (s_dropE (e_callE (a_cons (e_a rfl) a_nil) (pair_bad h))))
theorem chain_bad : g_chain [pairD l one two] = .er (cOf b) := by
  show zOut (F_chain [.d (pairD l one two), .no, .no]) = _
  exact z_er (ρ' := [.d (pairD l one two), .no, .no]) (q_er (s_dropE (e_callE (a_cons (e_f rfl) a_nil) (pair_bad h))))
theorem letters_bad : g_alike_letters [pairD l one two] = .er (cOf b) := by
  show zOut (F_alike_letters [.a (pairD l one two), .no]) = _
  exact z_er (ρ' := [.a (pairD l one two), .no]) (q_er (s_dropE (e_callE (a_cons (e_a rfl) a_nil) (pair_bad h))))
theorem far_bad : g_Far___init__ [pairD l one two] = .er (cOf b) := by
  show zInit (F_Far___init__ [.o "Far" [] [], .d (pairD l one two), .no, .no, .no, .no, .no, .no, .no, .no, .no, .no, .no, .no]) = _
  exact i_er (ρ' := [.o "Far" [] [], .d (pairD l one two), .no, .no, .no, .no, .no, .no, .no, .no, .no, .no, .no, .no]) (q_er (s_unE (e_callE (a_cons (e_f rfl) a_nil) (chain_bad h))))
theorem primes_bad : g_primes [pairD l one two] = .er (cOf b) := by
  show zOut (F_primes [.d (pairD l one two), .no, .no]) = _
  exact z_er (ρ' := [.d (pairD l one two), .no, .no]) (q_er (s_setE (e_callE (a_cons (e_f rfl) a_nil) (far_bad h))))
theorem made_bad : g_row_made [pairD l one two, v] = .er (cOf b) := by
  show zOut (F_row_made [.d (pairD l one two), .a v, .no, .no, .no]) = _
  exact z_er (ρ' := [.d (pairD l one two), .a v, .no, .no, .no]) (q_er (s_setE (e_callE (a_cons (e_f rfl) a_nil) (far_bad h))))
theorem inp_bad : g_in_primes [pairD l one two, v] = .er (cOf b) := by
  show zOut (F_in_primes [.d (pairD l one two), .a v, .no, .no, .no, .no, .no, .no]) = _
  exact z_er (ρ' := [.d (pairD l one two), .a v, .no, .no, .no, .no, .no, .no]) (q_er (s_unE (e_callE (a_cons (e_f rfl) a_nil) (chain_bad h))))
theorem cnts_bad : g_Counts___init__ [pairD l one two] = .er (cOf b) := by
  show zInit (F_Counts___init__ [.o "Counts" [] [], .d (pairD l one two), .no]) = _
  exact i_er (ρ' := [.o "Counts" [] [], .d (pairD l one two), .no]) (q_er (s_fldE (e_callE (a_cons (e_f rfl) a_nil) (far_bad h))))
theorem lens_bad : g_prime_lengths [pairD l one two] = .er (cOf b) := by
  show zOut (F_prime_lengths [.d (pairD l one two), .no, .no]) = _
  exact z_er (ρ' := [.d (pairD l one two), .no, .no]) (q_er (s_setE (e_1E (e_callE (a_cons (e_f rfl) a_nil) (cnts_bad h)))))
theorem least_bad : g_least [pairD l one two] = .er (cOf b) := by
  show zOut (F_least [.d (pairD l one two), .no, .no]) = _
  exact z_er (ρ' := [.d (pairD l one two), .no, .no]) (q_er (s_setE (e_callE (a_cons (e_f rfl) a_nil) (cnts_bad h))))
theorem betw_bad : g_between [pairD l one two, u, v] = .er (cOf b) := by
  show zOut (F_between [.d (pairD l one two), .a u, .a v, .no, .no, .no]) = _
  exact z_er (ρ' := [.d (pairD l one two), .a u, .a v, .no, .no, .no]) (q_er (s_setE (e_callE (a_cons (e_f rfl) a_nil) (cnts_bad h))))
theorem counts_bad : g_counts [pairD l one two, v] = .er (cOf b) := by
  show zOut (F_counts [.d (pairD l one two), .a v, .no, .no]) = _
  exact z_er (ρ' := [.d (pairD l one two), .a v, .no, .no]) (q_er (s_setE (e_callE (a_cons (e_f rfl) a_nil) (cnts_bad h))))
theorem cntat_bad : g_count_at [pairD l one two, v] = .er (cOf b) := by
  show zOut (F_count_at [.d (pairD l one two), .a v, .no, .no, .no, .no, .no, .no, .no]) = _
  exact z_er (ρ' := [.d (pairD l one two), .a v, .no, .no, .no, .no, .no, .no, .no]) (q_er (s_setE (e_callE (a_cons (e_f rfl) a_nil) (cnts_bad h))))
theorem rowat_bad : g_row_at [pairD l one two, v] = .er (cOf b) := by
  show zOut (F_row_at [.d (pairD l one two), .a v, .no, .no, .no, .no, .no]) = _
  exact z_er (ρ' := [.d (pairD l one two), .a v, .no, .no, .no, .no, .no]) (q_er (s_setE (e_callE (a_cons (e_f rfl) a_nil) (cnts_bad h))))
theorem numof_bad : g_number_of [pairD l one two, v] = .er (cOf b) := by
  show zOut (F_number_of [.d (pairD l one two), .a v, .no]) = _
  exact z_er (ρ' := [.d (pairD l one two), .a v, .no]) (q_er (s_setE (e_callE (a_cons (e_f rfl) a_nil) (cnts_bad h))))
end

def wsA : List Str := ["lesser", "chain", "letters"]
def wsB : List Str := ["primes", "lengths", "least"]
def wsC : List Str := ["in", "made", "alike", "counts", "count", "row", "number"]
section
variable {w : Str} {p v : D} {c : Str}
theorem inA {x : Bool} (h : (wsA.any fun y => y == w) = x) : yT (x2 dIn (xF 0) (xTup (aCons (xC (.str "lesser")) (aCons (xC (.str "chain")) (aCons (xC (.str "letters")) aNil))))) [.d (.str w), .d p, .d v, .no] = .ok x :=
  y_is (y_T (e_2 (e_f rfl) (e_tup (a_cons e_c (a_cons e_c (a_cons e_c a_nil))) (by simp)) (in_strs w wsA))) h
theorem inB {x : Bool} (h : (wsB.any fun y => y == w) = x) : yT (x2 dIn (xF 0) (xTup (aCons (xC (.str "primes")) (aCons (xC (.str "lengths")) (aCons (xC (.str "least")) aNil))))) [.d (.str w), .d p, .d v, .no] = .ok x :=
  y_is (y_T (e_2 (e_f rfl) (e_tup (a_cons e_c (a_cons e_c (a_cons e_c a_nil))) (by simp)) (in_strs w wsB))) h
theorem isW {u : Str} {x : Bool} (h : PyData.strOk w = true ∧ PyData.strOk u = true) (e : (w == u) = x) : yT (x2 dEq (xF 0) (xC (.str u))) [.d (.str w), .d p, .d v, .no] = .ok x := y_T (e_2 (e_f rfl) e_c (strEq h.1 h.2 e))
theorem askA {j : Nat} {g : List D → Rz} (h1 : (wsA.any fun y => y == w) = true) (h2 : (wsA.findIdx? fun y => y == w) = some j) (hj : L2.ixN 3 (j : Int) = some j) (hg : [g_lesser, g_chain, g_alike_letters][j]? = some g) (h : g [p] = .er c) :
    g__law_asked [.str w, p, v] = .er c := by
  show zOut (F__law_asked [.d (.str w), .d p, .d v, .no]) = _
  refine z_er (ρ' := [.d (.str w), .d p, .d v, .no]) ?_
  unfold F__law_asked
  refine q_er (j_ifT (inA h1) (s_retE ?_))
  exact (e_pick (gs := [g_lesser, g_chain, g_alike_letters]) (k := (j : Int)) (j := j) (e_onL (xs := wsA.map .str) (e_L (n_lst (a_cons e_c (a_cons e_c (a_cons e_c a_nil))) (by decide))) (e_f rfl) (by rw [idx_strs, h2]; rfl)) hj hg (a_cons (e_f rfl) a_nil)).trans (by rw [h]; rfl)
theorem askB {j : Nat} {g : List D → Rz} (h1 : (wsA.any fun y => y == w) = false) (h0 : PyData.strOk w = true ∧ (w == "far") = false) (h3 : (wsB.any fun y => y == w) = true) (h2 : (wsB.findIdx? fun y => y == w) = some j) (hj : L2.ixN 3 (j : Int) = some j) (hg : [g_primes, g_prime_lengths, g_least][j]? = some g) (h : g [p] = .er c) :
    g__law_asked [.str w, p, v] = .er c := by
  show zOut (F__law_asked [.d (.str w), .d p, .d v, .no]) = _
  refine z_er (ρ' := [.d (.str w), .d p, .d v, .no]) ?_
  unfold F__law_asked
  refine k_skip (inA h1) (k_skip (isW ⟨h0.1, by decide +kernel⟩ h0.2) (q_er (j_ifT (inB h3) (s_retE ?_))))
  exact (e_pick (gs := [g_primes, g_prime_lengths, g_least]) (k := (j : Int)) (j := j) (e_onL (xs := wsB.map .str) (e_L (n_lst (a_cons e_c (a_cons e_c (a_cons e_c a_nil))) (by decide))) (e_f rfl) (by rw [idx_strs, h2]; rfl)) hj hg (a_cons (e_f rfl) a_nil)).trans (by rw [h]; rfl)
theorem askFar (h : g_Far___init__ [p] = .er c) : g__law_asked [.str "far", p, v] = .er c := by
  show zOut (F__law_asked [.d (.str "far"), .d p, .d v, .no]) = _
  refine z_er (ρ' := [.d (.str "far"), .d p, .d v, .no]) ?_
  unfold F__law_asked
  exact k_skip (inA (by decide +kernel)) (q_er (j_ifT (isW ⟨by decide +kernel, by decide +kernel⟩ (by decide +kernel)) (s_retE (e_callE (a_cons (e_f rfl) a_nil) h))))
theorem askBet (h : g_between [p, v, v] = .er c) : g__law_asked [.str "between", p, v] = .er c := by
  show zOut (F__law_asked [.d (.str "between"), .d p, .d v, .no]) = _
  refine z_er (ρ' := [.d (.str "between"), .d p, .d v, .no]) ?_
  unfold F__law_asked
  exact k_skip (inA (by decide +kernel)) (k_skip (isW ⟨by decide +kernel, by decide +kernel⟩ (by decide +kernel)) (k_skip (inB (by decide +kernel)) (q_er (j_ifT (isW ⟨by decide +kernel, by decide +kernel⟩ (by decide +kernel)) (s_retE (e_callE (a_cons (e_f rfl) (a_cons (e_f rfl) (a_cons (e_f rfl) a_nil))) h))))))
theorem askC' {j : Nat} {g : List D → Rz} {x : Sm.R D} (h0 : PyData.strOk w = true ∧ (w == "far") = false ∧ (w == "between") = false) (h1 : (wsA.any fun y => y == w) = false) (h3 : (wsB.any fun y => y == w) = false) (h2 : (wsC.findIdx? fun y => y == w) = some j) (hj : L2.ixN 7 (j : Int) = some j)
    (hg : [g_in_primes, g_row_made, g_is_alike, g_counts, g_count_at, g_row_at, g_number_of][j]? = some g) (h : (g [p, v]).r = x) :
    F__law_asked [.d (.str w), .d p, .d v, .no] = xRet (fun _ => x) [.d (.str w), .d p, .d v, .d (.list (wsC.map .str))] := by
  unfold F__law_asked
  refine k_skip (inA h1) (k_skip (isW ⟨h0.1, by decide +kernel⟩ h0.2.1) (k_skip (inB h3) (k_skip (isW ⟨h0.1, by decide +kernel⟩ h0.2.2) ?_)))
  refine k_set (d := .list (wsC.map .str)) (e_L (n_lst (xs := wsC.map .str) (a_cons e_c (a_cons e_c (a_cons e_c (a_cons e_c (a_cons e_c (a_cons e_c (a_cons e_c a_nil))))))) (by decide))) ?_
  walk_at "env"
  have : xPick [g_in_primes, g_row_made, g_is_alike, g_counts, g_count_at, g_row_at, g_number_of] (xOnL gIdx (xF 3) (xF 0)) (aCons (xF 1) (aCons (xF 2) aNil)) [.d (.str w), .d p, .d v, .d (.list (wsC.map .str))] = x :=
    (e_pick (gs := [g_in_primes, g_row_made, g_is_alike, g_counts, g_count_at, g_row_at, g_number_of]) (k := (j : Int)) (j := j) (e_onL (xs := wsC.map .str) (b := .str w) (e_f rfl) (e_f rfl) (by rw [idx_strs, h2]; rfl)) hj hg (a_cons (e_f rfl) (a_cons (e_f rfl) a_nil))).trans h
  unfold xRet xOut
  rw [this]
theorem askC {j : Nat} {g : List D → Rz} (h0 : PyData.strOk w = true ∧ (w == "far") = false ∧ (w == "between") = false) (h1 : (wsA.any fun y => y == w) = false) (h3 : (wsB.any fun y => y == w) = false) (h2 : (wsC.findIdx? fun y => y == w) = some j) (hj : L2.ixN 7 (j : Int) = some j)
    (hg : [g_in_primes, g_row_made, g_is_alike, g_counts, g_count_at, g_row_at, g_number_of][j]? = some g) (h : g [p, v] = .er c) : g__law_asked [.str w, p, v] = .er c := by
  show zOut (F__law_asked [.d (.str w), .d p, .d v, .no]) = _
  rw [askC' h0 h1 h3 h2 hj hg (x := .er c) (by rw [h]; rfl)]; rfl
theorem askAl {d : D} (h : g_is_alike [p, v] = .ok d) : g__law_asked [.str "alike", p, v] = .ok d := by
  show zOut (F__law_asked [.d (.str "alike"), .d p, .d v, .no]) = _
  rw [askC' (j := 2) (g := g_is_alike) ⟨by decide +kernel, by decide +kernel, by decide +kernel⟩ (by decide +kernel) (by decide +kernel) (by decide +kernel) (by decide +kernel) rfl (x := .ok d) (by rw [h]; rfl)]; rfl
theorem askAlE (h : g_is_alike [p, v] = .er c) : g__law_asked [.str "alike", p, v] = .er c :=
  askC (j := 2) (g := g_is_alike) ⟨by decide +kernel, by decide +kernel, by decide +kernel⟩ (by decide +kernel) (by decide +kernel) (by decide +kernel) (by decide +kernel) rfl h
end

def okX : List Str := ["BadBook", "BadNumber", "BadRow", "BadLetter", "NotApart", "TooLong"]
theorem told_ok37 {w p v d : D} (h : g__law_asked [w, p, v] = .ok d) : g__law_told [w, p, v] = .ok d := by
  show zOut (F__law_told [.d w, .d p, .d v, .no, .no]) = _
  exact z_rt (s_tryR (s_ret (e_call (a_cons (e_f rfl) (a_cons (e_f rfl) (a_cons (e_f rfl) a_nil))) h)))
theorem isX_37 {ρ : Sm.Env} {i : Nat} {e : Str} {all yes : List Str} {b : Bool} (h : ρ[i]? = some (.x e)) (z : all.contains e = true) (y : yes.contains e = b) : xIsX i all yes ρ = .ok (.bool b) := y ▸ e_isX h z
theorem told_er37 {w p v : D} {c due : Str} {j : Nat} (h : g__law_asked [w, p, v] = .er c) (hx : okX.contains c = true) {b0 b1 b2 b3 b4 : Bool} (h0 : (["BadBook"] : List Str).contains c = b0) (h1 : (["NotApart"] : List Str).contains c = b1) (h2 : (["BadRow"] : List Str).contains c = b2) (h3 : (["BadNumber"] : List Str).contains c = b3) (h4 : (["TooLong"] : List Str).contains c = b4)
    (hc : gCnt [.bool b0, .bool b1, .bool b2, .bool b3, .bool b4] (.bool true) = some (.int 1)) (hi : gIdx [.bool b0, .bool b1, .bool b2, .bool b3, .bool b4] (.bool true) = some (.int (j : Nat))) (hd : dIx (.list [.str "book", .str "apart", .str "row", .str "number", .str "long"]) (.int (j : Nat)) = some (.str due)) :
    g__law_told [w, p, v] = .ok (.tup [.str "refused", .str due]) := by
  show zOut (F__law_told [.d w, .d p, .d v, .no, .no]) = _
  refine z_rt (s_tryE (e := c) (ρ' := [.d w, .d p, .d v, .no, .no]) (s_retE (e_callE (a_cons (e_f rfl) (a_cons (e_f rfl) (a_cons (e_f rfl) a_nil))) h)) ⟨hx, rfl, by simp⟩ ?_)
  walk_at "env"
  refine k_set (d := .list [.bool b0, .bool b1, .bool b2, .bool b3, .bool b4]) (e_L (n_lst (a_cons (isX_37 rfl hx h0) (a_cons (isX_37 rfl hx h1) (a_cons (isX_37 rfl hx h2) (a_cons (isX_37 rfl hx h3) (a_cons (isX_37 rfl hx h4) a_nil))))) (by simp))) ?_
  walk_at "env"
  exact s_ret (e_tup (a_cons e_c (a_cons (e_ifT (y_is (y_T (e_2 (e_onL (e_f rfl) e_c hc) e_c dEq_int)) (by decide)) (e_ixL (n_lst (a_cons e_c (a_cons e_c (a_cons e_c (a_cons e_c (a_cons e_c a_nil))))) (by simp)) (e_onL (e_f rfl) e_c hi) hd)) a_nil)) (by simp))
section
variable {w p v : D}
theorem told_book (h : g__law_asked [w, p, v] = .er "BadBook") : g__law_told [w, p, v] = .ok (.tup [.str "refused", .str "book"]) :=
  told_er37 (j := 0) h (by decide +kernel) (b0 := true) (b1 := false) (b2 := false) (b3 := false) (b4 := false) (by decide +kernel) (by decide +kernel) (by decide +kernel) (by decide +kernel) (by decide +kernel) rfl rfl rfl
theorem told_apart (h : g__law_asked [w, p, v] = .er "NotApart") : g__law_told [w, p, v] = .ok (.tup [.str "refused", .str "apart"]) :=
  told_er37 (j := 1) h (by decide +kernel) (b0 := false) (b1 := true) (b2 := false) (b3 := false) (b4 := false) (by decide +kernel) (by decide +kernel) (by decide +kernel) (by decide +kernel) (by decide +kernel) rfl rfl rfl
theorem told_row37 (h : g__law_asked [w, p, v] = .er "BadRow") : g__law_told [w, p, v] = .ok (.tup [.str "refused", .str "row"]) :=
  told_er37 (j := 2) h (by decide +kernel) (b0 := false) (b1 := false) (b2 := true) (b3 := false) (b4 := false) (by decide +kernel) (by decide +kernel) (by decide +kernel) (by decide +kernel) (by decide +kernel) rfl rfl rfl
theorem told_long37 (h : g__law_asked [w, p, v] = .er "TooLong") : g__law_told [w, p, v] = .ok (.tup [.str "refused", .str "long"]) :=
  told_er37 (j := 4) h (by decide +kernel) (b0 := false) (b1 := false) (b2 := false) (b3 := false) (b4 := true) (by decide +kernel) (by decide +kernel) (by decide +kernel) (by decide +kernel) (by decide +kernel) rfl rfl rfl
theorem told_c {b : Bool} (h : g__law_asked [w, p, v] = .er (cOf b)) : g__law_told [w, p, v] = .ok (.tup [.str "refused", .str (dueOf b)]) := by
  cases b with
  | true => exact told_book h
  | false => exact told_apart h
end
def words14 : List Str := ["lesser", "chain", "letters", "primes", "far", "lengths", "least", "in", "made", "counts", "count", "row", "number", "between"]
theorem told_14 {b : Bool} {l : Int} {one two : List (List Int)} (h : Bad b l one two) (v : D) : ∀ w ∈ words14, g__law_told [.str w, pairD l one two, v] = .ok (.tup [.str "refused", .str (dueOf b)]) := by
  refine all1 ?_ (all1 ?_ (all1 ?_ (all1 ?_ (all1 ?_ (all1 ?_ (all1 ?_ (all1 ?_ (all1 ?_ (all1 ?_ (all1 ?_ (all1 ?_ (all1 ?_ (all1 ?_ all0)))))))))))))
  · exact told_c (askA (j := 0) (by decide +kernel) (by decide +kernel) (by decide) rfl (lesser_bad h))
  · exact told_c (askA (j := 1) (by decide +kernel) (by decide +kernel) (by decide) rfl (chain_bad h))
  · exact told_c (askA (j := 2) (by decide +kernel) (by decide +kernel) (by decide) rfl (letters_bad h))
  · exact told_c (askB (j := 0) (by decide +kernel) ⟨by decide +kernel, by decide +kernel⟩ (by decide +kernel) (by decide +kernel) (by decide) rfl (primes_bad h))
  · exact told_c (askFar (far_bad h))
  · exact told_c (askB (j := 1) (by decide +kernel) ⟨by decide +kernel, by decide +kernel⟩ (by decide +kernel) (by decide +kernel) (by decide) rfl (lens_bad h))
  · exact told_c (askB (j := 2) (by decide +kernel) ⟨by decide +kernel, by decide +kernel⟩ (by decide +kernel) (by decide +kernel) (by decide) rfl (least_bad h))
  · exact told_c (askC (j := 0) ⟨by decide +kernel, by decide +kernel, by decide +kernel⟩ (by decide +kernel) (by decide +kernel) (by decide +kernel) (by decide) rfl (inp_bad h v))
  · exact told_c (askC (j := 1) ⟨by decide +kernel, by decide +kernel, by decide +kernel⟩ (by decide +kernel) (by decide +kernel) (by decide +kernel) (by decide) rfl (made_bad h v))
  · exact told_c (askC (j := 3) ⟨by decide +kernel, by decide +kernel, by decide +kernel⟩ (by decide +kernel) (by decide +kernel) (by decide +kernel) (by decide) rfl (counts_bad h v))
  · exact told_c (askC (j := 4) ⟨by decide +kernel, by decide +kernel, by decide +kernel⟩ (by decide +kernel) (by decide +kernel) (by decide +kernel) (by decide) rfl (cntat_bad h v))
  · exact told_c (askC (j := 5) ⟨by decide +kernel, by decide +kernel, by decide +kernel⟩ (by decide +kernel) (by decide +kernel) (by decide +kernel) (by decide) rfl (rowat_bad h v))
  · exact told_c (askC (j := 6) ⟨by decide +kernel, by decide +kernel, by decide +kernel⟩ (by decide +kernel) (by decide +kernel) (by decide +kernel) (by decide) rfl (numof_bad h v))
  · exact told_c (askBet (betw_bad h v v))

section
variable {l : Int} {one two : List (List Int)} {v : D}
theorem length_badrow (hf : fine v) (hr : isRowD v ((one.length : Nat) : Int) = false) : g_Book_length [bookD l one, v] = .er "BadRow" := by
  show zOut (F_Book_length [.a (bookD l one), .a v, .no]) = _
  refine z_er (ρ' := [.a (bookD l one), .a v, .no]) ?_
  unfold F_Book_length
  exact q_er (j_ifT (y_is (y_not (y_tru (e_call (a_cons (e_a rfl) (a_cons (e_1 (e_a rfl) rfl) a_nil)) (are_letters_ok _ ((one.length : Nat) : Int) hf)) rfl)) (by rw [hr]; rfl)) rfl)
theorem read_badrow (hf : fine v) (hr : isRowD v ((one.length : Nat) : Int) = false) : g_Book_read [bookD l one, v] = .er "BadRow" := by
  show zOut (F_Book_read [.a (bookD l one), .a v, .no, .no]) = _
  refine z_er (ρ' := [.a (bookD l one), .a v, .no, .no]) ?_
  unfold F_Book_read
  exact q_er (s_ifE (y_TE (e_2E (e_methE (e_a rfl) rfl (a_cons (e_a rfl) a_nil) (length_badrow hf hr)))))
theorem read_toolong {r : List Int} (hr : okRow one r) (hz : r.length ≤ 1000000) (hl : 100000 < (readW one r).length) : g_Book_read [bookD l one, .tup (r.map .int)] = .er "TooLong" := by
  show zOut (F_Book_read [.a (bookD l one), .a (.tup (r.map .int)), .no, .no]) = _
  refine z_er (ρ' := [.a (bookD l one), .a (.tup (r.map .int)), .no, .no]) ?_
  unfold F_Book_read
  exact q_er (j_ifT (y_is (y_T (e_2 (e_meth (e_a rfl) rfl (a_cons (e_a rfl) a_nil) (length_ok hr hz)) e_c rfl)) (decide_eq_true (by omega))) rfl)
theorem al_book (h : one.length ≠ two.length) : g_is_alike [pairD l one two, v] = .er "BadBook" := by
  show zOut (F_is_alike [.a (pairD l one two), .a v]) = _
  exact z_er (ρ' := [.a (pairD l one two), .a v]) (q_er (s_dropE (e_callE (a_cons (e_a rfl) a_nil) (even_bad h))))
theorem al_er {c : Str} (h : one.length = two.length) (hr : g_Book_read [bookD l one, v] = .er c) : g_is_alike [pairD l one two, v] = .er c := by
  show zOut (F_is_alike [.a (pairD l one two), .a v]) = _
  refine z_er (ρ' := [.a (pairD l one two), .a v]) ?_
  unfold F_is_alike
  exact k_drop (e_call (a_cons (e_a rfl) a_nil) (even_ok h)) (s_retE (e_andE (e_2E (e_methE (e_1 (e_a rfl) rfl) rfl (a_cons (e_a rfl) a_nil) hr))))
theorem al_ok {r : List Int} (h : one.length = two.length) (h1 : okRow one r) (hz : r.length ≤ 1000000) (z1 : (readW one r).length ≤ 100000) (z2 : (readW two r).length ≤ 100000) : g_is_alike [pairD l one two, .tup (r.map .int)] = .ok (.bool (decide (readW one r = readW two r) && decide (0 < r.length))) := by
  have h2 : okRow two r := fun x hx => by have := h1 x hx; omega
  show zOut (F_is_alike [.a (pairD l one two), .a (.tup (r.map .int))]) = _
  refine z_rt ?_
  unfold F_is_alike
  refine k_drop (e_call (a_cons (e_a rfl) a_nil) (even_ok h)) (s_ret (e_and (e_2 (e_meth (e_1 (e_a rfl) rfl) rfl (a_cons (e_a rfl) a_nil) (read_ok h1 hz z1)) (e_meth (e_1 (e_a rfl) rfl) rfl (a_cons (e_a rfl) a_nil) (read_ok h2 hz z2)) (dEq_ints _ _)) fun _ => e_is (e_2 (e_1 (e_a rfl) (len_ints r)) e_c (d := .bool (decide ((0 : Int) < ((r.length : Nat) : Int)))) rfl) ?_))
  rw [show decide ((0 : Int) < ((r.length : Nat) : Int)) = decide (0 < r.length) from decide_eq_decide.mpr (by omega)]
end
end Lawk37
namespace Lawk37
open PySem Sm

def sfx (w : List Int) : List (List Int) := (List.range (w.length - 1)).map fun i => w.drop (1 + i)
def ends37 (ws : List (List Int)) : List (List Int) := ws.flatMap sfx
def tupD (w : List Int) : D := .tup (w.map .int)
theorem key_of (w : List Int) : keyD (tupD w) = some (.tup (w.map .num)) := by
  show (nkD (.tup (w.map .int))).bind _ = _
  have e : nkD (.tup (w.map .int)) = some (.tup (w.map .num)) := by
    simp [nkD, nk_ints]
  rw [e]
  show (if (NestedKey.tup (w.map .num)).depth ≤ 8 then some _ else none) = _
  rw [if_pos]
  simp [NestedKey.depth, dep_nums]
theorem key_inj {a b : List Int} (h : NestedKey.tup (a.map .num) = .tup (b.map .num)) : a = b := by
  rw [NestedKey.tup.injEq] at h
  exact num_inj h

structure KeysAre (m : List (List Int)) (ks vs : List D) : Prop where
  kis : ks = m.map tupD
  len : ks.length = vs.length
  nd : m.Nodup
theorem look_keys {m : List (List Int)} (w : List Int) : ∀ {ks vs : List D}, ks = m.map tupD → ks.length = vs.length → (lookD ks vs (.tup (w.map .num))).isSome = decide (w ∈ m) := by
  induction m with
  | nil => intro ks vs h1 h2; subst h1; cases vs <;> simp [lookD]
  | cons x m ih =>
    intro ks vs h1 h2
    subst h1
    cases vs with
    | nil => simp at h2
    | cons v vs =>
      show (if keyD (tupD x) = some _ then some v else lookD (m.map tupD) vs _).isSome = _
      rw [key_of]
      by_cases c : x = w
      · subst c; rw [if_pos rfl]; simp
      · rw [if_neg (fun z => c (key_inj (Option.some.inj z))), ih rfl (by simpa using h2)]
        congr 1
        exact propext ⟨fun h => by simp [h], fun h => by rcases List.mem_cons.mp h with rfl | h; exact absurd rfl c; exact h⟩
theorem set_keys {n : NestedKey} {d : D} : ∀ {ks vs : List D}, ks.length = vs.length → ks.length = (setV ks vs n d).length
  | [], vs, h => h
  | k :: ks, [], h => h
  | k :: ks, v :: vs, h => by
    show _ = (_ :: setV ks vs n d).length
    rw [List.length_cons, List.length_cons, ← set_keys (by simpa using h)]
theorem put_keys {m : List (List Int)} {ks vs : List D} (h : KeysAre m ks vs) (w : List Int) (vd : D) : KeysAre (if w ∈ m then m else m ++ [w]) (putD ks vs (.tup (w.map .num)) (tupD w) vd).1 (putD ks vs (.tup (w.map .num)) (tupD w) vd).2 := by
  unfold putD
  have hl := look_keys w h.kis h.len
  simp only [hl]
  by_cases c : w ∈ m
  · simp only [c, decide_true, if_true]
    exact ⟨h.kis, set_keys h.len, h.nd⟩
  · simp only [c, decide_false, if_false, Bool.false_eq_true]
    refine ⟨by rw [h.kis, List.map_append]; rfl, by simp [h.len], ?_⟩
    rw [List.nodup_append]
    exact ⟨h.nd, List.nodup_cons.mpr ⟨by simp, .nil⟩, fun a ha b hb => by rw [List.mem_singleton] at hb; subst hb; exact fun z => c (z ▸ ha)⟩
theorem put_mem {m : List (List Int)} {w x : List Int} : x ∈ (if w ∈ m then m else m ++ [w]) ↔ x ∈ m ∨ x = w := by
  split
  · rename_i h
    exact ⟨.inl, fun z => by rcases z with z | rfl; exact z; exact h⟩
  · simp
section
variable {l : Int} {ws : List (List Int)}
noncomputable def sufIn : Sm.Env → Sm.Out := (xPutK 1 (xSl (xF 2) (oSo (xF 3)) oNo) (xC (.bool true)))
theorem suf_in {w : List Int} (hw : w.length ≤ 5000) : ∀ (n i : Nat) (m : List (List Int)) (ks vs : List D) (o3 : Sv), KeysAre m ks vs → ks.length + n ≤ 900000 →
    ∃ (m' : List (List Int)) (ks' vs' : List D) (o3' : Sv), KeysAre m' ks' vs' ∧ ks'.length ≤ ks.length + n ∧ (∀ x, x ∈ m' ↔ x ∈ m ∨ x ∈ (List.range' i n).map fun j => w.drop j) ∧
      loopL (bName 3) sufIn (sD ((List.range' i n).map natD)) [.a (bookD l ws), .k ks vs, .d (tupD w), o3] = .nx [.a (bookD l ws), .k ks' vs', .d (tupD w), o3'] := by
  intro n
  induction n with
  | zero => exact fun i m ks vs o3 h _ => ⟨m, ks, vs, o3, h, Nat.le_refl _, fun x => by simp, rfl⟩
  | succ n ih =>
    intro i m ks vs o3 h hz
    have h1 := put_keys h (w.drop i) (.bool true)
    have hl : (putD ks vs (.tup ((w.drop i).map .num)) (tupD (w.drop i)) (.bool true)).1.length ≤ ks.length + 1 := by
      unfold putD
      split
      · exact Nat.le_succ _
      · simp
    obtain ⟨m', ks', vs', o3', a, b, c, e⟩ := ih (i + 1) _ _ _ (.d (natD i)) h1 (by omega)
    refine ⟨m', ks', vs', o3', a, by omega, fun x => ?_, ?_⟩
    · rw [c, put_mem, List.range'_succ, List.map_cons, List.mem_cons, or_assoc]
    · rw [List.range'_succ, List.map_cons]
      show loopL (bName 3) sufIn (.d (natD i) :: sD ((List.range' (i + 1) n).map natD)) _ = _
      refine l_cons (ρ1 := [.a (bookD l ws), .k ks vs, .d (tupD w), .d (natD i)]) rfl ?_ e
      exact (s_putK rfl e_c (e_sl (e_f rfl) (o_so (e_f rfl)) o_no (sl_from w i)) (key_of _) (by omega)).trans rfl
noncomputable def sufMid : Sm.Env → Sm.Out := (xFor (srcRg (xC (.int 1)) (x1 dLen (xF 2))) (bName 3) sufIn)
theorem range_sfx (w : List Int) : ((List.range' 1 (w.length - 1)).map fun j => w.drop j) = sfx w := by
  unfold sfx
  rw [List.range'_eq_map_range, List.map_map]; rfl
theorem suf_mid : ∀ (us : List (List Int)) (m : List (List Int)) (ks vs : List D) (o2 o3 : Sv), (∀ w ∈ us, w.length ≤ 5000) → KeysAre m ks vs → ks.length + us.length * 5000 ≤ 800000 →
    ∃ (m' : List (List Int)) (ks' vs' : List D) (o2' o3' : Sv), KeysAre m' ks' vs' ∧ (∀ x, x ∈ m' ↔ x ∈ m ∨ x ∈ ends37 us) ∧
      loopL (bName 2) sufMid (sD (wordsD us)) [.a (bookD l ws), .k ks vs, o2, o3] = .nx [.a (bookD l ws), .k ks' vs', o2', o3'] := by
  intro us
  induction us with
  | nil => exact fun m ks vs o2 o3 _ h _ => ⟨m, ks, vs, o2, o3, h, fun x => by simp [ends37], rfl⟩
  | cons w us ih =>
    intro m ks vs o2 o3 hw h hz
    rw [List.length_cons, Nat.succ_mul] at hz
    have wl := hw w (by simp)
    obtain ⟨m1, ks1, vs1, o31, a, b, c, e⟩ := suf_in (l := l) (ws := ws) wl (w.length - 1) 1 m ks vs o3 h (by omega)
    obtain ⟨m', ks', vs', o2', o3', a', c', e'⟩ := ih m1 ks1 vs1 (.d (tupD w)) o31 (fun u hu => hw u (by simp [hu])) a (by omega)
    refine ⟨m', ks', vs', o2', o3', a', fun x => ?_, ?_⟩
    · rw [c', c, or_assoc]
      have : ends37 (w :: us) = sfx w ++ ends37 us := rfl
      rw [this, List.mem_append, range_sfx]
    · show loopL (bName 2) sufMid (.d (tupD w) :: sD (wordsD us)) _ = _
      refine l_cons (ρ1 := [.a (bookD l ws), .k ks vs, .d (tupD w), o3]) rfl ?_ e'
      unfold sufMid
      refine (s_for (items := sD ((List.range' 1 (w.length - 1)).map natD)) (e_is (r_rg e_c (e_1 (e_f rfl) (len_ints w)) (by omega)) ?_)).trans e
      by_cases hz : 1 ≤ w.length
      · have := rg_nat 1 (w.length - 1)
        rw [show ((1 : Nat) : Int) = 1 from rfl] at this
        rw [← this]
        congr 1
        omega
      · have h0 : w.length = 0 := by omega
        rw [h0]; rfl
theorem suffixes_ok (h : OkB l ws) : ∃ m : List (List Int), g_suffixes [bookD l ws] = .ok (.int ((m.length : Nat) : Int)) ∧ m.Nodup ∧ ∀ x, x ∈ m ↔ x ∈ ends37 ws := by
  have sz := h.sz
  obtain ⟨m, ks, vs, o2, o3, a, c, e⟩ := suf_mid (l := l) (ws := ws) ws [] [] [] .no .no (fun w hw => (h.wd w hw).2.2) ⟨rfl, rfl, .nil⟩ (by simp; omega)
  refine ⟨m, ?_, a.nd, fun x => by rw [c]; simp⟩
  show zOut (F_suffixes [.a (bookD l ws), .no, .no, .no]) = _
  refine z_rt ?_
  unfold F_suffixes
  refine k_setK (by simp) ?_
  walk_at "env"
  refine k_nx ((s_for (items := sD (wordsD ws)) (r_F (e_methN (e_a rfl) rfl a_nil (words_ok l ws)) rfl)).trans e) ?_
  refine s_ret (e_1 (e_pk rfl) ?_)
  show some (D.int ((ks.length : Nat) : Int)) = _
  rw [a.kis, List.length_map]
end
theorem tupsI_map : ∀ ns : List (List Int), tupsI (ns.map tupD) = some ns
  | [] => rfl
  | n :: ns => by
    show ((intsD (n.map .int)).bind fun n => (tupsI (ns.map tupD)).map fun ns => n :: ns) = _
    rw [intsD_int, tupsI_map ns]; rfl
theorem lenT_ok {ns m : List (List Int)} (h : ns.length < 64) (hn : m.Nodup) (hm : ∀ x, x ∈ m ↔ x ∈ ns) : dLenT (.list (ns.map tupD)) = some (.int ((m.length : Nat) : Int)) := by
  show ((tupsI (ns.map tupD)).bind fun ns => if ns.length < 64 then some (D.int ((ddL ns).length : Nat)) else none) = _
  rw [tupsI_map]
  show (if ns.length < 64 then some (D.int ((ddL ns).length : Nat)) else none) = _
  rw [if_pos h, ((List.perm_ext_iff_of_nodup (ddL_nodup ns) hn).mpr fun y => by rw [ddL_mem, hm]).length_eq]
end Lawk37
namespace Lawk37
open PySem Sm

theorem modN {x m : Int} (h : 0 < m) : ∃ k : Nat, x % m = (k : Int) ∧ (k : Int) < m := ⟨(x % m).toNat, (Int.toNat_of_nonneg (Int.emod_nonneg _ (by omega))).symm, by rw [Int.toNat_of_nonneg (Int.emod_nonneg _ (by omega))]; exact Int.emod_lt_of_pos _ h⟩
theorem mul_rep {x k : Int} (m : Nat) (h : k = (m : Int)) (h0 : 1 ≤ m) (h1 : m ≤ 1000000) : dMulU (.tup [.int x]) (.int k) = some (.tup ((List.replicate m x).map .int)) := by
  subst h
  have e : (List.replicate m [D.int x]).flatten = (List.replicate m x).map .int := by
    rw [List.flatten_replicate_singleton, List.map_replicate]
  unfold dMulU; dsimp only
  by_cases h2 : 2 ≤ m
  · rw [if_pos ⟨by simp, by omega, by simp; omega⟩, Int.toNat_natCast, e]
  · have : m = 1 := by omega
    subst this
    rw [if_neg (by omega), if_pos (by omega)]; rfl

def eL (ns ds : List Int) (N : Nat) (A T F : List (List Int)) (o3 o8 o9 o10 o11 o12 o13 : Sv) : Sm.Env := [.a (.scr ns), .d (.list (ds.map .int)), .d (natD N), o3, .d (.list (wordsD A)), .d (.list (wordsD T)), .d (.list (words14.map .str)), .d (.list (wordsD F)), o8, o9, o10, o11, o12, o13, .no, .no, .no]
noncomputable def inBody : Sm.Env → Sm.Out := (xIfS (yT (x2 dNe (xCall g__law_told (aCons (xF 12) (aCons (xF 11) (aCons (xF 13) aNil)))) (xTup (aCons (xC (.str "refused")) (aCons (xF 10) aNil)))))
      (xRet (xC (.bool false)))
      xNext)
noncomputable def midBody : Sm.Env → Sm.Out := (xFor (srcF (xL (nLst (aCons (xC .none) (aCons (xTup aNil) (aCons (xTup (aCons (xC (.int 0)) aNil)) (aCons (xC (.int 0)) (aCons (x1 dNeg (xC (.int 1))) (aCons (xTup (aCons (xF 2) aNil)) aNil))))))))) (bName 13) inBody)
noncomputable def lastBody : Sm.Env → Sm.Out := (xIfS (yT (x2 dEq (xF 10) (xC (.str "book"))))
      (xIfS (yOr (yT (x2 dNe (xCall g__law_told (aCons (xC (.str "alike")) (aCons (xF 11) (aCons (xTup (aCons (xC (.int 0)) aNil)) aNil)))) (xTup (aCons (xC (.str "refused")) (aCons (xC (.str "book")) aNil))))) (yT (x2 dNe (xCall g__law_told (aCons (xC (.str "alike")) (aCons (xF 11) (aCons (xC .none) aNil)))) (xTup (aCons (xC (.str "refused")) (aCons (xC (.str "book")) aNil))))))
      (xRet (xC (.bool false)))
      xNext)
      (xIfS (yOr (yT (x2 dNe (xCall g__law_told (aCons (xC (.str "alike")) (aCons (xF 11) (aCons (xTup (aCons (xF 2) aNil)) aNil)))) (xTup (aCons (xC (.str "refused")) (aCons (xC (.str "row")) aNil))))) (yT (x1 (dNotB false) (xCall g__law_told (aCons (xC (.str "alike")) (aCons (xF 11) (aCons (xTup aNil) aNil)))))))
      (xRet (xC (.bool false)))
      (xIfS (yOr (yT (x2 dNe (xCall g__law_told (aCons (xC (.str "alike")) (aCons (xF 11) (aCons (xTup (aCons (xC (.int 0)) (aCons (xC (.int 0)) aNil))) aNil)))) (x2 dEq (x2 dIx (xF 8) (xC (.int 0))) (x2 dIx (xF 9) (xC (.int 0)))))) (yT (x2 dNe (xCall g__law_told (aCons (xC (.str "alike")) (aCons (xF 11) (aCons (xC .none) aNil)))) (xTup (aCons (xC (.str "refused")) (aCons (xC (.str "row")) aNil))))))
      (xRet (xC (.bool false)))
      xNext)))
noncomputable def outBody : Sm.Env → Sm.Out := (xSeq (xSet 11 (xCall g_Pair___init__ (aCons (xCall g_Book___init__ (aCons (xF 2) (aCons (xF 8) aNil))) (aCons (xCall g_Book___init__ (aCons (xF 2) (aCons (xF 9) aNil))) aNil))))
      (xSeq (xFor (srcF (xF 6)) (bName 12) midBody) lastBody))
theorem ref_sh (s : Str) (h : PyData.strOk s = true) : shD 60 (.tup [.str "refused", .str s]) = true := by
  show (shD 59 (.str "refused") && (shD 59 (.str s) && true)) = true
  have : shD 59 (.str s) = true := h
  rw [this]
  decide +kernel
theorem due_ok (b : Bool) : PyData.strOk (dueOf b) = true := by cases b <;> decide +kernel
theorem ne_ref {ρ : Sm.Env} {f : Sm.Env → Sm.R D} {s : Str} {fs : Sm.Env → Sm.R D} (h : f ρ = .ok (.tup [.str "refused", .str s])) (hs : fs ρ = .ok (.str s)) (z : PyData.strOk s = true) : yT (x2 dNe f (xTup (aCons (xC (.str "refused")) (aCons fs aNil)))) ρ = .ok false :=
  y_T (e_2 h (e_tup (a_cons e_c (a_cons hs a_nil)) (by simp)) (dNe_same (ref_sh s z)))
section
variable {ns ds : List Int} {N : Nat} {A T F one two : List (List Int)} {b : Bool} {o3 o8 o9 o11 : Sv}
theorem mid_ok (h : Bad b (N : Int) one two) {w : Str} (hw : w ∈ words14) (o13 : Sv) : ∃ o13', midBody (eL ns ds N A T F o3 o8 o9 (.d (.str (dueOf b))) (.d (pairD (N : Int) one two)) (.d (.str w)) o13) = .nx (eL ns ds N A T F o3 o8 o9 (.d (.str (dueOf b))) (.d (pairD (N : Int) one two)) (.d (.str w)) o13') := by
  unfold midBody
  have lp : ∀ (vs : List D) (o13 : Sv), ∃ o13', loopL (bName 13) inBody (sD vs) (eL ns ds N A T F o3 o8 o9 (.d (.str (dueOf b))) (.d (pairD (N : Int) one two)) (.d (.str w)) o13) = .nx (eL ns ds N A T F o3 o8 o9 (.d (.str (dueOf b))) (.d (pairD (N : Int) one two)) (.d (.str w)) o13') := by
    intro vs
    induction vs with
    | nil => exact fun o13 => ⟨o13, rfl⟩
    | cons v vs ih =>
      intro o13
      obtain ⟨o13', e⟩ := ih (.d v)
      refine ⟨o13', l_cons (ρ1 := eL ns ds N A T F o3 o8 o9 (.d (.str (dueOf b))) (.d (pairD (N : Int) one two)) (.d (.str w)) (.d v)) rfl ?_ e⟩
      unfold inBody
      exact s_skip (ne_ref (e_call (a_cons (e_f rfl) (a_cons (e_f rfl) (a_cons (e_f rfl) a_nil))) (told_14 h v w hw)) (e_f rfl) (due_ok b))
  obtain ⟨o13', e⟩ := lp [.none, .tup [], .tup [.int 0], .int 0, .int (-1), .tup [natD N]] o13
  exact ⟨o13', (s_for (r_F (e_L (n_lst (a_cons e_c (a_cons (e_tup a_nil (by simp)) (a_cons (e_tup (a_cons e_c a_nil) (by simp)) (a_cons e_c (a_cons (e_1 e_c rfl) (a_cons (e_tup (a_cons (e_f rfl) a_nil) (by simp)) a_nil)))))) (by simp))) rfl)).trans e⟩
theorem words_loop (h : Bad b (N : Int) one two) (o12 o13 : Sv) : ∃ o12' o13', xFor (srcF (xF 6)) (bName 12) midBody (eL ns ds N A T F o3 o8 o9 (.d (.str (dueOf b))) (.d (pairD (N : Int) one two)) o12 o13) = .nx (eL ns ds N A T F o3 o8 o9 (.d (.str (dueOf b))) (.d (pairD (N : Int) one two)) o12' o13') := by
  have lp : ∀ (ws : List Str) (o12 o13 : Sv), (∀ w ∈ ws, w ∈ words14) → ∃ o12' o13', loopL (bName 12) midBody (sD (ws.map .str)) (eL ns ds N A T F o3 o8 o9 (.d (.str (dueOf b))) (.d (pairD (N : Int) one two)) o12 o13) = .nx (eL ns ds N A T F o3 o8 o9 (.d (.str (dueOf b))) (.d (pairD (N : Int) one two)) o12' o13') := by
    intro ws
    induction ws with
    | nil => exact fun o12 o13 _ => ⟨o12, o13, rfl⟩
    | cons w ws ih =>
      intro o12 o13 hw
      obtain ⟨p13, e1⟩ := mid_ok (ns := ns) (ds := ds) (A := A) (T := T) (F := F) (o3 := o3) (o8 := o8) (o9 := o9) h (hw w (by simp)) o13
      obtain ⟨o12', o13', e⟩ := ih (.d (.str w)) p13 fun u hu => hw u (by simp [hu])
      exact ⟨o12', o13', l_cons (s := .d (.str w)) (ρ1 := eL ns ds N A T F o3 o8 o9 (.d (.str (dueOf b))) (.d (pairD (N : Int) one two)) (.d (.str w)) o13) rfl e1 e⟩
  obtain ⟨o12', o13', e⟩ := lp words14 o12 o13 fun w hw => hw
  exact ⟨o12', o13', (s_for (r_F (e_f rfl) rfl)).trans e⟩
theorem out_ok (h : Bad b (N : Int) one two) (hN : 2 ≤ N ∧ N ≤ 6) (hl : one.length = N) (hs : ∀ w ∈ one ++ two, w.length ≤ 4) (o11 o12 o13 : Sv) : ∃ o11' o12' o13', outBody (eL ns ds N A T F o3 (.d (.list (wordsD one))) (.d (.list (wordsD two))) (.d (.str (dueOf b))) o11 o12 o13) = .nx (eL ns ds N A T F o3 (.d (.list (wordsD one))) (.d (.list (wordsD two))) (.d (.str (dueOf b))) o11' o12' o13') := by
  obtain ⟨o12', o13', e⟩ := words_loop (ns := ns) (ds := ds) (A := A) (T := T) (F := F) (o3 := o3) (o8 := .d (.list (wordsD one))) (o9 := .d (.list (wordsD two))) h o12 o13
  refine ⟨.d (pairD (N : Int) one two), o12', o13', ?_⟩
  unfold outBody
  refine k_set (e_call (a_cons (e_call (a_cons (e_f rfl) (a_cons (e_f rfl) a_nil)) (mkB h.h1)) (a_cons (e_call (a_cons (e_f rfl) (a_cons (e_f rfl) a_nil)) (mkB h.h2)) a_nil)) mkP) ?_
  refine k_nx e ?_
  unfold lastBody
  cases b with
  | true =>
    have bk : ∀ v : D, g__law_told [.str "alike", pairD (N : Int) one two, v] = .ok (.tup [.str "refused", .str "book"]) := fun v => told_book (askAlE (al_book (h.ne rfl)))
    refine j_ifT (y_is (y_T (e_2 (e_f rfl) e_c (strEq (due_ok true) (by decide +kernel) rfl))) (by decide +kernel)) ?_
    exact s_skip (y_is (q := false) (y_or (p := false) (q := false) (ne_ref (e_call (a_cons e_c (a_cons (e_f rfl) (a_cons (e_tup (a_cons e_c a_nil) (by simp)) a_nil))) (bk _)) e_c (by decide +kernel)) fun _ => ne_ref (e_call (a_cons e_c (a_cons (e_f rfl) (a_cons e_c a_nil))) (bk _)) e_c (by decide +kernel)) rfl)
  | false =>
    have ev := h.ev rfl
    refine j_ifF (y_is (y_T (e_2 (e_f rfl) e_c (strEq (due_ok false) (by decide +kernel) rfl))) (by decide +kernel)) ?_
    have rw1 : g__law_told [.str "alike", pairD (N : Int) one two, .tup [natD N]] = .ok (.tup [.str "refused", .str "row"]) := told_row37 (askAlE (al_er ev (read_badrow (fine_ints [(N : Int)] (by simp)) (by
      show (decide (0 ≤ (N : Int)) && decide ((N : Int) ≤ ((one.length : Nat) : Int) - 1) && true) = false
      rw [hl, decide_eq_false (p := (N : Int) ≤ (N : Int) - 1) (by omega)]; simp))))
    have rw2 : g__law_told [.str "alike", pairD (N : Int) one two, .none] = .ok (.tup [.str "refused", .str "row"]) := told_row37 (askAlE (al_er ev (read_badrow ⟨rfl, fun xs z => by cases z⟩ rfl)))
    have rw3 : g__law_told [.str "alike", pairD (N : Int) one two, .tup []] = .ok (.bool false) := told_ok37 (askAl ((al_ok (r := []) ev (fun x hx => by cases hx) (by simp) (by simp [readW]) (by simp [readW])).trans (by simp)))
    have z0 : okRow one [0, 0] := fun x hx => by simp at hx; subst hx; omega
    have l1 := readW_len (b := 4) (fun w hw => hs w (List.mem_append_left _ hw)) z0
    have l2 := readW_len (b := 4) (ws := two) (fun w hw => hs w (List.mem_append_right _ hw)) (r := [0, 0]) (fun x hx => by simp at hx; subst hx; omega)
    have eqr : decide (readW one [0, 0] = readW two [0, 0]) = decide (wdN one 0 = wdN two 0) := by
      refine decide_eq_decide.mpr ⟨fun z => ?_, fun z => by rw [readW_cons, readW_cons, readW_cons, readW_cons, z]; rfl⟩
      simp only [readW_cons] at z
      have e0 : readW one [] = [] ∧ readW two [] = [] := ⟨rfl, rfl⟩
      rw [e0.1, e0.2, List.append_nil, List.append_nil] at z
      have hlen := congrArg List.length z
      rw [List.length_append, List.length_append] at hlen
      exact (List.append_inj z (by omega)).1
    have rw4 : g__law_told [.str "alike", pairD (N : Int) one two, .tup [.int 0, .int 0]] = .ok (.bool (decide (wdN one 0 = wdN two 0))) := told_ok37 (askAl ((al_ok (r := [0, 0]) ev z0 (by simp) (by simp at l1 ⊢; omega) (by simp at l2 ⊢; omega)).trans (by rw [eqr]; simp)))
    refine j_ifF (y_is (q := false) (y_or (p := false) (q := false) (ne_ref (e_call (a_cons e_c (a_cons (e_f rfl) (a_cons (e_tup (a_cons (e_f rfl) a_nil) (by simp)) a_nil))) rw1) e_c (by decide +kernel)) fun _ => y_T (e_1 (e_call (a_cons e_c (a_cons (e_f rfl) (a_cons (e_tup a_nil (by simp)) a_nil))) rw3) rfl)) rfl) ?_
    refine s_skip (y_is (q := false) (y_or (p := false) (q := false) (y_T (e_2 (e_call (a_cons e_c (a_cons (e_f rfl) (a_cons (e_tup (a_cons e_c (a_cons e_c a_nil)) (by simp)) a_nil))) rw4) (e_2 (e_2 (e_f rfl) e_c (ix_word (ws := one) (x := 0) (by omega))) (e_2 (e_f rfl) e_c (ix_word (ws := two) (x := 0) (by omega))) (dEq_ints _ _)) (dNe_same rfl))) fun _ => ne_ref (e_call (a_cons e_c (a_cons (e_f rfl) (a_cons e_c a_nil))) rw2) e_c (by decide +kernel)) rfl)
end
theorem rep_read (p : Nat) : ∀ q : Nat, readW [List.replicate p 0] (List.replicate q 0) = List.replicate (p * q) 0
  | 0 => by simp [readW]
  | q + 1 => by
    rw [List.replicate_succ, readW_cons, rep_read p q]
    show List.replicate p (0 : Int) ++ _ = _
    rw [List.replicate_append_replicate]
    congr 1
    rw [Nat.mul_succ]; omega
noncomputable def extBody : Sm.Env → Sm.Out := (xOnM 14 (xL (nLc (srcRg (xC (.int 1)) (x1 dLen (xF 12))) [15] (bName 15) yYes (xSl (xF 12) (oSo (xF 15)) oNo))) gExt)
def eE (a b c d e f g h i j k l : Sv) (o12 o13 : Sv) (E : List (List Int)) : Sm.Env := [a, b, c, d, e, f, g, h, i, j, k, l, o12, o13, .m (E.map tupD), .no, .no]
theorem ext_loop {a b c d e f g h i j k l o13 : Sv} : ∀ (us E : List (List Int)) (o12 : Sv), (∀ w ∈ us, w.length ≤ 4) → E.length + us.length * 4 ≤ 1000 → ∃ o12', loopL (bName 12) extBody (sD (wordsD us)) (eE a b c d e f g h i j k l o12 o13 E) = .nx (eE a b c d e f g h i j k l o12' o13 (E ++ ends37 us)) := by
  intro us
  induction us with
  | nil => exact fun E o12 _ _ => ⟨o12, by rw [show ends37 [] = [] from rfl, List.append_nil]; rfl⟩
  | cons w us ih =>
    intro E o12 hw hz
    rw [List.length_cons, Nat.succ_mul] at hz
    have wl := hw w (by simp)
    have sl : (sfx w).length ≤ 4 := by unfold sfx; rw [List.length_map, List.length_range]; omega
    obtain ⟨o12', e'⟩ := ih (E ++ sfx w) (.d (tupD w)) (fun u hu => hw u (by simp [hu])) (by rw [List.length_append]; omega)
    rw [List.append_assoc] at e'
    refine ⟨o12', ?_⟩
    show loopL (bName 12) extBody (.d (tupD w) :: sD (wordsD us)) _ = _
    refine l_cons (ρ1 := eE a b c d e f g h i j k l (.d (tupD w)) o13 E) (ρ2 := eE a b c d e f g h i j k l (.d (tupD w)) o13 (E ++ sfx w)) rfl ?_ e'
    unfold extBody
    refine (s_ext (ys := (sfx w).map tupD) rfl (e_L (e_is (n_lcR (k := 1) (l := ((w.length : Nat) : Int)) (φ := fun n => tupD (w.drop (1 + n))) e_c (e_1 (e_f rfl) (len_ints w)) (by omega) (by omega) rfl fun n hn => ?_) ?_)) rfl (by rw [List.length_map, List.length_map]; omega)).trans ?_
    · rw [show (1 : Int) + (n : Int) = ((1 + n : Nat) : Int) by omega]
      exact e_sl (e_f rfl) (o_so (e_f rfl)) o_no (sl_from w _)
    · unfold sfx
      rw [List.map_map, show (((w.length : Nat) : Int) - 1).toNat = w.length - 1 by omega]; rfl
    · unfold eE
      rw [List.map_append]; rfl
end Lawk37
namespace Lawk37
open PySem Sm

theorem law_main : ∀ ns : List Int, ns.length ≤ 63 → F_law (env0 17 [false] [.scr ns]) = .rt (.bool true) := by
  intro ns _
  show F_law [.a (.scr ns), .no, .no, .no, .no, .no, .no, .no, .no, .no, .no, .no, .no, .no, .no, .no, .no] = _
  obtain ⟨ds, hde, hdl, hdo⟩ := draws_ok ns 20 (by decide) (by decide)
  have hdl : ds.length = 20 := hdl
  have dr : ∀ (k : Int) {ρ : Sm.Env} {f : Sm.Env → Sm.R D}, ρ[1]? = some (.d (.list (ds.map .int))) → 0 ≤ k → k < 20 → f ρ = .ok (.int k) → x1 dInt (x2 dIx (xF 1) f) ρ = .ok (.int (nth ds k)) := fun k ρ f h h0 h1 hf => e_1 (e_2 (e_f h) hf (dr_at hdo hdl h0 h1).1) rfl
  obtain ⟨a0, ha0, ha02⟩ := modN (x := nth ds 0) (m := 5) (by decide)
  obtain ⟨a8, ha8, ha82⟩ := modN (x := nth ds 8) (m := 3) (by decide)
  obtain ⟨a9, ha9, ha92⟩ := modN (x := nth ds 9) (m := 3) (by decide)
  obtain ⟨a10, ha10, ha102⟩ := modN (x := nth ds 10) (m := 3) (by decide)
  obtain ⟨N, hN⟩ : ∃ N : Nat, N = 2 + a0 := ⟨_, rfl⟩
  have hN2 : 2 ≤ N ∧ N ≤ 6 := by omega
  obtain ⟨q, hq⟩ : ∃ q : Nat → Nat, ∀ k : Nat, nth ds (1 + (k : Int)) % 3 = (q k : Int) ∧ q k < 3 :=
    ⟨fun k => (nth ds (1 + (k : Int)) % 3).toNat, fun k => by
      have h1 : 0 ≤ nth ds (1 + (k : Int)) % 3 := Int.emod_nonneg _ (by decide)
      have h2 : nth ds (1 + (k : Int)) % 3 < 3 := Int.emod_lt_of_pos _ (by decide)
      refine ⟨(Int.toNat_of_nonneg h1).symm, ?_⟩
      show (nth ds (1 + (k : Int)) % 3).toNat < 3
      rw [Int.toNat_lt h1]
      exact h2⟩
  obtain ⟨A, hA⟩ : ∃ A : List (List Int), A = (List.range N).map fun k => List.replicate (1 + q k) (k : Int) := ⟨_, rfl⟩
  have Al : A.length = N := by rw [hA, List.length_map, List.length_range]
  have Aw : ∀ w ∈ A, (∀ x ∈ w, 0 ≤ x ∧ x < (N : Int)) ∧ 1 ≤ w.length ∧ w.length ≤ 4 := fun w hw => by
    rw [hA] at hw
    obtain ⟨k, hk, rfl⟩ := List.mem_map.mp hw
    have hk := List.mem_range.mp hk
    have := (hq k).2
    rw [List.length_replicate]
    refine ⟨fun x hx => ?_, by omega, by omega⟩
    rw [List.mem_replicate] at hx
    omega
  obtain ⟨z, hz⟩ : ∃ z : List Int, z = 0 :: List.replicate (1 + a8) ((N : Int) - 1) := ⟨_, rfl⟩
  have zw : (∀ x ∈ z, 0 ≤ x ∧ x < (N : Int)) ∧ 1 ≤ z.length ∧ z.length ≤ 4 := by
    rw [hz, List.length_cons, List.length_replicate]
    refine ⟨fun x hx => ?_, by omega, by omega⟩
    rcases List.mem_cons.mp hx with rfl | hx
    · omega
    · rw [List.mem_replicate] at hx; omega
  obtain ⟨T, hT⟩ : ∃ T : List (List Int), T = A.take (N - 1) ++ [z] := ⟨_, rfl⟩
  have Tl : T.length = N := by rw [hT, List.length_append, List.length_take, Al, List.length_singleton]; omega
  have Tw : ∀ w ∈ T, (∀ x ∈ w, 0 ≤ x ∧ x < (N : Int)) ∧ 1 ≤ w.length ∧ w.length ≤ 4 := fun w hw => by
    rw [hT] at hw
    rcases List.mem_append.mp hw with hw | hw
    · exact Aw w (List.mem_of_mem_take hw)
    · rw [List.mem_singleton] at hw; subst hw; exact zw
  obtain ⟨F, hF⟩ : ∃ F : List (List Int), F = if a9 = 0 then A.drop 1 else if a9 = 1 then T.drop 1 else [] := ⟨_, rfl⟩
  have Fl : F.length ≠ N ∧ F.length ≤ 60 := by
    rw [hF]
    split
    · rw [List.length_drop]; omega
    · split
      · rw [List.length_drop]; omega
      · simp; omega
  have Fw : ∀ w ∈ F, (∀ x ∈ w, 0 ≤ x ∧ x < (N : Int)) ∧ 1 ≤ w.length ∧ w.length ≤ 4 := fun w hw => by
    rw [hF] at hw
    split at hw
    · exact Aw w (List.mem_of_mem_drop hw)
    · split at hw
      · exact Tw w (List.mem_of_mem_drop hw)
      · cases hw
  have okB : ∀ ws : List (List Int), ws.length ≤ 60 → (∀ w ∈ ws, (∀ x ∈ w, 0 ≤ x ∧ x < (N : Int)) ∧ 1 ≤ w.length ∧ w.length ≤ 4) → OkB (N : Int) ws := fun ws h1 h2 => ⟨by omega, h1, fun w hw => ⟨(h2 w hw).1, (h2 w hw).2.1, by have := (h2 w hw).2.2; omega⟩⟩
  have okA := okB A (by omega) Aw
  have okT := okB T (by omega) Tw
  have okF := okB F Fl.2 Fw
  have naT : apart (T.map hdI) = false := by
    rw [Bool.eq_false_iff]
    intro h
    have h := (apart_nodup _).mp h
    have hA1 : A.take (N - 1) = List.replicate (1 + q 0) (0 : Int) :: (A.take (N - 1)).tail := by
      rw [hA]
      obtain ⟨M, rfl⟩ : ∃ M, N = M + 2 := ⟨N - 2, by omega⟩
      rw [List.range_succ_eq_map, List.map_cons]
      rfl
    rw [hT, hA1, List.cons_append, List.map_cons, List.map_append, List.nodup_cons] at h
    refine h.1 (List.mem_append_right _ ?_)
    rw [hz, List.map_singleton, List.mem_singleton]
    show hdI (List.replicate (1 + q 0) (0 : Int)) = 0
    rw [Nat.add_comm, List.replicate_succ]; rfl
  have sh : ∀ (X Y : List (List Int)), (∀ w ∈ X, (∀ x ∈ w, 0 ≤ x ∧ x < (N : Int)) ∧ 1 ≤ w.length ∧ w.length ≤ 4) → (∀ w ∈ Y, (∀ x ∈ w, 0 ≤ x ∧ x < (N : Int)) ∧ 1 ≤ w.length ∧ w.length ≤ 4) → ∀ w ∈ X ++ Y, w.length ≤ 4 := fun X Y h1 h2 w hw => by
    rcases List.mem_append.mp hw with hw | hw
    · exact (h1 w hw).2.2
    · exact (h2 w hw).2.2
  have b1 : Bad true (N : Int) A F := ⟨okA, okF, fun _ => by omega, (fun z => by cases z), (fun z => by cases z)⟩
  have b2 : Bad true (N : Int) T F := ⟨okT, okF, fun _ => by omega, (fun z => by cases z), (fun z => by cases z)⟩
  have b3 : Bad false (N : Int) A T := ⟨okA, okT, (fun z => by cases z), fun _ => by omega, fun _ => by rw [naT, Bool.and_false]⟩
  have b4 : Bad false (N : Int) T A := ⟨okT, okA, (fun z => by cases z), fun _ => by omega, fun _ => by rw [naT, Bool.false_and]⟩
  have b5 : Bad false (N : Int) T T := ⟨okT, okT, (fun z => by cases z), fun _ => rfl, fun _ => by rw [naT, Bool.false_and]⟩
  obtain ⟨m, sm1, sm2, sm3⟩ := suffixes_ok okT
  have el : (ends37 T).length < 64 := by
    have : ∀ us : List (List Int), (∀ w ∈ us, w.length ≤ 4) → (ends37 us).length ≤ us.length * 4 := by
      intro us
      induction us with
      | nil => exact fun _ => Nat.zero_le _
      | cons w us ih =>
        intro h
        have e : ends37 (w :: us) = sfx w ++ ends37 us := rfl
        have h1 := h w (by simp)
        have h2 := ih fun u hu => h u (by simp [hu])
        have h3 : (sfx w).length ≤ 4 := by unfold sfx; rw [List.length_map, List.length_range]; omega
        rw [e, List.length_append, List.length_cons, Nat.succ_mul]
        omega
    have := this T fun w hw => (Tw w hw).2.2
    omega
  unfold F_law
  refine k_set (e_callN (a_cons (e_a rfl) (a_cons e_c a_nil)) hde) ?_
  walk_at "env"
  refine k_set (d := natD N) (e_2 e_c (e_is (e_2 (dr 0 rfl (by decide) (by decide) e_c) e_c (dMod_ok (by decide))) (by rw [ha0])) (by rw [hN]; show some (D.int _) = some (D.int _); congr 2)) ?_
  walk_at "env"
  refine k_set (d := .list (wordsD A)) (e_L (e_is (n_lcR (k := 0) (l := (N : Int)) (φ := fun k => .tup ((List.replicate (1 + q k) (k : Int)).map .int)) e_c (e_f rfl) (by omega) (by omega) rfl fun k hk => ?_) ?_)) ?_
  · rw [show (0 : Int) + (k : Int) = (k : Int) by omega]
    have := hq k
    exact e_2 (e_tup (a_cons (e_f rfl) a_nil) (by simp)) (e_2 e_c (e_is (e_2 (dr (1 + (k : Int)) rfl (by omega) (by omega) (e_2 e_c (e_f rfl) rfl)) e_c (dMod_ok (by decide))) (by rw [this.1])) rfl) (mul_rep (1 + q k) (by omega) (by omega) (by omega))
  · unfold wordsD
    rw [hA, List.map_map, Int.sub_zero, Int.toNat_natCast]; rfl
  walk_at "env"
  refine k_set (d := .list (wordsD T)) (e_L (e_is (n_addL (e_lE (e_sl (e_f rfl) o_no (o_so (e_1 e_c rfl)) (x := .list (wordsD (A.take (N - 1)))) ?_)) (n_lst (a_cons (e_2 (e_tup (a_cons e_c a_nil) (by simp)) (e_2 (e_tup (a_cons (e_2 (e_f rfl) e_c rfl) a_nil) (by simp)) (e_2 e_c (e_is (e_2 (dr 8 rfl (by decide) (by decide) e_c) e_c (dMod_ok (by decide))) (by rw [ha8])) rfl) (mul_rep (1 + a8) (by omega) (by omega) (by omega))) (d := .tup (z.map .int)) ?_) a_nil) (by simp)) (by rw [wordsD_len, List.length_take]; simp; omega)) ?_)) ?_
  · show some (D.list (cutD (wordsD A) none (some (-1)))) = _
    rw [cutD_init (by rw [wordsD_len]; omega), wordsD_len, Al]
    unfold wordsD
    rw [List.map_take]
  · rw [hz]
    exact (dAdd_tup (a := [D.int 0]) (by rw [List.length_map, List.length_replicate]; simp; omega)).trans rfl
  · rw [hT]
    unfold wordsD
    rw [List.map_append]; rfl
  walk_at "env"
  refine k_set (d := .list (words14.map .str)) (e_L (n_lst (a_cons e_c (a_cons e_c (a_cons e_c (a_cons e_c (a_cons e_c (a_cons e_c (a_cons e_c (a_cons e_c (a_cons e_c (a_cons e_c (a_cons e_c (a_cons e_c (a_cons e_c (a_cons e_c a_nil)))))))))))))) (by decide))) ?_
  walk_at "env"
  refine k_set (d := .list (wordsD F)) (e_ixL (n_lst (xs := [.list (wordsD (A.drop 1)), .list (wordsD (T.drop 1)), .list (wordsD [])]) (a_cons (e_sl (e_f rfl) (o_so e_c) o_no ?_) (a_cons (e_sl (e_f rfl) (o_so e_c) o_no ?_) (a_cons (e_L (n_lst a_nil (by simp [wordsD]))) a_nil))) (by simp)) (e_is (e_2 (dr 9 rfl (by decide) (by decide) e_c) e_c (dMod_ok (by decide))) (by rw [ha9])) ?_) ?_
  · show some (D.list (cutD (wordsD A) (some ((1 : Nat) : Int)) none)) = _
    rw [cutD_from]
    unfold wordsD
    rw [List.map_drop]
  · show some (D.list (cutD (wordsD T) (some ((1 : Nat) : Int)) none)) = _
    rw [cutD_from]
    unfold wordsD
    rw [List.map_drop]
  · have h3 : a9 = 0 ∨ a9 = 1 ∨ a9 = 2 := by omega
    rw [hF]
    rcases h3 with rfl | rfl | rfl <;> rfl
  walk_at "env"
  have O := fun {one two : List (List Int)} {b : Bool} (h : Bad b (N : Int) one two) (hl : one.length = N) (hs : ∀ w ∈ one ++ two, w.length ≤ 4) (o11 o12 o13 : Sv) => out_ok (ns := ns) (ds := ds) (A := A) (T := T) (F := F) (o3 := .no) h hN2 hl hs o11 o12 o13
  obtain ⟨p11, p12, p13, e1⟩ := O b1 Al (sh A F Aw Fw) .no .no .no
  obtain ⟨q11, q12, q13, e2⟩ := O b2 Tl (sh T F Tw Fw) p11 p12 p13
  obtain ⟨r11, r12, r13, e3⟩ := O b3 Al (sh A T Aw Tw) q11 q12 q13
  obtain ⟨s11, s12, s13, e4⟩ := O b4 Tl (sh T A Tw Aw) r11 r12 r13
  obtain ⟨t11, t12, t13, e5⟩ := O b5 Tl (sh T T Tw Tw) s11 s12 s13
  have lp : loopL (bSeq 3 (bCons (bName 8) (bCons (bName 9) (bCons (bName 10) bNil)))) outBody (sD [.tup [.list (wordsD A), .list (wordsD F), .str "book"], .tup [.list (wordsD T), .list (wordsD F), .str "book"], .tup [.list (wordsD A), .list (wordsD T), .str "apart"], .tup [.list (wordsD T), .list (wordsD A), .str "apart"], .tup [.list (wordsD T), .list (wordsD T), .str "apart"]])
      (eL ns ds N A T F .no .no .no .no .no .no .no) = .nx (eL ns ds N A T F .no (.d (.list (wordsD T))) (.d (.list (wordsD T))) (.d (.str (dueOf false))) t11 t12 t13) := by
    show loopL _ outBody (.d _ :: .d _ :: .d _ :: .d _ :: .d _ :: []) _ = _
    refine l_cons (gg := bSeq 3 (bCons (bName 8) (bCons (bName 9) (bCons (bName 10) bNil)))) rfl e1 ?_
    refine l_cons (gg := bSeq 3 (bCons (bName 8) (bCons (bName 9) (bCons (bName 10) bNil)))) rfl e2 ?_
    refine l_cons (gg := bSeq 3 (bCons (bName 8) (bCons (bName 9) (bCons (bName 10) bNil)))) rfl e3 ?_
    refine l_cons (gg := bSeq 3 (bCons (bName 8) (bCons (bName 9) (bCons (bName 10) bNil)))) rfl e4 ?_
    exact l_cons (gg := bSeq 3 (bCons (bName 8) (bCons (bName 9) (bCons (bName 10) bNil)))) rfl e5 rfl
  refine k_nx ((s_for (r_F (e_L (n_lst (a_cons (e_tup (a_cons (e_f rfl) (a_cons (e_f rfl) (a_cons e_c a_nil))) (by simp)) (a_cons (e_tup (a_cons (e_f rfl) (a_cons (e_f rfl) (a_cons e_c a_nil))) (by simp)) (a_cons (e_tup (a_cons (e_f rfl) (a_cons (e_f rfl) (a_cons e_c a_nil))) (by simp)) (a_cons (e_tup (a_cons (e_f rfl) (a_cons (e_f rfl) (a_cons e_c a_nil))) (by simp)) (a_cons (e_tup (a_cons (e_f rfl) (a_cons (e_f rfl) (a_cons e_c a_nil))) (by simp)) a_nil))))) (by simp))) rfl)).trans lp) ?_
  unfold eL
  refine k_setN (n_lst a_nil (by simp)) (by simp) ?_
  walk_at "env"
  obtain ⟨u12, e6⟩ := ext_loop (a := .a (.scr ns)) (b := .d (.list (ds.map .int))) (c := .d (natD N)) (d := .no) (e := .d (.list (wordsD A))) (f := .d (.list (wordsD T))) (g := .d (.list (words14.map .str))) (h := .d (.list (wordsD F))) (i := .d (.list (wordsD T))) (j := .d (.list (wordsD T))) (k := .d (.str (dueOf false))) (l := t11) (o13 := t13) T [] t12 (fun w hw => (Tw w hw).2.2) (by simp; omega)
  refine k_nx ((s_for (r_F (e_f rfl) rfl)).trans e6) ?_
  rw [List.nil_append]
  unfold eE
  refine k_skip (y_T (e_2 (e_call (a_cons (e_call (a_cons (e_f rfl) (a_cons (e_f rfl) a_nil)) (mkB okT)) a_nil) sm1) (e_1 (e_pm rfl) (lenT_ok el sm2 sm3)) (dNe_same rfl))) ?_
  obtain ⟨kk, hkk⟩ : ∃ kk : Nat, kk = 49 + a10 := ⟨_, rfl⟩
  have okZ : ∀ p : Nat, 1 ≤ p → p ≤ 5000 → OkB 1 [List.replicate p 0] := fun p h1 h2 => ⟨by decide, by simp, fun w hw => by
    rw [List.mem_singleton] at hw
    subst hw
    rw [List.length_replicate]
    exact ⟨fun x hx => by rw [List.mem_replicate] at hx; omega, h1, h2⟩⟩
  have k50 := okZ 50 (by decide) (by decide)
  have kkk := okZ kk (by omega) (by omega)
  refine k_set (d := pairD 1 [List.replicate 50 0] [List.replicate kk 0]) (e_call (a_cons (e_call (a_cons e_c (a_cons (e_L (n_lst (xs := wordsD [List.replicate 50 0]) (a_cons (e_2 (e_tup (a_cons e_c a_nil) (by simp)) e_c (mul_rep 50 (by decide) (by decide) (by decide))) a_nil) (by simp [wordsD]))) a_nil)) (mkB k50)) (a_cons (e_call (a_cons e_c (a_cons (e_L (n_lst (xs := wordsD [List.replicate kk 0]) (a_cons (e_2 (e_tup (a_cons e_c a_nil) (by simp)) (e_2 e_c (e_is (e_2 (dr 10 rfl (by decide) (by decide) e_c) e_c (dMod_ok (by decide))) (by rw [ha10])) rfl) (mul_rep kk (by omega) (by omega) (by omega))) a_nil) (by simp [wordsD]))) a_nil)) (mkB kkk)) a_nil)) mkP) ?_
  walk_at "env"
  have row0 : ∀ n : Nat, okRow [List.replicate 50 0] (List.replicate n 0) := fun n x hx => by rw [List.mem_replicate] at hx; rw [hx.2]; exact ⟨by decide, by simp⟩
  have tl : ∀ n : Nat, 2001 ≤ n → n ≤ 100000 → g__law_told [.str "alike", pairD 1 [List.replicate 50 0] [List.replicate kk 0], .tup ((List.replicate n 0).map .int)] = .ok (.tup [.str "refused", .str "long"]) := fun n h1 h2 =>
    told_long37 (askAlE (al_er rfl (read_toolong (row0 n) (by rw [List.length_replicate]; omega) (by rw [rep_read, List.length_replicate]; omega))))
  have tr : g__law_told [.str "alike", pairD 1 [List.replicate 50 0] [List.replicate kk 0], .tup ((List.replicate 2101 1).map .int)] = .ok (.tup [.str "refused", .str "row"]) :=
    told_row37 (askAlE (al_er rfl (read_badrow (fine_ints _ (by rw [List.length_replicate]; decide)) (by
      show allNum ((List.replicate 2101 1).map .int) 1 = false
      rw [List.replicate_succ, List.map_cons]
      rfl))))
  have te : g__law_told [.str "alike", pairD 1 [List.replicate 50 0] [List.replicate kk 0], .tup ((List.replicate 1900 0).map .int)] = .ok (.bool (decide (a10 = 1))) := by
    refine told_ok37 (askAl ((al_ok (l := 1) (one := [List.replicate 50 0]) (two := [List.replicate kk 0]) rfl (row0 1900) (by rw [List.length_replicate]; decide) (by rw [rep_read, List.length_replicate]; decide) (by rw [rep_read, List.length_replicate]; omega)).trans ?_))
    rw [rep_read, rep_read, List.length_replicate]
    have : decide (List.replicate (50 * 1900) (0 : Int) = List.replicate (kk * 1900) 0) = decide (a10 = 1) := by
      refine decide_eq_decide.mpr ⟨fun h => ?_, fun h => ?_⟩
      · have := congrArg List.length h
        rw [List.length_replicate, List.length_replicate] at this
        omega
      · rw [show kk = 50 by omega]
    rw [this]; simp
  have arg : ∀ (x : Int) (n : Nat) {ρ : Sm.Env}, 1 ≤ n → n ≤ 1000000 → x2 dMulU (xTup (aCons (xC (.int x)) aNil)) (xC (.int (n : Int))) ρ = .ok (.tup ((List.replicate n x).map .int)) := fun x n ρ h1 h2 => e_2 (e_tup (a_cons e_c a_nil) (by simp)) e_c (mul_rep n rfl h1 h2)
  refine k_skip (y_is (q := false) (y_or (p := false) (q := false) (ne_ref (e_call (a_cons e_c (a_cons (e_f rfl) (a_cons (arg 0 2001 (by decide) (by decide)) a_nil))) (tl 2001 (by decide) (by decide))) e_c (by decide +kernel)) fun _ => ne_ref (e_call (a_cons e_c (a_cons (e_f rfl) (a_cons (arg 0 2101 (by decide) (by decide)) a_nil))) (tl 2101 (by decide) (by decide))) e_c (by decide +kernel)) rfl) ?_
  have e10 : x2 dEq (x2 dMod (x1 dInt (x2 dIx (xF 1) (xC (.int 10)))) (xC (.int 3))) (xC (.int 1)) [.a (.scr ns), .d (.list (ds.map .int)), .d (natD N), .no, .d (.list (wordsD A)), .d (.list (wordsD T)), .d (.list (words14.map .str)), .d (.list (wordsD F)), .d (.list (wordsD T)), .d (.list (wordsD T)), .d (.str (dueOf false)), t11, u12, t13, .m ((ends37 T).map tupD), .no, .d (pairD 1 [List.replicate 50 0] [List.replicate kk 0])] = .ok (.bool (decide (a10 = 1))) :=
    e_is (e_2 (e_is (e_2 (dr 10 rfl (by decide) (by decide) e_c) e_c (dMod_ok (by decide))) (by rw [ha10])) e_c dEq_int) (by
      rw [show decide ((a10 : Int) = 1) = decide (a10 = 1) from decide_eq_decide.mpr (by omega)])
  refine s_ret (e_is (e_and (p := true) (q := true) (e_eq_same (e_call (a_cons e_c (a_cons (e_f rfl) (a_cons (arg 0 1900 (by decide) (by decide)) a_nil))) te) e10 rfl) fun _ => e_eq_same (e_call (a_cons e_c (a_cons (e_f rfl) (a_cons (arg 1 2101 (by decide) (by decide)) a_nil))) tr) (e_tup (a_cons e_c (a_cons e_c a_nil)) (by simp)) (ref_sh _ (by decide +kernel))) rfl)
end Lawk37
namespace Lawk37
open PySem L2 Al Sm PySem.Spec PyProof.Rows
open Evl (Ex)

def top (i : Nat) : Stmt := PySem.Challenge.pw_alikeread_k37_pairs_refused.main.body.getD i (.Pass ⟨0, 0, 0, 0⟩)
def fn : List He.DefD := [dd ("_law_draws", none) "_law_draws" "_law_draws" (top 67),
  dd ("Pair", some "__init__") "__init__" "Pair.__init__" (inClass (top 19) 0),
  dd ("is_number", none) "is_number" "is_number" (top 14),
  dd ("are_letters", none) "are_letters" "are_letters" (top 15),
  dd ("is_word", none) "is_word" "is_word" (top 16),
  dd ("Book", some "__init__") "__init__" "Book.__init__" (inClass (top 18) 0),
  dd ("Pair", some "is_even") "is_even" "Pair.is_even" (inClass (top 19) 2),
  dd ("check_even", none) "check_even" "check_even" (top 32),
  dd ("_are_different", none) "_are_different" "_are_different" (top 17),
  dd ("Book", some "starts_apart") "starts_apart" "Book.starts_apart" (inClass (top 18) 5),
  dd ("Pair", some "is_apart") "is_apart" "Pair.is_apart" (inClass (top 19) 1),
  dd ("check_apart", none) "check_apart" "check_apart" (top 23),
  dd ("check_pair", none) "check_pair" "check_pair" (top 33),
  dd ("lesser", none) "lesser" "lesser" (top 34),
  dd ("chain", none) "chain" "chain" (top 36),
  dd ("alike_letters", none) "alike_letters" "alike_letters" (top 37),
  dd ("Far", some "__init__") "__init__" "Far.__init__" (inClass (top 43) 0),
  dd ("primes", none) "primes" "primes" (top 47),
  dd ("Counts", some "__init__") "__init__" "Counts.__init__" (inClass (top 56) 0),
  dd ("prime_lengths", none) "prime_lengths" "prime_lengths" (top 57),
  dd ("least", none) "least" "least" (top 60),
  dd ("between", none) "between" "between" (top 65),
  dd ("in_primes", none) "in_primes" "in_primes" (top 49),
  dd ("row_made", none) "row_made" "row_made" (top 50),
  dd ("Book", some "length") "length" "Book.length" (inClass (top 18) 3),
  dd ("Book", some "read") "read" "Book.read" (inClass (top 18) 4),
  dd ("is_alike", none) "is_alike" "is_alike" (top 48),
  dd ("counts", none) "counts" "counts" (top 58),
  dd ("count_at", none) "count_at" "count_at" (top 59),
  dd ("row_at", none) "row_at" "row_at" (top 61),
  dd ("number_of", none) "number_of" "number_of" (top 64),
  dd ("_law_asked", none) "_law_asked" "_law_asked" (top 68),
  dd ("_law_told", none) "_law_told" "_law_told" (top 69),
  dd ("Book", some "words") "words" "Book.words" (inClass (top 18) 1),
  dd ("suffixes", none) "suffixes" "suffixes" (top 38),
  dd ("law", none) "law" "law" (top 70)]
def fs : List Fact := [fGlo "_law_draws",
  fFree "int",
  fFree "range",
  fMk "Book",
  fGlo "Book",
  fMk "Pair",
  fGlo "Pair",
  fGlo "_law_told",
  fFree "len",
  fGlo "suffixes",
  fFree "set",
  fFree "abs",
  fCls "Pair",
  fNoat "Pair" "letters",
  fCls "Book",
  fNoat "Book" "letters",
  fExc "BadBook",
  fGlo "BadBook",
  fNoat "Pair" "first",
  fNoat "Pair" "second",
  fInt "MOST_LETTERS" 60,
  fGlo "is_number",
  fFree "isinstance",
  fFree "list",
  fInt "MOST_WORDS" 60,
  fFree "all",
  fGlo "is_word",
  fNoat "Book" "size",
  fNoat "Book" "_words",
  fFree "bool",
  fGlo "are_letters",
  fInt "LONGEST_WORD" 5000,
  fFree "tuple",
  fGlo "_law_asked",
  fEcl "TooLong",
  fKit "TooLong" "BadBook" false,
  fEcl "NotApart",
  fKit "NotApart" "BadBook" false,
  fEcl "BadLetter",
  fKit "BadLetter" "BadBook" false,
  fEcl "BadRow",
  fKit "BadRow" "BadBook" false,
  fEcl "BadNumber",
  fKit "BadNumber" "BadBook" false,
  fEcl "BadBook",
  fKit "BadBook" "BadBook" true,
  fGlo "NotApart",
  fKit "TooLong" "NotApart" false,
  fKit "NotApart" "NotApart" true,
  fKit "BadLetter" "NotApart" false,
  fKit "BadRow" "NotApart" false,
  fKit "BadNumber" "NotApart" false,
  fKit "BadBook" "NotApart" false,
  fGlo "BadRow",
  fKit "TooLong" "BadRow" false,
  fKit "NotApart" "BadRow" false,
  fKit "BadLetter" "BadRow" false,
  fKit "BadRow" "BadRow" true,
  fKit "BadNumber" "BadRow" false,
  fKit "BadBook" "BadRow" false,
  fGlo "BadNumber",
  fKit "TooLong" "BadNumber" false,
  fKit "NotApart" "BadNumber" false,
  fKit "BadLetter" "BadNumber" false,
  fKit "BadRow" "BadNumber" false,
  fKit "BadNumber" "BadNumber" true,
  fKit "BadBook" "BadNumber" false,
  fGlo "TooLong",
  fKit "TooLong" "TooLong" true,
  fKit "NotApart" "TooLong" false,
  fKit "BadLetter" "TooLong" false,
  fKit "BadRow" "TooLong" false,
  fKit "BadNumber" "TooLong" false,
  fKit "BadBook" "TooLong" false,
  fGlo "AlikeError",
  fExm "TooLong" "AlikeError" true,
  fExm "NotApart" "AlikeError" true,
  fExm "BadLetter" "AlikeError" true,
  fExm "BadRow" "AlikeError" true,
  fExm "BadNumber" "AlikeError" true,
  fExm "BadBook" "AlikeError" true,
  fGlo "alike_letters",
  fGlo "chain",
  fGlo "lesser",
  fMk "Far",
  fGlo "Far",
  fGlo "least",
  fGlo "prime_lengths",
  fGlo "primes",
  fGlo "between",
  fGlo "number_of",
  fGlo "row_at",
  fGlo "count_at",
  fGlo "counts",
  fGlo "is_alike",
  fGlo "row_made",
  fGlo "in_primes",
  fGlo "check_pair",
  fGlo "check_even",
  fGlo "check_apart",
  fMeth "Pair" "is_even",
  fMeth "Pair" "is_apart",
  fExc "NotApart",
  fMeth "Book" "starts_apart",
  fGlo "_are_different",
  fMk "Counts",
  fGlo "Counts",
  fCls "Counts",
  fNoat "Counts" "lengths",
  fNoat "Counts" "far",
  fMeth "Book" "read",
  fMeth "Book" "length",
  fInt "LONGEST_TEXT" 100000,
  fExc "TooLong",
  fExc "BadRow",
  fFree "sum",
  fMeth "Book" "words",
  fGlo "law"]
abbrev s__law_draws : Stmt := top 67
theorem sc__law_draws : FnScope ["script", "many", "draws", "seed", "cell", "number", "k"] ["script", "many"] (defScope s__law_draws) := ⟨rfl, rfl, rfl, by decide +kernel, rfl, by decide +kernel, by decide +kernel⟩
theorem ok__law_draws {P : Program} {w : World} {K : PySem.W.Frag} {mg : Str → Option Value} {base : Heap} (T : Top fs fn K mg) : Df P w K mg base 1 ("_law_draws", none) ["script", "many"] (spF ⟨K, w⟩ [false, false] g__law_draws) := by
  refine df_of T 0 (name := "_law_draws") (qual := "_law_draws") (s := s__law_draws) (N := ["script", "many", "draws", "seed", "cell", "number", "k"]) (k := 0) rfl sc__law_draws (fun vs H Q E hsp => (spF_len hsp).trans rfl) (fun _ _ _ _ _ _ us hl => match us, hl with | [_, _], _ => rfl) (fun cdv A outer s0 H vs Q E hr hsp => ?_)
  refine ⟨_, (pss_cons (ps_set (i := 2) sc__law_draws.nd rfl (.inl rfl) (pe_lst pa_nil))
      (pss_cons (ps_set (i := 3) sc__law_draws.nd rfl (.inl rfl) pe_int)
      (pss_cons (ps_for (passes_of rfl) rfl (pi_seq (K := K) rfl (pe_slice (sl_uniK (K := K) rfl) (pv 0) po_none (po_some pe_int))) (pg_name (i := 4) sc__law_draws.nd rfl (.inl rfl))
      (pss_cons (ps_set (i := 5) sc__law_draws.nd rfl (.inl rfl) (pe_callB call_absU (by rfl) (T.free 11) bt_abs (pa_cons (pv 4) pa_nil)))
      (pss_cons (ps_set (i := 3) sc__law_draws.nd rfl (.inl rfl) (pe_op op_modI (pe_callTy call_intU (by rfl) (T.free 1) bt_int (pa_cons (pe_op (op_addU (K := K) rfl) (pe_op (op_addU (K := K) rfl) (pe_op (op_mulU (K := K) rfl) (pv 3) pe_int) (pv 5)) pe_int) pa_nil)) pe_int))
      (pss_one (ps_if (pt_cmpR op_geI (pv 5) (pe_op op_powI pe_int pe_int) (nomark _))
      (pss_one (ps_for (passes_of rfl) rfl (pi_range1 (by rfl) (T.free 2) (pa_cons pe_int pa_nil)) (pg_name (i := 6) sc__law_draws.nd rfl (.inl rfl))
      (pss_one (ps_if (pt_cmpR op_gtI (pv 5) pe_int (nomark _))
      (pss_cons (ps_expr (pe_bm PySem.F.plainAttrs_list PySem.F.slot_list_append PySem.F.type_list_append mt_append (pv 2) (pa_cons (pe_op op_modI (pe_callTy call_intU (by rfl) (T.free 1) bt_int (pa_cons (pv 5) pa_nil)) pe_int) pa_nil)))
      (pss_one (ps_set (i := 5) sc__law_draws.nd rfl (.inl rfl) (pe_op op_divI (pv 5) pe_int))))
      pss_nil))))
      (pss_one (ps_expr (pe_bm PySem.F.plainAttrs_list PySem.F.slot_list_append PySem.F.type_list_append mt_append (pv 2) (pa_cons (pe_op op_modI (pe_op op_divI (pe_callTy call_intU (by rfl) (T.free 1) bt_int (pa_cons (pe_op (op_addU (K := K) rfl) (pe_op (op_mulU (K := K) rfl) (pv 3) pe_int) pe_int) pa_nil)) pe_int) pe_int) pa_nil)))))))))
      (pss_cons (ps_for (passes_of rfl) rfl (pi_range1 (by rfl) (T.free 2) (pa_cons (pv 1) pa_nil)) (pg_name (i := 6) sc__law_draws.nd rfl (.inl rfl))
      (pss_one (ps_if (pt_cmpR (op_ltU (K := K) rfl hr.units0) (pe_callB (call_lenW (K := K) rfl w) (by rfl) (T.free 8) bt_len (pa_cons (pv 2) pa_nil)) (pv 1) (nomark _))
      (pss_cons (ps_set (i := 3) sc__law_draws.nd rfl (.inl rfl) (pe_op op_modI (pe_callTy call_intU (by rfl) (T.free 1) bt_int (pa_cons (pe_op (op_addU (K := K) rfl) (pe_op (op_addU (K := K) rfl) (pe_op (op_mulU (K := K) rfl) (pv 3) pe_int) (pv 6)) pe_int) pa_nil)) pe_int))
      (pss_one (ps_expr (pe_bm PySem.F.plainAttrs_list PySem.F.slot_list_append PySem.F.type_list_append mt_append (pv 2) (pa_cons (pe_op op_modI (pe_op op_divI (pe_callTy call_intU (by rfl) (T.free 1) bt_int (pa_cons (pv 3) pa_nil)) pe_int) pe_int) pa_nil)))))
      pss_nil)))
      (pss_one (ps_ret (pe_slice (sl_uniK (K := K) rfl) (pv 2) po_none (po_some (pv 1))))))))), ?_⟩
  exact of_sim (N := ["script", "many", "draws", "seed", "cell", "number", "k"]) (md := [false, false]) (F := F__law_draws) (fun co => (ss_seq (ss_setN (sn_lst sa_nil rfl))
      (ss_seq (ss_set (se_c fun _ => .int _))
      (ss_seq (ss_for (si_seq (se_alt (SimN.e (sn_sl (SimV.p sv_var) so_no (so_so (SimE.up (se_c fun _ => .int _))))) (SimE.low (se_sl (SimV.p sv_var) so_no (so_so (SimE.up (se_c fun _ => .int _))))))) (fun _ => sg_name)
      (fun _ => (ss_seq (ss_set (se_abs (SimE.up se_f)))
      (ss_seq (ss_set (se_opF of_modI (SimE.up (se_int (SimE.up (se_op os_addU (se_op os_addU (se_op os_mulU se_f (se_c fun _ => .int _)) se_f) (se_c fun _ => .int _))))) (SimE.up (se_c fun _ => .int _))))
      (ss_if (st_tst (SimE.up (se_opF of_geI (SimE.up se_f) (SimE.up (se_opF of_powI (SimE.up (se_c fun _ => .int _)) (SimE.up (se_c fun _ => .int _)))))))
      (ss_for (si_rg1 (SimE.up (se_c fun _ => .int _))) (fun _ => sg_name)
      (fun _ => (ss_if (st_tst (SimE.up (se_opF of_gtI (SimE.up se_f) (SimE.up (se_c fun _ => .int _)))))
      (ss_seq (ss_app (se_opF of_modI (SimE.up (se_int (SimE.up se_f))) (SimE.up (se_c fun _ => .int _))))
      (ss_set (se_opF of_divI (SimE.up se_f) (SimE.up (se_c fun _ => .int _)))))
      ss_next)))
      (ss_app (se_opF of_modI (SimE.up (se_opF of_divI (SimE.up (se_int (SimE.up (se_op os_addU (se_op os_mulU se_f (se_c fun _ => .int _)) (se_c fun _ => .int _))))) (SimE.up (se_c fun _ => .int _)))) (SimE.up (se_c fun _ => .int _)))))))))
      (ss_seq (ss_for (si_rg1 (SimV.p sv_var)) (fun _ => sg_name)
      (fun _ => (ss_if (st_tst (SimE.up (se_opF of_ltU (SimE.up (se_lenK se_p)) (SimV.p sv_var))))
      (ss_seq (ss_set (se_opF of_modI (SimE.up (se_int (SimE.up (se_op os_addU (se_op os_addU (se_op os_mulU se_f (se_c fun _ => .int _)) se_f) (se_c fun _ => .int _))))) (SimE.up (se_c fun _ => .int _))))
      (ss_app (se_opF of_modI (SimE.up (se_opF of_divI (SimE.up (se_int (SimE.up se_f))) (SimE.up (se_c fun _ => .int _)))) (SimE.up (se_c fun _ => .int _)))))
      ss_next)))
      (ss_retN (sn_slL sl_m so_no (so_so (SimV.p sv_var))))))))) (by decide) hsp
abbrev s_Pair___init__ : Stmt := inClass (top 19) 0
theorem sc_Pair___init__ : FnScope ["self", "first", "second"] ["self", "first", "second"] (defScope s_Pair___init__) := ⟨rfl, rfl, rfl, by decide +kernel, rfl, by decide +kernel, by decide +kernel⟩
theorem ok_Pair___init__ {P : Program} {w : World} {K : PySem.W.Frag} {mg : Str → Option Value} {base : Heap} (T : Top fs fn K mg) : Df P w K mg base 1 ("Pair", some "__init__") ["self", "first", "second"] (spI ⟨K, w⟩ "Pair" [true, true] g_Pair___init__) := by
  refine df_of T 1 (name := "__init__") (qual := "Pair.__init__") (s := s_Pair___init__) (N := ["self", "first", "second"]) (k := 0) rfl sc_Pair___init__ (fun vs H Q E hsp => (spI_len hsp).trans rfl) (fun _ _ _ _ _ _ us hl => match us, hl with | [_, _, _], _ => rfl) (fun cdv A outer s0 H vs Q E hr hsp => ?_)
  refine ⟨_, (pss_cons (ps_if (pt_cmpR (op_neK (K := K) rfl hr.units) (pe_fldK (K := K) rfl (pv 1) rfl) (pe_fldK (K := K) rfl (pv 2) rfl) (nomark _))
      (pss_one (ps_raise rfl (takes_of rfl rfl rfl rfl) (pmk_own PySem.F.excBase_ValueError (T.exc 16).1 (T.glo 17) (T.exc 16).2.1 (raises_own (T.exc 16).2.2.1 (T.exc 16).2.2.2) rfl)))
      pss_nil)
      (pss_cons (ps_fld (pv 0) (pv 1) rfl)
      (pss_cons (ps_fld (pv 0) (pv 2) rfl)
      (pss_one (ps_fld (pv 0) (pe_fldK (K := K) rfl (pv 1) rfl) rfl))))), ?_⟩
  exact of_simI (c := "Pair") (N := ["self", "first", "second"]) (md := [true, true]) (F := F_Pair___init__) (fun co => (ss_seq (ss_if (st_tst (SimE.up (se_opF of_ne (SimE.up (se_fld (all_cons ⟨T.cls 14, T.noat 15⟩ (all_cons ⟨T.cls 12, T.noat 13⟩ (all_nil _))) se_f)) (SimE.up (se_fld (all_cons ⟨T.cls 14, T.noat 15⟩ (all_cons ⟨T.cls 12, T.noat 13⟩ (all_nil _))) se_f)))))
      ss_raise
      ss_next)
      (ss_seq (ss_fld (T.cls 12) (T.noat 18) se_f)
      (ss_seq (ss_fld (T.cls 12) (T.noat 19) se_f)
      (ss_fld (T.cls 12) (T.noat 13) (se_fld (all_cons ⟨T.cls 14, T.noat 15⟩ (all_cons ⟨T.cls 12, T.noat 13⟩ (all_nil _))) se_f)))))) (by decide) hsp
abbrev s_is_number : Stmt := top 14
theorem sc_is_number : FnScope ["value", "least", "most"] ["value", "least", "most"] (defScope s_is_number) := ⟨rfl, rfl, rfl, by decide +kernel, rfl, by decide +kernel, by decide +kernel⟩
theorem ok_is_number {P : Program} {w : World} {K : PySem.W.Frag} {mg : Str → Option Value} {base : Heap} (T : Top fs fn K mg) : Df P w K mg base 1 ("is_number", none) ["value", "least", "most"] (spF ⟨K, w⟩ [false, false, false] g_is_number) := by
  refine df_of T 2 (name := "is_number") (qual := "is_number") (s := s_is_number) (N := ["value", "least", "most"]) (k := 0) rfl sc_is_number (fun vs H Q E hsp => (spF_len hsp).trans rfl) (fun _ _ _ _ _ _ us hl => match us, hl with | [_, _, _], _ => rfl) (fun cdv A outer s0 H vs Q E hr hsp => ?_)
  refine ⟨_, (pss_one (ps_ret (pe_and (pe_callB (call_isiK (K := K) rfl) (by rfl) (T.free 22) bt_isinstance (pa_cons (pv 0) (pa_cons (pe_bltn (v := .ty "int") rfl (T.free 1) bt_int rfl) pa_nil))) (pe_and (pe_not (pe_callB (call_isiK (K := K) rfl) (by rfl) (T.free 22) bt_isinstance (pa_cons (pv 0) (pa_cons (pe_bltn (v := .ty "bool") rfl (T.free 29) bt_bool rfl) pa_nil)))) (pe_one (pe_chain op_leI op_leI (pv 1) (pv 0) (pv 2))))))), ?_⟩
  exact of_sim (N := ["value", "least", "most"]) (md := [false, false, false]) (F := F_is_number) (fun co => (ss_ret (se_and (SimE.up (se_isi (SimV.p sv_var))) (se_and (SimE.up (se_not (SimE.up (se_isi (SimV.p sv_var))))) (se_chain of_leI of_leI (SimV.p sv_var) (SimV.p sv_var) (SimV.p sv_var)) rfl) rfl))) (by decide) hsp
abbrev s_are_letters : Stmt := top 15
theorem sc_are_letters : FnScope ["value", "letters", "one"] ["value", "letters"] (defScope s_are_letters) := ⟨rfl, rfl, rfl, by decide +kernel, rfl, by decide +kernel, by decide +kernel⟩
theorem ok_are_letters {P : Program} {w : World} {K : PySem.W.Frag} {mg : Str → Option Value} {base : Heap} (T : Top fs fn K mg) : Df P w K mg base 2 ("are_letters", none) ["value", "letters"] (spF ⟨K, w⟩ [false, false] g_are_letters) := by
  refine df_of T 3 (name := "are_letters") (qual := "are_letters") (s := s_are_letters) (N := ["value", "letters", "one"]) (k := 1) rfl sc_are_letters (fun vs H Q E hsp => (spF_len hsp).trans rfl) (fun _ _ _ _ _ _ us hl => match us, hl with | [_, _], _ => rfl) (fun cdv A outer s0 H vs Q E hr hsp => ?_)
  obtain ⟨⟨fd_is_number, G_is_number, b_is_number⟩, k_is_number⟩ := ok_is_number (P := P) (w := w) (base := base) T
  refine ⟨_, (pss_one (ps_ret (pe_and (pe_callB (call_isiK (K := K) rfl) (by rfl) (T.free 22) bt_isinstance (pa_cons (pv 0) (pa_cons (pe_bltn (v := .ty "tuple") rfl (T.free 32) bt_tuple rfl) pa_nil))) (pe_one (pe_callB (cr_allK (K := K) rfl rfl) (by rfl) (T.free 25) bt_all (pa_cons (pe_lc (own := [("one", 2)]) (g := gName 2) rfl sc_are_letters.nd (pi_seq (K := K) rfl (pv 0)) (blkOk_by (own := [("one", 2)]) (N := ["value", "letters", "one"]) (sc := defScope s_are_letters) (by decide +kernel)) (fun _ _ _ _ _ => (pg_name (i := 2) sc_are_letters.nd rfl (Or.inl rfl))) (fun _ _ _ _ _ => pts_nil) (fun _ _ _ _ _ => (pe_call G_is_number (hr.mono (by decide)) rfl (T.glo 21) k_is_number b_is_number .nil passL (pa_cons (pv 2) (pa_cons pe_int (pa_cons (pe_op op_subI (pv 1) pe_int) pa_nil)))))) pa_nil)))))), ?_⟩
  exact of_sim (N := ["value", "letters", "one"]) (md := [false, false]) (F := F_are_letters) (fun co => (ss_ret (se_and (SimE.up (se_isi (SimV.p sv_var))) (se_all (SimE.up (SimN.e (sn_lc (si_seqV sv_var) (fun _ => sg_name) (by decide) (fun _ => st_yes) (fun _ => (se_callB (sa_cons (b := false) (SimV.p sv_var) (sa_cons (b := false) (SimE.up (se_c fun _ => .int _)) (sa_cons (b := false) (SimE.up (se_opF of_subI (SimV.p sv_var) (SimE.up (se_c fun _ => .int _)))) sa_nil))))))))) rfl))) (by decide) hsp
abbrev s_is_word : Stmt := top 16
theorem sc_is_word : FnScope ["value", "letters"] ["value", "letters"] (defScope s_is_word) := ⟨rfl, rfl, rfl, by decide +kernel, rfl, by decide +kernel, by decide +kernel⟩
theorem ok_is_word {P : Program} {w : World} {K : PySem.W.Frag} {mg : Str → Option Value} {base : Heap} (T : Top fs fn K mg) : Df P w K mg base 3 ("is_word", none) ["value", "letters"] (spF ⟨K, w⟩ [false, false] g_is_word) := by
  refine df_of T 4 (name := "is_word") (qual := "is_word") (s := s_is_word) (N := ["value", "letters"]) (k := 2) rfl sc_is_word (fun vs H Q E hsp => (spF_len hsp).trans rfl) (fun _ _ _ _ _ _ us hl => match us, hl with | [_, _], _ => rfl) (fun cdv A outer s0 H vs Q E hr hsp => ?_)
  obtain ⟨⟨fd_are_letters, G_are_letters, b_are_letters⟩, k_are_letters⟩ := ok_are_letters (P := P) (w := w) (base := base) T
  refine ⟨_, (pss_one (ps_ret (pe_and (pe_call G_are_letters (hr.mono (by decide)) rfl (T.glo 30) k_are_letters b_are_letters .nil (passes_call (takes_of rfl rfl rfl rfl) (fun _ _ _ _ h => h)) (pa_cons (pv 0) (pa_cons (pv 1) pa_nil))) (pe_one (pe_chain op_leI op_leI pe_int (pe_callB (call_lenW (K := K) rfl w) (by rfl) (T.free 8) bt_len (pa_cons (pv 0) pa_nil)) (pe_gi (T.int 31))))))), ?_⟩
  exact of_sim (N := ["value", "letters"]) (md := [false, false]) (F := F_is_word) (fun co => (ss_ret (se_and (SimE.up (se_call (sa_cons (b := false) (SimV.p sv_var) (sa_cons (b := false) (SimV.p sv_var) sa_nil)))) (se_chain of_leI of_leI (SimE.up (se_c fun _ => .int _)) (SimE.up (se_lenK (SimV.p sv_var))) (SimE.up (se_c fun _ => .int _))) rfl))) (by decide) hsp
abbrev s_Book___init__ : Stmt := inClass (top 18) 0
theorem sc_Book___init__ : FnScope ["self", "letters", "words", "word"] ["self", "letters", "words"] (defScope s_Book___init__) := ⟨rfl, rfl, rfl, by decide +kernel, rfl, by decide +kernel, by decide +kernel⟩
theorem ok_Book___init__ {P : Program} {w : World} {K : PySem.W.Frag} {mg : Str → Option Value} {base : Heap} (T : Top fs fn K mg) : Df P w K mg base 4 ("Book", some "__init__") ["self", "letters", "words"] (spI ⟨K, w⟩ "Book" [false, false] g_Book___init__) := by
  refine df_of T 5 (name := "__init__") (qual := "Book.__init__") (s := s_Book___init__) (N := ["self", "letters", "words", "word"]) (k := 3) rfl sc_Book___init__ (fun vs H Q E hsp => (spI_len hsp).trans rfl) (fun _ _ _ _ _ _ us hl => match us, hl with | [_, _, _], _ => rfl) (fun cdv A outer s0 H vs Q E hr hsp => ?_)
  obtain ⟨⟨fd_is_number, G_is_number, b_is_number⟩, k_is_number⟩ := ok_is_number (P := P) (w := w) (base := base) T
  obtain ⟨⟨fd_is_word, G_is_word, b_is_word⟩, k_is_word⟩ := ok_is_word (P := P) (w := w) (base := base) T
  refine ⟨_, (pss_cons (ps_if (PW.pt (pw_or (pt_not (pt_truK (K := K) rfl (pe_call G_is_number (hr.mono (by decide)) rfl (T.glo 21) k_is_number b_is_number .nil (passes_call (takes_of rfl rfl rfl rfl) (fun _ _ _ _ h => h)) (pa_cons (pv 1) (pa_cons pe_int (pa_cons (pe_gi (T.int 20)) pa_nil)))))) (pw_or (pt_not (pt_truK (K := K) rfl (pe_callB (call_isiK (K := K) rfl) (by rfl) (T.free 22) bt_isinstance (pa_cons (pv 2) (pa_cons (pe_bltn (v := .ty "list") rfl (T.free 23) bt_list rfl) pa_nil))))) (pw_or1 (pt_cmpR op_gtI (pe_callB (call_lenW (K := K) rfl w) (by rfl) (T.free 8) bt_len (pa_cons (pv 2) pa_nil)) (pe_gi (T.int 24)) (nomark _))))))
      (pss_one (ps_raise rfl (takes_of rfl rfl rfl rfl) (pmk_own PySem.F.excBase_ValueError (T.exc 16).1 (T.glo 17) (T.exc 16).2.1 (raises_own (T.exc 16).2.2.1 (T.exc 16).2.2.2) rfl)))
      pss_nil)
      (pss_cons (ps_if (pt_not (pt_truK (K := K) rfl (pe_callB (cr_allK (K := K) rfl rfl) (by rfl) (T.free 25) bt_all (pa_cons (pe_lc (own := [("word", 3)]) (g := gName 3) rfl sc_Book___init__.nd (pi_seq (K := K) rfl (pv 2)) (blkOk_by (own := [("word", 3)]) (N := ["self", "letters", "words", "word"]) (sc := defScope s_Book___init__) (by decide +kernel)) (fun _ _ _ _ _ => (pg_name (i := 3) sc_Book___init__.nd rfl (Or.inl rfl))) (fun _ _ _ _ _ => pts_nil) (fun _ _ _ _ _ => (pe_call G_is_word (hr.mono (by decide)) rfl (T.glo 26) k_is_word b_is_word .nil passL (pa_cons (pv 3) (pa_cons (pv 1) pa_nil))))) pa_nil))))
      (pss_one (ps_raise rfl (takes_of rfl rfl rfl rfl) (pmk_own PySem.F.excBase_ValueError (T.exc 16).1 (T.glo 17) (T.exc 16).2.1 (raises_own (T.exc 16).2.2.1 (T.exc 16).2.2.2) rfl)))
      pss_nil)
      (pss_cons (ps_fld (pv 0) (pv 1) rfl)
      (pss_cons (ps_fld (pv 0) (pe_callB (call_lenW (K := K) rfl w) (by rfl) (T.free 8) bt_len (pa_cons (pv 2) pa_nil)) rfl)
      (pss_one (ps_fld (pv 0) (pe_callTy (call_listOfK (K := K) rfl) (by rfl) (T.free 23) bt_list (pa_cons (pv 2) pa_nil)) rfl)))))), ?_⟩
  exact of_simI (c := "Book") (N := ["self", "letters", "words", "word"]) (md := [false, false]) (F := F_Book___init__) (fun co => (ss_seq (ss_if (st_or (st_not (st_tru (SimE.up (se_call (sa_cons (b := false) (SimV.p sv_var) (sa_cons (b := false) (SimE.up (se_c fun _ => .int _)) (sa_cons (b := false) (SimE.up (se_c fun _ => .int _)) sa_nil))))))) (st_or (st_not (st_tru (SimE.up (se_isi (SimV.p sv_var))))) (st_tst (SimE.up (se_opF of_gtI (SimE.up (se_lenK (SimV.p sv_var))) (SimE.up (se_c fun _ => .int _)))))))
      ss_raise
      ss_next)
      (ss_seq (ss_if (st_not (st_tru (SimE.up (se_all (SimE.up (SimN.e (sn_lc (si_seqV sv_var) (fun _ => sg_name) (by decide) (fun _ => st_yes) (fun _ => (se_callB (sa_cons (b := false) (SimV.p sv_var) (sa_cons (b := false) (SimV.p sv_var) sa_nil)))))))))))
      ss_raise
      ss_next)
      (ss_seq (ss_fld (T.cls 14) (T.noat 15) (SimE.low (SimV.p sv_var)))
      (ss_seq (ss_fld (T.cls 14) (T.noat 27) (se_lenK (SimV.p sv_var)))
      (ss_fld (T.cls 14) (T.noat 28) (SimN.e (sn_list (SimV.p sv_var))))))))) (by decide) hsp
abbrev s_Pair_is_even : Stmt := inClass (top 19) 2
theorem sc_Pair_is_even : FnScope ["self"] ["self"] (defScope s_Pair_is_even) := ⟨rfl, rfl, rfl, by decide +kernel, rfl, by decide +kernel, by decide +kernel⟩
theorem ok_Pair_is_even {P : Program} {w : World} {K : PySem.W.Frag} {mg : Str → Option Value} {base : Heap} (T : Top fs fn K mg) : Df P w K mg base 1 ("Pair", some "is_even") ["self"] (spF ⟨K, w⟩ [false] g_Pair_is_even) := by
  refine df_of T 6 (name := "is_even") (qual := "Pair.is_even") (s := s_Pair_is_even) (N := ["self"]) (k := 0) rfl sc_Pair_is_even (fun vs H Q E hsp => (spF_len hsp).trans rfl) (fun _ _ _ _ _ _ us hl => match us, hl with | [_], _ => rfl) (fun cdv A outer s0 H vs Q E hr hsp => ?_)
  refine ⟨_, (pss_one (ps_ret (pe_cmpR (op_eqK (K := K) rfl hr.units) (pe_fldK (K := K) rfl (pe_fldK (K := K) rfl (pv 0) rfl) rfl) (pe_fldK (K := K) rfl (pe_fldK (K := K) rfl (pv 0) rfl) rfl) (nomark _)))), ?_⟩
  exact of_sim (N := ["self"]) (md := [false]) (F := F_Pair_is_even) (fun co => (ss_ret (se_opF of_eq (SimV.p (sv_fld (all_cons ⟨T.cls 14, T.noat 27⟩ (all_nil _)) (sv_fld (all_cons ⟨T.cls 12, T.noat 18⟩ (all_nil _)) sv_var))) (SimV.p (sv_fld (all_cons ⟨T.cls 14, T.noat 27⟩ (all_nil _)) (sv_fld (all_cons ⟨T.cls 12, T.noat 19⟩ (all_nil _)) sv_var)))))) (by decide) hsp
abbrev s_check_even : Stmt := top 32
theorem sc_check_even : FnScope ["pair"] ["pair"] (defScope s_check_even) := ⟨rfl, rfl, rfl, by decide +kernel, rfl, by decide +kernel, by decide +kernel⟩
theorem ok_check_even {P : Program} {w : World} {K : PySem.W.Frag} {mg : Str → Option Value} {base : Heap} (T : Top fs fn K mg) : Df P w K mg base 2 ("check_even", none) ["pair"] (spF ⟨K, w⟩ [false] g_check_even) := by
  refine df_of T 7 (name := "check_even") (qual := "check_even") (s := s_check_even) (N := ["pair"]) (k := 1) rfl sc_check_even (fun vs H Q E hsp => (spF_len hsp).trans rfl) (fun _ _ _ _ _ _ us hl => match us, hl with | [_], _ => rfl) (fun cdv A outer s0 H vs Q E hr hsp => ?_)
  obtain ⟨⟨fd_Pair_is_even, G_Pair_is_even, b_Pair_is_even⟩, k_Pair_is_even⟩ := ok_Pair_is_even (P := P) (w := w) (base := base) T
  refine ⟨_, (pss_one (ps_if (pt_not (pt_truK (K := K) rfl (pe_meth0 (pv 0) (T.cls 12) (T.meth 100) G_Pair_is_even (hr.mono (by decide)) b_Pair_is_even .nil (passes_call (takes_of rfl rfl rfl rfl) (fun _ _ _ _ h => h)))))
      (pss_one (ps_raise rfl (takes_of rfl rfl rfl rfl) (pmk_own PySem.F.excBase_ValueError (T.exc 16).1 (T.glo 17) (T.exc 16).2.1 (raises_own (T.exc 16).2.2.1 (T.exc 16).2.2.2) rfl)))
      pss_nil)), ?_⟩
  exact of_sim (N := ["pair"]) (md := [false]) (F := F_check_even) (fun co => (ss_if (st_not (st_tru (SimE.up (se_meth (b := false) (SimV.p sv_var) sa_nil))))
      ss_raise
      ss_next)) (by decide) hsp
abbrev s__are_different : Stmt := top 17
theorem sc__are_different : FnScope ["letters"] ["letters"] (defScope s__are_different) := ⟨rfl, rfl, rfl, by decide +kernel, rfl, by decide +kernel, by decide +kernel⟩
theorem ok__are_different {P : Program} {w : World} {K : PySem.W.Frag} {mg : Str → Option Value} {base : Heap} (T : Top fs fn K mg) : Df P w K mg base 1 ("_are_different", none) ["letters"] (spF ⟨K, w⟩ [false] g__are_different) := by
  refine df_of T 8 (name := "_are_different") (qual := "_are_different") (s := s__are_different) (N := ["letters"]) (k := 0) rfl sc__are_different (fun vs H Q E hsp => (spF_len hsp).trans rfl) (fun _ _ _ _ _ _ us hl => match us, hl with | [_], _ => rfl) (fun cdv A outer s0 H vs Q E hr hsp => ?_)
  refine ⟨_, (pss_one (ps_ret (pe_cmpR (op_eqK (K := K) rfl hr.units) (pe_lenSetK (K := K) rfl rfl (T.free 8) rfl (T.free 10) (pv 0)) (pe_callB (call_lenW (K := K) rfl w) (by rfl) (T.free 8) bt_len (pa_cons (pv 0) pa_nil)) (nomark _)))), ?_⟩
  exact of_sim (N := ["letters"]) (md := [false]) (F := F__are_different) (fun co => (ss_ret (se_opF of_eq (SimE.up (se_lenSet (SimV.p sv_var))) (SimE.up (se_lenK (SimV.p sv_var)))))) (by decide) hsp
abbrev s_Book_starts_apart : Stmt := inClass (top 18) 5
theorem sc_Book_starts_apart : FnScope ["self", "word"] ["self"] (defScope s_Book_starts_apart) := ⟨rfl, rfl, rfl, by decide +kernel, rfl, by decide +kernel, by decide +kernel⟩
theorem ok_Book_starts_apart {P : Program} {w : World} {K : PySem.W.Frag} {mg : Str → Option Value} {base : Heap} (T : Top fs fn K mg) : Df P w K mg base 2 ("Book", some "starts_apart") ["self"] (spF ⟨K, w⟩ [false] g_Book_starts_apart) := by
  refine df_of T 9 (name := "starts_apart") (qual := "Book.starts_apart") (s := s_Book_starts_apart) (N := ["self", "word"]) (k := 1) rfl sc_Book_starts_apart (fun vs H Q E hsp => (spF_len hsp).trans rfl) (fun _ _ _ _ _ _ us hl => match us, hl with | [_], _ => rfl) (fun cdv A outer s0 H vs Q E hr hsp => ?_)
  obtain ⟨⟨fd__are_different, G__are_different, b__are_different⟩, k__are_different⟩ := ok__are_different (P := P) (w := w) (base := base) T
  refine ⟨_, (pss_one (ps_ret (pe_call G__are_different (hr.mono (by decide)) rfl (T.glo 104) k__are_different b__are_different .nil (passes_call (takes_of rfl rfl rfl rfl) (fun _ _ _ _ h => h)) (pa_cons (pe_lc (own := [("word", 1)]) (g := gName 1) rfl sc_Book_starts_apart.nd (pi_seq (K := K) rfl (pe_fldK (K := K) rfl (pv 0) rfl)) (blkOk_by (own := [("word", 1)]) (N := ["self", "word"]) (sc := defScope s_Book_starts_apart) (by decide +kernel)) (fun _ _ _ _ _ => (pg_name (i := 1) sc_Book_starts_apart.nd rfl (Or.inl rfl))) (fun _ _ _ _ _ => pts_nil) (fun _ _ _ _ _ => (pe_ix (ix_W (K := K) (w := w) rfl rfl hr.units) (pv 1) pe_int (fun _ _ => rfl)))) pa_nil)))), ?_⟩
  exact of_sim (N := ["self", "word"]) (md := [false]) (F := F_Book_starts_apart) (fun co => (ss_ret (se_call (sa_cons (b := false) (SimE.up (SimN.e (sn_lc (si_seqV (sv_fld (all_cons ⟨T.cls 14, T.noat 28⟩ (all_nil _)) sv_var)) (fun _ => sg_name) (by decide) (fun _ => st_yes) (fun _ => (SimE.low (SimV.p (sv_ixK sv_var (SimE.up (se_c fun _ => .int _))))))))) sa_nil)))) (by decide) hsp
abbrev s_Pair_is_apart : Stmt := inClass (top 19) 1
theorem sc_Pair_is_apart : FnScope ["self"] ["self"] (defScope s_Pair_is_apart) := ⟨rfl, rfl, rfl, by decide +kernel, rfl, by decide +kernel, by decide +kernel⟩
theorem ok_Pair_is_apart {P : Program} {w : World} {K : PySem.W.Frag} {mg : Str → Option Value} {base : Heap} (T : Top fs fn K mg) : Df P w K mg base 3 ("Pair", some "is_apart") ["self"] (spF ⟨K, w⟩ [false] g_Pair_is_apart) := by
  refine df_of T 10 (name := "is_apart") (qual := "Pair.is_apart") (s := s_Pair_is_apart) (N := ["self"]) (k := 2) rfl sc_Pair_is_apart (fun vs H Q E hsp => (spF_len hsp).trans rfl) (fun _ _ _ _ _ _ us hl => match us, hl with | [_], _ => rfl) (fun cdv A outer s0 H vs Q E hr hsp => ?_)
  obtain ⟨⟨fd_Book_starts_apart, G_Book_starts_apart, b_Book_starts_apart⟩, k_Book_starts_apart⟩ := ok_Book_starts_apart (P := P) (w := w) (base := base) T
  refine ⟨_, (pss_one (ps_ret (pe_and (pe_meth0 (pe_fldK (K := K) rfl (pv 0) rfl) (T.cls 14) (T.meth 103) G_Book_starts_apart (hr.mono (by decide)) b_Book_starts_apart .nil (passes_call (takes_of rfl rfl rfl rfl) (fun _ _ _ _ h => h))) (pe_one (pe_meth0 (pe_fldK (K := K) rfl (pv 0) rfl) (T.cls 14) (T.meth 103) G_Book_starts_apart (hr.mono (by decide)) b_Book_starts_apart .nil (passes_call (takes_of rfl rfl rfl rfl) (fun _ _ _ _ h => h))))))), ?_⟩
  exact of_sim (N := ["self"]) (md := [false]) (F := F_Pair_is_apart) (fun co => (ss_ret (se_and (SimE.up (se_meth (b := false) (SimV.p (sv_fld (all_cons ⟨T.cls 12, T.noat 18⟩ (all_nil _)) sv_var)) sa_nil)) (se_meth (b := false) (SimV.p (sv_fld (all_cons ⟨T.cls 12, T.noat 19⟩ (all_nil _)) sv_var)) sa_nil) rfl))) (by decide) hsp
abbrev s_check_apart : Stmt := top 23
theorem sc_check_apart : FnScope ["pair"] ["pair"] (defScope s_check_apart) := ⟨rfl, rfl, rfl, by decide +kernel, rfl, by decide +kernel, by decide +kernel⟩
theorem ok_check_apart {P : Program} {w : World} {K : PySem.W.Frag} {mg : Str → Option Value} {base : Heap} (T : Top fs fn K mg) : Df P w K mg base 4 ("check_apart", none) ["pair"] (spF ⟨K, w⟩ [false] g_check_apart) := by
  refine df_of T 11 (name := "check_apart") (qual := "check_apart") (s := s_check_apart) (N := ["pair"]) (k := 3) rfl sc_check_apart (fun vs H Q E hsp => (spF_len hsp).trans rfl) (fun _ _ _ _ _ _ us hl => match us, hl with | [_], _ => rfl) (fun cdv A outer s0 H vs Q E hr hsp => ?_)
  obtain ⟨⟨fd_Pair_is_apart, G_Pair_is_apart, b_Pair_is_apart⟩, k_Pair_is_apart⟩ := ok_Pair_is_apart (P := P) (w := w) (base := base) T
  refine ⟨_, (pss_one (ps_if (pt_not (pt_truK (K := K) rfl (pe_meth0 (pv 0) (T.cls 12) (T.meth 101) G_Pair_is_apart (hr.mono (by decide)) b_Pair_is_apart .nil (passes_call (takes_of rfl rfl rfl rfl) (fun _ _ _ _ h => h)))))
      (pss_one (ps_raise rfl (takes_of rfl rfl rfl rfl) (pmk_own PySem.F.excBase_ValueError (T.exc 102).1 (T.glo 46) (T.exc 102).2.1 (raises_own (T.exc 102).2.2.1 (T.exc 102).2.2.2) rfl)))
      pss_nil)), ?_⟩
  exact of_sim (N := ["pair"]) (md := [false]) (F := F_check_apart) (fun co => (ss_if (st_not (st_tru (SimE.up (se_meth (b := false) (SimV.p sv_var) sa_nil))))
      ss_raise
      ss_next)) (by decide) hsp
abbrev s_check_pair : Stmt := top 33
theorem sc_check_pair : FnScope ["pair"] ["pair"] (defScope s_check_pair) := ⟨rfl, rfl, rfl, by decide +kernel, rfl, by decide +kernel, by decide +kernel⟩
theorem ok_check_pair {P : Program} {w : World} {K : PySem.W.Frag} {mg : Str → Option Value} {base : Heap} (T : Top fs fn K mg) : Df P w K mg base 5 ("check_pair", none) ["pair"] (spF ⟨K, w⟩ [false] g_check_pair) := by
  refine df_of T 12 (name := "check_pair") (qual := "check_pair") (s := s_check_pair) (N := ["pair"]) (k := 4) rfl sc_check_pair (fun vs H Q E hsp => (spF_len hsp).trans rfl) (fun _ _ _ _ _ _ us hl => match us, hl with | [_], _ => rfl) (fun cdv A outer s0 H vs Q E hr hsp => ?_)
  obtain ⟨⟨fd_check_even, G_check_even, b_check_even⟩, k_check_even⟩ := ok_check_even (P := P) (w := w) (base := base) T
  obtain ⟨⟨fd_check_apart, G_check_apart, b_check_apart⟩, k_check_apart⟩ := ok_check_apart (P := P) (w := w) (base := base) T
  refine ⟨_, (pss_cons (ps_expr (pe_call G_check_even (hr.mono (by decide)) rfl (T.glo 98) k_check_even b_check_even .nil (passes_call (takes_of rfl rfl rfl rfl) (fun _ _ _ _ h => h)) (pa_cons (pv 0) pa_nil)))
      (pss_one (ps_expr (pe_call G_check_apart (hr.mono (by decide)) rfl (T.glo 99) k_check_apart b_check_apart .nil (passes_call (takes_of rfl rfl rfl rfl) (fun _ _ _ _ h => h)) (pa_cons (pv 0) pa_nil))))), ?_⟩
  exact of_sim (N := ["pair"]) (md := [false]) (F := F_check_pair) (fun co => (ss_seq (ss_drop (SimE.up (se_call (sa_cons (b := false) (SimV.p sv_var) sa_nil))))
      (ss_drop (SimE.up (se_call (sa_cons (b := false) (SimV.p sv_var) sa_nil)))))) (by decide) hsp
abbrev s_lesser : Stmt := top 34
theorem sc_lesser : FnScope ["pair", "found", "_letter", "first", "second", "size", "row"] ["pair"] (defScope s_lesser) := ⟨rfl, rfl, rfl, by decide +kernel, rfl, by decide +kernel, by decide +kernel⟩
theorem ok_lesser {P : Program} {w : World} {K : PySem.W.Frag} {mg : Str → Option Value} {base : Heap} (T : Top fs fn K mg) : Df P w K mg base 6 ("lesser", none) ["pair"] (spF ⟨K, w⟩ [false] g_lesser) := by
  refine df_of T 13 (name := "lesser") (qual := "lesser") (s := s_lesser) (N := ["pair", "found", "_letter", "first", "second", "size", "row"]) (k := 5) rfl sc_lesser (fun vs H Q E hsp => (spF_len hsp).trans rfl) (fun _ _ _ _ _ _ us hl => match us, hl with | [_], _ => rfl) (fun cdv A outer s0 H vs Q E hr hsp => ?_)
  obtain ⟨⟨fd_check_pair, G_check_pair, b_check_pair⟩, k_check_pair⟩ := ok_check_pair (P := P) (w := w) (base := base) T
  refine ⟨_, (pss_cons (ps_expr (pe_call G_check_pair (hr.mono (by decide)) rfl (T.glo 97) k_check_pair b_check_pair .nil (passes_call (takes_of rfl rfl rfl rfl) (fun _ _ _ _ h => h)) (pa_cons (pv 0) pa_nil)))
      pss_dead), ?_⟩
  exact of_sim (N := ["pair", "found", "_letter", "first", "second", "size", "row"]) (md := [false]) (F := F_lesser) (fun co => (ss_seq (ss_drop (SimE.up (se_call (sa_cons (b := false) (SimV.p sv_var) sa_nil))))
      ss_dead)) (by decide) hsp
abbrev s_chain : Stmt := top 36
theorem sc_chain : FnScope ["pair", "pairs", "places"] ["pair"] (defScope s_chain) := ⟨rfl, rfl, rfl, by decide +kernel, rfl, by decide +kernel, by decide +kernel⟩
theorem ok_chain {P : Program} {w : World} {K : PySem.W.Frag} {mg : Str → Option Value} {base : Heap} (T : Top fs fn K mg) : Df P w K mg base 6 ("chain", none) ["pair"] (spF ⟨K, w⟩ [true] g_chain) := by
  refine df_of T 14 (name := "chain") (qual := "chain") (s := s_chain) (N := ["pair", "pairs", "places"]) (k := 5) rfl sc_chain (fun vs H Q E hsp => (spF_len hsp).trans rfl) (fun _ _ _ _ _ _ us hl => match us, hl with | [_], _ => rfl) (fun cdv A outer s0 H vs Q E hr hsp => ?_)
  obtain ⟨⟨fd_check_pair, G_check_pair, b_check_pair⟩, k_check_pair⟩ := ok_check_pair (P := P) (w := w) (base := base) T
  refine ⟨_, (pss_cons (ps_expr (pe_call G_check_pair (hr.mono (by decide)) rfl (T.glo 97) k_check_pair b_check_pair .nil (passes_call (takes_of rfl rfl rfl rfl) (fun _ _ _ _ h => h)) (pa_cons (pv 0) pa_nil)))
      pss_dead), ?_⟩
  exact of_sim (N := ["pair", "pairs", "places"]) (md := [true]) (F := F_chain) (fun co => (ss_seq (ss_drop (SimE.up (se_call (sa_cons (b := false) (SimE.up se_f) sa_nil))))
      ss_dead)) (by decide) hsp
abbrev s_alike_letters : Stmt := top 37
theorem sc_alike_letters : FnScope ["pair", "number"] ["pair"] (defScope s_alike_letters) := ⟨rfl, rfl, rfl, by decide +kernel, rfl, by decide +kernel, by decide +kernel⟩
theorem ok_alike_letters {P : Program} {w : World} {K : PySem.W.Frag} {mg : Str → Option Value} {base : Heap} (T : Top fs fn K mg) : Df P w K mg base 6 ("alike_letters", none) ["pair"] (spF ⟨K, w⟩ [false] g_alike_letters) := by
  refine df_of T 15 (name := "alike_letters") (qual := "alike_letters") (s := s_alike_letters) (N := ["pair", "number"]) (k := 5) rfl sc_alike_letters (fun vs H Q E hsp => (spF_len hsp).trans rfl) (fun _ _ _ _ _ _ us hl => match us, hl with | [_], _ => rfl) (fun cdv A outer s0 H vs Q E hr hsp => ?_)
  obtain ⟨⟨fd_check_pair, G_check_pair, b_check_pair⟩, k_check_pair⟩ := ok_check_pair (P := P) (w := w) (base := base) T
  refine ⟨_, (pss_cons (ps_expr (pe_call G_check_pair (hr.mono (by decide)) rfl (T.glo 97) k_check_pair b_check_pair .nil (passes_call (takes_of rfl rfl rfl rfl) (fun _ _ _ _ h => h)) (pa_cons (pv 0) pa_nil)))
      pss_dead), ?_⟩
  exact of_sim (N := ["pair", "number"]) (md := [false]) (F := F_alike_letters) (fun co => (ss_seq (ss_drop (SimE.up (se_call (sa_cons (b := false) (SimV.p sv_var) sa_nil))))
      ss_dead)) (by decide) hsp
abbrev s_Far___init__ : Stmt := inClass (top 43) 0
theorem sc_Far___init__ : FnScope ["self", "pair", "pairs", "home", "one", "size", "letter", "at", "book", "word", "rows", "row", "keyed", "_number"] ["self", "pair"] (defScope s_Far___init__) := ⟨rfl, rfl, rfl, by decide +kernel, rfl, by decide +kernel, by decide +kernel⟩
theorem ok_Far___init__ {P : Program} {w : World} {K : PySem.W.Frag} {mg : Str → Option Value} {base : Heap} (T : Top fs fn K mg) : Df P w K mg base 7 ("Far", some "__init__") ["self", "pair"] (spI ⟨K, w⟩ "Far" [true] g_Far___init__) := by
  refine df_of T 16 (name := "__init__") (qual := "Far.__init__") (s := s_Far___init__) (N := ["self", "pair", "pairs", "home", "one", "size", "letter", "at", "book", "word", "rows", "row", "keyed", "_number"]) (k := 6) rfl sc_Far___init__ (fun vs H Q E hsp => (spI_len hsp).trans rfl) (fun _ _ _ _ _ _ us hl => match us, hl with | [_, _], _ => rfl) (fun cdv A outer s0 H vs Q E hr hsp => ?_)
  obtain ⟨⟨fd_chain, G_chain, b_chain⟩, k_chain⟩ := ok_chain (P := P) (w := w) (base := base) T
  refine ⟨_, (pss_cons (ps_asg (pe_call G_chain (hr.mono (by decide)) rfl (T.glo 82) k_chain b_chain .nil (passes_call (takes_of rfl rfl rfl rfl) (fun _ _ _ _ h => h)) (pa_cons (pv 1) pa_nil)) (pg_seq (n := 2) (K := K) rfl rfl (pgs_cons (pg_name (i := 2) sc_Far___init__.nd rfl (.inl rfl)) (pgs_cons (pg_name (i := 3) sc_Far___init__.nd rfl (.inl rfl)) pgs_nil))))
      pss_dead), ?_⟩
  exact of_simI (c := "Far") (N := ["self", "pair", "pairs", "home", "one", "size", "letter", "at", "book", "word", "rows", "row", "keyed", "_number"]) (md := [true]) (F := F_Far___init__) (fun co => (ss_seq (ss_un (sg_seq (sg_cons sg_name (sg_cons sg_name sg_nil))) (se_call (sa_cons (b := true) se_f sa_nil)))
      ss_dead)) (by decide) hsp
abbrev s_primes : Stmt := top 47
theorem sc_primes : FnScope ["pair", "far", "k"] ["pair"] (defScope s_primes) := ⟨rfl, rfl, rfl, by decide +kernel, rfl, by decide +kernel, by decide +kernel⟩
theorem ok_primes {P : Program} {w : World} {K : PySem.W.Frag} {mg : Str → Option Value} {base : Heap} (T : Top fs fn K mg) : Df P w K mg base 9 ("primes", none) ["pair"] (spF ⟨K, w⟩ [true] g_primes) := by
  refine df_of T 17 (name := "primes") (qual := "primes") (s := s_primes) (N := ["pair", "far", "k"]) (k := 8) rfl sc_primes (fun vs H Q E hsp => (spF_len hsp).trans rfl) (fun _ _ _ _ _ _ us hl => match us, hl with | [_], _ => rfl) (fun cdv A outer s0 H vs Q E hr hsp => ?_)
  obtain ⟨⟨fd_Far___init__, G_Far___init__, b_Far___init__⟩, k_Far___init__⟩ := ok_Far___init__ (P := P) (w := w) (base := base) T
  refine ⟨_, (pss_cons (ps_set (i := 1) sc_primes.nd rfl (.inr rfl) (pe_make (T.mk 84) G_Far___init__ (hr.mono (by decide)) rfl (T.glo 85) b_Far___init__ .nil (passes_call (takes_of rfl rfl rfl rfl) (fun _ _ _ _ h => h)) (pa_cons (pv 0) pa_nil)))
      pss_dead), ?_⟩
  exact of_sim (N := ["pair", "far", "k"]) (md := [true]) (F := F_primes) (fun co => (ss_seq (ss_set (se_make (sa_cons (b := true) se_f sa_nil)))
      ss_dead)) (by decide) hsp
abbrev s_Counts___init__ : Stmt := inClass (top 56) 0
theorem sc_Counts___init__ : FnScope ["self", "pair", "k"] ["self", "pair"] (defScope s_Counts___init__) := ⟨rfl, rfl, rfl, by decide +kernel, rfl, by decide +kernel, by decide +kernel⟩
theorem ok_Counts___init__ {P : Program} {w : World} {K : PySem.W.Frag} {mg : Str → Option Value} {base : Heap} (T : Top fs fn K mg) : Df P w K mg base 9 ("Counts", some "__init__") ["self", "pair"] (spI ⟨K, w⟩ "Counts" [true] g_Counts___init__) := by
  refine df_of T 18 (name := "__init__") (qual := "Counts.__init__") (s := s_Counts___init__) (N := ["self", "pair", "k"]) (k := 8) rfl sc_Counts___init__ (fun vs H Q E hsp => (spI_len hsp).trans rfl) (fun _ _ _ _ _ _ us hl => match us, hl with | [_, _], _ => rfl) (fun cdv A outer s0 H vs Q E hr hsp => ?_)
  obtain ⟨⟨fd_Far___init__, G_Far___init__, b_Far___init__⟩, k_Far___init__⟩ := ok_Far___init__ (P := P) (w := w) (base := base) T
  refine ⟨_, (pss_cons (ps_fld (pv 0) (pe_make (T.mk 84) G_Far___init__ (hr.mono (by decide)) rfl (T.glo 85) b_Far___init__ .nil (passes_call (takes_of rfl rfl rfl rfl) (fun _ _ _ _ h => h)) (pa_cons (pv 1) pa_nil)) rfl)
      pss_dead), ?_⟩
  exact of_simI (c := "Counts") (N := ["self", "pair", "k"]) (md := [true]) (F := F_Counts___init__) (fun co => (ss_seq (ss_fld (T.cls 107) (T.noat 109) (se_make (sa_cons (b := true) se_f sa_nil)))
      ss_dead)) (by decide) hsp
abbrev s_prime_lengths : Stmt := top 57
theorem sc_prime_lengths : FnScope ["pair", "lengths", "length"] ["pair"] (defScope s_prime_lengths) := ⟨rfl, rfl, rfl, by decide +kernel, rfl, by decide +kernel, by decide +kernel⟩
theorem ok_prime_lengths {P : Program} {w : World} {K : PySem.W.Frag} {mg : Str → Option Value} {base : Heap} (T : Top fs fn K mg) : Df P w K mg base 11 ("prime_lengths", none) ["pair"] (spF ⟨K, w⟩ [true] g_prime_lengths) := by
  refine df_of T 19 (name := "prime_lengths") (qual := "prime_lengths") (s := s_prime_lengths) (N := ["pair", "lengths", "length"]) (k := 10) rfl sc_prime_lengths (fun vs H Q E hsp => (spF_len hsp).trans rfl) (fun _ _ _ _ _ _ us hl => match us, hl with | [_], _ => rfl) (fun cdv A outer s0 H vs Q E hr hsp => ?_)
  obtain ⟨⟨fd_Counts___init__, G_Counts___init__, b_Counts___init__⟩, k_Counts___init__⟩ := ok_Counts___init__ (P := P) (w := w) (base := base) T
  refine ⟨_, (pss_cons (ps_set (i := 1) sc_prime_lengths.nd rfl (.inr rfl) (pe_fldK (K := K) rfl (pe_make (T.mk 105) G_Counts___init__ (hr.mono (by decide)) rfl (T.glo 106) b_Counts___init__ .nil (passes_call (takes_of rfl rfl rfl rfl) (fun _ _ _ _ h => h)) (pa_cons (pv 0) pa_nil)) rfl))
      pss_dead), ?_⟩
  exact of_sim (N := ["pair", "lengths", "length"]) (md := [true]) (F := F_prime_lengths) (fun co => (ss_seq (ss_set (se_fld (all_cons ⟨T.cls 107, T.noat 108⟩ (all_nil _)) (se_make (sa_cons (b := true) se_f sa_nil))))
      ss_dead)) (by decide) hsp
abbrev s_least : Stmt := top 60
theorem sc_least : FnScope ["pair", "found", "length"] ["pair"] (defScope s_least) := ⟨rfl, rfl, rfl, by decide +kernel, rfl, by decide +kernel, by decide +kernel⟩
theorem ok_least {P : Program} {w : World} {K : PySem.W.Frag} {mg : Str → Option Value} {base : Heap} (T : Top fs fn K mg) : Df P w K mg base 11 ("least", none) ["pair"] (spF ⟨K, w⟩ [true] g_least) := by
  refine df_of T 20 (name := "least") (qual := "least") (s := s_least) (N := ["pair", "found", "length"]) (k := 10) rfl sc_least (fun vs H Q E hsp => (spF_len hsp).trans rfl) (fun _ _ _ _ _ _ us hl => match us, hl with | [_], _ => rfl) (fun cdv A outer s0 H vs Q E hr hsp => ?_)
  obtain ⟨⟨fd_Counts___init__, G_Counts___init__, b_Counts___init__⟩, k_Counts___init__⟩ := ok_Counts___init__ (P := P) (w := w) (base := base) T
  refine ⟨_, (pss_cons (ps_set (i := 1) sc_least.nd rfl (.inl rfl) (pe_make (T.mk 105) G_Counts___init__ (hr.mono (by decide)) rfl (T.glo 106) b_Counts___init__ .nil (passes_call (takes_of rfl rfl rfl rfl) (fun _ _ _ _ h => h)) (pa_cons (pv 0) pa_nil)))
      pss_dead), ?_⟩
  exact of_sim (N := ["pair", "found", "length"]) (md := [true]) (F := F_least) (fun co => (ss_seq (ss_set (se_make (sa_cons (b := true) se_f sa_nil)))
      ss_dead)) (by decide) hsp
abbrev s_between : Stmt := top 65
theorem sc_between : FnScope ["pair", "first", "second", "found", "last", "is_last"] ["pair", "first", "second"] (defScope s_between) := ⟨rfl, rfl, rfl, by decide +kernel, rfl, by decide +kernel, by decide +kernel⟩
theorem ok_between {P : Program} {w : World} {K : PySem.W.Frag} {mg : Str → Option Value} {base : Heap} (T : Top fs fn K mg) : Df P w K mg base 11 ("between", none) ["pair", "first", "second"] (spF ⟨K, w⟩ [true, false, false] g_between) := by
  refine df_of T 21 (name := "between") (qual := "between") (s := s_between) (N := ["pair", "first", "second", "found", "last", "is_last"]) (k := 10) rfl sc_between (fun vs H Q E hsp => (spF_len hsp).trans rfl) (fun _ _ _ _ _ _ us hl => match us, hl with | [_, _, _], _ => rfl) (fun cdv A outer s0 H vs Q E hr hsp => ?_)
  obtain ⟨⟨fd_Counts___init__, G_Counts___init__, b_Counts___init__⟩, k_Counts___init__⟩ := ok_Counts___init__ (P := P) (w := w) (base := base) T
  refine ⟨_, (pss_cons (ps_set (i := 3) sc_between.nd rfl (.inl rfl) (pe_make (T.mk 105) G_Counts___init__ (hr.mono (by decide)) rfl (T.glo 106) b_Counts___init__ .nil (passes_call (takes_of rfl rfl rfl rfl) (fun _ _ _ _ h => h)) (pa_cons (pv 0) pa_nil)))
      pss_dead), ?_⟩
  exact of_sim (N := ["pair", "first", "second", "found", "last", "is_last"]) (md := [true, false, false]) (F := F_between) (fun co => (ss_seq (ss_set (se_make (sa_cons (b := true) se_f sa_nil)))
      ss_dead)) (by decide) hsp
abbrev s_in_primes : Stmt := top 49
theorem sc_in_primes : FnScope ["pair", "row", "pairs", "home", "one", "letters", "letter", "order"] ["pair", "row"] (defScope s_in_primes) := ⟨rfl, rfl, rfl, by decide +kernel, rfl, by decide +kernel, by decide +kernel⟩
theorem ok_in_primes {P : Program} {w : World} {K : PySem.W.Frag} {mg : Str → Option Value} {base : Heap} (T : Top fs fn K mg) : Df P w K mg base 7 ("in_primes", none) ["pair", "row"] (spF ⟨K, w⟩ [true, false] g_in_primes) := by
  refine df_of T 22 (name := "in_primes") (qual := "in_primes") (s := s_in_primes) (N := ["pair", "row", "pairs", "home", "one", "letters", "letter", "order"]) (k := 6) rfl sc_in_primes (fun vs H Q E hsp => (spF_len hsp).trans rfl) (fun _ _ _ _ _ _ us hl => match us, hl with | [_, _], _ => rfl) (fun cdv A outer s0 H vs Q E hr hsp => ?_)
  obtain ⟨⟨fd_chain, G_chain, b_chain⟩, k_chain⟩ := ok_chain (P := P) (w := w) (base := base) T
  refine ⟨_, (pss_cons (ps_asg (pe_call G_chain (hr.mono (by decide)) rfl (T.glo 82) k_chain b_chain .nil (passes_call (takes_of rfl rfl rfl rfl) (fun _ _ _ _ h => h)) (pa_cons (pv 0) pa_nil)) (pg_seq (n := 2) (K := K) rfl rfl (pgs_cons (pg_name (i := 2) sc_in_primes.nd rfl (.inl rfl)) (pgs_cons (pg_name (i := 3) sc_in_primes.nd rfl (.inl rfl)) pgs_nil))))
      pss_dead), ?_⟩
  exact of_sim (N := ["pair", "row", "pairs", "home", "one", "letters", "letter", "order"]) (md := [true, false]) (F := F_in_primes) (fun co => (ss_seq (ss_un (sg_seq (sg_cons sg_name (sg_cons sg_name sg_nil))) (se_call (sa_cons (b := true) se_f sa_nil)))
      ss_dead)) (by decide) hsp
abbrev s_row_made : Stmt := top 50
theorem sc_row_made : FnScope ["pair", "numbers", "far", "k", "found"] ["pair", "numbers"] (defScope s_row_made) := ⟨rfl, rfl, rfl, by decide +kernel, rfl, by decide +kernel, by decide +kernel⟩
theorem ok_row_made {P : Program} {w : World} {K : PySem.W.Frag} {mg : Str → Option Value} {base : Heap} (T : Top fs fn K mg) : Df P w K mg base 9 ("row_made", none) ["pair", "numbers"] (spF ⟨K, w⟩ [true, false] g_row_made) := by
  refine df_of T 23 (name := "row_made") (qual := "row_made") (s := s_row_made) (N := ["pair", "numbers", "far", "k", "found"]) (k := 8) rfl sc_row_made (fun vs H Q E hsp => (spF_len hsp).trans rfl) (fun _ _ _ _ _ _ us hl => match us, hl with | [_, _], _ => rfl) (fun cdv A outer s0 H vs Q E hr hsp => ?_)
  obtain ⟨⟨fd_Far___init__, G_Far___init__, b_Far___init__⟩, k_Far___init__⟩ := ok_Far___init__ (P := P) (w := w) (base := base) T
  refine ⟨_, (pss_cons (ps_set (i := 2) sc_row_made.nd rfl (.inr rfl) (pe_make (T.mk 84) G_Far___init__ (hr.mono (by decide)) rfl (T.glo 85) b_Far___init__ .nil (passes_call (takes_of rfl rfl rfl rfl) (fun _ _ _ _ h => h)) (pa_cons (pv 0) pa_nil)))
      pss_dead), ?_⟩
  exact of_sim (N := ["pair", "numbers", "far", "k", "found"]) (md := [true, false]) (F := F_row_made) (fun co => (ss_seq (ss_set (se_make (sa_cons (b := true) se_f sa_nil)))
      ss_dead)) (by decide) hsp
abbrev s_Book_length : Stmt := inClass (top 18) 3
theorem sc_Book_length : FnScope ["self", "row", "number"] ["self", "row"] (defScope s_Book_length) := ⟨rfl, rfl, rfl, by decide +kernel, rfl, by decide +kernel, by decide +kernel⟩
theorem ok_Book_length {P : Program} {w : World} {K : PySem.W.Frag} {mg : Str → Option Value} {base : Heap} (T : Top fs fn K mg) : Df P w K mg base 3 ("Book", some "length") ["self", "row"] (spF ⟨K, w⟩ [false, false] g_Book_length) := by
  refine df_of T 24 (name := "length") (qual := "Book.length") (s := s_Book_length) (N := ["self", "row", "number"]) (k := 2) rfl sc_Book_length (fun vs H Q E hsp => (spF_len hsp).trans rfl) (fun _ _ _ _ _ _ us hl => match us, hl with | [_, _], _ => rfl) (fun cdv A outer s0 H vs Q E hr hsp => ?_)
  obtain ⟨⟨fd_are_letters, G_are_letters, b_are_letters⟩, k_are_letters⟩ := ok_are_letters (P := P) (w := w) (base := base) T
  refine ⟨_, (pss_cons (ps_if (pt_not (pt_truK (K := K) rfl (pe_call G_are_letters (hr.mono (by decide)) rfl (T.glo 30) k_are_letters b_are_letters .nil (passes_call (takes_of rfl rfl rfl rfl) (fun _ _ _ _ h => h)) (pa_cons (pv 1) (pa_cons (pe_fldK (K := K) rfl (pv 0) rfl) pa_nil)))))
      (pss_one (ps_raise rfl (takes_of rfl rfl rfl rfl) (pmk_own PySem.F.excBase_ValueError (T.exc 114).1 (T.glo 53) (T.exc 114).2.1 (raises_own (T.exc 114).2.2.1 (T.exc 114).2.2.2) rfl)))
      pss_nil)
      (pss_one (ps_ret (pe_callB (cr_sumK (K := K) rfl rfl) (by rfl) (T.free 115) bt_sum (pa_cons (pe_lc (own := [("number", 2)]) (g := gName 2) rfl sc_Book_length.nd (pi_seq (K := K) rfl (pv 1)) (blkOk_by (own := [("number", 2)]) (N := ["self", "row", "number"]) (sc := defScope s_Book_length) (by decide +kernel)) (fun _ _ _ _ _ => (pg_name (i := 2) sc_Book_length.nd rfl (Or.inl rfl))) (fun _ _ _ _ _ => pts_nil) (fun _ _ _ _ _ => (pe_callB (call_lenW (K := K) rfl w) (by rfl) (T.free 8) bt_len (pa_cons (pe_ix (ix_W (K := K) (w := w) rfl rfl hr.units) (pe_fldK (K := K) rfl (pv 0) rfl) (pv 2) (fun _ _ => rfl)) pa_nil)))) pa_nil))))), ?_⟩
  exact of_sim (N := ["self", "row", "number"]) (md := [false, false]) (F := F_Book_length) (fun co => (ss_seq (ss_if (st_not (st_tru (SimE.up (se_call (sa_cons (b := false) (SimV.p sv_var) (sa_cons (b := false) (SimV.p (sv_fld (all_cons ⟨T.cls 14, T.noat 27⟩ (all_nil _)) sv_var)) sa_nil))))))
      ss_raise
      ss_next)
      (ss_ret (se_sum (SimE.up (SimN.e (sn_lc (si_seqV sv_var) (fun _ => sg_name) (by decide) (fun _ => st_yes) (fun _ => (se_lenK (SimV.p (sv_ixK (sv_fld (all_cons ⟨T.cls 14, T.noat 28⟩ (all_nil _)) sv_var) (SimV.p sv_var)))))))))))) (by decide) hsp
abbrev s_Book_read : Stmt := inClass (top 18) 4
theorem sc_Book_read : FnScope ["self", "row", "found", "number"] ["self", "row"] (defScope s_Book_read) := ⟨rfl, rfl, rfl, by decide +kernel, rfl, by decide +kernel, by decide +kernel⟩
theorem ok_Book_read {P : Program} {w : World} {K : PySem.W.Frag} {mg : Str → Option Value} {base : Heap} (T : Top fs fn K mg) : Df P w K mg base 4 ("Book", some "read") ["self", "row"] (spF ⟨K, w⟩ [false, false] g_Book_read) := by
  refine df_of T 25 (name := "read") (qual := "Book.read") (s := s_Book_read) (N := ["self", "row", "found", "number"]) (k := 3) rfl sc_Book_read (fun vs H Q E hsp => (spF_len hsp).trans rfl) (fun _ _ _ _ _ _ us hl => match us, hl with | [_, _], _ => rfl) (fun cdv A outer s0 H vs Q E hr hsp => ?_)
  obtain ⟨⟨fd_Book_length, G_Book_length, b_Book_length⟩, k_Book_length⟩ := ok_Book_length (P := P) (w := w) (base := base) T
  refine ⟨_, (pss_cons (ps_if (pt_cmpR op_gtI (pe_meth (pv 0) (T.cls 14) (T.meth 111) G_Book_length (hr.mono (by decide)) b_Book_length .nil (passes_call (takes_of rfl rfl rfl rfl) (fun _ _ _ _ h => h)) (pa_cons (pv 1) pa_nil)) (pe_gi (T.int 112)) (nomark _))
      (pss_one (ps_raise rfl (takes_of rfl rfl rfl rfl) (pmk_own PySem.F.excBase_ValueError (T.exc 113).1 (T.glo 67) (T.exc 113).2.1 (raises_own (T.exc 113).2.2.1 (T.exc 113).2.2.2) rfl)))
      pss_nil)
      (pss_cons (ps_set (i := 2) sc_Book_read.nd rfl (.inl rfl) (pe_lst pa_nil))
      (pss_cons (ps_for (passes_of rfl) rfl (pi_seq (K := K) rfl (pv 1)) (pg_name (i := 3) sc_Book_read.nd rfl (.inl rfl))
      (pss_one (ps_expr (pe_bm PySem.F.plainAttrs_list PySem.F.slot_list_extend PySem.F.type_list_extend (mt_extU (K := K) rfl) (pv 2) (pa_cons (pe_ix (ix_W (K := K) (w := w) rfl rfl hr.units) (pe_fldK (K := K) rfl (pv 0) rfl) (pv 3) (fun _ _ => rfl)) pa_nil)))))
      (pss_one (ps_ret (pe_callTy (call_tupOfK (K := K) rfl) (by rfl) (T.free 32) bt_tuple (pa_cons (pv 2) pa_nil))))))), ?_⟩
  exact of_sim (N := ["self", "row", "found", "number"]) (md := [false, false]) (F := F_Book_read) (fun co => (ss_seq (ss_if (st_tst (SimE.up (se_opF of_gtI (SimE.up (se_meth (b := false) (SimV.p sv_var) (sa_cons (b := false) (SimV.p sv_var) sa_nil))) (SimE.up (se_c fun _ => .int _)))))
      ss_raise
      ss_next)
      (ss_seq (ss_setN (sn_lst sa_nil rfl))
      (ss_seq (ss_for (si_seqV sv_var) (fun _ => sg_name)
      (fun _ => (ss_ext (SimE.low (SimV.p (sv_ixK (sv_fld (all_cons ⟨T.cls 14, T.noat 28⟩ (all_nil _)) sv_var) (SimV.p sv_var)))))))
      (ss_ret (se_tupleL sl_m)))))) (by decide) hsp
abbrev s_is_alike : Stmt := top 48
theorem sc_is_alike : FnScope ["pair", "row"] ["pair", "row"] (defScope s_is_alike) := ⟨rfl, rfl, rfl, by decide +kernel, rfl, by decide +kernel, by decide +kernel⟩
theorem ok_is_alike {P : Program} {w : World} {K : PySem.W.Frag} {mg : Str → Option Value} {base : Heap} (T : Top fs fn K mg) : Df P w K mg base 5 ("is_alike", none) ["pair", "row"] (spF ⟨K, w⟩ [false, false] g_is_alike) := by
  refine df_of T 26 (name := "is_alike") (qual := "is_alike") (s := s_is_alike) (N := ["pair", "row"]) (k := 4) rfl sc_is_alike (fun vs H Q E hsp => (spF_len hsp).trans rfl) (fun _ _ _ _ _ _ us hl => match us, hl with | [_, _], _ => rfl) (fun cdv A outer s0 H vs Q E hr hsp => ?_)
  obtain ⟨⟨fd_check_even, G_check_even, b_check_even⟩, k_check_even⟩ := ok_check_even (P := P) (w := w) (base := base) T
  obtain ⟨⟨fd_Book_read, G_Book_read, b_Book_read⟩, k_Book_read⟩ := ok_Book_read (P := P) (w := w) (base := base) T
  refine ⟨_, (pss_cons (ps_expr (pe_call G_check_even (hr.mono (by decide)) rfl (T.glo 98) k_check_even b_check_even .nil (passes_call (takes_of rfl rfl rfl rfl) (fun _ _ _ _ h => h)) (pa_cons (pv 0) pa_nil)))
      (pss_one (ps_ret (pe_and (pe_cmpR (op_eqK (K := K) rfl hr.units) (pe_meth (pe_fldK (K := K) rfl (pv 0) rfl) (T.cls 14) (T.meth 110) G_Book_read (hr.mono (by decide)) b_Book_read .nil (passes_call (takes_of rfl rfl rfl rfl) (fun _ _ _ _ h => h)) (pa_cons (pv 1) pa_nil)) (pe_meth (pe_fldK (K := K) rfl (pv 0) rfl) (T.cls 14) (T.meth 110) G_Book_read (hr.mono (by decide)) b_Book_read .nil (passes_call (takes_of rfl rfl rfl rfl) (fun _ _ _ _ h => h)) (pa_cons (pv 1) pa_nil)) (nomark _)) (pe_one (pe_cmpR op_gtI (pe_callB (call_lenW (K := K) rfl w) (by rfl) (T.free 8) bt_len (pa_cons (pv 1) pa_nil)) pe_int (nomark _))))))), ?_⟩
  exact of_sim (N := ["pair", "row"]) (md := [false, false]) (F := F_is_alike) (fun co => (ss_seq (ss_drop (SimE.up (se_call (sa_cons (b := false) (SimV.p sv_var) sa_nil))))
      (ss_ret (se_and (SimE.up (se_opF of_eq (SimE.up (se_meth (b := false) (SimV.p (sv_fld (all_cons ⟨T.cls 12, T.noat 18⟩ (all_nil _)) sv_var)) (sa_cons (b := false) (SimV.p sv_var) sa_nil))) (SimE.up (se_meth (b := false) (SimV.p (sv_fld (all_cons ⟨T.cls 12, T.noat 19⟩ (all_nil _)) sv_var)) (sa_cons (b := false) (SimV.p sv_var) sa_nil))))) (se_opF of_gtI (SimE.up (se_lenK (SimV.p sv_var))) (SimE.up (se_c fun _ => .int _))) rfl)))) (by decide) hsp
abbrev s_counts : Stmt := top 58
theorem sc_counts : FnScope ["pair", "most", "found", "length"] ["pair", "most"] (defScope s_counts) := ⟨rfl, rfl, rfl, by decide +kernel, rfl, by decide +kernel, by decide +kernel⟩
theorem ok_counts {P : Program} {w : World} {K : PySem.W.Frag} {mg : Str → Option Value} {base : Heap} (T : Top fs fn K mg) : Df P w K mg base 11 ("counts", none) ["pair", "most"] (spF ⟨K, w⟩ [true, false] g_counts) := by
  refine df_of T 27 (name := "counts") (qual := "counts") (s := s_counts) (N := ["pair", "most", "found", "length"]) (k := 10) rfl sc_counts (fun vs H Q E hsp => (spF_len hsp).trans rfl) (fun _ _ _ _ _ _ us hl => match us, hl with | [_, _], _ => rfl) (fun cdv A outer s0 H vs Q E hr hsp => ?_)
  obtain ⟨⟨fd_Counts___init__, G_Counts___init__, b_Counts___init__⟩, k_Counts___init__⟩ := ok_Counts___init__ (P := P) (w := w) (base := base) T
  refine ⟨_, (pss_cons (ps_set (i := 2) sc_counts.nd rfl (.inr rfl) (pe_make (T.mk 105) G_Counts___init__ (hr.mono (by decide)) rfl (T.glo 106) b_Counts___init__ .nil (passes_call (takes_of rfl rfl rfl rfl) (fun _ _ _ _ h => h)) (pa_cons (pv 0) pa_nil)))
      pss_dead), ?_⟩
  exact of_sim (N := ["pair", "most", "found", "length"]) (md := [true, false]) (F := F_counts) (fun co => (ss_seq (ss_set (se_make (sa_cons (b := true) se_f sa_nil)))
      ss_dead)) (by decide) hsp
abbrev s_count_at : Stmt := top 59
theorem sc_count_at : FnScope ["pair", "length", "found", "kinds", "ways", "total", "rest", "many", "kind"] ["pair", "length"] (defScope s_count_at) := ⟨rfl, rfl, rfl, by decide +kernel, rfl, by decide +kernel, by decide +kernel⟩
theorem ok_count_at {P : Program} {w : World} {K : PySem.W.Frag} {mg : Str → Option Value} {base : Heap} (T : Top fs fn K mg) : Df P w K mg base 11 ("count_at", none) ["pair", "length"] (spF ⟨K, w⟩ [true, false] g_count_at) := by
  refine df_of T 28 (name := "count_at") (qual := "count_at") (s := s_count_at) (N := ["pair", "length", "found", "kinds", "ways", "total", "rest", "many", "kind"]) (k := 10) rfl sc_count_at (fun vs H Q E hsp => (spF_len hsp).trans rfl) (fun _ _ _ _ _ _ us hl => match us, hl with | [_, _], _ => rfl) (fun cdv A outer s0 H vs Q E hr hsp => ?_)
  obtain ⟨⟨fd_Counts___init__, G_Counts___init__, b_Counts___init__⟩, k_Counts___init__⟩ := ok_Counts___init__ (P := P) (w := w) (base := base) T
  refine ⟨_, (pss_cons (ps_set (i := 2) sc_count_at.nd rfl (.inl rfl) (pe_make (T.mk 105) G_Counts___init__ (hr.mono (by decide)) rfl (T.glo 106) b_Counts___init__ .nil (passes_call (takes_of rfl rfl rfl rfl) (fun _ _ _ _ h => h)) (pa_cons (pv 0) pa_nil)))
      pss_dead), ?_⟩
  exact of_sim (N := ["pair", "length", "found", "kinds", "ways", "total", "rest", "many", "kind"]) (md := [true, false]) (F := F_count_at) (fun co => (ss_seq (ss_set (se_make (sa_cons (b := true) se_f sa_nil)))
      ss_dead)) (by decide) hsp
abbrev s_row_at : Stmt := top 61
theorem sc_row_at : FnScope ["pair", "number", "found", "length", "row", "k", "many"] ["pair", "number"] (defScope s_row_at) := ⟨rfl, rfl, rfl, by decide +kernel, rfl, by decide +kernel, by decide +kernel⟩
theorem ok_row_at {P : Program} {w : World} {K : PySem.W.Frag} {mg : Str → Option Value} {base : Heap} (T : Top fs fn K mg) : Df P w K mg base 11 ("row_at", none) ["pair", "number"] (spF ⟨K, w⟩ [true, false] g_row_at) := by
  refine df_of T 29 (name := "row_at") (qual := "row_at") (s := s_row_at) (N := ["pair", "number", "found", "length", "row", "k", "many"]) (k := 10) rfl sc_row_at (fun vs H Q E hsp => (spF_len hsp).trans rfl) (fun _ _ _ _ _ _ us hl => match us, hl with | [_, _], _ => rfl) (fun cdv A outer s0 H vs Q E hr hsp => ?_)
  obtain ⟨⟨fd_Counts___init__, G_Counts___init__, b_Counts___init__⟩, k_Counts___init__⟩ := ok_Counts___init__ (P := P) (w := w) (base := base) T
  refine ⟨_, (pss_cons (ps_set (i := 2) sc_row_at.nd rfl (.inl rfl) (pe_make (T.mk 105) G_Counts___init__ (hr.mono (by decide)) rfl (T.glo 106) b_Counts___init__ .nil (passes_call (takes_of rfl rfl rfl rfl) (fun _ _ _ _ h => h)) (pa_cons (pv 0) pa_nil)))
      pss_dead), ?_⟩
  exact of_sim (N := ["pair", "number", "found", "length", "row", "k", "many"]) (md := [true, false]) (F := F_row_at) (fun co => (ss_seq (ss_set (se_make (sa_cons (b := true) se_f sa_nil)))
      ss_dead)) (by decide) hsp
abbrev s_number_of : Stmt := top 64
theorem sc_number_of : FnScope ["pair", "row", "found"] ["pair", "row"] (defScope s_number_of) := ⟨rfl, rfl, rfl, by decide +kernel, rfl, by decide +kernel, by decide +kernel⟩
theorem ok_number_of {P : Program} {w : World} {K : PySem.W.Frag} {mg : Str → Option Value} {base : Heap} (T : Top fs fn K mg) : Df P w K mg base 11 ("number_of", none) ["pair", "row"] (spF ⟨K, w⟩ [true, false] g_number_of) := by
  refine df_of T 30 (name := "number_of") (qual := "number_of") (s := s_number_of) (N := ["pair", "row", "found"]) (k := 10) rfl sc_number_of (fun vs H Q E hsp => (spF_len hsp).trans rfl) (fun _ _ _ _ _ _ us hl => match us, hl with | [_, _], _ => rfl) (fun cdv A outer s0 H vs Q E hr hsp => ?_)
  obtain ⟨⟨fd_Counts___init__, G_Counts___init__, b_Counts___init__⟩, k_Counts___init__⟩ := ok_Counts___init__ (P := P) (w := w) (base := base) T
  refine ⟨_, (pss_cons (ps_set (i := 2) sc_number_of.nd rfl (.inl rfl) (pe_make (T.mk 105) G_Counts___init__ (hr.mono (by decide)) rfl (T.glo 106) b_Counts___init__ .nil (passes_call (takes_of rfl rfl rfl rfl) (fun _ _ _ _ h => h)) (pa_cons (pv 0) pa_nil)))
      pss_dead), ?_⟩
  exact of_sim (N := ["pair", "row", "found"]) (md := [true, false]) (F := F_number_of) (fun co => (ss_seq (ss_set (se_make (sa_cons (b := true) se_f sa_nil)))
      ss_dead)) (by decide) hsp
abbrev s__law_asked : Stmt := top 68
theorem sc__law_asked : FnScope ["word", "pair", "value", "words"] ["word", "pair", "value"] (defScope s__law_asked) := ⟨rfl, rfl, rfl, by decide +kernel, rfl, by decide +kernel, by decide +kernel⟩
theorem ok__law_asked {P : Program} {w : World} {K : PySem.W.Frag} {mg : Str → Option Value} {base : Heap} (T : Top fs fn K mg) : Df P w K mg base 12 ("_law_asked", none) ["word", "pair", "value"] (spF ⟨K, w⟩ [true, true, true] g__law_asked) := by
  refine df_of T 31 (name := "_law_asked") (qual := "_law_asked") (s := s__law_asked) (N := ["word", "pair", "value", "words"]) (k := 11) rfl sc__law_asked (fun vs H Q E hsp => (spF_len hsp).trans rfl) (fun _ _ _ _ _ _ us hl => match us, hl with | [_, _, _], _ => rfl) (fun cdv A outer s0 H vs Q E hr hsp => ?_)
  obtain ⟨⟨fd_lesser, G_lesser, b_lesser⟩, k_lesser⟩ := ok_lesser (P := P) (w := w) (base := base) T
  obtain ⟨⟨fd_chain, G_chain, b_chain⟩, k_chain⟩ := ok_chain (P := P) (w := w) (base := base) T
  obtain ⟨⟨fd_alike_letters, G_alike_letters, b_alike_letters⟩, k_alike_letters⟩ := ok_alike_letters (P := P) (w := w) (base := base) T
  obtain ⟨⟨fd_Far___init__, G_Far___init__, b_Far___init__⟩, k_Far___init__⟩ := ok_Far___init__ (P := P) (w := w) (base := base) T
  obtain ⟨⟨fd_primes, G_primes, b_primes⟩, k_primes⟩ := ok_primes (P := P) (w := w) (base := base) T
  obtain ⟨⟨fd_prime_lengths, G_prime_lengths, b_prime_lengths⟩, k_prime_lengths⟩ := ok_prime_lengths (P := P) (w := w) (base := base) T
  obtain ⟨⟨fd_least, G_least, b_least⟩, k_least⟩ := ok_least (P := P) (w := w) (base := base) T
  obtain ⟨⟨fd_between, G_between, b_between⟩, k_between⟩ := ok_between (P := P) (w := w) (base := base) T
  obtain ⟨⟨fd_in_primes, G_in_primes, b_in_primes⟩, k_in_primes⟩ := ok_in_primes (P := P) (w := w) (base := base) T
  obtain ⟨⟨fd_row_made, G_row_made, b_row_made⟩, k_row_made⟩ := ok_row_made (P := P) (w := w) (base := base) T
  obtain ⟨⟨fd_is_alike, G_is_alike, b_is_alike⟩, k_is_alike⟩ := ok_is_alike (P := P) (w := w) (base := base) T
  obtain ⟨⟨fd_counts, G_counts, b_counts⟩, k_counts⟩ := ok_counts (P := P) (w := w) (base := base) T
  obtain ⟨⟨fd_count_at, G_count_at, b_count_at⟩, k_count_at⟩ := ok_count_at (P := P) (w := w) (base := base) T
  obtain ⟨⟨fd_row_at, G_row_at, b_row_at⟩, k_row_at⟩ := ok_row_at (P := P) (w := w) (base := base) T
  obtain ⟨⟨fd_number_of, G_number_of, b_number_of⟩, k_number_of⟩ := ok_number_of (P := P) (w := w) (base := base) T
  refine ⟨_, (pss_cons (ps_if (pt_cmpR (op_inW (K := K) (w := w) rfl rfl hr.units) (pv 0) (pe_tup (pa_cons pe_str (pa_cons pe_str (pa_cons pe_str pa_nil)))) (by rfl))
      (pss_one (ps_ret (pe_pick (S := [(He.fAd K ("lesser", none), spF ⟨K, w⟩ [false] g_lesser), (He.fAd K ("chain", none), spF ⟨K, w⟩ [true] g_chain), (He.fAd K ("alike_letters", none), spF ⟨K, w⟩ [false] g_alike_letters)]) (pe_ix (ix_listK rfl) (pe_lst (pa_cons (pe_glob (v := .ref (He.fAd K ("lesser", none))) (by rfl) (T.glo 83) rfl) (pa_cons (pe_glob (v := .ref (He.fAd K ("chain", none))) (by rfl) (T.glo 82) rfl) (pa_cons (pe_glob (v := .ref (He.fAd K ("alike_letters", none))) (by rfl) (T.glo 81) rfl) pa_nil)))) (pe_bmK (Fr := K) rfl PySem.F.plainAttrs_list PySem.F.slot_list_index PySem.F.type_list_index (mt_indexK rfl) (pe_lst (pa_cons pe_str (pa_cons pe_str (pa_cons pe_str pa_nil)))) (pa_cons (pv 0) pa_nil)) (fun _ _ => rfl)) (allP_cons ⟨_, _, _, G_lesser, hr.mono (by decide), k_lesser, b_lesser⟩ (allP_cons ⟨_, _, _, G_chain, hr.mono (by decide), k_chain, b_chain⟩ (allP_cons ⟨_, _, _, G_alike_letters, hr.mono (by decide), k_alike_letters, b_alike_letters⟩ allP_nil))) (passes_call (takes_of rfl rfl rfl rfl) (fun _ _ _ _ h => h)) (pa_cons (pv 1) pa_nil))))
      pss_nil)
      (pss_cons (ps_if (pt_cmpR (op_eqK (K := K) rfl hr.units) (pv 0) pe_str (nomark _))
      (pss_one (ps_ret (pe_make (T.mk 84) G_Far___init__ (hr.mono (by decide)) rfl (T.glo 85) b_Far___init__ .nil (passes_call (takes_of rfl rfl rfl rfl) (fun _ _ _ _ h => h)) (pa_cons (pv 1) pa_nil))))
      pss_nil)
      (pss_cons (ps_if (pt_cmpR (op_inW (K := K) (w := w) rfl rfl hr.units) (pv 0) (pe_tup (pa_cons pe_str (pa_cons pe_str (pa_cons pe_str pa_nil)))) (by rfl))
      (pss_one (ps_ret (pe_pick (S := [(He.fAd K ("primes", none), spF ⟨K, w⟩ [true] g_primes), (He.fAd K ("prime_lengths", none), spF ⟨K, w⟩ [true] g_prime_lengths), (He.fAd K ("least", none), spF ⟨K, w⟩ [true] g_least)]) (pe_ix (ix_listK rfl) (pe_lst (pa_cons (pe_glob (v := .ref (He.fAd K ("primes", none))) (by rfl) (T.glo 88) rfl) (pa_cons (pe_glob (v := .ref (He.fAd K ("prime_lengths", none))) (by rfl) (T.glo 87) rfl) (pa_cons (pe_glob (v := .ref (He.fAd K ("least", none))) (by rfl) (T.glo 86) rfl) pa_nil)))) (pe_bmK (Fr := K) rfl PySem.F.plainAttrs_list PySem.F.slot_list_index PySem.F.type_list_index (mt_indexK rfl) (pe_lst (pa_cons pe_str (pa_cons pe_str (pa_cons pe_str pa_nil)))) (pa_cons (pv 0) pa_nil)) (fun _ _ => rfl)) (allP_cons ⟨_, _, _, G_primes, hr.mono (by decide), k_primes, b_primes⟩ (allP_cons ⟨_, _, _, G_prime_lengths, hr.mono (by decide), k_prime_lengths, b_prime_lengths⟩ (allP_cons ⟨_, _, _, G_least, hr.mono (by decide), k_least, b_least⟩ allP_nil))) (passes_call (takes_of rfl rfl rfl rfl) (fun _ _ _ _ h => h)) (pa_cons (pv 1) pa_nil))))
      pss_nil)
      (pss_cons (ps_if (pt_cmpR (op_eqK (K := K) rfl hr.units) (pv 0) pe_str (nomark _))
      (pss_one (ps_ret (pe_call G_between (hr.mono (by decide)) rfl (T.glo 89) k_between b_between .nil (passes_call (takes_of rfl rfl rfl rfl) (fun _ _ _ _ h => h)) (pa_cons (pv 1) (pa_cons (pv 2) (pa_cons (pv 2) pa_nil))))))
      pss_nil)
      (pss_cons (ps_set (i := 3) sc__law_asked.nd rfl (.inl rfl) (pe_lst (pa_cons pe_str (pa_cons pe_str (pa_cons pe_str (pa_cons pe_str (pa_cons pe_str (pa_cons pe_str (pa_cons pe_str pa_nil)))))))))
      (pss_one (ps_ret (pe_pick (S := [(He.fAd K ("in_primes", none), spF ⟨K, w⟩ [true, false] g_in_primes), (He.fAd K ("row_made", none), spF ⟨K, w⟩ [true, false] g_row_made), (He.fAd K ("is_alike", none), spF ⟨K, w⟩ [false, false] g_is_alike), (He.fAd K ("counts", none), spF ⟨K, w⟩ [true, false] g_counts), (He.fAd K ("count_at", none), spF ⟨K, w⟩ [true, false] g_count_at), (He.fAd K ("row_at", none), spF ⟨K, w⟩ [true, false] g_row_at), (He.fAd K ("number_of", none), spF ⟨K, w⟩ [true, false] g_number_of)]) (pe_ix (ix_listK rfl) (pe_lst (pa_cons (pe_glob (v := .ref (He.fAd K ("in_primes", none))) (by rfl) (T.glo 96) rfl) (pa_cons (pe_glob (v := .ref (He.fAd K ("row_made", none))) (by rfl) (T.glo 95) rfl) (pa_cons (pe_glob (v := .ref (He.fAd K ("is_alike", none))) (by rfl) (T.glo 94) rfl) (pa_cons (pe_glob (v := .ref (He.fAd K ("counts", none))) (by rfl) (T.glo 93) rfl) (pa_cons (pe_glob (v := .ref (He.fAd K ("count_at", none))) (by rfl) (T.glo 92) rfl) (pa_cons (pe_glob (v := .ref (He.fAd K ("row_at", none))) (by rfl) (T.glo 91) rfl) (pa_cons (pe_glob (v := .ref (He.fAd K ("number_of", none))) (by rfl) (T.glo 90) rfl) pa_nil)))))))) (pe_bmK (Fr := K) rfl PySem.F.plainAttrs_list PySem.F.slot_list_index PySem.F.type_list_index (mt_indexK rfl) (pv 3) (pa_cons (pv 0) pa_nil)) (fun _ _ => rfl)) (allP_cons ⟨_, _, _, G_in_primes, hr.mono (by decide), k_in_primes, b_in_primes⟩ (allP_cons ⟨_, _, _, G_row_made, hr.mono (by decide), k_row_made, b_row_made⟩ (allP_cons ⟨_, _, _, G_is_alike, hr.mono (by decide), k_is_alike, b_is_alike⟩ (allP_cons ⟨_, _, _, G_counts, hr.mono (by decide), k_counts, b_counts⟩ (allP_cons ⟨_, _, _, G_count_at, hr.mono (by decide), k_count_at, b_count_at⟩ (allP_cons ⟨_, _, _, G_row_at, hr.mono (by decide), k_row_at, b_row_at⟩ (allP_cons ⟨_, _, _, G_number_of, hr.mono (by decide), k_number_of, b_number_of⟩ allP_nil))))))) (passes_call (takes_of rfl rfl rfl rfl) (fun _ _ _ _ h => h)) (pa_cons (pv 1) (pa_cons (pv 2) pa_nil)))))))))), ?_⟩
  exact of_sim (N := ["word", "pair", "value", "words"]) (md := [true, true, true]) (F := F__law_asked) (fun co => (ss_seq (ss_if (st_tst (SimE.up (se_opF of_inK (SimE.up se_f) (SimE.up (se_tup (sa_cons (b := true) (se_c fun _ => .str _) (sa_cons (b := true) (se_c fun _ => .str _) (sa_cons (b := true) (se_c fun _ => .str _) sa_nil))) rfl)))))
      (ss_ret (se_pick (cs := [(He.fAd K ("lesser", none), [false], g_lesser), (He.fAd K ("chain", none), [true], g_chain), (He.fAd K ("alike_letters", none), [false], g_alike_letters)]) (n := 1) (Nat.le_of_ble_eq_true rfl) (allP_cons rfl (allP_cons rfl (allP_cons rfl allP_nil))) (SimE.up (se_idx (SimE.up (SimN.e (sn_lst (sa_cons (b := true) (se_c fun _ => .str _) (sa_cons (b := true) (se_c fun _ => .str _) (sa_cons (b := true) (se_c fun _ => .str _) sa_nil))) rfl))) (SimE.up se_f))) (sa_cons (b := true) se_f sa_nil)))
      ss_next)
      (ss_seq (ss_if (st_tst (SimE.up (se_opF of_eq (SimE.up se_f) (SimE.up (se_c fun _ => .str _)))))
      (ss_ret (se_make (sa_cons (b := true) se_f sa_nil)))
      ss_next)
      (ss_seq (ss_if (st_tst (SimE.up (se_opF of_inK (SimE.up se_f) (SimE.up (se_tup (sa_cons (b := true) (se_c fun _ => .str _) (sa_cons (b := true) (se_c fun _ => .str _) (sa_cons (b := true) (se_c fun _ => .str _) sa_nil))) rfl)))))
      (ss_ret (se_pick (cs := [(He.fAd K ("primes", none), [true], g_primes), (He.fAd K ("prime_lengths", none), [true], g_prime_lengths), (He.fAd K ("least", none), [true], g_least)]) (n := 1) (Nat.le_of_ble_eq_true rfl) (allP_cons rfl (allP_cons rfl (allP_cons rfl allP_nil))) (SimE.up (se_idx (SimE.up (SimN.e (sn_lst (sa_cons (b := true) (se_c fun _ => .str _) (sa_cons (b := true) (se_c fun _ => .str _) (sa_cons (b := true) (se_c fun _ => .str _) sa_nil))) rfl))) (SimE.up se_f))) (sa_cons (b := true) se_f sa_nil)))
      ss_next)
      (ss_seq (ss_if (st_tst (SimE.up (se_opF of_eq (SimE.up se_f) (SimE.up (se_c fun _ => .str _)))))
      (ss_ret (se_call (sa_cons (b := true) se_f (sa_cons (b := false) (SimE.up se_f) (sa_cons (b := false) (SimE.up se_f) sa_nil)))))
      ss_next)
      (ss_seq (ss_set (SimN.e (sn_lst (sa_cons (b := true) (se_c fun _ => .str _) (sa_cons (b := true) (se_c fun _ => .str _) (sa_cons (b := true) (se_c fun _ => .str _) (sa_cons (b := true) (se_c fun _ => .str _) (sa_cons (b := true) (se_c fun _ => .str _) (sa_cons (b := true) (se_c fun _ => .str _) (sa_cons (b := true) (se_c fun _ => .str _) sa_nil))))))) rfl)))
      (ss_ret (se_pick (cs := [(He.fAd K ("in_primes", none), [true, false], g_in_primes), (He.fAd K ("row_made", none), [true, false], g_row_made), (He.fAd K ("is_alike", none), [false, false], g_is_alike), (He.fAd K ("counts", none), [true, false], g_counts), (He.fAd K ("count_at", none), [true, false], g_count_at), (He.fAd K ("row_at", none), [true, false], g_row_at), (He.fAd K ("number_of", none), [true, false], g_number_of)]) (n := 2) (Nat.le_of_ble_eq_true rfl) (allP_cons rfl (allP_cons rfl (allP_cons rfl (allP_cons rfl (allP_cons rfl (allP_cons rfl (allP_cons rfl allP_nil))))))) (SimE.up (se_idx (SimE.up se_f) (SimE.up se_f))) (sa_cons (b := true) se_f (sa_cons (b := true) se_f sa_nil)))))))))) (by decide) hsp
abbrev s__law_told : Stmt := top 69
theorem sc__law_told : FnScope ["word", "pair", "value", "e", "kinds"] ["word", "pair", "value"] (defScope s__law_told) := ⟨rfl, rfl, rfl, by decide +kernel, rfl, by decide +kernel, by decide +kernel⟩
theorem ok__law_told {P : Program} {w : World} {K : PySem.W.Frag} {mg : Str → Option Value} {base : Heap} (T : Top fs fn K mg) : Df P w K mg base 13 ("_law_told", none) ["word", "pair", "value"] (spF ⟨K, w⟩ [true, true, true] g__law_told) := by
  refine df_of T 32 (name := "_law_told") (qual := "_law_told") (s := s__law_told) (N := ["word", "pair", "value", "e", "kinds"]) (k := 12) rfl sc__law_told (fun vs H Q E hsp => (spF_len hsp).trans rfl) (fun _ _ _ _ _ _ us hl => match us, hl with | [_, _, _], _ => rfl) (fun cdv A outer s0 H vs Q E hr hsp => ?_)
  obtain ⟨⟨fd__law_asked, G__law_asked, b__law_asked⟩, k__law_asked⟩ := ok__law_asked (P := P) (w := w) (base := base) T
  refine ⟨_, (pss_one (ps_tryA (K := K) rfl (i := 3) rfl rfl sc__law_told.nd rfl rfl ⟨rfl, by decide, .inl (T.glo 74)⟩ (takes_of rfl rfl rfl rfl) (fun W pn xe tk po => (pss_one (ps_ret (pe_callS G__law_asked (hr.mono (by decide)) rfl (T.glo 33) k__law_asked b__law_asked (fun σ => passAt tk σ) (pa_cons (pv 0) (pa_cons (pv 1) (pa_cons (pv 2) pa_nil)))))))
      (fun a oe cls d pn hz hf => (pss_cons (ps_set (i := 4) sc__law_told.nd rfl (.inl rfl) (pe_lst (pa_cons (pe_callB (call_isX hz hf) (by rfl) (T.free 22) bt_isinstance (pa_cons (pv 3) (pa_cons (pe_glob (v := .ref (He.ga K "BadBook")) rfl (T.glo 17) rfl) pa_nil))) (pa_cons (pe_callB (call_isX hz hf) (by rfl) (T.free 22) bt_isinstance (pa_cons (pv 3) (pa_cons (pe_glob (v := .ref (He.ga K "NotApart")) rfl (T.glo 46) rfl) pa_nil))) (pa_cons (pe_callB (call_isX hz hf) (by rfl) (T.free 22) bt_isinstance (pa_cons (pv 3) (pa_cons (pe_glob (v := .ref (He.ga K "BadRow")) rfl (T.glo 53) rfl) pa_nil))) (pa_cons (pe_callB (call_isX hz hf) (by rfl) (T.free 22) bt_isinstance (pa_cons (pv 3) (pa_cons (pe_glob (v := .ref (He.ga K "BadNumber")) rfl (T.glo 60) rfl) pa_nil))) (pa_cons (pe_callB (call_isX hz hf) (by rfl) (T.free 22) bt_isinstance (pa_cons (pv 3) (pa_cons (pe_glob (v := .ref (He.ga K "TooLong")) rfl (T.glo 67) rfl) pa_nil))) pa_nil)))))))
      (pss_one (ps_ret (pe_tup (pa_cons pe_str (pa_cons (pe_ifExp (pt_cmpR (op_eqK (K := K) rfl hr.units) (pe_bmK (Fr := K) rfl PySem.F.plainAttrs_list PySem.F.slot_list_count PySem.F.type_list_count (mt_cntFK rfl) (pv 4) (pa_cons pe_bl pa_nil)) pe_int (nomark _)) (pe_ix (ix_W (K := K) (w := w) rfl rfl hr.units) (pe_lst (pa_cons pe_str (pa_cons pe_str (pa_cons pe_str (pa_cons pe_str (pa_cons pe_str pa_nil)))))) (pe_bmK (Fr := K) rfl PySem.F.plainAttrs_list PySem.F.slot_list_index PySem.F.type_list_index (mt_indexK rfl) (pv 4) (pa_cons pe_bl pa_nil)) (fun _ _ => rfl)) pe_str) pa_nil))))))))), ?_⟩
  exact of_sim (N := ["word", "pair", "value", "e", "kinds"]) (md := [true, true, true]) (F := F__law_told) (fun co => (ss_tryA (ok := ["BadBook", "BadNumber", "BadRow", "BadLetter", "NotApart", "TooLong"]) (all_cons (T.exm 80) (all_cons (T.exm 79) (all_cons (T.exm 78) (all_cons (T.exm 77) (all_cons (T.exm 76) (all_cons (T.exm 75) (all_nil _))))))) (fun _ => (ss_ret (se_callS (sa_cons (b := true) se_f (sa_cons (b := true) se_f (sa_cons (b := true) se_f sa_nil))))))
      (fun _ _ _ => (ss_seq (ss_set (SimN.e (sn_lst (sa_cons (b := true) (se_isX (all := ["BadBook", "BadNumber", "BadRow", "BadLetter", "NotApart", "TooLong"]) (yes := ["BadBook"]) (all_cons ⟨T.ecl 44, T.kit 45⟩ (all_cons ⟨T.ecl 42, T.kit 43⟩ (all_cons ⟨T.ecl 40, T.kit 41⟩ (all_cons ⟨T.ecl 38, T.kit 39⟩ (all_cons ⟨T.ecl 36, T.kit 37⟩ (all_cons ⟨T.ecl 34, T.kit 35⟩ (all_nil _)))))))) (sa_cons (b := true) (se_isX (all := ["BadBook", "BadNumber", "BadRow", "BadLetter", "NotApart", "TooLong"]) (yes := ["NotApart"]) (all_cons ⟨T.ecl 44, T.kit 52⟩ (all_cons ⟨T.ecl 42, T.kit 51⟩ (all_cons ⟨T.ecl 40, T.kit 50⟩ (all_cons ⟨T.ecl 38, T.kit 49⟩ (all_cons ⟨T.ecl 36, T.kit 48⟩ (all_cons ⟨T.ecl 34, T.kit 47⟩ (all_nil _)))))))) (sa_cons (b := true) (se_isX (all := ["BadBook", "BadNumber", "BadRow", "BadLetter", "NotApart", "TooLong"]) (yes := ["BadRow"]) (all_cons ⟨T.ecl 44, T.kit 59⟩ (all_cons ⟨T.ecl 42, T.kit 58⟩ (all_cons ⟨T.ecl 40, T.kit 57⟩ (all_cons ⟨T.ecl 38, T.kit 56⟩ (all_cons ⟨T.ecl 36, T.kit 55⟩ (all_cons ⟨T.ecl 34, T.kit 54⟩ (all_nil _)))))))) (sa_cons (b := true) (se_isX (all := ["BadBook", "BadNumber", "BadRow", "BadLetter", "NotApart", "TooLong"]) (yes := ["BadNumber"]) (all_cons ⟨T.ecl 44, T.kit 66⟩ (all_cons ⟨T.ecl 42, T.kit 65⟩ (all_cons ⟨T.ecl 40, T.kit 64⟩ (all_cons ⟨T.ecl 38, T.kit 63⟩ (all_cons ⟨T.ecl 36, T.kit 62⟩ (all_cons ⟨T.ecl 34, T.kit 61⟩ (all_nil _)))))))) (sa_cons (b := true) (se_isX (all := ["BadBook", "BadNumber", "BadRow", "BadLetter", "NotApart", "TooLong"]) (yes := ["TooLong"]) (all_cons ⟨T.ecl 44, T.kit 73⟩ (all_cons ⟨T.ecl 42, T.kit 72⟩ (all_cons ⟨T.ecl 40, T.kit 71⟩ (all_cons ⟨T.ecl 38, T.kit 70⟩ (all_cons ⟨T.ecl 36, T.kit 69⟩ (all_cons ⟨T.ecl 34, T.kit 68⟩ (all_nil _)))))))) sa_nil))))) rfl)))
      (ss_ret (se_tup (sa_cons (b := true) (se_c fun _ => .str _) (sa_cons (b := true) (se_if (st_tst (SimE.up (se_opF of_eq (SimE.up (se_cnt (SimE.up se_f) (SimE.up (se_c fun _ => .bl _)))) (SimE.up (se_c fun _ => .int _))))) (se_ixLK (sl_n (sn_lst (sa_cons (b := true) (se_c fun _ => .str _) (sa_cons (b := true) (se_c fun _ => .str _) (sa_cons (b := true) (se_c fun _ => .str _) (sa_cons (b := true) (se_c fun _ => .str _) (sa_cons (b := true) (se_c fun _ => .str _) sa_nil))))) rfl)) (SimE.up (se_idx (SimE.up se_f) (SimE.up (se_c fun _ => .bl _))))) (se_c fun _ => .str _)) sa_nil)) rfl)))))) (by decide) hsp
abbrev s_Book_words : Stmt := inClass (top 18) 1
theorem sc_Book_words : FnScope ["self"] ["self"] (defScope s_Book_words) := ⟨rfl, rfl, rfl, by decide +kernel, rfl, by decide +kernel, by decide +kernel⟩
theorem ok_Book_words {P : Program} {w : World} {K : PySem.W.Frag} {mg : Str → Option Value} {base : Heap} (T : Top fs fn K mg) : Df P w K mg base 1 ("Book", some "words") ["self"] (spF ⟨K, w⟩ [false] g_Book_words) := by
  refine df_of T 33 (name := "words") (qual := "Book.words") (s := s_Book_words) (N := ["self"]) (k := 0) rfl sc_Book_words (fun vs H Q E hsp => (spF_len hsp).trans rfl) (fun _ _ _ _ _ _ us hl => match us, hl with | [_], _ => rfl) (fun cdv A outer s0 H vs Q E hr hsp => ?_)
  refine ⟨_, (pss_one (ps_ret (pe_callTy (call_listOfK (K := K) rfl) (by rfl) (T.free 23) bt_list (pa_cons (pe_fldK (K := K) rfl (pv 0) rfl) pa_nil)))), ?_⟩
  exact of_sim (N := ["self"]) (md := [false]) (F := F_Book_words) (fun co => (ss_retN (sn_list (SimV.p (sv_fld (all_cons ⟨T.cls 14, T.noat 28⟩ (all_nil _)) sv_var))))) (by decide) hsp
abbrev s_suffixes : Stmt := top 38
theorem sc_suffixes : FnScope ["book", "found", "word", "at"] ["book"] (defScope s_suffixes) := ⟨rfl, rfl, rfl, by decide +kernel, rfl, by decide +kernel, by decide +kernel⟩
theorem ok_suffixes {P : Program} {w : World} {K : PySem.W.Frag} {mg : Str → Option Value} {base : Heap} (T : Top fs fn K mg) : Df P w K mg base 2 ("suffixes", none) ["book"] (spF ⟨K, w⟩ [false] g_suffixes) := by
  refine df_of T 34 (name := "suffixes") (qual := "suffixes") (s := s_suffixes) (N := ["book", "found", "word", "at"]) (k := 1) rfl sc_suffixes (fun vs H Q E hsp => (spF_len hsp).trans rfl) (fun _ _ _ _ _ _ us hl => match us, hl with | [_], _ => rfl) (fun cdv A outer s0 H vs Q E hr hsp => ?_)
  obtain ⟨⟨fd_Book_words, G_Book_words, b_Book_words⟩, k_Book_words⟩ := ok_Book_words (P := P) (w := w) (base := base) T
  refine ⟨_, (pss_cons (ps_set (i := 1) sc_suffixes.nd rfl (.inl rfl) (pe_newN (w := w) rfl))
      (pss_cons (ps_for (passes_of rfl) rfl (pi_seq (K := K) rfl (pe_meth0 (pv 0) (T.cls 14) (T.meth 116) G_Book_words (hr.mono (by decide)) b_Book_words .nil (passes_call (takes_of rfl rfl rfl rfl) (fun _ _ _ _ h => h)))) (pg_name (i := 2) sc_suffixes.nd rfl (.inl rfl))
      (pss_one (ps_for (passes_of rfl) rfl (pi_range2 (by rfl) (T.free 2) (pa_cons pe_int (pa_cons (pe_callB (call_lenW (K := K) rfl w) (by rfl) (T.free 8) bt_len (pa_cons (pv 2) pa_nil)) pa_nil))) (pg_name (i := 3) sc_suffixes.nd rfl (.inl rfl))
      (pss_one (ps_putN (K := K) (w := w) rfl rfl hr.units (pv 1) (pe_slice (sl_uniK (K := K) rfl) (pv 2) (po_some (pv 3)) po_none) pe_bl rfl)))))
      (pss_one (ps_ret (pe_callB (call_lenW (K := K) rfl w) (by rfl) (T.free 8) bt_len (pa_cons (pv 1) pa_nil)))))), ?_⟩
  exact of_sim (N := ["book", "found", "word", "at"]) (md := [false]) (F := F_suffixes) (fun co => (ss_seq ss_setKK
      (ss_seq (ss_for (si_seq (se_meth (b := false) (SimV.p sv_var) sa_nil)) (fun _ => sg_name)
      (fun _ => (ss_for (si_rg2 (SimE.up (se_c fun _ => .int _)) (SimE.up (se_lenK (SimE.up se_f)))) (fun _ => sg_name)
      (fun _ => (ss_putKK (se_c fun _ => .bl _) (se_sl se_f (so_so (SimE.up se_f)) so_no))))))
      (ss_ret (se_lenK se_p))))) (by decide) hsp
abbrev s_law : Stmt := top 70
theorem sc_law : FnScope ["script", "draws", "letters", "k", "apart", "twice", "words", "fewer", "one", "two", "due", "pair", "word", "value", "ends", "at", "long"] ["script"] (defScope s_law) := ⟨rfl, rfl, rfl, by decide +kernel, rfl, by decide +kernel, by decide +kernel⟩
theorem ok_law {P : Program} {w : World} {K : PySem.W.Frag} {mg : Str → Option Value} (T : Top fs fn K mg) : ∃ fd, (∀ (s : Shared) (u : Value), BindsTo s fd ⟨[u], []⟩ [("script", u)]) ∧ ∀ base : Heap, FnOk P w K mg base (L2.CX P w) 14 (He.fAd K ("law", none)) fd ["script"] (sp_lawS K) := by
  refine law_of T 35 (s := s_law) (N := ["script", "draws", "letters", "k", "apart", "twice", "words", "fewer", "one", "two", "due", "pair", "word", "value", "ends", "at", "long"]) (k := 13) rfl sc_law (fun vs H Q E hsp => ?_) (fun _ _ _ _ _ _ us hl => match us, hl with | [_], _ => rfl) (fun base cdv A outer s0 H vs Q E hr hsp => ?_)
  · obtain ⟨_, _, rfl, _⟩ := hsp
    rfl
  · obtain ⟨a, ns, rfl, hS, hlen, hQ⟩ := hsp
    obtain ⟨⟨fd__law_draws, G__law_draws, b__law_draws⟩, k__law_draws⟩ := ok__law_draws (P := P) (w := w) (base := base) T
    obtain ⟨⟨fd_Pair___init__, G_Pair___init__, b_Pair___init__⟩, k_Pair___init__⟩ := ok_Pair___init__ (P := P) (w := w) (base := base) T
    obtain ⟨⟨fd_Book___init__, G_Book___init__, b_Book___init__⟩, k_Book___init__⟩ := ok_Book___init__ (P := P) (w := w) (base := base) T
    obtain ⟨⟨fd__law_told, G__law_told, b__law_told⟩, k__law_told⟩ := ok__law_told (P := P) (w := w) (base := base) T
    obtain ⟨⟨fd_suffixes, G_suffixes, b_suffixes⟩, k_suffixes⟩ := ok_suffixes (P := P) (w := w) (base := base) T
    refine ⟨_, (pss_cons (ps_set (i := 1) sc_law.nd rfl (.inr rfl) (pe_call G__law_draws (hr.mono (by decide)) rfl (T.glo 0) k__law_draws b__law_draws .nil (passes_call (takes_of rfl rfl rfl rfl) (fun _ _ _ _ h => h)) (pa_cons (pv 0) (pa_cons pe_int pa_nil))))
      (pss_cons (ps_set (i := 2) sc_law.nd rfl (.inl rfl) (pe_op (op_addU (K := K) rfl) pe_int (pe_op op_modI (pe_callTy call_intU (by rfl) (T.free 1) bt_int (pa_cons (pe_ix (ix_W (K := K) (w := w) rfl rfl hr.units) (pv 1) pe_int (fun _ _ => rfl)) pa_nil)) pe_int)))
      (pss_cons (ps_setLc (i := 4) (own := [("k", 3)]) (g := gName 3) rfl sc_law.nd rfl rfl (sw_true rfl rfl rfl (by decide +kernel)) (pi_range1 (by rfl) (T.free 2) (pa_cons (pv 2) pa_nil)) (blkOk_by (own := [("k", 3)]) (N := ["script", "draws", "letters", "k", "apart", "twice", "words", "fewer", "one", "two", "due", "pair", "word", "value", "ends", "at", "long"]) (sc := defScope s_law) (by decide +kernel)) (fun _ _ _ _ _ => (pg_name (i := 3) sc_law.nd rfl (Or.inl rfl))) (fun _ _ _ _ _ => pts_nil) (fun _ _ _ _ _ => (pe_op (op_mulU (K := K) rfl) (pe_tup (pa_cons (pv 3) pa_nil)) (pe_op (op_addU (K := K) rfl) pe_int (pe_op op_modI (pe_callTy call_intU (by rfl) (T.free 1) bt_int (pa_cons (pe_ix (ix_W (K := K) (w := w) rfl rfl hr.units) (pv 1) (pe_op (op_addU (K := K) rfl) pe_int (pv 3)) (fun _ _ => rfl)) pa_nil)) pe_int)))))
      (pss_cons (ps_set (i := 5) sc_law.nd rfl (.inl rfl) (pe_op (op_addU (K := K) rfl) (pe_slice (sl_uniK (K := K) rfl) (pv 4) po_none (po_some (pe_un un_neg pe_int))) (pe_lst (pa_cons (pe_op (op_addU (K := K) rfl) (pe_tup (pa_cons pe_int pa_nil)) (pe_op (op_mulU (K := K) rfl) (pe_tup (pa_cons (pe_op op_subI (pv 2) pe_int) pa_nil)) (pe_op (op_addU (K := K) rfl) pe_int (pe_op op_modI (pe_callTy call_intU (by rfl) (T.free 1) bt_int (pa_cons (pe_ix (ix_W (K := K) (w := w) rfl rfl hr.units) (pv 1) pe_int (fun _ _ => rfl)) pa_nil)) pe_int)))) pa_nil))))
      (pss_cons (ps_set (i := 6) sc_law.nd rfl (.inl rfl) (pe_lst (pa_cons pe_str (pa_cons pe_str (pa_cons pe_str (pa_cons pe_str (pa_cons pe_str (pa_cons pe_str (pa_cons pe_str (pa_cons pe_str (pa_cons pe_str (pa_cons pe_str (pa_cons pe_str (pa_cons pe_str (pa_cons pe_str (pa_cons pe_str pa_nil))))))))))))))))
      (pss_cons (ps_set (i := 7) sc_law.nd rfl (.inl rfl) (pe_ix (ix_W (K := K) (w := w) rfl rfl hr.units) (pe_lst (pa_cons (pe_slice (sl_uniK (K := K) rfl) (pv 4) (po_some pe_int) po_none) (pa_cons (pe_slice (sl_uniK (K := K) rfl) (pv 5) (po_some pe_int) po_none) (pa_cons (pe_lst pa_nil) pa_nil)))) (pe_op op_modI (pe_callTy call_intU (by rfl) (T.free 1) bt_int (pa_cons (pe_ix (ix_W (K := K) (w := w) rfl rfl hr.units) (pv 1) pe_int (fun _ _ => rfl)) pa_nil)) pe_int) (fun _ _ => rfl)))
      (pss_cons (ps_for (passes_of rfl) rfl (pi_seq (K := K) rfl (pe_lst (pa_cons (pe_tup (pa_cons (pv 4) (pa_cons (pv 7) (pa_cons pe_str pa_nil)))) (pa_cons (pe_tup (pa_cons (pv 5) (pa_cons (pv 7) (pa_cons pe_str pa_nil)))) (pa_cons (pe_tup (pa_cons (pv 4) (pa_cons (pv 5) (pa_cons pe_str pa_nil)))) (pa_cons (pe_tup (pa_cons (pv 5) (pa_cons (pv 4) (pa_cons pe_str pa_nil)))) (pa_cons (pe_tup (pa_cons (pv 5) (pa_cons (pv 5) (pa_cons pe_str pa_nil)))) pa_nil))))))) (pg_seq (n := 3) (K := K) rfl rfl (pgs_cons (pg_name (i := 8) sc_law.nd rfl (.inl rfl)) (pgs_cons (pg_name (i := 9) sc_law.nd rfl (.inl rfl)) (pgs_cons (pg_name (i := 10) sc_law.nd rfl (.inl rfl)) pgs_nil))))
      (pss_cons (ps_set (i := 11) sc_law.nd rfl (.inl rfl) (pe_make (T.mk 5) G_Pair___init__ (hr.mono (by decide)) rfl (T.glo 6) b_Pair___init__ .nil (passes_call (takes_of rfl rfl rfl rfl) (fun _ _ _ _ h => h)) (pa_cons (pe_make (T.mk 3) G_Book___init__ (hr.mono (by decide)) rfl (T.glo 4) b_Book___init__ .nil (passes_call (takes_of rfl rfl rfl rfl) (fun _ _ _ _ h => h)) (pa_cons (pv 2) (pa_cons (pv 8) pa_nil))) (pa_cons (pe_make (T.mk 3) G_Book___init__ (hr.mono (by decide)) rfl (T.glo 4) b_Book___init__ .nil (passes_call (takes_of rfl rfl rfl rfl) (fun _ _ _ _ h => h)) (pa_cons (pv 2) (pa_cons (pv 9) pa_nil))) pa_nil))))
      (pss_cons (ps_for (passes_of rfl) rfl (pi_seq (K := K) rfl (pv 6)) (pg_name (i := 12) sc_law.nd rfl (.inr rfl))
      (pss_one (ps_for (passes_of rfl) rfl (pi_seq (K := K) rfl (pe_lst (pa_cons pe_non (pa_cons (pe_tup pa_nil) (pa_cons (pe_tup (pa_cons pe_int pa_nil)) (pa_cons pe_int (pa_cons (pe_un un_neg pe_int) (pa_cons (pe_tup (pa_cons (pv 2) pa_nil)) pa_nil)))))))) (pg_name (i := 13) sc_law.nd rfl (.inl rfl))
      (pss_one (ps_if (pt_cmpR (op_neK (K := K) rfl hr.units) (pe_call G__law_told (hr.mono (by decide)) rfl (T.glo 7) k__law_told b__law_told .nil (passes_call (takes_of rfl rfl rfl rfl) (fun _ _ _ _ h => h)) (pa_cons (pv 12) (pa_cons (pv 11) (pa_cons (pv 13) pa_nil)))) (pe_tup (pa_cons pe_str (pa_cons (pv 10) pa_nil))) (nomark _))
      (pss_one (ps_ret pe_bl))
      pss_nil)))))
      (pss_one (ps_if (pt_cmpR (op_eqK (K := K) rfl hr.units) (pv 10) pe_str (nomark _))
      (pss_one (ps_if (PW.pt (pw_or (pt_cmpR (op_neK (K := K) rfl hr.units) (pe_call G__law_told (hr.mono (by decide)) rfl (T.glo 7) k__law_told b__law_told .nil (passes_call (takes_of rfl rfl rfl rfl) (fun _ _ _ _ h => h)) (pa_cons pe_str (pa_cons (pv 11) (pa_cons (pe_tup (pa_cons pe_int pa_nil)) pa_nil)))) (pe_tup (pa_cons pe_str (pa_cons pe_str pa_nil))) (nomark _)) (pw_or1 (pt_cmpR (op_neK (K := K) rfl hr.units) (pe_call G__law_told (hr.mono (by decide)) rfl (T.glo 7) k__law_told b__law_told .nil (passes_call (takes_of rfl rfl rfl rfl) (fun _ _ _ _ h => h)) (pa_cons pe_str (pa_cons (pv 11) (pa_cons pe_non pa_nil)))) (pe_tup (pa_cons pe_str (pa_cons pe_str pa_nil))) (nomark _)))))
      (pss_one (ps_ret pe_bl))
      pss_nil))
      (pss_one (ps_if (PW.pt (pw_or (pt_cmpR (op_neK (K := K) rfl hr.units) (pe_call G__law_told (hr.mono (by decide)) rfl (T.glo 7) k__law_told b__law_told .nil (passes_call (takes_of rfl rfl rfl rfl) (fun _ _ _ _ h => h)) (pa_cons pe_str (pa_cons (pv 11) (pa_cons (pe_tup (pa_cons (pv 2) pa_nil)) pa_nil)))) (pe_tup (pa_cons pe_str (pa_cons pe_str pa_nil))) (nomark _)) (pw_or1 (pt_cmpR op_notB (pe_call G__law_told (hr.mono (by decide)) rfl (T.glo 7) k__law_told b__law_told .nil (passes_call (takes_of rfl rfl rfl rfl) (fun _ _ _ _ h => h)) (pa_cons pe_str (pa_cons (pv 11) (pa_cons (pe_tup pa_nil) pa_nil)))) pe_bl (nomark _)))))
      (pss_one (ps_ret pe_bl))
      (pss_one (ps_if (PW.pt (pw_or (pt_cmpR (op_neK (K := K) rfl hr.units) (pe_call G__law_told (hr.mono (by decide)) rfl (T.glo 7) k__law_told b__law_told .nil (passes_call (takes_of rfl rfl rfl rfl) (fun _ _ _ _ h => h)) (pa_cons pe_str (pa_cons (pv 11) (pa_cons (pe_tup (pa_cons pe_int (pa_cons pe_int pa_nil))) pa_nil)))) (pe_cmpR (op_eqK (K := K) rfl hr.units) (pe_ix (ix_W (K := K) (w := w) rfl rfl hr.units) (pv 8) pe_int (fun _ _ => rfl)) (pe_ix (ix_W (K := K) (w := w) rfl rfl hr.units) (pv 9) pe_int (fun _ _ => rfl)) (nomark _)) (nomark _)) (pw_or1 (pt_cmpR (op_neK (K := K) rfl hr.units) (pe_call G__law_told (hr.mono (by decide)) rfl (T.glo 7) k__law_told b__law_told .nil (passes_call (takes_of rfl rfl rfl rfl) (fun _ _ _ _ h => h)) (pa_cons pe_str (pa_cons (pv 11) (pa_cons pe_non pa_nil)))) (pe_tup (pa_cons pe_str (pa_cons pe_str pa_nil))) (nomark _)))))
      (pss_one (ps_ret pe_bl))
      pss_nil)))))))))
      (pss_cons (ps_set (i := 14) sc_law.nd rfl (.inl rfl) (pe_lst pa_nil))
      (pss_cons (ps_for (passes_of rfl) rfl (pi_seq (K := K) rfl (pv 5)) (pg_name (i := 12) sc_law.nd rfl (.inr rfl))
      (pss_one (ps_expr (pe_bm PySem.F.plainAttrs_list PySem.F.slot_list_extend PySem.F.type_list_extend (mt_extU (K := K) rfl) (pv 14) (pa_cons (pe_lc (own := [("at", 15)]) (g := gName 15) rfl sc_law.nd (pi_range2 (by rfl) (T.free 2) (pa_cons pe_int (pa_cons (pe_callB (call_lenW (K := K) rfl w) (by rfl) (T.free 8) bt_len (pa_cons (pv 12) pa_nil)) pa_nil))) (blkOk_by (own := [("at", 15)]) (N := ["script", "draws", "letters", "k", "apart", "twice", "words", "fewer", "one", "two", "due", "pair", "word", "value", "ends", "at", "long"]) (sc := defScope s_law) (by decide +kernel)) (fun _ _ _ _ _ => (pg_name (i := 15) sc_law.nd rfl (Or.inl rfl))) (fun _ _ _ _ _ => pts_nil) (fun _ _ _ _ _ => (pe_slice (sl_uniK (K := K) rfl) (pv 12) (po_some (pv 15)) po_none))) pa_nil)))))
      (pss_cons (ps_if (pt_cmpR (op_neK (K := K) rfl hr.units) (pe_call G_suffixes (hr.mono (by decide)) rfl (T.glo 9) k_suffixes b_suffixes .nil (passes_call (takes_of rfl rfl rfl rfl) (fun _ _ _ _ h => h)) (pa_cons (pe_make (T.mk 3) G_Book___init__ (hr.mono (by decide)) rfl (T.glo 4) b_Book___init__ .nil (passes_call (takes_of rfl rfl rfl rfl) (fun _ _ _ _ h => h)) (pa_cons (pv 2) (pa_cons (pv 5) pa_nil))) pa_nil)) (pe_lenSetT (F := K) rfl rfl (Nat.lt_of_le_of_lt (Nat.add_le_add_left (by decide) _) hr.units) rfl (T.free 8) rfl (T.free 10) (pv 14)) (nomark _))
      (pss_one (ps_ret pe_bl))
      pss_nil)
      (pss_cons (ps_set (i := 16) sc_law.nd rfl (.inl rfl) (pe_make (T.mk 5) G_Pair___init__ (hr.mono (by decide)) rfl (T.glo 6) b_Pair___init__ .nil (passes_call (takes_of rfl rfl rfl rfl) (fun _ _ _ _ h => h)) (pa_cons (pe_make (T.mk 3) G_Book___init__ (hr.mono (by decide)) rfl (T.glo 4) b_Book___init__ .nil (passes_call (takes_of rfl rfl rfl rfl) (fun _ _ _ _ h => h)) (pa_cons pe_int (pa_cons (pe_lst (pa_cons (pe_op (op_mulU (K := K) rfl) (pe_tup (pa_cons pe_int pa_nil)) pe_int) pa_nil)) pa_nil))) (pa_cons (pe_make (T.mk 3) G_Book___init__ (hr.mono (by decide)) rfl (T.glo 4) b_Book___init__ .nil (passes_call (takes_of rfl rfl rfl rfl) (fun _ _ _ _ h => h)) (pa_cons pe_int (pa_cons (pe_lst (pa_cons (pe_op (op_mulU (K := K) rfl) (pe_tup (pa_cons pe_int pa_nil)) (pe_op (op_addU (K := K) rfl) pe_int (pe_op op_modI (pe_callTy call_intU (by rfl) (T.free 1) bt_int (pa_cons (pe_ix (ix_W (K := K) (w := w) rfl rfl hr.units) (pv 1) pe_int (fun _ _ => rfl)) pa_nil)) pe_int))) pa_nil)) pa_nil))) pa_nil))))
      (pss_cons (ps_if (PW.pt (pw_or (pt_cmpR (op_neK (K := K) rfl hr.units) (pe_call G__law_told (hr.mono (by decide)) rfl (T.glo 7) k__law_told b__law_told .nil (passes_call (takes_of rfl rfl rfl rfl) (fun _ _ _ _ h => h)) (pa_cons pe_str (pa_cons (pv 16) (pa_cons (pe_op (op_mulU (K := K) rfl) (pe_tup (pa_cons pe_int pa_nil)) pe_int) pa_nil)))) (pe_tup (pa_cons pe_str (pa_cons pe_str pa_nil))) (nomark _)) (pw_or1 (pt_cmpR (op_neK (K := K) rfl hr.units) (pe_call G__law_told (hr.mono (by decide)) rfl (T.glo 7) k__law_told b__law_told .nil (passes_call (takes_of rfl rfl rfl rfl) (fun _ _ _ _ h => h)) (pa_cons pe_str (pa_cons (pv 16) (pa_cons (pe_op (op_mulU (K := K) rfl) (pe_tup (pa_cons pe_int pa_nil)) pe_int) pa_nil)))) (pe_tup (pa_cons pe_str (pa_cons pe_str pa_nil))) (nomark _)))))
      (pss_one (ps_ret pe_bl))
      pss_nil)
      (pss_one (ps_ret (pe_and (pe_cmpR (op_eqK (K := K) rfl hr.units) (pe_call G__law_told (hr.mono (by decide)) rfl (T.glo 7) k__law_told b__law_told .nil (passes_call (takes_of rfl rfl rfl rfl) (fun _ _ _ _ h => h)) (pa_cons pe_str (pa_cons (pv 16) (pa_cons (pe_op (op_mulU (K := K) rfl) (pe_tup (pa_cons pe_int pa_nil)) pe_int) pa_nil)))) (pe_cmpR (op_eqK (K := K) rfl hr.units) (pe_op op_modI (pe_callTy call_intU (by rfl) (T.free 1) bt_int (pa_cons (pe_ix (ix_W (K := K) (w := w) rfl rfl hr.units) (pv 1) pe_int (fun _ _ => rfl)) pa_nil)) pe_int) pe_int (nomark _)) (nomark _)) (pe_one (pe_cmpR (op_eqK (K := K) rfl hr.units) (pe_call G__law_told (hr.mono (by decide)) rfl (T.glo 7) k__law_told b__law_told .nil (passes_call (takes_of rfl rfl rfl rfl) (fun _ _ _ _ h => h)) (pa_cons pe_str (pa_cons (pv 16) (pa_cons (pe_op (op_mulU (K := K) rfl) (pe_tup (pa_cons pe_int pa_nil)) pe_int) pa_nil)))) (pe_tup (pa_cons pe_str (pa_cons pe_str pa_nil))) (nomark _)))))))))))))))))), ?_⟩
    exact of_law (N := ["script", "draws", "letters", "k", "apart", "twice", "words", "fewer", "one", "two", "due", "pair", "word", "value", "ends", "at", "long"]) (F := F_law) (fun co => (ss_seq (ss_set (se_call (sa_cons (b := false) (SimV.p sv_var) (sa_cons (b := false) (SimE.up (se_c fun _ => .int _)) sa_nil))))
      (ss_seq (ss_set (se_op os_addU (se_c fun _ => .int _) (se_opF of_modI (SimE.up (se_int (SimE.up (se_op os_ixK se_f (se_c fun _ => .int _))))) (SimE.up (se_c fun _ => .int _)))))
      (ss_seq (ss_set (SimN.e (sn_lc (si_rg1 (SimE.up se_f)) (fun _ => sg_name) (by decide) (fun _ => st_yes) (fun _ => (se_op os_mulU (se_tup (sa_cons (b := true) se_f sa_nil) rfl) (se_op os_addU (se_c fun _ => .int _) (se_opF of_modI (SimE.up (se_int (SimE.up (se_op os_ixK se_f (se_op os_addU (se_c fun _ => .int _) se_f))))) (SimE.up (se_c fun _ => .int _)))))))))
      (ss_seq (ss_set (SimN.e (sn_addL (sl_e (se_sl se_f so_no (so_so (SimE.up (se_neg (SimE.up (se_c fun _ => .int _))))))) (sl_n (sn_lst (sa_cons (b := true) (se_op os_addU (se_tup (sa_cons (b := true) (se_c fun _ => .int _) sa_nil) rfl) (se_op os_mulU (se_tup (sa_cons (b := true) (se_opF of_subI (SimE.up se_f) (SimE.up (se_c fun _ => .int _))) sa_nil) rfl) (se_op os_addU (se_c fun _ => .int _) (se_opF of_modI (SimE.up (se_int (SimE.up (se_op os_ixK se_f (se_c fun _ => .int _))))) (SimE.up (se_c fun _ => .int _)))))) sa_nil) rfl)))))
      (ss_seq (ss_set (SimN.e (sn_lst (sa_cons (b := true) (se_c fun _ => .str _) (sa_cons (b := true) (se_c fun _ => .str _) (sa_cons (b := true) (se_c fun _ => .str _) (sa_cons (b := true) (se_c fun _ => .str _) (sa_cons (b := true) (se_c fun _ => .str _) (sa_cons (b := true) (se_c fun _ => .str _) (sa_cons (b := true) (se_c fun _ => .str _) (sa_cons (b := true) (se_c fun _ => .str _) (sa_cons (b := true) (se_c fun _ => .str _) (sa_cons (b := true) (se_c fun _ => .str _) (sa_cons (b := true) (se_c fun _ => .str _) (sa_cons (b := true) (se_c fun _ => .str _) (sa_cons (b := true) (se_c fun _ => .str _) (sa_cons (b := true) (se_c fun _ => .str _) sa_nil)))))))))))))) rfl)))
      (ss_seq (ss_set (se_ixLK (sl_n (sn_lst (sa_cons (b := true) (se_sl se_f (so_so (SimE.up (se_c fun _ => .int _))) so_no) (sa_cons (b := true) (se_sl se_f (so_so (SimE.up (se_c fun _ => .int _))) so_no) (sa_cons (b := true) (SimN.e (sn_lst sa_nil rfl)) sa_nil))) rfl)) (SimE.up (se_opF of_modI (SimE.up (se_int (SimE.up (se_op os_ixK se_f (se_c fun _ => .int _))))) (SimE.up (se_c fun _ => .int _))))))
      (ss_seq (ss_for (si_seq (SimN.e (sn_lst (sa_cons (b := true) (se_tup (sa_cons (b := true) se_f (sa_cons (b := true) se_f (sa_cons (b := true) (se_c fun _ => .str _) sa_nil))) rfl) (sa_cons (b := true) (se_tup (sa_cons (b := true) se_f (sa_cons (b := true) se_f (sa_cons (b := true) (se_c fun _ => .str _) sa_nil))) rfl) (sa_cons (b := true) (se_tup (sa_cons (b := true) se_f (sa_cons (b := true) se_f (sa_cons (b := true) (se_c fun _ => .str _) sa_nil))) rfl) (sa_cons (b := true) (se_tup (sa_cons (b := true) se_f (sa_cons (b := true) se_f (sa_cons (b := true) (se_c fun _ => .str _) sa_nil))) rfl) (sa_cons (b := true) (se_tup (sa_cons (b := true) se_f (sa_cons (b := true) se_f (sa_cons (b := true) (se_c fun _ => .str _) sa_nil))) rfl) sa_nil))))) rfl))) (fun _ => (sg_seq (sg_cons sg_name (sg_cons sg_name (sg_cons sg_name sg_nil)))))
      (fun _ => (ss_seq (ss_set (se_make (sa_cons (b := true) (se_make (sa_cons (b := false) (SimE.up se_f) (sa_cons (b := false) (SimE.up se_f) sa_nil))) (sa_cons (b := true) (se_make (sa_cons (b := false) (SimE.up se_f) (sa_cons (b := false) (SimE.up se_f) sa_nil))) sa_nil))))
      (ss_seq (ss_for (si_seq se_f) (fun _ => sg_name)
      (fun _ => (ss_for (si_seq (SimN.e (sn_lst (sa_cons (b := true) (se_c fun _ => .non) (sa_cons (b := true) (se_tup sa_nil rfl) (sa_cons (b := true) (se_tup (sa_cons (b := true) (se_c fun _ => .int _) sa_nil) rfl) (sa_cons (b := true) (se_c fun _ => .int _) (sa_cons (b := true) (se_neg (SimE.up (se_c fun _ => .int _))) (sa_cons (b := true) (se_tup (sa_cons (b := true) se_f sa_nil) rfl) sa_nil)))))) rfl))) (fun _ => sg_name)
      (fun _ => (ss_if (st_tst (SimE.up (se_opF of_ne (SimE.up (se_call (sa_cons (b := true) se_f (sa_cons (b := true) se_f (sa_cons (b := true) se_f sa_nil))))) (SimE.up (se_tup (sa_cons (b := true) (se_c fun _ => .str _) (sa_cons (b := true) se_f sa_nil)) rfl)))))
      (ss_ret (se_c fun _ => .bl _))
      ss_next)))))
      (ss_if (st_tst (SimE.up (se_opF of_eq (SimE.up se_f) (SimE.up (se_c fun _ => .str _)))))
      (ss_if (st_or (st_tst (SimE.up (se_opF of_ne (SimE.up (se_call (sa_cons (b := true) (se_c fun _ => .str _) (sa_cons (b := true) se_f (sa_cons (b := true) (se_tup (sa_cons (b := true) (se_c fun _ => .int _) sa_nil) rfl) sa_nil))))) (SimE.up (se_tup (sa_cons (b := true) (se_c fun _ => .str _) (sa_cons (b := true) (se_c fun _ => .str _) sa_nil)) rfl))))) (st_tst (SimE.up (se_opF of_ne (SimE.up (se_call (sa_cons (b := true) (se_c fun _ => .str _) (sa_cons (b := true) se_f (sa_cons (b := true) (se_c fun _ => .non) sa_nil))))) (SimE.up (se_tup (sa_cons (b := true) (se_c fun _ => .str _) (sa_cons (b := true) (se_c fun _ => .str _) sa_nil)) rfl))))))
      (ss_ret (se_c fun _ => .bl _))
      ss_next)
      (ss_if (st_or (st_tst (SimE.up (se_opF of_ne (SimE.up (se_call (sa_cons (b := true) (se_c fun _ => .str _) (sa_cons (b := true) se_f (sa_cons (b := true) (se_tup (sa_cons (b := true) se_f sa_nil) rfl) sa_nil))))) (SimE.up (se_tup (sa_cons (b := true) (se_c fun _ => .str _) (sa_cons (b := true) (se_c fun _ => .str _) sa_nil)) rfl))))) (st_tst (SimE.up (se_notB (SimE.up (se_call (sa_cons (b := true) (se_c fun _ => .str _) (sa_cons (b := true) se_f (sa_cons (b := true) (se_tup sa_nil rfl) sa_nil)))))))))
      (ss_ret (se_c fun _ => .bl _))
      (ss_if (st_or (st_tst (SimE.up (se_opF of_ne (SimE.up (se_call (sa_cons (b := true) (se_c fun _ => .str _) (sa_cons (b := true) se_f (sa_cons (b := true) (se_tup (sa_cons (b := true) (se_c fun _ => .int _) (sa_cons (b := true) (se_c fun _ => .int _) sa_nil)) rfl) sa_nil))))) (SimE.up (se_opF of_eq (SimE.up (se_op os_ixK se_f (se_c fun _ => .int _))) (SimE.up (se_op os_ixK se_f (se_c fun _ => .int _)))))))) (st_tst (SimE.up (se_opF of_ne (SimE.up (se_call (sa_cons (b := true) (se_c fun _ => .str _) (sa_cons (b := true) se_f (sa_cons (b := true) (se_c fun _ => .non) sa_nil))))) (SimE.up (se_tup (sa_cons (b := true) (se_c fun _ => .str _) (sa_cons (b := true) (se_c fun _ => .str _) sa_nil)) rfl))))))
      (ss_ret (se_c fun _ => .bl _))
      ss_next)))))))
      (ss_seq (ss_setN (sn_lst sa_nil rfl))
      (ss_seq (ss_for (si_seq se_f) (fun _ => sg_name)
      (fun _ => (ss_ext (SimN.e (sn_lc (si_rg2 (SimE.up (se_c fun _ => .int _)) (SimE.up (se_lenK (SimE.up se_f)))) (fun _ => sg_name) (by decide) (fun _ => st_yes) (fun _ => (se_sl se_f (so_so (SimE.up se_f)) so_no)))))))
      (ss_seq (ss_if (st_tst (SimE.up (se_opF of_ne (SimE.up (se_call (sa_cons (b := false) (SimE.up (se_make (sa_cons (b := false) (SimE.up se_f) (sa_cons (b := false) (SimE.up se_f) sa_nil)))) sa_nil))) (SimE.up (se_lenT se_p)))))
      (ss_ret (se_c fun _ => .bl _))
      ss_next)
      (ss_seq (ss_set (se_make (sa_cons (b := true) (se_make (sa_cons (b := false) (SimE.up (se_c fun _ => .int _)) (sa_cons (b := false) (SimE.up (SimN.e (sn_lst (sa_cons (b := true) (se_op os_mulU (se_tup (sa_cons (b := true) (se_c fun _ => .int _) sa_nil) rfl) (se_c fun _ => .int _)) sa_nil) rfl))) sa_nil))) (sa_cons (b := true) (se_make (sa_cons (b := false) (SimE.up (se_c fun _ => .int _)) (sa_cons (b := false) (SimE.up (SimN.e (sn_lst (sa_cons (b := true) (se_op os_mulU (se_tup (sa_cons (b := true) (se_c fun _ => .int _) sa_nil) rfl) (se_op os_addU (se_c fun _ => .int _) (se_opF of_modI (SimE.up (se_int (SimE.up (se_op os_ixK se_f (se_c fun _ => .int _))))) (SimE.up (se_c fun _ => .int _))))) sa_nil) rfl))) sa_nil))) sa_nil))))
      (ss_seq (ss_if (st_or (st_tst (SimE.up (se_opF of_ne (SimE.up (se_call (sa_cons (b := true) (se_c fun _ => .str _) (sa_cons (b := true) se_f (sa_cons (b := true) (se_op os_mulU (se_tup (sa_cons (b := true) (se_c fun _ => .int _) sa_nil) rfl) (se_c fun _ => .int _)) sa_nil))))) (SimE.up (se_tup (sa_cons (b := true) (se_c fun _ => .str _) (sa_cons (b := true) (se_c fun _ => .str _) sa_nil)) rfl))))) (st_tst (SimE.up (se_opF of_ne (SimE.up (se_call (sa_cons (b := true) (se_c fun _ => .str _) (sa_cons (b := true) se_f (sa_cons (b := true) (se_op os_mulU (se_tup (sa_cons (b := true) (se_c fun _ => .int _) sa_nil) rfl) (se_c fun _ => .int _)) sa_nil))))) (SimE.up (se_tup (sa_cons (b := true) (se_c fun _ => .str _) (sa_cons (b := true) (se_c fun _ => .str _) sa_nil)) rfl))))))
      (ss_ret (se_c fun _ => .bl _))
      ss_next)
      (ss_ret (se_and (SimE.up (se_opF of_eq (SimE.up (se_call (sa_cons (b := true) (se_c fun _ => .str _) (sa_cons (b := true) se_f (sa_cons (b := true) (se_op os_mulU (se_tup (sa_cons (b := true) (se_c fun _ => .int _) sa_nil) rfl) (se_c fun _ => .int _)) sa_nil))))) (SimE.up (se_opF of_eq (SimE.up (se_opF of_modI (SimE.up (se_int (SimE.up (se_op os_ixK se_f (se_c fun _ => .int _))))) (SimE.up (se_c fun _ => .int _)))) (SimE.up (se_c fun _ => .int _)))))) (se_opF of_eq (SimE.up (se_call (sa_cons (b := true) (se_c fun _ => .str _) (sa_cons (b := true) se_f (sa_cons (b := true) (se_op os_mulU (se_tup (sa_cons (b := true) (se_c fun _ => .int _) sa_nil) rfl) (se_c fun _ => .int _)) sa_nil))))) (SimE.up (se_tup (sa_cons (b := true) (se_c fun _ => .str _) (sa_cons (b := true) (se_c fun _ => .str _) sa_nil)) rfl))) rfl))))))))))))))) (by decide) law_main hS hlen hQ
end Lawk37

namespace Lawk37
open PySem L2 Al PySem.Spec PyProof.Rows
abbrev Rw : PySem.W.OpenRow := PySem.W.OpenLaw.row PySem.Challenge.rw_alikeread_k37_pairs_refused
def hk : PySem.W.Hook := hookM 5 fs fn
def ob (s : PySem.W.SharedT) : AlM := obsM 5 fs fn (HandSHeadRun.getT s)
theorem ob_is (s : PySem.W.SharedT) : ob s = hk.obs s.abs := obsM_eq (HandSHeadRun.getT_eq s)
def looseN : List Str := (["_wall", "AlikeError", "BadBook", "BadNumber", "BadRow", "BadLetter", "NotApart", "TooLong", "MOST_LETTERS", "MOST_WORDS", "LONGEST_WORD", "LONGEST_TEXT", "is_number", "are_letters", "is_word", "_are_different", "Book", "Pair", "EVEN", "MOST_RESTS", "check_apart", "rest_of", "_next", "walk", "block", "blocks", "MOST_PAIRS", "check_even", "check_pair", "lesser"] : List Str) ++ (["_key", "chain", "alike_letters", "suffixes", "LONGEST_STRETCH", "_added", "_many_of", "Far", "LONGEST_PRIME", "LONGEST_ROW", "primes", "is_alike", "in_primes", "row_made", "LONGEST", "MOST_TIMES", "MOST_LENGTHS", "_is_from_0", "Counts", "prime_lengths", "counts", "count_at", "least", "row_at", "_check_row", "_place", "number_of", "between", "_law_draws", "_law_asked"] : List Str) ++ (["_law_told"] : List Str)
theorem runs (w : World) : HandSHeadRun.RunEq Rw (PySem.W.view Rw.prog [70]) hk ob 8000 looseN w := by
  intro os
  kernel_rfl
end Lawk37
open PySem PySem.W PySem.Calls PyProof.Rows
theorem PySem.Challenge.cw_alikeread_k37_pairs_refused_holds : PySem.Challenge.rw_alikeread_k37_pairs_refused.Holds := by
  w_on; o_law
  refine HandSHeadRun.head_any (r := OpenLaw.row PySem.Challenge.rw_alikeread_k37_pairs_refused) (q := view (OpenLaw.row PySem.Challenge.rw_alikeread_k37_pairs_refused).prog [70]) (H := Lawk37.hk) (ob := Lawk37.ob) (M := 8000) (loose := Lawk37.looseN)
    (d := HandSHeadRun.topDef (OpenLaw.row PySem.Challenge.rw_alikeread_k37_pairs_refused).prog 70) (kwd := []) Lawk37.ob_is (by kernel_rfl) (fun s => by kernel_rfl) Lawk37.runs (by kernel_rfl) (by kernel_rfl) (by kernel_rfl) (by rfl) (by first | assumption | decide +kernel) (by decide +kernel)
    ⟨rfl, rfl, rfl, rfl, rfl, by decide +kernel⟩ ?hw ?hc
  case hw => w_witness2
  case hc =>
    refine Al.ends_of (l := PySem.Challenge.rw_alikeread_k37_pairs_refused) (m := 63) (k := 14) (arg := "script") rfl (by decide) (by kernel_rfl) ⟨rfl, by decide, by decide⟩ ?F
    intro w mg f h Y G named
    obtain ⟨K, inK, c⟩ := Y
    have T : Al.Top Lawk37.fs Lawk37.fn K mg := ⟨h, inK, G, c⟩
    have nm : (HandSHeadRun.topDef (OpenLaw.row PySem.Challenge.rw_alikeread_k37_pairs_refused).prog 70).name = ("law" : PySem.Str) := by kernel_rfl
    rw [nm] at named
    have e := named.symm.trans (T.glo 117)
    cases e
    obtain ⟨fd, bd, F⟩ := Lawk37.ok_law (P := (PySem.Challenge.rw_alikeread_k37_pairs_refused).prog) (w := w) T
    exact ⟨K, fd, Sm.sp_lawS K, inK, bd, fun H a ns hl _ hS => ⟨a, ns, rfl, hS, hl, fun _ => rfl⟩, fun base hb hn => F base⟩
