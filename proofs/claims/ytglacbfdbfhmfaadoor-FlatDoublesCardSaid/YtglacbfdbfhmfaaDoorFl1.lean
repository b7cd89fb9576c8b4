/- tree, clocks, the unit in the making. Part of the proof of girandolelaw08.FlatDoubles. -/
import Derived.Test.YtglacbfdbfhmfaaDoorB3
import Derived.Test.YtglacbfdbfhmfaaDoorDec
set_option linter.unusedVariables false
set_option linter.unusedSimpArgs false
namespace Go.Abs
theorem ST4:(∀ (r:RG) (v:AV),st r 128 v=⟨r.a,r.b,⟨⟨v,r.c.a.b,r.c.a.c,r.c.a.d,r.c.a.e,r.c.a.f,r.c.a.g,r.c.a.h⟩,r.c.b,r.c.c,r.c.d,r.c.e,r.c.f,r.c.g,r.c.h⟩,r.d,r.e,r.f,r.g,r.h⟩)∧(∀ (r:RG),gt r 128=r.c.a.a)∧(∀ (r:RG) (v:AV),st r 129 v=⟨r.a,r.b,⟨⟨r.c.a.a,v,r.c.a.c,r.c.a.d,r.c.a.e,r.c.a.f,r.c.a.g,r.c.a.h⟩,r.c.b,r.c.c,r.c.d,r.c.e,r.c.f,r.c.g,r.c.h⟩,r.d,r.e,r.f,r.g,r.h⟩)∧(∀ (r:RG),gt r 129=r.c.a.b)∧(∀ (r:RG) (v:AV),st r 130 v=⟨r.a,r.b,⟨⟨r.c.a.a,r.c.a.b,v,r.c.a.d,r.c.a.e,r.c.a.f,r.c.a.g,r.c.a.h⟩,r.c.b,r.c.c,r.c.d,r.c.e,r.c.f,r.c.g,r.c.h⟩,r.d,r.e,r.f,r.g,r.h⟩)∧(∀ (r:RG),gt r 130=r.c.a.c)∧(∀ (r:RG) (v:AV),st r 131 v=⟨r.a,r.b,⟨⟨r.c.a.a,r.c.a.b,r.c.a.c,v,r.c.a.e,r.c.a.f,r.c.a.g,r.c.a.h⟩,r.c.b,r.c.c,r.c.d,r.c.e,r.c.f,r.c.g,r.c.h⟩,r.d,r.e,r.f,r.g,r.h⟩)∧(∀ (r:RG),gt r 131=r.c.a.d)∧(∀ (r:RG) (v:AV),st r 132 v=⟨r.a,r.b,⟨⟨r.c.a.a,r.c.a.b,r.c.a.c,r.c.a.d,v,r.c.a.f,r.c.a.g,r.c.a.h⟩,r.c.b,r.c.c,r.c.d,r.c.e,r.c.f,r.c.g,r.c.h⟩,r.d,r.e,r.f,r.g,r.h⟩)∧(∀ (r:RG),gt r 132=r.c.a.e)∧(∀ (r:RG) (v:AV),st r 133 v=⟨r.a,r.b,⟨⟨r.c.a.a,r.c.a.b,r.c.a.c,r.c.a.d,r.c.a.e,v,r.c.a.g,r.c.a.h⟩,r.c.b,r.c.c,r.c.d,r.c.e,r.c.f,r.c.g,r.c.h⟩,r.d,r.e,r.f,r.g,r.h⟩)∧(∀ (r:RG),gt r 133=r.c.a.f)∧(∀ (r:RG) (v:AV),st r 134 v=⟨r.a,r.b,⟨⟨r.c.a.a,r.c.a.b,r.c.a.c,r.c.a.d,r.c.a.e,r.c.a.f,v,r.c.a.h⟩,r.c.b,r.c.c,r.c.d,r.c.e,r.c.f,r.c.g,r.c.h⟩,r.d,r.e,r.f,r.g,r.h⟩)∧(∀ (r:RG),gt r 134=r.c.a.g)∧(∀ (r:RG) (v:AV),st r 135 v=⟨r.a,r.b,⟨⟨r.c.a.a,r.c.a.b,r.c.a.c,r.c.a.d,r.c.a.e,r.c.a.f,r.c.a.g,v⟩,r.c.b,r.c.c,r.c.d,r.c.e,r.c.f,r.c.g,r.c.h⟩,r.d,r.e,r.f,r.g,r.h⟩)∧(∀ (r:RG),gt r 135=r.c.a.h)∧(∀ (r:RG) (v:AV),st r 136 v=⟨r.a,r.b,⟨r.c.a,⟨v,r.c.b.b,r.c.b.c,r.c.b.d,r.c.b.e,r.c.b.f,r.c.b.g,r.c.b.h⟩,r.c.c,r.c.d,r.c.e,r.c.f,r.c.g,r.c.h⟩,r.d,r.e,r.f,r.g,r.h⟩)∧(∀ (r:RG),gt r 136=r.c.b.a)∧(∀ (r:RG) (v:AV),st r 137 v=⟨r.a,r.b,⟨r.c.a,⟨r.c.b.a,v,r.c.b.c,r.c.b.d,r.c.b.e,r.c.b.f,r.c.b.g,r.c.b.h⟩,r.c.c,r.c.d,r.c.e,r.c.f,r.c.g,r.c.h⟩,r.d,r.e,r.f,r.g,r.h⟩)∧(∀ (r:RG),gt r 137=r.c.b.b)∧(∀ (r:RG) (v:AV),st r 138 v=⟨r.a,r.b,⟨r.c.a,⟨r.c.b.a,r.c.b.b,v,r.c.b.d,r.c.b.e,r.c.b.f,r.c.b.g,r.c.b.h⟩,r.c.c,r.c.d,r.c.e,r.c.f,r.c.g,r.c.h⟩,r.d,r.e,r.f,r.g,r.h⟩)∧(∀ (r:RG),gt r 138=r.c.b.c)∧(∀ (r:RG) (v:AV),st r 139 v=⟨r.a,r.b,⟨r.c.a,⟨r.c.b.a,r.c.b.b,r.c.b.c,v,r.c.b.e,r.c.b.f,r.c.b.g,r.c.b.h⟩,r.c.c,r.c.d,r.c.e,r.c.f,r.c.g,r.c.h⟩,r.d,r.e,r.f,r.g,r.h⟩)∧(∀ (r:RG),gt r 139=r.c.b.d)∧(∀ (r:RG) (v:AV),st r 140 v=⟨r.a,r.b,⟨r.c.a,⟨r.c.b.a,r.c.b.b,r.c.b.c,r.c.b.d,v,r.c.b.f,r.c.b.g,r.c.b.h⟩,r.c.c,r.c.d,r.c.e,r.c.f,r.c.g,r.c.h⟩,r.d,r.e,r.f,r.g,r.h⟩)∧(∀ (r:RG),gt r 140=r.c.b.e)∧(∀ (r:RG) (v:AV),st r 141 v=⟨r.a,r.b,⟨r.c.a,⟨r.c.b.a,r.c.b.b,r.c.b.c,r.c.b.d,r.c.b.e,v,r.c.b.g,r.c.b.h⟩,r.c.c,r.c.d,r.c.e,r.c.f,r.c.g,r.c.h⟩,r.d,r.e,r.f,r.g,r.h⟩)∧(∀ (r:RG),gt r 141=r.c.b.f)∧(∀ (r:RG) (v:AV),st r 142 v=⟨r.a,r.b,⟨r.c.a,⟨r.c.b.a,r.c.b.b,r.c.b.c,r.c.b.d,r.c.b.e,r.c.b.f,v,r.c.b.h⟩,r.c.c,r.c.d,r.c.e,r.c.f,r.c.g,r.c.h⟩,r.d,r.e,r.f,r.g,r.h⟩)∧(∀ (r:RG),gt r 142=r.c.b.g)∧(∀ (r:RG) (v:AV),st r 143 v=⟨r.a,r.b,⟨r.c.a,⟨r.c.b.a,r.c.b.b,r.c.b.c,r.c.b.d,r.c.b.e,r.c.b.f,r.c.b.g,v⟩,r.c.c,r.c.d,r.c.e,r.c.f,r.c.g,r.c.h⟩,r.d,r.e,r.f,r.g,r.h⟩)∧(∀ (r:RG),gt r 143=r.c.b.h)∧(∀ (r:RG) (v:AV),st r 144 v=⟨r.a,r.b,⟨r.c.a,r.c.b,⟨v,r.c.c.b,r.c.c.c,r.c.c.d,r.c.c.e,r.c.c.f,r.c.c.g,r.c.c.h⟩,r.c.d,r.c.e,r.c.f,r.c.g,r.c.h⟩,r.d,r.e,r.f,r.g,r.h⟩)∧(∀ (r:RG),gt r 144=r.c.c.a)∧(∀ (r:RG) (v:AV),st r 145 v=⟨r.a,r.b,⟨r.c.a,r.c.b,⟨r.c.c.a,v,r.c.c.c,r.c.c.d,r.c.c.e,r.c.c.f,r.c.c.g,r.c.c.h⟩,r.c.d,r.c.e,r.c.f,r.c.g,r.c.h⟩,r.d,r.e,r.f,r.g,r.h⟩)∧(∀ (r:RG),gt r 145=r.c.c.b)∧(∀ (r:RG) (v:AV),st r 146 v=⟨r.a,r.b,⟨r.c.a,r.c.b,⟨r.c.c.a,r.c.c.b,v,r.c.c.d,r.c.c.e,r.c.c.f,r.c.c.g,r.c.c.h⟩,r.c.d,r.c.e,r.c.f,r.c.g,r.c.h⟩,r.d,r.e,r.f,r.g,r.h⟩)∧(∀ (r:RG),gt r 146=r.c.c.c)∧(∀ (r:RG) (v:AV),st r 147 v=⟨r.a,r.b,⟨r.c.a,r.c.b,⟨r.c.c.a,r.c.c.b,r.c.c.c,v,r.c.c.e,r.c.c.f,r.c.c.g,r.c.c.h⟩,r.c.d,r.c.e,r.c.f,r.c.g,r.c.h⟩,r.d,r.e,r.f,r.g,r.h⟩)∧(∀ (r:RG),gt r 147=r.c.c.d)∧(∀ (r:RG) (v:AV),st r 148 v=⟨r.a,r.b,⟨r.c.a,r.c.b,⟨r.c.c.a,r.c.c.b,r.c.c.c,r.c.c.d,v,r.c.c.f,r.c.c.g,r.c.c.h⟩,r.c.d,r.c.e,r.c.f,r.c.g,r.c.h⟩,r.d,r.e,r.f,r.g,r.h⟩)∧(∀ (r:RG),gt r 148=r.c.c.e)∧(∀ (r:RG) (v:AV),st r 149 v=⟨r.a,r.b,⟨r.c.a,r.c.b,⟨r.c.c.a,r.c.c.b,r.c.c.c,r.c.c.d,r.c.c.e,v,r.c.c.g,r.c.c.h⟩,r.c.d,r.c.e,r.c.f,r.c.g,r.c.h⟩,r.d,r.e,r.f,r.g,r.h⟩)∧(∀ (r:RG),gt r 149=r.c.c.f)∧(∀ (r:RG) (v:AV),st r 150 v=⟨r.a,r.b,⟨r.c.a,r.c.b,⟨r.c.c.a,r.c.c.b,r.c.c.c,r.c.c.d,r.c.c.e,r.c.c.f,v,r.c.c.h⟩,r.c.d,r.c.e,r.c.f,r.c.g,r.c.h⟩,r.d,r.e,r.f,r.g,r.h⟩)∧(∀ (r:RG),gt r 150=r.c.c.g)∧(∀ (r:RG) (v:AV),st r 151 v=⟨r.a,r.b,⟨r.c.a,r.c.b,⟨r.c.c.a,r.c.c.b,r.c.c.c,r.c.c.d,r.c.c.e,r.c.c.f,r.c.c.g,v⟩,r.c.d,r.c.e,r.c.f,r.c.g,r.c.h⟩,r.d,r.e,r.f,r.g,r.h⟩)∧(∀ (r:RG),gt r 151=r.c.c.h)∧(∀ (r:RG) (v:AV),st r 152 v=⟨r.a,r.b,⟨r.c.a,r.c.b,r.c.c,⟨v,r.c.d.b,r.c.d.c,r.c.d.d,r.c.d.e,r.c.d.f,r.c.d.g,r.c.d.h⟩,r.c.e,r.c.f,r.c.g,r.c.h⟩,r.d,r.e,r.f,r.g,r.h⟩)∧(∀ (r:RG),gt r 152=r.c.d.a)∧(∀ (r:RG) (v:AV),st r 153 v=⟨r.a,r.b,⟨r.c.a,r.c.b,r.c.c,⟨r.c.d.a,v,r.c.d.c,r.c.d.d,r.c.d.e,r.c.d.f,r.c.d.g,r.c.d.h⟩,r.c.e,r.c.f,r.c.g,r.c.h⟩,r.d,r.e,r.f,r.g,r.h⟩)∧(∀ (r:RG),gt r 153=r.c.d.b)∧(∀ (r:RG) (v:AV),st r 154 v=⟨r.a,r.b,⟨r.c.a,r.c.b,r.c.c,⟨r.c.d.a,r.c.d.b,v,r.c.d.d,r.c.d.e,r.c.d.f,r.c.d.g,r.c.d.h⟩,r.c.e,r.c.f,r.c.g,r.c.h⟩,r.d,r.e,r.f,r.g,r.h⟩)∧(∀ (r:RG),gt r 154=r.c.d.c)∧(∀ (r:RG) (v:AV),st r 155 v=⟨r.a,r.b,⟨r.c.a,r.c.b,r.c.c,⟨r.c.d.a,r.c.d.b,r.c.d.c,v,r.c.d.e,r.c.d.f,r.c.d.g,r.c.d.h⟩,r.c.e,r.c.f,r.c.g,r.c.h⟩,r.d,r.e,r.f,r.g,r.h⟩)∧(∀ (r:RG),gt r 155=r.c.d.d)∧(∀ (r:RG) (v:AV),st r 156 v=⟨r.a,r.b,⟨r.c.a,r.c.b,r.c.c,⟨r.c.d.a,r.c.d.b,r.c.d.c,r.c.d.d,v,r.c.d.f,r.c.d.g,r.c.d.h⟩,r.c.e,r.c.f,r.c.g,r.c.h⟩,r.d,r.e,r.f,r.g,r.h⟩)∧(∀ (r:RG),gt r 156=r.c.d.e)∧(∀ (r:RG) (v:AV),st r 157 v=⟨r.a,r.b,⟨r.c.a,r.c.b,r.c.c,⟨r.c.d.a,r.c.d.b,r.c.d.c,r.c.d.d,r.c.d.e,v,r.c.d.g,r.c.d.h⟩,r.c.e,r.c.f,r.c.g,r.c.h⟩,r.d,r.e,r.f,r.g,r.h⟩)∧(∀ (r:RG),gt r 157=r.c.d.f)∧(∀ (r:RG) (v:AV),st r 158 v=⟨r.a,r.b,⟨r.c.a,r.c.b,r.c.c,⟨r.c.d.a,r.c.d.b,r.c.d.c,r.c.d.d,r.c.d.e,r.c.d.f,v,r.c.d.h⟩,r.c.e,r.c.f,r.c.g,r.c.h⟩,r.d,r.e,r.f,r.g,r.h⟩)∧(∀ (r:RG),gt r 158=r.c.d.g)∧(∀ (r:RG) (v:AV),st r 159 v=⟨r.a,r.b,⟨r.c.a,r.c.b,r.c.c,⟨r.c.d.a,r.c.d.b,r.c.d.c,r.c.d.d,r.c.d.e,r.c.d.f,r.c.d.g,v⟩,r.c.e,r.c.f,r.c.g,r.c.h⟩,r.d,r.e,r.f,r.g,r.h⟩)∧(∀ (r:RG),gt r 159=r.c.d.h):=by
 repeat first | apply And.intro | (intros;rfl)
theorem ST5:(∀ (r:RG) (v:AV),st r 160 v=⟨r.a,r.b,⟨r.c.a,r.c.b,r.c.c,r.c.d,⟨v,r.c.e.b,r.c.e.c,r.c.e.d,r.c.e.e,r.c.e.f,r.c.e.g,r.c.e.h⟩,r.c.f,r.c.g,r.c.h⟩,r.d,r.e,r.f,r.g,r.h⟩)∧(∀ (r:RG),gt r 160=r.c.e.a)∧(∀ (r:RG) (v:AV),st r 161 v=⟨r.a,r.b,⟨r.c.a,r.c.b,r.c.c,r.c.d,⟨r.c.e.a,v,r.c.e.c,r.c.e.d,r.c.e.e,r.c.e.f,r.c.e.g,r.c.e.h⟩,r.c.f,r.c.g,r.c.h⟩,r.d,r.e,r.f,r.g,r.h⟩)∧(∀ (r:RG),gt r 161=r.c.e.b)∧(∀ (r:RG) (v:AV),st r 162 v=⟨r.a,r.b,⟨r.c.a,r.c.b,r.c.c,r.c.d,⟨r.c.e.a,r.c.e.b,v,r.c.e.d,r.c.e.e,r.c.e.f,r.c.e.g,r.c.e.h⟩,r.c.f,r.c.g,r.c.h⟩,r.d,r.e,r.f,r.g,r.h⟩)∧(∀ (r:RG),gt r 162=r.c.e.c)∧(∀ (r:RG) (v:AV),st r 163 v=⟨r.a,r.b,⟨r.c.a,r.c.b,r.c.c,r.c.d,⟨r.c.e.a,r.c.e.b,r.c.e.c,v,r.c.e.e,r.c.e.f,r.c.e.g,r.c.e.h⟩,r.c.f,r.c.g,r.c.h⟩,r.d,r.e,r.f,r.g,r.h⟩)∧(∀ (r:RG),gt r 163=r.c.e.d)∧(∀ (r:RG) (v:AV),st r 164 v=⟨r.a,r.b,⟨r.c.a,r.c.b,r.c.c,r.c.d,⟨r.c.e.a,r.c.e.b,r.c.e.c,r.c.e.d,v,r.c.e.f,r.c.e.g,r.c.e.h⟩,r.c.f,r.c.g,r.c.h⟩,r.d,r.e,r.f,r.g,r.h⟩)∧(∀ (r:RG),gt r 164=r.c.e.e)∧(∀ (r:RG) (v:AV),st r 165 v=⟨r.a,r.b,⟨r.c.a,r.c.b,r.c.c,r.c.d,⟨r.c.e.a,r.c.e.b,r.c.e.c,r.c.e.d,r.c.e.e,v,r.c.e.g,r.c.e.h⟩,r.c.f,r.c.g,r.c.h⟩,r.d,r.e,r.f,r.g,r.h⟩)∧(∀ (r:RG),gt r 165=r.c.e.f)∧(∀ (r:RG) (v:AV),st r 166 v=⟨r.a,r.b,⟨r.c.a,r.c.b,r.c.c,r.c.d,⟨r.c.e.a,r.c.e.b,r.c.e.c,r.c.e.d,r.c.e.e,r.c.e.f,v,r.c.e.h⟩,r.c.f,r.c.g,r.c.h⟩,r.d,r.e,r.f,r.g,r.h⟩)∧(∀ (r:RG),gt r 166=r.c.e.g)∧(∀ (r:RG) (v:AV),st r 167 v=⟨r.a,r.b,⟨r.c.a,r.c.b,r.c.c,r.c.d,⟨r.c.e.a,r.c.e.b,r.c.e.c,r.c.e.d,r.c.e.e,r.c.e.f,r.c.e.g,v⟩,r.c.f,r.c.g,r.c.h⟩,r.d,r.e,r.f,r.g,r.h⟩)∧(∀ (r:RG),gt r 167=r.c.e.h)∧(∀ (r:RG) (v:AV),st r 168 v=⟨r.a,r.b,⟨r.c.a,r.c.b,r.c.c,r.c.d,r.c.e,⟨v,r.c.f.b,r.c.f.c,r.c.f.d,r.c.f.e,r.c.f.f,r.c.f.g,r.c.f.h⟩,r.c.g,r.c.h⟩,r.d,r.e,r.f,r.g,r.h⟩)∧(∀ (r:RG),gt r 168=r.c.f.a)∧(∀ (r:RG) (v:AV),st r 169 v=⟨r.a,r.b,⟨r.c.a,r.c.b,r.c.c,r.c.d,r.c.e,⟨r.c.f.a,v,r.c.f.c,r.c.f.d,r.c.f.e,r.c.f.f,r.c.f.g,r.c.f.h⟩,r.c.g,r.c.h⟩,r.d,r.e,r.f,r.g,r.h⟩)∧(∀ (r:RG),gt r 169=r.c.f.b)∧(∀ (r:RG) (v:AV),st r 170 v=⟨r.a,r.b,⟨r.c.a,r.c.b,r.c.c,r.c.d,r.c.e,⟨r.c.f.a,r.c.f.b,v,r.c.f.d,r.c.f.e,r.c.f.f,r.c.f.g,r.c.f.h⟩,r.c.g,r.c.h⟩,r.d,r.e,r.f,r.g,r.h⟩)∧(∀ (r:RG),gt r 170=r.c.f.c)∧(∀ (r:RG) (v:AV),st r 171 v=⟨r.a,r.b,⟨r.c.a,r.c.b,r.c.c,r.c.d,r.c.e,⟨r.c.f.a,r.c.f.b,r.c.f.c,v,r.c.f.e,r.c.f.f,r.c.f.g,r.c.f.h⟩,r.c.g,r.c.h⟩,r.d,r.e,r.f,r.g,r.h⟩)∧(∀ (r:RG),gt r 171=r.c.f.d)∧(∀ (r:RG) (v:AV),st r 172 v=⟨r.a,r.b,⟨r.c.a,r.c.b,r.c.c,r.c.d,r.c.e,⟨r.c.f.a,r.c.f.b,r.c.f.c,r.c.f.d,v,r.c.f.f,r.c.f.g,r.c.f.h⟩,r.c.g,r.c.h⟩,r.d,r.e,r.f,r.g,r.h⟩)∧(∀ (r:RG),gt r 172=r.c.f.e)∧(∀ (r:RG) (v:AV),st r 173 v=⟨r.a,r.b,⟨r.c.a,r.c.b,r.c.c,r.c.d,r.c.e,⟨r.c.f.a,r.c.f.b,r.c.f.c,r.c.f.d,r.c.f.e,v,r.c.f.g,r.c.f.h⟩,r.c.g,r.c.h⟩,r.d,r.e,r.f,r.g,r.h⟩)∧(∀ (r:RG),gt r 173=r.c.f.f)∧(∀ (r:RG) (v:AV),st r 174 v=⟨r.a,r.b,⟨r.c.a,r.c.b,r.c.c,r.c.d,r.c.e,⟨r.c.f.a,r.c.f.b,r.c.f.c,r.c.f.d,r.c.f.e,r.c.f.f,v,r.c.f.h⟩,r.c.g,r.c.h⟩,r.d,r.e,r.f,r.g,r.h⟩)∧(∀ (r:RG),gt r 174=r.c.f.g)∧(∀ (r:RG) (v:AV),st r 175 v=⟨r.a,r.b,⟨r.c.a,r.c.b,r.c.c,r.c.d,r.c.e,⟨r.c.f.a,r.c.f.b,r.c.f.c,r.c.f.d,r.c.f.e,r.c.f.f,r.c.f.g,v⟩,r.c.g,r.c.h⟩,r.d,r.e,r.f,r.g,r.h⟩)∧(∀ (r:RG),gt r 175=r.c.f.h)∧(∀ (r:RG) (v:AV),st r 176 v=⟨r.a,r.b,⟨r.c.a,r.c.b,r.c.c,r.c.d,r.c.e,r.c.f,⟨v,r.c.g.b,r.c.g.c,r.c.g.d,r.c.g.e,r.c.g.f,r.c.g.g,r.c.g.h⟩,r.c.h⟩,r.d,r.e,r.f,r.g,r.h⟩)∧(∀ (r:RG),gt r 176=r.c.g.a)∧(∀ (r:RG) (v:AV),st r 177 v=⟨r.a,r.b,⟨r.c.a,r.c.b,r.c.c,r.c.d,r.c.e,r.c.f,⟨r.c.g.a,v,r.c.g.c,r.c.g.d,r.c.g.e,r.c.g.f,r.c.g.g,r.c.g.h⟩,r.c.h⟩,r.d,r.e,r.f,r.g,r.h⟩)∧(∀ (r:RG),gt r 177=r.c.g.b)∧(∀ (r:RG) (v:AV),st r 178 v=⟨r.a,r.b,⟨r.c.a,r.c.b,r.c.c,r.c.d,r.c.e,r.c.f,⟨r.c.g.a,r.c.g.b,v,r.c.g.d,r.c.g.e,r.c.g.f,r.c.g.g,r.c.g.h⟩,r.c.h⟩,r.d,r.e,r.f,r.g,r.h⟩)∧(∀ (r:RG),gt r 178=r.c.g.c)∧(∀ (r:RG) (v:AV),st r 179 v=⟨r.a,r.b,⟨r.c.a,r.c.b,r.c.c,r.c.d,r.c.e,r.c.f,⟨r.c.g.a,r.c.g.b,r.c.g.c,v,r.c.g.e,r.c.g.f,r.c.g.g,r.c.g.h⟩,r.c.h⟩,r.d,r.e,r.f,r.g,r.h⟩)∧(∀ (r:RG),gt r 179=r.c.g.d)∧(∀ (r:RG) (v:AV),st r 180 v=⟨r.a,r.b,⟨r.c.a,r.c.b,r.c.c,r.c.d,r.c.e,r.c.f,⟨r.c.g.a,r.c.g.b,r.c.g.c,r.c.g.d,v,r.c.g.f,r.c.g.g,r.c.g.h⟩,r.c.h⟩,r.d,r.e,r.f,r.g,r.h⟩)∧(∀ (r:RG),gt r 180=r.c.g.e)∧(∀ (r:RG) (v:AV),st r 181 v=⟨r.a,r.b,⟨r.c.a,r.c.b,r.c.c,r.c.d,r.c.e,r.c.f,⟨r.c.g.a,r.c.g.b,r.c.g.c,r.c.g.d,r.c.g.e,v,r.c.g.g,r.c.g.h⟩,r.c.h⟩,r.d,r.e,r.f,r.g,r.h⟩)∧(∀ (r:RG),gt r 181=r.c.g.f)∧(∀ (r:RG) (v:AV),st r 182 v=⟨r.a,r.b,⟨r.c.a,r.c.b,r.c.c,r.c.d,r.c.e,r.c.f,⟨r.c.g.a,r.c.g.b,r.c.g.c,r.c.g.d,r.c.g.e,r.c.g.f,v,r.c.g.h⟩,r.c.h⟩,r.d,r.e,r.f,r.g,r.h⟩)∧(∀ (r:RG),gt r 182=r.c.g.g)∧(∀ (r:RG) (v:AV),st r 183 v=⟨r.a,r.b,⟨r.c.a,r.c.b,r.c.c,r.c.d,r.c.e,r.c.f,⟨r.c.g.a,r.c.g.b,r.c.g.c,r.c.g.d,r.c.g.e,r.c.g.f,r.c.g.g,v⟩,r.c.h⟩,r.d,r.e,r.f,r.g,r.h⟩)∧(∀ (r:RG),gt r 183=r.c.g.h)∧(∀ (r:RG) (v:AV),st r 184 v=⟨r.a,r.b,⟨r.c.a,r.c.b,r.c.c,r.c.d,r.c.e,r.c.f,r.c.g,⟨v,r.c.h.b,r.c.h.c,r.c.h.d,r.c.h.e,r.c.h.f,r.c.h.g,r.c.h.h⟩⟩,r.d,r.e,r.f,r.g,r.h⟩)∧(∀ (r:RG),gt r 184=r.c.h.a)∧(∀ (r:RG) (v:AV),st r 185 v=⟨r.a,r.b,⟨r.c.a,r.c.b,r.c.c,r.c.d,r.c.e,r.c.f,r.c.g,⟨r.c.h.a,v,r.c.h.c,r.c.h.d,r.c.h.e,r.c.h.f,r.c.h.g,r.c.h.h⟩⟩,r.d,r.e,r.f,r.g,r.h⟩)∧(∀ (r:RG),gt r 185=r.c.h.b)∧(∀ (r:RG) (v:AV),st r 186 v=⟨r.a,r.b,⟨r.c.a,r.c.b,r.c.c,r.c.d,r.c.e,r.c.f,r.c.g,⟨r.c.h.a,r.c.h.b,v,r.c.h.d,r.c.h.e,r.c.h.f,r.c.h.g,r.c.h.h⟩⟩,r.d,r.e,r.f,r.g,r.h⟩)∧(∀ (r:RG),gt r 186=r.c.h.c)∧(∀ (r:RG) (v:AV),st r 187 v=⟨r.a,r.b,⟨r.c.a,r.c.b,r.c.c,r.c.d,r.c.e,r.c.f,r.c.g,⟨r.c.h.a,r.c.h.b,r.c.h.c,v,r.c.h.e,r.c.h.f,r.c.h.g,r.c.h.h⟩⟩,r.d,r.e,r.f,r.g,r.h⟩)∧(∀ (r:RG),gt r 187=r.c.h.d)∧(∀ (r:RG) (v:AV),st r 188 v=⟨r.a,r.b,⟨r.c.a,r.c.b,r.c.c,r.c.d,r.c.e,r.c.f,r.c.g,⟨r.c.h.a,r.c.h.b,r.c.h.c,r.c.h.d,v,r.c.h.f,r.c.h.g,r.c.h.h⟩⟩,r.d,r.e,r.f,r.g,r.h⟩)∧(∀ (r:RG),gt r 188=r.c.h.e)∧(∀ (r:RG) (v:AV),st r 189 v=⟨r.a,r.b,⟨r.c.a,r.c.b,r.c.c,r.c.d,r.c.e,r.c.f,r.c.g,⟨r.c.h.a,r.c.h.b,r.c.h.c,r.c.h.d,r.c.h.e,v,r.c.h.g,r.c.h.h⟩⟩,r.d,r.e,r.f,r.g,r.h⟩)∧(∀ (r:RG),gt r 189=r.c.h.f)∧(∀ (r:RG) (v:AV),st r 190 v=⟨r.a,r.b,⟨r.c.a,r.c.b,r.c.c,r.c.d,r.c.e,r.c.f,r.c.g,⟨r.c.h.a,r.c.h.b,r.c.h.c,r.c.h.d,r.c.h.e,r.c.h.f,v,r.c.h.h⟩⟩,r.d,r.e,r.f,r.g,r.h⟩)∧(∀ (r:RG),gt r 190=r.c.h.g)∧(∀ (r:RG) (v:AV),st r 191 v=⟨r.a,r.b,⟨r.c.a,r.c.b,r.c.c,r.c.d,r.c.e,r.c.f,r.c.g,⟨r.c.h.a,r.c.h.b,r.c.h.c,r.c.h.d,r.c.h.e,r.c.h.f,r.c.h.g,v⟩⟩,r.d,r.e,r.f,r.g,r.h⟩)∧(∀ (r:RG),gt r 191=r.c.h.h):=by
 repeat first | apply And.intro | (intros;rfl)
end Go.Abs
set_option maxRecDepth 1000000
namespace Go.Proofs
open Go Go.Abs
def sf (T k:Nat):Prop:=∃ e i z,bK CC T=some e∧CC.P.info? e=some i∧cn CC e=some z∧i.size=k∧0 < k∧(0 < i.bytes∧i.bytes≤65536)∧z.cells.length=k∧∀ f,CC.mutT f T=false
noncomputable def J5 (T:Nat):Option (Nat × Bool × Nat):=match bK CC T with
 | some e=>match CC.P.info? e,cn CC e with
   | some i,some z=>some (i.size,decide (0 < i.bytes∧i.bytes≤65536),z.cells.length)
   | _,_=>none
 | none=>none
theorem jA {T k:Nat}(h:J5 T=some (k,true,k))(hk:0 < k)(hm:∀ f,CC.mutT f T=false):sf T k:=by
 unfold J5 at h
 split at h
 ·rename_i e he
  split at h
  ·rename_i i z hi hz;simp only[SJ,PJ,decide_eq_true_eq] at h;exact ⟨e,i,z,he,hi,hz,h.1,hk,h.2.1,h.2.2,hm⟩
  ·cases h
 ·cases h
section
variable {T k:Nat}(hT:sf T k)(f:Nat){xs ys:List AV}{hp:Heap}{e:Nat}(lin:Lin)
include hT
theorem t9 (hy:ys ≠ [])(hok:ys.all (bg k)=true)(hl:ys.length≤2 ^ 24):aq CC f T .nils (.sl k ys lin) ⟨hp,e⟩=some (.sl k ys (.live (aa hp) 0),⟨hp ++ [.lin 0],e⟩):=by
 obtain ⟨el,i,z,h1,h2,h3,h4,h5,h6,h7,h8⟩:=hT
 have hne:¬ (i.size=0∨i.bytes=0∨z.cells.length ≠ i.size∨ys.all (bg i.size)=false∨2 ^ 16 < i.bytes):=by
  rw[h4,hok,h7];simp;omega
 have h9:decide (([]:List AV).length + ys.length≤2 ^ 24)=true:=by simpa using hl
 have h10:ys.isEmpty=false:=by cases ys with
  | nil=>exact absurd rfl hy
  | cons a l=>rfl
 simp only[aq,h1,h2,h3,aY,h4,if_true];rw[h4] at hne;rw[if_neg hne];simp[h9,h10,h8,aj,hl]
theorem EY (hy:ys ≠ [])(hok:ys.all (bg k)=true)(hl:xs.length + ys.length≤2 ^ 24):aq CC f T (.sl k xs .lit) (.sl k ys lin) ⟨hp,e⟩=some (.sl k (xs ++ ys) (.live (aa hp) 0),⟨hp ++ [.lin 0],e⟩):=by
 obtain ⟨el,i,z,h1,h2,h3,h4,h5,h6,h7,h8⟩:=hT
 have hne:¬ (i.size=0∨i.bytes=0∨z.cells.length ≠ i.size∨ys.all (bg i.size)=false∨2 ^ 16 < i.bytes):=by
  rw[h4,hok,h7];simp;omega
 have h10:ys.isEmpty=false:=by cases ys with
  | nil=>exact absurd rfl hy
  | cons a l=>rfl
 simp only[aq,h1,h2,h3,aY,h4,if_true];rw[h4] at hne;rw[if_neg hne];simp[h10,h8,aj,hl]
theorem lM (hy:ys ≠ [])(hok:ys.all (bg k)=true)(hl:xs.length + ys.length≤2 ^ 24){id g:Nat}(hg:af hp id=some (.lin g)):aq CC f T (.sl k xs (.live id g)) (.sl k ys lin) ⟨hp,e⟩=some (.sl k (xs ++ ys) (.live id (g + 1)),⟨ai hp id (.lin (g + 1)),e⟩):=by
 obtain ⟨el,i,z,h1,h2,h3,h4,h5,h6,h7,h8⟩:=hT
 have hne:¬ (i.size=0∨i.bytes=0∨z.cells.length ≠ i.size∨ys.all (bg i.size)=false∨2 ^ 16 < i.bytes):=by
  rw[h4,hok,h7];simp;omega
 have h10:ys.isEmpty=false:=by cases ys with
  | nil=>exact absurd rfl hy
  | cons a l=>rfl
 rw[aD] at hg;simp only[aq,h1,h2,h3,aY,h4,if_true];rw[h4] at hne;rw[if_neg hne];simp[h10,h8,hl,hg,aN]
theorem lI (hl:xs.length≤2 ^ 24){q:Lin}:aq CC f T (.sl k xs q) .nils ⟨hp,e⟩=some (.sl k xs q,⟨hp,e⟩):=by
 obtain ⟨el,i,z,h1,h2,h3,h4,h5,h6,h7,h8⟩:=hT
 have hne:¬ (i.size=0∨i.bytes=0∨z.cells.length ≠ i.size∨([]:List AV).all (bg i.size)=false∨2 ^ 16 < i.bytes):=by
  rw[h4,h7];simp;omega
 simp only[aq,h1,h2,h3,aY,h4,if_true];rw[h4] at hne;rw[if_neg hne];simp[hl]
end
theorem Av (f T:Nat)(h:(T == 63 || T == 65)=false):CC.mutT f T=false:=h
theorem sl58:sf 43 6:=jA (by kernel_rfl) (by decide) (fun f=>Av f 43 rfl)
theorem sl83:sf 62 4:=jA (by kernel_rfl) (by decide) (fun f=>Av f 62 rfl)
theorem sl139:sf 88 3:=jA (by kernel_rfl) (by decide) (fun f=>Av f 88 rfl)
theorem sl140:sf 116 2:=jA (by kernel_rfl) (by decide) (fun f=>Av f 116 rfl)
theorem sl148:sf 89 2:=jA (by kernel_rfl) (by decide) (fun f=>Av f 89 rfl)
def Ts (f:Nat):Bool:=[46,47,48,49,50,90,75,61,62,63,64,65,85,82,74,81,83,84,89,20,21,23,35,36,9,24,37,51].any (Nat.beq f)
def eu (M:Memo):Prop:=∀ f a,Ts f=true→M f a=none
theorem flM_of:∀ {l:List (FuncId × List AV × AV)},l.all (fun e=>!Ts e.1)=true→eu (memoL l)
 | [],_,f,a,_=>rfl
 | (g,b,v) :: r,h,f,a,hf=>by
   simp only[List.all_cons,Bool.and_eq_true] at h
   have hne:Nat.beq g f=false:=by
    cases hb:Nat.beq g f with
    | false=>rfl
    | true =>
      have:=Nat.eq_of_beq_eq_true hb;subst this;rw[hf] at h;exact absurd h.1 (by decide)
   show cond (Nat.beq g f) _ (memoL r f a)=none;rw[hne];exact flM_of h.2 f a hf
def cA (d:NdR):List DeR:=d.ins ++ d.outs ++ d.vars
def allZ:List DeR→AV
 | []=>.sl 6 [] .lit
 | l=>.sl 6 (l.map DeR.v) .dead
def Qv (b:Nat)(Hc:Heap)(v:AV)(acc:List DeR):Prop:=(acc=[]∧v=.sl 6 [] .lit)∨(acc ≠ []∧∃ id g,v=.sl 6 (acc.map DeR.v) (.live id g)∧af Hc id=some (.lin g)∧b≤id)
theorem Fa (l:List DeR):(l.map DeR.v).all (bg 6)=true:=by
 induction l with
 | nil=>rfl
 | cons a l ih=>rw[List.map_cons,List.all_cons,ih];rfl
theorem rD {f:Nat}{P G:Heap}{v:AV}{acc l:List DeR}(h:Qv (aa P) (P ++ G) v acc)(hl:acc.length + l.length≤2 ^ 24) :
  ∃ v' G',(∀ e,aq CC f 43 v (deZ l) ⟨P ++ G,e⟩=some (v',⟨P ++ G',e⟩))∧Qv (aa P) (P ++ G') v' (acc ++ l):=by
 cases l with
 | nil =>
   rcases h with ⟨rfl,rfl⟩ | ⟨h0,id,g,rfl,hg,hb⟩
   ·exact ⟨_,G,fun e=>lI sl58 f (by simp),.inl ⟨rfl,rfl⟩⟩
   ·exact ⟨_,G,fun e=>lI sl58 f (by rw[List.length_map];omega),.inr ⟨by simpa using h0,id,g,by simp,hg,hb⟩⟩
 | cons a l =>
   rcases h with ⟨rfl,rfl⟩ | ⟨h0,id,g,rfl,hg,hb⟩
   ·refine ⟨.sl 6 ((a :: l).map DeR.v) (.live (aa (P ++ G)) 0),G ++ [.lin 0],fun e=>?_,.inr ⟨by simp,aa (P ++ G),0,rfl,?_,by rw[az];omega⟩⟩
    ·have:=EY (xs:=[]) (ys:=(a :: l).map DeR.v) (hp:=P ++ G) (e:=e) sl58 f .dead (by simp) (Fa _) (by rw[List.length_map];simpa using hl)
     rw[List.nil_append] at this;rw[← List.append_assoc];exact this
    ·rw[← List.append_assoc,au];rfl
   ·refine ⟨.sl 6 ((acc ++ a :: l).map DeR.v) (.live id (g + 1)),ai G (id - P.length) (.lin (g + 1)),fun e=>?_,.inr ⟨by simp,id,g + 1,rfl,?_,hb⟩⟩
    ·have:=lM (xs:=acc.map DeR.v) (ys:=(a :: l).map DeR.v) (hp:=P ++ G) (e:=e) sl58 f .dead (by simp) (Fa _) (by rw[List.length_map,List.length_map];exact hl) hg
     rw[← List.map_append,dH (by rw[← aj];exact hb)] at this
     exact this
    ·rw[← dH (by rw[← aj];exact hb)]
     exact aK hg _
abbrev dk (d:NdR):AObj:=.cells (gT d.s d.p d.ins d.outs d.vars (pg d.eqs))
theorem mK (d:NdR)(L:Nat):eW d.v L=some (.cells (gT d.s d.p d.ins d.outs d.vars (pg d.eqs)),(.ptr · 0)):=by
 have h1:d.v.low L=true:=(dq _ (by simp only[en,bJ,noNL_nil,gW,linN_dead,eq_noN,fN,fQ,fJ,cond_true])).2 L
 have h2:(AV.cells d.v).all AV.one=true:=by
  show (gT d.s d.p d.ins d.outs d.vars (pg d.eqs)).all AV.one=true;simp only[List.all_cons,List.all_nil,iU,eO,eL,kP,Bool.and_self]
 unfold eW;rw[if_pos ⟨h2,h1⟩];rfl
theorem iJ {k:Bool}{b:Nat}{v:AV}{hp:Heap}(h:gF v=true):kf k b v ⟨hp,b⟩=.ret v (bB b hp) b:=by
 unfold kf;rw[h,show Nat.beq b b=true by rw[kj];simp]
 rfl
theorem keep113:CC.keep 46=false:=by kernel_rfl
theorem bsl58_0:aP CC 43 0 []=some (.sl 6 [] .lit):=by kernel_rfl
theorem ry {M:Memo}(m:eu M)(d:NdR)(hl:(cA d).length≤2 ^ 24)(H:Heap):orc CC M 46 [d.v] H=some (.ret (allZ (cA d)) H (aa H)):=by
 refine aH (z:=z46) (m _ _ rfl) (by kernel_rfl) rfl ?_
 have e0:(envOf [d.v] 0 env0).a.a.a=d.v:=rfl;generalize envOf [d.v] 0 env0=R at e0;have hb:=mK d;unfold cA at hl ⊢;have hlB:aa (H ++ [dk d])=aa H + 1:=by rw[az];rfl
 rw[List.length_append,List.length_append] at hl;obtain ⟨v1,G1,a1,I1⟩:=rD (f:=46) (P:=H ++ [dk d]) (G:=[]) (v:=.sl 6 [] .lit) (acc:=[]) (l:=d.ins) (.inl ⟨rfl,rfl⟩) (by simp;omega)
 obtain ⟨v2,G2,a2,I2⟩:=rD (f:=46) (l:=d.outs) I1 (by simp;omega)
 obtain ⟨v3,G3,a3,I3⟩:=rD (f:=46) (l:=d.vars) I2 (by simp;omega)
 rw[List.nil_append] at I1 I2 I3;rw[List.append_nil] at a1;have gB:∀ G,af (H ++ [dk d] ++ G) (aa H)=some (dk d):=fun G=>ar (by rw[au];rfl) _
 have hs0:=nG d.outs;have hs1:=nG d.vars
 obtain ⟨r',hr',hpre⟩ : ∃ r',r'.a.a.c=v3∧z46.sh (orc CC M) R [] ⟨H,aa H⟩=some (.ret,r',[],⟨H ++ [dk d] ++ G3,aa H⟩):=by
  have gB0:af (H ++ [dk d]) (aa H)=some (dk d):=by rw[au];rfl
  simp only[z46,IP,MI,SIM,ST0,e0,hb,bsl58_0,a1,a2,a3,gB,gB0,hs0,hs1,Nat.reduceAdd,Nat.reduceLeDiff];exact ⟨_,rfl,rfl⟩
 rw[hpre];have ht:∀ G:Heap,bB (aa H) (H ++ [dk d] ++ G)=H:=fun G=>by rw[List.append_assoc,cb]
 have hres:fy r' (H ++ [dk d] ++ G3) z46.res=some [v3]:=by
  show fy r' _ [.t 2]=_;rw[iE,iT,show gt r' 2=v3 from hr']
 rw[iM,hres];show some (kf (CC.keep 46) (aa H) v3 ⟨H ++ [dk d] ++ G3,aa H⟩)=_;rw[keep113]
 rcases I3 with ⟨h0,rfl⟩ | ⟨h0,id,g,rfl,hg,hb⟩
 ·rw[h0,iJ rfl,ht];rfl
 ·rw[i0 (de_noN _) (by omega),ht]
  obtain ⟨x,l,hx⟩ : ∃ x l,d.ins ++ d.outs ++ d.vars=x :: l:=List.exists_cons_of_ne_nil h0;rw[hx];rfl
theorem cc58:∃ e,CC.P.underlying 43=some (.slice e)∧e=93:=⟨_,by kernel_rfl,rfl⟩
theorem la (L:List DeR):bF CC 43 (allZ L)=some (.int .i64 (L.length:Int)):=by
 obtain ⟨e,hu,_⟩:=cc58;cases L with
 | nil=>show bF CC 43 (.sl 6 [] .lit)=_;rw[dB hu];simp
 | cons a l=>show bF CC 43 (.sl 6 ((a :: l).map DeR.v) .dead)=_;rw[dB hu,List.length_map]
theorem uZ {L:List DeR}{i:Nat}{a:DeR}(h:L[i]?=some a):bw 6 (allZ L) (.int .i64 (i:Int))=some (.iptr a.l):=by
 cases L with
 | nil=>simp at h
 | cons b l =>
   show bw 6 (.sl 6 ((b :: l).map DeR.v) .dead) _=_;refine da (v:=a.v) ?_;rw[aD,List.getElem?_map,h];rfl
abbrev zD:List AV:=[.str [],.int .i64 0,.bool false,.bool false,.str [],.bool false]
def Tw (H:Heap)(B:AObj)(L:List DeR)(X:IRes):Prop :=
 (∃ r' G,X=some (.exit 0,r',[],⟨H ++ [B,.cells zD] ++ G,aa H⟩)∧r'.a.a.e=.ptr (aa H + 1) 0) ∨
 (∃ r' G c,c ∈ L∧X=some (.ret,r',[],⟨H ++ [B,.cells c.l] ++ G,aa H⟩)∧r'.a.a.e=.ptr (aa H + 1) 0∧r'.a.a.f=.bool true)
section
variable {M:Memo}
theorem wr {H:Heap}{B:AObj}{nm:List Nat}{L:List DeR}(hL:L.length≤90000):∀ (d i:Nat),d + i=L.length→∀ (fu:Nat),d < fu→∀ (G:Heap) (r:RG),
  (r.a.a.b=.str nm∧r.a.a.e=.ptr (aa H + 1) 0∧r.a.b.b=allZ L∧r.a.b.c=.int .i64 (L.length:Int)∧r.a.b.d=.int .i64 (i:Int)) →
  Tw H B L (aw (pL (orc CC M)) fu r [] ⟨H ++ [B,.cells zD] ++ G,aa H⟩):=by
 intro d
 induction d with
 | zero =>
   intro i hi fu hfu G r ⟨h1,h4,h9,h10,h11⟩;obtain ⟨fu',rfl⟩ : ∃ f,fu=f + 1:=⟨fu - 1,by omega⟩
   have:i=L.length:=by omega
   subst this;have hc:decide ((L.length:Int) < (L.length:Int))=false:=by simp
   simp only[aw,pL,x5,SIM,ST0,h10,h11,hc];exact .inl ⟨_,G,rfl,by first | rfl | exact h4⟩
 | succ d ih =>
   intro i hi fu hfu G r ⟨h1,h4,h9,h10,h11⟩;obtain ⟨fu',rfl⟩ : ∃ f,fu=f + 1:=⟨fu - 1,by omega⟩
   have hlt:i < L.length:=by omega
   have hc:decide ((i:Int) < (L.length:Int))=true:=by simp;omega
   have hg:L[i]?=some L[i]:=by simp[hlt]
   have hmem:=List.getElem_mem hlt;generalize L[i]=a at hg hmem;have hat:=uZ hg;have ha:cQ (i:Int) 1=((i + 1:Nat):Int):=bA i 1 (by unfold natMax;omega)
   have hob:aa (H ++ [B,.cells zD] ++ G)=aa H + 2 + aa G:=by rw[az,az];rfl
   have hset:∀ K c,ai (H ++ [B,.cells zD] ++ G ++ K) (aa H + 1) c=H ++ [B,c] ++ (G ++ K):=fun K c=>by
    rw[List.append_assoc,List.append_assoc,eN];rw[List.append_assoc];rfl
   have hget:∀ K,af (H ++ [B,.cells zD] ++ G ++ K) (aa H + 1)=some (.cells zD):=fun K=>by
    rw[List.append_assoc,List.append_assoc,aR];rfl
   cases hs:strEq a.s nm with
   | true =>
     generalize hHc:H ++ [B,.cells zD] ++ G=Hc at *;simp only[aw,pL,x5,Cb,Eg,CA,SIM,ST0,ST1,h1,h4,h9,h10,h11,hc,hat,hs,hget,hset,Nat.reduceAdd,Nat.reduceLeDiff];exact .inr ⟨_,_,a,hmem,rfl,by first | rfl | exact h4,rfl⟩
   | false =>
     have key:=ih (i + 1) (by omega) fu' (by omega) (G ++ [.cells a.l])
     rw[← List.append_assoc] at key;generalize hHc:H ++ [B,.cells zD] ++ G=Hc at *;simp only[aw,pL,x5,Cb,Eg,CA,Mw,SIM,ST0,ST1,h1,h4,h9,h10,h11,hc,hat,hs,ha,Nat.reduceAdd,Nat.reduceLeDiff];exact key _ ⟨by first | rfl | exact h1,by first | rfl | exact h4,by first | rfl | exact h9,by first | rfl | exact h10,rfl⟩
theorem bz176:ao CC 93 []=some (.agg zD):=by kernel_rfl
theorem DL (m:eu M)(d:NdR)(hl:(cA d).length≤90000)(hc:∀ x ∈ cA d,x.c=[])(nm:List Nat)(H:Heap) :
  ∃ (s:List Nat) (p:Int) (b f o t:Bool),orc CC M 90 [d.v,.str nm] H=some (.ret (.tuple [.agg [.str s,.int .i64 p,.bool b,.bool f,.str [],.bool o],.bool t]) H (aa H)):=by
 have A:=ry m d (by omega)
 have hb:=mK d;have e0:(envOf [d.v,.str nm] 0 env0).a.a.a=d.v:=rfl;have e1:(envOf [d.v,.str nm] 0 env0).a.a.b=.str nm:=rfl;have lp:=wr (M:=M) (H:=H) (B:=dk d) (nm:=nm) hl (cA d).length 0 rfl 100000 (by omega) []
 rw[List.append_nil] at lp
 obtain ⟨r0,hr0,hpre⟩ : ∃ r,(r.a.a.b=.str nm∧r.a.a.e=.ptr (aa H + 1) 0∧r.a.b.b=allZ (cA d)∧r.a.b.c=.int .i64 ((cA d).length:Int)∧r.a.b.d=.int .i64 ((0:Nat):Int)) ∧
   z90.sh (orc CC M) (envOf [d.v,.str nm] 0 env0) [] ⟨H,aa H⟩=dZ (ac (yQ (orc CC M)) retZ) (dD 0 (aw (pL (orc CC M)) 100000 r [] ⟨H ++ [dk d,.cells zD],aa H⟩)):=by
  generalize envOf [d.v,.str nm] 0 env0=R at e0 e1;have hln:=la (cA d);simp only[z90,Lc,JL,SIM,ST0,e0,e1,hb,A,hln,Nat.reduceAdd,Nat.reduceLeDiff];exact ⟨_,⟨by first | rfl | exact e1,rfl,rfl,rfl,rfl⟩,rfl⟩
 have fin:∀ (r' : RG) (c:List AV) (G:Heap) (s:List Nat) (p:Int) (b f o t:Bool),c=[.str s,.int .i64 p,.bool b,.bool f,.str [],.bool o]→r'.a.a.e=.ptr (aa H + 1) 0→r'.a.a.f=.bool t →
   j0 CC 90 (aa H) z90 (some (.ret,r',[],⟨H ++ [dk d,.cells c] ++ G,aa H⟩))=some (.ret (.tuple [.agg [.str s,.int .i64 p,.bool b,.bool f,.str [],.bool o],.bool t]) H (aa H)):=by
  intro r' c G s p b f o t hcc h4 h5;subst hcc;have hg:af (H ++ [dk d,.cells [.str s,.int .i64 p,.bool b,.bool f,.str [],.bool o]] ++ G) (aa H + 1)=some (.cells [.str s,.int .i64 p,.bool b,.bool f,.str [],.bool o]):=by rw[List.append_assoc,aR];rfl
  have ht:bB (aa H) (H ++ [dk d,.cells [.str s,.int .i64 p,.bool b,.bool f,.str [],.bool o]] ++ G)=H:=by rw[List.append_assoc,cb]
  have hgc:=iJ (k:=CC.keep 90) (b:=aa H) (v:=.tuple [.agg [.str s,.int .i64 p,.bool b,.bool f,.str [],.bool o],.bool t]) (hp:=H ++ [dk d,.cells [.str s,.int .i64 p,.bool b,.bool f,.str [],.bool o]] ++ G) rfl;rw[ht] at hgc;generalize H ++ [dk d,.cells [.str s,.int .i64 p,.bool b,.bool f,.str [],.bool o]] ++ G=Hc at *;simp only[z90,SIM,ST0,h4,h5,hg,hgc,Nat.reduceAdd,Nat.reduceLeDiff]
 rcases lp r0 hr0 with ⟨r',G,h1,h4⟩ | ⟨r',G,c,hcm,h1,h4,h5⟩
 ·refine ⟨[],0,false,false,false,false,aH (z:=z90) (m _ _ rfl) (by kernel_rfl) rfl ?_⟩
  rw[hpre,h1];have hg:af (H ++ [dk d,.cells zD] ++ G) (aa H + 1)=some (.cells zD):=by rw[List.append_assoc,aR];rfl
  have hself:=eB hg
  obtain ⟨r2,h42,h52,hr2⟩ : ∃ r2,r2.a.a.e=.ptr (aa H + 1) 0∧r2.a.a.f=.bool false∧dZ (ac (yQ (orc CC M)) retZ) (dD 0 (some (.exit 0,r',[],⟨H ++ [dk d,.cells zD] ++ G,aa H⟩)))=some (.ret,r2,[],⟨H ++ [dk d,.cells zD] ++ G,aa H⟩):=by
   generalize H ++ [dk d,.cells zD] ++ G=Hc at *;simp only[yQ,SIM,ST0,h4,bz176,hg,hself,Nat.reduceAdd,Nat.reduceLeDiff];exact ⟨_,by first | rfl | exact h4,rfl,rfl⟩
  rw[hr2];exact fin r2 zD G [] 0 false false false false rfl h42 h52
 ·refine ⟨c.s,c.p,c.b,c.f,c.o,true,aH (z:=z90) (m _ _ rfl) (by kernel_rfl) rfl ?_⟩
  rw[hpre,h1];have hc0:=hc c hcm;have:=fin r' c.l G c.s c.p c.b c.f c.o true (by rw[show c.l=[.str c.s,.int .i64 c.p,.bool c.b,.bool c.f,.str c.c,.bool c.o] from rfl,hc0]) h4 h5
  simpa only[SIM] using this
end
theorem nY (d:NdR):AV.same d.v d.v=true:=by
 have:=nd_same [d];simp only[List.map_cons,List.map_nil,sameL,Bool.and_true] at this;exact this
abbrev gv0:AV:=.sl 2 [] .lit
abbrev sF (d:NdR)(mv mf base:AV):List AV:=[.str d.s,.int .i64 (d.p:Int),deZ d.ins,deZ d.outs,deZ d.vars,pg d.eqs,mv,mf,base]
theorem wQ (a b c d e f g h i:AV):af [a,b,c,d,e,f,g,h,i] 6=some g:=rfl
theorem sx (a b c d e f g h i:AV):af [a,b,c,d,e,f,g,h,i] 7=some h:=rfl
theorem Pd (a b c d e f g h i:AV):af [a,b,c,d,e,f,g,h,i] 8=some i:=rfl
theorem p9 (a b c d e f g h i:AV):eK (some 6) [a,b,c,d,e,f,g,h,i] 0=some (.agg [a,b,c,d,e,f]):=rfl
theorem cc254:∃ e,CC.P.underlying 138=some (.slice e)∧e=153:=⟨_,by kernel_rfl,rfl⟩
theorem len254:bF CC 138 .nils=some (.int .i64 0):=by
 obtain ⟨e,hu,_⟩:=cc254;rw[eo];simp[eY,hu]
theorem bsl140_0:aP CC 116 0 []=some gv0:=by kernel_rfl
def iy (v:AV):Prop:=v=.nils∨v=gv0
theorem O4 (f:Nat){base:AV}(h:iy base)(hp:Heap)(e:Nat):aq CC f 116 gv0 base ⟨hp,e⟩=some (gv0,⟨hp,e⟩):=by
 rcases h with rfl | rfl
 ·exact lI sl140 f (by simp)
 ·obtain ⟨el,i,z,h1,h2,h3,h4,h5,h6,h7,h8⟩:=sl140
  have hne:¬ (i.size=0∨i.bytes=0∨z.cells.length ≠ i.size∨([]:List AV).all (bg i.size)=false∨2 ^ 16 < i.bytes):=by
   rw[h4,h7];simp;omega
  simp only[aq,h1,h2,h3,aY,h4,if_true];rw[h4] at hne;rw[if_neg hne];simp
section
variable {M:Memo}{d:NdR}
theorem of_ok (m:eu M)(hl:(cA d).length≤90000)(hc:∀ x ∈ cA d,x.c=[])(nm:List Nat)(k:Int)(H:Heap):orc CC M 85 [d.v,.str nm,.int .i64 k] H=some (.ret (.tuple [.nils,.bool true]) H (aa H)):=by
 obtain ⟨s,p,b,f,o,t,N⟩:=DL m d hl hc nm (H ++ [dk d]);have hb:=mK d;refine aH (z:=z85) (m _ _ rfl) (by kernel_rfl) rfl ?_
 have e0:(envOf [d.v,.str nm,.int .i64 k] 0 env0).a.a.a=d.v:=rfl;have e1:(envOf [d.v,.str nm,.int .i64 k] 0 env0).a.a.b=.str nm:=rfl;generalize envOf [d.v,.str nm,.int .i64 k] 0 env0=R at e0 e1;have hse:strEq ([]:List Nat) []=true:=rfl;simp only[z85,LD,Kq,KN,MC,SIM,ST0,ST1,e0,e1,hb,N,hse,Nat.reduceAdd,Nat.reduceLeDiff]
theorem Rf (m:eu M)(hl:(cA d).length≤90000)(hc:∀ x ∈ cA d,x.c=[])(nm:List Nat)(H:Heap):orc CC M 75 [d.v,.str nm] H=some (.ret (.tuple [.nils,.bool true]) H (aa H)):=by
 have A:=ry m d (by omega) (H ++ [dk d])
 have F:=of_ok m hl hc nm ((cA d).length:Int) (H ++ [dk d]);have hb:=mK d;have hs:=nY d;have hln:=la (cA d);refine aH (z:=z75) (m _ _ rfl) (by kernel_rfl) rfl ?_
 have e0:(envOf [d.v,.str nm] 0 env0).a.a.a=d.v:=rfl;have e1:(envOf [d.v,.str nm] 0 env0).a.a.b=.str nm:=rfl;generalize envOf [d.v,.str nm] 0 env0=R at e0 e1;simp only[z75,Jd,La,SIM,ST0,ST1,e0,e1,hb,A,F,hs,hln,Nat.reduceAdd,Nat.reduceLeDiff]
theorem vE (m:eu M)(hl:(cA d).length≤90000)(hc:∀ x ∈ cA d,x.c=[])(nm:List Nat){so:Nat}{mv mf base:AV}{H:Heap}(hs:af H so=some (.cells (sF d mv mf base))):orc CC M 62 [.ptr so 0,.str nm] H=some (.ret .nils H (aa H)):=by
 have F:=Rf m hl hc nm H;refine aH (z:=z62) (m _ _ rfl) (by kernel_rfl) rfl ?_
 have e0:(envOf [.ptr so 0,.str nm] 0 env0).a.a.a=.ptr so 0:=rfl;have e1:(envOf [.ptr so 0,.str nm] 0 env0).a.a.b=.str nm:=rfl;generalize envOf [.ptr so 0,.str nm] 0 env0=R at e0 e1;simp only[z62,JS,Jh,Lh,SIM,ST0,ST1,e0,e1,hs,p9,F,Nat.reduceAdd,Nat.reduceLeDiff]
theorem dW (m:eu M){so:Nat}{mv mf base:AV}(hb:iy base){H:Heap}(hs:af H so=some (.cells (sF d mv mf base))):orc CC M 65 [.ptr so 0,.nils] H=some (.ret gv0 H (aa H)):=by
 refine aH (z:=z65) (m _ _ rfl) (by kernel_rfl) rfl ?_
 have e0:(envOf [.ptr so 0,.nils] 0 env0).a.a.a=.ptr so 0:=rfl;have e1:(envOf [.ptr so 0,.nils] 0 env0).a.a.b=.nils:=rfl;generalize envOf [.ptr so 0,.nils] 0 env0=R at e0 e1;have ha:=fun hp e=>O4 65 hb hp e
 have hc:decide ((0:Int) < 0)=false:=by decide
 simp only[z65,LK,JQ,Mn,Ll,Lm,IQ,Sw,SIM,ST0,ST1,e0,e1,hs,Pd,bsl140_0,ha,len254,hc,Nat.reduceAdd,Nat.reduceLeDiff]
end
abbrev PE (nd:List Nat)(at_:Int)(vars:Nat)(I O E Ms W S:AV)(size:Nat):List AV:=[.str nd,.int .i64 at_,.int .i64 (vars:Int),I,O,E,Ms,W,S,.int .i64 (size:Int)]
theorem TC (a b c d e f g h i j:AV):af [a,b,c,d,e,f,g,h,i,j] 2=some c∧af [a,b,c,d,e,f,g,h,i,j] 5=some f∧af [a,b,c,d,e,f,g,h,i,j] 6=some g∧af [a,b,c,d,e,f,g,h,i,j] 7=some h∧af [a,b,c,d,e,f,g,h,i,j] 8=some i∧af [a,b,c,d,e,f,g,h,i,j] 9=some j:=⟨rfl,rfl,rfl,rfl,rfl,rfl⟩
theorem TJ (a b c d e f g h i j v:AV):cm [a,b,c,d,e,f,g,h,i,j] 2 [v]=[a,b,v,d,e,f,g,h,i,j]∧cm [a,b,c,d,e,f,g,h,i,j] 5 [v]=[a,b,c,d,e,v,g,h,i,j]∧cm [a,b,c,d,e,f,g,h,i,j] 6 [v]=[a,b,c,d,e,f,v,h,i,j]∧cm [a,b,c,d,e,f,g,h,i,j] 7 [v]=[a,b,c,d,e,f,g,v,i,j]∧cm [a,b,c,d,e,f,g,h,i,j] 8 [v]=[a,b,c,d,e,f,g,h,v,j]∧cm [a,b,c,d,e,f,g,h,i,j] 9 [v]=[a,b,c,d,e,f,g,h,i,v]:=⟨rfl,rfl,rfl,rfl,rfl,rfl⟩
section
variable {M:Memo}
theorem us (m:eu M){bo uo:Nat}{LV:AV}{nd:List Nat}{at_:Int}{vars size:Nat}{I O E Ms W S:AV}(hv:vars < 1000000){H:Heap}(hb:af H bo=some (.cells [.ptr uo 0,LV]))(hu:af H uo=some (.cells (PE nd at_ vars I O E Ms W S size))) :
  orc CC M 35 [.ptr bo 0] H=some (.ret (.int .i64 (vars:Int)) (ai H uo (.cells (PE nd at_ (vars + 1) I O E Ms W S size))) (aa H)):=by
 refine aH (z:=z35) (m _ _ rfl) (by kernel_rfl) rfl ?_
 have e0:(envOf [.ptr bo 0] 0 env0).a.a.a=.ptr bo 0:=rfl;generalize envOf [.ptr bo 0] 0 env0=R at e0;have ha:cQ (vars:Int) 1=((vars + 1:Nat):Int):=bA vars 1 (by unfold natMax;omega)
 have hs:gG ((vars + 1:Nat):Int) 1=(vars:Int):=by
  show gG (.ofNat (vars + 1)) (.ofNat 1)=_;have h1:Nat.ble 1 (vars + 1)=true:=by rw[dE];simp
  have h2:Nat.ble (vars + 1) natMax=true:=by rw[dE,decide_eq_true_eq];unfold natMax;omega
  simp only[gG,h1,h2,Bool.and_self,cond_true];rfl
 by_cases hbu:bo=uo
 ·subst hbu;rw[hb] at hu;simp at hu
 have hu2:=aK hu (.cells (PE nd at_ (vars + 1) I O E Ms W S size));have hb2:∀ c,af (ai H uo c) bo=some (.cells [.ptr uo 0,LV]):=fun c=>by rw[ae hbu,hb]
 have hg:=fun a b c d e f g h i j=>(TC a b c d e f g h i j).1
 have hp:=fun a b c d e f g h i j v=>(TJ a b c d e f g h i j v).1
 simp only[z35,LS,Mj,Mq,SIM,ST0,ST1,e0,hb,hb2,hu,hu2,hg,hp,ha,hs,Nat.reduceAdd,Nat.reduceLeDiff]
end
def nmA:AV→List Nat
 | .sl _ _ (.live id _)=>[id]
 | .rsl n _ _ _ _=>[n]
 | _=>[]
def LvI (uo:Nat)(H:Heap)(k:Nat)(V:AV)(xs:List AV):Prop:=(xs=[]∧V=.nils)∨(xs ≠ []∧∃ id g,V=.sl k xs (.live id g)∧af H id=some (.lin g)∧uo < id∧aM (aa H) xs=true)
def RsI (uo:Nat)(H:Heap)(sz:Nat)(V:AV)(cells:List AV):Prop:=(cells=[]∧V=.nils)∨(∃ id n,V=.rsl id 0 n n sz∧0 < n∧af H id=some (.cells cells)∧cells.length=n * sz∧cells.all AV.one=true∧aM (aa H) cells=true∧uo < id)
theorem LvI.mono {uo:Nat}{H H' : Heap}{k:Nat}{V:AV}{xs:List AV}(h:LvI uo H k V xs)(hl:aa H≤aa H')(hf:∀ q ∈ nmA V,q < aa H→af H' q=af H q):LvI uo H' k V xs:=by
 rcases h with h | ⟨h0,id,g,rfl,hg,hu,hw⟩
 ·exact .inl h
 ·exact .inr ⟨h0,id,g,rfl,by rw[hf id (by simp[nmA]) (by rw[aj];exact bm hg),hg],hu,cd hl _ hw⟩
theorem RsI.mono {uo:Nat}{H H' : Heap}{k:Nat}{V:AV}{xs:List AV}(h:RsI uo H k V xs)(hl:aa H≤aa H')(hf:∀ q ∈ nmA V,q < aa H→af H' q=af H q):RsI uo H' k V xs:=by
 rcases h with h | ⟨id,n,rfl,h0,hg,h1,h2,h3,hu⟩
 ·exact .inl h
 ·exact .inr ⟨id,n,rfl,h0,by rw[hf id (by simp[nmA]) (by rw[aj];exact bm hg),hg],h1,h2,cd hl _ h3,hu⟩
theorem LvI.lt {uo:Nat}{H:Heap}{k:Nat}{V:AV}{xs:List AV}(h:LvI uo H k V xs):∀ q ∈ nmA V,uo < q∧q < aa H:=by
 intro q hq
 rcases h with ⟨_,rfl⟩ | ⟨h0,id,g,rfl,hg,hu,hw⟩
 ·cases hq
 ·simp only[nmA,List.mem_singleton] at hq;subst hq;exact ⟨hu,by rw[aj];exact bm hg⟩
theorem RsI.lt {uo:Nat}{H:Heap}{k:Nat}{V:AV}{xs:List AV}(h:RsI uo H k V xs):∀ q ∈ nmA V,uo < q∧q < aa H:=by
 intro q hq
 rcases h with ⟨_,rfl⟩ | ⟨id,n,rfl,h0,hg,h1,h2,h3,hu⟩
 ·cases hq
 ·simp only[nmA,List.mem_singleton] at hq;subst hq;exact ⟨hu,by rw[aj];exact bm hg⟩
theorem lH {T k:Nat}(hT:sf T k)(f:Nat){uo:Nat}{H:Heap}{V x:AV}{xs:List AV}(h:LvI uo H k V xs)(hx:[x].all (bg k)=true)(hw:x.low (aa H)=true)(hl:xs.length + 1≤2 ^ 24)(hu:uo < aa H) :
  ∃ V' H',(∀ e lin,aq CC f T V (.sl k [x] lin) ⟨H,e⟩=some (V',⟨H',e⟩))∧LvI uo H' k V' (xs ++ [x])∧aa H≤aa H'∧(∀ q,q < aa H→q ∉ nmA V→af H' q=af H q)∧(∀ q ∈ nmA V',q ∈ nmA V∨aa H≤q):=by
 rcases h with ⟨rfl,rfl⟩ | ⟨h0,id,g,rfl,hg,hu',hw'⟩
 ·refine ⟨.sl k [x] (.live (aa H) 0),H ++ [.lin 0],fun e lin=>t9 hT f lin (by simp) hx (by simp),.inr ⟨by simp,aa H,0,rfl,by rw[au];rfl,hu,?_⟩,by rw[az];omega,fun q hq _=>?_,fun q hq=>?_⟩
  ·simp only[List.nil_append,aM,Bool.and_true];exact AV.low_mono (by rw[az];omega) _ hw
  ·rw[aj] at hq;rw[aD,aD,List.getElem?_append_left hq]
  ·simp only[nmA,List.mem_singleton] at hq;exact .inr (by omega)
 ·refine ⟨.sl k (xs ++ [x]) (.live id (g + 1)),ai H id (.lin (g + 1)),fun e lin=>lM hT f lin (by simp) hx (by simpa using hl) hg,.inr ⟨by simp,id,g + 1,rfl,aK hg _,hu',?_⟩,by rw[ak];exact Nat.le_refl _,fun q hq hn=>?_,fun q hq=>.inl hq⟩
  ·rw[ak]
   have:∀ l:List AV,aM (aa H) l=true→aM (aa H) (l ++ [x])=true:=fun l=>by
    induction l with
    | nil=>intro _;simp[aM,hw]
    | cons a l ih=>intro h;simp only[aM,List.cons_append,Bool.and_eq_true] at h ⊢;exact ⟨h.1,ih h.2⟩
   exact this xs hw'
  ·rw[ae (by simp only[nmA,List.mem_singleton] at hn;exact hn)]
theorem rH {uo off b k:Nat}{H:Heap}{V:AV}{xs cs:List AV}(h:LvI uo H k V xs)(hn:xs ≠ [])(hcs:af H uo=some (.cells cs))(ho:off + 1≤aa cs)(hb:uo≤b) :
  ay 1 (.ptr uo off) V ⟨H,b⟩=some ⟨ai H uo (.cells (cm cs off [V])),uo⟩:=by
 rcases h with ⟨h0,_⟩ | ⟨h0,id,g,rfl,hg,hu,hw⟩
 ·exact absurd h0 hn
 ·have hid:id < aa H:=by rw[aj];exact bm hg
  have low:∀ L,AV.low L (.sl k xs (.live id g))=(aM L xs && decide (id < L)):=fun L=>by simp[AV.low,Lin.low]
  have e1:eV (aa H) (.sl k xs (.live id g))=true:=by rw[cj,low,hw];simpa using hid
  have e2:eV (uo + 1) (.sl k xs (.live id g))=false:=by rw[cj,low];simp;intro _;omega
  have e3:Nat.ble (Nat.add off 1) (aa cs)=true:=by rw[dE];simpa using ho
  have e4:min b uo=uo:=Nat.min_eq_right hb;have e5:Nat.beq (aa [AV.sl k xs (.live id g)]) 1=true:=rfl;have e6:List.all [AV.sl k xs (.live id g)] AV.one=true:=rfl;have e7:AV.cells (.sl k xs (.live id g))=[.sl k xs (.live id g)]:=rfl;simp only[ay,hcs,eF,e1,e3,e5,e6,e7,Bool.and_self,cond_true,i8,e2,cond_false,e4]
structure AtF where
 c:Bool
 n:Int
 v:Nat
abbrev AtF.av (a:AtF):AV:=.agg [.bool a.c,.int .i64 a.n,.int .i64 (a.v:Int)]
structure EqF where
 op:List Nat
 dst:Nat
 args:List AtF
 lin:Lin
 on:AV
abbrev EqF.av (q:EqF):AV:=.agg [.str q.op,.int .i64 (q.dst:Int),.sl 3 (q.args.map AtF.av) q.lin,q.on]
def EqF.ok (L:Nat)(q:EqF):Prop:=iy q.on∧q.lin.low L=true
theorem nB (l:List AtF):dK (l.map AtF.av)=true:=by
 induction l with
 | nil=>rfl
 | cons a l ih=>rw[List.map_cons,bJ,ih];rfl
theorem HT {L:Nat}{q:EqF}(h:q.ok L):q.av.low L=true:=by
 obtain ⟨h1,h2⟩:=h;have h3:=dG (nB q.args) L;have h4:Lin.low L .lit=true:=rfl
 rcases h1 with h1 | h1 <;> simp[AV.low,aM,h1,h2,h3,h4]
theorem Hw (q:EqF)(h:iy q.on):[q.av].all (bg 4)=true:=by
 rcases h with h | h <;> simp[bg,AV.cells,AV.one,h]
def lV (k:Nat)(lin:Lin):List AV→AV
 | []=>.nils
 | x :: l=>.sl k (x :: l) lin
structure WtF where
 dst:Nat
 sp:Int
 pa:Int
 ah:List Int
 lin:Lin
 at_:Int
abbrev WtF.av (w:WtF):AV:=.agg [.int .i64 (w.dst:Int),.int .i64 w.sp,.int .i64 w.pa,lV 1 w.lin (w.ah.map fun n=>.int .i64 n),.int .i64 w.at_]
structure SpF where
 nd:List Nat
 args:List AtF
 al:Lin
 futs:List (Int × Int)
 fl:Lin
 at_:Int
abbrev iw (o:Int × Int):AV:=.agg [.int .i64 o.1,.int .i64 o.2]
abbrev SpF.cs (s:SpF):List AV:=[.str s.nd,lV 3 s.al (s.args.map AtF.av),lV 2 s.fl (s.futs.map iw),.int .i64 s.at_]
structure UN where
 nd:List Nat
 at_:Int
 vars:Nat
 I:AV
 O:AV
 eqs:List EqF
 E:AV
 ms:List AV
 Ms:AV
 ws:List WtF
 W:AV
 sp:List SpF
 S:AV
 size:Nat
abbrev UN.c (u:UN):List AV:=PE u.nd u.at_ u.vars u.I u.O u.E u.Ms u.W u.S u.size
def UN.ns (u:UN):List Nat:=nmA u.E ++ nmA u.Ms ++ nmA u.W ++ nmA u.S
structure UI (uo:Nat)(H:Heap)(u:UN):Prop where
 ob:af H uo=some (.cells u.c)
 e:LvI uo H 4 u.E (u.eqs.map EqF.av)
 el:∀ q ∈ u.eqs,iy q.on
 m:RsI uo H 6 u.Ms u.ms
 w:LvI uo H 5 u.W (u.ws.map WtF.av)
 s:RsI uo H 4 u.S (u.sp.flatMap SpF.cs)
 dj:(∀ q ∈ nmA u.E,q ∉ nmA u.Ms∧q ∉ nmA u.W∧q ∉ nmA u.S)∧(∀ q ∈ nmA u.Ms,q ∉ nmA u.W∧q ∉ nmA u.S)∧(∀ q ∈ nmA u.W,q ∉ nmA u.S)
 vl:u.vars + u.eqs.length + u.ms.length + u.ws.length + u.sp.length + u.size < 1000000
structure Gr (uo:Nat)(H:Heap)(ns:List Nat)(H' : Heap)(ns' : List Nat):Prop where
 len:aa H≤aa H'
 fr:∀ q,q < aa H→q ≠ uo→q ∉ ns→af H' q=af H q
 ns:∀ q ∈ ns',q ∈ ns∨aa H≤q
theorem Gr.refl {uo:Nat}{H:Heap}{ns:List Nat}:Gr uo H ns H ns:=⟨Nat.le_refl _,fun _ _ _ _=>rfl,fun _ h=>.inl h⟩
theorem Gr.trans {uo:Nat}{H H1 H2:Heap}{a b c:List Nat}(h:Gr uo H a H1 b)(h' : Gr uo H1 b H2 c):Gr uo H a H2 c:=by
 refine ⟨Nat.le_trans h.len h'.len,fun q hq hu hn=>?_,fun q hq=>?_⟩
 ·rw[h'.fr q (Nat.lt_of_lt_of_le hq h.len) hu (fun hb=>(h.ns q hb).elim hn (fun hl=>by omega)),h.fr q hq hu hn]
 ·rcases h'.ns q hq with hb | hl
  ·exact h.ns q hb
  ·exact .inr (Nat.le_trans h.len hl)
theorem Gr.ap {uo:Nat}{H K:Heap}{ns:List Nat}:Gr uo H ns (H ++ K) ns:=by
 refine ⟨by rw[az];omega,fun q hq _ _=>?_,fun _ h=>.inl h⟩
 rw[aj] at hq;rw[aD,aD,List.getElem?_append_left hq]
theorem UI.lt {uo:Nat}{H:Heap}{u:UN}(h:UI uo H u):∀ q ∈ u.ns,uo < q∧q < aa H:=by
 intro q hq;unfold UN.ns at hq;simp only[List.mem_append] at hq
 rcases hq with ((hq | hq) | hq) | hq
 ·exact h.e.lt q hq
 ·exact h.m.lt q hq
 ·exact h.w.lt q hq
 ·exact h.s.lt q hq
theorem UI.uo {uo:Nat}{H:Heap}{u:UN}(h:UI uo H u):uo < aa H:=by rw[aj];exact bm h.ob
theorem UI.to {uo:Nat}{H H' : Heap}{u:UN}(h:UI uo H u)(hl:aa H≤aa H')(hf:∀ q,q < aa H→q=uo∨q ∈ u.ns→af H' q=af H q):UI uo H' u:=by
 refine ⟨by rw[hf uo h.uo (.inl rfl)];exact h.ob,h.e.mono hl (fun q hq hlt=>hf q hlt (.inr ?_)),h.el,h.m.mono hl (fun q hq hlt=>hf q hlt (.inr ?_)),h.w.mono hl (fun q hq hlt=>hf q hlt (.inr ?_)),h.s.mono hl (fun q hq hlt=>hf q hlt (.inr ?_)),h.dj,h.vl⟩ <;>
 (unfold UN.ns;simp only[List.mem_append];simp[hq])
theorem UI.ap {uo:Nat}{H K:Heap}{u:UN}(h:UI uo H u):UI uo (H ++ K) u :=
 h.to (by rw[az];omega) (fun q hq _=>by rw[aj] at hq;rw[aD,aD,List.getElem?_append_left hq])
theorem bM {u:UN}{q:Nat}:q ∈ u.ns ↔ q ∈ nmA u.E∨q ∈ nmA u.Ms∨q ∈ nmA u.W∨q ∈ nmA u.S:=by
 unfold UN.ns;simp only[List.mem_append,or_assoc]
theorem UI.setv {uo:Nat}{H:Heap}{u:UN}(h:UI uo H u){v s:Nat}{i o:AV}(hv:v + u.eqs.length + u.ms.length + u.ws.length + u.sp.length + s < 1000000) :
  UI uo (ai H uo (.cells ({ u with vars:=v,size:=s,I:=i,O:=o }:UN).c)) { u with vars:=v,size:=s,I:=i,O:=o }:=by
 have hl:aa H≤aa (ai H uo (.cells ({ u with vars:=v,size:=s,I:=i,O:=o }:UN).c)):=by rw[ak];exact Nat.le_refl _
 have hf:∀ q,uo < q→af (ai H uo (.cells ({ u with vars:=v,size:=s,I:=i,O:=o }:UN).c)) q=af H q:=fun q hq=>ae (by omega) _
 exact ⟨aK h.ob _,h.e.mono hl (fun q hq _=>hf q (h.e.lt q hq).1),h.el,h.m.mono hl (fun q hq _=>hf q (h.m.lt q hq).1),h.w.mono hl (fun q hq _=>hf q (h.w.lt q hq).1),h.s.mono hl (fun q hq _=>hf q (h.s.lt q hq).1),h.dj,hv⟩
theorem Gr.put {uo:Nat}{H:Heap}{ns:List Nat}(o:AObj):Gr uo H ns (ai H uo o) ns :=
 ⟨by rw[ak];exact Nat.le_refl _,fun q _ hq _=>ae hq _,fun _ h=>.inl h⟩
theorem BR {H:Heap}{bo uo:Nat}{u:UN}{LV:AV}(hU:UI uo H u)(hb:af H bo=some (.cells [.ptr uo 0,LV])):bo ≠ uo:=by
 intro h;rw[h,hU.ob] at hb;simp at hb
section
variable {M:Memo}
theorem mV (m:eu M){bo uo:Nat}{LV:AV}{H:Heap}{u:UN}(hU:UI uo H u)(hb:af H bo=some (.cells [.ptr uo 0,LV]))(hv:u.vars + u.eqs.length + u.ms.length + u.ws.length + u.sp.length + u.size + 1 < 1000000) :
  ∃ H1,orc CC M 35 [.ptr bo 0] H=some (.ret (.int .i64 (u.vars:Int)) H1 (aa H))∧UI uo H1 { u with vars:=u.vars + 1 }∧Gr uo H u.ns H1 u.ns∧aa H1=aa H :=
 ⟨_,us m (by omega) hb hU.ob,hU.setv (v:=u.vars + 1) (s:=u.size) (by omega),Gr.put _,ak _ _ _⟩
theorem zp (op:List Nat)(v:Int)(xs:List AV)(lin:Lin){on:AV}(h:iy on):ao CC 124 [(0,.str op),(1,.int .i64 v),(2,.sl 3 xs lin),(3,on)]=some (.agg [.str op,.int .i64 v,.sl 3 xs lin,on]):=by
 rcases h with rfl | rfl <;> kernel_rfl
theorem zC (op:List Nat)(v:Int)(xs:List AV)(lin:Lin){on:AV}(h:iy on):aP CC 62 1 [(0,.agg [.str op,.int .i64 v,.sl 3 xs lin,on])]=some (.sl 4 [.agg [.str op,.int .i64 v,.sl 3 xs lin,on]] .lit):=by
 rcases h with rfl | rfl <;> kernel_rfl
theorem vU (v:Int):ao CC 97 [(2,.int .i64 v)]=some (.agg [.bool false,.int .i64 0,.int .i64 v]):=by kernel_rfl
theorem UI.addE {uo:Nat}{H:Heap}{u:UN}(h:UI uo H u)(f:Nat)(q:EqF)(hq:q.ok (aa H))(hv:u.vars + u.eqs.length + u.ms.length + u.ws.length + u.sp.length + u.size + 1 < 1000000) :
  ∃ V' H2,(∀ e lin,aq CC f 62 u.E (.sl 4 [q.av] lin) ⟨H,e⟩=some (V',⟨H2,e⟩))∧af H2 uo=some (.cells u.c)∧aa H≤aa H2∧(∀ r,r < aa H→r ∉ nmA u.E→af H2 r=af H r) ∧
    (∀ b,uo≤b→ay 1 (.ptr uo 5) V' ⟨H2,b⟩=some ⟨ai H2 uo (.cells ({ u with eqs:=u.eqs ++ [q],E:=V' }:UN).c),uo⟩) ∧
    UI uo (ai H2 uo (.cells ({ u with eqs:=u.eqs ++ [q],E:=V' }:UN).c)) { u with eqs:=u.eqs ++ [q],E:=V' }∧Gr uo H u.ns (ai H2 uo (.cells ({ u with eqs:=u.eqs ++ [q],E:=V' }:UN).c)) ({ u with eqs:=u.eqs ++ [q],E:=V' }:UN).ns:=by
 obtain ⟨V',H2,a1,a2,a3,a4,a5⟩:=lH sl83 f h.e (Hw q hq.1) (HT hq) (by rw[List.length_map];omega) h.uo
 have hu2:af H2 uo=some (.cells u.c):=by rw[a4 uo h.uo (fun hm=>by have:=(h.e.lt _ hm).1;omega),h.ob]
 have hE' : ({ u with eqs:=u.eqs ++ [q],E:=V' }:UN).eqs.map EqF.av=u.eqs.map EqF.av ++ [q.av]:=by simp
 have st:=fun b hb=>rH (b:=b) (off:=5) a2 (by simp) hu2 (by rw[aj];simp) hb
 have hl:aa H≤aa (ai H2 uo (.cells ({ u with eqs:=u.eqs ++ [q],E:=V' }:UN).c)):=by rw[ak];exact a3
 have hf:∀ r,r < aa H→uo < r→r ∉ nmA u.E→af (ai H2 uo (.cells ({ u with eqs:=u.eqs ++ [q],E:=V' }:UN).c)) r=af H r:=fun r hr hu hn=>by rw[ae (by omega),a4 r hr hn]
 have djm:∀ r ∈ nmA u.Ms,r ∉ nmA u.E:=fun r hr hn=>(h.dj.1 r hn).1 hr
 have djw:∀ r ∈ nmA u.W,r ∉ nmA u.E:=fun r hr hn=>(h.dj.1 r hn).2.1 hr
 have djs:∀ r ∈ nmA u.S,r ∉ nmA u.E:=fun r hr hn=>(h.dj.1 r hn).2.2 hr
 have hnew:∀ r ∈ nmA V',∀ V:AV,(∀ r ∈ nmA V,r ∉ nmA u.E∧r < aa H)→r ∉ nmA V:=fun r hr V hV hn=>by
  rcases a5 r hr with h1 | h1
  ·exact (hV r hn).1 h1
  ·have:=(hV r hn).2;omega
 refine ⟨V',H2,a1,hu2,a3,a4,fun b hb=>st b hb,⟨aK hu2 _,?_,?_,h.m.mono hl (fun r hr hlt=>hf r hlt (h.m.lt r hr).1 (djm r hr)),h.w.mono hl (fun r hr hlt=>hf r hlt (h.w.lt r hr).1 (djw r hr)),h.s.mono hl (fun r hr hlt=>hf r hlt (h.s.lt r hr).1 (djs r hr)),⟨fun r hr=>⟨?_,?_,?_⟩,h.dj.2.1,h.dj.2.2⟩,?_⟩,⟨hl,fun r hr hne hn=>?_,fun r hr=>?_⟩⟩
 ·rw[hE'];exact a2.mono (by rw[ak];exact Nat.le_refl _) (fun r hr _=>ae (by have:=(a2.lt r hr).1;omega) _)
 ·intro r hr
  rcases List.mem_append.1 hr with hr | hr
  ·exact h.el r hr
  ·simp only[List.mem_singleton] at hr;subst hr;exact hq.1
 ·exact hnew r hr u.Ms (fun r hr=>⟨djm r hr,(h.m.lt r hr).2⟩)
 ·exact hnew r hr u.W (fun r hr=>⟨djw r hr,(h.w.lt r hr).2⟩)
 ·exact hnew r hr u.S (fun r hr=>⟨djs r hr,(h.s.lt r hr).2⟩)
 ·simp only[List.length_append,List.length_singleton];omega
 ·rw[ae hne,a4 r hr (fun hm=>hn (bM.2 (.inl hm)))]
 ·rcases bM.1 hr with h1 | h1
  ·exact (a5 r h1).imp (fun h2=>bM.2 (.inl h2)) id
  ·exact .inl (bM.2 (.inr h1))
theorem yX (a b c d e f g h i j:AV):af [a,b,c,d,e,f,g,h,i,j] 5=some f:=rfl
theorem BS (m:eu M){bo uo:Nat}{LV:AV}{H:Heap}{u:UN}(hU:UI uo H u)(hb:af H bo=some (.cells [.ptr uo 0,LV]))(hbn:bo ∉ u.ns)(hv:u.vars + u.eqs.length + u.ms.length + u.ws.length + u.sp.length + u.size + 2 < 1000000)
  (op:List Nat) (A:List AtF) {lin:Lin} {on:AV} (hon:iy on) (hlin:lin.low (aa H)=true) :
  ∃ H' E',orc CC M 81 [.ptr bo 0,.str op,on,.sl 3 (A.map AtF.av) lin] H=some (.ret (AtF.av ⟨false,0,u.vars⟩) H' uo) ∧
    UI uo H' { u with vars:=u.vars + 1,eqs:=u.eqs ++ [⟨op,u.vars,A,lin,on⟩],E:=E' }∧Gr uo H u.ns H' ({ u with vars:=u.vars + 1,eqs:=u.eqs ++ [⟨op,u.vars,A,lin,on⟩],E:=E' }:UN).ns:=by
 have hbu:=BR hU hb;have hlb:bo < aa H:=by rw[aj];exact bm hb
 obtain ⟨H1,hP,U1,G1,hl1⟩:=mV m (H:=H ++ [.cells [.bool false,.int .i64 0,.int .i64 0]]) hU.ap (ar hb _) (by omega)
 have hl0:aa (H ++ [AObj.cells [.bool false,.int .i64 0,.int .i64 0]])=aa H + 1:=by rw[az];rfl
 rw[hl0] at hl1;have hb1:af H1 bo=some (.cells [.ptr uo 0,LV]):=by rw[G1.fr bo (by omega) hbu hbn];exact ar hb _
 have hz1:af H1 (aa H)=some (.cells [.bool false,.int .i64 0,.int .i64 0]):=by
  rw[G1.fr (aa H) (by omega) (by have:=hU.uo;omega) (fun hm=>by have:=(hU.lt _ hm).2;omega),au];rfl
 obtain ⟨V',H2,ha,hu2,hl2,hf2,hst,U3,G3⟩:=U1.addE 81 ⟨op,u.vars,A,lin,on⟩ ⟨hon,Lin.low_mono (by omega) _ hlin⟩ (by show u.vars + 1 + u.eqs.length + u.ms.length + u.ws.length + u.sp.length + u.size + 1 < 1000000;omega)
 have hb2:af H2 bo=some (.cells [.ptr uo 0,LV]):=by rw[hf2 bo (by omega) (fun hm=>hbn (bM.2 (.inl hm))),hb1]
 have hst':=hst (min (aa H) (aa H + 1)) (by have:=hU.uo;omega)
 have hmm:min (aa H) (aa H + 1)=aa H:=Nat.min_eq_left (by omega)
 rw[hmm] at hst';have hz3:=G3.fr (aa H) (by omega) (by have:=hU.uo;omega) (fun hm=>by have:=(hU.lt _ hm).2;omega)
 rw[hz1] at hz3;have hE:=U1.ob;generalize hH3:ai H2 uo (.cells ({ ({ u with vars:=u.vars + 1 }:UN) with eqs:=({ u with vars:=u.vars + 1 }:UN).eqs ++ [⟨op,u.vars,A,lin,on⟩],E:=V' }:UN).c)=H3 at hst' U3 G3 hz3
 have hl3:aa H3=aa H2:=by rw[← hH3,ak]
 refine ⟨ai H3 (aa H) (.cells [.bool false,.int .i64 0,.int .i64 (u.vars:Int)]),V',aH (z:=z81) (m _ _ rfl) (by kernel_rfl) rfl ?_,U3.to (by rw[ak];exact Nat.le_refl _) (fun q hq hn=>ae ?_ _),?_⟩
 ·have e0:(envOf [.ptr bo 0,.str op,on,.sl 3 (A.map AtF.av) lin] 0 env0).a.a.a=.ptr bo 0:=rfl;have e1:(envOf [.ptr bo 0,.str op,on,.sl 3 (A.map AtF.av) lin] 0 env0).a.a.b=.str op:=rfl;have e2:(envOf [.ptr bo 0,.str op,on,.sl 3 (A.map AtF.av) lin] 0 env0).a.a.c=on:=rfl;have e3:(envOf [.ptr bo 0,.str op,on,.sl 3 (A.map AtF.av) lin] 0 env0).a.a.d=.sl 3 (A.map AtF.av) lin:=rfl;generalize envOf [.ptr bo 0,.str op,on,.sl 3 (A.map AtF.av) lin] 0 env0=R at e0 e1 e2 e3;have hsm:AV.same (.ptr uo 0) (.ptr uo 0)=true:=by simp[AV.same]
  have h142:=fun v=>zp op v (A.map AtF.av) lin hon
  have h83:=fun v=>zC op v (A.map AtF.av) lin hon
  have hgc:=fun hp=>dU (keep:=CC.keep 81) (base:=aa H) (e:=uo) (v:=AtF.av ⟨false,0,u.vars⟩) (hp:=hp) (by have:=hU.uo;omega)
  have hzs:=fun c=>aK hz3 c
  simp only[z81,MG,Ks,KR,LP,SIM,ST0,ST1,e0,e1,e2,e3,hP,hl0,hmm,hb1,hE,hb2,yX,h142,h83,ha,hsm,hst',vU,hz3,hzs,hgc,Nat.reduceAdd,Nat.reduceLeDiff]
 ·rintro rfl
  rcases hn with h1 | h1
  ·have:=hU.uo;omega
  ·rcases G3.ns _ h1 with h2 | h2
   ·have:=(hU.lt _ h2).2;omega
   ·omega
 ·have G4:Gr uo H u.ns H3 _:=(Gr.ap.trans G1).trans G3;refine ⟨by rw[ak];exact G4.len,fun q hq hu hn=>?_,G4.ns⟩
  rw[ae (by omega),G4.fr q hq hu hn]
end
def Sv (T k:Nat):Prop:=∃ e i z,bK CC T=some e∧CC.P.info? e=some i∧cn CC e=some z∧i.size=k∧1 < k∧(0 < i.bytes∧i.bytes≤65536)∧z.cells.length=k∧∀ f,CC.mutT f T=true
theorem FR {T k:Nat}(h:J5 T=some (k,true,k))(hk:1 < k)(hm:∀ f,CC.mutT f T=true):Sv T k:=by
 unfold J5 at h
 split at h
 ·rename_i e he
  split at h
  ·rename_i i z hi hz;simp only[SJ,PJ,decide_eq_true_eq] at h;exact ⟨e,i,z,he,hi,hz,h.1,hk,h.2.1,h.2.2,hm⟩
  ·cases h
 ·cases h
theorem rs84:Sv 63 6:=FR (by kernel_rfl) (by decide) (fun f=>rfl)
theorem rs86:Sv 65 4:=FR (by kernel_rfl) (by decide) (fun f=>rfl)
theorem HI {k:Nat}{cs:List AV}(hk:1 < k)(hl:cs.length=k):bQ k 1 cs=[.agg cs]:=by
 simp only[bQ];rw[if_neg (by omega),← hl,List.take_length]
theorem Gk {T k:Nat}(hT:Sv T k)(f:Nat){uo b:Nat}{H:Heap}{V:AV}{cells cs:List AV}(h:RsI uo H k V cells)(hb:af H b=some (.cells cs))(hc:cs.length=k)(ho:cs.all AV.one=true)(hw:aM (aa H) cs=true)(hl:cells.length + k≤2 ^ 20)(hu:uo < aa H)(hbn:b ∉ nmA V) :
  ∃ V' H',(∀ e,aq CC f T V (.rsl b 0 1 1 k) ⟨H,e⟩=some (V',⟨H',e⟩))∧RsI uo H' k V' (cells ++ cs)∧(∃ n,V'=.rsl (aa H) 0 n n k∧(cells ++ cs).length=n * k)∧aa H'=aa H + 1∧(∀ q,q < aa H→q ∉ nmA V→af H' q=af H q)∧(∀ q ∈ nmA V',q ∈ nmA V∨aa H≤q):=by
 obtain ⟨el,i,z,h1,h2,h3,h4,h5,h6,h7,h8⟩:=hT;rw[aD] at hb
 have hel:aY k (.rsl b 0 1 1 k) H=some [.agg cs]:=by
  simp only[aY,hb];rw[if_pos ⟨by omega,trivial,ho⟩,List.drop_zero,HI h5 hc]
 have hok:[AV.agg cs].all (bg k)=true:=by
  simp[bg,AV.cells,hc];exact List.all_eq_true.1 ho
 have hcs:aM H.length [.agg cs]=true:=by rw[← aj];simp[aM,AV.low,hw]
 rcases h with ⟨rfl,rfl⟩ | ⟨id,n,rfl,hn0,hg,hln,hone,hlow,hui⟩
 ·refine ⟨.rsl (aa H) 0 1 1 k,H ++ [.cells cs],fun e=>?_,.inr ⟨aa H,1,rfl,by omega,by rw[au];rfl,by simpa using hc,ho,cd (by rw[az];omega) _ hw,hu⟩,⟨1,rfl,by simpa using hc⟩,by rw[az];rfl,fun q hq _=>?_,fun q hq=>?_⟩
  ·have hne:¬ (i.size=0∨i.bytes=0∨z.cells.length ≠ i.size∨[AV.agg cs].all (bg i.size)=false∨2 ^ 16 < i.bytes):=by
    rw[h4,hok,h7];simp;omega
   have hel0:aY k .nils H=some []:=rfl;simp only[aq,h1,h2,h3,h4,hel,hel0];rw[h4] at hne;rw[if_neg hne];have hlow0:aM H.length []=true:=rfl;simp[h8,aj,hlow0,hcs,am,AV.cells]
  ·rw[aj] at hq;rw[aD,aD,List.getElem?_append_left hq]
  ·simp only[nmA,List.mem_singleton] at hq;exact .inr (by omega)
 ·have hid:id < aa H:=by rw[aj];exact bm hg
  rw[aD] at hg;have hch:=eE (sz:=k) (n:=n) (cs:=cells) (by omega) (by omega) hone
  have hft:am (bQ k n cells)=cells:=by rw[hch.1,← hln,List.take_length]
  have hel0:aY k (.rsl id 0 n n k) H=some (bQ k n cells):=by
   simp only[aY,hg];rw[if_pos ⟨by omega,trivial,hone⟩,List.drop_zero]
  refine ⟨.rsl (aa H) 0 (n + 1) (n + 1) k,ai H id .gone ++ [.cells (cells ++ cs)],fun e=>?_,.inr ⟨aa H,n + 1,rfl,by omega,?_,?_,?_,?_,hu⟩,⟨n + 1,rfl,?_⟩,by rw[az,ak];rfl,fun q hq hn=>?_,fun q hq=>?_⟩
  ·have hne:¬ (i.size=0∨i.bytes=0∨z.cells.length ≠ i.size∨[AV.agg cs].all (bg i.size)=false∨2 ^ 16 < i.bytes):=by
    rw[h4,hok,h7];simp;omega
   have hl2:(bQ k n cells).length + 1≤2 ^ 24:=by
    rw[hch.2];have:n * 1≤n * k:=Nat.mul_le_mul_left _ (by omega)
    omega
   have hlc:aM H.length (bQ k n cells)=true:=by
    have:∀ (m:Nat) (c:List AV),aM H.length c=true→m * k≤c.length→aM H.length (bQ k m c)=true:=by
     intro m
     induction m with
     | zero=>intro c _ _;rfl
     | succ m ih =>
       intro c hcl hm;simp only[bQ];rw[if_neg (by omega)]
       have hsp:c=c.take k ++ c.drop k:=(List.take_append_drop k c).symm
       have hap:∀ a b:List AV,aM H.length (a ++ b)=true→aM H.length a=true∧aM H.length b=true:=by
        intro a
        induction a with
        | nil=>intro b hb;exact ⟨rfl,hb⟩
        | cons x a iha =>
          intro b hb;simp only[List.cons_append,aM,Bool.and_eq_true] at hb ⊢;exact ⟨⟨hb.1,(iha b hb.2).1⟩,(iha b hb.2).2⟩
       rw[hsp] at hcl;have h9:=hap _ _ hcl;simp only[aM,AV.low,h9.1,Bool.true_and];exact ih _ h9.2 (by rw[List.length_drop,Nat.add_one_mul] at *;omega)
    exact this n cells (by rw[← aj];exact hlow) (by omega)
   simp only[aq,h1,h2,h3,h4,hel,hel0];rw[h4] at hne;rw[if_neg hne];have:am [.agg cs]=cs:=by simp[am,AV.cells]
   simp[hl2,hlc,hcs,dm,hft,this,aj,aN]
  ·rw[← ak H id .gone,au];rfl
  ·rw[List.length_append,hln,hc,Nat.add_one_mul]
  ·rw[List.all_append,hone,ho];rfl
  ·have hap:∀ (L:Nat) (a b:List AV),aM L a=true→aM L b=true→aM L (a ++ b)=true:=by
    intro L a
    induction a with
    | nil=>intro b _ hb;exact hb
    | cons x a iha =>
      intro b ha hb;simp only[List.cons_append,aM,Bool.and_eq_true] at ha ⊢;exact ⟨ha.1,iha b ha.2 hb⟩
   have hle:aa H≤aa (ai H id .gone ++ [AObj.cells (cells ++ cs)]):=by rw[az,ak];omega
   exact hap _ _ _ (cd hle _ hlow) (cd hle _ hw)
  ·rw[List.length_append,hln,hc,Nat.add_one_mul]
  ·rw[aj] at hq;simp only[nmA,List.mem_singleton] at hn;rw[aD,aD,aN,List.getElem?_append_left (by simpa using hq),List.getElem?_set_ne (Ne.symm hn)]
  ·simp only[nmA,List.mem_singleton] at hq;exact .inr (by omega)
theorem Fh {uo off b k r n:Nat}{H:Heap}{cs:List AV}(hr:r < aa H)(hu:uo < r)(hcs:af H uo=some (.cells cs))(ho:off + 1≤aa cs)(hb:uo≤b) :
  ay 1 (.ptr uo off) (.rsl r 0 n n k) ⟨H,b⟩=some ⟨ai H uo (.cells (cm cs off [.rsl r 0 n n k])),uo⟩:=by
 have low:∀ L,AV.low L (.rsl r 0 n n k)=decide (r < L):=fun L=>by simp[AV.low]
 have e1:eV (aa H) (.rsl r 0 n n k)=true:=by rw[cj,low];simpa using hr
 have e2:eV (uo + 1) (.rsl r 0 n n k)=false:=by rw[cj,low];simp;omega
 have e3:Nat.ble (Nat.add off 1) (aa cs)=true:=by rw[dE];simpa using ho
 have e4:min b uo=uo:=Nat.min_eq_right hb;have e5:Nat.beq (aa [AV.rsl r 0 n n k]) 1=true:=rfl;have e6:List.all [AV.rsl r 0 n n k] AV.one=true:=rfl;have e7:AV.cells (.rsl r 0 n n k)=[.rsl r 0 n n k]:=rfl;simp only[ay,hcs,eF,e1,e3,e5,e6,e7,Bool.and_self,cond_true,i8,e2,cond_false,e4]
theorem UI.addM {uo b:Nat}{H:Heap}{u:UN}(h:UI uo H u)(f:Nat){cs:List AV}(hb:af H b=some (.cells cs))(hc:cs.length=6)(ho:cs.all AV.one=true)(hw:aM (aa H) cs=true)(hbn:b ∉ nmA u.Ms)(hv:u.vars + u.eqs.length + u.ms.length + u.ws.length + u.sp.length + u.size + 6 < 1000000) :
  ∃ n H2,(∀ e,aq CC f 63 u.Ms (.rsl b 0 1 1 6) ⟨H,e⟩=some (.rsl (aa H) 0 n n 6,⟨H2,e⟩))∧(u.ms ++ cs).length=n * 6∧af H2 uo=some (.cells u.c)∧aa H2=aa H + 1∧(∀ r,r < aa H→r ∉ nmA u.Ms→af H2 r=af H r) ∧
    (∀ b,uo≤b→ay 1 (.ptr uo 6) (.rsl (aa H) 0 n n 6) ⟨H2,b⟩=some ⟨ai H2 uo (.cells ({ u with ms:=u.ms ++ cs,Ms:=.rsl (aa H) 0 n n 6 }:UN).c),uo⟩) ∧
    UI uo (ai H2 uo (.cells ({ u with ms:=u.ms ++ cs,Ms:=.rsl (aa H) 0 n n 6 }:UN).c)) { u with ms:=u.ms ++ cs,Ms:=.rsl (aa H) 0 n n 6 } ∧
    Gr uo H u.ns (ai H2 uo (.cells ({ u with ms:=u.ms ++ cs,Ms:=.rsl (aa H) 0 n n 6 }:UN).c)) ({ u with ms:=u.ms ++ cs,Ms:=.rsl (aa H) 0 n n 6 }:UN).ns:=by
 obtain ⟨V',H2,a1,a2,⟨n,rfl,hn⟩,a3,a4,a5⟩:=Gk rs84 f h.m hb hc ho hw (by have:=h.vl;omega) h.uo hbn
 have hu2:af H2 uo=some (.cells u.c):=by rw[a4 uo h.uo (fun hm=>by have:=(h.m.lt _ hm).1;omega),h.ob]
 have st:=fun b hb=>Fh (k:=6) (r:=aa H) (n:=n) (b:=b) (off:=6) (H:=H2) (by omega) h.uo hu2 (by rw[aj];simp) hb
 have hl:aa H≤aa (ai H2 uo (.cells ({ u with ms:=u.ms ++ cs,Ms:=.rsl (aa H) 0 n n 6 }:UN).c)):=by rw[ak];omega
 have hf:∀ r,r < aa H→uo < r→r ∉ nmA u.Ms→af (ai H2 uo (.cells ({ u with ms:=u.ms ++ cs,Ms:=.rsl (aa H) 0 n n 6 }:UN).c)) r=af H r:=fun r hr hu hn=>by rw[ae (by omega),a4 r hr hn]
 have hlt:=h.lt;have nE:∀ r ∈ nmA u.E,r ∉ nmA u.Ms:=fun r hr=>(h.dj.1 r hr).1
 have nW:∀ r ∈ nmA u.W,r ∉ nmA u.Ms:=fun r hr hn=>(h.dj.2.1 r hn).1 hr
 have nS:∀ r ∈ nmA u.S,r ∉ nmA u.Ms:=fun r hr hn=>(h.dj.2.1 r hn).2 hr
 refine ⟨n,H2,a1,hn,hu2,a3,a4,fun b hb=>st b hb,⟨aK hu2 _,h.e.mono hl (fun r hr hlt=>hf r hlt (h.e.lt r hr).1 (nE r hr)),h.el,?_,h.w.mono hl (fun r hr hlt=>hf r hlt (h.w.lt r hr).1 (nW r hr)),h.s.mono hl (fun r hr hlt=>hf r hlt (h.s.lt r hr).1 (nS r hr)),⟨fun r hr=>⟨?_,(h.dj.1 r hr).2⟩,fun r hr=>⟨fun hn=>?_,fun hn=>?_⟩,h.dj.2.2⟩,?_⟩,⟨hl,fun r hr hne hn=>?_,fun r hr=>?_⟩⟩
 ·exact a2.mono (by rw[ak];exact Nat.le_refl _) (fun r hr _=>ae (by have:=(a2.lt r hr).1;omega) _)
 ·simp only[nmA,List.mem_singleton];have:=(h.e.lt r hr).2;omega
 ·simp only[nmA,List.mem_singleton] at hr;have:=(h.w.lt r hn).2;omega
 ·simp only[nmA,List.mem_singleton] at hr;have:=(h.s.lt r hn).2;omega
 ·simp only[List.length_append,hc];omega
 ·rw[ae hne,a4 r hr (fun hm=>hn (bM.2 (.inr (.inl hm))))]
 ·rcases bM.1 hr with h1 | h1 | h1
  ·exact .inl (bM.2 (.inl h1))
  ·simp only[nmA,List.mem_singleton] at h1;exact .inr (by omega)
  ·exact .inl (bM.2 (.inr (.inr h1)))
theorem yI (a b c d e f g h i j:AV):af [a,b,c,d,e,f,g,h,i,j] 6=some g:=rfl
theorem RT (v i:Int){on:AV}(h:iy on):ao CC 169 [(0,.int .i64 v),(1,.int .i64 i),(3,on)]=some (.agg [.int .i64 v,.int .i64 i,.bool false,.int .i64 0,.int .i64 0,on]):=by
 rcases h with rfl | rfl <;> kernel_rfl
theorem SH (v i:Int){on:AV}(h:iy on)(L:Nat):o9 CC 63 1 [(0,.agg [.int .i64 v,.int .i64 i,.bool false,.int .i64 0,.int .i64 0,on])] L=some (.cells [.int .i64 v,.int .i64 i,.bool false,.int .i64 0,.int .i64 0,on],fun r=>.rsl r 0 1 1 6):=by
 rcases h with rfl | rfl <;> kernel_rfl
theorem cc84:∃ e,CC.P.underlying 63=some (.slice e)∧e=169:=⟨_,by kernel_rfl,rfl⟩
theorem QP (r n:Nat):bF CC 63 (.rsl r 0 n n 6)=some (.int .i64 (n:Int)):=by
 obtain ⟨e,hu,_⟩:=cc84;rw[eo];simp[eY,hu]
section
variable {M:Memo}
abbrev mO (v:Nat)(i:Int)(on:AV):AObj:=.cells [.int .i64 (v:Int),.int .i64 i,.bool false,.int .i64 0,.int .i64 0,on]
theorem zb (m:eu M){bo uo:Nat}{LV:AV}{H:Heap}{u:UN}(hU:UI uo H u)(hb:af H bo=some (.cells [.ptr uo 0,LV]))(hbn:bo ∉ u.ns)(hv:u.vars + u.eqs.length + u.ms.length + u.ws.length + u.sp.length + u.size + 7 < 1000000)
  (init:Int) {on:AV} (hon:iy on) :
  ∃ (H' : Heap) (k id:Nat),orc CC M 89 [.ptr bo 0,.int .i64 init,on] H=some (.ret (.tuple [.int .i64 (k:Int),AtF.av ⟨false,0,u.vars⟩]) H' uo)∧u.ms.length=k * 6 ∧
    UI uo H' { u with vars:=u.vars + 1,ms:=u.ms ++ [.int .i64 (u.vars:Int),.int .i64 init,.bool false,.int .i64 0,.int .i64 0,on],Ms:=.rsl id 0 (k + 1) (k + 1) 6 } ∧
    Gr uo H u.ns H' ({ u with vars:=u.vars + 1,ms:=u.ms ++ [.int .i64 (u.vars:Int),.int .i64 init,.bool false,.int .i64 0,.int .i64 0,on],Ms:=.rsl id 0 (k + 1) (k + 1) 6 }:UN).ns:=by
 have hbu:=BR hU hb;have hlb:bo < aa H:=by rw[aj];exact bm hb
 obtain ⟨H1,hP,U1,G1,hl1⟩:=mV m (H:=H ++ [.cells [.bool false,.int .i64 0,.int .i64 0]]) hU.ap (ar hb _) (by omega)
 have hl0:aa (H ++ [AObj.cells [.bool false,.int .i64 0,.int .i64 0]])=aa H + 1:=by rw[az];rfl
 rw[hl0] at hl1;have hb1:af H1 bo=some (.cells [.ptr uo 0,LV]):=by rw[G1.fr bo (by omega) hbu hbn];exact ar hb _
 have hz1:af H1 (aa H)=some (.cells [.bool false,.int .i64 0,.int .i64 0]):=by
  rw[G1.fr (aa H) (by omega) (by have:=hU.uo;omega) (fun hm=>by have:=(hU.lt _ hm).2;omega),au];rfl
 have hone:[AV.int .i64 (u.vars:Int),.int .i64 init,.bool false,.int .i64 0,.int .i64 0,on].all AV.one=true:=by rcases hon with rfl | rfl <;> rfl
 have hlow:∀ L,aM L [AV.int .i64 (u.vars:Int),.int .i64 init,.bool false,.int .i64 0,.int .i64 0,on]=true:=fun L=>by rcases hon with rfl | rfl <;> rfl
 have hlO:aa (H1 ++ [mO u.vars init on])=aa H + 2:=by rw[az,hl1];rfl
 obtain ⟨n,H2,ha,hnn,hu2,hl2,hf2,hst,U3,G3⟩:=(U1.ap (K:=[mO u.vars init on])).addM 89 (b:=aa H1) (cs:=[.int .i64 (u.vars:Int),.int .i64 init,.bool false,.int .i64 0,.int .i64 0,on]) (by rw[au];rfl) rfl hone (hlow _) (fun hm=>by have:=(U1.m.lt _ hm).2;omega) (by show u.vars + 1 + u.eqs.length + u.ms.length + u.ws.length + u.sp.length + u.size + 6 < 1000000;omega)
 rw[hlO] at hl2 hst U3 G3 ha;rw[hl1] at ha;obtain ⟨k,rfl⟩ : ∃ k,n=k + 1:=⟨n - 1,by simp at hnn;omega⟩
 have hk:u.ms.length=k * 6:=by
  simp only[List.length_append,List.length_cons,List.length_nil] at hnn;have h2:({ u with vars:=u.vars + 1 }:UN).ms.length=u.ms.length:=rfl
  omega
 have hbO:af (H1 ++ [mO u.vars init on]) bo=some (.cells [.ptr uo 0,LV]):=ar hb1 _;have hb2:af H2 bo=some (.cells [.ptr uo 0,LV]):=by rw[hf2 bo (by omega) (fun hm=>hbn (bM.2 (.inr (.inl hm)))),hbO]
 have hst':=hst (min (aa H) (aa H + 1)) (by have:=hU.uo;omega)
 have hmm:min (aa H) (aa H + 1)=aa H:=Nat.min_eq_left (by omega)
 rw[hmm] at hst';have hz3:=G3.fr (aa H) (by omega) (by have:=hU.uo;omega) (fun hm=>by have:=(hU.lt _ hm).2;omega)
 rw[ar hz1] at hz3;have hE:=U1.ob;have hbE:=U3.ob;have hb3:af (ai H2 uo (.cells ({ ({ u with vars:=u.vars + 1 }:UN) with ms:=({ u with vars:=u.vars + 1 }:UN).ms ++ [.int .i64 (u.vars:Int),.int .i64 init,.bool false,.int .i64 0,.int .i64 0,on],Ms:=.rsl (aa H + 2) 0 (k + 1) (k + 1) 6 }:UN).c)) bo=some (.cells [.ptr uo 0,LV]):=by rw[ae hbu,hb2]
 generalize hH3:ai H2 uo (.cells ({ ({ u with vars:=u.vars + 1 }:UN) with ms:=({ u with vars:=u.vars + 1 }:UN).ms ++ [.int .i64 (u.vars:Int),.int .i64 init,.bool false,.int .i64 0,.int .i64 0,on],Ms:=.rsl (aa H + 2) 0 (k + 1) (k + 1) 6 }:UN).c)=H3 at hst' U3 G3 hz3 hbE hb3
 have hl3:aa H3=aa H + 3:=by rw[← hH3,ak,hl2]
 refine ⟨ai H3 (aa H) (.cells [.bool false,.int .i64 0,.int .i64 (u.vars:Int)]),k,aa H + 2,aH (z:=z89) (m _ _ rfl) (by kernel_rfl) rfl ?_,hk,U3.to (by rw[ak];exact Nat.le_refl _) (fun q hq hn=>ae ?_ _),?_⟩
 ·have e0:(envOf [.ptr bo 0,.int .i64 init,on] 0 env0).a.a.a=.ptr bo 0:=rfl;have e1:(envOf [.ptr bo 0,.int .i64 init,on] 0 env0).a.a.b=.int .i64 init:=rfl;have e2:(envOf [.ptr bo 0,.int .i64 init,on] 0 env0).a.a.c=on:=rfl;generalize envOf [.ptr bo 0,.int .i64 init,on] 0 env0=R at e0 e1 e2;have hsm:AV.same (.ptr uo 0) (.ptr uo 0)=true:=by simp[AV.same]
  have h146:=fun v=>RT v init hon
  have h84:=fun v L=>SH v init hon L
  have hgc:=fun hp=>dU (keep:=CC.keep 89) (base:=aa H) (e:=uo) (v:=.tuple [.int .i64 (k:Int),AtF.av ⟨false,0,u.vars⟩]) (hp:=hp) (by have:=hU.uo;omega)
  have hzs:=fun c=>aK hz3 c
  have hs1:gG ((k + 1:Nat):Int) 1=(k:Int):=by
   show gG (.ofNat (k + 1)) (.ofNat 1)=_;have h1:Nat.ble 1 (k + 1)=true:=by rw[dE];simp
   have h2:Nat.ble (k + 1) natMax=true:=by rw[dE,decide_eq_true_eq];unfold natMax;omega
   simp only[gG,h1,h2,Bool.and_self,cond_true];rfl
  have hgone:ai (H1 ++ [AObj.gone]) (aa H + 1) (mO u.vars init on)=H1 ++ [mO u.vars init on]:=by rw[← hl1,dp];rfl
  have hb1':=fun K=>ar hb1 K
  have hE':=fun K=>ar hE K
  simp only[z89,Ki,MV,Lq,Kj,SIM,ST0,ST1,dA,eT,hl1,e0,e1,e2,hP,hl0,hmm,hb1,hb1',hE,hE',hb2,hgone,yI,h146,h84,ha,hsm,hst',vU,hz3,hzs,hb3,hbE,QP,hs1,hgc,Nat.reduceAdd,Nat.reduceLeDiff]
 ·rintro rfl
  rcases hn with h1 | h1
  ·have:=hU.uo;omega
  ·rcases G3.ns _ h1 with h2 | h2
   ·have:=(hU.lt _ h2).2;omega
   ·omega
 ·have G4:Gr uo H u.ns H3 _:=((Gr.ap.trans G1).trans Gr.ap).trans G3;refine ⟨by rw[ak];exact G4.len,fun q hq hu hn=>?_,G4.ns⟩
  rw[ae (by omega),G4.fr q hq hu hn]
end
theorem cc33:∃ e,CC.P.underlying 24=some (.slice e)∧e=46:=⟨_,by kernel_rfl,rfl⟩
theorem Nk (L:List NdR)(q:Lin):bF CC 24 (.sl 6 (L.map NdR.v) q)=some (.int .i64 (L.length:Int)):=by
 obtain ⟨e,hu,_⟩:=cc33;rw[dB hu,List.length_map]
theorem Ps {L:List NdR}{i:Nat}{a:NdR}(q:Lin)(h:L[i]?=some a):bw 6 (.sl 6 (L.map NdR.v) q) (.int .i64 (i:Int))=some (.iptr (gT a.s a.p a.ins a.outs a.vars (pg a.eqs))):=by
 refine da (v:=a.v) ?_;rw[aD,List.getElem?_map,h];rfl
abbrev zN:List AV:=[.str [],.int .i64 0,.nils,.nils,.nils,.nils]
theorem gu (d:NdR):gF d.v=true:=by simp only[en,bJ,noNL_nil,gW,linN_dead,eq_noN,fN,fQ,fJ,cond_true]
theorem ik (d:NdR):(gT d.s d.p d.ins d.outs d.vars (pg d.eqs)).all AV.one=true:=by
 simp only[List.all_cons,List.all_nil,iU,eO,eL,kP,Bool.and_self]
def cD (nm:List Nat):List NdR→Option NdR
 | []=>none
 | d :: l=>cond (strEq d.s nm) (some d) (cD nm l)
def TA (H:Heap)(o:Option NdR)(X:IRes):Prop:=match o with
 | none=>∃ r' G,X=some (.exit 0,r',[],⟨H ++ [.cells zN] ++ G,aa H⟩)∧r'.a.a.e=.ptr (aa H) 0
 | some d=>∃ r' G,X=some (.ret,r',[],⟨H ++ [dk d] ++ G,aa H⟩)∧r'.a.a.e=.ptr (aa H) 0∧r'.a.a.f=.bool true
section
variable {M:Memo}
theorem Af {H:Heap}{nm:List Nat}{L:List NdR}{q:Lin}(hL:L.length≤90000):∀ (d i:Nat),d + i=L.length→∀ (fu:Nat),d < fu→∀ (G:Heap) (r:RG),
  (r.a.a.b=.str nm∧r.a.a.e=.ptr (aa H) 0∧r.a.b.a=.sl 6 (L.map NdR.v) q∧r.a.b.b=.int .i64 (L.length:Int)∧r.a.b.c=.int .i64 (i:Int)) →
  TA H (cD nm (L.drop i)) (aw (qH (orc CC M)) fu r [] ⟨H ++ [.cells zN] ++ G,aa H⟩):=by
 intro d
 induction d with
 | zero =>
   intro i hi fu hfu G r ⟨h1,h4,h8,h9,h10⟩;obtain ⟨fu',rfl⟩ : ∃ f,fu=f + 1:=⟨fu - 1,by omega⟩
   have:i=L.length:=by omega
   subst this;have hc:decide ((L.length:Int) < (L.length:Int))=false:=by simp
   rw[List.drop_length];simp only[aw,qH,xO,SIM,ST0,h9,h10,hc];exact ⟨_,G,rfl,by first | rfl | exact h4⟩
 | succ d ih =>
   intro i hi fu hfu G r ⟨h1,h4,h8,h9,h10⟩;obtain ⟨fu',rfl⟩ : ∃ f,fu=f + 1:=⟨fu - 1,by omega⟩
   have hlt:i < L.length:=by omega
   have hc:decide ((i:Int) < (L.length:Int))=true:=by simp;omega
   have hd:L.drop i=L[i] :: L.drop (i + 1):=List.drop_eq_getElem_cons hlt;have hg:L[i]?=some L[i]:=by simp[hlt]
   generalize L[i]=a at hg hd;rw[hd];have hat:=Ps q hg;have ha:cQ (i:Int) 1=((i + 1:Nat):Int):=bA i 1 (by unfold natMax;omega)
   have hn1:=gu a;have ho1:=ik a
   have hset:∀ K c,ai (H ++ [.cells zN] ++ G ++ K) (aa H) c=H ++ [c] ++ (G ++ K):=fun K c=>by
    rw[List.append_assoc,List.append_assoc,dp];rw[List.append_assoc];rfl
   have hget:∀ K,af (H ++ [.cells zN] ++ G ++ K) (aa H)=some (.cells zN):=fun K=>by
    rw[List.append_assoc,List.append_assoc,au];rfl
   cases hs:strEq a.s nm with
   | true =>
     simp only[cD,hs,cond_true];generalize hHc:H ++ [.cells zN] ++ G=Hc at *;simp only[aw,qH,xO,Bd,BQ,BE,SIM,ST0,ST1,h1,h4,h8,h9,h10,hc,hat,hs,hget,hset,hn1,ho1,DZS,Nat.reduceAdd,Nat.reduceLeDiff];exact ⟨_,_,rfl,by first | rfl | exact h4,rfl⟩
   | false =>
     simp only[cD,hs,cond_false];have key:=ih (i + 1) (by omega) fu' (by omega) (G ++ [dk a])
     rw[← List.append_assoc] at key;generalize hHc:H ++ [.cells zN] ++ G=Hc at *;simp only[aw,qH,xO,Bd,BQ,BE,Lv,SIM,ST0,ST1,h1,h4,h8,h9,h10,hc,hat,hs,ha,hn1,ho1,DZS,Nat.reduceAdd,Nat.reduceLeDiff];exact key _ ⟨by first | rfl | exact h1,by first | rfl | exact h4,by first | rfl | exact h8,by first | rfl | exact h9,rfl⟩
theorem jB (m:eu M){L:List NdR}{q:Lin}(hL:L.length≤90000){nm:List Nat}{d:NdR}(h:cD nm L=some d)(H:Heap):orc CC M 20 [.sl 6 (L.map NdR.v) q,.str nm] H=some (.ret (.tuple [d.v,.bool true]) H (aa H)):=by
 have lp:=Af (M:=M) (H:=H) (nm:=nm) (q:=q) hL L.length 0 rfl 100000 (by omega) []
 rw[List.append_nil,List.drop_zero,h] at lp;refine aH (z:=z20) (m _ _ rfl) (by kernel_rfl) rfl ?_
 have e0:(envOf [.sl 6 (L.map NdR.v) q,.str nm] 0 env0).a.a.a=.sl 6 (L.map NdR.v) q:=rfl;have e1:(envOf [.sl 6 (L.map NdR.v) q,.str nm] 0 env0).a.a.b=.str nm:=rfl;generalize envOf [.sl 6 (L.map NdR.v) q,.str nm] 0 env0=R at e0 e1
 obtain ⟨r0,hr0,hpre⟩ : ∃ r,(r.a.a.b=.str nm∧r.a.a.e=.ptr (aa H) 0∧r.a.b.a=.sl 6 (L.map NdR.v) q∧r.a.b.b=.int .i64 (L.length:Int)∧r.a.b.c=.int .i64 ((0:Nat):Int)) ∧
   z20.sh (orc CC M) R [] ⟨H,aa H⟩=dZ (ac (Jz (orc CC M)) retZ) (dD 0 (aw (qH (orc CC M)) 100000 r [] ⟨H ++ [.cells zN],aa H⟩)):=by
  have hln:=Nk L q;simp only[z20,Mc,JU,SIM,ST0,e0,e1,hln,Nat.reduceAdd,Nat.reduceLeDiff];exact ⟨_,⟨by first | rfl | exact e1,rfl,rfl,rfl,rfl⟩,rfl⟩
 obtain ⟨r',G,h1,h4,h5⟩:=lp r0 hr0;rw[hpre,h1];have hg:af (H ++ [dk d] ++ G) (aa H)=some (dk d):=by rw[List.append_assoc,au];rfl
 have ht:bB (aa H) (H ++ [dk d] ++ G)=H:=by rw[List.append_assoc,cb]
 have hnn:gF (.tuple [d.v,.bool true])=true:=by
  show dK [d.v,.bool true]=true;simp only[bJ,noNL_nil,gu,gH,cond_true]
 have hgc:=iJ (k:=CC.keep 20) (b:=aa H) (v:=.tuple [d.v,.bool true]) (hp:=H ++ [dk d] ++ G) hnn;rw[ht] at hgc;generalize H ++ [dk d] ++ G=Hc at *;simp only[z20,SIM,ST0,h4,h5,hg,hgc,Nat.reduceAdd,Nat.reduceLeDiff]
abbrev uO (u:UN)(s:Nat):AObj:=.cells (PE u.nd u.at_ u.vars u.I u.O u.E u.Ms u.W u.S s)
theorem sQ (a b c d e f g h i j:AV):af [a,b,c,d,e,f,g,h,i,j] 9=some j:=rfl
theorem PT (a b c d e f g h i j v:AV):cm [a,b,c,d,e,f,g,h,i,j] 9 [v]=[a,b,c,d,e,f,g,h,i,v]:=rfl
theorem Rm (a b c d e f g h i j v:AV):ai [a,b,c,d,e,f,g,h,i,j] 9 v=[a,b,c,d,e,f,g,h,i,v]:=rfl
theorem fx (e:Ex)(L:Nat):eW e.v L=some (bH e,(.ptr · 0)):=by
 have h1:e.v.low L=true:=(dq _ (ex_noN e)).2 L;unfold eW
 have h2:(AV.cells e.v).all AV.one=true:=by
  rw[fS];simp only[List.all_cons,List.all_nil,lP,eO,eL,gb,Bool.and_self]
 rw[if_pos ⟨h2,h1⟩,fS]
theorem GS (m:eu M){xo bo uo:Nat}{LV:AV}{u:UN}{s:Nat}(hs:s < 1000000){H:Heap}(hx:af H xo=some (.cells [.ptr bo 0]))(hb:af H bo=some (.cells [.ptr uo 0,LV]))(hu:af H uo=some (uO u s))(e:Ex) :
  orc CC M 48 [e.v,.ptr xo 0] H=some (.ret Abs.undef (ai H uo (uO u (s + 1))) (aa H)):=by
 have hbx:=fx e;refine aH (z:=z48) (m _ _ rfl) (by kernel_rfl) rfl ?_
 have e0:(envOf [e.v,.ptr xo 0] 0 env0).a.a.a=e.v:=rfl;have e1:(envOf [e.v,.ptr xo 0] 0 env0).a.a.b=.ptr xo 0:=rfl;generalize envOf [e.v,.ptr xo 0] 0 env0=R at e0 e1;have ha:cQ (s:Int) 1=((s + 1:Nat):Int):=bA s 1 (by unfold natMax;omega)
 have hset:∀ c K,ai (H ++ K) uo c=ai H uo c ++ K:=fun c K=>bR hu K c
 have ht:∀ c K,bB (aa H) (ai H uo c ++ K)=ai H uo c:=fun c K=>by
  have:=cb (ai H uo c) K
  rwa [ak] at this
 have hgc:=fun (K:Heap) c=>iJ (k:=CC.keep 48) (b:=aa H) (v:=Abs.undef) (hp:=ai H uo c ++ K) rfl
 simp only[ht] at hgc;simp only[z48,Ld,IM,SIM,ST0,e0,e1,hbx,ar hx,ar hb,ar hu,sQ,PT,Rm,ha,hset,hgc,Nat.reduceAdd,Nat.reduceLeDiff]
def TB (H:Heap)(e:Ex)(uo:Nat)(o:AObj)(X:IRes):Prop:=∃ r' G,X=some (.exit 0,r',[],⟨ai H uo o ++ [bH e] ++ G,aa H⟩)
theorem Ar (m:eu M){H:Heap}{e:Ex}{xo bo uo:Nat}{LV:AV}{u:UN}(hxl:xo < aa H)(hbl:bo < aa H)(hul:uo < aa H)(hxu:xo ≠ uo)(hbu:bo ≠ uo)(hx:af H xo=some (.cells [.ptr bo 0]))(hb:af H bo=some (.cells [.ptr uo 0,LV]))
  (hsz:sizeL e.kids < 90000) (ihk:∀ a ∈ e.kids,∀ (s:Nat) (H:Heap),s + sizeE a < 1000000→af H xo=some (.cells [.ptr bo 0])→af H bo=some (.cells [.ptr uo 0,LV])→af H uo=some (uO u s)→orc CC M 47 [a.v,.func (.func 48) [] [.ptr xo 0]] H=some (.ret Abs.undef (ai H uo (uO u (s + sizeE a))) (aa H))) {V:AV} (hV:∀ (i:Nat) (a:Ex),e.kids[i]?=some a→bw 6 V (.int .i64 (i:Int))=some (.iptr a.v.cells)) :
  ∀ (d i:Nat),d + i=e.kids.length→∀ (fu:Nat),d < fu→∀ (G:Heap) (s:Nat),s + sizeL (e.kids.drop i) < 1000000→∀ (r:RG),
  (r.a.a.b=.func (.func 48) [] [.ptr xo 0]∧r.a.b.c=V∧r.a.b.d=.int .i64 (e.kids.length:Int)∧r.a.b.e=.int .i64 (i:Int)) →
  TB H e uo (uO u (s + sizeL (e.kids.drop i))) (aw (tg (orc CC M)) fu r [] ⟨ai H uo (uO u s) ++ [bH e] ++ G,aa H⟩):=by
 have hlen:=sizeL_len e.kids;intro d
 induction d with
 | zero =>
   intro i hi fu hfu G s hs r ⟨h1,h10,h11,h12⟩;obtain ⟨fu',rfl⟩ : ∃ f,fu=f + 1:=⟨fu - 1,by omega⟩
   have:i=e.kids.length:=by omega
   subst this;have hc:decide ((e.kids.length:Int) < (e.kids.length:Int))=false:=by simp
   rw[List.drop_length];simp only[aw,tg,Be,SIM,ST0,h11,h12,hc,sizeL];exact ⟨_,G,rfl⟩
 | succ d ih =>
   intro i hi fu hfu G s hs r ⟨h1,h10,h11,h12⟩;obtain ⟨fu',rfl⟩ : ∃ f,fu=f + 1:=⟨fu - 1,by omega⟩
   have hlt:i < e.kids.length:=by omega
   have hc:decide ((i:Int) < (e.kids.length:Int))=true:=by simp;omega
   have hd:e.kids.drop i=e.kids[i] :: e.kids.drop (i + 1):=List.drop_eq_getElem_cons hlt;have hg:e.kids[i]?=some e.kids[i]:=by simp[hlt]
   have hm:=ihk _ (List.getElem_mem hlt);generalize e.kids[i]=a at hd hg hm;have hat:=hV i a hg;have ha:cQ (i:Int) 1=((i + 1:Nat):Int):=bA i 1 (by unfold natMax;omega)
   rw[hd] at hs ⊢;simp only[sizeL] at hs ⊢;have hl1:∀ o:AObj,aa (ai H uo o)=aa H:=fun o=>ak _ _ _
   have hll:∀ (o:AObj) (G:Heap),aa (ai H uo o ++ [bH e] ++ G)=aa H + 1 + aa G:=fun o G=>by rw[az,az,hl1];rfl
   have E:=hm s (ai H uo (uO u s) ++ [bH e] ++ G ++ [bH a]) (by omega) (by rw[List.append_assoc,List.append_assoc];exact ar (by rw[ae hxu,hx]) _) (by rw[List.append_assoc,List.append_assoc];exact ar (by rw[ae hbu,hb]) _) (by rw[List.append_assoc,List.append_assoc];exact aI hul _ _)
   have hst:∀ o,ai (ai H uo (uO u s) ++ [bH e] ++ G ++ [bH a]) uo o=ai H uo o ++ [bH e] ++ (G ++ [bH a]):=fun o=>by
    rw[List.append_assoc,List.append_assoc,aJ hul,List.append_assoc]
   rw[hst] at E;have key:=ih (i + 1) (by omega) fu' (by omega) (G ++ [bH a]) (s + sizeE a) (by omega)
   rw[Nat.add_assoc] at key;have hlc:=hll (uO u s) G;have hlq:aa (ai H uo (uO u s) ++ [bH e] ++ G ++ [bH a])=aa (ai H uo (uO u s) ++ [bH e] ++ G) + 1:=by rw[az];rfl
   rw[hlq] at E;have hmin:∀ q,min (aa H) (aa (ai H uo (uO u s) ++ [bH e] ++ G) + q)=aa H:=fun q=>Nat.min_eq_left (by rw[hlc];omega)
   generalize ai H uo (uO u s) ++ [bH e] ++ G=Hc at *;simp only[aw,tg,Be,Jq,KZ,IY,SIM,ST0,ST1,h1,h10,h11,h12,hc,hat,E,ha,hmin,EXS,Nat.reduceAdd,Nat.reduceLeDiff];exact key _ ⟨by first | rfl | exact h1,by first | rfl | exact h10,by first | rfl | exact h11,rfl⟩
theorem zj (m:eu M){xo bo uo:Nat}{LV:AV}{u:UN}:∀ (z:Nat) (e:Ex),sizeE e≤z→z < 90000→∀ (s:Nat) (H:Heap),s + sizeE e < 1000000→af H xo=some (.cells [.ptr bo 0])→af H bo=some (.cells [.ptr uo 0,LV])→af H uo=some (uO u s) →
  orc CC M 47 [e.v,.func (.func 48) [] [.ptr xo 0]] H=some (.ret Abs.undef (ai H uo (uO u (s + sizeE e))) (aa H)):=by
 intro z
 induction z with
 | zero=>intro e he;have:=fk e;omega
 | succ z ih =>
   intro e he hz s H hs hx hb hu;have hk:=fk e;have hxl:xo < aa H:=by rw[aj];exact bm hx
   have hbl:bo < aa H:=by rw[aj];exact bm hb
   have hul:uo < aa H:=by rw[aj];exact bm hu
   have hxu:xo ≠ uo:=by rintro rfl;rw[hx] at hu;simp at hu
   have hbu:bo ≠ uo:=by rintro rfl;rw[hb] at hu;simp at hu
   have hbx:=fx e;obtain ⟨e',hu',rfl⟩:=cc121
   have hlen:bF CC 81 e.kv=some (.int .i64 (e.kids.length:Int)):=by
    unfold Ex.kv;rw[exL_map];cases hkk:e.kids with
    | nil=>rw[List.map_nil,eo];simp[cC,eY,hu']
    | cons a l=>rw[List.map_cons];simp only[cC];rw[dB hu'];simp
   have hV:∀ (i:Nat) (a:Ex),e.kids[i]?=some a→bw 6 e.kv (.int .i64 (i:Int))=some (.iptr a.v.cells):=by
    intro i a h;unfold Ex.kv;rw[exL_map];cases hkk:e.kids with
    | nil=>rw[hkk] at h;simp at h
    | cons a' l =>
      rw[List.map_cons];simp only[cC];refine da ?_;rw[← List.map_cons (f:=Ex.v),aD,List.getElem?_map,← hkk,h];rfl
   have N:=GS m (s:=s) (by omega) (H:=H ++ [bH e]) (ar hx _) (ar hb _) (ar hu _) e
   rw[bR hu,az] at N;have lp:=Ar m (e:=e) (u:=u) hxl hbl hul hxu hbu hx hb (by omega) (fun a ha s H hs hx hb hu=>ih a (by have:=dJ ha;omega) (by omega) s H hs hx hb hu) hV e.kids.length 0 rfl 100000 (by have:=sizeL_len e.kids;omega) [] (s + 1) (by rw[List.drop_zero];omega)
   rw[List.append_nil,List.drop_zero,show s + 1 + sizeL e.kids=s + sizeE e by omega] at lp
   refine aH (z:=z47) (m _ _ rfl) (by kernel_rfl) rfl ?_
   have e0:(envOf [e.v,.func (.func 48) [] [.ptr xo 0]] 0 env0).a.a.a=e.v:=rfl;have e1:(envOf [e.v,.func (.func 48) [] [.ptr xo 0]] 0 env0).a.a.b=.func (.func 48) [] [.ptr xo 0]:=rfl;generalize envOf [e.v,.func (.func 48) [] [.ptr xo 0]] 0 env0=R at e0 e1;have call115:∀ (a b:AV) (s:St),ea CC 48 [a,b] s=some (.call 48 [a,b]):=fun a b s=>by kernel_rfl
   have hmin:min (aa H) (aa H + aa [bH e])=aa H:=Nat.min_eq_left (by omega)
   have hge:af (ai H uo (uO u (s + 1)) ++ [bH e]) (aa H)=some (bH e):=by
    have:=au (ai H uo (uO u (s + 1))) [bH e];rw[ak] at this;rw[this];rfl
   obtain ⟨r0,hr0,hpre⟩ : ∃ r,(r.a.a.b=.func (.func 48) [] [.ptr xo 0]∧r.a.b.c=e.kv∧r.a.b.d=.int .i64 (e.kids.length:Int)∧r.a.b.e=.int .i64 ((0:Nat):Int))∧z47.sh (orc CC M) R [] ⟨H,aa H⟩=dD 0 (aw (tg (orc CC M)) 100000 r [] ⟨ai H uo (uO u (s + 1)) ++ [bH e],aa H⟩):=by
    simp only[z47,Me,Kk,I8,SIM,ST0,e0,e1,hbx,call115,N,hmin,hge,hlen,EXS,Nat.reduceAdd,Nat.reduceLeDiff];exact ⟨_,⟨by first | rfl | exact e1,rfl,rfl,rfl⟩,rfl⟩
   rw[hpre];obtain ⟨r',G,h1⟩:=lp r0 hr0;rw[h1]
   have ht:bB (aa H) (ai H uo (uO u (s + sizeE e)) ++ [bH e] ++ G)=ai H uo (uO u (s + sizeE e)):=by
    rw[List.append_assoc];have:=cb (ai H uo (uO u (s + sizeE e))) ([bH e] ++ G)
    rwa [ak] at this
   have hgc:=iJ (k:=CC.keep 47) (b:=aa H) (v:=Abs.undef) (hp:=ai H uo (uO u (s + sizeE e)) ++ [bH e] ++ G) rfl;rw[ht] at hgc;generalize ai H uo (uO u (s + sizeE e)) ++ [bH e] ++ G=Hc at *;simp only[z47,SIM,ST0,hgc,Nat.reduceAdd,Nat.reduceLeDiff]
end
abbrev kE (es:List (List Nat × AV)):List (AV × AV):=es.map fun x=>(.str x.1,x.2)
def fc (nm:List Nat):List (List Nat × AV)→Option AV
 | []=>none
 | (s,v) :: r=>cond (strEq s nm) (some v) (fc nm r)
theorem js (a b:List Nat):strEq a b=decide (a=b):=by
 induction a generalizing b with
 | nil=>cases b <;> simp[strEq]
 | cons x a ih=>cases b with
   | nil=>simp[strEq]
   | cons y b =>
     simp only[strEq,ih]
     by_cases h:x=y <;> simp[h,Nat.beq_eq]
theorem rJ {nm:List Nat}{v:AV}:∀ {es:List (List Nat × AV)} (i:Nat),fc nm es=some v→∃ j,cO (.str nm) (kE es) i=some (j,v)
 | [],i,h=>by cases h
 | (s,w) :: r,i,h=>by
   simp only[fc] at h;simp only[kE,List.map_cons,cO]
   by_cases hs:s=nm
   ·subst hs;rw[js] at h;simp only[decide_true,cond_true,SJ] at h;subst h;exact ⟨i,by simp[keyEq]⟩
   ·rw[js] at h;simp only[hs,decide_false,cond_false] at h;obtain ⟨j,hj⟩:=rJ (i + 1) h;have hk:keyEq (.str nm) (.str s)=false:=by simp[keyEq,Ne.symm hs]
    exact ⟨j,by rw[if_neg (by rw[hk];simp)];exact hj⟩
theorem mY {nm:List Nat}:∀ {es:List (List Nat × AV)} (i:Nat),fc nm es=none→cO (.str nm) (kE es) i=none
 | [],i,h=>rfl
 | (s,w) :: r,i,h=>by
   simp only[fc] at h;simp only[kE,List.map_cons,cO]
   by_cases hs:s=nm
   ·subst hs;rw[js] at h;simp at h
   ·rw[js] at h;simp only[hs,decide_false,cond_false] at h;have hk:keyEq (.str nm) (.str s)=false:=by simp[keyEq,Ne.symm hs]
    rw[if_neg (by rw[hk];simp)]
    exact mY (i + 1) h
theorem zV (nm:List Nat):∀ es:List (List Nat × AV),fM (.str nm) (kE es)=true
 | []=>rfl
 | x :: r=>by simp only[kE,List.map_cons,fM,Bool.true_and];exact zV nm r
theorem MS (nm:List Nat):∃ e,ia CC 118 (.str nm)=some e∧e=3:=⟨_,by kernel_rfl,rfl⟩
theorem Ew (nm:List Nat):∃ e,ia CC 119 (.str nm)=some e∧e=95:=⟨_,by kernel_rfl,rfl⟩
theorem kC {nm:List Nat}{v:AV}{es:List (List Nat × AV)}{vo:Nat}{H:Heap}(h:fc nm es=some v)(hg:af H vo=some (.map (kE es))):bS CC 118 (.map vo) (.str nm) false H=some v:=by
 obtain ⟨e,he,_⟩:=MS nm;obtain ⟨j,hj⟩:=rJ 0 h;rw[aD] at hg;simp only[bS,he,jm,hg,zV,if_true,hj,Bool.false_eq_true,if_false]
theorem kW {nm:List Nat}{v:AV}{es:List (List Nat × AV)}{vo:Nat}{H:Heap}(h:fc nm es=some v)(hg:af H vo=some (.map (kE es))):bS CC 119 (.map vo) (.str nm) false H=some v:=by
 obtain ⟨e,he,_⟩:=Ew nm;obtain ⟨j,hj⟩:=rJ 0 h;rw[aD] at hg;simp only[bS,he,jm,hg,zV,if_true,hj,Bool.false_eq_true,if_false]
structure Cx (uo bo so vo fo:Nat)(LV:AV)(d:NdR)(vm fm:List (List Nat × AV))(base:AV)(H:Heap)(u:UN):Prop where
 U:UI uo H u
 b:af H bo=some (.cells [.ptr uo 0,LV])
 s:af H so=some (.cells (sF d (.map vo) (.map fo) base))
 v:af H vo=some (.map (kE vm))
 f:af H fo=some (.map (kE fm))
 nb:bo ∉ u.ns
 ns:so ∉ u.ns
 nv:vo ∉ u.ns
 nf:fo ∉ u.ns
section
variable {uo bo so vo fo:Nat}{LV:AV}{d:NdR}{vm fm:List (List Nat × AV)}{base:AV}{H H' : Heap}{u u' : UN}
theorem Cx.bu (C:Cx uo bo so vo fo LV d vm fm base H u):bo ≠ uo:=BR C.U C.b
theorem Cx.su (C:Cx uo bo so vo fo LV d vm fm base H u):so ≠ uo:=by
 intro h;have h1:=C.s;rw[h,C.U.ob] at h1;simp at h1
theorem Cx.vu (C:Cx uo bo so vo fo LV d vm fm base H u):vo ≠ uo:=by
 intro h;have h1:=C.v;rw[h,C.U.ob] at h1;simp at h1
theorem Cx.fu (C:Cx uo bo so vo fo LV d vm fm base H u):fo ≠ uo:=by
 intro h;have h1:=C.f;rw[h,C.U.ob] at h1;simp at h1
theorem bL {H:Heap}{q:Nat}{o:AObj}(h:af H q=some o):q < aa H:=by rw[aj];exact bm h
theorem Cx.step (C:Cx uo bo so vo fo LV d vm fm base H u)(U' : UI uo H' u')(G:Gr uo H u.ns H' u'.ns):Cx uo bo so vo fo LV d vm fm base H' u':=by
 have key:∀ q,q < aa H→q ∉ u.ns→q ∉ u'.ns:=fun q hq hn hm=>(G.ns q hm).elim hn (fun h=>by omega)
 exact ⟨U',by rw[G.fr bo (bL C.b) C.bu C.nb];exact C.b,by rw[G.fr so (bL C.s) C.su C.ns];exact C.s,by rw[G.fr vo (bL C.v) C.vu C.nv];exact C.v,by rw[G.fr fo (bL C.f) C.fu C.nf];exact C.f,
  key bo (bL C.b) C.nb,key so (bL C.s) C.ns,key vo (bL C.v) C.nv,key fo (bL C.f) C.nf⟩
theorem Cx.ap (C:Cx uo bo so vo fo LV d vm fm base H u)(K:Heap):Cx uo bo so vo fo LV d vm fm base (H ++ K) u:=C.step C.U.ap Gr.ap
end
structure QF where
 op:List Nat
 dst:Nat
 args:List AtF
structure WQ where
 dst:Nat
 sp:Int
 pa:Int
 ah:List Int
 at_:Int
structure SQ where
 nd:List Nat
 args:List AtF
 futs:List (Int × Int)
 at_:Int
structure PS where
 vars:Nat
 eqs:List QF
 nm:Nat
 ws:List WQ
 sp:List SQ
 size:Nat
def EqF.q (e:EqF):QF:=⟨e.op,e.dst,e.args⟩
def WtF.q (w:WtF):WQ:=⟨w.dst,w.sp,w.pa,w.ah,w.at_⟩
def SpF.q (s:SpF):SQ:=⟨s.nd,s.args,s.futs,s.at_⟩
def UN.p (u:UN):PS:=⟨u.vars,u.eqs.map EqF.q,u.ms.length,u.ws.map WtF.q,u.sp.map SpF.q,u.size⟩
structure Same (u u' : UN):Prop where
 nd:u'.nd=u.nd
 at_:u'.at_=u.at_
 I:u'.I=u.I
 O:u'.O=u.O
theorem Same.refl {u:UN}:Same u u:=⟨rfl,rfl,rfl,rfl⟩
theorem Same.trans {a b c:UN}(h:Same a b)(h' : Same b c):Same a c:=⟨h'.nd.trans h.nd,h'.at_.trans h.at_,h'.I.trans h.I,h'.O.trans h.O⟩
def DE (uo:Nat)(H H' : Heap)(u u' : UN)(e:Nat):Prop:=(e=aa H∧H'=H∧u'=u)∨e=uo
def PS.w (p:PS):Nat:=p.vars + p.eqs.length + p.nm + p.ws.length + p.sp.length + p.size
theorem UN.pw (u:UN):u.p.w=u.vars + u.eqs.length + u.ms.length + u.ws.length + u.sp.length + u.size:=by
 simp[UN.p,PS.w]
def dn (f:Ex→PS→Option (AtF × PS)):List Ex→PS→Option (List AtF × PS)
 | [],p=>some ([],p)
 | a :: l,p=>match f a p with
   | none=>none
   | some (x,p1)=>match dn f l p1 with
     | none=>none
     | some (xs,p2)=>some (x :: xs,p2)
theorem jf {f:Ex→PS→Option (AtF × PS)}(hf:∀ e p a p',f e p=some (a,p')→p.w≤p'.w):∀ (l:List Ex) (p:PS) (xs:List AtF) (p' : PS),dn f l p=some (xs,p')→p.w≤p'.w
 | [],p,xs,p',h=>by simp only[dn,SJ,PJ] at h;rw[h.2];exact Nat.le_refl _
 | a :: l,p,xs,p',h=>by
   simp only[dn] at h
   split at h
   ·cases h
   ·rename_i x p1 h1
    split at h
    ·cases h
    ·rename_i ys p2 h2;simp only[SJ,PJ] at h;rw[← h.2];exact Nat.le_trans (hf _ _ _ _ h1) (jf hf l _ _ _ h2)
section
variable (M:Memo)(uo bo so vo fo:Nat)(LV:AV)(d:NdR)(vm fm:List (List Nat × AV))(base:AV)
def fD (f:Ex→PS→Option (AtF × PS))(e:Ex):Prop:=∀ (H:Heap) (u:UN) (a:AtF) (p' : PS),f e u.p=some (a,p')→Cx uo bo so vo fo LV d vm fm base H u→p'.w + 20 < 1000000 →
 ∃ H' u' esc,orc CC M 74 [.ptr bo 0,.ptr so 0,e.v,.nils] H=some (.ret a.av H' esc)∧UI uo H' u'∧Gr uo H u.ns H' u'.ns∧u'.p=p'∧Same u u'∧DE uo H H' u u' esc
end
def PD (l:List AtF)(V:AV)(L:Nat):Prop:=(l=[]∧V=.nils)∨(l ≠ []∧∃ lin,V=.sl 3 (l.map AtF.av) lin∧lin.low L=true)
def Sy (b:Nat)(ns:List Nat)(Hc:Heap)(V:AV)(acc:List AtF):Prop:=(acc=[]∧V=.nils)∨(acc ≠ []∧∃ id g,V=.sl 3 (acc.map AtF.av) (.live id g)∧af Hc id=some (.lin g)∧b≤id∧id ∉ ns)
theorem j5 (a:AtF):aP CC 88 1 [(0,a.av)]=some (.sl 3 [a.av] .lit):=by
 have:∀ (c:Bool) (n v:Int),aP CC 88 1 [(0,.agg [.bool c,.int .i64 n,.int .i64 v])]=some (.sl 3 [.agg [.bool c,.int .i64 n,.int .i64 v]] .lit):=fun c n v=>by kernel_rfl
 exact this _ _ _
section
variable {M:Memo}{uo bo so vo fo:Nat}{LV:AV}{d:NdR}{vm fm:List (List Nat × AV)}{base:AV}
theorem Cx.put {H Hc:Heap}{u uc:UN}{id:Nat}{o:AObj}(C0:Cx uo bo so vo fo LV d vm fm base H u)(C:Cx uo bo so vo fo LV d vm fm base Hc uc)(hid:aa H≤id)(hn:id ∉ uc.ns):Cx uo bo so vo fo LV d vm fm base (ai Hc id o) uc:=by
 have h1:=bL C0.b;have h2:=bL C0.s;have h3:=bL C0.v;have h4:=bL C0.f;have h5:=C0.U.uo;refine ⟨C.U.to (by rw[ak];exact Nat.le_refl _) (fun q hq hm=>ae ?_ _),by rw[ae (by omega)];exact C.b,by rw[ae (by omega)];exact C.s,by rw[ae (by omega)];exact C.v,by rw[ae (by omega)];exact C.f,C.nb,C.ns,C.nv,C.nf⟩
 rintro rfl
 rcases hm with rfl | hm
 ·omega
 ·exact hn hm
theorem Gr.put2 {H Hc:Heap}{ns ns' : List Nat}{id:Nat}{o:AObj}(G:Gr uo H ns Hc ns')(hid:aa H≤id):Gr uo H ns (ai Hc id o) ns' :=
 ⟨by rw[ak];exact G.len,fun q hq hu hn=>by rw[ae (by omega),G.fr q hq hu hn],G.ns⟩
def TM (uo bo so vo fo:Nat)(LV:AV)(d:NdR)(vm fm:List (List Nat × AV))(base:AV)(H:Heap)(u:UN)(l:List AtF)(p' : PS)(X:IRes):Prop :=
 ∃ r' Hc uc e,X=some (.exit 0,r',[],⟨Hc,e⟩)∧Cx uo bo so vo fo LV d vm fm base Hc uc∧Gr uo H u.ns Hc uc.ns∧uc.p=p'∧Same u uc∧((e=aa H∧uc=u∧∃ G,Hc=H ++ G)∨e=uo)∧Sy (aa H) uc.ns Hc r'.a.b.b l
theorem wv (m:eu M){f:Ex→PS→Option (AtF × PS)}(hf:∀ e p a p',f e p=some (a,p')→p.w≤p'.w){kids:List Ex}(hk:kids.length≤90000)(ihk:∀ e ∈ kids,fD M uo bo so vo fo LV d vm fm base f e){V:AV}(hV:∀ (i:Nat) (a:Ex),kids[i]?=some a→bw 6 V (.int .i64 (i:Int))=some (.iptr a.v.cells))
  {H:Heap} {u:UN} (C0:Cx uo bo so vo fo LV d vm fm base H u) {p' : PS} (hw:p'.w + 20 < 1000000) :
  ∀ (n i:Nat),n + i=kids.length→∀ (fu:Nat),n < fu→∀ (Hc:Heap) (uc:UN) (e:Nat) (acc l:List AtF),acc.length≤i→dn f (kids.drop i) uc.p=some (l,p')→Cx uo bo so vo fo LV d vm fm base Hc uc→Gr uo H u.ns Hc uc.ns→Same u uc→((e=aa H∧uc=u∧∃ G,Hc=H ++ G)∨e=uo)→∀ (r:RG),Sy (aa H) uc.ns Hc r.a.b.b acc →
  (r.a.a.a=.ptr bo 0∧r.a.a.b=.ptr so 0∧r.a.a.c=.nils∧r.a.b.e=V∧r.a.b.f=.int .i64 (kids.length:Int)∧r.a.b.g=.int .i64 (i:Int)) →
  TM uo bo so vo fo LV d vm fm base H u (acc ++ l) p' (aw (jO (orc CC M)) fu r [] ⟨Hc,e⟩):=by
 intro n
 induction n with
 | zero =>
   intro i hi fu hfu Hc uc e acc l hal hat C G S hE r hA ⟨h0,h1,h2,h12,h13,h14⟩;obtain ⟨fu',rfl⟩ : ∃ f,fu=f + 1:=⟨fu - 1,by omega⟩
   have:i=kids.length:=by omega
   subst this;have hc:decide ((kids.length:Int) < (kids.length:Int))=false:=by simp
   rw[List.drop_length] at hat;simp only[dn,SJ,PJ] at hat;obtain ⟨rfl,rfl⟩:=hat;simp only[aw,jO,pX,SIM,ST0,h13,h14,hc];exact ⟨_,Hc,uc,e,rfl,C,G,rfl,S,hE,by first | exact hA⟩
 | succ n ih =>
   intro i hi fu hfu Hc uc e acc l hal hat C G S hE r hA ⟨h0,h1,h2,h12,h13,h14⟩;obtain ⟨fu',rfl⟩ : ∃ f,fu=f + 1:=⟨fu - 1,by omega⟩
   have hlt:i < kids.length:=by omega
   have hc:decide ((i:Int) < (kids.length:Int))=true:=by simp;omega
   have hd:kids.drop i=kids[i] :: kids.drop (i + 1):=List.drop_eq_getElem_cons hlt;have hg:kids[i]?=some kids[i]:=by simp[hlt]
   have hm:=ihk _ (List.getElem_mem hlt);generalize kids[i]=a at hd hg hm;have hias:=hV i a hg;have ha:cQ (i:Int) 1=((i + 1:Nat):Int):=bA i 1 (by unfold natMax;omega)
   rw[hd] at hat;simp only[dn] at hat
   split at hat
   ·cases hat
   ·rename_i x p1 hx
    split at hat
    ·cases hat
    ·rename_i xs p2 hxs;simp only[SJ,PJ] at hat;obtain ⟨rfl,rfl⟩:=hat;have hw1:=jf hf _ _ _ _ hxs;obtain ⟨H1,u1,e1,hP,U1,G1,hp1,S1,hD⟩:=hm (Hc ++ [bH a]) uc x p1 hx (C.ap _) (by omega)
     have C1:=(C.ap [bH a]).step U1 G1;have G2:Gr uo H u.ns H1 u1.ns:=(G.trans Gr.ap).trans G1;have S2:=S.trans S1;have huo:=C0.U.uo;have hle:=G.len
     have hEn:((min e e1=aa H∧u1=u∧∃ G',H1=H ++ G')∨min e e1=uo)∧uo≤min e e1:=by
      rcases hD with ⟨he1,hH1,hu1⟩ | he1
      ·have h3:aa (Hc ++ [bH a])=aa Hc + 1:=by rw[az];rfl
       rcases hE with ⟨he,huc,K,hK⟩ | he
       ·have h4:min e e1=aa H:=by rw[he,he1,h3];omega
        exact ⟨.inl ⟨h4,by rw[hu1,huc],K ++ [bH a],by rw[hH1,hK,List.append_assoc]⟩,by omega⟩
       ·have h4:min e e1=uo:=by rw[he,he1,h3];omega
        exact ⟨.inr h4,by omega⟩
      ·have h4:min e e1=uo:=by rcases hE with ⟨he,_,_⟩ | he <;> omega
       exact ⟨.inr h4,by omega⟩
     have hxs' : dn f (kids.drop (i + 1)) u1.p=some (xs,p2):=by rw[hp1];exact hxs
     rcases hA with ⟨rfl,hn⟩ | ⟨hne,id,g,hn,hgi,hid,hni⟩
     ·have happ:=fun e lin=>t9 (ys:=[x.av]) (hp:=H1) (e:=e) sl139 64 lin (by simp) rfl (by simp)
      have key:=ih (i + 1) (by omega) fu' (by omega) (H1 ++ [.lin 0]) u1 (min e e1) [x] xs (by simp) hxs' (C1.ap _) (G2.trans Gr.ap) S2
       (hEn.1.imp (fun ⟨a1,a2,K,a3⟩=>⟨a1,a2,K ++ [.lin 0],by rw[a3,List.append_assoc]⟩) id)
      have hnew:Sy (aa H) u1.ns (H1 ++ [.lin 0]) (.sl 3 [x.av] (.live (aa H1) 0)) [x]:=.inr ⟨by simp,_,_,rfl,by rw[au];rfl,G2.len,fun hm=>by have:=(U1.lt _ hm).2;omega⟩
      simp only[aw,jO,pX,uT,tV,tM,SIM,ST0,ST1,h0,h1,h2,h12,h13,h14,hc,hias,hn,hP,j5,happ,ha,EXS,Nat.reduceAdd,Nat.reduceLeDiff];exact key _ hnew ⟨by first | rfl | exact h0,by first | rfl | exact h1,by first | rfl | exact h2,by first | rfl | exact h12,by first | rfl | exact h13,rfl⟩
     ·have hidl:=bL hgi;have hgi1:af H1 id=some (.lin g):=by rw[G1.fr id (by rw[az];omega) (by omega) hni];exact ar hgi _
      have hni1:id ∉ u1.ns:=fun hm=>(G1.ns id hm).elim hni (fun h=>by rw[az] at h;omega)
      have happ:=fun e lin=>lM (xs:=acc.map AtF.av) (ys:=[x.av]) (hp:=H1) (e:=e) sl139 64 lin (by simp) rfl (by rw[List.length_map];simp;omega) hgi1
      have hmap:acc.map AtF.av ++ [x.av]=(acc ++ [x]).map AtF.av:=by simp
      rw[hmap] at happ
      have key:=ih (i + 1) (by omega) fu' (by omega) (ai H1 id (.lin (g + 1))) u1 (min e e1) (acc ++ [x]) xs (by simp;omega) hxs' (C0.put C1 hid hni1) (G2.put2 hid) S2
       (hEn.1.imp (fun ⟨a1,a2,K,a3⟩=>⟨a1,a2,ai K (id - H.length) (.lin (g + 1)),by rw[a3,dH (by rw[← aj];exact hid)]⟩) (fun h=>h))
      rw[List.append_assoc] at key;have hnew:Sy (aa H) u1.ns (ai H1 id (.lin (g + 1))) (.sl 3 ((acc ++ [x]).map AtF.av) (.live id (g + 1))) (acc ++ [x]):=.inr ⟨by simp,_,_,rfl,aK hgi1 _,hid,hni1⟩
      simp only[aw,jO,pX,uT,tV,tM,SIM,ST0,ST1,h0,h1,h2,h12,h13,h14,hc,hias,hn,hP,j5,happ,ha,EXS,Nat.reduceAdd,Nat.reduceLeDiff];exact key _ hnew ⟨by first | rfl | exact h0,by first | rfl | exact h1,by first | rfl | exact h2,by first | rfl | exact h12,by first | rfl | exact h13,rfl⟩
theorem keep151:CC.keep 64=false:=by kernel_rfl
theorem nC (m:eu M){f:Ex→PS→Option (AtF × PS)}(hf:∀ e p a p',f e p=some (a,p')→p.w≤p'.w){kids:List Ex}(hk:kids.length≤90000)(ihk:∀ e ∈ kids,fD M uo bo so vo fo LV d vm fm base f e){V:AV}(hV:∀ (i:Nat) (a:Ex),kids[i]?=some a→bw 6 V (.int .i64 (i:Int))=some (.iptr a.v.cells))(hln:bF CC 81 V=some (.int .i64 (kids.length:Int)))
  {H:Heap} {u:UN} (C0:Cx uo bo so vo fo LV d vm fm base H u) {l:List AtF} {p' : PS} (hat:dn f kids u.p=some (l,p')) (hw:p'.w + 20 < 1000000) :
  ∃ H' u' esc V',orc CC M 64 [.ptr bo 0,.ptr so 0,.nils,V] H=some (.ret V' H' esc)∧PD l V' (aa H')∧UI uo H' u'∧Gr uo H u.ns H' u'.ns∧u'.p=p'∧Same u u'∧DE uo H H' u u' esc:=by
 have lp:=wv m hf hk ihk hV C0 hw kids.length 0 rfl 100000 (by omega) H u (aa H) [] l (by simp) (by rw[List.drop_zero];exact hat) C0 Gr.refl Same.refl (.inl ⟨rfl,rfl,[],by simp⟩)
 have e0:(envOf [.ptr bo 0,.ptr so 0,.nils,V] 0 env0).a.a.a=.ptr bo 0:=rfl;have e1:(envOf [.ptr bo 0,.ptr so 0,.nils,V] 0 env0).a.a.b=.ptr so 0:=rfl;have e2:(envOf [.ptr bo 0,.ptr so 0,.nils,V] 0 env0).a.a.c=.nils:=rfl;have e3:(envOf [.ptr bo 0,.ptr so 0,.nils,V] 0 env0).a.a.d=V:=rfl
 obtain ⟨r0,hr0,hr1,hpre⟩ : ∃ r,r.a.b.b=.nils∧(r.a.a.a=.ptr bo 0∧r.a.a.b=.ptr so 0∧r.a.a.c=.nils∧r.a.b.e=V∧r.a.b.f=.int .i64 (kids.length:Int)∧r.a.b.g=.int .i64 ((0:Nat):Int)) ∧
   z64.sh (orc CC M) (envOf [.ptr bo 0,.ptr so 0,.nils,V] 0 env0) [] ⟨H,aa H⟩=dZ (ac (um (orc CC M)) retZ) (dD 0 (aw (jO (orc CC M)) 100000 r [] ⟨H,aa H⟩)):=by
  generalize envOf [.ptr bo 0,.ptr so 0,.nils,V] 0 env0=R at e0 e1 e2 e3;simp only[z64,Bf,Bn,Dq,SIM,ST0,e0,e1,e2,e3,hln,Nat.reduceAdd,Nat.reduceLeDiff];exact ⟨_,rfl,⟨by first | rfl | exact e0,by first | rfl | exact e1,by first | rfl | exact e2,rfl,rfl,rfl⟩,rfl⟩
 obtain ⟨r',Hc,uc,e,hX,C,G,hp,S,hE,hA⟩:=lp r0 (by rw[hr0];exact .inl ⟨rfl,rfl⟩) hr1
 rw[List.nil_append] at hA
 obtain ⟨r2,h8,hX2⟩ : ∃ r2,r2.a.b.a=r'.a.b.b∧dZ (ac (um (orc CC M)) retZ) (dD 0 (some (.exit 0,r',[],⟨Hc,e⟩)))=some (.ret,r2,[],⟨Hc,e⟩):=by
  simp only[um,SIM,ST0];exact ⟨_,rfl,rfl⟩
 have hfin:orc CC M 64 [.ptr bo 0,.ptr so 0,.nils,V] H=some (kf false (aa H) r'.a.b.b ⟨Hc,e⟩):=by
  refine aH (z:=z64) (m _ _ rfl) (by kernel_rfl) rfl ?_
  rw[hpre,hX,hX2]
  have hres:fy r2 Hc z64.res=some [r'.a.b.b]:=by
   show fy r2 _ [.t 8]=_;rw[iE,iT,show gt r2 8=r'.a.b.b from h8]
  rw[iM,hres,← keep151];rfl
 have huo:=C0.U.uo
 rcases hE with ⟨rfl,rfl,K,rfl⟩ | rfl
 ·have ht:bB (aa H) (H ++ K)=H:=cb _ _
  rcases hA with ⟨rfl,hn⟩ | ⟨hne,id,g,hn,hgi,hid,hni⟩
  ·refine ⟨H,uc,aa H,.nils,?_,.inl ⟨rfl,rfl⟩,C0.U,Gr.refl,hp,Same.refl,.inl ⟨rfl,rfl,rfl⟩⟩;rw[hfin,hn,iJ rfl,ht]
  ·refine ⟨H,uc,aa H,.sl 3 (l.map AtF.av) .dead,?_,.inr ⟨hne,.dead,rfl,rfl⟩,C0.U,Gr.refl,hp,Same.refl,.inl ⟨rfl,rfl,rfl⟩⟩;rw[hfin,hn,i0 (nB l) hid,ht]
 ·refine ⟨Hc,uc,e,r'.a.b.b,?_,?_,C.U,G,hp,S,.inr rfl⟩
  ·rw[hfin,dU (by omega)]
  ·rcases hA with ⟨rfl,hn⟩ | ⟨hne,id,g,hn,hgi,hid,hni⟩
   ·exact .inl ⟨rfl,hn⟩
   ·exact .inr ⟨hne,_,hn,by simp[Lin.low,bL hgi]⟩
end
def PS.eq (p:PS)(op:List Nat)(l:List AtF):AtF × PS:=(⟨false,0,p.vars⟩,{ p with vars:=p.vars + 1,eqs:=p.eqs ++ [⟨op,p.vars,l⟩] })
def PS.mem (p:PS):PS:={ p with vars:=p.vars + 1,nm:=p.nm + 6 }
def fp (nm:List Nat):List (List Nat × Nat)→Option Nat
 | []=>none
 | (s,v) :: r=>cond (strEq s nm) (some v) (fp nm r)
abbrev iu (vm:List (List Nat × Nat)):List (List Nat × AV):=vm.map fun x=>(x.1,.int .i64 (x.2:Int))
theorem jj {nm:List Nat}{v:Nat}:∀ {vm:List (List Nat × Nat)},fp nm vm=some v→fc nm (iu vm)=some (.int .i64 (v:Int))
 | [],h=>by cases h
 | (s,w) :: r,h=>by
   simp only[fp] at h;simp only[iu,List.map_cons,fc];cases hs:strEq s nm with
   | true=>rw[hs] at h;simp only[cond_true,SJ] at h ⊢;rw[h]
   | false=>rw[hs] at h;simp only[cond_false] at h ⊢;exact jj h
def yw (e:Ex):List Nat:=cond (Nat.beq e.k 4) [110,101,103] (cond (Nat.beq e.k 5) [110,111,116] (cond (Nat.beq e.k 6) e.s [105,102]))
def mN (k:Nat):Bool:=Nat.beq k 4 || Nat.beq k 5 || Nat.beq k 6 || Nat.beq k 7
def bG (vm:List (List Nat × Nat))(ext:Ex→PS→Option (AtF × PS)):Nat→Ex→PS→Option (AtF × PS)
 | 0,_,_=>none
 | k + 1,e,p=>cond (Nat.beq e.k 1 || Nat.beq e.k 2) (some (⟨true,e.n,0⟩,p)) (cond (Nat.beq e.k 3) (match fp e.s vm with
   | some v=>some (⟨false,0,v⟩,p)
   | none=>none) (cond (mN e.k) (match dn (bG vm ext k) e.kids p with
   | some (x :: l,p1)=>some (p1.eq (yw e) (x :: l))
   | _=>none) (cond (Nat.beq e.k 8) (match dn (bG vm ext k) e.kids p.mem with
   | some ([a,b],p1)=>some (p1.eq [105,102] [⟨false,0,p.vars⟩,a,b])
   | _=>none) (cond (Nat.beq e.k 9 || Nat.beq e.k 10) (match e.kids.getLast? with
   | some x=>match bG vm ext k x p.mem with
     | some (_,p1)=>some (⟨false,0,p.vars⟩,p1)
     | none=>none
   | none=>none) (cond (Nat.beq e.k 13 || Nat.beq e.k 14) (ext e p) none)))))
theorem Cc (p:PS)(op:List Nat)(l:List AtF):(p.eq op l).2.w=p.w + 2:=by simp[PS.eq,PS.w];omega
theorem zg (p:PS):p.mem.w=p.w + 7:=by simp[PS.mem,PS.w];omega
theorem gk {vm:List (List Nat × Nat)}{ext:Ex→PS→Option (AtF × PS)}(hx:∀ e p a p',ext e p=some (a,p')→p.w≤p'.w):∀ (k:Nat) (e:Ex) (p:PS) (a:AtF) (p' : PS),bG vm ext k e p=some (a,p')→p.w≤p'.w:=by
 intro k
 induction k with
 | zero=>intro e p a p' h;cases h
 | succ k ih =>
   intro e p a p' h;simp only[bG] at h;cases h1:(Nat.beq e.k 1 || Nat.beq e.k 2) with
   | true=>rw[h1] at h;simp only[cond_true,SJ,PJ] at h;rw[h.2];exact Nat.le_refl _
   | false =>
     rw[h1] at h;simp only[cond_false] at h;cases h3:Nat.beq e.k 3 with
     | true =>
       rw[h3] at h;simp only[cond_true] at h
       split at h
       ·simp only[SJ,PJ] at h;rw[h.2];exact Nat.le_refl _
       ·cases h
     | false =>
       rw[h3] at h;simp only[cond_false] at h;cases h4:mN e.k with
       | true =>
         rw[h4] at h;simp only[cond_true] at h
         split at h
         ·rename_i x l p1 hat;have:=jf ih _ _ _ _ hat;have h9:=Cc p1 (yw e) (x :: l);simp only[SJ] at h;rw[h] at h9;simp only at h9;omega
         ·cases h
       | false =>
         rw[h4] at h;simp only[cond_false] at h;cases h8:Nat.beq e.k 8 with
         | true =>
           rw[h8] at h;simp only[cond_true] at h
           split at h
           ·rename_i x y p1 hat;have:=jf ih _ _ _ _ hat;have h9:=Cc p1 [105,102] [⟨false,0,p.vars⟩,x,y];have h10:=zg p;simp only[SJ] at h;rw[h] at h9;simp only at h9;omega
           ·cases h
         | false =>
           rw[h8] at h;simp only[cond_false] at h;cases h9:(Nat.beq e.k 9 || Nat.beq e.k 10) with
           | true =>
             rw[h9] at h;simp only[cond_true] at h
             split at h
             ·split at h
              ·rename_i x hl _ p1 hp;have:=ih _ _ _ _ hp;have h10:=zg p;simp only[SJ,PJ] at h;rw[← h.2];omega
              ·cases h
             ·cases h
           | false =>
             rw[h9] at h;simp only[cond_false] at h;cases h13:(Nat.beq e.k 13 || Nat.beq e.k 14) with
             | true=>rw[h13] at h;exact hx _ _ _ _ h
             | false=>rw[h13] at h;cases h
theorem oM (e:Ex):bF CC 81 e.kv=some (.int .i64 (e.kids.length:Int)):=by
 obtain ⟨e',hu',rfl⟩:=cc121;unfold Ex.kv;rw[exL_map];cases hkk:e.kids with
 | nil=>rw[List.map_nil,eo];simp[cC,eY,hu']
 | cons a l=>rw[List.map_cons];simp only[cC];rw[dB hu'];simp
theorem iz (e:Ex):∀ (i:Nat) (a:Ex),e.kids[i]?=some a→bw 6 e.kv (.int .i64 (i:Int))=some (.iptr a.v.cells):=by
 intro i a h;unfold Ex.kv;rw[exL_map];cases hkk:e.kids with
 | nil=>rw[hkk] at h;simp at h
 | cons a' l =>
   rw[List.map_cons];simp only[cC];refine da ?_;rw[← List.map_cons (f:=Ex.v),aD,List.getElem?_map,← hkk,h];rfl
section
variable {M:Memo}{uo bo so vo fo:Nat}{LV:AV}{d:NdR}{vm:List (List Nat × Nat)}{fm:List (List Nat × AV)}{base:AV}
abbrev zA:AObj:=.cells [.bool false,.int .i64 0,.int .i64 0]
theorem Gi (m:eu M)(ext:Ex→PS→Option (AtF × PS))(k:Nat){e:Ex}(h1:(Nat.beq e.k 1 || Nat.beq e.k 2)=true):fD M uo bo so vo fo LV d (iu vm) fm base (bG vm ext (k + 1)) e:=by
 intro H u a p' hx C hw;simp only[bG,h1,cond_true,SJ,PJ] at hx;obtain ⟨rfl,rfl⟩:=hx;refine ⟨H,u,aa H,aH (z:=z74) (m _ _ rfl) (by kernel_rfl) rfl ?_,C.U,Gr.refl,rfl,Same.refl,.inl ⟨rfl,rfl,rfl⟩⟩
 have e0:(envOf [.ptr bo 0,.ptr so 0,e.v,.nils] 0 env0).a.a.c=e.v:=rfl;generalize envOf [.ptr bo 0,.ptr so 0,e.v,.nils] 0 env0=R at e0;have hbx:=fx e;have be:∀ n:Int,ao CC 97 [(0,.bool true),(1,.int .i64 n)]=some (.agg [.bool true,.int .i64 n,.int .i64 0]):=fun n=>by kernel_rfl
 have c1:decide ((e.k:Int)=1)=Nat.beq e.k 1:=vf e.k 1;have c2:decide ((e.k:Int)=2)=Nat.beq e.k 2:=vf e.k 2;cases hk1:Nat.beq e.k 1 with
 | true =>
   rw[hk1] at c1;simp only[z74,fF,fI,fH,fG,Fi,SIM,ST0,ST1,e0,hbx,be,c1,Nat.reduceAdd,Nat.reduceLeDiff];rfl
 | false =>
   rw[hk1,Bool.false_or] at h1;rw[hk1] at c1;rw[h1] at c2;simp only[z74,fF,fI,fH,fG,Fi,SIM,ST0,ST1,e0,hbx,be,c1,c2,Nat.reduceAdd,Nat.reduceLeDiff];rfl
theorem Cv (m:eu M)(ext:Ex→PS→Option (AtF × PS))(k:Nat){e:Ex}(h3:e.k=3):fD M uo bo so vo fo LV d (iu vm) fm base (bG vm ext (k + 1)) e:=by
 intro H u a p' hx C hw;simp only[bG,h3] at hx;rw[show (Nat.beq 3 1 || Nat.beq 3 2)=false from rfl,show Nat.beq 3 3=true from rfl] at hx
 simp only[cond_true,cond_false] at hx
 split at hx
 ·rename_i v hv;simp only[SJ,PJ] at hx;obtain ⟨rfl,rfl⟩:=hx;refine ⟨H,u,aa H,aH (z:=z74) (m _ _ rfl) (by kernel_rfl) rfl ?_,C.U,Gr.refl,rfl,Same.refl,.inl ⟨rfl,rfl,rfl⟩⟩
  have e0:(envOf [.ptr bo 0,.ptr so 0,e.v,.nils] 0 env0).a.a.c=e.v:=rfl;have e1:(envOf [.ptr bo 0,.ptr so 0,e.v,.nils] 0 env0).a.a.b=.ptr so 0:=rfl;generalize envOf [.ptr bo 0,.ptr so 0,e.v,.nils] 0 env0=R at e0 e1;have hbx:=fx e;have c1:decide ((e.k:Int)=1)=false:=by rw[h3];rfl
  have c2:decide ((e.k:Int)=2)=false:=by rw[h3];rfl
  have c3:decide ((e.k:Int)=3)=true:=by rw[h3];rfl
  have hs:=fun K=>ar C.s K
  have hl:=fun K=>kC (jj hv) (ar C.v K)
  simp only[z74,fF,fI,fH,fG,gm,I6,SIM,ST0,ST1,e0,e1,hbx,hs,hl,wQ,vU,c1,c2,c3,Nat.reduceAdd,Nat.reduceLeDiff]
 ·cases hx
end
theorem Si (u:UN)(op:List Nat)(x:AtF)(l:List AtF)(lin:Lin)(on E' : AV):({ u with vars:=u.vars + 1,eqs:=u.eqs ++ [⟨op,u.vars,x :: l,lin,on⟩],E:=E' }:UN).p=(u.p.eq op (x :: l)).2:=by
 simp[UN.p,PS.eq,EqF.q]
section
variable {M:Memo}{uo bo so vo fo:Nat}{LV:AV}{d:NdR}{vm:List (List Nat × Nat)}{fm:List (List Nat × AV)}{base:AV}
theorem Gr.loc {H H' : Heap}{u:UN}{ns' : List Nat}(hU:UI uo H u){K:Heap}(G:Gr uo (H ++ K) u.ns H' ns'){j:Nat}(hj:j < aa K):af H' (aa H + j)=af K j∧aa H + j ∉ ns'∧aa H + j < aa H':=by
 have hn:aa H + j ∉ u.ns:=fun hm=>by have:=(hU.lt _ hm).2;omega
 have hl:aa (H ++ K)=aa H + aa K:=az _ _;have:=G.len;refine ⟨by rw[G.fr _ (by omega) (by have:=hU.uo;omega) hn,aR],fun hm=>(G.ns _ hm).elim hn (fun h=>by omega),by omega⟩
theorem HF (m:eu M){ext:Ex→PS→Option (AtF × PS)}(hx:∀ e p a p',ext e p=some (a,p')→p.w≤p'.w)(hb:iy base)(k:Nat){e:Ex}(hop:mN e.k=true)(hkl:e.kids.length≤90000)(ihk:∀ a ∈ e.kids,fD M uo bo so vo fo LV d (iu vm) fm base (bG vm ext k) a):fD M uo bo so vo fo LV d (iu vm) fm base (bG vm ext (k + 1)) e:=by
 intro H u a p' hxx C hw
 have hk:e.k=4∨e.k=5∨e.k=6∨e.k=7:=by
  unfold mN at hop;simp only[Bool.or_eq_true,Nat.beq_eq] at hop;omega
 have hb12:(Nat.beq e.k 1 || Nat.beq e.k 2)=false:=by rcases hk with h | h | h | h <;> rw[h] <;> rfl
 have hb3:Nat.beq e.k 3=false:=by rcases hk with h | h | h | h <;> rw[h] <;> rfl
 simp only[bG,hb12,hb3,hop,cond_true,cond_false] at hxx
 split at hxx
 ·rename_i x l p1 hat;simp only[SJ] at hxx;have hpw:=Cc p1 (yw e) (x :: l);rw[hxx] at hpw;simp only at hpw;obtain ⟨H1,u1,e1,V1,hA,hL,U1,G1,hp1,S1,hD⟩:=nC m (gk hx k) hkl ihk (iz e) (oM e) (C.ap [bH e,zA]) hat (by omega)
  obtain ⟨h0,_⟩ | ⟨_,lin,rfl,hlin⟩:=hL
  ·cases h0
  have C1:=(C.ap [bH e,zA]).step U1 G1;have hg0:=G1.loc C.U (j:=0) (by rw[aO,aO,bj];omega)
  have hg1:=G1.loc C.U (j:=1) (by rw[aO,aO,bj];omega)
  obtain ⟨H2,E',hQ,U2,G2⟩:=BS m U1 C1.b C1.nb (by rw[← hp1,UN.pw] at hpw;omega) (yw e) (x :: l) (on:=gv0) (.inr rfl) hlin
  have h2n:aa H + 1 ∉ _:=fun hm=>(G2.ns _ hm).elim hg1.2.1 (fun h=>by have:=hg1.2.2;omega)
  have hz2:af H2 (aa H + 1)=some zA:=by rw[G2.fr _ hg1.2.2 (by have:=C.U.uo;omega) hg1.2.1,hg1.1];rfl
  have hu2:=U2
  have hpa:a=⟨false,0,u1.vars⟩∧p'=(p1.eq (yw e) (x :: l)).2:=by
   have h1:u1.vars=p1.vars:=by rw[← hp1];rfl
   rw[hxx];refine ⟨?_,rfl⟩;have:=congrArg Prod.fst hxx;rw[h1];exact this.symm
  obtain ⟨rfl,rfl⟩:=hpa;have hlH:aa (H ++ [bH e,zA])=aa H + 2:=by rw[az];rfl
  refine ⟨ai H2 (aa H + 1) (.cells [.bool false,.int .i64 0,.int .i64 (u1.vars:Int)]),_,uo,aH (z:=z74) (m _ _ rfl) (by kernel_rfl) rfl ?_,U2.to (by rw[ak];exact Nat.le_refl _) (fun q hq hn=>ae (by rintro rfl;rcases hn with h | h;(have:=C.U.uo;omega);exact h2n h) _),?_,?_,⟨S1.nd,S1.at_,S1.I,S1.O⟩,.inr rfl⟩
  ·have e0:(envOf [.ptr bo 0,.ptr so 0,e.v,.nils] 0 env0).a.a.a=.ptr bo 0:=rfl;have e1' : (envOf [.ptr bo 0,.ptr so 0,e.v,.nils] 0 env0).a.a.b=.ptr so 0:=rfl;have e2:(envOf [.ptr bo 0,.ptr so 0,e.v,.nils] 0 env0).a.a.c=e.v:=rfl;have e3:(envOf [.ptr bo 0,.ptr so 0,e.v,.nils] 0 env0).a.a.d=.nils:=rfl;generalize envOf [.ptr bo 0,.ptr so 0,e.v,.nils] 0 env0=R at e0 e1' e2 e3;have hbx:=fx e;have hgd:=dW m hb (C.ap [bH e,zA]).s;have hks:=rV e;have hge:af (H ++ [bH e,zA]) (aa H)=some (bH e):=by rw[au];rfl
   have hg0' : af H1 (aa H)=some (bH e):=by have:=hg0.1;rw[Nat.add_zero] at this;rw[this];rfl
   have huo:=C.U.uo;have hm1:min (aa H) (aa H + 2)=aa H:=Nat.min_eq_left (by omega)
   have hm2:min (min (aa H) e1) uo=uo:=by
    rcases hD with ⟨h,_,_⟩ | h
    ·rw[h,hlH];omega
    ·omega
   have hzs:=fun c=>aK hz2 c
   have hgc:=fun hp=>dU (keep:=CC.keep 74) (base:=aa H) (e:=uo) (v:=AtF.av ⟨false,0,u1.vars⟩) (hp:=hp) (by omega)
   rw[hlH] at hgd
   rcases hk with h4 | h4 | h4 | h4
   all_goals
    have c1:decide ((e.k:Int)=1)=false:=by rw[h4];rfl
    have c2:decide ((e.k:Int)=2)=false:=by rw[h4];rfl
    have c3:decide ((e.k:Int)=3)=false:=by rw[h4];rfl
   ·have c4:decide ((e.k:Int)=4)=true:=by rw[h4];rfl
    have hop' : yw e=[110,101,103]:=by unfold yw;rw[h4];rfl
    rw[hop'] at hQ;simp only[z74,fF,fI,fH,fG,gm,gL,Cn,SIM,ST0,ST1,e0,e1',e2,e3,hbx,hgd,hge,hks,hA,hQ,hm1,hm2,hz2,hzs,hgc,c1,c2,c3,c4,Nat.reduceAdd,Nat.reduceLeDiff]
   ·have c4:decide ((e.k:Int)=4)=false:=by rw[h4];rfl
    have c5:decide ((e.k:Int)=5)=true:=by rw[h4];rfl
    have hop' : yw e=[110,111,116]:=by unfold yw;rw[h4];rfl
    rw[hop'] at hQ;simp only[z74,fF,fI,fH,fG,gm,gL,iG,wI,SIM,ST0,ST1,e0,e1',e2,e3,hbx,hgd,hge,hks,hA,hQ,hm1,hm2,hz2,hzs,hgc,c1,c2,c3,c4,c5,Nat.reduceAdd,Nat.reduceLeDiff]
   ·have c4:decide ((e.k:Int)=4)=false:=by rw[h4];rfl
    have c5:decide ((e.k:Int)=5)=false:=by rw[h4];rfl
    have c6:decide ((e.k:Int)=6)=true:=by rw[h4];rfl
    have hop' : yw e=e.s:=by unfold yw;rw[h4];rfl
    rw[hop'] at hQ;simp only[z74,fF,fI,fH,fG,gm,gL,iG,ig,xm,SIM,ST0,ST1,e0,e1',e2,e3,hbx,hgd,hge,hg0',hks,hA,hQ,hm1,hm2,hz2,hzs,hgc,c1,c2,c3,c4,c5,c6,Nat.reduceAdd,Nat.reduceLeDiff]
   ·have c4:decide ((e.k:Int)=4)=false:=by rw[h4];rfl
    have c5:decide ((e.k:Int)=5)=false:=by rw[h4];rfl
    have c6:decide ((e.k:Int)=6)=false:=by rw[h4];rfl
    have c7:decide ((e.k:Int)=7)=true:=by rw[h4];rfl
    have hop' : yw e=[105,102]:=by unfold yw;rw[h4];rfl
    rw[hop'] at hQ;simp only[z74,fF,fI,fH,fG,gm,gL,iG,ig,jX,xa,SIM,ST0,ST1,ST2,e0,e1',e2,e3,hbx,hgd,hge,hks,hA,hQ,hm1,hm2,hz2,hzs,hgc,c1,c2,c3,c4,c5,c6,c7,Nat.reduceAdd,Nat.reduceLeDiff]
  ·exact ((Gr.ap.trans G1).trans G2).put2 (by omega)
  ·rw[Si,hp1]
 ·cases hxx
end
end Go.Proofs
