/- In this seat all code lies in C0Code. -/
import Derived.Test.YthoanamkoigjeaaDoorC0Code
